/- Contracts and laws, file 14: RefE, RefG, RefK, JoA, OpA, OpB, CdA -/
import Derived.Test.YtnlnejpioijkiaaGreatDoorMg13
import Derived.Test.YtnlnejpioijkiaaGreatDoorRows
import Derived.ChangeSame
import Derived.ReadAgain
import Derived.ChangeArms
import Derived.DataReads
import Derived.OpenShut
import Derived.ChangeVars
import Derived.JoinedOf
import Derived.RowKit
import Derived.RowKitTokens
import Derived.LaidLaws
import Derived.LaidHandle
import Derived.Stop.Joined
import Derived.Carry
import Derived.Handed
/- Contracts of the reference's comparisons of programs. -/
namespace Go.Proofs.YtnlnejpioijkiaaGreatDoor
open Go.RowKit
set_option linter.unusedVariables false
set_option linter.unusedSimpArgs false

def samesT : List ByteArray → List ByteArray → Bool
  | [], [] => true
  | a :: l, b :: l' => sq a b && samesT l l'
  | _, _ => false
theorem samesT_true : ∀ (l l' : List ByteArray) (hl : l.length = l'.length), (∀ j (h : j < l.length), sq l[j] (l'[j]'(hl ▸ h)) = true) → samesT l l' = true
  | [], [], _, _ => rfl
  | e :: l, e' :: l', hl, h => by
    simp only [samesT, Bool.and_eq_true]
    exact ⟨h 0 (by simp), samesT_true l l' (by simpa using hl) fun j hj => h (j + 1) (by simpa using hj)⟩
theorem samesT_false : ∀ (l l' : List ByteArray) (j : Nat) (h : j < l.length) (h' : j < l'.length), sq l[j] l'[j] = false → samesT l l' = false
  | e :: l, e' :: l', 0, _, _, h => by simp [samesT, show sq e e' = false from h]
  | e :: l, e' :: l', j + 1, h1, h2, h => by simp [samesT, samesT_false l l' j (by simpa using h1) (by simpa using h2) (by simpa using h)]
theorem samesT_len : ∀ (l l' : List ByteArray), l.length ≠ l'.length → samesT l l' = false
  | [], [], h => absurd rfl h
  | [], _ :: _, _ => rfl
  | _ :: _, [], _ => rfl
  | e :: l, e' :: l', h => by simp [samesT, samesT_len l l' (by simpa using h)]

theorem sameTexts_any (l l' : List ByteArray) (ok : Nat → Prop) (A A' : Option Addr) (c c' : Nat) (w : World) (hr : RdRows ok w 1 A 0 (l.map strD)) (hc : l.length * 16 ≤ reach) (hr' : RdRows ok w 1 A' 0 (l'.map strD)) :
   Calls Tryz.prog 52 #[.slice A l.length c, .slice A' l'.length c'] w fun e w' => e = .returned (.bool (samesT l l')) ∧ Fr Non w w' := by
  have hlen : l.length ≤ 140737488355328 := by unfold reach at hc; omega
  by_cases hl : l.length = l'.length
  · have hne : ((l.length : Int) != (l'.length : Int)) = false := by simp [hl]
    have HL := Lib.hid hl; clear hl
    have HR := Lib.hid hr; clear hr
    have HR' := Lib.hid hr'; clear hr'
    go_enter Tryz.func52, Tryz.ntmps52
    go_wp2_with fail
    go_loopw [5] (fun i wr => ∃ j : Nat, i = .int .i64 j ∧ j ≤ l.length ∧ Fr Non w wr ∧ ∀ q, q < j → ∀ hq : q < l.length, sq l[q] (l'[q]'(HL.out ▸ hq)) = true) (fun i _ => l.length - (intOf i).toNat)
    case atStart => exact ⟨0, rfl, by omega, fr_refl _, fun j hj => by omega⟩
    case round =>
      obtain ⟨j, rfl, hj, hfr, hno⟩ := hrel
      have HN := Lib.hid hno; clear hno
      by_cases hlt : j < l.length
      · have hlt' : j < l'.length := by have := HL.out; omega
        obtain ⟨b, o1, rfl, hb, e0⟩ := at_str (HR.out.fr hfr (fun _ _ => non _) (fun _ h => h)) j hlt
        obtain ⟨b', o1', rfl, hb', e0'⟩ := at_str (HR'.out.fr hfr (fun _ _ => non _) (fun _ h => h)) j hlt'
        have x0 := ext_cell e0
        have x0' := ext_cell e0'
        clear e0 e0'
        have ji : (j : Int) < l'.length := by omega
        go_wp2_with fail
        refine wp_region_ext (by kernel_rfl) (by kernel_rfl) ?_
        repeat (go_big_quiet_step (fail))
        refine wpQuiet_nil ?_
        intro w2 hf2
        rw [tosq]
        generalize hm : sq l[j] l'[j] = m
        have HM := Lib.hid hm; clear hm
        cases m with
        | true =>
          go_wp2_with fail
          go_roundw
          case rel => exact ⟨j + 1, by go_num, by omega, hfr.trans hf2, till HN.out fun _ => HM.out⟩
          case measure => simp [intOf]; omega
        | false =>
          go_wp2_with fail
          go_ret
          exact ⟨ret_bool (samesT_false _ _ j hlt hlt' HM.out).symm, hfr.trans hf2⟩
      · go_wp2_with fail
        go_ret
        exact ⟨ret_bool (samesT_true _ _ HL.out fun q hq => HN.out q (by omega) hq).symm, hfr⟩
  · have hne : ((l.length : Int) != (l'.length : Int)) = true := by rw [bne_iff_ne]; omega
    have HL := Lib.hid hl; clear hl
    go_enter Tryz.func52, Tryz.ntmps52
    go_wp2_with fail
    go_ret
    exact ⟨ret_bool (samesT_len _ _ HL.out).symm, fr_refl _⟩

theorem sameX_any (e e' : Ex) (ok : Nat → Prop) (A A' : Option Addr) (c c' : Nat) (w : World) (hr : RdRows ok w 5 A 0 (Ex.ds e.kids)) (h1 : e.kids.length ≤ c) (h2 : e.kids.length * 64 ≤ reach) (hr' : RdRows ok w 5 A' 0 (Ex.ds e'.kids)) (h1' : e'.kids.length ≤ c') (h2' : e'.kids.length * 64 ≤ reach) :
   Calls Tryz.prog 51 #[exV e.kind e.num e.name e.op A e.kids.length c, exV e'.kind e'.num e'.name e'.op A' e'.kids.length c'] w fun r w' => r = .returned (.bool (Ex.same e e')) ∧ Fr Non w w' := by
  have := same_any e.size e.kind e'.kind e.num e'.num e.name e'.name e.op e'.op e.kids e'.kids ok A A' c c' w (by rw [ex_eta]; exact Nat.le_refl _) hr h1 h2 hr' h1' h2'
  rw [ex_eta, ex_eta] at this
  exact this

set_option maxHeartbeats 1000000 in
theorem sameExprs_any (l l' : List Ex) (ok : Nat → Prop) (A A' : Option Addr) (c c' : Nat) (w : World) (hr : RdRows ok w 5 A 0 (Ex.ds l)) (hc : l.length * 64 ≤ reach) (hr' : RdRows ok w 5 A' 0 (Ex.ds l')) :
   Calls Tryz.prog 26 #[.slice A l.length c, .slice A' l'.length c'] w fun e w' => e = .returned (.bool (Ex.sames l l')) ∧ Fr Non w w' := by
  have hlen : l.length ≤ 140737488355328 := by unfold reach at hc; omega
  by_cases hl : l.length = l'.length
  · have hne : ((l.length : Int) != (l'.length : Int)) = false := by simp [hl]
    have HL := Lib.hid hl; clear hl
    have HR := Lib.hid hr; clear hr
    have HR' := Lib.hid hr'; clear hr'
    go_enter Tryz.func26, Tryz.ntmps26
    go_wp2_with fail
    go_loopw [5] (fun i wr => ∃ j : Nat, i = .int .i64 j ∧ j ≤ l.length ∧ Fr Non w wr ∧ ∀ q, q < j → ∀ hq : q < l.length, Ex.same l[q] (l'[q]'(HL.out ▸ hq)) = true) (fun i _ => l.length - (intOf i).toNat)
    case atStart => exact ⟨0, rfl, by omega, fr_refl _, fun j hj => by omega⟩
    case round =>
      obtain ⟨j, rfl, hj, hfr, hno⟩ := hrel
      have HN := Lib.hid hno; clear hno
      by_cases hlt : j < l.length
      · have hlt' : j < l'.length := by have := HL.out; omega
        obtain ⟨b, o1, A1, c1, rfl, hb, e0, e1, e2, e3, e4, p1, p2, p3⟩ := at_ex (HR.out.fr hfr (fun _ _ => non _) (fun _ h => h)) j hlt
        obtain ⟨b', o1', A1', c1', rfl, hb', e0', e1', e2', e3', e4', p1', p2', p3'⟩ := at_ex (HR'.out.fr hfr (fun _ _ => non _) (fun _ h => h)) j hlt'
        have x0 := ext_cell e0
        have x1 := ext_cell e1
        have x2 := ext_cell e2
        have x3 := ext_cell e3
        have x5 := ext_cell e4
        have x0' := ext_cell e0'
        have x1' := ext_cell e1'
        have x2' := ext_cell e2'
        have x3' := ext_cell e3'
        have x5' := ext_cell e4'
        clear e0 e1 e2 e3 e4 e0' e1' e2' e3' e4'
        have P3 := Lib.hid p3; clear p3
        have P3' := Lib.hid p3'; clear p3'
        have ji : (j : Int) < l'.length := by omega
        go_wp2_with fail
        refine wp_region_ext (by kernel_rfl) (by kernel_rfl) ?_
        repeat (go_big_quiet_step (fail))
        go_big_quiet_want
        go_big_quiet_op
        apply Exists.intro
        refine ⟨fun x => ?_, ?_⟩
        · exact calls_ext (v := .bool (Ex.same l[j] l'[j])) (sameX_any l[j] l'[j] ok A1 A1' c1 c1' _ (P3.out.fr (ext_fr _ _) (fun _ _ => non _) (fun _ h => h)) p1 p2 (P3'.out.fr (ext_fr _ _) (fun _ _ => non _) (fun _ h => h)) p1' p2')
        go_big_quiet_on
        repeat (go_big_quiet_step (fail))
        refine wpQuiet_nil ?_
        intro w2 hf2
        generalize hm : Ex.same l[j] l'[j] = m
        have HM := Lib.hid hm; clear hm
        cases m with
        | true =>
          go_wp2_with fail
          go_roundw
          case rel => exact ⟨j + 1, by go_num, by omega, hfr.trans hf2, till HN.out fun _ => HM.out⟩
          case measure => simp [intOf]; omega
        | false =>
          go_wp2_with fail
          go_ret
          exact ⟨ret_bool (sames_false _ _ j hlt hlt' HM.out).symm, hfr.trans hf2⟩
      · go_wp2_with fail
        go_ret
        exact ⟨ret_bool (sames_true _ _ HL.out fun q hq => HN.out q (by omega) hq).symm, hfr⟩
  · have hne : ((l.length : Int) != (l'.length : Int)) = true := by rw [bne_iff_ne]; omega
    have HL := Lib.hid hl; clear hl
    go_enter Tryz.func26, Tryz.ntmps26
    go_wp2_with fail
    go_ret
    exact ⟨ret_bool (sames_len _ _ HL.out).symm, fr_refl _⟩

mutual
def St.same : St → St → Bool
  | .mk k n f s m ex args body els, .mk k' n' f' s' m' ex' args' body' els' => k == k' && sq n n' && sq f f' && s == s' && m == m' && Ex.sames ex ex' && samesT args args' && St.sames body body' && St.sames els els'
def St.sames : List St → List St → Bool
  | [], [] => true
  | e :: l, e' :: l' => St.same e e' && St.sames l l'
  | _, _ => false
end
theorem ssames_true : ∀ (l l' : List St) (hl : l.length = l'.length), (∀ j (h : j < l.length), St.same l[j] (l'[j]'(hl ▸ h)) = true) → St.sames l l' = true
  | [], [], _, _ => rfl
  | e :: l, e' :: l', hl, h => by
    simp only [St.sames, Bool.and_eq_true]
    exact ⟨h 0 (by simp), ssames_true l l' (by simpa using hl) fun j hj => h (j + 1) (by simpa using hj)⟩
theorem ssames_false : ∀ (l l' : List St) (j : Nat) (h : j < l.length) (h' : j < l'.length), St.same l[j] l'[j] = false → St.sames l l' = false
  | e :: l, e' :: l', 0, _, _, h => by simp [St.sames, show St.same e e' = false from h]
  | e :: l, e' :: l', j + 1, h1, h2, h => by simp [St.sames, ssames_false l l' j (by simpa using h1) (by simpa using h2) (by simpa using h)]
theorem ssames_len : ∀ (l l' : List St), l.length ≠ l'.length → St.sames l l' = false
  | [], [], h => absurd rfl h
  | [], _ :: _, _ => rfl
  | _ :: _, [], _ => rfl
  | e :: l, e' :: l', h => by simp [St.sames, ssames_len l l' (by simpa using h)]

theorem two_cells {w w1 : World} {cs1 cs2 : Array Value} {T1 T2 : TypeId} {S : Nat → Prop} (hf : Fr S ((w.alloc (.cells cs1 T1)).alloc (.cells cs2 T2)).drew w1) (h1 : ¬ S w.heap.size) (h2 : ¬ S (w.heap.size + 1)) :
    (∀ i v, cs1[i]? = some v → w1.cell? ⟨w.heap.size, i, none⟩ = some v) ∧ (∀ i v, cs2[i]? = some v → w1.cell? ⟨w.heap.size + 1, i, none⟩ = some v) := by
  constructor
  · intro i v hv
    refine hf.cell' ?_ h1
    rw [World.cell?_drew, World.cell?_alloc_past _ _ _ (by simp), World.cell?_alloc_at _ _ _ _ rfl]; exact hv
  · intro i v hv
    refine hf.cell' ?_ h2
    rw [World.cell?_drew, World.cell?_alloc_at _ _ _ _ (by simp)]; exact hv
theorem two_fr {S : Nat → Prop} {w w1 : World} {o1 o2 : Obj} (hf : Fr S ((w.alloc o1).alloc o2).drew w1) : Fr S w w1 := (((Fr.refl _ _).alloc o1).alloc o2).drew.trans hf
theorem fr_eq {w w' : World} (h : w = w') : Fr Non w w' := h ▸ fr_refl _
theorem stsame_iff {x y : St} (h : x.kind = y.kind ∧ x.name = y.name ∧ x.frm = y.frm ∧ x.sec = y.sec ∧ x.mt = y.mt) : St.same x y = (Ex.sames x.ex y.ex && samesT x.args y.args && St.sames x.body y.body && St.sames x.els y.els) := by
  cases x; cases y; obtain ⟨h1, h2, h3, h4, h5⟩ := h
  simp only [St.kind, St.name, St.frm, St.sec, St.mt] at h1 h2 h3 h4 h5
  subst h1 h2 h3 h4 h5
  simp [St.same, St.ex, St.args, St.body, St.els, sq_refl]
theorem stsame_ne {x y : St} (h : ¬ (x.kind = y.kind ∧ x.name = y.name ∧ x.frm = y.frm ∧ x.sec = y.sec ∧ x.mt = y.mt)) : St.same x y = false := by
  cases hx : St.same x y with
  | false => rfl
  | true =>
    cases x; cases y
    simp only [St.same, Bool.and_eq_true, beq_iff_eq, sq_iff] at hx
    exact absurd ⟨hx.1.1.1.1.1.1.1.1, hx.1.1.1.1.1.1.1.2, hx.1.1.1.1.1.1.2, hx.1.1.1.1.1.2, hx.1.1.1.1.2⟩ h
theorem u8ne {a b : UInt8} (h : a = b) : ((a.toNat : Int) != (b.toNat : Int)) = false := by simp [h]
theorem sne {a b : ByteArray} (h : a = b) : (a.toList == b.toList) = true := by simp [h]
theorem bne_ {a b : Bool} (h : a = b) : (a != b) = false := by simp [h]
end Go.Proofs.YtnlnejpioijkiaaGreatDoor
/- The contract of the reference's comparison of statements. -/
namespace Go.Proofs.YtnlnejpioijkiaaGreatDoor
open Go.RowKit
set_option linter.unusedVariables false
set_option linter.unusedSimpArgs false
set_option maxRecDepth 4000 in
set_option maxHeartbeats 4000000 in
theorem sameSts_any (N : Nat) : ∀ (l l' : List St) (ok : Nat → Prop) (A A' : Option Addr) (c c' : Nat) (w : World), St.sizes l ≤ N → RdRows ok w 9 A 0 (St.ds l) → l.length * 144 ≤ reach → RdRows ok w 9 A' 0 (St.ds l') →
   Calls Tryz.prog 27 #[.slice A l.length c, .slice A' l'.length c'] w fun e w' => e = .returned (.bool (St.sames l l')) ∧ Fr Non w w' := by
  induction N with
  | zero =>
    intro l l' ok A A' c c' w hN hr hc hr'
    obtain rfl : l = [] := by cases l with | nil => rfl | cons s l => cases s; simp [St.sizes, St.size] at hN
    by_cases hl : l'.length = 0
    · obtain rfl : l' = [] := List.length_eq_zero_iff.1 hl
      go_enter Tryz.func27, Tryz.ntmps27
      go_wp2_with fail
      refine wp_loop_rounds 1 ?_
      rw [rounds_succ]
      go_wp2_with fail
      go_ret
      exact ⟨rfl, fr_refl _⟩
    · have hne : ((0 : Int) != (l'.length : Int)) = true := by rw [bne_iff_ne]; omega
      have HL := Lib.hid hl; clear hl
      go_enter Tryz.func27, Tryz.ntmps27
      go_wp2_with fail
      go_ret
      exact ⟨ret_bool (ssames_len [] l' (by have := HL.out; simp; omega)).symm, fr_refl _⟩
  | succ N ih =>
  intro l l' ok A A' c c' w hN hr hc hr'
  have hlen : l.length ≤ 140737488355328 := by unfold reach at hc; omega
  have IH := Lib.hid ih; clear ih
  by_cases hl : l.length = l'.length
  · have hne : ((l.length : Int) != (l'.length : Int)) = false := by simp [hl]
    have HL := Lib.hid hl; clear hl
    have HR := Lib.hid hr; clear hr
    have HR' := Lib.hid hr'; clear hr'
    go_enter Tryz.func27, Tryz.ntmps27
    go_wp2_with fail
    go_loopw [5] (fun i wr => ∃ j : Nat, i = .int .i64 j ∧ j ≤ l.length ∧ Fr Non w wr ∧ ∀ q, q < j → ∀ hq : q < l.length, St.same l[q] (l'[q]'(HL.out ▸ hq)) = true) (fun i _ => l.length - (intOf i).toNat)
    case atStart => exact ⟨0, rfl, by omega, fr_refl _, fun j hj => by omega⟩
    case round =>
      obtain ⟨j, rfl, hj, hfr, hno⟩ := hrel
      have HN := Lib.hid hno; clear hno
      by_cases hlt : j < l.length
      · have hlt' : j < l'.length := by have := HL.out; omega
        obtain ⟨b, o1, A1, c1, A2, c2, A3, c3, A4, c4, rfl, hb, e0, e1, e2, e3, e4, e5, e6, e7, e8, ⟨p1, q1, r1⟩, ⟨p2, q2, r2⟩, ⟨p3, q3, r3⟩, ⟨p4, q4, r4⟩⟩ := at_st (HR.out.fr hfr (fun _ _ => non _) (fun _ h => h)) j hlt
        obtain ⟨b', o1', A1', c1', A2', c2', A3', c3', A4', c4', rfl, hb', e0', e1', e2', e3', e4', e5', e6', e7', e8', ⟨p1', q1', r1'⟩, ⟨p2', q2', r2'⟩, ⟨p3', q3', r3'⟩, ⟨p4', q4', r4'⟩⟩ := at_st (HR'.out.fr hfr (fun _ _ => non _) (fun _ h => h)) j hlt'
        have ji : (j : Int) < l'.length := by omega
        have R1 := Lib.hid r1; clear r1
        have R2 := Lib.hid r2; clear r2
        have R3 := Lib.hid r3; clear r3
        have R4 := Lib.hid r4; clear r4
        have R1' := Lib.hid r1'; clear r1'
        have R2' := Lib.hid r2'; clear r2'
        have R3' := Lib.hid r3'; clear r3'
        have R4' := Lib.hid r4'; clear r4'
        have hbl : b < wr.heap.size := World.block_lt_of_cell? _ _ e0
        have hbl' : b' < wr.heap.size := World.block_lt_of_cell? _ _ e0'
        go_wp2_with fail
        refine (fun (key : ?K) => ?main) ?kp
        case main =>
          go_region
          · generalize hwd : World.drew _ = wd
            have hfd := fr_eq hwd
            obtain ⟨z, z'⟩ := two_cells hfd (non _) (non _)
            have hfr2 := two_fr hfd
            have hfr3 := hfr.trans hfr2
            clear hfd hwd
            revert z z'
            generalize wr.heap.size + 1 = n2
            generalize wr.heap.size = n1
            revert hfr2 hfr3
            revert n1 n2 wd
            exact key
          · generalize hwd : World.drew _ = wd
            have hfd := fr_eq hwd
            obtain ⟨z', z⟩ := two_cells hfd (non _) (non _)
            have hfr2 := two_fr hfd
            have hfr3 := hfr.trans hfr2
            clear hfd hwd
            revert z z'
            generalize wr.heap.size + 1 = n1
            generalize wr.heap.size = n2
            revert hfr2 hfr3
            revert n1 n2 wd
            exact fun wd a b f2 f3 z' z => key wd b a f2 f3 z z'
        case kp =>
          clear hb hb' hj p1 p1' p2 p2' p3 p3' p4 p4'
          intro wd n2 n1 hfr2 hfr3 z z'
          clear e0 e1 e2 e3 e4 e5 e6 e7 e8 e0' e1' e2' e3' e4' e5' e6' e7' e8'
          have HNN := Lib.hid hN; clear hN
          have HCC := Lib.hid hc; clear hc
          have q1h := Lib.hid q1; clear q1
          have q2h := Lib.hid q2; clear q2
          have q3h := Lib.hid q3; clear q3
          have q4h := Lib.hid q4; clear q4
          clear q1' q2' q3' q4'
          have z0 := z 0 _ rfl
          have z1 := z 1 _ rfl
          have z2 := z 2 _ rfl
          have z3 := z 3 _ rfl
          have z4 := z 4 _ rfl
          have z5 := z 5 _ rfl
          have z0' := z' 0 _ rfl
          have z1' := z' 1 _ rfl
          have z2' := z' 2 _ rfl
          have z3' := z' 3 _ rfl
          have z4' := z' 4 _ rfl
          have z5' := z' 5 _ rfl
          have Z := Lib.hid z; clear z
          have Z' := Lib.hid z'; clear z'
          have FR2 := Lib.hid hfr2; clear hfr2
          have FR3 := Lib.hid hfr3; clear hfr3
          go_wp2_with fail
          all_goals try
            go_ret
            refine ⟨ret_bool (ssames_false _ _ j hlt hlt' (stsame_ne ?_)).symm, FR3.out⟩
            rintro ⟨k1, k2, k3, k4, k5⟩
            first
              | exact (‹¬ ((l[j].kind.toNat : Int) = (l'[j].kind.toNat : Int))›) (by rw [k1])
              | exact (‹¬ (l[j].name.toList = l'[j].name.toList)›) (by rw [k2])
              | exact (‹¬ (l[j].frm.toList = l'[j].frm.toList)›) (by rw [k3])
              | exact (‹¬ (l[j].sec = l'[j].sec)›) k4
              | exact (‹¬ (l[j].mt = l'[j].mt)›) k5
          have hk1 : l[j].kind = l'[j].kind := UInt8.toNat.inj (by have := ‹(l[j].kind.toNat : Int) = (l'[j].kind.toNat : Int)›; omega)
          have hk2 : l[j].name = l'[j].name := sq_iff.1 (by rw [← tosq, beq_iff_eq]; assumption)
          have hk3 : l[j].frm = l'[j].frm := sq_iff.1 (by rw [← tosq, beq_iff_eq]; assumption)
          have HE := Lib.hid (stsame_iff ⟨hk1, hk2, hk3, ‹l[j].sec = l'[j].sec›, ‹l[j].mt = l'[j].mt›⟩)
          clear hk1 hk2 hk3 z0 z1 z2 z3 z4 z5 z0' z1' z2' z3' z4' z5'
          refine (sameExprs_any l[j].ex l'[j].ex ok A1 A1' c1 c1' wd (R1.out.fr FR2.out (fun _ _ => non _) (fun _ h => h)) q1h.out (R1'.out.fr FR2.out (fun _ _ => non _) (fun _ h => h))).mono ?_
          rintro e w2 ⟨rfl, hf2⟩
          generalize hm1 : Ex.sames l[j].ex l'[j].ex = m1
          have z6 := hf2.cell' (Z.out 6 _ rfl) (non _)
          have z6' := hf2.cell' (Z'.out 6 _ rfl) (non _)
          have HM1 := Lib.hid hm1; clear hm1
          have HF2 := Lib.hid hf2; clear hf2
          cases m1 with
          | false =>
            go_wp2_with fail
            go_ret
            exact ⟨ret_bool (ssames_false _ _ j hlt hlt' (by rw [HE.out, HM1.out]; rfl)).symm, FR3.out.trans HF2.out⟩
          | true =>
          go_wp2_with fail
          refine (sameTexts_any l[j].args l'[j].args ok A2 A2' c2 c2' _ (R2.out.fr (FR2.out.trans HF2.out) (fun _ _ => non _) (fun _ h => h)) q2h.out (R2'.out.fr (FR2.out.trans HF2.out) (fun _ _ => non _) (fun _ h => h))).mono ?_
          rintro e w3 ⟨rfl, hf3⟩
          generalize hm2 : samesT l[j].args l'[j].args = m2
          clear z6 z6'
          have z7 := hf3.cell' (HF2.out.cell' (Z.out 7 _ rfl) (non _)) (non _)
          have z7' := hf3.cell' (HF2.out.cell' (Z'.out 7 _ rfl) (non _)) (non _)
          have HM2 := Lib.hid hm2; clear hm2
          have HF3 := Lib.hid (HF2.out.trans hf3); clear hf3
          cases m2 with
          | false =>
            go_wp2_with fail
            go_ret
            exact ⟨ret_bool (ssames_false _ _ j hlt hlt' (by rw [HE.out, HM1.out, HM2.out]; rfl)).symm, FR3.out.trans HF3.out⟩
          | true =>
          go_wp2_with fail
          refine (IH.out l[j].body l'[j].body ok A3 A3' c3 c3' _ (by have := HNN.out; have h2 := ssize_le l j hlt; rw [St.size_eq] at h2; omega) (R3.out.fr (FR2.out.trans HF3.out) (fun _ _ => non _) (fun _ h => h)) q3h.out (R3'.out.fr (FR2.out.trans HF3.out) (fun _ _ => non _) (fun _ h => h))).mono ?_
          rintro e w4 ⟨rfl, hf4⟩
          generalize hm3 : St.sames l[j].body l'[j].body = m3
          clear z7 z7'
          have z8 := hf4.cell' (HF3.out.cell' (Z.out 8 _ rfl) (non _)) (non _)
          have z8' := hf4.cell' (HF3.out.cell' (Z'.out 8 _ rfl) (non _)) (non _)
          have HM3 := Lib.hid hm3; clear hm3
          have HF4 := Lib.hid (HF3.out.trans hf4); clear hf4
          cases m3 with
          | false =>
            go_wp2_with fail
            go_ret
            exact ⟨ret_bool (ssames_false _ _ j hlt hlt' (by rw [HE.out, HM1.out, HM2.out, HM3.out]; rfl)).symm, FR3.out.trans HF4.out⟩
          | true =>
          go_wp2_with fail
          refine (IH.out l[j].els l'[j].els ok A4 A4' c4 c4' _ (by have := HNN.out; have h2 := ssize_le l j hlt; rw [St.size_eq] at h2; omega) (R4.out.fr (FR2.out.trans HF4.out) (fun _ _ => non _) (fun _ h => h)) q4h.out (R4'.out.fr (FR2.out.trans HF4.out) (fun _ _ => non _) (fun _ h => h))).mono ?_
          rintro e w5 ⟨rfl, hf5⟩
          generalize hm4 : St.sames l[j].els l'[j].els = m4
          clear z8 z8'
          have HM4 := Lib.hid hm4; clear hm4
          have HF5 := Lib.hid (HF4.out.trans hf5); clear hf5
          cases m4 with
          | false =>
            go_wp2_with fail
            go_ret
            exact ⟨ret_bool (ssames_false _ _ j hlt hlt' (by rw [HE.out, HM1.out, HM2.out, HM3.out, HM4.out]; rfl)).symm, FR3.out.trans HF5.out⟩
          | true =>
          go_wp2_with fail
          go_roundw
          case rel => exact ⟨j + 1, by go_num, by omega, FR3.out.trans HF5.out, till HN.out fun _ => by rw [HE.out, HM1.out, HM2.out, HM3.out, HM4.out]; rfl⟩
          case measure => simp [intOf]; omega
      · go_wp2_with fail
        go_ret
        exact ⟨ret_bool (ssames_true _ _ HL.out fun q hq => HN.out q (by omega) hq).symm, hfr⟩
  · have hne : ((l.length : Int) != (l'.length : Int)) = true := by rw [bne_iff_ne]; omega
    have HL := Lib.hid hl; clear hl
    go_enter Tryz.func27, Tryz.ntmps27
    go_wp2_with fail
    go_ret
    exact ⟨ret_bool (ssames_len _ _ HL.out).symm, fr_refl _⟩
end Go.Proofs.YtnlnejpioijkiaaGreatDoor
/- The contract of the reference's comparison of programs, where both are the same. -/
namespace Go.Proofs.YtnlnejpioijkiaaGreatDoor
open Go.RowKit
set_option linter.unusedVariables false
set_option linter.unusedSimpArgs false

mutual
theorem ex_same_self : ∀ e : Ex, Ex.same e e = true
  | .mk k n s o l => by simp [Ex.same, sq_refl, exs_same_self l]
theorem exs_same_self : ∀ l : List Ex, Ex.sames l l = true
  | [] => rfl
  | e :: l => by simp [Ex.sames, ex_same_self e, exs_same_self l]
end
theorem texts_self : ∀ l : List ByteArray, samesT l l = true
  | [] => rfl
  | e :: l => by simp [samesT, sq_refl, texts_self l]
mutual
theorem st_same_self : ∀ e : St, St.same e e = true
  | .mk k n f s m ex args body els => by simp [St.same, sq_refl, exs_same_self, texts_self, sts_same_self body, sts_same_self els]
theorem sts_same_self : ∀ l : List St, St.sames l l = true
  | [] => rfl
  | e :: l => by simp [St.sames, st_same_self e, sts_same_self l]
end

set_option maxRecDepth 4000 in
set_option maxHeartbeats 4000000 in
theorem sameP_self (l : List Fu) (ok : Nat → Prop) (A A' : Option Addr) (c c' : Nat) (w : World) (hr : RdRows ok w 5 A 0 (l.map Fu.d)) (hc : l.length * 96 ≤ reach) (hr' : RdRows ok w 5 A' 0 (l.map Fu.d)) :
   Calls Tryz.prog 11 #[.agg #[.slice A l.length c], .agg #[.slice A' l.length c']] w fun e w' => e = .returned (.bool true) ∧ Fr Non w w' := by
  have hlen : l.length ≤ 140737488355328 := by unfold reach at hc; omega
  have HR := Lib.hid hr; clear hr
  have HR' := Lib.hid hr'; clear hr'
  go_enter Tryz.func11, Tryz.ntmps11
  go_wp2_with fail
  obtain ⟨W1, HW1⟩ : ∃ W1, W1 = (w.alloc (.cells #[.slice A l.length c] 24)).alloc (.cells #[.slice A' l.length c'] 24) := ⟨_, rfl⟩
  rw [← HW1]
  have hb1 : W1.heap[w.heap.size]? = some (.cells #[.slice A l.length c] 24 (0, 0)) := by rw [HW1]; exact blk_old (blk_new _ _ _)
  have hb2 : W1.heap[w.heap.size + 1]? = some (.cells #[.slice A' l.length c'] 24 (0, 0)) := by rw [HW1]; exact blk_new' (by simp) _ _
  have hfw : Fr Non w W1 := by rw [HW1]; exact ((fr_refl w).alloc _).alloc _
  clear HW1
  have HB1 := Lib.hid hb1; clear hb1
  have HB2 := Lib.hid hb2; clear hb2
  have HFW := Lib.hid hfw; clear hfw
  go_loopw [5] (fun i wr => ∃ j : Nat, i = .int .i64 j ∧ j ≤ l.length ∧ Fr Non W1 wr) (fun i _ => l.length - (intOf i).toNat)
  case atStart => exact ⟨0, rfl, by omega, fr_refl _⟩
  case round =>
    obtain ⟨j, rfl, hj, hfr⟩ := hrel
    have hbr1 := blk_fr HB1.out hfr (non _)
    have hbr2 := blk_fr HB2.out hfr (non _)
    have s0 := (cells_of hbr1).1 0 _ rfl
    have s0' := (cells_of hbr2).1 0 _ rfl
    have hbl1 := blk_lt hbr1
    have hbl2 := blk_lt hbr2
    clear hbr1 hbr2
    by_cases hlt : j < l.length
    · obtain ⟨b, o1, A1, c1, A2, c2, A3, c3, rfl, hb, e0, e1, e2, e3, e4, ⟨p1, q1, r1⟩, ⟨p2, q2, r2⟩, ⟨p3, q3, r3⟩⟩ := at_fu (HR.out.fr (HFW.out.trans hfr) (fun _ _ => non _) (fun _ h => h)) j hlt
      obtain ⟨b', o1', A1', c1', A2', c2', A3', c3', rfl, hb', e0', e1', e2', e3', e4', ⟨p1', q1', r1'⟩, ⟨p2', q2', r2'⟩, ⟨p3', q3', r3'⟩⟩ := at_fu (HR'.out.fr (HFW.out.trans hfr) (fun _ _ => non _) (fun _ h => h)) j hlt
      have R1 := Lib.hid r1; clear r1
      have R2 := Lib.hid r2; clear r2
      have R3 := Lib.hid r3; clear r3
      have R1' := Lib.hid r1'; clear r1'
      have R2' := Lib.hid r2'; clear r2'
      have R3' := Lib.hid r3'; clear r3'
      have hbl : b < wr.heap.size := World.block_lt_of_cell? _ _ e0
      have hbl' : b' < wr.heap.size := World.block_lt_of_cell? _ _ e0'
      go_wp2_with fail
      refine (fun (key : ?K) => ?main) ?kp
      case main =>
        go_region
        · generalize hwd : World.drew _ = wd
          have hfd := fr_eq hwd
          obtain ⟨z, z'⟩ := two_cells hfd (non _) (non _)
          have hfr2 := two_fr hfd
          have hfr3 := hfr.trans hfr2
          clear hfd hwd
          revert z z'
          generalize wr.heap.size + 1 = n2
          generalize wr.heap.size = n1
          revert hfr2 hfr3
          revert n1 n2 wd
          exact key
        · generalize hwd : World.drew _ = wd
          have hfd := fr_eq hwd
          obtain ⟨z', z⟩ := two_cells hfd (non _) (non _)
          have hfr2 := two_fr hfd
          have hfr3 := hfr.trans hfr2
          clear hfd hwd
          revert z z'
          generalize wr.heap.size + 1 = n1
          generalize wr.heap.size = n2
          revert hfr2 hfr3
          revert n1 n2 wd
          exact fun wd a b f2 f3 z' z => key wd b a f2 f3 z z'
      case kp =>
        intro wd n2 n1 hfr2 hfr3 z z'
        clear e0 e1 e2 e3 e4 e0' e1' e2' e3' e4' s0 s0' hbl hbl' hbl1 hbl2
        have z0 := z 0 _ rfl
        have z1 := z 1 _ rfl
        have z3 := z 3 _ rfl
        have z4 := z 4 _ rfl
        have z0' := z' 0 _ rfl
        have z1' := z' 1 _ rfl
        have z3' := z' 3 _ rfl
        have z4' := z' 4 _ rfl
        have Z := Lib.hid z; clear z
        have Z' := Lib.hid z'; clear z'
        have FR2 := Lib.hid hfr2; clear hfr2
        have FR3 := Lib.hid hfr3; clear hfr3 hfr
        go_wp2_with fail
        refine (sameExprs_any l[j].ret l[j].ret ok A3 A3' c3 c3' wd (R3.out.fr FR2.out (fun _ _ => non _) (fun _ h => h)) q3 (R3'.out.fr FR2.out (fun _ _ => non _) (fun _ h => h))).mono ?_
        rintro e w2 ⟨rfl, hf2⟩
        rw [exs_same_self]
        clear z0 z1 z3 z4 z0' z1' z3' z4'
        have z2 := hf2.cell' (Z.out 2 _ rfl) (non _)
        have z2' := hf2.cell' (Z'.out 2 _ rfl) (non _)
        have HF2 := Lib.hid hf2; clear hf2
        go_wp2_with fail
        refine (sameSts_any (St.sizes l[j].body) l[j].body l[j].body ok A2 A2' c2 c2' w2 (Nat.le_refl _) (R2.out.fr (FR2.out.trans HF2.out) (fun _ _ => non _) (fun _ h => h)) q2 (R2'.out.fr (FR2.out.trans HF2.out) (fun _ _ => non _) (fun _ h => h))).mono ?_
        rintro e w3 ⟨rfl, hf3⟩
        rw [sts_same_self]
        clear z2 z2'
        have HF3 := Lib.hid (HF2.out.trans hf3); clear hf3
        go_wp2_with fail
        go_loopw [8] (fun i wq => ∃ k : Nat, i = .int .i64 k ∧ k ≤ l[j].params.length ∧ Fr Non w3 wq) (fun i _ => l[j].params.length - (intOf i).toNat)
        case atStart => exact ⟨0, rfl, by omega, fr_refl _⟩
        case round =>
          obtain ⟨k, rfl, hk, hfq⟩ := hrel
          have HFQ := Lib.hid (HF3.out.trans hfq)
          have z1 := HFQ.out.cell' (Z.out 1 _ rfl) (non _)
          have z1' := HFQ.out.cell' (Z'.out 1 _ rfl) (non _)
          have hl1 : l[j].params.length ≤ 140737488355328 := by unfold reach at q1; omega
          by_cases hlk : k < l[j].params.length
          · obtain ⟨d, x1, rfl, hd, y0, y1, y2, y3⟩ := at_pa (R1.out.fr (FR2.out.trans HFQ.out) (fun _ _ => non _) (fun _ h => h)) k hlk
            obtain ⟨d', x1', rfl, hd', y0', y1', y2', y3'⟩ := at_pa (R1'.out.fr (FR2.out.trans HFQ.out) (fun _ _ => non _) (fun _ h => h)) k hlk
            have y0 := ext_cell y0
            have y1 := ext_cell y1
            have y2 := ext_cell y2
            have y3 := ext_cell y3
            have y0' := ext_cell y0'
            have y1' := ext_cell y1'
            have y2' := ext_cell y2'
            have y3' := ext_cell y3'
            have z1 := ext_cell z1
            have z1' := ext_cell z1'
            go_wp2_with fail
            refine wp_region_ext (by kernel_rfl) (by kernel_rfl) ?_
            repeat (go_big_quiet_step (fail))
            refine wpQuiet_nil ?_
            intro w4 hf4
            clear y0 y1 y2 y3 y0' y1' y2' y3' z1 z1'
            go_wp2_with fail
            go_roundw
            case rel => exact ⟨k + 1, by go_num, by omega, hfq.trans hf4⟩
            case measure => simp [intOf]; omega
          · go_wp2_with fail
            go_roundw
            case rel => exact ⟨j + 1, by go_num, by omega, FR3.out.trans HFQ.out⟩
            case measure => simp [intOf]; omega
    · go_wp2_with fail
      go_ret
      exact ⟨rfl, HFW.out.trans hfr⟩
end Go.Proofs.YtnlnejpioijkiaaGreatDoor
/- ScopeTells of a program that lies in memory: it answers true, and what was there stays. -/
namespace Go.Proofs.YtnlnejpioijkiaaGreatDoor
open Go.RowKit
set_option linter.unusedVariables false
set_option linter.unusedSimpArgs false
theorem scGive_ne {a : Sc} {s : ByteArray} {x : Int × Int} (h : a.give s = .error x) : x.2 ≠ 0 := by
  unfold Sc.give at h
  split at h
  · cases h; simp
  · cases h
theorem scGives_ne {a : Sc} {k : UInt8} {s : ByteArray} {x : Int × Int} (h : a.gives k s = .error x) : x.2 ≠ 0 := by
  unfold Sc.gives at h
  split at h
  · cases h
  · split at h
    · rename_i hg; cases h; exact scGive_ne hg
    · cases h
mutual
theorem scStmt_ne (P : List Fu) (F : Nat) : ∀ (s : St) (a : Sc) (x : Int × Int), scStmt P F s a = .error x → x.2 ≠ 0
  | .mk k nm fr se mt ex args body els, a, x, h => by
    rw [scStmt] at h
    split at h
    · cases h; simp
    · split at h
      · rename_i hg; cases h; exact scGives_ne hg
      · split at h
        · rename_i hg; cases h; exact scStmts_ne P F body _ _ _ hg
        · split at h
          · rename_i hg; cases h; exact scStmts_ne P F els _ _ _ hg
          · split at h <;> cases h
theorem scStmts_ne (P : List Fu) (F : Nat) : ∀ (l : List St) (a : Sc) (aw : List ByteArray) (x : Int × Int), scStmts P F l a aw = .error x → x.2 ≠ 0
  | [], _, _, _, h => by rw [scStmts] at h; cases h
  | s :: l, a, aw, x, h => by
    rw [scStmts] at h
    split at h
    · rename_i hg; cases h; exact scStmt_ne P F s _ _ hg
    · exact scStmts_ne P F l _ _ _ h
end
theorem scParams_ne : ∀ (l : List Pa) (a : Sc) (x : Int × Int), scParams l a = .error x → x.2 ≠ 0
  | [], _, _, h => by rw [scParams] at h; cases h
  | p :: l, a, x, h => by
    rw [scParams] at h
    split at h
    · rename_i hg; cases h; exact scGive_ne hg
    · exact scParams_ne l _ _ h
theorem scFun_ne {P : List Fu} {F : Nat} {f : Fu} {n : Int} {x : Int × Int} (h : scFun P F f n = .error x) : x.2 ≠ 0 := by
  unfold scFun at h
  split at h
  · cases h; simp
  · split at h
    · rename_i hg; cases h; exact scParams_ne _ _ _ hg
    · split at h
      · rename_i hg; cases h; exact scStmts_ne _ _ _ _ _ _ hg
      · split at h
        · cases h
        · cases h; simp
theorem scWalk_ne (P : List Fu) : ∀ (n : Nat) (x : Int × Int), scWalk P n = .error x → x.2 ≠ 0
  | 0, _, h => by rw [scWalk] at h; cases h
  | n + 1, x, h => by
    rw [scWalk] at h
    split at h
    · rename_i hg; cases h; exact scWalk_ne P n _ hg
    · exact scFun_ne h
theorem scCheck_errV (P : List Fu) : scCheckV P = errV (scCheck P) := by
  unfold scCheckV scCheck
  cases hm : mayM P
  · rfl
  · simp only [if_true]
    cases hw : scWalk P P.length with
    | ok n => rfl
    | error x => simp only [errV, if_neg (scWalk_ne P _ _ hw)]

set_option maxRecDepth 100000 in
set_option maxHeartbeats 8000000 in
theorem scopeTells_any (P : List Fu) (ok : Nat → Prop) (A : Option Addr) (c : Nat) (w : World) (hr : RdRows ok w 5 A 0 (P.map Fu.d)) (hc : P.length * 96 ≤ reach) (hpc : P.length ≤ c) (hok : ∀ q, ok q → q < w.heap.size) (hg : w.cell? ⟨0, 0, none⟩ = some (rty 29)) :
   Calls Tryz.prog 3 #[.agg #[.slice A P.length c]] w fun e w' => e = .returned (.bool true) ∧ Fr Non w w' := by
  obtain ⟨W1, HW1⟩ : ∃ W1, W1 = w.alloc (.cells #[.slice A P.length c] 24) := ⟨_, rfl⟩
  have hf1 : Fr Non w W1 := by rw [HW1]; exact (fr_refl w).alloc _
  have B1 := Lib.hid (show W1.heap[w.heap.size]? = some (.cells #[.slice A P.length c] 24 (0, 0)) by rw [HW1]; exact blk_new _ _ _)
  have R1 := Lib.hid (hr.fr hf1 (fun _ _ => non _) fun _ h => h)
  have G1 := Lib.hid (hf1.cell' hg (non _))
  have F1 := Lib.hid hf1
  have hok1 := Lib.hid (show ∀ q, ok q → q < W1.heap.size from fun q hq => by have := hok q hq; have := hf1.size; omega)
  clear hf1 hr hg
  have x1 := (cells_of B1.out).1 0 _ rfl
  have HC := Lib.hid hc; have HPC := Lib.hid hpc
  clear hc hpc hok
  go_enter Tryz.func3, Tryz.ntmps3
  go_upto_region 1 with fail
  rw [← HW1]; clear HW1
  go_wp2_with fail
  refine (large08_any P ok A c W1 R1.out HC.out hok1.out).mono ?_
  rintro e w2 ⟨⟨b, rfl, hb⟩, hf2⟩
  have F2 := Lib.hid (F1.out.trans hf2)
  have G2 := Lib.hid (hf2.cell' G1.out (non _))
  have R2 := Lib.hid (R1.out.fr hf2 (fun _ _ => non _) fun _ h => h)
  have B2 := Lib.hid (blk_fr B1.out hf2 (non _))
  have hok2 := Lib.hid (show ∀ q, ok q → q < w2.heap.size from fun q hq => by have := hok1.out q hq; have := hf2.size; omega)
  clear hf2 F1 G1 R1 B1 x1
  cases b
  case true =>
    go_wp2_with fail
    refine (alive_any w2 G2.out).mono ?_
    rintro e w3 ⟨rfl, hf3⟩
    have F3 := Lib.hid (F2.out.trans hf3); clear hf3
    go_wp2_with fail
    go_ret
    exact ⟨rfl, F3.out⟩
  case false =>
    obtain ⟨hl30, hs9⟩ := hb rfl
    have HS := Lib.hid hs9; clear hs9 hb
    have x2 := (cells_of B2.out).1 0 _ rfl
    go_wp2_with fail
    refine (copyP_any P ok A c w2 hok2.out R2.out HPC.out HC.out).mono ?_
    rintro e w3 ⟨A', c', rfl, hf3, hc', hr3⟩
    have F3 := Lib.hid (F2.out.trans hf3)
    have G3 := Lib.hid (hf3.cell' G2.out (non _))
    have R3 := Lib.hid (R2.out.fr hf3 (fun _ _ => non _) fun _ h => h)
    have B3 := Lib.hid (blk_fr B2.out hf3 (non _))
    have hok3 := Lib.hid (show ∀ q, ok q → q < w3.heap.size from fun q hq => by have := hok2.out q hq; have := hf3.size; omega)
    have O3 := Lib.hid hr3
    have hon3 := Lib.hid (show ∀ q, New w2.heap.size w3 q → q < w3.heap.size from fun q hq => hq.2)
    have HPC' := Lib.hid hc'
    clear hf3 hr3 F2 G2 R2 B2 hok2 hc' x2
    obtain ⟨w4, HW4⟩ : ∃ w4, w4 = w3.alloc (.cells #[.slice A' P.length c'] 24) := ⟨_, rfl⟩
    have hf4 : Fr Non w3 w4 := by rw [HW4]; exact (fr_refl w3).alloc _
    have C4 := Lib.hid (show w4.heap[w3.heap.size]? = some (.cells #[.slice A' P.length c'] 24 (0, 0)) by rw [HW4]; exact blk_new _ _ _)
    have F4 := Lib.hid (F3.out.trans hf4)
    have G4 := Lib.hid (hf4.cell' G3.out (non _))
    have R4 := Lib.hid (R3.out.fr hf4 (fun _ _ => non _) fun _ h => h)
    have B4 := Lib.hid (blk_fr B3.out hf4 (non _))
    have O4 := Lib.hid (O3.out.fr hf4 (fun _ _ => non _) fun _ h => h)
    have hok4 := Lib.hid (show ∀ q, ok q → q < w4.heap.size from fun q hq => by have := hok3.out q hq; have := hf4.size; omega)
    have hon4 := Lib.hid (show ∀ q, New w2.heap.size w3 q → q < w4.heap.size from fun q hq => by have := hon3.out q hq; have := hf4.size; omega)
    clear hf4 F3 G3 R3 B3 O3 hok3 hon3
    go_upto_region 4 with fail
    rw [← HW4]; clear HW4
    have x4 := (cells_of C4.out).1 0 _ rfl
    go_wp2_with fail
    refine (scheck_any P _ A' c' w4 O4.out HC.out HPC'.out (by have := HS.out; omega) hon4.out).mono ?_
    rintro e w5 ⟨rfl, hf5⟩
    have F5 := Lib.hid (F4.out.trans hf5)
    have G5 := Lib.hid (hf5.cell' G4.out (non _))
    have R5 := Lib.hid (R4.out.fr hf5 (fun _ _ => non _) fun _ h => h)
    have B5 := Lib.hid (blk_fr B4.out hf5 (non _))
    have O5 := Lib.hid (O4.out.fr hf5 (fun _ _ => non _) fun _ h => h)
    have C5 := Lib.hid (blk_fr C4.out hf5 (non _))
    have hok5 := Lib.hid (show ∀ q, ok q → q < w5.heap.size from fun q hq => by have := hok4.out q hq; have := hf5.size; omega)
    have hon5 := Lib.hid (show ∀ q, New w2.heap.size w3 q → q < w5.heap.size from fun q hq => by have := hon4.out q hq; have := hf5.size; omega)
    clear hf5 F4 G4 R4 B4 O4 C4 x4 hok4 hon4
    rw [scCheck_errV]
    have x5 := (cells_of C5.out).1 0 _ rfl
    go_wp2_with fail
    refine (sItems_any P _ A' c' w5 O5.out HC.out (by have := HS.out; omega)).mono ?_
    rintro e w6 ⟨rfl, hf6⟩
    obtain ⟨v1, hv1⟩ : ∃ v, (if mayM P then scItems P else 0) = v := ⟨_, rfl⟩
    obtain ⟨v2, hv2⟩ : ∃ v, (if mayM P then (0 : Int) else 2) = v := ⟨_, rfl⟩
    rw [hv1, hv2]
    have HV1 := Lib.hid hv1; have HV2 := Lib.hid hv2; clear hv1 hv2
    have F6 := Lib.hid (F5.out.trans hf6)
    have G6 := Lib.hid (hf6.cell' G5.out (non _))
    have R6 := Lib.hid (R5.out.fr hf6 (fun _ _ => non _) fun _ h => h)
    have B6 := Lib.hid (blk_fr B5.out hf6 (non _))
    have O6 := Lib.hid (O5.out.fr hf6 (fun _ _ => non _) fun _ h => h)
    have C6 := Lib.hid (blk_fr C5.out hf6 (non _))
    have hok6 := Lib.hid (show ∀ q, ok q → q < w6.heap.size from fun q hq => by have := hok5.out q hq; have := hf6.size; omega)
    have hon6 := Lib.hid (show ∀ q, New w2.heap.size w3 q → q < w6.heap.size from fun q hq => by have := hon5.out q hq; have := hf6.size; omega)
    clear hf6 F5 G5 R5 B5 O5 C5 x5 hok5 hon5
    have x6 := (cells_of C6.out).1 0 _ rfl
    have y6 := (cells_of B6.out).1 0 _ rfl
    go_wp2_with fail
    refine (rcheck_any P ok A c w6 R6.out HC.out HPC.out (by have := HS.out; omega) hok6.out 10 (by omega) (by omega)).mono ?_
    rintro e w7 ⟨rfl, hf7⟩
    have F7 := Lib.hid (F6.out.trans hf7)
    have G7 := Lib.hid (hf7.cell' G6.out (non _))
    have R7 := Lib.hid (R6.out.fr hf7 (fun _ _ => non _) fun _ h => h)
    have B7 := Lib.hid (blk_fr B6.out hf7 (non _))
    have O7 := Lib.hid (O6.out.fr hf7 (fun _ _ => non _) fun _ h => h)
    have C7 := Lib.hid (blk_fr C6.out hf7 (non _))
    have hok7 := Lib.hid (show ∀ q, ok q → q < w7.heap.size from fun q hq => by have := hok6.out q hq; have := hf7.size; omega)
    have hon7 := Lib.hid (show ∀ q, New w2.heap.size w3 q → q < w7.heap.size from fun q hq => by have := hon6.out q hq; have := hf7.size; omega)
    clear hf7 F6 G6 R6 B6 O6 C6 x6 y6 hok6 hon6
    go_wp2_with fail
    rw [← law10]
    refine (told_any (scCheck P) w7 G7.out).mono ?_
    rintro e w8 ⟨rfl, hf8⟩
    have F8 := Lib.hid (F7.out.trans hf8)
    have G8 := Lib.hid (hf8.cell' G7.out (non _))
    have R8 := Lib.hid (R7.out.fr hf8 (fun _ _ => non _) fun _ h => h)
    have B8 := Lib.hid (blk_fr B7.out hf8 (non _))
    have O8 := Lib.hid (O7.out.fr hf8 (fun _ _ => non _) fun _ h => h)
    have C8 := Lib.hid (blk_fr C7.out hf8 (non _))
    have hok8 := Lib.hid (show ∀ q, ok q → q < w8.heap.size from fun q hq => by have := hok7.out q hq; have := hf8.size; omega)
    have hon8 := Lib.hid (show ∀ q, New w2.heap.size w3 q → q < w8.heap.size from fun q hq => by have := hon7.out q hq; have := hf8.size; omega)
    clear hf8 F7 G7 R7 B7 O7 C7 hok7 hon7
    have x8 := (cells_of C8.out).1 0 _ rfl
    have y8 := (cells_of B8.out).1 0 _ rfl
    go_wp2_with fail
    refine (sameP_self P (fun _ => True) A' A c' c w8 (O8.out.fr (fr_refl _) (fun _ _ => non _) fun _ _ => trivial) HC.out (R8.out.fr (fr_refl _) (fun _ _ => non _) fun _ _ => trivial)).mono ?_
    rintro e w9 ⟨rfl, hf9⟩
    have F9 := Lib.hid (F8.out.trans hf9)
    have G9 := Lib.hid (hf9.cell' G8.out (non _))
    have R9 := Lib.hid (R8.out.fr hf9 (fun _ _ => non _) fun _ h => h)
    have B9 := Lib.hid (blk_fr B8.out hf9 (non _))
    have O9 := Lib.hid (O8.out.fr hf9 (fun _ _ => non _) fun _ h => h)
    have C9 := Lib.hid (blk_fr C8.out hf9 (non _))
    have hok9 := Lib.hid (show ∀ q, ok q → q < w9.heap.size from fun q hq => by have := hok8.out q hq; have := hf9.size; omega)
    have hon9 := Lib.hid (show ∀ q, New w2.heap.size w3 q → q < w9.heap.size from fun q hq => by have := hon8.out q hq; have := hf9.size; omega)
    clear hf9 F8 G8 R8 B8 O8 C8 x8 y8 hok8 hon8
    have y9 := (cells_of B9.out).1 0 _ rfl
    go_wp2_with fail
    refine (mayP_any P ok A c w9 R9.out HC.out (by have := HS.out; omega)).mono ?_
    rintro e w10 ⟨rfl, hf10⟩
    have F10 := Lib.hid (F9.out.trans hf10)
    have G10 := Lib.hid (hf10.cell' G9.out (non _))
    have R10 := Lib.hid (R9.out.fr hf10 (fun _ _ => non _) fun _ h => h)
    have B10 := Lib.hid (blk_fr B9.out hf10 (non _))
    have hok10 := Lib.hid (show ∀ q, ok q → q < w10.heap.size from fun q hq => by have := hok9.out q hq; have := hf10.size; omega)
    clear hf10 F9 G9 R9 B9 y9 hok9
    cases hm : mayM P
    · obtain rfl : (0 : Int) = v1 := by have := HV1.out; simpa [hm] using this
      obtain rfl : (2 : Int) = v2 := by have := HV2.out; simpa [hm] using this
      go_wp2_with fail
      refine (alive_any w10 G10.out).mono ?_
      rintro e w11 ⟨rfl, hf11⟩
      have F11 := Lib.hid (F10.out.trans hf11); clear hf11
      go_wp2_with fail
      go_ret
      exact ⟨rfl, F11.out⟩
    · obtain rfl : scItems P = v1 := by have := HV1.out; simpa [hm] using this
      obtain rfl : (0 : Int) = v2 := by have := HV2.out; simpa [hm] using this
      have HM := Lib.hid hm; clear hm
      have y10 := (cells_of B10.out).1 0 _ rfl
      go_wp2_with fail
      refine (ritems_any P ok A c w10 R10.out HC.out HPC.out hok10.out HM.out).mono ?_
      rintro e w11 ⟨rfl, hf11⟩
      have F11 := Lib.hid (F10.out.trans hf11)
      have G11 := Lib.hid (hf11.cell' G10.out (non _))
      clear hf11
      rw [items10 P HM.out]
      go_wp2_with fail
      refine (alive_any w11 G11.out).mono ?_
      rintro e w12 ⟨rfl, hf12⟩
      have F12 := Lib.hid (F11.out.trans hf12); clear hf12
      go_wp2_with fail
      go_ret
      exact ⟨rfl, F12.out⟩
end Go.Proofs.YtnlnejpioijkiaaGreatDoor
/- A program that comes in as an argument lies in memory: the reading of the argument, opened. -/
namespace Go.Proofs.YtnlnejpioijkiaaGreatDoor
open Go.RowKit
set_option linter.unusedVariables false
set_option linter.unusedSimpArgs false
/-- The cells hold the data, one for one. -/
def RdCs (ok : Nat → Prop) (w : World) : List D → List Value → Prop
  | [], [] => True
  | d :: ds, u :: us => RdC ok w d u ∧ RdCs ok w ds us
  | _, _ => False
theorem RdCs.at {ok : Nat → Prop} {w : World} {b : Nat} : ∀ {ds : List D} {cs : List Value} {o : Nat}, RdCs ok w ds cs → (∀ i v, cs[i]? = some v → w.cell? ⟨b, o + i, none⟩ = some v) → RdAt ok w b o ds
  | [], [], _, _, _ => trivial
  | d :: ds, u :: us, o, ⟨h, h'⟩, hc => ⟨⟨u, hc 0 u rfl, h⟩, h'.at fun i v hi => by have := hc (i + 1) v hi; rwa [Nat.add_assoc, Nat.add_comm 1 i]⟩
  | [], _ :: _, _, h, _ => h.elim
  | _ :: _, [], _, h, _ => h.elim
theorem RdCs.len {ok : Nat → Prop} {w : World} : ∀ {ds : List D} {cs : List Value}, RdCs ok w ds cs → ds.length = cs.length
  | [], [], _ => rfl
  | d :: ds, u :: us, ⟨_, h'⟩ => by simp [h'.len]
  | [], _ :: _, h => h.elim
  | _ :: _, [], h => h.elim
def InW (w : World) : Nat → Prop := fun b => b < w.heap.size
def Light (l : List Nat) : Prop := l.all (· ≤ reachBytes) = true
theorem Light.left {a b : List Nat} (h : Light (a ++ b)) : Light a := by unfold Light at *; rw [List.all_append, Bool.and_eq_true] at h; exact h.1
theorem Light.right {a b : List Nat} (h : Light (a ++ b)) : Light b := by unfold Light at *; rw [List.all_append, Bool.and_eq_true] at h; exact h.2
section
variable {H : Type} {enc : TypeId × Value → H} {w : World} {fuel : Nat} {t : TypeId} {cs : List Value} {x : DataW H × List MemPlace}
noncomputable abbrev Trd (enc : TypeId × Value → H) (w : World) := DataW.trod enc Tryz.prog w 0 (fun _ => true) true
theorem op_u8 (ht : Program.underlying Tryz.prog t = some (.int .u8)) (h : Trd enc w fuel t cs = some x) : ∃ k : UInt8, cs = [vu8 k] := by
  obtain ⟨n, rfl, _, hw⟩ := DataW.trod_int ht h
  have hb := bounds_u8 hw
  have e1 : ((UInt8.ofNat n.toNat).toNat : Int) = n := by simp only [UInt8.toNat_ofNat']; omega
  exact ⟨UInt8.ofNat n.toNat, by rw [vu8, e1]⟩
theorem op_u64 (ht : Program.underlying Tryz.prog t = some (.int .u64)) (h : Trd enc w fuel t cs = some x) : ∃ k : UInt64, cs = [vu64 k] := by
  obtain ⟨n, rfl, _, hw⟩ := DataW.trod_int ht h
  have hb := bounds_u64 hw
  have e1 : ((UInt64.ofNat n.toNat).toNat : Int) = n := by simp only [UInt64.toNat_ofNat']; omega
  exact ⟨UInt64.ofNat n.toNat, by rw [vu64, e1]⟩
theorem op_bool (ht : Program.underlying Tryz.prog t = some .bool) (h : Trd enc w fuel t cs = some x) : ∃ b, cs = [.bool b] := by
  obtain ⟨b, rfl, _⟩ := DataW.trod_bool ht h; exact ⟨b, rfl⟩
theorem op_str (ht : Program.underlying Tryz.prog t = some .string) (h : Trd enc w fuel t cs = some x) : ∃ s, cs = [.string s] := by
  obtain ⟨s, rfl, _⟩ := DataW.trod_string ht h; exact ⟨s, rfl⟩
theorem Light.each {e : TypeId} : ∀ {l : List (DataW H)}, Light (DataW.weightsAll Tryz.prog e l) → ∀ (i : Nat) (d : DataW H), l[i]? = some d → Light (d.weights Tryz.prog e)
  | [], _, _, _, hd => by simp at hd
  | d0 :: l, h, 0, d, hd => by
    simp only [List.getElem?_cons_zero, Option.some.injEq] at hd
    subst hd
    simp only [DataW.weightsAll] at h
    exact h.left
  | d0 :: l, h, i + 1, d, hd => by
    simp only [List.getElem?_cons_succ] at hd
    simp only [DataW.weightsAll] at h
    exact Light.each h.right i d hd
theorem op_rows {α : Type} (da : α → List D) {e : TypeId} {sz by_ : Nat} (ht : Program.underlying Tryz.prog t = some (.slice e)) (hsz : Program.cellsOf Tryz.prog e = sz) (hpos : 0 < sz) (hby : Program.bytesOf Tryz.prog e = by_)
    (h : Trd enc w fuel t cs = some x) (hw : Light (x.1.weights Tryz.prog t)) (ih : ∀ m y cs', m < fuel → Trd enc w m e cs' = some y → Light (y.1.weights Tryz.prog e) → ∃ a, RdCs (InW w) w (da a) cs') :
    ∃ (l : List α) (A : Option Addr) (c : Nat), cs = [.slice A l.length c] ∧ l.length ≤ c ∧ l.length * by_ ≤ reach ∧ RdRows (InW w) w sz A 0 (l.map da) := by
  rcases DataW.trod_slice ht h with ⟨rfl, _⟩ | ⟨a, len, cap, elems, rest, n, rfl, rfl, hx, _, hl, _, hel, hat, hrest, _⟩
  · exact ⟨[], none, 0, rfl, Nat.le_refl _, by simp, trivial⟩
  have hr := (hrest rfl).1
  rw [hx] at hw
  simp only [DataW.weights, ht, hby] at hw
  have hw1 : (elems.length + rest.length) * by_ ≤ reachBytes := by
    have h0 := List.all_eq_true.1 hw _ List.mem_cons_self
    simpa using h0
  have hw2 : Light (DataW.weightsAll Tryz.prog e (elems.map (·.1))) := by
    have : Light (DataW.weightsAll Tryz.prog e (elems.map (·.1)) ++ DataW.weightsAll Tryz.prog e (rest.map (·.1))) := List.all_eq_true.2 fun y hy => List.all_eq_true.1 hw y (List.mem_cons_of_mem _ hy)
    exact this.left
  have hcells : ∀ i, i < len → ∃ cs' y, w.cells? 0 (a.add (i * sz)) sz = some cs' ∧ Trd enc w n e cs' = some y ∧ Light (y.1.weights Tryz.prog e) := fun i hi => by
    have h1 := hat i hi
    rw [hsz] at h1
    have h2 : elems[i]? = some (elems[i]'(by omega)) := List.getElem?_eq_getElem _
    rw [h2, Option.bind_eq_some_iff] at h1
    obtain ⟨cs', h3, h4⟩ := h1
    exact ⟨cs', _, h3, h4, hw2.each i _ (by rw [List.getElem?_map, h2]; rfl)⟩
  by_cases h0 : len = 0
  · subst h0
    exact ⟨[], some a, cap, rfl, hl, by simp, trivial⟩
  have hspot : a.spot = none := by
    obtain ⟨cs', y, h1, _, _⟩ := hcells 0 (by omega)
    obtain ⟨h2, h3, h4⟩ := World.cells?_some h1
    have h5 := h4 0 (by omega)
    have h6 : w.cell? ((a.add (0 * sz)).add 0) = some (cs'[0]'(by omega)) := by rw [h5]; exact List.getElem?_eq_getElem _
    have := World.cell?_spot h6
    simpa [Addr.add] using this
  obtain ⟨b, o, sp⟩ := a
  subst hspot
  have hall : ∀ n', n' ≤ len → ∃ l : List α, l.length = n' ∧ ∀ (i : Nat) (hi : i < l.length), InW w b ∧ (da l[i]).length = sz ∧ RdAt (InW w) w b (o + i * sz) (da l[i]) := by
    intro n' hn'
    induction n' with
    | zero => exact ⟨[], rfl, fun i hi => by simp at hi⟩
    | succ k ihk =>
      obtain ⟨l, hll, hlr⟩ := ihk (by omega)
      obtain ⟨cs', y, h1, h2, h3⟩ := hcells k (by omega)
      obtain ⟨a', h4⟩ := ih n y cs' (by omega) h2 h3
      rw [WideShapes.add_plain] at h1
      have hblk : b < w.heap.size := World.cells?_block h1 hpos
      obtain ⟨_, h5, h6⟩ := World.cells?_some h1
      refine ⟨l ++ [a'], by simp [hll], fun i hi => ?_⟩
      by_cases hik : i < l.length
      · rw [List.getElem_append_left hik]; exact hlr i hik
      · have e1 : i = l.length := by simp at hi; omega
        subst e1
        rw [List.getElem_append_right (Nat.le_refl _)]
        simp only [Nat.sub_self, List.getElem_cons_zero]
        refine ⟨hblk, by rw [h4.len]; omega, ?_⟩
        rw [hll]
        refine h4.at fun i v hv => ?_
        have hi' : i < sz := by
          have := (List.getElem?_eq_some_iff.1 hv).1
          omega
        have := h6 i hi'
        rw [WideShapes.add_plain] at this
        rw [this, hv]
  obtain ⟨l, hll, hlr⟩ := hall len (Nat.le_refl _)
  refine ⟨l, some ⟨b, o, none⟩, cap, by rw [hll], by omega, ?_, ?_⟩
  · have : len * by_ ≤ (elems.length + rest.length) * by_ := Nat.mul_le_mul_right _ (by omega)
    have e1 : reachBytes = reach := rfl
    rw [hll]; omega
  · refine RdRows.mk (hlr 0 (by omega)).1 fun k hk => ?_
    have hk' : k < l.length := by simpa using hk
    have := hlr k hk'
    simp only [List.getElem_map, Nat.zero_add]
    exact ⟨this.2.1, this.2.2⟩
end
end Go.Proofs.YtnlnejpioijkiaaGreatDoor
/- A program that comes in as an argument: expressions, statements, functions. -/
namespace Go.Proofs.YtnlnejpioijkiaaGreatDoor
open Go.RowKit
set_option linter.unusedVariables false
set_option linter.unusedSimpArgs false

theorem ce_u8 : Program.cellsOf Tryz.prog 5 = 1 := by kernel_rfl
theorem ce_u64 : Program.cellsOf Tryz.prog 46 = 1 := by kernel_rfl
theorem ce_str : Program.cellsOf Tryz.prog 9 = 1 := by kernel_rfl
theorem ce_bool : Program.cellsOf Tryz.prog 4 = 1 := by kernel_rfl
theorem ce_ex : Program.cellsOf Tryz.prog 42 = 1 := by kernel_rfl
theorem ce_strs : Program.cellsOf Tryz.prog 51 = 1 := by kernel_rfl
theorem ce_st : Program.cellsOf Tryz.prog 40 = 1 := by kernel_rfl
theorem ce_pa : Program.cellsOf Tryz.prog 41 = 1 := by kernel_rfl
theorem ce_fu : Program.cellsOf Tryz.prog 22 = 1 := by kernel_rfl
theorem ce_exE : Program.cellsOf Tryz.prog 48 = 5 := by kernel_rfl
theorem by_exE : Program.bytesOf Tryz.prog 48 = 64 := by kernel_rfl
theorem ce_stE : Program.cellsOf Tryz.prog 53 = 9 := by kernel_rfl
theorem by_stE : Program.bytesOf Tryz.prog 53 = 144 := by kernel_rfl
theorem ce_paE : Program.cellsOf Tryz.prog 50 = 4 := by kernel_rfl
theorem by_paE : Program.bytesOf Tryz.prog 50 = 24 := by kernel_rfl
theorem ce_fuE : Program.cellsOf Tryz.prog 44 = 5 := by kernel_rfl
theorem by_fuE : Program.bytesOf Tryz.prog 44 = 96 := by kernel_rfl
theorem ce_pr : Program.cellsOf Tryz.prog 24 = 1 := by kernel_rfl
theorem by_pr : Program.bytesOf Tryz.prog 24 = 24 := by kernel_rfl
theorem by_str : Program.bytesOf Tryz.prog 9 = 16 := by kernel_rfl
section
variable {H : Type} {enc : TypeId × Value → H} {w : World}
theorem fld {m ty off : Nat} {f : Field} {cs : List Value} {c : Value} {y : DataW H × List MemPlace} {o : Option (DataW H × List MemPlace)} (hf : DataW.trod enc Tryz.prog w 0 (fun _ => true) true m f.type ((cs.drop f.offset).take (Program.cellsOf Tryz.prog f.type)) = o)
    (e1 : f.type = ty) (e2 : f.offset = off) (e3 : Program.cellsOf Tryz.prog ty = 1) (e4 : (cs.drop off).take 1 = [c]) (e5 : o = some y) : Trd enc w m ty [c] = some y := by
  subst e1 e2 e5
  rw [e3, e4] at hf
  exact hf

set_option maxRecDepth 100000 in
theorem op_ex (fuel : Nat) : ∀ (cs : List Value) (x : DataW H × List MemPlace), Trd enc w fuel 48 cs = some x → Light (x.1.weights Tryz.prog 48) → ∃ e : Ex, RdCs (InW w) w e.d cs
  := by
  induction fuel using Nat.strongRecOn with
  | ind fuel ih =>
    intro cs x h hw
    obtain ⟨xs, m, hm, rfl, hl, hxl, hf⟩ := DataW.trod_struct Tryz.underlying48 h
    subst hm
    rw [ce_exE] at hl
    match cs, hl, xs, hxl with
    | [c0, c1, c2, c3, c4], _, [y0, y1, y2, y3, y4], _ =>
    simp only [DataW.weights, Tryz.underlying48, List.map_cons, List.map_nil, DataW.weightsEach] at hw
    have f0 : Trd enc w m 5 [c0] = some y0 := fld (hf 0 _ rfl) rfl rfl ce_u8 rfl rfl
    have f1 : Trd enc w m 46 [c1] = some y1 := fld (hf 1 _ rfl) rfl rfl ce_u64 rfl rfl
    have f2 : Trd enc w m 9 [c2] = some y2 := fld (hf 2 _ rfl) rfl rfl ce_str rfl rfl
    have f3 : Trd enc w m 5 [c3] = some y3 := fld (hf 3 _ rfl) rfl rfl ce_u8 rfl rfl
    have f4 : Trd enc w m 42 [c4] = some y4 := fld (hf 4 _ rfl) rfl rfl ce_ex rfl rfl
    obtain ⟨v0, e0⟩ := op_u8 Tryz.underlying5 f0
    obtain rfl := List.cons.inj e0 |>.1
    obtain ⟨v1, e1⟩ := op_u64 Tryz.underlying46 f1
    obtain rfl := List.cons.inj e1 |>.1
    obtain ⟨v2, e2⟩ := op_str Tryz.underlying9 f2
    obtain rfl := List.cons.inj e2 |>.1
    obtain ⟨v3, e3⟩ := op_u8 Tryz.underlying5 f3
    obtain rfl := List.cons.inj e3 |>.1
    obtain ⟨v4, A4, k4, e4, g4, r4, d4⟩ := op_rows Ex.d Tryz.underlying42 ce_exE (by omega) by_exE f4 hw.right.right.right.right.left fun m' y cs' hm h1 h2 => ih m' (by omega) cs' y h1 h2
    obtain rfl := List.cons.inj e4 |>.1
    exact ⟨.mk v0 v1 v2 v3 v4, rfl, rfl, rfl, rfl, ⟨A4, k4, by rw [Ex.ds_length], by rw [Ex.ds_length]; exact g4, by rw [Ex.ds_length]; exact r4, by rw [Ex.ds_eq]; exact d4⟩, trivial⟩

set_option maxRecDepth 100000 in
theorem op_st (fuel : Nat) : ∀ (cs : List Value) (x : DataW H × List MemPlace), Trd enc w fuel 53 cs = some x → Light (x.1.weights Tryz.prog 53) → ∃ e : St, RdCs (InW w) w e.d cs
  := by
  induction fuel using Nat.strongRecOn with
  | ind fuel ih =>
    intro cs x h hw
    obtain ⟨xs, m, hm, rfl, hl, hxl, hf⟩ := DataW.trod_struct Tryz.underlying53 h
    subst hm
    rw [ce_stE] at hl
    match cs, hl, xs, hxl with
    | [c0, c1, c2, c3, c4, c5, c6, c7, c8], _, [y0, y1, y2, y3, y4, y5, y6, y7, y8], _ =>
    simp only [DataW.weights, Tryz.underlying53, List.map_cons, List.map_nil, DataW.weightsEach] at hw
    have f0 : Trd enc w m 5 [c0] = some y0 := fld (hf 0 _ rfl) rfl rfl ce_u8 rfl rfl
    have f1 : Trd enc w m 9 [c1] = some y1 := fld (hf 1 _ rfl) rfl rfl ce_str rfl rfl
    have f2 : Trd enc w m 9 [c2] = some y2 := fld (hf 2 _ rfl) rfl rfl ce_str rfl rfl
    have f3 : Trd enc w m 4 [c3] = some y3 := fld (hf 3 _ rfl) rfl rfl ce_bool rfl rfl
    have f4 : Trd enc w m 4 [c4] = some y4 := fld (hf 4 _ rfl) rfl rfl ce_bool rfl rfl
    have f5 : Trd enc w m 42 [c5] = some y5 := fld (hf 5 _ rfl) rfl rfl ce_ex rfl rfl
    have f6 : Trd enc w m 51 [c6] = some y6 := fld (hf 6 _ rfl) rfl rfl ce_strs rfl rfl
    have f7 : Trd enc w m 40 [c7] = some y7 := fld (hf 7 _ rfl) rfl rfl ce_st rfl rfl
    have f8 : Trd enc w m 40 [c8] = some y8 := fld (hf 8 _ rfl) rfl rfl ce_st rfl rfl
    obtain ⟨v0, e0⟩ := op_u8 Tryz.underlying5 f0
    obtain rfl := List.cons.inj e0 |>.1
    obtain ⟨v1, e1⟩ := op_str Tryz.underlying9 f1
    obtain rfl := List.cons.inj e1 |>.1
    obtain ⟨v2, e2⟩ := op_str Tryz.underlying9 f2
    obtain rfl := List.cons.inj e2 |>.1
    obtain ⟨v3, e3⟩ := op_bool Tryz.underlying4 f3
    obtain rfl := List.cons.inj e3 |>.1
    obtain ⟨v4, e4⟩ := op_bool Tryz.underlying4 f4
    obtain rfl := List.cons.inj e4 |>.1
    obtain ⟨v5, A5, k5, e5, g5, r5, d5⟩ := op_rows Ex.d Tryz.underlying42 ce_exE (by omega) by_exE f5 hw.right.right.right.right.right.left fun m y cs' hm h1 h2 => op_ex m cs' y h1 h2
    obtain rfl := List.cons.inj e5 |>.1
    obtain ⟨v6, A6, k6, e6, g6, r6, d6⟩ := op_rows strD Tryz.underlying51 ce_str (by omega) by_str f6 hw.right.right.right.right.right.right.left fun m y cs' hm h1 _ => by
      obtain ⟨s, rfl⟩ := op_str Tryz.underlying9 h1
      exact ⟨s, rfl, trivial⟩
    obtain rfl := List.cons.inj e6 |>.1
    obtain ⟨v7, A7, k7, e7, g7, r7, d7⟩ := op_rows St.d Tryz.underlying40 ce_stE (by omega) by_stE f7 hw.right.right.right.right.right.right.right.left fun m' y cs' hm h1 h2 => ih m' (by omega) cs' y h1 h2
    obtain rfl := List.cons.inj e7 |>.1
    obtain ⟨v8, A8, k8, e8, g8, r8, d8⟩ := op_rows St.d Tryz.underlying40 ce_stE (by omega) by_stE f8 hw.right.right.right.right.right.right.right.right.left fun m' y cs' hm h1 h2 => ih m' (by omega) cs' y h1 h2
    obtain rfl := List.cons.inj e8 |>.1
    exact ⟨.mk v0 v1 v2 v3 v4 v5 v6 v7 v8, rfl, rfl, rfl, rfl, rfl, ⟨A5, k5, by rw [Ex.ds_length], by rw [Ex.ds_length]; exact g5, by rw [Ex.ds_length]; exact r5, by rw [Ex.ds_eq]; exact d5⟩, ⟨A6, k6, by rw [List.length_map], by rw [List.length_map]; exact g6, by rw [List.length_map]; exact r6, d6⟩, ⟨A7, k7, by rw [St.ds_length], by rw [St.ds_length]; exact g7, by rw [St.ds_length]; exact r7, by rw [St.ds_eq]; exact d7⟩, ⟨A8, k8, by rw [St.ds_length], by rw [St.ds_length]; exact g8, by rw [St.ds_length]; exact r8, by rw [St.ds_eq]; exact d8⟩, trivial⟩

set_option maxRecDepth 100000 in
theorem op_pa (fuel : Nat) : ∀ (cs : List Value) (x : DataW H × List MemPlace), Trd enc w fuel 50 cs = some x → Light (x.1.weights Tryz.prog 50) → ∃ e : Pa, RdCs (InW w) w e.d cs
  := by
  induction fuel using Nat.strongRecOn with
  | ind fuel ih =>
    intro cs x h hw
    obtain ⟨xs, m, hm, rfl, hl, hxl, hf⟩ := DataW.trod_struct Tryz.underlying50 h
    subst hm
    rw [ce_paE] at hl
    match cs, hl, xs, hxl with
    | [c0, c1, c2, c3], _, [y0, y1, y2, y3], _ =>
    simp only [DataW.weights, Tryz.underlying50, List.map_cons, List.map_nil, DataW.weightsEach] at hw
    have f0 : Trd enc w m 9 [c0] = some y0 := fld (hf 0 _ rfl) rfl rfl ce_str rfl rfl
    have f1 : Trd enc w m 4 [c1] = some y1 := fld (hf 1 _ rfl) rfl rfl ce_bool rfl rfl
    have f2 : Trd enc w m 4 [c2] = some y2 := fld (hf 2 _ rfl) rfl rfl ce_bool rfl rfl
    have f3 : Trd enc w m 4 [c3] = some y3 := fld (hf 3 _ rfl) rfl rfl ce_bool rfl rfl
    obtain ⟨v0, e0⟩ := op_str Tryz.underlying9 f0
    obtain rfl := List.cons.inj e0 |>.1
    obtain ⟨v1, e1⟩ := op_bool Tryz.underlying4 f1
    obtain rfl := List.cons.inj e1 |>.1
    obtain ⟨v2, e2⟩ := op_bool Tryz.underlying4 f2
    obtain rfl := List.cons.inj e2 |>.1
    obtain ⟨v3, e3⟩ := op_bool Tryz.underlying4 f3
    obtain rfl := List.cons.inj e3 |>.1
    exact ⟨⟨v0, v1, v2, v3⟩, rfl, rfl, rfl, rfl, trivial⟩

set_option maxRecDepth 100000 in
theorem op_fu (fuel : Nat) : ∀ (cs : List Value) (x : DataW H × List MemPlace), Trd enc w fuel 44 cs = some x → Light (x.1.weights Tryz.prog 44) → ∃ e : Fu, RdCs (InW w) w e.d cs
  := by
  induction fuel using Nat.strongRecOn with
  | ind fuel ih =>
    intro cs x h hw
    obtain ⟨xs, m, hm, rfl, hl, hxl, hf⟩ := DataW.trod_struct Tryz.underlying44 h
    subst hm
    rw [ce_fuE] at hl
    match cs, hl, xs, hxl with
    | [c0, c1, c2, c3, c4], _, [y0, y1, y2, y3, y4], _ =>
    simp only [DataW.weights, Tryz.underlying44, List.map_cons, List.map_nil, DataW.weightsEach] at hw
    have f0 : Trd enc w m 9 [c0] = some y0 := fld (hf 0 _ rfl) rfl rfl ce_str rfl rfl
    have f1 : Trd enc w m 41 [c1] = some y1 := fld (hf 1 _ rfl) rfl rfl ce_pa rfl rfl
    have f2 : Trd enc w m 40 [c2] = some y2 := fld (hf 2 _ rfl) rfl rfl ce_st rfl rfl
    have f3 : Trd enc w m 4 [c3] = some y3 := fld (hf 3 _ rfl) rfl rfl ce_bool rfl rfl
    have f4 : Trd enc w m 42 [c4] = some y4 := fld (hf 4 _ rfl) rfl rfl ce_ex rfl rfl
    obtain ⟨v0, e0⟩ := op_str Tryz.underlying9 f0
    obtain rfl := List.cons.inj e0 |>.1
    obtain ⟨v1, A1, k1, e1, g1, r1, d1⟩ := op_rows Pa.d Tryz.underlying41 ce_paE (by omega) by_paE f1 hw.right.left fun m y cs' hm h1 h2 => op_pa m cs' y h1 h2
    obtain rfl := List.cons.inj e1 |>.1
    obtain ⟨v2, A2, k2, e2, g2, r2, d2⟩ := op_rows St.d Tryz.underlying40 ce_stE (by omega) by_stE f2 hw.right.right.left fun m y cs' hm h1 h2 => op_st m cs' y h1 h2
    obtain rfl := List.cons.inj e2 |>.1
    obtain ⟨v3, e3⟩ := op_bool Tryz.underlying4 f3
    obtain rfl := List.cons.inj e3 |>.1
    obtain ⟨v4, A4, k4, e4, g4, r4, d4⟩ := op_rows Ex.d Tryz.underlying42 ce_exE (by omega) by_exE f4 hw.right.right.right.right.left fun m y cs' hm h1 h2 => op_ex m cs' y h1 h2
    obtain rfl := List.cons.inj e4 |>.1
    exact ⟨⟨v0, v1, v2, v3, v4⟩, rfl, ⟨A1, k1, by rw [List.length_map], by rw [List.length_map]; exact g1, by rw [List.length_map]; exact r1, d1⟩, ⟨A2, k2, by rw [St.ds_length], by rw [St.ds_length]; exact g2, by rw [St.ds_length]; exact r2, by rw [St.ds_eq]; exact d2⟩, rfl, ⟨A4, k4, by rw [Ex.ds_length], by rw [Ex.ds_length]; exact g4, by rw [Ex.ds_length]; exact r4, by rw [Ex.ds_eq]; exact d4⟩, trivial⟩

set_option maxRecDepth 100000 in
theorem op_prog (fuel : Nat) (v : Value) (cs : List Value) (x : DataW H × List MemPlace) (h : Trd enc w fuel 24 cs = some x) (hw : Light (x.1.weights Tryz.prog 24)) :
    ∃ (P : List Fu) (A : Option Addr) (c : Nat), cs = [.slice A P.length c] ∧ P.length ≤ c ∧ P.length * 96 ≤ reach ∧ RdRows (InW w) w 5 A 0 (P.map Fu.d) := by
  obtain ⟨xs, m, hm, rfl, hl, hxl, hf⟩ := DataW.trod_struct Tryz.underlying24 h
  rw [ce_pr] at hl
  match cs, hl, xs, hxl with
  | [c0], _, [y0], _ =>
  simp only [DataW.weights, Tryz.underlying24, List.map_cons, List.map_nil, DataW.weightsEach] at hw
  have f0 : Trd enc w m 22 [c0] = some y0 := fld (hf 0 _ rfl) rfl rfl ce_fu rfl rfl
  exact op_rows Fu.d Tryz.underlying22 ce_fuE (by omega) by_fuE f0 hw.left fun m y cs' hm h1 h2 => op_fu m cs' y h1 h2
end
end Go.Proofs.YtnlnejpioijkiaaGreatDoor
/- The row of ScopeTells, proved: for every program that comes in the call returns true, and the program reads as it did. Conditions: those of the row (errors.errorType holds the handle of the type error). -/
namespace Go.Proofs.YtnlnejpioijkiaaGreatDoor
open Go.RowKit
set_option linter.unusedVariables false
set_option linter.unusedSimpArgs false
open Go.ChangeShapes Go.WideShapes
theorem own_knob : ownKnob Tryz.prog.godebug = none := by kernel_rfl
theorem et_glob : Program.globalNamed Tryz.prog "errors.errorType" = some 0 := by kernel_rfl
theorem et_type : (Tryz.prog.cutTypes.find? (·.1 == "internal/reflectlite.rtype")).map (·.2) = some 130 := by kernel_rfl
theorem et_rows : ((List.range (325 - 100)).filter fun t => Program.rowNamed Tryz.prog t [101, 114, 114, 111, 114]) = [29] := by kernel_rfl
theorem et_size : Tryz.prog.types.size = 325 - 100 := by kernel_rfl
theorem handle_of_laid {W : World} (h : laidMetH Tryz.prog [("errors.errorType", Rows.laid_errors_errorType)] W) : W.cell? ⟨0, 0, none⟩ = some (rty 29) := by
  have h' : laidMet Tryz.prog [] W ∧ handlesMet Tryz.prog [("errors.errorType", Rows.laid_errors_errorType)] W := h
  obtain ⟨name, u, ty, e1, e2, e3, e4, e5⟩ := h'.2 _ (List.mem_singleton.2 rfl)
  have en : name = [101, 114, 114, 111, 114] := (Option.some.inj e1).symm
  subst en
  obtain rfl := Option.some.inj (et_type.symm.trans e2)
  have hm : ty ∈ (List.range (325 - 100)).filter fun t => Program.rowNamed Tryz.prog t [101, 114, 114, 111, 114] := List.mem_filter.2 ⟨List.mem_range.2 (by rw [← et_size]; exact e3), e4⟩
  rw [et_rows] at hm
  obtain rfl := List.mem_singleton.1 hm
  have hh : typeHandle Tryz.prog 29 = hdl 29 := by kernel_rfl
  rw [hh] at e5
  simpa using World.var?_cell et_glob e5 0
/-- A world that meets the condition: the settled one, the variable's cell laid. -/
noncomputable def laidWorld (os : Os) : World :=
  let w0 := World.holding Tryz.prog os ⟨#[], #[], []⟩
  { w0 with heap := w0.heap.modify 0 fun
      | .cells _ t frozen => .cells #[rty 29] t frozen
      | o => o }
theorem laidWorld_met (os : Os) (args : Array Value) : laidMetH Tryz.prog [("errors.errorType", Rows.laid_errors_errorType)] ((laidWorld os).forCall (fun _ _ => 0) ⟨#[], args, []⟩).memory :=
  laidMetH_of_parts (laidMet_nil _ _) (by kernel_rfl)
theorem laidOut : laidOutB Tryz.prog = true := by kernel_rfl
theorem readProg : Program.readableRec Tryz.prog 24 = true := by kernel_rfl
theorem rowProg : 24 < Tryz.prog.types.size := by rw [et_size]; omega
theorem Fr.below {w w' : World} (h : Fr Non w w') : Below w.heap.size w w' := ⟨h.os, h.tape, h.output, h.size, fun k hk => h.block k hk (fun h => h)⟩
section
variable {H : Type} {enc : TypeId × Value → H} {P : Program}
/-- What the row asks behind a call that changed nothing that was there. -/
theorem post_of_fr {f : Func} {s : ChangeSpec} {apart fresh handsOn again : Bool} {W W' : World} {args : Array Value} {v : Value} {ds gs : List (DataW H)} {before : List MemPlace} (hfr : Fr Non W W')
    (hW : DataW.Whole enc P f.params.toList s.vars apart W args.toList ds gs before)
    (hres : ∀ (b : Nat) (sp : Nat → Bool) (hd : Bool), DataW.TrodAll enc P W' b sp hd f.resultTypes.toList (v.resultList f.resultTypes.size) (s.fn H (ds ++ gs)).results [])
    (hargs : ∀ sp : Nat → Bool, (∀ p ∈ before, sp p.block = true) → DataW.TrodAll enc P W' 0 sp true f.params.toList args.toList (s.fn H (ds ++ gs)).args before)
    (hvars : ∀ sp : Nat → Bool, DataW.TrodVars enc P W' sp s.vars (s.fn H (ds ++ gs)).vars [])
    (hok : ∀ (j : Nat) (t : TypeId) (r : Value), f.resultTypes[j]? = some t → (v.resultList f.resultTypes.size)[j]? = some r → Value.okWide P W' .any 0 t r) :
    s.post enc P f apart fresh handsOn again W args v W' := by
  have hold : ∀ p ∈ before, (fun b => decide (b < W.heap.size)) p.block = true := fun p hp => by simpa using hW.lt p hp
  have hlt : ∀ p ∈ before, p.block < W.heap.size := hW.lt
  refine ⟨ds, gs, before, [], before, [], hW, hres _ _ _, hargs _ hold, hvars _, World.keptBut_mono (fun p hp => ⟨hp, ?_⟩) (hfr.below.frame (· ∈ before)), fun _ => ?_⟩
  · exact Or.inr (Or.inl hp)
  · obtain ⟨_, _, _, _, _, hz, hn⟩ := hW
    refine ⟨hok, _, _, ([] ++ before) ++ [], ⟨[] ++ before, [], trodAll_append (hargs _ (fun _ _ => rfl)) (hres _ _ _), hvars _, rfl, ?_, ?_⟩, ?_⟩
    · intro b off hp
      have hp' : MemPlace.cell b off ∈ before := by simpa using hp
      have hb : b < W.heap.size := hlt _ hp'
      have e : W'.frozen? ⟨b, off, none⟩ = W.frozen? ⟨b, off, none⟩ := by unfold World.frozen?; simp only; rw [hfr.block b hb (fun h => h)]
      rw [e]
      exact hz b off hp'
    · intro ha
      simpa using hn ha
    · intro p hp _
      simpa using hp
end
set_option maxRecDepth 100000 in
set_option maxHeartbeats 4000000 in
theorem law_lifted (os : Os) (started : os.Started) (H : Type) (enc : TypeId × Value → H) :
    ReturnsInHanded {} Tryz.checked os 3 .any (fun w args => (Rows.scopeTellsSpec.pre enc Tryz.prog Tryz.f3 [] false w args ∧ laidMetH Tryz.prog [("errors.errorType", Rows.laid_errors_errorType)] w) ∧ sizedMet enc Tryz.prog Tryz.f3 (OpenSpec.ofChange Rows.scopeTellsSpec) false w args)
      (Rows.scopeTellsSpec.post enc Tryz.prog Tryz.f3 false true false false) := by
  refine returnsInHanded_of_change_and (C := Tryz.checked) (X := fun w _ => laidMetH Tryz.prog [("errors.errorType", Rows.laid_errors_errorType)] w) (fun _ _ _ hh h => h.of_heap hh) own_knob started (by kernel_rfl) Tryz.func3
    (ChangeSpec.witness_at (enc := enc) (C := Tryz.checked) (os := os) (X := fun w _ => laidMetH Tryz.prog [("errors.errorType", Rows.laid_errors_errorType)] w) false (laidWorld os) #[.agg #[.slice none 0 0]] 8 rfl (by kernel_rfl) (by kernel_rfl) (by kernel_rfl) (by kernel_rfl) (by kernel_rfl) (laidWorld_met os _)) ?_
  intro W base args ds gs before hval0 hW _ hsz hL _
  have hval : ∀ (j : Nat) t v, Tryz.f3.params[j]? = some t → args[j]? = some v → Value.okWide Tryz.prog W .any base t v := hval0
  have hW' := hW
  obtain ⟨p, q, hA0, hV0, rfl, hfz, hnd⟩ := hW
  have hA : DataW.TrodAll enc Tryz.prog W 0 (fun _ => true) true Tryz.f3.params.toList args.toList ds p := hA0
  have hV : DataW.TrodVars enc Tryz.prog W (fun _ => true) [] gs q := hV0
  rw [Tryz.params3] at hA hval
  obtain ⟨v0, d0, rfl, rfl, h0⟩ := trodAll_one hA
  obtain ⟨rfl, rfl⟩ : gs = [] ∧ q = [] := by
    cases gs with
    | nil => exact ⟨rfl, hV⟩
    | cons g r => exact absurd hV (by intro h; cases h)
  have hval1 := hval 0 24 v0 rfl rfl
  obtain ⟨cs, rfl⟩ : ∃ cs, v0 = .agg cs := by
    unfold Value.okWide at hval1
    rw [Tryz.underlying24] at hval1
    obtain ⟨cs, h, _⟩ := hval1
    exact ⟨cs, h⟩
  have h0k := h0
  obtain ⟨fuel, hf⟩ := h0
  have hlight : Light (d0.weights Tryz.prog 24) := by
    have hsz' : (DataW.weightsEach Tryz.prog (Tryz.f3.params.toList ++ Rows.scopeTellsSpec.plain.varTypes Tryz.prog) ([d0] ++ [])).all (· ≤ reachBytes) = true := hsz
    rw [Tryz.params3] at hsz'
    have : Light (DataW.weightsEach Tryz.prog (#[24].toList ++ Rows.scopeTellsSpec.plain.varTypes Tryz.prog) ([d0] ++ [])) := hsz'
    exact Light.left this
  obtain ⟨P, A, c, hcs, hc1, hc2, hrd⟩ := op_prog fuel (.agg cs) _ _ hf hlight
  have hcs' : cs = #[.slice A P.length c] := by
    have : cs.toList = [.slice A P.length c] := hcs
    rw [← Array.toList_inj]; exact this
  subst hcs'
  refine (scopeTells_any P (InW W) A c W hrd hc2 hc1 (fun q hq => hq) (handle_of_laid hL)).mono fun e W' ⟨he, hw⟩ => ?_
  subst he
  have e1 : Rows.scopeTellsSpec.fn H ([d0] ++ []) = { results := [.lit (.bool true)], args := [d0] } := by simp [Rows.scopeTellsSpec]
  have hlt : ∀ x ∈ p, x.block < W.heap.size := fun x hx => hW'.lt x (by simpa using hx)
  refine ⟨_, rfl, post_of_fr hw hW' ?_ ?_ ?_ ?_⟩
  · intro b sp hd
    rw [e1]
    exact trodAll_mk1 (shut_bool Tryz.underlying4 true)
  · intro sp hsp
    rw [e1, List.append_nil, Tryz.params3]
    exact trodAll_mk1 (WideElems.Trod_stays laidOut readProg rowProg h0k (fun x hx => hw.below.same (hlt x hx)) (fun x hx => hsp x (by simpa using hx)))
  · intro sp
    rw [e1]; rfl
  · exact ok_one (by kernel_rfl) rfl (okWide_bool_mk Tryz.underlying4 true)
end Go.Proofs.YtnlnejpioijkiaaGreatDoor
