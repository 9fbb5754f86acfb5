/- Contracts and laws, file 1: Base, RefA, RefB, Own, RefC -/
import Derived.Test.YtnlnejpioijkiaaGreatDoorProg
import Derived.WalkKit
import Derived.WalkSpells
import Derived.WalkLawsBesides
import Derived.Lib.Hide
import Derived.Deep.QuietTactic
import Derived.BigQuiet
import Derived.Deep.DeepAppendWide
/- Base: frames of worlds, data that lies in memory. -/
namespace Go.Proofs.YtnlnejpioijkiaaGreatDoor
open Go.RowKit
set_option linter.unusedVariables false

/-- w' has all blocks of w, but for those in S, as they were. -/
structure Fr (S : Nat → Prop) (w w' : World) : Prop where
  os : w'.os = w.os
  tape : w'.tape = w.tape
  output : w'.output = w.output
  size : w.heap.size ≤ w'.heap.size
  block : ∀ k, k < w.heap.size → ¬ S k → w'.heap[k]? = w.heap[k]?

def Non : Nat → Prop := fun _ => False
theorem non (k : Nat) : ¬ Non k := fun h => h

theorem Fr.refl (S : Nat → Prop) (w : World) : Fr S w w := ⟨rfl, rfl, rfl, Nat.le_refl _, fun _ _ _ => rfl⟩
theorem Fr.trans {S : Nat → Prop} {a b c : World} (h : Fr S a b) (k : Fr S b c) : Fr S a c :=
  ⟨k.os.trans h.os, k.tape.trans h.tape, k.output.trans h.output, Nat.le_trans h.size k.size,
   fun i hi hs => (k.block i (Nat.lt_of_lt_of_le hi h.size) hs).trans (h.block i hi hs)⟩
theorem Fr.mono {S T : Nat → Prop} {a b : World} (h : Fr S a b) (hs : ∀ k, k < a.heap.size → S k → T k) : Fr T a b :=
  ⟨h.os, h.tape, h.output, h.size, fun i hi hn => h.block i hi (fun hx => hn (hs _ hi hx))⟩
theorem Fr.non {S : Nat → Prop} {a b : World} (h : Fr Non a b) : Fr S a b := h.mono fun _ _ hx => hx.elim
theorem Fr.drew {S : Nat → Prop} {a b : World} (h : Fr S a b) : Fr S a b.drew := ⟨h.os, h.tape, h.output, h.size, h.block⟩
theorem Fr.drewN {S : Nat → Prop} {a b : World} (h : Fr S a b) (n : Nat) : Fr S a (b.drewN n) := ⟨h.os, h.tape, h.output, h.size, h.block⟩
theorem Fr.alloc {S : Nat → Prop} {a b : World} (h : Fr S a b) (o : Obj) : Fr S a (b.alloc o) :=
  h.trans ⟨rfl, rfl, rfl, by simp, fun k hk _ => Below.heap_alloc _ _ _ hk⟩
theorem Fr.setCell {S : Nat → Prop} {a b : World} (h : Fr S a b) (p : Addr) (u : Value) (hp : S p.block ∨ a.heap.size ≤ p.block) : Fr S a (b.setCell p u) :=
  ⟨h.os, h.tape, h.output, by simpa [World.setCell] using h.size, fun k hk hn => by
    rw [Below.heap_setCell _ _ _ _ (by rintro rfl; rcases hp with hp | hp; exact hn hp; omega)]
    exact h.block k hk hn⟩
/-- A callee's frame, from the world of the call on. -/
theorem Fr.then {S T : Nat → Prop} {a b c : World} (h : Fr S a b) (k : Fr T b c) (hs : ∀ k, k < a.heap.size → T k → S k) : Fr S a c :=
  ⟨k.os.trans h.os, k.tape.trans h.tape, k.output.trans h.output, Nat.le_trans h.size k.size,
   fun i hi hn => (k.block i (Nat.lt_of_lt_of_le hi h.size) (fun ht => hn (hs i hi ht))).trans (h.block i hi hn)⟩
theorem Fr.grown {S : Nat → Prop} {a b c : World} {row : Option Nat} (h : Fr S a b) (hg : b.grownBy c row) (hr : ∀ k, row = some k → S k ∨ a.heap.size ≤ k) : Fr S a c :=
  ⟨hg.os.trans h.os, hg.tape.trans h.tape, hg.output.trans h.output, Nat.le_trans h.size hg.size,
   fun i hi hn => (hg.block i (Nat.lt_of_lt_of_le hi h.size) (fun e => by rcases hr i e.symm with hx | hx; exact hn hx; omega)).trans (h.block i hi hn)⟩
theorem Fr.cell {S : Nat → Prop} {w w' : World} (h : Fr S w w') {p : Addr} (hp : p.block < w.heap.size) (hn : ¬ S p.block) : w'.cell? p = w.cell? p :=
  World.cell?_of_block (w := w) (h.block p.block hp hn)
theorem Fr.cell' {S : Nat → Prop} {w w' : World} (h : Fr S w w') {p : Addr} {v : Value} (hc : w.cell? p = some v) (hn : ¬ S p.block) : w'.cell? p = some v :=
  (h.cell (World.block_lt_of_cell? w p hc) hn).trans hc
theorem Fr.grownBy {w w' : World} (h : Fr Non w w') : w.grownBy w' none :=
  ⟨h.os, h.tape, h.output, h.size, fun k hk _ => h.block k hk (fun x => x)⟩

/-! ### Data in memory: one cell a datum; a row of rows of cells behind a slice -/
inductive D where
  | v (x : Value)
  | row (sz bytes : Nat) (l : List (List D))

def reach : Nat := 140737488351232

mutual
/-- The cell u holds the datum; all that it leads to lies in blocks that are ok. -/
def RdC (ok : Nat → Prop) (w : World) : D → Value → Prop
  | .v x, u => u = x
  | .row sz by_ l, u => ∃ A c, u = .slice A l.length c ∧ l.length ≤ c ∧ l.length * by_ ≤ reach ∧ RdRows ok w sz A 0 l
def RdRows (ok : Nat → Prop) (w : World) (sz : Nat) (A : Option Addr) : Nat → List (List D) → Prop
  | _, [] => True
  | i, ds :: l => (∃ b o, A = some ⟨b, o, none⟩ ∧ ok b ∧ ds.length = sz ∧ RdAt ok w b (o + i * sz) ds) ∧ RdRows ok w sz A (i + 1) l
def RdAt (ok : Nat → Prop) (w : World) (b : Nat) : Nat → List D → Prop
  | _, [] => True
  | o, d :: ds => (∃ u, w.cell? ⟨b, o, none⟩ = some u ∧ RdC ok w d u) ∧ RdAt ok w b (o + 1) ds
end

mutual
theorem RdC.mono {ok ok' : Nat → Prop} {w w' : World} (hc : ∀ b o v, ok b → w.cell? ⟨b, o, none⟩ = some v → w'.cell? ⟨b, o, none⟩ = some v) (hk : ∀ b, ok b → ok' b) :
    ∀ (d : D) (u : Value), RdC ok w d u → RdC ok' w' d u
  | .v _, _, h => h
  | .row sz by_ l, u, ⟨A, c, e, h1, h2, h3⟩ => ⟨A, c, e, h1, h2, RdRows.mono hc hk sz A 0 l h3⟩
theorem RdRows.mono {ok ok' : Nat → Prop} {w w' : World} (hc : ∀ b o v, ok b → w.cell? ⟨b, o, none⟩ = some v → w'.cell? ⟨b, o, none⟩ = some v) (hk : ∀ b, ok b → ok' b) (sz : Nat) (A : Option Addr) :
    ∀ (i : Nat) (l : List (List D)), RdRows ok w sz A i l → RdRows ok' w' sz A i l
  | _, [], _ => trivial
  | i, ds :: l, ⟨⟨b, o, e, h1, h2, h3⟩, h4⟩ => ⟨⟨b, o, e, hk _ h1, h2, RdAt.mono hc hk b h1 (o + i * sz) ds h3⟩, RdRows.mono hc hk sz A (i + 1) l h4⟩
theorem RdAt.mono {ok ok' : Nat → Prop} {w w' : World} (hc : ∀ b o v, ok b → w.cell? ⟨b, o, none⟩ = some v → w'.cell? ⟨b, o, none⟩ = some v) (hk : ∀ b, ok b → ok' b) (b : Nat) (hb : ok b) :
    ∀ (o : Nat) (l : List D), RdAt ok w b o l → RdAt ok' w' b o l
  | _, [], _ => trivial
  | o, d :: ds, ⟨⟨u, h1, h2⟩, h3⟩ => ⟨⟨u, hc b o u hb h1, RdC.mono hc hk d u h2⟩, RdAt.mono hc hk b hb (o + 1) ds h3⟩
end
theorem RdC.fr {S ok ok' : Nat → Prop} {w w' : World} {d : D} {u : Value} (h : RdC ok w d u) (hf : Fr S w w') (hs : ∀ b, ok b → ¬ S b) (hk : ∀ b, ok b → ok' b) : RdC ok' w' d u :=
  RdC.mono (fun b o v hb hcell => hf.cell' hcell (hs b hb)) hk d u h
theorem RdRows.fr {S ok ok' : Nat → Prop} {w w' : World} {sz : Nat} {A : Option Addr} {i : Nat} {l : List (List D)} (h : RdRows ok w sz A i l) (hf : Fr S w w') (hs : ∀ b, ok b → ¬ S b) (hk : ∀ b, ok b → ok' b) : RdRows ok' w' sz A i l :=
  RdRows.mono (fun b o v hb hcell => hf.cell' hcell (hs b hb)) hk sz A i l h

theorem RdRows.get {ok : Nat → Prop} {w : World} {sz : Nat} {A : Option Addr} : ∀ {l : List (List D)} {i : Nat}, RdRows ok w sz A i l → ∀ (k : Nat) (hk : k < l.length),
    ∃ b o, A = some ⟨b, o, none⟩ ∧ ok b ∧ l[k].length = sz ∧ RdAt ok w b (o + (i + k) * sz) l[k]
  | ds :: l, i, ⟨h, h'⟩, 0, _ => by simpa using h
  | ds :: l, i, ⟨h, h'⟩, k + 1, hk => by
    have hk' : k < l.length := by simpa using hk
    have := RdRows.get h' k hk'
    simpa [Nat.add_assoc, Nat.add_comm 1 k] using this
theorem RdRows.get0 {ok : Nat → Prop} {w : World} {sz : Nat} {A : Option Addr} {l : List (List D)} (h : RdRows ok w sz A 0 l) (k : Nat) (hk : k < l.length) :
    ∃ b o, A = some ⟨b, o, none⟩ ∧ ok b ∧ l[k].length = sz ∧ RdAt ok w b (o + k * sz) l[k] := by
  simpa using h.get k hk
theorem RdRows.mk {ok : Nat → Prop} {w : World} {sz : Nat} {b o : Nat} (hb : ok b) : ∀ {l : List (List D)} {i : Nat}, (∀ (k : Nat) (hk : k < l.length), l[k].length = sz ∧ RdAt ok w b (o + (i + k) * sz) l[k]) →
    RdRows ok w sz (some ⟨b, o, none⟩) i l
  | [], _, _ => trivial
  | ds :: l, i, h => ⟨⟨b, o, rfl, hb, by have := h 0 (Nat.zero_lt_succ _); simp only [Nat.add_zero] at this; exact this⟩, RdRows.mk hb fun k hk => by
      have := h (k + 1) (by simpa using hk)
      simpa [Nat.add_assoc, Nat.add_comm 1 k] using this⟩

/-! ### The trees -/
inductive Ex where
  | mk (kind : UInt8) (num : UInt64) (name : ByteArray) (op : UInt8) (kids : List Ex)
def Ex.kind : Ex → UInt8 | .mk k _ _ _ _ => k
def Ex.num : Ex → UInt64 | .mk _ n _ _ _ => n
def Ex.name : Ex → ByteArray | .mk _ _ s _ _ => s
def Ex.op : Ex → UInt8 | .mk _ _ _ o _ => o
def Ex.kids : Ex → List Ex | .mk _ _ _ _ l => l
inductive St where
  | mk (kind : UInt8) (name frm : ByteArray) (sec mt : Bool) (ex : List Ex) (args : List ByteArray) (body els : List St)
def St.kind : St → UInt8 | .mk k _ _ _ _ _ _ _ _ => k
def St.name : St → ByteArray | .mk _ s _ _ _ _ _ _ _ => s
def St.frm : St → ByteArray | .mk _ _ s _ _ _ _ _ _ => s
def St.sec : St → Bool | .mk _ _ _ s _ _ _ _ _ => s
def St.mt : St → Bool | .mk _ _ _ _ s _ _ _ _ => s
def St.ex : St → List Ex | .mk _ _ _ _ _ l _ _ _ => l
def St.args : St → List ByteArray | .mk _ _ _ _ _ _ l _ _ => l
def St.body : St → List St | .mk _ _ _ _ _ _ _ l _ => l
def St.els : St → List St | .mk _ _ _ _ _ _ _ _ l => l
structure Pa where
  name : ByteArray
  buf : Bool
  sec : Bool
  mt : Bool
structure Fu where
  name : ByteArray
  params : List Pa
  body : List St
  sec : Bool
  ret : List Ex

abbrev vu8 (k : UInt8) : Value := .int .u8 (k.toNat : Int)
abbrev vu64 (k : UInt64) : Value := .int .u64 (k.toNat : Int)
def strD (s : ByteArray) : List D := [.v (.string s)]
mutual
def Ex.d : Ex → List D
  | .mk k n s o kids => [.v (vu8 k), .v (vu64 n), .v (.string s), .v (vu8 o), .row 5 64 (Ex.ds kids)]
def Ex.ds : List Ex → List (List D)
  | [] => []
  | e :: l => e.d :: Ex.ds l
end
mutual
def St.d : St → List D
  | .mk k n f s m ex args body els => [.v (vu8 k), .v (.string n), .v (.string f), .v (.bool s), .v (.bool m), .row 5 64 (Ex.ds ex), .row 1 16 (args.map strD), .row 9 144 (St.ds body), .row 9 144 (St.ds els)]
def St.ds : List St → List (List D)
  | [] => []
  | e :: l => e.d :: St.ds l
end
def Pa.d (p : Pa) : List D := [.v (.string p.name), .v (.bool p.buf), .v (.bool p.sec), .v (.bool p.mt)]
def Fu.d (f : Fu) : List D := [.v (.string f.name), .row 4 24 (f.params.map Pa.d), .row 9 144 (St.ds f.body), .v (.bool f.sec), .row 5 64 (Ex.ds f.ret)]
theorem Ex.ds_eq : ∀ l, Ex.ds l = l.map Ex.d
  | [] => rfl
  | e :: l => by simp [Ex.ds, Ex.ds_eq l]
theorem St.ds_eq : ∀ l, St.ds l = l.map St.d
  | [] => rfl
  | e :: l => by simp [St.ds, St.ds_eq l]
@[simp] theorem Ex.ds_length (l : List Ex) : (Ex.ds l).length = l.length := by simp [Ex.ds_eq]
@[simp] theorem St.ds_length (l : List St) : (St.ds l).length = l.length := by simp [St.ds_eq]

/-- The k-th expression of a row. -/
theorem at_ex {ok : Nat → Prop} {w : World} {A : Option Addr} {l : List Ex} (h : RdRows ok w 5 A 0 (Ex.ds l)) (k : Nat) (hk : k < l.length) :
    ∃ b o A' c, A = some ⟨b, o, none⟩ ∧ ok b ∧ w.cell? ⟨b, o + k * 5, none⟩ = some (vu8 l[k].kind) ∧ w.cell? ⟨b, o + k * 5 + 1, none⟩ = some (vu64 l[k].num) ∧
      w.cell? ⟨b, o + k * 5 + 2, none⟩ = some (.string l[k].name) ∧ w.cell? ⟨b, o + k * 5 + 3, none⟩ = some (vu8 l[k].op) ∧
      w.cell? ⟨b, o + k * 5 + 4, none⟩ = some (.slice A' l[k].kids.length c) ∧ l[k].kids.length ≤ c ∧ l[k].kids.length * 64 ≤ reach ∧ RdRows ok w 5 A' 0 (Ex.ds l[k].kids) := by
  obtain ⟨b, o, e, hb, hl, hr⟩ := h.get0 k (by simpa using hk)
  have hd : (Ex.ds l)[k]'(by simpa using hk) = l[k].d := by simp [Ex.ds_eq]
  rw [hd] at hr
  cases hx : l[k] with
  | mk kd n s op kids =>
    rw [hx] at hr
    simp only [Ex.d, RdAt, RdC] at hr
    obtain ⟨⟨_, h0, rfl⟩, ⟨_, h1, rfl⟩, ⟨_, h2, rfl⟩, ⟨_, h3, rfl⟩, ⟨_, h4, A', c, rfl, hc1, hc2, hk'⟩, _⟩ := hr
    rw [Ex.ds_length] at h4 hc1 hc2
    exact ⟨b, o, A', c, e, hb, h0, h1, h2, h3, h4, hc1, hc2, hk'⟩
theorem at_str {ok : Nat → Prop} {w : World} {A : Option Addr} {l : List ByteArray} (h : RdRows ok w 1 A 0 (l.map strD)) (k : Nat) (hk : k < l.length) :
    ∃ b o, A = some ⟨b, o, none⟩ ∧ ok b ∧ w.cell? ⟨b, o + k, none⟩ = some (.string l[k]) := by
  obtain ⟨b, o, e, hb, hl, hr⟩ := h.get0 k (by simpa using hk)
  simp only [List.getElem_map, strD, RdAt, RdC, Nat.mul_one] at hr
  obtain ⟨⟨_, h0, rfl⟩, _⟩ := hr
  exact ⟨b, o, e, hb, h0⟩
theorem at_pa {ok : Nat → Prop} {w : World} {A : Option Addr} {l : List Pa} (h : RdRows ok w 4 A 0 (l.map Pa.d)) (k : Nat) (hk : k < l.length) :
    ∃ b o, A = some ⟨b, o, none⟩ ∧ ok b ∧ w.cell? ⟨b, o + k * 4, none⟩ = some (.string l[k].name) ∧ w.cell? ⟨b, o + k * 4 + 1, none⟩ = some (.bool l[k].buf) ∧
      w.cell? ⟨b, o + k * 4 + 2, none⟩ = some (.bool l[k].sec) ∧ w.cell? ⟨b, o + k * 4 + 3, none⟩ = some (.bool l[k].mt) := by
  obtain ⟨b, o, e, hb, hl, hr⟩ := h.get0 k (by simpa using hk)
  simp only [List.getElem_map, Pa.d, RdAt, RdC] at hr
  obtain ⟨⟨_, h0, rfl⟩, ⟨_, h1, rfl⟩, ⟨_, h2, rfl⟩, ⟨_, h3, rfl⟩, _⟩ := hr
  exact ⟨b, o, e, hb, h0, h1, h2, h3⟩
theorem at_st {ok : Nat → Prop} {w : World} {A : Option Addr} {l : List St} (h : RdRows ok w 9 A 0 (St.ds l)) (k : Nat) (hk : k < l.length) :
    ∃ b o A1 c1 A2 c2 A3 c3 A4 c4, A = some ⟨b, o, none⟩ ∧ ok b ∧ w.cell? ⟨b, o + k * 9, none⟩ = some (vu8 l[k].kind) ∧ w.cell? ⟨b, o + k * 9 + 1, none⟩ = some (.string l[k].name) ∧
      w.cell? ⟨b, o + k * 9 + 2, none⟩ = some (.string l[k].frm) ∧ w.cell? ⟨b, o + k * 9 + 3, none⟩ = some (.bool l[k].sec) ∧ w.cell? ⟨b, o + k * 9 + 4, none⟩ = some (.bool l[k].mt) ∧
      w.cell? ⟨b, o + k * 9 + 5, none⟩ = some (.slice A1 l[k].ex.length c1) ∧ w.cell? ⟨b, o + k * 9 + 6, none⟩ = some (.slice A2 l[k].args.length c2) ∧
      w.cell? ⟨b, o + k * 9 + 7, none⟩ = some (.slice A3 l[k].body.length c3) ∧ w.cell? ⟨b, o + k * 9 + 8, none⟩ = some (.slice A4 l[k].els.length c4) ∧
      (l[k].ex.length ≤ c1 ∧ l[k].ex.length * 64 ≤ reach ∧ RdRows ok w 5 A1 0 (Ex.ds l[k].ex)) ∧ (l[k].args.length ≤ c2 ∧ l[k].args.length * 16 ≤ reach ∧ RdRows ok w 1 A2 0 (l[k].args.map strD)) ∧
      (l[k].body.length ≤ c3 ∧ l[k].body.length * 144 ≤ reach ∧ RdRows ok w 9 A3 0 (St.ds l[k].body)) ∧ (l[k].els.length ≤ c4 ∧ l[k].els.length * 144 ≤ reach ∧ RdRows ok w 9 A4 0 (St.ds l[k].els)) := by
  obtain ⟨b, o, e, hb, hl, hr⟩ := h.get0 k (by simpa using hk)
  have hd : (St.ds l)[k]'(by simpa using hk) = l[k].d := by simp [St.ds_eq]
  rw [hd] at hr
  cases hx : l[k] with
  | mk kd n f s m ex args body els =>
    rw [hx] at hr
    simp only [St.d, RdAt, RdC] at hr
    obtain ⟨⟨_, h0, rfl⟩, ⟨_, h1, rfl⟩, ⟨_, h2, rfl⟩, ⟨_, h3, rfl⟩, ⟨_, h4, rfl⟩, ⟨_, h5, A1, c1, rfl, p1, q1, r1⟩, ⟨_, h6, A2, c2, rfl, p2, q2, r2⟩, ⟨_, h7, A3, c3, rfl, p3, q3, r3⟩, ⟨_, h8, A4, c4, rfl, p4, q4, r4⟩, _⟩ := hr
    rw [Ex.ds_length] at h5 p1 q1
    rw [List.length_map] at h6 p2 q2
    rw [St.ds_length] at h7 p3 q3 h8 p4 q4
    exact ⟨b, o, A1, c1, A2, c2, A3, c3, A4, c4, e, hb, h0, h1, h2, h3, h4, h5, h6, h7, h8, ⟨p1, q1, r1⟩, ⟨p2, q2, r2⟩, ⟨p3, q3, r3⟩, ⟨p4, q4, r4⟩⟩
theorem at_fu {ok : Nat → Prop} {w : World} {A : Option Addr} {l : List Fu} (h : RdRows ok w 5 A 0 (l.map Fu.d)) (k : Nat) (hk : k < l.length) :
    ∃ b o A1 c1 A2 c2 A3 c3, A = some ⟨b, o, none⟩ ∧ ok b ∧ w.cell? ⟨b, o + k * 5, none⟩ = some (.string l[k].name) ∧ w.cell? ⟨b, o + k * 5 + 1, none⟩ = some (.slice A1 l[k].params.length c1) ∧
      w.cell? ⟨b, o + k * 5 + 2, none⟩ = some (.slice A2 l[k].body.length c2) ∧ w.cell? ⟨b, o + k * 5 + 3, none⟩ = some (.bool l[k].sec) ∧ w.cell? ⟨b, o + k * 5 + 4, none⟩ = some (.slice A3 l[k].ret.length c3) ∧
      (l[k].params.length ≤ c1 ∧ l[k].params.length * 24 ≤ reach ∧ RdRows ok w 4 A1 0 (l[k].params.map Pa.d)) ∧ (l[k].body.length ≤ c2 ∧ l[k].body.length * 144 ≤ reach ∧ RdRows ok w 9 A2 0 (St.ds l[k].body)) ∧
      (l[k].ret.length ≤ c3 ∧ l[k].ret.length * 64 ≤ reach ∧ RdRows ok w 5 A3 0 (Ex.ds l[k].ret)) := by
  obtain ⟨b, o, e, hb, hl, hr⟩ := h.get0 k (by simpa using hk)
  simp only [List.getElem_map, Fu.d, RdAt, RdC] at hr
  obtain ⟨⟨_, h0, rfl⟩, ⟨_, h1, A1, c1, rfl, p1, q1, r1⟩, ⟨_, h2, A2, c2, rfl, p2, q2, r2⟩, ⟨_, h3, rfl⟩, ⟨_, h4, A3, c3, rfl, p3, q3, r3⟩, _⟩ := hr
  rw [List.length_map] at h1 p1 q1
  rw [St.ds_length] at h2 p2 q2
  rw [Ex.ds_length] at h4 p3 q3
  exact ⟨b, o, A1, c1, A2, c2, A3, c3, e, hb, h0, h1, h2, h3, h4, ⟨p1, q1, r1⟩, ⟨p2, q2, r2⟩, ⟨p3, q3, r3⟩⟩

/-! ### small pure facts -/
theorem all_true_of {α : Type} {p : α → Bool} {l : List α} (h : ∀ j (hj : j < l.length), p l[j] = true) : l.all p = true := by
  rw [List.all_eq_true]; intro x hx; obtain ⟨j, hj, rfl⟩ := List.mem_iff_getElem.1 hx; exact h j hj
theorem all_false_of {α : Type} {p : α → Bool} {l : List α} (k : Nat) (hk : k < l.length) (h : p l[k] = false) : l.all p = false := by
  rw [List.all_eq_false]; exact ⟨l[k], List.getElem_mem hk, by simp [h]⟩
theorem any_false_of {α : Type} {p : α → Bool} {l : List α} (h : ∀ j (hj : j < l.length), p l[j] = false) : l.any p = false := by
  rw [List.any_eq_false]; intro x hx; obtain ⟨j, hj, rfl⟩ := List.mem_iff_getElem.1 hx; simp [h j hj]
theorem any_true_of {α : Type} {p : α → Bool} {l : List α} (k : Nat) (hk : k < l.length) (h : p l[k] = true) : l.any p = true := by
  rw [List.any_eq_true]; exact ⟨l[k], List.getElem_mem hk, h⟩
theorem till {P : Nat → Prop} {k : Nat} (h : ∀ j, j < k → P j) (hk : P k) : ∀ j, j < k + 1 → P j := fun j hj => by
  rcases Nat.lt_or_eq_of_le (Nat.le_of_lt_succ hj) with h' | rfl
  · exact h j h'
  · exact hk

def sq (a b : ByteArray) : Bool := a.data.toList == b.data.toList
theorem tosq (a b : ByteArray) : (a.toList == b.toList) = sq a b := by rw [sq, ByteArray.toList_eq, ByteArray.toList_eq]
theorem sq_iff {a b : ByteArray} : sq a b = true ↔ a = b := by
  obtain ⟨⟨a⟩⟩ := a
  obtain ⟨⟨b⟩⟩ := b
  simp [sq]
theorem sq_no {a b : ByteArray} (h : a ≠ b) : sq a b = false := by
  cases hx : sq a b with
  | true => exact absurd (sq_iff.1 hx) h
  | false => rfl
theorem sq_refl (a : ByteArray) : sq a a = true := sq_iff.2 rfl
def emp (s : ByteArray) : Bool := s.size == 0
theorem toemp (s : ByteArray) : s.toList.isEmpty = emp s := by
  rw [ByteArray.toList_eq]; obtain ⟨⟨a⟩⟩ := s; cases a <;> simp [emp, ByteArray.size]
theorem ret_bool {a b : Bool} (h : a = b) : Ending.returned (.bool a) = Ending.returned (.bool b) := by rw [h]
theorem ret_int {k : IntKind} {a b : Int} (h : a = b) : Ending.returned (.int k a) = Ending.returned (.int k b) := by rw [h]
theorem fr_refl (w : World) : Fr Non w w := Fr.refl _ w
theorem rd_strs {w : World} (cs : List Value) (l : List ByteArray) (t : TypeId) (h : cs = l.map Value.string) : RdRows (fun _ => True) (w.alloc (.cells cs.toArray t)) 1 (some ⟨w.heap.size, 0, none⟩) 0 (l.map strD) := by
  refine RdRows.mk trivial fun k hk => ?_
  have hk' : k < l.length := by simpa using hk
  simp only [List.getElem_map, strD, RdAt, RdC]
  refine ⟨rfl, ⟨_, ?_, rfl⟩, trivial⟩
  rw [World.cell?_alloc_at _ _ _ _ rfl]
  simp [h, hk']

theorem box_cells {S : Nat → Prop} {w w1 : World} {cs : Array Value} {T : TypeId} (hf : Fr S (w.alloc (.cells cs T)) w1) (hS : ¬ S w.heap.size) (i : Nat) (v : Value) (h : cs[i]? = some v) : w1.cell? ⟨w.heap.size, i, none⟩ = some v :=
  hf.cell' (by rw [World.cell?_alloc_at _ _ _ _ rfl]; exact h) hS
theorem box_size {S : Nat → Prop} {w w1 : World} {o : Obj} (hf : Fr S (w.alloc o) w1) : w.heap.size < w1.heap.size := by
  have := hf.size; simp at this; omega
theorem box_fr {S : Nat → Prop} {w w1 : World} {o : Obj} (hf : Fr S (w.alloc o) w1) : Fr S w w1 := ((Fr.refl _ _).alloc o).trans hf

theorem i0 (n : Nat) : ((n : Int) = 0) = (n = 0) := by simp
theorem i1 (n : Nat) : ((n : Int) = 1) = (n = 1) := propext (by omega)
theorem i2 (n : Nat) : ((n : Int) = 2) = (n = 2) := propext (by omega)
theorem i3 (n : Nat) : ((n : Int) = 3) = (n = 3) := propext (by omega)
theorem i4 (n : Nat) : ((n : Int) = 4) = (n = 4) := propext (by omega)
theorem i5 (n : Nat) : ((n : Int) = 5) = (n = 5) := propext (by omega)
theorem i6 (n : Nat) : ((n : Int) = 6) = (n = 6) := propext (by omega)
theorem i7 (n : Nat) : ((n : Int) = 7) = (n = 7) := propext (by omega)
theorem i8 (n : Nat) : ((n : Int) = 8) = (n = 8) := propext (by omega)
theorem i9 (n : Nat) : ((n : Int) = 9) = (n = 9) := propext (by omega)
theorem i10 (n : Nat) : ((n : Int) = 10) = (n = 10) := propext (by omega)
theorem i11 (n : Nat) : ((n : Int) = 11) = (n = 11) := propext (by omega)
theorem i12 (n : Nat) : ((n : Int) = 12) = (n = 12) := propext (by omega)
theorem i13 (n : Nat) : ((n : Int) = 13) = (n = 13) := propext (by omega)
theorem i14 (n : Nat) : ((n : Int) = 14) = (n = 14) := propext (by omega)

/-! ### A region that draws its order, whose operations read and whose calls make memory alone -/
open Classical in
noncomputable def ext (w x : World) : World := if Fr Non w x then x else w
theorem ext_fr (w x : World) : Fr Non w (ext w x) := by
  unfold ext; split
  · assumption
  · exact Fr.refl _ _
theorem ext_of {w x : World} (h : Fr Non w x) : x = ext w x := by unfold ext; rw [if_pos h]
theorem ext_cell {w : World} {p : Addr} {v : Value} (h : w.cell? p = some v) : ∀ x, (ext w x).cell? p = some v := fun x => (ext_fr w x).cell' h (non _)
theorem wp_region_ext {P : Program} {id : Nat} {Q : Exit → Act → World → Prop} {a : Act} {w : World} {l : List Oper} (hm : P.follows .mixedOrders = true) (hB : Region.lexB .any l.toArray = true)
    (h : wpQuiet P l.toArray (fun w' => ∃ x, w' = ext w x) (fun a' => ∀ w', Fr Non w w' → Q .normal a' w') l a) : (Code.region id l.toArray true).wp P Q a w :=
  wp_region_quiet (C := fun w' => ∃ x, w' = ext w x) hm hB ⟨_, ext_of (Fr.refl _ _).drew⟩ (by
    have : ∀ (l' : List Oper) (a : Act) (R R' : Act → Prop), (∀ a, R a → R' a) → wpQuiet P l.toArray (fun w' => ∃ x, w' = ext w x) R l' a → wpQuiet P l.toArray (fun w' => ∃ x, w' = ext w x) R' l' a := by
      intro l'
      induction l' with
      | nil => intro a R R' hr h; exact hr _ h
      | cons o rest ih =>
        intro a R R' hr h
        simp only [wpQuiet] at h ⊢
        split
        · rename_i hw; rw [if_pos hw] at h
          obtain ⟨v, h1, h2⟩ := h
          exact ⟨v, h1, ih _ _ _ hr h2⟩
        · rename_i hw; rw [if_neg hw] at h
          exact ih _ _ _ hr h
    refine this l a _ _ (fun a ha w' hw' => ?_) h
    obtain ⟨x, rfl⟩ := hw'
    exact ha _ (ext_fr _ _))
theorem calls_ext {P : Program} {f : FuncId} {args : Array Value} {w x : World} {v : Value} (h : Calls P f args (ext w x) fun e w' => e = .returned v ∧ Fr Non (ext w x) w') :
    Calls P f args (ext w x) fun e w'' => e = .returned v ∧ ∃ y, w'' = ext w y :=
  h.mono fun _ w' ⟨he, hf⟩ => ⟨he, w', ext_of ((ext_fr w x).trans hf)⟩
end Go.Proofs.YtnlnejpioijkiaaGreatDoor
/- Contracts of the reference's small functions: letters, words, names, expressions (may, same). -/
namespace Go.Proofs.YtnlnejpioijkiaaGreatDoor
open Go.RowKit
set_option linter.unusedVariables false
set_option linter.unusedSimpArgs false

def letterM (c : UInt8) : Bool := (97 ≤ c.toNat && c.toNat ≤ 122) || c.toNat == 95
def digitM (c : UInt8) : Bool := 48 ≤ c.toNat && c.toNat ≤ 57
def wordsM : List ByteArray := [⟨#[108, 101, 116]⟩, ⟨#[115, 101, 99, 114, 101, 116]⟩, ⟨#[98, 117, 102]⟩, ⟨#[105, 102]⟩, ⟨#[101, 108, 115, 101]⟩, ⟨#[119, 104, 105, 108, 101]⟩, ⟨#[102, 111, 114]⟩,
  ⟨#[118, 105, 101, 119]⟩, ⟨#[101, 100, 105, 116]⟩, ⟨#[109, 111, 118, 101]⟩, ⟨#[111, 112, 101, 110]⟩, ⟨#[99, 97, 108, 108]⟩, ⟨#[115, 101, 97, 108]⟩, ⟨#[102, 110]⟩, ⟨#[114, 101, 116, 117, 114, 110]⟩, ⟨#[110, 117, 109]⟩]
def inM (l : List ByteArray) (s : ByteArray) : Bool := l.any fun x => sq x s
def wordM (s : ByteArray) : Bool := inM wordsM s
def partM (c : UInt8) : Bool := letterM c || digitM c
def namedM (s : ByteArray) : Bool := !emp s && decide (s.size ≤ 16) && letterM (s.data.getD 0 0) && !wordM s && s.data.toList.all partM

theorem letter_any (c : UInt8) (w : World) : Calls Tryz.prog 88 #[vu8 c] w fun e w' => e = .returned (.bool (letterM c)) ∧ w = w' := by
  have hc := c.toNat_lt
  go_enter Tryz.func88, Tryz.ntmps88
  go_wp2_with fail
  all_goals
    go_ret
    refine ⟨ret_bool ?_, rfl⟩
    rw [Bool.eq_iff_iff]; simp [letterM]; try omega
theorem digit_any (c : UInt8) (w : World) : Calls Tryz.prog 90 #[vu8 c] w fun e w' => e = .returned (.bool (digitM c)) ∧ w = w' := by
  have hc := c.toNat_lt
  go_enter Tryz.func90, Tryz.ntmps90
  go_wp2_with fail
  all_goals
    go_ret
    refine ⟨ret_bool ?_, rfl⟩
    rw [Bool.eq_iff_iff]; simp [digitM]; try omega
theorem in_any (ok : Nat → Prop) (A : Option Addr) (c : Nat) (l : List ByteArray) (s : ByteArray) (w : World) (h : RdRows ok w 1 A 0 (l.map strD)) (hc : l.length ≤ 140737488355328) :
    Calls Tryz.prog 113 #[.slice A l.length c, .string s] w fun e w' => e = .returned (.bool (inM l s)) ∧ w = w' := by
  go_enter Tryz.func113, Tryz.ntmps113
  go_wp2_with fail
  go_loop [5] (fun i => ∃ k : Nat, i = .int .i64 k ∧ k ≤ l.length ∧ ∀ j, j < k → ∀ hj : j < l.length, sq l[j] s = false) (fun i => l.length - (intOf i).toNat)
  case atStart => exact ⟨0, rfl, by omega, fun j hj => by omega⟩
  case round =>
    obtain ⟨k, rfl, hk, hno⟩ := hrel
    have HN := Lib.hid hno; clear hno
    by_cases hlt : k < l.length
    · obtain ⟨b, o, rfl, hb, h0⟩ := at_str h k hlt
      have H := Lib.hid h; clear h
      cases hq : sq l[k] s with
      | true =>
        have hq' := hq; rw [← tosq] at hq'
        have HQ := Lib.hid hq; clear hq
        go_wp2_with fail
        go_ret
        exact ⟨ret_bool (any_true_of k hlt HQ.out).symm, rfl⟩
      | false =>
        have hq' := hq; rw [← tosq] at hq'
        have HQ := Lib.hid hq; clear hq
        go_wp2_with fail
        go_round
        case rel => exact ⟨k + 1, by go_num, by omega, till HN.out fun _ => HQ.out⟩
        case measure => simp [intOf]; omega
    · have H := Lib.hid h; clear h
      go_wp2_with fail
      go_ret
      exact ⟨ret_bool (any_false_of fun j hj => HN.out j (by omega) hj).symm, rfl⟩
theorem words_any (w : World) : Calls Tryz.prog 114 #[] w fun e w' => ∃ b c, e = .returned (.slice (some ⟨b, 0, none⟩) 16 c) ∧ Fr Non w w' ∧ RdRows (fun _ => True) w' 1 (some ⟨b, 0, none⟩) 0 (wordsM.map strD) := by
  go_enter Tryz.func114, Tryz.ntmps114
  go_wp2_with fail
  go_ret
  exact ⟨w.heap.size, 16, rfl, (Fr.refl _ _).alloc _, rd_strs _ _ _ rfl⟩
theorem word_any (s : ByteArray) (w : World) : Calls Tryz.prog 89 #[.string s] w fun e w' => e = .returned (.bool (wordM s)) ∧ Fr Non w w' := by
  go_enter Tryz.func89, Tryz.ntmps89
  go_wp2_with fail
  refine (words_any _).mono ?_
  rintro e w1 ⟨b, c, rfl, hf, hr⟩
  have H := Lib.hid hr; clear hr
  go_wp2_with fail
  refine (in_any (fun _ => True) _ c wordsM s _ H.out (by simp [wordsM])).mono ?_
  rintro e w2 ⟨rfl, rfl⟩
  go_wp2_with fail
  go_ret
  exact ⟨rfl, hf⟩

theorem named_any (s : ByteArray) (w : World) : Calls Tryz.prog 54 #[.string s] w fun e w' => e = .returned (.bool (namedM s)) ∧ Fr Non w w' := by
  cases he : emp s with
  | true =>
    have he' := he; rw [← toemp] at he'
    go_enter Tryz.func54, Tryz.ntmps54
    go_wp2_with fail
    go_ret
    exact ⟨ret_bool (by simp [namedM, he]), fr_refl _⟩
  | false =>
    have he' := he; rw [← toemp] at he'
    have hp : 0 < s.size := by
      rcases Nat.eq_zero_or_pos s.size with h | h
      · simp [emp, h] at he
      · exact h
    have hd : s.data.getD 0 0 = s[0] := by have hp' : 0 < s.data.size := hp; rw [Array.getD, dif_pos hp']; rfl
    by_cases h16 : s.size ≤ 16
    · have h16' : decide ((16 : Int) < (s.size : Int)) = false := by simp; omega
      cases hl : letterM s[0] with
      | false =>
        have HF := Lib.hid (show namedM s = false by simp [namedM, hd, hl]); clear hd
        have H1 := Lib.hid he; clear he
        go_enter Tryz.func54, Tryz.ntmps54
        go_wp2_with fail
        refine (letter_any _ _).mono ?_
        rintro e w1 ⟨rfl, rfl⟩
        go_wp2_with fail
        go_ret
        exact ⟨ret_bool HF.out.symm, fr_refl _⟩
      | true =>
        cases hw : wordM s with
        | true =>
          have HF := Lib.hid (show namedM s = false by simp [namedM, hw]); clear hd
          have H1 := Lib.hid he; clear he
          go_enter Tryz.func54, Tryz.ntmps54
          go_wp2_with fail
          refine (letter_any _ _).mono ?_
          rintro e w1 ⟨rfl, rfl⟩
          go_wp2_with fail
          refine (word_any _ _).mono ?_
          rintro e w1 ⟨rfl, hf⟩
          go_wp2_with fail
          go_ret
          exact ⟨ret_bool HF.out.symm, hf⟩
        | false =>
          have HF := Lib.hid (show namedM s = s.data.toList.all partM by simp [namedM, he, h16, hd, hl, hw]); clear hd
          have H1 := Lib.hid he; clear he
          go_enter Tryz.func54, Tryz.ntmps54
          go_wp2_with fail
          refine (letter_any _ _).mono ?_
          rintro e w1 ⟨rfl, rfl⟩
          go_wp2_with fail
          refine (word_any _ _).mono ?_
          rintro e w1 ⟨rfl, hf⟩
          go_wp2_with fail
          go_loop [3] (fun i => ∃ k : Nat, i = .int .i64 k ∧ k ≤ s.size ∧ ∀ j, j < k → ∀ hj : j < s.data.toList.length, partM s.data.toList[j] = true) (fun i => s.size - (intOf i).toNat)
          case atStart => exact ⟨0, rfl, by omega, fun j hj => by omega⟩
          case round =>
            obtain ⟨k, rfl, hk, hno⟩ := hrel
            have HN := Lib.hid hno; clear hno
            by_cases hlt : k < s.size
            · have hlt' : k < s.data.size := hlt
              have hsk : s.data.toList[k]'(by simpa using hlt') = s[k] := rfl
              have HS := Lib.hid hsk; clear hsk
              cases hlk : letterM s[k] with
              | true =>
                go_wp2_with fail
                refine (letter_any _ _).mono ?_
                rintro e w1 ⟨rfl, rfl⟩
                go_wp2_with fail
                go_round
                case rel => exact ⟨k + 1, by go_num, by omega, till HN.out fun _ => by rw [HS.out]; simp [partM, hlk]⟩
                case measure => simp [intOf]; omega
              | false =>
                cases hdk : digitM s[k] with
                | true =>
                  go_wp2_with fail
                  refine (letter_any _ _).mono ?_
                  rintro e w1 ⟨rfl, rfl⟩
                  go_wp2_with fail
                  refine (digit_any _ _).mono ?_
                  rintro e w1 ⟨rfl, rfl⟩
                  go_wp2_with fail
                  go_round
                  case rel => exact ⟨k + 1, by go_num, by omega, till HN.out fun _ => by rw [HS.out]; simp [partM, hdk]⟩
                  case measure => simp [intOf]; omega
                | false =>
                  go_wp2_with fail
                  refine (letter_any _ _).mono ?_
                  rintro e w1 ⟨rfl, rfl⟩
                  go_wp2_with fail
                  refine (digit_any _ _).mono ?_
                  rintro e w1 ⟨rfl, rfl⟩
                  go_wp2_with fail
                  go_ret
                  exact ⟨ret_bool (by rw [HF.out]; exact (all_false_of k (by simpa using hlt') (by rw [HS.out]; simp [partM, hlk, hdk])).symm), hf⟩
            · go_wp2_with fail
              go_ret
              exact ⟨ret_bool (by rw [HF.out]; exact (all_true_of fun j hj => HN.out j (by have : s.data.size = s.size := rfl; simp at hj; omega) hj).symm), hf⟩
    · have HF := Lib.hid (show namedM s = false by simp [namedM, h16])
      have H1 := Lib.hid he; clear he
      go_enter Tryz.func54, Tryz.ntmps54
      go_wp2_with fail
      go_ret
      exact ⟨ret_bool HF.out.symm, fr_refl _⟩
def signsM : List ByteArray := [⟨#[]⟩, ⟨#[43]⟩, ⟨#[45]⟩, ⟨#[60, 60]⟩, ⟨#[60, 36]⟩, ⟨#[60]⟩, ⟨#[94]⟩, ⟨#[62, 62]⟩, ⟨#[62, 62, 62]⟩, ⟨#[124]⟩, ⟨#[38]⟩, ⟨#[42]⟩, ⟨#[42, 94]⟩, ⟨#[47]⟩, ⟨#[37]⟩]
def signM (op : UInt8) : ByteArray := signsM.getD op.toNat ⟨#[]⟩
theorem sign_any (op : UInt8) (w : World) : Calls Tryz.prog 133 #[vu8 op] w fun e w' => e = .returned (.string (signM op)) ∧ Fr Non w w' := by
  have hc := op.toNat_lt
  by_cases h : op.toNat < 15
  · have hx : ∀ h', (signsM.map Value.string)[op.toNat]'h' = .string (signM op) := by 
      intro h'; rw [List.getElem_map, signM, List.getD_eq_getElem?_getD, List.getElem?_eq_getElem (by simpa using h')]; rfl
    have HX := Lib.hid hx; clear hx
    go_enter Tryz.func133, Tryz.ntmps133
    go_wp2_with fail
    go_ret
    exact ⟨congrArg Ending.returned (HX.out _), (fr_refl _).alloc _⟩
  · have hx : signM op = ⟨#[]⟩ := by rw [signM, List.getD_eq_getElem?_getD, List.getElem?_eq_none (by simp [signsM]; omega)]; rfl
    have HX := Lib.hid hx; clear hx
    go_enter Tryz.func133, Tryz.ntmps133
    go_wp2_with fail
    go_ret
    exact ⟨by rw [HX.out]; rfl, (fr_refl _).alloc _⟩

def shapeM (e : Ex) : Bool :=
  if e.kind.toNat = 1 then emp e.name && e.op.toNat == 0 && e.kids.length == 0
  else if e.kind.toNat = 2 ∨ e.kind.toNat = 4 then e.num.toNat == 0 && namedM e.name && e.op.toNat == 0 && e.kids.length == 0
  else if e.kind.toNat = 3 then e.num.toNat == 0 && emp e.name && !emp (signM e.op) && e.kids.length == 2
  else if e.kind.toNat = 5 then e.num.toNat == 0 && namedM e.name && e.op.toNat == 0 && e.kids.length == 1
  else false
theorem shape_any (k : UInt8) (n : UInt64) (s : ByteArray) (o : UInt8) (l : List Ex) (A : Option Addr) (c : Nat) (w : World) :
   Calls Tryz.prog 124 #[.agg #[vu8 k, vu64 n, .string s, vu8 o, .slice A l.length c]] w fun e w' => e = .returned (.bool (shapeM (.mk k n s o l))) ∧ Fr Non w w' := by
  go_enter Tryz.func124, Tryz.ntmps124
  go_wp2_with fail
  refine (named_any _ _).mono ?_
  rintro e w1 ⟨rfl, hf⟩
  have g0 := box_cells hf (non _) 0 _ rfl
  have g1 := box_cells hf (non _) 1 _ rfl
  have g2 := box_cells hf (non _) 2 _ rfl
  have g3 := box_cells hf (non _) 3 _ rfl
  have g4 := box_cells hf (non _) 4 _ rfl
  have HF := Lib.hid (box_fr hf)
  go_wp2_with fail
  all_goals try (refine (sign_any _ _).mono ?_; rintro e w2 ⟨rfl, hf2⟩; have g4' := hf2.cell' g4 (non _); go_wp2_with fail)
  all_goals go_ret
  all_goals (refine ⟨ret_bool ?_, ?_⟩; rotate_left; first | exact HF.out | exact HF.out.trans hf2)
  all_goals clear hf g0 g1 g2 g3 g4
  all_goals rw [Bool.eq_iff_iff]
  all_goals simp_all [shapeM, Ex.kind, Ex.op, Ex.name, Ex.num, Ex.kids, ← toemp, i0, i1, i2, i3, i4, i5]

end Go.Proofs.YtnlnejpioijkiaaGreatDoor
/- Contracts of the reference's expressions: may, same, copy. -/
namespace Go.Proofs.YtnlnejpioijkiaaGreatDoor
open Go.RowKit
set_option linter.unusedVariables false
set_option linter.unusedSimpArgs false

mutual
def Ex.may : Ex → Nat → Bool
  | .mk k n s o l, deep => decide (deep ≤ 40) && shapeM (.mk k n s o l) && Ex.mays l (deep + 1)
def Ex.mays : List Ex → Nat → Bool
  | [], _ => true
  | e :: l, deep => Ex.may e deep && Ex.mays l deep
end
theorem mays_all : ∀ (l : List Ex) (d : Nat), Ex.mays l d = l.all (Ex.may · d)
  | [], _ => rfl
  | e :: l, d => by simp [Ex.mays, mays_all l d]
mutual
def Ex.size : Ex → Nat
  | .mk _ _ _ _ l => 1 + Ex.sizes l
def Ex.sizes : List Ex → Nat
  | [] => 0
  | e :: l => e.size + Ex.sizes l
end
theorem size_le : ∀ (l : List Ex) (k : Nat) (h : k < l.length), l[k].size ≤ Ex.sizes l
  | e :: l, 0, _ => by simp [Ex.sizes]
  | e :: l, k + 1, h => by have := size_le l k (by simpa using h); simp [Ex.sizes]; omega

theorem ex_eta (e : Ex) : Ex.mk e.kind e.num e.name e.op e.kids = e := by cases e; rfl
abbrev exV (k : UInt8) (n : UInt64) (s : ByteArray) (o : UInt8) (A : Option Addr) (len c : Nat) : Value := .agg #[vu8 k, vu64 n, .string s, vu8 o, .slice A len c]

theorem may_any (N : Nat) : ∀ (k : UInt8) (n : UInt64) (s : ByteArray) (o : UInt8) (l : List Ex) (ok : Nat → Prop) (A : Option Addr) (c deep : Nat) (w : World), Ex.size (.mk k n s o l) ≤ N → RdRows ok w 5 A 0 (Ex.ds l) → l.length ≤ c → l.length * 64 ≤ reach → deep ≤ 1000 →
   Calls Tryz.prog 115 #[exV k n s o A l.length c, .int .i64 deep] w fun e w' => e = .returned (.bool (Ex.may (.mk k n s o l) deep)) ∧ Fr Non w w' := by
  induction N with
  | zero => intro k n s o l ok A c deep w h; simp [Ex.size] at h
  | succ N ih =>
    intro k n s o l ok A c deep w hN hr hlc hc hd
    have hlen : l.length ≤ 140737488355328 := by unfold reach at hc; omega
    have hN' : Ex.sizes l ≤ N := by simp [Ex.size] at hN; omega
    clear hN
    by_cases h40 : deep ≤ 40
    · have h40' : decide ((40 : Int) < (deep : Int)) = false := by simp; omega
      cases hs : shapeM (.mk k n s o l) with
      | false =>
        have HF := Lib.hid (show Ex.may (.mk k n s o l) deep = false by simp [Ex.may, hs])
        have HS := Lib.hid hs; clear hs
        go_enter Tryz.func115, Tryz.ntmps115
        go_wp2_with fail
        refine (shape_any _ _ _ _ _ _ _ _).mono ?_
        rintro e w1 ⟨rfl, hf⟩
        rw [HS.out]
        go_wp2_with fail
        go_ret
        exact ⟨ret_bool HF.out.symm, box_fr hf⟩
      | true =>
        have HF := Lib.hid (show Ex.may (.mk k n s o l) deep = l.all (Ex.may · (deep + 1)) by simp [Ex.may, hs, h40, mays_all])
        have HS := Lib.hid hs; clear hs
        go_enter Tryz.func115, Tryz.ntmps115
        go_wp2_with fail
        refine (shape_any _ _ _ _ _ _ _ _).mono ?_
        rintro e w1 ⟨rfl, hf⟩
        rw [HS.out]
        have g4 := box_cells hf (non _) 4 _ rfl
        have hr1 := hr.fr (box_fr hf) (fun _ _ => non _) (fun _ h => h)
        have HB := Lib.hid (box_fr hf); clear hf
        have HR := Lib.hid hr1; clear hr hr1
        have IH := Lib.hid ih; clear ih
        go_wp2_with fail
        go_loopw [5] (fun i wr => ∃ j : Nat, i = .int .i64 j ∧ j ≤ l.length ∧ Fr Non w1 wr ∧ ∀ q, q < j → ∀ hq : q < l.length, Ex.may l[q] (deep + 1) = true) (fun i _ => l.length - (intOf i).toNat)
        case atStart => exact ⟨0, rfl, by omega, fr_refl _, fun j hj => by omega⟩
        case round =>
          obtain ⟨j, rfl, hj, hfr, hno⟩ := hrel
          have HN := Lib.hid hno; clear hno
          have g4' := hfr.cell' g4 (non _)
          by_cases hlt : j < l.length
          · have hr2 := HR.out.fr hfr (fun _ _ => non _) (fun _ h => h)
            obtain ⟨b, o', A', c', rfl, hb, e0, e1, e2, e3, e4, p1, p2, p3⟩ := at_ex hr2 j hlt
            have P3 := Lib.hid p3; clear p3 hr2
            have HQ := Lib.hid (size_le l j hlt)
            go_wp2_with fail
            refine (IH.out _ _ _ _ _ ok A' c' (deep + 1) _ (by rw [ex_eta]; have := HQ.out; omega) P3.out p1 p2 (by omega)).mono ?_
            rintro e w2 ⟨rfl, hf2⟩
            rw [ex_eta]
            generalize hm : Ex.may l[j] (deep + 1) = m
            cases m with
            | true =>
              have HM := Lib.hid hm; clear hm
              go_wp2_with fail
              go_roundw
              case rel => exact ⟨j + 1, by go_num, by omega, hfr.trans hf2, till HN.out fun _ => HM.out⟩
              case measure => simp [intOf]; omega
            | false =>
              have HM := Lib.hid hm; clear hm
              go_wp2_with fail
              go_ret
              exact ⟨ret_bool (by rw [HF.out]; exact (all_false_of j hlt HM.out).symm), (HB.out.trans hfr).trans hf2⟩
          · go_wp2_with fail
            go_ret
            exact ⟨ret_bool (by rw [HF.out]; exact (all_true_of fun q hq => HN.out q (by omega) hq).symm), HB.out.trans hfr⟩
    · go_enter Tryz.func115, Tryz.ntmps115
      go_wp2_with fail
      go_ret
      exact ⟨ret_bool (by simp [Ex.may, h40]), (fr_refl _).alloc _⟩
theorem mayE_any (k : UInt8) (n : UInt64) (s : ByteArray) (o : UInt8) (l : List Ex) (ok : Nat → Prop) (A : Option Addr) (c : Nat) (w : World) (hr : RdRows ok w 5 A 0 (Ex.ds l)) (h1 : l.length ≤ c) (h2 : l.length * 64 ≤ reach) :
   Calls Tryz.prog 91 #[exV k n s o A l.length c] w fun e w' => e = .returned (.bool (Ex.may (.mk k n s o l) 1)) ∧ Fr Non w w' := by
  have HR := Lib.hid (hr.fr ((fr_refl w).alloc (.cells #[vu8 k, vu64 n, .string s, vu8 o, .slice A l.length c] 48)) (fun _ _ => non _) (fun _ h => h)); clear hr
  go_enter Tryz.func91, Tryz.ntmps91
  go_wp2_with fail
  refine (may_any (Ex.size (.mk k n s o l)) _ _ _ _ _ ok A c 1 _ (Nat.le_refl _) HR.out h1 h2 (by omega)).mono ?_
  rintro e w2 ⟨rfl, hf⟩
  go_wp2_with fail
  go_ret
  exact ⟨rfl, box_fr hf⟩

mutual
def Ex.same : Ex → Ex → Bool
  | .mk k n s o l, .mk k' n' s' o' l' => k == k' && n == n' && sq s s' && o == o' && Ex.sames l l'
def Ex.sames : List Ex → List Ex → Bool
  | [], [] => true
  | e :: l, e' :: l' => Ex.same e e' && Ex.sames l l'
  | _, _ => false
end
theorem sames_true : ∀ (l l' : List Ex) (hl : l.length = l'.length), (∀ j (h : j < l.length), Ex.same l[j] (l'[j]'(hl ▸ h)) = true) → Ex.sames l l' = true
  | [], [], _, _ => rfl
  | e :: l, e' :: l', hl, h => by
    simp only [Ex.sames, Bool.and_eq_true]
    exact ⟨h 0 (by simp), sames_true l l' (by simpa using hl) fun j hj => h (j + 1) (by simpa using hj)⟩
theorem sames_false : ∀ (l l' : List Ex) (j : Nat) (h : j < l.length) (h' : j < l'.length), Ex.same l[j] l'[j] = false → Ex.sames l l' = false
  | e :: l, e' :: l', 0, _, _, h => by simp [Ex.sames, show Ex.same e e' = false from h]
  | e :: l, e' :: l', j + 1, h1, h2, h => by simp [Ex.sames, sames_false l l' j (by simpa using h1) (by simpa using h2) (by simpa using h)]
theorem sames_len : ∀ (l l' : List Ex), l.length ≠ l'.length → Ex.sames l l' = false
  | [], [], h => absurd rfl h
  | [], _ :: _, _ => rfl
  | _ :: _, [], _ => rfl
  | e :: l, e' :: l', h => by simp [Ex.sames, sames_len l l' (by simpa using h)]

theorem len_of {a b : Nat} (h0 : ((a : Int) != (b : Int)) = false) : a = b := by
  have : ¬ ((a : Int) ≠ b) := fun hn => by rw [bne_iff_ne.2 hn] at h0; cases h0
  omega
theorem same_ne {k k' : UInt8} {n n' : UInt64} {s s' : ByteArray} {o o' : UInt8} {l l' : List Ex} (h : ¬ (k = k' ∧ n = n' ∧ s = s' ∧ o = o' ∧ l.length = l'.length)) : Ex.same (.mk k n s o l) (.mk k' n' s' o' l') = false := by
  cases hx : Ex.same (.mk k n s o l) (.mk k' n' s' o' l') with
  | false => rfl
  | true =>
    simp only [Ex.same, Bool.and_eq_true, beq_iff_eq, sq_iff] at hx
    obtain ⟨⟨⟨⟨h1, h2⟩, h3⟩, h4⟩, h5⟩ := hx
    refine absurd ⟨h1, h2, h3, h4, ?_⟩ h
    rcases Nat.decEq l.length l'.length with hl | hl
    · rw [sames_len _ _ hl] at h5; cases h5
    · exact hl
set_option maxHeartbeats 1000000 in
theorem same_any (N : Nat) : ∀ (k k' : UInt8) (n n' : UInt64) (s s' : ByteArray) (o o' : UInt8) (l l' : List Ex) (ok : Nat → Prop) (A A' : Option Addr) (c c' : Nat) (w : World), Ex.size (.mk k n s o l) ≤ N →
    RdRows ok w 5 A 0 (Ex.ds l) → l.length ≤ c → l.length * 64 ≤ reach → RdRows ok w 5 A' 0 (Ex.ds l') → l'.length ≤ c' → l'.length * 64 ≤ reach →
   Calls Tryz.prog 51 #[exV k n s o A l.length c, exV k' n' s' o' A' l'.length c'] w fun e w' => e = .returned (.bool (Ex.same (.mk k n s o l) (.mk k' n' s' o' l'))) ∧ Fr Non w w' := by
  induction N with
  | zero => intro k k' n n' s s' o o' l l' ok A A' c c' w h; simp [Ex.size] at h
  | succ N ih =>
    intro k k' n n' s s' o o' l l' ok A A' c c' w hN hr hlc hc hr' hlc' hc'
    have hlen : l.length ≤ 140737488355328 := by unfold reach at hc; omega
    have hN' : Ex.sizes l ≤ N := by simp [Ex.size] at hN; omega
    clear hN
    by_cases heq : k = k' ∧ n = n' ∧ s = s' ∧ o = o' ∧ l.length = l'.length
    · obtain ⟨rfl, rfl, rfl, rfl, hl⟩ := heq
      have HF := Lib.hid (show Ex.same (.mk k n s o l) (.mk k n s o l') = Ex.sames l l' by simp [Ex.same, sq_refl])
      have hne : ((l.length : Int) != (l'.length : Int)) = false := by simp [hl]
      have HL := Lib.hid hl; clear hl
      have IH := Lib.hid ih; clear ih
      have HR := Lib.hid hr; clear hr
      have HR' := Lib.hid hr'; clear hr'
      go_enter Tryz.func51, Tryz.ntmps51
      go_wp2_with fail
      go_loopw [5] (fun i wr => ∃ j : Nat, i = .int .i64 j ∧ j ≤ l.length ∧ Fr Non ((w.alloc (.cells #[vu8 k, vu64 n, .string s, vu8 o, .slice A l.length c] 48)).alloc (.cells #[vu8 k, vu64 n, .string s, vu8 o, .slice A' l'.length c'] 48)) wr ∧ ∀ q, q < j → ∀ hq : q < l.length, Ex.same l[q] (l'[q]'(HL.out ▸ hq)) = true) (fun i _ => l.length - (intOf i).toNat)
      case atStart => exact ⟨0, rfl, by omega, fr_refl _, fun j hj => by omega⟩
      case round =>
        obtain ⟨j, rfl, hj, hfr, hno⟩ := hrel
        have HN := Lib.hid hno; clear hno
        have g4 : wr.cell? ⟨w.heap.size, 4, none⟩ = some (.slice A l.length c) := hfr.cell' (by simp) (non _)
        have g9 : wr.cell? ⟨w.heap.size + 1, 4, none⟩ = some (.slice A' l'.length c') := hfr.cell' (by simp) (non _)
        by_cases hlt : j < l.length
        · have hlt' : j < l'.length := by have := HL.out; omega
          have hf0 : Fr Non w wr := (((fr_refl w).alloc _).alloc _).trans hfr
          obtain ⟨b, o1, A1, c1, rfl, hb, e0, e1, e2, e3, e4, p1, p2, p3⟩ := at_ex (HR.out.fr hf0 (fun _ _ => non _) (fun _ h => h)) j hlt
          obtain ⟨b', o1', A1', c1', rfl, hb', e0', e1', e2', e3', e4', p1', p2', p3'⟩ := at_ex (HR'.out.fr hf0 (fun _ _ => non _) (fun _ h => h)) j hlt'
          have x4 := ext_cell g4
          have x9 := ext_cell g9
          have x0 := ext_cell e0
          have x1 := ext_cell e1
          have x2 := ext_cell e2
          have x3 := ext_cell e3
          have x5 := ext_cell e4
          have x0' := ext_cell e0'
          have x1' := ext_cell e1'
          have x2' := ext_cell e2'
          have x3' := ext_cell e3'
          have x5' := ext_cell e4'
          clear e0 e1 e2 e3 e4 e0' e1' e2' e3' e4'
          have P3 := Lib.hid p3; clear p3
          have P3' := Lib.hid p3'; clear p3'
          have HQ := Lib.hid (size_le l j hlt)
          go_wp2_with fail
          refine wp_region_ext (by kernel_rfl) (by kernel_rfl) ?_
          repeat (go_big_quiet_step (fail))
          go_big_quiet_want
          go_big_quiet_op
          apply Exists.intro
          refine ⟨fun x => ?_, ?_⟩
          · refine calls_ext (v := .bool (Ex.same l[j] l'[j])) ?_
            refine (IH.out _ _ _ _ _ _ _ _ _ _ ok A1 A1' c1 c1' _ ?_ (P3.out.fr (ext_fr _ _) (fun _ _ => non _) (fun _ h => h)) p1 p2 (P3'.out.fr (ext_fr _ _) (fun _ _ => non _) (fun _ h => h)) p1' p2').mono ?_
            · rw [ex_eta]; have := HQ.out; omega
            · rw [ex_eta, ex_eta]; exact fun _ _ h => h
          go_big_quiet_on
          repeat (go_big_quiet_step (fail))
          refine wpQuiet_nil ?_
          intro w2 hf2
          generalize hm : Ex.same l[j] l'[j] = m
          have HM := Lib.hid hm; clear hm
          cases m with
          | true =>
            go_wp2_with fail
            go_roundw
            case rel => exact ⟨j + 1, by go_num, by omega, hfr.trans hf2, till HN.out fun _ => HM.out⟩
            case measure => simp [intOf]; omega
          | false =>
            go_wp2_with fail
            go_ret
            exact ⟨ret_bool (by rw [HF.out]; exact (sames_false _ _ j hlt hlt' HM.out).symm), hf0.trans hf2⟩
        · go_wp2_with fail
          go_ret
          exact ⟨ret_bool (by rw [HF.out]; exact (sames_true _ _ HL.out fun q hq => HN.out q (by omega) hq).symm), (((fr_refl w).alloc _).alloc _).trans hfr⟩
    · go_enter Tryz.func51, Tryz.ntmps51
      have HE := Lib.hid heq; clear heq
      go_wp2_with fail
      all_goals first
        | (go_ret; exact ⟨ret_bool (same_ne HE.out).symm, ((fr_refl w).alloc _).alloc _⟩)
        | (exfalso; exact HE.out ⟨UInt8.toNat_inj.1 (by omega), UInt64.toNat_inj.1 (by omega), sq_iff.1 (by rw [← tosq]; simp [*]), UInt8.toNat_inj.1 (by omega), (len_of (by assumption))⟩)
end Go.Proofs.YtnlnejpioijkiaaGreatDoor
/- Slices that a call itself makes by append, whose elements read as data. -/
namespace Go.Proofs.YtnlnejpioijkiaaGreatDoor
open Go.RowKit
set_option linter.unusedVariables false
set_option linter.unusedSimpArgs false

/-- Cells that read as data, one each. -/
def RdL (ok : Nat → Prop) (w : World) : List D → List Value → Prop
  | [], us => us = []
  | d :: ds, us => ∃ u r, us = u :: r ∧ RdC ok w d u ∧ RdL ok w ds r
def Chunks (ok : Nat → Prop) (w : World) (sz : Nat) : List (List D) → List Value → Prop
  | [], xs => xs = []
  | ds :: l, xs => ∃ us r, xs = us ++ r ∧ us.length = sz ∧ ds.length = sz ∧ RdL ok w ds us ∧ Chunks ok w sz l r

theorem RdL.mono {ok ok' : Nat → Prop} {w w' : World} (hc : ∀ b o v, ok b → w.cell? ⟨b, o, none⟩ = some v → w'.cell? ⟨b, o, none⟩ = some v) (hk : ∀ b, ok b → ok' b) :
    ∀ (ds : List D) (us : List Value), RdL ok w ds us → RdL ok' w' ds us
  | [], _, h => h
  | d :: ds, _, ⟨u, r, e, h1, h2⟩ => ⟨u, r, e, RdC.mono hc hk d u h1, RdL.mono hc hk ds r h2⟩
theorem Chunks.mono {ok ok' : Nat → Prop} {w w' : World} {sz : Nat} (hc : ∀ b o v, ok b → w.cell? ⟨b, o, none⟩ = some v → w'.cell? ⟨b, o, none⟩ = some v) (hk : ∀ b, ok b → ok' b) :
    ∀ (l : List (List D)) (xs : List Value), Chunks ok w sz l xs → Chunks ok' w' sz l xs
  | [], _, h => h
  | ds :: l, _, ⟨us, r, e, h1, h2, h3, h4⟩ => ⟨us, r, e, h1, h2, RdL.mono hc hk ds us h3, Chunks.mono hc hk l r h4⟩
theorem Chunks.snoc {ok : Nat → Prop} {w : World} {sz : Nat} {d : List D} {us : List Value} (h1 : us.length = sz) (h2 : d.length = sz) (h3 : RdL ok w d us) : ∀ {l : List (List D)} {xs : List Value}, Chunks ok w sz l xs → Chunks ok w sz (l ++ [d]) (xs ++ us)
  | [], _, h => by cases h; exact ⟨us, [], by simp, h1, h2, h3, rfl⟩
  | ds :: l, _, ⟨us', r, e, g1, g2, g3, g4⟩ => ⟨us', r ++ us, by rw [e, List.append_assoc], g1, g2, g3, Chunks.snoc h1 h2 h3 g4⟩
theorem Chunks.append {ok : Nat → Prop} {w : World} {sz : Nat} {l' : List (List D)} {ys : List Value} (h' : Chunks ok w sz l' ys) : ∀ {l : List (List D)} {xs : List Value}, Chunks ok w sz l xs → Chunks ok w sz (l ++ l') (xs ++ ys)
  | [], _, h => by cases h; exact h'
  | ds :: l, _, ⟨us', r, e, g1, g2, g3, g4⟩ => ⟨us', r ++ ys, by rw [e, List.append_assoc], g1, g2, g3, Chunks.append h' g4⟩
theorem Chunks.length {ok : Nat → Prop} {w : World} {sz : Nat} : ∀ {l : List (List D)} {xs : List Value}, Chunks ok w sz l xs → xs.length = l.length * sz
  | [], _, h => by cases h; simp
  | ds :: l, _, ⟨us', r, e, g1, g2, g3, g4⟩ => by rw [e, List.length_append, g1, Chunks.length g4, List.length_cons, Nat.succ_mul, Nat.add_comm]
theorem RdAt.of {ok : Nat → Prop} {w : World} {b : Nat} : ∀ {ds : List D} {us : List Value} {o : Nat}, RdL ok w ds us → (∀ j u, us[j]? = some u → w.cell? ⟨b, o + j, none⟩ = some u) → RdAt ok w b o ds
  | [], _, _, _, _ => trivial
  | d :: ds, _, o, ⟨u, r, e, h1, h2⟩, h => by
    subst e
    refine ⟨⟨u, h 0 u rfl, h1⟩, RdAt.of h2 fun j v hv => ?_⟩
    have := h (j + 1) v (by simpa using hv)
    rwa [← Nat.add_assoc, Nat.add_right_comm] at this
theorem RdRows.of_chunks {ok : Nat → Prop} {w : World} {b sz : Nat} (hb : ok b) : ∀ {l : List (List D)} {xs : List Value} {i : Nat}, Chunks ok w sz l xs → (∀ j u, xs[j]? = some u → w.cell? ⟨b, 0 + i * sz + j, none⟩ = some u) →
    RdRows ok w sz (some ⟨b, 0, none⟩) i l
  | [], _, _, _, _ => trivial
  | ds :: l, _, i, ⟨us, r, e, g1, g2, g3, g4⟩, h => by
    subst e
    refine ⟨⟨b, 0, rfl, hb, g2, RdAt.of g3 fun j u hu => h j u ?_⟩, RdRows.of_chunks hb g4 fun j u hu => ?_⟩
    · rw [List.getElem?_append_left (List.getElem?_eq_some_iff.1 hu).1]; exact hu
    · have := h (sz + j) u (by rw [List.getElem?_append_right (by omega), g1]; simpa using hu)
      rw [show 0 + (i + 1) * sz + j = 0 + i * sz + (sz + j) by rw [Nat.succ_mul]; omega]; exact this

/-- What the elements of an own row may lead to: blocks of the call's own, but not the row's. -/
def okOwn (base : Nat) (w : World) (v : Value) (k : Nat) : Prop := base ≤ k ∧ k < w.heap.size ∧ v.ownBlock ≠ some k
def Own (base : Nat) (e : TypeId) (sz : Nat) (w : World) (v : Value) (l : List (List D)) : Prop :=
  ∃ xs, w.ownsRow base e sz v l.length xs ∧ Chunks (okOwn base w v) w sz l xs
theorem Own.nil (base : Nat) (e : TypeId) (sz : Nat) (w : World) : Own base e sz w (.slice none 0 0) [] := ⟨[], World.ownsRow_nil _ _ _ _, rfl⟩
theorem ownsRow_fr {base : Nat} {e : TypeId} {sz : Nat} {w w' : World} {v : Value} {n : Nat} {xs : List Value} {S : Nat → Prop} (h : w.ownsRow base e sz v n xs) (hf : Fr S w w') (hs : ∀ k, base ≤ k → ¬ S k) : w'.ownsRow base e sz v n xs := by
  obtain ⟨h1, h2⟩ := h
  refine ⟨h1, ?_⟩
  rcases h2 with h2 | ⟨g, cap, cur, hv, hb, hh, r⟩
  · exact .inl h2
  · exact .inr ⟨g, cap, cur, hv, hb, by rw [hf.block g (Array.getElem?_eq_some_iff.1 hh).1 (hs g hb)]; exact hh, r⟩
theorem Own.fr {base : Nat} {e : TypeId} {sz : Nat} {w w' : World} {v : Value} {l : List (List D)} {S : Nat → Prop} (h : Own base e sz w v l) (hf : Fr S w w') (hs : ∀ k, base ≤ k → ¬ S k) : Own base e sz w' v l := by
  obtain ⟨xs, h1, h2⟩ := h
  exact ⟨xs, ownsRow_fr h1 hf hs, h2.mono (fun b o u hb hc => hf.cell' hc (hs b hb.1)) fun b hb => ⟨hb.1, Nat.lt_of_lt_of_le hb.2.1 hf.size, hb.2.2⟩⟩
theorem Own.slice {base : Nat} {e : TypeId} {sz : Nat} {w : World} {v : Value} {l : List (List D)} (h : Own base e sz w v l) : ∃ A c, v = .slice A l.length c ∧ l.length ≤ c := by
  obtain ⟨xs, ⟨_, h2⟩, _⟩ := h
  rcases h2 with ⟨rfl, h2⟩ | ⟨g, cap, cur, hv, hb, hh, h3, _⟩
  · exact ⟨none, 0, by rw [h2], by omega⟩
  · exact ⟨_, cap, hv, h3⟩
theorem Own.lt {base : Nat} {e : TypeId} {sz : Nat} {w : World} {v : Value} {l : List (List D)} (h : Own base e sz w v l) : ∀ k, v.ownBlock = some k → base ≤ k ∧ k < w.heap.size := by
  obtain ⟨xs, h, _⟩ := h; exact h.lt
theorem Own.rows {base : Nat} {e : TypeId} {sz : Nat} {w : World} {A : Option Addr} {c n : Nat} {l : List (List D)} (h : Own base e sz w (.slice A n c) l) : RdRows (fun k => base ≤ k ∧ k < w.heap.size) w sz A 0 l := by
  obtain ⟨xs, h1, h2⟩ := h
  have h1' := h1
  obtain ⟨_, h3⟩ := h1
  rcases h3 with ⟨hv, h3⟩ | ⟨g, cap, cur, hv, hb, hh, _⟩
  · obtain rfl : l = [] := List.eq_nil_of_length_eq_zero h3
    trivial
  · obtain ⟨rfl, rfl, rfl⟩ : A = some ⟨g, 0, none⟩ ∧ n = l.length ∧ c = cap := by cases hv; exact ⟨rfl, rfl, rfl⟩
    refine RdRows.of_chunks ⟨hb, (Array.getElem?_eq_some_iff.1 hh).1⟩ (h2.mono (fun _ _ _ _ h => h) fun b hb => ⟨hb.1, hb.2.1⟩) fun j u hu => ?_
    have := h1'.cells (g := g) rfl j u hu
    simpa [Addr.add_lit] using this

/-- append onto an own row: the row stays where it is, or lies in the newest block. -/
theorem run_append_where {P : Program} (w : World) (base : Nat) (t ty e : TypeId) (i : TypeInfo) (z : Value) (size bytes : Nat) (ht : P.underlying t = some (.slice e)) (hi : P.info? e = some i) (hz : i.zero = some z)
    (hsize : i.size = size) (hby : i.bytes = bytes) (hzs : z.cells.size = size) (hsz : 0 < size) (v : Value) (n : Nat) (xs : List Value) (hown : w.ownsRow base e size v n xs)
    (a : Addr) (m c : Nat) (news : List Value) (hl : news.length = m * size) (hnews : ∀ j u, news[j]? = some u → w.cell? (a.add j) = some u) (h1 : ∀ u ∈ news, u.oneCell' = true)
    (h63 : n + m ≤ maxLen) (hbytes : ((n + m) + (n + m) / 4 + 192) * bytes ≤ 281474976710656) (hbase : base ≤ w.heap.size) :
    ∃ v' w', (Builtin.append_ #[t, t] ty #[v, .slice (some a) m c]).run P w = .ok v' w' ∧ w'.ownsRow base e size v' (n + m) (xs ++ news) ∧ w.grownBy w' v.ownBlock ∧
      (∀ k, v'.ownBlock = some k → v.ownBlock = some k ∨ k = w.heap.size) := by
  obtain ⟨v', w', hr, h2, h3, h4⟩ := run_append_own_wide (P := P) w base t ty e i z size bytes ht hi hz hsize hby hzs hsz v n xs hown a m c news hl hnews h1 h63 hbytes hbase
  refine ⟨v', w', hr, h2, h3, fun k hk => ?_⟩
  have hsmall : n + m ≤ 9223372036854775807 := by simp only [maxLen] at h63; omega
  rcases hown.2 with ⟨rfl, rfl⟩ | ⟨g, cap, cur, rfl, hbg, hg, hnc, hcm, hcs, htake⟩
  · have hx : xs = [] := List.eq_nil_of_length_eq_zero (by simpa using hown.1)
    subst hx
    by_cases hm : m = 0
    · have := h4.2 ⟨rfl, hm⟩
      subst this
      simp [Value.ownBlock] at hk
    · have hr' := run_append_nil (P := P) w t ty e i z ht hi hz a m c news (by rw [hsize]; exact hl) hnews (by omega) (by omega) (by have hb := hbytes; simp only [Nat.zero_add] at hb; rw [hby]; exact Nat.le_trans (Nat.mul_le_mul_right _ (by omega)) hb)
      rw [hr] at hr'
      injection hr' with hv _
      subst hv
      right
      simp [Value.ownBlock] at hk
      exact hk.symm
  · by_cases hroom : n + m ≤ cap
    · have hr' := run_append_room (P := P) w t ty e i ht hi g n cap cur hg a m c news (by rw [hsize]; exact hl) hnews h1 hroom (by rw [hl, hcs, hsize, ← Nat.add_mul]; exact Nat.mul_le_mul_right _ hroom)
      rw [hr] at hr'
      injection hr' with hv _
      subst hv
      left
      simpa [Value.ownBlock] using hk
    · have holds : ∀ j u, xs[j]? = some u → w.cell? ((⟨g, 0, none⟩ : Addr).add j) = some u := hown.cells (g := g) rfl
      have hr' := run_append_grow (P := P) w t ty e i z ht hi hz ⟨g, 0, none⟩ n cap xs (by rw [hsize]; exact hown.1) holds a m c news (by rw [hsize]; exact hl) hnews (by omega) (by omega) (by rw [hby]; exact growslice_fits_wide (by omega) hbytes)
      rw [hr] at hr'
      injection hr' with hv _
      subst hv
      right
      simp [Value.ownBlock] at hk
      exact hk.symm

theorem own_append {P : Program} {ops : Array Oper} {rest : List Oper} {o : Oper} {a : Act} {Q : Exit → Act → World → Prop} {w : World} (hgd : o.guard = none) (s x : Operand) (t : TypeId)
    (ho : o.op = .call { callee := .builtin .append, args := #[s, x], argTypes := #[t, t] })
    (base : Nat) (e : TypeId) (i : TypeInfo) (z : Value) (size bytes : Nat) (ht : P.underlying t = some (.slice e)) (hi : P.info? e = some i) (hz : i.zero = some z)
    (hsize : i.size = size) (hby : i.bytes = bytes) (hzs : z.cells.size = size) (hsz : 0 < size)
    (v : Value) (l : List (List D)) (hs : a.eval s = v) (hown : Own base e size w v l)
    (ad : Addr) (m c : Nat) (hx : a.eval x = .slice (some ad) m c) (l' : List (List D)) (us : List Value) (hch : Chunks (okOwn base w v) w size l' us) (hm : l'.length = m) (hnews : ∀ j u, us[j]? = some u → w.cell? (ad.add j) = some u) (h1 : ∀ u ∈ us, u.oneCell' = true)
    (h63 : l.length + m ≤ maxLen) (hbytes : ((l.length + m) + (l.length + m) / 4 + 192) * bytes ≤ 281474976710656) (hbase : base ≤ w.heap.size)
    (h : ∀ v' w', Own base e size w' v' (l ++ l') → Fr (fun k => base ≤ k ∧ v.ownBlock = some k) w w' → wpList P ops Q rest (a.put o.dst v') w') : wpList P ops Q (o :: rest) a w := by
  obtain ⟨xs, hrow, hcs⟩ := hown
  obtain ⟨v', w', hr, hrow', hg, hwh⟩ := run_append_where (P := P) w base t o.type e i z size bytes ht hi hz hsize hby hzs hsz v l.length xs hrow ad m c us (by rw [hch.length, hm]) hnews h1 h63 hbytes hbase
  have hfr : Fr (fun k => base ≤ k ∧ v.ownBlock = some k) w w' := ⟨hg.os, hg.tape, hg.output, hg.size, fun k hk hn => hg.block k hk fun e => hn ⟨(hrow.lt k e.symm).1, e.symm⟩⟩
  have key : ∀ b o u, okOwn base w v b → w.cell? ⟨b, o, none⟩ = some u → w'.cell? ⟨b, o, none⟩ = some u := fun b o u hb hc => hfr.cell' hc fun hx => hb.2.2 hx.2
  have hnew : ∀ b, okOwn base w v b → okOwn base w' v' b := fun b hb => ⟨hb.1, Nat.lt_of_lt_of_le hb.2.1 hg.size, fun hv => by
    rcases hwh b hv with h | h
    · exact hb.2.2 h
    · have := hb.2.1; omega⟩
  have hres := h v' w' ⟨xs ++ us, by rw [List.length_append, hm]; exact hrow', Chunks.append (hch.mono key hnew) (hcs.mono key hnew)⟩ hfr
  refine wpList_plain hgd fun K hK => ?_
  unfold Oper.wp execOp
  simp only [ho, resolve, invoke, builtin, Sem.run_bind, Sem.run_pure, Result.andThen_ok, List.map_toArray, List.map_cons, List.map_nil, hs, hx, hr]
  exact hK _ _ hres

def exZ : Value := .agg #[.int .u8 0, .int .u64 0, .string ⟨#[]⟩, .int .u8 0, .slice none 0 0]
def stZ : Value := .agg #[.int .u8 0, .string ⟨#[]⟩, .string ⟨#[]⟩, .bool false, .bool false, .slice none 0 0, .slice none 0 0, .slice none 0 0, .slice none 0 0]
def paZ : Value := .agg #[.string ⟨#[]⟩, .bool false, .bool false, .bool false]
def fuZ : Value := .agg #[.string ⟨#[]⟩, .slice none 0 0, .slice none 0 0, .bool false, .slice none 0 0]
def vaZ : Value := .agg #[.string ⟨#[]⟩, .bool false, .bool false, .bool false, .bool false, .bool false, .bool false, .int .i64 0, .int .i64 0]
def tkZ : Value := .agg #[.int .u8 0, .string ⟨#[]⟩, .int .u64 0, .int .i64 0]
/-- What an append of a kind of slices asks, and gives. -/
def AppLaw (t e : TypeId) (size bytes : Nat) : Prop :=
  ∀ {ops : Array Oper} {rest : List Oper} {o : Oper} {a : Act} {Q : Exit → Act → World → Prop} {w : World} (_ : o.guard = none) (s x : Operand)
    (_ : o.op = .call { callee := .builtin .append, args := #[s, x], argTypes := #[t, t] })
    (base : Nat) (v : Value) (l : List (List D)) (_ : a.eval s = v) (_ : Own base e size w v l)
    (ad : Addr) (m c : Nat) (_ : a.eval x = .slice (some ad) m c) (l' : List (List D)) (us : List Value) (_ : Chunks (okOwn base w v) w size l' us) (_ : l'.length = m) (_ : ∀ j u, us[j]? = some u → w.cell? (ad.add j) = some u) (_ : ∀ u ∈ us, u.oneCell' = true)
    (_ : l.length + m ≤ maxLen) (_ : ((l.length + m) + (l.length + m) / 4 + 192) * bytes ≤ 281474976710656) (_ : base ≤ w.heap.size)
    (_ : ∀ v' w', Own base e size w' v' (l ++ l') → Fr (fun k => base ≤ k ∧ v.ownBlock = some k) w w' → wpList Tryz.prog ops Q rest (a.put o.dst v') w'), wpList Tryz.prog ops Q (o :: rest) a w
theorem app_of {t e : TypeId} {z : Value} {size bytes : Nat} (ht : Tryz.prog.underlying t = some (.slice e)) (hi : (Tryz.prog.info? e).map (fun i => (i.zero, i.size, i.bytes)) = some (some z, size, bytes)) (hzs : z.cells.size = size) (hsz : 0 < size) : AppLaw t e size bytes := by
  obtain ⟨i0, h0, h1, h2, h3⟩ := info_parts hi
  intro ops rest o a Q w hgd s x ho base v l hs hown ad m c hx l' us hch hm hnews h1' h63 hbytes hbase h
  exact own_append hgd s x t ho base e i0 z size bytes ht h0 h1 h2 h3 hzs hsz v l hs hown ad m c hx l' us hch hm hnews h1' h63 hbytes hbase h
theorem app_ex : AppLaw 42 48 5 64 := app_of (z := exZ) (by kernel_rfl) (by kernel_rfl) rfl (by decide)
theorem app_st : AppLaw 40 53 9 144 := app_of (z := stZ) (by kernel_rfl) (by kernel_rfl) rfl (by decide)
theorem app_pa : AppLaw 41 50 4 24 := app_of (z := paZ) (by kernel_rfl) (by kernel_rfl) rfl (by decide)
theorem app_fu : AppLaw 22 44 5 96 := app_of (z := fuZ) (by kernel_rfl) (by kernel_rfl) rfl (by decide)
theorem app_va : AppLaw 68 148 9 40 := app_of (z := vaZ) (by kernel_rfl) (by kernel_rfl) rfl (by decide)
theorem app_tk : AppLaw 109 119 4 40 := app_of (z := tkZ) (by kernel_rfl) (by kernel_rfl) rfl (by decide)
theorem app_str : AppLaw 51 9 1 16 := app_of (z := .string ⟨#[]⟩) (by kernel_rfl) (by kernel_rfl) rfl (by decide)

/-- Blocks that a call has made. -/
def New (B : Nat) (w : World) (k : Nat) : Prop := B ≤ k ∧ k < w.heap.size
theorem New.mono {B B' : Nat} {w w' : World} (hB : B' ≤ B) (hs : w.heap.size ≤ w'.heap.size) : ∀ k, New B w k → New B' w' k := fun k h => ⟨Nat.le_trans hB h.1, Nat.lt_of_lt_of_le h.2 hs⟩
theorem take_snoc {α : Type} (l : List α) (j : Nat) (h : j < l.length) : l.take (j + 1) = l.take j ++ [l[j]] := List.take_succ_eq_append_getElem h
theorem new_own {base : Nat} {w w1 w2 : World} {v : Value} (hv : ∀ k, v.ownBlock = some k → base ≤ k ∧ k < w1.heap.size) (hB : base ≤ w1.heap.size) (hs : w2.heap.size ≤ w.heap.size) : ∀ k, New w1.heap.size w2 k → okOwn base w v k :=
  fun k h => ⟨Nat.le_trans hB h.1, Nat.lt_of_lt_of_le h.2 hs, fun e => by have := (hv k e).2; have := h.1; omega⟩
theorem new_cells (w : World) (cs : List Value) (T : TypeId) : ∀ q u, cs[q]? = some u → (w.alloc (.cells cs.toArray T)).cell? ((⟨w.heap.size, 0, none⟩ : Addr).add q) = some u := fun q u h => by
  rw [Addr.add_lit, Nat.zero_add, World.cell?_alloc_at _ _ _ _ rfl]; simpa using h
theorem new_cells' {w : World} {cs : List Value} {T : TypeId} {n : Nat} (hn : w.heap.size = n) : ∀ q u, cs[q]? = some u → (w.alloc (.cells cs.toArray T)).cell? ((⟨n, 0, none⟩ : Addr).add q) = some u := hn ▸ new_cells w cs T
theorem chunk_ex {ok : Nat → Prop} {w : World} (e : Ex) {A : Option Addr} {c : Nat} (h1 : e.kids.length ≤ c) (h2 : e.kids.length * 64 ≤ reach) (hr : RdRows ok w 5 A 0 (Ex.ds e.kids)) :
    Chunks ok w 5 [e.d] [vu8 e.kind, vu64 e.num, .string e.name, vu8 e.op, .slice A e.kids.length c] := by
  obtain ⟨kd, n, s, o, l⟩ := e
  exact ⟨_, [], rfl, rfl, rfl, ⟨_, _, rfl, rfl, _, _, rfl, rfl, _, _, rfl, rfl, _, _, rfl, rfl, _, _, rfl, ⟨A, c, by rw [Ex.ds_length]; rfl, by rw [Ex.ds_length]; exact h1, by rw [Ex.ds_length]; exact h2, hr⟩, rfl⟩, rfl⟩
theorem one_ex (a : UInt8) (b : UInt64) (s : ByteArray) (o : UInt8) (A : Option Addr) (n c : Nat) : ∀ u ∈ [vu8 a, vu64 b, .string s, vu8 o, .slice A n c], u.oneCell' = true := by
  intro u hu; simp at hu; rcases hu with rfl | rfl | rfl | rfl | rfl <;> rfl
theorem room64 {n : Nat} (h : n * 64 ≤ reach) : n ≤ maxLen ∧ (n + n / 4 + 192) * 64 ≤ 281474976710656 := by unfold reach at h; unfold maxLen; omega
theorem room144 {n : Nat} (h : n * 144 ≤ reach) : n ≤ maxLen ∧ (n + n / 4 + 192) * 144 ≤ 281474976710656 := by unfold reach at h; unfold maxLen; omega
theorem room24 {n : Nat} (h : n * 24 ≤ reach) : n ≤ maxLen ∧ (n + n / 4 + 192) * 24 ≤ 281474976710656 := by unfold reach at h; unfold maxLen; omega
theorem room96 {n : Nat} (h : n * 96 ≤ reach) : n ≤ maxLen ∧ (n + n / 4 + 192) * 96 ≤ 281474976710656 := by unfold reach at h; unfold maxLen; omega
theorem room16 {n : Nat} (h : n * 16 ≤ reach) : n ≤ maxLen ∧ (n + n / 4 + 192) * 16 ≤ 281474976710656 := by unfold reach at h; unfold maxLen; omega
theorem room40 {n : Nat} (h : n * 40 ≤ reach) : n ≤ maxLen ∧ (n + n / 4 + 192) * 40 ≤ 281474976710656 := by unfold reach at h; unfold maxLen; omega
/-- A block of cells that is known whole. -/
theorem cells_of {w : World} {b : Nat} {cs : Array Value} {T : TypeId} (h : w.heap[b]? = some (.cells cs T (0, 0))) : (∀ i v, cs[i]? = some v → w.cell? ⟨b, i, none⟩ = some v) ∧ (∀ i, w.frozen? ⟨b, i, none⟩ = false) := by
  constructor
  · intro i v hv; simp [World.cell?, h, hv]
  · intro i; simp [World.frozen?, h]
theorem blk_new (w : World) (cs : Array Value) (T : TypeId) : (w.alloc (.cells cs T)).heap[w.heap.size]? = some (.cells cs T (0, 0)) := by
  show (w.heap.push _)[w.heap.size]? = _
  rw [Array.getElem?_push, if_pos rfl]
theorem blk_new' {w : World} {b : Nat} (h : w.heap.size = b) (cs : Array Value) (T : TypeId) : (w.alloc (.cells cs T)).heap[b]? = some (.cells cs T (0, 0)) := h ▸ blk_new w cs T
theorem blk_old {w : World} {b : Nat} {o o' : Obj} (h : w.heap[b]? = some o) : (w.alloc o').heap[b]? = some o := by
  rw [Below.heap_alloc _ _ _ (Array.getElem?_eq_some_iff.1 h).1]; exact h
theorem blk_fr {S : Nat → Prop} {w w' : World} {b : Nat} {o : Obj} (h : w.heap[b]? = some o) (hf : Fr S w w') (hs : ¬ S b) : w'.heap[b]? = some o := by
  rw [hf.block b (Array.getElem?_eq_some_iff.1 h).1 hs]; exact h
theorem blk_lt {w : World} {b : Nat} {o : Obj} (h : w.heap[b]? = some o) : b < w.heap.size := (Array.getElem?_eq_some_iff.1 h).1

/-! ### appending what lies in memory -/
def D.one : D → Prop
  | .v x => x.oneCell' = true
  | .row _ _ _ => True
theorem Chunks.ones {ok : Nat → Prop} {w : World} {sz : Nat} : ∀ {l : List (List D)} {xs : List Value}, Chunks ok w sz l xs → (∀ ds ∈ l, ∀ d ∈ ds, d.one) → ∀ u ∈ xs, u.oneCell' = true
  | [], _, h, _, u, hu => by cases h; cases hu
  | ds :: l, _, ⟨us, r, e, g1, g2, g3, g4⟩, ho, u, hu => by
    subst e
    rcases List.mem_append.1 hu with hu | hu
    · have : ∀ {ds : List D} {us : List Value}, RdL ok w ds us → (∀ d ∈ ds, d.one) → ∀ u ∈ us, u.oneCell' = true := by
        intro ds
        induction ds with
        | nil => intro us h _ u hu; cases h; cases hu
        | cons d ds ih =>
          intro us h ho u hu
          obtain ⟨u', r, rfl, h1, h2⟩ := h
          rcases List.mem_cons.1 hu with rfl | hu
          · have hd := ho d (by simp)
            cases d with
            | v x => rw [show u = x from h1]; exact hd
            | row sz b l => obtain ⟨A, c, rfl, _⟩ := h1; rfl
          · exact ih h2 (fun d hd => ho d (by simp [hd])) u hu
      exact this g3 (ho ds (by simp)) u hu
    · exact g4.ones (fun ds hds => ho ds (by simp [hds])) u hu
theorem RdAt.cells {ok : Nat → Prop} {w : World} {b : Nat} : ∀ {ds : List D} {o : Nat}, RdAt ok w b o ds → ∃ us, us.length = ds.length ∧ RdL ok w ds us ∧ ∀ j u, us[j]? = some u → w.cell? ⟨b, o + j, none⟩ = some u
  | [], _, _ => ⟨[], rfl, rfl, fun j u h => by simp at h⟩
  | d :: ds, o, ⟨⟨u, h1, h2⟩, h3⟩ => by
    obtain ⟨us, g1, g2, g3⟩ := RdAt.cells h3
    refine ⟨u :: us, by simp [g1], ⟨u, us, rfl, h2, g2⟩, fun j v hv => ?_⟩
    cases j with
    | zero => cases hv; exact h1
    | succ j => have := g3 j v (by simpa using hv); rwa [show o + (j + 1) = o + 1 + j by omega]
theorem RdRows.cells {ok : Nat → Prop} {w : World} {sz b o : Nat} : ∀ {l : List (List D)} {i : Nat}, RdRows ok w sz (some ⟨b, o, none⟩) i l → ∃ us, Chunks ok w sz l us ∧ ∀ j u, us[j]? = some u → w.cell? ⟨b, o + i * sz + j, none⟩ = some u
  | [], _, _ => ⟨[], rfl, fun j u h => by simp at h⟩
  | ds :: l, i, ⟨⟨b', o', e, hb, hl, hr⟩, h'⟩ => by
    cases e
    obtain ⟨us, g1, g2, g3⟩ := hr.cells
    obtain ⟨vs, q1, q2⟩ := RdRows.cells h'
    refine ⟨us ++ vs, ⟨us, vs, rfl, by rw [g1, hl], hl, g2, q1⟩, fun j u hu => ?_⟩
    by_cases hj : j < us.length
    · exact g3 j u (by rwa [List.getElem?_append_left hj] at hu)
    · rw [List.getElem?_append_right (by omega)] at hu
      have := q2 _ u hu
      rwa [show o + (i + 1) * sz + (j - us.length) = o + i * sz + j by rw [Nat.succ_mul, g1, hl] at *; omega] at this
theorem RdRows.src {ok : Nat → Prop} {w : World} {sz : Nat} {A : Option Addr} {l : List (List D)} (h : RdRows ok w sz A 0 l) (hne : l ≠ []) :
    ∃ ad us, A = some ad ∧ Chunks ok w sz l us ∧ ∀ j u, us[j]? = some u → w.cell? (ad.add j) = some u := by
  cases l with
  | nil => exact absurd rfl hne
  | cons ds l =>
    have h0 := h
    obtain ⟨⟨b, o, rfl, _⟩, _⟩ := h0
    obtain ⟨us, h1, h2⟩ := h.cells
    exact ⟨_, us, rfl, h1, fun j u hu => by rw [Addr.add_lit]; simpa using h2 j u hu⟩

/-- An own row whose elements lead to blocks that are ok, all of them older than the row. -/
def OwnX (ok : Nat → Prop) (base : Nat) (e : TypeId) (sz : Nat) (w : World) (v : Value) (l : List (List D)) : Prop :=
  ∃ xs, w.ownsRow base e sz v l.length xs ∧ Chunks ok w sz l xs
theorem OwnX.nil (ok : Nat → Prop) (base : Nat) (e : TypeId) (sz : Nat) (w : World) : OwnX ok base e sz w (.slice none 0 0) [] := ⟨[], World.ownsRow_nil _ _ _ _, rfl⟩
theorem OwnX.fr {ok : Nat → Prop} {base : Nat} {e : TypeId} {sz : Nat} {w w' : World} {v : Value} {l : List (List D)} {S : Nat → Prop} (h : OwnX ok base e sz w v l) (hf : Fr S w w') (hs : ∀ k, base ≤ k → ¬ S k) (hk : ∀ k, ok k → ¬ S k) : OwnX ok base e sz w' v l := by
  obtain ⟨xs, h1, h2⟩ := h
  exact ⟨xs, ownsRow_fr h1 hf hs, h2.mono (fun b o u hb hc => hf.cell' hc (hk b hb)) fun b hb => hb⟩
theorem OwnX.slice {ok : Nat → Prop} {base : Nat} {e : TypeId} {sz : Nat} {w : World} {v : Value} {l : List (List D)} (h : OwnX ok base e sz w v l) : ∃ A c, v = .slice A l.length c ∧ l.length ≤ c := by
  obtain ⟨xs, ⟨_, h2⟩, _⟩ := h
  rcases h2 with ⟨rfl, h2⟩ | ⟨g, cap, cur, hv, hb, hh, h3, _⟩
  · exact ⟨none, 0, by rw [h2], by omega⟩
  · exact ⟨_, cap, hv, h3⟩
theorem OwnX.rows {ok : Nat → Prop} {base : Nat} {e : TypeId} {sz : Nat} {w : World} {A : Option Addr} {c n : Nat} {l : List (List D)} (h : OwnX ok base e sz w (.slice A n c) l) : RdRows (fun k => ok k ∨ base ≤ k ∧ k < w.heap.size) w sz A 0 l := by
  obtain ⟨xs, h1, h2⟩ := h
  have h1' := h1
  obtain ⟨_, h3⟩ := h1
  rcases h3 with ⟨hv, h3⟩ | ⟨g, cap, cur, hv, hb, hh, _⟩
  · obtain rfl : l = [] := List.eq_nil_of_length_eq_zero h3
    trivial
  · obtain ⟨rfl, rfl, rfl⟩ : A = some ⟨g, 0, none⟩ ∧ n = l.length ∧ c = cap := by cases hv; exact ⟨rfl, rfl, rfl⟩
    refine RdRows.of_chunks (.inr ⟨hb, (Array.getElem?_eq_some_iff.1 hh).1⟩) (h2.mono (fun _ _ _ _ h => h) fun b hb => .inl hb) fun j u hu => ?_
    have := h1'.cells (g := g) rfl j u hu
    simpa [Addr.add_lit] using this
theorem wp_append_run {P : Program} {ops : Array Oper} {rest : List Oper} {o : Oper} {a : Act} {Q : Exit → Act → World → Prop} {w w' : World} {t : TypeId} {v u v' : Value} (hgd : o.guard = none) (s x : Operand)
    (ho : o.op = .call { callee := .builtin .append, args := #[s, x], argTypes := #[t, t] }) (hs : a.eval s = v) (hx : a.eval x = u) (hr : (Builtin.append_ #[t, t] o.type #[v, u]).run P w = .ok v' w')
    (hres : wpList P ops Q rest (a.put o.dst v') w') : wpList P ops Q (o :: rest) a w := by
  refine wpList_plain hgd fun K hK => ?_
  unfold Oper.wp execOp
  simp only [ho, resolve, invoke, builtin, Sem.run_bind, Sem.run_pure, Result.andThen_ok, List.map_toArray, List.map_cons, List.map_nil, hs, hx, hr]
  exact hK _ _ hres
/-- append(own, row...): the row may be nil, or have no elements. -/
def AppX (t e : TypeId) (size bytes : Nat) : Prop :=
  ∀ {ops : Array Oper} {rest : List Oper} {o : Oper} {a : Act} {Q : Exit → Act → World → Prop} {w : World} (_ : o.guard = none) (s x : Operand)
    (_ : o.op = .call { callee := .builtin .append, args := #[s, x], argTypes := #[t, t] })
    (ok : Nat → Prop) (base : Nat) (v : Value) (l : List (List D)) (_ : a.eval s = v) (_ : OwnX ok base e size w v l) (_ : ∀ k, ok k → k < base)
    (A : Option Addr) (c : Nat) (l' : List (List D)) (_ : a.eval x = .slice A l'.length c) (_ : RdRows ok w size A 0 l') (_ : ∀ ds ∈ l', ∀ d ∈ ds, d.one)
    (_ : l.length + l'.length ≤ maxLen) (_ : ((l.length + l'.length) + (l.length + l'.length) / 4 + 192) * bytes ≤ 281474976710656) (_ : base ≤ w.heap.size)
    (_ : ∀ v' w', OwnX ok base e size w' v' (l ++ l') → Fr (fun k => base ≤ k ∧ v.ownBlock = some k) w w' → wpList Tryz.prog ops Q rest (a.put o.dst v') w'), wpList Tryz.prog ops Q (o :: rest) a w
theorem appX_of {t e : TypeId} {z : Value} {size bytes : Nat} (ht : Tryz.prog.underlying t = some (.slice e)) (hi : (Tryz.prog.info? e).map (fun i => (i.zero, i.size, i.bytes)) = some (some z, size, bytes)) (hzs : z.cells.size = size) (hsz : 0 < size) : AppX t e size bytes := by
  obtain ⟨i0, h0, h1, h2, h3⟩ := info_parts hi
  intro ops rest o a Q w hgd s x ho ok base v l hs hown hokb A c l' hx hrd hone h63 hbytes hbase h
  obtain ⟨xs, hrow, hcs⟩ := hown
  cases A with
  | some ad =>
    obtain ⟨us, hch, hce⟩ : ∃ us, Chunks ok w size l' us ∧ ∀ j u, us[j]? = some u → w.cell? (ad.add j) = some u := by
      by_cases hne : l' = []
      · subst hne; exact ⟨[], rfl, fun j u hu => by simp at hu⟩
      · obtain ⟨ad', us, e, g1, g2⟩ := hrd.src hne
        cases e; exact ⟨us, g1, g2⟩
    obtain ⟨v', w', hr, hrow', hg, hwh⟩ := run_append_where (P := Tryz.prog) w base t o.type e i0 z size bytes ht h0 h1 h2 h3 hzs hsz v l.length xs hrow ad l'.length c us hch.length hce (hch.ones hone) h63 hbytes hbase
    have hfr : Fr (fun k => base ≤ k ∧ v.ownBlock = some k) w w' := ⟨hg.os, hg.tape, hg.output, hg.size, fun k hk hn => hg.block k hk fun e => hn ⟨(hrow.lt k e.symm).1, e.symm⟩⟩
    have key : ∀ b o u, ok b → w.cell? ⟨b, o, none⟩ = some u → w'.cell? ⟨b, o, none⟩ = some u := fun b o u hb hc => hfr.cell' hc fun hx => by have h8 := hokb b hb; have h9 : base ≤ b := hx.1; omega
    exact wp_append_run hgd s x ho hs hx hr (h v' w' ⟨xs ++ us, by rw [List.length_append]; exact hrow', Chunks.append (hch.mono key fun _ h => h) (hcs.mono key fun _ h => h)⟩ hfr)
  | none =>
    have hne : l' = [] := by
      cases l' with
      | nil => rfl
      | cons ds l' => obtain ⟨⟨b, o, e, _⟩, _⟩ := hrd; cases e
    subst hne
    have hr : (Builtin.append_ #[t, t] o.type #[v, .slice none ([] : List (List D)).length c]).run Tryz.prog w = .ok v w := by
      rcases hrow.2 with ⟨rfl, h9⟩ | ⟨g, cap, cur, rfl, _, _, hnc, _⟩
      · simp [Builtin.append_, run_underlying ht, sizeOf, typeInfo, h0, Builtin.lenOf, Builtin.firstCells]
      · simp [Builtin.append_, run_underlying ht, sizeOf, typeInfo, h0, Builtin.lenOf, Builtin.firstCells, hnc, storeCells]
    exact wp_append_run hgd s x ho hs hx hr (h v w (by rw [List.append_nil]; exact ⟨xs, hrow, hcs⟩) (Fr.refl _ _))
theorem one_strs (l : List ByteArray) : ∀ ds ∈ l.map strD, ∀ d ∈ ds, d.one := by
  intro ds hds d hd
  obtain ⟨s, _, rfl⟩ := List.mem_map.1 hds
  simp [strD] at hd; subst hd; rfl
theorem one_exs (l : List Ex) : ∀ ds ∈ Ex.ds l, ∀ d ∈ ds, d.one := by
  intro ds hds d hd
  rw [Ex.ds_eq] at hds
  obtain ⟨⟨k, n, s, o, l⟩, _, rfl⟩ := List.mem_map.1 hds
  simp [Ex.d] at hd; rcases hd with rfl | rfl | rfl | rfl | rfl <;> first | rfl | trivial
theorem one_sts (l : List St) : ∀ ds ∈ St.ds l, ∀ d ∈ ds, d.one := by
  intro ds hds d hd
  rw [St.ds_eq] at hds
  obtain ⟨⟨k, n, f, s, m, ex, args, body, els⟩, _, rfl⟩ := List.mem_map.1 hds
  simp [St.d] at hd; rcases hd with rfl | rfl | rfl | rfl | rfl | rfl | rfl | rfl | rfl <;> first | rfl | trivial
theorem one_pas (l : List Pa) : ∀ ds ∈ l.map Pa.d, ∀ d ∈ ds, d.one := by
  intro ds hds d hd
  obtain ⟨⟨n, b, s, m⟩, _, rfl⟩ := List.mem_map.1 hds
  simp [Pa.d] at hd; rcases hd with rfl | rfl | rfl | rfl <;> rfl
theorem appX_ex : AppX 42 48 5 64 := appX_of (z := exZ) (by kernel_rfl) (by kernel_rfl) rfl (by decide)
theorem appX_st : AppX 40 53 9 144 := appX_of (z := stZ) (by kernel_rfl) (by kernel_rfl) rfl (by decide)
theorem appX_pa : AppX 41 50 4 24 := appX_of (z := paZ) (by kernel_rfl) (by kernel_rfl) rfl (by decide)
theorem appX_va : AppX 68 148 9 40 := appX_of (z := vaZ) (by kernel_rfl) (by kernel_rfl) rfl (by decide)
theorem appX_str : AppX 51 9 1 16 := appX_of (z := .string ⟨#[]⟩) (by kernel_rfl) (by kernel_rfl) rfl (by decide)
theorem chunk_st {ok : Nat → Prop} {w : World} (e : St) {A1 A2 A3 A4 : Option Addr} {c1 c2 c3 c4 : Nat} (h1 : e.ex.length ≤ c1) (q1 : e.ex.length * 64 ≤ reach) (r1 : RdRows ok w 5 A1 0 (Ex.ds e.ex))
    (h2 : e.args.length ≤ c2) (q2 : e.args.length * 16 ≤ reach) (r2 : RdRows ok w 1 A2 0 (e.args.map strD)) (h3 : e.body.length ≤ c3) (q3 : e.body.length * 144 ≤ reach) (r3 : RdRows ok w 9 A3 0 (St.ds e.body))
    (h4 : e.els.length ≤ c4) (q4 : e.els.length * 144 ≤ reach) (r4 : RdRows ok w 9 A4 0 (St.ds e.els)) :
    Chunks ok w 9 [e.d] [vu8 e.kind, .string e.name, .string e.frm, .bool e.sec, .bool e.mt, .slice A1 e.ex.length c1, .slice A2 e.args.length c2, .slice A3 e.body.length c3, .slice A4 e.els.length c4] := by
  obtain ⟨k, n, f, s, m, ex, args, body, els⟩ := e
  exact ⟨_, [], rfl, rfl, rfl, ⟨_, _, rfl, rfl, _, _, rfl, rfl, _, _, rfl, rfl, _, _, rfl, rfl, _, _, rfl, rfl, _, _, rfl, ⟨A1, c1, by rw [Ex.ds_length]; rfl, by rw [Ex.ds_length]; exact h1, by rw [Ex.ds_length]; exact q1, r1⟩,
    _, _, rfl, ⟨A2, c2, by rw [List.length_map]; rfl, by rw [List.length_map]; exact h2, by rw [List.length_map]; exact q2, r2⟩,
    _, _, rfl, ⟨A3, c3, by rw [St.ds_length]; rfl, by rw [St.ds_length]; exact h3, by rw [St.ds_length]; exact q3, r3⟩,
    _, _, rfl, ⟨A4, c4, by rw [St.ds_length]; rfl, by rw [St.ds_length]; exact h4, by rw [St.ds_length]; exact q4, r4⟩, rfl⟩, rfl⟩
theorem one_st (a : UInt8) (n f : ByteArray) (b c : Bool) (A1 A2 A3 A4 : Option Addr) (n1 n2 n3 n4 c1 c2 c3 c4 : Nat) : ∀ u ∈ [vu8 a, .string n, .string f, .bool b, .bool c, .slice A1 n1 c1, .slice A2 n2 c2, .slice A3 n3 c3, .slice A4 n4 c4], u.oneCell' = true := by
  intro u hu; simp at hu; rcases hu with rfl | rfl | rfl | rfl | rfl | rfl | rfl | rfl | rfl <;> rfl
theorem Chunks.strs {ok ok' : Nat → Prop} {w w' : World} : ∀ {l : List ByteArray} {xs : List Value}, Chunks ok w 1 (l.map strD) xs → Chunks ok' w' 1 (l.map strD) xs
  | [], _, h => h
  | s :: l, _, ⟨us, r, e, g1, g2, ⟨u, q, e1, e2, e3⟩, g4⟩ => ⟨us, r, e, g1, g2, ⟨u, q, e1, e2, e3⟩, Chunks.strs g4⟩
theorem Chunks.pas {ok ok' : Nat → Prop} {w w' : World} : ∀ {l : List Pa} {xs : List Value}, Chunks ok w 4 (l.map Pa.d) xs → Chunks ok' w' 4 (l.map Pa.d) xs
  | [], _, h => h
  | s :: l, _, ⟨us, r, e, g1, g2, ⟨u1, q1, e1, f1, u2, q2, e2, f2, u3, q3, e3, f3, u4, q4, e4, f4, f5⟩, g4⟩ => ⟨us, r, e, g1, g2, ⟨u1, q1, e1, f1, u2, q2, e2, f2, u3, q3, e3, f3, u4, q4, e4, f4, f5⟩, Chunks.pas g4⟩
theorem rows_of_own {ok : Nat → Prop} {base e sz : Nat} {w : World} {A : Option Addr} {c n : Nat} {l : List (List D)} {xs : List Value} (h1 : w.ownsRow base e sz (.slice A n c) l.length xs) (hch : Chunks (New base w) w sz l xs) : RdRows (New base w) w sz A 0 l := by
  have h1' := h1
  obtain ⟨_, h3⟩ := h1
  rcases h3 with ⟨hv, h3⟩ | ⟨g, cap, cur, hv, hb, hh, _⟩
  · obtain rfl : l = [] := List.eq_nil_of_length_eq_zero h3
    trivial
  · obtain ⟨rfl, rfl, rfl⟩ : A = some ⟨g, 0, none⟩ ∧ n = l.length ∧ c = cap := by cases hv; exact ⟨rfl, rfl, rfl⟩
    refine RdRows.of_chunks ⟨hb, (Array.getElem?_eq_some_iff.1 hh).1⟩ hch fun j u hu => ?_
    have := h1'.cells (g := g) rfl j u hu
    simpa [Addr.add_lit] using this
theorem OwnX.rows_strs {ok : Nat → Prop} {base : Nat} {e : TypeId} {w : World} {A : Option Addr} {c n : Nat} {l : List ByteArray} (h : OwnX ok base e 1 w (.slice A n c) (l.map strD)) : RdRows (New base w) w 1 A 0 (l.map strD) := by
  obtain ⟨xs, h1, h2⟩ := h
  exact rows_of_own (ok := ok) h1 h2.strs
theorem OwnX.rows_pas {ok : Nat → Prop} {base : Nat} {e : TypeId} {w : World} {A : Option Addr} {c n : Nat} {l : List Pa} (h : OwnX ok base e 4 w (.slice A n c) (l.map Pa.d)) : RdRows (New base w) w 4 A 0 (l.map Pa.d) := by
  obtain ⟨xs, h1, h2⟩ := h
  exact rows_of_own (ok := ok) h1 h2.pas
theorem blk_set {w : World} {b : Nat} {cs : Array Value} {T : TypeId} (h : w.heap[b]? = some (.cells cs T (0, 0))) (i : Nat) (v : Value) : (w.setCell ⟨b, i, none⟩ v).heap[b]? = some (.cells (cs.setIfInBounds i v) T (0, 0)) := by
  simp [World.setCell, Array.getElem?_modify, h]
theorem setCell_size (w : World) (p : Addr) (v : Value) : (w.setCell p v).heap.size = w.heap.size := by simp
theorem chunk_fu {ok : Nat → Prop} {w : World} (e : Fu) {A1 A2 A3 : Option Addr} {c1 c2 c3 : Nat} (h1 : e.params.length ≤ c1) (q1 : e.params.length * 24 ≤ reach) (r1 : RdRows ok w 4 A1 0 (e.params.map Pa.d))
    (h2 : e.body.length ≤ c2) (q2 : e.body.length * 144 ≤ reach) (r2 : RdRows ok w 9 A2 0 (St.ds e.body)) (h3 : e.ret.length ≤ c3) (q3 : e.ret.length * 64 ≤ reach) (r3 : RdRows ok w 5 A3 0 (Ex.ds e.ret)) :
    Chunks ok w 5 [e.d] [.string e.name, .slice A1 e.params.length c1, .slice A2 e.body.length c2, .bool e.sec, .slice A3 e.ret.length c3] := by
  exact ⟨_, [], rfl, rfl, rfl, ⟨_, _, rfl, rfl, _, _, rfl, ⟨A1, c1, by rw [List.length_map], by rw [List.length_map]; exact h1, by rw [List.length_map]; exact q1, r1⟩,
    _, _, rfl, ⟨A2, c2, by rw [St.ds_length], by rw [St.ds_length]; exact h2, by rw [St.ds_length]; exact q2, r2⟩, _, _, rfl, rfl,
    _, _, rfl, ⟨A3, c3, by rw [Ex.ds_length], by rw [Ex.ds_length]; exact h3, by rw [Ex.ds_length]; exact q3, r3⟩, rfl⟩, rfl⟩
theorem one_fu (n : ByteArray) (b : Bool) (A1 A2 A3 : Option Addr) (n1 n2 n3 c1 c2 c3 : Nat) : ∀ u ∈ [Value.string n, .slice A1 n1 c1, .slice A2 n2 c2, .bool b, .slice A3 n3 c3], u.oneCell' = true := by
  intro u hu; simp at hu; rcases hu with rfl | rfl | rfl | rfl | rfl <;> rfl
end Go.Proofs.YtnlnejpioijkiaaGreatDoor
/- Contracts of the reference's copies. -/
namespace Go.Proofs.YtnlnejpioijkiaaGreatDoor
open Go.RowKit
set_option linter.unusedVariables false
set_option linter.unusedSimpArgs false

set_option maxHeartbeats 1000000 in
theorem copyE_any (N : Nat) : ∀ (k : UInt8) (n : UInt64) (s : ByteArray) (o : UInt8) (l : List Ex) (ok : Nat → Prop) (A : Option Addr) (c : Nat) (w : World), Ex.size (.mk k n s o l) ≤ N →
    RdRows ok w 5 A 0 (Ex.ds l) → l.length ≤ c → l.length * 64 ≤ reach →
   Calls Tryz.prog 31 #[exV k n s o A l.length c] w fun e w' => ∃ A' c', e = .returned (exV k n s o A' l.length c') ∧ Fr Non w w' ∧ l.length ≤ c' ∧ RdRows (New w.heap.size w') w' 5 A' 0 (Ex.ds l) := by
  induction N with
  | zero => intro k n s o l ok A c w h; simp [Ex.size] at h
  | succ N ih =>
    intro k n s o l ok A c w hN hr hlc hc
    have hlen : l.length ≤ 140737488355328 := by unfold reach at hc; omega
    have hN' : Ex.sizes l ≤ N := by simp [Ex.size] at hN; omega
    clear hN
    have IH := Lib.hid ih; clear ih
    have HR := Lib.hid hr; clear hr
    go_enter Tryz.func31, Tryz.ntmps31
    go_wp2_with fail
    obtain ⟨W1, HW1⟩ : ∃ W1, W1 = (w.alloc (.cells #[vu8 k, vu64 n, .string s, vu8 o, .slice A l.length c] 48)).alloc (.cells #[.int .u8 0, .int .u64 0, .string ⟨#[]⟩, .int .u8 0, .slice none 0 0] 48) := ⟨_, rfl⟩
    go_loopw [3, 4] (fun v i wr => ∃ j : Nat, i = .int .i64 j ∧ j ≤ l.length ∧ Fr Non W1 wr ∧ Own (w.heap.size + 2) 48 5 wr v (Ex.ds (l.take j))) (fun _ i _ => l.length - (intOf i).toNat)
    case atStart => exact ⟨0, rfl, by omega, HW1 ▸ fr_refl _, Own.nil _ _ _ _⟩
    case round =>
      obtain ⟨j, rfl, hj, hfr, hown⟩ := hrel
      have hz : w.heap.size + 2 ≤ wr.heap.size := by have := hfr.size; rw [HW1] at this; simpa using this
      have hb1 : wr.heap[w.heap.size]? = some (.cells #[vu8 k, vu64 n, .string s, vu8 o, .slice A l.length c] 48 (0, 0)) := blk_fr (by rw [HW1]; exact blk_old (blk_new _ _ _)) hfr (non _)
      have hb2 : wr.heap[w.heap.size + 1]? = some (.cells #[.int .u8 0, .int .u64 0, .string ⟨#[]⟩, .int .u8 0, .slice none 0 0] 48 (0, 0)) := blk_fr (by rw [HW1]; exact blk_new' (by simp) _ _) hfr (non _)
      have g4 := (cells_of hb1).1 4 _ rfl
      have hf0 : Fr Non w W1 := by rw [HW1]; exact ((fr_refl w).alloc _).alloc _
      have hW1 : w.heap.size + 2 ≤ W1.heap.size := by rw [HW1]; simp
      have hW2 : W1.heap.size ≤ w.heap.size + 2 := by rw [HW1]; simp
      clear HW1
      obtain ⟨A3, c3, rfl, hc3⟩ := hown.slice
      have hn : (Ex.ds (l.take j)).length = j := by simp; omega
      rw [hn] at hc3 hown ⊢
      have HN := Lib.hid hn; clear hn
      by_cases hlt : j < l.length
      · obtain ⟨b, o1, A1, c1, rfl, hb, e0, e1, e2, e3, e4, p1, p2, p3⟩ := at_ex (HR.out.fr (hf0.trans hfr) (fun _ _ => non _) (fun _ h => h)) j hlt
        have P3 := Lib.hid p3; clear p3
        have HQ := Lib.hid (size_le l j hlt)
        have HO := Lib.hid hown; clear hown
        have HF := Lib.hid hfr; clear hfr
        have HF0 := Lib.hid hf0; clear hf0
        have HB1 := Lib.hid hb1; clear hb1
        have HB2 := Lib.hid hb2; clear hb2
        go_wp2_with fail
        refine (IH.out _ _ _ _ _ ok A1 c1 _ (by rw [ex_eta]; have := HQ.out; omega) P3.out p1 p2).mono ?_
        rintro e w2 ⟨A2, c2, rfl, hf2, hc2, hr2⟩
        have HR2 := Lib.hid hr2; clear hr2
        have HF2 := Lib.hid hf2; clear hf2
        go_wp2_with (at_builtin; refine app_ex rfl _ _ rfl (w.heap.size + 2) (.slice A3 j c3) (Ex.ds (l.take j)) rfl ?o ⟨w2.heap.size, 0, none⟩ 1 1 rfl [l[j].d] _ ?ch rfl (new_cells _ _ _) (one_ex _ _ _ _ _ _ _) ?b1 ?b2 ?b3 ?k)
        case o => exact HO.out.fr (HF2.out.alloc _) (fun _ _ => non _)
        case ch => exact chunk_ex l[j] hc2 p2 (HR2.out.fr ((fr_refl w2).alloc _) (fun _ _ => non _) (new_own HO.out.lt (by omega) (by simp)))
        case b1 => rw [HN.out]; exact (room64 (by omega)).1
        case b2 => rw [HN.out]; exact (room64 (by omega)).2
        case b3 => have := HF2.out.size; simp; omega
        case k =>
          intro v' w' hown' hfr'
          have HO' := Lib.hid hown'; clear hown'
          have HF' := Lib.hid hfr'; clear hfr'
          go_wp2_with fail
          go_roundw
          case rel => exact ⟨j + 1, by go_num, by omega, ((HF.out.trans HF2.out).alloc _).then HF'.out (fun k hk ht => by have := ht.1; omega), by rw [take_snoc _ _ hlt, Ex.ds_eq, List.map_append, ← Ex.ds_eq]; exact HO'.out⟩
          case measure => simp [intOf]; omega
      · have HO := Lib.hid hown; clear hown
        have HF := Lib.hid hfr; clear hfr
        have HF0 := Lib.hid hf0; clear hf0
        have g0 := (cells_of hb1).1 0 _ rfl
        have g1 := (cells_of hb1).1 1 _ rfl
        have g2 := (cells_of hb1).1 2 _ rfl
        have g3 := (cells_of hb1).1 3 _ rfl
        have gf := (cells_of hb1).2 4
        have k0 := (cells_of hb2).1 0 _ rfl
        have k1 := (cells_of hb2).1 1 _ rfl
        have k2 := (cells_of hb2).1 2 _ rfl
        have k3 := (cells_of hb2).1 3 _ rfl
        have k4 := (cells_of hb2).1 4 _ rfl
        have kf := (cells_of hb2).2
        clear hb1 hb2
        go_wp2_with fail
        refine bodyPost_ret (v := exV k n s o A3 j c3) ?_ rfl ?_
        · simp [results, Tryz.results31, go_sem, k0, k1, k2, k3, k4]
        · obtain rfl : j = l.length := by omega
          refine ⟨A3, c3, rfl, ?_, hc3, ?_⟩
          · repeat (first | with_reducible exact HF0.out.trans HF.out | (with_reducible refine Fr.setCell ?_ _ _ ?_; rotate_left; exact .inr (by simp)))
          · have h3 := HO.out.rows
            rw [List.take_length] at h3
            refine h3.fr (S := fun k => k < w.heap.size + 2) ?_ (fun b hb => by have := hb.1; omega) (fun b hb => ⟨by have := hb.1; omega, by simp; exact hb.2⟩)
            repeat (first | with_reducible exact Fr.refl _ _ | (with_reducible refine Fr.setCell ?_ _ _ ?_; rotate_left; exact .inl (by simp)))

/-- The copy of an expression as a value. -/
theorem copyX_any (e : Ex) (ok : Nat → Prop) (A : Option Addr) (c : Nat) (w : World) (hr : RdRows ok w 5 A 0 (Ex.ds e.kids)) (h1 : e.kids.length ≤ c) (h2 : e.kids.length * 64 ≤ reach) :
   Calls Tryz.prog 31 #[exV e.kind e.num e.name e.op A e.kids.length c] w fun r w' => ∃ A' c', r = .returned (exV e.kind e.num e.name e.op A' e.kids.length c') ∧ Fr Non w w' ∧ e.kids.length ≤ c' ∧ RdRows (New w.heap.size w') w' 5 A' 0 (Ex.ds e.kids) :=
  copyE_any e.size _ _ _ _ _ ok A c w (by rw [ex_eta]; exact Nat.le_refl _) hr h1 h2

set_option maxHeartbeats 1000000 in
theorem copyExprs_any (l : List Ex) (ok : Nat → Prop) (A : Option Addr) (c : Nat) (w : World) (hr : RdRows ok w 5 A 0 (Ex.ds l)) (hlc : l.length ≤ c) (hc : l.length * 64 ≤ reach) :
   Calls Tryz.prog 17 #[.slice A l.length c] w fun r w' => ∃ A' c', r = .returned (.slice A' l.length c') ∧ Fr Non w w' ∧ l.length ≤ c' ∧ RdRows (New w.heap.size w') w' 5 A' 0 (Ex.ds l) := by
  have hlen : l.length ≤ 140737488355328 := by unfold reach at hc; omega
  have HR := Lib.hid hr; clear hr
  go_enter Tryz.func17, Tryz.ntmps17
  go_wp2_with fail
  go_loopw [3, 4] (fun v i wr => ∃ j : Nat, i = .int .i64 j ∧ j ≤ l.length ∧ Fr Non w wr ∧ Own w.heap.size 48 5 wr v (Ex.ds (l.take j))) (fun _ i _ => l.length - (intOf i).toNat)
  case atStart => exact ⟨0, rfl, by omega, fr_refl _, Own.nil _ _ _ _⟩
  case round =>
    obtain ⟨j, rfl, hj, hfr, hown⟩ := hrel
    have hz : w.heap.size ≤ wr.heap.size := hfr.size
    obtain ⟨A3, c3, rfl, hc3⟩ := hown.slice
    have hn : (Ex.ds (l.take j)).length = j := by simp; omega
    rw [hn] at hc3 hown ⊢
    have HN := Lib.hid hn; clear hn
    by_cases hlt : j < l.length
    · obtain ⟨b, o1, A1, c1, rfl, hb, e0, e1, e2, e3, e4, p1, p2, p3⟩ := at_ex (HR.out.fr hfr (fun _ _ => non _) (fun _ h => h)) j hlt
      have P3 := Lib.hid p3; clear p3
      have HO := Lib.hid hown; clear hown
      have HF := Lib.hid hfr; clear hfr
      go_wp2_with fail
      refine (copyX_any l[j] ok A1 c1 _ P3.out p1 p2).mono ?_
      rintro e w2 ⟨A2, c2, rfl, hf2, hc2, hr2⟩
      have HR2 := Lib.hid hr2; clear hr2
      have HF2 := Lib.hid hf2; clear hf2
      go_wp2_with (at_builtin; refine app_ex rfl _ _ rfl w.heap.size (.slice A3 j c3) (Ex.ds (l.take j)) rfl ?o ⟨w2.heap.size, 0, none⟩ 1 1 rfl [l[j].d] _ ?ch rfl (new_cells _ _ _) (one_ex _ _ _ _ _ _ _) ?b1 ?b2 ?b3 ?k)
      case o => exact HO.out.fr (HF2.out.alloc _) (fun _ _ => non _)
      case ch => exact chunk_ex l[j] hc2 p2 (HR2.out.fr ((fr_refl w2).alloc _) (fun _ _ => non _) (new_own HO.out.lt (by omega) (by simp)))
      case b1 => rw [HN.out]; exact (room64 (by omega)).1
      case b2 => rw [HN.out]; exact (room64 (by omega)).2
      case b3 => have := HF2.out.size; simp; omega
      case k =>
        intro v' w' hown' hfr'
        have HO' := Lib.hid hown'; clear hown'
        have HF' := Lib.hid hfr'; clear hfr'
        go_wp2_with fail
        go_roundw
        case rel => exact ⟨j + 1, by go_num, by omega, ((HF.out.trans HF2.out).alloc _).then HF'.out (fun k hk ht => by have := ht.1; omega), by rw [take_snoc _ _ hlt, Ex.ds_eq, List.map_append, ← Ex.ds_eq]; exact HO'.out⟩
        case measure => simp [intOf]; omega
    · have HO := Lib.hid hown; clear hown
      have HF := Lib.hid hfr; clear hfr
      go_wp2_with fail
      go_ret
      obtain rfl : j = l.length := by omega
      have h3 := HO.out.rows
      rw [List.take_length] at h3
      exact ⟨A3, c3, rfl, HF.out, hc3, h3⟩
end Go.Proofs.YtnlnejpioijkiaaGreatDoor
