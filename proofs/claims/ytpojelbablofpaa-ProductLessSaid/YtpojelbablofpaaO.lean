/- By hand: from the reader's word on an argument (of whatever kind built of whole numbers, structs and slices) to the print's word on a row ('Kd'), with what holds of the value: the numbers are of their kind, the slices are no longer than Go lets them be. -/
import Derived.Test.YtpojelbablofpaaWWords
import Derived.Deep.Slices
import Derived.ProofKit
import Derived.OpenShut
import Derived.ChangeOld
namespace Go.Proofs.Ytpojelbablofpaa.O
open Go.RowKit Go.ChangeShapes Go.WideShapes Go.Deep Go.Proofs.YtpojelbablofpaaW.PrintWords
set_option linter.unusedVariables false

/-- Type t reads as kind d; what it reads as has the property pr. -/
structure Rd {α : Type} (P : Program) (t : TypeId) (d : Kd α) (pr : α → Prop) : Prop where
  sz : P.cellsOf t = d.sz
  rd : ∀ {H : Type} {enc : TypeId × Value → H} {w : World} {base : Nat} {spare : Nat → Bool} {held : Bool} {fuel : Nat} {cs : List Value} {x : DataW H × List MemPlace},
    DataW.trod enc P w base spare held fuel t cs = some x → ∃ a, pr a ∧ d.K w a cs

theorem Rd.int {P : Program} {t : TypeId} {k : IntKind} (ht : P.underlying t = some (.int k)) (hc : P.cellsOf t = 1) : Rd P t (Kd.int k) (fun n => (Lit.int k n).wf = true) :=
  ⟨hc, fun h => by
    obtain ⟨n, rfl, _, hw⟩ := DataW.trod_int ht h
    exact ⟨n, hw, rfl⟩⟩

/-- A whole number of 64 bits. -/
def I64 (n : Int) : Prop := -9223372036854775808 ≤ n ∧ n ≤ 9223372036854775807
theorem I64.of {n : Int} (h : (Lit.int .i64 n).wf = true) : I64 n := by
  simp only [Lit.wf, Bool.and_eq_true, decide_eq_true_eq] at h
  exact ⟨h.1, h.2⟩
theorem Rd.imp {α : Type} {P : Program} {t : TypeId} {d : Kd α} {pr pr' : α → Prop} (h : Rd P t d pr) (hp : ∀ a, pr a → pr' a) : Rd P t d pr' :=
  ⟨h.sz, fun hh => by
    obtain ⟨a, pa, ka⟩ := h.rd hh
    exact ⟨a, hp a pa, ka⟩⟩
theorem Rd.i64 {P : Program} {t : TypeId} (ht : P.underlying t = some (.int .i64)) (hc : P.cellsOf t = 1) : Rd P t (Kd.int .i64) I64 :=
  (Rd.int ht hc).imp fun _ => I64.of

theorem Rd.slice {α : Type} [Inhabited α] {P : Program} {t e : TypeId} {d : Kd α} {pr : α → Prop} (ht : P.underlying t = some (.slice e)) (hc : P.cellsOf t = 1) (he : Rd P e d pr) :
    Rd P t (Kd.slice e d) (fun l => l.length ≤ 9223372036854775807 ∧ ∀ x ∈ l, pr x) :=
  ⟨hc, @fun H enc w base spare held fuel cs x h => by
    rcases open_slice ht h with ⟨rfl, _⟩ | ⟨a, len, cap, m, n, D, Pl, rfl, hb, hl, hm, hmm, _, hx⟩
    · exact ⟨[], ⟨by simp, fun x hx => by simp at hx⟩, none, 0, rfl, Nat.le_refl _, rfl, by simp, fun h0 => by simp at h0⟩
    · have hlm : len ≤ m := by rw [hmm]; split <;> omega
      unfold maxLen at hm
      obtain ⟨f, hf⟩ := choose_lt (n := len) (p := fun i (x : α) => pr x ∧ ∃ c, c.length = d.sz ∧ d.K w x c ∧ ∀ j u, c[j]? = some u → w.cell? (a.add (i * d.sz + j)) = some u) (fun i hi => by
        obtain ⟨cs', h1, h2⟩ := hx i (by omega)
        obtain ⟨x, hp, hk⟩ := he.rd h2
        obtain ⟨_, hlen, hat⟩ := World.cells?_some h1
        refine ⟨x, hp, cs', by rw [hlen, he.sz], hk, fun j u hu => ?_⟩
        have hj : j < P.cellsOf e := by rw [← hlen]; exact (List.getElem?_eq_some_iff.1 hu).1
        have := hat j hj
        rw [Go.Deep.add_add, hu, he.sz] at this
        exact this)
      have hll : ((List.range len).map f).length = len := by simp
      refine ⟨(List.range len).map f, ⟨by rw [hll]; omega, fun x hx => ?_⟩, some a, cap, by rw [hll], by rw [hll]; exact hl, ?_⟩
      · obtain ⟨i, hi, rfl⟩ := List.mem_map.1 hx
        exact (hf i (by simpa using hi)).1
      · rw [hll]
        refine ⟨hll, by omega, fun _ => ⟨a, rfl, fun j p hj => ?_⟩⟩
        have hj1 : j < len := by have := (List.getElem?_eq_some_iff.1 hj).1; simpa using this
        have hj2 : p = f j := by simpa [hj1] using hj.symm
        subst hj2
        exact (hf j hj1).2⟩

/-- The fields from number i on (of a struct with fields fs whose cells are cs) read as kind d. -/
structure Fl {α : Type} (P : Program) (fs : Array Field) (i off : Nat) (d : Kd α) (pr : α → Prop) : Prop where
  rd : ∀ {H : Type} {enc : TypeId × Value → H} {w : World} {base : Nat} {spare : Nat → Bool} {held : Bool} {n : Nat} {cs : List Value} {xs : List (DataW H × List MemPlace)},
    cs.length = off + d.sz → xs.length = fs.size → (∀ (i : Nat) (f : Field), fs[i]? = some f → DataW.trod enc P w base spare held n f.type ((cs.drop f.offset).take (P.cellsOf f.type)) = xs[i]?) →
    ∃ a, pr a ∧ d.K w a (cs.drop off)

theorem Fl.last {α : Type} {P : Program} {fs : Array Field} {i off : Nat} {d : Kd α} {pr : α → Prop} {f : Field} (hf : fs[i]? = some f) (ho : f.offset = off) (hr : Rd P f.type d pr) : Fl P fs i off d pr :=
  ⟨@fun H enc w base spare held n cs xs hlen hxs h => by
    have h1 := h i f hf
    have hi : i < xs.length := by rw [hxs]; exact (Array.getElem?_eq_some_iff.1 hf).1
    rw [List.getElem?_eq_getElem hi, ho, hr.sz, List.take_of_length_le (by rw [List.length_drop]; omega)] at h1
    exact hr.rd h1⟩

theorem Fl.cons {α β : Type} {P : Program} {fs : Array Field} {i off : Nat} {d : Kd α} {d' : Kd β} {pr : α → Prop} {pr' : β → Prop} {f : Field} (hf : fs[i]? = some f) (ho : f.offset = off) (hr : Rd P f.type d pr)
    (hl : Fl P fs (i + 1) (off + d.sz) d' pr') : Fl P fs i off (Kd.pair d d') (fun x => pr x.1 ∧ pr' x.2) :=
  ⟨@fun H enc w base spare held n cs xs hlen hxs h => by
    have h1 := h i f hf
    have hi : i < xs.length := by rw [hxs]; exact (Array.getElem?_eq_some_iff.1 hf).1
    rw [List.getElem?_eq_getElem hi, ho, hr.sz] at h1
    obtain ⟨a, pa, ka⟩ := hr.rd h1
    obtain ⟨b, pb, kb⟩ := hl.rd (by rw [hlen]; show off + (d.sz + d'.sz) = _; omega) hxs h
    refine ⟨(a, b), ⟨pa, pb⟩, (cs.drop off).take d.sz, cs.drop (off + d.sz), ?_, ka, kb⟩
    rw [← List.drop_drop, List.take_append_drop]⟩

theorem Rd.struct {α β : Type} {P : Program} {t : TypeId} {fs : Array Field} {d : Kd α} {pr : α → Prop} {f : β → α} (g : α → β) (hg : ∀ x, f (g x) = x) (ht : P.underlying t = some (.struct fs)) (hc : P.cellsOf t = d.sz) (hl : Fl P fs 0 0 d pr) : Rd P t (Kd.iso d f) (fun x => pr (f x)) :=
  ⟨hc, fun h => by
    obtain ⟨xs, n, _, _, hlen, hxs, hh⟩ := DataW.trod_struct ht h
    obtain ⟨a, pa, ka⟩ := hl.rd (by rw [hlen, hc]; omega) hxs hh
    refine ⟨g a, by rw [hg]; exact pa, ?_⟩
    show d.K _ (f (g a)) _
    rw [hg]
    exact ka⟩

/-- A value that came in, whole. -/
theorem Rd.open_agg {α : Type} {P : Program} {t : TypeId} {fs : Array Field} {d : Kd α} {pr : α → Prop} (hr : Rd P t d pr) (ht : P.underlying t = some (.struct fs)) {H : Type} {enc : TypeId × Value → H} {w : World} {base : Nat} {spare : Nat → Bool} {held : Bool} {r : Reach} {b0 : Nat} {v : Value} {x : DataW H} {ps : List MemPlace}
    (hv : Value.okWide P w r b0 t v) (h : DataW.Trod enc P w base spare held t v x ps) : ∃ (a : α) (cs : List Value), v = .agg cs.toArray ∧ pr a ∧ d.K w a cs := by
  obtain ⟨cs, rfl, hsz⟩ := okWide_struct ht hv
  obtain ⟨fuel, hf⟩ := h
  obtain ⟨a, pa, ka⟩ := hr.rd hf
  exact ⟨a, cs.toList, by simp, pa, by simpa [Value.cells] using ka⟩

theorem Rd.open_slice {α : Type} [Inhabited α] {P : Program} {t e : TypeId} {d : Kd α} {pr : α → Prop} (he : Rd P e d pr) (ht : P.underlying t = some (.slice e)) (hc : P.cellsOf t = 1) {H : Type} {enc : TypeId × Value → H} {w : World} {base : Nat} {spare : Nat → Bool} {held : Bool} {r : Reach} {b0 : Nat} {v : Value} {x : DataW H} {ps : List MemPlace}
    (hv : Value.okWide P w r b0 t v) (h : DataW.Trod enc P w base spare held t v x ps) : ∃ (l : List α) (A : Option Addr) (c : Nat), v = .slice A l.length c ∧ l.length ≤ c ∧ d.C w A l.length l ∧ l.length ≤ 9223372036854775807 ∧ ∀ y ∈ l, pr y := by
  obtain ⟨a, len, cap, rfl⟩ := okWide_slice ht hv
  obtain ⟨fuel, hf⟩ := h
  obtain ⟨l, ⟨p1, p2⟩, A, c, hcs, hl, hC⟩ := (Rd.slice ht hc he).rd hf
  have e : Value.slice a len cap = .slice A l.length c := by simpa [Value.cells] using hcs
  rw [e]
  exact ⟨l, A, c, rfl, hl, hC, p1, p2⟩

/-- Behind a call that left all that was: each argument reads as it did. -/
theorem trod_back {P : Program} (laidOut : laidOutB P = true) {t : TypeId} {H : Type} {enc : TypeId × Value → H} {w : World} {base : Nat} {spare : Nat → Bool} {held : Bool} {v : Value} {x : DataW H} {ps : List MemPlace}
    (h : DataW.Trod enc P w base spare held t v x ps) : ∀ y ∈ ps, y.block < w.heap.size := by
  obtain ⟨m, hm⟩ := h
  exact DataW.trod_lt m _ _ _ hm
end Go.Proofs.Ytpojelbablofpaa.O
