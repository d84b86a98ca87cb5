/- By hand: what tariff.own holds to behind x rounds: of the copied rates the first x have hours of their own, the others those that came in. -/
import Derived.Test.YtdahjnbfbcemeaaCL
import Derived.Test.YtdahjnbfbcemeaaWApart
namespace Go.Proofs.Ytdahjnbfbcemeaa.P
open Go.RowKit Go.Proofs.YtdahjnbfbcemeaaW.PrintWords Go.Proofs.YtdahjnbfbcemeaaW.PrintLast
set_option linter.unusedVariables false
theorem R_sliceo {w : World} {base : Nat} {e : TypeId} {size n : Nat} {v : Value} {xs : List Value} (h : w.ownsRow base e size v n xs) : ∃ A c, v = .slice A n c := by
  rcases h.2 with ⟨rfl, rfl⟩ | ⟨g, cap, cur, rfl, _⟩
  · exact ⟨none, 0, rfl⟩
  · exact ⟨_, _, rfl⟩
def OwnRel (w wr : World) (vb : Option Nat) (okj : Nat → Nat → Prop) (x : Nat) (p : S35 × Nat) (cs : List Value) : Prop :=
  if p.2 < x then k35.M wr w.heap.size (fun k => some k ≠ vb ∧ okj p.2 k) p.1 cs else k35.K w p.1 cs
def OwnInv (l : List S35) (w : World) (v : Value) (x : Nat) (wr : World) : Prop :=
  ∃ (okj : Nat → Nat → Prop) (inner : List Value), (∀ i j k, okj i k → okj j k → i = j) ∧ (∀ j k, okj j k → k < wr.heap.size) ∧ wr.ownsRow w.heap.size 35 4 v l.length inner ∧ Reps (OwnRel w wr v.ownBlock okj x) 4 l.zipIdx inner
theorem own_start {l : List S35} {w wr : World} {v : Value} {inner : List Value} (ho : wr.ownsRow w.heap.size 35 4 v l.length inner) (hr : Reps (k35.K w) 4 l inner) : OwnInv l w v 0 wr := by
  refine ⟨fun _ _ => False, inner, fun _ _ _ h => h.elim, fun _ _ h => h.elim, ho, by rw [List.length_zipIdx]; exact hr.1, fun j p hj => ?_⟩
  rw [List.getElem?_zipIdx, Nat.zero_add] at hj
  obtain ⟨y, hy, rfl⟩ := Option.map_eq_some_iff.1 hj
  unfold OwnRel
  rw [if_neg (by simp)]
  exact hr.2 j y hy
theorem own_below {l : List S35} {w wr w1 : World} {v : Value} {x : Nat} (h : OwnInv l w v x wr) (hb : Below wr.heap.size wr w1) : OwnInv l w v x w1 := by
  obtain ⟨okj, inner, h1, h2, ho, hr⟩ := h
  refine ⟨okj, inner, h1, fun j k hk => Nat.lt_of_lt_of_le (h2 j k hk) hb.size, own_move ho (fun k hk => hb.block k (own_lt ho k hk)), hr.imp_ (fun p cs hp => ?_)⟩
  unfold OwnRel at hp ⊢
  by_cases c : p.2 < x
  · rw [if_pos c] at hp ⊢
    exact Kd.M_below hp hb
  · rw [if_neg c] at hp ⊢
    exact hp
theorem own_form {l : List S35} {w wr : World} {v : Value} {x : Nat} (h : OwnInv l w v x wr) (hx : 0 < l.length) : ∃ g cap cur, v = .slice (some ⟨g, 0, none⟩) l.length cap ∧ w.heap.size ≤ g ∧ wr.heap[g]? = some (.cells cur 35 (0, 0)) := by
  obtain ⟨okj, inner, h1, h2, ho, hr⟩ := h
  rcases ho.2 with ⟨rfl, h0⟩ | ⟨g, cap, cur, rfl, hb, hh, _⟩
  · omega
  · exact ⟨g, cap, cur, rfl, hb, hh⟩
/-- The element whose turn it is: its hours' cell. -/
theorem own_at {l : List S35} {w wr : World} {g n cap : Nat} {x : Nat} (h : OwnInv l w (.slice (some ⟨g, 0, none⟩) n cap) x wr) (hx : x < l.length) :
    ∃ A c, wr.cell? ⟨g, x * 4 + 3, none⟩ = some (.slice A l[x].f3.length c) ∧ wr.frozen? ⟨g, x * 4 + 3, none⟩ = false ∧ l[x].f3.length ≤ c ∧ k54.C w A l[x].f3.length l[x].f3 := by
  obtain ⟨okj, inner, h1, h2, ho, hr⟩ := h
  have hp := hr.2 x (l[x], x) (by rw [List.getElem?_zipIdx, List.getElem?_eq_getElem hx]; simp)
  unfold OwnRel at hp
  rw [if_neg (by simp)] at hp
  obtain ⟨A, c, hcs, hl, hC⟩ := k35_open hp
  rcases ho.2 with ⟨h0, _⟩ | ⟨g', cap', cur, hv, hb, hh, hn, hm, hcs2, htk⟩
  · cases h0
  · injection hv with h3 h4 h5
    injection h3 with h3
    injection h3 with h3
    subst h3
    refine ⟨A, c, ?_, blk_frozen hh _, hl, hC⟩
    have h6 : inner[x * 4 + 3]? = some (.slice A l[x].f3.length c) := by
      have := congrArg (fun q => q[3]?) hcs
      simp only [List.getElem?_take, List.getElem?_drop] at this
      simpa using this
    rw [blk_cell hh]
    rw [← htk] at h6
    rw [List.getElem?_take] at h6
    split at h6
    · simpa using h6
    · cases h6
theorem own_step {l : List S35} {w wr w1 : World} {g n cap : Nat} {x : Nat} {v' : Value} {inner54 : List Value} (h : OwnInv l w (.slice (some ⟨g, 0, none⟩) n cap) x wr) (hx : x < l.length) (hws : w.heap.size ≤ wr.heap.size)
    (hb : Below wr.heap.size wr w1) (how : w1.ownsRow wr.heap.size 54 3 v' l[x].f3.length inner54) (hr54 : Reps (k54.K w) 3 l[x].f3 inner54) :
    OwnInv l w (.slice (some ⟨g, 0, none⟩) n cap) (x + 1) (w1.setCell ⟨g, x * 4 + 3, none⟩ v') := by
  obtain ⟨okj, inner, h1, h2, ho, hr⟩ := h
  have hil := ho.1
  rcases ho.2 with ⟨h0, _⟩ | ⟨g', cap', cur, hv, hbg, hh, hn, hm, hcs2, htk⟩
  · cases h0
  · injection hv with h3 h4 h5
    injection h3 with h3
    injection h3 with h3
    subst h3
    subst h5
    have hgl : g < wr.heap.size := blk_lt hh
    have hh1 := blk_below hh hb
    have hh2 := blk_put hh1 (x * 4 + 3) v' rfl
    have hsz : (w1.setCell ⟨g, x * 4 + 3, none⟩ v').heap.size = w1.heap.size := by simp [World.setCell]
    have hg' : ∀ k, k ≠ g → (w1.setCell ⟨g, x * 4 + 3, none⟩ v').heap[k]? = w1.heap[k]? := fun k hk => Below.heap_setCell w1 _ v' k hk
    refine ⟨fun j k => if j = x then wr.heap.size ≤ k ∧ k < w1.heap.size else okj j k, inner.set (x * 4 + 3) v', ?_, ?_, ?_, ?_⟩
    · intro i j k hi hj
      by_cases ci : i = x <;> by_cases cj : j = x
      · omega
      · simp only [ci, cj, if_true, if_false] at hi hj
        have := h2 j k hj
        omega
      · simp only [ci, cj, if_true, if_false] at hi hj
        have := h2 i k hi
        omega
      · simp only [ci, cj, if_false] at hi hj
        exact h1 i j k hi hj
    · intro j k hk
      rw [hsz]
      by_cases cj : j = x
      · simp only [cj, if_true] at hk
        exact hk.2
      · simp only [cj, if_false] at hk
        exact Nat.lt_of_lt_of_le (h2 j k hk) hb.size
    · refine ⟨by rw [List.length_set]; exact hil, .inr ⟨g, cap, cur.setIfInBounds (x * 4 + 3) v', by rw [h4], hbg, hh2, hn, hm, by simpa using hcs2, ?_⟩⟩
      rw [Array.toList_setIfInBounds, List.take_set, htk]
    · refine ⟨by rw [List.length_set]; exact hr.1, fun j p hj => ?_⟩
      have hp := hr.2 j p hj
      rw [List.getElem?_zipIdx, Nat.zero_add] at hj
      obtain ⟨y, hy, rfl⟩ := Option.map_eq_some_iff.1 hj
      unfold OwnRel at hp ⊢
      by_cases cj : j = x
      · subst cj
        have hyx : l[j] = y := by rw [List.getElem?_eq_getElem hx] at hy; exact Option.some.inj hy
        rw [hyx] at how hr54
        rw [if_neg (by simp)] at hp
        rw [if_pos (by simp)]
        obtain ⟨A, c, hcs, hl, hC⟩ := k35_open hp
        have hnew : ((inner.set (j * 4 + 3) v').drop (j * 4)).take 4 = [.int .i64 y.f0, .int .i64 y.f1, .int .i64 y.f2, v'] := by
          rw [List.drop_set, if_neg (by omega), List.take_set, hcs, show j * 4 + 3 - j * 4 = 3 by omega]
          rfl
        rw [hnew]
        refine k35_mkM _ _ _ y ⟨fun k hk => ?_, inner54, own_weaken (own_move how (fun k hk => hg' k ?_)) hws, hr54.imp_ (fun q c hq => ?_)⟩
        · have hk1 := own_base how k hk
          have hk2 := own_lt how k hk
          refine ⟨fun he => ?_, by simp only [if_true]; exact ⟨hk1, hk2⟩⟩
          simp only [Value.ownBlock, Option.some.injEq] at he
          omega
        · have hk1 := own_base how k hk
          omega
        · obtain rfl := k54_open hq
          exact k54_mkM _ _ _ q
      · have hseg : ((inner.set (x * 4 + 3) v').drop (j * 4)).take 4 = (inner.drop (j * 4)).take 4 := by
          rw [List.drop_set]
          by_cases cx : x * 4 + 3 < j * 4
          · rw [if_pos cx]
          · rw [if_neg cx, List.take_set, List.set_eq_of_length_le]
            rw [List.length_take]
            omega
        rw [hseg]
        by_cases cl : j < x
        · rw [if_pos cl] at hp
          rw [if_pos (show j < x + 1 by omega)]
          have hM := Kd.M_step (w1 := w1.setCell ⟨g, x * 4 + 3, none⟩ v') hp (fun k hk hlt => (hg' k (fun he => hk.1 (by rw [he]; rfl))).trans (hb.block k hlt))
          exact k35.M_mono (fun k hk => ⟨hk.1, by simp only [cj, if_false]; exact hk.2⟩) hM
        · rw [if_neg cl] at hp
          rw [if_neg (show ¬ j < x + 1 by omega)]
          exact hp
theorem own_done {l : List S35} {w wr : World} {v : Value} {x : Nat} (h : OwnInv l w v x wr) (hx : l.length ≤ x) : Kd.S k35 35 wr w.heap.size (fun _ => True) v l := by
  obtain ⟨okj, inner, h1, h2, ho, hr⟩ := h
  obtain ⟨f, hf⟩ := Kd.reps_tag (d := k35) (w := wr) (base := w.heap.size) (ok := fun k => some k ≠ v.ownBlock) (xs := l) (inner := inner) (fun j k => some k ≠ v.ownBlock ∧ okj j k) (fun i j k hi hj => h1 i j k hi.2 hj.2) (fun j k hk => hk.1) ho.1 (fun j y hy => by
    have hp := hr.2 j (y, j) (by rw [List.getElem?_zipIdx, hy]; simp)
    unfold OwnRel at hp
    have hjl := (List.getElem?_eq_some_iff.1 hy).1
    rw [if_pos (show j < x by omega)] at hp
    exact hp)
  refine ⟨f, fun _ _ => trivial, inner, by rw [List.length_zipIdx]; exact ho, hf.imp_ (fun p cs hp => (Kd.tag f k35).M_mono (fun k hk => ⟨trivial, hk⟩) hp)⟩
end Go.Proofs.Ytdahjnbfbcemeaa.P
