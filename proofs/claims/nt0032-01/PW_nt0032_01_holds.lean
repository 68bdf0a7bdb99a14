import PyProof.Rows.All
import Wide.All
import OpenK.AllK
import Wide.FinOn
import Lean
import PySem.Challenge.RW_nt0032_01
set_option Elab.async false
set_option linter.all false
set_option maxRecDepth 100000
local macro_rules | `(tactic| walk_at "len") => `(tactic| first | omega | (simp only [List.length_take, List.length_drop, List.length_append, List.length_cons, List.length_nil]; omega))
local macro_rules | `(tactic| walk_at "ints") => `(tactic| first | l_ints | exact PyProof.Rows.IntsAre.cons _ _ (.cons _ _ .nil) | exact PyProof.Rows.IntsAre.cons _ _ .nil)
local macro_rules | `(tactic| walk_at "ua") => `(tactic| ((try dsimp only [PySem.Around.deeper, PySem.Around.units, PySem.W.ktrTop]); omega))
section
open PySem PySem.W PyProof.Rows
namespace Mine
section
set_option maxHeartbeats 4000000
/-! sorted with a key keeps alike items in their order (fewer than 64) -/
abbrev kf (p : Keyed) : Int := numOf p.1
/-- the items of each key stand as they stood -/
def Stab (a xs : List Keyed) : Prop := ∀ k : Int, xs.filter (fun p => decide (kf p = k)) = a.filter (fun p => decide (kf p = k))
theorem Stab.refl (a : List Keyed) : Stab a a := fun _ => rfl
/-- two blocks that share no key, exchanged -/
theorem Stab.swap {a A B C D : List Keyed} (h : Stab a (A ++ (B ++ (C ++ D)))) (hne : ∀ b ∈ B, ∀ c ∈ C, kf b ≠ kf c) : Stab a (A ++ (C ++ (B ++ D))) := by
  intro k
  rw [← h k]
  simp only [List.filter_append]
  congr 1
  by_cases hB : B.filter (fun p => decide (kf p = k)) = []
  · simp [hB]
  · have hC : C.filter (fun p => decide (kf p = k)) = [] := by
      rw [List.filter_eq_nil_iff]
      intro c hc hck
      obtain ⟨b, hb⟩ := List.exists_mem_of_ne_nil _ hB
      obtain ⟨hb1, hb2⟩ := List.mem_filter.mp hb
      exact hne b hb1 c hc ((of_decide_eq_true hb2).trans (of_decide_eq_true hck).symm)
    simp [hC]
theorem K_at {xs : Array Keyed} {Q R : List Keyed} (h : xs.toList = Q ++ R) {i : Nat} (hi : i < Q.length) : K xs i = kf Q[i] := by
  have e : xs[i]? = some Q[i] := by
    rw [← Array.getElem?_toList, h, List.getElem?_append_left hi, List.getElem?_eq_getElem hi]
  unfold K
  rw [e]
theorem K_mid {xs : Array Keyed} {Q R : List Keyed} {e : Keyed} (h : xs.toList = Q ++ e :: R) : K xs Q.length = kf e := by
  have h1 : xs[Q.length]? = some e := by
    rw [← Array.getElem?_toList, h, List.getElem?_append_right (Nat.le_refl _)]
    simp
  unfold K
  rw [h1]
theorem sortedTo_of {xs : Array Keyed} {Q R : List Keyed} (h : xs.toList = Q ++ R) (hs : Q.Pairwise fun a b => kf a ≤ kf b) {n : Nat} (hn : n ≤ Q.length) : SortedTo xs n := by
  intro i j hij hj
  rw [K_at h (by lia), K_at h (by lia)]
  by_cases e : i = j
  · subst e; exact Int.le_refl _
  · exact List.pairwise_iff_getElem.mp hs i j (by lia) (by lia) (by lia)
theorem sorted_list {xs : Array Keyed} {Q R : List Keyed} (h : xs.toList = Q ++ R) (hs : SortedTo xs Q.length) : Q.Pairwise fun a b => kf a ≤ kf b := by
  rw [List.pairwise_iff_getElem]
  intro i j hi hj hij
  have := hs i j (Nat.le_of_lt hij) hj
  rwa [K_at h hi, K_at h hj] at this
theorem mirror_list {xs : Array Keyed} {P S R : List Keyed} (h : xs.toList = P ++ (S ++ R)) {i j d : Nat} (hi : i = P.length) (hj : j = P.length + S.length) (hd : d = (j - i) / 2) : (mirror xs i j d).toList = P ++ (S.reverse ++ R) := by
  have hsz : j ≤ xs.size := by rw [← Array.length_toList, h]; simp; lia
  subst hd
  apply List.ext_getElem?
  intro k
  rw [Array.getElem?_toList, getElem?_mirror_all hsz]
  by_cases hk : i ≤ k ∧ k < j
  · rw [if_pos hk, ← Array.getElem?_toList, h]
    rw [List.getElem?_append_right (by lia), List.getElem?_append_left (by lia), List.getElem?_append_right (by lia), List.getElem?_append_left (by rw [List.length_reverse]; lia), List.getElem?_reverse (by lia)]
    congr 1
    lia
  · rw [if_neg hk, ← Array.getElem?_toList, h]
    by_cases h1 : k < i
    · rw [List.getElem?_append_left (by lia), List.getElem?_append_left (by lia)]
    · rw [List.getElem?_append_right (by lia), List.getElem?_append_right (by lia), List.getElem?_append_right (by lia), List.getElem?_append_right (by rw [List.length_reverse]; lia), List.length_reverse]
theorem bubble_list {xs : Array Keyed} {A B R : List Keyed} {e : Keyed} (h : xs.toList = A ++ (B ++ ([e] ++ R))) {k d : Nat} (hk : k = A.length + B.length) (hd : d = B.length) : (bubble xs k d).toList = A ++ ([e] ++ (B ++ R)) := by
  have hsz : k < xs.size := by rw [← Array.length_toList, h]; simp; lia
  apply List.ext_getElem?
  intro i
  rw [Array.getElem?_toList, getElem?_bubble hsz d (by lia)]
  simp only [← Array.getElem?_toList, h]
  simp only [List.getElem?_append, List.length_append, List.length_cons, List.length_nil]
  repeat' split
  all_goals first
    | (exfalso; lia)
    | rfl
    | (congr 1; lia)
/-- the state of the sort, with the order of alike items kept -/
def SB (a₀ : Array Keyed) (st : SortSt) : Prop := SBase a₀ st ∧ Stab a₀.toList (arrOf st).toList
section
variable {prog : Program} {w : World} {A : Around} {E : Value → Shared → Prop} {s : Shared} {a₀ : Array Keyed}
/-- what the descending run has at x: P strictly above S, S alike -/
def DInv (a₀ : Array Keyed) (x neq : Nat) (st : SortSt) : Prop :=
  ∃ P S R, (arrOf st).toList = P ++ (S ++ R) ∧ P.length + S.length = x ∧ S.length = neq + 1 ∧ (∃ z, (∀ y ∈ S, kf y = z) ∧ ∀ y ∈ P, z < kf y) ∧ P.Pairwise (fun a b => kf b ≤ kf a) ∧ Stab a₀.toList (S ++ (P.reverse ++ R))
theorem DInv.last {x neq : Nat} {st : SortSt} (h : DInv a₀ x neq st) : ∃ P S R z, (arrOf st).toList = P ++ (S ++ R) ∧ P.length + S.length = x ∧ S.length = neq + 1 ∧ (∀ y ∈ S, kf y = z) ∧ (∀ y ∈ P, z < kf y) ∧ P.Pairwise (fun a b => kf b ≤ kf a) ∧ Stab a₀.toList (S ++ (P.reverse ++ R)) ∧ K (arrOf st) (x - 1) = z := by
  obtain ⟨P, S, R, e, hl, hn, ⟨z, hz, hp⟩, ho, hst⟩ := h
  refine ⟨P, S, R, z, e, hl, hn, hz, hp, ho, hst, ?_⟩
  rw [← List.append_assoc] at e
  rw [K_at e (by rw [List.length_append]; lia), List.getElem_append_right (by lia)]
  exact hz _ (List.getElem_mem _)
/-- the turned run, sorted, and alike items as they stood -/
theorem DInv.turn {x neq : Nat} {st : SortSt} (hB : SBase a₀ st) (h : DInv a₀ x neq st) :
    ∃ st', st' = (if neq > 0 then setArr st (mirror (arrOf st) (x - (neq + 1)) x ((x - (x - (neq + 1))) / 2)) else st) ∧ SBase a₀ st' ∧ ∃ P S R, (arrOf st').toList = (P ++ S.reverse) ++ R ∧ (P ++ S.reverse).length = x ∧ (S ++ P.reverse).Pairwise (fun a b => kf a ≤ kf b) ∧ Stab a₀.toList (S ++ (P.reverse ++ R)) := by
  obtain ⟨P, S, R, e, hl, hn, ⟨z, hz, hp⟩, ho, hst⟩ := h
  have hsort : (S ++ P.reverse).Pairwise (fun a b => kf a ≤ kf b) := by
    rw [List.pairwise_append]
    refine ⟨?_, List.pairwise_reverse.mpr ho, ?_⟩
    · rw [List.pairwise_iff_getElem]
      intro i j hi hj _
      rw [hz _ (List.getElem_mem _), hz _ (List.getElem_mem _)]
      exact Int.le_refl _
    · intro a ha b hb
      rw [hz a ha]
      exact Int.le_of_lt (hp b (List.mem_reverse.mp hb))
  refine ⟨_, rfl, ?_⟩
  by_cases hq : neq > 0
  · rw [if_pos hq]
    refine ⟨hB.setArr (mirror_perm _ _ _ _), P, S, R, ?_, by simp; lia, hsort, hst⟩
    show (mirror (arrOf st) _ _ _).toList = _
    rw [mirror_list e (by lia) (by lia) rfl, List.append_assoc]
  · rw [if_neg hq]
    have h1 : S.length = 1 := by lia
    obtain ⟨y, rfl⟩ := List.length_eq_one_iff.mp h1
    exact ⟨hB, P, [y], R, by rw [e]; simp, by simp; simp at hl; lia, hsort, hst⟩
theorem DInv.step_less {x neq : Nat} {st st' : SortSt} (hx : x < (arrOf st).size) (h : DInv a₀ x neq st) (hl : K (arrOf st) x < K (arrOf st) (x - 1))
    (e' : (neq > 0 ∧ arrOf st' = mirror (arrOf st) (x - (neq + 1)) x ((x - (x - (neq + 1))) / 2)) ∨ (¬ neq > 0 ∧ st' = st)) : DInv a₀ (x + 1) 0 st' := by
  obtain ⟨P, S, R, z, e, hl1, hn, hz, hp, ho, hst, hk⟩ := h.last
  have hR : R ≠ [] := by
    rintro rfl
    have : (arrOf st).toList.length = x := by rw [e]; simp; lia
    rw [Array.length_toList] at this
    lia
  obtain ⟨y, R', rfl⟩ := List.exists_cons_of_ne_nil hR
  have hy : K (arrOf st) x = kf y := by
    rw [← List.append_assoc] at e
    have := K_mid e
    rwa [List.length_append, hl1] at this
  have harr : (arrOf st').toList = (P ++ S.reverse) ++ ([y] ++ R') := by
    rcases e' with ⟨hq, e'⟩ | ⟨hq, rfl⟩
    · rw [e', mirror_list e (by lia) (by lia) rfl]
      simp
    · have h1 : S.length = 1 := by lia
      obtain ⟨y', rfl⟩ := List.length_eq_one_iff.mp h1
      rw [e]
      simp
  refine ⟨P ++ S.reverse, [y], R', harr, by simp; lia, rfl, ⟨kf y, by simp, ?_⟩, ?_, ?_⟩
  · intro q hq
    rcases List.mem_append.mp hq with hq | hq
    · have := hp q hq
      lia
    · have := hz q (List.mem_reverse.mp hq)
      lia
  · rw [List.pairwise_append]
    refine ⟨ho, ?_, ?_⟩
    · rw [List.pairwise_reverse]
      rw [List.pairwise_iff_getElem]
      intro i j hi hj _
      rw [hz _ (List.getElem_mem _), hz _ (List.getElem_mem _)]
      exact Int.le_refl _
    · intro a ha b hb
      rw [hz b (List.mem_reverse.mp hb)]
      exact Int.le_of_lt (hp a ha)
  · have h2 : Stab a₀.toList ([] ++ ((S ++ P.reverse) ++ ([y] ++ R'))) := by simpa using hst
    have h3 := h2.swap (by
      intro b hb c hc
      obtain rfl := List.mem_singleton.mp hc
      rcases List.mem_append.mp hb with hb | hb
      · have := hz b hb
        lia
      · have := hp b (List.mem_reverse.mp hb)
        lia)
    simpa using h3
theorem DInv.step_eq {x neq : Nat} {st : SortSt} (hx : x < (arrOf st).size) (h : DInv a₀ x neq st) (hl : K (arrOf st) x = K (arrOf st) (x - 1)) : DInv a₀ (x + 1) (neq + 1) st := by
  obtain ⟨P, S, R, z, e, hl1, hn, hz, hp, ho, hst, hk⟩ := h.last
  have hR : R ≠ [] := by
    rintro rfl
    have : (arrOf st).toList.length = x := by rw [e]; simp; lia
    rw [Array.length_toList] at this
    lia
  obtain ⟨y, R', rfl⟩ := List.exists_cons_of_ne_nil hR
  have hy : K (arrOf st) x = kf y := by
    rw [← List.append_assoc] at e
    have := K_mid e
    rwa [List.length_append, hl1] at this
  refine ⟨P, S ++ [y], R', by rw [e]; simp, by simp; lia, by simp; lia, ⟨z, ?_, hp⟩, ho, ?_⟩
  · intro q hq
    rcases List.mem_append.mp hq with hq | hq
    · exact hz q hq
    · obtain rfl := List.mem_singleton.mp hq
      lia
  · have h2 : Stab a₀.toList (S ++ (P.reverse ++ ([y] ++ R'))) := by simpa using hst
    have h3 := h2.swap (by
      intro b hb c hc
      obtain rfl := List.mem_singleton.mp hc
      have := hp b (List.mem_reverse.mp hb)
      lia)
    simpa using h3
theorem st_tail3 {st : SortSt} {n nrem : Nat} {Q : Option Nat → SortSt → Prop} (h0 : IntKeys a₀) (hn : nrem ≤ a₀.size) (h1 : 1 ≤ n) (hnn : n ≤ nrem) (hB : SBase a₀ st)
    (hD : ∃ P S R, (arrOf st).toList = (P ++ S.reverse) ++ R ∧ (P ++ S.reverse).length = n ∧ (S ++ P.reverse).Pairwise (fun a b => kf a ≤ kf b) ∧ Stab a₀.toList (S ++ (P.reverse ++ R)))
    (h : ∀ m st', SB a₀ st' → 1 ≤ m → m ≤ nrem → SortedTo (arrOf st') m → Q (some m) st') : wpS (model prog w) A E s (tail3 n nrem) Q st := by
  obtain ⟨P, S, R, e, hl, hs, hst⟩ := hD
  unfold tail3
  refine wpS_bind (wpS_reverse ?_)
  have hB' : SBase a₀ (setArr st (mirror (arrOf st) 0 n ((n - 0) / 2))) := hB.setArr (mirror_perm _ _ _ _)
  have e1 : (mirror (arrOf st) 0 n ((n - 0) / 2)).toList = (S ++ P.reverse) ++ R := by
    rw [mirror_list (P := []) (S := P ++ S.reverse) (R := R) (by rw [e]; simp) (by simp) (by simp at hl ⊢; lia) rfl]
    simp
  have hSt : Stab a₀.toList (arrOf (setArr st (mirror (arrOf st) 0 n ((n - 0) / 2)))).toList := by
    show Stab a₀.toList (mirror (arrOf st) 0 n ((n - 0) / 2)).toList
    rw [e1]
    simpa using hst
  have hso : SortedTo (arrOf (setArr st (mirror (arrOf st) 0 n ((n - 0) / 2)))) n := sortedTo_of (xs := mirror (arrOf st) 0 n ((n - 0) / 2)) e1 hs (by simp at hl ⊢; lia)
  exact wpS_bind (wpS_ascLoop h0 hn h1 hnn hB' hso fun m hm1 hm2 hsm _ => wpS_pure (h m _ ⟨hB', hSt⟩ (by lia) hm2 hsm))
theorem st_desc {st : SortSt} {n nrem : Nat} {Q : DescSt → SortSt → Prop} (h0 : IntKeys a₀) (hn : nrem ≤ a₀.size) (h1 : 1 ≤ n) (hnn : n ≤ nrem) (hB : SBase a₀ st) (hD : DInv a₀ n 0 st)
    (h : ∀ m neq st', SBase a₀ st' → n ≤ m → m ≤ nrem → DInv a₀ m neq st' → Q (none, m, neq) st') : wpS (model prog w) A E s (descLoop n nrem) Q st := by
  unfold descLoop
  refine wpS_forRange (I := fun x c st' => ∃ neq, c = (none, x, neq) ∧ SBase a₀ st' ∧ DInv a₀ x neq st') ?turn ?last ⟨0, rfl, hB, hD⟩
  case last =>
    rintro c st' ⟨neq, rfl, hB', hD'⟩
    rw [show max n nrem = nrem by lia] at hD' ⊢
    exact h nrem neq st' hB' hnn (Nat.le_refl _) hD'
  case turn =>
    rintro x c st' hnx hxn ⟨neq, rfl, hB', hD'⟩
    have hsz : x < (arrOf st').size := by rw [hB'.size]; lia
    try dsimp only
    refine wpS_bind (wpS_ltK hB' h0 (by lia) (by lia) ?_)
    by_cases hless : K (arrOf st') x < K (arrOf st') (x - 1)
    · rw [decide_eq_true hless]
      try dsimp only
      rw [if_pos rfl]
      by_cases hq : neq > 0
      · rw [if_pos hq]
        exact wpS_bind (wpS_reverse (wpS_pure ⟨0, rfl, hB'.setArr (mirror_perm _ _ _ _), hD'.step_less hsz hless (.inl ⟨hq, rfl⟩)⟩))
      · rw [if_neg hq]
        exact wpS_pure ⟨0, rfl, hB', hD'.step_less hsz hless (.inr ⟨hq, rfl⟩)⟩
    · rw [decide_eq_false hless]
      try dsimp only
      rw [if_neg Bool.false_ne_true]
      refine wpS_bind (wpS_ltK hB' h0 (by lia) (by lia) ?_)
      by_cases hgr : K (arrOf st') (x - 1) < K (arrOf st') x
      · rw [decide_eq_true hgr]
        try dsimp only
        rw [if_pos rfl]
        exact wpS_pure (h x neq st' hB' hnx (by lia) hD')
      · rw [decide_eq_false hgr]
        try dsimp only
        rw [if_neg Bool.false_ne_true]
        exact wpS_pure ⟨neq + 1, rfl, hB', hD'.step_eq hsz (by lia)⟩
theorem st_descPart {st : SortSt} {n nrem : Nat} {Q : Option Nat → SortSt → Prop} (h0 : IntKeys a₀) (hn : nrem ≤ a₀.size) (hnn : n + 1 ≤ nrem) (hB : SBase a₀ st) (hD : DInv a₀ (n + 1) 0 st)
    (h : ∀ m st', SB a₀ st' → 1 ≤ m → m ≤ nrem → SortedTo (arrOf st') m → Q (some m) st') : wpS (model prog w) A E s (descPart n nrem) Q st := by
  unfold descPart
  refine wpS_bind (wpS_lift (wpAny_rule ⟨rfl, ?_⟩))
  refine wpS_bind (st_desc h0 hn (by lia) hnn hB hD fun m neq st' hB' hm1 hm2 hD' => ?_)
  try dsimp only
  obtain ⟨st2, e2, hB2, hD2⟩ := hD'.turn hB'
  by_cases hq : neq > 0
  · rw [if_pos hq] at e2 ⊢
    rw [e2] at hB2 hD2
    exact wpS_bind (wpS_reverse (st_tail3 h0 hn (by lia) hm2 hB2 hD2 h))
  · rw [if_neg hq] at e2 ⊢
    rw [e2] at hB2 hD2
    exact st_tail3 h0 hn (by lia) hm2 hB2 hD2 h
theorem cut_at {xs : Array Keyed} {n : Nat} (hn : n < xs.size) : ∃ S y R, xs.toList = S ++ ([y] ++ R) ∧ S.length = n ∧ kf y = K xs n ∧ ∀ q ∈ S, ∃ i, i < n ∧ kf q = K xs i := by
  have hl : n < xs.toList.length := by rw [Array.length_toList]; exact hn
  have e : xs.toList = xs.toList.take n ++ ([xs.toList[n]] ++ xs.toList.drop (n + 1)) := by
    rw [List.singleton_append, ← List.drop_eq_getElem_cons hl, List.take_append_drop]
  have hlen : (xs.toList.take n).length = n := by rw [List.length_take]; lia
  refine ⟨_, _, _, e, hlen, ?_, ?_⟩
  · have := K_mid (xs := xs) (Q := xs.toList.take n) (R := xs.toList.drop (n + 1)) (e := xs.toList[n]) e
    rw [hlen] at this
    exact this.symm
  · intro q hq
    obtain ⟨i, hi, rfl⟩ := List.mem_iff_getElem.mp hq
    exact ⟨i, by lia, (K_at e hi).symm⟩
theorem DInv.start {n : Nat} {st st' : SortSt} {z : Int} (hn : n < (arrOf st).size) (hS : Stab a₀.toList (arrOf st).toList) (hz : ∀ i, i < n → K (arrOf st) i = z) (hy : K (arrOf st) n < z)
    (e' : arrOf st' = mirror (arrOf st) 0 n ((n - 0) / 2) ∨ (n = 1 ∧ st' = st)) : DInv a₀ (n + 1) 0 st' := by
  obtain ⟨S, y, R, e, hl, hk, hq⟩ := cut_at hn
  have hz' : ∀ q ∈ S, kf q = z := fun q h => by
    obtain ⟨i, hi, e⟩ := hq q h
    rw [e, hz i hi]
  have harr : (arrOf st').toList = S.reverse ++ ([y] ++ R) := by
    rcases e' with e' | ⟨rfl, rfl⟩
    · rw [e', mirror_list (P := []) (S := S) (R := [y] ++ R) (by rw [e]; simp) (by simp) (by simp; lia) rfl]
      simp
    · obtain ⟨y', rfl⟩ := List.length_eq_one_iff.mp hl
      rw [e]
      simp
  refine ⟨S.reverse, [y], R, harr, by simp; lia, rfl, ⟨kf y, by simp, ?_⟩, ?_, ?_⟩
  · intro q h
    have := hz' q (List.mem_reverse.mp h)
    lia
  · rw [List.pairwise_reverse, List.pairwise_iff_getElem]
    intro i j hi hj _
    rw [hz' _ (List.getElem_mem _), hz' _ (List.getElem_mem _)]
    exact Int.le_refl _
  · rw [List.reverse_reverse]
    have h2 : Stab a₀.toList ([] ++ (S ++ ([y] ++ R))) := by rw [List.nil_append, ← e]; exact hS
    have h3 := h2.swap (by
      intro b hb c hc
      obtain rfl := List.mem_singleton.mp hc
      have := hz' b hb
      lia)
    simpa using h3
theorem st_countRun {st : SortSt} {nrem : Nat} {Q : Option Nat → SortSt → Prop} (h0 : IntKeys a₀) (hn : nrem ≤ a₀.size) (h1 : 1 ≤ nrem) (hB : SB a₀ st)
    (h : ∀ m st', SB a₀ st' → 1 ≤ m → m ≤ nrem → SortedTo (arrOf st') m → Q (some m) st') : wpS (model prog w) A E s (countRun' 0 nrem) Q st := by
  rw [countRun0_eq]
  refine wpS_bind (wpS_ascLoop h0 hn (Nat.le_refl 1) h1 hB.1 (sortedTo_of (Q := (arrOf st).toList.take 1) (R := (arrOf st).toList.drop 1) (by rw [List.take_append_drop]) ?_ ?_) fun n hn1 hn2 hsn hor => ?_)
  · rw [List.pairwise_iff_getElem]
    intro i j hi hj hij
    rw [List.length_take] at hi hj
    lia
  · have := hB.1.size
    rw [List.length_take, Array.length_toList]
    lia
  try dsimp only
  by_cases he : n = nrem
  · rw [if_pos (beq_iff_eq.mpr he)]
    exact wpS_pure (h n st hB hn1 hn2 hsn)
  · rw [if_neg (fun q => he (beq_iff_eq.mp q))]
    have hlt := hor.resolve_left he
    have hsz : n < (arrOf st).size := by rw [hB.1.size]; lia
    by_cases hg : n > 1
    · rw [if_pos hg]
      refine wpS_bind (wpS_ltK hB.1 h0 (by lia) (by lia) ?_)
      by_cases hr : K (arrOf st) 0 < K (arrOf st) (n - 1)
      · rw [decide_eq_true hr]
        try dsimp only
        rw [if_pos rfl]
        exact wpS_pure (h n st hB hn1 hn2 hsn)
      · rw [decide_eq_false hr]
        try dsimp only
        rw [if_neg Bool.false_ne_true]
        have hz : ∀ i, i < n → K (arrOf st) i = K (arrOf st) (n - 1) := fun i hi => by
          have q1 := hsn 0 i (by lia) hi
          have q2 := hsn i (n - 1) (by lia) (by lia)
          lia
        exact wpS_bind (wpS_reverse (st_descPart h0 hn (by lia) (hB.1.setArr (mirror_perm _ _ _ _)) (DInv.start hsz hB.2 hz hlt (.inl rfl)) h))
    · rw [if_neg hg]
      have h1' : n = 1 := by lia
      subst h1'
      exact st_descPart h0 hn (by lia) hB.1 (DInv.start hsz hB.2 (fun i hi => by rw [show i = 0 by lia]) hlt (.inr ⟨rfl, rfl⟩)) h
/-- one item goes to its place -/
theorem SB.insert {st : SortSt} {k l : Nat} (hB : SB a₀ st) (hk : k < a₀.size) (hs : SortedTo (arrOf st) k) (hlk : l ≤ k) (hlo : ∀ i, i < l → K (arrOf st) i ≤ K (arrOf st) k) (hhi : ∀ i, l ≤ i → i < k → K (arrOf st) k < K (arrOf st) i) :
    SB a₀ (setArr st (bubble (arrOf st) k (k - l))) ∧ SortedTo (bubble (arrOf st) k (k - l)) (k + 1) := by
  have hsz : k < (arrOf st).size := by rw [hB.1.size]; exact hk
  obtain ⟨S, y, R, e, hl, hy, hq⟩ := cut_at hsz
  have hS : S = S.take l ++ S.drop l := (List.take_append_drop l S).symm
  have hsS : S.Pairwise fun a b => kf a ≤ kf b := sorted_list e (by rw [hl]; exact hs)
  have lo : ∀ q ∈ S.take l, kf q ≤ kf y := by
    intro q hq
    obtain ⟨i, hi, rfl⟩ := List.mem_iff_getElem.mp hq
    rw [List.length_take] at hi
    rw [List.getElem_take, ← K_at e (by lia), hy]
    exact hlo i (by lia)
  have hi : ∀ q ∈ S.drop l, kf y < kf q := by
    intro q hq
    obtain ⟨i, hi, rfl⟩ := List.mem_iff_getElem.mp hq
    rw [List.length_drop] at hi
    rw [List.getElem_drop, ← K_at e (by lia), hy]
    exact hhi (l + i) (by lia) (by lia)
  have e1 : (arrOf st).toList = S.take l ++ (S.drop l ++ ([y] ++ R)) := by rw [e]; conv => lhs; rw [hS, List.append_assoc]
  have e2 := bubble_list e1 (k := k) (d := k - l) (by rw [List.length_take, List.length_drop]; lia) (by rw [List.length_drop]; lia)
  refine ⟨⟨hB.1.setArr (bubble_perm _ _ _), ?_⟩, ?_⟩
  · show Stab a₀.toList (bubble (arrOf st) k (k - l)).toList
    rw [e2]
    have := hB.2
    rw [e1] at this
    exact this.swap (fun b hb c hc => by
      obtain rfl := List.mem_singleton.mp hc
      have := hi b hb
      lia)
  · refine sortedTo_of (Q := S.take l ++ ([y] ++ S.drop l)) (R := R) (by rw [e2]; simp) ?_ (by simp; lia)
    rw [hS, List.pairwise_append] at hsS
    rw [List.pairwise_append]
    refine ⟨hsS.1, ?_, ?_⟩
    · rw [List.singleton_append, List.pairwise_cons]
      exact ⟨fun q hq => Int.le_of_lt (hi q hq), hsS.2.1⟩
    · intro a ha b hb
      rcases List.mem_append.mp hb with hb | hb
      · obtain rfl := List.mem_singleton.mp hb
        exact lo a ha
      · exact hsS.2.2 a ha b hb
/-- where the item at k is to go: between l and r -/
def Between (xs : Array Keyed) (k l r : Nat) : Prop := l ≤ r ∧ r ≤ k ∧ (∀ i, i < l → K xs i ≤ K xs k) ∧ ∀ i, r ≤ i → i < k → K xs k < K xs i
theorem st_binary {st : SortSt} {n ok : Nat} {Q : Bool → SortSt → Prop} (h0 : IntKeys a₀) (hn : n ≤ a₀.size) (h1 : 1 ≤ ok) (hok : ok ≤ n) (hB : SB a₀ st) (hs : SortedTo (arrOf st) ok)
    (h : ∀ st', SB a₀ st' → SortedTo (arrOf st') n → Q true st') : wpS (model prog w) A E s (binarySort' 0 n ok) Q st := by
  rw [binarySort'_eq]
  simp only [Nat.zero_add]
  rw [show max ok 1 = ok by lia]
  refine wpS_bind (wpS_mono (wpS_forRange (I := fun k c st' => k ≤ n ∧ c = (none, ()) ∧ SB a₀ st' ∧ SortedTo (arrOf st') k)
    (Q := fun c st' => c = (none, ()) ∧ SB a₀ st' ∧ SortedTo (arrOf st') n) ?turn ?last ⟨hok, rfl, hB, hs⟩) ?post)
  case last =>
    rintro c st' ⟨_, rfl, hB', hs'⟩
    rw [show max ok n = n by lia] at hs'
    exact ⟨rfl, hB', hs'⟩
  case post =>
    rintro c st' ⟨rfl, hB', hs'⟩
    exact wpS_pure (h st' hB' hs')
  case turn =>
    rintro k c st' hk1 hk2 ⟨_, rfl, hB', hs'⟩
    refine wpS_bind (wpS_mono (wpS_forRange (I := fun x c st'' => st'' = st' ∧ ∃ l r, c = (none, l, r) ∧ Between (arrOf st') k l r ∧ r - l ≤ k - x)
      (Q := fun c st'' => st'' = st' ∧ ∃ l r, c = (none, l, r) ∧ l ≤ k ∧ Between (arrOf st') k l l) ?half ?hlast
      ⟨rfl, 0, k, rfl, ⟨Nat.zero_le _, Nat.le_refl _, fun i hi => absurd hi (Nat.not_lt_zero _), fun i a b => absurd b (by lia)⟩, by lia⟩) ?hpost)
    case hlast =>
      rintro c st'' ⟨rfl, l, r, rfl, hb, hm⟩
      have hb1 := hb.1
      have e : l = r := by lia
      subst e
      exact ⟨rfl, l, l, rfl, hb.2.1, hb⟩
    case hpost =>
      rintro c st'' ⟨rfl, l, r, rfl, hlk, hb⟩
      have hp := hB'.insert (by lia) hs' hlk hb.2.2.1 hb.2.2.2
      show wpS _ _ _ _ (do moveDown' k l; pure (ForInStep.yield (none, ()))) _ _
      rw [moveDown'_eq]
      exact wpS_bind (wpS_modify (wpS_pure ⟨by lia, rfl, hp.1, hp.2⟩))
    case half =>
      rintro x c st'' _ hxk ⟨rfl, l, r, rfl, ⟨b1, b2, b3, b4⟩, hm⟩
      try dsimp only
      by_cases hge : l ≥ r
      · rw [if_pos hge]
        have e : l = r := by lia
        subst e
        exact wpS_pure ⟨rfl, l, l, rfl, b2, b1, b2, b3, b4⟩
      · rw [if_neg hge]
        have hmid : l ≤ (l + r) / 2 ∧ (l + r) / 2 < r := by lia
        generalize (l + r) / 2 = mid at hmid
        refine wpS_bind (wpS_ltK hB'.1 h0 (by lia) (by lia) ?_)
        by_cases hless : K (arrOf st'') k < K (arrOf st'') mid
        · rw [decide_eq_true hless]
          try dsimp only
          rw [if_pos rfl]
          refine wpS_pure ⟨rfl, l, mid, rfl, ⟨hmid.1, by lia, b3, fun i i1 i2 => ?_⟩, by lia⟩
          have := hs' mid i i1 i2
          lia
        · rw [decide_eq_false hless]
          try dsimp only
          rw [if_neg Bool.false_ne_true]
          refine wpS_pure ⟨rfl, mid + 1, r, rfl, ⟨by lia, b2, fun i i1 => ?_, b4⟩, by lia⟩
          have := hs' i mid (by lia) (by lia)
          lia
/-- fewer than 64 items: one run -/
theorem st_sort {st : SortSt} {Q : Unit → SortSt → Prop} (h0 : IntKeys a₀) (hB : SB a₀ st) (h2 : 2 ≤ a₀.size) (h64 : a₀.size < 64)
    (h : ∀ st', (arrOf st').Perm a₀ → failedOf st' = none → SortedTo (arrOf st') a₀.size → Stab a₀.toList (arrOf st').toList → Q () st') : wpS (model prog w) A E s sortRuns' Q st := by
  have hone : minRun' a₀.size a₀.size 0 = a₀.size := by
    cases q : a₀.size with
    | zero => lia
    | succ n =>
      rw [minRun'_succ, if_pos (by lia)]
  have fin : ∀ st', SB a₀ st' → SortedTo (arrOf st') a₀.size → wpS (model prog w) A E s (do
      (modify fun s => setPending s ((pendingOf s).push (0, a₀.size, 0)) : StateT SortSt Sem PUnit)
      pure (ForInStep.yield ((none : Option Unit), 0 + a₀.size))) (fun r st'' => r = .yield (none, a₀.size) ∧ SDone a₀ st'' ∧ Stab a₀.toList (arrOf st'').toList) st' :=
    fun st' hB' hs' => wpS_bind (wpS_modify (wpS_pure ⟨by rw [Nat.zero_add], hB'.1.done hs', hB'.2⟩))
  rw [sortRuns'_eq]
  refine wpS_bind (wpS_get ?_)
  try dsimp only
  simp only [hB.1.size, hone]
  refine wpS_bind (wpS_mono (wpS_forRange (I := fun x c st' => (x = 0 ∧ c = (none, 0) ∧ SB a₀ st') ∨ (1 ≤ x ∧ c = (none, a₀.size) ∧ SDone a₀ st' ∧ Stab a₀.toList (arrOf st').toList))
    (Q := fun c st' => c = (none, a₀.size) ∧ SDone a₀ st' ∧ Stab a₀.toList (arrOf st').toList) ?turn ?last (.inl ⟨rfl, rfl, hB⟩)) ?post)
  case last =>
    rintro c st' (⟨hx, _⟩ | ⟨_, r⟩)
    · lia
    · exact r
  case post =>
    rintro c st' ⟨rfl, hD, hS⟩
    try dsimp only
    refine wpS_bind (wpS_mono (wpS_forRange (I := fun _ c st'' => st'' = st' ∧ c = (none, ())) (Q := fun c st'' => st'' = st' ∧ c = (none, ())) ?pturn (fun _ _ q => q) ⟨rfl, rfl⟩) ?ppost)
    case pturn =>
      rintro x c st'' _ _ ⟨rfl, rfl⟩
      refine wpS_bind (wpS_get ?_)
      rw [if_pos (by rw [hD.2.2.1]; exact Nat.le_refl 1)]
      exact wpS_pure ⟨rfl, rfl⟩
    case ppost =>
      rintro c st'' ⟨rfl, rfl⟩
      exact wpS_pure (h _ hD.1 hD.2.1 hD.2.2.2 hS)
  case turn =>
    rintro x c st' _ hx (⟨rfl, rfl, hB'⟩ | ⟨hx1, rfl, hD, hS⟩)
    · try dsimp only
      rw [if_neg (by lia)]
      simp only [Nat.sub_zero, Nat.min_self]
      refine wpS_bind (st_countRun h0 (Nat.le_refl _) (by lia) hB' fun m st2 hB2 hm1 hm2 hs2 => ?_)
      try dsimp only
      by_cases hlt : m < a₀.size
      · rw [if_pos hlt]
        refine wpS_bind (wpS_lift (wpAny_rule ⟨rfl, ?_⟩))
        refine wpS_bind (st_binary h0 (Nat.le_refl _) hm1 hm2 hB2 hs2 fun st3 hB3 hs3 => ?_)
        simp only [Bool.not_true, Bool.false_eq_true, if_false]
        refine wpS_bind (wpS_get ?_)
        rw [show (pendingOf st3).back? = none by rw [hB3.1.pend]; rfl]
        try dsimp only
        refine wpS_mono (fin st3 hB3 hs3) ?_
        rintro r st4 ⟨rfl, q1, q2⟩
        exact .inr ⟨by lia, rfl, q1, q2⟩
      · rw [if_neg hlt]
        have e : m = a₀.size := by lia
        subst e
        refine wpS_bind (wpS_get ?_)
        rw [show (pendingOf st2).back? = none by rw [hB2.1.pend]; rfl]
        try dsimp only
        refine wpS_mono (fin st2 hB2 hs2) ?_
        rintro r st4 ⟨rfl, q1, q2⟩
        exact .inr ⟨by lia, rfl, q1, q2⟩
    · try dsimp only
      rw [if_pos (Nat.le_refl _)]
      exact wpS_pure ⟨rfl, hD, hS⟩
end
end
end Mine
end
section
open PySem PySem.W PyProof.Rows
namespace Mine
section
set_option maxHeartbeats 4000000
/-- the answer of a sort by keys kz: in order, and the items of each key as they stood -/
def StOut (kz : List Int) (vs out : List Value) : Prop :=
  ∃ ps : List (Int × Value), out = ps.map Prod.snd ∧ ps.Pairwise (fun p q => p.1 ≤ q.1) ∧ ∀ k, ps.filter (fun p => decide (p.1 = k)) = (kz.zip vs).filter (fun p => decide (p.1 = k))
theorem stOut_of {keys : Array Value} {vs : List Value} {kz : List Int} {xs : Array Keyed} (hk : IntsAre keys.toList kz) (hs : SortedTo xs xs.size) (hS : Stab (keys.zip vs.toArray).toList xs.toList) : StOut kz vs (xs.map (·.2)).toList := by
  have hz : (keys.toList.zip vs).map (fun p : Keyed => (numOf p.1, p.2)) = kz.zip vs := by
    rw [← hk.nums, List.zip_map_left]
    rfl
  refine ⟨xs.toList.map (fun p : Keyed => (numOf p.1, p.2)), ?_, ?_, ?_⟩
  · rw [Array.toList_map, List.map_map]
    rfl
  · rw [List.pairwise_map]
    exact sorted_list (xs := xs) (Q := xs.toList) (R := []) (by simp) (by rw [Array.length_toList]; exact hs)
  · intro k
    have := congrArg (List.map (fun p : Keyed => (numOf p.1, p.2))) (hS k)
    rw [ksk_zip] at this
    rw [List.filter_map, ← hz, List.filter_map]
    exact this
section
variable {prog : Program} {w : World} {A : Around} {E : Value → Shared → Prop} {s : Shared} {h₀ : Heap} {L : Addr} {m : Str → Option Value} {news : List (Addr × Obj)} {a kS : Addr} {vs : List Value} {kz : List Int} {keys : Array Value} {e e1 : Nat} {P : PySem.Fin → Shared → Prop}
theorem so_tail {st : SortSt} (F : Fr h₀ L s.heap m) (N : News h₀ L s.heap (news ++ [(kS, seqObj "list" keys e), (a, seqObj "list" #[] e1)])) (hka : kS ≠ a) (hnk : ∀ p ∈ news, p.1 ≠ kS) (hna : ∀ p ∈ news, p.1 ≠ a)
    (hz1 : keys.size < 64) (hz2 : (arrOf st).size < 64) (hfl : failedOf st = none)
    (h : ∀ h' tk c, Fr h₀ L h' m → News h₀ L h' ((a, seqObj "list" ((arrOf st).map (·.2)) c) :: news) → P (.done (.ret .none)) { s with heap := h', toks := tk }) :
    wpAny (model prog w) A (ksk_tail a false e1 (.ref kS) st) P E s := by
  obtain ⟨nk, nk'⟩ := N (kS, seqObj "list" keys e) (by simp)
  obtain ⟨na, na'⟩ := N (a, seqObj "list" #[] e1) (by simp)
  have u1 := Heap.SameBut.update s.heap kS (Obj.mapSeq fun _ => (#[] : Array Value))
  have ga := (u1.2 a hka.symm).trans na
  have u2 := Heap.SameBut.update (s.heap.update kS (Obj.mapSeq fun _ => (#[] : Array Value))) a (Obj.mapSeq fun _ => (arrOf st).map (·.2))
  obtain ⟨c2, g2⟩ : ∃ c2, ((s.heap.update kS (Obj.mapSeq fun _ => (#[] : Array Value))).update a (Obj.mapSeq fun _ => (arrOf st).map (·.2))).get? a = some (seqObj "list" ((arrOf st).map (·.2)) c2) := ⟨_, get?_update_seq ga fun _ => (arrOf st).map (·.2)⟩
  unfold ksk_tail
  try dsimp only
  refine wpAny_bind (listUpdate_at nk rfl ?_ (by rw [sizeLine_eq]; lia) (Nat.zero_le _))
  refine wpAny_bind (wpAny_letGo ?_)
  refine wpAny_bind (seqEpoch_at ga rfl ?_)
  refine wpAny_bind (listUpdate_at ga rfl ?_ (Nat.zero_le _) (by simp only [Bool.false_eq_true, if_false, Array.size_map]; rw [sizeLine_eq]; lia))
  rw [hfl]
  simp only [bne_self_eq_false, Bool.false_eq_true, if_false]
  refine wpAny_pure (h _ _ c2 (ksk_fr (ksk_fr F u1 nk'.1 nk'.2) u2 na'.1 na'.2) ?_)
  have N2 := ksk_news (ksk_news (fun p hp => N p (List.mem_append_left _ hp)) u1 hnk) u2 hna
  intro p hp
  rcases List.mem_cons.mp hp with rfl | hp
  · exact ⟨g2, na'⟩
  · exact N2 p hp
theorem so_end (F : Fr h₀ L s.heap m) (N : News h₀ L s.heap (news ++ [(kS, seqObj "list" keys e), (a, seqObj "list" #[] e1)])) (hka : kS ≠ a) (hnk : ∀ p ∈ news, p.1 ≠ kS) (hna : ∀ p ∈ news, p.1 ≠ a)
    (hk : IntsAre keys.toList kz) (hlen : kz.length = vs.length) (h64 : vs.length < 64)
    (h : ∀ h' tk out c, Fr h₀ L h' m → News h₀ L h' ((a, seqObj "list" out c) :: news) → StOut kz vs out.toList → P (.done (.ret .none)) { s with heap := h', toks := tk }) :
    wpAny (model prog w) A (ksk_end a false vs.toArray e1 (.ref kS) keys) P E s := by
  have hks : keys.size = vs.length := by
    have := hk.length
    rw [Array.length_toList] at this
    lia
  have hzs : (keys.zip vs.toArray).size = vs.length := by rw [Array.size_zip, hks, List.size_toArray, Nat.min_self]
  unfold ksk_end
  simp only [Bool.false_eq_true, if_false]
  by_cases h2 : vs.length < 2
  · simp only [List.size_toArray, if_pos h2]
    refine wpAny_bind (wpAny_pure ?_)
    rw [StateT.run_pure]
    refine wpAny_bind (wpAny_pure ?_)
    refine so_tail F N hka hnk hna (by lia) (by show (keys.zip vs.toArray).size < 64; lia) rfl fun h' tk c F' N' => h h' tk _ c F' N' ?_
    refine stOut_of (xs := keys.zip vs.toArray) hk (fun i j hij hj => ?_) (Stab.refl _)
    rw [show i = j by lia]
    exact Int.le_refl _
  · simp only [List.size_toArray, if_neg h2]
    rw [ksk_kind hk (by lia)]
    refine wpAny_bind (wpAny_pure ?_)
    refine wpAny_bind (wpAny_mono (st_sort (a₀ := keys.zip vs.toArray) (st := SortSt.mk' oneType' (keys.zip vs.toArray) #[] 7 none)
      (Q := fun _ st' => (arrOf st').size = vs.length ∧ failedOf st' = none ∧ SortedTo (arrOf st') (arrOf st').size ∧ Stab (keys.zip vs.toArray).toList (arrOf st').toList)
      (ksk_intKeys hk) ⟨⟨Array.Perm.refl _, rfl, rfl, rfl⟩, Stab.refl _⟩ (by lia) (by lia) fun st' a1 a2 a3 a4 => ⟨a1.size_eq.trans hzs, a2, by rw [a1.size_eq]; exact a3, a4⟩) ?_ fun _ _ q => q)
    rintro ⟨⟨⟩, st'⟩ s' ⟨rfl, b1, b2, b3, b4⟩
    exact so_tail F N hka hnk hna (by lia) (by lia) b2 fun h' tk c F' N' => h h' tk _ c F' N' (stOut_of hk b3 b4)
end
end
end Mine
end
section
open PySem PySem.W PyProof.Rows
namespace Mine
section
set_option maxHeartbeats 4000000
section
variable {prog : Program} {w : World} {A : Around} {E : Value → Shared → Prop} {s : Shared} {h₀ : Heap} {L : Addr} {m : Str → Option Value} {news : List (Addr × Obj)} {a kS l : Addr} {vs : List Value} {kz : List Int} {e e1 : Nat} {P : PySem.Fin → Shared → Prop} {Q : Value → Shared → Prop} {f : Value}
/-- what a call of the key does -/
def KeyDoes (prog : Program) (w : World) (A : Around) (h₀ : Heap) (L : Addr) (m : Str → Option Value) (news : List (Addr × Obj)) (vs : List Value) (kz : List Int) (f : Value) (s : Shared) : Prop :=
  ∀ (i : Nat) (v : Value) (k : Int), vs[i]? = some v → kz[i]? = some k → ∀ (h : Heap) (tk : Nat) (own : List (Addr × Obj)), Fr h₀ L h m → News h₀ L h (news ++ own) →
    wpAny (model prog w) A (call f [v]) (KskEnd h₀ L m (news ++ own) k { s with heap := h, toks := tk }) (fun _ _ => False) { s with heap := h, toks := tk }
theorem so_rest (F : Fr h₀ L s.heap m) (N : News h₀ L s.heap (news ++ [(kS, seqObj "list" #[] 0), (a, seqObj "list" #[] e1)])) (hka : kS ≠ a) (hnk : ∀ p ∈ news, p.1 ≠ kS) (hna : ∀ p ∈ news, p.1 ≠ a)
    (hlen : kz.length = vs.length) (h64 : vs.length < 64) (turn : KeyDoes prog w A h₀ L m news vs kz f s)
    (h : ∀ h' tk out c, Fr h₀ L h' m → News h₀ L h' ((a, seqObj "list" out c) :: news) → StOut kz vs out.toList → P (.done (.ret .none)) { s with heap := h', toks := tk }) :
    wpAny (model prog w) A (ksk_rest a f false vs.toArray e1 (.ref kS)) P E s := by
  unfold ksk_rest
  refine wpAny_bind (wpAny_rule ?_)
  rw [List.forIn_toArray]
  refine wpAny_bind (ksk_fold (fun i s' => ∃ h' tk ks e, s' = { s with heap := h', toks := tk } ∧ Fr h₀ L h' m ∧ News h₀ L h' (news ++ [(kS, seqObj "list" ks e), (a, seqObj "list" #[] e1)]) ∧ IntsAre ks.toList (kz.take i)) vs 0 s
    ⟨s.heap, s.toks, #[], 0, rfl, F, N, by rw [List.take_zero]; exact IntsAre.nil⟩ ?_ ?_)
  · rintro j x s' hx ⟨h', tk, ks, e, rfl, F', N', hk⟩
    rw [Nat.zero_add] at hk ⊢
    have hj := (List.getElem?_eq_some_iff.mp hx).1
    have hkj : kz[j]? = some kz[j] := List.getElem?_eq_getElem (by lia)
    have hks : ks.size = j := by
      have := hk.length
      rw [Array.length_toList, List.length_take] at this
      lia
    refine wpAny_bind (wpAny_attempt (wpAny_mono (turn j x _ hx hkj h' tk _ F' N') (fun v s'' he => ?_) fun _ _ q => q.elim))
    obtain ⟨g, tk2, t2, rfl, rfl, F2, N2⟩ := he
    try dsimp only
    obtain ⟨nk, nk'⟩ := N2 (kS, seqObj "list" ks e) (by simp)
    obtain ⟨na, na'⟩ := N2 (a, seqObj "list" #[] e1) (by simp)
    have u1 := Heap.SameBut.update g kS (Obj.mapSeq (·.push (.int kz[j] t2)))
    obtain ⟨c2, g2⟩ : ∃ c2, (g.update kS (Obj.mapSeq (·.push (.int kz[j] t2)))).get? kS = some (seqObj "list" (ks.push (.int kz[j] t2)) c2) := ⟨_, get?_update_seq nk (·.push (.int kz[j] t2))⟩
    refine wpAny_bind (listUpdate_at nk rfl ?_ (by rw [sizeLine_eq]; lia) (by rw [Array.size_push, sizeLine_eq]; lia))
    refine wpAny_pure ⟨rfl, _, _, ks.push (.int kz[j] t2), c2, rfl, ksk_fr F2 u1 nk'.1 nk'.2, ?_, ?_⟩
    · have N3 := ksk_news (fun q hq => N2 q (List.mem_append_left _ hq)) u1 hnk
      intro p hp
      rcases List.mem_append.mp hp with hp | hp
      · exact N3 p hp
      · rcases List.mem_cons.mp hp with rfl | hp
        · exact ⟨g2, nk'⟩
        · obtain rfl := List.mem_singleton.mp hp
          exact ⟨(u1.2 a hka.symm).trans na, na'⟩
    · rw [Array.toList_push, List.take_add_one, hkj]
      exact ksk_snoc hk
  · rintro s' ⟨h', tk, ks, e, rfl, F', N', hk⟩
    rw [Nat.zero_add, ← hlen, List.take_length] at hk
    refine wpAny_bind (listItems_at (N' (kS, seqObj "list" ks e) (by simp)).1 rfl ?_)
    exact so_end F' N' hka hnk hna hk hlen h64 fun h2 tk2 out c => h h2 tk2 out c
/-- list.sort(key=f) of a list that no ledger names -/
theorem so_sort {n : Nat} (F : Fr h₀ L s.heap m) (N : News h₀ L s.heap news) (ho : s.heap.get? a = some (seqObj "list" vs.toArray n)) (haL : a ≠ L) (ha0 : h₀.get? a = none) (hna : ∀ p ∈ news, p.1 ≠ a)
    (hlen : kz.length = vs.length) (h64 : vs.length < 64) (turn : KeyDoes prog w A h₀ L m news vs kz f s)
    (h : ∀ h' tk out c, Fr h₀ L h' m → News h₀ L h' ((a, seqObj "list" out c) :: news) → StOut kz vs out.toList → P (.done (.ret .none)) { s with heap := h', toks := tk }) :
    wpAny (model prog w) A (ksk_tree a f false) P E s := by
  have u1 := Heap.SameBut.update s.heap a (Obj.mapSeq fun _ => (#[] : Array Value))
  obtain ⟨e1, g1⟩ : ∃ e1, (s.heap.update a (Obj.mapSeq fun _ => (#[] : Array Value))).get? a = some (seqObj "list" #[] e1) := ⟨_, get?_update_seq ho fun _ => #[]⟩
  have F1 := ksk_fr F u1 haL ha0
  have N1 := ksk_news N u1 hna
  generalize hg : s.heap.update a (Obj.mapSeq fun _ => (#[] : Array Value)) = h1 at *
  have F2 := F1.push (seqObj "tuple" vs.toArray 0)
  have hkS : (h1.push (seqObj "tuple" vs.toArray 0)).objs.size = h1.objs.size + 1 := size_push' ..
  have hLk : L < (h1.push (seqObj "tuple" vs.toArray 0)).objs.size := F2.ns.lt
  have old : ∀ {b : Addr} {o : Obj}, h1.get? b = some o → ((h1.push (seqObj "tuple" vs.toArray 0)).push (seqObj "list" #[] 0)).get? b = some o := fun q => Heap.get?_push_of_some _ (Heap.get?_push_of_some _ q)
  have ne : ∀ {b : Addr} {o : Obj}, h1.get? b = some o → b ≠ (h1.push (seqObj "tuple" vs.toArray 0)).objs.size := fun q => by rw [hkS]; exact Nat.ne_of_lt (Nat.lt_succ_of_lt (Heap.lt_size q))
  unfold ksk_tree
  refine wpAny_bind (listItems_at ho rfl ?_)
  refine wpAny_bind (listUpdate_at ho rfl ?_ (by rw [List.size_toArray, sizeLine_eq]; lia) (Nat.zero_le _))
  rw [hg]
  refine wpAny_bind (seqEpoch_at g1 rfl ?_)
  refine wpAny_bind (wpAny_newTuple ?_ (by show vs.length ≤ _; rw [sizeLine_eq]; lia))
  refine wpAny_bind (wpAny_newList ?_ (Nat.zero_le _))
  refine wpAny_holding ?_
  refine so_rest (s := { s with heap := (h1.push (seqObj "tuple" vs.toArray 0)).push (seqObj "list" #[] 0) }) (kS := (h1.push (seqObj "tuple" vs.toArray 0)).objs.size) (F2.push _) ?_ (ne g1).symm (fun p hp => ne (N1 p hp).1) hna hlen h64 turn h
  intro p hp
  rcases List.mem_append.mp hp with hp | hp
  · exact ⟨old (N1 p hp).1, (N1 p hp).2⟩
  · rcases List.mem_cons.mp hp with rfl | hp
    · exact ⟨Heap.get?_push_size _ rfl, Nat.ne_of_gt hLk, Heap.get?_none_of_le (Nat.le_trans F.above (Nat.le_of_lt hLk))⟩
    · obtain rfl := List.mem_singleton.mp hp
      exact ⟨old g1, haL, ha0⟩
/-- sorted(xs, key=f): alike items stay as they stand -/
theorem so_sorted {q : Addr} (F : Fr h₀ L s.heap m) (N : News h₀ L s.heap news) (hl : s.heap.IsList l vs.toArray) (hlen : kz.length = vs.length) (h64 : vs.length < 64)
    (turn : KeyDoes prog w A.in1.in1 h₀ L m news vs kz (.ref q) s)
    (h : ∀ D h' tk out c, Fr h₀ L h' m → News h₀ L h' ((D, seqObj "list" out c) :: news) → (∀ q ∈ news, q.1 < D) → StOut kz vs out.toList → Q (.ref D) { s with heap := h', toks := tk }) :
    wpAny (model prog w) A (call (.builtin "sorted") [.ref l] [(Str.ofString "key", .ref q)]) Q E s := by
  refine call_function_entry_kw kind_sorted plain_sorted entry_sorted (ksk_s1 _ _) ?_
  unfold Builtin.«sorted»
  refine wpAny_bind (m := checkCount "sorted" 1 1 _) (wpAny_pure ?_)
  refine wpAny_bind (collect_list hl ?_ (by rw [sizeLine_eq]; lia))
  refine wpAny_bind (wpAny_newList ?_ (by rw [sizeLine_eq]; lia))
  have hup : ∀ b o, s.heap.get? b = some o → ((s.heap.push (seqObj "list" #[] 0)).update s.heap.objs.size (Obj.mapSeq (· ++ vs.toArray))).get? b = some o := fun b o g => by
    have hb := Nat.ne_of_lt (Heap.lt_size g)
    rw [Heap.get?_update_ne _ _ _ _ hb, Heap.get?_push_ne _ _ _ hb]
    exact g
  have hsz : ((s.heap.push (seqObj "list" #[] 0)).update s.heap.objs.size (Obj.mapSeq (· ++ vs.toArray))).objs.size = s.heap.objs.size + 1 := by rw [Heap.size_update, size_push']
  show wpAny _ _ _ _ _ { s with heap := ((s.heap.push (seqObj "list" #[] 0)).update s.heap.objs.size (Obj.mapSeq (· ++ vs.toArray))).push (seqObj "list" vs.toArray 0) }
  generalize (s.heap.push (seqObj "list" #[] 0)).update s.heap.objs.size (Obj.mapSeq (· ++ vs.toArray)) = h1 at *
  have keep : ∀ b o, s.heap.get? b = some o → (h1.push (seqObj "list" vs.toArray 0)).get? b = some o := fun b o g => Heap.get?_push_of_some _ (hup b o g)
  have hL : L < h1.objs.size := by rw [hsz]; exact Nat.lt_succ_of_lt F.ns.lt
  have lt : ∀ p ∈ news, p.1 < h1.objs.size := fun p hp => Heap.lt_size (hup _ _ (N p hp).1)
  have hnew : (h1.push (seqObj "list" vs.toArray 0)).get? h1.objs.size = some (seqObj "list" vs.toArray 0) := Heap.get?_push_size _ rfl
  refine wpAny_bind (wpAny_holding (wpAny_call_entry_kw slot_list_sort ⟨_, hnew, rfl⟩ entry_list_sort ?_ (ksk_l1 _ _)))
  show wpAny (model prog w) A.in1.in1 (Builtin.«list.sort» ⟨[.ref h1.objs.size], [(Str.ofString "key", .ref q)]⟩) _ _ _
  rw [ksk_t1]
  refine so_sort (s := { s with heap := h1.push (seqObj "list" vs.toArray 0) }) (F.kept keep) (N.grown keep) hnew (Nat.ne_of_gt hL) (Heap.get?_none_of_le (Nat.le_trans F.above (Nat.le_of_lt hL))) (fun p hp => Nat.ne_of_lt (lt p hp)) hlen h64 turn fun h' tk out c F' N' k' => ⟨_, rfl, ?_⟩
  exact wpAny_pure ⟨_, rfl, h _ h' tk out c F' N' lt k'⟩
end
end
end Mine
end
section
open PySem PySem.W PyProof.Rows
namespace Mine
section
/-- the i-th statement of the top -/
noncomputable def tp (i : Nat) : Stmt := (PySem.Challenge.pw_nt0032_01.main.body[i]?).getD (.Pass default)
/-- the j-th statement of the class that stands at i -/
noncomputable def mt (i j : Nat) : Stmt := match tp i with
  | .ClassDef _ _ _ b _ _ _ _ _ _ _ => (b[j]?).getD (.Pass default)
  | _ => .Pass default
def fparams : Stmt → Arguments
  | .FunctionDef _ a _ _ _ _ _ _ _ _ => a
  | _ => default
def fbody : Stmt → List Stmt
  | .FunctionDef _ _ b _ _ _ _ _ _ _ => b
  | _ => []
def fscope : Stmt → Scope
  | .FunctionDef _ _ _ _ _ _ s _ _ _ => s
  | _ => default
abbrev fn (ps : Arguments) (b : List Stmt) (sc : Scope) (name qual : Str) (dV kV doc pm cd ct : Value) : Data :=
  .func (fnOf name qual ps b sc dV kV doc pm none cd ct)
abbrev en (P : Params) (x : Str) (t : Tok) (v : Value) : DictEntry := ⟨PyData.keyHash P x, .str x t, v⟩
noncomputable def f61 : { x : Arguments × List Stmt × Scope // x = (fparams (tp 5), fbody (tp 5), fscope (tp 5)) } := by
  apply Subtype.mk
  case property =>
    conv =>
      rhs
      (conv => pattern (fparams _); whnf)
      (conv => pattern (fbody _); whnf)
      (conv => pattern (fscope _); whnf)
noncomputable def P61 : Arguments := f61.1.1
noncomputable def B61 : List Stmt := f61.1.2.1
noncomputable def C61 : Scope := f61.1.2.2
noncomputable def f68 : { x : Arguments × List Stmt × Scope // x = (fparams (tp 15), fbody (tp 15), fscope (tp 15)) } := by
  apply Subtype.mk
  case property =>
    conv =>
      rhs
      (conv => pattern (fparams _); whnf)
      (conv => pattern (fbody _); whnf)
      (conv => pattern (fscope _); whnf)
noncomputable def P68 : Arguments := f68.1.1
noncomputable def B68 : List Stmt := f68.1.2.1
noncomputable def C68 : Scope := f68.1.2.2
noncomputable def f82 : { x : Arguments × List Stmt × Scope // x = (fparams (tp 17), fbody (tp 17), fscope (tp 17)) } := by
  apply Subtype.mk
  case property =>
    conv =>
      rhs
      (conv => pattern (fparams _); whnf)
      (conv => pattern (fbody _); whnf)
      (conv => pattern (fscope _); whnf)
noncomputable def P82 : Arguments := f82.1.1
noncomputable def B82 : List Stmt := f82.1.2.1
noncomputable def C82 : Scope := f82.1.2.2
noncomputable def f96 : { x : Arguments × List Stmt × Scope // x = (fparams (tp 20), fbody (tp 20), fscope (tp 20)) } := by
  apply Subtype.mk
  case property =>
    conv =>
      rhs
      (conv => pattern (fparams _); whnf)
      (conv => pattern (fbody _); whnf)
      (conv => pattern (fscope _); whnf)
noncomputable def P96 : Arguments := f96.1.1
noncomputable def B96 : List Stmt := f96.1.2.1
noncomputable def C96 : Scope := f96.1.2.2
noncomputable def f103 : { x : Arguments × List Stmt × Scope // x = (fparams (tp 21), fbody (tp 21), fscope (tp 21)) } := by
  apply Subtype.mk
  case property =>
    conv =>
      rhs
      (conv => pattern (fparams _); whnf)
      (conv => pattern (fbody _); whnf)
      (conv => pattern (fscope _); whnf)
noncomputable def P103 : Arguments := f103.1.1
noncomputable def B103 : List Stmt := f103.1.2.1
noncomputable def C103 : Scope := f103.1.2.2
noncomputable def f110 : { x : Arguments × List Stmt × Scope // x = (fparams (tp 22), fbody (tp 22), fscope (tp 22)) } := by
  apply Subtype.mk
  case property =>
    conv =>
      rhs
      (conv => pattern (fparams _); whnf)
      (conv => pattern (fbody _); whnf)
      (conv => pattern (fscope _); whnf)
noncomputable def P110 : Arguments := f110.1.1
noncomputable def B110 : List Stmt := f110.1.2.1
noncomputable def C110 : Scope := f110.1.2.2
noncomputable def f115 : { x : Arguments × List Stmt × Scope // x = (fparams (tp 23), fbody (tp 23), fscope (tp 23)) } := by
  apply Subtype.mk
  case property =>
    conv =>
      rhs
      (conv => pattern (fparams _); whnf)
      (conv => pattern (fbody _); whnf)
      (conv => pattern (fscope _); whnf)
noncomputable def P115 : Arguments := f115.1.1
noncomputable def B115 : List Stmt := f115.1.2.1
noncomputable def C115 : Scope := f115.1.2.2
noncomputable def f123 : { x : Arguments × List Stmt × Scope // x = (fparams (tp 24), fbody (tp 24), fscope (tp 24)) } := by
  apply Subtype.mk
  case property =>
    conv =>
      rhs
      (conv => pattern (fparams _); whnf)
      (conv => pattern (fbody _); whnf)
      (conv => pattern (fscope _); whnf)
noncomputable def P123 : Arguments := f123.1.1
noncomputable def B123 : List Stmt := f123.1.2.1
noncomputable def C123 : Scope := f123.1.2.2
noncomputable def f130 : { x : Arguments × List Stmt × Scope // x = (fparams (tp 25), fbody (tp 25), fscope (tp 25)) } := by
  apply Subtype.mk
  case property =>
    conv =>
      rhs
      (conv => pattern (fparams _); whnf)
      (conv => pattern (fbody _); whnf)
      (conv => pattern (fscope _); whnf)
noncomputable def P130 : Arguments := f130.1.1
noncomputable def B130 : List Stmt := f130.1.2.1
noncomputable def C130 : Scope := f130.1.2.2
noncomputable def f151 : { x : Arguments × List Stmt × Scope // x = (fparams (mt 27 0), fbody (mt 27 0), fscope (mt 27 0)) } := by
  apply Subtype.mk
  case property =>
    conv =>
      rhs
      (conv => pattern (fparams _); whnf)
      (conv => pattern (fbody _); whnf)
      (conv => pattern (fscope _); whnf)
noncomputable def P151 : Arguments := f151.1.1
noncomputable def B151 : List Stmt := f151.1.2.1
noncomputable def C151 : Scope := f151.1.2.2
noncomputable def f188 : { x : Arguments × List Stmt × Scope // x = (fparams (tp 29), fbody (tp 29), fscope (tp 29)) } := by
  apply Subtype.mk
  case property =>
    conv =>
      rhs
      (conv => pattern (fparams _); whnf)
      (conv => pattern (fbody _); whnf)
      (conv => pattern (fscope _); whnf)
noncomputable def P188 : Arguments := f188.1.1
noncomputable def B188 : List Stmt := f188.1.2.1
noncomputable def C188 : Scope := f188.1.2.2
noncomputable def f195 : { x : Arguments × List Stmt × Scope // x = (fparams (tp 30), fbody (tp 30), fscope (tp 30)) } := by
  apply Subtype.mk
  case property =>
    conv =>
      rhs
      (conv => pattern (fparams _); whnf)
      (conv => pattern (fbody _); whnf)
      (conv => pattern (fscope _); whnf)
noncomputable def P195 : Arguments := f195.1.1
noncomputable def B195 : List Stmt := f195.1.2.1
noncomputable def C195 : Scope := f195.1.2.2
noncomputable def f203 : { x : Arguments × List Stmt × Scope // x = (fparams (tp 31), fbody (tp 31), fscope (tp 31)) } := by
  apply Subtype.mk
  case property =>
    conv =>
      rhs
      (conv => pattern (fparams _); whnf)
      (conv => pattern (fbody _); whnf)
      (conv => pattern (fscope _); whnf)
noncomputable def P203 : Arguments := f203.1.1
noncomputable def B203 : List Stmt := f203.1.2.1
noncomputable def C203 : Scope := f203.1.2.2
noncomputable def f211 : { x : Arguments × List Stmt × Scope // x = (fparams (tp 32), fbody (tp 32), fscope (tp 32)) } := by
  apply Subtype.mk
  case property =>
    conv =>
      rhs
      (conv => pattern (fparams _); whnf)
      (conv => pattern (fbody _); whnf)
      (conv => pattern (fscope _); whnf)
noncomputable def P211 : Arguments := f211.1.1
noncomputable def B211 : List Stmt := f211.1.2.1
noncomputable def C211 : Scope := f211.1.2.2
noncomputable def f218 : { x : Arguments × List Stmt × Scope // x = (fparams (tp 34), fbody (tp 34), fscope (tp 34)) } := by
  apply Subtype.mk
  case property =>
    conv =>
      rhs
      (conv => pattern (fparams _); whnf)
      (conv => pattern (fbody _); whnf)
      (conv => pattern (fscope _); whnf)
noncomputable def P218 : Arguments := f218.1.1
noncomputable def B218 : List Stmt := f218.1.2.1
noncomputable def C218 : Scope := f218.1.2.2
noncomputable def f232 : { x : Arguments × List Stmt × Scope // x = (fparams (mt 35 0), fbody (mt 35 0), fscope (mt 35 0)) } := by
  apply Subtype.mk
  case property =>
    conv =>
      rhs
      (conv => pattern (fparams _); whnf)
      (conv => pattern (fbody _); whnf)
      (conv => pattern (fscope _); whnf)
noncomputable def P232 : Arguments := f232.1.1
noncomputable def B232 : List Stmt := f232.1.2.1
noncomputable def C232 : Scope := f232.1.2.2
noncomputable def f239 : { x : Arguments × List Stmt × Scope // x = (fparams (mt 35 1), fbody (mt 35 1), fscope (mt 35 1)) } := by
  apply Subtype.mk
  case property =>
    conv =>
      rhs
      (conv => pattern (fparams _); whnf)
      (conv => pattern (fbody _); whnf)
      (conv => pattern (fscope _); whnf)
noncomputable def P239 : Arguments := f239.1.1
noncomputable def B239 : List Stmt := f239.1.2.1
noncomputable def C239 : Scope := f239.1.2.2
noncomputable def f246 : { x : Arguments × List Stmt × Scope // x = (fparams (mt 35 2), fbody (mt 35 2), fscope (mt 35 2)) } := by
  apply Subtype.mk
  case property =>
    conv =>
      rhs
      (conv => pattern (fparams _); whnf)
      (conv => pattern (fbody _); whnf)
      (conv => pattern (fscope _); whnf)
noncomputable def P246 : Arguments := f246.1.1
noncomputable def B246 : List Stmt := f246.1.2.1
noncomputable def C246 : Scope := f246.1.2.2
noncomputable def f251 : { x : Arguments × List Stmt × Scope // x = (fparams (mt 35 3), fbody (mt 35 3), fscope (mt 35 3)) } := by
  apply Subtype.mk
  case property =>
    conv =>
      rhs
      (conv => pattern (fparams _); whnf)
      (conv => pattern (fbody _); whnf)
      (conv => pattern (fscope _); whnf)
noncomputable def P251 : Arguments := f251.1.1
noncomputable def B251 : List Stmt := f251.1.2.1
noncomputable def C251 : Scope := f251.1.2.2
noncomputable def f272 : { x : Arguments × List Stmt × Scope // x = (fparams (tp 36), fbody (tp 36), fscope (tp 36)) } := by
  apply Subtype.mk
  case property =>
    conv =>
      rhs
      (conv => pattern (fparams _); whnf)
      (conv => pattern (fbody _); whnf)
      (conv => pattern (fscope _); whnf)
noncomputable def P272 : Arguments := f272.1.1
noncomputable def B272 : List Stmt := f272.1.2.1
noncomputable def C272 : Scope := f272.1.2.2
noncomputable def f279 : { x : Arguments × List Stmt × Scope // x = (fparams (tp 38), fbody (tp 38), fscope (tp 38)) } := by
  apply Subtype.mk
  case property =>
    conv =>
      rhs
      (conv => pattern (fparams _); whnf)
      (conv => pattern (fbody _); whnf)
      (conv => pattern (fscope _); whnf)
noncomputable def P279 : Arguments := f279.1.1
noncomputable def B279 : List Stmt := f279.1.2.1
noncomputable def C279 : Scope := f279.1.2.2
noncomputable def f293 : { x : Arguments × List Stmt × Scope // x = (fparams (mt 39 0), fbody (mt 39 0), fscope (mt 39 0)) } := by
  apply Subtype.mk
  case property =>
    conv =>
      rhs
      (conv => pattern (fparams _); whnf)
      (conv => pattern (fbody _); whnf)
      (conv => pattern (fscope _); whnf)
noncomputable def P293 : Arguments := f293.1.1
noncomputable def B293 : List Stmt := f293.1.2.1
noncomputable def C293 : Scope := f293.1.2.2
noncomputable def f300 : { x : Arguments × List Stmt × Scope // x = (fparams (mt 39 1), fbody (mt 39 1), fscope (mt 39 1)) } := by
  apply Subtype.mk
  case property =>
    conv =>
      rhs
      (conv => pattern (fparams _); whnf)
      (conv => pattern (fbody _); whnf)
      (conv => pattern (fscope _); whnf)
noncomputable def P300 : Arguments := f300.1.1
noncomputable def B300 : List Stmt := f300.1.2.1
noncomputable def C300 : Scope := f300.1.2.2
noncomputable def f307 : { x : Arguments × List Stmt × Scope // x = (fparams (mt 39 2), fbody (mt 39 2), fscope (mt 39 2)) } := by
  apply Subtype.mk
  case property =>
    conv =>
      rhs
      (conv => pattern (fparams _); whnf)
      (conv => pattern (fbody _); whnf)
      (conv => pattern (fscope _); whnf)
noncomputable def P307 : Arguments := f307.1.1
noncomputable def B307 : List Stmt := f307.1.2.1
noncomputable def C307 : Scope := f307.1.2.2
noncomputable def f314 : { x : Arguments × List Stmt × Scope // x = (fparams (mt 39 3), fbody (mt 39 3), fscope (mt 39 3)) } := by
  apply Subtype.mk
  case property =>
    conv =>
      rhs
      (conv => pattern (fparams _); whnf)
      (conv => pattern (fbody _); whnf)
      (conv => pattern (fscope _); whnf)
noncomputable def P314 : Arguments := f314.1.1
noncomputable def B314 : List Stmt := f314.1.2.1
noncomputable def C314 : Scope := f314.1.2.2
noncomputable def f326 : { x : Arguments × List Stmt × Scope // x = (fparams (tp 41), fbody (tp 41), fscope (tp 41)) } := by
  apply Subtype.mk
  case property =>
    conv =>
      rhs
      (conv => pattern (fparams _); whnf)
      (conv => pattern (fbody _); whnf)
      (conv => pattern (fscope _); whnf)
noncomputable def P326 : Arguments := f326.1.1
noncomputable def B326 : List Stmt := f326.1.2.1
noncomputable def C326 : Scope := f326.1.2.2
noncomputable def f333 : { x : Arguments × List Stmt × Scope // x = (fparams (tp 42), fbody (tp 42), fscope (tp 42)) } := by
  apply Subtype.mk
  case property =>
    conv =>
      rhs
      (conv => pattern (fparams _); whnf)
      (conv => pattern (fbody _); whnf)
      (conv => pattern (fscope _); whnf)
noncomputable def P333 : Arguments := f333.1.1
noncomputable def B333 : List Stmt := f333.1.2.1
noncomputable def C333 : Scope := f333.1.2.2
noncomputable def f340 : { x : Arguments × List Stmt × Scope // x = (fparams (tp 43), fbody (tp 43), fscope (tp 43)) } := by
  apply Subtype.mk
  case property =>
    conv =>
      rhs
      (conv => pattern (fparams _); whnf)
      (conv => pattern (fbody _); whnf)
      (conv => pattern (fscope _); whnf)
noncomputable def P340 : Arguments := f340.1.1
noncomputable def B340 : List Stmt := f340.1.2.1
noncomputable def C340 : Scope := f340.1.2.2
noncomputable def f345 : { x : Arguments × List Stmt × Scope // x = (fparams (tp 44), fbody (tp 44), fscope (tp 44)) } := by
  apply Subtype.mk
  case property =>
    conv =>
      rhs
      (conv => pattern (fparams _); whnf)
      (conv => pattern (fbody _); whnf)
      (conv => pattern (fscope _); whnf)
noncomputable def P345 : Arguments := f345.1.1
noncomputable def B345 : List Stmt := f345.1.2.1
noncomputable def C345 : Scope := f345.1.2.2
set_option maxHeartbeats 4000000 in
noncomputable def K (P : Params) : Frag :=
  ⟨nat_lit 3, ⟨(.type "dict"), none, (.dict [en P (Str.ofString "__name__") 165 (.str (Str.ofString "law_nt0032_01") 659), en P (Str.ofString "__doc__") 166 .none, en P (Str.ofString "__package__") 167 .none, en P (Str.ofString "__loader__") 168 (.builtin "__main__.__loader__#opaque"), en P (Str.ofString "__spec__") 169 .none, en P (Str.ofString "__annotations__") 170 (.ref 6), en P (Str.ofString "__builtins__") 171 (.ref 4), en P (Str.ofString "__file__") 173 (.str (Str.ofString "/claim/cut.py") 172), en P (Str.ofString "__cached__") 174 .none, en P (Str.ofString "_wall") 193 (.ref 21), en P (Str.ofString "MAX_CODE") 197 (.int 1114111 196), en P (Str.ofString "UniError") 226 (.ref 39), en P (Str.ofString "BadTable") 242 (.ref 52), en P (Str.ofString "place_by_half") 253 (.ref 61), en P (Str.ofString "SYLLABLE_FIRST") 257 (.int 44032 256), en P (Str.ofString "LEAD_FIRST") 259 (.int 4352 258), en P (Str.ofString "VOWEL_FIRST") 261 (.int 4449 260), en P (Str.ofString "TAIL_NONE") 263 (.int 4519 262), en P (Str.ofString "LEADS") 265 (.int 19 264), en P (Str.ofString "VOWELS") 267 (.int 21 266), en P (Str.ofString "TAILS") 269 (.int 28 268), en P (Str.ofString "SYLLABLES") 272 (.int 11172 271), en P (Str.ofString "is_hangul_syllable") 279 (.ref 68), en P (Str.ofString "hangul_numbers") 287 (.ref 75), en P (Str.ofString "hangul_parts") 297 (.ref 82), en P (Str.ofString "hangul_pair") 307 (.ref 89), en P (Str.ofString "form_mapping") 320 (.ref 96), en P (Str.ofString "form_expanded") 335 (.ref 103), en P (Str.ofString "ordered") 347 (.ref 110), en P (Str.ofString "form_sorted") 353 (.ref 115), en P (Str.ofString "decomposed") 364 (.ref 123), en P (Str.ofString "primary_composites") 376 (.ref 130), en P (Str.ofString "form_is_primary") 385 (.ref 137), en P (Str.ofString "Composer") 436 (.ref 168), en P (Str.ofString "composed") 451 (.ref 180), en P (Str.ofString "form_of") 462 (.ref 188), en P (Str.ofString "form_quick") 473 (.ref 195), en P (Str.ofString "quick_check") 488 (.ref 203), en P (Str.ofString "is_form") 499 (.ref 211), en P (Str.ofString "range_are_like") 509 (.ref 218), en P (Str.ofString "RangeMap") 577 (.ref 261), en P (Str.ofString "range_rows") 589 (.ref 272), en P (Str.ofString "data_defaults") 599 (.ref 279), en P (Str.ofString "Data") 658 (.ref 317), en P (Str.ofString "_law_deck") 666 (.ref 326), en P (Str.ofString "_law_draw") 674 (.ref 333), en P (Str.ofString "_law_exchanged") 685 (.ref 340), en P (Str.ofString "law") 691 (.ref 345)].toArray 48), #[]⟩⟩ ::
  ⟨nat_lit 60, ⟨(.type "code"), none, (.fields #[(.str (Str.ofString "place_by_half") 243), (.str (Str.ofString "place_by_half") 244), (.str (Str.ofString "/claim/cut.py") 245), (.int 12 0), (.int 2 0), (.int 0 0), (.int 0 0), (.int 3 0), (.ref 55), (.bool true), (.int 181 0), (.ref 56), .none, (.ref 57), (.ref 58), (.ref 59), (.int 251 0), (.int 12 0), (.str (Str.ofString "/claim/cut.py") 252)]), #[]⟩⟩ ::
  ⟨nat_lit 61, ⟨(.type "function"), none, (fn P61 B61 C61 (Str.ofString "place_by_half") (Str.ofString "place_by_half") .none .none .none (.str (Str.ofString "unicore.base") 194) (.ref 60) .none), #[]⟩⟩ ::
  ⟨nat_lit 67, ⟨(.type "code"), none, (.fields #[(.str (Str.ofString "is_hangul_syllable") 273), (.str (Str.ofString "is_hangul_syllable") 274), (.str (Str.ofString "/claim/cut.py") 275), (.int 31 0), (.int 1 0), (.int 0 0), (.int 0 0), (.int 3 0), (.ref 62), (.bool true), (.int 181 0), (.ref 63), .none, (.ref 64), (.ref 65), (.ref 66), (.int 277 0), (.int 31 0), (.str (Str.ofString "/claim/cut.py") 278)]), #[]⟩⟩ ::
  ⟨nat_lit 68, ⟨(.type "function"), none, (fn P68 B68 C68 (Str.ofString "is_hangul_syllable") (Str.ofString "is_hangul_syllable") .none .none .none (.str (Str.ofString "unicore.hangul") 254) (.ref 67) .none), #[]⟩⟩ ::
  ⟨nat_lit 81, ⟨(.type "code"), none, (.fields #[(.str (Str.ofString "hangul_parts") 288), (.str (Str.ofString "hangul_parts") 289), (.str (Str.ofString "/claim/cut.py") 290), (.int 36 0), (.int 1 0), (.int 0 0), (.int 0 0), (.int 3 0), (.ref 76), (.bool true), (.int 181 0), (.ref 77), .none, (.ref 78), (.ref 79), (.ref 80), (.int 295 0), (.int 36 0), (.str (Str.ofString "/claim/cut.py") 296)]), #[]⟩⟩ ::
  ⟨nat_lit 82, ⟨(.type "function"), none, (fn P82 B82 C82 (Str.ofString "hangul_parts") (Str.ofString "hangul_parts") .none .none .none (.str (Str.ofString "unicore.hangul") 254) (.ref 81) .none), #[]⟩⟩ ::
  ⟨nat_lit 95, ⟨(.type "code"), none, (.fields #[(.str (Str.ofString "form_mapping") 310), (.str (Str.ofString "form_mapping") 311), (.str (Str.ofString "/claim/cut.py") 312), (.int 52 0), (.int 3 0), (.int 0 0), (.int 0 0), (.int 3 0), (.ref 90), (.bool true), (.int 181 0), (.ref 91), .none, (.ref 92), (.ref 93), (.ref 94), (.int 318 0), (.int 52 0), (.str (Str.ofString "/claim/cut.py") 319)]), #[]⟩⟩ ::
  ⟨nat_lit 96, ⟨(.type "function"), none, (fn P96 B96 C96 (Str.ofString "form_mapping") (Str.ofString "form_mapping") .none .none .none (.str (Str.ofString "unicore.forms") 308) (.ref 95) .none), #[]⟩⟩ ::
  ⟨nat_lit 102, ⟨(.type "code"), none, (.fields #[(.str (Str.ofString "form_expanded") 321), (.str (Str.ofString "form_expanded") 322), (.str (Str.ofString "/claim/cut.py") 323), (.int 60 0), (.int 3 0), (.int 0 0), (.int 0 0), (.int 3 0), (.ref 97), (.bool true), (.int 181 0), (.ref 98), .none, (.ref 99), (.ref 100), (.ref 101), (.int 333 0), (.int 60 0), (.str (Str.ofString "/claim/cut.py") 334)]), #[]⟩⟩ ::
  ⟨nat_lit 103, ⟨(.type "function"), none, (fn P103 B103 C103 (Str.ofString "form_expanded") (Str.ofString "form_expanded") .none .none .none (.str (Str.ofString "unicore.forms") 308) (.ref 102) .none), #[]⟩⟩ ::
  ⟨nat_lit 109, ⟨(.type "code"), none, (.fields #[(.str (Str.ofString "ordered") 336), (.str (Str.ofString "ordered") 337), (.str (Str.ofString "/claim/cut.py") 338), (.int 79 0), (.int 2 0), (.int 0 0), (.int 0 0), (.int 3 0), (.ref 104), (.bool true), (.int 181 0), (.ref 105), .none, (.ref 106), (.ref 107), (.ref 108), (.int 345 0), (.int 79 0), (.str (Str.ofString "/claim/cut.py") 346)]), #[]⟩⟩ ::
  ⟨nat_lit 110, ⟨(.type "function"), none, (fn P110 B110 C110 (Str.ofString "ordered") (Str.ofString "ordered") .none .none .none (.str (Str.ofString "unicore.forms") 308) (.ref 109) .none), #[]⟩⟩ ::
  ⟨nat_lit 114, ⟨(.type "code"), none, (.fields #[(.str (Str.ofString "form_sorted") 348), (.str (Str.ofString "form_sorted") 349), (.str (Str.ofString "/claim/cut.py") 350), (.int 91 0), (.int 1 0), (.int 0 0), (.int 0 0), (.int 3 0), (.ref 111), (.bool true), (.int 181 0), (.ref 112), .none, .none, .none, (.ref 113), (.int 351 0), (.int 91 0), (.str (Str.ofString "/claim/cut.py") 352)]), #[]⟩⟩ ::
  ⟨nat_lit 115, ⟨(.type "function"), none, (fn P115 B115 C115 (Str.ofString "form_sorted") (Str.ofString "form_sorted") .none .none .none (.str (Str.ofString "unicore.forms") 308) (.ref 114) .none), #[]⟩⟩ ::
  ⟨nat_lit 116, ⟨(.type "tuple"), none, (.seq #[(.bool false)] 0), #[]⟩⟩ ::
  ⟨nat_lit 122, ⟨(.type "code"), none, (.fields #[(.str (Str.ofString "decomposed") 354), (.str (Str.ofString "decomposed") 355), (.str (Str.ofString "/claim/cut.py") 356), (.int 93 0), (.int 3 0), (.int 0 0), (.int 0 0), (.int 3 0), (.ref 117), (.bool true), (.int 181 0), (.ref 118), .none, (.ref 119), (.ref 120), (.ref 121), (.int 362 0), (.int 93 0), (.str (Str.ofString "/claim/cut.py") 363)]), #[]⟩⟩ ::
  ⟨nat_lit 123, ⟨(.type "function"), none, (fn P123 B123 C123 (Str.ofString "decomposed") (Str.ofString "decomposed") (.ref 116) .none .none (.str (Str.ofString "unicore.forms") 308) (.ref 122) .none), #[]⟩⟩ ::
  ⟨nat_lit 129, ⟨(.type "code"), none, (.fields #[(.str (Str.ofString "primary_composites") 365), (.str (Str.ofString "primary_composites") 366), (.str (Str.ofString "/claim/cut.py") 367), (.int 98 0), (.int 1 0), (.int 0 0), (.int 0 0), (.int 3 0), (.ref 124), (.bool true), (.int 181 0), (.ref 125), .none, (.ref 126), (.ref 127), (.ref 128), (.int 374 0), (.int 98 0), (.str (Str.ofString "/claim/cut.py") 375)]), #[]⟩⟩ ::
  ⟨nat_lit 130, ⟨(.type "function"), none, (fn P130 B130 C130 (Str.ofString "primary_composites") (Str.ofString "primary_composites") .none .none .none (.str (Str.ofString "unicore.forms") 308) (.ref 129) .none), #[]⟩⟩ ::
  ⟨nat_lit 150, ⟨(.type "code"), none, (.fields #[(.str (Str.ofString "__init__") 398), (.str (Str.ofString "Composer.__init__") 399), (.str (Str.ofString "/claim/cut.py") 400), (.int 113 0), (.int 2 0), (.int 0 0), (.int 0 0), (.int 3 0), (.ref 145), (.bool true), (.int 181 0), (.ref 146), .none, (.ref 147), (.ref 148), (.ref 149), (.int 405 0), (.int 113 0), (.str (Str.ofString "/claim/cut.py") 406)]), #[]⟩⟩ ::
  ⟨nat_lit 151, ⟨(.type "function"), none, (fn P151 B151 C151 (Str.ofString "__init__") (Str.ofString "Composer.__init__") .none .none .none (.str (Str.ofString "unicore.forms") 308) (.ref 150) .none), #[]⟩⟩ ::
  ⟨nat_lit 167, ⟨(.type "dict"), none, (.dict [en P (Str.ofString "__module__") 393 (.str (Str.ofString "unicore.forms") 308), en P (Str.ofString "__firstlineno__") 397 (.int 111 396), en P (Str.ofString "__init__") 407 (.ref 151), en P (Str.ofString "pair") 417 (.ref 158), en P (Str.ofString "is_second") 426 (.ref 165), en P (Str.ofString "__static_attributes__") 429 (.ref 166), en P (Str.ofString "__dict__") 431 (.ref 169), en P (Str.ofString "__weakref__") 433 (.ref 170), en P (Str.ofString "__doc__") 434 .none].toArray 4), #[]⟩⟩ ::
  ⟨nat_lit 168, ⟨(.type "type"), none, (.cls ⟨(Str.ofString "Composer"), [(.type "object")], [(.ref 168), (.type "object")], 167, (Str.ofString "Composer"), true, [], [], false, none, false⟩), #[none, none, (some (.str (Str.ofString "Composer") 386)), (some (.str (Str.ofString "Composer") 394)), (some (.builtin "object.__new__")), (some (.bool true))]⟩⟩ ::
  ⟨nat_lit 181, ⟨(.type "tuple"), none, (.seq #[.none] 0), #[]⟩⟩ ::
  ⟨nat_lit 187, ⟨(.type "code"), none, (.fields #[(.str (Str.ofString "form_of") 452), (.str (Str.ofString "form_of") 453), (.str (Str.ofString "/claim/cut.py") 454), (.int 142 0), (.int 4 0), (.int 0 0), (.int 0 0), (.int 3 0), (.ref 182), (.bool true), (.int 181 0), (.ref 183), .none, (.ref 184), (.ref 185), (.ref 186), (.int 460 0), (.int 142 0), (.str (Str.ofString "/claim/cut.py") 461)]), #[]⟩⟩ ::
  ⟨nat_lit 188, ⟨(.type "function"), none, (fn P188 B188 C188 (Str.ofString "form_of") (Str.ofString "form_of") (.ref 181) .none .none (.str (Str.ofString "unicore.forms") 308) (.ref 187) .none), #[]⟩⟩ ::
  ⟨nat_lit 194, ⟨(.type "code"), none, (.fields #[(.str (Str.ofString "form_quick") 463), (.str (Str.ofString "form_quick") 464), (.str (Str.ofString "/claim/cut.py") 465), (.int 145 0), (.int 4 0), (.int 0 0), (.int 0 0), (.int 3 0), (.ref 189), (.bool true), (.int 181 0), (.ref 190), .none, (.ref 191), (.ref 192), (.ref 193), (.int 471 0), (.int 145 0), (.str (Str.ofString "/claim/cut.py") 472)]), #[]⟩⟩ ::
  ⟨nat_lit 195, ⟨(.type "function"), none, (fn P195 B195 C195 (Str.ofString "form_quick") (Str.ofString "form_quick") .none .none .none (.str (Str.ofString "unicore.forms") 308) (.ref 194) .none), #[]⟩⟩ ::
  ⟨nat_lit 196, ⟨(.type "tuple"), none, (.seq #[.none] 0), #[]⟩⟩ ::
  ⟨nat_lit 202, ⟨(.type "code"), none, (.fields #[(.str (Str.ofString "quick_check") 474), (.str (Str.ofString "quick_check") 475), (.str (Str.ofString "/claim/cut.py") 476), (.int 152 0), (.int 4 0), (.int 0 0), (.int 0 0), (.int 3 0), (.ref 197), (.bool true), (.int 181 0), (.ref 198), .none, (.ref 199), (.ref 200), (.ref 201), (.int 486 0), (.int 152 0), (.str (Str.ofString "/claim/cut.py") 487)]), #[]⟩⟩ ::
  ⟨nat_lit 203, ⟨(.type "function"), none, (fn P203 B203 C203 (Str.ofString "quick_check") (Str.ofString "quick_check") (.ref 196) .none .none (.str (Str.ofString "unicore.forms") 308) (.ref 202) .none), #[]⟩⟩ ::
  ⟨nat_lit 204, ⟨(.type "tuple"), none, (.seq #[.none] 0), #[]⟩⟩ ::
  ⟨nat_lit 210, ⟨(.type "code"), none, (.fields #[(.str (Str.ofString "is_form") 489), (.str (Str.ofString "is_form") 490), (.str (Str.ofString "/claim/cut.py") 491), (.int 164 0), (.int 4 0), (.int 0 0), (.int 0 0), (.int 3 0), (.ref 205), (.bool true), (.int 181 0), (.ref 206), .none, (.ref 207), (.ref 208), (.ref 209), (.int 497 0), (.int 164 0), (.str (Str.ofString "/claim/cut.py") 498)]), #[]⟩⟩ ::
  ⟨nat_lit 211, ⟨(.type "function"), none, (fn P211 B211 C211 (Str.ofString "is_form") (Str.ofString "is_form") (.ref 204) .none .none (.str (Str.ofString "unicore.forms") 308) (.ref 210) .none), #[]⟩⟩ ::
  ⟨nat_lit 217, ⟨(.type "code"), none, (.fields #[(.str (Str.ofString "range_are_like") 502), (.str (Str.ofString "range_are_like") 503), (.str (Str.ofString "/claim/cut.py") 504), (.int 169 0), (.int 2 0), (.int 0 0), (.int 0 0), (.int 3 0), (.ref 212), (.bool true), (.int 181 0), (.ref 213), .none, (.ref 214), (.ref 215), (.ref 216), (.int 507 0), (.int 169 0), (.str (Str.ofString "/claim/cut.py") 508)]), #[]⟩⟩ ::
  ⟨nat_lit 218, ⟨(.type "function"), none, (fn P218 B218 C218 (Str.ofString "range_are_like") (Str.ofString "range_are_like") .none .none .none (.str (Str.ofString "unicore.ranges") 500) (.ref 217) .none), #[]⟩⟩ ::
  ⟨nat_lit 231, ⟨(.type "code"), none, (.fields #[(.str (Str.ofString "__init__") 522), (.str (Str.ofString "RangeMap.__init__") 523), (.str (Str.ofString "/claim/cut.py") 524), (.int 173 0), (.int 2 0), (.int 0 0), (.int 0 0), (.int 3 0), (.ref 226), (.bool true), (.int 181 0), (.ref 227), .none, (.ref 228), (.ref 229), (.ref 230), (.int 527 0), (.int 173 0), (.str (Str.ofString "/claim/cut.py") 528)]), #[]⟩⟩ ::
  ⟨nat_lit 232, ⟨(.type "function"), none, (fn P232 B232 C232 (Str.ofString "__init__") (Str.ofString "RangeMap.__init__") .none .none .none (.str (Str.ofString "unicore.ranges") 500) (.ref 231) .none), #[]⟩⟩ ::
  ⟨nat_lit 238, ⟨(.type "code"), none, (.fields #[(.str (Str.ofString "get") 530), (.str (Str.ofString "RangeMap.get") 531), (.str (Str.ofString "/claim/cut.py") 532), (.int 178 0), (.int 2 0), (.int 0 0), (.int 0 0), (.int 3 0), (.ref 233), (.bool true), (.int 181 0), (.ref 234), .none, (.ref 235), (.ref 236), (.ref 237), (.int 535 0), (.int 178 0), (.str (Str.ofString "/claim/cut.py") 536)]), #[]⟩⟩ ::
  ⟨nat_lit 239, ⟨(.type "function"), none, (fn P239 B239 C239 (Str.ofString "get") (Str.ofString "RangeMap.get") .none .none .none (.str (Str.ofString "unicore.ranges") 500) (.ref 238) .none), #[]⟩⟩ ::
  ⟨nat_lit 245, ⟨(.type "code"), none, (.fields #[(.str (Str.ofString "put") 538), (.str (Str.ofString "RangeMap.put") 539), (.str (Str.ofString "/claim/cut.py") 540), (.int 181 0), (.int 4 0), (.int 0 0), (.int 0 0), (.int 3 0), (.ref 240), (.bool true), (.int 181 0), (.ref 241), .none, (.ref 242), (.ref 243), (.ref 244), (.int 550 0), (.int 181 0), (.str (Str.ofString "/claim/cut.py") 551)]), #[]⟩⟩ ::
  ⟨nat_lit 246, ⟨(.type "function"), none, (fn P246 B246 C246 (Str.ofString "put") (Str.ofString "RangeMap.put") .none .none .none (.str (Str.ofString "unicore.ranges") 500) (.ref 245) .none), #[]⟩⟩ ::
  ⟨nat_lit 250, ⟨(.type "code"), none, (.fields #[(.str (Str.ofString "ranges") 553), (.str (Str.ofString "RangeMap.ranges") 554), (.str (Str.ofString "/claim/cut.py") 555), (.int 196 0), (.int 1 0), (.int 0 0), (.int 0 0), (.int 3 0), (.ref 247), (.bool true), (.int 181 0), (.ref 248), .none, .none, .none, (.ref 249), (.int 556 0), (.int 196 0), (.str (Str.ofString "/claim/cut.py") 557)]), #[]⟩⟩ ::
  ⟨nat_lit 251, ⟨(.type "function"), none, (fn P251 B251 C251 (Str.ofString "ranges") (Str.ofString "RangeMap.ranges") .none .none .none (.str (Str.ofString "unicore.ranges") 500) (.ref 250) .none), #[]⟩⟩ ::
  ⟨nat_lit 260, ⟨(.type "dict"), none, (.dict [en P (Str.ofString "__module__") 517 (.str (Str.ofString "unicore.ranges") 500), en P (Str.ofString "__firstlineno__") 521 (.int 171 520), en P (Str.ofString "__init__") 529 (.ref 232), en P (Str.ofString "get") 537 (.ref 239), en P (Str.ofString "put") 552 (.ref 246), en P (Str.ofString "ranges") 558 (.ref 251), en P (Str.ofString "set_of") 566 (.ref 258), en P (Str.ofString "__static_attributes__") 570 (.ref 259), en P (Str.ofString "__dict__") 572 (.ref 262), en P (Str.ofString "__weakref__") 574 (.ref 263), en P (Str.ofString "__doc__") 575 .none].toArray 4), #[]⟩⟩ ::
  ⟨nat_lit 261, ⟨(.type "type"), none, (.cls ⟨(Str.ofString "RangeMap"), [(.type "object")], [(.ref 261), (.type "object")], 260, (Str.ofString "RangeMap"), true, [], [], false, none, false⟩), #[none, none, (some (.str (Str.ofString "RangeMap") 510)), (some (.str (Str.ofString "RangeMap") 518)), (some (.builtin "object.__new__")), (some (.bool true))]⟩⟩ ::
  ⟨nat_lit 271, ⟨(.type "code"), none, (.fields #[(.str (Str.ofString "range_rows") 578), (.str (Str.ofString "range_rows") 579), (.str (Str.ofString "/claim/cut.py") 580), (.int 201 0), (.int 1 0), (.int 0 0), (.int 0 0), (.int 3 0), (.ref 266), (.bool true), (.int 181 0), (.ref 267), .none, (.ref 268), (.ref 269), (.ref 270), (.int 587 0), (.int 201 0), (.str (Str.ofString "/claim/cut.py") 588)]), #[]⟩⟩ ::
  ⟨nat_lit 272, ⟨(.type "function"), none, (fn P272 B272 C272 (Str.ofString "range_rows") (Str.ofString "range_rows") .none .none .none (.str (Str.ofString "unicore.ranges") 500) (.ref 271) .none), #[]⟩⟩ ::
  ⟨nat_lit 278, ⟨(.type "code"), none, (.fields #[(.str (Str.ofString "data_defaults") 592), (.str (Str.ofString "data_defaults") 593), (.str (Str.ofString "/claim/cut.py") 594), (.int 208 0), (.int 0 0), (.int 0 0), (.int 0 0), (.int 3 0), (.ref 273), (.bool true), (.int 181 0), (.ref 274), .none, (.ref 275), (.ref 276), (.ref 277), (.int 597 0), (.int 208 0), (.str (Str.ofString "/claim/cut.py") 598)]), #[]⟩⟩ ::
  ⟨nat_lit 279, ⟨(.type "function"), none, (fn P279 B279 C279 (Str.ofString "data_defaults") (Str.ofString "data_defaults") .none .none .none (.str (Str.ofString "unicore.data") 590) (.ref 278) .none), #[]⟩⟩ ::
  ⟨nat_lit 292, ⟨(.type "code"), none, (.fields #[(.str (Str.ofString "__init__") 612), (.str (Str.ofString "Data.__init__") 613), (.str (Str.ofString "/claim/cut.py") 614), (.int 222 0), (.int 1 0), (.int 0 0), (.int 0 0), (.int 3 0), (.ref 287), (.bool true), (.int 181 0), (.ref 288), .none, (.ref 289), (.ref 290), (.ref 291), (.int 616 0), (.int 222 0), (.str (Str.ofString "/claim/cut.py") 617)]), #[]⟩⟩ ::
  ⟨nat_lit 293, ⟨(.type "function"), none, (fn P293 B293 C293 (Str.ofString "__init__") (Str.ofString "Data.__init__") .none .none .none (.str (Str.ofString "unicore.data") 590) (.ref 292) .none), #[]⟩⟩ ::
  ⟨nat_lit 299, ⟨(.type "code"), none, (.fields #[(.str (Str.ofString "put") 619), (.str (Str.ofString "Data.put") 620), (.str (Str.ofString "/claim/cut.py") 621), (.int 228 0), (.int 5 0), (.int 0 0), (.int 0 0), (.int 3 0), (.ref 294), (.bool true), (.int 181 0), (.ref 295), .none, (.ref 296), (.ref 297), (.ref 298), (.int 627 0), (.int 228 0), (.str (Str.ofString "/claim/cut.py") 628)]), #[]⟩⟩ ::
  ⟨nat_lit 300, ⟨(.type "function"), none, (fn P300 B300 C300 (Str.ofString "put") (Str.ofString "Data.put") .none .none .none (.str (Str.ofString "unicore.data") 590) (.ref 299) .none), #[]⟩⟩ ::
  ⟨nat_lit 306, ⟨(.type "code"), none, (.fields #[(.str (Str.ofString "get") 630), (.str (Str.ofString "Data.get") 631), (.str (Str.ofString "/claim/cut.py") 632), (.int 231 0), (.int 3 0), (.int 0 0), (.int 0 0), (.int 3 0), (.ref 301), (.bool true), (.int 181 0), (.ref 302), .none, (.ref 303), (.ref 304), (.ref 305), (.int 636 0), (.int 231 0), (.str (Str.ofString "/claim/cut.py") 637)]), #[]⟩⟩ ::
  ⟨nat_lit 307, ⟨(.type "function"), none, (fn P307 B307 C307 (Str.ofString "get") (Str.ofString "Data.get") .none .none .none (.str (Str.ofString "unicore.data") 590) (.ref 306) .none), #[]⟩⟩ ::
  ⟨nat_lit 313, ⟨(.type "code"), none, (.fields #[(.str (Str.ofString "map_of") 639), (.str (Str.ofString "Data.map_of") 640), (.str (Str.ofString "/claim/cut.py") 641), (.int 236 0), (.int 2 0), (.int 0 0), (.int 0 0), (.int 3 0), (.ref 308), (.bool true), (.int 181 0), (.ref 309), .none, (.ref 310), (.ref 311), (.ref 312), (.int 644 0), (.int 236 0), (.str (Str.ofString "/claim/cut.py") 645)]), #[]⟩⟩ ::
  ⟨nat_lit 314, ⟨(.type "function"), none, (fn P314 B314 C314 (Str.ofString "map_of") (Str.ofString "Data.map_of") .none .none .none (.str (Str.ofString "unicore.data") 590) (.ref 313) .none), #[]⟩⟩ ::
  ⟨nat_lit 316, ⟨(.type "dict"), none, (.dict [en P (Str.ofString "__module__") 607 (.str (Str.ofString "unicore.data") 590), en P (Str.ofString "__firstlineno__") 611 (.int 220 610), en P (Str.ofString "__init__") 618 (.ref 293), en P (Str.ofString "put") 629 (.ref 300), en P (Str.ofString "get") 638 (.ref 307), en P (Str.ofString "map_of") 646 (.ref 314), en P (Str.ofString "__static_attributes__") 651 (.ref 315), en P (Str.ofString "__dict__") 653 (.ref 318), en P (Str.ofString "__weakref__") 655 (.ref 319), en P (Str.ofString "__doc__") 656 .none].toArray 4), #[]⟩⟩ ::
  ⟨nat_lit 317, ⟨(.type "type"), none, (.cls ⟨(Str.ofString "Data"), [(.type "object")], [(.ref 317), (.type "object")], 316, (Str.ofString "Data"), true, [], [], false, none, false⟩), #[none, none, (some (.str (Str.ofString "Data") 600)), (some (.str (Str.ofString "Data") 608)), (some (.builtin "object.__new__")), (some (.bool true))]⟩⟩ ::
  ⟨nat_lit 325, ⟨(.type "code"), none, (.fields #[(.str (Str.ofString "_law_deck") 661), (.str (Str.ofString "_law_deck") 662), (.str (Str.ofString "/claim/cut.py") 663), (.int 241 0), (.int 1 0), (.int 0 0), (.int 0 0), (.int 3 0), (.ref 322), (.bool true), (.int 181 0), (.ref 323), .none, .none, .none, (.ref 324), (.int 664 0), (.int 241 0), (.str (Str.ofString "/claim/cut.py") 665)]), #[]⟩⟩ ::
  ⟨nat_lit 326, ⟨(.type "function"), none, (fn P326 B326 C326 (Str.ofString "_law_deck") (Str.ofString "_law_deck") .none .none .none (.str (Str.ofString "law_nt0032_01") 659) (.ref 325) .none), #[]⟩⟩ ::
  ⟨nat_lit 332, ⟨(.type "code"), none, (.fields #[(.str (Str.ofString "_law_draw") 667), (.str (Str.ofString "_law_draw") 668), (.str (Str.ofString "/claim/cut.py") 669), (.int 246 0), (.int 2 0), (.int 0 0), (.int 0 0), (.int 3 0), (.ref 327), (.bool true), (.int 181 0), (.ref 328), .none, (.ref 329), (.ref 330), (.ref 331), (.int 672 0), (.int 246 0), (.str (Str.ofString "/claim/cut.py") 673)]), #[]⟩⟩ ::
  ⟨nat_lit 333, ⟨(.type "function"), none, (fn P333 B333 C333 (Str.ofString "_law_draw") (Str.ofString "_law_draw") .none .none .none (.str (Str.ofString "law_nt0032_01") 659) (.ref 332) .none), #[]⟩⟩ ::
  ⟨nat_lit 339, ⟨(.type "code"), none, (.fields #[(.str (Str.ofString "_law_exchanged") 675), (.str (Str.ofString "_law_exchanged") 676), (.str (Str.ofString "/claim/cut.py") 677), (.int 251 0), (.int 2 0), (.int 0 0), (.int 0 0), (.int 3 0), (.ref 334), (.bool true), (.int 181 0), (.ref 335), .none, (.ref 336), (.ref 337), (.ref 338), (.int 683 0), (.int 251 0), (.str (Str.ofString "/claim/cut.py") 684)]), #[]⟩⟩ ::
  ⟨nat_lit 340, ⟨(.type "function"), none, (fn P340 B340 C340 (Str.ofString "_law_exchanged") (Str.ofString "_law_exchanged") .none .none .none (.str (Str.ofString "law_nt0032_01") 659) (.ref 339) .none), #[]⟩⟩ ::
  ⟨nat_lit 344, ⟨(.type "code"), none, (.fields #[(.str (Str.ofString "law") 686), (.str (Str.ofString "law") 687), (.str (Str.ofString "/claim/cut.py") 688), (.int 259 0), (.int 1 0), (.int 0 0), (.int 0 0), (.int 3 0), (.ref 341), (.bool true), (.int 181 0), (.ref 342), .none, .none, .none, (.ref 343), (.int 689 0), (.int 259 0), (.str (Str.ofString "/claim/cut.py") 690)]), #[]⟩⟩ ::
  ⟨nat_lit 345, ⟨(.type "function"), none, (fn P345 B345 C345 (Str.ofString "law") (Str.ofString "law") .none .none .none (.str (Str.ofString "law_nt0032_01") 659) (.ref 344) .none), #[]⟩⟩ :: []
def Kas : List Nat := nat_lit 3 :: nat_lit 60 :: nat_lit 61 :: nat_lit 67 :: nat_lit 68 :: nat_lit 81 :: nat_lit 82 :: nat_lit 95 :: nat_lit 96 :: nat_lit 102 :: nat_lit 103 :: nat_lit 109 :: nat_lit 110 :: nat_lit 114 :: nat_lit 115 :: nat_lit 116 :: nat_lit 122 :: nat_lit 123 :: nat_lit 129 :: nat_lit 130 :: nat_lit 150 :: nat_lit 151 :: nat_lit 167 :: nat_lit 168 :: nat_lit 181 :: nat_lit 187 :: nat_lit 188 :: nat_lit 194 :: nat_lit 195 :: nat_lit 196 :: nat_lit 202 :: nat_lit 203 :: nat_lit 204 :: nat_lit 210 :: nat_lit 211 :: nat_lit 217 :: nat_lit 218 :: nat_lit 231 :: nat_lit 232 :: nat_lit 238 :: nat_lit 239 :: nat_lit 245 :: nat_lit 246 :: nat_lit 250 :: nat_lit 251 :: nat_lit 260 :: nat_lit 261 :: nat_lit 271 :: nat_lit 272 :: nat_lit 278 :: nat_lit 279 :: nat_lit 292 :: nat_lit 293 :: nat_lit 299 :: nat_lit 300 :: nat_lit 306 :: nat_lit 307 :: nat_lit 313 :: nat_lit 314 :: nat_lit 316 :: nat_lit 317 :: nat_lit 325 :: nat_lit 326 :: nat_lit 332 :: nat_lit 333 :: nat_lit 339 :: nat_lit 340 :: nat_lit 344 :: nat_lit 345 :: []
end
end Mine
end
section
open PySem PySem.W PyProof.Rows
namespace Mine
section
def keep : List Nat := [0, 2, 3, 4, 5, 7, 8, 9, 10, 11, 12, 13, 14, 15, 16, 17, 18, 20, 21, 22, 23, 25, 26, 27, 30, 34, 35, 36, 38, 39, 41, 42, 43, 44]
noncomputable def vq : Program := view PySem.Challenge.pw_nt0032_01 keep
def lo : List Str := [Str.ofString "UniError", Str.ofString "SYLLABLES", Str.ofString "decomposed", Str.ofString "composed", Str.ofString "form_of", Str.ofString "quick_check", Str.ofString "is_form"]
def lv : List (Str × WData) := [(Str.ofString "SYLLABLES", WData.int 11172)]
theorem Kas_eq (P : Params) : Kas = (K P).map (·.1) := by kernel_rfl
noncomputable abbrev H : Hook := kmHook K Kas Kas_eq [112]
theorem left0 : LeftO PySem.Challenge.pw_nt0032_01 vq lo (fun s => xlAt vq lv s && recOk [] s) (Hook.obs H) (Hook.val H) 4852 := by
  intro w
  delta openEnds fencedOpening topFrom
  rw [PySem.W.Fast.te10274390034422433532, PySem.W.Fast.te14289696077712309145, PySem.W.Fast.te14364793385576792824, PySem.W.Fast.te14082659384304107361, PySem.W.Fast.te4187177175401517315, PySem.W.Fast.te1435165496053646825]
  kernel_rfl
end
end Mine
end
section
open PySem PySem.W PyProof.Rows PySem.Calls
namespace Mine
section
set_option maxHeartbeats 4000000
abbrev md (w : World) : Model := model PySem.Challenge.rw_nt0032_01.row.prog w
abbrev Led := List (Addr × Obj)
abbrev Mp := Str → Option Value
theorem reg (w : World) : (model PySem.Challenge.rw_nt0032_01.row.prog w = model PySem.Challenge.rw_nt0032_01.row.prog w) ∧ K w.params = K w.params := by
  k_fill
  exact ⟨rfl, rfl⟩
/-- the map m with the names of l written over it -/
def ov (l : List (Str × Value)) (m : Mp) : Mp := fun y => match l.lookup y with
  | some v => some v
  | none => m y
def Knows : List (Str × Value) → Mp → Prop
  | [], _ => True
  | p :: r, m => m p.1 = some p.2 ∧ Knows r m
theorem Knows.ov {l : List (Str × Value)} {m : Mp} (h : Knows l m) : m = ov l m := by
  funext y
  induction l with
  | nil => rfl
  | cons p r ih =>
    have := ih h.2
    unfold Mine.ov at this ⊢
    rw [List.lookup_cons]
    by_cases e : (y == p.1) = true
    · rw [e]
      have e' : y = p.1 := by simpa using e
      rw [e']
      exact h.1
    · have e2 : (y == p.1) = false := by simpa using e
      rw [e2]
      exact this
theorem WhlIf.dec {p : Prop} [Decidable p] {T F : Prop} (ht : p → T) (hf : ¬ p → F) : WhlIf (decide p) T F := by
  by_cases h : p
  · exact WhlIf.yes (decide_eq_true h) (ht h)
  · exact WhlIf.no (decide_eq_false h) (hf h)
/-- what stands around a call -/
structure Cx (w : World) (p : Program) (loose : List Str) (mean : ExcName → Option Value) (mg mb : Mp) (outer : List Env) (A₀ : Around) (base h₀ : Heap) (L : Addr) (m : Mp) (news : Led) (s : Shared) (cs : Scope) (dp un d u : Nat) : Prop where
  B : Below A₀ base outer h₀
  F : Fr h₀ L s.heap m
  X : (K w.params).In h₀
  N : News h₀ L s.heap news
  T : Top p loose mean mg mb h₀
  hk : cs.kind = .function
  hd : dp + d < recursionLimit
  hu : un + u < cLine
/-- the goal's end as a letter -/
theorem wp_gen {α : Type} {M : Model} {A : Around} {t : Sem α} {Q : α → Shared → Prop} {E : Value → Shared → Prop} {s : Shared} (H : ∀ Q' : α → Shared → Prop, (∀ f s', Q f s' → Q' f s') → wpAny M A t Q' E s) : wpAny M A t Q E s := H Q fun _ _ h => h
theorem wp_gen2 {α β : Type} {M : Model} {A : Around} {t : Sem α} {c : Sem β} {Q : β → Shared → Prop} {E E' : Value → Shared → Prop} {s : Shared} (H : ∀ Q' : β → Shared → Prop, (∀ f s', Q f s' → Q' f s') → wpAny M A t (fun _ s₂ => wpAny M A c Q' E s₂) E' s) : wpAny M A t (fun _ s₂ => wpAny M A c Q E s₂) E' s := H Q fun _ _ h => h
/-- the end of a def's body -/
def RetAt (g : Heap) (L : Addr) (s : Shared) (Post : Value → Led → Prop) (fl : Flow) (s' : Shared) : Prop :=
  ∃ v h' tk m' news', (match fl with | .ret v => v | _ => .none) = v ∧ s' = { s with heap := h', toks := tk } ∧ Fr g L h' m' ∧ News g L h' news' ∧ Post v news'
theorem RetAt.ret {g : Heap} {L : Addr} {s : Shared} {Post : Value → Led → Prop} {v : Value} {h' : Heap} {tk : Nat} {m' : Mp} {news' : Led} (F : Fr g L h' m') (N : News g L h' news') (h : Post v news') :
    RetAt g L s Post (.ret v) { s with heap := h', toks := tk } := ⟨v, h', tk, m', news', rfl, rfl, F, N, h⟩
theorem RetAt.next {g : Heap} {L : Addr} {s : Shared} {Post : Value → Led → Prop} {h' : Heap} {tk : Nat} {m' : Mp} {news' : Led} (F : Fr g L h' m') (N : News g L h' news') (h : Post .none news') :
    RetAt g L s Post .next { s with heap := h', toks := tk } := ⟨.none, h', tk, m', news', rfl, rfl, F, N, h⟩
section
variable {w : World} {p : Program} {loose : List Str} {mean : ExcName → Option Value} {mg mb : Mp} {dp un d u : Nat} {gd : Option (List Code)} {cn : Str} {cs : Scope} {a : Addr} {ccd : Value} {cl : List (Str × Addr)} {outer : List Env} {A₀ : Around} {base h₀ : Heap} {L : Addr} {m : Mp} {news : Led} {s : Shared} {Q : Value → Shared → Prop}
  {name qual : Str} {params : Arguments} {body : List Stmt} {scope : Scope} {dV kV doc pm cdv ct oc : Value} {an od : Option Addr} {osl : Array (Option Value)} {f : Addr} {args : Args}
/-- a call of a def of the text, its frame laid -/
theorem enter (binds : List (Str × Value)) (Post : Value → Led → Prop) (c : Cx w p loose mean mg mb outer A₀ base h₀ L m news s cs dp un d u)
    (ho : (K w.params).lookup f = some ⟨oc, od, .func (fnOf name qual params body scope dV kV doc pm an cdv ct), osl⟩) (hcd : codeIn (K w.params) cdv qual = true)
    (hbind : BindsTo s (fnOf name qual params body scope dV kV doc pm an cdv ct) args binds) (hloc : (binds.all fun x => decide (scope.names.lookup x.1 = some .local)) = true)
    (hco : scope.isCoroutine = false) (hgen : scope.isGenerator = false) (hk : scope.kind = .function) (hcell : ∀ x ∈ scope.names, x.2 ≠ .cell)
    (walk : ∀ g L' h₁ tk, Fr g L' h₁ (fun y => binds.reverse.lookup y) → News g L' h₁ news → Below (ktrTop dp un gd cn cs L a ccd cl outer) base (envX cn cs L a ccd cl :: outer) g → (K w.params).In g → Top p loose mean mg mb g → (∀ q ∈ news, q.1 ≠ L') →
      wpAny (md w) ((ktrTop dp un gd cn cs L a ccd cl outer).deeper (envOf qual scope L' f cdv)) (execs body (envOf qual scope L' f cdv)) (RetAt g L' s Post) (fun _ _ => False) { s with heap := h₁, toks := tk })
    (ret : ∀ v news' h' tk', Post v news' → Fr h₀ L h' m → News h₀ L h' news' → Q v { s with heap := h', toks := tk' }) :
    codeAny (md w) (ktrTop dp un gd cn cs L a ccd cl outer) (.call (.ref f) args) (fun r s' => match r with | .ok (.ret v) => Q v s' | .ok _ => False | .error _ => False) s := by
  refine code_def c.B c.F c.X c.N c.T rfl rfl c.hk ho hcd (by have := c.hd; show dp < _; omega) hbind (locs hloc) ?_ hco hgen hk hcell
  intro g L' h₁ FG F' N' B' X' T'
  refine wpAny_mono (walk g L' h₁ _ F' N' B' X' T' (fun q hq => (N' q hq).2.1)) ?_ (fun _ _ h => h.elim)
  rintro fl s' ⟨v, h', tk, m', news', hv, rfl, F₂, N₂, hp⟩
  subst hv
  cases fl <;> exact leaveK_ F₂ N₂ fun F₃ N₃ => ret _ news' _ _ hp F₃ N₃
end
section
variable {prog : Program} {w : World} {A : Around} {s : Shared} {env : Env} {test : PySem.Expr} {body : List Stmt} {Q : Flow → Shared → Prop} {h₀ : Heap} {L : Addr}
/-- the turn of a while ends: the frame and the ledger say J at a lesser measure -/
def WEnd (h₀ : Heap) (L : Addr) (J : Nat → Mp → Led → Prop) (n : Nat) (s₁ : Shared) (Q : Flow → Shared → Prop) (f : Flow) (s₂ : Shared) : Prop :=
  match f with
  | .ret v => Q (.ret v) s₂
  | .brk => Q .next s₂
  | _ => ∃ n' h' tk m' news', n' < n ∧ s₂ = { s₁ with heap := h', toks := tk } ∧ Fr h₀ L h' m' ∧ News h₀ L h' news' ∧ J n' m' news'
theorem whl_rest (E : Value → Shared → Prop) (J : Nat → Mp → Led → Prop) (hE : PassesOwn (model prog w) A env E)
    (turn : ∀ n m news h tk, J n m news → Fr h₀ L h m → News h₀ L h news →
      wpAny (model prog w) A (isTrue test env (eval test env)) (fun b s₂ => WhlIf b (wpAny (model prog w) A (execs body env) (WEnd h₀ L J n s Q) E s₂) (Q .next s₂)) E { s with heap := h, toks := tk }) :
    ∀ n m news h tk, J n m news → Fr h₀ L h m → News h₀ L h news → WhlRest prog w A E env test body [] Q 0 { s with heap := h, toks := tk } := by
  intro n
  induction n using Nat.strongRecOn with
  | ind n ih =>
    intro m news h tk hJ F N
    refine whl_turn (k := 0) hE (wpAny_mono (turn n m news h tk hJ F N) (fun b s₂ hb => ?_) fun _ _ e => e)
    cases b with
    | false =>
      unfold WhlIf at hb ⊢
      rw [if_neg Bool.false_ne_true] at hb ⊢
      exact wpAny_execs_nil hb
    | true =>
      unfold WhlIf at hb ⊢
      rw [if_pos rfl] at hb ⊢
      refine wpAny_mono hb (fun f s₃ hf => ?_) fun _ _ e => e
      cases f with
      | ret v => exact hf
      | brk => exact hf
      | next =>
        obtain ⟨n', h', tk', m', news', hlt, rfl, F', N', hJ'⟩ := hf
        exact ih n' hlt m' news' h' tk' hJ' F' N'
      | cont =>
        obtain ⟨n', h', tk', m', news', hlt, rfl, F', N', hJ'⟩ := hf
        exact ih n' hlt m' news' h' tk' hJ' F' N'
/-- a while by an invariant and a measure -/
theorem whl_inv {pos : Pos} {E : Value → Shared → Prop} {m : Mp} {news : Led} (J : Nat → Mp → Led → Prop) (n : Nat)
    (F : Fr h₀ L s.heap m) (N : News h₀ L s.heap news) (hE : PassesOwn (model prog w) A env E) (hJ : J n m news)
    (turn : ∀ n m news h tk, J n m news → Fr h₀ L h m → News h₀ L h news →
      wpAny (model prog w) A (isTrue test env (eval test env)) (fun b s₂ => WhlIf b (wpAny (model prog w) A (execs body env) (WEnd h₀ L J n s Q) E s₂) (Q .next s₂)) E { s with heap := h, toks := tk }) :
    wpAny (model prog w) A (exec (.While test body [] pos) env) Q E s :=
  whl_start 0 (whl_rest E J hE turn n m news s.heap s.toks hJ F N)
/-- the head of a for: what is walked -/
def ForAt (prog : Program) (w : World) (A : Around) (env : Env) (target : PySem.Expr) (body : List Stmt) (Q : Flow → Shared → Prop) (xv : Value) (s₁ : Shared) : Prop :=
  wpAny (model prog w) A (pyIter xv) (fun it s₂ => codeAny (model prog w) A (.forLoop target it body [] env) (fun r s' => match r with | .ok f => Q f s' | .error e => cameBackBy (model prog w) A env (fun _ _ => False) e s') s₂) (fun _ _ => False) s₁
theorem for_at {target iter : PySem.Expr} {pos : Pos} (h : wpAny (model prog w) A (eval iter env) (fun xv s₁ => ForAt prog w A env target body Q xv s₁) (fun _ _ => False) s)
    (hs : ∀ x, foldedSetIterable iter env x = pure x := by intro _; rfl) : wpAny (model prog w) A (exec (.For target iter body [] pos) env) Q (fun _ _ => False) s := wpAny_For h hs
/-- the end of a turn of a for -/
def FEnd (h₀ : Heap) (L : Addr) (J : Mp → Led → Prop) (I : Addr) (o : Obj) (s₁ : Shared) (Q : Flow → Shared → Prop) (f : Flow) (s₂ : Shared) : Prop :=
  match f with
  | .ret v => Q (.ret v) s₂
  | .brk => Q .next s₂
  | _ => ∃ h' tk m' news', s₂ = { s₁ with heap := h', toks := tk } ∧ Fr h₀ L h' m' ∧ News h₀ L h' (news' ++ [(I, o)]) ∧ (∀ p ∈ news', p.1 ≠ I) ∧ J m' news'
/-- an iterator of n items: what its next does -/
structure Iter (prog : Program) (w : World) (A : Around) (I : Addr) (need : Led) (n : Nat) (P : Nat → Value → Prop) (St : Nat → Obj → Prop) : Prop where
  item : ∀ i (s : Shared) o (Q : Option Value → Shared → Prop) (E : Value → Shared → Prop), i < n → s.heap.get? I = some o → St i o → (∀ p ∈ need, s.heap.get? p.1 = some p.2) →
    (∀ v h' tk o', P i v → h'.get? I = some o' → St (i + 1) o' → Heap.SameBut I s.heap h' → Q (some v) { s with heap := h', toks := tk }) → wpAny (model prog w) A (pyNext (.ref I)) Q E s
  done : ∀ (s : Shared) o (Q : Option Value → Shared → Prop) (E : Value → Shared → Prop), s.heap.get? I = some o → St n o → (∀ p ∈ need, s.heap.get? p.1 = some p.2) →
    (∀ h' tk, Heap.ExtBut I s.heap h' → Q none { s with heap := h', toks := tk }) → wpAny (model prog w) A (pyNext (.ref I)) Q E s
theorem for_loop {target : PySem.Expr} {I : Addr} {need : Led} {n : Nat} {P : Nat → Value → Prop} {St : Nat → Obj → Prop} {o : Obj} {m : Mp} {news : Led} (J : Nat → Mp → Led → Prop)
    (W : Iter prog w A I need n P St) (h0 : h₀.get? I = none) (hL : I ≠ L) (hn : ∀ p ∈ news, p.1 ≠ I) (ho : s.heap.get? I = some o) (hst : St 0 o)
    (F : Fr h₀ L s.heap m) (N : News h₀ L s.heap news) (hJ : J 0 m news) (keep : ∀ i m news, J i m news → ∀ p ∈ need, p ∈ news)
    (ht : ∀ v, letOwnedTupleGo target (.ref I) v = pure ())
    (turn : ∀ i v m₁ news₁ h tk o, i < n → P i v → J i m₁ news₁ → (∀ p ∈ news₁, p.1 ≠ I) → Fr h₀ L h m₁ → News h₀ L h (news₁ ++ [(I, o)]) →
      wpAny (model prog w) A (assign target env v) (fun _ s₂ => wpAny (model prog w) A (execs body env) (FEnd h₀ L (J (i + 1)) I o s Q) (fun _ _ => False) s₂) (fun _ _ => False) { s with heap := h, toks := tk })
    (done : ∀ m₁ news₁ h tk, J n m₁ news₁ → Fr h₀ L h m₁ → News h₀ L h news₁ → Q .next { s with heap := h, toks := tk }) :
    codeAny (model prog w) A (.forLoop target (.ref I) body [] env) (fun r s' => match r with | .ok f => Q f s' | .error e => cameBackBy (model prog w) A env (fun _ _ => False) e s') s := by
  refine codeAny_forLoop (fun k s' => ∃ h' tk m' news' i o', s' = { s with heap := h', toks := tk } ∧ h'.get? I = some o' ∧ St i o' ∧ Fr h₀ L h' m' ∧ News h₀ L h' news' ∧ (∀ p ∈ news', p.1 ≠ I) ∧ J i m' news' ∧ i ≤ n ∧ k = n + 1 - i) ?_ (n + 1)
    ⟨s.heap, s.toks, m, news, 0, o, rfl, ho, hst, F, N, hn, hJ, Nat.zero_le _, rfl⟩ ht
  rintro k s' ⟨h', tk, m', news', i, o', rfl, ho', hst', F', N', hn', hJ', hi, rfl⟩
  have old : ∀ b x, h₀.get? b = some x → b ≠ I := fun b x e q => by rw [q, h0] at e; cases e
  have nd : ∀ p ∈ need, h'.get? p.1 = some p.2 := fun p hp => (N' p (keep _ _ _ hJ' p hp)).1
  by_cases hlt : i < n
  · refine W.item i _ o' _ _ hlt ho' hst' nd fun v h₁ tk₁ o₁ hP ho₁ hst₁ hs₁ => ?_
    have F₁ : Fr h₀ L h₁ m' := ⟨F'.ns.sameBut hs₁ hL.symm, fun b x e => (hs₁.2 b (old b x e)).trans (F'.keep b x e), F'.above⟩
    have N₁ : News h₀ L h₁ (news' ++ [(I, o₁)]) := by
      intro q hq
      rcases List.mem_append.mp hq with hq | hq
      · exact ⟨(hs₁.2 q.1 (hn' q hq)).trans (N' q hq).1, (N' q hq).2⟩
      · obtain rfl := List.mem_singleton.mp hq
        exact ⟨ho₁, hL, h0⟩
    refine wpAny_mono (turn i v m' news' h₁ tk₁ o₁ hlt hP hJ' hn' F₁ N₁) (fun _ s₂ h₂ => wpAny_mono h₂ (fun f s₃ h₃ => ?_) fun _ _ e => e.elim) fun _ _ e => e.elim
    cases f with
    | ret v => exact h₃
    | brk => exact h₃
    | next =>
      obtain ⟨h₄, tk₄, m₄, news₄, rfl, F₄, N₄, hn₄, hJ₄⟩ := h₃
      exact ⟨n + 1 - (i + 1), by omega, h₄, tk₄, m₄, news₄, i + 1, o₁, rfl, (N₄ _ (List.mem_append_right _ (.head _))).1, hst₁, F₄, fun q hq => N₄ q (List.mem_append_left _ hq), hn₄, hJ₄, hlt, rfl⟩
    | cont =>
      obtain ⟨h₄, tk₄, m₄, news₄, rfl, F₄, N₄, hn₄, hJ₄⟩ := h₃
      exact ⟨n + 1 - (i + 1), by omega, h₄, tk₄, m₄, news₄, i + 1, o₁, rfl, (N₄ _ (List.mem_append_right _ (.head _))).1, hst₁, F₄, fun q hq => N₄ q (List.mem_append_left _ hq), hn₄, hJ₄, hlt, rfl⟩
  · have hin : i = n := by omega
    subst hin
    refine W.done _ o' _ _ ho' hst' nd fun h₁ tk₁ hs₁ => wpAny_execs_nil ?_
    have F₁ : Fr h₀ L h₁ m' := ⟨F'.ns.extBut hs₁ hL.symm, fun b x e => hs₁ b x (old b x e) (F'.keep b x e), F'.above⟩
    exact done m' news' h₁ tk₁ hJ' F₁ fun q hq => ⟨hs₁ _ _ (hn' q hq) (N' q hq).1, (N' q hq).2⟩
abbrev listObj (vs : List Value) (k : Nat) : Obj := { cls := .type "list", data := .seq vs.toArray k }
theorem fresh_none {h₀ h : Heap} {L : Addr} {m : Mp} (F : Fr h₀ L h m) : h₀.get? h.objs.size = none := by
  cases q : h₀.get? h.objs.size with
  | none => rfl
  | some x => exact absurd (Heap.lt_size (F.keep _ _ q)) (Nat.lt_irrefl _)
theorem tail_item {prog : Program} {w : World} {A : Around} {E : Value → Shared → Prop} {s : Shared} {value slice : PySem.Expr} {l : Addr} {vs : List Value} {k : Int} {u : Tok} {v : Value} {Q : Value → Shared → Prop} (hl : s.heap.IsList l vs.toArray)
    (h0 : 0 ≤ k) (hfit : k < 2 ^ 63) (hx : vs[k.toNat]? = some v) (h : Q v s)
    (hs : subscripted slice false (.ref l) (.int k u) = operate [.ref l, .int k u] (getItem (.ref l) (.int k u)) := by with_unfolding_all rfl) :
    wpAny (model prog w) A (subscriptTail value slice (.ref l) (.int k u)) Q E s :=
  tail_any hl.typeIs slot_list_getitem.lookup (wpAny_getItem_list hl h0 hfit (by simpa using hx) h) hs
/-- over a list of the ledger -/
theorem ForAt.list {target : PySem.Expr} {l : Addr} {vs : List Value} {k : Nat} {m : Mp} {news : Led} (J : Nat → Mp → Led → Prop) (hh : A.handled = none)
    (F : Fr h₀ L s.heap m) (N : News h₀ L s.heap news) (hJ : J 0 m news) (keep : ∀ i m news, J i m news → (l, listObj vs k) ∈ news)
    (turn : ∀ i v m₁ news₁ h tk I o, vs[i]? = some v → J i m₁ news₁ → (∀ p ∈ news₁, p.1 ≠ I) → Fr h₀ L h m₁ → News h₀ L h (news₁ ++ [(I, o)]) →
      wpAny (model prog w) A (assign target env v) (fun _ s₂ => wpAny (model prog w) A (execs body env) (FEnd h₀ L (J (i + 1)) I o s Q) (fun _ _ => False) s₂) (fun _ _ => False) { s with heap := h, toks := tk })
    (done : ∀ m₁ news₁ h tk, J vs.length m₁ news₁ → Fr h₀ L h m₁ → News h₀ L h news₁ → Q .next { s with heap := h, toks := tk })
    (ht : ∀ it v, letOwnedTupleGo target it v = pure () := by intro _ _; rfl) : ForAt prog w A env target body Q (.ref l) s := by
  have hl := (N _ (keep _ _ _ hJ)).1
  refine wpAny_pyIter_list (items := vs.toArray) ⟨_, hl, rfl, _, rfl⟩ ?_
  have hlt := Heap.lt_size hl
  refine for_loop (s := { s with heap := s.heap.push { cls := .type "list_iterator", data := .fields #[.ref l, .int 0 0] } }) (I := s.heap.objs.size) (need := [(l, listObj vs k)]) (n := vs.length) (P := fun i v => vs[i]? = some v) (St := fun i o => o.cls = .type "list_iterator" ∧ o.data = .fields #[.ref l, .int i 0]) J ?_ (fresh_none F) (Nat.ne_of_gt F.ns.lt)
    (fun q hq => Nat.ne_of_lt (Heap.lt_size (N q hq).1)) (Heap.get?_push_size _ rfl) ⟨rfl, rfl⟩ (F.push _) (fun q hq => ⟨Heap.get?_push_of_some _ (N q hq).1, (N q hq).2⟩) hJ
    (fun i m news h q hq => by obtain rfl := List.mem_singleton.mp hq; exact keep i m news h) (ht _) (fun i v m₁ news₁ h tk o _ hP hJ₁ hn₁ F₁ N₁ => turn i v m₁ news₁ h tk _ o hP hJ₁ hn₁ F₁ N₁) (fun m₁ news₁ h tk hJ₁ F₁ N₁ => done m₁ news₁ h tk hJ₁ F₁ N₁)
  constructor
  · intro i s o Q E hi ho hst hnd hQ
    have hl' := hnd (l, listObj vs k) (.head _)
    refine wpAny_pyNext_list_item (it := _) (l := l) (i := i) (items := vs.toArray) (x := vs[i]) ⟨o, ho, hst⟩ ⟨_, hl', rfl, _, rfl⟩ (by simp [hi]) fun h' hit hs => ?_
    obtain ⟨o', ho', hc', hd'⟩ := hit
    exact hQ _ h' _ o' (by simp [hi]) ho' ⟨hc', hd'⟩ hs
  · intro s o Q E ho hst hnd hQ
    have hl' := hnd (l, listObj vs k) (.head _)
    exact wpAny_pyNext_list_end hh ⟨o, ho, hst⟩ ⟨_, hl', rfl, _, rfl⟩ (by simp) fun h' hs => hQ h' _ hs
/-- over a range by ones -/
theorem ForAt.range {target : PySem.Expr} {r : Addr} {a₀ b₀ : Int} {t₀ u₀ v₀ : Tok} {n : Nat} {m : Mp} {news : Led} (J : Nat → Mp → Led → Prop) (hh : A.handled = none)
    (hr : IsRange s.heap r a₀ b₀ 1 t₀ u₀ v₀) (hsmall : Builtin.Range.small a₀ b₀ 1 = true) (hn : Builtin.Range.rangeSize a₀ b₀ 1 = (n : Int))
    (F : Fr h₀ L s.heap m) (N : News h₀ L s.heap news) (hJ : J 0 m news)
    (turn : ∀ i t m₁ news₁ h tk I o, i < n → J i m₁ news₁ → (∀ p ∈ news₁, p.1 ≠ I) → Fr h₀ L h m₁ → News h₀ L h (news₁ ++ [(I, o)]) →
      wpAny (model prog w) A (assign target env (.int (a₀ + (i : Nat)) t)) (fun _ s₂ => wpAny (model prog w) A (execs body env) (FEnd h₀ L (J (i + 1)) I o s Q) (fun _ _ => False) s₂) (fun _ _ => False) { s with heap := h, toks := tk })
    (done : ∀ m₁ news₁ h tk, J n m₁ news₁ → Fr h₀ L h m₁ → News h₀ L h news₁ → Q .next { s with heap := h, toks := tk })
    (ht : ∀ it v, letOwnedTupleGo target it v = pure () := by intro _ _; rfl) : ForAt prog w A env target body Q (.ref r) s := by
  refine wpAny_pyIter_range hr hsmall ?_
  refine for_loop (s := { s with heap := s.heap.push _ }) (I := s.heap.objs.size) (need := []) (n := n) (P := fun i v => ∃ t, v = .int (a₀ + (i : Nat)) t) (St := fun i o => o = { cls := .type "range_iterator", data := .fields #[rawInt (a₀ + (i : Nat)), rawInt ((n : Int) - (i : Nat)), rawInt 1] }) J ?_ (fresh_none F) (Nat.ne_of_gt F.ns.lt)
    (fun q hq => Nat.ne_of_lt (Heap.lt_size (N q hq).1)) (Heap.get?_push_size _ rfl) (by rw [hn]; simp) (F.push _) (fun q hq => ⟨Heap.get?_push_of_some _ (N q hq).1, (N q hq).2⟩) hJ
    (fun i m news h q hq => nomatch hq) (ht _) (fun i v m₁ news₁ h tk o hi hP hJ₁ hn₁ F₁ N₁ => by obtain ⟨t, rfl⟩ := hP; exact turn i t m₁ news₁ h tk _ o hi hJ₁ hn₁ F₁ N₁) (fun m₁ news₁ h tk hJ₁ F₁ N₁ => done m₁ news₁ h tk hJ₁ F₁ N₁)
  constructor
  · intro i s o Q E hi ho hst hnd hQ
    subst hst
    refine wpAny_pyNext_range_item (x := a₀ + (i : Nat)) (left := (n : Int) - (i : Nat)) (step := 1) ho (by omega) fun h' hit hs => ?_
    refine hQ _ h' _ _ ⟨_, rfl⟩ hit ?_ hs
    have e1 : a₀ + (i : Int) + 1 = a₀ + ((i + 1 : Nat) : Int) := by omega
    have e2 : (n : Int) - (i : Int) - 1 = (n : Int) - ((i + 1 : Nat) : Int) := by omega
    rw [e1, e2]
  · intro s o Q E ho hst hnd hQ
    subst hst
    exact wpAny_pyNext_range_end hh (x := a₀ + (n : Nat)) (left := (n : Int) - (n : Nat)) (step := 1) ho (by omega) fun h' hs => hQ h' _ hs
end
section
variable {M : Model} {A : Around} {E : Value → Shared → Prop} {s : Shared} {env : Env} {Q : Flow → Shared → Prop}
theorem execs_app (ys : List Stmt) : ∀ xs : List Stmt, execs (xs ++ ys) env = (do match ← execs xs env with | .next => execs ys env | f => pure f)
  | [] => rfl
  | x :: xs => by
    rw [List.cons_append, execs_cons, execs_cons, execs_app ys xs, bind_assoc]
    congr 1
    funext f
    cases f <;> simp
/-- a block in two parts, with a word between -/
theorem execs_cut (n : Nat) {body : List Stmt} {Mid : Shared → Prop} (h1 : wpAny M A (execs (body.take n) env) (fun f s' => match f with | .next => Mid s' | f => Q f s') E s) (h2 : ∀ s', Mid s' → wpAny M A (execs (body.drop n) env) Q E s') :
    wpAny M A (execs body env) Q E s := by
  rw [← List.take_append_drop n body, execs_app]
  refine wpAny_bind (wpAny_mono h1 (fun f s' hf => ?_) fun _ _ e => e)
  cases f with
  | next => exact h2 s' hf
  | _ => exact wpAny_pure hf
end
end
end Mine
end
section
open PySem PySem.W PyProof.Rows PySem.Calls
namespace Mine
section
local macro_rules | `(tactic| news_mem) => `(tactic| assumption)
section
set_option maxHeartbeats 4000000
theorem reg1 (w : World) : (model PySem.Challenge.rw_nt0032_01.row.prog w = model PySem.Challenge.rw_nt0032_01.row.prog w) ∧ K w.params = K w.params := by
  k_fill
  exact ⟨rfl, rfl⟩
def PlaceAt (ns : List Int) (n r : Int) : Prop := 0 ≤ r ∧ r ≤ ns.length ∧ (∀ i, (h : i < ns.length) → (i : Int) < r → ns[i] ≤ n) ∧ (∀ i, (h : i < ns.length) → r ≤ (i : Int) → n < ns[i])
theorem sorted_le {ns : List Int} (hs : ns.Pairwise (· < ·)) {i j : Nat} (hi : i < ns.length) (hj : j < ns.length) (h : i ≤ j) : ns[i] ≤ ns[j] := by
  rcases Nat.lt_or_eq_of_le h with h | rfl
  · exact Int.le_of_lt (List.pairwise_iff_getElem.mp hs i j hi hj h)
  · exact Int.le_refl _
theorem place_lo {ns : List Int} {n lo hi : Int} (hs : ns.Pairwise (· < ·)) (b0 : 0 ≤ lo) (b1 : lo < hi) (b2 : hi ≤ ns.length) (h : ns.getD ((lo + hi).fdiv 2).toNat 0 ≤ n) :
    ∀ i, (h : i < ns.length) → (i : Int) < (lo + hi).fdiv 2 + 1 → ns[i] ≤ n := by
  rw [Int.fdiv_eq_ediv_of_nonneg _ (by omega)] at h ⊢
  intro i hi' hlt
  have hm : ((lo + hi) / 2).toNat < ns.length := by omega
  rw [List.getD_eq_getElem?_getD, List.getElem?_eq_getElem hm] at h
  exact Int.le_trans (sorted_le hs hi' hm (by omega)) h
theorem place_hi {ns : List Int} {n lo hi : Int} (hs : ns.Pairwise (· < ·)) (b0 : 0 ≤ lo) (b1 : lo < hi) (b2 : hi ≤ ns.length) (h : ¬ ns.getD ((lo + hi).fdiv 2).toNat 0 ≤ n) :
    ∀ i, (h : i < ns.length) → (lo + hi).fdiv 2 ≤ (i : Int) → n < ns[i] := by
  rw [Int.fdiv_eq_ediv_of_nonneg _ (by omega)] at h ⊢
  intro i hi' hlt
  have hm : ((lo + hi) / 2).toNat < ns.length := by omega
  rw [List.getD_eq_getElem?_getD, List.getElem?_eq_getElem hm] at h
  have h' : n < ns[((lo + hi) / 2).toNat] := Int.not_le.mp h
  exact Int.lt_of_lt_of_le h' (sorted_le hs hm hi' (by omega))
theorem mid_in {lo hi : Int} (b0 : 0 ≤ lo) (b1 : lo < hi) : lo ≤ (lo + hi).fdiv 2 ∧ (lo + hi).fdiv 2 < hi := by
  rw [Int.fdiv_eq_ediv_of_nonneg _ (by omega)]
  omega
theorem place_pos {ns : List Int} {n r : Int} (hp : PlaceAt ns n r) (h0 : ns.head? = some 0) (hn : 0 ≤ n) : 0 < r := by
  obtain ⟨p0, p1, p2, p3⟩ := hp
  rcases Int.lt_or_le 0 r with h | h
  · exact h
  · cases ns with
    | nil => cases h0
    | cons x xs =>
      have := p3 0 (by simp) (by omega)
      simp only [List.head?_cons, Option.some.injEq] at h0
      simp only [List.getElem_cons_zero] at this
      omega
section
variable {w : World} {p : Program} {loose : List Str} {mean : ExcName → Option Value} {mg mb : Mp} {dp un : Nat} {gd : Option (List Code)} {cn : Str} {cs : Scope} {a : Addr} {ccd : Value} {cl : List (Str × Addr)} {outer : List Env} {A₀ : Around} {base h₀ : Heap} {L : Addr} {m : Mp} {news : Led} {s : Shared} {Q : Value → Shared → Prop}
/-- place_by_half -/
theorem place_spec {l : Addr} {vs : List Value} {ns : List Int} {k : Nat} {n : Int} {nt : Tok} (c : Cx w p loose mean mg mb outer A₀ base h₀ L m news s cs dp un 2 40)
    (hl : (l, listObj vs k) ∈ news) (hi : IntsAre vs ns) (hlen : ns.length < 1000) (hs : ns.Pairwise (· < ·))
    (ret : ∀ (r : Int) t h' tk', PlaceAt ns n r → Fr h₀ L h' m → News h₀ L h' news → Q (.int (r - 1) t) { s with heap := h', toks := tk' }) :
    wpAny (md w) (ktrTop dp un gd cn cs L a ccd cl outer) (call (.ref 61) [.ref l, .int n nt]) Q (fun _ _ => False) s := by
  have hd := c.hd
  have hu := c.hu
  refine wpAny_call (enter (qual := Str.ofString "place_by_half") [(Str.ofString "firsts", .ref l), (Str.ofString "number", .int n nt)] (fun v news' => news' = news ∧ ∃ r t, v = .int (r - 1) t ∧ PlaceAt ns n r) c
    (by k_is) (by k_is) (BindsTo.of_eq rfl) rfl rfl rfl rfl (by decide) ?_ (by rintro v news' h' tk' ⟨rfl, r, t, rfl, hp⟩ F' N'; exact ret r t h' tk' hp F' N'))
  clear ret c
  intro g L' h' tk' F' N' B' X' T' _
  refine @wp_gen Flow _ _ _ _ _ _ ?_
  intro Q₀ hQ₀
  repeat' (first | ((fail_if_success (with_reducible show wpAny _ _ (exec (Stmt.While _ _ _ _) _) _ _ _); fail_if_success (with_reducible show wpAny _ _ (exec (Stmt.For _ _ _ _ _) _) _ _ _); fail_if_success (with_reducible show wpAny _ _ (call (Value.ref _) _) _ _ _)); walk1) | (dsimp only; walk1))
  rename Fr _ _ _ _ => F2
  rename News _ _ _ _ => N2
  refine whl_inv (fun c m₁ news₁ => news₁ = news ∧ ∃ lo hi t1 t2, Knows [(Str.ofString "low", .int lo t1), (Str.ofString "high", .int hi t2), (Str.ofString "firsts", .ref l), (Str.ofString "number", .int n nt)] m₁ ∧
    0 ≤ lo ∧ lo ≤ hi ∧ hi ≤ ns.length ∧ c = (hi - lo).toNat ∧ (∀ i, (h : i < ns.length) → (i : Int) < lo → ns[i] ≤ n) ∧ (∀ i, (h : i < ns.length) → hi ≤ (i : Int) → n < ns[i])) _ F2 N2 PassesOwn.never
    ⟨rfl, 0, ns.length, _, _, ⟨rfl, rfl, rfl, rfl, trivial⟩, by omega, by omega, by omega, rfl, by intros; omega, by intros; omega⟩ ?_
  rintro c m₁ news₁ h₁ tk₁ ⟨rfl, lo, hi', t1, t2, hm, b0, b1, b2, rfl, b3, b4⟩ F3 N3
  rw [hm.ov] at F3
  clear F2 N2
  repeat' (first | ((fail_if_success (with_reducible show wpAny _ _ (exec (Stmt.While _ _ _ _) _) _ _ _); fail_if_success (with_reducible show wpAny _ _ (exec (Stmt.For _ _ _ _ _) _) _ _ _); fail_if_success (with_reducible show wpAny _ _ (call (Value.ref _) _) _ _ _)); walk1) | (dsimp only; walk1))
  refine WhlIf.dec (fun hlt => ?_) (fun hge => ?_)
  · have hmid := mid_in b0 hlt
    repeat' (first | ((fail_if_success (with_reducible show wpAny _ _ (exec (Stmt.While _ _ _ _) _) _ _ _); fail_if_success (with_reducible show wpAny _ _ (exec (Stmt.For _ _ _ _ _) _) _ _ _); fail_if_success (with_reducible show wpAny _ _ (call (Value.ref _) _) _ _ _)); walk1) | (dsimp only; walk1))
    · rename _ ≤ n => hle
      rename Fr _ _ _ _ => F5
      rename News _ _ _ _ => N5
      exact ⟨_, _, _, _, _, by omega, rfl, F5, N5, rfl, _, _, _, _, ⟨rfl, rfl, rfl, rfl, trivial⟩, by omega, by omega, by omega, rfl, place_lo hs b0 hlt b2 hle, b4⟩
    · rename ¬ _ => hle
      rename Fr _ _ _ _ => F5
      rename News _ _ _ _ => N5
      exact ⟨_, _, _, _, _, by omega, rfl, F5, N5, rfl, _, _, _, _, ⟨rfl, rfl, rfl, rfl, trivial⟩, by omega, by omega, by omega, rfl, b3, place_hi hs b0 hlt b2 hle⟩
  · dsimp only
    repeat' (first | ((fail_if_success (with_reducible show wpAny _ _ (exec (Stmt.While _ _ _ _) _) _ _ _); fail_if_success (with_reducible show wpAny _ _ (exec (Stmt.For _ _ _ _ _) _) _ _ _); fail_if_success (with_reducible show wpAny _ _ (call (Value.ref _) _) _ _ _)); walk1) | (dsimp only; walk1))
    have e : lo = hi' := by omega
    subst e
    exact hQ₀ _ _ <| RetAt.ret F3 N3 ⟨rfl, lo, _, rfl, b0, b2, b3, b4⟩
/-- a RangeMap in the ledger: its default, its starts, its values -/
def RM (news : Led) (x : Addr) (dv : Value) (ns : List Int) (vv : List Value) : Prop :=
  ∃ (dx st vl : Addr) (t1 t2 t3 : Tok) (g1 g2 g3 : Int) (n k1 k2 : Nat) (sv : List Value), (x, instObj 261 dx) ∈ news ∧
    (dx, dictOf [⟨g1, .str (Str.ofString "default") t1, dv⟩, ⟨g2, .str (Str.ofString "starts") t2, .ref st⟩, ⟨g3, .str (Str.ofString "values") t3, .ref vl⟩] n) ∈ news ∧
    (st, listObj sv k1) ∈ news ∧ (vl, listObj vv k2) ∈ news ∧ IntsAre sv ns
/-- RangeMap.get -/
theorem rget_spec {x : Addr} {dv : Value} {ns : List Int} {vv : List Value} {n : Int} {nt : Tok} (c : Cx w p loose mean mg mb outer A₀ base h₀ L m news s cs dp un 4 60)
    (hx : RM news x dv ns vv) (hlen : ns.length < 1000) (hs : ns.Pairwise (· < ·)) (h1 : vv.length = ns.length) (h0 : ns.head? = some 0) (hn : 0 ≤ n)
    (ret : ∀ (r : Int) v h' tk', PlaceAt ns n r → 0 < r → vv[(r - 1).toNat]? = some v → Fr h₀ L h' m → News h₀ L h' news → Q v { s with heap := h', toks := tk' }) :
    wpAny (md w) (ktrTop dp un gd cn cs L a ccd cl outer) (call (.ref 239) [.ref x, .int n nt]) Q (fun _ _ => False) s := by
  have hd := c.hd
  have hu := c.hu
  refine wpAny_call (enter (qual := Str.ofString "RangeMap.get") [(Str.ofString "self", .ref x), (Str.ofString "code", .int n nt)] (fun v news' => news' = news ∧ ∃ r, PlaceAt ns n r ∧ 0 < r ∧ vv[(r - 1).toNat]? = some v) c
    (by k_is) (by k_is) (BindsTo.of_eq rfl) rfl rfl rfl rfl (by decide) ?_ (by rintro v news' h' tk' ⟨rfl, r, hp, h0, hv⟩ F' N'; exact ret r v h' tk' hp h0 hv F' N'))
  clear ret c
  obtain ⟨dx, st, vl, t1, t2, t3, g1, g2, g3, j, k1, k2, sv, m1, m2, m3, m4, hi⟩ := hx
  intro g L' h' tk' F' N' B' X' T' _
  refine @wp_gen Flow _ _ _ _ _ _ ?_
  intro Q₀ hQ₀
  repeat' (first | ((fail_if_success (with_reducible show wpAny _ _ (exec (Stmt.While _ _ _ _) _) _ _ _); fail_if_success (with_reducible show wpAny _ _ (exec (Stmt.For _ _ _ _ _) _) _ _ _); fail_if_success (with_reducible show wpAny _ _ (call (Value.ref _) _) _ _ _)); walk1) | (dsimp only; walk1))
  refine place_spec ⟨by k_asm, by k_asm, by k_asm, by k_asm, by k_asm, rfl, by show dp + 1 + 2 < _; omega, by show un + 3 + 40 < _; omega⟩ m3 hi hlen hs ?_
  intro r t h₂ tk₂ hp F₂ N₂
  have hr0 := place_pos hp h0 hn
  obtain ⟨v, hv⟩ : ∃ v, vv[(r - 1).toNat]? = some v := by
    have h2 := hp.2.1
    exact ⟨vv[(r - 1).toNat]'(by omega), List.getElem?_eq_getElem _⟩
  refine tail_item (News.isList N₂ m4) (by omega) (by have := hp.2.1; omega) hv ?_
  repeat' (first | ((fail_if_success (with_reducible show wpAny _ _ (exec (Stmt.While _ _ _ _) _) _ _ _); fail_if_success (with_reducible show wpAny _ _ (exec (Stmt.For _ _ _ _ _) _) _ _ _); fail_if_success (with_reducible show wpAny _ _ (call (Value.ref _) _) _ _ _)); walk1) | (dsimp only; walk1))
  exact hQ₀ _ _ <| RetAt.ret F₂ N₂ ⟨rfl, r, hp, hr0, hv⟩
end
end
end
end Mine
end
section
open PySem PySem.W PyProof.Rows PySem.Calls
namespace Mine
section
local macro_rules | `(tactic| news_mem) => `(tactic| assumption)
local macro_rules | `(tactic| k_all) => `(tactic| assumption)
section
set_option maxHeartbeats 4000000
theorem reg2 (w : World) : (model PySem.Challenge.rw_nt0032_01.row.prog w = model PySem.Challenge.rw_nt0032_01.row.prog w) ∧ K w.params = K w.params := by
  k_fill
  exact ⟨rfl, rfl⟩
section
variable {w : World} {p : Program} {loose : List Str} {mean : ExcName → Option Value} {mg mb : Mp} {dp un : Nat} {gd : Option (List Code)} {cn : Str} {cs : Scope} {a : Addr} {ccd : Value} {cl : List (Str × Addr)} {outer : List Env} {A₀ : Around} {base h₀ : Heap} {L : Addr} {m : Mp} {news : Led} {s : Shared} {Q : Value → Shared → Prop}
/-- range_are_like, of two ints -/
theorem like_spec {i j : Int} {t u : Tok} (c : Cx w p loose mean mg mb outer A₀ base h₀ L m news s cs dp un 2 40)
    (ret : ∀ h' tk', Fr h₀ L h' m → News h₀ L h' news → Q (.bool (decide (i = j))) { s with heap := h', toks := tk' }) :
    wpAny (md w) (ktrTop dp un gd cn cs L a ccd cl outer) (call (.ref 218) [.int i t, .int j u]) Q (fun _ _ => False) s := by
  have hd := c.hd
  have hu := c.hu
  refine wpAny_call (enter (qual := Str.ofString "range_are_like") [(Str.ofString "one", .int i t), (Str.ofString "other", .int j u)] (fun v news' => news' = news ∧ v = .bool (decide (i = j))) c
    (by k_is) (by k_is) (BindsTo.of_eq rfl) rfl rfl rfl rfl (by decide) ?_ (by rintro v news' h' tk' ⟨rfl, rfl⟩ F' N'; exact ret h' tk' F' N'))
  clear ret c
  intro g L' h' tk' F' N' B' X' T' _
  refine @wp_gen Flow _ _ _ _ _ _ ?_
  intro Q₀ hQ₀
  repeat' (first | ((fail_if_success (with_reducible show wpAny _ _ (exec (Stmt.While _ _ _ _) _) _ _ _); fail_if_success (with_reducible show wpAny _ _ (exec (Stmt.For _ _ _ _ _) _) _ _ _); fail_if_success (with_reducible show wpAny _ _ (call (Value.ref _) _) _ _ _)); walk1) | (dsimp only; walk1))
  all_goals (refine hQ₀ _ _ <| RetAt.ret F' N' ⟨rfl, congrArg Value.bool ?_⟩; simp_all)
theorem listEq {h : Heap} {x y : Addr} {o o' : Obj} (h1 : h.get? x = some o) (h2 : h.get? y = some o') (hc : o.cls ≠ o'.cls) : x ≠ y := by
  rintro rfl
  rw [h1] at h2
  exact hc (congrArg Obj.cls (Option.some.inj h2))
theorem list_dict : (Value.type "list" : Value) ≠ .type "dict" := by decide
theorem ref_type {b : Addr} {n : String} : (Value.ref b : Value) ≠ .type n := by intro h; cases h
/-- the ledger with the object at x put in front -/
def minus (x : Addr) (news : Led) : Led := news.filter fun p => decide (p.1 ≠ x)
theorem mem_minus {x : Addr} {news : Led} {p : Addr × Obj} : p ∈ minus x news ↔ p ∈ news ∧ p.1 ≠ x := by
  unfold minus
  rw [List.mem_filter]
  simp
theorem minus_ne {x : Addr} {news : Led} : ∀ p ∈ minus x news, p.1 ≠ x := fun _ hp => (mem_minus.mp hp).2
theorem News.front {h₀ h : Heap} {L x : Addr} {o : Obj} {news : Led} (N : News h₀ L h news) (hm : (x, o) ∈ news) : News h₀ L h ((x, o) :: minus x news) := fun p hp => by
  rcases List.mem_cons.mp hp with rfl | hp
  · exact N _ hm
  · exact N _ (mem_minus.mp hp).1
section
variable {prog : Program} {w : World} {A : Around} {E : Value → Shared → Prop} {s : Shared} {h₀ : Heap} {L l : Addr} {m : Mp} {news : Led} {value slice : PySem.Expr} {vs : List Value} {ns : List Int} {k : Nat} {y : Int} {t : Tok} {Q : Value → Shared → Prop}
theorem slice_to (F : Fr h₀ L s.heap m) (N : News h₀ L s.heap news) (hm : (l, listObj vs k) ∈ news) (hi : IntsAre vs ns) (h0 : 0 ≤ y) (hz : ns.length ≤ 2000)
    (h : ∀ D ws h', Fr h₀ L h' m → News h₀ L h' ((D, listObj ws 0) :: news) → (∀ p ∈ news, p.1 < D) → IntsAre ws (ns.take y.toNat) → Q (.ref D) { s with heap := h' })
    (hs : subscripted slice false (.ref l) (.ref s.heap.objs.size) = operate [.ref s.heap.objs.size, .ref l] (getItem (.ref l) (.ref s.heap.objs.size)) := by with_unfolding_all rfl) (ht : ∀ r, letTemporaryGo value (.ref l) r = pure () := by intro _; with_unfolding_all rfl) :
    wpAny (model prog w) A (subscriptTail value slice (.ref l) (.ref s.heap.objs.size)) Q E { s with heap := s.heap.push { cls := .type "slice", data := .fields #[.none, .int y t, .none] } } :=
  kmk_slice_ints (c := _) F N ⟨_, (N _ hm).1, rfl, _, rfl⟩ .none (.int y t) hi (kmk_upto hi h0) rfl (fun D ws h' F' N' l1 hw _ _ => h D ws h' F' N' l1 hw) hs ht (kmk_sz hi (by rw [sizeLine_eq]; omega))
theorem slice_from (F : Fr h₀ L s.heap m) (N : News h₀ L s.heap news) (hm : (l, listObj vs k) ∈ news) (hi : IntsAre vs ns) (h0 : 0 ≤ y) (hz : ns.length ≤ 2000)
    (h : ∀ D ws h', Fr h₀ L h' m → News h₀ L h' ((D, listObj ws 0) :: news) → (∀ p ∈ news, p.1 < D) → IntsAre ws (ns.drop y.toNat) → Q (.ref D) { s with heap := h' })
    (hs : subscripted slice false (.ref l) (.ref s.heap.objs.size) = operate [.ref s.heap.objs.size, .ref l] (getItem (.ref l) (.ref s.heap.objs.size)) := by with_unfolding_all rfl) (ht : ∀ r, letTemporaryGo value (.ref l) r = pure () := by intro _; with_unfolding_all rfl) :
    wpAny (model prog w) A (subscriptTail value slice (.ref l) (.ref s.heap.objs.size)) Q E { s with heap := s.heap.push { cls := .type "slice", data := .fields #[.int y t, .none, .none] } } :=
  kmk_slice_ints (c := _) F N ⟨_, (N _ hm).1, rfl, _, rfl⟩ (.int y t) .none hi (kmk_from hi h0) rfl (fun D ws h' F' N' l1 hw _ _ => h D ws h' F' N' l1 hw) hs ht (kmk_sz hi (by rw [sizeLine_eq]; omega))
end
end
section
variable {hs : Int} {key v : Value} {g1 g2 g3 : Int} {t1 t2 t3 : Tok} {dv a b : Value} {j : Nat}
theorem put_starts : (putL (Str.ofString "starts") hs key v [⟨g1, .str (Str.ofString "default") t1, dv⟩, ⟨g2, .str (Str.ofString "starts") t2, a⟩, ⟨g3, .str (Str.ofString "values") t3, b⟩], putN (Str.ofString "starts") [⟨g1, .str (Str.ofString "default") t1, dv⟩, ⟨g2, .str (Str.ofString "starts") t2, a⟩, ⟨g3, .str (Str.ofString "values") t3, b⟩] j) =
    ([⟨g1, .str (Str.ofString "default") t1, dv⟩, ⟨g2, .str (Str.ofString "starts") t2, v⟩, ⟨g3, .str (Str.ofString "values") t3, b⟩], j) := by kernel_rfl
theorem put_values : (putL (Str.ofString "values") hs key v [⟨g1, .str (Str.ofString "default") t1, dv⟩, ⟨g2, .str (Str.ofString "starts") t2, a⟩, ⟨g3, .str (Str.ofString "values") t3, b⟩], putN (Str.ofString "values") [⟨g1, .str (Str.ofString "default") t1, dv⟩, ⟨g2, .str (Str.ofString "starts") t2, a⟩, ⟨g3, .str (Str.ofString "values") t3, b⟩] j) =
    ([⟨g1, .str (Str.ofString "default") t1, dv⟩, ⟨g2, .str (Str.ofString "starts") t2, a⟩, ⟨g3, .str (Str.ofString "values") t3, v⟩], j) := by kernel_rfl
end
section
variable {prog : Program} {w : World} {A : Around} {E : Value → Shared → Prop} {s : Shared} {h₀ : Heap} {L x y : Addr} {m : Mp} {news : Led} {its its2 : Array Value} {ns ms : List Int} {k k' : Nat} {Q : Value → Shared → Prop}
theorem add_mem (F : Fr h₀ L s.heap m) (N : News h₀ L s.heap news) (hm : (x, { cls := .type "list", data := .seq its k }) ∈ news) (hm' : (y, { cls := .type "list", data := .seq its2 k' }) ∈ news) (hi : IntsAre its.toList ns) (hj : IntsAre its2.toList ms) (hz : ns.length + ms.length ≤ 4000)
    (h : ∀ D us h', Fr h₀ L h' m → News h₀ L h' ((D, listObj us 0) :: news) → (∀ p ∈ news, p.1 < D) → IntsAre us (ns ++ ms) → Q (.ref D) { s with heap := h' }) :
    wpAny (model prog w) A (binaryOp .Add (.ref x) (.ref y)) Q E s :=
  kmk_add_ints (vs := its.toList) (ws := its2.toList) F N ⟨_, (N _ hm).1, rfl, k, by rw [Array.toArray_toList]⟩ ⟨_, (N _ hm').1, rfl, k', by rw [Array.toArray_toList]⟩ hi hj h (by rw [sizeLine_eq]; omega)
end
end
end
end Mine
end
section
open PySem PySem.W PyProof.Rows PySem.Calls
namespace Mine
section
set_option maxHeartbeats 4000000
abbrev pairObj (x y : Value) : Obj := { cls := .type "tuple", data := .seq #[x, y] 0 }
abbrev lst (ys : List Value) : Obj := { cls := .type "list", data := .seq ys.toArray ys.length }
theorem lst_snoc (ys : List Value) (y : Value) : ({ cls := .type "list", data := .seq (ys.toArray.push y) (ys.length + 1) } : Obj) = lst (ys ++ [y]) := by simp [lst]
/-- a list of pairs; the second ones -/
inductive Seconds (news : Led) : List Value → List Int → Prop
  | nil : Seconds news [] []
  | cons {T : Addr} {x : Value} {c : Int} {t : Tok} {vs : List Value} {cs : List Int} : (T, pairObj x (.int c t)) ∈ news → Seconds news vs cs → Seconds news (.ref T :: vs) (c :: cs)
theorem Seconds.at {news : Led} {vs : List Value} {cs : List Int} (h : Seconds news vs cs) : ∀ {i : Nat}, i < vs.length → ∃ T x c t, vs[i]? = some (.ref T) ∧ cs[i]? = some c ∧ (T, pairObj x (.int c t)) ∈ news := by
  induction h with
  | nil => intro i hi; simp at hi
  | cons hm _ ih =>
    intro i hi
    cases i with
    | zero => exact ⟨_, _, _, _, rfl, rfl, hm⟩
    | succ i =>
      obtain ⟨T, x, c, t, h1, h2, h3⟩ := ih (i := i) (by simpa using hi)
      exact ⟨T, x, c, t, by simpa using h1, by simpa using h2, h3⟩
theorem Seconds.length {news : Led} {vs : List Value} {cs : List Int} (h : Seconds news vs cs) : cs.length = vs.length := by
  induction h with
  | nil => rfl
  | cons _ _ ih => simp [ih]
section
variable {prog : Program} {w : World} {A : Around} {E : Value → Shared → Prop} {s : Shared} {h₀ : Heap} {L : Addr} {env : Env}
theorem comp_second {iter : PySem.Expr} {a b : Str} {pa pb pb' tp : Pos} {kk : Nat} {scope : Scope} {pos : Pos} {Q : Value → Shared → Prop}
    (hfree : ∀ x ∈ scope.names, x.2 ≠ .free) (hcell : ∀ x ∈ scope.names, x.2 ≠ .cell) (hkind : scope.kind = .function) (hnames : ∀ x ∈ scope.names, x.2 = .local → scope.names.lookup x.1 = some .local)
    (ha : scope.names.lookup a = some .local) (hb : scope.names.lookup b = some .local) (hdbg : (b == ("__debug__" : Str)) = false) (hh : A.handled = none)
    (h : wpAny (model prog w) A (eval iter env) (fun xv s₁ => ∃ m : Mp, ∃ D vs k cs news, xv = .ref D ∧ Fr h₀ L s₁.heap m ∧ News h₀ L s₁.heap news ∧ (D, listObj vs k) ∈ news ∧ Seconds news vs cs ∧ vs.length ≤ 1000 ∧
      ∀ X out j h' tk, IntsAre out cs → Fr h₀ L h' m → News h₀ L h' ((X, listObj out j) :: news) → (∀ q ∈ news, q.1 < X) → Q (.ref X) { s₁ with heap := h', toks := tk }) E s)
    (hs : ∀ x, foldedSetIterable iter env x = pure x := by intro _; rfl) :
    wpAny (model prog w) A (eval (.ListComp (.Name b pb') [⟨.Tuple [.Name a pa, .Name b pb] kk tp, iter, [], 0⟩] scope pos) env) Q E s := by
  refine wpAny_ListComp hfree hkind hnames (wpAny_mono h (fun xv s₁ h₁ => ?_) fun _ _ e => e) hs
  obtain ⟨m, D, vs, k, cs, news, rfl, F, N, hD, hS, hlen, hQ⟩ := h₁
  have hlD := (N _ hD).1
  refine wpAny_pyIter_list (items := vs.toArray) ⟨_, hlD, rfl, _, rfl⟩ ?_
  refine wpAny_newList ?_ (Nat.zero_le _)
  refine wpAny_newFunctionEnv hcell (by intro y hy; simp at hy) (fun h₁ hns hsb => ?_) hkind
  dsimp only at hns hsb ⊢
  have hi1 : (s₁.heap.push { cls := .type "list_iterator", data := .fields #[.ref D, .int 0 0] }).objs.size = s₁.heap.objs.size + 1 := Heap.size_push ..
  have hLlt : L < s₁.heap.objs.size := F.ns.lt
  have hI0 : (s₁.heap.push { cls := .type "list_iterator", data := .fields #[.ref D, .int 0 0] }).get? s₁.heap.objs.size = some { cls := .type "list_iterator", data := .fields #[.ref D, .int 0 0] } := Heap.get?_push_size _ rfl
  have old1 : ∀ c o, s₁.heap.get? c = some o → (s₁.heap.push { cls := .type "list_iterator", data := .fields #[.ref D, .int 0 0] }).get? c = some o := fun c o e => Heap.get?_push_of_some _ e
  generalize s₁.heap.push { cls := .type "list_iterator", data := .fields #[.ref D, .int 0 0] } = g1 at *
  have hi2 : (g1.push { cls := .type "list", data := .seq ([] : List Value).toArray }).objs.size = g1.objs.size + 1 := Heap.size_push ..
  have hX0 : (g1.push { cls := .type "list", data := .seq ([] : List Value).toArray }).get? g1.objs.size = some { cls := .type "list", data := .seq ([] : List Value).toArray } := Heap.get?_push_size _ rfl
  have old2 : ∀ c o, g1.get? c = some o → (g1.push { cls := .type "list", data := .seq ([] : List Value).toArray }).get? c = some o := fun c o e => Heap.get?_push_of_some _ e
  generalize g1.push { cls := .type "list", data := .seq ([] : List Value).toArray } = g2 at *
  have old3 : ∀ c o, g2.get? c = some o → h₁.get? c = some o := fun c o e => hsb.extBut c o (Nat.ne_of_lt (Heap.lt_size e)) (Heap.get?_push_of_some _ e)
  have n1 : s₁.heap.objs.size ≠ g1.objs.size := Nat.ne_of_lt (by rw [hi1]; exact Nat.lt_succ_self _)
  have n2 : s₁.heap.objs.size ≠ g2.objs.size := Nat.ne_of_lt (by rw [hi2, hi1]; exact Nat.lt_succ_of_lt (Nat.lt_succ_self _))
  have n3 : g1.objs.size ≠ g2.objs.size := Nat.ne_of_lt (by rw [hi2]; exact Nat.lt_succ_self _)
  have lo1 : ∀ c o, s₁.heap.get? c = some o → c ≠ s₁.heap.objs.size ∧ c ≠ g1.objs.size ∧ c ≠ g2.objs.size := fun c o e => by
    have := Heap.lt_size e
    refine ⟨Nat.ne_of_lt this, Nat.ne_of_lt ?_, Nat.ne_of_lt ?_⟩
    · rw [hi1]; exact Nat.lt_succ_of_lt this
    · rw [hi2, hi1]; exact Nat.lt_succ_of_lt (Nat.lt_succ_of_lt this)
  have lt1 : L < g1.objs.size := by rw [hi1]; exact Nat.lt_succ_of_lt hLlt
  have hlocC : (newEnv scope g2.objs.size env.globals [] env.qual none .none (some env) env.builtins).locals = g2.objs.size := rfl
  have fin : ∀ h' tk m' out, IntsAre out cs → h'.get? g1.objs.size = some (lst out) → h'.Ns g2.objs.size m' → (∀ c o, s₁.heap.get? c = some o → h'.get? c = some o) →
      ∃ m₂, h'.Ns g2.objs.size m₂ ∧ ∀ h'', Heap.SameBut g2.objs.size h' h'' → Q (.ref g1.objs.size) { s₁ with heap := h'', toks := tk } := by
    intro h' tk m' out hout hX hn' kp
    refine ⟨m', hn', fun h'' hs'' => ?_⟩
    have kp2 : ∀ c o, s₁.heap.get? c = some o → h''.get? c = some o := fun c o e => hs''.extBut c o (lo1 c o e).2.2 (kp c o e)
    refine hQ g1.objs.size out out.length h'' tk hout ⟨F.ns.at' fun o e => kp2 _ o e, fun b o e => kp2 b o (F.keep b o e), F.above⟩ (fun q hq => ?_) (fun q hq => by rw [hi1]; exact Nat.lt_succ_of_lt (Heap.lt_size (N q hq).1))
    rcases List.mem_cons.mp hq with rfl | hq
    · exact ⟨hs''.extBut _ _ n3 hX, Nat.ne_of_gt lt1, Heap.get?_none_of_le (Nat.le_trans F.above (Nat.le_of_lt lt1))⟩
    · exact ⟨kp2 _ _ (N q hq).1, (N q hq).2⟩
  have loop : ∀ s₃ : Shared, s₃ = { s₁ with heap := h₁, toks := s₁.toks + ([] : List (Str × Value)).length } →
      codeAny (model prog w) A (.compLoop (.ListComp (.Name b pb') [⟨.Tuple [.Name a pa, .Name b pb] kk tp, iter, [], 0⟩] scope pos) 0 (.ref s₁.heap.objs.size) (.ref g1.objs.size) { (newEnv scope g2.objs.size env.globals [] env.qual none .none (some env) env.builtins) with scope := scope })
        (fun r s' => ∃ m, s'.heap.Ns g2.objs.size m ∧ ∀ h', Heap.SameBut g2.objs.size s'.heap h' →
            match r with | .ok _ => Q (.ref g1.objs.size) { s' with heap := h' } | .error x => wpAny (model prog w) A (passOn "comprehension.variables-let-go" x { (newEnv scope g2.objs.size env.globals [] env.qual none .none (some env) env.builtins) with scope := scope }) Q E { s' with heap := h' }) s₃ := by
    rintro s₃ rfl
    refine kcp_loop (fun k s' => ∃ h' tk i out m', s' = { s₁ with heap := h', toks := tk } ∧ i ≤ vs.length ∧ k = vs.length + 1 - i ∧ IntsAre out (cs.take i) ∧ h'.IsListIter s₁.heap.objs.size D i ∧ h'.get? g1.objs.size = some (lst out) ∧ h'.Ns g2.objs.size m' ∧
      (∀ c o, s₁.heap.get? c = some o → h'.get? c = some o)) ?_ (vs.length + 1)
      ⟨h₁, _, 0, [], _, rfl, Nat.zero_le _, rfl, by rw [List.take_zero]; exact .nil, ⟨_, old3 _ _ (old2 _ _ hI0), rfl, rfl⟩, old3 _ _ hX0, hns, fun c o e => old3 _ _ (old2 _ _ (old1 _ _ e))⟩
    rintro k' s' ⟨h', tk, i, out, m', rfl, hi, rfl, hout, hit, hX, hn', kp⟩
    have hl' : h'.IsList D vs.toArray := ⟨_, kp _ _ hlD, rfl, _, rfl⟩
    by_cases hlt : i < vs.length
    · obtain ⟨T, x, c, t, e1, e2, e3⟩ := hS.at hlt
      refine wpAny_pyNext_list_item (x := .ref T) hit hl' (by simpa using e1) fun h₂ hit₂ hs₂ => ?_
      refine wpAny_letOwnedTupleGo_listiter hit₂ ?_
      have kp₂ : ∀ c o, s₁.heap.get? c = some o → h₂.get? c = some o := fun c o e => hs₂.extBut c o (lo1 c o e).1 (kp c o e)
      refine kcp_assign (env := { (newEnv scope g2.objs.size env.globals [] env.qual none .none (some env) env.builtins) with scope := scope }) hh (x := x) (y := .int c t) ⟨_, kp₂ _ _ (N _ e3).1, rfl, _, rfl⟩ ha hb (by simp [newEnv, hkind]) (hn'.sameBut hs₂ n2.symm) fun h₄ tk₄ hn₄ hs₄ => ?_
      refine wpAny_Name (wpAny_loadName_local (env := { (newEnv scope g2.objs.size env.globals [] env.qual none .none (some env) env.builtins) with scope := scope }) hkind hb hn₄ (v := .int c t) (if_pos rfl) ?_) hdbg
      have hX₄ : h₄.get? g1.objs.size = some (lst out) := hs₄ _ _ n3 (hs₂.extBut _ _ n1.symm hX)
      have kp₄ : ∀ c o, s₁.heap.get? c = some o → h₄.get? c = some o := fun c o e => hs₄ c o (lo1 c o e).2.2 (kp₂ c o e)
      have hol : out.length = i := by
        rw [hout.length, List.length_take, hS.length]
        omega
      refine append_at (hsz := by rw [List.size_toArray, sizeLine_eq]; omega) hX₄ fun h₆ hs₆ hX₆ => ?_
      obtain ⟨oI, hoI, r1, r2⟩ := hit₂
      refine ⟨vs.length + 1 - (i + 1), by omega, h₆, _, i + 1, out ++ [.int c t], _, rfl, hlt, rfl, ?_, ⟨oI, hs₆.extBut _ _ n1 (hs₄ _ _ n2 hoI), r1, r2⟩, ?_, hn₄.sameBut hs₆ n3.symm, fun c o e => hs₆.extBut c o (lo1 c o e).2.1 (kp₄ c o e)⟩
      · rw [List.take_add_one, e2]
        exact ksk_snoc hout
      · rw [hX₆]
        exact congrArg some (lst_snoc out _)
    · have e : i = vs.length := by omega
      subst e
      refine wpAny_pyNext_list_end hh hit hl' (by simp) fun h₂ hs₂ => ?_
      rw [← hS.length, List.take_length] at hout
      exact fin h₂ _ m' out hout (hs₂ _ _ n1.symm hX) (hn'.extBut hs₂ n2.symm) (fun c o e => hs₂ c o (lo1 c o e).1 (kp c o e))
  exact codeAny_compStart_list (loop _ rfl) (wpAny_pyIter_listiter ⟨_, old3 _ _ (old2 _ _ hI0), rfl, rfl⟩ (loop _ rfl))
end
end
end Mine
end
section
open PySem PySem.W PyProof.Rows PySem.Calls
namespace Mine
section
set_option maxHeartbeats 400000
theorem updF_upd {d : Addr} {o o' : Obj} {l : Led} {g : Obj → Led} (U : UpdF d o l g) : Upd d o o' l (g o') := by
  induction U with
  | head h => exact .head h
  | tail h _ ih => exact .tail h ih
section
variable {prog : Program} {w : World} {A : Around} {E : Value → Shared → Prop} {s : Shared} {h₀ : Heap} {L D b : Addr} {m : Mp} {news : Led} {g : Obj → Led} {xs ys : List Value} {n k : Nat} {Q : Value → Shared → Prop}
theorem app_any {x : Value} (F : Fr h₀ L s.heap m) (N : News h₀ L s.heap news) (U : UpdF D (listObj xs n) news g) (hz : xs.length ≤ 4000)
    (h : ∀ h' n', Fr h₀ L h' m → News h₀ L h' (g (listObj (xs ++ [x]) n')) → Q .none { s with heap := h' }) : wpAny (model prog w) A (call (.builtin "list.append") [.ref D, x]) Q E s := by
  obtain ⟨pre, post, rfl, hg, a, c⟩ := U.split
  have z := N (D, listObj xs n) (List.mem_append_right _ (.head _))
  refine append_at (hsz := by rw [List.size_toArray, sizeLine_eq]; omega) z.1 fun h' hs hx => ?_
  have e : ({ cls := .type "list", data := .seq (xs.toArray.push x) (n + 1) } : Obj) = listObj (xs ++ [x]) (n + 1) := by simp [listObj]
  rw [e] at hx
  exact h h' (n + 1) (F.change hs z.2.1 z.2.2) (hg _ ▸ N.setIn a c hs hx)
theorem ext_any (F : Fr h₀ L s.heap m) (N : News h₀ L s.heap news) (U : UpdF D (listObj xs n) news g) (hb : (b, listObj ys k) ∈ news) (hz : xs.length + ys.length ≤ 4000)
    (h : ∀ h' n', Fr h₀ L h' m → News h₀ L h' (g (listObj (xs ++ ys) n')) → Q .none { s with heap := h' }) : wpAny (model prog w) A (call (.builtin "list.extend") [.ref D, .ref b]) Q E s := by
  have hd : ¬(!xs.toArray.isEmpty && Builtin.List.listTooLong (xs.toArray.size + ys.toArray.size)) = true := by
    intro h9
    rw [Bool.and_eq_true] at h9
    have h10 := h9.2
    unfold Builtin.List.listTooLong at h10
    have h11 := of_decide_eq_true h10
    rw [sizeLine_eq] at h11
    simp at h11
    omega
  by_cases hy : ys = []
  · subst hy
    exact kxn_extend (its := xs.toArray) (its2 := #[]) F N hb rfl (updF_upd U) hd (by rw [sizeLine_eq]; simp at hz ⊢; omega) (by rw [sizeLine_eq]; simp at hz ⊢; omega) fun h' F' N' => h h' n F' (by simpa using N')
  · exact kl_extend (its := xs.toArray) (its2 := ys.toArray) F N hb rfl (by simpa using hy) (updF_upd U) hd (by rw [sizeLine_eq]; simp; omega) (by rw [sizeLine_eq]; simp; omega) fun h' F' N' => h h' (n + 1) F' (by simpa using N')
end
end
end Mine
end
section
open PySem PySem.W PyProof.Rows PySem.Calls
namespace Mine
section
local macro_rules | `(tactic| news_mem) => `(tactic| first | assumption | k_mem)
local macro_rules | `(tactic| k_all) => `(tactic| assumption)
local macro_rules | `(tactic| k_mem) => `(tactic| first | exact List.mem_cons_self | (refine List.mem_cons_of_mem _ ?_; k_mem) | ktr_member)
section
local macro_rules | `(tactic| walk_at "subscriptTail Attribute Name Slice ref ref") => `(tactic| (refine kba_turn (value' := PySem.Expr.Name (PySem.Str.ofString "_") ⟨0, 0, 0, 0⟩) (fun _ => rfl) ?_))
local macro_rules | `(tactic| walk_at "subscriptTail Attribute Name BinOp ref int") => `(tactic| (refine kba_turn (value' := PySem.Expr.Name (PySem.Str.ofString "_") ⟨0, 0, 0, 0⟩) (fun _ => rfl) ?_))
local macro_rules | `(tactic| walk_at "subscriptTail Name Slice ref ref") => `(tactic| ((first
  | refine slice_to (by k_asm) (by k_asm) (by k_mem) (by l_ints) (by omega) (by walk_at "len") ?_
  | refine slice_from (by k_asm) (by k_asm) (by k_mem) (by l_ints) (by omega) (by walk_at "len") ?_); intro D' ws' h' F' N' l1 hI'; (try k_lt l1); (try k_sweep)))
local macro_rules | `(tactic| k_put) => `(tactic| first | exact put_starts | exact put_values)
local macro_rules | `(tactic| walk_at "binaryOp Add ref ref") => `(tactic| ((refine add_mem (by k_asm) (by k_asm) (by k_mem) (by k_mem) (by walk_at "ints") (by walk_at "ints") (by walk_at "len") ?_); intro D' ws' h' F' N' l1 hI'; (try k_lt l1); (try k_sweep)))
section
set_option maxHeartbeats 4000000
theorem reg3 (w : World) : (model PySem.Challenge.rw_nt0032_01.row.prog w = model PySem.Challenge.rw_nt0032_01.row.prog w) ∧ K w.params = K w.params := by
  k_fill
  exact ⟨rfl, rfl⟩
section
variable {w : World} {p : Program} {loose : List Str} {mean : ExcName → Option Value} {mg mb : Mp} {dp un : Nat} {gd : Option (List Code)} {cn : Str} {cs : Scope} {a : Addr} {ccd : Value} {cl : List (Str × Addr)} {outer : List Env} {A₀ : Around} {base h₀ : Heap} {L : Addr} {m : Mp} {news : Led} {s : Shared} {Q : Value → Shared → Prop}
/-- what put lays between, and what of it remains -/
def putMid (behind lowv c v : Int) : List Int × List Int :=
  let a := if behind = v then ([c], [v]) else ([c, c + 1], [v, behind])
  if lowv = v then (a.1.drop 1, a.2.drop 1) else a
def PutMid (g : Heap) (L' : Addr) (s : Shared) (x dx : Addr) (D : Obj) (rest : Led) (ns vals : List Int) (c0 v0 : Int) (s' : Shared) : Prop :=
  ∃ h tk m' l1 l2 k1 k2 its1 its2 lt ht r r', s' = { s with heap := h, toks := tk } ∧ Fr g L' h m' ∧ Knows [(Str.ofString "self", .ref x), (Str.ofString "low", .int (r - 1 + 1) lt), (Str.ofString "high", .int (r' - 1 + 1) ht), (Str.ofString "starts", .ref l1), (Str.ofString "values", .ref l2)] m' ∧
    News g L' h ((l1, ({ cls := .type "list", data := .seq its1 k1 } : Obj)) :: (l2, { cls := .type "list", data := .seq its2 k2 }) :: (dx, D) :: rest) ∧
    IntsAre its1.toList (putMid (vals.getD (r' - 1).toNat 0) (vals.getD (r - 1).toNat 0) c0 v0).1 ∧ IntsAre its2.toList (putMid (vals.getD (r' - 1).toNat 0) (vals.getD (r - 1).toNat 0) c0 v0).2 ∧ PlaceAt ns (c0 - 1) r ∧ PlaceAt ns (c0 + 1) r'
theorem allLtMem {d : Addr} : ∀ {l : Led}, AllLt d l → ∀ q ∈ l, q.1 < d
  | [], _, _, hq => nomatch hq
  | _ :: _, h, q, hq => by
    rcases List.mem_cons.mp hq with rfl | hq
    · exact h.1
    · exact allLtMem h.2 q hq
theorem News.cons' {h₀ h : Heap} {L : Addr} {p : Addr × Obj} {l l' : Led} (N : News h₀ L h l) (hm : p ∈ l) (N' : News h₀ L h l') : News h₀ L h (p :: l') := fun q hq => by
  rcases List.mem_cons.mp hq with rfl | hq
  · exact N _ hm
  · exact N' q hq
/-- RangeMap.put at one code -/
theorem rput_spec {x dx st vl : Addr} {t1 t2 t3 : Tok} {g1 g2 g3 : Int} {j k1 k2 : Nat} {dv : Value} {sv vv : List Value} {ns vals : List Int} {c0 v0 : Int} {ct ct' vt : Tok} (c : Cx w p loose mean mg mb outer A₀ base h₀ L m news s cs dp un 6 120)
    (m1 : (x, instObj 261 dx) ∈ news) (m2 : (dx, dictOf [⟨g1, .str (Str.ofString "default") t1, dv⟩, ⟨g2, .str (Str.ofString "starts") t2, .ref st⟩, ⟨g3, .str (Str.ofString "values") t3, .ref vl⟩] j) ∈ news)
    (m3 : (st, listObj sv k1) ∈ news) (m4 : (vl, listObj vv k2) ∈ news) (hi : IntsAre sv ns) (hj : IntsAre vv vals)
    (hlen : ns.length < 900) (hs : ns.Pairwise (· < ·)) (hvl : vals.length = ns.length) (h0 : ns.head? = some 0) (hc : 0 < c0) (hc' : c0 < 1000)
    (ret : ∀ news' st' vl' k1' k2' sv' vv' r r' h' tk', PlaceAt ns (c0 - 1) r → PlaceAt ns (c0 + 1) r' →
      IntsAre sv' (ns.take r.toNat ++ (putMid (vals.getD (r' - 1).toNat 0) (vals.getD (r - 1).toNat 0) c0 v0).1 ++ ns.drop r'.toNat) →
      IntsAre vv' (vals.take r.toNat ++ (putMid (vals.getD (r' - 1).toNat 0) (vals.getD (r - 1).toNat 0) c0 v0).2 ++ vals.drop r'.toNat) →
      (∀ q ∈ news, q.1 ≠ dx → q ∈ news') → (dx, dictOf [⟨g1, .str (Str.ofString "default") t1, dv⟩, ⟨g2, .str (Str.ofString "starts") t2, .ref st'⟩, ⟨g3, .str (Str.ofString "values") t3, .ref vl'⟩] j) ∈ news' →
      (st', listObj sv' k1') ∈ news' → (vl', listObj vv' k2') ∈ news' → (∀ q ∈ news, q.1 < st' ∧ q.1 < vl') →
      Fr h₀ L h' m → News h₀ L h' news' → Q .none { s with heap := h', toks := tk' }) :
    wpAny (md w) (ktrTop dp un gd cn cs L a ccd cl outer) (call (.ref 246) [.ref x, .int c0 ct, .int c0 ct', .int v0 vt]) Q (fun _ _ => False) s := by
  have hd := c.hd
  have hu := c.hu
  refine wpAny_call (enter (qual := Str.ofString "RangeMap.put") [(Str.ofString "self", .ref x), (Str.ofString "first", .int c0 ct), (Str.ofString "last", .int c0 ct'), (Str.ofString "value", .int v0 vt)]
    (fun v news' => v = .none ∧ ∃ st' vl' k1' k2' sv' vv' r r', PlaceAt ns (c0 - 1) r ∧ PlaceAt ns (c0 + 1) r' ∧
      IntsAre sv' (ns.take r.toNat ++ (putMid (vals.getD (r' - 1).toNat 0) (vals.getD (r - 1).toNat 0) c0 v0).1 ++ ns.drop r'.toNat) ∧
      IntsAre vv' (vals.take r.toNat ++ (putMid (vals.getD (r' - 1).toNat 0) (vals.getD (r - 1).toNat 0) c0 v0).2 ++ vals.drop r'.toNat) ∧
      (∀ q ∈ news, q.1 ≠ dx → q ∈ news') ∧ (dx, dictOf [⟨g1, .str (Str.ofString "default") t1, dv⟩, ⟨g2, .str (Str.ofString "starts") t2, .ref st'⟩, ⟨g3, .str (Str.ofString "values") t3, .ref vl'⟩] j) ∈ news' ∧
      (st', listObj sv' k1') ∈ news' ∧ (vl', listObj vv' k2') ∈ news' ∧ (∀ q ∈ news, q.1 < st' ∧ q.1 < vl')) c
    (by k_is) (by k_is) (BindsTo.of_eq rfl) rfl rfl rfl rfl (by decide) ?_
    (by rintro v news' h' tk' ⟨rfl, st', vl', k1', k2', sv', vv', r, r', e1, e2, e3, e4, e5, e6, e7, e8, e9⟩ F' N'; exact ret news' st' vl' k1' k2' sv' vv' r r' h' tk' e1 e2 e3 e4 e5 e6 e7 e8 e9 F' N'))
  clear ret c
  intro g L' h' tk' F' N' B' X' T' _
  have N1 := News.front N' m2
  have hrest : ∀ q ∈ minus dx news, q.1 ≠ dx := minus_ne
  have n1 : (x, instObj 261 dx) ∈ minus dx news := mem_minus.mpr ⟨m1, listEq (N' _ m1).1 (N' _ m2).1 ref_type⟩
  have n3 : (st, listObj sv k1) ∈ minus dx news := mem_minus.mpr ⟨m3, listEq (N' _ m3).1 (N' _ m2).1 list_dict⟩
  have n4 : (vl, listObj vv k2) ∈ minus dx news := mem_minus.mpr ⟨m4, listEq (N' _ m4).1 (N' _ m2).1 list_dict⟩
  clear N' m1 m2 m3 m4
  refine execs_cut 7 (Mid := PutMid g L' s x dx (dictOf [⟨g1, .str (Str.ofString "default") t1, dv⟩, ⟨g2, .str (Str.ofString "starts") t2, .ref st⟩, ⟨g3, .str (Str.ofString "values") t3, .ref vl⟩] j) (minus dx news) ns vals c0 v0) ?_ ?_
  · refine wp_gen fun Q₁ hQ => ?_
    repeat' (first | ((with_reducible show wpAny _ _ (execs (_ :: _) _) _ _ _); walk1; (try dsimp only)) | ((fail_if_success (with_reducible show wpAny _ _ (exec (Stmt.While _ _ _ _) _) _ _ _); fail_if_success (with_reducible show wpAny _ _ (exec (Stmt.For _ _ _ _ _) _) _ _ _); fail_if_success (with_reducible show wpAny _ _ (call (Value.ref _) _) _ _ _)); walk1) | (dsimp only; walk1))
    refine place_spec (vs := sv) (k := k1) (ns := ns) ⟨by k_asm, by k_asm, by k_asm, by k_asm, by k_asm, rfl, by show dp + 1 + 2 < _; omega, by show un + 3 + 40 < _; omega⟩ (List.mem_cons_of_mem _ n3) hi (by omega) hs ?_
    intro r t h₂ tk₂ hp F₂ N₂
    have q1 := place_pos hp h0 (by omega)
    have q2 : r ≤ vals.length := by rw [hvl]; exact hp.2.1
    try clear F' N1
    repeat' (first | ((with_reducible show wpAny _ _ (execs (_ :: _) _) _ _ _); walk1; (try dsimp only)) | ((fail_if_success (with_reducible show wpAny _ _ (exec (Stmt.While _ _ _ _) _) _ _ _); fail_if_success (with_reducible show wpAny _ _ (exec (Stmt.For _ _ _ _ _) _) _ _ _); fail_if_success (with_reducible show wpAny _ _ (call (Value.ref _) _) _ _ _)); walk1) | (dsimp only; walk1))
    refine place_spec (vs := sv) (k := k1) (ns := ns) ⟨by k_asm, by k_asm, by k_asm, by k_asm, by k_asm, rfl, by show dp + 1 + 2 < _; omega, by show un + 3 + 40 < _; omega⟩ (List.mem_cons_of_mem _ n3) hi (by omega) hs ?_
    intro r' t' h₃ tk₃ hp' F₃ N₃
    have q3 := place_pos hp' h0 (by omega)
    have q4 : r' ≤ vals.length := by rw [hvl]; exact hp'.2.1
    repeat' (first | ((with_reducible show wpAny _ _ (execs (_ :: _) _) _ _ _); walk1; (try dsimp only)) | ((fail_if_success (with_reducible show wpAny _ _ (exec (Stmt.While _ _ _ _) _) _ _ _); fail_if_success (with_reducible show wpAny _ _ (exec (Stmt.For _ _ _ _ _) _) _ _ _); fail_if_success (with_reducible show wpAny _ _ (call (Value.ref _) _) _ _ _)); walk1) | (dsimp only; walk1))
    refine like_spec ⟨by k_asm, by k_asm, by k_asm, by k_asm, by k_asm, rfl, by show dp + 1 + 2 < _; omega, by show un + 3 + 40 < _; omega⟩ ?_
    intro h₄ tk₄ F₄ N₄
    repeat' (first | ((with_reducible show wpAny _ _ (execs (_ :: _) _) _ _ _); walk1; (try dsimp only)) | ((fail_if_success (with_reducible show wpAny _ _ (exec (Stmt.While _ _ _ _) _) _ _ _); fail_if_success (with_reducible show wpAny _ _ (exec (Stmt.For _ _ _ _ _) _) _ _ _); fail_if_success (with_reducible show wpAny _ _ (call (Value.ref _) _) _ _ _)); walk1) | (dsimp only; walk1))
    all_goals refine like_spec ⟨by k_asm, by k_asm, by k_asm, by k_asm, by k_asm, rfl, by show dp + 1 + 2 < _; omega, by show un + 3 + 40 < _; omega⟩ ?_
    all_goals intro h₅ tk₅ F₅ N₅
    all_goals repeat' (first | ((with_reducible show wpAny _ _ (execs (_ :: _) _) _ _ _); walk1; (try dsimp only)) | ((fail_if_success (with_reducible show wpAny _ _ (exec (Stmt.While _ _ _ _) _) _ _ _); fail_if_success (with_reducible show wpAny _ _ (exec (Stmt.For _ _ _ _ _) _) _ _ _); fail_if_success (with_reducible show wpAny _ _ (call (Value.ref _) _) _ _ _)); walk1) | (dsimp only; walk1))
    all_goals (dsimp only; refine wpAny_execs_nil ?_; refine hQ _ _ ?_; dsimp only)
    all_goals (rename Fr _ _ _ _ => F6; rename News _ _ _ _ => N6)
    all_goals refine ⟨_, _, _, _, _, _, _, _, _, _, _, r, r', rfl, F6, ⟨rfl, rfl, rfl, rfl, rfl, trivial⟩, News.cons' N6 (by k_mem) (News.cons' N6 (by k_mem) (News.cons' N6 (by k_mem) (fun q hq => N6 q (by repeat (first | exact hq | refine List.mem_cons_of_mem _ ?_))))), ?_, ?_, hp, hp'⟩
    all_goals simp only [show r' - 1 + 1 - 1 = r' - 1 from by omega, show r - 1 + 1 - 1 = r - 1 from by omega] at *
    all_goals (simp only [putMid]; (repeat' split) <;> first | contradiction | assumption | exact IntsAre.cons _ _ (IntsAre.cons _ _ .nil) | exact IntsAre.cons _ _ .nil | exact .nil)
  · rintro s' ⟨h₆, tk₆, m', l1, l2, q1, q2, its1, its2, lt, ht, r, r', rfl, F6, hm, N6, e1, e2, hp, hp'⟩
    rw [hm.ov] at F6
    have p1 := place_pos hp h0 (by omega)
    have p2 : r ≤ vals.length := by rw [hvl]; exact hp.2.1
    have p3 := place_pos hp' h0 (by omega)
    have p4 : r' ≤ vals.length := by rw [hvl]; exact hp'.2.1
    have d1 : l1 ≠ dx := listEq (N6 _ (.head _)).1 (N6 _ (.tail _ (.tail _ (.head _)))).1 list_dict
    have d2 : l2 ≠ dx := listEq (N6 _ (.tail _ (.head _))).1 (N6 _ (.tail _ (.tail _ (.head _)))).1 list_dict
    have z1 : (putMid (vals.getD (r' - 1).toNat 0) (vals.getD (r - 1).toNat 0) c0 v0).1.length ≤ 2 := by simp only [putMid]; (repeat' split) <;> simp
    have z2 : (putMid (vals.getD (r' - 1).toNat 0) (vals.getD (r - 1).toNat 0) c0 v0).2.length ≤ 2 := by simp only [putMid]; (repeat' split) <;> simp
    generalize hpm : putMid (vals.getD (r' - 1).toNat 0) (vals.getD (r - 1).toNat 0) c0 v0 = pm at *
    clear N1 F'
    refine wp_gen fun Q₁ hQ => ?_
    repeat' (first | ((with_reducible show wpAny _ _ (execs (_ :: _) _) _ _ _); walk1; (try dsimp only)) | ((fail_if_success (with_reducible show wpAny _ _ (exec (Stmt.While _ _ _ _) _) _ _ _); fail_if_success (with_reducible show wpAny _ _ (exec (Stmt.For _ _ _ _ _) _) _ _ _); fail_if_success (with_reducible show wpAny _ _ (call (Value.ref _) _) _ _ _)); walk1) | (dsimp only; walk1))
    rename Fr _ _ _ _ => F7
    rename News _ _ _ _ => N7
    simp only [show r' - 1 + 1 = r' from by omega, show r - 1 + 1 = r from by omega] at *
    have key : ∀ {D : Addr}, dx < D → AllLt D (minus dx news) → ∀ q ∈ news, q.1 < D := fun h1 h2 q hq => by
      by_cases e : q.1 = dx
      · rw [e]
        exact h1
      · exact allLtMem h2 q (mem_minus.mpr ⟨hq, e⟩)
    repeat (rename _ < _ ∧ _ => hh; rcases hh with ⟨_, _⟩)
    refine hQ _ _ <| RetAt.next F7 N7 ⟨rfl, _, _, _, _, _, _, r, r', hp, hp', by rw [hpm]; assumption, by rw [hpm]; assumption, fun q hq hne => ?_, by k_mem, by k_mem, by k_mem, fun q hq => ⟨key (by assumption) (by assumption) q hq, key (by assumption) (by assumption) q hq⟩⟩
    have hq2 := mem_minus.mpr ⟨hq, hne⟩
    repeat (first | exact hq2 | refine List.mem_cons_of_mem _ ?_)
end
end
end
section
set_option maxHeartbeats 4000000
theorem reg4 (w : World) : (model PySem.Challenge.rw_nt0032_01.row.prog w = model PySem.Challenge.rw_nt0032_01.row.prog w) ∧ K w.params = K w.params := by
  k_fill
  exact ⟨rfl, rfl⟩
section
variable {w : World} {p : Program} {loose : List Str} {mean : ExcName → Option Value} {mg mb : Mp} {dp un d u : Nat} {gd : Option (List Code)} {cn : Str} {cs : Scope} {a : Addr} {ccd : Value} {cl : List (Str × Addr)} {outer : List Env} {A₀ : Around} {base h₀ : Heap} {L : Addr} {m : Mp} {news : Led} {s : Shared} {Q : Value → Shared → Prop}
  {name qual : Str} {params : Arguments} {body : List Stmt} {scope : Scope} {dV kV doc pm cdv ct oc : Value} {an od : Option Addr} {osl : Array (Option Value)} {f C : Addr} {args : Args} {pos : List Value} {R : Result → Shared → Prop}
/-- enter for any use of the answer -/
theorem enterR (binds : List (Str × Value)) (Post : Value → Led → Prop) (c : Cx w p loose mean mg mb outer A₀ base h₀ L m news s cs dp un d u)
    (ho : (K w.params).lookup f = some ⟨oc, od, .func (fnOf name qual params body scope dV kV doc pm an cdv ct), osl⟩) (hcd : codeIn (K w.params) cdv qual = true)
    (hbind : BindsTo s (fnOf name qual params body scope dV kV doc pm an cdv ct) args binds) (hloc : (binds.all fun x => decide (scope.names.lookup x.1 = some .local)) = true)
    (hco : scope.isCoroutine = false) (hgen : scope.isGenerator = false) (hk : scope.kind = .function) (hcell : ∀ x ∈ scope.names, x.2 ≠ .cell)
    (walk : ∀ g L' h₁ tk, Fr g L' h₁ (fun y => binds.reverse.lookup y) → News g L' h₁ news → Below (ktrTop dp un gd cn cs L a ccd cl outer) base (envX cn cs L a ccd cl :: outer) g → (K w.params).In g → Top p loose mean mg mb g → (∀ q ∈ news, q.1 ≠ L') →
      wpAny (md w) ((ktrTop dp un gd cn cs L a ccd cl outer).deeper (envOf qual scope L' f cdv)) (execs body (envOf qual scope L' f cdv)) (RetAt g L' s Post) (fun _ _ => False) { s with heap := h₁, toks := tk })
    (ret : ∀ v news' h' tk', Post v news' → Fr h₀ L h' m → News h₀ L h' news' → R (.ok (.ret v)) { s with heap := h', toks := tk' }) :
    codeAny (md w) (ktrTop dp un gd cn cs L a ccd cl outer) (.call (.ref f) args) R s := by
  refine code_def c.B c.F c.X c.N c.T rfl rfl c.hk ho hcd (by have := c.hd; show dp < _; omega) hbind (locs hloc) ?_ hco hgen hk hcell
  intro g L' h₁ FG F' N' B' X' T'
  refine wpAny_mono (walk g L' h₁ _ F' N' B' X' T' (fun q hq => (N' q hq).2.1)) ?_ (fun _ _ h => h.elim)
  rintro fl s' ⟨v, h', tk, m', news', hv, rfl, F₂, N₂, hp⟩
  subst hv
  cases fl <;> exact leaveK_ F₂ N₂ fun F₃ N₃ => ret _ news' _ _ hp F₃ N₃
/-- a call of a class of the text with an __init__ of the text -/
theorem make (binds : Addr → List (Str × Value)) (Post : Addr → Led → Prop) (c : Cx w p loose mean mg mb outer A₀ base h₀ L m news s cs dp un (d + 1) (u + 2))
    (hm : makesIn (K w.params) C = true) (hi : findIn (K w.params) (.ref C) "__init__" = some (some (.ref f))) (hf : isFn (K w.params) (.ref f) = true)
    (ho : (K w.params).lookup f = some ⟨oc, od, .func (fnOf name qual params body scope dV kV doc pm an cdv ct), osl⟩) (hcd : codeIn (K w.params) cdv qual = true)
    (hbind : ∀ x s, BindsTo s (fnOf name qual params body scope dV kV doc pm an cdv ct) ⟨.ref x :: pos, []⟩ (binds x)) (hloc : ∀ x, ((binds x).all fun x => decide (scope.names.lookup x.1 = some .local)) = true)
    (hco : scope.isCoroutine = false) (hgen : scope.isGenerator = false) (hk : scope.kind = .function) (hcell : ∀ x ∈ scope.names, x.2 ≠ .cell)
    (walk : ∀ x dx gd' un' g L' h₁ tk, un' ≤ un + 2 → Fr g L' h₁ (fun y => (binds x).reverse.lookup y) → News g L' h₁ ((x, instObj C dx) :: (dx, dictOf [] 0) :: news) → Below (ktrTop (dp + 1) un' gd' cn cs L a ccd cl outer) base (envX cn cs L a ccd cl :: outer) g → (K w.params).In g → Top p loose mean mg mb g → (∀ q ∈ news, q.1 < dx ∧ q.1 ≠ L') → dx < x →
      wpAny (md w) ((ktrTop (dp + 1) un' gd' cn cs L a ccd cl outer).deeper (envOf qual scope L' f cdv)) (execs body (envOf qual scope L' f cdv)) (RetAt g L' s (fun v news' => v = .none ∧ Post x news')) (fun _ _ => False) { s with heap := h₁, toks := tk })
    (ret : ∀ x news' h' tk', Post x news' → Fr h₀ L h' m → News h₀ L h' news' → Q (.ref x) { s with heap := h', toks := tk' }) :
    wpAny (md w) (ktrTop dp un gd cn cs L a ccd cl outer) (call (.ref C) pos) Q (fun _ _ => False) s := by
  refine call_cls c.F c.X c.N hm hi hf ?_
  intro x dx h' F' N' l1 l2
  obtain ⟨B, F, X, N, T, hk', hd, hu⟩ := c
  have hcu : (Code.builtin "type.__call__" { pos := Value.ref C :: pos }).cUnits ≤ 2 := by
    show 1 + 3 * 0 ≤ 2
    omega
  change codeAny (md w) (ktrTop (dp + 1) (un + _) (pushGuards _ gd) cn cs L a ccd cl outer) _ _ _
  refine enterR (s := { s with heap := h' }) (d := d) (u := u) (binds x) (fun v news' => v = .none ∧ Post x news') ⟨B, F', X, N', T, hk', ?_, ?_⟩ ho hcd (hbind x _) (hloc x) hco hgen hk hcell ?_ ?_
  · omega
  · exact Nat.lt_of_le_of_lt (Nat.add_le_add_right (Nat.add_le_add_left (hcu) un) u) (by omega)
  · intro g L' h₁ tk F₂ N₂ B₂ X₂ T₂ hne
    refine walk x dx _ _ g L' h₁ tk ?_ F₂ N₂ B₂ X₂ T₂ (fun q hq => ⟨l1 q hq, hne q (.tail _ (.tail _ hq))⟩) l2
    exact Nat.add_le_add_left hcu un
  · intro v news' h₂ tk₂ hp F₂ N₂
    exact ⟨hp.1, ret x news' h₂ tk₂ hp.2 F₂ N₂⟩
end
section
variable {w : World} {p : Program} {loose : List Str} {mean : ExcName → Option Value} {mg mb : Mp} {dp un : Nat} {gd : Option (List Code)} {cn : Str} {cs : Scope} {a : Addr} {ccd : Value} {cl : List (Str × Addr)} {outer : List Env} {A₀ : Around} {base h₀ : Heap} {L : Addr} {m : Mp} {news : Led} {s : Shared} {Q : Value → Shared → Prop}
/-- RangeMap(dv) -/
theorem rnew_spec {dv : Value} (c : Cx w p loose mean mg mb outer A₀ base h₀ L m news s cs dp un 4 10)
    (ret : ∀ x dx st vl t1 t2 t3 g1 g2 g3 j k1 k2 t0 h' tk', Fr h₀ L h' m → News h₀ L h' ((vl, listObj [dv] k2) :: (st, listObj [.int 0 t0] k1) :: (x, instObj 261 dx) :: (dx, dictOf [⟨g1, .str (Str.ofString "default") t1, dv⟩, ⟨g2, .str (Str.ofString "starts") t2, .ref st⟩, ⟨g3, .str (Str.ofString "values") t3, .ref vl⟩] j) :: news) →
      (∀ q ∈ news, q.1 ≠ dx ∧ q.1 ≠ x ∧ q.1 ≠ st ∧ q.1 ≠ vl) →
      Q (.ref x) { s with heap := h', toks := tk' }) :
    wpAny (md w) (ktrTop dp un gd cn cs L a ccd cl outer) (call (.ref 261) [dv]) Q (fun _ _ => False) s := by
  refine make (d := 3) (u := 8) (fun x => [(Str.ofString "self", .ref x), (Str.ofString "default", dv)]) (fun x N => ∃ dx st vl t1 t2 t3 g1 g2 g3 j k1 k2 t0, N = ((vl, listObj [dv] k2) :: (st, listObj [.int 0 t0] k1) :: (x, instObj 261 dx) :: (dx, dictOf [⟨g1, .str (Str.ofString "default") t1, dv⟩, ⟨g2, .str (Str.ofString "starts") t2, .ref st⟩, ⟨g3, .str (Str.ofString "values") t3, .ref vl⟩] j) :: news) ∧ (∀ q ∈ news, q.1 ≠ dx ∧ q.1 ≠ x ∧ q.1 ≠ st ∧ q.1 ≠ vl)) c rfl rfl rfl rfl rfl (fun x s => BindsTo.of_eq rfl) (fun x => rfl) rfl rfl rfl (by decide) ?_ ?_
  · intro x dx gd' un' g L' h₁ tk hun F₂ N₂ B₂ X₂ T₂ hne hlt
    obtain ⟨B, F, X, N, T, hk, hd, hu⟩ := c
    clear B F X N T
    k_lt2 hlt
    have hn1 : ∀ q ∈ news, q.1 ≠ dx := fun q hq => Nat.ne_of_lt (hne q hq).1
    refine @wp_gen Flow _ _ _ _ _ _ ?_
    intro Q₀ hQ₀
    repeat' (first | ((with_reducible show wpAny _ _ (execs (_ :: _) _) _ _ _); walk1; (try dsimp only)) | ((fail_if_success (with_reducible show wpAny _ _ (exec (Stmt.While _ _ _ _) _) _ _ _); fail_if_success (with_reducible show wpAny _ _ (exec (Stmt.For _ _ _ _ _) _) _ _ _); fail_if_success (with_reducible show wpAny _ _ (call (Value.ref _) _) _ _ _)); walk1) | (dsimp only; walk1))
    rename Fr _ _ _ _ => F6
    rename News _ _ _ _ => N6
    exact hQ₀ _ _ <| RetAt.next F6 N6 ⟨rfl, _, _, _, _, _, _, _, _, _, _, _, _, _, rfl, (fun q hq => by have h9 := ltN (hne q hq).1; refine ⟨?_, ?_, ?_, ?_⟩ <;> (refine neN ?_; omega))⟩
  · rintro x news' h' tk' ⟨dx, st, vl, t1, t2, t3, g1, g2, g3, j, k1, k2, t0, rfl, ho⟩ F N
    exact ret _ _ _ _ _ _ _ _ _ _ _ _ _ _ _ _ F N ho
end
end
end
end Mine
end
section
open PySem PySem.W PyProof.Rows PySem.Calls PySem.Spec
namespace Mine
section
set_option maxHeartbeats 4000000
theorem valueAt_stored {K : Type} [DecidableEq K] (kvs : List (K × Value)) (k : K) (v : Value) (q : K) : valueAt (stored kvs k v) q = if q = k then some v else valueAt kvs q := by
  have key : ∀ l : List (K × Value), l.any (fun kv => kv.1 = k) = true → valueAt (l.map (fun kv => if kv.1 = k then (kv.1, v) else kv)) q = if q = k then some v else valueAt l q := by
    intro l
    induction l with
    | nil => intro h; simp at h
    | cons p r ih =>
      intro h
      unfold valueAt at ih ⊢
      by_cases e : p.1 = k
      · by_cases e2 : q = k
        · simp [e, e2]
        · have e3 : ¬ p.1 = q := fun x => e2 (x ▸ e)
          have e4 : ¬ k = q := fun x => e2 x.symm
          rw [List.map_cons, if_pos e, List.find?_cons_of_neg (by simpa using e3), List.find?_cons_of_neg (by simpa using e3), if_neg e2]
          by_cases hr : r.any (fun kv => kv.1 = k) = true
          · have := ih hr
            rw [if_neg e2] at this
            exact this
          · congr 1
            clear ih h
            induction r with
            | nil => rfl
            | cons p' r' ih' =>
              have hp' : ¬ p'.1 = k := fun x => hr (by simp [x])
              rw [List.map_cons, if_neg hp', List.find?_cons, List.find?_cons]
              split
              · rfl
              · exact ih' (fun x => hr (by simp [List.any_cons, x]))
      · have hr : r.any (fun kv => kv.1 = k) = true := by simpa [List.any_cons, e] using h
        rw [List.map_cons, if_neg e]
        by_cases e5 : p.1 = q
        · have e2 : ¬ q = k := fun x => e (e5.trans x)
          rw [List.find?_cons_of_pos (by simpa using e5), List.find?_cons_of_pos (by simpa using e5), if_neg e2]
        · rw [List.find?_cons_of_neg (by simpa using e5), List.find?_cons_of_neg (by simpa using e5)]
          exact ih hr
  unfold stored
  by_cases h : kvs.any (fun kv => kv.1 = k) = true
  · rw [if_pos h]
    exact key kvs h
  · rw [if_neg h]
    unfold valueAt
    rw [List.find?_append]
    by_cases e2 : q = k
    · subst e2
      have : (kvs.find? fun kv => decide (kv.1 = q)) = none := by
        rw [List.find?_eq_none]
        intro x hx hq
        exact h (List.any_eq_true.mpr ⟨x, hx, hq⟩)
      rw [this]
      simp
    · have : ([(k, v)].find? fun kv => decide (kv.1 = q)) = none := by
        rw [List.find?_cons_of_neg (by simpa using fun x => e2 x.symm)]
        rfl
      rw [this, if_neg e2]
      simp
abbrev tupObj' (vs : List Value) (k : Nat) : Obj := { cls := .type "tuple", data := .seq vs.toArray k }
section
variable {prog : Program} {w : World} {A : Around} {s : Shared} {env : Env} {body : List Stmt} {Q : Flow → Shared → Prop} {h₀ : Heap} {L : Addr}
/-- over a tuple of the ledger -/
theorem ForAt.tuple {target : PySem.Expr} {l : Addr} {vs : List Value} {k : Nat} {m : Mp} {news : Led} (J : Nat → Mp → Led → Prop) (hh : A.handled = none)
    (F : Fr h₀ L s.heap m) (N : News h₀ L s.heap news) (hJ : J 0 m news) (keep : ∀ i m news, J i m news → (l, tupObj' vs k) ∈ news)
    (turn : ∀ i v m₁ news₁ h tk I o, vs[i]? = some v → J i m₁ news₁ → (∀ p ∈ news₁, p.1 ≠ I) → Fr h₀ L h m₁ → News h₀ L h (news₁ ++ [(I, o)]) →
      wpAny (model prog w) A (assign target env v) (fun _ s₂ => wpAny (model prog w) A (execs body env) (FEnd h₀ L (J (i + 1)) I o s Q) (fun _ _ => False) s₂) (fun _ _ => False) { s with heap := h, toks := tk })
    (done : ∀ m₁ news₁ h tk, J vs.length m₁ news₁ → Fr h₀ L h m₁ → News h₀ L h news₁ → Q .next { s with heap := h, toks := tk })
    (ht : ∀ it v, letOwnedTupleGo target it v = pure () := by intro _ _; rfl) : ForAt prog w A env target body Q (.ref l) s := by
  have hl := (N _ (keep _ _ _ hJ)).1
  refine wpAny_pyIter_tuple (items := vs.toArray) ⟨_, hl, rfl, _, rfl⟩ ?_
  have hlt := Heap.lt_size hl
  refine for_loop (s := { s with heap := s.heap.push { cls := .type "tuple_iterator", data := .fields #[.ref l, .int 0 0] } }) (I := s.heap.objs.size) (need := [(l, tupObj' vs k)]) (n := vs.length) (P := fun i v => vs[i]? = some v) (St := fun i o => o.cls = .type "tuple_iterator" ∧ o.data = .fields #[.ref l, .int i 0]) J ?_ (fresh_none F) (Nat.ne_of_gt F.ns.lt)
    (fun q hq => Nat.ne_of_lt (Heap.lt_size (N q hq).1)) (Heap.get?_push_size _ rfl) ⟨rfl, rfl⟩ (F.push _) (fun q hq => ⟨Heap.get?_push_of_some _ (N q hq).1, (N q hq).2⟩) hJ
    (fun i m news h q hq => by obtain rfl := List.mem_singleton.mp hq; exact keep i m news h) (ht _) (fun i v m₁ news₁ h tk o _ hP hJ₁ hn₁ F₁ N₁ => turn i v m₁ news₁ h tk _ o hP hJ₁ hn₁ F₁ N₁) (fun m₁ news₁ h tk hJ₁ F₁ N₁ => done m₁ news₁ h tk hJ₁ F₁ N₁)
  constructor
  · intro i s o Q E hi ho hst hnd hQ
    have hl' := hnd (l, tupObj' vs k) (.head _)
    refine wpAny_pyNext_tuple_item (it := _) (t := l) (i := i) (items := vs.toArray) (x := vs[i]) ⟨o, ho, hst⟩ ⟨_, hl', rfl, _, rfl⟩ (by simp [hi]) fun h' hit hs => ?_
    obtain ⟨o', ho', hc', hd'⟩ := hit
    exact hQ _ h' _ o' (by simp [hi]) ho' ⟨hc', hd'⟩ hs
  · intro s o Q E ho hst hnd hQ
    have hl' := hnd (l, tupObj' vs k) (.head _)
    exact wpAny_pyNext_tuple_end hh ⟨o, ho, hst⟩ ⟨_, hl', rfl, _, rfl⟩ (by simp) fun h' hs => hQ h' _ hs
end
/-- what data_defaults says of ccc and dm -/
def DefOK (w : World) (o : Obj) (n : Nat) : Prop := ∃ kvs t, o.IsDictOf (PySem.strKind PySem.Challenge.rw_nt0032_01.row.prog w) kvs ∧ valueAt kvs (Str.ofString "ccc") = some (.int 0 t) ∧ (valueAt kvs (Str.ofString "dm")).getD .none = .none ∧ kvs.length ≤ n
theorem DefOK.mono {w : World} {o : Obj} {n k : Nat} (h : DefOK w o n) (hk : n ≤ k) : DefOK w o k := by
  obtain ⟨kvs, t0, h1, h2, h3, h4⟩ := h
  exact ⟨kvs, t0, h1, h2, h3, Nat.le_trans h4 hk⟩
theorem def_set {w : World} {A : Around} {E : Value → Shared → Prop} {s : Shared} {h₀ : Heap} {L d : Addr} {m : Mp} {news : Led} {g : Obj → Led} {o : Obj} {k : Str} {t : Tok} {v : Value} {n : Nat} {Q : Unit → Shared → Prop} (F : Fr h₀ L s.heap m) (N : News h₀ L s.heap news) (U : UpdF d o news g) (hd : DefOK w o n) (hn : n ≤ 100)
    (hk : k ≠ Str.ofString "ccc") (hv : k = Str.ofString "dm" → v = .none)
    (h : ∀ h' o', Fr h₀ L h' m → News h₀ L h' (g o') → DefOK w o' (n + 1) → Q () { s with heap := h', toks := s.toks + 1 }) : wpAny (md w) A (setItem (.ref d) (.str k t) v) Q E s := by
  obtain ⟨kvs, t0, h1, h2, h3, h4⟩ := hd
  refine kda_set (knd := PySem.strKind _ _) F N U h1 (strKind_is _ _ _ _) ?_ ?_
  · rw [sizeLine_eq]; omega
  · intro h' o' F' N' hd'
    refine h h' o' F' N' ⟨_, t0, hd', ?_, ?_, ?_⟩
    · rw [valueAt_stored, if_neg (fun x => hk x.symm)]
      exact h2
    · rw [valueAt_stored]
      split
      · rename_i e
        exact hv e.symm
      · exact h3
    · have := stored_length_le kvs k v
      omega
def StrsP (P : Str → Prop) : List Value → Prop
  | [] => True
  | v :: r => (∃ x t, v = .str x t ∧ P x) ∧ StrsP P r
theorem StrsP.mem {P : Str → Prop} {vs : List Value} (h : StrsP P vs) {v : Value} (hv : v ∈ vs) : ∃ x t, v = .str x t ∧ P x := by
  induction vs with
  | nil => cases hv
  | cons a r ih =>
    rcases List.mem_cons.mp hv with rfl | hv
    · exact h.1
    · exact ih h.2 hv
section
variable {w : World} {A : Around} {s : Shared} {env : Env} {body : List Stmt} {Q : Flow → Shared → Prop} {h₀ : Heap} {L : Addr}
theorem dd_loop {target : PySem.Expr} {t d : Addr} {o : Obj} {vs : List Value} {k n : Nat} {m : Mp} {news : Led} (P : Str → Prop) (hh : A.handled = none)
    (F : Fr h₀ L s.heap m) (N : News h₀ L s.heap ((t, tupObj' vs k) :: (d, o) :: news)) (hD : DefOK w o n) (hm : Knows [(Str.ofString "found", .ref d)] m)
    (hvs : StrsP P vs) (hl : ∀ q ∈ news, q.1 ≠ d) (hlen : n + vs.length ≤ 60)
    (turn : ∀ x tx i m₁ o₁ h tk I oi, P x → n + i ≤ 60 → DefOK w o₁ (n + i) → t ≠ d → (∀ q ∈ news ++ [(I, oi)], q.1 ≠ d) → Knows [(Str.ofString "found", .ref d)] m₁ → Fr h₀ L h m₁ → News h₀ L h ((t, tupObj' vs k) :: (d, o₁) :: (news ++ [(I, oi)])) →
      wpAny (md w) A (assign target env (.str x tx)) (fun _ s₂ => wpAny (md w) A (execs body env) (fun f s₃ => match f with | .next => ∃ h' tk m' o₂, s₃ = { s with heap := h', toks := tk } ∧ Fr h₀ L h' m' ∧ News h₀ L h' ((t, tupObj' vs k) :: (d, o₂) :: (news ++ [(I, oi)])) ∧ DefOK w o₂ (n + i + 1) ∧ Knows [(Str.ofString "found", .ref d)] m' | _ => False) (fun _ _ => False) s₂) (fun _ _ => False) { s with heap := h, toks := tk })
    (done : ∀ m₁ o₁ h tk, DefOK w o₁ (n + vs.length) → Knows [(Str.ofString "found", .ref d)] m₁ → Fr h₀ L h m₁ → News h₀ L h ((d, o₁) :: news) → Q .next { s with heap := h, toks := tk })
    (ht : ∀ it v, letOwnedTupleGo target it v = pure () := by intro _ _; rfl) : ForAt PySem.Challenge.rw_nt0032_01.row.prog w A env target body Q (.ref t) s := by
  have tup_dict : ∀ {o : Obj} {n : Nat}, DefOK w o n → (tupObj' vs k).cls ≠ o.cls := by
    rintro o n ⟨kvs, t0, h1, _⟩ e
    obtain ⟨es, ep, hc, _⟩ := h1
    have hc' : o.cls = .type "dict" := hc.1
    rw [← e] at hc'
    have hc2 : Value.type "tuple" = .type "dict" := hc'
    exact absurd hc2 (by decide)
  refine ForAt.tuple (vs := vs) (k := k) (fun i m₁ news₁ => ∃ o, DefOK w o (n + i) ∧ Knows [(Str.ofString "found", .ref d)] m₁ ∧ news₁ = (t, tupObj' vs k) :: (d, o) :: news) hh F N ⟨o, hD, hm, rfl⟩ ?_ ?_ ?_ ht
  · rintro i m news ⟨o, _, _, rfl⟩
    exact .head _
  · rintro i v m₁ news₁ h tk I oi hv ⟨o₁, hD₁, hm₁, rfl⟩ hI F₁ N₁
    have hi : i < vs.length := by
      by_cases hi : i < vs.length
      · exact hi
      · rw [List.getElem?_eq_none (by omega)] at hv; cases hv
    obtain ⟨x, tx, rfl, hP⟩ := hvs.mem (List.mem_of_getElem? hv)
    have htd : t ≠ d := listEq (N₁ _ (.head _)).1 (N₁ _ (.tail _ (.head _))).1 (tup_dict hD₁)
    have hId : I ≠ d := fun e => hI _ (.tail _ (.head _)) e.symm
    refine wpAny_mono (turn x tx i m₁ o₁ h tk I oi hP (by omega) hD₁ htd (fun q hq => ?_) hm₁ F₁ N₁) (fun _ s₂ h₂ => wpAny_mono h₂ (fun f s₃ h₃ => ?_) fun _ _ e => e) fun _ _ e => e
    · rcases List.mem_append.mp hq with hq | hq
      · exact hl q hq
      · obtain rfl := List.mem_singleton.mp hq
        exact hId
    · cases f with
      | next =>
        obtain ⟨h', tk', m', o₂, rfl, F₂, N₂, hD₂, hm₂⟩ := h₃
        refine ⟨h', tk', m', (t, tupObj' vs k) :: (d, o₂) :: news, rfl, F₂, N₂, ?_, o₂, hD₂, hm₂, rfl⟩
        intro q hq
        rcases List.mem_cons.mp hq with rfl | hq
        · exact hI _ (.head _)
        · rcases List.mem_cons.mp hq with rfl | hq
          · exact hI (d, o₁) (.tail _ (.head _))
          · exact hI _ (.tail _ (.tail _ hq))
      | _ => exact h₃.elim
  · rintro m₁ news₁ h tk ⟨o₁, hD₁, hm₁, rfl⟩ F₁ N₁
    exact done m₁ o₁ h tk hD₁ hm₁ F₁ fun q hq => N₁ q (.tail _ hq)
end
end
section
local macro_rules | `(tactic| news_mem) => `(tactic| first | assumption | k_mem)
local macro_rules | `(tactic| k_all) => `(tactic| assumption)
local macro_rules | `(tactic| k_mem) => `(tactic| first | exact List.mem_cons_self | (refine List.mem_cons_of_mem _ ?_; k_mem) | ktr_member)
local macro_rules | `(tactic| walk_at "setItem ref str") => `(tactic| (refine def_set (by k_asm) (by k_asm) (by k_updF) (by k_asm) (by first | omega | exact Nat.le_of_ble_eq_true rfl) (by first | assumption | decide) (by first | assumption | decide | (intro _; rfl) | (intro hE9; exact absurd hE9 (by assumption)) | (intro hE9; exact absurd hE9 (by decide))) ?_; intro h' o' F' N' hD'; (try dsimp only at N')))
section
set_option maxHeartbeats 4000000
theorem reg5 (w : World) : (model PySem.Challenge.rw_nt0032_01.row.prog w = model PySem.Challenge.rw_nt0032_01.row.prog w) ∧ K w.params = K w.params := by
  k_fill
  exact ⟨rfl, rfl⟩
section
variable {w : World} {p : Program} {loose : List Str} {mean : ExcName → Option Value} {mg mb : Mp} {dp un : Nat} {gd : Option (List Code)} {cn : Str} {cs : Scope} {a : Addr} {ccd : Value} {cl : List (Str × Addr)} {outer : List Env} {A₀ : Around} {base h₀ : Heap} {L : Addr} {m : Mp} {news : Led} {s : Shared} {Q : Value → Shared → Prop}
theorem dd_spec (c : Cx w p loose mean mg mb outer A₀ base h₀ L m news s cs dp un 4 20)
    (ret : ∀ d o h' tk', DefOK w o 60 → (d == sysModules) = false → (∀ q ∈ news, q.1 < d) → Fr h₀ L h' m → News h₀ L h' ((d, o) :: news) → Q (.ref d) { s with heap := h', toks := tk' }) :
    wpAny (md w) (ktrTop dp un gd cn cs L a ccd cl outer) (call (.ref 279) []) Q (fun _ _ => False) s := by
  have hd := c.hd
  have hu := c.hu
  refine wpAny_call (enter (qual := Str.ofString "data_defaults") [] (fun v news' => ∃ d o, v = .ref d ∧ DefOK w o 60 ∧ (d == sysModules) = false ∧ (∀ q ∈ news, q.1 < d) ∧ news' = (d, o) :: news) c
    (by k_is) (by k_is) (BindsTo.of_eq rfl) rfl rfl rfl rfl (by decide) ?_
    (by rintro v news' h' tk' ⟨d, o, rfl, h1, h2, h3, rfl⟩ F' N'; exact ret d o h' tk' h1 h2 h3 F' N'))
  clear ret c
  intro g L' h' tk' F' N' B' X' T' _
  refine @wp_gen Flow _ _ _ _ _ _ ?_
  intro Q₀ hQ₀
  refine @execs_cut _ _ _ _ _ _ 1 _ (fun s' => ∃ d o h tk m', s' = { s with heap := h, toks := tk } ∧ DefOK w o 8 ∧ (d == sysModules) = false ∧ (∀ q ∈ news, q.1 < d) ∧ Fr g L' h m' ∧ Knows [(Str.ofString "found", .ref d)] m' ∧ News g L' h ((d, o) :: news)) ?_ ?_
  · refine @wp_gen Flow _ _ _ _ _ _ ?_
    intro Q₁ hQ₁
    repeat' (first | ((with_reducible show wpAny _ _ (execs (_ :: _) _) _ _ _); walk1; (try dsimp only)) | ((fail_if_success (with_reducible show wpAny _ _ (exec (Stmt.While _ _ _ _) _) _ _ _); fail_if_success ((with_reducible show wpAny _ _ (exec _ _) _ _ _); show wpAny _ _ (exec (Stmt.For _ _ _ _ _) _) _ _ _); fail_if_success (with_reducible show wpAny _ _ (call (Value.ref _) _) _ _ _)); walk1) | (dsimp only; (fail_if_success (with_reducible show wpAny _ _ (exec (Stmt.While _ _ _ _) _) _ _ _); fail_if_success ((with_reducible show wpAny _ _ (exec _ _) _ _ _); show wpAny _ _ (exec (Stmt.For _ _ _ _ _) _) _ _ _); fail_if_success (with_reducible show wpAny _ _ (call (Value.ref _) _) _ _ _)); walk1))
    (try dsimp only)
    refine wpAny_execs_nil ?_
    refine hQ₁ _ _ ?_
    dsimp only
    rename Obj.IsDictOf _ _ _ => hD
    rename Fr _ _ _ _ => F6
    rename News _ _ _ _ => N6
    refine ⟨_, _, _, _, _, rfl, ⟨_, _, hD, rfl, rfl, ?_⟩, by assumption, by assumption, F6, ⟨rfl, trivial⟩, N6⟩
    exact Nat.le_of_ble_eq_true rfl
  · rintro s' ⟨d, o, h, tk, m', rfl, hD, lo, l1, F2, hm, N2⟩
    rw [hm.ov] at F2
    clear F' N' hm
    have hl : ∀ q ∈ news, q.1 ≠ d := fun q hq => Nat.ne_of_lt (l1 q hq)
    show wpAny _ _ (execs (_ :: _) _) _ _ _
    walk1
    refine for_at ?_
    repeat' (first | ((with_reducible show wpAny _ _ (execs (_ :: _) _) _ _ _); walk1; (try dsimp only)) | ((fail_if_success (with_reducible show wpAny _ _ (exec (Stmt.While _ _ _ _) _) _ _ _); fail_if_success ((with_reducible show wpAny _ _ (exec _ _) _ _ _); show wpAny _ _ (exec (Stmt.For _ _ _ _ _) _) _ _ _); fail_if_success (with_reducible show wpAny _ _ (call (Value.ref _) _) _ _ _)); walk1) | (dsimp only; (fail_if_success (with_reducible show wpAny _ _ (exec (Stmt.While _ _ _ _) _) _ _ _); fail_if_success ((with_reducible show wpAny _ _ (exec _ _) _ _ _); show wpAny _ _ (exec (Stmt.For _ _ _ _ _) _) _ _ _); fail_if_success (with_reducible show wpAny _ _ (call (Value.ref _) _) _ _ _)); walk1))
    rename Fr _ _ _ _ => F5
    rename News _ _ _ _ => N5
    refine dd_loop (fun x => x ≠ Str.ofString "ccc" ∧ x ≠ Str.ofString "dm") rfl F5 N5 hD ⟨rfl, trivial⟩ (by repeat' (first | exact True.intro | refine ⟨⟨_, _, rfl, by decide⟩, ?_⟩)) hl (Nat.le_of_ble_eq_true rfl) ?_ ?_
    · intro x tx i m₁ o₁ h₁ tk₁ I oi hP hn hD₁ htd hl₁ hm₁ F₁ N₁
      rw [hm₁.ov] at F₁
      obtain ⟨hP1, hP2⟩ := hP
      clear F5 N5
      refine @wp_gen2 _ Flow _ _ _ _ _ _ _ _ ?_
      intro E₁ hE₁
      repeat' (first | ((with_reducible show wpAny _ _ (execs (_ :: _) _) _ _ _); walk1; (try dsimp only)) | (((with_reducible show wpAny _ _ _ _ _ _); fail_if_success (with_reducible show wpAny _ _ (exec (Stmt.While _ _ _ _) _) _ _ _); fail_if_success ((with_reducible show wpAny _ _ (exec _ _) _ _ _); show wpAny _ _ (exec (Stmt.For _ _ _ _ _) _) _ _ _); fail_if_success (with_reducible show wpAny _ _ (call (Value.ref _) _) _ _ _)); walk1) | (dsimp only; ((with_reducible show wpAny _ _ _ _ _ _); fail_if_success (with_reducible show wpAny _ _ (exec (Stmt.While _ _ _ _) _) _ _ _); fail_if_success ((with_reducible show wpAny _ _ (exec _ _) _ _ _); show wpAny _ _ (exec (Stmt.For _ _ _ _ _) _) _ _ _); fail_if_success (with_reducible show wpAny _ _ (call (Value.ref _) _) _ _ _)); walk1))
      refine hE₁ _ _ ?_
      (try dsimp only)
      rename Fr _ _ _ _ => F6
      rename News _ _ _ _ => N6
      rename DefOK _ _ _ => hD6
      first
        | exact ⟨_, _, _, _, rfl, F6, N6, hD6, ⟨rfl, trivial⟩⟩
        | exact ⟨_, _, _, _, rfl, F6, (fun q hq => N6 q (.tail _ hq)), hD6, ⟨rfl, trivial⟩⟩
    clear F5 N5 hD
    (try clear F2 N2)
    intro m₁ o₁ h₁ tk₁ hD hm₁ F₁ N₁
    rw [hm₁.ov] at F₁
    clear hm₁
    dsimp only
    show wpAny _ _ (execs (_ :: _) _) _ _ _
    walk1
    refine for_at ?_
    repeat' (first | ((with_reducible show wpAny _ _ (execs (_ :: _) _) _ _ _); walk1; (try dsimp only)) | ((fail_if_success (with_reducible show wpAny _ _ (exec (Stmt.While _ _ _ _) _) _ _ _); fail_if_success ((with_reducible show wpAny _ _ (exec _ _) _ _ _); show wpAny _ _ (exec (Stmt.For _ _ _ _ _) _) _ _ _); fail_if_success (with_reducible show wpAny _ _ (call (Value.ref _) _) _ _ _)); walk1) | (dsimp only; (fail_if_success (with_reducible show wpAny _ _ (exec (Stmt.While _ _ _ _) _) _ _ _); fail_if_success ((with_reducible show wpAny _ _ (exec _ _) _ _ _); show wpAny _ _ (exec (Stmt.For _ _ _ _ _) _) _ _ _); fail_if_success (with_reducible show wpAny _ _ (call (Value.ref _) _) _ _ _)); walk1))
    rename Fr _ _ _ _ => F5
    rename News _ _ _ _ => N5
    refine dd_loop (fun x => x ≠ Str.ofString "ccc" ∧ x ≠ Str.ofString "dm") rfl F5 N5 hD ⟨rfl, trivial⟩ (by repeat' (first | exact True.intro | refine ⟨⟨_, _, rfl, by decide⟩, ?_⟩)) hl (Nat.le_of_ble_eq_true rfl) ?_ ?_
    · intro x tx i m₁ o₁ h₁ tk₁ I oi hP hn hD₁ htd hl₁ hm₁ F₁ N₁
      rw [hm₁.ov] at F₁
      obtain ⟨hP1, hP2⟩ := hP
      clear F5 N5
      refine @wp_gen2 _ Flow _ _ _ _ _ _ _ _ ?_
      intro E₁ hE₁
      repeat' (first | ((with_reducible show wpAny _ _ (execs (_ :: _) _) _ _ _); walk1; (try dsimp only)) | (((with_reducible show wpAny _ _ _ _ _ _); fail_if_success (with_reducible show wpAny _ _ (exec (Stmt.While _ _ _ _) _) _ _ _); fail_if_success ((with_reducible show wpAny _ _ (exec _ _) _ _ _); show wpAny _ _ (exec (Stmt.For _ _ _ _ _) _) _ _ _); fail_if_success (with_reducible show wpAny _ _ (call (Value.ref _) _) _ _ _)); walk1) | (dsimp only; ((with_reducible show wpAny _ _ _ _ _ _); fail_if_success (with_reducible show wpAny _ _ (exec (Stmt.While _ _ _ _) _) _ _ _); fail_if_success ((with_reducible show wpAny _ _ (exec _ _) _ _ _); show wpAny _ _ (exec (Stmt.For _ _ _ _ _) _) _ _ _); fail_if_success (with_reducible show wpAny _ _ (call (Value.ref _) _) _ _ _)); walk1))
      refine hE₁ _ _ ?_
      (try dsimp only)
      rename Fr _ _ _ _ => F6
      rename News _ _ _ _ => N6
      rename DefOK _ _ _ => hD6
      first
        | exact ⟨_, _, _, _, rfl, F6, N6, hD6, ⟨rfl, trivial⟩⟩
        | exact ⟨_, _, _, _, rfl, F6, (fun q hq => N6 q (.tail _ hq)), hD6, ⟨rfl, trivial⟩⟩
    clear F5 N5 hD
    (try clear F2 N2)
    intro m₁ o₁ h₁ tk₁ hD hm₁ F₁ N₁
    rw [hm₁.ov] at F₁
    clear hm₁
    dsimp only
    show wpAny _ _ (execs (_ :: _) _) _ _ _
    walk1
    refine for_at ?_
    repeat' (first | ((with_reducible show wpAny _ _ (execs (_ :: _) _) _ _ _); walk1; (try dsimp only)) | ((fail_if_success (with_reducible show wpAny _ _ (exec (Stmt.While _ _ _ _) _) _ _ _); fail_if_success ((with_reducible show wpAny _ _ (exec _ _) _ _ _); show wpAny _ _ (exec (Stmt.For _ _ _ _ _) _) _ _ _); fail_if_success (with_reducible show wpAny _ _ (call (Value.ref _) _) _ _ _)); walk1) | (dsimp only; (fail_if_success (with_reducible show wpAny _ _ (exec (Stmt.While _ _ _ _) _) _ _ _); fail_if_success ((with_reducible show wpAny _ _ (exec _ _) _ _ _); show wpAny _ _ (exec (Stmt.For _ _ _ _ _) _) _ _ _); fail_if_success (with_reducible show wpAny _ _ (call (Value.ref _) _) _ _ _)); walk1))
    rename Fr _ _ _ _ => F5
    rename News _ _ _ _ => N5
    refine dd_loop (fun x => x ≠ Str.ofString "ccc" ∧ (x ≠ Str.ofString "dm" ∨ True)) rfl F5 N5 hD ⟨rfl, trivial⟩ (by repeat' (first | exact True.intro | refine ⟨⟨_, _, rfl, by exact ⟨by decide, Or.inr trivial⟩⟩, ?_⟩)) hl (Nat.le_of_ble_eq_true rfl) ?_ ?_
    · intro x tx i m₁ o₁ h₁ tk₁ I oi hP hn hD₁ htd hl₁ hm₁ F₁ N₁
      rw [hm₁.ov] at F₁
      obtain ⟨hP1, _⟩ := hP
      clear F5 N5
      refine @wp_gen2 _ Flow _ _ _ _ _ _ _ _ ?_
      intro E₁ hE₁
      repeat' (first | ((with_reducible show wpAny _ _ (execs (_ :: _) _) _ _ _); walk1; (try dsimp only)) | (((with_reducible show wpAny _ _ _ _ _ _); fail_if_success (with_reducible show wpAny _ _ (exec (Stmt.While _ _ _ _) _) _ _ _); fail_if_success ((with_reducible show wpAny _ _ (exec _ _) _ _ _); show wpAny _ _ (exec (Stmt.For _ _ _ _ _) _) _ _ _); fail_if_success (with_reducible show wpAny _ _ (call (Value.ref _) _) _ _ _)); walk1) | (dsimp only; ((with_reducible show wpAny _ _ _ _ _ _); fail_if_success (with_reducible show wpAny _ _ (exec (Stmt.While _ _ _ _) _) _ _ _); fail_if_success ((with_reducible show wpAny _ _ (exec _ _) _ _ _); show wpAny _ _ (exec (Stmt.For _ _ _ _ _) _) _ _ _); fail_if_success (with_reducible show wpAny _ _ (call (Value.ref _) _) _ _ _)); walk1))
      refine hE₁ _ _ ?_
      (try dsimp only)
      rename Fr _ _ _ _ => F6
      rename News _ _ _ _ => N6
      rename DefOK _ _ _ => hD6
      first
        | exact ⟨_, _, _, _, rfl, F6, N6, hD6, ⟨rfl, trivial⟩⟩
        | exact ⟨_, _, _, _, rfl, F6, (fun q hq => N6 q (.tail _ hq)), hD6, ⟨rfl, trivial⟩⟩
    clear F5 N5 hD
    (try clear F2 N2)
    intro m₁ o₁ h₁ tk₁ hD hm₁ F₁ N₁
    rw [hm₁.ov] at F₁
    clear hm₁
    dsimp only
    show wpAny _ _ (execs (_ :: _) _) _ _ _
    walk1
    refine for_at ?_
    repeat' (first | ((with_reducible show wpAny _ _ (execs (_ :: _) _) _ _ _); walk1; (try dsimp only)) | ((fail_if_success (with_reducible show wpAny _ _ (exec (Stmt.While _ _ _ _) _) _ _ _); fail_if_success ((with_reducible show wpAny _ _ (exec _ _) _ _ _); show wpAny _ _ (exec (Stmt.For _ _ _ _ _) _) _ _ _); fail_if_success (with_reducible show wpAny _ _ (call (Value.ref _) _) _ _ _)); walk1) | (dsimp only; (fail_if_success (with_reducible show wpAny _ _ (exec (Stmt.While _ _ _ _) _) _ _ _); fail_if_success ((with_reducible show wpAny _ _ (exec _ _) _ _ _); show wpAny _ _ (exec (Stmt.For _ _ _ _ _) _) _ _ _); fail_if_success (with_reducible show wpAny _ _ (call (Value.ref _) _) _ _ _)); walk1))
    rename Fr _ _ _ _ => F5
    rename News _ _ _ _ => N5
    refine dd_loop (fun x => x ≠ Str.ofString "ccc" ∧ x ≠ Str.ofString "dm") rfl F5 N5 hD ⟨rfl, trivial⟩ (by repeat' (first | exact True.intro | refine ⟨⟨_, _, rfl, by decide⟩, ?_⟩)) hl (Nat.le_of_ble_eq_true rfl) ?_ ?_
    · intro x tx i m₁ o₁ h₁ tk₁ I oi hP hn hD₁ htd hl₁ hm₁ F₁ N₁
      rw [hm₁.ov] at F₁
      obtain ⟨hP1, hP2⟩ := hP
      clear F5 N5
      refine @wp_gen2 _ Flow _ _ _ _ _ _ _ _ ?_
      intro E₁ hE₁
      repeat' (first | ((with_reducible show wpAny _ _ (execs (_ :: _) _) _ _ _); walk1; (try dsimp only)) | (((with_reducible show wpAny _ _ _ _ _ _); fail_if_success (with_reducible show wpAny _ _ (exec (Stmt.While _ _ _ _) _) _ _ _); fail_if_success ((with_reducible show wpAny _ _ (exec _ _) _ _ _); show wpAny _ _ (exec (Stmt.For _ _ _ _ _) _) _ _ _); fail_if_success (with_reducible show wpAny _ _ (call (Value.ref _) _) _ _ _)); walk1) | (dsimp only; ((with_reducible show wpAny _ _ _ _ _ _); fail_if_success (with_reducible show wpAny _ _ (exec (Stmt.While _ _ _ _) _) _ _ _); fail_if_success ((with_reducible show wpAny _ _ (exec _ _) _ _ _); show wpAny _ _ (exec (Stmt.For _ _ _ _ _) _) _ _ _); fail_if_success (with_reducible show wpAny _ _ (call (Value.ref _) _) _ _ _)); walk1))
      refine hE₁ _ _ ?_
      (try dsimp only)
      rename Fr _ _ _ _ => F6
      rename News _ _ _ _ => N6
      rename DefOK _ _ _ => hD6
      first
        | exact ⟨_, _, _, _, rfl, F6, N6, hD6, ⟨rfl, trivial⟩⟩
        | exact ⟨_, _, _, _, rfl, F6, (fun q hq => N6 q (.tail _ hq)), hD6, ⟨rfl, trivial⟩⟩
    clear F5 N5 hD
    (try clear F2 N2)
    intro m₁ o₁ h₁ tk₁ hD hm₁ F₁ N₁
    rw [hm₁.ov] at F₁
    clear hm₁
    dsimp only
    repeat' (first | ((with_reducible show wpAny _ _ (execs (_ :: _) _) _ _ _); walk1; (try dsimp only)) | ((fail_if_success (with_reducible show wpAny _ _ (exec (Stmt.While _ _ _ _) _) _ _ _); fail_if_success ((with_reducible show wpAny _ _ (exec _ _) _ _ _); show wpAny _ _ (exec (Stmt.For _ _ _ _ _) _) _ _ _); fail_if_success (with_reducible show wpAny _ _ (call (Value.ref _) _) _ _ _)); walk1) | (dsimp only; (fail_if_success (with_reducible show wpAny _ _ (exec (Stmt.While _ _ _ _) _) _ _ _); fail_if_success ((with_reducible show wpAny _ _ (exec _ _) _ _ _); show wpAny _ _ (exec (Stmt.For _ _ _ _ _) _) _ _ _); fail_if_success (with_reducible show wpAny _ _ (call (Value.ref _) _) _ _ _)); walk1))
    rename Fr _ _ _ _ => F6
    rename News _ _ _ _ => N6
    rename DefOK _ _ _ => hD6
    refine (fun (o6 : Obj) (hD7 : DefOK w o6 60) (N7 : News g L' _ ((d, o6) :: news)) => hQ₀ _ _ <| RetAt.ret F6 N7 ⟨d, o6, rfl, hD7, lo, l1, rfl⟩) _ (hD6.mono (Nat.le_of_ble_eq_true rfl)) (News.cons' N6 (by k_mem) (fun q hq => N6 q (by repeat (first | exact hq | refine List.mem_cons_of_mem _ ?_))))
end
end
end
end Mine
end
section
open PySem PySem.W PyProof.Rows PySem.Calls PySem.Spec
namespace Mine
section
set_option maxHeartbeats 4000000
/-- the Data object and its dict of maps -/
def DataAt (w : World) (xd mp : Addr) (kvs : List (Str × Value)) (news : Led) : Prop :=
  ∃ ddx df pr wd om od t1 t2 t3 t4 g1 g2 g3 g4 j, (xd, instObj 317 ddx) ∈ news ∧
    (ddx, dictOf [⟨g1, .str (Str.ofString "defaults") t1, .ref df⟩, ⟨g2, .str (Str.ofString "maps") t2, .ref mp⟩, ⟨g3, .str (Str.ofString "properties") t3, .ref pr⟩, ⟨g4, .str (Str.ofString "words") t4, .ref wd⟩] j) ∈ news ∧
    (df, od) ∈ news ∧ DefOK w od 60 ∧ (df == sysModules) = false ∧ (mp, om) ∈ news ∧ om.IsDictOf (PySem.strKind PySem.Challenge.rw_nt0032_01.row.prog w) kvs ∧ (mp == sysModules) = false ∧ df ≠ mp ∧ ddx ≠ mp
/-- a RangeMap, its dict told -/
def RMd (news : Led) (x dx : Addr) (dv : Value) (ns : List Int) (vv : List Value) : Prop :=
  ∃ (st vl : Addr) (t1 t2 t3 : Tok) (g1 g2 g3 : Int) (n k1 k2 : Nat) (sv : List Value), (x, instObj 261 dx) ∈ news ∧
    (dx, dictOf [⟨g1, .str (Str.ofString "default") t1, dv⟩, ⟨g2, .str (Str.ofString "starts") t2, .ref st⟩, ⟨g3, .str (Str.ofString "values") t3, .ref vl⟩] n) ∈ news ∧
    (st, listObj sv k1) ∈ news ∧ (vl, listObj vv k2) ∈ news ∧ IntsAre sv ns
theorem RMd.rm {news : Led} {x dx : Addr} {dv : Value} {ns : List Int} {vv : List Value} (h : RMd news x dx dv ns vv) : RM news x dv ns vv := by
  obtain ⟨st, vl, t1, t2, t3, g1, g2, g3, n, k1, k2, sv, r⟩ := h
  exact ⟨dx, st, vl, t1, t2, t3, g1, g2, g3, n, k1, k2, sv, r⟩
end
section
local macro_rules | `(tactic| news_mem) => `(tactic| first | assumption | k_mem)
local macro_rules | `(tactic| k_all) => `(tactic| assumption)
local macro_rules | `(tactic| k_mem) => `(tactic| first | assumption | exact List.mem_cons_self | (refine List.mem_cons_of_mem _ ?_; k_mem) | ktr_member)
section
set_option maxHeartbeats 4000000
theorem reg6 (w : World) : (model PySem.Challenge.rw_nt0032_01.row.prog w = model PySem.Challenge.rw_nt0032_01.row.prog w) ∧ K w.params = K w.params := by
  k_fill
  exact ⟨rfl, rfl⟩
section
variable {w : World} {p : Program} {loose : List Str} {mean : ExcName → Option Value} {mg mb : Mp} {dp un : Nat} {gd : Option (List Code)} {cn : Str} {cs : Scope} {a : Addr} {ccd : Value} {cl : List (Str × Addr)} {outer : List Env} {A₀ : Around} {base h₀ : Heap} {L : Addr} {m : Mp} {news : Led} {s : Shared} {Q : Value → Shared → Prop}
/-- Data() -/
theorem dnew_spec (c : Cx w p loose mean mg mb outer A₀ base h₀ L m news s cs dp un 8 40)
    (ret : ∀ x mp own news' h' tk', DataAt w x mp [] own → (∀ q ∈ own, q ∈ news' ∧ ∀ q' ∈ news, q'.1 < q.1) → (∀ q ∈ news, q ∈ news') → Fr h₀ L h' m → News h₀ L h' news' → Q (.ref x) { s with heap := h', toks := tk' }) :
    wpAny (md w) (ktrTop dp un gd cn cs L a ccd cl outer) (call (.ref 317) []) Q (fun _ _ => False) s := by
  refine make (d := 7) (u := 38) (fun x => [(Str.ofString "self", .ref x)]) (fun x news' => ∃ mp own, DataAt w x mp [] own ∧ (∀ q ∈ own, q ∈ news' ∧ ∀ q' ∈ news, q'.1 < q.1) ∧ ∀ q ∈ news, q ∈ news') c rfl rfl rfl rfl rfl (fun x s => BindsTo.of_eq rfl) (fun x => rfl) rfl rfl rfl (by decide) ?_ ?_
  · intro x dx gd' un' g L' h₁ tk hun F₂ N₂ B₂ X₂ T₂ hne hlt
    obtain ⟨B, F, X, N, T, hk, hd, hu⟩ := c
    clear B F X N T
    k_lt2 hlt
    have hn1 : ∀ q ∈ news, q.1 ≠ dx := fun q hq => Nat.ne_of_lt (hne q hq).1
    refine @wp_gen Flow _ _ _ _ _ _ ?_
    intro Q₀ hQ₀
    repeat' (first | ((with_reducible show wpAny _ _ (execs (_ :: _) _) _ _ _); walk1; (try dsimp only)) | ((fail_if_success (with_reducible show wpAny _ _ (exec (Stmt.While _ _ _ _) _) _ _ _); fail_if_success ((with_reducible show wpAny _ _ (exec _ _) _ _ _); show wpAny _ _ (exec (Stmt.For _ _ _ _ _) _) _ _ _); fail_if_success (with_reducible show wpAny _ _ (call (Value.ref _) _) _ _ _)); walk1) | (dsimp only; (fail_if_success (with_reducible show wpAny _ _ (exec (Stmt.While _ _ _ _) _) _ _ _); fail_if_success ((with_reducible show wpAny _ _ (exec _ _) _ _ _); show wpAny _ _ (exec (Stmt.For _ _ _ _ _) _) _ _ _); fail_if_success (with_reducible show wpAny _ _ (call (Value.ref _) _) _ _ _)); walk1))
    refine dd_spec ⟨by k_asm, by k_asm, by k_asm, by k_asm, by k_asm, rfl, by show dp + 1 + 1 + 4 < _; omega, by show un' + 3 + 20 < _; omega⟩ ?_
    intro df od h₂ tk₂ hD lo l1 F₃ N₃
    clear F₂ N₂
    k_lt l1
    repeat' (first | ((with_reducible show wpAny _ _ (execs (_ :: _) _) _ _ _); walk1; (try dsimp only)) | ((fail_if_success (with_reducible show wpAny _ _ (exec (Stmt.While _ _ _ _) _) _ _ _); fail_if_success ((with_reducible show wpAny _ _ (exec _ _) _ _ _); show wpAny _ _ (exec (Stmt.For _ _ _ _ _) _) _ _ _); fail_if_success (with_reducible show wpAny _ _ (call (Value.ref _) _) _ _ _)); walk1) | (dsimp only; (fail_if_success (with_reducible show wpAny _ _ (exec (Stmt.While _ _ _ _) _) _ _ _); fail_if_success ((with_reducible show wpAny _ _ (exec _ _) _ _ _); show wpAny _ _ (exec (Stmt.For _ _ _ _ _) _) _ _ _); fail_if_success (with_reducible show wpAny _ _ (call (Value.ref _) _) _ _ _)); walk1))
    rename Fr _ _ _ _ => F6
    rename News _ _ _ _ => N6
    have hall : ∀ {d : Addr} {l : Led}, AllLt d l → ∀ q ∈ l, q.1 < d := by
      intro d l
      induction l with
      | nil => intro _ q hq; cases hq
      | cons a r ih =>
        intro h q hq
        rcases List.mem_cons.mp hq with rfl | hq
        · exact h.1
        · exact ih h.2 q hq
    have hx1 : ∀ q ∈ news, q.1 < dx := fun q hq => (hne q hq).1
    have hx2 : ∀ q ∈ news, q.1 < x := fun q hq => Nat.lt_trans (hne q hq).1 hlt
    repeat (rename _ < _ ∧ _ => hh; rcases hh with ⟨_, _⟩)
    refine' (fun (odx om : Obj) (mp : Addr) (i1 : (x, instObj 317 dx) ∈ _) (i2 : (dx, odx) ∈ _) (i3 : (df, od) ∈ _) (i4 : (mp, om) ∈ _) (l2 : AllLt df news) (l3 : AllLt mp news) (hD' : DataAt w x mp [] [(x, instObj 317 dx), (dx, odx), (df, od), (mp, om)]) => hQ₀ _ _ <| RetAt.next F6 N6 ⟨rfl, mp, [(x, instObj 317 dx), (dx, odx), (df, od), (mp, om)], hD', fun q hq => by
      simp only [List.mem_cons, List.not_mem_nil, or_false] at hq
      rcases hq with rfl | rfl | rfl | rfl
      · exact ⟨i1, hx2⟩
      · exact ⟨i2, hx1⟩
      · exact ⟨i3, hall l2⟩
      · exact ⟨i4, hall l3⟩, fun q hq => by repeat (first | exact hq | refine List.mem_cons_of_mem _ ?_)⟩) _ _ _ ?b1 ?b2 ?b3 ?b4 ?b5 ?b6 ⟨dx, df, _, _, _, od, _, _, _, _, _, _, _, _, _, .head _, .tail _ (.head _), .tail _ (.tail _ (.head _)), hD, lo, .tail _ (.tail _ (.tail _ (.head _))), ?a5, ?a6, ?a7, ?a8⟩
    case b1 => k_mem
    case b2 => k_mem
    case b3 => k_mem
    case b4 => k_mem
    case b5 => assumption
    case b6 => assumption
    case a5 => assumption
    case a6 => assumption
    case a7 => k_ne
    case a8 => k_ne
  · rintro x news' h' tk' ⟨mp, own, h1, h2, h3⟩ F N
    exact ret _ _ _ _ _ _ h1 h2 h3 F N
end
end
end
end Mine
end
section
open PySem PySem.W PyProof.Rows PySem.Calls PySem.Spec
namespace Mine
section
local macro_rules | `(tactic| news_mem) => `(tactic| first | assumption | k_mem)
local macro_rules | `(tactic| k_all) => `(tactic| assumption)
local macro_rules | `(tactic| walk_at "compareOp In str ref") => `(tactic| (refine kda_in (knd := PySem.strKind _ _) (by k_asm) (by k_mem) (by k_asm) (by k_asm) (strKind_is _ _ _ _) _ (by assumption) ?_))
local macro_rules | `(tactic| walk_at "compareOp NotIn str ref") => `(tactic| (refine kdg_notin (knd := PySem.strKind _ _) (by k_asm) (by k_mem) (by k_asm) (by k_asm) (strKind_is _ _ _ _) _ (by assumption) ?_; (try dsimp only [Bool.not_true, Bool.not_false])))
local macro_rules | `(tactic| walk_at "subscriptTail") => `(tactic| ((with_reducible show wpAny _ _ (subscriptTail _ _ (Value.ref _) (Value.str _ _)) _ _ _); refine kdt_tail (knd := PySem.strKind _ _) (by k_asm) (by k_mem) (by k_asm) ?_; refine kdt_getItem (knd := PySem.strKind _ _) (by k_asm) (by k_mem) (by k_asm) (strKind_is _ _ _ _) (by assumption) ?_))
local macro_rules | `(tactic| walk_at "setItem ref str") => `(tactic| (refine kda_set (knd := PySem.strKind _ _) (by k_asm) (by k_asm) (by k_updF) (by k_asm) (strKind_is _ _ _ _) (by rw [sizeLine_eq]; omega) ?_; intro h' o' F' N' hd'; (try dsimp only at N')))
local macro_rules | `(tactic| walk_at "getMethod ref") => `(tactic| ((with_reducible show wpAny _ _ (getMethod (Value.ref _) (Str.ofString "get") _) _ _ _); refine kdg_method (knd := PySem.strKind _ _) (by k_asm) (by k_mem) (by k_asm) ?_))
local macro_rules | `(tactic| walk_at "call builtin:dict.get") => `(tactic| (refine kdg_get1 (knd := PySem.strKind _ _) (by k_asm) (by k_mem) (by k_asm) (by k_asm) (strKind_is _ _ _ _) _ rfl ?_))
section
local macro_rules | `(tactic| k_mem) => `(tactic| first | assumption | exact List.mem_cons_self | (refine List.mem_cons_of_mem _ ?_; k_mem) | ktr_member)
section
set_option maxHeartbeats 4000000
theorem reg7 (w : World) : (model PySem.Challenge.rw_nt0032_01.row.prog w = model PySem.Challenge.rw_nt0032_01.row.prog w) ∧ K w.params = K w.params := by
  k_fill
  exact ⟨rfl, rfl⟩
section
variable {w : World} {p : Program} {loose : List Str} {mean : ExcName → Option Value} {mg mb : Mp} {dp un : Nat} {gd : Option (List Code)} {cn : Str} {cs : Scope} {a : Addr} {ccd : Value} {cl : List (Str × Addr)} {outer : List Env} {A₀ : Around} {base h₀ : Heap} {L : Addr} {m : Mp} {news : Led} {s : Shared} {Q : Value → Shared → Prop}
/-- map_of, the map is there -/
theorem mapof_old {xd mp x : Addr} {kvs : List (Str × Value)} {nm : Str} {nt : Tok} (c : Cx w p loose mean mg mb outer A₀ base h₀ L m news s cs dp un 4 20) (hD : DataAt w xd mp kvs news) (hv : valueAt kvs nm = some (.ref x))
    (ret : ∀ h' tk', Fr h₀ L h' m → News h₀ L h' news → Q (.ref x) { s with heap := h', toks := tk' }) :
    wpAny (md w) (ktrTop dp un gd cn cs L a ccd cl outer) (call (.ref 314) [.ref xd, .str nm nt]) Q (fun _ _ => False) s := by
  have hd := c.hd
  have hu := c.hu
  refine wpAny_call (enter (qual := Str.ofString "Data.map_of") [(Str.ofString "self", .ref xd), (Str.ofString "name", .str nm nt)] (fun v news' => v = .ref x ∧ news' = news) c
    (by k_is) (by k_is) (BindsTo.of_eq rfl) rfl rfl rfl rfl (by decide) ?_ (by rintro v news' h' tk' ⟨rfl, rfl⟩ F' N'; exact ret h' tk' F' N'))
  clear ret c
  obtain ⟨ddx, df, pr, wd, om, od, t1, t2, t3, t4, g1, g2, g3, g4, j, m1, m2, m3, hdf, lodf, m4, hom, lomp, ne1, ne2⟩ := hD
  intro g L' h' tk' F' N' B' X' T' _
  refine @wp_gen Flow _ _ _ _ _ _ ?_
  intro Q₀ hQ₀
  have hv2 : (valueAt kvs nm).isSome = true := by rw [hv]; rfl
  repeat' (first | ((with_reducible show wpAny _ _ (execs (_ :: _) _) _ _ _); walk1; (try dsimp only)) | ((fail_if_success (with_reducible show wpAny _ _ (exec (Stmt.While _ _ _ _) _) _ _ _); fail_if_success ((with_reducible show wpAny _ _ (exec _ _) _ _ _); show wpAny _ _ (exec (Stmt.For _ _ _ _ _) _) _ _ _); fail_if_success (with_reducible show wpAny _ _ (call (Value.ref _) _) _ _ _)); walk1) | (dsimp only; (fail_if_success (with_reducible show wpAny _ _ (exec (Stmt.While _ _ _ _) _) _ _ _); fail_if_success ((with_reducible show wpAny _ _ (exec _ _) _ _ _); show wpAny _ _ (exec (Stmt.For _ _ _ _ _) _) _ _ _); fail_if_success (with_reducible show wpAny _ _ (call (Value.ref _) _) _ _ _)); walk1))
  rename Fr _ _ _ _ => F6
  rename News _ _ _ _ => N6
  exact hQ₀ _ _ <| RetAt.ret F6 N6 ⟨rfl, rfl⟩
/-- map_of, the map is made -/
theorem mapof_newF {own : Led} {S : Addr → Prop} {xd mp : Addr} {kvs : List (Str × Value)} {nm : Str} {nt : Tok} {P : Value → Prop} (c : Cx w p loose mean mg mb outer A₀ base h₀ L m news s cs dp un 8 40) (hD : DataAt w xd mp kvs own) (hown : ∀ q ∈ own, q ∈ news ∧ ¬ S q.1) (hS : ∀ b, S b → ∃ o, (b, o) ∈ news) (hv : valueAt kvs nm = none) (hlen : kvs.length ≤ 50)
    (hP : ∀ dk t, valueAt dk (Str.ofString "ccc") = some (.int 0 t) → (valueAt dk (Str.ofString "dm")).getD .none = .none → P ((valueAt dk nm).getD .none))
    (ret : ∀ x dx dv news' h' tk', P dv → (∀ q ∈ news, q.1 ≠ mp → q ∈ news') → (∃ n1, DataAt w xd mp (stored kvs nm (.ref x)) n1 ∧ ∀ q ∈ n1, q ∈ news' ∧ q.1 ≠ dx ∧ ¬ S q.1) → (∃ n2, RMd n2 x dx dv [0] [dv] ∧ ∀ q ∈ n2, q ∈ news' ∧ ¬ S q.1) → (∀ q ∈ news, q.1 ≠ mp → q.1 ≠ dx) → dx ≠ mp → Fr h₀ L h' m → News h₀ L h' news' → Q (.ref x) { s with heap := h', toks := tk' }) :
    wpAny (md w) (ktrTop dp un gd cn cs L a ccd cl outer) (call (.ref 314) [.ref xd, .str nm nt]) Q (fun _ _ => False) s := by
  have hd := c.hd
  have hu := c.hu
  refine wpAny_call (enter (qual := Str.ofString "Data.map_of") [(Str.ofString "self", .ref xd), (Str.ofString "name", .str nm nt)] (fun v news' => ∃ x dx dv, v = .ref x ∧ P dv ∧ (∀ q ∈ news, q.1 ≠ mp → q ∈ news') ∧ (∃ n1, DataAt w xd mp (stored kvs nm (.ref x)) n1 ∧ ∀ q ∈ n1, q ∈ news' ∧ q.1 ≠ dx ∧ ¬ S q.1) ∧ (∃ n2, RMd n2 x dx dv [0] [dv] ∧ ∀ q ∈ n2, q ∈ news' ∧ ¬ S q.1) ∧ (∀ q ∈ news, q.1 ≠ mp → q.1 ≠ dx) ∧ dx ≠ mp) c
    (by k_is) (by k_is) (BindsTo.of_eq rfl) rfl rfl rfl rfl (by decide) ?_ (by rintro v news' h' tk' ⟨x, dx, dv, rfl, e1, e2, e3, e4, e5, e6⟩ F' N'; exact ret x dx dv news' h' tk' e1 e2 e3 e4 e5 e6 F' N'))
  clear ret c
  obtain ⟨ddx, df, pr, wd, om, od, t1, t2, t3, t4, g1, g2, g3, g4, j, m1, m2, m3, ⟨dk, td, hdk1, hdk2, hdk3, hdk4⟩, lodf, m4, hom, lomp, ne1, ne2⟩ := hD
  have s1 := (hown _ m1).2
  have s2 := (hown _ m2).2
  have s3 := (hown _ m3).2
  have s4 := (hown _ m4).2
  replace m1 := (hown _ m1).1
  replace m2 := (hown _ m2).1
  replace m3 := (hown _ m3).1
  replace m4 := (hown _ m4).1
  intro g L' h' tk' F' N' B' X' T' _
  refine @wp_gen Flow _ _ _ _ _ _ ?_
  intro Q₀ hQ₀
  have omd : om.cls = .type "dict" := by obtain ⟨es, ep, hc, _⟩ := hom; exact hc.1
  have hv2 : (valueAt kvs nm).isSome = false := by rw [hv]; rfl
  have N1 := News.front N' m4
  have n1 : (xd, instObj 317 ddx) ∈ minus mp news := mem_minus.mpr ⟨m1, listEq (N' _ m1).1 (N' _ m4).1 (by rw [omd]; exact ref_type)⟩
  have n2 := mem_minus.mpr ⟨m2, ne2⟩
  have n3 := mem_minus.mpr ⟨m3, ne1⟩
  have hrest : ∀ q ∈ minus mp news, q.1 ≠ mp := minus_ne
  have keep : ∀ q ∈ news, q.1 ≠ mp → q ∈ minus mp news := fun q hq hn => mem_minus.mpr ⟨hq, hn⟩
  have hdv := hP dk td hdk2 hdk3
  clear N' m1 m2 m3 m4
  generalize minus mp news = rest at *
  repeat' (first | ((with_reducible show wpAny _ _ (execs (_ :: _) _) _ _ _); walk1; (try dsimp only)) | ((fail_if_success (with_reducible show wpAny _ _ (exec (Stmt.While _ _ _ _) _) _ _ _); fail_if_success ((with_reducible show wpAny _ _ (exec _ _) _ _ _); show wpAny _ _ (exec (Stmt.For _ _ _ _ _) _) _ _ _); fail_if_success (with_reducible show wpAny _ _ (call (Value.ref _) _) _ _ _)); walk1) | (dsimp only; (fail_if_success (with_reducible show wpAny _ _ (exec (Stmt.While _ _ _ _) _) _ _ _); fail_if_success ((with_reducible show wpAny _ _ (exec _ _) _ _ _); show wpAny _ _ (exec (Stmt.For _ _ _ _ _) _) _ _ _); fail_if_success (with_reducible show wpAny _ _ (call (Value.ref _) _) _ _ _)); walk1))
  refine rnew_spec ⟨by k_asm, by k_asm, by k_asm, by k_asm, by k_asm, rfl, by show dp + 1 + 4 < _; omega, by show un + 3 + 10 < _; omega⟩ ?_
  intro x dx st vl t1' t2' t3' g1' g2' g3' j' k1 k2 t0 h₂ tk₂ F₂ N₂ ho
  have o1 := neN (ho (mp, om) (.head _)).1
  have o2 := neN (ho (mp, om) (.head _)).2.1
  have o3 := neN (ho (mp, om) (.head _)).2.2.1
  have o4 := neN (ho (mp, om) (.head _)).2.2.2
  dsimp only at o1 o2 o3 o4
  have hst : valueAt (stored kvs nm (.ref x)) nm = some (.ref x) := (valueAt_stored kvs nm (.ref x) nm).trans (if_pos rfl)
  try clear N1
  repeat' (first | ((with_reducible show wpAny _ _ (execs (_ :: _) _) _ _ _); walk1; (try dsimp only)) | ((fail_if_success (with_reducible show wpAny _ _ (exec (Stmt.While _ _ _ _) _) _ _ _); fail_if_success ((with_reducible show wpAny _ _ (exec _ _) _ _ _); show wpAny _ _ (exec (Stmt.For _ _ _ _ _) _) _ _ _); fail_if_success (with_reducible show wpAny _ _ (call (Value.ref _) _) _ _ _)); walk1) | (dsimp only; (fail_if_success (with_reducible show wpAny _ _ (exec (Stmt.While _ _ _ _) _) _ _ _); fail_if_success ((with_reducible show wpAny _ _ (exec _ _) _ _ _); show wpAny _ _ (exec (Stmt.For _ _ _ _ _) _) _ _ _); fail_if_success (with_reducible show wpAny _ _ (call (Value.ref _) _) _ _ _)); walk1))
  rename Fr _ _ _ _ => F6
  rename News _ _ _ _ => N6
  rename Obj.IsDictOf (PySem.strKind _ _) _ (stored _ _ _) => hO6
  have hsep : ∀ (o6 : Obj), ∀ q ∈ (mp, o6) :: rest, q.1 ≠ dx := by
    intro o6 q hq
    rcases List.mem_cons.mp hq with rfl | hq
    · exact o1
    · exact (ho q (.tail _ hq)).1
  have fresh : ∀ (y : Addr), (∀ q ∈ (mp, om) :: rest, q.1 ≠ y) → ¬ S y := fun y hy hs => by
    obtain ⟨o, ho'⟩ := hS _ hs
    by_cases e2 : y = mp
    · exact hy (mp, om) (.head _) e2.symm
    · exact hy _ (.tail _ (keep _ ho' e2)) rfl
  have f1 := fresh _ fun q hq => (ho q hq).1
  have f2 := fresh _ fun q hq => (ho q hq).2.1
  have f3 := fresh _ fun q hq => (ho q hq).2.2.1
  have f4 := fresh _ fun q hq => (ho q hq).2.2.2
  refine (fun (nl : Led) (N7 : News g L' _ nl) (o6 : Obj) (ox odx ost ovl : Obj) (hO7 : o6.IsDictOf (PySem.strKind PySem.Challenge.rw_nt0032_01.row.prog w) (stored kvs nm (.ref x))) (hI : ∀ q ∈ (mp, o6) :: rest, q ∈ nl) (i1 : (x, ox) ∈ nl) (i2 : (dx, odx) ∈ nl) (i3 : (st, ost) ∈ nl) (i4 : (vl, ovl) ∈ nl) (hR : RMd [(x, ox), (dx, odx), (st, ost), (vl, ovl)] x dx _ [0] [_]) => hQ₀ _ _ <| RetAt.ret F6 N7 ⟨x, dx, _, rfl, hdv, (fun q hq hn => hI q (.tail _ (keep q hq hn))), ⟨[(xd, _), (ddx, _), (df, od), (mp, o6)], ⟨ddx, df, _, _, _, od, _, _, _, _, _, _, _, _, _, .head _, .tail _ (.head _), .tail _ (.tail _ (.head _)), ⟨dk, td, hdk1, hdk2, hdk3, hdk4⟩, lodf, .tail _ (.tail _ (.tail _ (.head _))), hO7, lomp, ne1, ne2⟩, fun q hq => by
      simp only [List.mem_cons, List.not_mem_nil, or_false] at hq
      rcases hq with rfl | rfl | rfl | rfl
      · exact ⟨hI _ (.tail _ n1), hsep o6 _ (.tail _ n1), s1⟩
      · exact ⟨hI _ (.tail _ n2), hsep o6 _ (.tail _ n2), s2⟩
      · exact ⟨hI _ (.tail _ n3), hsep o6 _ (.tail _ n3), s3⟩
      · exact ⟨hI _ (.head _), o1, s4⟩⟩, ⟨_, hR, fun q hq => by
      simp only [List.mem_cons, List.not_mem_nil, or_false] at hq
      rcases hq with rfl | rfl | rfl | rfl
      · exact ⟨i1, f2⟩
      · exact ⟨i2, f1⟩
      · exact ⟨i3, f3⟩
      · exact ⟨i4, f4⟩⟩, (fun q hq hn => (ho q (.tail _ (keep q hq hn))).1), o1.symm⟩) _ N6 _ _ _ _ _ hO6 ?_ (by k_mem) (by k_mem) (by k_mem) (by k_mem) ⟨st, vl, _, _, _, _, _, _, _, _, _, _, by k_mem, by k_mem, by k_mem, by k_mem, IntsAre.cons _ _ .nil⟩
  intro q hq
  repeat (first | exact hq | refine List.mem_cons_of_mem _ ?_)
theorem mapof_new {xd mp : Addr} {kvs : List (Str × Value)} {nm : Str} {nt : Tok} {P : Value → Prop} (c : Cx w p loose mean mg mb outer A₀ base h₀ L m news s cs dp un 8 40) (hD : DataAt w xd mp kvs news) (hv : valueAt kvs nm = none) (hlen : kvs.length ≤ 50)
    (hP : ∀ dk t, valueAt dk (Str.ofString "ccc") = some (.int 0 t) → (valueAt dk (Str.ofString "dm")).getD .none = .none → P ((valueAt dk nm).getD .none))
    (ret : ∀ x dx dv news' h' tk', P dv → (∀ q ∈ news, q.1 ≠ mp → q ∈ news') → (∃ n1, DataAt w xd mp (stored kvs nm (.ref x)) n1 ∧ ∀ q ∈ n1, q ∈ news' ∧ q.1 ≠ dx) → RMd news' x dx dv [0] [dv] → (∀ q ∈ news, q.1 ≠ mp → q.1 ≠ dx) → dx ≠ mp → Fr h₀ L h' m → News h₀ L h' news' → Q (.ref x) { s with heap := h', toks := tk' }) :
    wpAny (md w) (ktrTop dp un gd cn cs L a ccd cl outer) (call (.ref 314) [.ref xd, .str nm nt]) Q (fun _ _ => False) s := by
  refine mapof_newF (own := news) (S := fun _ => False) c hD (fun q hq => ⟨hq, id⟩) (fun _ h => h.elim) hv hlen hP ?_
  rintro x dx dv news' h' tk' e1 e2 ⟨n1, e3, e4⟩ ⟨n2, ⟨st, vl, t1, t2, t3, g1, g2, g3, n, k1, k2, sv, q1, q2, q3, q4, q5⟩, e6⟩ e7 e8 F' N'
  exact ret x dx dv news' h' tk' e1 e2 ⟨n1, e3, fun q hq => ⟨(e4 q hq).1, (e4 q hq).2.1⟩⟩ ⟨st, vl, t1, t2, t3, g1, g2, g3, n, k1, k2, sv, (e6 _ q1).1, (e6 _ q2).1, (e6 _ q3).1, (e6 _ q4).1, q5⟩ e7 e8 F' N'
theorem DataAt.mono {xd mp : Addr} {kvs : List (Str × Value)} {n1 n2 : Led} (h : DataAt w xd mp kvs n1) (hs : ∀ q ∈ n1, q ∈ n2) : DataAt w xd mp kvs n2 := by
  obtain ⟨ddx, df, pr, wd, om, od, t1, t2, t3, t4, g1, g2, g3, g4, j, m1, m2, m3, hdf, lodf, m4, r⟩ := h
  exact ⟨ddx, df, pr, wd, om, od, t1, t2, t3, t4, g1, g2, g3, g4, j, hs _ m1, hs _ m2, hs _ m3, hdf, lodf, hs _ m4, r⟩
theorem DataAt.map {xd mp : Addr} {kvs : List (Str × Value)} {n1 : Led} (h : DataAt w xd mp kvs n1) : ∃ om, (mp, om) ∈ n1 ∧ om.cls = .type "dict" := by
  obtain ⟨ddx, df, pr, wd, om, od, t1, t2, t3, t4, g1, g2, g3, g4, j, m1, m2, m3, hdf, lodf, m4, hom, r⟩ := h
  obtain ⟨es, ep, hc, _⟩ := hom
  exact ⟨om, m4, hc.1⟩
/-- Data.get, the map is there -/
theorem dget_old {xd mp x : Addr} {kvs : List (Str × Value)} {nm : Str} {nt kt : Tok} {dv : Value} {ns : List Int} {vv : List Value} {n : Int} (c : Cx w p loose mean mg mb outer A₀ base h₀ L m news s cs dp un 6 80) (hD : DataAt w xd mp kvs news) (hv : valueAt kvs nm = some (.ref x))
    (hx : RM news x dv ns vv) (hlen : ns.length < 1000) (hs : ns.Pairwise (· < ·)) (h1 : vv.length = ns.length) (h0 : ns.head? = some 0) (hn : 0 ≤ n)
    (ret : ∀ (r : Int) v h' tk', PlaceAt ns n r → 0 < r → vv[(r - 1).toNat]? = some v → Fr h₀ L h' m → News h₀ L h' news → Q v { s with heap := h', toks := tk' }) :
    wpAny (md w) (ktrTop dp un gd cn cs L a ccd cl outer) (call (.ref 307) [.ref xd, .str nm nt, .int n kt]) Q (fun _ _ => False) s := by
  have hd := c.hd
  have hu := c.hu
  refine wpAny_call (enter (qual := Str.ofString "Data.get") [(Str.ofString "self", .ref xd), (Str.ofString "name", .str nm nt), (Str.ofString "code", .int n kt)] (fun v news' => news' = news ∧ ∃ r, PlaceAt ns n r ∧ 0 < r ∧ vv[(r - 1).toNat]? = some v) c
    (by k_is) (by k_is) (BindsTo.of_eq rfl) rfl rfl rfl rfl (by decide) ?_ (by rintro v news' h' tk' ⟨rfl, r, hp, h0, hv⟩ F' N'; exact ret r v h' tk' hp h0 hv F' N'))
  clear ret c
  obtain ⟨ddx, df, pr, wd, om, od, t1, t2, t3, t4, g1, g2, g3, g4, j, m1, m2, m3, hdf, lodf, m4, hom, lomp, ne1, ne2⟩ := hD
  obtain ⟨dx, st, vl, tt1, tt2, tt3, gg1, gg2, gg3, jj, k1, k2, sv, q1, q2, q3, q4, q5⟩ := id hx
  intro g L' h' tk' F' N' B' X' T' _
  refine @wp_gen Flow _ _ _ _ _ _ ?_
  intro Q₀ hQ₀
  have hv2 : (valueAt kvs nm).isSome = true := by rw [hv]; rfl
  repeat' (first | ((with_reducible show wpAny _ _ (execs (_ :: _) _) _ _ _); walk1; (try dsimp only)) | ((fail_if_success (with_reducible show wpAny _ _ (exec (Stmt.While _ _ _ _) _) _ _ _); fail_if_success ((with_reducible show wpAny _ _ (exec _ _) _ _ _); show wpAny _ _ (exec (Stmt.For _ _ _ _ _) _) _ _ _); fail_if_success (with_reducible show wpAny _ _ (call (Value.ref _) _) _ _ _)); walk1) | (dsimp only; (fail_if_success (with_reducible show wpAny _ _ (exec (Stmt.While _ _ _ _) _) _ _ _); fail_if_success ((with_reducible show wpAny _ _ (exec _ _) _ _ _); show wpAny _ _ (exec (Stmt.For _ _ _ _ _) _) _ _ _); fail_if_success (with_reducible show wpAny _ _ (call (Value.ref _) _) _ _ _)); walk1))
  refine rget_spec ⟨by k_asm, by k_asm, by k_asm, by k_asm, by k_asm, rfl, by show dp + 1 + 4 < _; omega, by show un + 3 + 60 < _; omega⟩ hx hlen hs h1 h0 hn ?_
  intro r v h₂ tk₂ hp hr hv' F₂ N₂
  repeat' (first | ((with_reducible show wpAny _ _ (execs (_ :: _) _) _ _ _); walk1; (try dsimp only)) | ((fail_if_success (with_reducible show wpAny _ _ (exec (Stmt.While _ _ _ _) _) _ _ _); fail_if_success ((with_reducible show wpAny _ _ (exec _ _) _ _ _); show wpAny _ _ (exec (Stmt.For _ _ _ _ _) _) _ _ _); fail_if_success (with_reducible show wpAny _ _ (call (Value.ref _) _) _ _ _)); walk1) | (dsimp only; (fail_if_success (with_reducible show wpAny _ _ (exec (Stmt.While _ _ _ _) _) _ _ _); fail_if_success ((with_reducible show wpAny _ _ (exec _ _) _ _ _); show wpAny _ _ (exec (Stmt.For _ _ _ _ _) _) _ _ _); fail_if_success (with_reducible show wpAny _ _ (call (Value.ref _) _) _ _ _)); walk1))
  exact hQ₀ _ _ <| RetAt.ret F₂ N₂ ⟨rfl, r, hp, hr, hv'⟩
/-- Data.get, no map -/
theorem dget_new {xd mp : Addr} {kvs : List (Str × Value)} {nm : Str} {nt kt : Tok} {n : Int} {P : Value → Prop} (c : Cx w p loose mean mg mb outer A₀ base h₀ L m news s cs dp un 6 80) (hD : DataAt w xd mp kvs news) (hv : valueAt kvs nm = none)
    (hP : ∀ dk t, valueAt dk (Str.ofString "ccc") = some (.int 0 t) → (valueAt dk (Str.ofString "dm")).getD .none = .none → P ((valueAt dk nm).getD .none))
    (ret : ∀ v h' tk', P v → Fr h₀ L h' m → News h₀ L h' news → Q v { s with heap := h', toks := tk' }) :
    wpAny (md w) (ktrTop dp un gd cn cs L a ccd cl outer) (call (.ref 307) [.ref xd, .str nm nt, .int n kt]) Q (fun _ _ => False) s := by
  have hd := c.hd
  have hu := c.hu
  refine wpAny_call (enter (qual := Str.ofString "Data.get") [(Str.ofString "self", .ref xd), (Str.ofString "name", .str nm nt), (Str.ofString "code", .int n kt)] (fun v news' => news' = news ∧ P v) c
    (by k_is) (by k_is) (BindsTo.of_eq rfl) rfl rfl rfl rfl (by decide) ?_ (by rintro v news' h' tk' ⟨rfl, h0⟩ F' N'; exact ret v h' tk' h0 F' N'))
  clear ret c
  obtain ⟨ddx, df, pr, wd, om, od, t1, t2, t3, t4, g1, g2, g3, g4, j, m1, m2, m3, ⟨dk, td, hdk1, hdk2, hdk3, hdk4⟩, lodf, m4, hom, lomp, ne1, ne2⟩ := hD
  intro g L' h' tk' F' N' B' X' T' _
  refine @wp_gen Flow _ _ _ _ _ _ ?_
  intro Q₀ hQ₀
  have hv2 : (valueAt kvs nm).isSome = false := by rw [hv]; rfl
  have hdv := hP dk td hdk2 hdk3
  repeat' (first | ((with_reducible show wpAny _ _ (execs (_ :: _) _) _ _ _); walk1; (try dsimp only)) | ((fail_if_success (with_reducible show wpAny _ _ (exec (Stmt.While _ _ _ _) _) _ _ _); fail_if_success ((with_reducible show wpAny _ _ (exec _ _) _ _ _); show wpAny _ _ (exec (Stmt.For _ _ _ _ _) _) _ _ _); fail_if_success (with_reducible show wpAny _ _ (call (Value.ref _) _) _ _ _)); walk1) | (dsimp only; (fail_if_success (with_reducible show wpAny _ _ (exec (Stmt.While _ _ _ _) _) _ _ _); fail_if_success ((with_reducible show wpAny _ _ (exec _ _) _ _ _); show wpAny _ _ (exec (Stmt.For _ _ _ _ _) _) _ _ _); fail_if_success (with_reducible show wpAny _ _ (call (Value.ref _) _) _ _ _)); walk1))
  exact hQ₀ _ _ <| RetAt.ret F' N' ⟨rfl, hdv⟩
end
end
section
set_option maxHeartbeats 4000000
theorem reg8 (w : World) : (model PySem.Challenge.rw_nt0032_01.row.prog w = model PySem.Challenge.rw_nt0032_01.row.prog w) ∧ K w.params = K w.params := by
  k_fill
  exact ⟨rfl, rfl⟩
section
variable {w : World} {p : Program} {loose : List Str} {mean : ExcName → Option Value} {mg mb : Mp} {dp un : Nat} {gd : Option (List Code)} {cn : Str} {cs : Scope} {a : Addr} {ccd : Value} {cl : List (Str × Addr)} {outer : List Env} {A₀ : Around} {base h₀ : Heap} {L : Addr} {m : Mp} {news : Led} {s : Shared} {Q : Value → Shared → Prop}
/-- what put leaves -/
def PutRel (ns vals : List Int) (c v : Int) (ns' vals' : List Int) : Prop :=
  ∃ r r', PlaceAt ns (c - 1) r ∧ PlaceAt ns (c + 1) r' ∧ ns' = ns.take r.toNat ++ (putMid (vals.getD (r' - 1).toNat 0) (vals.getD (r - 1).toNat 0) c v).1 ++ ns.drop r'.toNat ∧
    vals' = vals.take r.toNat ++ (putMid (vals.getD (r' - 1).toNat 0) (vals.getD (r - 1).toNat 0) c v).2 ++ vals.drop r'.toNat
/-- the data with its map of classes -/
def CccAt (w : World) (xd mp x dx : Addr) (ns vals : List Int) (news : Led) : Prop :=
  ∃ n1 kvs vv dv, DataAt w xd mp kvs n1 ∧ (∀ q ∈ n1, q ∈ news ∧ q.1 ≠ dx) ∧ valueAt kvs (Str.ofString "ccc") = some (.ref x) ∧ valueAt kvs (Str.ofString "dm") = none ∧ kvs.length ≤ 2 ∧ RMd news x dx dv ns vv ∧ IntsAre vv vals
theorem dput_old {own : Led} {S : Addr → Prop} {xd mp x dx : Addr} {nt ct ct' vt : Tok} {ns vals : List Int} {c0 v0 : Int} (c : Cx w p loose mean mg mb outer A₀ base h₀ L m news s cs dp un 9 140) (hD : CccAt w xd mp x dx ns vals own)
    (hown : ∀ q ∈ own, q ∈ news ∧ ¬ S q.1) (hS : ∀ b, S b → ∃ o, (b, o) ∈ news)
    (hlen : ns.length < 900) (hs : ns.Pairwise (· < ·)) (hvl : vals.length = ns.length) (h0 : ns.head? = some 0) (hc : 0 < c0) (hc' : c0 < 1000)
    (ret : ∀ ns' vals' own' news' h' tk', PutRel ns vals c0 v0 ns' vals' → CccAt w xd mp x dx ns' vals' own' → (∀ q ∈ own', q ∈ news' ∧ ¬ S q.1) → (∀ q ∈ news, q.1 ≠ dx → q ∈ news') → ¬ S dx → Fr h₀ L h' m → News h₀ L h' news' → Q .none { s with heap := h', toks := tk' }) :
    wpAny (md w) (ktrTop dp un gd cn cs L a ccd cl outer) (call (.ref 300) [.ref xd, .str (Str.ofString "ccc") nt, .int c0 ct, .int c0 ct', .int v0 vt]) Q (fun _ _ => False) s := by
  have hd := c.hd
  have hu := c.hu
  refine wpAny_call (enter (qual := Str.ofString "Data.put") [(Str.ofString "self", .ref xd), (Str.ofString "name", .str (Str.ofString "ccc") nt), (Str.ofString "first", .int c0 ct), (Str.ofString "last", .int c0 ct'), (Str.ofString "value", .int v0 vt)] (fun v news' => v = .none ∧ ∃ ns' vals' own', PutRel ns vals c0 v0 ns' vals' ∧ CccAt w xd mp x dx ns' vals' own' ∧ (∀ q ∈ own', q ∈ news' ∧ ¬ S q.1) ∧ (∀ q ∈ news, q.1 ≠ dx → q ∈ news') ∧ ¬ S dx) c
    (by k_is) (by k_is) (BindsTo.of_eq rfl) rfl rfl rfl rfl (by decide) ?_ (by rintro v news' h' tk' ⟨rfl, ns', vals', own', e1, e2, e3, e4, e5⟩ F' N'; exact ret ns' vals' own' news' h' tk' e1 e2 e3 e4 e5 F' N'))
  clear ret c
  obtain ⟨n1, kvs, vv, dv, hDA, hn1, hv, hvd, hkl, ⟨st, vl, tt1, tt2, tt3, gg1, gg2, gg3, jj, k1, k2, sv, q1, q2, q3, q4, q5⟩, hvv⟩ := hD
  have s1 := (hown _ q1).2
  have s2 := (hown _ q2).2
  replace q1 := (hown _ q1).1
  replace q2 := (hown _ q2).1
  replace q3 := (hown _ q3).1
  replace q4 := (hown _ q4).1
  have hDA' := hDA.mono (fun q hq => (hown q (hn1 q hq).1).1)
  obtain ⟨ddx, df, pr, wd, om, od, t1, t2, t3, t4, g1, g2, g3, g4, j, m1, m2, m3, hdf, lodf, m4, hom, lomp, ne1, ne2⟩ := id hDA'
  intro g L' h' tk' F' N' B' X' T' _
  refine @wp_gen Flow _ _ _ _ _ _ ?_
  intro Q₀ hQ₀
  have hxd : x ≠ dx := listEq (N' _ q1).1 (N' _ q2).1 ref_type
  repeat' (first | ((with_reducible show wpAny _ _ (execs (_ :: _) _) _ _ _); walk1; (try dsimp only)) | ((fail_if_success (with_reducible show wpAny _ _ (exec (Stmt.While _ _ _ _) _) _ _ _); fail_if_success ((with_reducible show wpAny _ _ (exec _ _) _ _ _); show wpAny _ _ (exec (Stmt.For _ _ _ _ _) _) _ _ _); fail_if_success (with_reducible show wpAny _ _ (call (Value.ref _) _) _ _ _)); walk1) | (dsimp only; (fail_if_success (with_reducible show wpAny _ _ (exec (Stmt.While _ _ _ _) _) _ _ _); fail_if_success ((with_reducible show wpAny _ _ (exec _ _) _ _ _); show wpAny _ _ (exec (Stmt.For _ _ _ _ _) _) _ _ _); fail_if_success (with_reducible show wpAny _ _ (call (Value.ref _) _) _ _ _)); walk1))
  refine mapof_old ⟨by k_asm, by k_asm, by k_asm, by k_asm, by k_asm, rfl, by show dp + 1 + 4 < _; omega, by show un + 3 + 20 < _; omega⟩ hDA' hv ?_
  intro h₂ tk₂ F₂ N₂
  try clear F' N'
  repeat' (first | ((with_reducible show wpAny _ _ (execs (_ :: _) _) _ _ _); walk1; (try dsimp only)) | ((fail_if_success (with_reducible show wpAny _ _ (exec (Stmt.While _ _ _ _) _) _ _ _); fail_if_success ((with_reducible show wpAny _ _ (exec _ _) _ _ _); show wpAny _ _ (exec (Stmt.For _ _ _ _ _) _) _ _ _); fail_if_success (with_reducible show wpAny _ _ (call (Value.ref _) _) _ _ _)); walk1) | (dsimp only; (fail_if_success (with_reducible show wpAny _ _ (exec (Stmt.While _ _ _ _) _) _ _ _); fail_if_success ((with_reducible show wpAny _ _ (exec _ _) _ _ _); show wpAny _ _ (exec (Stmt.For _ _ _ _ _) _) _ _ _); fail_if_success (with_reducible show wpAny _ _ (call (Value.ref _) _) _ _ _)); walk1))
  refine rput_spec ⟨by k_asm, by k_asm, by k_asm, by k_asm, by k_asm, rfl, by show dp + 1 + 6 < _; omega, by show un + 3 + 120 < _; omega⟩ q1 q2 q3 q4 q5 hvv hlen hs hvl h0 hc hc' ?_
  intro news' st' vl' k1' k2' sv' vv' r r' h₃ tk₃ p1 p2 i1 i2 kp a1 a2 a3 a4 F₃ N₃
  try clear F₂ N₂
  repeat' (first | ((with_reducible show wpAny _ _ (execs (_ :: _) _) _ _ _); walk1; (try dsimp only)) | ((fail_if_success (with_reducible show wpAny _ _ (exec (Stmt.While _ _ _ _) _) _ _ _); fail_if_success ((with_reducible show wpAny _ _ (exec _ _) _ _ _); show wpAny _ _ (exec (Stmt.For _ _ _ _ _) _) _ _ _); fail_if_success (with_reducible show wpAny _ _ (call (Value.ref _) _) _ _ _)); walk1) | (dsimp only; (fail_if_success (with_reducible show wpAny _ _ (exec (Stmt.While _ _ _ _) _) _ _ _); fail_if_success ((with_reducible show wpAny _ _ (exec _ _) _ _ _); show wpAny _ _ (exec (Stmt.For _ _ _ _ _) _) _ _ _); fail_if_success (with_reducible show wpAny _ _ (call (Value.ref _) _) _ _ _)); walk1))
  have f1 : ¬ S st' := fun h => by obtain ⟨o, ho⟩ := hS _ h; exact absurd (a4 _ ho).1 (Nat.lt_irrefl _)
  have f2 : ¬ S vl' := fun h => by obtain ⟨o, ho⟩ := hS _ h; exact absurd (a4 _ ho).2 (Nat.lt_irrefl _)
  refine hQ₀ _ _ <| RetAt.next F₃ N₃ ⟨rfl, _, _, (x, instObj 261 dx) :: (dx, dictOf [⟨gg1, .str (Str.ofString "default") tt1, dv⟩, ⟨gg2, .str (Str.ofString "starts") tt2, .ref st'⟩, ⟨gg3, .str (Str.ofString "values") tt3, .ref vl'⟩] jj) :: (st', listObj sv' k1') :: (vl', listObj vv' k2') :: n1, ⟨r, r', p1, p2, rfl, rfl⟩, ⟨n1, kvs, _, dv, hDA, (fun q hq => ⟨.tail _ (.tail _ (.tail _ (.tail _ hq))), (hn1 q hq).2⟩), hv, hvd, hkl, ⟨_, _, _, _, _, _, _, _, _, _, _, _, .head _, .tail _ (.head _), .tail _ (.tail _ (.head _)), .tail _ (.tail _ (.tail _ (.head _))), i1⟩, i2⟩, fun q hq => ?_, kp, s2⟩
  rcases List.mem_cons.mp hq with rfl | hq
  · exact ⟨kp _ q1 hxd, s1⟩
  rcases List.mem_cons.mp hq with rfl | hq
  · exact ⟨a1, s2⟩
  rcases List.mem_cons.mp hq with rfl | hq
  · exact ⟨a2, f1⟩
  rcases List.mem_cons.mp hq with rfl | hq
  · exact ⟨a3, f2⟩
  · exact ⟨kp q (hown q (hn1 q hq).1).1 (hn1 q hq).2, (hown q (hn1 q hq).1).2⟩
theorem dput_new {own : Led} {S : Addr → Prop} {xd mp : Addr} {nt ct ct' vt : Tok} {c0 v0 : Int} (c : Cx w p loose mean mg mb outer A₀ base h₀ L m news s cs dp un 12 140) (hD : DataAt w xd mp [] own)
    (hown : ∀ q ∈ own, q ∈ news ∧ ¬ S q.1) (hS : ∀ b, S b → ∃ o, (b, o) ∈ news)
    (hc : 0 < c0) (hc' : c0 < 1000)
    (ret : ∀ x dx ns' vals' own' news' h' tk', PutRel [0] [0] c0 v0 ns' vals' → CccAt w xd mp x dx ns' vals' own' → (∀ q ∈ own', q ∈ news' ∧ ¬ S q.1) → (∀ q ∈ news, q.1 ≠ mp → q ∈ news' ∧ q.1 ≠ dx) → ¬ S mp → Fr h₀ L h' m → News h₀ L h' news' → Q .none { s with heap := h', toks := tk' }) :
    wpAny (md w) (ktrTop dp un gd cn cs L a ccd cl outer) (call (.ref 300) [.ref xd, .str (Str.ofString "ccc") nt, .int c0 ct, .int c0 ct', .int v0 vt]) Q (fun _ _ => False) s := by
  have hd := c.hd
  have hu := c.hu
  refine wpAny_call (enter (qual := Str.ofString "Data.put") [(Str.ofString "self", .ref xd), (Str.ofString "name", .str (Str.ofString "ccc") nt), (Str.ofString "first", .int c0 ct), (Str.ofString "last", .int c0 ct'), (Str.ofString "value", .int v0 vt)] (fun v news' => v = .none ∧ ∃ x dx ns' vals' own', PutRel [0] [0] c0 v0 ns' vals' ∧ CccAt w xd mp x dx ns' vals' own' ∧ (∀ q ∈ own', q ∈ news' ∧ ¬ S q.1) ∧ (∀ q ∈ news, q.1 ≠ mp → q ∈ news' ∧ q.1 ≠ dx) ∧ ¬ S mp) c
    (by k_is) (by k_is) (BindsTo.of_eq rfl) rfl rfl rfl rfl (by decide) ?_ (by rintro v news' h' tk' ⟨rfl, x, dx, ns', vals', own', e1, e2, e3, e4, e5⟩ F' N'; exact ret x dx ns' vals' own' news' h' tk' e1 e2 e3 e4 e5 F' N'))
  clear ret c
  have hDn := hD.mono (fun q hq => (hown q hq).1)
  have sm : ¬ S mp := by
    obtain ⟨om, hm, _⟩ := hD.map
    exact (hown _ hm).2
  obtain ⟨ddx, df, pr, wd, om, od, t1, t2, t3, t4, g1, g2, g3, g4, j, m1, m2, m3, hdf, lodf, m4, hom, lomp, ne1, ne2⟩ := id hDn
  intro g L' h' tk' F' N' B' X' T' _
  refine @wp_gen Flow _ _ _ _ _ _ ?_
  intro Q₀ hQ₀
  repeat' (first | ((with_reducible show wpAny _ _ (execs (_ :: _) _) _ _ _); walk1; (try dsimp only)) | ((fail_if_success (with_reducible show wpAny _ _ (exec (Stmt.While _ _ _ _) _) _ _ _); fail_if_success ((with_reducible show wpAny _ _ (exec _ _) _ _ _); show wpAny _ _ (exec (Stmt.For _ _ _ _ _) _) _ _ _); fail_if_success (with_reducible show wpAny _ _ (call (Value.ref _) _) _ _ _)); walk1) | (dsimp only; (fail_if_success (with_reducible show wpAny _ _ (exec (Stmt.While _ _ _ _) _) _ _ _); fail_if_success ((with_reducible show wpAny _ _ (exec _ _) _ _ _); show wpAny _ _ (exec (Stmt.For _ _ _ _ _) _) _ _ _); fail_if_success (with_reducible show wpAny _ _ (call (Value.ref _) _) _ _ _)); walk1))
  refine mapof_newF (own := own) (S := S) (P := fun v => ∃ t, v = .int 0 t) ⟨by k_asm, by k_asm, by k_asm, by k_asm, by k_asm, rfl, by show dp + 1 + 8 < _; omega, by show un + 3 + 40 < _; omega⟩ hD hown hS rfl (Nat.zero_le _) (fun dk t e _ => ⟨t, by rw [e]; rfl⟩) ?_
  rintro x dx dv news₂ h₂ tk₂ ⟨t0, rfl⟩ kp₂ ⟨n1, hDA, hn1⟩ ⟨n2, ⟨st, vl, tt1, tt2, tt3, gg1, gg2, gg3, jj, k1, k2, sv, q1, q2, q3, q4, q5⟩, hn2⟩ hdx hdm F₂ N₂
  have s1 := (hn2 _ q1).2
  have s2 := (hn2 _ q2).2
  replace q1 := (hn2 _ q1).1
  replace q2 := (hn2 _ q2).1
  replace q3 := (hn2 _ q3).1
  replace q4 := (hn2 _ q4).1
  have hxd : x ≠ dx := listEq (N₂ _ q1).1 (N₂ _ q2).1 ref_type
  try clear F' N'
  repeat' (first | ((with_reducible show wpAny _ _ (execs (_ :: _) _) _ _ _); walk1; (try dsimp only)) | ((fail_if_success (with_reducible show wpAny _ _ (exec (Stmt.While _ _ _ _) _) _ _ _); fail_if_success ((with_reducible show wpAny _ _ (exec _ _) _ _ _); show wpAny _ _ (exec (Stmt.For _ _ _ _ _) _) _ _ _); fail_if_success (with_reducible show wpAny _ _ (call (Value.ref _) _) _ _ _)); walk1) | (dsimp only; (fail_if_success (with_reducible show wpAny _ _ (exec (Stmt.While _ _ _ _) _) _ _ _); fail_if_success ((with_reducible show wpAny _ _ (exec _ _) _ _ _); show wpAny _ _ (exec (Stmt.For _ _ _ _ _) _) _ _ _); fail_if_success (with_reducible show wpAny _ _ (call (Value.ref _) _) _ _ _)); walk1))
  refine rput_spec (vals := [0]) ⟨by k_asm, by k_asm, by k_asm, by k_asm, by k_asm, rfl, by show dp + 1 + 6 < _; omega, by show un + 3 + 120 < _; omega⟩ q1 q2 q3 q4 q5 (IntsAre.cons _ _ .nil) (by decide) (by decide) rfl rfl hc hc' ?_
  intro news' st' vl' k1' k2' sv' vv' r r' h₃ tk₃ p1 p2 i1 i2 kp a1 a2 a3 a4 F₃ N₃
  try clear F₂ N₂
  repeat' (first | ((with_reducible show wpAny _ _ (execs (_ :: _) _) _ _ _); walk1; (try dsimp only)) | ((fail_if_success (with_reducible show wpAny _ _ (exec (Stmt.While _ _ _ _) _) _ _ _); fail_if_success ((with_reducible show wpAny _ _ (exec _ _) _ _ _); show wpAny _ _ (exec (Stmt.For _ _ _ _ _) _) _ _ _); fail_if_success (with_reducible show wpAny _ _ (call (Value.ref _) _) _ _ _)); walk1) | (dsimp only; (fail_if_success (with_reducible show wpAny _ _ (exec (Stmt.While _ _ _ _) _) _ _ _); fail_if_success ((with_reducible show wpAny _ _ (exec _ _) _ _ _); show wpAny _ _ (exec (Stmt.For _ _ _ _ _) _) _ _ _); fail_if_success (with_reducible show wpAny _ _ (call (Value.ref _) _) _ _ _)); walk1))
  have hS2 : ∀ b, S b → ∃ o, (b, o) ∈ news₂ := fun b hb => by
    obtain ⟨o, ho⟩ := hS b hb
    exact ⟨o, kp₂ _ ho (fun e => sm (e ▸ hb))⟩
  have f1 : ¬ S st' := fun h => by obtain ⟨o, ho⟩ := hS2 _ h; exact absurd (a4 _ ho).1 (Nat.lt_irrefl _)
  have f2 : ¬ S vl' := fun h => by obtain ⟨o, ho⟩ := hS2 _ h; exact absurd (a4 _ ho).2 (Nat.lt_irrefl _)
  refine hQ₀ _ _ <| RetAt.next F₃ N₃ ⟨rfl, x, dx, _, _, (x, instObj 261 dx) :: (dx, dictOf [⟨gg1, .str (Str.ofString "default") tt1, .int 0 t0⟩, ⟨gg2, .str (Str.ofString "starts") tt2, .ref st'⟩, ⟨gg3, .str (Str.ofString "values") tt3, .ref vl'⟩] jj) :: (st', listObj sv' k1') :: (vl', listObj vv' k2') :: n1, ⟨r, r', p1, p2, rfl, rfl⟩, ⟨n1, _, _, _, hDA, (fun q hq => ⟨.tail _ (.tail _ (.tail _ (.tail _ hq))), (hn1 q hq).2.1⟩), rfl, rfl, Nat.le_of_ble_eq_true rfl, ⟨_, _, _, _, _, _, _, _, _, _, _, _, .head _, .tail _ (.head _), .tail _ (.tail _ (.head _)), .tail _ (.tail _ (.tail _ (.head _))), i1⟩, i2⟩, fun q hq => ?_, fun q hq hn => ⟨kp q (kp₂ q hq hn) (hdx q hq hn), hdx q hq hn⟩, sm⟩
  rcases List.mem_cons.mp hq with rfl | hq
  · exact ⟨kp _ q1 hxd, s1⟩
  rcases List.mem_cons.mp hq with rfl | hq
  · exact ⟨a1, s2⟩
  rcases List.mem_cons.mp hq with rfl | hq
  · exact ⟨a2, f1⟩
  rcases List.mem_cons.mp hq with rfl | hq
  · exact ⟨a3, f2⟩
  · exact ⟨kp q (hn1 q hq).1 (hn1 q hq).2.1, (hn1 q hq).2.2⟩
end
end
section
set_option maxHeartbeats 4000000
theorem reg9 (w : World) : (model PySem.Challenge.rw_nt0032_01.row.prog w = model PySem.Challenge.rw_nt0032_01.row.prog w) ∧ K w.params = K w.params := by
  k_fill
  exact ⟨rfl, rfl⟩
section
variable {w : World} {p : Program} {loose : List Str} {mean : ExcName → Option Value} {mg mb : Mp} {dp un : Nat} {gd : Option (List Code)} {cn : Str} {cs : Scope} {a : Addr} {ccd : Value} {cl : List (Str × Addr)} {outer : List Env} {A₀ : Around} {base h₀ : Heap} {L : Addr} {m : Mp} {news : Led} {s : Shared} {Q : Value → Shared → Prop}
theorem ints_get : ∀ {vs : List Value} {ns : List Int}, IntsAre vs ns → ∀ {i : Nat} {v : Value}, vs[i]? = some v → ∃ t, v = .int (ns.getD i 0) t
  | _, _, .nil, i, v, h => by simp at h
  | _, _, .cons n t r, 0, v, h => by
    simp at h
    exact ⟨t, by rw [← h]; rfl⟩
  | _, _, .cons n t r, i + 1, v, h => by
    simp at h
    obtain ⟨t', e⟩ := ints_get r h
    exact ⟨t', by rw [e]; rfl⟩
/-- the data as it is read: classes by f; b: the map of mappings is made -/
def DC (w : World) (xd mp : Addr) (f : Int → Int) (b : Bool) (news : Led) : Prop :=
  ∃ kvs x dv ns vals vv, DataAt w xd mp kvs news ∧ valueAt kvs (Str.ofString "ccc") = some (.ref x) ∧ RM news x dv ns vv ∧ IntsAre vv vals ∧ ns.length < 900 ∧ ns.Pairwise (· < ·) ∧ vals.length = ns.length ∧ ns.head? = some 0 ∧ kvs.length ≤ (if b then 3 else 2) ∧
    (∀ n, 97 ≤ n → n < 105 → ∀ r, PlaceAt ns n r → vals.getD (r - 1).toNat 0 = f n) ∧
    (match b with | true => ∃ xm, valueAt kvs (Str.ofString "dm") = some (.ref xm) ∧ RM news xm .none [0] [.none] | false => valueAt kvs (Str.ofString "dm") = none)
theorem RM.mono {n1 n2 : Led} {x : Addr} {dv : Value} {ns : List Int} {vv : List Value} (h : RM n1 x dv ns vv) (hs : ∀ q ∈ n1, q ∈ n2) : RM n2 x dv ns vv := by
  obtain ⟨dx, st, vl, t1, t2, t3, g1, g2, g3, n, k1, k2, sv, q1, q2, q3, q4, q5⟩ := h
  exact ⟨dx, st, vl, t1, t2, t3, g1, g2, g3, n, k1, k2, sv, hs _ q1, hs _ q2, hs _ q3, hs _ q4, q5⟩
theorem DC.mono {xd mp : Addr} {f : Int → Int} {b : Bool} {n1 n2 : Led} (h : DC w xd mp f b n1) (hs : ∀ q ∈ n1, q ∈ n2) : DC w xd mp f b n2 := by
  obtain ⟨kvs, x, dv, ns, vals, vv, hDA, hv, hx, hvv, hl, hs', hvl, h0, hk, hf, hb⟩ := h
  refine ⟨kvs, x, dv, ns, vals, vv, hDA.mono hs, hv, hx.mono hs, hvv, hl, hs', hvl, h0, hk, hf, ?_⟩
  cases b with
  | true =>
    obtain ⟨xm, h1, h2⟩ := hb
    exact ⟨xm, h1, h2.mono hs⟩
  | false => exact hb
theorem getccc_spec {xd mp : Addr} {f : Int → Int} {b : Bool} {nt kt : Tok} {n : Int} (c : Cx w p loose mean mg mb outer A₀ base h₀ L m news s cs dp un 6 80) (hD : DC w xd mp f b news) (h1 : 97 ≤ n) (h2 : n < 105)
    (ret : ∀ t h' tk', Fr h₀ L h' m → News h₀ L h' news → Q (.int (f n) t) { s with heap := h', toks := tk' }) :
    wpAny (md w) (ktrTop dp un gd cn cs L a ccd cl outer) (call (.ref 307) [.ref xd, .str (Str.ofString "ccc") nt, .int n kt]) Q (fun _ _ => False) s := by
  obtain ⟨kvs, x, dv, ns, vals, vv, hDA, hv, hx, hvv, hl, hs, hvl, h0, hk, hf, hb⟩ := hD
  refine dget_old c hDA hv hx (by omega) hs (by rw [hvv.length, hvl]) h0 (by omega) ?_
  intro r v h' tk' hp hr hv' F N
  obtain ⟨t, rfl⟩ := ints_get hvv hv'
  rw [hf n h1 h2 r hp]
  exact ret t h' tk' F N
theorem getdm_spec {xd mp : Addr} {f : Int → Int} {b : Bool} {nt kt : Tok} {n : Int} (c : Cx w p loose mean mg mb outer A₀ base h₀ L m news s cs dp un 6 80) (hD : DC w xd mp f b news) (h1 : 0 ≤ n)
    (ret : ∀ h' tk', Fr h₀ L h' m → News h₀ L h' news → Q .none { s with heap := h', toks := tk' }) :
    wpAny (md w) (ktrTop dp un gd cn cs L a ccd cl outer) (call (.ref 307) [.ref xd, .str (Str.ofString "dm") nt, .int n kt]) Q (fun _ _ => False) s := by
  obtain ⟨kvs, x, dv, ns, vals, vv, hDA, hv, hx, hvv, hl, hs, hvl, h0, hk, hf, hb⟩ := hD
  cases b with
  | true =>
    obtain ⟨xm, hvm, hxm⟩ := hb
    refine dget_old c hDA hvm hxm (by decide) (by decide) rfl rfl h1 ?_
    intro r v h' tk' hp hr hv' F N
    have hv2 : v = .none := by
      have := List.mem_of_getElem? hv'
      simpa using this
    rw [hv2]
    exact ret h' tk' F N
  | false =>
    refine dget_new (P := fun v => v = .none) c hDA hb (fun dk t _ e => e) ?_
    rintro v h' tk' rfl F N
    exact ret h' tk' F N
/-- no code of ours is a syllable -/
theorem ishan_spec {n : Int} {t : Tok} (c : Cx w p loose mean mg mb outer A₀ base h₀ L m news s cs dp un 2 20) (hn : n < 105)
    (ret : ∀ h' tk', Fr h₀ L h' m → News h₀ L h' news → Q (.bool false) { s with heap := h', toks := tk' }) :
    wpAny (md w) (ktrTop dp un gd cn cs L a ccd cl outer) (call (.ref 68) [.int n t]) Q (fun _ _ => False) s := by
  have hd := c.hd
  have hu := c.hu
  refine wpAny_call (enter (qual := Str.ofString "is_hangul_syllable") [(Str.ofString "code", .int n t)] (fun v news' => v = .bool false ∧ news' = news) c
    (by k_is) (by k_is) (BindsTo.of_eq rfl) rfl rfl rfl rfl (by decide) ?_ (by rintro v news' h' tk' ⟨rfl, rfl⟩ F' N'; exact ret h' tk' F' N'))
  clear ret c
  intro g L' h' tk' F' N' B' X' T' _
  refine @wp_gen Flow _ _ _ _ _ _ ?_
  intro Q₀ hQ₀
  repeat' (first | ((with_reducible show wpAny _ _ (execs (_ :: _) _) _ _ _); walk1; (try dsimp only)) | ((fail_if_success (with_reducible show wpAny _ _ (exec (Stmt.While _ _ _ _) _) _ _ _); fail_if_success ((with_reducible show wpAny _ _ (exec _ _) _ _ _); show wpAny _ _ (exec (Stmt.For _ _ _ _ _) _) _ _ _); fail_if_success (with_reducible show wpAny _ _ (call (Value.ref _) _) _ _ _)); walk1) | (dsimp only; (fail_if_success (with_reducible show wpAny _ _ (exec (Stmt.While _ _ _ _) _) _ _ _); fail_if_success ((with_reducible show wpAny _ _ (exec _ _) _ _ _); show wpAny _ _ (exec (Stmt.For _ _ _ _ _) _) _ _ _); fail_if_success (with_reducible show wpAny _ _ (call (Value.ref _) _) _ _ _)); walk1))
  all_goals first
    | (exfalso; omega)
    | exact hQ₀ _ _ <| RetAt.ret F' N' ⟨congrArg Value.bool (decide_eq_false (by omega)), rfl⟩
theorem parts_spec {n : Int} {t : Tok} (c : Cx w p loose mean mg mb outer A₀ base h₀ L m news s cs dp un 4 30) (hn : n < 105)
    (ret : ∀ h' tk', Fr h₀ L h' m → News h₀ L h' news → Q .none { s with heap := h', toks := tk' }) :
    wpAny (md w) (ktrTop dp un gd cn cs L a ccd cl outer) (call (.ref 82) [.int n t]) Q (fun _ _ => False) s := by
  have hd := c.hd
  have hu := c.hu
  refine wpAny_call (enter (qual := Str.ofString "hangul_parts") [(Str.ofString "code", .int n t)] (fun v news' => v = .none ∧ news' = news) c
    (by k_is) (by k_is) (BindsTo.of_eq rfl) rfl rfl rfl rfl (by decide) ?_ (by rintro v news' h' tk' ⟨rfl, rfl⟩ F' N'; exact ret h' tk' F' N'))
  clear ret c
  intro g L' h' tk' F' N' B' X' T' _
  refine @wp_gen Flow _ _ _ _ _ _ ?_
  intro Q₀ hQ₀
  repeat' (first | ((with_reducible show wpAny _ _ (execs (_ :: _) _) _ _ _); walk1; (try dsimp only)) | ((fail_if_success (with_reducible show wpAny _ _ (exec (Stmt.While _ _ _ _) _) _ _ _); fail_if_success ((with_reducible show wpAny _ _ (exec _ _) _ _ _); show wpAny _ _ (exec (Stmt.For _ _ _ _ _) _) _ _ _); fail_if_success (with_reducible show wpAny _ _ (call (Value.ref _) _) _ _ _)); walk1) | (dsimp only; (fail_if_success (with_reducible show wpAny _ _ (exec (Stmt.While _ _ _ _) _) _ _ _); fail_if_success ((with_reducible show wpAny _ _ (exec _ _) _ _ _); show wpAny _ _ (exec (Stmt.For _ _ _ _ _) _) _ _ _); fail_if_success (with_reducible show wpAny _ _ (call (Value.ref _) _) _ _ _)); walk1))
  refine ishan_spec ⟨by k_asm, by k_asm, by k_asm, by k_asm, by k_asm, rfl, by show dp + 1 + 2 < _; omega, by show un + 3 + 20 < _; omega⟩ hn ?_
  intro h₂ tk₂ F₂ N₂
  clear F' N'
  repeat' (first | ((with_reducible show wpAny _ _ (execs (_ :: _) _) _ _ _); walk1; (try dsimp only)) | ((fail_if_success (with_reducible show wpAny _ _ (exec (Stmt.While _ _ _ _) _) _ _ _); fail_if_success ((with_reducible show wpAny _ _ (exec _ _) _ _ _); show wpAny _ _ (exec (Stmt.For _ _ _ _ _) _) _ _ _); fail_if_success (with_reducible show wpAny _ _ (call (Value.ref _) _) _ _ _)); walk1) | (dsimp only; (fail_if_success (with_reducible show wpAny _ _ (exec (Stmt.While _ _ _ _) _) _ _ _); fail_if_success ((with_reducible show wpAny _ _ (exec _ _) _ _ _); show wpAny _ _ (exec (Stmt.For _ _ _ _ _) _) _ _ _); fail_if_success (with_reducible show wpAny _ _ (call (Value.ref _) _) _ _ _)); walk1))
  exact hQ₀ _ _ <| RetAt.ret F₂ N₂ ⟨rfl, rfl⟩
/-- nothing is mapped -/
theorem mapping_spec {xd mp : Addr} {f : Int → Int} {b ic : Bool} {n : Int} {t : Tok} (c : Cx w p loose mean mg mb outer A₀ base h₀ L m news s cs dp un 8 100) (hD : DC w xd mp f b news) (h0 : 0 ≤ n) (hn : n < 105)
    (ret : ∀ h' tk', Fr h₀ L h' m → News h₀ L h' news → Q .none { s with heap := h', toks := tk' }) :
    wpAny (md w) (ktrTop dp un gd cn cs L a ccd cl outer) (call (.ref 96) [.int n t, .ref xd, .bool ic]) Q (fun _ _ => False) s := by
  have hd := c.hd
  have hu := c.hu
  refine wpAny_call (enter (qual := Str.ofString "form_mapping") [(Str.ofString "code", .int n t), (Str.ofString "data", .ref xd), (Str.ofString "is_compat", .bool ic)] (fun v news' => v = .none ∧ news' = news) c
    (by k_is) (by k_is) (BindsTo.of_eq rfl) rfl rfl rfl rfl (by decide) ?_ (by rintro v news' h' tk' ⟨rfl, rfl⟩ F' N'; exact ret h' tk' F' N'))
  clear ret c
  obtain ⟨xdx, xdm1, gx1, gx2, gx3, gx4, gt1, gt2, gt3, gt4, df, pr, wd, gj, xdm2⟩ : ∃ ddx, (xd, instObj 317 ddx) ∈ news ∧ ∃ g1 g2 g3 g4 t1 t2 t3 t4 df pr wd j, (ddx, dictOf [⟨g1, .str (Str.ofString "defaults") t1, .ref df⟩, ⟨g2, .str (Str.ofString "maps") t2, .ref mp⟩, ⟨g3, .str (Str.ofString "properties") t3, .ref pr⟩, ⟨g4, .str (Str.ofString "words") t4, .ref wd⟩] j) ∈ news := by
    obtain ⟨kvs, x, dv, ns, vals, vv, ⟨ddx, df, pr, wd, om, od, t1, t2, t3, t4, g1, g2, g3, g4, j, m1, m2, _⟩, _⟩ := hD
    exact ⟨ddx, m1, g1, g2, g3, g4, t1, t2, t3, t4, df, pr, wd, j, m2⟩
  intro g L' h' tk' F' N' B' X' T' _
  refine @wp_gen Flow _ _ _ _ _ _ ?_
  intro Q₀ hQ₀
  repeat' (first | ((with_reducible show wpAny _ _ (execs (_ :: _) _) _ _ _); walk1; (try dsimp only)) | ((fail_if_success (with_reducible show wpAny _ _ (exec (Stmt.While _ _ _ _) _) _ _ _); fail_if_success ((with_reducible show wpAny _ _ (exec _ _) _ _ _); show wpAny _ _ (exec (Stmt.For _ _ _ _ _) _) _ _ _); fail_if_success (with_reducible show wpAny _ _ (call (Value.ref _) _) _ _ _)); walk1) | (dsimp only; (fail_if_success (with_reducible show wpAny _ _ (exec (Stmt.While _ _ _ _) _) _ _ _); fail_if_success ((with_reducible show wpAny _ _ (exec _ _) _ _ _); show wpAny _ _ (exec (Stmt.For _ _ _ _ _) _) _ _ _); fail_if_success (with_reducible show wpAny _ _ (call (Value.ref _) _) _ _ _)); walk1))
  refine parts_spec ⟨by k_asm, by k_asm, by k_asm, by k_asm, by k_asm, rfl, by show dp + 1 + 4 < _; omega, by show un + 3 + 30 < _; omega⟩ hn ?_
  intro h₂ tk₂ F₂ N₂
  clear F' N'
  repeat' (first | ((with_reducible show wpAny _ _ (execs (_ :: _) _) _ _ _); walk1; (try dsimp only)) | ((fail_if_success (with_reducible show wpAny _ _ (exec (Stmt.While _ _ _ _) _) _ _ _); fail_if_success ((with_reducible show wpAny _ _ (exec _ _) _ _ _); show wpAny _ _ (exec (Stmt.For _ _ _ _ _) _) _ _ _); fail_if_success (with_reducible show wpAny _ _ (call (Value.ref _) _) _ _ _)); walk1) | (dsimp only; (fail_if_success (with_reducible show wpAny _ _ (exec (Stmt.While _ _ _ _) _) _ _ _); fail_if_success ((with_reducible show wpAny _ _ (exec _ _) _ _ _); show wpAny _ _ (exec (Stmt.For _ _ _ _ _) _) _ _ _); fail_if_success (with_reducible show wpAny _ _ (call (Value.ref _) _) _ _ _)); walk1))
  refine getdm_spec ⟨by k_asm, by k_asm, by k_asm, by k_asm, by k_asm, rfl, by show dp + 1 + 6 < _; omega, by show un + 3 + 80 < _; omega⟩ hD h0 ?_
  intro h₃ tk₃ F₃ N₃
  try clear F₂ N₂
  repeat' (first | ((with_reducible show wpAny _ _ (execs (_ :: _) _) _ _ _); walk1; (try dsimp only)) | ((fail_if_success (with_reducible show wpAny _ _ (exec (Stmt.While _ _ _ _) _) _ _ _); fail_if_success ((with_reducible show wpAny _ _ (exec _ _) _ _ _); show wpAny _ _ (exec (Stmt.For _ _ _ _ _) _) _ _ _); fail_if_success (with_reducible show wpAny _ _ (call (Value.ref _) _) _ _ _)); walk1) | (dsimp only; (fail_if_success (with_reducible show wpAny _ _ (exec (Stmt.While _ _ _ _) _) _ _ _); fail_if_success ((with_reducible show wpAny _ _ (exec _ _) _ _ _); show wpAny _ _ (exec (Stmt.For _ _ _ _ _) _) _ _ _); fail_if_success (with_reducible show wpAny _ _ (call (Value.ref _) _) _ _ _)); walk1))
  rename Fr _ _ _ _ => F6
  rename News _ _ _ _ => N6
  exact hQ₀ _ _ <| RetAt.ret F6 N6 ⟨rfl, rfl⟩
end
end
section
set_option maxHeartbeats 4000000
theorem reg10 (w : World) : (model PySem.Challenge.rw_nt0032_01.row.prog w = model PySem.Challenge.rw_nt0032_01.row.prog w) ∧ K w.params = K w.params := by
  k_fill
  exact ⟨rfl, rfl⟩
section
variable {w : World} {p : Program} {loose : List Str} {mean : ExcName → Option Value} {mg mb : Mp} {dp un : Nat} {gd : Option (List Code)} {cn : Str} {cs : Scope} {a : Addr} {ccd : Value} {cl : List (Str × Addr)} {outer : List Env} {A₀ : Around} {base h₀ : Heap} {L : Addr} {m : Mp} {news : Led} {s : Shared} {Q : Value → Shared → Prop}
theorem expanded_spec {xd mp : Addr} {f : Int → Int} {b ic : Bool} {n : Int} {t : Tok} (c : Cx w p loose mean mg mb outer A₀ base h₀ L m news s cs dp un 10 120) (hD : DC w xd mp f b news) (h0 : 0 ≤ n) (hn : n < 105)
    (ret : ∀ D t k h' tk', (∀ q ∈ news, q.1 < D) → Fr h₀ L h' m → News h₀ L h' ((D, listObj [.int n t] k) :: news) → Q (.ref D) { s with heap := h', toks := tk' }) :
    wpAny (md w) (ktrTop dp un gd cn cs L a ccd cl outer) (call (.ref 103) [.int n t, .ref xd, .bool ic]) Q (fun _ _ => False) s := by
  have hd := c.hd
  have hu := c.hu
  refine wpAny_call (enter (qual := Str.ofString "form_expanded") [(Str.ofString "code", .int n t), (Str.ofString "data", .ref xd), (Str.ofString "is_compat", .bool ic)] (fun v news' => ∃ D t k, v = .ref D ∧ (∀ q ∈ news, q.1 < D) ∧ news' = (D, listObj [.int n t] k) :: news) c
    (by k_is) (by k_is) (BindsTo.of_eq rfl) rfl rfl rfl rfl (by decide) ?_ (by rintro v news' h' tk' ⟨D, t, k, rfl, e, rfl⟩ F' N'; exact ret D t k h' tk' e F' N'))
  clear ret c
  intro g L' h' tk' F' N' B' X' T' _
  refine @wp_gen Flow _ _ _ _ _ _ ?_
  intro Q₀ hQ₀
  refine @execs_cut _ _ _ _ _ _ 2 _ (fun s' => ∃ lf lw h tk m', s' = { s with heap := h, toks := tk } ∧ (∀ q ∈ news, q.1 < lf) ∧ lf < lw ∧ Fr g L' h m' ∧ Knows [(Str.ofString "found", .ref lf), (Str.ofString "waiting", .ref lw), (Str.ofString "data", .ref xd), (Str.ofString "is_compat", .bool ic)] m' ∧ News g L' h ((lw, W.listOf #[.int n t] 0) :: (lf, W.listOf #[] 0) :: news)) ?_ ?_
  · repeat' (first | ((with_reducible show wpAny _ _ (execs (_ :: _) _) _ _ _); walk1; (try dsimp only)) | ((fail_if_success (with_reducible show wpAny _ _ (exec (Stmt.While _ _ _ _) _) _ _ _); fail_if_success ((with_reducible show wpAny _ _ (exec _ _) _ _ _); show wpAny _ _ (exec (Stmt.For _ _ _ _ _) _) _ _ _); fail_if_success (with_reducible show wpAny _ _ (call (Value.ref _) _) _ _ _)); walk1) | (dsimp only; (fail_if_success (with_reducible show wpAny _ _ (exec (Stmt.While _ _ _ _) _) _ _ _); fail_if_success ((with_reducible show wpAny _ _ (exec _ _) _ _ _); show wpAny _ _ (exec (Stmt.For _ _ _ _ _) _) _ _ _); fail_if_success (with_reducible show wpAny _ _ (call (Value.ref _) _) _ _ _)); walk1))
    (try dsimp only)
    refine wpAny_execs_nil ?_
    (try dsimp only)
    rename Fr _ _ _ _ => F6
    rename News _ _ _ _ => N6
    exact ⟨_, _, _, _, _, rfl, by assumption, by first | assumption | (simp_all), F6, ⟨rfl, rfl, rfl, rfl, trivial⟩, fun q hq => N6 q (.tail _ (.tail _ hq))⟩
  · rintro s' ⟨lf, lw, h, tk, m', rfl, o1, o2, F2, hm, N2⟩
    rw [hm.ov] at F2
    clear hm F' N'
    have l1 : ∀ q ∈ news, q.1 ≠ lf := fun q hq => Nat.ne_of_lt (o1 q hq)
    have l2 : ∀ q ∈ news, q.1 ≠ lw := fun q hq => Nat.ne_of_lt (Nat.lt_trans (o1 q hq) o2)
    k_lt2 o2
    show wpAny _ _ (execs (_ :: _) _) _ _ _
    walk1
    refine whl_inv (fun c m₁ news₁ => Knows [(Str.ofString "found", .ref lf), (Str.ofString "waiting", .ref lw), (Str.ofString "data", .ref xd), (Str.ofString "is_compat", .bool ic)] m₁ ∧
      ((c = 1 ∧ ∃ e1 e2, news₁ = (lw, W.listOf #[.int n t] e1) :: (lf, W.listOf #[] e2) :: news) ∨ (c = 0 ∧ ∃ e1 e2, news₁ = (lw, W.listOf #[] e1) :: (lf, W.listOf #[.int n t] e2) :: news))) 1 F2 N2 PassesOwn.never
      ⟨⟨rfl, rfl, rfl, rfl, trivial⟩, .inl ⟨rfl, _, _, rfl⟩⟩ ?_
    rintro c m₁ news₁ h₁ tk₁ ⟨hm, (⟨rfl, e1, e2, rfl⟩ | ⟨rfl, e1, e2, rfl⟩)⟩ F3 N3
    · rw [hm.ov] at F3
      clear F2 N2 hm
      repeat' (first | ((with_reducible show wpAny _ _ (execs (_ :: _) _) _ _ _); walk1; (try dsimp only)) | ((fail_if_success (with_reducible show wpAny _ _ (exec (Stmt.While _ _ _ _) _) _ _ _); fail_if_success ((with_reducible show wpAny _ _ (exec _ _) _ _ _); show wpAny _ _ (exec (Stmt.For _ _ _ _ _) _) _ _ _); fail_if_success (with_reducible show wpAny _ _ (call (Value.ref _) _) _ _ _)); walk1) | (dsimp only; (fail_if_success (with_reducible show wpAny _ _ (exec (Stmt.While _ _ _ _) _) _ _ _); fail_if_success ((with_reducible show wpAny _ _ (exec _ _) _ _ _); show wpAny _ _ (exec (Stmt.For _ _ _ _ _) _) _ _ _); fail_if_success (with_reducible show wpAny _ _ (call (Value.ref _) _) _ _ _)); walk1))
      refine mapping_spec ⟨by k_asm, by k_asm, by k_asm, by k_asm, by k_asm, rfl, by show dp + 1 + 8 < _; omega, by show un + 3 + 100 < _; omega⟩ (hD.mono (fun q hq => by k_mem)) h0 hn ?_
      intro h₂ tk₂ F₂ N₂
      repeat' (first | ((with_reducible show wpAny _ _ (execs (_ :: _) _) _ _ _); walk1; (try dsimp only)) | ((fail_if_success (with_reducible show wpAny _ _ (exec (Stmt.While _ _ _ _) _) _ _ _); fail_if_success ((with_reducible show wpAny _ _ (exec _ _) _ _ _); show wpAny _ _ (exec (Stmt.For _ _ _ _ _) _) _ _ _); fail_if_success (with_reducible show wpAny _ _ (call (Value.ref _) _) _ _ _)); walk1) | (dsimp only; (fail_if_success (with_reducible show wpAny _ _ (exec (Stmt.While _ _ _ _) _) _ _ _); fail_if_success ((with_reducible show wpAny _ _ (exec _ _) _ _ _); show wpAny _ _ (exec (Stmt.For _ _ _ _ _) _) _ _ _); fail_if_success (with_reducible show wpAny _ _ (call (Value.ref _) _) _ _ _)); walk1))
      rename Fr _ _ _ _ => F6
      rename News _ _ _ _ => N6
      refine (fun {e3 e4 : Nat} (N7 : News g L' _ ((lw, W.listOf #[] e3) :: (lf, W.listOf #[.int n t] e4) :: news)) => ⟨0, _, _, _, _, by omega, rfl, F6, N7, ⟨rfl, rfl, rfl, rfl, trivial⟩, .inr ⟨rfl, _, _, rfl⟩⟩) (News.cons' N6 (by k_mem) (News.cons' N6 (by k_mem) (fun q hq => N6 q (by repeat (first | exact hq | refine List.mem_cons_of_mem _ ?_)))))
    · rw [hm.ov] at F3
      clear F2 N2 hm
      repeat' (first | ((with_reducible show wpAny _ _ (execs (_ :: _) _) _ _ _); walk1; (try dsimp only)) | ((fail_if_success (with_reducible show wpAny _ _ (exec (Stmt.While _ _ _ _) _) _ _ _); fail_if_success ((with_reducible show wpAny _ _ (exec _ _) _ _ _); show wpAny _ _ (exec (Stmt.For _ _ _ _ _) _) _ _ _); fail_if_success (with_reducible show wpAny _ _ (call (Value.ref _) _) _ _ _)); walk1) | (dsimp only; (fail_if_success (with_reducible show wpAny _ _ (exec (Stmt.While _ _ _ _) _) _ _ _); fail_if_success ((with_reducible show wpAny _ _ (exec _ _) _ _ _); show wpAny _ _ (exec (Stmt.For _ _ _ _ _) _) _ _ _); fail_if_success (with_reducible show wpAny _ _ (call (Value.ref _) _) _ _ _)); walk1))
      rename Fr _ _ _ _ => F6
      rename News _ _ _ _ => N6
      exact hQ₀ _ _ <| RetAt.ret F6 (fun q hq => N6 q (.tail _ (.tail _ hq))) ⟨lf, t, e2, rfl, o1, rfl⟩
end
end
end
section
set_option maxHeartbeats 400000
section
variable {prog : Program} {w : World} {A : Around} {s : Shared} {env : Env} {body : List Stmt} {Q : Flow → Shared → Prop} {h₀ : Heap}
/-- a turn's end where the loop's own objects stand -/
def TEnd (h₀ : Heap) (L : Addr) (own : Led) (wr : List Addr) (J : Mp → Led → Prop) (s₁ : Shared) (Q : Flow → Shared → Prop) (f : Flow) (s₂ : Shared) : Prop :=
  match f with
  | .ret v => Q (.ret v) s₂
  | .brk => Q .next s₂
  | _ => ∃ h' tk m' news', s₂ = { s₁ with heap := h', toks := tk } ∧ Fr h₀ L h' m' ∧ News h₀ L h' (own ++ news') ∧ (∀ p ∈ news', p.1 ∉ wr) ∧ J m' news'
/-- for i, x in walker of pairs: the ledger is free -/
theorem pair_loop {xi xc : Str} {pk pv pt : Pos} {x1 : Nat} {I : Addr} {fp wr : List Addr} {n : Nat} {Pt : Nat → Array Value → Prop} {St : Nat → Heap → Prop} {Mid : Nat → Addr → Heap → Prop}
    {P2 : Nat → Value → Value → Prop} {m : Mp} {news : Led} (hh : A.handled = none) (W : WalksT prog w A I fp wr n Pt St Mid) (h2 : ∀ i vals, Pt i vals → ∃ v0 v1, vals = #[v0, v1] ∧ P2 i v0 v1)
    (hxi : env.kindOf xi = some .local) (hxc : env.kindOf xc = some .local) (hp : (env.scope.kind == .class || (env.scope.kind == .module && env.locals != env.globals)) = false)
    (hLf : env.locals ∉ fp) (hwr : ∀ b ∈ wr, h₀.get? b = none) (hnw : ∀ p ∈ news, p.1 ∉ wr) (hst : St 0 s.heap) (F : Fr h₀ env.locals s.heap m) (N : News h₀ env.locals s.heap news)
    (J : Nat → Mp → Led → Prop) (h0 : J 0 m news)
    (turn : ∀ i v0 v1 m₁ news₁ h tk own, i < n → P2 i v0 v1 → J i m₁ news₁ → (∀ p ∈ news₁, p.1 ∉ wr) → (∀ p ∈ own, p.1 ∈ fp) →
      Fr h₀ env.locals h (fun y => if y = xc then some v1 else if y = xi then some v0 else m₁ y) → News h₀ env.locals h (own ++ news₁) → (∀ b ∈ wr, ∃ o, (b, o) ∈ own) →
      wpAny (model prog w) A (execs body env) (TEnd h₀ env.locals own wr (J (i + 1)) s Q) (fun _ _ => False) { s with heap := h, toks := tk })
    (done : ∀ m₁ news₁ h tk, J n m₁ news₁ → Fr h₀ env.locals h m₁ → News h₀ env.locals h news₁ → Q .next { s with heap := h, toks := tk })
    (live : ∀ i h, St i h → ∀ b ∈ wr, ∃ o, h.get? b = some o) :
    codeAny (model prog w) A (.forLoop (.Tuple [.Name xi pk, .Name xc pv] x1 pt) (.ref I) body [] env) (fun r s' => match r with | .ok f => Q f s' | .error e => cameBackBy (model prog w) A env (fun _ _ => False) e s') s := by
  have hLw : env.locals ∉ wr := fun h => hLf (W.sub _ h)
  have old : ∀ b o, h₀.get? b = some o → b ∉ wr := fun b o e hb => by rw [hwr b hb] at e; cases e
  refine codeAny_forLoop_any (fun k s' => ∃ h' tk m' news' i, s' = { s with heap := h', toks := tk } ∧ St i h' ∧ Fr h₀ env.locals h' m' ∧ News h₀ env.locals h' news' ∧ (∀ p ∈ news', p.1 ∉ wr) ∧ J i m' news' ∧ i ≤ n ∧ k = n + 1 - i) ?_ (n + 1)
    ⟨s.heap, s.toks, m, news, 0, rfl, hst, F, N, hnw, h0, Nat.zero_le _, rfl⟩
  rintro k s' ⟨H, tk, m', news', i, rfl, hst', F', N', hnw', hJ, hi, rfl⟩
  have next : ∀ h₁ : Heap, (∀ b o, b ∉ wr → H.get? b = some o → h₁.get? b = some o) → Fr h₀ env.locals h₁ m' ∧ News h₀ env.locals h₁ news' := fun h₁ hk₁ =>
    ⟨⟨F'.ns.at' fun o e => hk₁ _ o hLw e, fun b o e => hk₁ b o (old b o e) (F'.keep b o e), F'.above⟩, fun p hp => ⟨hk₁ _ _ (hnw' p hp) (N' p hp).1, (N' p hp).2⟩⟩
  by_cases hlt : i < n
  · refine W.item i _ _ _ hlt hst' fun T vals h₁ tk₁ hPt _ hT hMid hk₁ => ?_
    obtain ⟨v0, v1, rfl, hP2⟩ := h2 i vals hPt
    refine W.go _ x1 pt i T _ _ _ hMid fun h₂ hst₂ hk₂ => ?_
    have ht₂ : h₂.IsTuple T #[v0, v1] := hT.at fun o e => hk₂ T o (W.apart i T h₁ hMid) e
    refine wpAny_assign_Tuple hh ht₂ rfl rfl fun h₃ hx₃ => ?_
    replace hx₃ : Heap.ExtBut h₂.objs.size h₂ h₃ := hx₃
    have up₃ : ∀ b o, h₂.get? b = some o → h₃.get? b = some o := fun b o x => hx₃ b o (Nat.ne_of_lt (Heap.lt_size x)) x
    obtain ⟨F₃, N₃⟩ := next h₃ fun b o hb x => up₃ b o (hk₂ b o hb (hk₁ b o hb x))
    show wpAny _ A (do holding [v1] (assign (.Name xi pk) env v0); do holding [] (assign (.Name xc pv) env v1); pure ()) _ _ _
    refine wpAny_bind (wpAny_holding (wpAny_assign_Name (wpAny_storeName_local hxi F₃.ns (fun h₄ hn₄ hs₄ => ?_) hp)))
    replace hs₄ : Heap.SameBut env.locals h₃ h₄ := hs₄
    have F₄ := F₃.set hn₄ hs₄
    refine wpAny_bind (wpAny_holding (wpAny_assign_Name (wpAny_storeName_local hxc F₄.ns (fun h₅ hn₅ hs₅ => wpAny_pure ?_) hp)))
    replace hs₅ : Heap.SameBut env.locals h₄ h₅ := hs₅
    have F₅ := F₄.set hn₅ hs₅
    have N₅ : News h₀ env.locals h₅ news' := (N₃.set hs₄).set hs₅
    have hst₅ : St (i + 1) h₅ := W.frame _ _ _ hst₂ fun b hb o e => hs₅.extBut b o (fun q => hLf (q ▸ hb)) (hs₄.extBut b o (fun q => hLf (q ▸ hb)) (up₃ b o e))
    have key := fun tk₉ => turn i v0 v1 m' news' h₅ tk₉ (ownOf h₀ fp h₅) hlt hP2 hJ hnw' ownOf_sub F₅ ((news_ownOf hLf).append N₅) (fun b hb => by
      obtain ⟨o, ho⟩ := live _ _ hst₅ b hb
      exact ⟨o, mem_ownOf (W.sub _ hb) (hwr b hb) ho⟩)
    refine wpAny_mono (key _) (fun f s₃ h₆ => ?_) (fun _ _ e => False.elim e)
    have fin : ∀ h₆' tk₆ m₂ news₂, Fr h₀ env.locals h₆' m₂ → News h₀ env.locals h₆' (ownOf h₀ fp h₅ ++ news₂) → (∀ p ∈ news₂, p.1 ∉ wr) → J (i + 1) m₂ news₂ →
        ∃ m, m < n + 1 - i ∧ ∃ h' tk m' news' i, ({ s with heap := h₆', toks := tk₆ } : Shared) = { s with heap := h', toks := tk } ∧ St i h' ∧ Fr h₀ env.locals h' m' ∧ News h₀ env.locals h' news' ∧ (∀ p ∈ news', p.1 ∉ wr) ∧ J i m' news' ∧ i ≤ n ∧ m = n + 1 - i := by
      intro h₆' tk₆ m₂ news₂ F₆ N₆ hn₆ hJ₆
      refine ⟨n + 1 - (i + 1), by omega, h₆', tk₆, m₂, news₂, i + 1, rfl, ?_, F₆, N₆.right, hn₆, hJ₆, hlt, rfl⟩
      refine W.frame _ _ _ hst₅ fun b hb o e => ?_
      cases hn : h₀.get? b with
      | some o₀ =>
        have : o₀ = o := by have q := F₅.keep b o₀ hn; rw [e] at q; exact (Option.some.inj q).symm
        exact this ▸ F₆.keep b o₀ hn
      | none => exact (N₆ _ (List.mem_append_left _ (mem_ownOf hb hn e))).1
    cases f with
    | ret v => exact h₆
    | brk => exact h₆
    | cont =>
      obtain ⟨h₆', tk₆, m₂, news₂, rfl, F₆, N₆, hn₆, hJ₆⟩ := h₆
      exact fin h₆' tk₆ m₂ news₂ F₆ N₆ hn₆ hJ₆
    | next =>
      obtain ⟨h₆', tk₆, m₂, news₂, rfl, F₆, N₆, hn₆, hJ₆⟩ := h₆
      exact fin h₆' tk₆ m₂ news₂ F₆ N₆ hn₆ hJ₆
  · have hin : i = n := by omega
    subst hin
    refine W.done _ _ _ hst' fun h₁ tk₁ hk₁ => wpAny_execs_nil ?_
    obtain ⟨F₁, N₁⟩ := next h₁ hk₁
    exact done m' news' h₁ tk₁ hJ F₁ N₁
/-- for i, x in enumerate(a list of the ledger) -/
theorem enum_loop {xi xc : Str} {pk pv pt : Pos} {x1 : Nat} {l : Addr} {vs : List Value} {k : Nat} {m : Mp} {news : Led} (J : Nat → Mp → Led → Prop) (hh : A.handled = none)
    (F : Fr h₀ env.locals s.heap m) (N : News h₀ env.locals s.heap news) (hl : (l, listObj vs k) ∈ news)
    (hxi : env.kindOf xi = some .local) (hxc : env.kindOf xc = some .local) (hp : (env.scope.kind == .class || (env.scope.kind == .module && env.locals != env.globals)) = false) (h0 : J 0 m news)
    (turn : ∀ i t v m₁ news₁ h tk own wr, vs[i]? = some v → J i m₁ news₁ → (∀ p ∈ news₁, p.1 ∉ wr) → (∀ p ∈ own, p.1 ∈ wr ∨ p.1 = l) →
      Fr h₀ env.locals h (fun y => if y = xc then some v else if y = xi then some (.int i t) else m₁ y) → News h₀ env.locals h (own ++ news₁) → (∀ b ∈ wr, ∃ o, (b, o) ∈ own) →
      wpAny (model prog w) A (execs body env) (TEnd h₀ env.locals own wr (J (i + 1)) s Q) (fun _ _ => False) { s with heap := h, toks := tk })
    (done : ∀ m₁ news₁ h tk, J vs.length m₁ news₁ → Fr h₀ env.locals h m₁ → News h₀ env.locals h news₁ → Q .next { s with heap := h, toks := tk }) :
    wpAny (model prog w) A (call (.type "enumerate") [.ref l]) (fun xv s₁ => ForAt prog w A env (.Tuple [.Name xi pk, .Name xc pv] x1 pt) body Q xv s₁) (fun _ _ => False) s := by
  have hls : s.heap.IsList l vs.toArray := ⟨_, (N _ hl).1, rfl, _, rfl⟩
  have hlt : l < s.heap.objs.size := Heap.lt_size (N _ hl).1
  have hLs : env.locals < s.heap.objs.size := F.ns.lt
  have hab : h₀.objs.size ≤ env.locals := F.above
  refine call_enumerate_list hls fun h' he hit hsz hk => ?_
  have F' : Fr h₀ env.locals h' m := ⟨F.ns.keeps hk, fun b o e => hk b o (F.keep b o e), F.above⟩
  have N' : News h₀ env.locals h' news := fun p hp => ⟨hk _ _ (N p hp).1, (N p hp).2⟩
  refine wpAny_pyIter_enum he ?_
  have W := WalksT.enumerateD (prog := prog) (w := w) (A := A) (Draws.list (A := A.in1) hh s.heap.objs.size l (Nat.ne_of_lt hlt) vs.toArray) (s.heap.objs.size + 1) (Nat.succ_ne_self _) (by
    intro hm
    rcases List.mem_cons.mp hm with e | hm
    · exact Nat.succ_ne_self _ e
    · exact Nat.ne_of_gt (Nat.lt_succ_of_lt hlt) (List.mem_singleton.mp hm)) (List.mem_cons_self ..)
  rw [show vs.toArray.size = vs.length from by simp] at W
  refine pair_loop (s := { s with heap := h' }) (n := vs.length) (P2 := fun i v0 v1 => ∃ t, v0 = .int i t ∧ vs[i]? = some v1) hh W ?_ hxi hxc hp ?_ ?_ ?_ ⟨⟨_, by simpa using he⟩, hit, hls.at fun o e => hk l o e⟩ F' N' J h0 ?_ (fun m₁ news₁ h tk hJ F N => done m₁ news₁ h tk hJ F N) ?_
  · rintro i vals ⟨t, x, hPx, rfl⟩
    exact ⟨_, _, rfl, t, rfl, by simpa using hPx⟩
  · intro hm
    rcases List.mem_cons.mp hm with e | hm
    · exact Nat.ne_of_lt (Nat.lt_succ_of_lt hLs) e
    · rcases List.mem_cons.mp hm with e | hm
      · exact Nat.ne_of_lt hLs e
      · exact (N _ hl).2.1 (List.mem_singleton.mp hm).symm
  · intro b hb
    rcases List.mem_cons.mp hb with rfl | hb
    · exact Heap.get?_none_of_le (Nat.le_trans hab (Nat.le_of_lt (Nat.lt_succ_of_lt hLs)))
    · rw [List.mem_singleton.mp hb]
      exact Heap.get?_none_of_le (Nat.le_trans hab (Nat.le_of_lt hLs))
  · intro q hq hb
    have hq1 : q.1 < s.heap.objs.size := Heap.lt_size (N q hq).1
    rcases List.mem_cons.mp hb with e | hb
    · exact Nat.ne_of_lt (Nat.lt_succ_of_lt hq1) e
    · exact Nat.ne_of_lt hq1 (List.mem_singleton.mp hb)
  · rintro i v0 v1 m₁ news₁ h tk own hi ⟨t, rfl, hv⟩ hJ hn ho F₁ N₁ hlive
    exact turn i t v1 m₁ news₁ h tk own _ hv hJ hn (fun p hp => by
      have := ho p hp
      simp only [List.mem_cons, List.not_mem_nil, or_false] at this ⊢
      rcases this with h | h | h
      · exact .inl (.inl h)
      · exact .inl (.inr h)
      · exact .inr h) F₁ N₁ hlive
  · rintro i h ⟨⟨old, ho⟩, ⟨o, ho2, _⟩, _⟩ b hb
    rcases List.mem_cons.mp hb with rfl | hb
    · exact ⟨_, ho⟩
    · rw [List.mem_singleton.mp hb]
      exact ⟨_, ho2⟩
end
end
section
local macro_rules | `(tactic| k_mem) => `(tactic| first | assumption | exact List.mem_cons_self | (refine List.mem_cons_of_mem _ ?_; k_mem) | (refine List.mem_append_left _ ?_; k_mem) | ktr_member)
section
set_option maxHeartbeats 1000000
theorem reg11 (w : World) : (model PySem.Challenge.rw_nt0032_01.row.prog w = model PySem.Challenge.rw_nt0032_01.row.prog w) ∧ K w.params = K w.params := by
  k_fill
  exact ⟨rfl, rfl⟩
section
variable {w : World} {p : Program} {loose : List Str} {mean : ExcName → Option Value} {mg mb : Mp} {dp un : Nat} {gd : Option (List Code)} {cn : Str} {cs : Scope} {a : Addr} {ccd : Value} {cl : List (Str × Addr)} {outer : List Env} {A₀ : Around} {base h₀ : Heap} {L : Addr} {m : Mp} {news : Led} {s : Shared} {Q : Value → Shared → Prop}
/-- the pairs of a run -/
inductive RunIs (news : Led) : List Value → List (Int × Int) → Prop
  | nil : RunIs news [] []
  | cons {T : Addr} {x c : Int} {t u : Tok} {vs : List Value} {ps : List (Int × Int)} : (T, pairObj (.int x t) (.int c u)) ∈ news → RunIs news vs ps → RunIs news (.ref T :: vs) ((x, c) :: ps)
theorem hd114 {g : Heap} (X : (K w.params).In g) : CodeHd g 114 112 :=
  ⟨_, _, _, _, _, _, _, _, _, X 114 _ rfl, rfl, rfl, rfl, rfl, rfl, rfl, rfl, rfl, by decide⟩
theorem RunIs.at {news : Led} {vs : List Value} {ps : List (Int × Int)} (h : RunIs news vs ps) : ∀ {i : Nat} {v : Value} {k : Int}, vs[i]? = some v → (ps.map Prod.fst)[i]? = some k → ∃ T t c u, v = .ref T ∧ (T, pairObj (.int k t) (.int c u)) ∈ news := by
  induction h with
  | nil => intro i v k hv; simp at hv
  | cons hm _ ih =>
    intro i v k hv hk
    cases i with
    | zero =>
      simp at hv hk
      subst hv
      subst hk
      exact ⟨_, _, _, _, rfl, hm⟩
    | succ i => exact ih (by simpa using hv) (by simpa using hk)
theorem RunIs.length {news : Led} {vs : List Value} {ps : List (Int × Int)} (h : RunIs news vs ps) : ps.length = vs.length := by
  induction h with
  | nil => rfl
  | cons _ _ ih => simp [ih]
/-- the table of form_sorted's codes: empty, or the lambda's code in it -/
def LamL (lam : Led) : Prop := lam = [(112, tabObj #[])] ∨ ∃ c' oc vs t, lam = [(112, tabObj #[rawInt 92, rawInt 53, .ref c']), (c', oc)] ∧ oc.data = .fields vs ∧ vs[1]? = some (.str (Str.ofString "form_sorted.<locals>.<lambda>") t)
def SortedRun (ps qs : List (Int × Int)) : Prop := qs.Pairwise (fun p q => p.1 ≤ q.1) ∧ ∀ k, qs.filter (fun p => decide (p.1 = k)) = ps.filter (fun p => decide (p.1 = k))
/-- the second of the pair at v -/
def cdOf (h : Heap) (v : Value) : Int := match v with
  | .ref T => match (h.get? T).map (fun o : Obj => o.data) with
    | some (.seq its _) => match (its[1]? : Option Value) with
      | some (.int c _) => c
      | _ => 0
    | _ => 0
  | _ => 0
theorem cdOf_at {h₀ h : Heap} {L T : Addr} {news : Led} {x : Value} {c : Int} {u : Tok} (N : News h₀ L h news) (hm : (T, pairObj x (.int c u)) ∈ news) : cdOf h (.ref T) = c := by
  unfold cdOf
  simp only [(N _ hm).1, Option.map_some]
  rfl
theorem run_out {h₀ h : Heap} {L : Addr} {news rest : Led} {vs out : List Value} {ps : List (Int × Int)} (N : News h₀ L h news) (hsub : ∀ q ∈ rest, q ∈ news) (hp : RunIs rest vs ps) (hS : StOut (ps.map Prod.fst) vs out) :
    ∃ qs, SortedRun ps qs ∧ Seconds news out (qs.map Prod.snd) := by
  obtain ⟨pv, rfl, hsort, hfil⟩ := hS
  have hz : ((ps.map Prod.fst).zip vs).map (fun q : Int × Value => (q.1, cdOf h q.2)) = ps := by
    clear hfil hsort
    induction hp with
    | nil => rfl
    | cons hm _ ih =>
      rw [List.map_cons, List.zip_cons_cons, List.map_cons, ih]
      congr 1
      exact Prod.ext rfl (cdOf_at N (hsub _ hm))
  have hmem : ∀ q ∈ (ps.map Prod.fst).zip vs, ∃ T x u, q.2 = .ref T ∧ (T, pairObj x (.int (cdOf h q.2) u)) ∈ news := by
    clear hfil hsort hz
    induction hp with
    | nil => intro q hq; simp at hq
    | cons hm _ ih =>
      intro q hq
      rw [List.map_cons, List.zip_cons_cons] at hq
      rcases List.mem_cons.mp hq with rfl | hq
      · exact ⟨_, _, _, rfl, by rw [cdOf_at N (hsub _ hm)]; exact hsub _ hm⟩
      · exact ih q hq
  have hin : ∀ q ∈ pv, q ∈ (ps.map Prod.fst).zip vs := fun q hq => by
    have h1 : q ∈ pv.filter (fun p => decide (p.1 = q.1)) := List.mem_filter.mpr ⟨hq, decide_eq_true rfl⟩
    rw [hfil q.1] at h1
    exact (List.mem_filter.mp h1).1
  refine ⟨pv.map (fun q => (q.1, cdOf h q.2)), ⟨?_, ?_⟩, ?_⟩
  · rw [List.pairwise_map]
    exact hsort
  · intro k
    have h1 := congrArg (List.map (fun q : Int × Value => (q.1, cdOf h q.2))) (hfil k)
    conv => rhs; rw [← hz]
    rw [List.filter_map, List.filter_map]
    exact h1
  · have key : ∀ l : List (Int × Value), (∀ q ∈ l, q ∈ (ps.map Prod.fst).zip vs) → Seconds news (l.map Prod.snd) ((l.map (fun q => (q.1, cdOf h q.2))).map Prod.snd) := by
      intro l
      induction l with
      | nil => intro _; exact .nil
      | cons q r ih =>
        intro hl
        obtain ⟨T, x, u, e, hm⟩ := hmem q (hl q (.head _))
        rw [List.map_cons, List.map_cons, List.map_cons]
        rw [e] at hm ⊢
        exact .cons hm (ih fun q hq => hl q (.tail _ hq))
    exact key pv hin
theorem fsorted_new {r : Addr} {vs : List Value} {k : Nat} {ps : List (Int × Int)} {lam rest : Led} (c : Cx w p loose mean mg mb outer A₀ base h₀ L m ([(112, tabObj #[])] ++ rest) s cs dp un 6 60) (h112 : ∀ q ∈ rest, q.1 ≠ 112)
    (hr : (r, listObj vs k) ∈ rest) (hp : RunIs rest vs ps) (hlen : vs.length < 64)
    (ret : ∀ D out k lam' qs h' tk', (∀ q ∈ rest, q.1 < D) → LamL lam' → IntsAre out (qs.map Prod.snd) → SortedRun ps qs → Fr h₀ L h' m → News h₀ L h' ((D, listObj out k) :: (lam' ++ rest)) → Q (.ref D) { s with heap := h', toks := tk' }) :
    wpAny (md w) (ktrTop dp un gd cn cs L a ccd cl outer) (call (.ref 115) [.ref r]) Q (fun _ _ => False) s := by
  have hd := c.hd
  have hu := c.hu
  refine wpAny_call (enter (qual := Str.ofString "form_sorted") [(Str.ofString "run", .ref r)] (fun v news' => ∃ D out k lam' qs, v = .ref D ∧ news' = (D, listObj out k) :: (lam' ++ rest) ∧ LamL lam' ∧ IntsAre out (qs.map Prod.snd) ∧ SortedRun ps qs ∧ (∀ q ∈ rest, q.1 < D)) c
    (by k_is) (by k_is) (BindsTo.of_eq rfl) rfl rfl rfl rfl (by decide) ?_ (by rintro v news' h' tk' ⟨D, out, k, lam', qs, rfl, rfl, e1, e2, e3, e4⟩ F' N'; exact ret D out k lam' qs h' tk' e4 e1 e2 e3 F' N'))
  clear c ret
  intro g L' h' tk' F' N' B' X' T' _
  refine @wp_gen Flow _ _ _ _ _ _ ?_
  intro Q₀ hQ₀
  rw [List.singleton_append] at N'
  have hcd114 := hd114 X'
  repeat' (first | ((with_reducible show wpAny _ _ (execs (_ :: _) _) _ _ _); walk1; (try dsimp only)) | ((fail_if_success (with_reducible show wpAny _ _ (eval (Expr.ListComp _ _ _ _) _) _ _ _); fail_if_success (with_reducible show wpAny _ _ (exec (Stmt.While _ _ _ _) _) _ _ _); fail_if_success ((with_reducible show wpAny _ _ (exec _ _) _ _ _); show wpAny _ _ (exec (Stmt.For _ _ _ _ _) _) _ _ _); fail_if_success (with_reducible show wpAny _ _ (call (Value.ref _) _) _ _ _)); walk1) | (dsimp only; (fail_if_success (with_reducible show wpAny _ _ (eval (Expr.ListComp _ _ _ _) _) _ _ _); fail_if_success (with_reducible show wpAny _ _ (exec (Stmt.While _ _ _ _) _) _ _ _); fail_if_success ((with_reducible show wpAny _ _ (exec _ _) _ _ _); show wpAny _ _ (exec (Stmt.For _ _ _ _ _) _) _ _ _); fail_if_success (with_reducible show wpAny _ _ (call (Value.ref _) _) _ _ _)); walk1))
  refine comp_second (h₀ := g) (L := L') ?q1 ?q2 ?q3 ?q4 ?q5 ?q6 ?q7 ?q8 ?q9 ?q10
  case q1 => decide
  case q2 => decide
  case q3 => rfl
  case q4 => decide
  case q5 => rfl
  case q6 => rfl
  case q7 => decide
  case q8 => rfl
  case q10 => intro _; with_unfolding_all rfl
  case q9 =>
    repeat' (first | ((with_reducible show wpAny _ _ (execs (_ :: _) _) _ _ _); walk1; (try dsimp only)) | ((fail_if_success (with_reducible show wpAny _ _ (eval (Expr.ListComp _ _ _ _) _) _ _ _); fail_if_success (with_reducible show wpAny _ _ (exec (Stmt.While _ _ _ _) _) _ _ _); fail_if_success ((with_reducible show wpAny _ _ (exec _ _) _ _ _); show wpAny _ _ (exec (Stmt.For _ _ _ _ _) _) _ _ _); fail_if_success (with_reducible show wpAny _ _ (call (Value.ref _) _) _ _ _)); walk1) | (dsimp only; (fail_if_success (with_reducible show wpAny _ _ (eval (Expr.ListComp _ _ _ _) _) _ _ _); fail_if_success (with_reducible show wpAny _ _ (exec (Stmt.While _ _ _ _) _) _ _ _); fail_if_success ((with_reducible show wpAny _ _ (exec _ _) _ _ _); show wpAny _ _ (exec (Stmt.For _ _ _ _ _) _) _ _ _); fail_if_success (with_reducible show wpAny _ _ (call (Value.ref _) _) _ _ _)); walk1))
    rename Fr _ _ _ _ => F5
    rename News _ _ _ _ => N5
    refine so_sorted (vs := vs) (kz := ps.map Prod.fst) F5 N5 ⟨_, (N5 (r, listObj vs k) (.tail _ (.tail _ (.tail _ hr)))).1, rfl, _, rfl⟩ (by rw [List.length_map, hp.length]) hlen ?turn ?fin
    case turn =>
      intro i v k hv hk h tk own F N
      obtain ⟨T, t, c, u, rfl, hT⟩ := hp.at hv hk
      clear F5 N5 F' N'
      refine wpAny_call ?_
      refine kla_code B' F X' N T' rfl rfl rfl (List.mem_append_left _ (.head _)) ?cr ?rm rfl (locs rfl) ?_ rfl rfl rfl (by decide)
      case cr => exact codeRec_news N (List.mem_append_left _ (.tail _ (.head _))) (by assumption) (by assumption)
      case rm => show dp + 1 < _; omega
      intro g2 L2 h2 FG F2 N2 B2 X2 T2
      (try dsimp only)
      clear hp hr h112
      repeat' (first | ((with_reducible show wpAny _ _ (execs (_ :: _) _) _ _ _); walk1; (try dsimp only)) | ((fail_if_success (with_reducible show wpAny _ _ (eval (Expr.ListComp _ _ _ _) _) _ _ _); fail_if_success (with_reducible show wpAny _ _ (exec (Stmt.While _ _ _ _) _) _ _ _); fail_if_success ((with_reducible show wpAny _ _ (exec _ _) _ _ _); show wpAny _ _ (exec (Stmt.For _ _ _ _ _) _) _ _ _); fail_if_success (with_reducible show wpAny _ _ (call (Value.ref _) _) _ _ _)); walk1) | (dsimp only; (fail_if_success (with_reducible show wpAny _ _ (eval (Expr.ListComp _ _ _ _) _) _ _ _); fail_if_success (with_reducible show wpAny _ _ (exec (Stmt.While _ _ _ _) _) _ _ _); fail_if_success ((with_reducible show wpAny _ _ (exec _ _) _ _ _); show wpAny _ _ (exec (Stmt.For _ _ _ _ _) _) _ _ _); fail_if_success (with_reducible show wpAny _ _ (call (Value.ref _) _) _ _ _)); walk1))
    case fin =>
      intro D h6 tk6 out c6 F6 N6 l6 hS
      clear F5 N5 F' N'
      have e6 : seqObj "list" out c6 = listObj out.toList c6 := by simp [seqObj, listObj]
      rw [e6] at N6
      obtain ⟨qs, hq1, hq2⟩ := run_out N6 (fun q hq => by k_mem) hp hS
      have hql : (qs.map Prod.snd).length = ps.length := by
        rw [List.length_map]
        refine List.Perm.length_eq (List.perm_iff_count.mpr fun x => ?_)
        have h1 := congrArg (List.count x) (hq1.2 x.1)
        rwa [List.count_filter (by simp), List.count_filter (by simp)] at h1
      refine ⟨_, D, out.toList, c6, qs.map Prod.snd, _, rfl, F6, N6, .head _, ?_, ?_, ?_⟩
      · exact hq2
      · rw [← hq2.length, hql, hp.length]; omega
      · intro X o5 j h7 tk7 hi F7 N7 l7
        refine' (fun (c' : Addr) (oc : Obj) (vs9 : Array Value) (t9 : Tok) (hm1 : (112, tabObj #[rawInt 92, rawInt 53, .ref c']) ∈ _) (hm2 : (c', oc) ∈ _) (hd9 : oc.data = .fields vs9) (hv9 : vs9[1]? = some (.str (Str.ofString "form_sorted.<locals>.<lambda>") t9)) => hQ₀ _ _ <| RetAt.ret F7 (News.cons' N7 (.head _) (News.cons' N7 hm1 (News.cons' N7 hm2 (fun q hq => N7 q (by k_mem))))) ⟨X, o5, j, [(112, tabObj #[rawInt 92, rawInt 53, .ref c']), (c', oc)], qs, rfl, rfl, .inr ⟨c', oc, vs9, t9, rfl, hd9, hv9⟩, hi, hq1, fun q hq => l7 q (by k_mem)⟩) _ _ _ _ ?m1 ?m2 ?m3 ?m4
        case m1 => k_mem
        case m2 => k_mem
        case m3 => assumption
        case m4 => assumption
theorem fsorted_hit {r : Addr} {vs : List Value} {k : Nat} {ps : List (Int × Int)} {rest : Led} {c' : Addr} {oc : Obj} {vs9 : Array Value} {t9 : Tok} (hd9 : oc.data = .fields vs9) (hv9 : vs9[1]? = some (.str (Str.ofString "form_sorted.<locals>.<lambda>") t9)) (c : Cx w p loose mean mg mb outer A₀ base h₀ L m ([(112, tabObj #[rawInt 92, rawInt 53, .ref c']), (c', oc)] ++ rest) s cs dp un 6 60) (h112 : ∀ q ∈ rest, q.1 ≠ 112)
    (hr : (r, listObj vs k) ∈ rest) (hp : RunIs rest vs ps) (hlen : vs.length < 64)
    (ret : ∀ D out k lam' qs h' tk', (∀ q ∈ rest, q.1 < D) → LamL lam' → IntsAre out (qs.map Prod.snd) → SortedRun ps qs → Fr h₀ L h' m → News h₀ L h' ((D, listObj out k) :: (lam' ++ rest)) → Q (.ref D) { s with heap := h', toks := tk' }) :
    wpAny (md w) (ktrTop dp un gd cn cs L a ccd cl outer) (call (.ref 115) [.ref r]) Q (fun _ _ => False) s := by
  have hd := c.hd
  have hu := c.hu
  refine wpAny_call (enter (qual := Str.ofString "form_sorted") [(Str.ofString "run", .ref r)] (fun v news' => ∃ D out k lam' qs, v = .ref D ∧ news' = (D, listObj out k) :: (lam' ++ rest) ∧ LamL lam' ∧ IntsAre out (qs.map Prod.snd) ∧ SortedRun ps qs ∧ (∀ q ∈ rest, q.1 < D)) c
    (by k_is) (by k_is) (BindsTo.of_eq rfl) rfl rfl rfl rfl (by decide) ?_ (by rintro v news' h' tk' ⟨D, out, k, lam', qs, rfl, rfl, e1, e2, e3, e4⟩ F' N'; exact ret D out k lam' qs h' tk' e4 e1 e2 e3 F' N'))
  clear c ret
  intro g L' h' tk' F' N' B' X' T' _
  refine @wp_gen Flow _ _ _ _ _ _ ?_
  intro Q₀ hQ₀
  rw [List.cons_append, List.singleton_append] at N'
  have hcd114 := hd114 X'
  repeat' (first | ((with_reducible show wpAny _ _ (execs (_ :: _) _) _ _ _); walk1; (try dsimp only)) | ((fail_if_success (with_reducible show wpAny _ _ (eval (Expr.ListComp _ _ _ _) _) _ _ _); fail_if_success (with_reducible show wpAny _ _ (exec (Stmt.While _ _ _ _) _) _ _ _); fail_if_success ((with_reducible show wpAny _ _ (exec _ _) _ _ _); show wpAny _ _ (exec (Stmt.For _ _ _ _ _) _) _ _ _); fail_if_success (with_reducible show wpAny _ _ (call (Value.ref _) _) _ _ _)); walk1) | (dsimp only; (fail_if_success (with_reducible show wpAny _ _ (eval (Expr.ListComp _ _ _ _) _) _ _ _); fail_if_success (with_reducible show wpAny _ _ (exec (Stmt.While _ _ _ _) _) _ _ _); fail_if_success ((with_reducible show wpAny _ _ (exec _ _) _ _ _); show wpAny _ _ (exec (Stmt.For _ _ _ _ _) _) _ _ _); fail_if_success (with_reducible show wpAny _ _ (call (Value.ref _) _) _ _ _)); walk1))
  refine comp_second (h₀ := g) (L := L') ?q1 ?q2 ?q3 ?q4 ?q5 ?q6 ?q7 ?q8 ?q9 ?q10
  case q1 => decide
  case q2 => decide
  case q3 => rfl
  case q4 => decide
  case q5 => rfl
  case q6 => rfl
  case q7 => decide
  case q8 => rfl
  case q10 => intro _; with_unfolding_all rfl
  case q9 =>
    repeat' (first | ((with_reducible show wpAny _ _ (execs (_ :: _) _) _ _ _); walk1; (try dsimp only)) | ((fail_if_success (with_reducible show wpAny _ _ (eval (Expr.ListComp _ _ _ _) _) _ _ _); fail_if_success (with_reducible show wpAny _ _ (exec (Stmt.While _ _ _ _) _) _ _ _); fail_if_success ((with_reducible show wpAny _ _ (exec _ _) _ _ _); show wpAny _ _ (exec (Stmt.For _ _ _ _ _) _) _ _ _); fail_if_success (with_reducible show wpAny _ _ (call (Value.ref _) _) _ _ _)); walk1) | (dsimp only; (fail_if_success (with_reducible show wpAny _ _ (eval (Expr.ListComp _ _ _ _) _) _ _ _); fail_if_success (with_reducible show wpAny _ _ (exec (Stmt.While _ _ _ _) _) _ _ _); fail_if_success ((with_reducible show wpAny _ _ (exec _ _) _ _ _); show wpAny _ _ (exec (Stmt.For _ _ _ _ _) _) _ _ _); fail_if_success (with_reducible show wpAny _ _ (call (Value.ref _) _) _ _ _)); walk1))
    rename Fr _ _ _ _ => F5
    rename News _ _ _ _ => N5
    refine so_sorted (vs := vs) (kz := ps.map Prod.fst) F5 N5 ⟨_, (N5 (r, listObj vs k) (.tail _ (.tail _ (.tail _ hr)))).1, rfl, _, rfl⟩ (by rw [List.length_map, hp.length]) hlen ?turn ?fin
    case turn =>
      intro i v k hv hk h tk own F N
      obtain ⟨T, t, c, u, rfl, hT⟩ := hp.at hv hk
      clear F5 N5 F' N'
      refine wpAny_call ?_
      refine kla_code B' F X' N T' rfl rfl rfl (List.mem_append_left _ (.head _)) ?cr ?rm rfl (locs rfl) ?_ rfl rfl rfl (by decide)
      case cr => exact codeRec_news N (List.mem_append_left _ (.tail _ (.tail _ (.head _)))) (by assumption) (by assumption)
      case rm => show dp + 1 < _; omega
      intro g2 L2 h2 FG F2 N2 B2 X2 T2
      (try dsimp only)
      clear hp hr h112
      repeat' (first | ((with_reducible show wpAny _ _ (execs (_ :: _) _) _ _ _); walk1; (try dsimp only)) | ((fail_if_success (with_reducible show wpAny _ _ (eval (Expr.ListComp _ _ _ _) _) _ _ _); fail_if_success (with_reducible show wpAny _ _ (exec (Stmt.While _ _ _ _) _) _ _ _); fail_if_success ((with_reducible show wpAny _ _ (exec _ _) _ _ _); show wpAny _ _ (exec (Stmt.For _ _ _ _ _) _) _ _ _); fail_if_success (with_reducible show wpAny _ _ (call (Value.ref _) _) _ _ _)); walk1) | (dsimp only; (fail_if_success (with_reducible show wpAny _ _ (eval (Expr.ListComp _ _ _ _) _) _ _ _); fail_if_success (with_reducible show wpAny _ _ (exec (Stmt.While _ _ _ _) _) _ _ _); fail_if_success ((with_reducible show wpAny _ _ (exec _ _) _ _ _); show wpAny _ _ (exec (Stmt.For _ _ _ _ _) _) _ _ _); fail_if_success (with_reducible show wpAny _ _ (call (Value.ref _) _) _ _ _)); walk1))
    case fin =>
      intro D h6 tk6 out c6 F6 N6 l6 hS
      clear F5 N5 F' N'
      have e6 : seqObj "list" out c6 = listObj out.toList c6 := by simp [seqObj, listObj]
      rw [e6] at N6
      obtain ⟨qs, hq1, hq2⟩ := run_out N6 (fun q hq => by k_mem) hp hS
      have hql : (qs.map Prod.snd).length = ps.length := by
        rw [List.length_map]
        refine List.Perm.length_eq (List.perm_iff_count.mpr fun x => ?_)
        have h1 := congrArg (List.count x) (hq1.2 x.1)
        rwa [List.count_filter (by simp), List.count_filter (by simp)] at h1
      refine ⟨_, D, out.toList, c6, qs.map Prod.snd, _, rfl, F6, N6, .head _, ?_, ?_, ?_⟩
      · exact hq2
      · rw [← hq2.length, hql, hp.length]; omega
      · intro X o5 j h7 tk7 hi F7 N7 l7
        refine' (fun (c' : Addr) (oc : Obj) (vs9 : Array Value) (t9 : Tok) (hm1 : (112, tabObj #[rawInt 92, rawInt 53, .ref c']) ∈ _) (hm2 : (c', oc) ∈ _) (hd9 : oc.data = .fields vs9) (hv9 : vs9[1]? = some (.str (Str.ofString "form_sorted.<locals>.<lambda>") t9)) => hQ₀ _ _ <| RetAt.ret F7 (News.cons' N7 (.head _) (News.cons' N7 hm1 (News.cons' N7 hm2 (fun q hq => N7 q (by k_mem))))) ⟨X, o5, j, [(112, tabObj #[rawInt 92, rawInt 53, .ref c']), (c', oc)], qs, rfl, rfl, .inr ⟨c', oc, vs9, t9, rfl, hd9, hv9⟩, hi, hq1, fun q hq => l7 q (by k_mem)⟩) _ _ _ _ ?m1 ?m2 ?m3 ?m4
        case m1 => k_mem
        case m2 => k_mem
        case m3 => assumption
        case m4 => assumption
theorem fsorted_spec {r : Addr} {vs : List Value} {k : Nat} {ps : List (Int × Int)} {lam rest : Led} (hlam : LamL lam) (c : Cx w p loose mean mg mb outer A₀ base h₀ L m (lam ++ rest) s cs dp un 6 60) (h112 : ∀ q ∈ rest, q.1 ≠ 112)
    (hr : (r, listObj vs k) ∈ rest) (hp : RunIs rest vs ps) (hlen : vs.length < 64)
    (ret : ∀ D out k lam' qs h' tk', (∀ q ∈ rest, q.1 < D) → LamL lam' → IntsAre out (qs.map Prod.snd) → SortedRun ps qs → Fr h₀ L h' m → News h₀ L h' ((D, listObj out k) :: (lam' ++ rest)) → Q (.ref D) { s with heap := h', toks := tk' }) :
    wpAny (md w) (ktrTop dp un gd cn cs L a ccd cl outer) (call (.ref 115) [.ref r]) Q (fun _ _ => False) s := by
  rcases hlam with rfl | ⟨c', oc, vs9, t9, rfl, hd9, hv9⟩
  · exact fsorted_new (lam := []) c h112 hr hp hlen ret
  · exact fsorted_hit hd9 hv9 c h112 hr hp hlen ret
end
end
end
section
local macro_rules | `(tactic| k_mem) => `(tactic| first | assumption | exact List.mem_cons_self | (refine List.mem_cons_of_mem _ ?_; k_mem) | (refine List.mem_append_left _ ?_; k_mem) | (refine List.mem_append_right _ ?_; k_mem) | ktr_member)
section
local macro_rules | `(tactic| walk_at "call builtin:list.append") => `(tactic| (refine app_any (by k_asm) (by k_asm) (by k_updF) (by omega) ?_; intro h' n' F' N'; (try dsimp only at N')))
local macro_rules | `(tactic| walk_at "call builtin:list.extend") => `(tactic| (refine ext_any (by k_asm) (by k_asm) (by k_updF) (by k_mem) (by omega) ?_; intro h' n' F' N'; (try dsimp only at N')))
section
set_option maxHeartbeats 1000000
theorem reg12 (w : World) : (model PySem.Challenge.rw_nt0032_01.row.prog w = model PySem.Challenge.rw_nt0032_01.row.prog w) ∧ K w.params = K w.params := by
  k_fill
  exact ⟨rfl, rfl⟩
section
variable {w : World} {p : Program} {loose : List Str} {mean : ExcName → Option Value} {mg mb : Mp} {dp un : Nat} {gd : Option (List Code)} {cn : Str} {cs : Scope} {a : Addr} {ccd : Value} {cl : List (Str × Addr)} {outer : List Env} {A₀ : Around} {base h₀ : Heap} {L : Addr} {m : Mp} {news : Led} {s : Shared} {Q : Value → Shared → Prop}
/-- what ordered has after some codes: found, and the run that is open -/
inductive Ord (f : Int → Int) : List Int → List Int → List (Int × Int) → Prop
  | nil : Ord f [] [] []
  | move {cs fnd : List Int} {ps : List (Int × Int)} {c : Int} : Ord f cs fnd ps → 0 < f c → Ord f (cs ++ [c]) fnd (ps ++ [(f c, c)])
  | stop {cs fnd : List Int} {ps qs : List (Int × Int)} {c : Int} : Ord f cs fnd ps → ¬ 0 < f c → SortedRun ps qs → Ord f (cs ++ [c]) (fnd ++ qs.map Prod.snd ++ [c]) []
theorem LamL.at112 {lam : Led} (h : LamL lam) : ∃ o, (112, o) ∈ lam := by
  rcases h with rfl | ⟨c', oc, vs, t, rfl, _⟩
  · exact ⟨_, .head _⟩
  · exact ⟨_, .head _⟩
theorem RunIs.mono {n1 n2 : Led} {vs : List Value} {ps : List (Int × Int)} (h : RunIs n1 vs ps) (hs : ∀ q ∈ n1, q ∈ n2) : RunIs n2 vs ps := by
  induction h with
  | nil => exact .nil
  | cons hm _ ih => exact .cons (hs _ hm) ih
theorem RunIs.snoc {n1 : Led} {vs : List Value} {ps : List (Int × Int)} {T : Addr} {x c : Int} {t u : Tok} (h : RunIs n1 vs ps) (hm : (T, pairObj (.int x t) (.int c u)) ∈ n1) : RunIs n1 (vs ++ [.ref T]) (ps ++ [(x, c)]) := by
  induction h with
  | nil => exact .cons hm .nil
  | cons hm' _ ih => exact .cons hm' ih
theorem allLt_mem {d : Addr} : ∀ {l : Led}, AllLt d l → ∀ q ∈ l, q.1 < d
  | [], _, q, hq => by cases hq
  | _ :: _, h, q, hq => by
    rcases List.mem_cons.mp hq with rfl | hq
    · exact h.1
    · exact allLt_mem h.2 q hq
/-- the loop of ordered: after i codes -/
def OrdJ (f : Int → Int) (xd tx : Addr) (cs₁ : List Int) (rest : Led) (i : Nat) (m₁ : Mp) (news₁ : Led) : Prop :=
  ∃ lam F R fs kf rs kr tup fnd ps, LamL lam ∧ Knows [(Str.ofString "found", .ref F), (Str.ofString "run", .ref R), (Str.ofString "data", .ref xd), (Str.ofString "text", .ref tx)] m₁ ∧
    news₁ = (R, listObj rs kr) :: (F, listObj fs kf) :: (lam ++ (tup ++ rest)) ∧ IntsAre fs fnd ∧ RunIs tup rs ps ∧ Ord f (cs₁.take i) fnd ps ∧ (∀ q ∈ tup, q.1 ≠ 112) ∧ (∀ q ∈ lam ++ (tup ++ rest), q.1 ≠ F ∧ q.1 ≠ R) ∧ (∀ q ∈ rest, q.1 < F) ∧ R ≠ F ∧ R ≠ 112 ∧ F ≠ 112 ∧ fnd.length + ps.length ≤ i
theorem ord_move {f : Int → Int} {xd tx : Addr} {cs₁ : List Int} {rest : Led} {i : Nat} {m₁ : Mp} {g h : Heap} {L' I T F R : Addr} {oi : Obj} {lam tup : Led} {fs rs : List Value} {kf n' kr : Nat} {fnd : List Int} {ps : List (Int × Int)} {c₀ : Int} {t5 t6 : Tok}
    (hlam : LamL lam) (hm : Knows [(Str.ofString "found", .ref F), (Str.ofString "run", .ref R), (Str.ofString "data", .ref xd), (Str.ofString "text", .ref tx)] m₁)
    (N : News g L' h ((T, pairObj (.int (f c₀) t5) (.int c₀ t6)) :: (R, listObj (rs ++ [.ref T]) n') :: (F, listObj fs kf) :: (lam ++ (tup ++ rest) ++ [(I, oi)])))
    (hI : ∀ q ∈ (R, listObj rs kr) :: (F, listObj fs kf) :: (lam ++ (tup ++ rest)), q.1 ≠ I)
    (l7 : @LT.lt Nat _ R T) (l8 : @LT.lt Nat _ F T) (l10 : ∀ q ∈ lam ++ (tup ++ rest) ++ [(I, oi)], q.1 < T)
    (hfs : IntsAre fs fnd) (hrs : RunIs tup rs ps) (hO : Ord f (cs₁.take i) fnd ps) (hc : cs₁[i]? = some c₀) (hw : 0 < f c₀)
    (h1 : ∀ q ∈ tup, q.1 ≠ 112) (h2 : ∀ q ∈ lam ++ (tup ++ rest), q.1 ≠ F ∧ q.1 ≠ R) (h2' : ∀ q ∈ rest, q.1 < F) (h3 : R ≠ F) (h4 : R ≠ 112) (h5 : F ≠ 112) (h6 : fnd.length + ps.length ≤ i) :
    ∃ news', News g L' h (news' ++ [(I, oi)]) ∧ (∀ q ∈ news', q.1 ≠ I) ∧ OrdJ f xd tx cs₁ rest (i + 1) m₁ news' := by
  obtain ⟨o9, h9⟩ := hlam.at112
  have hT : ∀ q ∈ lam ++ (tup ++ rest) ++ [(I, oi)], q.1 ≠ T := fun q hq => Nat.ne_of_lt (l10 q hq)
  have hTI : T ≠ I := fun e => hT (I, oi) (List.mem_append_right _ (.head _)) e.symm
  have hT112 : T ≠ 112 := fun e => hT _ (List.mem_append_left _ (List.mem_append_left _ h9)) e.symm
  refine ⟨(R, listObj (rs ++ [.ref T]) n') :: (F, listObj fs kf) :: (lam ++ (((T, pairObj (.int (f c₀) t5) (.int c₀ t6)) :: tup) ++ rest)), ?_, ?_, lam, F, R, fs, kf, rs ++ [.ref T], n', (T, pairObj (.int (f c₀) t5) (.int c₀ t6)) :: tup, fnd, ps ++ [(f c₀, c₀)], hlam, hm, rfl, hfs, (hrs.mono fun q hq => .tail _ hq).snoc (.head _), ?_, ?_, ?_, h2', h3, h4, h5, ?_⟩
  · intro q hq
    refine N q ?_
    simp only [List.cons_append, List.append_assoc, List.mem_cons, List.mem_append] at hq ⊢
    rcases hq with hq | hq | hq | hq | hq | hq | (hq | hq) <;> first | (simp [hq]; done) | cases hq
  · intro q hq
    simp only [List.cons_append, List.mem_cons, List.mem_append] at hq
    rcases hq with rfl | rfl | hq | rfl | hq | hq
    · exact hI (R, listObj rs kr) (.head _)
    · exact hI _ (.tail _ (.head _))
    · exact hI q (.tail _ (.tail _ (List.mem_append_left _ hq)))
    · exact hTI
    · exact hI q (.tail _ (.tail _ (List.mem_append_right _ (List.mem_append_left _ hq))))
    · exact hI q (.tail _ (.tail _ (List.mem_append_right _ (List.mem_append_right _ hq))))
  · rw [List.take_add_one, hc]
    exact .move hO hw
  · intro q hq
    rcases List.mem_cons.mp hq with rfl | hq
    · exact hT112
    · exact h1 q hq
  · intro q hq
    simp only [List.cons_append, List.mem_cons, List.mem_append] at hq
    rcases hq with hq | rfl | hq | hq
    · exact h2 q (List.mem_append_left _ hq)
    · exact ⟨Nat.ne_of_gt l8, Nat.ne_of_gt l7⟩
    · exact h2 q (List.mem_append_right _ (List.mem_append_left _ hq))
    · exact h2 q (List.mem_append_right _ (List.mem_append_right _ hq))
  · rw [List.length_append, List.length_singleton]
    omega
end
end
end
section
set_option maxHeartbeats 4000000
section
variable {prog : Program} {w : World} {A : Around} {s : Shared} {env : Env} {test : PySem.Expr} {body : List Stmt} {Q : Flow → Shared → Prop} {h₀ : Heap} {L : Addr}
theorem for_loopS {target : PySem.Expr} {I : Addr} {need : Led} {n : Nat} {P : Nat → Value → Prop} {St : Nat → Obj → Prop} {o : Obj} {m : Mp} {news : Led} (J : Nat → Mp → Led → Prop)
    (W : Iter prog w A I need n P St) (h0 : h₀.get? I = none) (hL : I ≠ L) (hn : ∀ p ∈ news, p.1 ≠ I) (ho : s.heap.get? I = some o) (hst : St 0 o)
    (F : Fr h₀ L s.heap m) (N : News h₀ L s.heap news) (hJ : J 0 m news) (keep : ∀ i m news, J i m news → ∀ p ∈ need, p ∈ news)
    (ht : ∀ v, letOwnedTupleGo target (.ref I) v = pure ())
    (turn : ∀ i v m₁ news₁ h tk o, i < n → St (i + 1) o → P i v → J i m₁ news₁ → (∀ p ∈ news₁, p.1 ≠ I) → Fr h₀ L h m₁ → News h₀ L h (news₁ ++ [(I, o)]) →
      wpAny (model prog w) A (assign target env v) (fun _ s₂ => wpAny (model prog w) A (execs body env) (FEnd h₀ L (J (i + 1)) I o s Q) (fun _ _ => False) s₂) (fun _ _ => False) { s with heap := h, toks := tk })
    (done : ∀ m₁ news₁ h tk, J n m₁ news₁ → Fr h₀ L h m₁ → News h₀ L h news₁ → Q .next { s with heap := h, toks := tk }) :
    codeAny (model prog w) A (.forLoop target (.ref I) body [] env) (fun r s' => match r with | .ok f => Q f s' | .error e => cameBackBy (model prog w) A env (fun _ _ => False) e s') s := by
  refine codeAny_forLoop (fun k s' => ∃ h' tk m' news' i o', s' = { s with heap := h', toks := tk } ∧ h'.get? I = some o' ∧ St i o' ∧ Fr h₀ L h' m' ∧ News h₀ L h' news' ∧ (∀ p ∈ news', p.1 ≠ I) ∧ J i m' news' ∧ i ≤ n ∧ k = n + 1 - i) ?_ (n + 1)
    ⟨s.heap, s.toks, m, news, 0, o, rfl, ho, hst, F, N, hn, hJ, Nat.zero_le _, rfl⟩ ht
  rintro k s' ⟨h', tk, m', news', i, o', rfl, ho', hst', F', N', hn', hJ', hi, rfl⟩
  have old : ∀ b x, h₀.get? b = some x → b ≠ I := fun b x e q => by rw [q, h0] at e; cases e
  have nd : ∀ p ∈ need, h'.get? p.1 = some p.2 := fun p hp => (N' p (keep _ _ _ hJ' p hp)).1
  by_cases hlt : i < n
  · refine W.item i _ o' _ _ hlt ho' hst' nd fun v h₁ tk₁ o₁ hP ho₁ hst₁ hs₁ => ?_
    have F₁ : Fr h₀ L h₁ m' := ⟨F'.ns.sameBut hs₁ hL.symm, fun b x e => (hs₁.2 b (old b x e)).trans (F'.keep b x e), F'.above⟩
    have N₁ : News h₀ L h₁ (news' ++ [(I, o₁)]) := by
      intro q hq
      rcases List.mem_append.mp hq with hq | hq
      · exact ⟨(hs₁.2 q.1 (hn' q hq)).trans (N' q hq).1, (N' q hq).2⟩
      · obtain rfl := List.mem_singleton.mp hq
        exact ⟨ho₁, hL, h0⟩
    refine wpAny_mono (turn i v m' news' h₁ tk₁ o₁ hlt hst₁ hP hJ' hn' F₁ N₁) (fun _ s₂ h₂ => wpAny_mono h₂ (fun f s₃ h₃ => ?_) fun _ _ e => e.elim) fun _ _ e => e.elim
    cases f with
    | ret v => exact h₃
    | brk => exact h₃
    | next =>
      obtain ⟨h₄, tk₄, m₄, news₄, rfl, F₄, N₄, hn₄, hJ₄⟩ := h₃
      exact ⟨n + 1 - (i + 1), by omega, h₄, tk₄, m₄, news₄, i + 1, o₁, rfl, (N₄ _ (List.mem_append_right _ (.head _))).1, hst₁, F₄, fun q hq => N₄ q (List.mem_append_left _ hq), hn₄, hJ₄, hlt, rfl⟩
    | cont =>
      obtain ⟨h₄, tk₄, m₄, news₄, rfl, F₄, N₄, hn₄, hJ₄⟩ := h₃
      exact ⟨n + 1 - (i + 1), by omega, h₄, tk₄, m₄, news₄, i + 1, o₁, rfl, (N₄ _ (List.mem_append_right _ (.head _))).1, hst₁, F₄, fun q hq => N₄ q (List.mem_append_left _ hq), hn₄, hJ₄, hlt, rfl⟩
  · have hin : i = n := by omega
    subst hin
    refine W.done _ o' _ _ ho' hst' nd fun h₁ tk₁ hs₁ => wpAny_execs_nil ?_
    have F₁ : Fr h₀ L h₁ m' := ⟨F'.ns.extBut hs₁ hL.symm, fun b x e => hs₁ b x (old b x e) (F'.keep b x e), F'.above⟩
    exact done m' news' h₁ tk₁ hJ' F₁ fun q hq => ⟨hs₁ _ _ (hn' q hq) (N' q hq).1, (N' q hq).2⟩
/-- over a list of the ledger -/
theorem ForAt.listS {target : PySem.Expr} {l : Addr} {vs : List Value} {k : Nat} {m : Mp} {news : Led} (J : Nat → Mp → Led → Prop) (hh : A.handled = none)
    (F : Fr h₀ L s.heap m) (N : News h₀ L s.heap news) (hJ : J 0 m news) (keep : ∀ i m news, J i m news → (l, listObj vs k) ∈ news)
    (turn : ∀ i v m₁ news₁ h tk I o, o.data = .fields #[.ref l, .int (i + 1 : Nat) 0] → vs[i]? = some v → J i m₁ news₁ → (∀ p ∈ news₁, p.1 ≠ I) → Fr h₀ L h m₁ → News h₀ L h (news₁ ++ [(I, o)]) →
      wpAny (model prog w) A (assign target env v) (fun _ s₂ => wpAny (model prog w) A (execs body env) (FEnd h₀ L (J (i + 1)) I o s Q) (fun _ _ => False) s₂) (fun _ _ => False) { s with heap := h, toks := tk })
    (done : ∀ m₁ news₁ h tk, J vs.length m₁ news₁ → Fr h₀ L h m₁ → News h₀ L h news₁ → Q .next { s with heap := h, toks := tk })
    (ht : ∀ it v, letOwnedTupleGo target it v = pure () := by intro _ _; rfl) : ForAt prog w A env target body Q (.ref l) s := by
  have hl := (N _ (keep _ _ _ hJ)).1
  refine wpAny_pyIter_list (items := vs.toArray) ⟨_, hl, rfl, _, rfl⟩ ?_
  have hlt := Heap.lt_size hl
  refine for_loopS (s := { s with heap := s.heap.push { cls := .type "list_iterator", data := .fields #[.ref l, .int 0 0] } }) (I := s.heap.objs.size) (need := [(l, listObj vs k)]) (n := vs.length) (P := fun i v => vs[i]? = some v) (St := fun i o => o.cls = .type "list_iterator" ∧ o.data = .fields #[.ref l, .int i 0]) J ?_ (fresh_none F) (Nat.ne_of_gt F.ns.lt)
    (fun q hq => Nat.ne_of_lt (Heap.lt_size (N q hq).1)) (Heap.get?_push_size _ rfl) ⟨rfl, rfl⟩ (F.push _) (fun q hq => ⟨Heap.get?_push_of_some _ (N q hq).1, (N q hq).2⟩) hJ
    (fun i m news h q hq => by obtain rfl := List.mem_singleton.mp hq; exact keep i m news h) (ht _) (fun i v m₁ news₁ h tk o _ hS hP hJ₁ hn₁ F₁ N₁ => turn i v m₁ news₁ h tk _ o hS.2 hP hJ₁ hn₁ F₁ N₁) (fun m₁ news₁ h tk hJ₁ F₁ N₁ => done m₁ news₁ h tk hJ₁ F₁ N₁)
  constructor
  · intro i s o Q E hi ho hst hnd hQ
    have hl' := hnd (l, listObj vs k) (.head _)
    refine wpAny_pyNext_list_item (it := _) (l := l) (i := i) (items := vs.toArray) (x := vs[i]) ⟨o, ho, hst⟩ ⟨_, hl', rfl, _, rfl⟩ (by simp [hi]) fun h' hit hs => ?_
    obtain ⟨o', ho', hc', hd'⟩ := hit
    exact hQ _ h' _ o' (by simp [hi]) ho' ⟨hc', hd'⟩ hs
  · intro s o Q E ho hst hnd hQ
    have hl' := hnd (l, listObj vs k) (.head _)
    exact wpAny_pyNext_list_end hh ⟨o, ho, hst⟩ ⟨_, hl', rfl, _, rfl⟩ (by simp) fun h' hs => hQ h' _ hs
end
theorem SortedRun.length {ps qs : List (Int × Int)} (h : SortedRun ps qs) : qs.length = ps.length := by
  refine List.Perm.length_eq (List.perm_iff_count.mpr fun x => ?_)
  have h1 := congrArg (List.count x) (h.2 x.1)
  rwa [List.count_filter (by simp), List.count_filter (by simp)] at h1
theorem LamL.flds {lam : Led} (hl : LamL lam) : ∀ q ∈ lam, ∃ vs, q.2.data = .fields vs := by
  rcases hl with rfl | ⟨c', oc, vs, t, rfl, hd, hv⟩
  · intro q hq
    obtain rfl := List.mem_singleton.mp hq
    exact ⟨_, rfl⟩
  · intro q hq
    rcases List.mem_cons.mp hq with rfl | hq
    · exact ⟨_, rfl⟩
    · obtain rfl := List.mem_singleton.mp hq
      exact ⟨_, hd⟩
theorem LamL.sepS {lam : Led} {g h : Heap} {L F : Addr} {N : Led} {fs : Array Value} {kf : Nat} {o : Obj} (hl : LamL lam) (hN : News g L h N) (hs : ∀ q ∈ lam, q ∈ N) (hF : (F, o) ∈ N) (ho : o.data = .seq fs kf) : ∀ q ∈ lam, q.1 ≠ F := by
  intro q hq e
  obtain ⟨vs, hv⟩ := hl.flds q hq
  have a1 := (hN _ hF).1
  have a2 := (hN _ (hs _ hq)).1
  dsimp only at a1
  rw [e, a1] at a2
  obtain rfl := Option.some.inj a2
  rw [hv] at ho
  cases ho
theorem LamL.sepI {lam : Led} {g h : Heap} {L I : Addr} {N : Led} {oi : Obj} {l : Addr} {i : Int} {u : Tok} (hl : LamL lam) (hN : News g L h N) (hs : ∀ q ∈ lam, q ∈ N) (hF : (I, oi) ∈ N) (ho : oi.data = .fields #[.ref l, .int i u]) (h1 : I ≠ 112) : ∀ q ∈ lam, q.1 ≠ I := by
  rcases hl with rfl | ⟨c', oc, vs, t, rfl, hd, hv⟩
  · intro q hq
    obtain rfl := List.mem_singleton.mp hq
    exact h1.symm
  · intro q hq
    rcases List.mem_cons.mp hq with rfl | hq
    · exact h1.symm
    · obtain rfl := List.mem_singleton.mp hq
      intro e
      dsimp only at e
      subst e
      have a1 := (hN _ hF).1
      have a2 := (hN _ (hs _ (.tail _ (.head _)))).1
      dsimp only at a1 a2
      rw [a1] at a2
      obtain rfl := Option.some.inj a2
      rw [ho] at hd
      injection hd with hd
      subst hd
      simp at hv
theorem ord_stop {f : Int → Int} {xd tx : Addr} {cs₁ : List Int} {rest : Led} {i : Nat} {m₁ : Mp} {g h : Heap} {L' I D F R R' : Addr} {oi : Obj} {l : Addr} {lam tup : Led} {fs rs out : List Value} {kf kf' k2 kr : Nat} {fnd : List Int} {ps qs : List (Int × Int)} {c₀ j : Int} {t6 u : Tok}
    (hlam : LamL lam) (hm : Knows [(Str.ofString "found", .ref F), (Str.ofString "run", .ref R'), (Str.ofString "data", .ref xd), (Str.ofString "text", .ref tx)] m₁)
    (N : News g L' h ((R', listObj [] 0) :: (D, listObj out k2) :: (R, listObj rs kr) :: (F, listObj (fs ++ out ++ [.int c₀ t6]) kf) :: (lam ++ (tup ++ rest) ++ [(I, oi)])))
    (hoi : oi.data = .fields #[.ref l, .int j u])
    (hR : ∀ q ∈ (D, listObj out k2) :: (R, listObj rs kr) :: (F, listObj (fs ++ out ++ [.int c₀ t6]) kf) :: (lam ++ (tup ++ rest) ++ [(I, oi)]), q.1 < R')
    (hDn : ∀ q ∈ (R, listObj rs kr) :: (F, listObj fs kf') :: (tup ++ (rest ++ [(I, oi)])), q.1 < D) (hD2 : D ≠ 112) (hI2 : I ≠ 112)
    (hI : ∀ q ∈ (R, listObj rs kr) :: (F, listObj fs kf') :: (tup ++ rest), q.1 ≠ I)
    (hfs : IntsAre fs fnd) (hout : IntsAre out (qs.map Prod.snd)) (hO : Ord f (cs₁.take i) fnd ps) (hS : SortedRun ps qs) (hc : cs₁[i]? = some c₀) (hw : ¬ 0 < f c₀) (hql : qs.length = ps.length)
    (h1 : ∀ q ∈ tup, q.1 ≠ 112) (h2 : ∀ q ∈ tup ++ rest, q.1 ≠ F ∧ q.1 ≠ R) (h2' : ∀ q ∈ rest, q.1 < F) (h3 : R ≠ F) (h4 : R ≠ 112) (h5 : F ≠ 112) (h6 : fnd.length + ps.length ≤ i) :
    ∃ news', News g L' h (news' ++ [(I, oi)]) ∧ (∀ q ∈ news', q.1 ≠ I) ∧ OrdJ f xd tx cs₁ rest (i + 1) m₁ news' := by
  have lR := hR
  have hsub : ∀ q ∈ lam, q ∈ (R', listObj [] 0) :: (D, listObj out k2) :: (R, listObj rs kr) :: (F, listObj (fs ++ out ++ [.int c₀ t6]) kf) :: (lam ++ (tup ++ rest) ++ [(I, oi)]) := fun q hq => .tail _ (.tail _ (.tail _ (.tail _ (List.mem_append_left _ (List.mem_append_left _ hq)))))
  have sF := hlam.sepS N hsub (.tail _ (.tail _ (.tail _ (.head _)))) rfl
  have sD := hlam.sepS N hsub (.tail _ (.head _)) rfl
  have sR := hlam.sepS N hsub (.tail _ (.tail _ (.head _))) rfl
  have sI := hlam.sepI N hsub (.tail _ (.tail _ (.tail _ (.tail _ (List.mem_append_right _ (.head _)))))) hoi hI2
  have e112 : R' ≠ 112 := by
    obtain ⟨o9, h9⟩ := hlam.at112
    exact Nat.ne_of_gt (hR (112, o9) (.tail _ (.tail _ (.tail _ (List.mem_append_left _ (List.mem_append_left _ h9))))))
  have eI : R' ≠ I := Nat.ne_of_gt (hR (I, oi) (.tail _ (.tail _ (.tail _ (List.mem_append_right _ (.head _))))))
  have eD : R' ≠ D := Nat.ne_of_gt (hR _ (.head _))
  have eF : R' ≠ F := Nat.ne_of_gt (hR _ (.tail _ (.tail _ (.head _))))
  have eR : R ≠ R' := Nat.ne_of_lt (hR _ (.tail _ (.head _)))
  have dI : D ≠ I := Nat.ne_of_gt (hDn (I, oi) (.tail _ (.tail _ (List.mem_append_right _ (List.mem_append_right _ (.head _))))))
  have dF : D ≠ F := Nat.ne_of_gt (hDn _ (.tail _ (.head _)))
  refine ⟨(R', listObj [] 0) :: (F, listObj (fs ++ out ++ [.int c₀ t6]) kf) :: (lam ++ (((D, listObj out k2) :: (R, listObj rs kr) :: tup) ++ rest)), ?_, ?_, lam, F, R', fs ++ out ++ [.int c₀ t6], kf, [], 0, (D, listObj out k2) :: (R, listObj rs kr) :: tup, fnd ++ qs.map Prod.snd ++ [c₀], [], hlam, hm, rfl, ?_, .nil, ?_, ?_, ?_, h2', eF, e112, h5, ?_⟩
  · intro q hq
    refine N q ?_
    simp only [List.cons_append, List.append_assoc, List.mem_cons, List.mem_append] at hq ⊢
    rcases hq with hq | hq | hq | hq | hq | hq | hq | (hq | hq) <;> first | (simp [hq]; done) | cases hq
  · intro q hq
    simp only [List.cons_append, List.mem_cons, List.mem_append] at hq
    rcases hq with rfl | rfl | hq | rfl | rfl | hq | hq
    · exact eI
    · exact hI (F, listObj fs kf') (.tail _ (.head _))
    · exact sI q hq
    · exact dI
    · exact hI (R, listObj rs kr) (.head _)
    · exact hI q (.tail _ (.tail _ (List.mem_append_left _ hq)))
    · exact hI q (.tail _ (.tail _ (List.mem_append_right _ hq)))
  · exact IntsAre.append (IntsAre.append hfs hout) (IntsAre.cons _ _ .nil)
  · rw [List.take_add_one, hc]
    exact .stop hO hw hS
  · intro q hq
    rcases List.mem_cons.mp hq with rfl | hq
    · exact hD2
    · rcases List.mem_cons.mp hq with rfl | hq
      · exact h4
      · exact h1 q hq
  · intro q hq
    simp only [List.cons_append, List.mem_cons, List.mem_append] at hq
    rcases hq with hq | rfl | rfl | hq | hq
    · exact ⟨sF q hq, Nat.ne_of_lt (hR q (.tail _ (.tail _ (.tail _ (List.mem_append_left _ (List.mem_append_left _ hq))))))⟩
    · exact ⟨dF, eD.symm⟩
    · exact ⟨h3, eR⟩
    · exact ⟨(h2 q (List.mem_append_left _ hq)).1, Nat.ne_of_lt (hR q (.tail _ (.tail _ (.tail _ (List.mem_append_left _ (List.mem_append_right _ (List.mem_append_left _ hq)))))))⟩
    · exact ⟨(h2 q (List.mem_append_right _ hq)).1, Nat.ne_of_lt (hR q (.tail _ (.tail _ (.tail _ (List.mem_append_left _ (List.mem_append_right _ (List.mem_append_right _ hq)))))))⟩
  · simp
    omega
end
section
/-- no neighbours that stand the wrong way round -/
def NoDesc (f : Int → Int) : List Int → Prop
  | [] => True
  | [_] => True
  | a :: b :: t => ¬ (0 < f b ∧ f b < f a) ∧ NoDesc f (b :: t)
def keepK (f : Int → Int) (k c : Int) : Bool := decide (f c ≤ 0 ∨ f c = k)
/-- alike up to exchanges of unlike movable neighbours -/
def Same (f : Int → Int) (l l' : List Int) : Prop := ∀ k, l.filter (keepK f k) = l'.filter (keepK f k)
theorem Same.refl {f : Int → Int} (l : List Int) : Same f l l := fun _ => rfl
theorem Same.symm {f : Int → Int} {l l' : List Int} (h : Same f l l') : Same f l' l := fun k => (h k).symm
theorem Same.trans {f : Int → Int} {l l' l'' : List Int} (h : Same f l l') (h' : Same f l' l'') : Same f l l'' := fun k => (h k).trans (h' k)
theorem Same.app {f : Int → Int} {l l' u u' : List Int} (h : Same f l l') (h' : Same f u u') : Same f (l ++ u) (l' ++ u') := fun k => by
  rw [List.filter_append, List.filter_append, h k, h' k]
theorem Same.swap {f : Int → Int} {a b : Int} (ha : 0 < f a) (hb : 0 < f b) (hab : f a ≠ f b) (u v : List Int) : Same f (u ++ a :: b :: v) (u ++ b :: a :: v) := by
  refine (Same.refl u).app fun k => ?_
  have h1 : ¬ f a ≤ 0 := by lia
  have h2 : ¬ f b ≤ 0 := by lia
  by_cases e1 : f a = k
  · have e2 : ¬ f b = k := fun e => hab (e1.trans e.symm)
    simp [keepK, h1, h2, e1, e2]
  · by_cases e2 : f b = k <;> simp [keepK, h1, h2, e1, e2]
theorem NoDesc.tail {f : Int → Int} {a : Int} {t : List Int} (h : NoDesc f (a :: t)) : NoDesc f t := by
  cases t with
  | nil => trivial
  | cons b t => exact h.2
theorem NoDesc.least {f : Int → Int} {k a : Int} {r : List Int} (hk : 0 < k) (ha : f a = k) : ∀ {t : List Int} {b : Int}, NoDesc f (b :: t) → 0 < f b → (b :: t).filter (keepK f k) = a :: r → f b ≤ k
  | t, b, hn, hb, hf => by
    by_cases e : f b = k
    · lia
    · have hkb : keepK f k b = false := by
        unfold keepK
        exact decide_eq_false (by lia)
      rw [List.filter_cons, hkb] at hf
      cases t with
      | nil => simp at hf
      | cons b' t' =>
        have hf' : (b' :: t').filter (keepK f k) = a :: r := by simpa using hf
        have h1 := hn.1
        by_cases h0 : f b' ≤ 0
        · have hkb' : keepK f k b' = true := by
            unfold keepK
            exact decide_eq_true (Or.inl h0)
          rw [List.filter_cons, hkb'] at hf'
          have h9 : b' = a := by simpa using (List.cons.inj hf').1
          rw [h9] at h0
          lia
        · have := NoDesc.least hk ha hn.2 (by lia) hf'
          lia
theorem keep_self {f : Int → Int} (c : Int) : keepK f (f c) c = true := by
  unfold keepK
  exact decide_eq_true (Or.inr rfl)
theorem Same.head {f : Int → Int} {a b : Int} {t t' : List Int} (h1 : NoDesc f (a :: t)) (h2 : NoDesc f (b :: t')) (h : Same f (a :: t) (b :: t')) : a = b := by
  have ha := h (f a)
  have hb := h (f b)
  rw [List.filter_cons_of_pos (keep_self a)] at ha
  rw [List.filter_cons_of_pos (l := t') (keep_self b)] at hb
  by_cases fa : f a ≤ 0
  · have kb : keepK f (f b) a = true := decide_eq_true (Or.inl fa)
    rw [List.filter_cons_of_pos kb] at hb
    exact (List.cons.inj hb).1
  · by_cases fb : f b ≤ 0
    · have ka : keepK f (f a) b = true := decide_eq_true (Or.inl fb)
      rw [List.filter_cons_of_pos ka] at ha
      exact (List.cons.inj ha).1
    · have l1 := NoDesc.least (by lia) rfl h2 (by lia) ha.symm
      have l2 := NoDesc.least (by lia) rfl h1 (by lia) hb
      have e : f a = f b := by lia
      have ka : keepK f (f a) b = true := decide_eq_true (Or.inr e.symm)
      rw [List.filter_cons_of_pos ka] at ha
      exact (List.cons.inj ha).1
theorem Same.unique {f : Int → Int} : ∀ {l l' : List Int}, NoDesc f l → NoDesc f l' → Same f l l' → l = l'
  | [], [], _, _, _ => rfl
  | [], b :: t, _, _, h => by
    have := h (f b)
    rw [List.filter_cons_of_pos (keep_self b)] at this
    simp at this
  | a :: t, [], _, _, h => by
    have := h (f a)
    rw [List.filter_cons_of_pos (keep_self a)] at this
    simp at this
  | a :: t, b :: t', h1, h2, h => by
    obtain rfl := Same.head h1 h2 h
    refine congrArg (a :: ·) (Same.unique h1.tail h2.tail fun k => ?_)
    have := h k
    rw [List.filter_cons, List.filter_cons] at this
    split at this
    · exact (List.cons.inj this).2
    · exact this
theorem NoDesc.app {f : Int → Int} {c : Int} (hc : f c ≤ 0) {v : List Int} (hv : NoDesc f v) : ∀ {u : List Int}, NoDesc f (u ++ [c]) → NoDesc f (u ++ [c] ++ v)
  | [], _ => by
    cases v with
    | nil => trivial
    | cons b t => exact ⟨by lia, hv⟩
  | [a], h => ⟨h.1, by simpa using NoDesc.app hc hv (u := []) trivial⟩
  | a :: b :: u, h => ⟨h.1, by simpa using NoDesc.app hc hv (u := b :: u) h.2⟩
theorem NoDesc.snoc {f : Int → Int} {c : Int} (hc : f c ≤ 0) : ∀ {u : List Int}, NoDesc f u → NoDesc f (u ++ [c])
  | [], _ => trivial
  | [a], _ => ⟨by lia, trivial⟩
  | a :: b :: u, h => ⟨h.1, by simpa using NoDesc.snoc hc (u := b :: u) h.2⟩
theorem NoDesc.ofSorted {f : Int → Int} : ∀ {qs : List (Int × Int)}, qs.Pairwise (fun p q => p.1 ≤ q.1) → (∀ p ∈ qs, p.1 = f p.2) → NoDesc f (qs.map Prod.snd)
  | [], _, _ => trivial
  | [p], _, _ => trivial
  | p :: q :: r, h, hf => by
    refine ⟨?_, NoDesc.ofSorted (qs := q :: r) (List.pairwise_cons.mp h).2 fun x hx => hf x (.tail _ hx)⟩
    have h1 := (List.pairwise_cons.mp h).1 q (.head _)
    have h2 := hf p (.head _)
    have h3 := hf q (.tail _ (.head _))
    lia
theorem Same.ofSorted {f : Int → Int} {ps qs : List (Int × Int)} (h : SortedRun ps qs) (hp : ∀ p ∈ ps, p.1 = f p.2 ∧ 0 < p.1) : (∀ p ∈ qs, p.1 = f p.2 ∧ 0 < p.1) ∧ Same f (ps.map Prod.snd) (qs.map Prod.snd) := by
  have hq : ∀ p ∈ qs, p ∈ ps := fun p hp => by
    have h1 : p ∈ qs.filter (fun q => decide (q.1 = p.1)) := List.mem_filter.mpr ⟨hp, by simp⟩
    rw [h.2] at h1
    exact (List.mem_filter.mp h1).1
  have key : ∀ (l : List (Int × Int)) k, (∀ p ∈ l, p.1 = f p.2 ∧ 0 < p.1) → (l.map Prod.snd).filter (keepK f k) = (l.filter (fun q => decide (q.1 = k))).map Prod.snd := by
    intro l k hl
    rw [List.filter_map]
    congr 1
    refine List.filter_congr fun p hp => ?_
    obtain ⟨e1, e2⟩ := hl p hp
    show decide (f p.2 ≤ 0 ∨ f p.2 = k) = decide (p.1 = k)
    rw [← e1]
    exact decide_eq_decide.mpr ⟨fun h => h.resolve_left (by lia), .inr⟩
  exact ⟨fun p h9 => hp p (hq p h9), fun k => by rw [key ps k hp, key qs k fun p h9 => hp p (hq p h9), h.2 k]⟩
/-- what an open run is -/
theorem Ord.inv {f : Int → Int} {cs fnd : List Int} {ps : List (Int × Int)} (h : Ord f cs fnd ps) : NoDesc f fnd ∧ (fnd = [] ∨ ∃ u c, fnd = u ++ [c] ∧ f c ≤ 0) ∧ (∀ p ∈ ps, p.1 = f p.2 ∧ 0 < p.1) ∧ Same f cs (fnd ++ ps.map Prod.snd) := by
  induction h with
  | nil => exact ⟨trivial, .inl rfl, fun _ h => (by cases h), Same.refl _⟩
  | move _ hc ih =>
    obtain ⟨i1, i2, i3, i4⟩ := ih
    refine ⟨i1, i2, fun p hp => ?_, ?_⟩
    · rcases List.mem_append.mp hp with hp | hp
      · exact i3 p hp
      · obtain rfl := List.mem_singleton.mp hp
        exact ⟨rfl, hc⟩
    · rw [List.map_append, ← List.append_assoc]
      exact i4.app (Same.refl _)
  | stop _ hc hs ih =>
    obtain ⟨i1, i2, i3, i4⟩ := ih
    obtain ⟨s1, s2⟩ := Same.ofSorted hs i3
    have n1 := NoDesc.ofSorted hs.1 fun p hp => (s1 p hp).1
    refine ⟨NoDesc.snoc (by lia) ?_, .inr ⟨_, _, rfl, by lia⟩, fun _ h => (by cases h), ?_⟩
    · rcases i2 with rfl | ⟨u, c, rfl, hc'⟩
      · simpa using n1
      · exact NoDesc.app hc' n1 i1
    · rw [List.map_nil, List.append_nil]
      exact (i4.trans ((Same.refl _).app s2)).app (Same.refl _)
/-- what ordered answers -/
theorem Ord.good {f : Int → Int} {cs fnd : List Int} {ps qs : List (Int × Int)} (h : Ord f cs fnd ps) (hs : SortedRun ps qs) : NoDesc f (fnd ++ qs.map Prod.snd) ∧ Same f cs (fnd ++ qs.map Prod.snd) := by
  obtain ⟨i1, i2, i3, i4⟩ := h.inv
  obtain ⟨s1, s2⟩ := Same.ofSorted hs i3
  have n1 := NoDesc.ofSorted hs.1 fun p hp => (s1 p hp).1
  refine ⟨?_, i4.trans ((Same.refl _).app s2)⟩
  rcases i2 with rfl | ⟨u, c, rfl, hc'⟩
  · simpa using n1
  · exact NoDesc.app hc' n1 i1
/-- the answer is one alone -/
theorem Ord.eq {f : Int → Int} {cs fnd due : List Int} {ps qs : List (Int × Int)} (h : Ord f cs fnd ps) (hs : SortedRun ps qs) (hd : NoDesc f due) (hS : Same f cs due) : fnd ++ qs.map Prod.snd = due :=
  Same.unique (h.good hs).1 hd ((h.good hs).2.symm.trans hS)
end
section
/-- the value at n: the last start that is not above n -/
def look (l : List (Int × Int)) (n d : Int) : Int := l.foldl (fun acc p => if p.1 ≤ n then p.2 else acc) d
theorem look_app (l l' : List (Int × Int)) (n d : Int) : look (l ++ l') n d = look l' n (look l n d) := List.foldl_append
theorem look_above {n : Int} : ∀ {l : List (Int × Int)} {d : Int}, (∀ p ∈ l, n < p.1) → look l n d = d
  | [], _, _ => rfl
  | p :: l, d, h => by
    show look l n (if p.1 ≤ n then p.2 else d) = d
    rw [if_neg (by have := h p (.head _); lia)]
    exact look_above fun q hq => h q (.tail _ hq)
theorem look_below {n : Int} : ∀ {l : List (Int × Int)} {d : Int} {q : Int × Int}, (∀ p ∈ l, p.1 ≤ n) → l.getLast? = some q → look l n d = q.2
  | [], _, _, _, e => by simp at e
  | [p], d, q, h, e => by
    obtain rfl : p = q := by simpa using e
    exact if_pos (h p (.head _))
  | p :: p' :: l, d, q, h, e => by
    show look (p' :: l) n (if p.1 ≤ n then p.2 else d) = q.2
    exact look_below (fun x hx => h x (.tail _ hx)) (by rw [← e]; simp [List.getLast?_cons])
theorem zip_take (ns vals : List Int) (k : Nat) : (ns.zip vals).take k = (ns.take k).zip (vals.take k) := by
  simp [List.zip, List.take_zipWith]
theorem zip_drop (ns vals : List Int) (k : Nat) : (ns.zip vals).drop k = (ns.drop k).zip (vals.drop k) := by
  simp [List.zip, List.drop_zipWith]
theorem place_take {ns vals : List Int} {n r : Int} (h : PlaceAt ns n r) : ∀ p ∈ (ns.zip vals).take r.toNat, p.1 ≤ n := by
  intro p hp
  rw [zip_take] at hp
  have h1 := (List.of_mem_zip hp).1
  obtain ⟨i, hi, e⟩ := List.getElem_of_mem h1
  rw [List.length_take] at hi
  rw [← e, List.getElem_take]
  exact h.2.2.1 i (by lia) (by have := h.1; lia)
theorem place_drop {ns vals : List Int} {n r : Int} (h : PlaceAt ns n r) : ∀ p ∈ (ns.zip vals).drop r.toNat, n < p.1 := by
  intro p hp
  rw [zip_drop] at hp
  have h1 := (List.of_mem_zip hp).1
  obtain ⟨i, hi, e⟩ := List.getElem_of_mem h1
  rw [List.length_drop] at hi
  rw [← e, List.getElem_drop]
  exact h.2.2.2 _ (by lia) (by have := h.1; lia)
theorem place_pos' {ns : List Int} {n r : Int} (h : PlaceAt ns n r) (h0 : ns.head? = some 0) (hn : 0 ≤ n) : 0 < r := by
  cases ns with
  | nil => simp at h0
  | cons a t =>
    obtain rfl : a = 0 := by simpa using h0
    by_cases e : 0 < r
    · exact e
    · have := h.2.2.2 0 (by simp) (by lia)
      simp at this
      lia
theorem look_take {ns vals : List Int} {n m r d : Int} (h : PlaceAt ns n r) (hr : 0 < r) (hvl : vals.length = ns.length) (hm : n ≤ m) : look ((ns.zip vals).take r.toNat) m d = vals.getD (r - 1).toNat 0 := by
  have hr2 := h.2.1
  have hlen : (r - 1).toNat < vals.length := by lia
  have hns : (r - 1).toNat < ns.length := by lia
  have e : r.toNat = (r - 1).toNat + 1 := by lia
  refine (look_below (q := (ns[(r - 1).toNat], vals[(r - 1).toNat])) (fun p hp => Int.le_trans (place_take h p hp) hm) ?_).trans ?_
  · rw [List.getLast?_eq_getElem?, List.length_take, List.length_zip, hvl, Nat.min_self, Nat.min_eq_left (by lia)]
    rw [List.getElem?_take, if_pos (by lia)]
    rw [show r.toNat - 1 = (r - 1).toNat by lia]
    simp [List.getElem?_zip_eq_some, hns, hlen]
  · rw [List.getD_eq_getElem?_getD, List.getElem?_eq_getElem hlen]
    rfl
theorem look_at {ns vals : List Int} {n r d : Int} (h : PlaceAt ns n r) (hr : 0 < r) (hvl : vals.length = ns.length) : vals.getD (r - 1).toNat 0 = look (ns.zip vals) n d := by
  rw [← List.take_append_drop r.toNat (ns.zip vals), look_app, look_above (place_drop h), look_take h hr hvl (Int.le_refl _)]
/-- the shape of a map -/
structure Shape (ns vals : List Int) : Prop where
  sorted : ns.Pairwise (· < ·)
  len : vals.length = ns.length
  zero : ns.head? = some 0
theorem put_zip {ns vals ns' vals' : List Int} {c v : Int} (h : PutRel ns vals c v ns' vals') (hs : Shape ns vals) (hc : 0 < c) : Shape ns' vals' ∧ ns'.length ≤ ns.length + 2 ∧ ∀ n d, 0 ≤ n → look (ns'.zip vals') n d = if n = c then v else look (ns.zip vals) n d := by
  obtain ⟨r, r', p1, p2, rfl, rfl⟩ := h
  have hr := place_pos' p1 hs.zero (by lia)
  have hr' := place_pos' p2 hs.zero (by lia)
  have hrl := p1.2.1
  have hrl' := p2.2.1
  have hl := hs.len
  have hlow := look_take (d := 0) p1 hr hl (Int.le_refl _)
  generalize hL : vals.getD (r - 1).toNat 0 = lowv at *
  generalize hB : vals.getD (r' - 1).toNat 0 = behind at *
  have ml : (putMid behind lowv c v).1.length = (putMid behind lowv c v).2.length ∧ (putMid behind lowv c v).1.length ≤ 2 := by
    unfold putMid
    split <;> split <;> simp
  have ms : (putMid behind lowv c v).1.Pairwise (· < ·) ∧ ∀ x ∈ (putMid behind lowv c v).1, c ≤ x ∧ x ≤ c + 1 := by
    unfold putMid
    split <;> split <;> simp <;> lia
  have tk : ∀ x ∈ ns.take r.toNat, x ≤ c - 1 := fun x hx => by
    obtain ⟨i, hi, e⟩ := List.getElem_of_mem hx
    rw [List.length_take] at hi
    rw [← e, List.getElem_take]
    exact p1.2.2.1 i (by lia) (by lia)
  have dk : ∀ x ∈ ns.drop r'.toNat, c + 1 < x := fun x hx => by
    obtain ⟨i, hi, e⟩ := List.getElem_of_mem hx
    rw [List.length_drop] at hi
    rw [← e, List.getElem_drop]
    exact p2.2.2.2 _ (by lia) (by lia)
  have lt1 : (ns.take r.toNat).length = (vals.take r.toNat).length := by simp [hl]
  have zp : (ns.take r.toNat ++ (putMid behind lowv c v).1 ++ ns.drop r'.toNat).zip (vals.take r.toNat ++ (putMid behind lowv c v).2 ++ vals.drop r'.toNat) = (ns.zip vals).take r.toNat ++ (putMid behind lowv c v).1.zip (putMid behind lowv c v).2 ++ (ns.zip vals).drop r'.toNat := by
    rw [List.zip_append (by simp [ml.1, hl]), List.zip_append lt1, zip_take, zip_drop]
  refine ⟨⟨?_, ?_, ?_⟩, ?_, ?_⟩
  · rw [List.pairwise_append, List.pairwise_append]
    refine ⟨⟨hs.sorted.take, ms.1, ?_⟩, hs.sorted.drop, ?_⟩
    · intro x hx y hy
      have := tk x hx
      have := ms.2 y hy
      lia
    · intro x hx y hy
      have h2 := dk y hy
      rcases List.mem_append.mp hx with hx | hx
      · have := tk x hx
        lia
      · have := ms.2 x hx
        lia
  · simp only [List.length_append, List.length_take, List.length_drop, ml.1, hl]
  · rw [List.append_assoc, List.head?_append, List.head?_take, if_neg (by lia), hs.zero]
    rfl
  · simp only [List.length_append, List.length_take, List.length_drop]
    have := ml.2
    have h9 : PlaceAt ns (c - 1) r := p1
    have h8 : r.toNat ≤ r'.toNat := by
      by_cases e : r ≤ r'
      · lia
      · have a1 := p2.2.2.2 r'.toNat (by lia) (by lia)
        have a2 := p1.2.2.1 r'.toNat (by lia) (by lia)
        lia
    lia
  · intro n d hn
    rw [zp, look_app, look_app]
    have old : look (ns.zip vals) n d = look ((ns.zip vals).drop r'.toNat) n (look ((ns.zip vals).take r'.toNat) n d) := by
      rw [← look_app, List.take_append_drop]
    have oldr : look (ns.zip vals) n d = look ((ns.zip vals).drop r.toNat) n (look ((ns.zip vals).take r.toNat) n d) := by
      rw [← look_app, List.take_append_drop]
    have dz : ∀ p ∈ (ns.zip vals).drop r'.toNat, c + 1 < p.1 := place_drop p2
    have dz1 : ∀ p ∈ (ns.zip vals).drop r.toNat, c - 1 < p.1 := place_drop p1
    by_cases h1 : n < c
    · rw [if_neg (by lia), oldr, look_above (l := (ns.zip vals).drop r.toNat) (fun p hp => by have := dz1 p hp; lia), look_above (l := (ns.zip vals).drop r'.toNat) (fun p hp => by have := dz p hp; lia)]
      refine look_above fun p hp => ?_
      have := (ms.2 p.1 (List.of_mem_zip hp).1).1
      lia
    · have hP : look ((ns.zip vals).take r.toNat) n d = lowv := by
        rw [look_take p1 hr hl (by lia), hL]
      rw [hP]
      by_cases h2 : n = c
      · rw [if_pos h2, look_above (l := (ns.zip vals).drop r'.toNat) (fun p hp => by have := dz p hp; lia)]
        subst h2
        unfold putMid
        split <;> split <;> simp_all [look] <;> lia
      · rw [if_neg h2, old, look_take p2 hr' hl (by lia), hB]
        congr 1
        have h3 : c ≤ n := by lia
        have h4 : c + 1 ≤ n := by lia
        unfold putMid
        split <;> split <;> simp_all [look]
end
section
/-- the pairs that stand the wrong way round -/
def inv (f : Int → Int) : List Int → Nat
  | [] => 0
  | a :: t => t.countP (fun b => decide (f b < f a)) + inv f t
theorem inv_swap {f : Int → Int} {a b : Int} (h : f b < f a) (v : List Int) : ∀ u : List Int, inv f (u ++ b :: a :: v) + 1 = inv f (u ++ a :: b :: v)
  | [] => by
    have h2 : ¬ f a < f b := by lia
    simp only [List.nil_append, inv, List.countP_cons, h, h2, decide_true, decide_false, if_true, if_false]
    simp
    lia
  | x :: u => by
    have := inv_swap h v u
    simp only [List.cons_append, inv, List.countP_append, List.countP_cons]
    lia
theorem NoDesc.ofAt {f : Int → Int} : ∀ {l : List Int}, (∀ j a b, l[j]? = some a → l[j + 1]? = some b → ¬ (0 < f b ∧ f b < f a)) → NoDesc f l
  | [], _ => trivial
  | [_], _ => trivial
  | a :: b :: t, h => ⟨h 0 a b rfl rfl, NoDesc.ofAt (l := b :: t) fun j x y h1 h2 => h (j + 1) x y h1 h2⟩
theorem cut2 {l : List α} {i : Nat} {a b : α} (h1 : l[i]? = some a) (h2 : l[i + 1]? = some b) : ∃ u v, l = u ++ a :: b :: v ∧ u.length = i := by
  obtain ⟨hi, e1⟩ := List.getElem?_eq_some_iff.mp h1
  obtain ⟨hj, e2⟩ := List.getElem?_eq_some_iff.mp h2
  refine ⟨l.take i, l.drop (i + 2), ?_, by rw [List.length_take]; lia⟩
  have e3 : l.drop i = a :: b :: l.drop (i + 2) := by
    rw [List.drop_eq_getElem_cons hi, List.drop_eq_getElem_cons hj, e1, e2]
  rw [← e3, List.take_append_drop]
theorem set2 {u v : List α} {a b x y : α} {i : Nat} (h : u.length = i) : ((u ++ a :: b :: v).set i x).set (i + 1) y = u ++ x :: y :: v := by
  subst h
  simp [List.set_append]
end
section
local macro_rules | `(tactic| walk_at "call builtin:list.append") => `(tactic| (refine app_any (by k_asm) (by k_asm) (by k_updF) (by walk_at "len") ?_; intro h' n' F' N'; (try dsimp only at N')))
local macro_rules | `(tactic| walk_at "call builtin:list.extend") => `(tactic| (refine ext_any (by k_asm) (by k_asm) (by k_updF) (by k_mem) (by walk_at "len") ?_; intro h' n' F' N'; (try dsimp only at N')))
section
section
set_option maxHeartbeats 1000000
theorem reg13 (w : World) : (model PySem.Challenge.rw_nt0032_01.row.prog w = model PySem.Challenge.rw_nt0032_01.row.prog w) ∧ K w.params = K w.params := by
  k_fill
  exact ⟨rfl, rfl⟩
section
variable {w : World} {p : Program} {loose : List Str} {mean : ExcName → Option Value} {mg mb : Mp} {dp un : Nat} {gd : Option (List Code)} {cn : Str} {cs : Scope} {a : Addr} {ccd : Value} {cl : List (Str × Addr)} {outer : List Env} {A₀ : Around} {base h₀ : Heap} {L : Addr} {m : Mp} {news : Led} {s : Shared} {Q : Value → Shared → Prop}
theorem ordered_spec {xd mp tx : Addr} {f : Int → Int} {b : Bool} {ts : List Value} {k : Nat} {cs₁ : List Int} {lam rest : Led} (hlam : LamL lam) (c : Cx w p loose mean mg mb outer A₀ base h₀ L m (lam ++ rest) s cs dp un 10 120) (h112 : ∀ q ∈ rest, q.1 ≠ 112)
    (hD : DC w xd mp f b rest) (ht : (tx, listObj ts k) ∈ rest) (hi : IntsAre ts cs₁) (hcs : ∀ c ∈ cs₁, 97 ≤ c ∧ c < 105) (hlen : cs₁.length < 60)
    (ret : ∀ D out k lam' fnd ps qs h' tk', LamL lam' → IntsAre out (fnd ++ qs.map Prod.snd) → Ord f cs₁ fnd ps → SortedRun ps qs → (∀ q ∈ rest, q.1 < D) → Fr h₀ L h' m → News h₀ L h' ((D, listObj out k) :: (lam' ++ rest)) → Q (.ref D) { s with heap := h', toks := tk' }) :
    wpAny (md w) (ktrTop dp un gd cn cs L a ccd cl outer) (call (.ref 110) [.ref tx, .ref xd]) Q (fun _ _ => False) s := by
  have hd := c.hd
  have hu := c.hu
  refine wpAny_call (enter (qual := Str.ofString "ordered") [(Str.ofString "text", .ref tx), (Str.ofString "data", .ref xd)] (fun v news' => ∃ D out k lam' fnd ps qs, v = .ref D ∧ news' = (D, listObj out k) :: (lam' ++ rest) ∧ LamL lam' ∧ IntsAre out (fnd ++ qs.map Prod.snd) ∧ Ord f cs₁ fnd ps ∧ SortedRun ps qs ∧ (∀ q ∈ rest, q.1 < D)) c
    (by k_is) (by k_is) (BindsTo.of_eq rfl) rfl rfl rfl rfl (by decide) ?_ (by rintro v news' h' tk' ⟨D, out, k, lam', fnd, ps, qs, rfl, rfl, e1, e2, e3, e4, e5⟩ F' N'; exact ret D out k lam' fnd ps qs h' tk' e1 e2 e3 e4 e5 F' N'))
  clear c ret
  obtain ⟨xdx, xdm1, gx1, gx2, gx3, gx4, gt1, gt2, gt3, gt4, df, pr, wd, gj, xdm2⟩ : ∃ ddx, (xd, instObj 317 ddx) ∈ rest ∧ ∃ g1 g2 g3 g4 t1 t2 t3 t4 df pr wd j, (ddx, dictOf [⟨g1, .str (Str.ofString "defaults") t1, .ref df⟩, ⟨g2, .str (Str.ofString "maps") t2, .ref mp⟩, ⟨g3, .str (Str.ofString "properties") t3, .ref pr⟩, ⟨g4, .str (Str.ofString "words") t4, .ref wd⟩] j) ∈ rest := by
    obtain ⟨kvs, x, dv, ns, vals, vv, ⟨ddx, df, pr, wd, om, od, t1, t2, t3, t4, g1, g2, g3, g4, j, m1, m2, _⟩, _⟩ := hD
    exact ⟨ddx, m1, g1, g2, g3, g4, t1, t2, t3, t4, df, pr, wd, j, m2⟩
  intro g L' h' tk' F' N' B' X' T' _
  refine wp_gen fun Q₀ hQ₀ => ?_
  refine @execs_cut _ _ _ _ _ _ 1 _ (fun s' => ∃ F R h tk m', s' = { s with heap := h, toks := tk } ∧ (∀ q ∈ lam ++ rest, q.1 < F) ∧ F < R ∧ Fr g L' h m' ∧ Knows [(Str.ofString "found", .ref F), (Str.ofString "run", .ref R), (Str.ofString "data", .ref xd), (Str.ofString "text", .ref tx)] m' ∧ News g L' h ((R, listObj [] 0) :: (F, listObj [] 0) :: (lam ++ rest))) ?_ ?_
  · refine wp_gen fun Q₁ hQ₁ => ?_
    repeat' (first | ((with_reducible show wpAny _ _ (execs (_ :: _) _) _ _ _); walk1; (try dsimp only)) | ((fail_if_success (with_reducible show wpAny _ _ (eval (Expr.ListComp _ _ _ _) _) _ _ _); fail_if_success (with_reducible show wpAny _ _ (exec (Stmt.While _ _ _ _) _) _ _ _); fail_if_success ((with_reducible show wpAny _ _ (exec _ _) _ _ _); show wpAny _ _ (exec (Stmt.For _ _ _ _ _) _) _ _ _); fail_if_success (with_reducible show wpAny _ _ (call (Value.ref _) _) _ _ _)); walk1) | (dsimp only; (fail_if_success (with_reducible show wpAny _ _ (eval (Expr.ListComp _ _ _ _) _) _ _ _); fail_if_success (with_reducible show wpAny _ _ (exec (Stmt.While _ _ _ _) _) _ _ _); fail_if_success ((with_reducible show wpAny _ _ (exec _ _) _ _ _); show wpAny _ _ (exec (Stmt.For _ _ _ _ _) _) _ _ _); fail_if_success (with_reducible show wpAny _ _ (call (Value.ref _) _) _ _ _)); walk1))
    (try dsimp only)
    refine wpAny_execs_nil ?_
    refine hQ₁ _ _ ?_
    (try dsimp only)
    rename Fr _ _ _ _ => F6
    rename News _ _ _ _ => N6
    exact ⟨_, _, _, _, _, rfl, by assumption, by first | assumption | (simp_all), F6, ⟨rfl, rfl, rfl, rfl, trivial⟩, fun q hq => N6 q (.tail _ hq)⟩
  · rintro s' ⟨F, R, h, tk, m', rfl, o1, o2, F2, hm, N2⟩
    rw [hm.ov] at F2
    clear hm F' N'
    show wpAny _ _ (execs (_ :: _) _) _ _ _
    walk1
    refine for_at ?_
    repeat' (first | ((with_reducible show wpAny _ _ (execs (_ :: _) _) _ _ _); walk1; (try dsimp only)) | ((fail_if_success (with_reducible show wpAny _ _ (eval (Expr.ListComp _ _ _ _) _) _ _ _); fail_if_success (with_reducible show wpAny _ _ (exec (Stmt.While _ _ _ _) _) _ _ _); fail_if_success ((with_reducible show wpAny _ _ (exec _ _) _ _ _); show wpAny _ _ (exec (Stmt.For _ _ _ _ _) _) _ _ _); fail_if_success (with_reducible show wpAny _ _ (call (Value.ref _) _) _ _ _)); walk1) | (dsimp only; (fail_if_success (with_reducible show wpAny _ _ (eval (Expr.ListComp _ _ _ _) _) _ _ _); fail_if_success (with_reducible show wpAny _ _ (exec (Stmt.While _ _ _ _) _) _ _ _); fail_if_success ((with_reducible show wpAny _ _ (exec _ _) _ _ _); show wpAny _ _ (exec (Stmt.For _ _ _ _ _) _) _ _ _); fail_if_success (with_reducible show wpAny _ _ (call (Value.ref _) _) _ _ _)); walk1))
    refine ForAt.listS (vs := ts) (k := k) (OrdJ f xd tx cs₁ rest) rfl (by k_asm) (by k_asm) ?_ ?_ ?_ ?_
    · obtain ⟨o9, h9⟩ := hlam.at112
      have h10 := ltN (o1 _ (List.mem_append_left _ h9))
      have o3 := ltN o2
      exact ⟨lam, F, R, [], 0, [], 0, [], [], [], hlam, ⟨rfl, rfl, rfl, rfl, trivial⟩, rfl, .nil, .nil, by rw [List.take_zero]; exact .nil, (fun q hq => by cases hq), (fun q hq => by
        have h11 := ltN (o1 q hq)
        exact ⟨Nat.ne_of_lt h11, by refine neN ?_; omega⟩), (fun q hq => o1 q (List.mem_append_right _ hq)), (by refine neN ?_; omega), (by refine neN ?_; dsimp only at h10; omega), (by refine neN ?_; dsimp only at h10; omega), Nat.le_refl _⟩
    · rintro i m₁ news₁ ⟨lam, F, R, fs, kf, rs, kr, tup, fnd, ps, e1, e2, rfl, _⟩
      exact .tail _ (.tail _ (List.mem_append_right _ (List.mem_append_right _ ht)))
    · rintro i v m₁ news₁ h₁ tk₁ I oi hoi hv ⟨lam, F, R, fs, kf, rs, kr, tup, fnd, ps, hlam, hm, rfl, hfs, hrs, hO, h1, h2, h2', h3, h4, h5, h6⟩ hI F₁ N₁
      rw [hm.ov] at F₁
      clear hm
      rw [List.cons_append, List.cons_append] at N₁
      have iR : I ≠ R := fun e => hI _ (.head _) e.symm
      have iF : I ≠ F := fun e => hI _ (.tail _ (.head _)) e.symm
      have sF : ∀ q ∈ lam ++ (tup ++ rest) ++ [(I, oi)], q.1 ≠ F := fun q hq => by
        rcases List.mem_append.mp hq with hq | hq
        · exact (h2 q hq).1
        · obtain rfl := List.mem_singleton.mp hq
          exact iF
      have sR : ∀ fs' kf', ∀ q ∈ (F, listObj fs' kf') :: (lam ++ (tup ++ rest) ++ [(I, oi)]), q.1 ≠ R := fun fs' kf' q hq => by
        rcases List.mem_cons.mp hq with rfl | hq
        · exact h3.symm
        · rcases List.mem_append.mp hq with hq | hq
          · exact (h2 q hq).2
          · obtain rfl := List.mem_singleton.mp hq
            exact iR
      have sR' := sR fs kf
      have hrl := hrs.length
      have h3' := neN h3
      obtain ⟨c₀, t₀, rfl, hc₀⟩ := hi.at i v hv
      obtain ⟨hc1, hc2⟩ := hcs c₀ (List.mem_of_getElem? hc₀)
      have hil : i < 60 := by
        have := (List.getElem?_eq_some_iff.mp hc₀).1
        omega
      try clear F2 N2
      refine wp_gen2 fun E₁ hE₁ => ?_
      repeat' (first | ((with_reducible show wpAny _ _ (execs (_ :: _) _) _ _ _); walk1; (try dsimp only)) | ((fail_if_success (with_reducible show wpAny _ _ (eval (Expr.ListComp _ _ _ _) _) _ _ _); fail_if_success (with_reducible show wpAny _ _ (exec (Stmt.While _ _ _ _) _) _ _ _); fail_if_success ((with_reducible show wpAny _ _ (exec _ _) _ _ _); show wpAny _ _ (exec (Stmt.For _ _ _ _ _) _) _ _ _); fail_if_success (with_reducible show wpAny _ _ (call (Value.ref _) _) _ _ _)); walk1) | (dsimp only; (fail_if_success (with_reducible show wpAny _ _ (eval (Expr.ListComp _ _ _ _) _) _ _ _); fail_if_success (with_reducible show wpAny _ _ (exec (Stmt.While _ _ _ _) _) _ _ _); fail_if_success ((with_reducible show wpAny _ _ (exec _ _) _ _ _); show wpAny _ _ (exec (Stmt.For _ _ _ _ _) _) _ _ _); fail_if_success (with_reducible show wpAny _ _ (call (Value.ref _) _) _ _ _)); walk1))
      refine getccc_spec ⟨by k_asm, by k_asm, by k_asm, by k_asm, by k_asm, rfl, by show dp + 1 + 6 < _; omega, by show un + 3 + 80 < _; omega⟩ (hD.mono fun q hq => by k_mem) hc1 hc2 ?_
      intro t₃ h₃ tk₃ F₃ N₃
      try clear F₁ N₁
      repeat' (first | ((with_reducible show wpAny _ _ (execs (_ :: _) _) _ _ _); walk1; (try dsimp only)) | ((fail_if_success (with_reducible show wpAny _ _ (eval (Expr.ListComp _ _ _ _) _) _ _ _); fail_if_success (with_reducible show wpAny _ _ (exec (Stmt.While _ _ _ _) _) _ _ _); fail_if_success ((with_reducible show wpAny _ _ (exec _ _) _ _ _); show wpAny _ _ (exec (Stmt.For _ _ _ _ _) _) _ _ _); fail_if_success (with_reducible show wpAny _ _ (call (Value.ref _) _) _ _ _)); walk1) | (dsimp only; (fail_if_success (with_reducible show wpAny _ _ (eval (Expr.ListComp _ _ _ _) _) _ _ _); fail_if_success (with_reducible show wpAny _ _ (exec (Stmt.While _ _ _ _) _) _ _ _); fail_if_success ((with_reducible show wpAny _ _ (exec _ _) _ _ _); show wpAny _ _ (exec (Stmt.For _ _ _ _ _) _) _ _ _); fail_if_success (with_reducible show wpAny _ _ (call (Value.ref _) _) _ _ _)); walk1))
      · rename Fr _ _ _ _ => F6
        rename News _ _ _ _ => N6
        rename _ ∧ _ => l6
        obtain ⟨l7, l8, l9⟩ := l6
        have key := fun (m₂ : Mp) hk => ord_move (m₁ := m₂) (xd := xd) (tx := tx) (cs₁ := cs₁) hlam hk N6 hI l7 l8 (allLt_mem l9) hfs hrs hO hc₀ (by assumption) h1 h2 h2' h3 h4 h5 h6
        refine (fun (m₂ : Mp) (F7 : Fr g L' _ m₂) (hk : Knows [(Str.ofString "found", .ref F), (Str.ofString "run", .ref R), (Str.ofString "data", .ref xd), (Str.ofString "text", .ref tx)] m₂) => ?_) _ F6 ⟨rfl, rfl, rfl, rfl, trivial⟩
        obtain ⟨news', x1, x2, x3⟩ := key m₂ hk
        exact hE₁ _ _ ⟨_, _, m₂, news', rfl, F7, x1, x2, x3⟩
      · rename News _ _ _ _ => N6
        rename Fr _ _ _ _ => F6
        have i112 : I ≠ 112 := fun e => by
          obtain ⟨o9, h9⟩ := hlam.at112
          exact hI _ (.tail _ (.tail _ (List.mem_append_left _ h9))) e.symm
        refine fsorted_spec (lam := lam) (rest := (R, listObj rs kr) :: (F, listObj fs kf) :: (tup ++ (rest ++ [(I, oi)]))) hlam ⟨by k_asm, F6, by k_asm, ?n1, by k_asm, rfl, by show dp + 1 + 6 < _; omega, by show un + 3 + 60 < _; omega⟩ ?n2 (.head _) (hrs.mono fun q hq => by k_mem) (by omega) ?_
        case n1 =>
          intro q hq
          refine N6 q ?_
          simp only [List.mem_cons, List.mem_append] at hq ⊢
          rcases hq with hq | hq | hq | hq | hq | (hq | hq) <;> first | (simp [hq]; done) | cases hq
        case n2 =>
          intro q hq
          simp only [List.mem_cons, List.mem_append] at hq
          rcases hq with rfl | rfl | hq | hq | (rfl | hq)
          · exact h4
          · exact h5
          · exact h1 q hq
          · exact h112 q hq
          · exact i112
          · cases hq
        intro D out k2 lam' qs h₇ tk₇ hDn hlam' hout hsr F₇ N₇
        clear N6 F6
        replace N₇ : News g L' h₇ ((D, listObj out k2) :: (R, listObj rs kr) :: (F, listObj fs kf) :: (lam' ++ (tup ++ rest) ++ [(I, oi)])) := fun q hq => N₇ q (by
          simp only [List.mem_cons, List.mem_append] at hq ⊢
          rcases hq with hq | hq | hq | (hq | hq | hq) | (hq | hq) <;> first | (simp [hq]; done) | cases hq)
        have hD2 : D ≠ 112 := fun e => by
          subst e
          obtain ⟨o9, h9⟩ := hlam'.at112
          obtain ⟨v9, h9'⟩ := hlam'.flds _ h9
          have a1 := (N₇ _ (.head _)).1
          have a2 := (N₇ _ (.tail _ (.tail _ (.tail _ (List.mem_append_left _ (List.mem_append_left _ h9)))))).1
          dsimp only at a1 a2 h9'
          rw [a1] at a2
          obtain rfl := Option.some.inj a2
          cases h9'
        have sub7 : ∀ q ∈ lam', q ∈ ((D, listObj out k2) :: (R, listObj rs kr) :: (F, listObj fs kf) :: (lam' ++ (tup ++ rest) ++ [(I, oi)])) := fun q hq => .tail _ (.tail _ (.tail _ (List.mem_append_left _ (List.mem_append_left _ hq))))
        have sF7 := hlam'.sepS N₇ sub7 (.tail _ (.tail _ (.head _))) rfl
        have aF : ∀ q ∈ lam' ++ (tup ++ rest) ++ [(I, oi)], q.1 ≠ F := fun q hq => by
          rcases List.mem_append.mp hq with hq | hq
          · rcases List.mem_append.mp hq with hq | hq
            · exact sF7 q hq
            · exact (h2 q (List.mem_append_right _ hq)).1
          · obtain rfl := List.mem_singleton.mp hq
            exact iF
        have dR : D ≠ R := Nat.ne_of_gt (hDn _ (.head _))
        have dF : D ≠ F := Nat.ne_of_gt (hDn _ (.tail _ (.head _)))
        have dF' := neN dF
        have hql := hsr.length
        have hol := hout.length
        rw [List.length_map] at hol
        have hfl := hfs.length
        repeat' (first | ((with_reducible show wpAny _ _ (execs (_ :: _) _) _ _ _); walk1; (try dsimp only)) | ((fail_if_success (with_reducible show wpAny _ _ (eval (Expr.ListComp _ _ _ _) _) _ _ _); fail_if_success (with_reducible show wpAny _ _ (exec (Stmt.While _ _ _ _) _) _ _ _); fail_if_success ((with_reducible show wpAny _ _ (exec _ _) _ _ _); show wpAny _ _ (exec (Stmt.For _ _ _ _ _) _) _ _ _); fail_if_success (with_reducible show wpAny _ _ (call (Value.ref _) _) _ _ _)); walk1) | (dsimp only; (fail_if_success (with_reducible show wpAny _ _ (eval (Expr.ListComp _ _ _ _) _) _ _ _); fail_if_success (with_reducible show wpAny _ _ (exec (Stmt.While _ _ _ _) _) _ _ _); fail_if_success ((with_reducible show wpAny _ _ (exec _ _) _ _ _); show wpAny _ _ (exec (Stmt.For _ _ _ _ _) _) _ _ _); fail_if_success (with_reducible show wpAny _ _ (call (Value.ref _) _) _ _ _)); walk1))
        rename Fr _ _ _ _ => F6
        rename News _ _ _ _ => N6
        rename _ ∧ _ => l6
        have i112 : I ≠ 112 := fun e => by
          obtain ⟨o9, h9⟩ := hlam.at112
          exact hI _ (.tail _ (.tail _ (List.mem_append_left _ h9))) e.symm
        have key := fun (m₂ : Mp) hk => ord_stop (m₁ := m₂) (xd := xd) (tx := tx) (cs₁ := cs₁) hlam' hk N6 hoi (allLt_mem l6) hDn hD2 i112 (by
          intro q hq
          rcases List.mem_cons.mp hq with rfl | hq
          · exact iR.symm
          · rcases List.mem_cons.mp hq with rfl | hq
            · exact iF.symm
            · exact hI q (.tail _ (.tail _ (List.mem_append_right _ hq)))) hfs hout hO hsr hc₀ (by assumption) hql h1 (fun q hq => h2 q (List.mem_append_right _ hq)) h2' h3 h4 h5 h6
        refine (fun (m₂ : Mp) (F7 : Fr g L' _ m₂) (hk : Knows [(Str.ofString "found", .ref F), (Str.ofString "run", .ref _), (Str.ofString "data", .ref xd), (Str.ofString "text", .ref tx)] m₂) => ?_) _ F6 ⟨rfl, rfl, rfl, rfl, trivial⟩
        obtain ⟨news', x1, x2, x3⟩ := key m₂ hk
        exact hE₁ _ _ ⟨_, _, m₂, news', rfl, F7, x1, x2, x3⟩
    · rintro m₁ news₁ h₁ tk₁ ⟨lam, F, R, fs, kf, rs, kr, tup, fnd, ps, hlam, hm, rfl, hfs, hrs, hO, h1, h2, h2', h3, h4, h5, h6⟩ F₁ N₁
      rw [hm.ov] at F₁
      clear hm
      try clear F2 N2
      have hrl := hrs.length
      have hi' := hi.length
      repeat' (first | ((with_reducible show wpAny _ _ (execs (_ :: _) _) _ _ _); walk1; (try dsimp only)) | ((fail_if_success (with_reducible show wpAny _ _ (eval (Expr.ListComp _ _ _ _) _) _ _ _); fail_if_success (with_reducible show wpAny _ _ (exec (Stmt.While _ _ _ _) _) _ _ _); fail_if_success ((with_reducible show wpAny _ _ (exec _ _) _ _ _); show wpAny _ _ (exec (Stmt.For _ _ _ _ _) _) _ _ _); fail_if_success (with_reducible show wpAny _ _ (call (Value.ref _) _) _ _ _)); walk1) | (dsimp only; (fail_if_success (with_reducible show wpAny _ _ (eval (Expr.ListComp _ _ _ _) _) _ _ _); fail_if_success (with_reducible show wpAny _ _ (exec (Stmt.While _ _ _ _) _) _ _ _); fail_if_success ((with_reducible show wpAny _ _ (exec _ _) _ _ _); show wpAny _ _ (exec (Stmt.For _ _ _ _ _) _) _ _ _); fail_if_success (with_reducible show wpAny _ _ (call (Value.ref _) _) _ _ _)); walk1))
      rename News _ _ _ _ => N6
      rename Fr _ _ _ _ => F6
      refine fsorted_spec (lam := lam) (rest := (R, listObj rs kr) :: (F, listObj fs kf) :: (tup ++ rest)) hlam ⟨by k_asm, F6, by k_asm, ?n1, by k_asm, rfl, by show dp + 1 + 6 < _; omega, by show un + 3 + 60 < _; omega⟩ ?n2 (.head _) (hrs.mono fun q hq => by k_mem) (by omega) ?_
      case n1 =>
        intro q hq
        refine N6 q ?_
        simp only [List.mem_cons, List.mem_append] at hq ⊢
        rcases hq with hq | hq | hq | hq | hq <;> first | (simp [hq]; done) | cases hq
      case n2 =>
        intro q hq
        simp only [List.mem_cons, List.mem_append] at hq
        rcases hq with rfl | rfl | hq | hq
        · exact h4
        · exact h5
        · exact h1 q hq
        · exact h112 q hq
      intro D out k2 lam' qs h₇ tk₇ hDn hlam' hout hsr F₇ N₇
      clear N6 F6
      replace N₇ : News g L' h₇ ((D, listObj out k2) :: (R, listObj rs kr) :: (F, listObj fs kf) :: (lam' ++ (tup ++ rest))) := fun q hq => N₇ q (by
        simp only [List.mem_cons, List.mem_append] at hq ⊢
        rcases hq with hq | hq | hq | hq | hq | hq <;> first | (simp [hq]; done) | cases hq)
      have sub7 : ∀ q ∈ lam', q ∈ ((D, listObj out k2) :: (R, listObj rs kr) :: (F, listObj fs kf) :: (lam' ++ (tup ++ rest))) := fun q hq => .tail _ (.tail _ (.tail _ (List.mem_append_left _ hq)))
      have sF7 := hlam'.sepS N₇ sub7 (.tail _ (.tail _ (.head _))) rfl
      have aF : ∀ q ∈ lam' ++ (tup ++ rest), q.1 ≠ F := fun q hq => by
        rcases List.mem_append.mp hq with hq | hq
        · exact sF7 q hq
        · exact (h2 q (List.mem_append_right _ hq)).1
      have dR : D ≠ R := Nat.ne_of_gt (hDn _ (.head _))
      have dF : D ≠ F := Nat.ne_of_gt (hDn _ (.tail _ (.head _)))
      have dF' := neN dF
      have hql := hsr.length
      have hol := hout.length
      rw [List.length_map] at hol
      have hfl := hfs.length
      repeat' (first | ((with_reducible show wpAny _ _ (execs (_ :: _) _) _ _ _); walk1; (try dsimp only)) | ((fail_if_success (with_reducible show wpAny _ _ (eval (Expr.ListComp _ _ _ _) _) _ _ _); fail_if_success (with_reducible show wpAny _ _ (exec (Stmt.While _ _ _ _) _) _ _ _); fail_if_success ((with_reducible show wpAny _ _ (exec _ _) _ _ _); show wpAny _ _ (exec (Stmt.For _ _ _ _ _) _) _ _ _); fail_if_success (with_reducible show wpAny _ _ (call (Value.ref _) _) _ _ _)); walk1) | (dsimp only; (fail_if_success (with_reducible show wpAny _ _ (eval (Expr.ListComp _ _ _ _) _) _ _ _); fail_if_success (with_reducible show wpAny _ _ (exec (Stmt.While _ _ _ _) _) _ _ _); fail_if_success ((with_reducible show wpAny _ _ (exec _ _) _ _ _); show wpAny _ _ (exec (Stmt.For _ _ _ _ _) _) _ _ _); fail_if_success (with_reducible show wpAny _ _ (call (Value.ref _) _) _ _ _)); walk1))
      clear N₇ F₇
      rename Fr _ _ _ _ => F6
      rename News _ _ _ _ => N6
      have lF : ∀ q ∈ rest, q.1 < F := h2'
      rw [hi', List.take_length] at hO
      refine (fun (n9 : Nat) (N9 : News g L' _ ((D, listObj out k2) :: (R, listObj rs kr) :: (F, listObj (fs ++ out) n9) :: (lam' ++ (tup ++ rest)))) => hQ₀ _ _ <| RetAt.ret F6 (news' := (F, listObj (fs ++ out) n9) :: (lam' ++ rest)) (fun q hq => N9 q ?_) ⟨F, fs ++ out, n9, lam', fnd, ps, qs, rfl, rfl, hlam', IntsAre.append hfs hout, hO, hsr, lF⟩) _ N6
      simp only [List.mem_cons, List.mem_append] at hq ⊢
      rcases hq with hq | hq | hq <;> first | (simp [hq]; done) | cases hq
end
end
section
set_option maxHeartbeats 1000000
theorem reg14 (w : World) : (model PySem.Challenge.rw_nt0032_01.row.prog w = model PySem.Challenge.rw_nt0032_01.row.prog w) ∧ K w.params = K w.params := by
  k_fill
  exact ⟨rfl, rfl⟩
section
variable {w : World} {p : Program} {loose : List Str} {mean : ExcName → Option Value} {mg mb : Mp} {dp un : Nat} {gd : Option (List Code)} {cn : Str} {cs : Scope} {a : Addr} {ccd : Value} {cl : List (Str × Addr)} {outer : List Env} {A₀ : Around} {base h₀ : Heap} {L : Addr} {m : Mp} {news : Led} {s : Shared} {Q : Value → Shared → Prop}
theorem decomposed_spec {xd mp tx : Addr} {f : Int → Int} {b ic : Bool} {ts : List Value} {k : Nat} {cs₁ : List Int} {lam rest : Led} (hlam : LamL lam) (c : Cx w p loose mean mg mb outer A₀ base h₀ L m (lam ++ rest) s cs dp un 14 160) (h112 : ∀ q ∈ rest, q.1 ≠ 112)
    (hD : DC w xd mp f b rest) (ht : (tx, listObj ts k) ∈ rest) (hi : IntsAre ts cs₁) (hcs : ∀ c ∈ cs₁, 97 ≤ c ∧ c < 105) (hlen : cs₁.length < 60)
    (ret : ∀ D out k lam' fnd ps qs h' tk', LamL lam' → IntsAre out (fnd ++ qs.map Prod.snd) → Ord f cs₁ fnd ps → SortedRun ps qs → (∀ q ∈ rest, q.1 < D) → Fr h₀ L h' m → News h₀ L h' ((D, listObj out k) :: (lam' ++ rest)) → Q (.ref D) { s with heap := h', toks := tk' }) :
    wpAny (md w) (ktrTop dp un gd cn cs L a ccd cl outer) (call (.ref 123) [.ref tx, .ref xd, .bool ic]) Q (fun _ _ => False) s := by
  have hd := c.hd
  have hu := c.hu
  refine wpAny_call (enter (qual := Str.ofString "decomposed") [(Str.ofString "text", .ref tx), (Str.ofString "data", .ref xd), (Str.ofString "is_compat", .bool ic)] (fun v news' => ∃ D out k lam' fnd ps qs, v = .ref D ∧ news' = (D, listObj out k) :: (lam' ++ rest) ∧ LamL lam' ∧ IntsAre out (fnd ++ qs.map Prod.snd) ∧ Ord f cs₁ fnd ps ∧ SortedRun ps qs ∧ (∀ q ∈ rest, q.1 < D)) c
    (by k_is) (by k_is) (binds_K (K := K w.params) (T := 116) (fun b o e => c.F.keep b o (c.X b o e)) rfl (by k_is) rfl rfl rfl) rfl rfl rfl rfl (by decide) ?_ (by rintro v news' h' tk' ⟨D, out, k, lam', fnd, ps, qs, rfl, rfl, e1, e2, e3, e4, e5⟩ F' N'; exact ret D out k lam' fnd ps qs h' tk' e1 e2 e3 e4 e5 F' N'))
  clear c ret
  intro g L' h' tk' F' N' B' X' T' _
  refine @wp_gen Flow _ _ _ _ _ _ ?_
  intro Q₀ hQ₀
  refine @execs_cut _ _ _ _ _ _ 1 _ (fun s' => ∃ F h tk m', s' = { s with heap := h, toks := tk } ∧ (∀ q ∈ lam ++ rest, q.1 < F) ∧ Fr g L' h m' ∧ Knows [(Str.ofString "found", .ref F), (Str.ofString "is_compat", .bool ic), (Str.ofString "data", .ref xd), (Str.ofString "text", .ref tx)] m' ∧ News g L' h ((F, listObj [] 0) :: (lam ++ rest))) ?_ ?_
  · repeat' (first | ((with_reducible show wpAny _ _ (execs (_ :: _) _) _ _ _); walk1; (try dsimp only)) | ((fail_if_success (with_reducible show wpAny _ _ (eval (Expr.ListComp _ _ _ _) _) _ _ _); fail_if_success (with_reducible show wpAny _ _ (exec (Stmt.While _ _ _ _) _) _ _ _); fail_if_success ((with_reducible show wpAny _ _ (exec _ _) _ _ _); show wpAny _ _ (exec (Stmt.For _ _ _ _ _) _) _ _ _); fail_if_success (with_reducible show wpAny _ _ (call (Value.ref _) _) _ _ _)); walk1) | (dsimp only; (fail_if_success (with_reducible show wpAny _ _ (eval (Expr.ListComp _ _ _ _) _) _ _ _); fail_if_success (with_reducible show wpAny _ _ (exec (Stmt.While _ _ _ _) _) _ _ _); fail_if_success ((with_reducible show wpAny _ _ (exec _ _) _ _ _); show wpAny _ _ (exec (Stmt.For _ _ _ _ _) _) _ _ _); fail_if_success (with_reducible show wpAny _ _ (call (Value.ref _) _) _ _ _)); walk1))
    (try dsimp only)
    refine wpAny_execs_nil ?_
    (try dsimp only)
    rename Fr _ _ _ _ => F6
    rename News _ _ _ _ => N6
    exact ⟨_, _, _, _, rfl, by first | assumption | (exact allLt_mem (by assumption)) | (simp_all), F6, ⟨rfl, rfl, rfl, rfl, trivial⟩, N6⟩
  · rintro s' ⟨F, h, tk, m', rfl, o1, F2, hm, N2⟩
    rw [hm.ov] at F2
    clear hm F' N'
    show wpAny _ _ (execs (_ :: _) _) _ _ _
    walk1
    refine for_at ?_
    repeat' (first | ((with_reducible show wpAny _ _ (execs (_ :: _) _) _ _ _); walk1; (try dsimp only)) | ((fail_if_success (with_reducible show wpAny _ _ (eval (Expr.ListComp _ _ _ _) _) _ _ _); fail_if_success (with_reducible show wpAny _ _ (exec (Stmt.While _ _ _ _) _) _ _ _); fail_if_success ((with_reducible show wpAny _ _ (exec _ _) _ _ _); show wpAny _ _ (exec (Stmt.For _ _ _ _ _) _) _ _ _); fail_if_success (with_reducible show wpAny _ _ (call (Value.ref _) _) _ _ _)); walk1) | (dsimp only; (fail_if_success (with_reducible show wpAny _ _ (eval (Expr.ListComp _ _ _ _) _) _ _ _); fail_if_success (with_reducible show wpAny _ _ (exec (Stmt.While _ _ _ _) _) _ _ _); fail_if_success ((with_reducible show wpAny _ _ (exec _ _) _ _ _); show wpAny _ _ (exec (Stmt.For _ _ _ _ _) _) _ _ _); fail_if_success (with_reducible show wpAny _ _ (call (Value.ref _) _) _ _ _)); walk1))
    have nF : ∀ q ∈ lam ++ rest, q.1 ≠ F := fun q hq => Nat.ne_of_lt (o1 q hq)
    refine ForAt.listS (vs := ts) (k := k) (fun i m₁ news₁ => ∃ fs kf, Knows [(Str.ofString "found", .ref F), (Str.ofString "is_compat", .bool ic), (Str.ofString "data", .ref xd), (Str.ofString "text", .ref tx)] m₁ ∧ news₁ = (F, listObj fs kf) :: (lam ++ rest) ∧ IntsAre fs (cs₁.take i)) rfl (by k_asm) (by k_asm) ?_ ?_ ?_ ?_
    · exact ⟨[], 0, ⟨rfl, rfl, rfl, rfl, trivial⟩, rfl, by rw [List.take_zero]; exact .nil⟩
    · rintro i m₁ news₁ ⟨fs, kf, e1, rfl, _⟩
      exact .tail _ (List.mem_append_right _ ht)
    · rintro i v m₁ news₁ h₁ tk₁ I oi hoi hv ⟨fs, kf, hm, rfl, hfs⟩ hI F₁ N₁
      rw [hm.ov] at F₁
      clear hm
      rw [List.cons_append] at N₁
      have iF : I ≠ F := fun e => hI _ (.head _) e.symm
      have sF : ∀ q ∈ lam ++ rest ++ [(I, oi)], q.1 ≠ F := fun q hq => by
        rcases List.mem_append.mp hq with hq | hq
        · exact nF q hq
        · obtain rfl := List.mem_singleton.mp hq
          exact iF
      obtain ⟨c₀, t₀, rfl, hc₀⟩ := hi.at i v hv
      obtain ⟨hc1, hc2⟩ := hcs c₀ (List.mem_of_getElem? hc₀)
      have hil : i < 60 := by
        have := (List.getElem?_eq_some_iff.mp hc₀).1
        omega
      have hfl := hfs.length
      rw [List.length_take] at hfl
      try clear F2 N2
      repeat' (first | ((with_reducible show wpAny _ _ (execs (_ :: _) _) _ _ _); walk1; (try dsimp only)) | ((fail_if_success (with_reducible show wpAny _ _ (eval (Expr.ListComp _ _ _ _) _) _ _ _); fail_if_success (with_reducible show wpAny _ _ (exec (Stmt.While _ _ _ _) _) _ _ _); fail_if_success ((with_reducible show wpAny _ _ (exec _ _) _ _ _); show wpAny _ _ (exec (Stmt.For _ _ _ _ _) _) _ _ _); fail_if_success (with_reducible show wpAny _ _ (call (Value.ref _) _) _ _ _)); walk1) | (dsimp only; (fail_if_success (with_reducible show wpAny _ _ (eval (Expr.ListComp _ _ _ _) _) _ _ _); fail_if_success (with_reducible show wpAny _ _ (exec (Stmt.While _ _ _ _) _) _ _ _); fail_if_success ((with_reducible show wpAny _ _ (exec _ _) _ _ _); show wpAny _ _ (exec (Stmt.For _ _ _ _ _) _) _ _ _); fail_if_success (with_reducible show wpAny _ _ (call (Value.ref _) _) _ _ _)); walk1))
      rename News _ _ _ _ => N6
      rename Fr _ _ _ _ => F6
      refine expanded_spec ⟨by k_asm, by k_asm, by k_asm, by k_asm, by k_asm, rfl, by show dp + 1 + 10 < _; omega, by show un + 3 + 120 < _; omega⟩ (hD.mono fun q hq => by k_mem) (by omega) hc2 ?_
      intro D t₃ k₃ h₃ tk₃ l₃ F₃ N₃
      try clear F₁ N₁
      have dF : D ≠ F := Nat.ne_of_gt (l₃ _ (.head _))
      repeat' (first | ((with_reducible show wpAny _ _ (execs (_ :: _) _) _ _ _); walk1; (try dsimp only)) | ((fail_if_success (with_reducible show wpAny _ _ (eval (Expr.ListComp _ _ _ _) _) _ _ _); fail_if_success (with_reducible show wpAny _ _ (exec (Stmt.While _ _ _ _) _) _ _ _); fail_if_success ((with_reducible show wpAny _ _ (exec _ _) _ _ _); show wpAny _ _ (exec (Stmt.For _ _ _ _ _) _) _ _ _); fail_if_success (with_reducible show wpAny _ _ (call (Value.ref _) _) _ _ _)); walk1) | (dsimp only; (fail_if_success (with_reducible show wpAny _ _ (eval (Expr.ListComp _ _ _ _) _) _ _ _); fail_if_success (with_reducible show wpAny _ _ (exec (Stmt.While _ _ _ _) _) _ _ _); fail_if_success ((with_reducible show wpAny _ _ (exec _ _) _ _ _); show wpAny _ _ (exec (Stmt.For _ _ _ _ _) _) _ _ _); fail_if_success (with_reducible show wpAny _ _ (call (Value.ref _) _) _ _ _)); walk1))
      rename News _ _ _ _ => N7
      rename Fr _ _ _ _ => F7
      refine (fun (n9 : Nat) (m₂ : Mp) (F8 : Fr g L' _ m₂) (N9 : News g L' _ ((D, listObj [.int c₀ t₃] k₃) :: (F, listObj (fs ++ [.int c₀ t₃]) n9) :: (lam ++ rest ++ [(I, oi)]))) (hk : Knows [(Str.ofString "found", .ref F), (Str.ofString "is_compat", .bool ic), (Str.ofString "data", .ref xd), (Str.ofString "text", .ref tx)] m₂) => ?_) _ _ F7 N7 ⟨rfl, rfl, rfl, rfl, trivial⟩
      refine ⟨_, _, m₂, (F, listObj (fs ++ [Value.int c₀ t₃]) n9) :: (lam ++ rest), rfl, F8, (fun q hq => N9 q (.tail _ (show q ∈ (F, listObj (fs ++ [Value.int c₀ t₃]) n9) :: (lam ++ rest ++ [(I, oi)]) from hq))), ?_, fs ++ [.int c₀ t₃], n9, hk, rfl, ?_⟩
      · intro q hq
        rcases List.mem_cons.mp hq with rfl | hq
        · exact iF.symm
        · exact hI q (.tail _ hq)
      · rw [List.take_add_one, hc₀]
        exact IntsAre.append hfs (IntsAre.cons _ _ .nil)
    · rintro m₁ news₁ h₁ tk₁ ⟨fs, kf, hm, rfl, hfs⟩ F₁ N₁
      rw [hm.ov] at F₁
      clear hm
      try clear F2 N2
      rw [hi.length, List.take_length] at hfs
      repeat' (first | ((with_reducible show wpAny _ _ (execs (_ :: _) _) _ _ _); walk1; (try dsimp only)) | ((fail_if_success (with_reducible show wpAny _ _ (eval (Expr.ListComp _ _ _ _) _) _ _ _); fail_if_success (with_reducible show wpAny _ _ (exec (Stmt.While _ _ _ _) _) _ _ _); fail_if_success ((with_reducible show wpAny _ _ (exec _ _) _ _ _); show wpAny _ _ (exec (Stmt.For _ _ _ _ _) _) _ _ _); fail_if_success (with_reducible show wpAny _ _ (call (Value.ref _) _) _ _ _)); walk1) | (dsimp only; (fail_if_success (with_reducible show wpAny _ _ (eval (Expr.ListComp _ _ _ _) _) _ _ _); fail_if_success (with_reducible show wpAny _ _ (exec (Stmt.While _ _ _ _) _) _ _ _); fail_if_success ((with_reducible show wpAny _ _ (exec _ _) _ _ _); show wpAny _ _ (exec (Stmt.For _ _ _ _ _) _) _ _ _); fail_if_success (with_reducible show wpAny _ _ (call (Value.ref _) _) _ _ _)); walk1))
      rename News _ _ _ _ => N6
      rename Fr _ _ _ _ => F6
      have f112 : F ≠ 112 := by
        obtain ⟨o9, h9⟩ := hlam.at112
        exact (nF _ (List.mem_append_left _ h9)).symm
      refine ordered_spec (lam := lam) (rest := (F, listObj fs kf) :: rest) hlam ⟨by k_asm, F6, by k_asm, ?n1, by k_asm, rfl, by show dp + 1 + 10 < _; omega, by show un + 3 + 120 < _; omega⟩ ?n2 (hD.mono fun q hq => by k_mem) (.head _) hfs hcs hlen ?_
      case n1 =>
        intro q hq
        refine N6 q ?_
        simp only [List.mem_cons, List.mem_append] at hq ⊢
        rcases hq with hq | hq | hq <;> first | (simp [hq]; done) | cases hq
      case n2 =>
        intro q hq
        rcases List.mem_cons.mp hq with rfl | hq
        · exact f112
        · exact h112 q hq
      intro D out k2 lam' fnd ps qs h₇ tk₇ hlam' hout hO hsr hDn F₇ N₇
      clear N6 F6
      repeat' (first | ((with_reducible show wpAny _ _ (execs (_ :: _) _) _ _ _); walk1; (try dsimp only)) | ((fail_if_success (with_reducible show wpAny _ _ (eval (Expr.ListComp _ _ _ _) _) _ _ _); fail_if_success (with_reducible show wpAny _ _ (exec (Stmt.While _ _ _ _) _) _ _ _); fail_if_success ((with_reducible show wpAny _ _ (exec _ _) _ _ _); show wpAny _ _ (exec (Stmt.For _ _ _ _ _) _) _ _ _); fail_if_success (with_reducible show wpAny _ _ (call (Value.ref _) _) _ _ _)); walk1) | (dsimp only; (fail_if_success (with_reducible show wpAny _ _ (eval (Expr.ListComp _ _ _ _) _) _ _ _); fail_if_success (with_reducible show wpAny _ _ (exec (Stmt.While _ _ _ _) _) _ _ _); fail_if_success ((with_reducible show wpAny _ _ (exec _ _) _ _ _); show wpAny _ _ (exec (Stmt.For _ _ _ _ _) _) _ _ _); fail_if_success (with_reducible show wpAny _ _ (call (Value.ref _) _) _ _ _)); walk1))
      exact hQ₀ _ _ <| RetAt.ret F₇ (news' := (D, listObj out k2) :: (lam' ++ rest)) (fun q hq => N₇ q (by
        simp only [List.mem_cons, List.mem_append] at hq ⊢
        rcases hq with hq | hq | hq <;> first | (simp [hq]; done) | cases hq)) ⟨D, out, k2, lam', fnd, ps, qs, rfl, rfl, hlam', hout, hO, hsr, fun q hq => hDn q (.tail _ hq)⟩
end
end
section
set_option maxHeartbeats 1000000
theorem reg15 (w : World) : (model PySem.Challenge.rw_nt0032_01.row.prog w = model PySem.Challenge.rw_nt0032_01.row.prog w) ∧ K w.params = K w.params := by
  k_fill
  exact ⟨rfl, rfl⟩
section
variable {w : World} {p : Program} {loose : List Str} {mean : ExcName → Option Value} {mg mb : Mp} {dp un : Nat} {gd : Option (List Code)} {cn : Str} {cs : Scope} {a : Addr} {ccd : Value} {cl : List (Str × Addr)} {outer : List Env} {A₀ : Around} {base h₀ : Heap} {L : Addr} {m : Mp} {news : Led} {s : Shared} {Q : Value → Shared → Prop}
theorem rows_spec {x : Addr} (c : Cx w p loose mean mg mb outer A₀ base h₀ L m news s cs dp un 2 40) (hx : RM news x .none [0] [.none])
    (ret : ∀ D T t1 t2 k kt h' tk', (∀ q ∈ news, q.1 ≠ D) → Fr h₀ L h' m → News h₀ L h' ((D, listObj [.ref T] k) :: (T, seqObj "tuple" #[.int 0 t1, .int 1114111 t2, .none] kt) :: news) → Q (.ref D) { s with heap := h', toks := tk' }) :
    wpAny (md w) (ktrTop dp un gd cn cs L a ccd cl outer) (call (.ref 272) [.ref x]) Q (fun _ _ => False) s := by
  have hd := c.hd
  have hu := c.hu
  refine wpAny_call (enter (qual := Str.ofString "range_rows") [(Str.ofString "range_map", .ref x)] (fun v news' => ∃ D T t1 t2 k kt, v = .ref D ∧ news' = (D, listObj [.ref T] k) :: (T, seqObj "tuple" #[.int 0 t1, .int 1114111 t2, .none] kt) :: news ∧ ∀ q ∈ news, q.1 ≠ D) c
    (by k_is) (by k_is) (BindsTo.of_eq rfl) rfl rfl rfl rfl (by decide) ?_ (by rintro v news' h' tk' ⟨D, T, t1, t2, k, kt, rfl, rfl, e⟩ F' N'; exact ret D T t1 t2 k kt h' tk' e F' N'))
  clear c ret
  obtain ⟨dx, st, vl, t1, t2, t3, g1, g2, g3, n, k1, k2, sv, q1, q2, q3, q4, q5⟩ := hx
  obtain ⟨t9, sv', rfl, q6⟩ := q5.cons_inv
  obtain rfl := q6.nil_inv
  intro g L' h' tk' F' N' B' X' T' _
  refine @wp_gen Flow _ _ _ _ _ _ ?_
  intro Q₀ hQ₀
  refine @execs_cut _ _ _ _ _ _ 1 _ (fun s' => ∃ F h tk m', s' = { s with heap := h, toks := tk } ∧ (∀ q ∈ news, q.1 < F) ∧ Fr g L' h m' ∧ Knows [(Str.ofString "found", .ref F), (Str.ofString "starts", .ref st), (Str.ofString "range_map", .ref x)] m' ∧ News g L' h ((F, listObj [] 0) :: news)) ?_ ?_
  · repeat' (first | ((with_reducible show wpAny _ _ (execs (_ :: _) _) _ _ _); walk1; (try dsimp only)) | ((fail_if_success (with_reducible show wpAny _ _ (eval (Expr.ListComp _ _ _ _) _) _ _ _); fail_if_success (with_reducible show wpAny _ _ (exec (Stmt.While _ _ _ _) _) _ _ _); fail_if_success ((with_reducible show wpAny _ _ (exec _ _) _ _ _); show wpAny _ _ (exec (Stmt.For _ _ _ _ _) _) _ _ _); fail_if_success (with_reducible show wpAny _ _ (call (Value.ref _) _) _ _ _)); walk1) | (dsimp only; (fail_if_success (with_reducible show wpAny _ _ (eval (Expr.ListComp _ _ _ _) _) _ _ _); fail_if_success (with_reducible show wpAny _ _ (exec (Stmt.While _ _ _ _) _) _ _ _); fail_if_success ((with_reducible show wpAny _ _ (exec _ _) _ _ _); show wpAny _ _ (exec (Stmt.For _ _ _ _ _) _) _ _ _); fail_if_success (with_reducible show wpAny _ _ (call (Value.ref _) _) _ _ _)); walk1))
    (try dsimp only)
    refine wpAny_execs_nil ?_
    (try dsimp only)
    rename Fr _ _ _ _ => F6
    rename News _ _ _ _ => N6
    exact ⟨_, _, _, _, rfl, by first | assumption | (exact allLt_mem (by assumption)) | (simp_all), F6, ⟨rfl, rfl, rfl, trivial⟩, fun q hq => N6 q (.tail _ hq)⟩
  · rintro s' ⟨F, h, tk, m', rfl, o1, F2, hm, N2⟩
    rw [hm.ov] at F2
    clear hm F' N'
    show wpAny _ _ (execs (_ :: _) _) _ _ _
    walk1
    refine for_at ?_
    repeat' (first | ((with_reducible show wpAny _ _ (execs (_ :: _) _) _ _ _); walk1; (try dsimp only)) | ((fail_if_success (with_reducible show wpAny _ _ (eval (Expr.ListComp _ _ _ _) _) _ _ _); fail_if_success (with_reducible show wpAny _ _ (exec (Stmt.While _ _ _ _) _) _ _ _); fail_if_success ((with_reducible show wpAny _ _ (exec _ _) _ _ _); show wpAny _ _ (exec (Stmt.For _ _ _ _ _) _) _ _ _); fail_if_success (with_reducible show wpAny _ _ (call (Value.ref _) _) _ _ _)); walk1) | (dsimp only; (fail_if_success (with_reducible show wpAny _ _ (eval (Expr.ListComp _ _ _ _) _) _ _ _); fail_if_success (with_reducible show wpAny _ _ (exec (Stmt.While _ _ _ _) _) _ _ _); fail_if_success ((with_reducible show wpAny _ _ (exec _ _) _ _ _); show wpAny _ _ (exec (Stmt.For _ _ _ _ _) _) _ _ _); fail_if_success (with_reducible show wpAny _ _ (call (Value.ref _) _) _ _ _)); walk1))
    refine enum_loop (vs := [.none]) (k := k2) (fun i m₁ news₁ => Knows [(Str.ofString "found", .ref F), (Str.ofString "starts", .ref st), (Str.ofString "range_map", .ref x)] m₁ ∧ ((i = 0 ∧ news₁ = (F, listObj [] 0) :: news) ∨ (0 < i ∧ ∃ T t1 t2 k kt, news₁ = (F, listObj [.ref T] k) :: (T, seqObj "tuple" #[.int 0 t1, .int 1114111 t2, .none] kt) :: news))) rfl F2 N2 (by k_mem) rfl rfl rfl ⟨⟨rfl, rfl, rfl, trivial⟩, .inl ⟨rfl, rfl⟩⟩ ?_ ?_
    · rintro i t v m₁ news₁ h₁ tk₁ own wr hv ⟨hm, hJ⟩ hn ho F₁ N₁ hlive
      have hi : i = 0 := by
        have := (List.getElem?_eq_some_iff.mp hv).1
        simpa using this
      subst hi
      obtain rfl : v = .none := by simpa using hv.symm
      obtain ⟨_, rfl⟩ : _ ∧ _ := hJ.resolve_right (fun h => absurd h.1 (Nat.lt_irrefl _))
      refine (fun (m₂ : Mp) (F₂ : Fr g L' h₁ m₂) (hm : Knows [(Str.ofString "value", .none), (Str.ofString "at", .int 0 t), (Str.ofString "found", .ref F), (Str.ofString "starts", .ref st), (Str.ofString "range_map", .ref x)] m₂) => ?_) _ F₁ ⟨rfl, rfl, hm.1, hm.2.1, hm.2.2.1, trivial⟩
      rw [hm.ov] at F₂
      clear F₁ F2 N2
      have vF : F ≠ vl := Nat.ne_of_gt (o1 _ q4)
      have sF : ∀ q ∈ own ++ news, q.1 ≠ F := fun q hq => by
        rcases List.mem_append.mp hq with hq | hq
        · intro e
          rcases ho q hq with h9 | h9
          · exact hn _ (.head _) (e ▸ h9)
          · exact vF (e.symm.trans h9)
        · exact Nat.ne_of_lt (o1 q hq)
      replace N₁ : News g L' h₁ ((F, listObj [] 0) :: (own ++ news)) := fun q hq => N₁ q (by
        simp only [List.mem_cons, List.mem_append] at hq ⊢
        rcases hq with hq | hq | hq <;> simp [hq])
      repeat' (first | ((with_reducible show wpAny _ _ (execs (_ :: _) _) _ _ _); walk1; (try dsimp only)) | ((fail_if_success (with_reducible show wpAny _ _ (eval (Expr.ListComp _ _ _ _) _) _ _ _); fail_if_success (with_reducible show wpAny _ _ (exec (Stmt.While _ _ _ _) _) _ _ _); fail_if_success ((with_reducible show wpAny _ _ (exec _ _) _ _ _); show wpAny _ _ (exec (Stmt.For _ _ _ _ _) _) _ _ _); fail_if_success (with_reducible show wpAny _ _ (call (Value.ref _) _) _ _ _)); walk1) | (dsimp only; (fail_if_success (with_reducible show wpAny _ _ (eval (Expr.ListComp _ _ _ _) _) _ _ _); fail_if_success (with_reducible show wpAny _ _ (exec (Stmt.While _ _ _ _) _) _ _ _); fail_if_success ((with_reducible show wpAny _ _ (exec _ _) _ _ _); show wpAny _ _ (exec (Stmt.For _ _ _ _ _) _) _ _ _); fail_if_success (with_reducible show wpAny _ _ (call (Value.ref _) _) _ _ _)); walk1))
      rename Fr _ _ _ _ => F6
      rename News _ _ _ _ => N6
      rename _ ∧ _ => l6
      refine (fun (T : Addr) (t8 t9 : Tok) (n9 : Nat) (m₃ : Mp) (F7 : Fr g L' _ m₃) (lT : ∀ q ∈ own ++ news, q.1 < T) (N7 : News g L' _ ((T, seqObj "tuple" #[.int 0 t8, .int 1114111 t9, .none] 0) :: (F, listObj [Value.ref T] n9) :: (own ++ news))) (hk : Knows [(Str.ofString "found", .ref F), (Str.ofString "starts", .ref st), (Str.ofString "range_map", .ref x)] m₃) => ?_) _ _ _ _ _ F6 (allLt_mem l6.2) N6 ⟨rfl, rfl, rfl, trivial⟩
      refine ⟨_, _, m₃, (F, listObj [Value.ref T] n9) :: (T, seqObj "tuple" #[.int 0 t8, .int 1114111 t9, .none] 0) :: news, rfl, F7, (fun q hq => N7 q ?_), ?_, hk, .inr ⟨Nat.lt_succ_self _, T, t8, t9, n9, 0, rfl⟩⟩
      · simp only [List.mem_cons, List.mem_append] at hq ⊢
        rcases hq with hq | hq | hq | hq <;> simp [hq]
      · intro q hq
        rcases List.mem_cons.mp hq with rfl | hq
        · exact hn (F, listObj [] 0) (.head _)
        · rcases List.mem_cons.mp hq with rfl | hq
          · intro hw
            obtain ⟨o, h9⟩ := hlive _ hw
            exact Nat.lt_irrefl _ (lT _ (List.mem_append_left _ h9))
          · exact hn q (.tail _ hq)
    · rintro m₁ news₁ h₁ tk₁ ⟨hm, hJ⟩ F₁ N₁
      rw [hm.ov] at F₁
      clear hm F2 N2
      obtain ⟨_, T, t5, t6, k5, kt, rfl⟩ := hJ.resolve_left (fun h => absurd h.1 (by decide))
      repeat' (first | ((with_reducible show wpAny _ _ (execs (_ :: _) _) _ _ _); walk1; (try dsimp only)) | ((fail_if_success (with_reducible show wpAny _ _ (eval (Expr.ListComp _ _ _ _) _) _ _ _); fail_if_success (with_reducible show wpAny _ _ (exec (Stmt.While _ _ _ _) _) _ _ _); fail_if_success ((with_reducible show wpAny _ _ (exec _ _) _ _ _); show wpAny _ _ (exec (Stmt.For _ _ _ _ _) _) _ _ _); fail_if_success (with_reducible show wpAny _ _ (call (Value.ref _) _) _ _ _)); walk1) | (dsimp only; (fail_if_success (with_reducible show wpAny _ _ (eval (Expr.ListComp _ _ _ _) _) _ _ _); fail_if_success (with_reducible show wpAny _ _ (exec (Stmt.While _ _ _ _) _) _ _ _); fail_if_success ((with_reducible show wpAny _ _ (exec _ _) _ _ _); show wpAny _ _ (exec (Stmt.For _ _ _ _ _) _) _ _ _); fail_if_success (with_reducible show wpAny _ _ (call (Value.ref _) _) _ _ _)); walk1))
      exact hQ₀ _ _ <| RetAt.ret F₁ N₁ ⟨F, T, t5, t6, k5, kt, rfl, rfl, fun q hq => Nat.ne_of_lt (o1 q hq)⟩
end
end
end
section
section
set_option maxHeartbeats 1000000
theorem reg16 (w : World) : (model PySem.Challenge.rw_nt0032_01.row.prog w = model PySem.Challenge.rw_nt0032_01.row.prog w) ∧ K w.params = K w.params := by
  k_fill
  exact ⟨rfl, rfl⟩
section
variable {w : World} {p : Program} {loose : List Str} {mean : ExcName → Option Value} {mg mb : Mp} {dp un : Nat} {gd : Option (List Code)} {cn : Str} {cs : Scope} {a : Addr} {ccd : Value} {cl : List (Str × Addr)} {outer : List Env} {A₀ : Around} {base h₀ : Heap} {L : Addr} {m : Mp} {news : Led} {s : Shared} {Q : Value → Shared → Prop}
section
variable {d u : Nat} {name qual : Str} {params : Arguments} {body : List Stmt} {scope : Scope} {dV kV doc pm cdv ct oc : Value} {an od : Option Addr} {osl : Array (Option Value)} {f : Addr} {args : Args} {R : Result → Shared → Prop}
/-- a call of a def of the text with cells -/
theorem enterC (binds : List (Str × Value)) (Post : Value → Led → Prop) (c : Cx w p loose mean mg mb outer A₀ base h₀ L m news s cs dp un d u)
    (ho : (K w.params).lookup f = some ⟨oc, od, .func (fnOf name qual params body scope dV kV doc pm an cdv ct), osl⟩) (hcd : codeIn (K w.params) cdv qual = true)
    (hbind : BindsTo s (fnOf name qual params body scope dV kV doc pm an cdv ct) args binds) (hkind : (binds.all fun y => scope.names.lookup y.1 == some .local || scope.names.lookup y.1 == some .cell) = true)
    (hnd : ((cellsFrom 0 scope.names []).map (·.1)).Nodup) (hco : scope.isCoroutine = false) (hgen : scope.isGenerator = false) (hk : scope.kind = .function)
    (walk : ∀ g L' h₁ tk cells, Fr g L' h₁ (bindL (envOfC qual scope L' f cdv).kindOf binds fun _ => none) → News g L' h₁ (cells ++ news) → CellsAre (bindC (envOfC qual scope L' f cdv).kindOf binds fun _ => none) (cellsFrom (L' + 1) scope.names []) cells →
      Below (ktrTop dp un gd cn cs L a ccd cl outer) base (envX cn cs L a ccd cl :: outer) g → (K w.params).In g → Top p loose mean mg mb g → (∀ q ∈ news, q.1 < L') →
      wpAny (md w) ((ktrTop dp un gd cn cs L a ccd cl outer).deeper (envOfC qual scope L' f cdv)) (execs body (envOfC qual scope L' f cdv)) (RetAt g L' s Post) (fun _ _ => False) { s with heap := h₁, toks := tk })
    (ret : ∀ v news' h' tk', Post v news' → Fr h₀ L h' m → News h₀ L h' news' → R (.ok (.ret v)) { s with heap := h', toks := tk' }) :
    codeAny (md w) (ktrTop dp un gd cn cs L a ccd cl outer) (.call (.ref f) args) R s := by
  refine code_defC c.B c.F c.X c.N c.T rfl rfl c.hk ho hcd (by have := c.hd; show dp < _; omega) hbind hkind hnd ?_ hco hgen hk
  intro g L' h₁ tk cells FG F' N' Y B' X' T' l1
  refine wpAny_mono (walk g L' h₁ tk cells F' N' Y B' X' T' l1) ?_ (fun _ _ h => h.elim)
  rintro fl s' ⟨v, h', tk, m', news', hv, rfl, F₂, N₂, hp⟩
  subst hv
  cases fl <;> exact leaveK_ F₂ N₂ fun F₃ N₃ => ret _ news' _ _ hp F₃ N₃
end
theorem likeN_spec (c : Cx w p loose mean mg mb outer A₀ base h₀ L m news s cs dp un 2 40)
    (ret : ∀ h' tk', Fr h₀ L h' m → News h₀ L h' news → Q (.bool true) { s with heap := h', toks := tk' }) :
    wpAny (md w) (ktrTop dp un gd cn cs L a ccd cl outer) (call (.ref 218) [.none, .none]) Q (fun _ _ => False) s := by
  have hd := c.hd
  have hu := c.hu
  refine wpAny_call (enter (qual := Str.ofString "range_are_like") [(Str.ofString "one", .none), (Str.ofString "other", .none)] (fun v news' => news' = news ∧ v = .bool true) c
    (by k_is) (by k_is) (BindsTo.of_eq rfl) rfl rfl rfl rfl (by decide) ?_ (by rintro v news' h' tk' ⟨rfl, rfl⟩ F' N'; exact ret h' tk' F' N'))
  clear ret c
  intro g L' h' tk' F' N' B' X' T' _
  refine @wp_gen Flow _ _ _ _ _ _ ?_
  intro Q₀ hQ₀
  repeat' (first | ((fail_if_success (with_reducible show wpAny _ _ (exec (Stmt.While _ _ _ _) _) _ _ _); fail_if_success ((with_reducible show wpAny _ _ (exec _ _) _ _ _); show wpAny _ _ (exec (Stmt.For _ _ _ _ _) _) _ _ _); fail_if_success (with_reducible show wpAny _ _ (call (Value.ref _) _) _ _ _)); walk1) | (dsimp only; walk1))
  all_goals (first | exact hQ₀ _ _ <| RetAt.ret F' N' ⟨rfl, rfl⟩)
theorem ranges_spec {x : Addr} (c : Cx w p loose mean mg mb outer A₀ base h₀ L m news s cs dp un 6 80) (hx : RM news x .none [0] [.none])
    (ret : ∀ D k h' tk', Fr h₀ L h' m → News h₀ L h' ((D, listObj [] k) :: news) → Q (.ref D) { s with heap := h', toks := tk' }) :
    wpAny (md w) (ktrTop dp un gd cn cs L a ccd cl outer) (call (.ref 251) [.ref x]) Q (fun _ _ => False) s := by
  have hd := c.hd
  have hu := c.hu
  refine wpAny_call (enterC (qual := Str.ofString "RangeMap.ranges") [(Str.ofString "self", .ref x)] (fun v news' => ∃ D k, v = .ref D ∧ news' = (D, listObj [] k) :: news) c
    (by k_is) (by k_is) (BindsTo.of_eq rfl) rfl (by decide +kernel) rfl rfl rfl ?_ (by rintro v news' h' tk' ⟨D, k, rfl, rfl⟩ F' N'; exact ret D k h' tk' F' N'))
  clear c ret
  obtain ⟨dx, st, vl, t1, t2, t3, g1, g2, g3, n, k1, k2, sv, q1, q2, q3, q4, q5⟩ := id hx
  intro g L' h' tk' cells F' N' Y' B' X' T' l1
  k_cells Y'
  (try simp only [List.cons_append, List.nil_append] at N')
  (try dsimp only)
  show wpAny _ _ (execs (_ :: _) _) _ _ _
  walk1
  walk1
  refine LCt.ListComp_T (F₀ := by k_asm) (by with_unfolding_all rfl) (by decide) (by rfl) (by decide) (by rfl) ?_
  repeat' (first | ((with_reducible show wpAny _ _ (execs (_ :: _) _) _ _ _); walk1; (try dsimp only)) | ((fail_if_success (with_reducible show wpAny _ _ (exec (Stmt.While _ _ _ _) _) _ _ _); fail_if_success ((with_reducible show wpAny _ _ (exec _ _) _ _ _); show wpAny _ _ (exec (Stmt.For _ _ _ _ _) _) _ _ _); fail_if_success (with_reducible show wpAny _ _ (call (Value.ref _) _) _ _ _)); walk1) | (dsimp only; (fail_if_success (with_reducible show wpAny _ _ (exec (Stmt.While _ _ _ _) _) _ _ _); fail_if_success ((with_reducible show wpAny _ _ (exec _ _) _ _ _); show wpAny _ _ (exec (Stmt.For _ _ _ _ _) _) _ _ _); fail_if_success (with_reducible show wpAny _ _ (call (Value.ref _) _) _ _ _)); walk1))
  refine rows_spec ⟨by k_asm, by k_asm, by k_asm, by k_asm, by k_asm, rfl, by show dp + 1 + 2 < _; omega, by show un + 3 + 40 < _; omega⟩ (hx.mono fun q hq => by k_mem) ?_
  intro D T t4 t5 k6 kt h₂ tk₂ l₂ F₂ N₂
  refine LCt.CompSrcT.ledger rfl F₂ N₂ (.head _) (by rw [sizeLine_eq]; exact Nat.le_of_ble_eq_true rfl) fun g₃ => LCt.CompRestT.succ ?_
  intro v I oI C oC D2 m₂ h₃ tk₃ E' hv hC hm₂ F₃ N₃ off ne
  obtain rfl : v = .ref T := by simpa using hv.symm
  clear F₂ N₂ F' N'
  repeat' (first | ((with_reducible show wpAny _ _ (execs (_ :: _) _) _ _ _); walk1; (try dsimp only)) | ((fail_if_success (with_reducible show wpAny _ _ (exec (Stmt.While _ _ _ _) _) _ _ _); fail_if_success ((with_reducible show wpAny _ _ (exec _ _) _ _ _); show wpAny _ _ (exec (Stmt.For _ _ _ _ _) _) _ _ _); fail_if_success (with_reducible show wpAny _ _ (call (Value.ref _) _) _ _ _)); walk1) | (dsimp only; (fail_if_success (with_reducible show wpAny _ _ (exec (Stmt.While _ _ _ _) _) _ _ _); fail_if_success ((with_reducible show wpAny _ _ (exec _ _) _ _ _); show wpAny _ _ (exec (Stmt.For _ _ _ _ _) _) _ _ _); fail_if_success (with_reducible show wpAny _ _ (call (Value.ref _) _) _ _ _)); walk1))
  refine wpAny_mono (likeN_spec (Q := fun v s₅ => wpAny (md w) ((ktrTop dp un gd cn cs L a ccd cl outer).deeper (envOfC (Str.ofString "RangeMap.ranges") C251 L' 251 (Value.ref 250))) (truthy v) qk ek s₅) ⟨by k_asm, by k_asm, by k_asm, by k_asm, by k_asm, rfl, by show dp + 1 + 2 < _; omega, by show un + 3 + 40 < _; omega⟩ ?_) (fun _ _ h => h) (fun _ _ e => e.elim)
  intro h₄ tk₄ F₄ N₄
  clear F₃ N₃
  repeat' (first | ((with_reducible show wpAny _ _ (execs (_ :: _) _) _ _ _); walk1; (try dsimp only)) | ((fail_if_success (with_reducible show wpAny _ _ (exec (Stmt.While _ _ _ _) _) _ _ _); fail_if_success ((with_reducible show wpAny _ _ (exec _ _) _ _ _); show wpAny _ _ (exec (Stmt.For _ _ _ _ _) _) _ _ _); fail_if_success (with_reducible show wpAny _ _ (call (Value.ref _) _) _ _ _)); walk1) | (dsimp only; (fail_if_success (with_reducible show wpAny _ _ (exec (Stmt.While _ _ _ _) _) _ _ _); fail_if_success ((with_reducible show wpAny _ _ (exec _ _) _ _ _); show wpAny _ _ (exec (Stmt.For _ _ _ _ _) _) _ _ _); fail_if_success (with_reducible show wpAny _ _ (call (Value.ref _) _) _ _ _)); walk1))
  refine ⟨_, _, _, rfl, F₄, N₄, off, .inr ⟨_, .head _, rfl, _, rfl⟩, LCt.CompRestT.zero ?_⟩
  intro D7 h₇ tk₇ F₇ N₇ _
  refine RetAt.ret F₇ (news' := (D7, listObj [] 0) :: news) (fun q hq => N₇ q ?_) ⟨D7, 0, rfl, rfl⟩
  rcases List.mem_cons.mp hq with rfl | hq
  · exact .head _
  · exact .tail _ (.tail _ (.tail _ (.tail _ hq)))
end
end
end
section
section
set_option maxHeartbeats 1000000
theorem reg17 (w : World) : (model PySem.Challenge.rw_nt0032_01.row.prog w = model PySem.Challenge.rw_nt0032_01.row.prog w) ∧ K w.params = K w.params := by
  k_fill
  exact ⟨rfl, rfl⟩
section
variable {w : World} {p : Program} {loose : List Str} {mean : ExcName → Option Value} {mg mb : Mp} {dp un : Nat} {gd : Option (List Code)} {cn : Str} {cs : Scope} {a : Addr} {ccd : Value} {cl : List (Str × Addr)} {outer : List Env} {A₀ : Around} {base h₀ : Heap} {L : Addr} {m : Mp} {news : Led} {s : Shared} {Q : Value → Shared → Prop}
theorem ForAt.nil {prog : Program} {A : Around} {env : Env} {body : List Stmt} {Q : Flow → Shared → Prop} {target : PySem.Expr} {l : Addr} {k : Nat} (hh : A.handled = none)
    (F : Fr h₀ L s.heap m) (N : News h₀ L s.heap news) (hl : (l, listObj [] k) ∈ news)
    (done : ∀ h tk, Fr h₀ L h m → News h₀ L h news → Q .next { s with heap := h, toks := tk }) : ForAt prog w A env target body Q (.ref l) s := by
  have hl' := (N _ hl).1
  refine wpAny_pyIter_list (items := #[]) ⟨_, hl', rfl, _, rfl⟩ ?_
  have hI : h₀.get? s.heap.objs.size = none := fresh_none F
  have hL : L ≠ s.heap.objs.size := Nat.ne_of_lt F.ns.lt
  have hn : ∀ q ∈ news, q.1 ≠ s.heap.objs.size := fun q hq => Nat.ne_of_lt (Heap.lt_size (N q hq).1)
  refine codeAny_forLoop_any (fun k' s' => k' = 1 ∧ s' = { s with heap := s.heap.push { cls := .type "list_iterator", data := .fields #[.ref l, .int 0 0] } }) ?_ 1 ⟨rfl, rfl⟩
  rintro k' s' ⟨rfl, rfl⟩
  refine wpAny_pyNext_list_end (i := 0) (l := l) (items := #[]) hh ⟨_, Heap.get?_push_size _ rfl, rfl, rfl⟩ ⟨_, Heap.get?_push_of_some _ hl', rfl, _, rfl⟩ rfl fun h' hs => wpAny_execs_nil ?_
  have F1 := F.push { cls := .type "list_iterator", data := .fields #[.ref l, .int 0 0] }
  refine done h' _ ⟨F1.ns.extBut hs hL, fun b o e => hs b o (fun q => by rw [q, hI] at e; cases e) (F1.keep b o e), F1.above⟩ fun q hq => ⟨hs _ _ (hn q hq) (Heap.get?_push_of_some _ (N q hq).1), (N q hq).2⟩
theorem ForAt.nilDict {prog : Program} {A : Around} {env : Env} {body : List Stmt} {Q : Flow → Shared → Prop} {target : PySem.Expr} {l : Addr} {o : Obj} (hh : A.handled = none)
    (F : Fr h₀ L s.heap m) (N : News h₀ L s.heap news) (hl : (l, o) ∈ news) (ho : o.IsDictOf (PySem.strKind prog w) []) (hsys : (l == sysModules) = false)
    (done : ∀ h tk, Fr h₀ L h m → News h₀ L h news → Q .next { s with heap := h, toks := tk }) : ForAt prog w A env target body Q (.ref l) s := by
  have hl' := (N _ hl).1
  obtain ⟨es, ep, r⟩ := ho
  have hat : ∀ h : Heap, h.get? l = some o → h.DictAt (PySem.strKind prog w) l [] ep := fun h e => ⟨o, es, e, r⟩
  refine wpAny_pyIter_dict (knd := PySem.strKind prog w) hsys (hat _ hl') ?_
  have hI : h₀.get? s.heap.objs.size = none := fresh_none F
  have hL : L ≠ s.heap.objs.size := Nat.ne_of_lt F.ns.lt
  have hn : ∀ q ∈ news, q.1 ≠ s.heap.objs.size := fun q hq => Nat.ne_of_lt (Heap.lt_size (N q hq).1)
  refine codeAny_forLoop_any (fun k' s' => k' = 1 ∧ s' = { s with heap := s.heap.push { cls := .type "dict_keyiterator", data := .fields #[.ref l, .int 0 0, .int (([] : List (Str × Value)).length : Nat) 0, .int ep 0] } }) ?_ 1 ⟨rfl, rfl⟩
  rintro k' s' ⟨rfl, rfl⟩
  refine wpAny_pyNext_dict_end (knd := PySem.strKind prog w) (i := 0) (kvs := []) hh ⟨_, Heap.get?_push_size _ rfl, rfl, rfl⟩ (hat _ (Heap.get?_push_of_some _ hl')) rfl fun h' hs => wpAny_execs_nil ?_
  have F1 := F.push { cls := .type "dict_keyiterator", data := .fields #[.ref l, .int 0 0, .int (([] : List (Str × Value)).length : Nat) 0, .int ep 0] }
  refine done h' _ ⟨F1.ns.extBut hs hL, fun b o e => hs b o (fun q => by rw [q, hI] at e; cases e) (F1.keep b o e), F1.above⟩ fun q hq => ⟨hs _ _ (hn q hq) (Heap.get?_push_of_some _ (N q hq).1), (N q hq).2⟩
theorem rm_dict_ne {h : Heap} {dx mp : Addr} {om : Obj} {kvs : List (Str × Value)} {g1 g2 g3 : Int} {t1 t2 t3 : Tok} {v1 v2 v3 v : Value} {n : Nat} (hd : h.get? dx = some (dictOf [⟨g1, .str (Str.ofString "default") t1, v1⟩, ⟨g2, .str (Str.ofString "starts") t2, v2⟩, ⟨g3, .str (Str.ofString "values") t3, v3⟩] n))
    (hm : h.get? mp = some om) (ho : om.IsDictOf (PySem.strKind PySem.Challenge.rw_nt0032_01.row.prog w) kvs) (hv : valueAt kvs (Str.ofString "ccc") = some v) : dx ≠ mp := by
  rintro rfl
  rw [hd] at hm
  obtain rfl := Option.some.inj hm
  obtain ⟨es, ep, _, he, _, hp, _⟩ := ho
  have h1 := hp.find (Str.ofString "ccc")
  rw [hv] at h1
  injection he with he _
  subst he
  have h2 : (Option.map (fun x : DictEntry => x.val) (List.find? (fun e : DictEntry => (PySem.strKind PySem.Challenge.rw_nt0032_01.row.prog w).is (Str.ofString "ccc") e.key) [⟨g1, .str (Str.ofString "default") t1, v1⟩, ⟨g2, .str (Str.ofString "starts") t2, v2⟩, ⟨g3, .str (Str.ofString "values") t3, v3⟩])) = none := rfl
  have h3 := h2.symm.trans h1
  cases h3
/-- data.map_of('dm') -/
theorem mapdm_spec {xd mp : Addr} {f : Int → Int} {b : Bool} {nt : Tok} (c : Cx w p loose mean mg mb outer A₀ base h₀ L m news s cs dp un 8 40) (hD : DC w xd mp f b news)
    (ret : ∀ xm news' h' tk', (∀ q ∈ news, q.1 ≠ mp → q ∈ news') → DC w xd mp f true news' → RM news' xm .none [0] [.none] → Fr h₀ L h' m → News h₀ L h' news' → Q (.ref xm) { s with heap := h', toks := tk' }) :
    wpAny (md w) (ktrTop dp un gd cn cs L a ccd cl outer) (call (.ref 314) [.ref xd, .str (Str.ofString "dm") nt]) Q (fun _ _ => False) s := by
  have hd := c.hd
  have hu := c.hu
  have hD' := id hD
  obtain ⟨kvs, x, dv, ns, vals, vv, hDA, hv, hx, hvv, hl, hs, hvl, h0, hk, hf, hb⟩ := hD'
  cases b with
  | true =>
    obtain ⟨xm, hvm, hxm⟩ := hb
    refine mapof_old ⟨c.B, c.F, c.X, c.N, c.T, c.hk, by omega, by omega⟩ hDA hvm ?_
    intro h' tk' F' N'
    exact ret xm news h' tk' (fun q hq _ => hq) hD hxm F' N'
  | false =>
    have N0 := c.N
    refine mapof_new (P := fun v => v = .none) c hDA hb (Nat.le_trans hk (by decide)) (fun dk t _ e => e) ?_
    rintro x' dx dv' news' h' tk' rfl keep ⟨n1, hDA', hn1⟩ hR _ _ F' N'
    refine ret x' news' h' tk' keep ⟨stored kvs (Str.ofString "dm") (.ref x'), x, dv, ns, vals, vv, hDA'.mono fun q hq => (hn1 q hq).1, ?_, ?_, hvv, hl, hs, hvl, h0, ?_, hf, x', ?_, hR.rm⟩ hR.rm F' N'
    · rw [valueAt_stored, if_neg (by decide)]
      exact hv
    · obtain ⟨ddx, df, pr, wd, om, od, t1, t2, t3, t4, g1, g2, g3, g4, j, m1, m2, m3, hdf, lodf, m4, hom, r⟩ := hDA
      have omd : om.cls = .type "dict" := by obtain ⟨es, ep, hc, _⟩ := hom; exact hc.1
      obtain ⟨dx, st, vl, t1, t2, t3, g1, g2, g3, n, k1, k2, sv, q1, q2, q3, q4, q5⟩ := hx
      refine ⟨dx, st, vl, t1, t2, t3, g1, g2, g3, n, k1, k2, sv, keep _ q1 ?_, keep _ q2 ?_, keep _ q3 ?_, keep _ q4 ?_, q5⟩
      · exact listEq (N0 _ q1).1 (N0 _ m4).1 (by rw [omd]; exact ref_type)
      · exact rm_dict_ne (N0 _ q2).1 (N0 _ m4).1 hom hv
      · exact listEq (N0 _ q3).1 (N0 _ m4).1 (by rw [omd]; exact list_dict)
      · exact listEq (N0 _ q4).1 (N0 _ m4).1 (by rw [omd]; exact list_dict)
    · have := stored_length_le kvs (Str.ofString "dm") (.ref x')
      have h2 : kvs.length ≤ 2 := hk
      show _ ≤ 3
      omega
    · rw [valueAt_stored, if_pos rfl]
theorem pc_spec {xd mp : Addr} {f : Int → Int} {b : Bool} (c : Cx w p loose mean mg mb outer A₀ base h₀ L m news s cs dp un 10 120) (hD : DC w xd mp f b news)
    (ret : ∀ D o news' h' tk', (∀ q ∈ news, q.1 ≠ mp → q ∈ news') → DC w xd mp f true news' → ((D, o) ∈ news' ∧ o.IsDictOf (PySem.strKind PySem.Challenge.rw_nt0032_01.row.prog w) []) → ((D == sysModules) = false ∧ ∀ q ∈ news, q.1 < D) → Fr h₀ L h' m → News h₀ L h' news' → Q (.ref D) { s with heap := h', toks := tk' }) :
    wpAny (md w) (ktrTop dp un gd cn cs L a ccd cl outer) (call (.ref 130) [.ref xd]) Q (fun _ _ => False) s := by
  have hd := c.hd
  have hu := c.hu
  refine wpAny_call (enter (qual := Str.ofString "primary_composites") [(Str.ofString "data", .ref xd)] (fun v news' => ∃ D o, v = .ref D ∧ (∀ q ∈ news, q.1 ≠ mp → q ∈ news') ∧ DC w xd mp f true news' ∧ ((D, o) ∈ news' ∧ o.IsDictOf (PySem.strKind PySem.Challenge.rw_nt0032_01.row.prog w) []) ∧ ((D == sysModules) = false ∧ ∀ q ∈ news, q.1 < D)) c
    (by k_is) (by k_is) (BindsTo.of_eq rfl) rfl rfl rfl rfl (by decide) ?_ (by rintro v news' h' tk' ⟨D, o, rfl, e1, e2, e3, e4⟩ F' N'; exact ret D o news' h' tk' e1 e2 e3 e4 F' N'))
  clear c ret
  obtain ⟨xdx, xdm1, gx1, gx2, gx3, gx4, gt1, gt2, gt3, gt4, df, pr, wd, gj, xdm2⟩ : ∃ ddx, (xd, instObj 317 ddx) ∈ news ∧ ∃ g1 g2 g3 g4 t1 t2 t3 t4 df pr wd j, (ddx, dictOf [⟨g1, .str (Str.ofString "defaults") t1, .ref df⟩, ⟨g2, .str (Str.ofString "maps") t2, .ref mp⟩, ⟨g3, .str (Str.ofString "properties") t3, .ref pr⟩, ⟨g4, .str (Str.ofString "words") t4, .ref wd⟩] j) ∈ news := by
    obtain ⟨kvs, x, dv, ns, vals, vv, ⟨ddx, df, pr, wd, om, od, t1, t2, t3, t4, g1, g2, g3, g4, j, m1, m2, _⟩, _⟩ := hD
    exact ⟨ddx, m1, g1, g2, g3, g4, t1, t2, t3, t4, df, pr, wd, j, m2⟩
  intro g L' h' tk' F' N' B' X' T' _
  refine @wp_gen Flow _ _ _ _ _ _ ?_
  intro Q₀ hQ₀
  refine @execs_cut _ _ _ _ _ _ 1 _ (fun s' => ∃ F o h tk m', s' = { s with heap := h, toks := tk } ∧ (∀ q ∈ news, q.1 < F) ∧ (F == sysModules) = false ∧ Fr g L' h m' ∧ Knows [(Str.ofString "found", .ref F), (Str.ofString "data", .ref xd)] m' ∧ News g L' h ((F, o) :: news) ∧ o.IsDictOf (PySem.strKind PySem.Challenge.rw_nt0032_01.row.prog w) []) ?_ ?_
  · repeat' (first | ((with_reducible show wpAny _ _ (execs (_ :: _) _) _ _ _); walk1; (try dsimp only)) | ((fail_if_success (with_reducible show wpAny _ _ (eval (Expr.ListComp _ _ _ _) _) _ _ _); fail_if_success (with_reducible show wpAny _ _ (exec (Stmt.While _ _ _ _) _) _ _ _); fail_if_success ((with_reducible show wpAny _ _ (exec _ _) _ _ _); show wpAny _ _ (exec (Stmt.For _ _ _ _ _) _) _ _ _); fail_if_success (with_reducible show wpAny _ _ (call (Value.ref _) _) _ _ _)); walk1) | (dsimp only; (fail_if_success (with_reducible show wpAny _ _ (eval (Expr.ListComp _ _ _ _) _) _ _ _); fail_if_success (with_reducible show wpAny _ _ (exec (Stmt.While _ _ _ _) _) _ _ _); fail_if_success ((with_reducible show wpAny _ _ (exec _ _) _ _ _); show wpAny _ _ (exec (Stmt.For _ _ _ _ _) _) _ _ _); fail_if_success (with_reducible show wpAny _ _ (call (Value.ref _) _) _ _ _)); walk1))
    (try dsimp only)
    refine wpAny_execs_nil ?_
    (try dsimp only)
    rename Fr _ _ _ _ => F6
    rename News _ _ _ _ => N6
    exact ⟨_, _, _, _, _, rfl, by first | assumption | (exact allLt_mem (by assumption)) | (simp_all), by assumption, F6, ⟨rfl, rfl, trivial⟩, N6, by assumption⟩
  · rintro s' ⟨F, o, h, tk, m', rfl, o1, lo, F2, hm, N2, hod⟩
    rw [hm.ov] at F2
    clear hm F' N'
    show wpAny _ _ (execs (_ :: _) _) _ _ _
    walk1
    refine for_at ?_
    repeat' (first | ((with_reducible show wpAny _ _ (execs (_ :: _) _) _ _ _); walk1; (try dsimp only)) | ((fail_if_success (with_reducible show wpAny _ _ (eval (Expr.ListComp _ _ _ _) _) _ _ _); fail_if_success (with_reducible show wpAny _ _ (exec (Stmt.While _ _ _ _) _) _ _ _); fail_if_success ((with_reducible show wpAny _ _ (exec _ _) _ _ _); show wpAny _ _ (exec (Stmt.For _ _ _ _ _) _) _ _ _); fail_if_success (with_reducible show wpAny _ _ (call (Value.ref _) _) _ _ _)); walk1) | (dsimp only; (fail_if_success (with_reducible show wpAny _ _ (eval (Expr.ListComp _ _ _ _) _) _ _ _); fail_if_success (with_reducible show wpAny _ _ (exec (Stmt.While _ _ _ _) _) _ _ _); fail_if_success ((with_reducible show wpAny _ _ (exec _ _) _ _ _); show wpAny _ _ (exec (Stmt.For _ _ _ _ _) _) _ _ _); fail_if_success (with_reducible show wpAny _ _ (call (Value.ref _) _) _ _ _)); walk1))
    refine mapdm_spec ⟨by k_asm, by k_asm, by k_asm, by k_asm, by k_asm, rfl, by show dp + 1 + 8 < _; omega, by show un + 3 + 40 < _; omega⟩ (hD.mono fun q hq => by k_mem) ?_
    intro xm news' h₃ tk₃ keep hD3 hxm F₃ N₃
    clear F2 N2
    have hmp : F ≠ mp := by
      intro e
      subst e
      obtain ⟨kvs, x, dv, ns, vals, vv, hDA, r⟩ := hD
      obtain ⟨om, h9, _⟩ := hDA.map
      exact Nat.lt_irrefl _ (o1 _ h9)
    have hFm := keep _ (.head _) hmp
    have keep' : ∀ q ∈ news, q.1 ≠ mp → q ∈ news' := fun q hq hn => keep q (.tail _ hq) hn
    obtain ⟨dx, st, vl, tt1, tt2, tt3, gg1, gg2, gg3, jj, k1, k2, sv, q1, q2, q3, q4, q5⟩ := id hxm
    repeat' (first | ((with_reducible show wpAny _ _ (execs (_ :: _) _) _ _ _); walk1; (try dsimp only)) | ((fail_if_success (with_reducible show wpAny _ _ (eval (Expr.ListComp _ _ _ _) _) _ _ _); fail_if_success (with_reducible show wpAny _ _ (exec (Stmt.While _ _ _ _) _) _ _ _); fail_if_success ((with_reducible show wpAny _ _ (exec _ _) _ _ _); show wpAny _ _ (exec (Stmt.For _ _ _ _ _) _) _ _ _); fail_if_success (with_reducible show wpAny _ _ (call (Value.ref _) _) _ _ _)); walk1) | (dsimp only; (fail_if_success (with_reducible show wpAny _ _ (eval (Expr.ListComp _ _ _ _) _) _ _ _); fail_if_success (with_reducible show wpAny _ _ (exec (Stmt.While _ _ _ _) _) _ _ _); fail_if_success ((with_reducible show wpAny _ _ (exec _ _) _ _ _); show wpAny _ _ (exec (Stmt.For _ _ _ _ _) _) _ _ _); fail_if_success (with_reducible show wpAny _ _ (call (Value.ref _) _) _ _ _)); walk1))
    refine ranges_spec ⟨by k_asm, by k_asm, by k_asm, by k_asm, by k_asm, rfl, by show dp + 1 + 6 < _; omega, by show un + 3 + 80 < _; omega⟩ hxm ?_
    intro D k h₄ tk₄ F₄ N₄
    clear F₃ N₃
    repeat' (first | ((with_reducible show wpAny _ _ (execs (_ :: _) _) _ _ _); walk1; (try dsimp only)) | ((fail_if_success (with_reducible show wpAny _ _ (eval (Expr.ListComp _ _ _ _) _) _ _ _); fail_if_success (with_reducible show wpAny _ _ (exec (Stmt.While _ _ _ _) _) _ _ _); fail_if_success ((with_reducible show wpAny _ _ (exec _ _) _ _ _); show wpAny _ _ (exec (Stmt.For _ _ _ _ _) _) _ _ _); fail_if_success (with_reducible show wpAny _ _ (call (Value.ref _) _) _ _ _)); walk1) | (dsimp only; (fail_if_success (with_reducible show wpAny _ _ (eval (Expr.ListComp _ _ _ _) _) _ _ _); fail_if_success (with_reducible show wpAny _ _ (exec (Stmt.While _ _ _ _) _) _ _ _); fail_if_success ((with_reducible show wpAny _ _ (exec _ _) _ _ _); show wpAny _ _ (exec (Stmt.For _ _ _ _ _) _) _ _ _); fail_if_success (with_reducible show wpAny _ _ (call (Value.ref _) _) _ _ _)); walk1))
    refine ForAt.nil rfl F₄ N₄ (.head _) ?_
    intro h₅ tk₅ F₅ N₅
    clear F₄ N₄
    repeat' (first | ((with_reducible show wpAny _ _ (execs (_ :: _) _) _ _ _); walk1; (try dsimp only)) | ((fail_if_success (with_reducible show wpAny _ _ (eval (Expr.ListComp _ _ _ _) _) _ _ _); fail_if_success (with_reducible show wpAny _ _ (exec (Stmt.While _ _ _ _) _) _ _ _); fail_if_success ((with_reducible show wpAny _ _ (exec _ _) _ _ _); show wpAny _ _ (exec (Stmt.For _ _ _ _ _) _) _ _ _); fail_if_success (with_reducible show wpAny _ _ (call (Value.ref _) _) _ _ _)); walk1) | (dsimp only; (fail_if_success (with_reducible show wpAny _ _ (eval (Expr.ListComp _ _ _ _) _) _ _ _); fail_if_success (with_reducible show wpAny _ _ (exec (Stmt.While _ _ _ _) _) _ _ _); fail_if_success ((with_reducible show wpAny _ _ (exec _ _) _ _ _); show wpAny _ _ (exec (Stmt.For _ _ _ _ _) _) _ _ _); fail_if_success (with_reducible show wpAny _ _ (call (Value.ref _) _) _ _ _)); walk1))
    exact hQ₀ _ _ <| RetAt.ret F₅ (fun q hq => N₅ q (.tail _ hq)) ⟨F, o, rfl, keep', hD3, ⟨hFm, hod⟩, lo, o1⟩
/-- DC does not lean on an object of none of its kinds -/
theorem DC.minus {xd mp d : Addr} {f : Int → Int} {b : Bool} {n : Led} {g h : Heap} {L' : Addr} {od : Obj} (hD : DC w xd mp f b n) (N : News g L' h n) (hd : (d, od) ∈ n) (b1 : ∀ c, od.cls ≠ .ref c) (b2 : od.cls ≠ .type "list") (b3 : od.cls = .type "dict" → ∃ ep, od.data = .dict #[] ep) : DC w xd mp f b (minus d n) := by
  have ne : ∀ q ∈ n, q.2.cls ≠ od.cls → q ∈ Mine.minus d n := fun q hq hc => mem_minus.mpr ⟨hq, listEq (N _ hq).1 (N _ hd).1 hc⟩
  have inst : ∀ q ∈ n, (∃ c, q.2.cls = .ref c) → q ∈ Mine.minus d n := fun q hq ⟨c, hc⟩ => ne q hq (by rw [hc]; exact (b1 c).symm)
  have dict : ∀ q ∈ n, q.2.cls = .type "dict" → (∀ ep, q.2.data ≠ .dict #[] ep) → q ∈ Mine.minus d n := fun q hq hc hn => mem_minus.mpr ⟨hq, fun e => by
    have h1 := (N _ hq).1
    have h2 := (N _ hd).1
    rw [e, h2] at h1
    have h3 : od = q.2 := Option.some.inj h1
    obtain ⟨ep, h4⟩ := b3 (by rw [h3]; exact hc)
    exact hn ep (by rw [← h3]; exact h4)⟩
  have lists : ∀ q ∈ n, q.2.cls = .type "list" → q ∈ Mine.minus d n := fun q hq hc => ne q hq (by rw [hc]; exact b2.symm)
  have dof : ∀ q ∈ n, ∀ (kvs : List (Str × Value)) (v : Value), q.2.IsDictOf (PySem.strKind PySem.Challenge.rw_nt0032_01.row.prog w) kvs → valueAt kvs (Str.ofString "ccc") = some v → q ∈ Mine.minus d n := fun q hq kvs v ho hv => by
    obtain ⟨es, ep, hc, he, _, hp, _⟩ := ho
    refine dict q hq hc.1 fun ep' e => ?_
    rw [he] at e
    injection e with e _
    have h1 := hp.find (Str.ofString "ccc")
    rw [hv, e] at h1
    cases h1
  have rm : ∀ {x dv ns vv}, RM n x dv ns vv → RM (Mine.minus d n) x dv ns vv := by
    rintro x dv ns vv ⟨dx, st, vl, t1, t2, t3, g1, g2, g3, n, k1, k2, sv, q1, q2, q3, q4, q5⟩
    exact ⟨dx, st, vl, t1, t2, t3, g1, g2, g3, n, k1, k2, sv, inst _ q1 ⟨_, rfl⟩, dict _ q2 rfl (fun ep e => by injection e with e _; simp at e), lists _ q3 rfl, lists _ q4 rfl, q5⟩
  obtain ⟨kvs, x, dv, ns, vals, vv, ⟨ddx, df, pr, wd, om, od, t1, t2, t3, t4, g1, g2, g3, g4, j, m1, m2, m3, ⟨dk, td, hdk1, hdk2, hdk3, hdk4⟩, lodf, m4, hom, r⟩, hv, hx, hvv, hl, hs, hvl, h0, hk, hf, hb⟩ := hD
  refine ⟨kvs, x, dv, ns, vals, vv, ⟨ddx, df, pr, wd, om, od, t1, t2, t3, t4, g1, g2, g3, g4, j, inst _ m1 ⟨_, rfl⟩, dict _ m2 rfl (fun ep e => by injection e with e _; simp at e), dof _ m3 dk _ hdk1 hdk2, ⟨dk, td, hdk1, hdk2, hdk3, hdk4⟩, lodf, dof _ m4 kvs _ hom hv, hom, r⟩, hv, rm hx, hvv, hl, hs, hvl, h0, hk, hf, ?_⟩
  cases b with
  | true =>
    obtain ⟨xm, h1, h2⟩ := hb
    exact ⟨xm, h1, rm h2⟩
  | false => exact hb
theorem composer_spec {xd mp : Addr} {f : Int → Int} {b : Bool} (c : Cx w p loose mean mg mb outer A₀ base h₀ L m news s cs dp un 14 160) (hD : DC w xd mp f b news)
    (ret : ∀ cp news' h' tk', (∀ q ∈ news, q.1 ≠ mp → q ∈ news') → DC w xd mp f true news' → Fr h₀ L h' m → News h₀ L h' news' → Q (.ref cp) { s with heap := h', toks := tk' }) :
    wpAny (md w) (ktrTop dp un gd cn cs L a ccd cl outer) (call (.ref 168) [.ref xd]) Q (fun _ _ => False) s := by
  refine make (d := 12) (u := 140) (fun x => [(Str.ofString "self", .ref x), (Str.ofString "data", .ref xd)]) (fun x news' => (∀ q ∈ news, q.1 ≠ mp → q ∈ news') ∧ DC w xd mp f true news') ⟨c.B, c.F, c.X, c.N, c.T, c.hk, by have := c.hd; omega, by have := c.hu; omega⟩ rfl rfl rfl rfl rfl (fun x s => BindsTo.of_eq rfl) (fun x => rfl) rfl rfl rfl (by decide) ?_ ?_
  · intro x dx gd' un' g L' h₁ tk hun F₂ N₂ B₂ X₂ T₂ hne hlt
    obtain ⟨B, F, X, N, T, hk, hd, hu⟩ := c
    clear B F X N T
    k_lt2 hlt
    have hn1 : ∀ q ∈ news, q.1 ≠ dx := fun q hq => Nat.ne_of_lt (hne q hq).1
    repeat' (first | ((with_reducible show wpAny _ _ (execs (_ :: _) _) _ _ _); walk1; (try dsimp only)) | ((fail_if_success (with_reducible show wpAny _ _ (eval (Expr.ListComp _ _ _ _) _) _ _ _); fail_if_success (with_reducible show wpAny _ _ (exec (Stmt.While _ _ _ _) _) _ _ _); fail_if_success ((with_reducible show wpAny _ _ (exec _ _) _ _ _); show wpAny _ _ (exec (Stmt.For _ _ _ _ _) _) _ _ _); fail_if_success (with_reducible show wpAny _ _ (call (Value.ref _) _) _ _ _)); walk1) | (dsimp only; (fail_if_success (with_reducible show wpAny _ _ (eval (Expr.ListComp _ _ _ _) _) _ _ _); fail_if_success (with_reducible show wpAny _ _ (exec (Stmt.While _ _ _ _) _) _ _ _); fail_if_success ((with_reducible show wpAny _ _ (exec _ _) _ _ _); show wpAny _ _ (exec (Stmt.For _ _ _ _ _) _) _ _ _); fail_if_success (with_reducible show wpAny _ _ (call (Value.ref _) _) _ _ _)); walk1))
    refine pc_spec ⟨by k_asm, by k_asm, by k_asm, by k_asm, by k_asm, rfl, by show dp + 1 + 1 + 10 < _; omega, by show un' + 3 + 120 < _; omega⟩ (hD.mono fun q hq => by k_mem) ?_
    intro D o news' h₃ tk₃ keep hD3 hDo hlo F₃ N₃
    obtain ⟨lo, lD⟩ := hlo
    clear F₂ N₂
    obtain ⟨hDm, hod⟩ := hDo
    have hmp : mp < dx := by
      obtain ⟨kvs, x, dv, ns, vals, vv, hDA, r⟩ := hD
      obtain ⟨om, h9, _⟩ := hDA.map
      exact (hne _ h9).1
    have ltN1 := ltN hmp
    have ltN2 := ltN hlt
    have kx := keep _ (.head _) (by refine neN ?_; dsimp only; omega)
    have kdx := keep _ (.tail _ (.head _)) (Nat.ne_of_gt hmp)
    have hD4 := hD3.minus N₃ kdx (fun c => by intro e; cases e) (by decide) (fun _ => ⟨_, rfl⟩)
    have N₄ := News.front N₃ kdx
    have m1 : (x, instObj 168 dx) ∈ minus dx news' := mem_minus.mpr ⟨kx, Nat.ne_of_gt hlt⟩
    have m2 : (D, o) ∈ minus dx news' := by
      exact mem_minus.mpr ⟨hDm, Nat.ne_of_gt (lD _ (.tail _ (.head _)))⟩
    have keep' : ∀ q ∈ news, q.1 ≠ mp → q ∈ minus dx news' := fun q hq hn => mem_minus.mpr ⟨keep q (.tail _ (.tail _ hq)) hn, hn1 q hq⟩
    have hrest : ∀ q ∈ minus dx news', q.1 ≠ dx := minus_ne
    clear N₃ hD3 kx kdx hDm keep
    generalize minus dx news' = rest at *
    repeat' (first | ((with_reducible show wpAny _ _ (execs (_ :: _) _) _ _ _); walk1; (try dsimp only)) | ((fail_if_success (with_reducible show wpAny _ _ (eval (Expr.ListComp _ _ _ _) _) _ _ _); fail_if_success (with_reducible show wpAny _ _ (exec (Stmt.While _ _ _ _) _) _ _ _); fail_if_success ((with_reducible show wpAny _ _ (exec _ _) _ _ _); show wpAny _ _ (exec (Stmt.For _ _ _ _ _) _) _ _ _); fail_if_success (with_reducible show wpAny _ _ (call (Value.ref _) _) _ _ _)); walk1) | (dsimp only; (fail_if_success (with_reducible show wpAny _ _ (eval (Expr.ListComp _ _ _ _) _) _ _ _); fail_if_success (with_reducible show wpAny _ _ (exec (Stmt.While _ _ _ _) _) _ _ _); fail_if_success ((with_reducible show wpAny _ _ (exec _ _) _ _ _); show wpAny _ _ (exec (Stmt.For _ _ _ _ _) _) _ _ _); fail_if_success (with_reducible show wpAny _ _ (call (Value.ref _) _) _ _ _)); walk1))
    refine for_at ?_
    repeat' (first | ((with_reducible show wpAny _ _ (execs (_ :: _) _) _ _ _); walk1; (try dsimp only)) | ((fail_if_success (with_reducible show wpAny _ _ (eval (Expr.ListComp _ _ _ _) _) _ _ _); fail_if_success (with_reducible show wpAny _ _ (exec (Stmt.While _ _ _ _) _) _ _ _); fail_if_success ((with_reducible show wpAny _ _ (exec _ _) _ _ _); show wpAny _ _ (exec (Stmt.For _ _ _ _ _) _) _ _ _); fail_if_success (with_reducible show wpAny _ _ (call (Value.ref _) _) _ _ _)); walk1) | (dsimp only; (fail_if_success (with_reducible show wpAny _ _ (eval (Expr.ListComp _ _ _ _) _) _ _ _); fail_if_success (with_reducible show wpAny _ _ (exec (Stmt.While _ _ _ _) _) _ _ _); fail_if_success ((with_reducible show wpAny _ _ (exec _ _) _ _ _); show wpAny _ _ (exec (Stmt.For _ _ _ _ _) _) _ _ _); fail_if_success (with_reducible show wpAny _ _ (call (Value.ref _) _) _ _ _)); walk1))
    rename Fr _ _ _ _ => F6
    rename News _ _ _ _ => N6
    refine ForAt.nilDict (l := D) (o := o) rfl F6 N6 (by k_mem) hod lo ?_
    intro h₅ tk₅ F₅ N₅
    clear F6 N6
    repeat' (first | ((with_reducible show wpAny _ _ (execs (_ :: _) _) _ _ _); walk1; (try dsimp only)) | ((fail_if_success (with_reducible show wpAny _ _ (eval (Expr.ListComp _ _ _ _) _) _ _ _); fail_if_success (with_reducible show wpAny _ _ (exec (Stmt.While _ _ _ _) _) _ _ _); fail_if_success ((with_reducible show wpAny _ _ (exec _ _) _ _ _); show wpAny _ _ (exec (Stmt.For _ _ _ _ _) _) _ _ _); fail_if_success (with_reducible show wpAny _ _ (call (Value.ref _) _) _ _ _)); walk1) | (dsimp only; (fail_if_success (with_reducible show wpAny _ _ (eval (Expr.ListComp _ _ _ _) _) _ _ _); fail_if_success (with_reducible show wpAny _ _ (exec (Stmt.While _ _ _ _) _) _ _ _); fail_if_success ((with_reducible show wpAny _ _ (exec _ _) _ _ _); show wpAny _ _ (exec (Stmt.For _ _ _ _ _) _) _ _ _); fail_if_success (with_reducible show wpAny _ _ (call (Value.ref _) _) _ _ _)); walk1))
    refine RetAt.next F₅ (news' := rest) (fun q hq => N₅ q (by k_mem)) ⟨rfl, keep', hD4⟩
  · rintro x news' h' tk' ⟨e1, e2⟩ F' N'
    exact ret x news' h' tk' e1 e2 F' N'
end
end
section
set_option maxHeartbeats 1000000
theorem reg18 (w : World) : (model PySem.Challenge.rw_nt0032_01.row.prog w = model PySem.Challenge.rw_nt0032_01.row.prog w) ∧ K w.params = K w.params := by
  k_fill
  exact ⟨rfl, rfl⟩
section
variable {w : World} {p : Program} {loose : List Str} {mean : ExcName → Option Value} {mg mb : Mp} {dp un : Nat} {gd : Option (List Code)} {cn : Str} {cs : Scope} {a : Addr} {ccd : Value} {cl : List (Str × Addr)} {outer : List Env} {A₀ : Around} {base h₀ : Heap} {L : Addr} {m : Mp} {news : Led} {s : Shared} {Q : Value → Shared → Prop}
theorem LamL.tab {lam : Led} (h : LamL lam) : ∃ vs, (112, tabObj vs) ∈ lam := by
  rcases h with rfl | ⟨c', oc, vs, t, rfl, _⟩
  · exact ⟨_, .head _⟩
  · exact ⟨_, .head _⟩
theorem DC.mpAt {xd mp : Addr} {f : Int → Int} {b : Bool} {n : Led} (h : DC w xd mp f b n) : ∃ om es ep, (mp, om) ∈ n ∧ om.cls = .type "dict" ∧ om.data = .dict es ep := by
  obtain ⟨kvs, x, dv, ns, vals, vv, hDA, r⟩ := h
  obtain ⟨ddx, df, pr, wd, om, od, t1, t2, t3, t4, g1, g2, g3, g4, j, m1, m2, m3, hdf, lodf, m4, hom, r⟩ := hDA
  obtain ⟨es, ep, hc, hd, _⟩ := hom
  exact ⟨om, es, ep, m4, hc.1, hd⟩
theorem composerL_spec {xd mp : Addr} {f : Int → Int} {b : Bool} {lam rest : Led} (hlam : LamL lam) (c : Cx w p loose mean mg mb outer A₀ base h₀ L m (lam ++ rest) s cs dp un 14 160) (hD : DC w xd mp f b rest)
    (ret : ∀ cp rest' h' tk', (∀ q ∈ rest, q.1 ≠ mp → q.1 ≠ 112 → q ∈ rest') → DC w xd mp f true rest' → (∀ q ∈ rest', q.1 ≠ 112) → Fr h₀ L h' m → News h₀ L h' (lam ++ rest') → Q (.ref cp) { s with heap := h', toks := tk' }) :
    wpAny (md w) (ktrTop dp un gd cn cs L a ccd cl outer) (call (.ref 168) [.ref xd]) Q (fun _ _ => False) s := by
  have N0 := c.N
  refine composer_spec (f := f) (b := b) c (hD.mono fun q hq => List.mem_append_right _ hq) ?_
  intro cp news' h' tk' keep hD' F' N'
  have kl : ∀ q ∈ lam, q ∈ news' := fun q hq => by
    refine keep q (List.mem_append_left _ hq) fun e => ?_
    obtain ⟨om, es, ep, h1, h2, h3⟩ := hD.mpAt
    obtain ⟨vs, hv⟩ := hlam.flds q hq
    have a1 := (N0 q (List.mem_append_left _ hq)).1
    have a2 := (N0 _ (List.mem_append_right _ h1)).1
    rw [e] at a1
    dsimp only at a2
    rw [a2] at a1
    obtain rfl := Option.some.inj a1
    rw [hv] at h3
    cases h3
  obtain ⟨vs, hv⟩ := hlam.tab
  refine ret cp (minus 112 news') h' tk' (fun q hq hn h1 => mem_minus.mpr ⟨keep q (List.mem_append_right _ hq) hn, h1⟩) (hD'.minus N' (kl _ hv) (fun c e => by cases e) (fun e => by cases e) (fun e => by cases e)) minus_ne F' fun q hq => ?_
  rcases List.mem_append.mp hq with hq | hq
  · exact N' q (kl q hq)
  · exact N' q (mem_minus.mp hq).1
theorem formof_spec {xd mp tx cp : Addr} {f : Int → Int} {b : Bool} {n : Int} {t wt : Tok} {k : Nat} {lam rest : Led} (hlam : LamL lam) (c : Cx w p loose mean mg mb outer A₀ base h₀ L m (lam ++ rest) s cs dp un 18 200) (h112 : ∀ q ∈ rest, q.1 ≠ 112)
    (hD : DC w xd mp f b rest) (ht : (tx, listObj [.int n t] k) ∈ rest) (h1 : 97 ≤ n) (h2 : n < 105)
    (ret : ∀ D t' k' lam' h' tk', LamL lam' → Fr h₀ L h' m → News h₀ L h' ((D, listObj [.int n t'] k') :: (lam' ++ rest)) → Q (.ref D) { s with heap := h', toks := tk' }) :
    wpAny (md w) (ktrTop dp un gd cn cs L a ccd cl outer) (call (.ref 188) [.ref tx, .ref xd, .str (Str.ofString "nfd") wt, .ref cp]) Q (fun _ _ => False) s := by
  have hd := c.hd
  have hu := c.hu
  refine wpAny_call (enter (qual := Str.ofString "form_of") [(Str.ofString "text", .ref tx), (Str.ofString "data", .ref xd), (Str.ofString "word", .str (Str.ofString "nfd") wt), (Str.ofString "composer", .ref cp)] (fun v news' => ∃ D t' k' lam', v = .ref D ∧ news' = (D, listObj [.int n t'] k') :: (lam' ++ rest) ∧ LamL lam') c
    (by k_is) (by k_is) (binds_K (K := K w.params) (T := 181) (fun b o e => c.F.keep b o (c.X b o e)) rfl (by k_is) rfl rfl rfl) rfl rfl rfl rfl (by decide) ?_ (by rintro v news' h' tk' ⟨D, t', k', lam', rfl, rfl, e1⟩ F' N'; exact ret D t' k' lam' h' tk' e1 F' N'))
  clear c ret
  intro g L' h' tk' F' N' B' X' T' _
  refine @wp_gen Flow _ _ _ _ _ _ ?_
  intro Q₀ hQ₀
  repeat' (first | ((with_reducible show wpAny _ _ (execs (_ :: _) _) _ _ _); walk1; (try dsimp only)) | ((fail_if_success (with_reducible show wpAny _ _ (eval (Expr.ListComp _ _ _ _) _) _ _ _); fail_if_success (with_reducible show wpAny _ _ (exec (Stmt.While _ _ _ _) _) _ _ _); fail_if_success ((with_reducible show wpAny _ _ (exec _ _) _ _ _); show wpAny _ _ (exec (Stmt.For _ _ _ _ _) _) _ _ _); fail_if_success (with_reducible show wpAny _ _ (call (Value.ref _) _) _ _ _)); walk1) | (dsimp only; (fail_if_success (with_reducible show wpAny _ _ (eval (Expr.ListComp _ _ _ _) _) _ _ _); fail_if_success (with_reducible show wpAny _ _ (exec (Stmt.While _ _ _ _) _) _ _ _); fail_if_success ((with_reducible show wpAny _ _ (exec _ _) _ _ _); show wpAny _ _ (exec (Stmt.For _ _ _ _ _) _) _ _ _); fail_if_success (with_reducible show wpAny _ _ (call (Value.ref _) _) _ _ _)); walk1))
  rename News _ _ _ _ => N6
  rename Fr _ _ _ _ => F6
  replace N6 := fun q hq => N6 q (.tail _ hq)
  refine decomposed_spec (cs₁ := [n]) hlam ⟨by k_asm, by k_asm, by k_asm, by k_asm, by k_asm, rfl, by show dp + 1 + 14 < _; omega, by show un + 3 + 160 < _; omega⟩ h112 hD ht (IntsAre.cons _ _ .nil) (fun c hc => by obtain rfl := List.mem_singleton.mp hc; exact ⟨h1, h2⟩) (show 1 < 60 by decide) ?_
  intro D out k2 lam' fnd ps qs h₇ tk₇ hlam' hout hO hsr hDn F₇ N₇
  have e9 := hO.eq hsr (due := [n]) trivial (Same.refl _)
  rw [e9] at hout
  obtain ⟨t9, out', rfl, h9⟩ := hout.cons_inv
  obtain rfl := h9.nil_inv
  repeat' (first | ((with_reducible show wpAny _ _ (execs (_ :: _) _) _ _ _); walk1; (try dsimp only)) | ((fail_if_success (with_reducible show wpAny _ _ (eval (Expr.ListComp _ _ _ _) _) _ _ _); fail_if_success (with_reducible show wpAny _ _ (exec (Stmt.While _ _ _ _) _) _ _ _); fail_if_success ((with_reducible show wpAny _ _ (exec _ _) _ _ _); show wpAny _ _ (exec (Stmt.For _ _ _ _ _) _) _ _ _); fail_if_success (with_reducible show wpAny _ _ (call (Value.ref _) _) _ _ _)); walk1) | (dsimp only; (fail_if_success (with_reducible show wpAny _ _ (eval (Expr.ListComp _ _ _ _) _) _ _ _); fail_if_success (with_reducible show wpAny _ _ (exec (Stmt.While _ _ _ _) _) _ _ _); fail_if_success ((with_reducible show wpAny _ _ (exec _ _) _ _ _); show wpAny _ _ (exec (Stmt.For _ _ _ _ _) _) _ _ _); fail_if_success (with_reducible show wpAny _ _ (call (Value.ref _) _) _ _ _)); walk1))
  rename Fr _ _ _ _ => F8
  rename News _ _ _ _ => N8
  exact hQ₀ _ _ <| RetAt.ret F8 (news' := (D, listObj [.int n t9] k2) :: (lam' ++ rest)) (fun q hq => N8 q (by first | exact hq | exact .tail _ hq)) ⟨D, t9, k2, lam', rfl, rfl, hlam'⟩
theorem quick_spec {xd mp cp : Addr} {f : Int → Int} {b : Bool} {n : Int} {t wt : Tok} {lam rest : Led} (hlam : LamL lam) (c : Cx w p loose mean mg mb outer A₀ base h₀ L m (lam ++ rest) s cs dp un 20 240) (h112 : ∀ q ∈ rest, q.1 ≠ 112)
    (hD : DC w xd mp f b rest) (h1 : 97 ≤ n) (h2 : n < 105)
    (ret : ∀ t' lam' h' tk', LamL lam' → Fr h₀ L h' m → News h₀ L h' (lam' ++ rest) → Q (.str (Str.ofString "yes") t') { s with heap := h', toks := tk' }) :
    wpAny (md w) (ktrTop dp un gd cn cs L a ccd cl outer) (call (.ref 195) [.int n t, .ref xd, .str (Str.ofString "nfd") wt, .ref cp]) Q (fun _ _ => False) s := by
  have hd := c.hd
  have hu := c.hu
  refine wpAny_call (enter (qual := Str.ofString "form_quick") [(Str.ofString "code", .int n t), (Str.ofString "data", .ref xd), (Str.ofString "word", .str (Str.ofString "nfd") wt), (Str.ofString "composer", .ref cp)] (fun v news' => ∃ t' lam', v = .str (Str.ofString "yes") t' ∧ news' = lam' ++ rest ∧ LamL lam') c
    (by k_is) (by k_is) (BindsTo.of_eq rfl) rfl rfl rfl rfl (by decide) ?_ (by rintro v news' h' tk' ⟨t', lam', rfl, rfl, e1⟩ F' N'; exact ret t' lam' h' tk' e1 F' N'))
  clear c ret
  intro g L' h' tk' F' N' B' X' T' _
  refine @wp_gen Flow _ _ _ _ _ _ ?_
  intro Q₀ hQ₀
  repeat' (first | ((with_reducible show wpAny _ _ (execs (_ :: _) _) _ _ _); walk1; (try dsimp only)) | ((fail_if_success (with_reducible show wpAny _ _ (eval (Expr.ListComp _ _ _ _) _) _ _ _); fail_if_success (with_reducible show wpAny _ _ (exec (Stmt.While _ _ _ _) _) _ _ _); fail_if_success ((with_reducible show wpAny _ _ (exec _ _) _ _ _); show wpAny _ _ (exec (Stmt.For _ _ _ _ _) _) _ _ _); fail_if_success (with_reducible show wpAny _ _ (call (Value.ref _) _) _ _ _)); walk1) | (dsimp only; (fail_if_success (with_reducible show wpAny _ _ (eval (Expr.ListComp _ _ _ _) _) _ _ _); fail_if_success (with_reducible show wpAny _ _ (exec (Stmt.While _ _ _ _) _) _ _ _); fail_if_success ((with_reducible show wpAny _ _ (exec _ _) _ _ _); show wpAny _ _ (exec (Stmt.For _ _ _ _ _) _) _ _ _); fail_if_success (with_reducible show wpAny _ _ (call (Value.ref _) _) _ _ _)); walk1))
  rename News _ _ _ _ => N6
  rename Fr _ _ _ _ => F6
  have key : ∀ T : Addr, (∀ q ∈ lam ++ rest, q.1 < T) → T ≠ 112 := fun T lT => by
    obtain ⟨o9, h9⟩ := hlam.at112
    exact Nat.ne_of_gt (lT _ (List.mem_append_left _ h9))
  refine formof_spec (k := 0) (t := t) (lam := lam) (rest := (_, listObj [.int n t] 0) :: rest) hlam ⟨by k_asm, F6, by k_asm, ?n1, by k_asm, rfl, by show dp + 1 + 18 < _; omega, by show un + 3 + 200 < _; omega⟩ ?n2 (hD.mono fun q hq => .tail _ hq) (.head _) h1 h2 ?_
  case n1 =>
    intro q hq
    refine N6 q ?_
    simp only [List.mem_cons, List.mem_append] at hq ⊢
    rcases hq with hq | hq | hq
    · exact .inr (.inl hq)
    · exact .inl hq
    · exact .inr (.inr hq)
  case n2 =>
    intro q hq
    rcases List.mem_cons.mp hq with rfl | hq
    · exact key _ (by assumption)
    · exact h112 q hq
  intro D t9 k2 lam' h₇ tk₇ hlam' F₇ N₇
  clear N6 F6
  replace N₇ : News g L' h₇ ((D, listObj [.int n t9] k2) :: (lam' ++ rest)) := fun q hq => N₇ q (by
    simp only [List.mem_cons, List.mem_append] at hq ⊢
    rcases hq with hq | hq | hq
    · exact .inl hq
    · exact .inr (.inl hq)
    · exact .inr (.inr (.inr hq)))
  repeat' (first | ((with_reducible show wpAny _ _ (execs (_ :: _) _) _ _ _); walk1; (try dsimp only)) | ((fail_if_success (with_reducible show wpAny _ _ (eval (Expr.ListComp _ _ _ _) _) _ _ _); fail_if_success (with_reducible show wpAny _ _ (exec (Stmt.While _ _ _ _) _) _ _ _); fail_if_success ((with_reducible show wpAny _ _ (exec _ _) _ _ _); show wpAny _ _ (exec (Stmt.For _ _ _ _ _) _) _ _ _); fail_if_success (with_reducible show wpAny _ _ (call (Value.ref _) _) _ _ _)); walk1) | (dsimp only; (fail_if_success (with_reducible show wpAny _ _ (eval (Expr.ListComp _ _ _ _) _) _ _ _); fail_if_success (with_reducible show wpAny _ _ (exec (Stmt.While _ _ _ _) _) _ _ _); fail_if_success ((with_reducible show wpAny _ _ (exec _ _) _ _ _); show wpAny _ _ (exec (Stmt.For _ _ _ _ _) _) _ _ _); fail_if_success (with_reducible show wpAny _ _ (call (Value.ref _) _) _ _ _)); walk1))
  rename Fr _ _ _ _ => F8
  rename News _ _ _ _ => N8
  exact hQ₀ _ _ <| RetAt.ret F8 (news' := lam' ++ rest) (fun q hq => N8 q (by k_mem)) ⟨_, lam', rfl, rfl, hlam'⟩
end
end
section
set_option maxHeartbeats 1000000
theorem reg19 (w : World) : (model PySem.Challenge.rw_nt0032_01.row.prog w = model PySem.Challenge.rw_nt0032_01.row.prog w) ∧ K w.params = K w.params := by
  k_fill
  exact ⟨rfl, rfl⟩
section
variable {w : World} {p : Program} {loose : List Str} {mean : ExcName → Option Value} {mg mb : Mp} {dp un : Nat} {gd : Option (List Code)} {cn : Str} {cs : Scope} {a : Addr} {ccd : Value} {cl : List (Str × Addr)} {outer : List Env} {A₀ : Around} {base h₀ : Heap} {L : Addr} {m : Mp} {news : Led} {s : Shared} {Q : Value → Shared → Prop}
theorem NoDesc.left {f : Int → Int} : ∀ {u v : List Int}, NoDesc f (u ++ v) → NoDesc f u
  | [], _, _ => trivial
  | [a], _, _ => trivial
  | a :: b :: u, v, h => ⟨h.1, NoDesc.left (u := b :: u) (v := v) h.2⟩
theorem NoDesc.snoc_iff {f : Int → Int} {c : Int} : ∀ {u : List Int}, NoDesc f (u ++ [c]) ↔ NoDesc f u ∧ ∀ a, u.getLast? = some a → ¬ (0 < f c ∧ f c < f a)
  | [] => ⟨fun _ => ⟨trivial, fun a h => by simp at h⟩, fun _ => trivial⟩
  | [a] => ⟨fun h => ⟨trivial, fun a' e => by
      obtain rfl : a = a' := by simpa using e
      exact h.1⟩, fun h => ⟨h.2 a rfl, trivial⟩⟩
  | a :: b :: u => by
    have ih := NoDesc.snoc_iff (f := f) (c := c) (u := b :: u)
    have e : (a :: b :: u).getLast? = (b :: u).getLast? := by simp [List.getLast?_cons]
    rw [e]
    constructor
    · intro h
      have h2 := ih.mp h.2
      exact ⟨⟨h.1, h2.1⟩, h2.2⟩
    · rintro ⟨h1, h2⟩
      exact ⟨h1.1, ih.mpr ⟨h1.2, h2⟩⟩
/-- what quick_check answers -/
def QcPost (w : World) (xd mp : Addr) (f : Int → Int) (cs₁ : List Int) (rest : Led) (v : Value) (news' : Led) : Prop :=
  ∃ t b' lam' rest', ((v = .str (Str.ofString "yes") t ∧ NoDesc f cs₁) ∨ (v = .str (Str.ofString "no") t ∧ ¬ NoDesc f cs₁)) ∧ news' = lam' ++ rest' ∧ LamL lam' ∧ (∀ q ∈ rest, q.1 ≠ mp → q ∈ rest') ∧ DC w xd mp f b' rest' ∧ (∀ q ∈ rest', q.1 ≠ 112)
theorem qc_body {xd mp tx : Addr} {f : Int → Int} {b : Bool} {ts : List Value} {k : Nat} {cs₁ : List Int} {lam rest : Led} {cv : Value} {wt : Tok} {g : Heap} {L' : Addr} {h' : Heap} {tk' : Nat} (hcv : cv = .none ∨ ∃ cp, cv = .ref cp) (hlam : LamL lam) (h112 : ∀ q ∈ rest, q.1 ≠ 112)
    (hD : DC w xd mp f b rest) (ht : (tx, listObj ts k) ∈ rest) (hi : IntsAre ts cs₁) (hcs : ∀ c ∈ cs₁, 97 ≤ c ∧ c < 105) (hlen : cs₁.length < 60)
    (hd : dp + 23 < recursionLimit) (hu : un + 260 < cLine)
    (F' : Fr g L' h' (fun y => [(Str.ofString "text", .ref tx), (Str.ofString "data", .ref xd), (Str.ofString "word", .str (Str.ofString "nfd") wt), (Str.ofString "composer", cv)].reverse.lookup y)) (N' : News g L' h' (lam ++ rest))
    (B' : Below (ktrTop dp un gd cn cs L a ccd cl outer) base (envX cn cs L a ccd cl :: outer) g) (X' : (K w.params).In g) (T' : Top p loose mean mg mb g) :
    wpAny (md w) ((ktrTop dp un gd cn cs L a ccd cl outer).deeper (envOf (Str.ofString "quick_check") C203 L' 203 (.ref 202))) (execs B203 (envOf (Str.ofString "quick_check") C203 L' 203 (.ref 202))) (RetAt g L' s (QcPost w xd mp f cs₁ rest)) (fun _ _ => False) { s with heap := h', toks := tk' } := by
  have htm : tx ≠ mp := by
    obtain ⟨om, es, ep, h1, h2, _⟩ := hD.mpAt
    exact listEq (N' _ (List.mem_append_right _ ht)).1 (N' _ (List.mem_append_right _ h1)).1 (by rw [h2]; exact list_dict)
  refine wp_gen fun Q₀ hQ₀ => ?_
  refine @execs_cut _ _ _ _ _ _ 1 _ (fun s' => ∃ cp b₂ rest₂ h tk m', s' = { s with heap := h, toks := tk } ∧ (∀ q ∈ rest, q.1 ≠ mp → q ∈ rest₂) ∧ DC w xd mp f b₂ rest₂ ∧ (∀ q ∈ rest₂, q.1 ≠ 112) ∧ Fr g L' h m' ∧ Knows [(Str.ofString "composer", .ref cp), (Str.ofString "word", .str (Str.ofString "nfd") wt), (Str.ofString "data", .ref xd), (Str.ofString "text", .ref tx)] m' ∧ News g L' h (lam ++ rest₂)) ?_ ?_
  · refine wp_gen fun Q₁ hQ₁ => ?_
    rcases hcv with rfl | ⟨cp, rfl⟩
    · repeat' (first | ((with_reducible show wpAny _ _ (execs (_ :: _) _) _ _ _); walk1; (try dsimp only)) | ((fail_if_success (with_reducible show wpAny _ _ (eval (Expr.ListComp _ _ _ _) _) _ _ _); fail_if_success (with_reducible show wpAny _ _ (exec (Stmt.While _ _ _ _) _) _ _ _); fail_if_success ((with_reducible show wpAny _ _ (exec _ _) _ _ _); show wpAny _ _ (exec (Stmt.For _ _ _ _ _) _) _ _ _); fail_if_success (with_reducible show wpAny _ _ (call (Value.ref _) _) _ _ _)); walk1) | (dsimp only; (fail_if_success (with_reducible show wpAny _ _ (eval (Expr.ListComp _ _ _ _) _) _ _ _); fail_if_success (with_reducible show wpAny _ _ (exec (Stmt.While _ _ _ _) _) _ _ _); fail_if_success ((with_reducible show wpAny _ _ (exec _ _) _ _ _); show wpAny _ _ (exec (Stmt.For _ _ _ _ _) _) _ _ _); fail_if_success (with_reducible show wpAny _ _ (call (Value.ref _) _) _ _ _)); walk1))
      refine composerL_spec (f := f) hlam ⟨by k_asm, by k_asm, by k_asm, by k_asm, by k_asm, rfl, by show dp + 1 + 14 < _; omega, by show un + 3 + 160 < _; omega⟩ hD ?_
      intro cp rest₂ h₂ tk₂ keep hD2 h112' F₂ N₂
      clear F' N'
      repeat' (first | ((with_reducible show wpAny _ _ (execs (_ :: _) _) _ _ _); walk1; (try dsimp only)) | ((fail_if_success (with_reducible show wpAny _ _ (eval (Expr.ListComp _ _ _ _) _) _ _ _); fail_if_success (with_reducible show wpAny _ _ (exec (Stmt.While _ _ _ _) _) _ _ _); fail_if_success ((with_reducible show wpAny _ _ (exec _ _) _ _ _); show wpAny _ _ (exec (Stmt.For _ _ _ _ _) _) _ _ _); fail_if_success (with_reducible show wpAny _ _ (call (Value.ref _) _) _ _ _)); walk1) | (dsimp only; (fail_if_success (with_reducible show wpAny _ _ (eval (Expr.ListComp _ _ _ _) _) _ _ _); fail_if_success (with_reducible show wpAny _ _ (exec (Stmt.While _ _ _ _) _) _ _ _); fail_if_success ((with_reducible show wpAny _ _ (exec _ _) _ _ _); show wpAny _ _ (exec (Stmt.For _ _ _ _ _) _) _ _ _); fail_if_success (with_reducible show wpAny _ _ (call (Value.ref _) _) _ _ _)); walk1))
      (try dsimp only)
      refine wpAny_execs_nil ?_
      refine hQ₁ _ _ ?_
      (try dsimp only)
      rename Fr _ _ _ _ => F6
      rename News _ _ _ _ => N6
      exact ⟨cp, true, rest₂, _, _, _, rfl, fun q hq hn => keep q hq hn (h112 q hq), hD2, h112', F6, ⟨rfl, rfl, rfl, rfl, trivial⟩, N6⟩
    · repeat' (first | ((with_reducible show wpAny _ _ (execs (_ :: _) _) _ _ _); walk1; (try dsimp only)) | ((fail_if_success (with_reducible show wpAny _ _ (eval (Expr.ListComp _ _ _ _) _) _ _ _); fail_if_success (with_reducible show wpAny _ _ (exec (Stmt.While _ _ _ _) _) _ _ _); fail_if_success ((with_reducible show wpAny _ _ (exec _ _) _ _ _); show wpAny _ _ (exec (Stmt.For _ _ _ _ _) _) _ _ _); fail_if_success (with_reducible show wpAny _ _ (call (Value.ref _) _) _ _ _)); walk1) | (dsimp only; (fail_if_success (with_reducible show wpAny _ _ (eval (Expr.ListComp _ _ _ _) _) _ _ _); fail_if_success (with_reducible show wpAny _ _ (exec (Stmt.While _ _ _ _) _) _ _ _); fail_if_success ((with_reducible show wpAny _ _ (exec _ _) _ _ _); show wpAny _ _ (exec (Stmt.For _ _ _ _ _) _) _ _ _); fail_if_success (with_reducible show wpAny _ _ (call (Value.ref _) _) _ _ _)); walk1))
      (try dsimp only)
      refine wpAny_execs_nil ?_
      refine hQ₁ _ _ ?_
      (try dsimp only)
      rename Fr _ _ _ _ => F6
      rename News _ _ _ _ => N6
      exact ⟨cp, b, rest, _, _, _, rfl, fun q hq _ => hq, hD, h112, F6, ⟨rfl, rfl, rfl, rfl, trivial⟩, N6⟩
  · rintro s' ⟨cp, b₂, rest₂, h, tk, m', rfl, keep, hD2, h112', F2, hm, N2⟩
    rw [hm.ov] at F2
    clear hm F' N'
    have ht2 := keep _ ht htm
    obtain ⟨xdx, xdm1, gx1, gx2, gx3, gx4, gt1, gt2, gt3, gt4, df, pr, wd, gj, xdm2⟩ : ∃ ddx, (xd, instObj 317 ddx) ∈ rest₂ ∧ ∃ g1 g2 g3 g4 t1 t2 t3 t4 df pr wd j, (ddx, dictOf [⟨g1, .str (Str.ofString "defaults") t1, .ref df⟩, ⟨g2, .str (Str.ofString "maps") t2, .ref mp⟩, ⟨g3, .str (Str.ofString "properties") t3, .ref pr⟩, ⟨g4, .str (Str.ofString "words") t4, .ref wd⟩] j) ∈ rest₂ := by
      obtain ⟨kvs, x, dv, ns, vals, vv, ⟨ddx, df, pr, wd, om, od, t1, t2, t3, t4, g1, g2, g3, g4, j, m1, m2, _⟩, _⟩ := hD2
      exact ⟨ddx, m1, g1, g2, g3, g4, t1, t2, t3, t4, df, pr, wd, j, m2⟩
    clear hD h112
    show wpAny _ _ (execs (_ :: _ :: _) _) _ _ _
    repeat' (first | ((with_reducible show wpAny _ _ (execs (_ :: _) _) _ _ _); walk1; (try dsimp only)) | ((fail_if_success (with_reducible show wpAny _ _ (eval (Expr.ListComp _ _ _ _) _) _ _ _); fail_if_success (with_reducible show wpAny _ _ (exec (Stmt.While _ _ _ _) _) _ _ _); fail_if_success ((with_reducible show wpAny _ _ (exec _ _) _ _ _); show wpAny _ _ (exec (Stmt.For _ _ _ _ _) _) _ _ _); fail_if_success (with_reducible show wpAny _ _ (call (Value.ref _) _) _ _ _)); walk1) | (dsimp only; (fail_if_success (with_reducible show wpAny _ _ (eval (Expr.ListComp _ _ _ _) _) _ _ _); fail_if_success (with_reducible show wpAny _ _ (exec (Stmt.While _ _ _ _) _) _ _ _); fail_if_success ((with_reducible show wpAny _ _ (exec _ _) _ _ _); show wpAny _ _ (exec (Stmt.For _ _ _ _ _) _) _ _ _); fail_if_success (with_reducible show wpAny _ _ (call (Value.ref _) _) _ _ _)); walk1))
    refine for_at ?_
    repeat' (first | ((with_reducible show wpAny _ _ (execs (_ :: _) _) _ _ _); walk1; (try dsimp only)) | ((fail_if_success (with_reducible show wpAny _ _ (eval (Expr.ListComp _ _ _ _) _) _ _ _); fail_if_success (with_reducible show wpAny _ _ (exec (Stmt.While _ _ _ _) _) _ _ _); fail_if_success ((with_reducible show wpAny _ _ (exec _ _) _ _ _); show wpAny _ _ (exec (Stmt.For _ _ _ _ _) _) _ _ _); fail_if_success (with_reducible show wpAny _ _ (call (Value.ref _) _) _ _ _)); walk1) | (dsimp only; (fail_if_success (with_reducible show wpAny _ _ (eval (Expr.ListComp _ _ _ _) _) _ _ _); fail_if_success (with_reducible show wpAny _ _ (exec (Stmt.While _ _ _ _) _) _ _ _); fail_if_success ((with_reducible show wpAny _ _ (exec _ _) _ _ _); show wpAny _ _ (exec (Stmt.For _ _ _ _ _) _) _ _ _); fail_if_success (with_reducible show wpAny _ _ (call (Value.ref _) _) _ _ _)); walk1))
    rename Fr _ _ _ _ => F6
    rename News _ _ _ _ => N6
    refine ForAt.listS (vs := ts) (k := k) (news := lam ++ rest₂) (fun i m₁ news₁ => ∃ lam a t1 t2, LamL lam ∧ Knows [(Str.ofString "ahead", .int a t1), (Str.ofString "found", .str (Str.ofString "yes") t2), (Str.ofString "composer", .ref cp), (Str.ofString "word", .str (Str.ofString "nfd") wt), (Str.ofString "data", .ref xd), (Str.ofString "text", .ref tx)] m₁ ∧ news₁ = lam ++ rest₂ ∧ NoDesc f (cs₁.take i) ∧ (∀ c, (cs₁.take i).getLast? = some c → a = f c) ∧ (cs₁.take i = [] → a = 0)) rfl F6 (fun q hq => N6 q (by first | exact hq | exact .tail _ hq)) ?_ ?_ ?_ ?_
    · exact ⟨lam, 0, _, _, hlam, ⟨rfl, rfl, rfl, rfl, rfl, rfl, trivial⟩, rfl, by rw [List.take_zero]; trivial, by rw [List.take_zero]; intro c e; simp at e, fun _ => rfl⟩
    · rintro i m₁ news₁ ⟨lam, a, t1, t2, e1, e2, rfl, _⟩
      exact List.mem_append_right _ ht2
    · rintro i v m₁ news₁ h₁ tk₁ I oi hoi hv ⟨lam, a, t1, t2, hlam, hm, rfl, hnd, ha, ha0⟩ hI F₁ N₁
      rw [hm.ov] at F₁
      clear hm F6 N6
      try clear F2
      try clear N2
      obtain ⟨c₀, t₀, rfl, hc₀⟩ := hi.at i v hv
      obtain ⟨hc1, hc2⟩ := hcs c₀ (List.mem_of_getElem? hc₀)
      have i112 : I ≠ 112 := fun e => by
        obtain ⟨o9, h9⟩ := hlam.at112
        exact hI _ (List.mem_append_left _ h9) e.symm
      have htk : cs₁.take (i + 1) = cs₁.take i ++ [c₀] := by
        rw [List.take_add_one, hc₀]
        rfl
      have hstep : ¬ (0 < f c₀ ∧ f c₀ < a) → NoDesc f (cs₁.take (i + 1)) := fun hn => by
        rw [htk]
        exact NoDesc.snoc_iff.mpr ⟨hnd, fun a' e => by rw [← ha a' e]; exact hn⟩
      have hbad : (0 < f c₀ ∧ f c₀ < a) → ¬ NoDesc f cs₁ := fun hb hn => by
        rw [← List.take_append_drop (i + 1) cs₁, htk] at hn
        have h2 := (NoDesc.snoc_iff.mp hn.left).2
        cases e : (cs₁.take i).getLast? with
        | none =>
          rw [ha0 (List.getLast?_eq_none_iff.mp e)] at hb
          omega
        | some c' =>
          have h3 := h2 c' e
          rw [← ha c' e] at h3
          exact h3 hb
      have hsep : ∀ lam' : Led, LamL lam' → ∀ (g h : Heap), News g L' h (lam' ++ (rest₂ ++ [(I, oi)])) → ∀ q ∈ lam' ++ rest₂, q.1 ≠ I := fun lam' hl g h N q hq => by
        rcases List.mem_append.mp hq with hq | hq
        · exact hl.sepI N (fun q hq => List.mem_append_left _ hq) (List.mem_append_right _ (List.mem_append_right _ (.head _))) hoi i112 q hq
        · exact hI q (List.mem_append_right _ hq)
      refine wp_gen2 fun E₁ hE₁ => ?_
      repeat' (first | ((with_reducible show wpAny _ _ (execs (_ :: _) _) _ _ _); walk1; (try dsimp only)) | ((fail_if_success (with_reducible show wpAny _ _ (eval (Expr.ListComp _ _ _ _) _) _ _ _); fail_if_success (with_reducible show wpAny _ _ (exec (Stmt.While _ _ _ _) _) _ _ _); fail_if_success ((with_reducible show wpAny _ _ (exec _ _) _ _ _); show wpAny _ _ (exec (Stmt.For _ _ _ _ _) _) _ _ _); fail_if_success (with_reducible show wpAny _ _ (call (Value.ref _) _) _ _ _)); walk1) | (dsimp only; (fail_if_success (with_reducible show wpAny _ _ (eval (Expr.ListComp _ _ _ _) _) _ _ _); fail_if_success (with_reducible show wpAny _ _ (exec (Stmt.While _ _ _ _) _) _ _ _); fail_if_success ((with_reducible show wpAny _ _ (exec _ _) _ _ _); show wpAny _ _ (exec (Stmt.For _ _ _ _ _) _) _ _ _); fail_if_success (with_reducible show wpAny _ _ (call (Value.ref _) _) _ _ _)); walk1))
      refine getccc_spec ⟨by k_asm, by k_asm, by k_asm, by k_asm, by k_asm, rfl, by show dp + 1 + 6 < _; omega, by show un + 3 + 80 < _; omega⟩ (hD2.mono fun q hq => by k_mem) hc1 hc2 ?_
      intro t₃ h₃ tk₃ F₃ N₃
      try clear F₁
      try clear N₁
      repeat' (first | ((with_reducible show wpAny _ _ (execs (_ :: _) _) _ _ _); walk1; (try dsimp only)) | ((fail_if_success (with_reducible show wpAny _ _ (eval (Expr.ListComp _ _ _ _) _) _ _ _); fail_if_success (with_reducible show wpAny _ _ (exec (Stmt.While _ _ _ _) _) _ _ _); fail_if_success ((with_reducible show wpAny _ _ (exec _ _) _ _ _); show wpAny _ _ (exec (Stmt.For _ _ _ _ _) _) _ _ _); fail_if_success (with_reducible show wpAny _ _ (call (Value.ref _) _) _ _ _)); walk1) | (dsimp only; (fail_if_success (with_reducible show wpAny _ _ (eval (Expr.ListComp _ _ _ _) _) _ _ _); fail_if_success (with_reducible show wpAny _ _ (exec (Stmt.While _ _ _ _) _) _ _ _); fail_if_success ((with_reducible show wpAny _ _ (exec _ _) _ _ _); show wpAny _ _ (exec (Stmt.For _ _ _ _ _) _) _ _ _); fail_if_success (with_reducible show wpAny _ _ (call (Value.ref _) _) _ _ _)); walk1))
      rename Fr _ _ _ _ => F6
      refine quick_spec (lam := lam) (rest := rest₂ ++ [(I, oi)]) hlam ⟨by k_asm, F6, by k_asm, by rw [← List.append_assoc]; k_asm, by k_asm, rfl, by show dp + 1 + 20 < _; omega, by show un + 3 + 240 < _; omega⟩ ?n2 (hD2.mono fun q hq => by k_mem) hc1 hc2 ?_
      case n2 =>
        intro q hq
        rcases List.mem_append.mp hq with hq | hq
        · exact h112' q hq
        · obtain rfl := List.mem_singleton.mp hq
          exact i112
      intro t5 lam' h₇ tk₇ hlam' F₇ N₇
      try clear F6
      try clear N₃
      repeat' (first | ((with_reducible show wpAny _ _ (execs (_ :: _) _) _ _ _); walk1; (try dsimp only)) | ((fail_if_success (with_reducible show wpAny _ _ (eval (Expr.ListComp _ _ _ _) _) _ _ _); fail_if_success (with_reducible show wpAny _ _ (exec (Stmt.While _ _ _ _) _) _ _ _); fail_if_success ((with_reducible show wpAny _ _ (exec _ _) _ _ _); show wpAny _ _ (exec (Stmt.For _ _ _ _ _) _) _ _ _); fail_if_success (with_reducible show wpAny _ _ (call (Value.ref _) _) _ _ _)); walk1) | (dsimp only; (fail_if_success (with_reducible show wpAny _ _ (eval (Expr.ListComp _ _ _ _) _) _ _ _); fail_if_success (with_reducible show wpAny _ _ (exec (Stmt.While _ _ _ _) _) _ _ _); fail_if_success ((with_reducible show wpAny _ _ (exec _ _) _ _ _); show wpAny _ _ (exec (Stmt.For _ _ _ _ _) _) _ _ _); fail_if_success (with_reducible show wpAny _ _ (call (Value.ref _) _) _ _ _)); walk1))
      all_goals (rename Fr _ _ _ _ => F8; rename News _ _ _ _ => N8)
      all_goals first
        | (refine hE₁ _ _ <| hQ₀ _ _ <| RetAt.ret F8 (news' := lam' ++ rest₂) (fun q hq => N8 q ?_) ⟨_, b₂, lam', rest₂, .inr ⟨rfl, hbad ⟨by omega, by omega⟩⟩, rfl, hlam', keep, hD2, h112'⟩
           rw [← List.append_assoc]
           exact List.mem_append_left _ hq)
        | (refine hE₁ _ _ ⟨_, _, _, lam' ++ rest₂, rfl, F8, by rw [List.append_assoc]; exact N8, hsep lam' hlam' _ _ N8, lam', f c₀, t₃, t2, hlam', ⟨rfl, rfl, rfl, rfl, rfl, rfl, trivial⟩, rfl, hstep (by omega), ?_, ?_⟩
           · intro c e
             rw [htk] at e
             rw [show c = c₀ by simpa using e.symm]
           · intro e
             rw [htk] at e
             simp at e)
    · rintro m₁ news₁ h₁ tk₁ ⟨lam, a, t1, t2, hlam, hm, rfl, hnd, _⟩ F₁ N₁
      rw [hm.ov] at F₁
      clear hm F6 N6
      rw [hi.length, List.take_length] at hnd
      repeat' (first | ((with_reducible show wpAny _ _ (execs (_ :: _) _) _ _ _); walk1; (try dsimp only)) | ((fail_if_success (with_reducible show wpAny _ _ (eval (Expr.ListComp _ _ _ _) _) _ _ _); fail_if_success (with_reducible show wpAny _ _ (exec (Stmt.While _ _ _ _) _) _ _ _); fail_if_success ((with_reducible show wpAny _ _ (exec _ _) _ _ _); show wpAny _ _ (exec (Stmt.For _ _ _ _ _) _) _ _ _); fail_if_success (with_reducible show wpAny _ _ (call (Value.ref _) _) _ _ _)); walk1) | (dsimp only; (fail_if_success (with_reducible show wpAny _ _ (eval (Expr.ListComp _ _ _ _) _) _ _ _); fail_if_success (with_reducible show wpAny _ _ (exec (Stmt.While _ _ _ _) _) _ _ _); fail_if_success ((with_reducible show wpAny _ _ (exec _ _) _ _ _); show wpAny _ _ (exec (Stmt.For _ _ _ _ _) _) _ _ _); fail_if_success (with_reducible show wpAny _ _ (call (Value.ref _) _) _ _ _)); walk1))
      exact hQ₀ _ _ <| RetAt.ret F₁ N₁ ⟨_, b₂, lam, rest₂, .inl ⟨rfl, hnd⟩, rfl, hlam, keep, hD2, h112'⟩
end
end
section
set_option maxHeartbeats 1000000
theorem reg20 (w : World) : (model PySem.Challenge.rw_nt0032_01.row.prog w = model PySem.Challenge.rw_nt0032_01.row.prog w) ∧ K w.params = K w.params := by
  k_fill
  exact ⟨rfl, rfl⟩
section
variable {w : World} {p : Program} {loose : List Str} {mean : ExcName → Option Value} {mg mb : Mp} {dp un : Nat} {gd : Option (List Code)} {cn : Str} {cs : Scope} {a : Addr} {ccd : Value} {cl : List (Str × Addr)} {outer : List Env} {A₀ : Around} {base h₀ : Heap} {L : Addr} {m : Mp} {news : Led} {s : Shared} {Q : Value → Shared → Prop}
theorem qc3_spec {xd mp tx : Addr} {f : Int → Int} {b : Bool} {ts : List Value} {k : Nat} {cs₁ : List Int} {lam rest : Led} {wt : Tok} (hlam : LamL lam) (c : Cx w p loose mean mg mb outer A₀ base h₀ L m (lam ++ rest) s cs dp un 24 270) (h112 : ∀ q ∈ rest, q.1 ≠ 112)
    (hD : DC w xd mp f b rest) (ht : (tx, listObj ts k) ∈ rest) (hi : IntsAre ts cs₁) (hcs : ∀ c ∈ cs₁, 97 ≤ c ∧ c < 105) (hlen : cs₁.length < 60)
    (ret : ∀ v news' h' tk', QcPost w xd mp f cs₁ rest v news' → Fr h₀ L h' m → News h₀ L h' news' → Q v { s with heap := h', toks := tk' }) :
    wpAny (md w) (ktrTop dp un gd cn cs L a ccd cl outer) (call (.ref 203) [.ref tx, .ref xd, .str (Str.ofString "nfd") wt]) Q (fun _ _ => False) s := by
  have hd := c.hd
  have hu := c.hu
  refine wpAny_call (enter (qual := Str.ofString "quick_check") [(Str.ofString "text", .ref tx), (Str.ofString "data", .ref xd), (Str.ofString "word", .str (Str.ofString "nfd") wt), (Str.ofString "composer", .none)] (QcPost w xd mp f cs₁ rest) c
    (by k_is) (by k_is) (binds_K (K := K w.params) (T := 196) (fun b o e => c.F.keep b o (c.X b o e)) rfl (by k_is) rfl rfl rfl) rfl rfl rfl rfl (by decide) ?_ (by intro v news' h' tk' e F' N'; exact ret v news' h' tk' e F' N'))
  clear c ret
  intro g L' h' tk' F' N' B' X' T' _
  exact qc_body (.inl rfl) hlam h112 hD ht hi hcs hlen (by omega) (by omega) F' N' B' X' T'
theorem qc4_spec {xd mp tx cp : Addr} {f : Int → Int} {b : Bool} {ts : List Value} {k : Nat} {cs₁ : List Int} {lam rest : Led} {wt : Tok} (hlam : LamL lam) (c : Cx w p loose mean mg mb outer A₀ base h₀ L m (lam ++ rest) s cs dp un 24 270) (h112 : ∀ q ∈ rest, q.1 ≠ 112)
    (hD : DC w xd mp f b rest) (ht : (tx, listObj ts k) ∈ rest) (hi : IntsAre ts cs₁) (hcs : ∀ c ∈ cs₁, 97 ≤ c ∧ c < 105) (hlen : cs₁.length < 60)
    (ret : ∀ v news' h' tk', QcPost w xd mp f cs₁ rest v news' → Fr h₀ L h' m → News h₀ L h' news' → Q v { s with heap := h', toks := tk' }) :
    wpAny (md w) (ktrTop dp un gd cn cs L a ccd cl outer) (call (.ref 203) [.ref tx, .ref xd, .str (Str.ofString "nfd") wt, .ref cp]) Q (fun _ _ => False) s := by
  have hd := c.hd
  have hu := c.hu
  refine wpAny_call (enter (qual := Str.ofString "quick_check") [(Str.ofString "text", .ref tx), (Str.ofString "data", .ref xd), (Str.ofString "word", .str (Str.ofString "nfd") wt), (Str.ofString "composer", .ref cp)] (QcPost w xd mp f cs₁ rest) c
    (by k_is) (by k_is) (binds_K (K := K w.params) (T := 196) (fun b o e => c.F.keep b o (c.X b o e)) rfl (by k_is) rfl rfl rfl) rfl rfl rfl rfl (by decide) ?_ (by intro v news' h' tk' e F' N'; exact ret v news' h' tk' e F' N'))
  clear c ret
  intro g L' h' tk' F' N' B' X' T' _
  exact qc_body (.inr ⟨cp, rfl⟩) hlam h112 hD ht hi hcs hlen (by omega) (by omega) F' N' B' X' T'
theorem isform_spec {xd mp tx : Addr} {f : Int → Int} {b : Bool} {ts : List Value} {k : Nat} {cs₁ : List Int} {lam rest : Led} {wt : Tok} (hlam : LamL lam) (c : Cx w p loose mean mg mb outer A₀ base h₀ L m (lam ++ rest) s cs dp un 26 320) (h112 : ∀ q ∈ rest, q.1 ≠ 112)
    (hD : DC w xd mp f b rest) (ht : (tx, listObj ts k) ∈ rest) (hi : IntsAre ts cs₁) (hcs : ∀ c ∈ cs₁, 97 ≤ c ∧ c < 105) (hlen : cs₁.length < 60)
    (ret : ∀ bb b' lam' rest' h' tk', (bb = true ↔ NoDesc f cs₁) → LamL lam' → (∀ q ∈ rest, q.1 ≠ mp → q ∈ rest') → DC w xd mp f b' rest' → (∀ q ∈ rest', q.1 ≠ 112) → Fr h₀ L h' m → News h₀ L h' (lam' ++ rest') → Q (.bool bb) { s with heap := h', toks := tk' }) :
    wpAny (md w) (ktrTop dp un gd cn cs L a ccd cl outer) (call (.ref 211) [.ref tx, .ref xd, .str (Str.ofString "nfd") wt]) Q (fun _ _ => False) s := by
  have hd := c.hd
  have hu := c.hu
  refine wpAny_call (enter (qual := Str.ofString "is_form") [(Str.ofString "text", .ref tx), (Str.ofString "data", .ref xd), (Str.ofString "word", .str (Str.ofString "nfd") wt), (Str.ofString "composer", .none)] (fun v news' => ∃ bb b' lam' rest', v = .bool bb ∧ (bb = true ↔ NoDesc f cs₁) ∧ LamL lam' ∧ (∀ q ∈ rest, q.1 ≠ mp → q ∈ rest') ∧ DC w xd mp f b' rest' ∧ (∀ q ∈ rest', q.1 ≠ 112) ∧ news' = lam' ++ rest') c
    (by k_is) (by k_is) (binds_K (K := K w.params) (T := 204) (fun b o e => c.F.keep b o (c.X b o e)) rfl (by k_is) rfl rfl rfl) rfl rfl rfl rfl (by decide) ?_ (by rintro v news' h' tk' ⟨bb, b', lam', rest', rfl, e1, e2, e3, e4, e5, rfl⟩ F' N'; exact ret bb b' lam' rest' h' tk' e1 e2 e3 e4 e5 F' N'))
  clear c ret
  intro g L' h' tk' F' N' B' X' T' _
  refine @wp_gen Flow _ _ _ _ _ _ ?_
  intro Q₀ hQ₀
  have htm : tx ≠ mp := by
    obtain ⟨om, es, ep, h1, h2, _⟩ := hD.mpAt
    exact listEq (N' _ (List.mem_append_right _ ht)).1 (N' _ (List.mem_append_right _ h1)).1 (by rw [h2]; exact list_dict)
  repeat' (first | ((with_reducible show wpAny _ _ (execs (_ :: _) _) _ _ _); walk1; (try dsimp only)) | ((fail_if_success (with_reducible show wpAny _ _ (eval (Expr.ListComp _ _ _ _) _) _ _ _); fail_if_success (with_reducible show wpAny _ _ (exec (Stmt.While _ _ _ _) _) _ _ _); fail_if_success ((with_reducible show wpAny _ _ (exec _ _) _ _ _); show wpAny _ _ (exec (Stmt.For _ _ _ _ _) _) _ _ _); fail_if_success (with_reducible show wpAny _ _ (call (Value.ref _) _) _ _ _)); walk1) | (dsimp only; (fail_if_success (with_reducible show wpAny _ _ (eval (Expr.ListComp _ _ _ _) _) _ _ _); fail_if_success (with_reducible show wpAny _ _ (exec (Stmt.While _ _ _ _) _) _ _ _); fail_if_success ((with_reducible show wpAny _ _ (exec _ _) _ _ _); show wpAny _ _ (exec (Stmt.For _ _ _ _ _) _) _ _ _); fail_if_success (with_reducible show wpAny _ _ (call (Value.ref _) _) _ _ _)); walk1))
  refine composerL_spec (f := f) hlam ⟨by k_asm, by k_asm, by k_asm, by k_asm, by k_asm, rfl, by show dp + 1 + 14 < _; omega, by show un + 3 + 160 < _; omega⟩ hD ?_
  intro cp rest₂ h₂ tk₂ keep hD2 h112' F₂ N₂
  have ht2 := keep _ ht htm (h112 _ ht)
  clear F' N'
  repeat' (first | ((with_reducible show wpAny _ _ (execs (_ :: _) _) _ _ _); walk1; (try dsimp only)) | ((fail_if_success (with_reducible show wpAny _ _ (eval (Expr.ListComp _ _ _ _) _) _ _ _); fail_if_success (with_reducible show wpAny _ _ (exec (Stmt.While _ _ _ _) _) _ _ _); fail_if_success ((with_reducible show wpAny _ _ (exec _ _) _ _ _); show wpAny _ _ (exec (Stmt.For _ _ _ _ _) _) _ _ _); fail_if_success (with_reducible show wpAny _ _ (call (Value.ref _) _) _ _ _)); walk1) | (dsimp only; (fail_if_success (with_reducible show wpAny _ _ (eval (Expr.ListComp _ _ _ _) _) _ _ _); fail_if_success (with_reducible show wpAny _ _ (exec (Stmt.While _ _ _ _) _) _ _ _); fail_if_success ((with_reducible show wpAny _ _ (exec _ _) _ _ _); show wpAny _ _ (exec (Stmt.For _ _ _ _ _) _) _ _ _); fail_if_success (with_reducible show wpAny _ _ (call (Value.ref _) _) _ _ _)); walk1))
  refine qc4_spec (f := f) hlam ⟨by k_asm, by k_asm, by k_asm, by k_asm, by k_asm, rfl, by show dp + 1 + 24 < _; omega, by show un + 3 + 270 < _; omega⟩ h112' hD2 ht2 hi hcs hlen ?_
  rintro v news' h₃ tk₃ ⟨t3, b3, lam3, rest3, hv, rfl, hlam3, keep3, hD3, h112''⟩ F₃ N₃
  try clear F₂ N₂
  have keep4 : ∀ q ∈ rest, q.1 ≠ mp → q ∈ rest3 := fun q hq hn => keep3 q (keep q hq hn (h112 q hq)) hn
  rcases hv with ⟨rfl, hv⟩ | ⟨rfl, hv⟩
  · repeat' (first | ((with_reducible show wpAny _ _ (execs (_ :: _) _) _ _ _); walk1; (try dsimp only)) | ((fail_if_success (with_reducible show wpAny _ _ (eval (Expr.ListComp _ _ _ _) _) _ _ _); fail_if_success (with_reducible show wpAny _ _ (exec (Stmt.While _ _ _ _) _) _ _ _); fail_if_success ((with_reducible show wpAny _ _ (exec _ _) _ _ _); show wpAny _ _ (exec (Stmt.For _ _ _ _ _) _) _ _ _); fail_if_success (with_reducible show wpAny _ _ (call (Value.ref _) _) _ _ _)); walk1) | (dsimp only; (fail_if_success (with_reducible show wpAny _ _ (eval (Expr.ListComp _ _ _ _) _) _ _ _); fail_if_success (with_reducible show wpAny _ _ (exec (Stmt.While _ _ _ _) _) _ _ _); fail_if_success ((with_reducible show wpAny _ _ (exec _ _) _ _ _); show wpAny _ _ (exec (Stmt.For _ _ _ _ _) _) _ _ _); fail_if_success (with_reducible show wpAny _ _ (call (Value.ref _) _) _ _ _)); walk1))
    rename Fr _ _ _ _ => F8
    rename News _ _ _ _ => N8
    exact hQ₀ _ _ <| RetAt.ret F8 N8 ⟨true, b3, lam3, rest3, rfl, ⟨fun _ => hv, fun _ => rfl⟩, hlam3, keep4, hD3, h112'', rfl⟩
  · repeat' (first | ((with_reducible show wpAny _ _ (execs (_ :: _) _) _ _ _); walk1; (try dsimp only)) | ((fail_if_success (with_reducible show wpAny _ _ (eval (Expr.ListComp _ _ _ _) _) _ _ _); fail_if_success (with_reducible show wpAny _ _ (exec (Stmt.While _ _ _ _) _) _ _ _); fail_if_success ((with_reducible show wpAny _ _ (exec _ _) _ _ _); show wpAny _ _ (exec (Stmt.For _ _ _ _ _) _) _ _ _); fail_if_success (with_reducible show wpAny _ _ (call (Value.ref _) _) _ _ _)); walk1) | (dsimp only; (fail_if_success (with_reducible show wpAny _ _ (eval (Expr.ListComp _ _ _ _) _) _ _ _); fail_if_success (with_reducible show wpAny _ _ (exec (Stmt.While _ _ _ _) _) _ _ _); fail_if_success ((with_reducible show wpAny _ _ (exec _ _) _ _ _); show wpAny _ _ (exec (Stmt.For _ _ _ _ _) _) _ _ _); fail_if_success (with_reducible show wpAny _ _ (call (Value.ref _) _) _ _ _)); walk1))
    rename Fr _ _ _ _ => F8
    rename News _ _ _ _ => N8
    exact hQ₀ _ _ <| RetAt.ret F8 N8 ⟨false, b3, lam3, rest3, rfl, ⟨fun e => (by cases e), fun e => absurd e hv⟩, hlam3, keep4, hD3, h112'', rfl⟩
end
end
section
set_option maxHeartbeats 1000000
theorem set_facts {K : Type} [DecidableEq K] {prog : Program} {w : World} {knd : KeyKind prog w K} {o : Obj} {kvs : List (K × Value)} {k : K} {v : Value} (_ : o.IsDictOf knd (stored kvs k v)) : valueAt (stored kvs k v) k = some v := (valueAt_stored kvs k v k).trans (if_pos rfl)
end
section
local macro_rules | `(tactic| walk_at "setItem ref str") => `(tactic| (refine kda_set (knd := PySem.strKind _ _) (by k_asm) (by k_asm) (by k_updF) (by k_asm) (strKind_is _ _ _ _) (by rw [sizeLine_eq]; omega) ?_; intro h' o' F' N' hd'; (try dsimp only at N' hd'); have hv' := set_facts hd'))
local macro_rules | `(tactic| walk_at "compareOp NotEq ref ref") => `(tactic| (rename News _ _ _ _ => NX; refine ne_intsK ⟨_, (NX _ (by k_mem)).1, rfl, _, rfl⟩ (by first | assumption | exact .cons _ _ (by assumption) | exact .nil) (us := []) ⟨_, (NX _ (by k_mem)).1, rfl, _, rfl⟩ (by first | exact .nil | assumption) (by walk_at "ua") ?_; (try first | (rw [decide_eq_false (List.cons_ne_nil _ _)]; dsimp only [Bool.not_false]) | (rw [decide_eq_true (rfl : ([] : List Int) = [])]; dsimp only [Bool.not_true]))))
local macro_rules | `(tactic| walk_at "call builtin:list.pop") => `(tactic| (rename News _ _ _ _ => NX; rename Fr _ _ _ _ => FX; refine kl_popAt (i := 0) (k := 0) FX NX rfl rfl (e := rfl) (updF_upd (by k_updF)) (by rw [sizeLine_eq]; (try simp only [List.length_cons]); omega) ?_; intro h' F' N'; (try dsimp only [List.nil_append] at N'); clear FX NX))
section
set_option maxHeartbeats 1000000
theorem reg21 (w : World) : (model PySem.Challenge.rw_nt0032_01.row.prog w = model PySem.Challenge.rw_nt0032_01.row.prog w) ∧ K w.params = K w.params := by
  k_fill
  exact ⟨rfl, rfl⟩
section
variable {w : World} {p : Program} {loose : List Str} {mean : ExcName → Option Value} {mg mb : Mp} {dp un : Nat} {gd : Option (List Code)} {cn : Str} {cs : Scope} {a : Addr} {ccd : Value} {cl : List (Str × Addr)} {outer : List Env} {A₀ : Around} {base h₀ : Heap} {L : Addr} {m : Mp} {news : Led} {s : Shared} {Q : Value → Shared → Prop}
/-- the deck -/
def DeckD (w : World) (X : Addr) (mx : Int) (od : Obj) : Prop :=
  ∃ kvs mt, od.IsDictOf (strKind PySem.Challenge.rw_nt0032_01.row.prog w) kvs ∧ valueAt kvs (Str.ofString "left") = some (.ref X) ∧ valueAt kvs (Str.ofString "mixed") = some (.int mx mt) ∧ kvs.length ≤ 2
def DeckL (w : World) (dk X : Addr) (dl : Led) : Prop :=
  ∃ ls k left od mx, dl = [(X, listObj ls k), (dk, od)] ∧ IntsAre ls left ∧ left.length ≤ 24 ∧ (∀ x ∈ left, 0 ≤ x ∧ x < 1000003) ∧ DeckD w X mx od ∧ 0 ≤ mx ∧ mx < 1000003
theorem stored_len {K : Type} [DecidableEq K] {kvs : List (K × Value)} {k : K} {v v' : Value} (h : valueAt kvs k = some v) : (stored kvs k v').length = kvs.length := by
  have e : kvs.any (fun kv => kv.1 = k) = true := by
    rw [← valueAt_isSome_eq_any, h]
    rfl
  unfold stored
  rw [if_pos e, List.length_map]
theorem fmod_bounds (a : Int) {b : Int} (hb : 0 < b) : 0 ≤ Int.fmod a b ∧ Int.fmod a b < b := ⟨Int.fmod_nonneg_of_pos _ hb, Int.fmod_lt_of_pos _ hb⟩
set_option maxHeartbeats 4000000 in
theorem draw_spec {dk X : Addr} {dl rest : Led} {many : Int} {nt : Tok} (hD : DeckL w dk X dl) (c : Cx w p loose mean mg mb outer A₀ base h₀ L m (dl ++ rest) s cs dp un 4 80)
    (hX : ∀ q ∈ rest, q.1 ≠ X) (hdk : ∀ q ∈ rest, q.1 ≠ dk) (hm0 : 0 < many) (hm9 : many ≤ 9)
    (ret : ∀ r t dl' h' tk', 0 ≤ r → r < many → DeckL w dk X dl' → Fr h₀ L h' m → News h₀ L h' (dl' ++ rest) → Q (.int r t) { s with heap := h', toks := tk' }) :
    wpAny (md w) (ktrTop dp un gd cn cs L a ccd cl outer) (call (.ref 333) [.ref dk, .int many nt]) Q (fun _ _ => False) s := by
  have hd := c.hd
  have hu := c.hu
  refine wpAny_call (enter (qual := Str.ofString "_law_draw") [(Str.ofString "deck", .ref dk), (Str.ofString "many", .int many nt)] (fun v news' => ∃ r t dl', v = .int r t ∧ 0 ≤ r ∧ r < many ∧ DeckL w dk X dl' ∧ news' = dl' ++ rest) c
    (by k_is) (by k_is) (BindsTo.of_eq rfl) rfl rfl rfl rfl (by decide) ?_ (by rintro v news' h' tk' ⟨r, t, dl', rfl, e1, e2, e3, rfl⟩ F' N'; exact ret r t dl' h' tk' e1 e2 e3 F' N'))
  clear ret c
  obtain ⟨ls, k, left, od, mx, rfl, hi, hll, hlx, ⟨kvs, mt, ho, hv1, hv2, hkl⟩, hx0, hx1⟩ := hD
  intro g L' h' tk' F' N' B' X' T' _
  refine @wp_gen Flow _ _ _ _ _ _ ?_
  intro Q₀ hQ₀
  simp only [List.cons_append, List.nil_append] at N'
  have odd : od.cls = .type "dict" := by obtain ⟨es, ep, hc, _⟩ := ho; exact hc.1
  have hXd : X ≠ dk := listEq (N' _ (.head _)).1 (N' _ (.tail _ (.head _))).1 (by rw [odd]; exact list_dict)
  cases hi with
  | nil =>
    repeat' (first | ((with_reducible show wpAny _ _ (execs (_ :: _) _) _ _ _); walk1; (try dsimp only)) | ((fail_if_success (with_reducible show wpAny _ _ (eval (Expr.ListComp _ _ _ _) _) _ _ _); fail_if_success (with_reducible show wpAny _ _ (exec (Stmt.While _ _ _ _) _) _ _ _); fail_if_success ((with_reducible show wpAny _ _ (exec _ _) _ _ _); show wpAny _ _ (exec (Stmt.For _ _ _ _ _) _) _ _ _); fail_if_success (with_reducible show wpAny _ _ (call (Value.ref _) _) _ _ _)); walk1; (try dsimp only)))
    rename Obj.IsDictOf _ _ (stored _ _ _) => hd2
    rename valueAt (stored _ _ _) _ = _ => hv2'
    rename Fr _ _ _ _ => F8
    rename News _ _ _ _ => N8
    have b1 := fmod_bounds (mx * 4801 + 97) (b := 1000003) (by omega)
    have b2 := fmod_bounds (Int.fdiv ((mx * 4801 + 97).fmod 1000003) 7) hm0
    exact hQ₀ _ _ <| RetAt.ret F8 (fun q hq => N8 q (.tail _ hq)) ⟨_, _, [(X, listObj [] k), (dk, _)], rfl, b2.1, b2.2, ⟨[], k, [], _, _, rfl, .nil, Nat.zero_le _, (fun x hx => nomatch hx), ⟨_, _, hd2, by rw [valueAt_stored, if_neg (by decide)]; exact hv1, hv2', by rw [stored_len hv2]; exact hkl⟩, b1⟩, rfl⟩
  | cons y yt hr =>
    repeat' (first | (rename decide (_ :: _ = []) = true => hz; exact absurd (of_decide_eq_true hz) (List.cons_ne_nil _ _)) | ((with_reducible show wpAny _ _ (execs (_ :: _) _) _ _ _); walk1; (try dsimp only)) | ((fail_if_success (with_reducible show wpAny _ _ (eval (Expr.ListComp _ _ _ _) _) _ _ _); fail_if_success (with_reducible show wpAny _ _ (exec (Stmt.While _ _ _ _) _) _ _ _); fail_if_success ((with_reducible show wpAny _ _ (exec _ _) _ _ _); show wpAny _ _ (exec (Stmt.For _ _ _ _ _) _) _ _ _); fail_if_success (with_reducible show wpAny _ _ (call (Value.ref _) _) _ _ _)); walk1; (try dsimp only)))
    rename Fr _ _ _ _ => F5
    rename News _ _ _ _ => N5
    have hsep : ∀ q ∈ (dk, od) :: rest, q.1 ≠ X := fun q hq => by
      rcases List.mem_cons.mp hq with rfl | hq
      · exact hXd.symm
      · exact hX q hq
    have hl' : _ := hr.length
    refine kl_popAt (i := 0) (k := 0) (its := (Value.int y yt :: _).toArray) (n := k) F5 N5 rfl ?_ (p := []) (y := .int y yt) rfl (updF_upd (by k_updF)) ?_ ?_
    · rw [List.size_toArray]
      simp [seqIndex?]
    · rw [sizeLine_eq]
      simp only [List.length_cons] at hll ⊢
      omega
    intro h₄ F₄ N₄
    (try dsimp only [List.nil_append] at N₄)
    clear F5 N5
    repeat' (first | ((with_reducible show wpAny _ _ (execs (_ :: _) _) _ _ _); walk1; (try dsimp only)) | ((fail_if_success (with_reducible show wpAny _ _ (eval (Expr.ListComp _ _ _ _) _) _ _ _); fail_if_success (with_reducible show wpAny _ _ (exec (Stmt.While _ _ _ _) _) _ _ _); fail_if_success ((with_reducible show wpAny _ _ (exec _ _) _ _ _); show wpAny _ _ (exec (Stmt.For _ _ _ _ _) _) _ _ _); fail_if_success (with_reducible show wpAny _ _ (call (Value.ref _) _) _ _ _)); walk1; (try dsimp only)))
    rename Fr _ _ _ _ => F8
    rename News _ _ _ _ => N8
    have b1 := fmod_bounds y hm0
    exact hQ₀ _ _ <| RetAt.ret F8 (fun q hq => N8 q (.tail _ hq)) ⟨_, _, [(X, _), (dk, od)], rfl, b1.1, b1.2, ⟨_, _, _, _, _, rfl, hr, by simp only [List.length_cons] at hll; omega, (fun x hx => hlx x (.tail _ hx)), ⟨_, _, ho, hv1, hv2, hkl⟩, hx0, hx1⟩, rfl⟩
end
end
section
set_option maxHeartbeats 1000000
theorem reg22 (w : World) : (model PySem.Challenge.rw_nt0032_01.row.prog w = model PySem.Challenge.rw_nt0032_01.row.prog w) ∧ K w.params = K w.params := by
  k_fill
  exact ⟨rfl, rfl⟩
section
variable {w : World} {p : Program} {loose : List Str} {mean : ExcName → Option Value} {mg mb : Mp} {dp un : Nat} {gd : Option (List Code)} {cn : Str} {cs : Scope} {a : Addr} {ccd : Value} {cl : List (Str × Addr)} {outer : List Env} {A₀ : Around} {base h₀ : Heap} {L : Addr} {m : Mp} {news : Led} {s : Shared} {Q : Value → Shared → Prop}
section
variable {prog : Program} {A : Around} {env : Env}
/-- a list comprehension by an invariant -/
theorem comp_rest {elt : Expr} {x : Str} {scope : Scope} {cl' : List (Str × Addr)} {S : Led → Prop} {P : Nat → Value → Prop} {Fin : List Value → Led → Prop} {h₁ : Heap} {n : Nat} (R : Nat → List Value → Led → Prop)
    (turn : ∀ i ys news, i < n → R i ys news → ∀ v I oI C oC D m₂ h tk (E' : Value → Shared → Prop), P i v → LCg.NsObj oC m₂ → m₂ x = some v → Fr h₁ L h m → News h₁ L h ((I, oI) :: (C, oC) :: (D, LCg.lst ys) :: news) → LCg.Off3 I C D news → ((@Ne Nat I C) ∧ (@Ne Nat I D) ∧ (@Ne Nat C D)) →
      wpAny (model prog w) A (eval elt (compEnvC scope cl' C env)) (LCg.CompEnd h₁ L m { s with heap := h, toks := tk } I oI C oC D (LCg.lst ys) S (fun y news' => R (i + 1) (ys ++ [y]) news')) E' { s with heap := h, toks := tk })
    (done : ∀ ys news, R n ys news → Fin ys news) : ∀ k i ys news, i + k = n → R i ys news → LCg.CompRest prog w A h₁ L m env elt x scope cl' s S P Fin k i ys news := by
  intro k
  induction k with
  | zero =>
    intro i ys news e hR
    have e' : i = n := by omega
    subst e'
    exact LCg.CompRest.zero (done _ _ hR)
  | succ k ih =>
    intro i ys news e hR
    refine LCg.CompRest.succ fun v I oI C oC D m₂ h tk E' hP hC hx F N off ne => ?_
    refine wpAny_mono (turn i ys news (by omega) hR v I oI C oC D m₂ h tk E' hP hC hx F N off ne) (fun y s₂ h₂ => ?_) (fun _ _ h => h)
    obtain ⟨h', tk', news', e1, F', N', o', S', r⟩ := h₂
    exact ⟨h', tk', news', e1, F', N', o', S', ih (i + 1) _ _ (by omega) r⟩
end
section
variable {d u : Nat} {name qual : Str} {params : Arguments} {body : List Stmt} {scope : Scope} {dV kV doc pm cdv ct oc : Value} {an od : Option Addr} {osl : Array (Option Value)} {f : Addr} {args : Args}
/-- a call of a def of the text, its frame laid; what stood stands -/
theorem enterB (binds : List (Str × Value)) (Post : Value → Led → Prop) (c : Cx w p loose mean mg mb outer A₀ base h₀ L m news s cs dp un d u)
    (ho : (K w.params).lookup f = some ⟨oc, od, .func (fnOf name qual params body scope dV kV doc pm an cdv ct), osl⟩) (hcd : codeIn (K w.params) cdv qual = true)
    (hbind : BindsTo s (fnOf name qual params body scope dV kV doc pm an cdv ct) args binds) (hloc : (binds.all fun x => decide (scope.names.lookup x.1 = some .local)) = true)
    (hco : scope.isCoroutine = false) (hgen : scope.isGenerator = false) (hk : scope.kind = .function) (hcell : ∀ x ∈ scope.names, x.2 ≠ .cell)
    (walk : ∀ g L' h₁ tk, (∀ b o, h₀.get? b = some o → g.get? b = some o) → Fr g L' h₁ (fun y => binds.reverse.lookup y) → News g L' h₁ news → Below (ktrTop dp un gd cn cs L a ccd cl outer) base (envX cn cs L a ccd cl :: outer) g → (K w.params).In g → Top p loose mean mg mb g → (∀ q ∈ news, q.1 ≠ L') →
      wpAny (md w) ((ktrTop dp un gd cn cs L a ccd cl outer).deeper (envOf qual scope L' f cdv)) (execs body (envOf qual scope L' f cdv)) (RetAt g L' s Post) (fun _ _ => False) { s with heap := h₁, toks := tk })
    (ret : ∀ v news' h' tk', Post v news' → Fr h₀ L h' m → News h₀ L h' news' → Q v { s with heap := h', toks := tk' }) :
    codeAny (md w) (ktrTop dp un gd cn cs L a ccd cl outer) (.call (.ref f) args) (fun r s' => match r with | .ok (.ret v) => Q v s' | .ok _ => False | .error _ => False) s := by
  refine code_def c.B c.F c.X c.N c.T rfl rfl c.hk ho hcd (by have := c.hd; show dp < _; omega) hbind (locs hloc) ?_ hco hgen hk hcell
  intro g L' h₁ FG F' N' B' X' T'
  refine wpAny_mono (walk g L' h₁ _ FG.keep F' N' B' X' T' (fun q hq => (N' q hq).2.1)) ?_ (fun _ _ h => h.elim)
  rintro fl s' ⟨v, h', tk, m', news', hv, rfl, F₂, N₂, hp⟩
  subst hv
  cases fl <;> exact leaveK_ F₂ N₂ fun F₃ N₃ => ret _ news' _ _ hp F₃ N₃
end
section
variable {prog : Program} {A : Around} {E : Value → Shared → Prop} {l : Addr} {value slice : PySem.Expr} {vs : List Value} {ns : List Int} {k : Nat} {y : Int} {t : Tok}
theorem slice_toB (F : Fr h₀ L s.heap m) (N : News h₀ L s.heap news) (hl : h₀.IsList l vs.toArray) (hi : IntsAre vs ns) (h0 : 0 ≤ y) (hz : ns.length ≤ 2000)
    (h : ∀ D ws h', Fr h₀ L h' m → News h₀ L h' ((D, listObj ws 0) :: news) → (∀ p ∈ news, p.1 < D) → IntsAre ws (ns.take y.toNat) → Q (.ref D) { s with heap := h' })
    (hs : subscripted slice false (.ref l) (.ref s.heap.objs.size) = operate [.ref s.heap.objs.size, .ref l] (getItem (.ref l) (.ref s.heap.objs.size)) := by with_unfolding_all rfl) (ht : ∀ r, letTemporaryGo value (.ref l) r = pure () := by intro _; with_unfolding_all rfl) :
    wpAny (model prog w) A (subscriptTail value slice (.ref l) (.ref s.heap.objs.size)) Q E { s with heap := s.heap.push { cls := .type "slice", data := .fields #[.none, .int y t, .none] } } :=
  kmk_slice_ints (c := _) F N (by obtain ⟨o, e, r⟩ := hl; exact ⟨o, F.keep _ _ e, r⟩) .none (.int y t) hi (kmk_upto hi h0) rfl (fun D ws h' F' N' l1 hw _ _ => h D ws h' F' N' l1 hw) hs ht (kmk_sz hi (by rw [sizeLine_eq]; omega))
end
theorem LCgOff1 {D : Addr} : ∀ {l : Led}, LCg.Off1 D l → ∀ q ∈ l, q.1 ≠ D
  | [], _, _, h => nomatch h
  | _ :: _, x, q, h => by
    rcases List.mem_cons.mp h with rfl | h
    · exact x.1
    · exact LCgOff1 x.2 q h
set_option maxHeartbeats 4000000 in
theorem deck_spec {l : Addr} {vs : List Value} {ns : List Int} (hl : h₀.IsList l vs.toArray) (hi : IntsAre vs ns) (hlen : ns.length ≤ 63) (c : Cx w p loose mean mg mb outer A₀ base h₀ L m news s cs dp un 4 80)
    (ret : ∀ dk X dl h' tk', DeckL w dk X dl → (∀ q ∈ news, q.1 ≠ X ∧ q.1 ≠ dk) → Fr h₀ L h' m → News h₀ L h' (dl ++ news) → Q (.ref dk) { s with heap := h', toks := tk' }) :
    wpAny (md w) (ktrTop dp un gd cn cs L a ccd cl outer) (call (.ref 326) [.ref l]) Q (fun _ _ => False) s := by
  have hd := c.hd
  have hu := c.hu
  refine wpAny_call (enterB (qual := Str.ofString "_law_deck") [(Str.ofString "script", .ref l)] (fun v news' => ∃ dk X dl, v = .ref dk ∧ DeckL w dk X dl ∧ (∀ q ∈ news, q.1 ≠ X ∧ q.1 ≠ dk) ∧ news' = dl ++ news) c
    (by k_is) (by k_is) (BindsTo.of_eq rfl) rfl rfl rfl rfl (by decide) ?_ (by rintro v news' h' tk' ⟨dk, X, dl, rfl, e1, e2, rfl⟩ F' N'; exact ret dk X dl h' tk' e1 e2 F' N'))
  clear ret c
  intro g L' h' tk' KG F' N' B' X' T' _
  have hl : g.IsList l vs.toArray := by obtain ⟨o, e, r⟩ := hl; exact ⟨o, KG _ _ e, r⟩
  clear KG
  repeat' (first | ((with_reducible show wpAny _ _ (execs (_ :: _) _) _ _ _); walk1; (try dsimp only)) | ((fail_if_success (with_reducible show wpAny _ _ (eval (Expr.ListComp _ _ _ _) _) _ _ _); fail_if_success (with_reducible show wpAny _ _ (exec (Stmt.While _ _ _ _) _) _ _ _); fail_if_success ((with_reducible show wpAny _ _ (exec _ _) _ _ _); show wpAny _ _ (exec (Stmt.For _ _ _ _ _) _) _ _ _); fail_if_success (with_reducible show wpAny _ _ (call (Value.ref _) _) _ _ _)); walk1; (try dsimp only)))
  refine LCg.ListComp_U (F₀ := by k_asm) (by with_unfolding_all rfl) (by decide) (by rfl) (by decide) (by rfl) ?_
  repeat' (first | ((with_reducible show wpAny _ _ (execs (_ :: _) _) _ _ _); walk1; (try dsimp only)) | ((fail_if_success (with_reducible show wpAny _ _ (eval (Expr.ListComp _ _ _ _) _) _ _ _); fail_if_success (with_reducible show wpAny _ _ (exec (Stmt.While _ _ _ _) _) _ _ _); fail_if_success ((with_reducible show wpAny _ _ (exec _ _) _ _ _); show wpAny _ _ (exec (Stmt.For _ _ _ _ _) _) _ _ _); fail_if_success (with_reducible show wpAny _ _ (call (Value.ref _) _) _ _ _)); walk1; (try dsimp only)))
  refine slice_toB (s := ⟨_, _, _, _, _⟩) F' N' hl hi (by decide) (by omega) ?_
  intro D5 ws h5 F5 N5 l5 hws
  dsimp only
  have hwl : ws.length ≤ 24 := by
    rw [hws.length, List.length_take]
    exact Nat.min_le_left _ _
  refine LCg.CompSrc.ledger rfl F5 N5 (.head _) (by rw [sizeLine_eq, List.size_toArray]; omega) fun g₃ => ?_
  refine comp_rest (fun i ys nw => nw = (D5, listObj ws 0) :: news ∧ ∃ ms, IntsAre ys ms ∧ ms.length = i ∧ ∀ x ∈ ms, 0 ≤ x ∧ x < 1000003) ?_ ?_ _ 0 _ _ (Nat.zero_add _) ⟨rfl, [], .nil, rfl, fun x hx => nomatch hx⟩
  · rintro i ys nw hin ⟨rfl, ms, h1, h2, h3⟩ v I oI C oC D m₂ h₆ tk₆ E' hv hC hx F₆ N₆ off ne
    obtain ⟨c₀, t₀, rfl, hc₀⟩ := hws.at i v (by simpa using hv)
    clear F' N' F5 N5
    repeat' (first | ((with_reducible show wpAny _ _ (execs (_ :: _) _) _ _ _); walk1; (try dsimp only)) | ((fail_if_success (with_reducible show wpAny _ _ (eval (Expr.ListComp _ _ _ _) _) _ _ _); fail_if_success (with_reducible show wpAny _ _ (exec (Stmt.While _ _ _ _) _) _ _ _); fail_if_success ((with_reducible show wpAny _ _ (exec _ _) _ _ _); show wpAny _ _ (exec (Stmt.For _ _ _ _ _) _) _ _ _); fail_if_success (with_reducible show wpAny _ _ (call (Value.ref _) _) _ _ _)); walk1; (try dsimp only)))
    have b := fmod_bounds c₀ (b := 1000003) (by omega)
    refine ⟨_, _, _, rfl, F₆, N₆, off, .inr ⟨_, .head _, rfl, _, rfl⟩, rfl, ms ++ [Int.fmod c₀ 1000003], IntsAre.append h1 (.cons _ _ .nil), by simp [h2], fun x hx => ?_⟩
    rcases List.mem_append.mp hx with hx | hx
    · exact h3 x hx
    · obtain rfl := List.mem_singleton.mp hx
      exact b
  · rintro ys nw ⟨rfl, ms, h1, h2, h3⟩ D9 h9 tk9 F9 N9 o9
    dsimp only
    have hyl : ys.length ≤ 24 := by rw [h1.length, h2, List.size_toArray]; exact hwl
    clear F5 N5 F' N'
    repeat' (first | ((with_reducible show wpAny _ _ (execs (_ :: _) _) _ _ _); walk1; (try dsimp only)) | ((fail_if_success (with_reducible show wpAny _ _ (eval (Expr.ListComp _ _ _ _) _) _ _ _); fail_if_success (with_reducible show wpAny _ _ (exec (Stmt.While _ _ _ _) _) _ _ _); fail_if_success ((with_reducible show wpAny _ _ (exec _ _) _ _ _); show wpAny _ _ (exec (Stmt.For _ _ _ _ _) _) _ _ _); fail_if_success (with_reducible show wpAny _ _ (call (Value.ref _) _) _ _ _)); walk1; (try dsimp only)))
    rename Fr _ _ _ _ => F10
    rename News _ _ _ _ => N10
    show wpAny _ _ (exec _ _) _ _ _
    refine for_at ?_
    repeat' (first | ((with_reducible show wpAny _ _ (execs (_ :: _) _) _ _ _); walk1; (try dsimp only)) | ((fail_if_success (with_reducible show wpAny _ _ (eval (Expr.ListComp _ _ _ _) _) _ _ _); fail_if_success (with_reducible show wpAny _ _ (exec (Stmt.While _ _ _ _) _) _ _ _); fail_if_success ((with_reducible show wpAny _ _ (exec _ _) _ _ _); show wpAny _ _ (exec (Stmt.For _ _ _ _ _) _) _ _ _); fail_if_success (with_reducible show wpAny _ _ (call (Value.ref _) _) _ _ _)); walk1; (try dsimp only)))
    refine ForAt.list (l := D9) (vs := ys) (k := ys.length) (s := ⟨_, _, _, _, _⟩) (fun i m' nw => ∃ mx t, Knows [(Str.ofString "left", .ref D9), (Str.ofString "mixed", .int mx t), (Str.ofString "script", .ref l)] m' ∧ nw = (D9, listObj ys ys.length) :: news ∧ 0 ≤ mx ∧ mx < 1000003) rfl F10 (news := (D9, listObj ys ys.length) :: news) (fun q hq => N10 q (by rcases List.mem_cons.mp hq with rfl | hq; exact .tail _ (.head _); exact .tail _ (.tail _ (.tail _ hq)))) ⟨7025, _, ⟨rfl, rfl, rfl, trivial⟩, rfl, by decide, by decide⟩ (by rintro i m' nw ⟨mx, t, _, rfl, _⟩; exact .head _) ?_ ?_
    · rintro i v m₁ nw h₁ tk₁ I o hv ⟨mx, t, hk, rfl, b1, b2⟩ hI F₁ N₁
      obtain ⟨c₀, t₀, rfl, hc₀⟩ := h1.at i v hv
      rw [hk.ov] at F₁
      clear hk F10 N10; (try clear F9); (try clear N9)
      repeat' (first | ((with_reducible show wpAny _ _ (execs (_ :: _) _) _ _ _); walk1; (try dsimp only)) | ((fail_if_success (with_reducible show wpAny _ _ (eval (Expr.ListComp _ _ _ _) _) _ _ _); fail_if_success (with_reducible show wpAny _ _ (exec (Stmt.While _ _ _ _) _) _ _ _); fail_if_success ((with_reducible show wpAny _ _ (exec _ _) _ _ _); show wpAny _ _ (exec (Stmt.For _ _ _ _ _) _) _ _ _); fail_if_success (with_reducible show wpAny _ _ (call (Value.ref _) _) _ _ _)); walk1; (try dsimp only)))
      rename Fr _ _ _ _ => F11
      rename News _ _ _ _ => N11
      have b := fmod_bounds (mx * 31 + c₀ + 1) (b := 1000003) (by omega)
      exact ⟨_, _, _, _, rfl, F11, N11, hI, _, _, ⟨rfl, rfl, rfl, trivial⟩, rfl, b⟩
    · rintro m₁ nw h₁ tk₁ ⟨mx, t, hk, rfl, b1, b2⟩ F₁ N₁
      rw [hk.ov] at F₁
      clear hk F10 N10; (try clear F9); (try clear N9)
      repeat' (first | ((with_reducible show wpAny _ _ (execs (_ :: _) _) _ _ _); walk1; (try dsimp only)) | ((fail_if_success (with_reducible show wpAny _ _ (eval (Expr.ListComp _ _ _ _) _) _ _ _); fail_if_success (with_reducible show wpAny _ _ (exec (Stmt.While _ _ _ _) _) _ _ _); fail_if_success ((with_reducible show wpAny _ _ (exec _ _) _ _ _); show wpAny _ _ (exec (Stmt.For _ _ _ _ _) _) _ _ _); fail_if_success (with_reducible show wpAny _ _ (call (Value.ref _) _) _ _ _)); walk1; (try dsimp only)))
      rename Fr _ _ _ _ => F12
      rename Fr _ _ _ _ => F13
      rename News _ _ _ _ => N12
      rename Obj.IsDictOf _ _ _ => hdd
      rename _ ∧ _ => l12
      refine RetAt.ret (by assumption) (news' := [(D9, listObj ys ys.length), (_, _)] ++ news) (fun q hq => ?_) ⟨_, D9, _, rfl, ⟨ys, _, ms, _, mx, rfl, h1, by rw [← h1.length]; exact hyl, h3, ⟨_, t, hdd, rfl, rfl, Nat.le_refl _⟩, b1, b2⟩, fun q hq => ⟨LCgOff1 o9 q (.tail _ hq), Nat.ne_of_lt (allLt_mem l12.2 q hq)⟩, rfl⟩
      rcases List.mem_cons.mp hq with rfl | hq
      · exact N12 _ (.tail _ (.head _))
      rcases List.mem_cons.mp hq with rfl | hq
      · exact N12 _ (.head _)
      · exact N12 _ (.tail _ (.tail _ hq))
end
end
end
end
section
set_option maxHeartbeats 1000000
theorem tail_at {prog : Program} {w : World} {A : Around} {E : Value → Shared → Prop} {s : Shared} {value slice : PySem.Expr} {h₀ : Heap} {L l : Addr} {news : Led} {vs : List Value} {n : Nat} {k : Int} {u : Tok} {v : Value} {Q : Value → Shared → Prop} (N : News h₀ L s.heap news) (hm : (l, listObj vs n) ∈ news)
    (h0 : 0 ≤ k) (hfit : k < 2 ^ 63) (hx : vs[k.toNat]? = some v) (h : Q v s)
    (hs : subscripted slice false (.ref l) (.int k u) = operate [.ref l, .int k u] (getItem (.ref l) (.int k u)) := by with_unfolding_all rfl) :
    wpAny (model prog w) A (subscriptTail value slice (.ref l) (.int k u)) Q E s := tail_item ⟨_, (N _ hm).1, rfl, _, rfl⟩ h0 hfit hx h hs
end
section
local macro_rules | `(tactic| walk_at "subscriptTail Name ti") => `(tactic| ((with_reducible show wpAny _ _ (subscriptTail _ _ (Value.ref _) (Value.int _ _)) _ _ _); first | (refine tail_at (by k_asm) (by k_mem) (by omega) (by omega) (by assumption) ?_) | (refine kdt_tail (knd := PySem.intKind _ _) (by k_asm) (by k_mem) (by k_asm) ?_; refine kdt_getItem (knd := PySem.intKind _ _) (by k_asm) (by k_mem) (by k_asm) (intKind_is _ _ _ _) (by assumption) ?_)))
local macro_rules | `(tactic| walk_at "subscriptTail Name Name ref int") => `(tactic| walk_at "subscriptTail Name ti")
local macro_rules | `(tactic| walk_at "subscriptTail Name BinOp ref int") => `(tactic| walk_at "subscriptTail Name ti")
local macro_rules | `(tactic| walk_at "subscriptTail Name Subscript ref int") => `(tactic| walk_at "subscriptTail Name ti")
section
local macro_rules | `(tactic| walk_at "setItem ref int") => `(tactic| (refine ksa_set (by k_asm) (by k_asm) (updF_upd (by k_updF)) (by l_ints) (by omega) (by (try simp only [List.length_set]); omega) (by omega) ?_; intro h' F' N' hi' hl' hs'; clear hl' hs'; (try dsimp only at N')))
section
set_option maxHeartbeats 1000000
theorem reg23 (w : World) : (model PySem.Challenge.rw_nt0032_01.row.prog w = model PySem.Challenge.rw_nt0032_01.row.prog w) ∧ K w.params = K w.params := by
  k_fill
  exact ⟨rfl, rfl⟩
section
variable {w : World} {p : Program} {loose : List Str} {mean : ExcName → Option Value} {mg mb : Mp} {dp un : Nat} {gd : Option (List Code)} {cn : Str} {cs : Scope} {a : Addr} {ccd : Value} {cl : List (Str × Addr)} {outer : List Env} {A₀ : Around} {base h₀ : Heap} {L : Addr} {m : Mp} {news : Led} {s : Shared} {Q : Value → Shared → Prop}
/-- the classes as a dict of the ledger -/
def Classes (w : World) (od : Obj) (f : Int → Int) : Prop :=
  ∃ kvs, od.IsDictOf (intKind PySem.Challenge.rw_nt0032_01.row.prog w) kvs ∧ ∀ c, 97 ≤ c → c < 105 → ∃ t, valueAt kvs c = some (.int (f c) t)
def XJ (f : Int → Int) (cs₁ : List Int) (ds : List Int) : Prop := Same f cs₁ ds ∧ ds.length = cs₁.length ∧ ∀ c ∈ ds, 97 ≤ c ∧ c < 105
theorem ints_at : ∀ {vs : List Value} {ns : List Int} {i : Nat} {c : Int}, IntsAre vs ns → ns[i]? = some c → ∃ t, vs[i]? = some (.int c t)
  | _, _, i, _, .nil, h => by simp at h
  | _, _, 0, _, .cons a t r, h => ⟨t, by simpa using h⟩
  | _, _, i + 1, _, .cons a t r, h => by
    obtain ⟨t', h'⟩ := ints_at r (i := i) (by simpa using h)
    exact ⟨t', by simpa using h'⟩
theorem XJ.swap {f : Int → Int} {cs₁ u v : List Int} {a b : Int} (h : XJ f cs₁ (u ++ a :: b :: v)) (h0 : 0 < f b) (h1 : f b < f a) : XJ f cs₁ (u ++ b :: a :: v) :=
  ⟨h.1.trans (Same.swap (by omega) h0 (by omega) u v), by rw [← h.2.1]; simp, fun c hc => h.2.2 c (by simp only [List.mem_append, List.mem_cons] at hc ⊢; rcases hc with h | h | h | h <;> simp [h])⟩
set_option maxHeartbeats 4000000 in
theorem exchanged_spec {cd tx : Addr} {od : Obj} {f : Int → Int} {ts : List Value} {kt : Nat} {cs₁ : List Int} (c : Cx w p loose mean mg mb outer A₀ base h₀ L m news s cs dp un 4 80)
    (hcd : (cd, od) ∈ news) (hcl : Classes w od f) (ht : (tx, listObj ts kt) ∈ news) (hi : IntsAre ts cs₁) (hcs : ∀ c ∈ cs₁, 97 ≤ c ∧ c < 105) (hlen : cs₁.length < 50)
    (ret : ∀ D fs k ds h' tk', IntsAre fs ds → NoDesc f ds → Same f cs₁ ds → ds.length = cs₁.length → (∀ c ∈ ds, 97 ≤ c ∧ c < 105) → (∀ q ∈ news, q.1 < D) → Fr h₀ L h' m → News h₀ L h' ((D, listObj fs k) :: news) → Q (.ref D) { s with heap := h', toks := tk' }) :
    wpAny (md w) (ktrTop dp un gd cn cs L a ccd cl outer) (call (.ref 340) [.ref cd, .ref tx]) Q (fun _ _ => False) s := by
  have hd := c.hd
  have hu := c.hu
  refine wpAny_call (enter (qual := Str.ofString "_law_exchanged") [(Str.ofString "classes", .ref cd), (Str.ofString "text", .ref tx)] (fun v news' => ∃ D fs k ds, v = .ref D ∧ IntsAre fs ds ∧ NoDesc f ds ∧ XJ f cs₁ ds ∧ (∀ q ∈ news, q.1 < D) ∧ news' = (D, listObj fs k) :: news) c
    (by k_is) (by k_is) (BindsTo.of_eq rfl) rfl rfl rfl rfl (by decide) ?_ (by rintro v news' h' tk' ⟨D, fs, k, ds, rfl, e1, e2, e3, e4, rfl⟩ F' N'; exact ret D fs k ds h' tk' e1 e2 e3.1 e3.2.1 e3.2.2 e4 F' N'))
  clear ret c
  obtain ⟨kvs, ho, hval⟩ := hcl
  intro g L' h' tk' F' N' B' X' T' _
  refine wp_gen fun Q₀ hQ₀ => ?_
  repeat' (first | ((with_reducible show wpAny _ _ (execs (_ :: _) _) _ _ _); walk1; (try dsimp only)) | (((fail_if_success (with_reducible show wpAny _ _ (eval (Expr.ListComp _ _ _ _) _) _ _ _)); (fail_if_success ((with_reducible show wpAny _ _ (exec _ _) _ _ _); show wpAny _ _ (exec (Stmt.While _ _ _ _) _) _ _ _)); (fail_if_success ((with_reducible show wpAny _ _ (exec _ _) _ _ _); show wpAny _ _ (exec (Stmt.For _ _ _ _ _) _) _ _ _)); (fail_if_success (with_reducible show wpAny _ _ (call (Value.ref _) _) _ _ _))); walk1; (try dsimp only)))
  rename Fr _ _ _ _ => F20
  rename News _ _ _ _ => N20
  rename ∀ q ∈ news, q.1 < _ => lD0
  refine (fun (D : Addr) (k0 : Nat) (m2 : Mp) (lD : ∀ q ∈ news, q.1 < D) (F2 : Fr g L' _ m2) (N2 : News g L' _ ((D, listObj ts k0) :: news)) (hk : Knows [(Str.ofString "classes", .ref cd), (Str.ofString "text", .ref tx), (Str.ofString "found", .ref D), (Str.ofString "is_new", .bool true)] m2) => ?_) _ _ _ lD0 F20 (fun q hq => N20 q (.tail _ hq)) ⟨rfl, rfl, rfl, rfl, trivial⟩
  clear lD0 F20 N20; (try clear F' N')
  have nD : ∀ q ∈ news, q.1 ≠ D := fun q hq => Nat.ne_of_lt (lD q hq)
  show wpAny _ _ (exec _ _) _ _ _
  refine whl_inv (s := ⟨_, _, _, _, _⟩) (fun n m₁ nw => ∃ b ds fs k', Knows [(Str.ofString "classes", .ref cd), (Str.ofString "text", .ref tx), (Str.ofString "found", .ref D), (Str.ofString "is_new", .bool b)] m₁ ∧ nw = (D, listObj fs k') :: news ∧ IntsAre fs ds ∧ n = inv f ds + b.toNat ∧ (b = false → NoDesc f ds) ∧ XJ f cs₁ ds) (inv f cs₁ + 1)
    F2 N2 PassesOwn.never ⟨true, cs₁, ts, k0, hk, rfl, hi, rfl, (fun e => nomatch e), ⟨Same.refl _, rfl, hcs⟩⟩ ?_
  rintro n m₁ nw h₃ tk₃ ⟨b, ds, fs, k', hk₁, rfl, hfs, rfl, hb, hx1, hx2, hx3⟩ F3 N3
  rw [hk₁.ov] at F3
  clear F2 N2 hk hk₁
  cases b with
  | false =>
    repeat' (first | ((with_reducible show wpAny _ _ (execs (_ :: _) _) _ _ _); walk1; (try dsimp only)) | (((fail_if_success (with_reducible show wpAny _ _ (eval (Expr.ListComp _ _ _ _) _) _ _ _)); (fail_if_success ((with_reducible show wpAny _ _ (exec _ _) _ _ _); show wpAny _ _ (exec (Stmt.While _ _ _ _) _) _ _ _)); (fail_if_success ((with_reducible show wpAny _ _ (exec _ _) _ _ _); show wpAny _ _ (exec (Stmt.For _ _ _ _ _) _) _ _ _)); (fail_if_success (with_reducible show wpAny _ _ (call (Value.ref _) _) _ _ _))); walk1; (try dsimp only)))
    exact hQ₀ _ _ <| RetAt.ret F3 N3 ⟨D, fs, k', ds, rfl, hfs, hb rfl, ⟨hx1, hx2, hx3⟩, lD, rfl⟩
  | true =>
    repeat' (first | ((with_reducible show wpAny _ _ (execs (_ :: _) _) _ _ _); walk1; (try dsimp only)) | (((fail_if_success (with_reducible show wpAny _ _ (eval (Expr.ListComp _ _ _ _) _) _ _ _)); (fail_if_success ((with_reducible show wpAny _ _ (exec _ _) _ _ _); show wpAny _ _ (exec (Stmt.While _ _ _ _) _) _ _ _)); (fail_if_success ((with_reducible show wpAny _ _ (exec _ _) _ _ _); show wpAny _ _ (exec (Stmt.For _ _ _ _ _) _) _ _ _)); (fail_if_success (with_reducible show wpAny _ _ (call (Value.ref _) _) _ _ _))); walk1; (try dsimp only)))
    show wpAny _ _ (exec _ _) _ _ _
    refine for_at ?_
    repeat' (first | ((with_reducible show wpAny _ _ (execs (_ :: _) _) _ _ _); walk1; (try dsimp only)) | (((fail_if_success (with_reducible show wpAny _ _ (eval (Expr.ListComp _ _ _ _) _) _ _ _)); (fail_if_success ((with_reducible show wpAny _ _ (exec _ _) _ _ _); show wpAny _ _ (exec (Stmt.While _ _ _ _) _) _ _ _)); (fail_if_success ((with_reducible show wpAny _ _ (exec _ _) _ _ _); show wpAny _ _ (exec (Stmt.For _ _ _ _ _) _) _ _ _)); (fail_if_success (with_reducible show wpAny _ _ (call (Value.ref _) _) _ _ _))); walk1; (try dsimp only)))
    rename IsRange _ _ _ _ _ _ _ _ => hR
    rename Fr _ _ _ _ => F4
    rename News _ _ _ _ => N4
    refine ForAt.range (n := ds.length - 1) (s := ⟨_, _, _, _, _⟩) (fun i m₅ nw => ∃ b' ds' fs' k'', Knows [(Str.ofString "classes", .ref cd), (Str.ofString "text", .ref tx), (Str.ofString "found", .ref D), (Str.ofString "is_new", .bool b')] m₅ ∧ nw = (D, listObj fs' k'') :: news ∧ IntsAre fs' ds' ∧ inv f ds' + b'.toNat ≤ inv f ds ∧ (b' = false → ∀ j < i, ∀ a b, ds'[j]? = some a → ds'[j + 1]? = some b → ¬ (0 < f b ∧ f b < f a)) ∧ XJ f cs₁ ds')
      rfl hR (small_one (by decide) (by decide) (by omega) (by omega)) (by rw [rangeSize_one]; split <;> omega) F4 N4 ⟨false, ds, fs, k', ⟨rfl, rfl, rfl, rfl, trivial⟩, rfl, hfs, Nat.le_refl _, (fun _ j hj => absurd hj (Nat.not_lt_zero _)), ⟨hx1, hx2, hx3⟩⟩ ?_ ?_
    · rintro i t m₅ nw h₅ tk₅ I o hin ⟨b', ds', fs', k'', hk₅, rfl, hfs', hinv, hnd, hy1, hy2, hy3⟩ hI F5 N5
      have hi0 : i < ds'.length := by omega
      have hi1 : i + 1 < ds'.length := by omega
      have ea := List.getElem?_eq_getElem hi0
      have eb := List.getElem?_eq_getElem hi1
      generalize ds'[i] = x at ea
      generalize ds'[i + 1] = y at eb
      obtain ⟨u, v, rfl, hul⟩ := cut2 ea eb
      obtain ⟨tx', hvx⟩ := ints_at hfs' ea
      obtain ⟨ty', hvy⟩ := ints_at hfs' eb
      have cx := hy3 x (by simp)
      have cy := hy3 y (by simp)
      obtain ⟨sx, hsx⟩ := hval x cx.1 cx.2
      obtain ⟨sy, hsy⟩ := hval y cy.1 cy.2
      have hvx' : fs'[((0 : Int) + (i : Int)).toNat]? = some (.int x tx') := by rw [show ((0 : Int) + (i : Int)).toNat = i by omega]; exact hvx
      have hvy' : fs'[((0 : Int) + (i : Int) + 1).toNat]? = some (.int y ty') := by rw [show ((0 : Int) + (i : Int) + 1).toNat = i + 1 by omega]; exact hvy
      have hsep : ∀ q ∈ news ++ [(I, o)], q.1 ≠ D := fun q hq => by
        rcases List.mem_append.mp hq with hq | hq
        · exact nD q hq
        · obtain rfl := List.mem_singleton.mp hq
          exact (hI _ (.head _)).symm
      rw [hk₅.ov] at F5
      simp only [List.cons_append] at N5
      clear hk₅ hR F4 N4; (try clear N3); (try clear F3)
      have hnd2 : b' = false → ¬ (0 < f y ∧ f y < f x) → ∀ j < i + 1, ∀ a b, (u ++ x :: y :: v)[j]? = some a → (u ++ x :: y :: v)[j + 1]? = some b → ¬ (0 < f b ∧ f b < f a) := fun e hn j hj a b h1 h2 => by
        rcases Nat.lt_or_ge j i with hlt | hge
        · exact hnd e j hlt a b h1 h2
        · obtain rfl : j = i := by omega
          rw [ea] at h1
          rw [eb] at h2
          cases h1
          cases h2
          exact hn
      clear hnd
      refine wp_gen2 fun E₁ hE₁ => ?_
      repeat' (first | ((with_reducible show wpAny _ _ (execs (_ :: _) _) _ _ _); walk1; (try dsimp only)) | (((fail_if_success (with_reducible show wpAny _ _ (eval (Expr.ListComp _ _ _ _) _) _ _ _)); (fail_if_success ((with_reducible show wpAny _ _ (exec _ _) _ _ _); show wpAny _ _ (exec (Stmt.While _ _ _ _) _) _ _ _)); (fail_if_success ((with_reducible show wpAny _ _ (exec _ _) _ _ _); show wpAny _ _ (exec (Stmt.For _ _ _ _ _) _) _ _ _)); (fail_if_success (with_reducible show wpAny _ _ (call (Value.ref _) _) _ _ _))); walk1; (try dsimp only)))
      all_goals (try ((with_reducible show E₁ _ _); rename Fr _ _ _ _ => F6; rename News _ _ _ _ => N6; exact hE₁ _ _ ⟨_, _, _, (D, listObj fs' k'') :: news, rfl, F6, N6, hI, b', _, fs', k'', ⟨rfl, rfl, rfl, rfl, trivial⟩, rfl, hfs', hinv, fun e => hnd2 e (by omega), ⟨hy1, hy2, hy3⟩⟩))
      rename Fr _ _ _ _ => F6
      rename News _ _ _ _ => N6
      rename IntsAre (List.set (List.set _ _ _) _ _) _ => hI2
      rename f y < f x => hlt
      rename 0 < f y => hy0
      have es : ((u ++ x :: y :: v).set ((0 : Int) + (i : Int)).toNat y).set ((0 : Int) + (i : Int) + 1).toNat x = u ++ y :: x :: v := by
        rw [show ((0 : Int) + (i : Int)).toNat = i by omega, show ((0 : Int) + (i : Int) + 1).toNat = i + 1 by omega]
        exact set2 hul
      rw [es] at hI2
      have hs := inv_swap hlt v u
      exact hE₁ _ _ ⟨_, _, _, (D, listObj _ k'') :: news, rfl, F6, fun q hq => N6 q (.tail _ hq), fun q hq => by
        rcases List.mem_cons.mp hq with rfl | hq
        · exact hI (D, listObj fs' k'') (.head _)
        · exact hI q (.tail _ hq), true, u ++ y :: x :: v, _, k'', ⟨rfl, rfl, rfl, rfl, trivial⟩, rfl, hI2, by show _ + 1 ≤ _; omega, (fun e => nomatch e), XJ.swap ⟨hy1, hy2, hy3⟩ hy0 hlt⟩
    · rintro m₅ nw h₅ tk₅ ⟨b', ds', fs', k'', hk₅, rfl, hfs', hinv, hnd, hy⟩ F5 N5
      rw [hk₅.ov] at F5
      clear hk₅ hR F4 N4; (try clear N3); (try clear F3)
      repeat' (first | ((with_reducible show wpAny _ _ (execs (_ :: _) _) _ _ _); walk1; (try dsimp only)) | (((fail_if_success (with_reducible show wpAny _ _ (eval (Expr.ListComp _ _ _ _) _) _ _ _)); (fail_if_success ((with_reducible show wpAny _ _ (exec _ _) _ _ _); show wpAny _ _ (exec (Stmt.While _ _ _ _) _) _ _ _)); (fail_if_success ((with_reducible show wpAny _ _ (exec _ _) _ _ _); show wpAny _ _ (exec (Stmt.For _ _ _ _ _) _) _ _ _)); (fail_if_success (with_reducible show wpAny _ _ (call (Value.ref _) _) _ _ _))); walk1; (try dsimp only)))
      exact ⟨_, _, _, _, _, by show _ < _ + 1; omega, rfl, F5, N5, b', ds', fs', k'', ⟨rfl, rfl, rfl, rfl, trivial⟩, rfl, hfs', rfl, (fun e => NoDesc.ofAt fun j a b h1 h2 => hnd e j (by
        have := (List.getElem?_eq_some_iff.mp h2).1
        have := hy.2.1
        omega) a b h1 h2), hy⟩
end
end
end
section
local macro_rules | `(tactic| walk_at "setItem ref int") => `(tactic| (refine ksa_set (by k_asm) (by k_asm) (updF_upd (by k_updF)) (by l_ints) (by omega) (by (try simp only [List.length_set]); omega) (by omega) ?_; intro h' F' N' hi' hl' hs'; clear hl' hs'; (try dsimp only at N')))
section
set_option maxHeartbeats 1000000
theorem reg24 (w : World) : (model PySem.Challenge.rw_nt0032_01.row.prog w = model PySem.Challenge.rw_nt0032_01.row.prog w) ∧ K w.params = K w.params := by
  k_fill
  exact ⟨rfl, rfl⟩
section
variable {w : World} {p : Program} {loose : List Str} {mean : ExcName → Option Value} {mg mb : Mp} {dp un : Nat} {gd : Option (List Code)} {cn : Str} {cs : Scope} {a : Addr} {ccd : Value} {cl : List (Str × Addr)} {outer : List Env} {A₀ : Around} {base h₀ : Heap} {L : Addr} {m : Mp} {news : Led} {s : Shared} {Q : Value → Shared → Prop}
theorem CccAt.mono {xd mp x dx : Addr} {ns vals : List Int} {n1 n2 : Led} (h : CccAt w xd mp x dx ns vals n1) (hs : ∀ q ∈ n1, q ∈ n2) : CccAt w xd mp x dx ns vals n2 := by
  obtain ⟨n0, kvs, vv, dv, hDA, hn, hv, hvd, hk, ⟨st, vl, t1, t2, t3, g1, g2, g3, n, k1, k2, sv, q1, q2, q3, q4, q5⟩, hvv⟩ := h
  exact ⟨n0, kvs, vv, dv, hDA, fun q hq => ⟨hs _ (hn q hq).1, (hn q hq).2⟩, hv, hvd, hk, ⟨st, vl, t1, t2, t3, g1, g2, g3, n, k1, k2, sv, hs _ q1, hs _ q2, hs _ q3, hs _ q4, q5⟩, hvv⟩
/-- the addresses of law's own things -/
def Own5 (X dk cd c5 : Addr) (b : Addr) : Prop := b = X ∨ b = dk ∨ b = cd ∨ b = c5 ∨ b = 112
/-- the data while the classes are drawn -/
def DState (w : World) (xd mp : Addr) (i : Nat) (f : Int → Int) (rest : Led) : Prop :=
  (i = 0 ∧ DataAt w xd mp [] rest) ∨ (0 < i ∧ ∃ x dx ns vals, CccAt w xd mp x dx ns vals rest ∧ Shape ns vals ∧ ns.length ≤ 1 + 2 * i ∧ ∀ c, 97 ≤ c → c < 97 + (i : Int) → look (ns.zip vals) c 0 = f c)
def CState (w : World) (od : Obj) (i : Nat) (f : Int → Int) : Prop :=
  ∃ kvs, od.IsDictOf (intKind PySem.Challenge.rw_nt0032_01.row.prog w) kvs ∧ kvs.length ≤ i ∧ ∀ c, 97 ≤ c → c < 97 + (i : Int) → ∃ t, valueAt kvs c = some (.int (f c) t)
def Apart (X dk cd c5 : Addr) : Prop := X ≠ dk ∧ X ≠ cd ∧ X ≠ c5 ∧ X ≠ 112 ∧ dk ≠ cd ∧ dk ≠ c5 ∧ dk ≠ 112 ∧ cd ≠ c5 ∧ cd ≠ 112 ∧ c5 ≠ 112
/-- law's frame and ledger while the classes are drawn -/
def LawJ (w : World) (xd mp cd dk X c5 : Addr) (oc : Obj) (i : Nat) (m' : Mp) (nw : Led) : Prop :=
  ∃ dl od rest f, Knows [(Str.ofString "data", .ref xd), (Str.ofString "classes", .ref cd)] m' ∧ nw = (c5, oc) :: (cd, od) :: (112, tabObj #[]) :: (dl ++ rest) ∧ DeckL w dk X dl ∧ (∀ q ∈ rest, ¬ Own5 X dk cd c5 q.1) ∧ CState w od i f ∧ DState w xd mp i f rest
set_option maxHeartbeats 4000000 in
theorem law_a {fa : Addr} {cdv : Value} {l : Addr} {vs : List Value} {ns : List Int} {oc : Obj} {h₁ : Heap} {tk : Nat} (hl : h₀.IsList l vs.toArray) (hi : IntsAre vs ns) (hlen : ns.length ≤ 63)
    (B : Below A₀ base [] h₀) (X : (K w.params).In h₀) (T : Top p loose mean mg mb h₀) (F : Fr h₀ L h₁ m) (hm : Knows [(Str.ofString "script", .ref l)] m) (N : News h₀ L h₁ [(L + 1, oc), (112, tabObj #[])]) (hoc : oc.data = .cell none) (hd : dp + 40 < recursionLimit) (hu : un + 500 < cLine) :
    wpAny (md w) (ktrTop dp un gd (Str.ofString "law") C345 L fa cdv [(Str.ofString "deck", L + 1)] []) (execs (B345.take 1) (envOfC (Str.ofString "law") C345 L fa cdv))
      (fun f s' => match f with
        | .next => ∃ h tk m' xd mp cd dk X oc', s' = { s with heap := h, toks := tk } ∧ Fr h₀ L h m' ∧ Apart X dk cd (L + 1) ∧ oc'.data = .cell (some (.ref dk)) ∧ ∃ nw, LawJ w xd mp cd dk X (L + 1) oc' 0 m' nw ∧ News h₀ L h nw
        | _ => False) (fun _ _ => False) { s with heap := h₁, toks := tk } := by
  refine @wp_gen Flow _ _ _ _ _ _ ?_
  intro Q₀ hQ₀
  rw [hm.ov] at F
  clear hm
  have h5 : (L + 1 : Addr) ≠ 112 := fun e => by
    have z1 := (N _ (.head _)).1
    have z2 := (N _ (.tail _ (.head _))).1
    dsimp only at z1 z2
    rw [e, z2] at z1
    rw [← Option.some.inj z1] at hoc
    cases hoc
  repeat' (first | ((with_reducible show wpAny _ _ (execs (_ :: _) _) _ _ _); walk1; (try dsimp only)) | (((fail_if_success ((with_reducible show wpAny _ _ (exec _ _) _ _ _); show wpAny _ _ (exec (Stmt.Assign _ (Expr.ListComp _ _ _ _) _) _) _ _ _)); (fail_if_success (with_reducible show wpAny _ _ (eval (Expr.ListComp _ _ _ _) _) _ _ _)); (fail_if_success ((with_reducible show wpAny _ _ (exec _ _) _ _ _); show wpAny _ _ (exec (Stmt.While _ _ _ _) _) _ _ _)); (fail_if_success ((with_reducible show wpAny _ _ (exec _ _) _ _ _); show wpAny _ _ (exec (Stmt.For _ _ _ _ _) _) _ _ _)); (fail_if_success (with_reducible show wpAny _ _ (call (Value.ref _) _) _ _ _))); walk1; (try dsimp only)))
  refine deck_spec hl hi hlen ⟨by k_asm, by k_asm, by k_asm, by k_asm, by k_asm, rfl, by show dp + 4 < _; omega, by show un + 80 < _; omega⟩ ?_
  intro dk X₁ dl h₂ tk₂ hDk hfr F₂ N₂
  have a1 := hfr _ (.head _)
  have a2 := hfr _ (.tail _ (.head _))
  dsimp only at a1 a2
  clear F N hfr
  repeat' (first | ((with_reducible show wpAny _ _ (execs (_ :: _) _) _ _ _); walk1; (try dsimp only)) | (((fail_if_success ((with_reducible show wpAny _ _ (exec _ _) _ _ _); show wpAny _ _ (exec (Stmt.Assign _ (Expr.ListComp _ _ _ _) _) _) _ _ _)); (fail_if_success (with_reducible show wpAny _ _ (eval (Expr.ListComp _ _ _ _) _) _ _ _)); (fail_if_success ((with_reducible show wpAny _ _ (exec _ _) _ _ _); show wpAny _ _ (exec (Stmt.While _ _ _ _) _) _ _ _)); (fail_if_success ((with_reducible show wpAny _ _ (exec _ _) _ _ _); show wpAny _ _ (exec (Stmt.For _ _ _ _ _) _) _ _ _)); (fail_if_success (with_reducible show wpAny _ _ (call (Value.ref _) _) _ _ _))); walk1; (try dsimp only)))
  refine dnew_spec ⟨by k_asm, by k_asm, by k_asm, by k_asm, by k_asm, rfl, by show dp + 8 < _; omega, by show un + 40 < _; omega⟩ ?_
  intro xd mp own nw₃ h₃ tk₃ hDA hown hkp F₃ N₃
  obtain ⟨ls, k, left, od, mx, rfl, hdk1, hdk2, hdk3, hdk4, hdk5, hdk6⟩ := hDk
  have N₄ : News h₀ L h₃ ((L + 1, oc) :: (112, tabObj #[]) :: (X₁, listObj ls k) :: (dk, od) :: own) := fun q hq => by
    rcases List.mem_cons.mp hq with rfl | hq
    · exact N₃ _ (hkp _ (by k_mem))
    rcases List.mem_cons.mp hq with rfl | hq
    · exact N₃ _ (hkp _ (by k_mem))
    rcases List.mem_cons.mp hq with rfl | hq
    · exact N₃ _ (hkp _ (by k_mem))
    rcases List.mem_cons.mp hq with rfl | hq
    · exact N₃ _ (hkp _ (by k_mem))
    · exact N₃ _ (hown q hq).1
  have hc5 : ∀ q ∈ own, q.1 ≠ L + 1 := fun q hq => (Nat.ne_of_lt ((hown q hq).2 (L + 1, oc) (by k_mem))).symm
  have h12 : ∀ q ∈ own, q.1 ≠ 112 := fun q hq => (Nat.ne_of_lt ((hown q hq).2 (112, tabObj #[]) (by k_mem))).symm
  have hX : ∀ q ∈ own, q.1 ≠ X₁ := fun q hq => (Nat.ne_of_lt ((hown q hq).2 (X₁, listObj ls k) (by k_mem))).symm
  have hk : ∀ q ∈ own, q.1 ≠ dk := fun q hq => (Nat.ne_of_lt ((hown q hq).2 (dk, od) (by k_mem))).symm
  have odd : od.cls = .type "dict" := by obtain ⟨kvs, mt, ⟨es, ep, hc, _⟩, _⟩ := hdk4; exact hc.1
  have hXd : X₁ ≠ dk := listEq (N₄ (X₁, listObj ls k) (by k_mem)).1 (N₄ (dk, od) (by k_mem)).1 (by rw [odd]; exact list_dict)
  have hc6 : ∀ q ∈ (112, tabObj #[]) :: (X₁, listObj ls k) :: (dk, od) :: own, q.1 ≠ L + 1 := fun q hq => by
    rcases List.mem_cons.mp hq with rfl | hq
    · exact h5.symm
    rcases List.mem_cons.mp hq with rfl | hq
    · exact a1.1.symm
    rcases List.mem_cons.mp hq with rfl | hq
    · exact a1.2.symm
    · exact hc5 q hq
  clear N₃ N₂ F₂ hown hkp
  repeat' (first | ((with_reducible show wpAny _ _ (execs (_ :: _) _) _ _ _); walk1; (try dsimp only)) | (((fail_if_success ((with_reducible show wpAny _ _ (exec _ _) _ _ _); show wpAny _ _ (exec (Stmt.Assign _ (Expr.ListComp _ _ _ _) _) _) _ _ _)); (fail_if_success (with_reducible show wpAny _ _ (eval (Expr.ListComp _ _ _ _) _) _ _ _)); (fail_if_success ((with_reducible show wpAny _ _ (exec _ _) _ _ _); show wpAny _ _ (exec (Stmt.While _ _ _ _) _) _ _ _)); (fail_if_success ((with_reducible show wpAny _ _ (exec _ _) _ _ _); show wpAny _ _ (exec (Stmt.For _ _ _ _ _) _) _ _ _)); (fail_if_success (with_reducible show wpAny _ _ (call (Value.ref _) _) _ _ _))); walk1; (try dsimp only)))
  show wpAny _ _ (execs [] _) _ _ _
  refine wpAny_execs_nil (hQ₀ _ _ ?_)
  dsimp only
  rename Fr _ _ _ _ => F6
  rename News _ _ _ _ => N6
  rename _ ∧ _ => lT
  clear lT
  rename _ ∧ _ => lC
  rename Obj.IsDictOf (intKind _ _) _ _ => hic
  rename Obj.data _ = Data.cell _ => hcell
  obtain ⟨c1, c2, c3, c4, c6⟩ := lC
  refine ⟨_, _, _, xd, mp, _, dk, X₁, _, rfl, F6, ⟨hXd, Nat.ne_of_lt c3, a1.1.symm, a2.1.symm, Nat.ne_of_lt c4, a1.2.symm, a2.2.symm, (Nat.ne_of_lt c1).symm, (Nat.ne_of_lt c2).symm, h5⟩, hcell, _, ⟨[(X₁, listObj ls k), (dk, od)], _, own, fun _ => 0, ⟨rfl, rfl, trivial⟩, rfl, ⟨ls, k, left, od, mx, rfl, hdk1, hdk2, hdk3, hdk4, hdk5, hdk6⟩, fun q hq h => ?_, ⟨[], hic, Nat.le_refl _, fun c h1 h2 => absurd h1 (by omega)⟩, .inl ⟨rfl, hDA⟩⟩, fun q hq => N6 q ?_⟩
  · rcases h with h | h | h | h | h
    · exact hX q hq h
    · exact hk q hq h
    · exact Nat.ne_of_lt (allLt_mem c6 q hq) h
    · exact hc5 q hq h
    · exact h12 q hq h
  · rcases List.mem_cons.mp hq with rfl | hq
    · exact .tail _ (.tail _ (.head _))
    rcases List.mem_cons.mp hq with rfl | hq
    · exact .tail _ (.head _)
    rcases List.mem_cons.mp hq with rfl | hq
    · exact .tail _ (.tail _ (.tail _ (.head _)))
    · exact .tail _ (.tail _ (.tail _ (.tail _ hq)))
end
end
end
section
local macro_rules | `(tactic| walk_at "setItem ref int") => `(tactic| (refine kda_set (knd := PySem.intKind _ _) (by k_asm) (by k_asm) (by k_updF) (by k_asm) (intKind_is _ _ _ _) (by rw [sizeLine_eq]; omega) ?_; intro h' o' F' N' hd'; (try dsimp only at N' hd'); have hv' := set_facts hd'))
local macro_rules | `(tactic| walk_at "subscriptTail List Call ref int") => `(tactic| walk_at "subscriptTail Name ti")
section
section
set_option maxHeartbeats 1000000
theorem reg25 (w : World) : (model PySem.Challenge.rw_nt0032_01.row.prog w = model PySem.Challenge.rw_nt0032_01.row.prog w) ∧ K w.params = K w.params := by
  k_fill
  exact ⟨rfl, rfl⟩
section
variable {w : World} {p : Program} {loose : List Str} {mean : ExcName → Option Value} {mg mb : Mp} {dp un : Nat} {gd : Option (List Code)} {cn : Str} {cs : Scope} {a : Addr} {ccd : Value} {cl : List (Str × Addr)} {outer : List Env} {A₀ : Around} {base h₀ : Heap} {L : Addr} {m : Mp} {news : Led} {s : Shared} {Q : Value → Shared → Prop}
theorem DeckL.mem {dk X : Addr} {dl : Led} (h : DeckL w dk X dl) : (∃ o, (X, o) ∈ dl) ∧ (∃ o, (dk, o) ∈ dl) ∧ ∀ q ∈ dl, q.1 = X ∨ q.1 = dk := by
  obtain ⟨ls, k, left, od, mx, rfl, _⟩ := h
  refine ⟨⟨_, .head _⟩, ⟨_, .tail _ (.head _)⟩, fun q hq => ?_⟩
  rcases List.mem_cons.mp hq with rfl | hq
  · exact .inl rfl
  · obtain rfl := List.mem_singleton.mp hq
    exact .inr rfl
set_option maxHeartbeats 4000000 in
theorem law_loop {fa : Addr} {cdv : Value} {xd mp cd dk X : Addr} {oc : Obj} {h₁ : Heap} {tk : Nat} {nw₀ : Led}
    (B : Below A₀ base [] h₀) (Xk : (K w.params).In h₀) (T : Top p loose mean mg mb h₀) (F : Fr h₀ L h₁ m) (hJ : LawJ w xd mp cd dk X (L + 1) oc 0 m nw₀) (N : News h₀ L h₁ nw₀) (hA : Apart X dk cd (L + 1)) (hoc : oc.data = .cell (some (.ref dk))) (hd : dp + 40 < recursionLimit) (hu : un + 500 < cLine) :
    wpAny (md w) (ktrTop dp un gd (Str.ofString "law") C345 L fa cdv [(Str.ofString "deck", L + 1)] []) (execs ((B345.drop 1).take 1) (envOfC (Str.ofString "law") C345 L fa cdv))
      (fun f s' => match f with
        | .next => ∃ h tk m' nw, s' = { s with heap := h, toks := tk } ∧ Fr h₀ L h m' ∧ LawJ w xd mp cd dk X (L + 1) oc 8 m' nw ∧ News h₀ L h nw
        | _ => False) (fun _ _ => False) { s with heap := h₁, toks := tk } := by
  refine wp_gen fun Q₀ hQ₀ => ?_
  repeat' (first | ((with_reducible show wpAny _ _ (execs (_ :: _) _) _ _ _); walk1; (try dsimp only)) | (((fail_if_success ((with_reducible show wpAny _ _ (exec _ _) _ _ _); show wpAny _ _ (exec (Stmt.Assign _ (Expr.ListComp _ _ _ _) _) _) _ _ _)); (fail_if_success (with_reducible show wpAny _ _ (eval (Expr.ListComp _ _ _ _) _) _ _ _)); (fail_if_success ((with_reducible show wpAny _ _ (exec _ _) _ _ _); show wpAny _ _ (exec (Stmt.While _ _ _ _) _) _ _ _)); (fail_if_success ((with_reducible show wpAny _ _ (exec _ _) _ _ _); show wpAny _ _ (exec (Stmt.For _ _ _ _ _) _) _ _ _)); (fail_if_success (with_reducible show wpAny _ _ (call (Value.ref _) _) _ _ _))); walk1; (try dsimp only)))
  show wpAny _ _ (exec _ _) _ _ _
  refine for_at ?_
  obtain ⟨a1, a2, a3, a4, a5, a6, a7, a8, a9, a10⟩ := id hA
  have J₀ := hJ
  obtain ⟨dl, od, rest, f, hk, rfl, hDk, hS, hC, hDS⟩ := hJ
  rw [hk.ov] at F
  clear hk
  repeat' (first | ((with_reducible show wpAny _ _ (execs (_ :: _) _) _ _ _); walk1; (try dsimp only)) | (((fail_if_success ((with_reducible show wpAny _ _ (exec _ _) _ _ _); show wpAny _ _ (exec (Stmt.Assign _ (Expr.ListComp _ _ _ _) _) _) _ _ _)); (fail_if_success (with_reducible show wpAny _ _ (eval (Expr.ListComp _ _ _ _) _) _ _ _)); (fail_if_success ((with_reducible show wpAny _ _ (exec _ _) _ _ _); show wpAny _ _ (exec (Stmt.While _ _ _ _) _) _ _ _)); (fail_if_success ((with_reducible show wpAny _ _ (exec _ _) _ _ _); show wpAny _ _ (exec (Stmt.For _ _ _ _ _) _) _ _ _)); (fail_if_success (with_reducible show wpAny _ _ (call (Value.ref _) _) _ _ _))); walk1; (try dsimp only)))
  rename IsRange _ _ _ _ _ _ _ _ => hR
  rename Fr _ _ _ _ => F4
  rename News _ _ _ _ => N4
  refine ForAt.range (n := 8) (s := ⟨_, _, _, _, _⟩) (LawJ w xd mp cd dk X (L + 1) oc) rfl hR (small_one (by decide) (by decide) (by decide) (by decide)) (by rw [rangeSize_one]; rfl) F4 N4 ⟨dl, od, rest, f, ⟨rfl, rfl, trivial⟩, rfl, hDk, hS, hC, hDS⟩ ?_ ?_
  · clear F4 N4 hR J₀ hDk hS hC hDS
    rintro i t m₅ nw h₅ tk₅ I o hin ⟨dl, od, rest, f, hk₅, rfl, hDk, hS, hC, hDS⟩ hI F5 N5
    have xdm : ∃ ddx, (xd, instObj 317 ddx) ∈ rest ∧ ∃ g1 g2 g3 g4 t1 t2 t3 t4 df pr wd j, (ddx, dictOf [⟨g1, .str (Str.ofString "defaults") t1, .ref df⟩, ⟨g2, .str (Str.ofString "maps") t2, .ref mp⟩, ⟨g3, .str (Str.ofString "properties") t3, .ref pr⟩, ⟨g4, .str (Str.ofString "words") t4, .ref wd⟩] j) ∈ rest := by
      rcases hDS with ⟨_, ddx, df, pr, wd, om, od', t1, t2, t3, t4, g1, g2, g3, g4, j, m1, m2, _⟩ | ⟨_, x, dx, ns, vals, ⟨n0, kvs, vv, dv, ⟨ddx, df, pr, wd, om, od', t1, t2, t3, t4, g1, g2, g3, g4, j, m1, m2, _⟩, hn, _⟩, _⟩
      · exact ⟨ddx, m1, g1, g2, g3, g4, t1, t2, t3, t4, df, pr, wd, j, m2⟩
      · exact ⟨ddx, (hn _ m1).1, g1, g2, g3, g4, t1, t2, t3, t4, df, pr, wd, j, (hn _ m2).1⟩
    obtain ⟨ddx, xdm1, g1, g2, g3, g4, t1, t2, t3, t4, df, pr, wd, jj, xdm2⟩ := xdm
    obtain ⟨kvs, hC1, hC2, hC3⟩ := hC
    rw [hk₅.ov] at F5
    simp only [List.cons_append] at N5
    clear hk₅
    refine wp_gen2 fun E₁ hE₁ => ?_
    repeat' (first | ((with_reducible show wpAny _ _ (execs (_ :: _) _) _ _ _); walk1; (try dsimp only)) | (((fail_if_success ((with_reducible show wpAny _ _ (exec _ _) _ _ _); show wpAny _ _ (exec (Stmt.Assign _ (Expr.ListComp _ _ _ _) _) _) _ _ _)); (fail_if_success (with_reducible show wpAny _ _ (eval (Expr.ListComp _ _ _ _) _) _ _ _)); (fail_if_success ((with_reducible show wpAny _ _ (exec _ _) _ _ _); show wpAny _ _ (exec (Stmt.While _ _ _ _) _) _ _ _)); (fail_if_success ((with_reducible show wpAny _ _ (exec _ _) _ _ _); show wpAny _ _ (exec (Stmt.For _ _ _ _ _) _) _ _ _)); (fail_if_success (with_reducible show wpAny _ _ (call (Value.ref _) _) _ _ _))); walk1; (try dsimp only)))
    rename_i T₁ h6 F6 N6 lT
    obtain ⟨b1, b2, b3, b4⟩ := lT
    have b5 := allLt_mem b4
    obtain ⟨⟨oX, eX⟩, ⟨oD, eD⟩, hdl⟩ := hDk.mem
    have tX : T₁ ≠ X := Nat.ne_of_gt (b5 (X, oX) (by k_mem))
    have tD : T₁ ≠ dk := Nat.ne_of_gt (b5 (dk, oD) (by k_mem))
    have iX : I ≠ X := (hI (X, oX) (by k_mem)).symm
    have iD : I ≠ dk := (hI (dk, oD) (by k_mem)).symm
    have iC : I ≠ cd := (hI (cd, od) (by k_mem)).symm
    obtain ⟨vs6, hv6, N7⟩ : ∃ vs6, IntsAre vs6 [0, 1, 1, 220, 230, 254] ∧ News h₀ L h6 (dl ++ ((T₁, listObj vs6 0) :: (L + 1, oc) :: (cd, od) :: (112, tabObj #[]) :: (rest ++ [(I, o)]))) := ⟨[_, _, _, _, _, _], .cons _ _ (.cons _ _ (.cons _ _ (.cons _ _ (.cons _ _ (.cons _ _ .nil))))), fun q hq => N6 q (by
      rcases List.mem_append.mp hq with hq | hq
      · k_mem
      rcases List.mem_cons.mp hq with rfl | hq
      · exact .head _
      rcases List.mem_cons.mp hq with rfl | hq
      · k_mem
      rcases List.mem_cons.mp hq with rfl | hq
      · k_mem
      rcases List.mem_cons.mp hq with rfl | hq
      · k_mem
      rcases List.mem_append.mp hq with hq | hq
      · k_mem
      · k_mem)⟩
    clear N6
    refine draw_spec hDk ⟨by k_asm, by k_asm, by k_asm, N7, by k_asm, rfl, by show dp + 4 < _; omega, by show un + 80 < _; omega⟩ ?_ ?_ (by decide) (by decide) ?_
    · intro q hq
      rcases List.mem_cons.mp hq with rfl | hq
      · exact tX
      rcases List.mem_cons.mp hq with rfl | hq
      · exact a3.symm
      rcases List.mem_cons.mp hq with rfl | hq
      · exact a2.symm
      rcases List.mem_cons.mp hq with rfl | hq
      · exact a4.symm
      rcases List.mem_append.mp hq with hq | hq
      · exact fun e => hS q hq (.inl e)
      · obtain rfl := List.mem_singleton.mp hq
        exact iX
    · intro q hq
      rcases List.mem_cons.mp hq with rfl | hq
      · exact tD
      rcases List.mem_cons.mp hq with rfl | hq
      · exact a6.symm
      rcases List.mem_cons.mp hq with rfl | hq
      · exact a5.symm
      rcases List.mem_cons.mp hq with rfl | hq
      · exact a7.symm
      rcases List.mem_append.mp hq with hq | hq
      · exact fun e => hS q hq (.inr (.inl e))
      · obtain rfl := List.mem_singleton.mp hq
        exact iD
    intro r rt dl' h₇ tk₇ r0 r6 hDk' F₇ N₇
    obtain ⟨⟨oX', eX'⟩, ⟨oD', eD'⟩, hdl'⟩ := hDk'.mem
    have N8 : News h₀ L h₇ ((cd, od) :: (T₁, listObj vs6 0) :: (L + 1, oc) :: (112, tabObj #[]) :: (dl' ++ (rest ++ [(I, o)]))) := fun q hq => N₇ q (by
      rcases List.mem_cons.mp hq with rfl | hq
      · k_mem
      rcases List.mem_cons.mp hq with rfl | hq
      · k_mem
      rcases List.mem_cons.mp hq with rfl | hq
      · k_mem
      rcases List.mem_cons.mp hq with rfl | hq
      · k_mem
      rcases List.mem_append.mp hq with hq | hq
      · k_mem
      · k_mem)
    have hsep : ∀ q ∈ (T₁, listObj vs6 0) :: (L + 1, oc) :: (112, tabObj #[]) :: (dl' ++ (rest ++ [(I, o)])), q.1 ≠ cd := fun q hq => by
      rcases List.mem_cons.mp hq with rfl | hq
      · exact Nat.ne_of_gt b2
      rcases List.mem_cons.mp hq with rfl | hq
      · exact a8.symm
      rcases List.mem_cons.mp hq with rfl | hq
      · exact a9.symm
      rcases List.mem_append.mp hq with hq | hq
      · rcases hdl' q hq with e | e <;> rw [e]
        · exact a2
        · exact a5
      rcases List.mem_append.mp hq with hq | hq
      · exact fun e => hS q hq (.inr (.inr (.inl e)))
      · obtain rfl := List.mem_singleton.mp hq
        exact iC
    obtain ⟨v, hv⟩ : ∃ v, ([0, 1, 1, 220, 230, 254] : List Int)[r.toNat]? = some v := ⟨_, List.getElem?_eq_getElem (by simp only [List.length_cons, List.length_nil]; omega)⟩
    obtain ⟨tv, hx6⟩ := ints_at hv6 hv
    clear N7 N₇ F6 hv
    repeat' (first | ((with_reducible show wpAny _ _ (execs (_ :: _) _) _ _ _); walk1; (try dsimp only)) | (((fail_if_success ((with_reducible show wpAny _ _ (exec _ _) _ _ _); show wpAny _ _ (exec (Stmt.Assign _ (Expr.ListComp _ _ _ _) _) _) _ _ _)); (fail_if_success (with_reducible show wpAny _ _ (eval (Expr.ListComp _ _ _ _) _) _ _ _)); (fail_if_success ((with_reducible show wpAny _ _ (exec _ _) _ _ _); show wpAny _ _ (exec (Stmt.While _ _ _ _) _) _ _ _)); (fail_if_success ((with_reducible show wpAny _ _ (exec _ _) _ _ _); show wpAny _ _ (exec (Stmt.For _ _ _ _ _) _) _ _ _)); (fail_if_success (with_reducible show wpAny _ _ (call (Value.ref _) _) _ _ _))); walk1; (try dsimp only)))
    rename_i t9 h9 o9 F9 N9 hd9 hv9
    clear hv9 N8
    generalize hvv : ([0, 1, 1, 220, 230, 254] : List Int).getD r.toNat 0 = v9 at hd9
    have hSI : ∀ q ∈ rest, q ∈ (cd, o9) :: (T₁, listObj vs6 0) :: (L + 1, oc) :: (112, tabObj #[]) :: (dl' ++ (rest ++ [(I, o)])) ∧ ¬ (Own5 X dk cd (L + 1) q.1 ∨ q.1 = I) := fun q hq => ⟨by k_mem, fun h => by
      rcases h with h | h
      · exact hS q hq h
      · exact hI q (by k_mem) h⟩
    have hSo : ∀ b, (Own5 X dk cd (L + 1) b ∨ b = I) → ∃ ob, (b, ob) ∈ (cd, o9) :: (T₁, listObj vs6 0) :: (L + 1, oc) :: (112, tabObj #[]) :: (dl' ++ (rest ++ [(I, o)])) := fun b h => by
      rcases h with (h | h | h | h | h) | h <;> subst h
      · exact ⟨oX', by k_mem⟩
      · exact ⟨oD', by k_mem⟩
      · exact ⟨o9, by k_mem⟩
      · exact ⟨oc, by k_mem⟩
      · exact ⟨_, .tail _ (.tail _ (.tail _ (.head _)))⟩
      · exact ⟨o, by k_mem⟩
    have fin : ∀ (own' nw' : Led) (h₈ : Heap) (m₈ : Mp) (x dx : Addr) (ns' vals' : List Int), Fr h₀ L h₈ m₈ → Knows [(Str.ofString "data", .ref xd), (Str.ofString "classes", .ref cd)] m₈ → CccAt w xd mp x dx ns' vals' own' → (∀ q ∈ own', q ∈ nw' ∧ ¬ (Own5 X dk cd (L + 1) q.1 ∨ q.1 = I)) →
        (∀ q ∈ (cd, o9) :: (T₁, listObj vs6 0) :: (L + 1, oc) :: (112, tabObj #[]) :: (dl' ++ (rest ++ [(I, o)])), (Own5 X dk cd (L + 1) q.1 ∨ q.1 = I) → q ∈ nw') → Shape ns' vals' → ns'.length ≤ 1 + 2 * (i + 1) → (∀ c, 97 ≤ c → c < 97 + ((i + 1 : Nat) : Int) → look (ns'.zip vals') c 0 = if c = 97 + (i : Int) then v9 else f c) → News h₀ L h₈ nw' →
        ∃ nw'', News h₀ L h₈ (nw'' ++ [(I, o)]) ∧ (∀ q ∈ nw'', q.1 ≠ I) ∧ LawJ w xd mp cd dk X (L + 1) oc (i + 1) m₈ nw'' := by
      intro own' nw' h₈ m₈ x dx ns' vals' _ hk₈ hCc hown' hkp hsh hnl hlk N'
      refine ⟨(L + 1, oc) :: (cd, o9) :: (112, tabObj #[]) :: (dl' ++ own'), fun q hq => N' q ?_, fun q hq => ?_, dl', o9, own', fun c => if c = 97 + (i : Int) then v9 else f c, hk₈, rfl, hDk', fun q hq h => (hown' q hq).2 (.inl h), ⟨_, hd9, ?_, ?_⟩, .inr ⟨Nat.succ_pos _, x, dx, ns', vals', hCc, hsh, hnl, hlk⟩⟩
      · rcases List.mem_append.mp hq with hq | hq
        · rcases List.mem_cons.mp hq with rfl | hq
          · exact hkp _ (by k_mem) (.inl (.inr (.inr (.inr (.inl rfl)))))
          rcases List.mem_cons.mp hq with rfl | hq
          · exact hkp _ (by k_mem) (.inl (.inr (.inr (.inl rfl))))
          rcases List.mem_cons.mp hq with rfl | hq
          · exact hkp _ (.tail _ (.tail _ (.tail _ (.head _)))) (.inl (.inr (.inr (.inr (.inr rfl)))))
          rcases List.mem_append.mp hq with hq | hq
          · refine hkp _ (by k_mem) (.inl ?_)
            rcases hdl' q hq with e | e
            · exact .inl e
            · exact .inr (.inl e)
          · exact (hown' q hq).1
        · obtain rfl := List.mem_singleton.mp hq
          exact hkp _ (by k_mem) (.inr rfl)
      · rcases List.mem_cons.mp hq with rfl | hq
        · exact hI (L + 1, oc) (by k_mem)
        rcases List.mem_cons.mp hq with rfl | hq
        · exact iC.symm
        rcases List.mem_cons.mp hq with rfl | hq
        · exact hI (112, tabObj #[]) (.tail _ (.tail _ (.head _)))
        rcases List.mem_append.mp hq with hq | hq
        · rcases hdl' q hq with e | e <;> rw [e]
          · exact iX.symm
          · exact iD.symm
        · exact fun e => (hown' q hq).2 (.inr e)
      · have := stored_length_le kvs (97 + (i : Int)) (Value.int v9 t9)
        omega
      · intro c h1 h2
        rw [valueAt_stored]
        show ∃ t, _ = some (Value.int (if c = 97 + (i : Int) then v9 else f c) t)
        by_cases e : c = 97 + (i : Int)
        · rw [if_pos e, if_pos e]
          exact ⟨_, rfl⟩
        · rw [if_neg e, if_neg e]
          exact hC3 c h1 (by omega)
    rcases hDS with ⟨hi0, hDA⟩ | ⟨hi0, x, dx, ns, vals, hCc, hsh, hnl, hlk⟩
    · refine dput_new (own := rest) (S := fun b => Own5 X dk cd (L + 1) b ∨ b = I) ⟨by k_asm, by k_asm, by k_asm, by k_asm, by k_asm, rfl, by show dp + 12 < _; omega, by show un + 140 < _; omega⟩ hDA hSI hSo (by omega) (by omega) ?_
      intro x dx ns' vals' own' nw' h₈ tk₈ hP hCc hown' hkp hSm F₈ N₈
      clear F9 N9
      repeat' (first | ((with_reducible show wpAny _ _ (execs (_ :: _) _) _ _ _); walk1; (try dsimp only)) | (((fail_if_success ((with_reducible show wpAny _ _ (exec _ _) _ _ _); show wpAny _ _ (exec (Stmt.Assign _ (Expr.ListComp _ _ _ _) _) _) _ _ _)); (fail_if_success (with_reducible show wpAny _ _ (eval (Expr.ListComp _ _ _ _) _) _ _ _)); (fail_if_success ((with_reducible show wpAny _ _ (exec _ _) _ _ _); show wpAny _ _ (exec (Stmt.While _ _ _ _) _) _ _ _)); (fail_if_success ((with_reducible show wpAny _ _ (exec _ _) _ _ _); show wpAny _ _ (exec (Stmt.For _ _ _ _ _) _) _ _ _)); (fail_if_success (with_reducible show wpAny _ _ (call (Value.ref _) _) _ _ _))); walk1; (try dsimp only)))
      obtain ⟨p1, p2, p3⟩ := put_zip hP ⟨List.pairwise_singleton _ _, rfl, rfl⟩ (by omega)
      obtain ⟨nw'', z1, z2, z3⟩ := fin own' nw' _ _ x dx ns' vals' F₈ ⟨rfl, rfl, trivial⟩ hCc hown' (fun q hq hs => (hkp q hq (fun e => hSm (e ▸ hs))).1) p1 (by have : ([0] : List Int).length = 1 := rfl; omega) (fun c h1 h2 => by
        rw [p3 c 0 (by omega)]
        have e : c = 97 + (i : Int) := by omega
        rw [if_pos e, if_pos e]) N₈
      exact hE₁ _ _ ⟨_, _, _, nw'', rfl, F₈, z1, z2, z3⟩
    · refine dput_old (own := rest) (S := fun b => Own5 X dk cd (L + 1) b ∨ b = I) ⟨by k_asm, by k_asm, by k_asm, by k_asm, by k_asm, rfl, by show dp + 9 < _; omega, by show un + 140 < _; omega⟩ hCc hSI hSo (by omega) hsh.sorted hsh.len hsh.zero (by omega) (by omega) ?_
      intro ns' vals' own' nw' h₈ tk₈ hP hCc hown' hkp hSm F₈ N₈
      clear F9 N9
      repeat' (first | ((with_reducible show wpAny _ _ (execs (_ :: _) _) _ _ _); walk1; (try dsimp only)) | (((fail_if_success ((with_reducible show wpAny _ _ (exec _ _) _ _ _); show wpAny _ _ (exec (Stmt.Assign _ (Expr.ListComp _ _ _ _) _) _) _ _ _)); (fail_if_success (with_reducible show wpAny _ _ (eval (Expr.ListComp _ _ _ _) _) _ _ _)); (fail_if_success ((with_reducible show wpAny _ _ (exec _ _) _ _ _); show wpAny _ _ (exec (Stmt.While _ _ _ _) _) _ _ _)); (fail_if_success ((with_reducible show wpAny _ _ (exec _ _) _ _ _); show wpAny _ _ (exec (Stmt.For _ _ _ _ _) _) _ _ _)); (fail_if_success (with_reducible show wpAny _ _ (call (Value.ref _) _) _ _ _))); walk1; (try dsimp only)))
      obtain ⟨p1, p2, p3⟩ := put_zip hP hsh (by omega)
      obtain ⟨nw'', z1, z2, z3⟩ := fin own' nw' _ _ x dx ns' vals' F₈ ⟨rfl, rfl, trivial⟩ hCc hown' (fun q hq hs => hkp q hq (fun e => hSm (e ▸ hs))) p1 (by omega) (fun c h1 h2 => by
        rw [p3 c 0 (by omega)]
        by_cases e : c = 97 + (i : Int)
        · rw [if_pos e, if_pos e]
        · rw [if_neg e, if_neg e]
          exact hlk c h1 (by omega)) N₈
      exact hE₁ _ _ ⟨_, _, _, nw'', rfl, F₈, z1, z2, z3⟩
  · intro m₁ nw h tk hJ F₁ N₁
    show wpAny _ _ (execs [] _) _ _ _
    exact wpAny_execs_nil (hQ₀ _ _ ⟨_, _, _, _, rfl, F₁, hJ, N₁⟩)
end
end
end
section
section
set_option maxHeartbeats 1000000
theorem reg26 (w : World) : (model PySem.Challenge.rw_nt0032_01.row.prog w = model PySem.Challenge.rw_nt0032_01.row.prog w) ∧ K w.params = K w.params := by
  k_fill
  exact ⟨rfl, rfl⟩
section
variable {w : World} {p : Program} {loose : List Str} {mean : ExcName → Option Value} {mg mb : Mp} {dp un : Nat} {gd : Option (List Code)} {cn : Str} {cs : Scope} {a : Addr} {ccd : Value} {cl : List (Str × Addr)} {outer : List Env} {A₀ : Around} {base h₀ : Heap} {L : Addr} {m : Mp} {news : Led} {s : Shared} {Q : Value → Shared → Prop}
/-- law's frame and ledger when the text is built -/
def TextJ (w : World) (xd mp cd tx : Addr) (f : Int → Int) (cs₁ : List Int) (m' : Mp) (nw : Led) : Prop :=
  ∃ od ts k rest, Knows [(Str.ofString "data", .ref xd), (Str.ofString "classes", .ref cd), (Str.ofString "text", .ref tx)] m' ∧ nw = (112, tabObj #[]) :: rest ∧ (∀ q ∈ rest, q.1 ≠ 112) ∧ (cd, od) ∈ rest ∧ Classes w od f ∧ (tx, listObj ts k) ∈ rest ∧ IntsAre ts cs₁ ∧
    (∀ c ∈ cs₁, 97 ≤ c ∧ c < 105) ∧ cs₁.length ≤ 8 ∧ DC w xd mp f false rest ∧ cd ≠ mp ∧ tx ≠ mp
theorem DC.ofCcc {xd mp x dx : Addr} {ns vals : List Int} {rest : Led} {f : Int → Int} (h : CccAt w xd mp x dx ns vals rest) (hs : Shape ns vals) (hl : ns.length < 900) (hf : ∀ c, 97 ≤ c → c < 105 → look (ns.zip vals) c 0 = f c) : DC w xd mp f false rest := by
  obtain ⟨n0, kvs, vv, dv, hDA, hn, hv, hvd, hk, hR, hvv⟩ := h
  refine ⟨kvs, x, dv, ns, vals, vv, hDA.mono fun q hq => (hn q hq).1, hv, hR.rm, hvv, hl, hs.sorted, hs.len, hs.zero, hk, fun n h1 h2 r hp => ?_, hvd⟩
  rw [look_at (d := 0) hp (place_pos' hp hs.zero (by omega)) hs.len, hf n h1 h2]
set_option maxHeartbeats 4000000 in
theorem law_text {fa : Addr} {cdv : Value} {xd mp cd dk X : Addr} {oc : Obj} {h₁ : Heap} {tk : Nat} {nw₀ : Led}
    (B : Below A₀ base [] h₀) (Xk : (K w.params).In h₀) (T : Top p loose mean mg mb h₀) (F : Fr h₀ L h₁ m) (hJ : LawJ w xd mp cd dk X (L + 1) oc 8 m nw₀) (N : News h₀ L h₁ nw₀) (hA : Apart X dk cd (L + 1)) (hoc : oc.data = .cell (some (.ref dk))) (hd : dp + 40 < recursionLimit) (hu : un + 500 < cLine) :
    wpAny (md w) (ktrTop dp un gd (Str.ofString "law") C345 L fa cdv [(Str.ofString "deck", L + 1)] []) (execs ((B345.drop 2).take 1) (envOfC (Str.ofString "law") C345 L fa cdv))
      (fun f s' => match f with
        | .next => ∃ h tk m' tx f cs₁ nw, s' = { s with heap := h, toks := tk } ∧ Fr h₀ L h m' ∧ TextJ w xd mp cd tx f cs₁ m' nw ∧ News h₀ L h nw
        | _ => False) (fun _ _ => False) { s with heap := h₁, toks := tk } := by
  refine @wp_gen Flow _ _ _ _ _ _ ?_
  intro Q₀ hQ₀
  obtain ⟨a1, a2, a3, a4, a5, a6, a7, a8, a9, a10⟩ := id hA
  obtain ⟨dl, od, rest, f, hk, rfl, hDk, hS, hC, hDS⟩ := hJ
  rw [hk.ov] at F
  clear hk
  repeat' (first | ((with_reducible show wpAny _ _ (execs (_ :: _) _) _ _ _); walk1; (try dsimp only)) | (((fail_if_success (with_reducible show LCg.CompSrc _ _ _ _ _ _ _ _ _ _ _ _ _ _)); (fail_if_success ((with_reducible show wpAny _ _ (exec _ _) _ _ _); show wpAny _ _ (exec (Stmt.Assign _ (Expr.ListComp _ _ _ _) _) _) _ _ _)); (fail_if_success (with_reducible show wpAny _ _ (eval (Expr.ListComp _ _ _ _) _) _ _ _)); (fail_if_success ((with_reducible show wpAny _ _ (exec _ _) _ _ _); show wpAny _ _ (exec (Stmt.While _ _ _ _) _) _ _ _)); (fail_if_success ((with_reducible show wpAny _ _ (exec _ _) _ _ _); show wpAny _ _ (exec (Stmt.For _ _ _ _ _) _) _ _ _)); (fail_if_success (with_reducible show wpAny _ _ (call (Value.ref _) _) _ _ _))); walk1; (try dsimp only)))
  refine LCg.Assign_ListComp_U (F₀ := by k_asm) (by rfl) (by with_unfolding_all rfl) (by with_unfolding_all rfl) (by decide) (by rfl) (by decide) (by rfl) (by rfl) (by rfl) ?_
  repeat' (first | ((with_reducible show wpAny _ _ (execs (_ :: _) _) _ _ _); walk1; (try dsimp only)) | (((fail_if_success (with_reducible show LCg.CompSrc _ _ _ _ _ _ _ _ _ _ _ _ _ _)); (fail_if_success ((with_reducible show wpAny _ _ (exec _ _) _ _ _); show wpAny _ _ (exec (Stmt.Assign _ (Expr.ListComp _ _ _ _) _) _) _ _ _)); (fail_if_success (with_reducible show wpAny _ _ (eval (Expr.ListComp _ _ _ _) _) _ _ _)); (fail_if_success ((with_reducible show wpAny _ _ (exec _ _) _ _ _); show wpAny _ _ (exec (Stmt.While _ _ _ _) _) _ _ _)); (fail_if_success ((with_reducible show wpAny _ _ (exec _ _) _ _ _); show wpAny _ _ (exec (Stmt.For _ _ _ _ _) _) _ _ _)); (fail_if_success (with_reducible show wpAny _ _ (call (Value.ref _) _) _ _ _))); walk1; (try dsimp only)))
  have hX : ∀ q ∈ (L + 1, oc) :: (cd, od) :: (112, tabObj #[]) :: rest, q.1 ≠ X := fun q hq => by
    rcases List.mem_cons.mp hq with rfl | hq
    · exact a3.symm
    rcases List.mem_cons.mp hq with rfl | hq
    · exact a2.symm
    rcases List.mem_cons.mp hq with rfl | hq
    · exact a4.symm
    · exact fun e => hS q hq (.inl e)
  have hD : ∀ q ∈ (L + 1, oc) :: (cd, od) :: (112, tabObj #[]) :: rest, q.1 ≠ dk := fun q hq => by
    rcases List.mem_cons.mp hq with rfl | hq
    · exact a6.symm
    rcases List.mem_cons.mp hq with rfl | hq
    · exact a5.symm
    rcases List.mem_cons.mp hq with rfl | hq
    · exact a7.symm
    · exact fun e => hS q hq (.inr (.inl e))
  have N₁ : News h₀ L h₁ (dl ++ ((L + 1, oc) :: (cd, od) :: (112, tabObj #[]) :: rest)) := fun q hq => N q (by
    rcases List.mem_append.mp hq with hq | hq
    · k_mem
    rcases List.mem_cons.mp hq with rfl | hq
    · k_mem
    rcases List.mem_cons.mp hq with rfl | hq
    · k_mem
    rcases List.mem_cons.mp hq with rfl | hq
    · exact .tail _ (.tail _ (.head _))
    · k_mem)
  clear N
  refine draw_spec hDk ⟨by k_asm, by k_asm, by k_asm, by k_asm, by k_asm, rfl, by show dp + 4 < _; omega, by show un + 80 < _; omega⟩ hX hD (by decide) (by decide) ?_
  intro r rt dl₁ h₂ tk₂ r0 r9 hDk₁ F₂ N₂
  clear F N₁ hDk dl
  repeat' (first | ((with_reducible show wpAny _ _ (execs (_ :: _) _) _ _ _); walk1; (try dsimp only)) | (((fail_if_success (with_reducible show LCg.CompSrc _ _ _ _ _ _ _ _ _ _ _ _ _ _)); (fail_if_success ((with_reducible show wpAny _ _ (exec _ _) _ _ _); show wpAny _ _ (exec (Stmt.Assign _ (Expr.ListComp _ _ _ _) _) _) _ _ _)); (fail_if_success (with_reducible show wpAny _ _ (eval (Expr.ListComp _ _ _ _) _) _ _ _)); (fail_if_success ((with_reducible show wpAny _ _ (exec _ _) _ _ _); show wpAny _ _ (exec (Stmt.While _ _ _ _) _) _ _ _)); (fail_if_success ((with_reducible show wpAny _ _ (exec _ _) _ _ _); show wpAny _ _ (exec (Stmt.For _ _ _ _ _) _) _ _ _)); (fail_if_success (with_reducible show wpAny _ _ (call (Value.ref _) _) _ _ _))); walk1; (try dsimp only)))
  rename IsRange _ _ _ _ _ _ _ _ => hR
  rename Fr _ _ _ _ => F4
  rename News _ _ _ _ => N4
  refine LCg.CompSrc.range (s₁ := ⟨_, _, _, _, _⟩) (n := r.toNat) rfl F4 N4 hR (small_one (by decide) (by decide) (by omega) (by omega)) (by rw [rangeSize_one]; split <;> omega) (by rw [sizeLine_eq]; omega) fun g₃ => ?_
  clear F4 N4 hR; (try clear F₂); (try clear N₂)
  refine comp_rest (fun i ys nw => ∃ dl, nw = dl ++ ((L + 1, oc) :: (cd, od) :: (112, tabObj #[]) :: rest) ∧ DeckL w dk X dl ∧ ∃ ms, IntsAre ys ms ∧ ms.length = i ∧ ∀ x ∈ ms, 97 ≤ x ∧ x < 105) ?_ ?_ _ 0 _ _ (Nat.zero_add _) ⟨dl₁, rfl, hDk₁, [], .nil, rfl, fun x hx => nomatch hx⟩
  · rintro i ys nw hin ⟨dl, rfl, hDk, ms, h1, h2, h3⟩ v I oI C oC D m₂ h₆ tk₆ E' hv hC' hx F₆ N₆ off ne
    repeat' (first | ((with_reducible show wpAny _ _ (execs (_ :: _) _) _ _ _); walk1; (try dsimp only)) | (((fail_if_success (with_reducible show LCg.CompSrc _ _ _ _ _ _ _ _ _ _ _ _ _ _)); (fail_if_success ((with_reducible show wpAny _ _ (exec _ _) _ _ _); show wpAny _ _ (exec (Stmt.Assign _ (Expr.ListComp _ _ _ _) _) _) _ _ _)); (fail_if_success (with_reducible show wpAny _ _ (eval (Expr.ListComp _ _ _ _) _) _ _ _)); (fail_if_success ((with_reducible show wpAny _ _ (exec _ _) _ _ _); show wpAny _ _ (exec (Stmt.While _ _ _ _) _) _ _ _)); (fail_if_success ((with_reducible show wpAny _ _ (exec _ _) _ _ _); show wpAny _ _ (exec (Stmt.For _ _ _ _ _) _) _ _ _)); (fail_if_success (with_reducible show wpAny _ _ (call (Value.ref _) _) _ _ _))); walk1; (try dsimp only)))
    obtain ⟨⟨oX, eX⟩, ⟨oD, eD⟩, hdl⟩ := hDk.mem
    have hoff := off.mem
    have cX := hoff (X, oX) (List.mem_append_left _ eX)
    have cD := hoff (dk, oD) (List.mem_append_left _ eD)
    refine wpAny_mono (draw_spec (rest := (I, oI) :: (C, oC) :: (D, LCg.lst ys) :: (L + 1, oc) :: (cd, od) :: (112, tabObj #[]) :: rest) (Q := fun b s₂ => wpAny (md w) (ktrTop dp un gd (Str.ofString "law") C345 L fa cdv [(Str.ofString "deck", L + 1)] []) (binaryOp Operator.Add (Value.int 97 tk₆) b) qk ek s₂) hDk ⟨by k_asm, by k_asm, by k_asm, fun q hq => N₆ q (by
      rcases List.mem_append.mp hq with hq | hq
      · k_mem
      rcases List.mem_cons.mp hq with rfl | hq
      · k_mem
      rcases List.mem_cons.mp hq with rfl | hq
      · k_mem
      rcases List.mem_cons.mp hq with rfl | hq
      · k_mem
      · exact .tail _ (.tail _ (.tail _ (List.mem_append_right _ hq)))), by k_asm, rfl, by show dp + 4 < _; omega, by show un + 80 < _; omega⟩ ?_ ?_ (by decide) (by decide) ?_) (fun _ _ h => h) (fun _ _ e => e.elim)
    · intro q hq
      rcases List.mem_cons.mp hq with rfl | hq
      · exact cX.1.symm
      rcases List.mem_cons.mp hq with rfl | hq
      · exact cX.2.1.symm
      rcases List.mem_cons.mp hq with rfl | hq
      · exact cX.2.2.symm
      · exact hX q hq
    · intro q hq
      rcases List.mem_cons.mp hq with rfl | hq
      · exact cD.1.symm
      rcases List.mem_cons.mp hq with rfl | hq
      · exact cD.2.1.symm
      rcases List.mem_cons.mp hq with rfl | hq
      · exact cD.2.2.symm
      · exact hD q hq
    intro c₀ tc dl' h₇ tk₇ c0 c8 hDk' F₇ N₇
    clear N₆ F₆
    obtain ⟨_, _, hdl'⟩ := hDk'.mem
    repeat' (first | ((with_reducible show wpAny _ _ (execs (_ :: _) _) _ _ _); walk1; (try dsimp only)) | (((fail_if_success (with_reducible show LCg.CompSrc _ _ _ _ _ _ _ _ _ _ _ _ _ _)); (fail_if_success ((with_reducible show wpAny _ _ (exec _ _) _ _ _); show wpAny _ _ (exec (Stmt.Assign _ (Expr.ListComp _ _ _ _) _) _) _ _ _)); (fail_if_success (with_reducible show wpAny _ _ (eval (Expr.ListComp _ _ _ _) _) _ _ _)); (fail_if_success ((with_reducible show wpAny _ _ (exec _ _) _ _ _); show wpAny _ _ (exec (Stmt.While _ _ _ _) _) _ _ _)); (fail_if_success ((with_reducible show wpAny _ _ (exec _ _) _ _ _); show wpAny _ _ (exec (Stmt.For _ _ _ _ _) _) _ _ _)); (fail_if_success (with_reducible show wpAny _ _ (call (Value.ref _) _) _ _ _))); walk1; (try dsimp only)))
    refine ⟨_, _, dl' ++ ((L + 1, oc) :: (cd, od) :: (112, tabObj #[]) :: rest), rfl, F₇, fun q hq => N₇ q ?_, LCg.Off3.of fun q hq => ?_, trivial, dl', rfl, hDk', ms ++ [97 + c₀], IntsAre.append h1 (.cons _ _ .nil), by simp [h2], fun x hx => ?_⟩
    · rcases List.mem_cons.mp hq with rfl | hq
      · k_mem
      rcases List.mem_cons.mp hq with rfl | hq
      · k_mem
      rcases List.mem_cons.mp hq with rfl | hq
      · k_mem
      rcases List.mem_append.mp hq with hq | hq
      · k_mem
      · exact List.mem_append_right _ (.tail _ (.tail _ (.tail _ hq)))
    · rcases List.mem_append.mp hq with hq | hq
      · rcases hdl' q hq with e | e <;> rw [e]
        · exact cX
        · exact cD
      · exact hoff q (List.mem_append_right _ hq)
    · rcases List.mem_append.mp hx with hx | hx
      · exact h3 x hx
      · obtain rfl := List.mem_singleton.mp hx
        omega
  · rintro ys nw ⟨dl, rfl, hDk, ms, h1, h2, h3⟩ tx h₈ tk₈ F₈ N₈ o8
    dsimp only
    show wpAny _ _ (execs [] _) _ _ _
    refine wpAny_execs_nil (hQ₀ _ _ ?_)
    dsimp only
    rcases hDS with ⟨hi0, _⟩ | ⟨_, x, dx, ns, vals, hCc, hsh, hnl, hlk⟩
    · exact absurd hi0 (by decide)
    have hoff := LCgOff1 o8
    obtain ⟨kvs, hC1, hC2, hC3⟩ := hC
    have hmp : ∃ om, (mp, om) ∈ rest ∧ om.cls = .type "dict" := by
      obtain ⟨n0, kvs, vv, dv, hDA, hn, _⟩ := hCc
      obtain ⟨om, e1, e2⟩ := hDA.map
      exact ⟨om, (hn _ e1).1, e2⟩
    obtain ⟨om, hmp1, hmp2⟩ := hmp
    refine ⟨_, _, _, tx, f, ms, (112, tabObj #[]) :: (tx, listObj ys ys.length) :: (cd, od) :: rest, rfl, F₈, ⟨od, ys, ys.length, (tx, listObj ys ys.length) :: (cd, od) :: rest, ⟨rfl, rfl, rfl, trivial⟩, rfl, fun q hq => ?_, .tail _ (.head _), ⟨kvs, hC1, hC3⟩, .head _, h1, h3, by omega, (DC.ofCcc hCc hsh (by omega) hlk).mono (fun q hq => .tail _ (.tail _ hq)), ?_, ?_⟩, fun q hq => N₈ q ?_⟩
    · rcases List.mem_cons.mp hq with rfl | hq
      · exact (hoff (112, tabObj #[]) (List.mem_append_right _ (.tail _ (.tail _ (.head _))))).symm
      rcases List.mem_cons.mp hq with rfl | hq
      · exact a9
      · exact fun e => hS q hq (.inr (.inr (.inr (.inr e))))
    · exact fun e => hS _ hmp1 (.inr (.inr (.inl e.symm)))
    · exact (hoff (mp, om) (List.mem_append_right _ (.tail _ (.tail _ (.tail _ hmp1))))).symm
    · rcases List.mem_cons.mp hq with rfl | hq
      · exact .tail _ (List.mem_append_right _ (.tail _ (.tail _ (.head _))))
      rcases List.mem_cons.mp hq with rfl | hq
      · exact .head _
      rcases List.mem_cons.mp hq with rfl | hq
      · exact .tail _ (List.mem_append_right _ (.tail _ (.head _)))
      · exact .tail _ (List.mem_append_right _ (.tail _ (.tail _ (.tail _ hq))))
end
end
section
set_option maxHeartbeats 1000000
theorem reg27 (w : World) : (model PySem.Challenge.rw_nt0032_01.row.prog w = model PySem.Challenge.rw_nt0032_01.row.prog w) ∧ K w.params = K w.params := by
  k_fill
  exact ⟨rfl, rfl⟩
section
variable {w : World} {p : Program} {loose : List Str} {mean : ExcName → Option Value} {mg mb : Mp} {dp un : Nat} {gd : Option (List Code)} {cn : Str} {cs : Scope} {a : Addr} {ccd : Value} {cl : List (Str × Addr)} {outer : List Env} {A₀ : Around} {base h₀ : Heap} {L : Addr} {m : Mp} {news : Led} {s : Shared} {Q : Value → Shared → Prop}
/-- law's frame and ledger when the answer is known -/
def LawS (w : World) (xd mp cd tx du wa : Addr) (f : Int → Int) (cs₁ ds : List Int) (b : Bool) (m' : Mp) (rest : Led) : Prop :=
  Knows [(Str.ofString "data", .ref xd), (Str.ofString "classes", .ref cd), (Str.ofString "text", .ref tx), (Str.ofString "due", .ref du), (Str.ofString "was", .ref wa)] m' ∧ (∀ q ∈ rest, q.1 ≠ 112) ∧ DC w xd mp f b rest ∧
    ∃ od ts k fs k1 ws k2, (cd, od) ∈ rest ∧ (tx, listObj ts k) ∈ rest ∧ (du, listObj fs k1) ∈ rest ∧ (wa, listObj ws k2) ∈ rest ∧ Classes w od f ∧ IntsAre ts cs₁ ∧ IntsAre fs ds ∧ IntsAre ws cs₁ ∧ cd ≠ mp ∧ tx ≠ mp ∧ du ≠ mp ∧ wa ≠ mp
/-- what is known of the text and of the answer -/
def LawP (f : Int → Int) (cs₁ ds : List Int) : Prop :=
  (∀ c ∈ cs₁, 97 ≤ c ∧ c < 105) ∧ cs₁.length ≤ 8 ∧ NoDesc f ds ∧ Same f cs₁ ds ∧ ds.length = cs₁.length ∧ ∀ c ∈ ds, 97 ≤ c ∧ c < 105
set_option maxHeartbeats 4000000 in
theorem law_due {fa : Addr} {cdv : Value} {xd mp cd tx : Addr} {f : Int → Int} {cs₁ : List Int} {h₁ : Heap} {tk : Nat} {nw₀ : Led}
    (B : Below A₀ base [] h₀) (Xk : (K w.params).In h₀) (T : Top p loose mean mg mb h₀) (F : Fr h₀ L h₁ m) (hJ : TextJ w xd mp cd tx f cs₁ m nw₀) (N : News h₀ L h₁ nw₀) (hd : dp + 40 < recursionLimit) (hu : un + 500 < cLine) :
    wpAny (md w) (ktrTop dp un gd (Str.ofString "law") C345 L fa cdv [(Str.ofString "deck", L + 1)] []) (execs ((B345.drop 3).take 1) (envOfC (Str.ofString "law") C345 L fa cdv))
      (fun fl s' => match fl with
        | .next => ∃ h tk m' du wa ds rest, s' = { s with heap := h, toks := tk } ∧ Fr h₀ L h m' ∧ LawS w xd mp cd tx du wa f cs₁ ds false m' rest ∧ LawP f cs₁ ds ∧ News h₀ L h ((112, tabObj #[]) :: rest)
        | _ => False) (fun _ _ => False) { s with heap := h₁, toks := tk } := by
  refine @wp_gen Flow _ _ _ _ _ _ ?_
  intro Q₀ hQ₀
  obtain ⟨od, ts, k, rest, hk, rfl, h112, hcd, hcl, htx, hts, hcs, hlen, hDC, ncd, ntx⟩ := hJ
  rw [hk.ov] at F
  clear hk
  repeat' (first | ((with_reducible show wpAny _ _ (execs (_ :: _) _) _ _ _); walk1; (try dsimp only)) | (((fail_if_success (with_reducible show LCg.CompSrc _ _ _ _ _ _ _ _ _ _ _ _ _ _)); (fail_if_success ((with_reducible show wpAny _ _ (exec _ _) _ _ _); show wpAny _ _ (exec (Stmt.Assign _ (Expr.ListComp _ _ _ _) _) _) _ _ _)); (fail_if_success (with_reducible show wpAny _ _ (eval (Expr.ListComp _ _ _ _) _) _ _ _)); (fail_if_success ((with_reducible show wpAny _ _ (exec _ _) _ _ _); show wpAny _ _ (exec (Stmt.While _ _ _ _) _) _ _ _)); (fail_if_success ((with_reducible show wpAny _ _ (exec _ _) _ _ _); show wpAny _ _ (exec (Stmt.For _ _ _ _ _) _) _ _ _)); (fail_if_success (with_reducible show wpAny _ _ (call (Value.ref _) _) _ _ _))); walk1; (try dsimp only)))
  refine exchanged_spec (ts := ts) (kt := k) ⟨by k_asm, by k_asm, by k_asm, by k_asm, by k_asm, rfl, by show dp + 4 < _; omega, by show un + 80 < _; omega⟩ (by k_mem) hcl (by k_mem) hts hcs (by omega) ?_
  intro du fs k1 ds h₂ tk₂ hfs hnd hsm hdl hdc ldu F₂ N₂
  clear F N
  repeat' (first | ((with_reducible show wpAny _ _ (execs (_ :: _) _) _ _ _); walk1; (try dsimp only)) | (((fail_if_success (with_reducible show LCg.CompSrc _ _ _ _ _ _ _ _ _ _ _ _ _ _)); (fail_if_success ((with_reducible show wpAny _ _ (exec _ _) _ _ _); show wpAny _ _ (exec (Stmt.Assign _ (Expr.ListComp _ _ _ _) _) _) _ _ _)); (fail_if_success (with_reducible show wpAny _ _ (eval (Expr.ListComp _ _ _ _) _) _ _ _)); (fail_if_success ((with_reducible show wpAny _ _ (exec _ _) _ _ _); show wpAny _ _ (exec (Stmt.While _ _ _ _) _) _ _ _)); (fail_if_success ((with_reducible show wpAny _ _ (exec _ _) _ _ _); show wpAny _ _ (exec (Stmt.For _ _ _ _ _) _) _ _ _)); (fail_if_success (with_reducible show wpAny _ _ (call (Value.ref _) _) _ _ _))); walk1; (try dsimp only)))
  show wpAny _ _ (execs [] _) _ _ _
  refine wpAny_execs_nil (hQ₀ _ _ ?_)
  dsimp only
  rename Fr _ _ _ _ => F6
  rename News _ _ _ _ => N6
  rename _ ∧ _ => lT
  clear lT
  rename _ < _ ∧ _ => lW
  obtain ⟨om, hmp1⟩ : ∃ om, (mp, om) ∈ rest := by
    obtain ⟨kvs, x, dv, ns, vals, vv, hDA, _⟩ := hDC
    obtain ⟨om, e1, _⟩ := hDA.map
    exact ⟨om, e1⟩
  have hw := allLt_mem lW.2.2
  obtain ⟨cw, N7⟩ : ∃ cw, News h₀ L _ ((_, listObj ts cw) :: (du, listObj fs k1) :: (112, tabObj #[]) :: rest) := ⟨_, fun q hq => N6 q (.tail _ hq)⟩
  refine ⟨_, _, _, du, _, ds, (_, listObj ts cw) :: (du, listObj fs k1) :: rest, rfl, F6, ⟨⟨rfl, rfl, rfl, rfl, rfl, trivial⟩, fun q hq => ?_, hDC.mono (fun q hq => .tail _ (.tail _ hq)), od, ts, k, fs, k1, ts, cw, .tail _ (.tail _ hcd), .tail _ (.tail _ htx), .tail _ (.head _), .head _, hcl, hts, hfs, hts, ncd, ntx, Nat.ne_of_gt (ldu _ (.tail _ hmp1)), Nat.ne_of_gt (hw _ hmp1)⟩, ⟨hcs, hlen, hnd, hsm, hdl, hdc⟩, fun q hq => N7 q ?_⟩
  · rcases List.mem_cons.mp hq with rfl | hq
    · exact Nat.ne_of_gt lW.2.1
    rcases List.mem_cons.mp hq with rfl | hq
    · exact Nat.ne_of_gt (ldu (112, tabObj #[]) (.head _))
    · exact h112 q hq
  · rcases List.mem_cons.mp hq with rfl | hq
    · exact .tail _ (.tail _ (.head _))
    rcases List.mem_cons.mp hq with rfl | hq
    · exact .head _
    rcases List.mem_cons.mp hq with rfl | hq
    · exact .tail _ (.head _)
    · exact .tail _ (.tail _ (.tail _ hq))
end
end
section
set_option maxHeartbeats 1000000
section
variable {prog : Program} {w : World} {A : Around} {E : Value → Shared → Prop} {s : Shared} {h₀ : Heap} {L x y : Addr} {news : Led} {us vs : List Value} {ms ns : List Int} {k k' : Nat} {Q : Value → Shared → Prop}
theorem ne_same (N : News h₀ L s.heap news) (hm : (x, listObj us k) ∈ news) (hi : IntsAre us ms) (hm' : (y, listObj vs k') ∈ news) (hi' : IntsAre vs ms) (hu : A.units + 64 < cLine) (h : Q (.bool false) s) : wpAny (model prog w) A (compareOp .NotEq (.ref x) (.ref y)) Q E s :=
  ne_intsK ⟨_, (N _ hm).1, rfl, _, rfl⟩ hi ⟨_, (N _ hm').1, rfl, _, rfl⟩ hi' hu (by rw [decide_eq_true rfl]; exact h)
theorem eq_same (N : News h₀ L s.heap news) (hm : (x, listObj us k) ∈ news) (hi : IntsAre us ms) (hm' : (y, listObj vs k') ∈ news) (hi' : IntsAre vs ms) (hu : A.units + 64 < cLine) (h : Q (.bool true) s) : wpAny (model prog w) A (compareOp .Eq (.ref x) (.ref y)) Q E s :=
  eq_intsK ⟨_, (N _ hm).1, rfl, _, rfl⟩ hi ⟨_, (N _ hm').1, rfl, _, rfl⟩ hi' hu (by rw [decide_eq_true rfl]; exact h)
theorem eq_other (N : News h₀ L s.heap news) (hm : (x, listObj us k) ∈ news) (hi : IntsAre us ms) (hm' : (y, listObj vs k') ∈ news) (hi' : IntsAre vs ns) (hn : ¬ ms = ns) (hu : A.units + 64 < cLine) (h : Q (.bool false) s) : wpAny (model prog w) A (compareOp .Eq (.ref x) (.ref y)) Q E s :=
  eq_intsK ⟨_, (N _ hm).1, rfl, _, rfl⟩ hi ⟨_, (N _ hm').1, rfl, _, rfl⟩ hi' hu (by rw [decide_eq_false hn]; exact h)
end
end
section
local macro_rules | `(tactic| walk_at "compareOp NotEq ref ref") => `(tactic| (refine ne_same (by k_asm) (by k_mem) (by assumption) (by k_mem) (by assumption) (by walk_at "ua") ?_))
local macro_rules | `(tactic| walk_at "compareOp Eq ref ref") => `(tactic| first | (refine eq_same (by k_asm) (by k_mem) (by assumption) (by k_mem) (by assumption) (by walk_at "ua") ?_) | (refine eq_other (by k_asm) (by k_mem) (by assumption) (by k_mem) (by assumption) (by assumption) (by walk_at "ua") ?_))
section
set_option maxHeartbeats 1000000
theorem reg28 (w : World) : (model PySem.Challenge.rw_nt0032_01.row.prog w = model PySem.Challenge.rw_nt0032_01.row.prog w) ∧ K w.params = K w.params := by
  k_fill
  exact ⟨rfl, rfl⟩
section
variable {w : World} {p : Program} {loose : List Str} {mean : ExcName → Option Value} {mg mb : Mp} {dp un : Nat} {gd : Option (List Code)} {cn : Str} {cs : Scope} {a : Addr} {ccd : Value} {cl : List (Str × Addr)} {outer : List Env} {A₀ : Around} {base h₀ : Heap} {L : Addr} {m : Mp} {news : Led} {s : Shared} {Q : Value → Shared → Prop}
/-- law's state between the checks -/
def LawT (w : World) (h₀ : Heap) (L : Addr) (s : Shared) (xd mp cd tx du wa : Addr) (f : Int → Int) (cs₁ ds : List Int) (fl : Flow) (s' : Shared) : Prop :=
  match fl with
  | .next => ∃ h tk m' b lam rest, s' = { s with heap := h, toks := tk } ∧ Fr h₀ L h m' ∧ LawS w xd mp cd tx du wa f cs₁ ds b m' rest ∧ LamL lam ∧ News h₀ L h (lam ++ rest)
  | _ => False
theorem LawP.iff {f : Int → Int} {cs₁ ds : List Int} (h : LawP f cs₁ ds) : NoDesc f cs₁ ↔ cs₁ = ds := ⟨fun e => Same.unique e h.2.2.1 h.2.2.2.1, fun e => e ▸ h.2.2.1⟩
set_option maxHeartbeats 4000000 in
theorem law_c4 {fa : Addr} {cdv : Value} {xd mp cd tx du wa : Addr} {f : Int → Int} {cs₁ ds : List Int} {b : Bool} {h₁ : Heap} {tk : Nat} {lam rest : Led}
    (B : Below A₀ base [] h₀) (Xk : (K w.params).In h₀) (T : Top p loose mean mg mb h₀) (F : Fr h₀ L h₁ m) (hJ : LawS w xd mp cd tx du wa f cs₁ ds b m rest) (hP : LawP f cs₁ ds) (hlam : LamL lam) (N : News h₀ L h₁ (lam ++ rest)) (hd : dp + 40 < recursionLimit) (hu : un + 500 < cLine) :
    wpAny (md w) (ktrTop dp un gd (Str.ofString "law") C345 L fa cdv [(Str.ofString "deck", L + 1)] []) (execs ((B345.drop 4).take 1) (envOfC (Str.ofString "law") C345 L fa cdv))
      (LawT w h₀ L s xd mp cd tx du wa f cs₁ ds) (fun _ _ => False) { s with heap := h₁, toks := tk } := by
  refine @wp_gen Flow _ _ _ _ _ _ ?_
  intro Q₀ hQ₀
  obtain ⟨hk, h112, hDC, od, ts, k, fs, k1, ws, k2, hcd, htx, hdu, hwa, hcl, hts, hfs, hws, ncd, ntx, ndu, nwa⟩ := hJ
  obtain ⟨hcs, hlen, hnd, hsm, hdl, hdc⟩ := id hP
  rw [hk.ov] at F
  clear hk
  repeat' (first | ((with_reducible show wpAny _ _ (execs (_ :: _) _) _ _ _); walk1; (try dsimp only)) | (((fail_if_success (with_reducible show LCg.CompSrc _ _ _ _ _ _ _ _ _ _ _ _ _ _)); (fail_if_success ((with_reducible show wpAny _ _ (exec _ _) _ _ _); show wpAny _ _ (exec (Stmt.Assign _ (Expr.ListComp _ _ _ _) _) _) _ _ _)); (fail_if_success (with_reducible show wpAny _ _ (eval (Expr.ListComp _ _ _ _) _) _ _ _)); (fail_if_success ((with_reducible show wpAny _ _ (exec _ _) _ _ _); show wpAny _ _ (exec (Stmt.While _ _ _ _) _) _ _ _)); (fail_if_success ((with_reducible show wpAny _ _ (exec _ _) _ _ _); show wpAny _ _ (exec (Stmt.For _ _ _ _ _) _) _ _ _)); (fail_if_success (with_reducible show wpAny _ _ (call (Value.ref _) _) _ _ _))); walk1; (try dsimp only)))
  refine ordered_spec hlam ⟨by k_asm, by k_asm, by k_asm, by k_asm, by k_asm, rfl, by show dp + 10 < _; omega, by show un + 120 < _; omega⟩ h112 hDC htx hts hcs (by omega) ?_
  intro D₂ out₂ k₂ lam₂ fnd₂ ps₂ qs₂ h₂ tk₂ hlam₂ hout₂ hO₂ hS₂ _ F₂ N₂
  rw [Ord.eq hO₂ hS₂ hnd hsm] at hout₂
  clear F N
  repeat' (first | ((with_reducible show wpAny _ _ (execs (_ :: _) _) _ _ _); walk1; (try dsimp only)) | (((fail_if_success (with_reducible show LCg.CompSrc _ _ _ _ _ _ _ _ _ _ _ _ _ _)); (fail_if_success ((with_reducible show wpAny _ _ (exec _ _) _ _ _); show wpAny _ _ (exec (Stmt.Assign _ (Expr.ListComp _ _ _ _) _) _) _ _ _)); (fail_if_success (with_reducible show wpAny _ _ (eval (Expr.ListComp _ _ _ _) _) _ _ _)); (fail_if_success ((with_reducible show wpAny _ _ (exec _ _) _ _ _); show wpAny _ _ (exec (Stmt.While _ _ _ _) _) _ _ _)); (fail_if_success ((with_reducible show wpAny _ _ (exec _ _) _ _ _); show wpAny _ _ (exec (Stmt.For _ _ _ _ _) _) _ _ _)); (fail_if_success (with_reducible show wpAny _ _ (call (Value.ref _) _) _ _ _))); walk1; (try dsimp only)))
  refine decomposed_spec hlam₂ ⟨by k_asm, by k_asm, by k_asm, fun q hq => N₂ q (.tail _ hq), by k_asm, rfl, by show dp + 14 < _; omega, by show un + 160 < _; omega⟩ h112 hDC htx hts hcs (by omega) ?_
  intro D₃ out₃ k₃ lam₃ fnd₃ ps₃ qs₃ h₃ tk₃ hlam₃ hout₃ hO₃ hS₃ _ F₃ N₃
  rw [Ord.eq hO₃ hS₃ hnd hsm] at hout₃
  clear F₂ N₂ hout₂
  repeat' (first | ((with_reducible show wpAny _ _ (execs (_ :: _) _) _ _ _); walk1; (try dsimp only)) | (((fail_if_success (with_reducible show LCg.CompSrc _ _ _ _ _ _ _ _ _ _ _ _ _ _)); (fail_if_success ((with_reducible show wpAny _ _ (exec _ _) _ _ _); show wpAny _ _ (exec (Stmt.Assign _ (Expr.ListComp _ _ _ _) _) _) _ _ _)); (fail_if_success (with_reducible show wpAny _ _ (eval (Expr.ListComp _ _ _ _) _) _ _ _)); (fail_if_success ((with_reducible show wpAny _ _ (exec _ _) _ _ _); show wpAny _ _ (exec (Stmt.While _ _ _ _) _) _ _ _)); (fail_if_success ((with_reducible show wpAny _ _ (exec _ _) _ _ _); show wpAny _ _ (exec (Stmt.For _ _ _ _ _) _) _ _ _)); (fail_if_success (with_reducible show wpAny _ _ (call (Value.ref _) _) _ _ _))); walk1; (try dsimp only)))
  refine ordered_spec hlam₃ ⟨by k_asm, by k_asm, by k_asm, fun q hq => N₃ q (.tail _ hq), by k_asm, rfl, by show dp + 10 < _; omega, by show un + 120 < _; omega⟩ h112 hDC hdu hfs hdc (by omega) ?_
  intro D₄ out₄ k₄ lam₄ fnd₄ ps₄ qs₄ h₄ tk₄ hlam₄ hout₄ hO₄ hS₄ _ F₄ N₄
  rw [Ord.eq hO₄ hS₄ hnd (Same.refl _)] at hout₄
  clear F₃ N₃ hout₃
  repeat' (first | ((with_reducible show wpAny _ _ (execs (_ :: _) _) _ _ _); walk1; (try dsimp only)) | (((fail_if_success (with_reducible show LCg.CompSrc _ _ _ _ _ _ _ _ _ _ _ _ _ _)); (fail_if_success ((with_reducible show wpAny _ _ (exec _ _) _ _ _); show wpAny _ _ (exec (Stmt.Assign _ (Expr.ListComp _ _ _ _) _) _) _ _ _)); (fail_if_success (with_reducible show wpAny _ _ (eval (Expr.ListComp _ _ _ _) _) _ _ _)); (fail_if_success ((with_reducible show wpAny _ _ (exec _ _) _ _ _); show wpAny _ _ (exec (Stmt.While _ _ _ _) _) _ _ _)); (fail_if_success ((with_reducible show wpAny _ _ (exec _ _) _ _ _); show wpAny _ _ (exec (Stmt.For _ _ _ _ _) _) _ _ _)); (fail_if_success (with_reducible show wpAny _ _ (call (Value.ref _) _) _ _ _))); walk1; (try dsimp only)))
  show wpAny _ _ (execs [] _) _ _ _
  exact wpAny_execs_nil (hQ₀ _ _ ⟨_, _, _, b, lam₄, rest, rfl, F₄, ⟨⟨rfl, rfl, rfl, rfl, rfl, trivial⟩, h112, hDC, od, ts, k, fs, k1, ws, k2, hcd, htx, hdu, hwa, hcl, hts, hfs, hws, ncd, ntx, ndu, nwa⟩, hlam₄, fun q hq => N₄ q (.tail _ hq)⟩)
set_option maxHeartbeats 4000000 in
theorem law_c5 {fa : Addr} {cdv : Value} {xd mp cd tx du wa : Addr} {f : Int → Int} {cs₁ ds : List Int} {b : Bool} {h₁ : Heap} {tk : Nat} {lam rest : Led}
    (B : Below A₀ base [] h₀) (Xk : (K w.params).In h₀) (T : Top p loose mean mg mb h₀) (F : Fr h₀ L h₁ m) (hJ : LawS w xd mp cd tx du wa f cs₁ ds b m rest) (hP : LawP f cs₁ ds) (hlam : LamL lam) (N : News h₀ L h₁ (lam ++ rest)) (hd : dp + 40 < recursionLimit) (hu : un + 500 < cLine) :
    wpAny (md w) (ktrTop dp un gd (Str.ofString "law") C345 L fa cdv [(Str.ofString "deck", L + 1)] []) (execs ((B345.drop 5).take 1) (envOfC (Str.ofString "law") C345 L fa cdv))
      (LawT w h₀ L s xd mp cd tx du wa f cs₁ ds) (fun _ _ => False) { s with heap := h₁, toks := tk } := by
  refine @wp_gen Flow _ _ _ _ _ _ ?_
  intro Q₀ hQ₀
  obtain ⟨hk, h112, hDC, od, ts, k, fs, k1, ws, k2, hcd, htx, hdu, hwa, hcl, hts, hfs, hws, ncd, ntx, ndu, nwa⟩ := hJ
  obtain ⟨hcs, hlen, hnd, hsm, hdl, hdc⟩ := id hP
  rw [hk.ov] at F
  clear hk
  repeat' (first | ((with_reducible show wpAny _ _ (execs (_ :: _) _) _ _ _); walk1; (try dsimp only)) | (((fail_if_success (with_reducible show LCg.CompSrc _ _ _ _ _ _ _ _ _ _ _ _ _ _)); (fail_if_success ((with_reducible show wpAny _ _ (exec _ _) _ _ _); show wpAny _ _ (exec (Stmt.Assign _ (Expr.ListComp _ _ _ _) _) _) _ _ _)); (fail_if_success (with_reducible show wpAny _ _ (eval (Expr.ListComp _ _ _ _) _) _ _ _)); (fail_if_success ((with_reducible show wpAny _ _ (exec _ _) _ _ _); show wpAny _ _ (exec (Stmt.While _ _ _ _) _) _ _ _)); (fail_if_success ((with_reducible show wpAny _ _ (exec _ _) _ _ _); show wpAny _ _ (exec (Stmt.For _ _ _ _ _) _) _ _ _)); (fail_if_success (with_reducible show wpAny _ _ (call (Value.ref _) _) _ _ _))); walk1; (try dsimp only)))
  refine isform_spec hlam ⟨by k_asm, by k_asm, by k_asm, by k_asm, by k_asm, rfl, by show dp + 26 < _; omega, by show un + 320 < _; omega⟩ h112 hDC htx hts hcs (by omega) ?_
  intro bb b₂ lam₂ rest₂ h₂ tk₂ hbb hlam₂ hkp hDC₂ h112₂ F₂ N₂
  clear F N
  replace hcd := hkp _ hcd ncd
  replace htx := hkp _ htx ntx
  replace hdu := hkp _ hdu ndu
  replace hwa := hkp _ hwa nwa
  have hbe : bb = true ↔ cs₁ = ds := hbb.trans hP.iff
  by_cases hed : cs₁ = ds
  · obtain rfl : bb = true := hbe.mpr hed
    have hts' := hts
    rw [hed] at hts'
    repeat' (first | ((with_reducible show wpAny _ _ (execs (_ :: _) _) _ _ _); walk1; (try dsimp only)) | (((fail_if_success (with_reducible show LCg.CompSrc _ _ _ _ _ _ _ _ _ _ _ _ _ _)); (fail_if_success ((with_reducible show wpAny _ _ (exec _ _) _ _ _); show wpAny _ _ (exec (Stmt.Assign _ (Expr.ListComp _ _ _ _) _) _) _ _ _)); (fail_if_success (with_reducible show wpAny _ _ (eval (Expr.ListComp _ _ _ _) _) _ _ _)); (fail_if_success ((with_reducible show wpAny _ _ (exec _ _) _ _ _); show wpAny _ _ (exec (Stmt.While _ _ _ _) _) _ _ _)); (fail_if_success ((with_reducible show wpAny _ _ (exec _ _) _ _ _); show wpAny _ _ (exec (Stmt.For _ _ _ _ _) _) _ _ _)); (fail_if_success (with_reducible show wpAny _ _ (call (Value.ref _) _) _ _ _))); walk1; (try dsimp only)))
    rename Fr _ _ _ _ => F6
    rename News _ _ _ _ => N6
    show wpAny _ _ (execs [] _) _ _ _
    exact wpAny_execs_nil (hQ₀ _ _ ⟨_, _, _, b₂, lam₂, rest₂, rfl, F6, ⟨⟨rfl, rfl, rfl, rfl, rfl, trivial⟩, h112₂, hDC₂, od, ts, k, fs, k1, ws, k2, hcd, htx, hdu, hwa, hcl, hts, hfs, hws, ncd, ntx, ndu, nwa⟩, hlam₂, N6⟩)
  · obtain rfl : bb = false := by
      cases bb with
      | false => rfl
      | true => exact absurd (hbe.mp rfl) hed
    repeat' (first | ((with_reducible show wpAny _ _ (execs (_ :: _) _) _ _ _); walk1; (try dsimp only)) | (((fail_if_success (with_reducible show LCg.CompSrc _ _ _ _ _ _ _ _ _ _ _ _ _ _)); (fail_if_success ((with_reducible show wpAny _ _ (exec _ _) _ _ _); show wpAny _ _ (exec (Stmt.Assign _ (Expr.ListComp _ _ _ _) _) _) _ _ _)); (fail_if_success (with_reducible show wpAny _ _ (eval (Expr.ListComp _ _ _ _) _) _ _ _)); (fail_if_success ((with_reducible show wpAny _ _ (exec _ _) _ _ _); show wpAny _ _ (exec (Stmt.While _ _ _ _) _) _ _ _)); (fail_if_success ((with_reducible show wpAny _ _ (exec _ _) _ _ _); show wpAny _ _ (exec (Stmt.For _ _ _ _ _) _) _ _ _)); (fail_if_success (with_reducible show wpAny _ _ (call (Value.ref _) _) _ _ _))); walk1; (try dsimp only)))
    rename Fr _ _ _ _ => F6
    rename News _ _ _ _ => N6
    show wpAny _ _ (execs [] _) _ _ _
    exact wpAny_execs_nil (hQ₀ _ _ ⟨_, _, _, b₂, lam₂, rest₂, rfl, F6, ⟨⟨rfl, rfl, rfl, rfl, rfl, trivial⟩, h112₂, hDC₂, od, ts, k, fs, k1, ws, k2, hcd, htx, hdu, hwa, hcl, hts, hfs, hws, ncd, ntx, ndu, nwa⟩, hlam₂, N6⟩)
set_option maxHeartbeats 4000000 in
theorem law_c6 {fa : Addr} {cdv : Value} {xd mp cd tx du wa : Addr} {f : Int → Int} {cs₁ ds : List Int} {b : Bool} {h₁ : Heap} {tk : Nat} {lam rest : Led}
    (B : Below A₀ base [] h₀) (Xk : (K w.params).In h₀) (T : Top p loose mean mg mb h₀) (F : Fr h₀ L h₁ m) (hJ : LawS w xd mp cd tx du wa f cs₁ ds b m rest) (hP : LawP f cs₁ ds) (hlam : LamL lam) (N : News h₀ L h₁ (lam ++ rest)) (hd : dp + 40 < recursionLimit) (hu : un + 500 < cLine) :
    wpAny (md w) (ktrTop dp un gd (Str.ofString "law") C345 L fa cdv [(Str.ofString "deck", L + 1)] []) (execs ((B345.drop 6).take 1) (envOfC (Str.ofString "law") C345 L fa cdv))
      (LawT w h₀ L s xd mp cd tx du wa f cs₁ ds) (fun _ _ => False) { s with heap := h₁, toks := tk } := by
  refine @wp_gen Flow _ _ _ _ _ _ ?_
  intro Q₀ hQ₀
  obtain ⟨hk, h112, hDC, od, ts, k, fs, k1, ws, k2, hcd, htx, hdu, hwa, hcl, hts, hfs, hws, ncd, ntx, ndu, nwa⟩ := hJ
  obtain ⟨hcs, hlen, hnd, hsm, hdl, hdc⟩ := id hP
  rw [hk.ov] at F
  clear hk
  repeat' (first | ((with_reducible show wpAny _ _ (execs (_ :: _) _) _ _ _); walk1; (try dsimp only)) | (((fail_if_success (with_reducible show LCg.CompSrc _ _ _ _ _ _ _ _ _ _ _ _ _ _)); (fail_if_success ((with_reducible show wpAny _ _ (exec _ _) _ _ _); show wpAny _ _ (exec (Stmt.Assign _ (Expr.ListComp _ _ _ _) _) _) _ _ _)); (fail_if_success (with_reducible show wpAny _ _ (eval (Expr.ListComp _ _ _ _) _) _ _ _)); (fail_if_success ((with_reducible show wpAny _ _ (exec _ _) _ _ _); show wpAny _ _ (exec (Stmt.While _ _ _ _) _) _ _ _)); (fail_if_success ((with_reducible show wpAny _ _ (exec _ _) _ _ _); show wpAny _ _ (exec (Stmt.For _ _ _ _ _) _) _ _ _)); (fail_if_success (with_reducible show wpAny _ _ (call (Value.ref _) _) _ _ _))); walk1; (try dsimp only)))
  refine qc3_spec hlam ⟨by k_asm, by k_asm, by k_asm, by k_asm, by k_asm, rfl, by show dp + 24 < _; omega, by show un + 270 < _; omega⟩ h112 hDC htx hts hcs (by omega) ?_
  rintro v nw₂ h₂ tk₂ ⟨t, b₂, lam₂, rest₂, hv, rfl, hlam₂, hkp, hDC₂, h112₂⟩ F₂ N₂
  clear F N
  replace hcd := hkp _ hcd ncd
  replace htx := hkp _ htx ntx
  replace hdu := hkp _ hdu ndu
  replace hwa := hkp _ hwa nwa
  rcases hv with ⟨rfl, hn⟩ | ⟨rfl, hn⟩
  · have hed := hP.iff.mp hn
    subst hed
    repeat' (first | ((with_reducible show wpAny _ _ (execs (_ :: _) _) _ _ _); walk1; (try dsimp only)) | (((fail_if_success (with_reducible show LCg.CompSrc _ _ _ _ _ _ _ _ _ _ _ _ _ _)); (fail_if_success ((with_reducible show wpAny _ _ (exec _ _) _ _ _); show wpAny _ _ (exec (Stmt.Assign _ (Expr.ListComp _ _ _ _) _) _) _ _ _)); (fail_if_success (with_reducible show wpAny _ _ (eval (Expr.ListComp _ _ _ _) _) _ _ _)); (fail_if_success ((with_reducible show wpAny _ _ (exec _ _) _ _ _); show wpAny _ _ (exec (Stmt.While _ _ _ _) _) _ _ _)); (fail_if_success ((with_reducible show wpAny _ _ (exec _ _) _ _ _); show wpAny _ _ (exec (Stmt.For _ _ _ _ _) _) _ _ _)); (fail_if_success (with_reducible show wpAny _ _ (call (Value.ref _) _) _ _ _))); walk1; (try dsimp only)))
    rename Fr _ _ _ _ => F6
    rename News _ _ _ _ => N6
    show wpAny _ _ (execs [] _) _ _ _
    exact wpAny_execs_nil (hQ₀ _ _ ⟨_, _, _, b₂, lam₂, rest₂, rfl, F6, ⟨⟨rfl, rfl, rfl, rfl, rfl, trivial⟩, h112₂, hDC₂, od, ts, k, fs, k1, ws, k2, hcd, htx, hdu, hwa, hcl, hts, hfs, hws, ncd, ntx, ndu, nwa⟩, hlam₂, N6⟩)
  · have hed : ¬ cs₁ = ds := fun e => hn (hP.iff.mpr e)
    repeat' (first | ((with_reducible show wpAny _ _ (execs (_ :: _) _) _ _ _); walk1; (try dsimp only)) | (((fail_if_success (with_reducible show LCg.CompSrc _ _ _ _ _ _ _ _ _ _ _ _ _ _)); (fail_if_success ((with_reducible show wpAny _ _ (exec _ _) _ _ _); show wpAny _ _ (exec (Stmt.Assign _ (Expr.ListComp _ _ _ _) _) _) _ _ _)); (fail_if_success (with_reducible show wpAny _ _ (eval (Expr.ListComp _ _ _ _) _) _ _ _)); (fail_if_success ((with_reducible show wpAny _ _ (exec _ _) _ _ _); show wpAny _ _ (exec (Stmt.While _ _ _ _) _) _ _ _)); (fail_if_success ((with_reducible show wpAny _ _ (exec _ _) _ _ _); show wpAny _ _ (exec (Stmt.For _ _ _ _ _) _) _ _ _)); (fail_if_success (with_reducible show wpAny _ _ (call (Value.ref _) _) _ _ _))); walk1; (try dsimp only)))
    rename Fr _ _ _ _ => F6
    rename News _ _ _ _ => N6
    show wpAny _ _ (execs [] _) _ _ _
    exact wpAny_execs_nil (hQ₀ _ _ ⟨_, _, _, b₂, lam₂, rest₂, rfl, F6, ⟨⟨rfl, rfl, rfl, rfl, rfl, trivial⟩, h112₂, hDC₂, od, ts, k, fs, k1, ws, k2, hcd, htx, hdu, hwa, hcl, hts, hfs, hws, ncd, ntx, ndu, nwa⟩, hlam₂, N6⟩)
end
end
section
local macro_rules | `(tactic| walk_at "subscriptTail Name Slice ref ref") => `(tactic| ((first
  | refine slice_to (s := ⟨_, _, _, _, _⟩) (by k_asm) (by k_asm) (by k_mem) (by l_ints) (by omega) (by walk_at "len") ?_
  | refine slice_from (s := ⟨_, _, _, _, _⟩) (by k_asm) (by k_asm) (by k_mem) (by l_ints) (by omega) (by walk_at "len") ?_); intro D' ws' h' F' N' l1 hI'; (try k_lt l1); (try k_sweep)))
local macro_rules | `(tactic| walk_at "binaryOp Add ref ref") => `(tactic| ((refine add_mem (by k_asm) (by k_asm) (by k_mem) (by k_mem) (by walk_at "ints") (by walk_at "ints") (by walk_at "len") ?_); intro D' ws' h' F' N' l1 hI'; (try k_lt l1); (try k_sweep)))
section
set_option maxHeartbeats 1000000
theorem reg29 (w : World) : (model PySem.Challenge.rw_nt0032_01.row.prog w = model PySem.Challenge.rw_nt0032_01.row.prog w) ∧ K w.params = K w.params := by
  k_fill
  exact ⟨rfl, rfl⟩
section
variable {w : World} {p : Program} {loose : List Str} {mean : ExcName → Option Value} {mg mb : Mp} {dp un : Nat} {gd : Option (List Code)} {cn : Str} {cs : Scope} {a : Addr} {ccd : Value} {cl : List (Str × Addr)} {outer : List Env} {A₀ : Around} {base h₀ : Heap} {L : Addr} {m : Mp} {news : Led} {s : Shared} {Q : Value → Shared → Prop}
section
variable {prog : Program} {A : Around} {env : Env} {body : List Stmt} {Q : Flow → Shared → Prop}
/-- over a range by ones -/
theorem ForAt.rangeS {target : PySem.Expr} {r : Addr} {a₀ b₀ : Int} {t₀ u₀ v₀ : Tok} {n : Nat} {m : Mp} {news : Led} (J : Nat → Mp → Led → Prop) (hh : A.handled = none)
    (hr : IsRange s.heap r a₀ b₀ 1 t₀ u₀ v₀) (hsmall : Builtin.Range.small a₀ b₀ 1 = true) (hn : Builtin.Range.rangeSize a₀ b₀ 1 = (n : Int))
    (F : Fr h₀ L s.heap m) (N : News h₀ L s.heap news) (hJ : J 0 m news)
    (turn : ∀ i t m₁ news₁ h tk I o, (∃ a b c, o.data = .fields #[.int a 0, .int b 0, .int c 0]) → i < n → J i m₁ news₁ → (∀ p ∈ news₁, p.1 ≠ I) → Fr h₀ L h m₁ → News h₀ L h (news₁ ++ [(I, o)]) →
      wpAny (model prog w) A (assign target env (.int (a₀ + (i : Nat)) t)) (fun _ s₂ => wpAny (model prog w) A (execs body env) (FEnd h₀ L (J (i + 1)) I o s Q) (fun _ _ => False) s₂) (fun _ _ => False) { s with heap := h, toks := tk })
    (done : ∀ m₁ news₁ h tk, J n m₁ news₁ → Fr h₀ L h m₁ → News h₀ L h news₁ → Q .next { s with heap := h, toks := tk })
    (ht : ∀ it v, letOwnedTupleGo target it v = pure () := by intro _ _; rfl) : ForAt prog w A env target body Q (.ref r) s := by
  refine wpAny_pyIter_range hr hsmall ?_
  refine for_loopS (s := { s with heap := s.heap.push _ }) (I := s.heap.objs.size) (need := []) (n := n) (P := fun i v => ∃ t, v = .int (a₀ + (i : Nat)) t) (St := fun i o => o = { cls := .type "range_iterator", data := .fields #[rawInt (a₀ + (i : Nat)), rawInt ((n : Int) - (i : Nat)), rawInt 1] }) J ?_ (fresh_none F) (Nat.ne_of_gt F.ns.lt)
    (fun q hq => Nat.ne_of_lt (Heap.lt_size (N q hq).1)) (Heap.get?_push_size _ rfl) (by rw [hn]; simp) (F.push _) (fun q hq => ⟨Heap.get?_push_of_some _ (N q hq).1, (N q hq).2⟩) hJ
    (fun i m news h q hq => nomatch hq) (ht _) (fun i v m₁ news₁ h tk o hi hS hP hJ₁ hn₁ F₁ N₁ => by obtain ⟨t, rfl⟩ := hP; exact turn i t m₁ news₁ h tk _ o ⟨_, _, _, by rw [hS]; rfl⟩ hi hJ₁ hn₁ F₁ N₁) (fun m₁ news₁ h tk hJ₁ F₁ N₁ => done m₁ news₁ h tk hJ₁ F₁ N₁)
  constructor
  · intro i s o Q E hi ho hst hnd hQ
    subst hst
    refine wpAny_pyNext_range_item (x := a₀ + (i : Nat)) (left := (n : Int) - (i : Nat)) (step := 1) ho (by omega) fun h' hit hs => ?_
    refine hQ _ h' _ _ ⟨_, rfl⟩ hit ?_ hs
    have e1 : a₀ + (i : Int) + 1 = a₀ + ((i + 1 : Nat) : Int) := by omega
    have e2 : (n : Int) - (i : Int) - 1 = (n : Int) - ((i + 1 : Nat) : Int) := by omega
    rw [e1, e2]
  · intro s o Q E ho hst hnd hQ
    subst hst
    exact wpAny_pyNext_range_end hh (x := a₀ + (n : Nat)) (left := (n : Int) - (n : Nat)) (step := 1) ho (by omega) fun h' hs => hQ h' _ hs
end
theorem LamL.sepR {lam : Led} {g h : Heap} {L I : Addr} {N : Led} {oi : Obj} (hl : LamL lam) (hN : News g L h N) (hs : ∀ q ∈ lam, q ∈ N) (hF : (I, oi) ∈ N) (ho' : ∃ a b c, oi.data = .fields #[.int a 0, .int b 0, .int c 0]) (h1 : I ≠ 112) : ∀ q ∈ lam, q.1 ≠ I := by
  obtain ⟨ra, rb, rc, ho⟩ := ho'
  rcases hl with rfl | ⟨c', oc, vs, t, rfl, hd, hv⟩
  · intro q hq
    obtain rfl := List.mem_singleton.mp hq
    exact h1.symm
  · intro q hq
    rcases List.mem_cons.mp hq with rfl | hq
    · exact h1.symm
    · obtain rfl := List.mem_singleton.mp hq
      intro e
      dsimp only at e
      subst e
      have a1 := (hN _ hF).1
      have a2 := (hN _ (hs _ (.tail _ (.head _)))).1
      dsimp only at a1 a2
      rw [a1] at a2
      obtain rfl := Option.some.inj a2
      rw [ho] at hd
      injection hd with hd
      subst hd
      simp at hv
theorem swap_cut {u v : List Int} {x y : Int} {i : Nat} (h : u.length = i) : (u ++ x :: y :: v).take i ++ [y, x] ++ (u ++ x :: y :: v).drop (i + 2) = u ++ y :: x :: v := by
  subst h
  have e : u ++ x :: y :: v = (u ++ [x, y]) ++ v := by simp
  rw [List.take_left, e, List.drop_left' (by simp)]
  simp
set_option maxHeartbeats 4000000 in
theorem law_d {fa : Addr} {cdv : Value} {xd mp cd tx du wa : Addr} {f : Int → Int} {cs₁ ds : List Int} {b : Bool} {h₁ : Heap} {tk : Nat} {lam rest : Led}
    (B : Below A₀ base [] h₀) (Xk : (K w.params).In h₀) (T : Top p loose mean mg mb h₀) (F : Fr h₀ L h₁ m) (hJ : LawS w xd mp cd tx du wa f cs₁ ds b m rest) (hP : LawP f cs₁ ds) (hlam : LamL lam) (N : News h₀ L h₁ (lam ++ rest)) (hd : dp + 40 < recursionLimit) (hu : un + 500 < cLine) :
    wpAny (md w) (ktrTop dp un gd (Str.ofString "law") C345 L fa cdv [(Str.ofString "deck", L + 1)] []) (execs (B345.drop 7) (envOfC (Str.ofString "law") C345 L fa cdv))
      (RetAt h₀ L s (fun v news' => v = .bool true ∧ ∃ lam rest, LamL lam ∧ news' = lam ++ rest)) (fun _ _ => False) { s with heap := h₁, toks := tk } := by
  obtain ⟨hcs, hlen, hnd, hsm, hdl, hdc⟩ := id hP
  have J₀ := hJ
  obtain ⟨hk, h112, hDC, od, ts, k, fs, k1, ws, k2, hcd, htx, hdu, hwa, hcl, hts, hfs, hws, ncd, ntx, ndu, nwa⟩ := hJ
  rw [hk.ov] at F
  refine wp_gen fun Q₀ hQ₀ => ?_
  repeat' (first | ((with_reducible show wpAny _ _ (execs (_ :: _) _) _ _ _); walk1; (try dsimp only)) | (((fail_if_success (with_reducible show LCg.CompSrc _ _ _ _ _ _ _ _ _ _ _ _ _ _)); (fail_if_success ((with_reducible show wpAny _ _ (exec _ _) _ _ _); show wpAny _ _ (exec (Stmt.Assign _ (Expr.ListComp _ _ _ _) _) _) _ _ _)); (fail_if_success (with_reducible show wpAny _ _ (eval (Expr.ListComp _ _ _ _) _) _ _ _)); (fail_if_success ((with_reducible show wpAny _ _ (exec _ _) _ _ _); show wpAny _ _ (exec (Stmt.While _ _ _ _) _) _ _ _)); (fail_if_success ((with_reducible show wpAny _ _ (exec _ _) _ _ _); show wpAny _ _ (exec (Stmt.For _ _ _ _ _) _) _ _ _)); (fail_if_success (with_reducible show wpAny _ _ (call (Value.ref _) _) _ _ _))); walk1; (try dsimp only)))
  show wpAny _ _ (exec _ _) _ _ _
  refine for_at ?_
  repeat' (first | ((with_reducible show wpAny _ _ (execs (_ :: _) _) _ _ _); walk1; (try dsimp only)) | (((fail_if_success (with_reducible show LCg.CompSrc _ _ _ _ _ _ _ _ _ _ _ _ _ _)); (fail_if_success ((with_reducible show wpAny _ _ (exec _ _) _ _ _); show wpAny _ _ (exec (Stmt.Assign _ (Expr.ListComp _ _ _ _) _) _) _ _ _)); (fail_if_success (with_reducible show wpAny _ _ (eval (Expr.ListComp _ _ _ _) _) _ _ _)); (fail_if_success ((with_reducible show wpAny _ _ (exec _ _) _ _ _); show wpAny _ _ (exec (Stmt.While _ _ _ _) _) _ _ _)); (fail_if_success ((with_reducible show wpAny _ _ (exec _ _) _ _ _); show wpAny _ _ (exec (Stmt.For _ _ _ _ _) _) _ _ _)); (fail_if_success (with_reducible show wpAny _ _ (call (Value.ref _) _) _ _ _))); walk1; (try dsimp only)))
  rename IsRange _ _ _ _ _ _ _ _ => hR
  rename Fr _ _ _ _ => F4
  rename News _ _ _ _ => N4
  refine ForAt.rangeS (n := cs₁.length - 1) (s := ⟨_, _, _, _, _⟩) (fun i m' nw => ∃ b lam rest, nw = lam ++ rest ∧ LawS w xd mp cd tx du wa f cs₁ ds b m' rest ∧ LamL lam) rfl hR (small_one (by decide) (by decide) (by omega) (by omega)) (by rw [rangeSize_one]; split <;> omega) F4 N4 ⟨b, lam, rest, rfl, ⟨⟨rfl, rfl, rfl, rfl, rfl, trivial⟩, J₀.2⟩, hlam⟩ ?_ ?_
  · clear F4 N4 hR J₀ hk h112 hDC hcd htx hdu hwa hcl hts hfs hws ncd ntx ndu nwa hlam
    rintro i t m₅ nw h₅ tk₅ I o ho9 hin ⟨b, lam, rest, rfl, J₅, hlam⟩ hI F5 N5
    have J₀ := J₅
    obtain ⟨hk, h112, hDC, od, ts, k, fs, k1, ws, k2, hcd, htx, hdu, hwa, ⟨kvs, ho, hval⟩, hts, hfs, hws, ncd, ntx, ndu, nwa⟩ := J₅
    have hi0 : i < cs₁.length := by omega
    have hi1 : i + 1 < cs₁.length := by omega
    have ea := List.getElem?_eq_getElem hi0
    have eb := List.getElem?_eq_getElem hi1
    generalize cs₁[i] = x at ea
    generalize cs₁[i + 1] = y at eb
    obtain ⟨u, v, ecs, hul⟩ := cut2 ea eb
    obtain ⟨tx', hvx⟩ := ints_at hts ea
    obtain ⟨ty', hvy⟩ := ints_at hts eb
    have cx := hcs x (by rw [ecs]; simp)
    have cy := hcs y (by rw [ecs]; simp)
    obtain ⟨sx, hsx⟩ := hval x cx.1 cx.2
    obtain ⟨sy, hsy⟩ := hval y cy.1 cy.2
    have hvx' : ts[((0 : Int) + (i : Int)).toNat]? = some (.int x tx') := by rw [show ((0 : Int) + (i : Int)).toNat = i by omega]; exact hvx
    have hvy' : ts[((0 : Int) + (i : Int) + 1).toNat]? = some (.int y ty') := by rw [show ((0 : Int) + (i : Int) + 1).toNat = i + 1 by omega]; exact hvy
    rw [hk.ov] at F5
    clear hk
    refine wp_gen2 fun E₁ hE₁ => ?_
    repeat' (first | ((with_reducible show wpAny _ _ (execs (_ :: _) _) _ _ _); walk1; (try dsimp only)) | (((fail_if_success (with_reducible show LCg.CompSrc _ _ _ _ _ _ _ _ _ _ _ _ _ _)); (fail_if_success ((with_reducible show wpAny _ _ (exec _ _) _ _ _); show wpAny _ _ (exec (Stmt.Assign _ (Expr.ListComp _ _ _ _) _) _) _ _ _)); (fail_if_success (with_reducible show wpAny _ _ (eval (Expr.ListComp _ _ _ _) _) _ _ _)); (fail_if_success ((with_reducible show wpAny _ _ (exec _ _) _ _ _); show wpAny _ _ (exec (Stmt.While _ _ _ _) _) _ _ _)); (fail_if_success ((with_reducible show wpAny _ _ (exec _ _) _ _ _); show wpAny _ _ (exec (Stmt.For _ _ _ _ _) _) _ _ _)); (fail_if_success (with_reducible show wpAny _ _ (call (Value.ref _) _) _ _ _))); walk1; (try dsimp only)))
    all_goals (try ((with_reducible show E₁ _ _); rename Fr _ _ _ _ => F6; rename News _ _ _ _ => N6; exact hE₁ _ _ ⟨_, _, _, lam ++ rest, rfl, F6, fun q hq => N6 q (by k_mem), hI, b, lam, rest, rfl, ⟨⟨rfl, rfl, rfl, rfl, rfl, trivial⟩, J₀.2⟩, hlam⟩))
    rename_i D₀ ws₀ h₀' F6 N6 hI6 l6
    rename f x ≠ f y => hxy
    rename 0 < f y => hy0
    rename 0 < f x => hx0
    obtain ⟨_, _, _, _, _, l7⟩ := l6
    have hlt := allLt_mem l7
    obtain ⟨o12, e12⟩ := hlam.at112
    have hI12 : I ≠ 112 := (hI _ (List.mem_append_left _ e12)).symm
    have hD12 : D₀ ≠ 112 := Nat.ne_of_gt (hlt (112, o12) (List.mem_append_left _ (List.mem_append_left _ e12)))
    rw [show ((0 : Int) + (i : Int) + 2).toNat = i + 2 by omega, show ((0 : Int) + (i : Int)).toNat = i by omega, ecs, swap_cut hul] at hI6
    have hsame : Same f (u ++ y :: x :: v) ds := (Same.swap hx0 hy0 hxy u v).symm.trans (ecs ▸ hsm)
    have hcs' : ∀ c ∈ u ++ y :: x :: v, 97 ≤ c ∧ c < 105 := fun c hc => hcs c (by
      rw [ecs]
      simp only [List.mem_append, List.mem_cons] at hc ⊢
      rcases hc with h | h | h | h <;> simp [h])
    have hl' : (u ++ y :: x :: v).length = cs₁.length := by rw [ecs]; simp
    refine ordered_spec (rest := (D₀, listObj ws₀ 0) :: (rest ++ [(I, o)])) hlam ⟨by k_asm, by k_asm, by k_asm, fun q hq => N6 q (by
      rcases List.mem_append.mp hq with hq | hq
      · k_mem
      rcases List.mem_cons.mp hq with rfl | hq
      · k_mem
      rcases List.mem_append.mp hq with hq | hq
      · k_mem
      · k_mem), by k_asm, rfl, by show dp + 10 < _; omega, by show un + 120 < _; omega⟩ (fun q hq => by
      rcases List.mem_cons.mp hq with rfl | hq
      · exact hD12
      rcases List.mem_append.mp hq with hq | hq
      · exact h112 q hq
      · obtain rfl := List.mem_singleton.mp hq
        exact hI12) (hDC.mono fun q hq => .tail _ (List.mem_append_left _ hq)) (.head _) hI6 hcs' (by omega) ?_
    intro D₄ out₄ k₄ lam₄ fnd₄ ps₄ qs₄ h₄ tk₄ hlam₄ hout₄ hO₄ hS₄ _ F₄ N₄
    rw [Ord.eq hO₄ hS₄ hnd hsame] at hout₄
    clear F6 N6 hI6
    repeat' (first | ((with_reducible show wpAny _ _ (execs (_ :: _) _) _ _ _); walk1; (try dsimp only)) | (((fail_if_success (with_reducible show LCg.CompSrc _ _ _ _ _ _ _ _ _ _ _ _ _ _)); (fail_if_success ((with_reducible show wpAny _ _ (exec _ _) _ _ _); show wpAny _ _ (exec (Stmt.Assign _ (Expr.ListComp _ _ _ _) _) _) _ _ _)); (fail_if_success (with_reducible show wpAny _ _ (eval (Expr.ListComp _ _ _ _) _) _ _ _)); (fail_if_success ((with_reducible show wpAny _ _ (exec _ _) _ _ _); show wpAny _ _ (exec (Stmt.While _ _ _ _) _) _ _ _)); (fail_if_success ((with_reducible show wpAny _ _ (exec _ _) _ _ _); show wpAny _ _ (exec (Stmt.For _ _ _ _ _) _) _ _ _)); (fail_if_success (with_reducible show wpAny _ _ (call (Value.ref _) _) _ _ _))); walk1; (try dsimp only)))
    have sepI := hlam₄.sepR N₄ (fun q hq => .tail _ (List.mem_append_left _ hq)) (.tail _ (List.mem_append_right _ (.tail _ (List.mem_append_right _ (.head _))))) ho9 hI12
    exact hE₁ _ _ ⟨_, _, _, lam₄ ++ rest, rfl, F₄, fun q hq => N₄ q (by
      rcases List.mem_append.mp hq with hq | hq
      · rcases List.mem_append.mp hq with hq | hq
        · exact .tail _ (List.mem_append_left _ hq)
        · exact .tail _ (List.mem_append_right _ (.tail _ (List.mem_append_left _ hq)))
      · exact .tail _ (List.mem_append_right _ (.tail _ (List.mem_append_right _ hq)))), fun q hq => by
      rcases List.mem_append.mp hq with hq | hq
      · exact sepI q hq
      · exact hI q (List.mem_append_right _ hq), b, lam₄, rest, rfl, ⟨⟨rfl, rfl, rfl, rfl, rfl, trivial⟩, J₀.2⟩, hlam₄⟩
  · rintro m₁ nw h₉ tk₉ ⟨b, lam, rest, rfl, J₉, hlam⟩ F₉ N₉
    dsimp only
    repeat' (first | ((with_reducible show wpAny _ _ (execs (_ :: _) _) _ _ _); walk1; (try dsimp only)) | (((fail_if_success (with_reducible show LCg.CompSrc _ _ _ _ _ _ _ _ _ _ _ _ _ _)); (fail_if_success ((with_reducible show wpAny _ _ (exec _ _) _ _ _); show wpAny _ _ (exec (Stmt.Assign _ (Expr.ListComp _ _ _ _) _) _) _ _ _)); (fail_if_success (with_reducible show wpAny _ _ (eval (Expr.ListComp _ _ _ _) _) _ _ _)); (fail_if_success ((with_reducible show wpAny _ _ (exec _ _) _ _ _); show wpAny _ _ (exec (Stmt.While _ _ _ _) _) _ _ _)); (fail_if_success ((with_reducible show wpAny _ _ (exec _ _) _ _ _); show wpAny _ _ (exec (Stmt.For _ _ _ _ _) _) _ _ _)); (fail_if_success (with_reducible show wpAny _ _ (call (Value.ref _) _) _ _ _))); walk1; (try dsimp only)))
    exact hQ₀ _ _ <| RetAt.ret F₉ N₉ ⟨rfl, lam, rest, hlam, rfl⟩
end
end
end
end
end
end
end
end
end
end
section
set_option maxHeartbeats 1000000
section
variable {w : World} {p : Program} {loose : List Str} {mean : ExcName → Option Value} {mg mb : Mp} {dp un : Nat} {gd : Option (List Code)} {cn : Str} {cs : Scope} {a : Addr} {ccd : Value} {cl : List (Str × Addr)} {outer : List Env} {A₀ : Around} {base h₀ : Heap} {L : Addr} {m : Mp} {news : Led} {s : Shared} {Q : Value → Shared → Prop}
/-- law's body -/
theorem law_body {fa : Addr} {cdv : Value} {l : Addr} {vs : List Value} {ns : List Int} {oc : Obj} {h₁ : Heap} {tk : Nat} (hl : h₀.IsList l vs.toArray) (hi : IntsAre vs ns) (hlen : ns.length ≤ 63)
    (B : Below A₀ base [] h₀) (X : (K w.params).In h₀) (T : Top p loose mean mg mb h₀) (F : Fr h₀ L h₁ m) (hm : Knows [(Str.ofString "script", .ref l)] m) (N : News h₀ L h₁ [(L + 1, oc), (112, tabObj #[])]) (hoc : oc.data = .cell none) (hd : dp + 40 < recursionLimit) (hu : un + 500 < cLine) :
    wpAny (md w) (ktrTop dp un gd (Str.ofString "law") C345 L fa cdv [(Str.ofString "deck", L + 1)] []) (execs B345 (envOfC (Str.ofString "law") C345 L fa cdv))
      (RetAt h₀ L s (fun v news' => v = .bool true ∧ ∃ lam rest, LamL lam ∧ news' = lam ++ rest)) (fun _ _ => False) { s with heap := h₁, toks := tk } := by
  refine @execs_cut _ _ _ _ _ _ 1 _ (fun s' => ∃ h tk m' xd mp cd dk X oc', s' = { s with heap := h, toks := tk } ∧ Fr h₀ L h m' ∧ Apart X dk cd (L + 1) ∧ oc'.data = .cell (some (.ref dk)) ∧ ∃ nw, LawJ w xd mp cd dk X (L + 1) oc' 0 m' nw ∧ News h₀ L h nw) (wpAny_mono (law_a hl hi hlen B X T F hm N hoc hd hu) (fun f s' h => by cases f with | next => exact h | ret v => exact h.elim | brk => exact h.elim | cont => exact h.elim) (fun _ _ e => e)) ?_
  rintro s' ⟨h, tk, m', xd, mp, cd, dk, X₁, oc', rfl, F₁, hA, hoc₁, nw, hJ, N₁⟩
  refine @execs_cut _ _ _ _ _ _ 1 _ (fun s' => ∃ h tk m' nw, s' = { s with heap := h, toks := tk } ∧ Fr h₀ L h m' ∧ LawJ w xd mp cd dk X₁ (L + 1) oc' 8 m' nw ∧ News h₀ L h nw) (wpAny_mono (law_loop B X T F₁ hJ N₁ hA hoc₁ hd hu) (fun f s' h => by cases f with | next => exact h | ret v => exact h.elim | brk => exact h.elim | cont => exact h.elim) (fun _ _ e => e)) ?_
  rintro s' ⟨h, tk, m', nw, rfl, F₁, hJ, N₁⟩
  rw [List.drop_drop]
  refine @execs_cut _ _ _ _ _ _ 1 _ (fun s' => ∃ h tk m' tx f cs₁ nw, s' = { s with heap := h, toks := tk } ∧ Fr h₀ L h m' ∧ TextJ w xd mp cd tx f cs₁ m' nw ∧ News h₀ L h nw) (wpAny_mono (law_text B X T F₁ hJ N₁ hA hoc₁ hd hu) (fun f s' h => by cases f with | next => exact h | ret v => exact h.elim | brk => exact h.elim | cont => exact h.elim) (fun _ _ e => e)) ?_
  rintro s' ⟨h, tk, m', tx, f, cs₁, nw, rfl, F₁, hJ, N₁⟩
  rw [List.drop_drop]
  refine @execs_cut _ _ _ _ _ _ 1 _ (fun s' => ∃ h tk m' du wa ds rest, s' = { s with heap := h, toks := tk } ∧ Fr h₀ L h m' ∧ LawS w xd mp cd tx du wa f cs₁ ds false m' rest ∧ LawP f cs₁ ds ∧ News h₀ L h ((112, tabObj #[]) :: rest)) (wpAny_mono (law_due B X T F₁ hJ N₁ hd hu) (fun f s' h => by cases f with | next => exact h | ret v => exact h.elim | brk => exact h.elim | cont => exact h.elim) (fun _ _ e => e)) ?_
  rintro s' ⟨h, tk, m', du, wa, ds, rest, rfl, F₁, hJ, hP, N₁⟩
  rw [List.drop_drop]
  refine @execs_cut _ _ _ _ _ _ 1 _ (LawT w h₀ L s xd mp cd tx du wa f cs₁ ds .next) (wpAny_mono (law_c4 (lam := [(112, tabObj #[])]) B X T F₁ hJ hP (.inl rfl) N₁ hd hu) (fun f s' h => by cases f with | next => exact h | ret v => exact h.elim | brk => exact h.elim | cont => exact h.elim) (fun _ _ e => e)) ?_
  rintro s' ⟨h, tk, m', b, lam, rest, rfl, F₁, hJ, hlam, N₁⟩
  rw [List.drop_drop]
  refine @execs_cut _ _ _ _ _ _ 1 _ (LawT w h₀ L s xd mp cd tx du wa f cs₁ ds .next) (wpAny_mono (law_c5 B X T F₁ hJ hP hlam N₁ hd hu) (fun f s' h => by cases f with | next => exact h | ret v => exact h.elim | brk => exact h.elim | cont => exact h.elim) (fun _ _ e => e)) ?_
  rintro s' ⟨h, tk, m', b, lam, rest, rfl, F₁, hJ, hlam, N₁⟩
  rw [List.drop_drop]
  refine @execs_cut _ _ _ _ _ _ 1 _ (LawT w h₀ L s xd mp cd tx du wa f cs₁ ds .next) (wpAny_mono (law_c6 B X T F₁ hJ hP hlam N₁ hd hu) (fun f s' h => by cases f with | next => exact h | ret v => exact h.elim | brk => exact h.elim | cont => exact h.elim) (fun _ _ e => e)) ?_
  rintro s' ⟨h, tk, m', b, lam, rest, rfl, F₁, hJ, hlam, N₁⟩
  rw [List.drop_drop]
  exact law_d B X T F₁ hJ hP hlam N₁ hd hu
end
end
end Mine
end
open PySem PySem.W PyProof.Rows PySem.Calls PySem.Spec
set_option maxRecDepth 100000
theorem Mine.said0 : OpenLaw.wellSaid PySem.Challenge.rw_nt0032_01 = true := by
  rw [PySem.W.Fast.te9446332074065402090]
  kernel_rfl
open Mine
theorem Mine.regz (w : World) : (model PySem.Challenge.rw_nt0032_01.row.prog w = model PySem.Challenge.rw_nt0032_01.row.prog w) ∧ Mine.K w.params = Mine.K w.params := by
  k_fill
  exact ⟨rfl, rfl⟩
set_option maxHeartbeats 8000000 in
theorem PySem.Challenge.cw_nt0032_01_holds : PySem.Challenge.rw_nt0032_01.Holds := by
  w_on
  refine holds_law Mine.said0 fun said => ?_
  refine holds_open (q := vq) (loose := lo) (Xt := fun s => xlAt vq lv s && recOk [] s) (XP := XL vq lv) (Yf := Hook.obs H) (Ya := Hook.val H) (YP := Hook.says H) (N := 4852) left0 (Hook.of H) (Hook.keeps H) (fun s e => xl_of s (Bool.and_eq_true_iff.mp e).1) XL.keeps (by rfl) (by rfl) (by rfl) (fun s e => recFacts_of (Bool.and_eq_true_iff.mp e).2) (by rfl) (by first | assumption | decide +kernel) (by decide +kernel) ⟨rfl, rfl, rfl, rfl, rfl, by decide +kernel⟩ ?hw ?hc
  case hw => w_witness2
  case hc =>
    intro w s₀ s₁ mg mb G Y fa o pm cd doc dV kV ho hd hcd hD hmg hg args vals as hpre hlay hrd hwl hlo
    have KX := km_in_of Y
    km_tabs Y
    have X := (Ground.X G).1
    have V := (Ground.X G).2
    refine Ground.open G ?_
    intro T B D TE TW
    try (refine guard_noD D (by decide +kernel) ?_; clear D)
    km_lay T hmg ho hd cd
    clear hmg
    wrow_args hpre hlay hrd hwl hlo
    all_goals (
      first | refine callC_kw (enter_call ?_) | refine enter_call ?_
      w_top on
      kn_posts
      w_call any ho hd hcd hD T F
      clear hd
      kn_ghosts F T
      k_drop
      skip)
    rename News _ _ _ _ => N'
    rename Fr _ _ _ _ => F'
    rename Below _ _ _ _ => K'
    rename Frag.In _ _ => X'
    rename Top _ _ _ _ _ (ghostOf _ _) => T'
    rename IntsAre _ _ => hI
    rename Obj.data _ = Data.cell _ => hc
    refine wpAny_mono (Mine.law_body lifted hI (by omega) K' X' T' F' ⟨rfl, trivial⟩ N' hc (by decide +kernel) (by decide +kernel)) ?_ (fun _ _ e => e.elim)
    rintro f s' ⟨v, h', tk, m', news', hv, rfl, F₂, N₂, rfl, lam, rest, hlam, rfl⟩
    obtain ⟨vs, hm⟩ := hlam.tab
    exact ⟨⟨.inl ⟨.bool true, .bool true, [], congrArg (fun v => Except.ok (Flow.ret v)) hv, fun _ => rfl, .bool true, by wrow_post, fun _ => ⟨.nil, fun _ h => nomatch h⟩⟩, F₂.keep, rfl, hg⟩, ⟨GrownAt.of N₂ (List.mem_append_left _ hm), trivial⟩⟩
