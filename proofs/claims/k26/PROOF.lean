import PyProof.Rows.All
import Wide.All
import OpenK.AllK
import Wide.FinOn
import KE.KStateDown
import HandS.ForMost
import HandS.Defaults
import HandS.MakeKw
import HandS.MakeKwOnly
import HandS.Deep
import HandS.Flow
import HandS.FStr
import HandS.Zip
import HandS.Style
import HandS.Head0
import HandS.Head1
import HandS.Head2
import HandS.HeadEnd
import HandS.HeadHook1
import HandS.HeadHook2
import PySem.Challenge.RW_fleuron_k26_whole_built_automata
import KE.KDictZip
import HandS.Evl
set_option Elab.async false
set_option linter.all false
set_option maxRecDepth 100000
namespace K26
/-! ### statuses: plain lists -/
abbrev Pat := List (List Int)
/-- the number behind one glyph more, of one pattern -/
def nx1 (p : Pat) (n g : Int) : Int := if n = -1 ∨ n = (p.length : Int) then n else if g ∈ p.getD n.toNat [] then n + 1 else -1
def nxS (ps : List Pat) (st : List Int) (g : Int) : List Int := List.zipWith (fun p n => nx1 p n g) ps st
def st0 (ps : List Pat) : List Int := List.replicate ps.length 0
def stW (ps : List Pat) (w : List Int) : List Int := w.foldl (nxS ps) (st0 ps)
/-- the rules that are met -/
def metB (ps : List Pat) (st : List Int) (k : Nat) : Bool := decide (st.getD k 0 = ((ps.getD k []).length : Int))
def metN (ps : List Pat) (st : List Int) (i : Nat) : List Int := ((List.range i).filter (metB ps st)).map fun (k : Nat) => (k : Int)
def met (ps : List Pat) (st : List Int) : List Int := metN ps st ps.length
theorem metN_succ (ps : List Pat) (st : List Int) (i : Nat) : metN ps st (i + 1) = if metB ps st i = true then metN ps st i ++ [(i : Int)] else metN ps st i := by
  unfold metN
  rw [List.range_succ, List.filter_append]
  by_cases h : metB ps st i = true
  · rw [if_pos h, List.filter_cons_of_pos h, List.filter_nil, List.map_append]
    rfl
  · rw [if_neg h, List.filter_cons_of_neg h, List.filter_nil, List.append_nil]
theorem metN_bd (ps : List Pat) (st : List Int) (i : Nat) : ∀ r ∈ metN ps st i, 0 ≤ r ∧ r < (i : Int) := by
  intro r hr
  obtain ⟨k, hk, e⟩ := List.mem_map.mp hr
  have h := List.mem_range.mp (List.mem_filter.mp hk).1
  subst e
  exact ⟨Int.natCast_nonneg _, by omega⟩
theorem metN_len (ps : List Pat) (st : List Int) (i : Nat) : (metN ps st i).length ≤ i := by
  unfold metN
  rw [List.length_map]
  have h := List.length_filter_le (metB ps st) (List.range i)
  rw [List.length_range] at h
  exact h
/-- ascending -/
theorem metN_asc (ps : List Pat) (st : List Int) : ∀ i : Nat, (metN ps st i).Pairwise (· < ·)
  | 0 => by simp [metN]
  | i + 1 => by
    rw [metN_succ]
    split
    · refine List.pairwise_append.mpr ⟨metN_asc ps st i, by simp, fun a ha b hb => ?_⟩
      have h1 := metN_bd ps st i a ha
      have e : b = (i : Int) := by simpa using hb
      omega
    · exact metN_asc ps st i
theorem nxS_len (ps : List Pat) (st : List Int) (g : Int) : (nxS ps st g).length = min ps.length st.length := by
  unfold nxS
  rw [List.length_zipWith]
theorem nxS_get {ps : List Pat} {st : List Int} {g : Int} {k : Nat} {p : Pat} {n : Int} (hp : ps[k]? = some p) (hn : st[k]? = some n) : (nxS ps st g)[k]? = some (nx1 p n g) := by
  unfold nxS
  rw [List.getElem?_zipWith, hp, hn]
/-! ### what statuses there are -/
def enc (n : Nat) (b : Bool) (p : Pat) : Int := if b = true then ((min n p.length : Nat) : Int) else -1
def encS (n : Nat) (ps : List Pat) (bs : List Bool) : List Int := List.zipWith (fun p b => enc n b p) ps bs
def Reach (ps : List Pat) (s : List Int) : Prop := ∃ n : Nat, n ≤ 5 ∧ ∃ bs : List Bool, bs.length = ps.length ∧ s = encS n ps bs
structure Small (ps : List Pat) : Prop where
  rules : ps.length ≤ 3
  sets : ∀ p ∈ ps, p.length ≤ 5
theorem enc_nx {p : Pat} (hp : p.length ≤ 5) {n : Nat} (hn : n ≤ 5) (b : Bool) (g : Int) : ∃ b', nx1 p (enc n b p) g = enc (min (n + 1) 5) b' p := by
  cases b with
  | false =>
    refine ⟨false, ?_⟩
    unfold nx1 enc
    simp
  | true =>
    unfold nx1 enc
    simp only [if_true]
    by_cases hl : p.length ≤ n
    · refine ⟨true, ?_⟩
      have e1 : min n p.length = p.length := by omega
      have e2 : min (min (n + 1) 5) p.length = p.length := by omega
      rw [e1, if_pos (.inr rfl)]
      simp only [if_true]
      rw [e2]
    · have e1 : min n p.length = n := by omega
      rw [e1, if_neg (by omega), Int.toNat_natCast]
      by_cases hg : g ∈ p.getD n []
      · refine ⟨true, ?_⟩
        rw [if_pos hg]
        simp only [if_true]
        omega
      · exact ⟨false, by rw [if_neg hg]; simp⟩
theorem encS_nx : ∀ {ps : List Pat} (hp : ∀ p ∈ ps, p.length ≤ 5) {n : Nat} (hn : n ≤ 5) (bs : List Bool) (g : Int), bs.length = ps.length → ∃ bs' : List Bool, bs'.length = ps.length ∧ nxS ps (encS n ps bs) g = encS (min (n + 1) 5) ps bs'
  | [], _, n, hn, bs, g, hl => ⟨[], rfl, rfl⟩
  | p :: ps, hp, n, hn, [], g, hl => by simp at hl
  | p :: ps, hp, n, hn, b :: bs, g, hl => by
    obtain ⟨b', e1⟩ := enc_nx (hp p (List.mem_cons_self ..)) hn b g
    obtain ⟨bs', hl', e2⟩ := encS_nx (ps := ps) (fun q hq => hp q (List.mem_cons_of_mem _ hq)) hn bs g (by simpa using hl)
    refine ⟨b' :: bs', by simp [hl'], ?_⟩
    show nx1 p (enc n b p) g :: nxS ps (encS n ps bs) g = enc (min (n + 1) 5) b' p :: encS (min (n + 1) 5) ps bs'
    rw [e1, e2]
theorem Reach.nx {ps : List Pat} (h : Small ps) {s : List Int} (r : Reach ps s) (g : Int) : Reach ps (nxS ps s g) := by
  obtain ⟨n, hn, bs, hl, rfl⟩ := r
  obtain ⟨bs', hl', e⟩ := encS_nx h.sets hn bs g hl
  exact ⟨min (n + 1) 5, by omega, bs', hl', e⟩
theorem Reach.start (ps : List Pat) : Reach ps (st0 ps) := by
  refine ⟨0, by omega, List.replicate ps.length true, by simp, ?_⟩
  unfold st0 encS
  induction ps with
  | nil => rfl
  | cons p ps ih =>
    rw [List.length_cons, List.replicate_succ, List.replicate_succ, List.zipWith_cons_cons, ← ih]
    simp [enc]
theorem Reach.len {ps : List Pat} {s : List Int} (r : Reach ps s) : s.length = ps.length := by
  obtain ⟨n, hn, bs, hl, rfl⟩ := r
  unfold encS
  rw [List.length_zipWith, hl, Nat.min_self]
theorem Reach.bd {ps : List Pat} {s : List Int} (r : Reach ps s) {k : Nat} {p : Pat} {n : Int} (hp : ps[k]? = some p) (hn : s[k]? = some n) : n = -1 ∨ (0 ≤ n ∧ n ≤ (p.length : Int)) := by
  obtain ⟨m, hm, bs, hl, rfl⟩ := r
  unfold encS at hn
  rw [List.getElem?_zipWith, hp] at hn
  cases hb : bs[k]? with
  | none => rw [hb] at hn; cases hn
  | some b =>
    rw [hb] at hn
    have e : enc m b p = n := Option.some.inj hn
    subst e
    unfold enc
    cases b with
    | false => exact .inl rfl
    | true =>
      simp only [if_true]
      exact .inr ⟨by omega, by omega⟩
/-! ### few statuses -/
def boolLists : Nat → List (List Bool)
  | 0 => [[]]
  | n + 1 => (boolLists n).map (true :: ·) ++ (boolLists n).map (false :: ·)
theorem boolLists_len : ∀ n : Nat, (boolLists n).length = 2 ^ n
  | 0 => rfl
  | n + 1 => by
    unfold boolLists
    rw [List.length_append, List.length_map, List.length_map, boolLists_len n, Nat.pow_succ]
    omega
theorem boolLists_mem : ∀ bs : List Bool, bs ∈ boolLists bs.length
  | [] => by simp [boolLists]
  | b :: bs => by
    rw [List.length_cons]
    unfold boolLists
    rw [List.mem_append]
    cases b with
    | true => exact .inl (List.mem_map.mpr ⟨bs, boolLists_mem bs, rfl⟩)
    | false => exact .inr (List.mem_map.mpr ⟨bs, boolLists_mem bs, rfl⟩)
def cands (ps : List Pat) : List (List Int) := (List.range 6).flatMap fun n => (boolLists ps.length).map fun bs => encS n ps bs
theorem flat_len {α β : Type} (f : α → List β) (m : Nat) : ∀ l : List α, (∀ x ∈ l, (f x).length = m) → (l.flatMap f).length = l.length * m
  | [], _ => by simp
  | x :: l, h => by
    rw [List.flatMap_cons, List.length_append, h x (List.mem_cons_self ..), flat_len f m l fun y hy => h y (List.mem_cons_of_mem _ hy), List.length_cons, Nat.succ_mul]
    omega
theorem cands_len {ps : List Pat} (h : Small ps) : (cands ps).length ≤ 48 := by
  unfold cands
  rw [flat_len _ (2 ^ ps.length) _ fun x _ => by rw [List.length_map, boolLists_len], List.length_range]
  have h1 := h.rules
  have h2 : 2 ^ ps.length ≤ 2 ^ 3 := Nat.pow_le_pow_right (by decide) h1
  omega
theorem cands_mem {ps : List Pat} {s : List Int} (r : Reach ps s) : s ∈ cands ps := by
  obtain ⟨n, hn, bs, hl, rfl⟩ := r
  exact List.mem_flatMap.mpr ⟨n, List.mem_range.mpr (by omega), List.mem_map.mpr ⟨bs, hl ▸ boolLists_mem bs, rfl⟩⟩
theorem nodup_le {α : Type} [DecidableEq α] : ∀ {l m : List α}, l.Nodup → (∀ x ∈ l, x ∈ m) → l.length ≤ m.length
  | [], m, _, _ => Nat.zero_le _
  | x :: l, m, hn, hs => by
    obtain ⟨h1, h2⟩ := List.nodup_cons.mp hn
    have hx : x ∈ m := hs x (List.mem_cons_self ..)
    have ih := nodup_le (l := l) (m := m.erase x) h2 fun y hy => by
      have hne : y ≠ x := fun e => h1 (e ▸ hy)
      exact (List.mem_erase_of_ne hne).mpr (hs y (List.mem_cons_of_mem _ hy))
    have e := List.length_erase_of_mem hx
    have hp : 0 < m.length := List.length_pos_of_mem hx
    rw [List.length_cons]
    omega
/-! ### the search -/
abbrev Acc := List (List Int) × List Int
def gStep (ps : List Pat) (st : List Int) (a : Acc) (g : Int) : Acc :=
  (if nxS ps st g ∈ a.1 then a.1 else a.1 ++ [nxS ps st g], a.2 ++ [(((if nxS ps st g ∈ a.1 then a.1 else a.1 ++ [nxS ps st g]).idxOf (nxS ps st g) : Nat) : Int)])
def line (ps : List Pat) (st : List Int) (S : List (List Int)) : Nat → Acc
  | 0 => (S, [])
  | i + 1 => gStep ps st (line ps st S i) (i : Int)
abbrev Sr := List (List Int) × List (List Int)
def turn (ps : List Pat) (c : Nat) (a : Sr) : Sr := ((line ps (a.1.getD a.2.length []) a.1 c).1, a.2 ++ [(line ps (a.1.getD a.2.length []) a.1 c).2])
def tn (ps : List Pat) (c : Nat) : Nat → Sr
  | 0 => ([st0 ps], [])
  | k + 1 => turn ps c (tn ps c k)
def Fin (ps : List Pat) (c k : Nat) : Prop := k = (tn ps c k).1.length ∧ ∀ j, j < k → j < (tn ps c j).1.length
theorem Fin.uniq {ps : List Pat} {c k k' : Nat} (h : Fin ps c k) (h' : Fin ps c k') : k = k' := by
  rcases Nat.lt_trichotomy k k' with l | l | l
  · have := h'.2 k l
    have := h.1
    omega
  · exact l
  · have := h.2 k' l
    have := h'.1
    omega
theorem tn_rows (ps : List Pat) (c : Nat) : ∀ k, (tn ps c k).2.length = k
  | 0 => rfl
  | k + 1 => by
    show ((tn ps c k).2 ++ [_]).length = k + 1
    rw [List.length_append, tn_rows ps c k]
    rfl
/-- what holds of the statuses -/
structure Sts (ps : List Pat) (S : List (List Int)) : Prop where
  nd : S.Nodup
  re : ∀ s ∈ S, Reach ps s
theorem Sts.le {ps : List Pat} {S : List (List Int)} (h : Small ps) (s : Sts ps S) : S.length ≤ 48 :=
  Nat.le_trans (nodup_le s.nd fun x hx => cands_mem (s.re x hx)) (cands_len h)
theorem Sts.add {ps : List Pat} {S : List (List Int)} {s : List Int} (h : Sts ps S) (r : Reach ps s) : Sts ps (if s ∈ S then S else S ++ [s]) := by
  split
  · exact h
  · rename_i hn
    refine ⟨List.nodup_append.mpr ⟨h.nd, by simp, fun a ha b hb e => ?_⟩, fun x hx => ?_⟩
    · have e2 : b = s := by simpa using hb
      subst e e2
      exact hn ha
    · rcases List.mem_append.mp hx with hx | hx
      · exact h.re x hx
      · have e2 : x = s := by simpa using hx
        subst e2
        exact r
theorem add_mem (S : List (List Int)) (s : List Int) : s ∈ (if s ∈ S then S else S ++ [s]) := by
  split
  · assumption
  · simp
theorem add_get {S : List (List Int)} {s x : List Int} {i : Nat} (h : S[i]? = some x) : (if s ∈ S then S else S ++ [s])[i]? = some x := by
  split
  · exact h
  · rw [List.getElem?_append_left (List.getElem?_eq_some_iff.mp h).1]
    exact h
theorem idx_get {S : List (List Int)} {s : List Int} (h : s ∈ S) : S[S.idxOf s]? = some s := by
  have hl := List.idxOf_lt_length_iff.mpr h
  rw [List.getElem?_eq_getElem hl, List.getElem_idxOf hl]
/-- one line of the table: the statuses grow, each entry names its status -/
structure LineOk (ps : List Pat) (st : List Int) (S : List (List Int)) (i : Nat) (a : Acc) : Prop where
  sts : Sts ps a.1
  keep : ∀ (j : Nat) x, S[j]? = some x → a.1[j]? = some x
  len : a.2.length = i
  at_ : ∀ (g : Nat), g < i → ∃ j : Nat, a.2[g]? = some (j : Int) ∧ a.1[j]? = some (nxS ps st (g : Int))
theorem line_ok {ps : List Pat} (h : Small ps) {st : List Int} (r : Reach ps st) {S : List (List Int)} (s : Sts ps S) : ∀ i, LineOk ps st S i (line ps st S i)
  | 0 => ⟨s, fun _ _ e => e, rfl, fun g hg => absurd hg (Nat.not_lt_zero _)⟩
  | i + 1 => by
    have ih := line_ok h r s i
    have rn := r.nx h (i : Int)
    refine ⟨ih.sts.add rn, fun j x e => add_get (ih.keep j x e), ?_, fun g hg => ?_⟩
    · show ((line ps st S i).2 ++ [_]).length = i + 1
      rw [List.length_append, ih.len]
      rfl
    · by_cases hgi : g < i
      · obtain ⟨j, e1, e2⟩ := ih.at_ g hgi
        refine ⟨j, ?_, add_get e2⟩
        show ((line ps st S i).2 ++ [_])[g]? = _
        rw [List.getElem?_append_left (by rw [ih.len]; exact hgi)]
        exact e1
      · have e : g = i := by omega
        subst e
        refine ⟨_, ?_, idx_get (add_mem _ _)⟩
        show ((line ps st S g).2 ++ [_])[g]? = _
        rw [List.getElem?_append_right (by rw [ih.len]; exact Nat.le_refl _), ih.len, Nat.sub_self]
        rfl
/-- behind k turns -/
structure TnOk (ps : List Pat) (c k : Nat) : Prop where
  sts : Sts ps (tn ps c k).1
  zero : (tn ps c k).1[0]? = some (st0 ps)
  row : ∀ j, j < k → ∃ (st : List Int) (row : List Int), (tn ps c k).1[j]? = some st ∧ (tn ps c k).2[j]? = some row ∧ row.length = c ∧ ∀ g, g < c → ∃ i : Nat, row[g]? = some (i : Int) ∧ (tn ps c k).1[i]? = some (nxS ps st (g : Int))
theorem tn_ok {ps : List Pat} (h : Small ps) (c : Nat) : ∀ k, (∀ j, j < k → j < (tn ps c j).1.length) → TnOk ps c k
  | 0, _ => by
    refine ⟨⟨by simp [tn], fun s hs => ?_⟩, rfl, fun j hj => absurd hj (Nat.not_lt_zero _)⟩
    have e : s = st0 ps := by simpa [tn] using hs
    subst e
    exact Reach.start ps
  | k + 1, hj => by
    have ih := tn_ok h c k fun j hl => hj j (Nat.lt_succ_of_lt hl)
    have hk := hj k (Nat.lt_succ_self k)
    have hr := tn_rows ps c k
    have est : (tn ps c k).1[k]? = some ((tn ps c k).1.getD (tn ps c k).2.length []) := by
      rw [hr, List.getD_eq_getElem?_getD, List.getElem?_eq_getElem hk]
      rfl
    have L := line_ok h (ih.sts.re _ (List.mem_of_getElem? est)) ih.sts c
    have e1 : (tn ps c (k + 1)).1 = (line ps ((tn ps c k).1.getD (tn ps c k).2.length []) (tn ps c k).1 c).1 := rfl
    have e2 : (tn ps c (k + 1)).2 = (tn ps c k).2 ++ [(line ps ((tn ps c k).1.getD (tn ps c k).2.length []) (tn ps c k).1 c).2] := rfl
    refine ⟨by rw [e1]; exact L.sts, by rw [e1]; exact L.keep _ _ ih.zero, fun j hjk => ?_⟩
    by_cases hlt : j < k
    · obtain ⟨st, row, a1, a2, a3, a4⟩ := ih.row j hlt
      refine ⟨st, row, by rw [e1]; exact L.keep _ _ a1, ?_, a3, fun g hg => ?_⟩
      · rw [e2, List.getElem?_append_left (by rw [hr]; exact hlt)]
        exact a2
      · obtain ⟨i, b1, b2⟩ := a4 g hg
        exact ⟨i, b1, by rw [e1]; exact L.keep _ _ b2⟩
    · have e : j = k := by omega
      subst e
      refine ⟨_, _, by rw [e1]; exact L.keep _ _ est, ?_, L.len, fun g hg => ?_⟩
      · rw [e2, List.getElem?_append_right (by rw [hr]; exact Nat.le_refl _), hr, Nat.sub_self]
        rfl
      · obtain ⟨i, b1, b2⟩ := L.at_ g hg
        exact ⟨i, b1, by rw [e1]; exact b2⟩
/-! ### what the search ends with -/
def rowsOf (ps : List Pat) (c k : Nat) : List (List Int) := (tn ps c k).2
def metOf (ps : List Pat) (c k : Nat) : List (List Int) := (tn ps c k).1.map (met ps)
theorem Fin.rowsLen {ps : List Pat} {c k : Nat} (f : Fin ps c k) : (rowsOf ps c k).length = k := tn_rows ps c k
theorem Fin.metLen {ps : List Pat} {c k : Nat} (f : Fin ps c k) : (metOf ps c k).length = k := by
  unfold metOf
  rw [List.length_map]
  exact f.1.symm
theorem Fin.pos {ps : List Pat} {c k : Nat} (h : Small ps) (f : Fin ps c k) : 0 < k := by
  have t := tn_ok h c k f.2
  have := (List.getElem?_eq_some_iff.mp t.zero).1
  have := f.1
  omega
theorem Fin.le {ps : List Pat} {c k : Nat} (h : Small ps) (f : Fin ps c k) : k ≤ 48 := by
  have t := (tn_ok h c k f.2).sts.le h
  have := f.1
  omega
/-- each row of the table: as many entries as glyphs, each a state -/
theorem Fin.rowOk {ps : List Pat} {c k : Nat} (h : Small ps) (f : Fin ps c k) : ∀ row ∈ rowsOf ps c k, row.length = c ∧ ∀ i ∈ row, 0 ≤ i ∧ i < (k : Int) := by
  intro row hrow
  obtain ⟨j, hj⟩ := List.mem_iff_getElem?.mp hrow
  have hjl : j < k := by
    have := (List.getElem?_eq_some_iff.mp hj).1
    rw [f.rowsLen] at this
    exact this
  obtain ⟨st, row', a1, a2, a3, a4⟩ := (tn_ok h c k f.2).row j hjl
  have e : row' = row := Option.some.inj (a2.symm.trans hj)
  subst e
  refine ⟨a3, fun i hi => ?_⟩
  obtain ⟨g, hg⟩ := List.mem_iff_getElem?.mp hi
  have hgl : g < c := by
    have := (List.getElem?_eq_some_iff.mp hg).1
    omega
  obtain ⟨i', b1, b2⟩ := a4 g hgl
  have e2 : (i' : Int) = i := Option.some.inj (b1.symm.trans hg)
  have hl := (List.getElem?_eq_some_iff.mp b2).1
  rw [← f.1] at hl
  omega
theorem Fin.metOk {ps : List Pat} {c k : Nat} : ∀ ms ∈ metOf ps c k, (∀ r ∈ ms, 0 ≤ r ∧ r < (ps.length : Int)) ∧ ms.Pairwise (· < ·) := by
  intro ms hms
  obtain ⟨s, _, e⟩ := List.mem_map.mp hms
  subst e
  exact ⟨metN_bd ps s _, metN_asc ps s _⟩
/-- reading: a word of glyphs keeps to the statuses -/
theorem Fin.read {ps : List Pat} {c k : Nat} (h : Small ps) (f : Fin ps c k) {w : List Int} (hw : ∀ g ∈ w, 0 ≤ g ∧ g < (c : Int)) : ∀ i, i ≤ w.length → ∃ st : Nat, st < k ∧ (tn ps c k).1[st]? = some ((w.take i).foldl (nxS ps) (st0 ps)) := by
  have t := tn_ok h c k f.2
  intro i
  induction i with
  | zero => exact fun _ => ⟨0, f.pos h, t.zero⟩
  | succ i ih =>
    intro hi
    obtain ⟨st, h1, h2⟩ := ih (by omega)
    have hil : i < w.length := by omega
    have hg := hw w[i] (List.getElem_mem hil)
    obtain ⟨s, row, a1, a2, a3, a4⟩ := t.row st h1
    obtain ⟨j, b1, b2⟩ := a4 (w[i]).toNat (by omega)
    have e : s = (w.take i).foldl (nxS ps) (st0 ps) := Option.some.inj (a1.symm.trans h2)
    have hj := (List.getElem?_eq_some_iff.mp b2).1
    rw [← f.1] at hj
    refine ⟨j, hj, ?_⟩
    rw [b2, List.take_add_one, List.getElem?_eq_getElem hil, Option.toList_some, List.foldl_append, ← e]
    show some (nxS ps s (w[i].toNat : Int)) = some (nxS ps s w[i])
    rw [Int.toNat_of_nonneg hg.1]
/-- one step of it: the next state is the row's entry -/
theorem Fin.step {ps : List Pat} {c k : Nat} (h : Small ps) (f : Fin ps c k) {st : Nat} {s : List Int} {g : Int} (hs : (tn ps c k).1[st]? = some s) (h0 : 0 ≤ g) (hg : g < (c : Int)) : ∃ (row : List Int) (j : Nat), (rowsOf ps c k)[st]? = some row ∧ row[g.toNat]? = some (j : Int) ∧ j < k ∧ (tn ps c k).1[j]? = some (nxS ps s g) := by
  have t := tn_ok h c k f.2
  have hst : st < k := by
    have := (List.getElem?_eq_some_iff.mp hs).1
    have := f.1
    omega
  obtain ⟨s', row, a1, a2, a3, a4⟩ := t.row st hst
  obtain ⟨j, b1, b2⟩ := a4 g.toNat (by omega)
  have e : s' = s := Option.some.inj (a1.symm.trans hs)
  subst e
  have hj := (List.getElem?_eq_some_iff.mp b2).1
  rw [← f.1] at hj
  rw [Int.toNat_of_nonneg h0] at b2
  exact ⟨row, j, a2, b1, hj, b2⟩
/-! ### the law's own reckoning of a status -/
def fitB (p : Pat) (w : List Int) (k : Nat) : Bool := decide (w.getD k 0 ∈ p.getD k [])
def fit (p : Pat) (w : List Int) : List Bool := (List.range (min w.length p.length)).map (fitB p w)
def lst1 (p : Pat) (w : List Int) : Int := if (fit p w).all id = true then ((fit p w).length : Int) else -1
theorem fit_len (p : Pat) (w : List Int) : (fit p w).length = min w.length p.length := by
  unfold fit
  rw [List.length_map, List.length_range]
theorem fit_snoc {p : Pat} {w : List Int} {g : Int} : fit p (w ++ [g]) = if w.length < p.length then fit p w ++ [decide (g ∈ p.getD w.length [])] else fit p w := by
  have key : ∀ n, n ≤ w.length → (List.range n).map (fitB p (w ++ [g])) = (List.range n).map (fitB p w) := fun n hn => by
    refine List.map_congr_left fun k hk => ?_
    have hkl : k < w.length := Nat.lt_of_lt_of_le (List.mem_range.mp hk) hn
    have e : (w ++ [g]).getD k 0 = w.getD k 0 := by
      rw [List.getD_eq_getElem?_getD, List.getD_eq_getElem?_getD, List.getElem?_append_left hkl]
    unfold fitB
    rw [e]
  unfold fit
  split
  · rename_i h
    have e1 : min (w ++ [g]).length p.length = w.length + 1 := by rw [List.length_append, List.length_singleton]; omega
    have e2 : min w.length p.length = w.length := by omega
    rw [e1, e2, List.range_succ, List.map_append, key _ (Nat.le_refl _)]
    congr 1
    show [fitB p (w ++ [g]) w.length] = _
    have e : (w ++ [g]).getD w.length 0 = g := by
      rw [List.getD_eq_getElem?_getD, List.getElem?_append_right (Nat.le_refl _), Nat.sub_self]
      rfl
    unfold fitB
    rw [e]
  · rename_i h
    have e1 : min (w ++ [g]).length p.length = p.length := by rw [List.length_append, List.length_singleton]; omega
    have e2 : min w.length p.length = p.length := by omega
    rw [e1, e2]
    exact key _ (by omega)
theorem lst1_snoc (p : Pat) (w : List Int) (g : Int) : nx1 p (lst1 p w) g = lst1 p (w ++ [g]) := by
  unfold lst1
  rw [fit_snoc]
  have hl := fit_len p w
  by_cases ha : (fit p w).all id = true
  · rw [if_pos ha]
    by_cases h : w.length < p.length
    · rw [if_pos h]
      have e2 : (fit p w).length = w.length := by omega
      unfold nx1
      rw [if_neg (by omega), e2, Int.toNat_natCast, List.all_append, ha, Bool.true_and]
      by_cases hg : g ∈ p.getD w.length []
      · rw [if_pos hg, if_pos (by rw [decide_eq_true hg]; rfl), List.length_append, e2, List.length_singleton]
        omega
      · rw [if_neg hg, if_neg (by rw [decide_eq_false hg]; decide)]
    · rw [if_neg h, if_pos ha]
      unfold nx1
      rw [if_pos (.inr (by omega))]
  · rw [if_neg ha]
    unfold nx1
    rw [if_pos (.inl rfl)]
    split
    · rw [List.all_append, if_neg (by rw [Bool.and_eq_true]; exact fun z => ha z.1)]
    · rfl
theorem stW_snoc (ps : List Pat) (w : List Int) (g : Int) : stW ps (w ++ [g]) = nxS ps (stW ps w) g := by
  unfold stW
  rw [List.foldl_append]
  rfl
theorem zip_map (ps : List Pat) (f : Pat → Int) (g : Int) : nxS ps (ps.map f) g = ps.map fun p => nx1 p (f p) g := by
  unfold nxS
  induction ps with
  | nil => rfl
  | cons p ps ih => rw [List.map_cons, List.zipWith_cons_cons, ih, List.map_cons]
theorem lst_eq_rev (ps : List Pat) : ∀ r : List Int, stW ps r.reverse = ps.map fun p => lst1 p r.reverse
  | [] => by
    show st0 ps = _
    unfold st0
    induction ps with
    | nil => rfl
    | cons p ps ih =>
      rw [List.length_cons, List.replicate_succ, ih, List.map_cons]
      simp [lst1, fit]
  | g :: r => by
    rw [List.reverse_cons, stW_snoc, lst_eq_rev ps r, zip_map]
    exact List.map_congr_left fun p _ => lst1_snoc p r.reverse g
theorem lst_eq (ps : List Pat) (w : List Int) : stW ps w = ps.map fun p => lst1 p w := by
  have h := lst_eq_rev ps w.reverse
  rw [List.reverse_reverse] at h
  exact h
end K26


set_option maxHeartbeats 0
namespace K26
open PySem PySem.Spec PyProof.Rows L2
/-! ### the text by places -/
def top (i : Nat) : Stmt := PySem.Challenge.pw_fleuron_k26_whole_built_automata.main.body.getD i (.Pass ⟨0, 0, 0, 0⟩)
abbrev s_Automaton_init : Stmt := inClass (top 6) 0
abbrev s_copied_side : Stmt := top 7
abbrev s_side_of : Stmt := top 8
abbrev s_patterns : Stmt := top 9
abbrev s_next_status : Stmt := top 10
abbrev s_status_after : Stmt := top 11
abbrev s_met_rules : Stmt := top 12
abbrev s_side_fits : Stmt := top 13
abbrev s_fits : Stmt := top 14
abbrev s_built_side : Stmt := top 15
abbrev s_build : Stmt := top 16
abbrev s_read : Stmt := top 17
abbrev s_met_by : Stmt := top 18
abbrev s_count_points : Stmt := top 23
abbrev s_is_proper : Stmt := top 25
abbrev s_is_coordinate : Stmt := top 34
abbrev s_hint_fault : Stmt := top 35
abbrev s_glyph_fault : Stmt := top 36
abbrev s_depths : Stmt := top 37
abbrev s_parts_fault : Stmt := top 38
abbrev s_chars_fault : Stmt := top 39
abbrev s_is_set : Stmt := top 40
abbrev s_calls_right : Stmt := top 41
abbrev s_fits_kind : Stmt := top 42
abbrev s_rule_fault : Stmt := top 43
abbrev s_lookup_fault : Stmt := top 44
abbrev s_feature_fault : Stmt := top 46
abbrev s_axis_fault : Stmt := top 47
abbrev s_region_fault : Stmt := top 48
abbrev s_Glyph_init : Stmt := inClass (top 57) 0
abbrev s_Rule_init : Stmt := inClass (top 58) 0
abbrev s_Lookup_init : Stmt := inClass (top 59) 0
abbrev s_copied_glyph : Stmt := top 60
abbrev s_copied_rule : Stmt := top 61
abbrev s_copied_lookup : Stmt := top 62
abbrev s_Font_init : Stmt := inClass (top 63) 0
abbrev s_Font_refuse : Stmt := inClass (top 63) 1
abbrev s_Font_check_glyphs : Stmt := inClass (top 63) 2
abbrev s_Font_check_lookups : Stmt := inClass (top 63) 3
abbrev s_Font_check_rest : Stmt := inClass (top 63) 4
abbrev s_law_mix : Stmt := top 65
abbrev s_law_numbers : Stmt := top 66
abbrev s_law_take : Stmt := top 67
abbrev s_law_set : Stmt := top 70
abbrev s_law_sets : Stmt := top 71
abbrev s_law_rule : Stmt := top 72
abbrev s_law_lookups : Stmt := top 73
abbrev s_law_font : Stmt := top 74
abbrev s_law_world : Stmt := top 76
abbrev s_law_patterns : Stmt := top 77
abbrev s_law_status : Stmt := top 78
abbrev s_law_met : Stmt := top 79
abbrev s_law_words : Stmt := top 81
abbrev s_law_next : Stmt := top 83
abbrev s_law_side : Stmt := top 84
abbrev s_law : Stmt := top 85
/-! ### keyword defaults by their places -/
def kwAt (f : Str × Option Str) (x : Str) (K : PySem.W.Frag) : Addr := match K.lookup (He.fAd K f) with
  | some ⟨_, _, .func fd, _⟩ => (match fd.kwdefaults with
    | .ref D => (match PySem.W.nsIn K D x with
      | some (some (.ref a)) => a
      | _ => 0)
    | _ => 0)
  | _ => 0
/-- a tuple of these at an address -/
def tupA (K : PySem.W.Frag) (a : Addr) (vs : List He.Dv) : Bool := match K.lookup a with
  | some ⟨.type c, _, .seq its _, _⟩ => decide (c = "tuple") && (decide (its.size ≤ sizeLine) && He.relAll (vs.map (He.Dv.v K)) its.toList)
  | _ => false
theorem tupA_ok {K : PySem.W.Frag} {a : Addr} {vs : List He.Dv} (h : tupA K a vs = true) (H : Hp) : SqT K H a (vs.map (He.Dv.v K)) := by
  unfold tupA at h
  cases q : K.lookup a with
  | none =>
    rw [q] at h
    cases h
  | some o =>
    obtain ⟨oc, od, dt, osl⟩ := o
    rw [q] at h
    cases oc with
    | type c =>
      cases dt with
      | seq its n =>
        obtain ⟨h1, h2⟩ := He.ba (show (decide (c = "tuple") && (decide (its.size ≤ sizeLine) && He.relAll (vs.map (He.Dv.v K)) its.toList)) = true from h)
        obtain ⟨h3, h4⟩ := He.ba h2
        exact .inr ⟨_, its, n, q, congrArg Value.type (of_decide_eq_true h1), rfl, of_decide_eq_true h3, He.relAll_ok h4⟩
      | _ => cases h
    | _ => cases dt <;> cases h
/-! ### the defs -/
def d_Automaton_init : He.DefD := ⟨("Automaton", some "__init__"), "__init__", "Automaton.__init__", defArgs s_Automaton_init, defBody s_Automaton_init, defScope s_Automaton_init, [], []⟩
def d_copied_side : He.DefD := ⟨("copied_side", none), "copied_side", "copied_side", defArgs s_copied_side, defBody s_copied_side, defScope s_copied_side, [], []⟩
def d_side_of : He.DefD := ⟨("side_of", none), "side_of", "side_of", defArgs s_side_of, defBody s_side_of, defScope s_side_of, [], []⟩
def d_patterns : He.DefD := ⟨("patterns", none), "patterns", "patterns", defArgs s_patterns, defBody s_patterns, defScope s_patterns, [], []⟩
def d_next_status : He.DefD := ⟨("next_status", none), "next_status", "next_status", defArgs s_next_status, defBody s_next_status, defScope s_next_status, [], []⟩
def d_status_after : He.DefD := ⟨("status_after", none), "status_after", "status_after", defArgs s_status_after, defBody s_status_after, defScope s_status_after, [], []⟩
def d_met_rules : He.DefD := ⟨("met_rules", none), "met_rules", "met_rules", defArgs s_met_rules, defBody s_met_rules, defScope s_met_rules, [], []⟩
def d_side_fits : He.DefD := ⟨("side_fits", none), "side_fits", "side_fits", defArgs s_side_fits, defBody s_side_fits, defScope s_side_fits, [], []⟩
def d_fits : He.DefD := ⟨("fits", none), "fits", "fits", defArgs s_fits, defBody s_fits, defScope s_fits, [], []⟩
def d_built_side : He.DefD := ⟨("built_side", none), "built_side", "built_side", defArgs s_built_side, defBody s_built_side, defScope s_built_side, [], []⟩
def d_build : He.DefD := ⟨("build", none), "build", "build", defArgs s_build, defBody s_build, defScope s_build, [], []⟩
def d_read : He.DefD := ⟨("read", none), "read", "read", defArgs s_read, defBody s_read, defScope s_read, [], []⟩
def d_met_by : He.DefD := ⟨("met_by", none), "met_by", "met_by", defArgs s_met_by, defBody s_met_by, defScope s_met_by, [], []⟩
def d_count_points : He.DefD := ⟨("count_points", none), "count_points", "count_points", defArgs s_count_points, defBody s_count_points, defScope s_count_points, [], []⟩
def d_is_proper : He.DefD := ⟨("is_proper", none), "is_proper", "is_proper", defArgs s_is_proper, defBody s_is_proper, defScope s_is_proper, [], []⟩
def d_is_coordinate : He.DefD := ⟨("is_coordinate", none), "is_coordinate", "is_coordinate", defArgs s_is_coordinate, defBody s_is_coordinate, defScope s_is_coordinate, [], []⟩
def d_hint_fault : He.DefD := ⟨("hint_fault", none), "hint_fault", "hint_fault", defArgs s_hint_fault, defBody s_hint_fault, defScope s_hint_fault, [], []⟩
def d_glyph_fault : He.DefD := ⟨("glyph_fault", none), "glyph_fault", "glyph_fault", defArgs s_glyph_fault, defBody s_glyph_fault, defScope s_glyph_fault, [], []⟩
def d_depths : He.DefD := ⟨("depths", none), "depths", "depths", defArgs s_depths, defBody s_depths, defScope s_depths, [], []⟩
def d_parts_fault : He.DefD := ⟨("parts_fault", none), "parts_fault", "parts_fault", defArgs s_parts_fault, defBody s_parts_fault, defScope s_parts_fault, [], []⟩
def d_chars_fault : He.DefD := ⟨("chars_fault", none), "chars_fault", "chars_fault", defArgs s_chars_fault, defBody s_chars_fault, defScope s_chars_fault, [], []⟩
def d_is_set : He.DefD := ⟨("is_set", none), "is_set", "is_set", defArgs s_is_set, defBody s_is_set, defScope s_is_set, [], []⟩
def d_calls_right : He.DefD := ⟨("calls_right", none), "calls_right", "calls_right", defArgs s_calls_right, defBody s_calls_right, defScope s_calls_right, [], []⟩
def d_fits_kind : He.DefD := ⟨("fits_kind", none), "fits_kind", "fits_kind", defArgs s_fits_kind, defBody s_fits_kind, defScope s_fits_kind, [], []⟩
def d_rule_fault : He.DefD := ⟨("rule_fault", none), "rule_fault", "rule_fault", defArgs s_rule_fault, defBody s_rule_fault, defScope s_rule_fault, [], []⟩
def d_lookup_fault : He.DefD := ⟨("lookup_fault", none), "lookup_fault", "lookup_fault", defArgs s_lookup_fault, defBody s_lookup_fault, defScope s_lookup_fault, [], []⟩
def d_feature_fault : He.DefD := ⟨("feature_fault", none), "feature_fault", "feature_fault", defArgs s_feature_fault, defBody s_feature_fault, defScope s_feature_fault, [], []⟩
def d_axis_fault : He.DefD := ⟨("axis_fault", none), "axis_fault", "axis_fault", defArgs s_axis_fault, defBody s_axis_fault, defScope s_axis_fault, [], []⟩
def d_region_fault : He.DefD := ⟨("region_fault", none), "region_fault", "region_fault", defArgs s_region_fault, defBody s_region_fault, defScope s_region_fault, [], []⟩
def d_Glyph_init : He.DefD := ⟨("Glyph", some "__init__"), "__init__", "Glyph.__init__", defArgs s_Glyph_init, defBody s_Glyph_init, defScope s_Glyph_init, [], [("parts", .adr (kwAt ("Glyph", some "__init__") "parts")), ("anchors", .adr (kwAt ("Glyph", some "__init__") "anchors")), ("mark", .bl false), ("deltas", .adr (kwAt ("Glyph", some "__init__") "deltas")), ("hint", .adr (kwAt ("Glyph", some "__init__") "hint"))]⟩
def d_Rule_init : He.DefD := ⟨("Rule", some "__init__"), "__init__", "Rule.__init__", defArgs s_Rule_init, defBody s_Rule_init, defScope s_Rule_init, [], [("back", .adr (kwAt ("Rule", some "__init__") "back")), ("ahead", .adr (kwAt ("Rule", some "__init__") "ahead")), ("out", .adr (kwAt ("Rule", some "__init__") "out")), ("calls", .adr (kwAt ("Rule", some "__init__") "calls")), ("extra", .int 0)]⟩
def d_Lookup_init : He.DefD := ⟨("Lookup", some "__init__"), "__init__", "Lookup.__init__", defArgs s_Lookup_init, defBody s_Lookup_init, defScope s_Lookup_init, [], [("ignore", .bl false)]⟩
def d_copied_glyph : He.DefD := ⟨("copied_glyph", none), "copied_glyph", "copied_glyph", defArgs s_copied_glyph, defBody s_copied_glyph, defScope s_copied_glyph, [], []⟩
def d_copied_rule : He.DefD := ⟨("copied_rule", none), "copied_rule", "copied_rule", defArgs s_copied_rule, defBody s_copied_rule, defScope s_copied_rule, [], []⟩
def d_copied_lookup : He.DefD := ⟨("copied_lookup", none), "copied_lookup", "copied_lookup", defArgs s_copied_lookup, defBody s_copied_lookup, defScope s_copied_lookup, [], []⟩
def d_Font_init : He.DefD := ⟨("Font", some "__init__"), "__init__", "Font.__init__", defArgs s_Font_init, defBody s_Font_init, defScope s_Font_init, [], [("chars", .adr (kwAt ("Font", some "__init__") "chars")), ("lookups", .adr (kwAt ("Font", some "__init__") "lookups")), ("features", .adr (kwAt ("Font", some "__init__") "features")), ("axes", .adr (kwAt ("Font", some "__init__") "axes")), ("regions", .adr (kwAt ("Font", some "__init__") "regions")), ("functions", .adr (kwAt ("Font", some "__init__") "functions")), ("presets", .adr (kwAt ("Font", some "__init__") "presets"))]⟩
def d_Font_refuse : He.DefD := ⟨("Font", some "refuse"), "refuse", "Font.refuse", defArgs s_Font_refuse, defBody s_Font_refuse, defScope s_Font_refuse, [], []⟩
def d_Font_check_glyphs : He.DefD := ⟨("Font", some "check_glyphs"), "check_glyphs", "Font.check_glyphs", defArgs s_Font_check_glyphs, defBody s_Font_check_glyphs, defScope s_Font_check_glyphs, [], []⟩
def d_Font_check_lookups : He.DefD := ⟨("Font", some "check_lookups"), "check_lookups", "Font.check_lookups", defArgs s_Font_check_lookups, defBody s_Font_check_lookups, defScope s_Font_check_lookups, [], []⟩
def d_Font_check_rest : He.DefD := ⟨("Font", some "check_rest"), "check_rest", "Font.check_rest", defArgs s_Font_check_rest, defBody s_Font_check_rest, defScope s_Font_check_rest, [], []⟩
def d_law_mix : He.DefD := ⟨("_law_mix", none), "_law_mix", "_law_mix", defArgs s_law_mix, defBody s_law_mix, defScope s_law_mix, [], []⟩
def d_law_numbers : He.DefD := ⟨("_law_numbers", none), "_law_numbers", "_law_numbers", defArgs s_law_numbers, defBody s_law_numbers, defScope s_law_numbers, [], []⟩
def d_law_take : He.DefD := ⟨("_law_take", none), "_law_take", "_law_take", defArgs s_law_take, defBody s_law_take, defScope s_law_take, [], []⟩
def d_law_set : He.DefD := ⟨("_law_set", none), "_law_set", "_law_set", defArgs s_law_set, defBody s_law_set, defScope s_law_set, [], []⟩
def d_law_sets : He.DefD := ⟨("_law_sets", none), "_law_sets", "_law_sets", defArgs s_law_sets, defBody s_law_sets, defScope s_law_sets, [], []⟩
def d_law_rule : He.DefD := ⟨("_law_rule", none), "_law_rule", "_law_rule", defArgs s_law_rule, defBody s_law_rule, defScope s_law_rule, [], []⟩
def d_law_lookups : He.DefD := ⟨("_law_lookups", none), "_law_lookups", "_law_lookups", defArgs s_law_lookups, defBody s_law_lookups, defScope s_law_lookups, [], []⟩
def d_law_font : He.DefD := ⟨("_law_font", none), "_law_font", "_law_font", defArgs s_law_font, defBody s_law_font, defScope s_law_font, [], []⟩
def d_law_world : He.DefD := ⟨("_law_world", none), "_law_world", "_law_world", defArgs s_law_world, defBody s_law_world, defScope s_law_world, [], []⟩
def d_law_patterns : He.DefD := ⟨("_law_patterns", none), "_law_patterns", "_law_patterns", defArgs s_law_patterns, defBody s_law_patterns, defScope s_law_patterns, [], []⟩
def d_law_status : He.DefD := ⟨("_law_status", none), "_law_status", "_law_status", defArgs s_law_status, defBody s_law_status, defScope s_law_status, [], []⟩
def d_law_met : He.DefD := ⟨("_law_met", none), "_law_met", "_law_met", defArgs s_law_met, defBody s_law_met, defScope s_law_met, [], []⟩
def d_law_words : He.DefD := ⟨("_law_words", none), "_law_words", "_law_words", defArgs s_law_words, defBody s_law_words, defScope s_law_words, [], []⟩
def d_law_next : He.DefD := ⟨("_law_next", none), "_law_next", "_law_next", defArgs s_law_next, defBody s_law_next, defScope s_law_next, [], []⟩
def d_law_side : He.DefD := ⟨("_law_side", none), "_law_side", "_law_side", defArgs s_law_side, defBody s_law_side, defScope s_law_side, [], []⟩
def d_law : He.DefD := ⟨("law", none), "law", "law", defArgs s_law, defBody s_law, defScope s_law, [], []⟩
def fn0 : List He.DefD := [d_Automaton_init, d_copied_side, d_side_of, d_patterns, d_next_status, d_status_after, d_met_rules, d_side_fits, d_fits, d_built_side, d_build, d_read, d_met_by, d_count_points, d_is_proper, d_is_coordinate, d_hint_fault, d_glyph_fault, d_depths, d_parts_fault]
def fn1 : List He.DefD := [d_chars_fault, d_is_set, d_calls_right, d_fits_kind, d_rule_fault, d_lookup_fault, d_feature_fault, d_axis_fault, d_region_fault, d_Glyph_init, d_Rule_init, d_Lookup_init, d_copied_glyph, d_copied_rule, d_copied_lookup, d_Font_init, d_Font_refuse, d_Font_check_glyphs, d_Font_check_lookups, d_Font_check_rest]
def fn2 : List He.DefD := [d_law_mix, d_law_numbers, d_law_take, d_law_set, d_law_sets, d_law_rule, d_law_lookups, d_law_font, d_law_world, d_law_patterns, d_law_status, d_law_met, d_law_words, d_law_next, d_law_side, d_law]
def fn : List He.DefD := fn0 ++ fn1 ++ fn2
def fa0 : List He.Fa := [.glo "copied_side", .glo "side_of", .glo "patterns", .glo "next_status", .glo "status_after", .glo "met_rules", .glo "side_fits", .glo "fits", .glo "built_side", .glo "build", .glo "read", .glo "met_by", .glo "count_points", .glo "is_proper", .glo "is_coordinate", .glo "hint_fault", .glo "glyph_fault", .glo "depths", .glo "parts_fault", .glo "chars_fault", .glo "is_set", .glo "calls_right", .glo "fits_kind", .glo "rule_fault", .glo "lookup_fault", .glo "feature_fault", .glo "axis_fault", .glo "region_fault", .glo "copied_glyph", .glo "copied_rule"]
def fa1 : List He.Fa := [.glo "copied_lookup", .glo "_law_mix", .glo "_law_numbers", .glo "_law_take", .glo "_law_set", .glo "_law_sets", .glo "_law_rule", .glo "_law_lookups", .glo "_law_font", .glo "_law_world", .glo "_law_patterns", .glo "_law_status", .glo "_law_met", .glo "_law_words", .glo "_law_next", .glo "_law_side", .glo "law", .glo "Automaton", .glo "Glyph", .glo "Rule", .glo "Lookup", .glo "Font", .free "len", .free "range", .free "zip", .free "enumerate", .free "int", .free "list", .free "any", .free "all"]
def fa2 : List He.Fa := [.free "sum", .free "max", .free "min", .int "MOST_STATES" 500, .int "MOST_CONTOURS" 40, .int "MOST_POINTS" 200, .int "FARTHEST" 16384, .int "MOST_ADVANCE" 16384, .int "MOST_NUMBER" 2147483647, .int "MOST_DEPTH" 4, .int "MOST_CODE" 1114111, .int "MOST_GLYPHS" 60, .int "MOST_LOOKUPS" 20, .int "MOST_FEATURES" 12, .int "MOST_AXES" 3, .int "MOST_REGIONS" 8, .int "MOST_FUNCTIONS" 12, .int "MOST_VALUES" 32, .cls "Automaton", .mkr "Automaton", .noat "Automaton" "back", .noat "Automaton" "fore", .cls "Glyph", .mkr "Glyph", .noat "Glyph" "advance", .noat "Glyph" "anchors", .noat "Glyph" "deltas", .noat "Glyph" "hint", .noat "Glyph" "mark", .noat "Glyph" "outline"]
def fa3 : List He.Fa := [.noat "Glyph" "parts", .cls "Rule", .mkr "Rule", .noat "Rule" "ahead", .noat "Rule" "back", .noat "Rule" "calls", .noat "Rule" "extra", .noat "Rule" "inside", .noat "Rule" "out", .cls "Lookup", .mkr "Lookup", .noat "Lookup" "ignore", .noat "Lookup" "kind", .noat "Lookup" "rules", .cls "Font", .mkr "Font", .noat "Font" "axes", .noat "Font" "chars", .noat "Font" "features", .noat "Font" "functions", .noat "Font" "glyphs", .noat "Font" "lookups", .noat "Font" "presets", .noat "Font" "regions", .noat "Font" "unit", .meth "Font" "refuse", .meth "Font" "check_glyphs", .meth "Font" "check_lookups", .meth "Font" "check_rest", .glo "KINDS"]
def fa : List He.Fa := fa0 ++ fa1 ++ fa2 ++ fa3
def kindsD : List He.Dv := [.str "single", .str "multiple", .str "ligature", .str "chain", .str "reverse", .str "pair", .str "cursive", .str "marks"]
def ets : List (PySem.W.Frag → Addr) := [kwAt ("Glyph", some "__init__") "parts", kwAt ("Glyph", some "__init__") "anchors", kwAt ("Glyph", some "__init__") "deltas", kwAt ("Glyph", some "__init__") "hint", kwAt ("Rule", some "__init__") "back", kwAt ("Rule", some "__init__") "ahead", kwAt ("Rule", some "__init__") "out", kwAt ("Rule", some "__init__") "calls", kwAt ("Font", some "__init__") "chars", kwAt ("Font", some "__init__") "lookups", kwAt ("Font", some "__init__") "features", kwAt ("Font", some "__init__") "axes", kwAt ("Font", some "__init__") "regions", kwAt ("Font", some "__init__") "functions", kwAt ("Font", some "__init__") "presets"]
def ex (K : PySem.W.Frag) : Bool := tupA K (He.ga K "KINDS") kindsD && ets.all fun p => tupA K (p K) []
/-! ### the hook -/
abbrev Al2 : Type := He.AlD × Bool
def obs2 (K : PySem.W.Frag) : Al2 := (He.obsD fa fn K, ex K)
def frag (g : Addr → Option Obj) : PySem.W.Frag := He.frG g (He.asD g 5)
def hk : PySem.W.Hook where
  α := Al2
  obs := fun s => obs2 (frag s.heap.get?)
  val := fun _ => (He.valD fn, true)
  says := fun _ h => ∃ K : PySem.W.Frag, K.In h ∧ He.SaysD fa fn K ∧ ex K = true
  of := fun _ _ e => ⟨_, He.frG_in, congrArg (fun z : Al2 => z.1) e, congrArg (fun z : Al2 => z.2) e⟩
  keeps := fun _ _ _ ⟨K, hK, c⟩ k => ⟨K, PySem.W.Frag.In.keeps hK k, c⟩
abbrev R : PySem.W.OpenRow := PySem.W.OpenLaw.row PySem.Challenge.rw_fleuron_k26_whole_built_automata
def ob (s : PySem.W.SharedT) : Al2 := obs2 (frag (HandSHeadRun.getT s))
theorem ob_eq (s : PySem.W.SharedT) : ob s = hk.obs s.abs := by
  have e : HandSHeadRun.getT s = s.abs.heap.get? := funext (HandSHeadRun.getT_eq s)
  show obs2 (frag (HandSHeadRun.getT s)) = obs2 (frag s.abs.heap.get?)
  rw [e]
def loose0 : List PySem.Str := ["FleuronError", "InvalidFont", "TooLarge", "MOST_STATES", "Automaton", "copied_side", "side_of", "patterns", "next_status", "status_after", "met_rules", "side_fits", "fits", "built_side", "build", "read", "met_by", "MOST_CONTOURS", "MOST_POINTS", "FARTHEST", "count_points", "is_near", "is_proper", "MOST_ADVANCE", "MOST_NUMBER", "MOST_DEPTH", "MOST_CODE", "ANCHOR_KINDS", "WORDS", "KINDS"]
def loose1 : List PySem.Str := ["is_coordinate", "hint_fault", "glyph_fault", "depths", "parts_fault", "chars_fault", "is_set", "calls_right", "fits_kind", "rule_fault", "lookup_fault", "is_feature_name", "feature_fault", "axis_fault", "region_fault", "MOST_GLYPHS", "MOST_LOOKUPS", "MOST_FEATURES", "MOST_AXES", "MOST_REGIONS", "MOST_FUNCTIONS", "MOST_VALUES", "Glyph", "Rule", "Lookup", "copied_glyph", "copied_rule", "copied_lookup", "Font", "_law_mix"]
def loose2 : List PySem.Str := ["_law_numbers", "_law_take", "_law_point", "_law_outline", "_law_set", "_law_sets", "_law_rule", "_law_lookups", "_law_font", "_law_run", "_law_world", "_law_patterns", "_law_status", "_law_met", "_law_drawn_side", "_law_words", "_law_state", "_law_next", "_law_side"]
def loose : List PySem.Str := loose0 ++ loose1 ++ loose2
theorem run (w : World) : HandSHeadRun.RunEq R (PySem.W.view R.prog [85]) hk ob 9000 loose w := by
  intro os
  kernel_rfl
end K26


set_option maxHeartbeats 4000000
namespace K26
open PySem PySem.Spec PyProof.Rows L2
/-! ### heaps with some addresses left out -/
def cut (M : List Addr) (H : Hp) : Hp := fun b => if b ∈ M then none else H b
section
variable {M : List Addr} {H H' : Hp} {p a : Addr} {o : HO}
theorem cut_same : Same (cut M H) H := fun b o e => by
  unfold cut at e
  split at e
  · cases e
  · exact e
theorem cut_get (h : cut M H a = some o) : a ∉ M ∧ H a = some o := by
  unfold cut at h
  split at h
  · cases h
  · exact ⟨by assumption, h⟩
theorem cut_of (h : H a = some o) (n : a ∉ M) : cut M H a = some o := by
  unfold cut
  rw [if_neg n]
  exact h
theorem cut_nil : cut [] H = H := by
  funext b
  unfold cut
  rw [if_neg (List.not_mem_nil)]
theorem cut_upd (h : p ∈ M) : cut M (upd H p o) = cut M H := by
  funext b
  unfold cut upd
  by_cases hb : b ∈ M
  · rw [if_pos hb, if_pos hb]
  · have n : ¬ b = p := fun e => hb (by rw [e]; exact h)
    rw [if_neg hb, if_neg hb, if_neg n]
theorem cut_upd_ne (h : p ∉ M) : cut M (upd H p o) = upd (cut M H) p o := by
  funext b
  unfold cut upd
  by_cases hb : b ∈ M
  · have n : ¬ b = p := fun e => h (by rw [← e]; exact hb)
    simp only [if_pos hb, if_neg n]
  · simp only [if_neg hb]
theorem _root_.L2.Same.cutS (M : List Addr) (s : Same H H') : Same (cut M H) (cut M H') := fun b o e => by
  obtain ⟨h1, h2⟩ := cut_get e
  exact cut_of (s _ _ h2) h1
/-- fewer are left out -/
theorem cut_mono {N : List Addr} (h : ∀ b, b ∈ M → b ∈ N) : Same (cut N H) (cut M H) := fun b o e => by
  obtain ⟨h1, h2⟩ := cut_get e
  exact cut_of h2 fun hb => h1 (h b hb)
/-- a new address is none of those left out -/
theorem _root_.L2.Same.newD {D : Addr} (h : H D = none) (s : Same H H') : Same H (cut [D] H') := fun b o e =>
  cut_of (s _ _ e) (by simp only [List.mem_singleton]; exact ne_of_none e h)
theorem same_upd (h : H p = none) : Same H (upd H p o) := fun b x e => by
  rw [upd_ne (ne_of_none e h)]
  exact e
theorem same_cut_new {D : Addr} (hD : H D = none) (s : Same H (cut [D] H')) : Same (cut M H) (cut (D :: M) H') := fun b o e => by
  obtain ⟨h1, h2⟩ := cut_get e
  obtain ⟨_, h4⟩ := cut_get (s _ _ h2)
  exact cut_of h4 (by simp only [List.mem_cons, not_or]; exact ⟨ne_of_none h2 hD, h1⟩)
/-- all but r stands as it stood -/
def SameX (r : Addr) (H H' : Hp) : Prop := ∀ b o, b ≠ r → H b = some o → H' b = some o
theorem SameX.refl (r : Addr) (H : Hp) : SameX r H H := fun _ _ _ h => h
theorem SameX.trans {r : Addr} {H1 : Hp} (s : SameX r H H') (t : SameX r H' H1) : SameX r H H1 := fun b o n e => t b o n (s b o n e)
theorem SameX.of {r : Addr} (s : Same H H') : SameX r H H' := fun b o _ e => s b o e
theorem SameX.put {r : Addr} : SameX r H (upd H r o) := fun b x n e => by
  rw [upd_ne n]
  exact e
theorem SameX.cutX {r : Addr} (hr : r ∈ M) (s : SameX r H H') : Same (cut M H) (cut M H') := fun b o e => by
  obtain ⟨h1, h2⟩ := cut_get e
  exact cut_of (s _ _ (fun z => h1 (z ▸ hr)) h2) h1
theorem SameX.there {r : Addr} (s : SameX r H H') (hr : H' r ≠ none) (h : H a ≠ none) : H' a ≠ none := by
  by_cases e : a = r
  · rw [e]; exact hr
  · cases q : H a with
    | none => exact absurd q h
    | some o =>
      rw [s _ _ e q]
      exact fun z => by cases z
theorem _root_.L2.Same.there (s : Same H H') (h : H a ≠ none) : H' a ≠ none := by
  cases q : H a with
  | none => exact absurd q h
  | some o =>
    rw [s _ _ q]
    exact fun z => by cases z
theorem some_ne {x : Option HO} (h : x = some o) : x ≠ none := fun z => by
  rw [h] at z
  cases z
end
/-! ### data in the heap -/
abbrev Rp (α : Type) := Hp → V → α → Prop
class Mono {α : Type} (R : Rp α) : Prop where
  mono : ∀ {H H' : Hp} {v : V} {x : α}, Same H H' → R H v x → R H' v x
def INT : Rp Int := fun _ v i => v = .int i
def BL : Rp Bool := fun _ v b => v = .bl b
def IL : Rp (List Int) := fun H v ns => ∃ a, v = .ref a ∧ H a = some (.lst (ns.map V.int))
def Ls {α : Type} (R : Rp α) : Rp (List α) := fun H v xs => ∃ (a : Addr) (vs : List V), v = .ref a ∧ H a = some (.lst vs) ∧ Paired (R H) vs xs
instance : Mono INT := ⟨fun _ h => h⟩
instance : Mono BL := ⟨fun _ h => h⟩
instance : Mono IL := ⟨fun s h => by
  obtain ⟨a, e, h⟩ := h
  exact ⟨a, e, s _ _ h⟩⟩
instance {α : Type} {R : Rp α} [Mono R] : Mono (Ls R) := ⟨fun s h => by
  obtain ⟨a, vs, e, h, p⟩ := h
  exact ⟨a, vs, e, s _ _ h, L2.Paired.mapP p fun _ _ q => Mono.mono s q⟩⟩
theorem pair_mono {α : Type} {R : Rp α} [Mono R] {H H' : Hp} {vs : List V} {xs : List α} (s : Same H H') (p : Paired (R H) vs xs) : Paired (R H') vs xs := L2.Paired.mapP p fun _ _ q => Mono.mono s q
theorem paired_get {α β : Type} {F : α → β → Prop} : ∀ {l : List α} {m : List β} {i : Nat} {y : β}, Paired F l m → m[i]? = some y → ∃ x, l[i]? = some x ∧ F x y
  | _, _, _, _, .nil, h => by simp at h
  | _, _, 0, y, .cons (a := x) r _, h => ⟨x, rfl, by
    have e : _ = y := Option.some.inj h
    rw [← e]
    exact r⟩
  | _, _, i + 1, y, .cons _ t, h => paired_get (i := i) t (by simpa using h)
theorem paired_getL {α β : Type} {F : α → β → Prop} : ∀ {l : List α} {m : List β} {i : Nat} {x : α}, Paired F l m → l[i]? = some x → ∃ y, m[i]? = some y ∧ F x y
  | _, _, _, _, .nil, h => by simp at h
  | _, _, 0, x, .cons (b := y) r _, h => ⟨y, rfl, by
    have e : _ = x := Option.some.inj h
    rw [← e]
    exact r⟩
  | _, _, i + 1, x, .cons _ t, h => paired_getL (i := i) t (by simpa using h)
theorem paired_take {α β : Type} {F : α → β → Prop} : ∀ {l : List α} {m : List β} (i : Nat), Paired F l m → Paired F (l.take i) (m.take i)
  | _, _, 0, _ => by simp only [List.take_zero]; exact .nil
  | _, _, i + 1, .nil => .nil
  | _, _, i + 1, .cons r t => .cons r (paired_take i t)
theorem paired_app {α β : Type} {F : α → β → Prop} : ∀ {l l' : List α} {m m' : List β}, Paired F l m → Paired F l' m' → Paired F (l ++ l') (m ++ m')
  | _, _, _, _, .nil, q => q
  | _, _, _, _, .cons r t, q => .cons r (paired_app t q)
theorem pair_int {H : Hp} : ∀ {vs : List V} {ns : List Int}, Paired (INT H) vs ns → vs = ns.map V.int
  | _, _, .nil => rfl
  | _, _, .cons r t => by
    have e : _ = V.int _ := r
    rw [e, pair_int t, List.map_cons]
theorem pair_int_of {H : Hp} : ∀ ns : List Int, Paired (INT H) (ns.map V.int) ns
  | [] => .nil
  | n :: ns => .cons rfl (pair_int_of ns)
theorem pair_bl {H : Hp} : ∀ {vs : List V} {bs : List Bool}, Paired (BL H) vs bs → vs = bs.map V.bl
  | _, _, .nil => rfl
  | _, _, .cons r t => by
    have e : _ = V.bl _ := r
    rw [e, pair_bl t, List.map_cons]
theorem Ls.int {H : Hp} {v : V} {ns : List Int} (h : Ls INT H v ns) : IL H v ns := by
  obtain ⟨a, vs, e, h, p⟩ := h
  rw [pair_int p] at h
  exact ⟨a, e, h⟩
theorem Ls.bl {H : Hp} {v : V} {bs : List Bool} (h : Ls BL H v bs) : ∃ a, v = .ref a ∧ H a = some (.lst (bs.map V.bl)) := by
  obtain ⟨a, vs, e, h, p⟩ := h
  rw [pair_bl p] at h
  exact ⟨a, e, h⟩
/-- a tuple of two -/
def Tp {α β : Type} (R : Rp α) (S : Rp β) : Rp (α × β) := fun H v p => ∃ (a : Addr) (x y : V), v = .ref a ∧ H a = some (.tup [x, y]) ∧ R H x p.1 ∧ S H y p.2
instance {α β : Type} {R : Rp α} {S : Rp β} [Mono R] [Mono S] : Mono (Tp R S) := ⟨fun s h => by
  obtain ⟨a, x, y, e, h, p, q⟩ := h
  exact ⟨a, x, y, e, s _ _ h, Mono.mono s p, Mono.mono s q⟩⟩
abbrev PatR : Rp Pat := Ls IL
abbrev PtsR : Rp (List Pat) := Ls PatR
abbrev SideR : Rp (List (List Int) × List (List Int)) := Tp (Ls IL) (Ls IL)
/-! ### data as == sees them -/
def dI (ns : List Int) : PyData := .list (ns.map PyData.int)
def dLL (xs : List (List Int)) : PyData := .list (xs.map dI)
def dSide (p : List (List Int) × List (List Int)) : PyData := .tuple [dLL p.1, dLL p.2]
section
variable {K : PySem.W.Frag} {H : Hp}
theorem dpInts : ∀ ns : List Int, DpAll K H (ns.map V.int) (ns.map PyData.int)
  | [] => .nil
  | n :: ns => .cons (.int n) (dpInts ns)
theorem IL.dp {v : V} {ns : List Int} (h : IL H v ns) : Dp K H v (dI ns) := by
  obtain ⟨a, e, h⟩ := h
  subst e
  exact .lst (SqL.of h) (dpInts ns)
theorem dpAll_of {α : Type} {R : Rp α} {e : α → PyData} (he : ∀ v x, R H v x → Dp K H v (e x)) : ∀ {vs : List V} {xs : List α}, Paired (R H) vs xs → DpAll K H vs (xs.map e)
  | _, _, .nil => .nil
  | _, _, .cons r t => .cons (he _ _ r) (dpAll_of he t)
theorem Ls.dp {v : V} {xs : List (List Int)} (h : Ls IL H v xs) : Dp K H v (dLL xs) := by
  obtain ⟨a, vs, e, h, p⟩ := h
  subst e
  exact .lst (SqL.of h) (dpAll_of (fun _ _ q => IL.dp q) p)
theorem Tp.dp {v : V} {x : List (List Int) × List (List Int)} (h : SideR H v x) : Dp K H v (dSide x) := by
  obtain ⟨a, y, z, e, h, p, q⟩ := h
  subst e
  exact .tup (SqT.of h) (.cons (Ls.dp p) (.cons (Ls.dp q) .nil))
end
theorem dI_lay : ∀ ns : List Int, PyData.canLayAll0 (ns.map PyData.int) = true
  | [] => by simp [PyData.canLayAll0]
  | n :: ns => by simp [PyData.canLayAll0, PyData.canLay0, dI_lay ns]
theorem dI_dep : ∀ ns : List Int, PyData.depthAll (ns.map PyData.int) ≤ 0
  | [] => by simp [PyData.depthAll]
  | n :: ns => by
    have h := dI_dep ns
    simp only [List.map_cons, PyData.depthAll, PyData.depth]
    omega
theorem dI_shaped (ns : List Int) : SeqAt.shaped (dI ns) = true := by
  have h := dI_dep ns
  have h2 : PyData.depth (dI ns) ≤ 64 := by
    unfold dI
    simp only [PyData.depth]
    omega
  unfold SeqAt.shaped
  rw [Bool.and_eq_true]
  refine ⟨?_, decide_eq_true h2⟩
  unfold dI
  simp only [PyData.canLay0]
  exact dI_lay ns
theorem dL_lay : ∀ xs : List (List Int), PyData.canLayAll0 (xs.map dI) = true
  | [] => by simp [PyData.canLayAll0]
  | x :: xs => by
    have h := SeqAt.canLay_of_shaped (dI_shaped x)
    simp [PyData.canLayAll0, h, dL_lay xs]
theorem dL_dep : ∀ xs : List (List Int), PyData.depthAll (xs.map dI) ≤ 1
  | [] => by simp [PyData.depthAll]
  | x :: xs => by
    have h := dL_dep xs
    have h2 : PyData.depth (dI x) ≤ 1 := by
      have h3 := dI_dep x
      unfold dI
      simp only [PyData.depth]
      omega
    simp only [List.map_cons, PyData.depthAll]
    omega
theorem dL_shaped (xs : List (List Int)) : SeqAt.shaped (dLL xs) = true := by
  have h := dL_dep xs
  have h2 : PyData.depth (dLL xs) ≤ 64 := by
    unfold dLL
    simp only [PyData.depth]
    omega
  unfold SeqAt.shaped
  rw [Bool.and_eq_true]
  refine ⟨?_, decide_eq_true h2⟩
  unfold dLL
  simp only [PyData.canLay0]
  exact dL_lay xs
theorem dS_shaped (p : List (List Int) × List (List Int)) : SeqAt.shaped (dSide p) = true := by
  have a1 := SeqAt.canLay_of_shaped (dL_shaped p.1)
  have a2 := SeqAt.canLay_of_shaped (dL_shaped p.2)
  have b1 := dL_dep p.1
  have b2 := dL_dep p.2
  have h2 : PyData.depth (dSide p) ≤ 64 := by
    unfold dSide dLL
    simp only [PyData.depth, PyData.depthAll]
    omega
  unfold SeqAt.shaped
  rw [Bool.and_eq_true]
  refine ⟨?_, decide_eq_true h2⟩
  unfold dSide
  simp only [PyData.canLay0, PyData.canLayAll0, a1, a2, Bool.and_self]
theorem eqv_ints : ∀ a b : List Int, PyData.eqvAll (a.map PyData.int) (b.map PyData.int) = decide (a = b)
  | [], [] => by simp [PyData.eqvAll]
  | [], _ :: _ => by simp [PyData.eqvAll]
  | _ :: _, [] => by simp [PyData.eqvAll]
  | x :: a, y :: b => by
    simp only [List.map_cons, PyData.eqvAll, PyData.eqv, eqv_ints a b, List.cons.injEq]
    by_cases h : x = y <;> by_cases h2 : a = b <;> simp [h, h2]
theorem eqv_dI (a b : List Int) : PyData.eqv (dI a) (dI b) = decide (a = b) := by
  unfold dI
  simp only [PyData.eqv]
  exact eqv_ints a b
theorem eqv_lists : ∀ a b : List (List Int), PyData.eqvAll (a.map dI) (b.map dI) = decide (a = b)
  | [], [] => by simp [PyData.eqvAll]
  | [], _ :: _ => by simp [PyData.eqvAll]
  | _ :: _, [] => by simp [PyData.eqvAll]
  | x :: a, y :: b => by
    simp only [List.map_cons, PyData.eqvAll, eqv_dI, eqv_lists a b, List.cons.injEq]
    by_cases h : x = y <;> by_cases h2 : a = b <;> simp [h, h2]
theorem eqv_dS (p q : List (List Int) × List (List Int)) : PyData.eqv (dSide p) (dSide q) = decide (p = q) := by
  obtain ⟨a, b⟩ := p
  obtain ⟨c, d⟩ := q
  unfold dSide dLL
  simp only [PyData.eqv, PyData.eqvAll, eqv_lists, Prod.mk.injEq]
  by_cases h : a = c <;> by_cases h2 : b = d <;> simp [h, h2]
/-! ### membership -/
theorem eqV_int (a b : Int) : eqV (.int a) (.int b) = decide (a = b) := by
  show (a == b) = _
  by_cases h : a = b <;> simp [h]
theorem inV_ints (g : Int) (ns : List Int) : inV (.int g) (ns.map V.int) = decide (g ∈ ns) := by
  unfold inV
  induction ns with
  | nil => simp
  | cons n ns ih =>
    rw [List.map_cons, List.any_cons, ih]
    by_cases h : n = g
    · subst h
      simp [eqV]
    · have h' : ¬ g = n := fun e => h e.symm
      simp [eqV, h, h']
theorem flat_ints (ns : List Int) : (ns.map V.int).all flatV = true := by
  induction ns with
  | nil => rfl
  | cons n ns ih =>
    rw [List.map_cons, List.all_cons, ih]
    rfl
/-! ### small things -/
theorem len_small {n : Nat} (h : n ≤ 100000) : n < sizeLine := by
  rw [sizeLine_eq]
  omega
theorem len_small' {n : Nat} (h : n ≤ 100000) : n ≤ sizeLine := Nat.le_of_lt (len_small h)
end K26


set_option maxHeartbeats 4000000
namespace K26
open PySem PySem.Spec PyProof.Rows L2
/-- what the top has left -/
structure Txt (K : PySem.W.Frag) (mg : Str → Option Value) : Prop where
  all : ∃ h : Heap, K.In h ∧ h.Ns mainGlobals mg ∧ He.SaysD fa fn K ∧ ex K = true
section
variable {K : PySem.W.Frag} {mg : Str → Option Value}
theorem Txt.says (T : Txt K mg) : He.SaysD fa fn K := let ⟨_, _, _, c, _⟩ := T.all; c
theorem Txt.exK (T : Txt K mg) : ex K = true := let ⟨_, _, _, _, c⟩ := T.all; c
theorem Txt.glo (T : Txt K mg) (i : Nat) {x : Str} (h : fa[i]? = some (.glo x)) : mg x = some (.ref (He.ga K x)) := let ⟨_, X, G, c, _⟩ := T.all; He.glo_ok X G (c.fact i h)
theorem Txt.free (T : Txt K mg) (i : Nat) {x : Str} (h : fa[i]? = some (.free x)) : mg x = none := let ⟨_, X, G, c, _⟩ := T.all; He.free_ok X G (c.fact i h)
theorem Txt.int (T : Txt K mg) (i : Nat) {x : Str} {n : Int} (h : fa[i]? = some (.int x n)) : ∃ t, mg x = some (.int n t) := let ⟨_, X, G, c, _⟩ := T.all; He.int_ok X G (c.fact i h)
abbrev Fn (K : PySem.W.Frag) (x q : Str) (st : Stmt) (kws : List (Str × V)) (f : Addr) (fd : FuncData) : Prop := FunD K x q (defArgs st) (defBody st) (defScope st) [] kws f fd
theorem Txt.g_copied_side (T : Txt K mg) : mg "copied_side" = some (.ref (He.ga K "copied_side")) := T.glo 0 rfl
theorem Txt.g_side_of (T : Txt K mg) : mg "side_of" = some (.ref (He.ga K "side_of")) := T.glo 1 rfl
theorem Txt.g_patterns (T : Txt K mg) : mg "patterns" = some (.ref (He.ga K "patterns")) := T.glo 2 rfl
theorem Txt.g_next_status (T : Txt K mg) : mg "next_status" = some (.ref (He.ga K "next_status")) := T.glo 3 rfl
theorem Txt.g_status_after (T : Txt K mg) : mg "status_after" = some (.ref (He.ga K "status_after")) := T.glo 4 rfl
theorem Txt.g_met_rules (T : Txt K mg) : mg "met_rules" = some (.ref (He.ga K "met_rules")) := T.glo 5 rfl
theorem Txt.g_side_fits (T : Txt K mg) : mg "side_fits" = some (.ref (He.ga K "side_fits")) := T.glo 6 rfl
theorem Txt.g_fits (T : Txt K mg) : mg "fits" = some (.ref (He.ga K "fits")) := T.glo 7 rfl
theorem Txt.g_built_side (T : Txt K mg) : mg "built_side" = some (.ref (He.ga K "built_side")) := T.glo 8 rfl
theorem Txt.g_build (T : Txt K mg) : mg "build" = some (.ref (He.ga K "build")) := T.glo 9 rfl
theorem Txt.g_read (T : Txt K mg) : mg "read" = some (.ref (He.ga K "read")) := T.glo 10 rfl
theorem Txt.g_met_by (T : Txt K mg) : mg "met_by" = some (.ref (He.ga K "met_by")) := T.glo 11 rfl
theorem Txt.g_count_points (T : Txt K mg) : mg "count_points" = some (.ref (He.ga K "count_points")) := T.glo 12 rfl
theorem Txt.g_is_proper (T : Txt K mg) : mg "is_proper" = some (.ref (He.ga K "is_proper")) := T.glo 13 rfl
theorem Txt.g_is_coordinate (T : Txt K mg) : mg "is_coordinate" = some (.ref (He.ga K "is_coordinate")) := T.glo 14 rfl
theorem Txt.g_hint_fault (T : Txt K mg) : mg "hint_fault" = some (.ref (He.ga K "hint_fault")) := T.glo 15 rfl
theorem Txt.g_glyph_fault (T : Txt K mg) : mg "glyph_fault" = some (.ref (He.ga K "glyph_fault")) := T.glo 16 rfl
theorem Txt.g_depths (T : Txt K mg) : mg "depths" = some (.ref (He.ga K "depths")) := T.glo 17 rfl
theorem Txt.g_parts_fault (T : Txt K mg) : mg "parts_fault" = some (.ref (He.ga K "parts_fault")) := T.glo 18 rfl
theorem Txt.g_chars_fault (T : Txt K mg) : mg "chars_fault" = some (.ref (He.ga K "chars_fault")) := T.glo 19 rfl
theorem Txt.g_is_set (T : Txt K mg) : mg "is_set" = some (.ref (He.ga K "is_set")) := T.glo 20 rfl
theorem Txt.g_calls_right (T : Txt K mg) : mg "calls_right" = some (.ref (He.ga K "calls_right")) := T.glo 21 rfl
theorem Txt.g_fits_kind (T : Txt K mg) : mg "fits_kind" = some (.ref (He.ga K "fits_kind")) := T.glo 22 rfl
theorem Txt.g_rule_fault (T : Txt K mg) : mg "rule_fault" = some (.ref (He.ga K "rule_fault")) := T.glo 23 rfl
theorem Txt.g_lookup_fault (T : Txt K mg) : mg "lookup_fault" = some (.ref (He.ga K "lookup_fault")) := T.glo 24 rfl
theorem Txt.g_feature_fault (T : Txt K mg) : mg "feature_fault" = some (.ref (He.ga K "feature_fault")) := T.glo 25 rfl
theorem Txt.g_axis_fault (T : Txt K mg) : mg "axis_fault" = some (.ref (He.ga K "axis_fault")) := T.glo 26 rfl
theorem Txt.g_region_fault (T : Txt K mg) : mg "region_fault" = some (.ref (He.ga K "region_fault")) := T.glo 27 rfl
theorem Txt.g_copied_glyph (T : Txt K mg) : mg "copied_glyph" = some (.ref (He.ga K "copied_glyph")) := T.glo 28 rfl
theorem Txt.g_copied_rule (T : Txt K mg) : mg "copied_rule" = some (.ref (He.ga K "copied_rule")) := T.glo 29 rfl
theorem Txt.g_copied_lookup (T : Txt K mg) : mg "copied_lookup" = some (.ref (He.ga K "copied_lookup")) := T.glo 30 rfl
theorem Txt.g_law_mix (T : Txt K mg) : mg "_law_mix" = some (.ref (He.ga K "_law_mix")) := T.glo 31 rfl
theorem Txt.g_law_numbers (T : Txt K mg) : mg "_law_numbers" = some (.ref (He.ga K "_law_numbers")) := T.glo 32 rfl
theorem Txt.g_law_take (T : Txt K mg) : mg "_law_take" = some (.ref (He.ga K "_law_take")) := T.glo 33 rfl
theorem Txt.g_law_set (T : Txt K mg) : mg "_law_set" = some (.ref (He.ga K "_law_set")) := T.glo 34 rfl
theorem Txt.g_law_sets (T : Txt K mg) : mg "_law_sets" = some (.ref (He.ga K "_law_sets")) := T.glo 35 rfl
theorem Txt.g_law_rule (T : Txt K mg) : mg "_law_rule" = some (.ref (He.ga K "_law_rule")) := T.glo 36 rfl
theorem Txt.g_law_lookups (T : Txt K mg) : mg "_law_lookups" = some (.ref (He.ga K "_law_lookups")) := T.glo 37 rfl
theorem Txt.g_law_font (T : Txt K mg) : mg "_law_font" = some (.ref (He.ga K "_law_font")) := T.glo 38 rfl
theorem Txt.g_law_world (T : Txt K mg) : mg "_law_world" = some (.ref (He.ga K "_law_world")) := T.glo 39 rfl
theorem Txt.g_law_patterns (T : Txt K mg) : mg "_law_patterns" = some (.ref (He.ga K "_law_patterns")) := T.glo 40 rfl
theorem Txt.g_law_status (T : Txt K mg) : mg "_law_status" = some (.ref (He.ga K "_law_status")) := T.glo 41 rfl
theorem Txt.g_law_met (T : Txt K mg) : mg "_law_met" = some (.ref (He.ga K "_law_met")) := T.glo 42 rfl
theorem Txt.g_law_words (T : Txt K mg) : mg "_law_words" = some (.ref (He.ga K "_law_words")) := T.glo 43 rfl
theorem Txt.g_law_next (T : Txt K mg) : mg "_law_next" = some (.ref (He.ga K "_law_next")) := T.glo 44 rfl
theorem Txt.g_law_side (T : Txt K mg) : mg "_law_side" = some (.ref (He.ga K "_law_side")) := T.glo 45 rfl
theorem Txt.g_law (T : Txt K mg) : mg "law" = some (.ref (He.ga K "law")) := T.glo 46 rfl
theorem Txt.g_Automaton (T : Txt K mg) : mg "Automaton" = some (.ref (He.ga K "Automaton")) := T.glo 47 rfl
theorem Txt.g_Glyph (T : Txt K mg) : mg "Glyph" = some (.ref (He.ga K "Glyph")) := T.glo 48 rfl
theorem Txt.g_Rule (T : Txt K mg) : mg "Rule" = some (.ref (He.ga K "Rule")) := T.glo 49 rfl
theorem Txt.g_Lookup (T : Txt K mg) : mg "Lookup" = some (.ref (He.ga K "Lookup")) := T.glo 50 rfl
theorem Txt.g_Font (T : Txt K mg) : mg "Font" = some (.ref (He.ga K "Font")) := T.glo 51 rfl
theorem Txt.b_len (T : Txt K mg) : mg "len" = none := T.free 52 rfl
theorem Txt.b_range (T : Txt K mg) : mg "range" = none := T.free 53 rfl
theorem Txt.b_zip (T : Txt K mg) : mg "zip" = none := T.free 54 rfl
theorem Txt.b_enumerate (T : Txt K mg) : mg "enumerate" = none := T.free 55 rfl
theorem Txt.b_int (T : Txt K mg) : mg "int" = none := T.free 56 rfl
theorem Txt.b_list (T : Txt K mg) : mg "list" = none := T.free 57 rfl
theorem Txt.b_any (T : Txt K mg) : mg "any" = none := T.free 58 rfl
theorem Txt.b_all (T : Txt K mg) : mg "all" = none := T.free 59 rfl
theorem Txt.b_sum (T : Txt K mg) : mg "sum" = none := T.free 60 rfl
theorem Txt.b_max (T : Txt K mg) : mg "max" = none := T.free 61 rfl
theorem Txt.b_min (T : Txt K mg) : mg "min" = none := T.free 62 rfl
theorem Txt.c_MOST_STATES (T : Txt K mg) : ∃ t, mg "MOST_STATES" = some (.int 500 t) := T.int 63 rfl
theorem Txt.c_MOST_CONTOURS (T : Txt K mg) : ∃ t, mg "MOST_CONTOURS" = some (.int 40 t) := T.int 64 rfl
theorem Txt.c_MOST_POINTS (T : Txt K mg) : ∃ t, mg "MOST_POINTS" = some (.int 200 t) := T.int 65 rfl
theorem Txt.c_FARTHEST (T : Txt K mg) : ∃ t, mg "FARTHEST" = some (.int 16384 t) := T.int 66 rfl
theorem Txt.c_MOST_ADVANCE (T : Txt K mg) : ∃ t, mg "MOST_ADVANCE" = some (.int 16384 t) := T.int 67 rfl
theorem Txt.c_MOST_NUMBER (T : Txt K mg) : ∃ t, mg "MOST_NUMBER" = some (.int 2147483647 t) := T.int 68 rfl
theorem Txt.c_MOST_DEPTH (T : Txt K mg) : ∃ t, mg "MOST_DEPTH" = some (.int 4 t) := T.int 69 rfl
theorem Txt.c_MOST_CODE (T : Txt K mg) : ∃ t, mg "MOST_CODE" = some (.int 1114111 t) := T.int 70 rfl
theorem Txt.c_MOST_GLYPHS (T : Txt K mg) : ∃ t, mg "MOST_GLYPHS" = some (.int 60 t) := T.int 71 rfl
theorem Txt.c_MOST_LOOKUPS (T : Txt K mg) : ∃ t, mg "MOST_LOOKUPS" = some (.int 20 t) := T.int 72 rfl
theorem Txt.c_MOST_FEATURES (T : Txt K mg) : ∃ t, mg "MOST_FEATURES" = some (.int 12 t) := T.int 73 rfl
theorem Txt.c_MOST_AXES (T : Txt K mg) : ∃ t, mg "MOST_AXES" = some (.int 3 t) := T.int 74 rfl
theorem Txt.c_MOST_REGIONS (T : Txt K mg) : ∃ t, mg "MOST_REGIONS" = some (.int 8 t) := T.int 75 rfl
theorem Txt.c_MOST_FUNCTIONS (T : Txt K mg) : ∃ t, mg "MOST_FUNCTIONS" = some (.int 12 t) := T.int 76 rfl
theorem Txt.c_MOST_VALUES (T : Txt K mg) : ∃ t, mg "MOST_VALUES" = some (.int 32 t) := T.int 77 rfl
theorem Txt.cls_Automaton (T : Txt K mg) : Cls K (He.ga K "Automaton") := He.cls_ok (T.says.fact 78 (f := .cls "Automaton") rfl)
theorem Txt.mk_Automaton (T : Txt K mg) : Mk K (He.ga K "Automaton") (He.ma K (He.ga K "Automaton") "__init__") := He.mkr_ok (T.says.fact 79 (f := .mkr "Automaton") rfl)
theorem Txt.no_Automaton_back (T : Txt K mg) : NoAttr K (He.ga K "Automaton") "back" := He.noat_ok (T.says.fact 80 (f := .noat "Automaton" "back") rfl)
theorem Txt.no_Automaton_fore (T : Txt K mg) : NoAttr K (He.ga K "Automaton") "fore" := He.noat_ok (T.says.fact 81 (f := .noat "Automaton" "fore") rfl)
theorem Txt.cls_Glyph (T : Txt K mg) : Cls K (He.ga K "Glyph") := He.cls_ok (T.says.fact 82 (f := .cls "Glyph") rfl)
theorem Txt.mk_Glyph (T : Txt K mg) : Mk K (He.ga K "Glyph") (He.ma K (He.ga K "Glyph") "__init__") := He.mkr_ok (T.says.fact 83 (f := .mkr "Glyph") rfl)
theorem Txt.no_Glyph_advance (T : Txt K mg) : NoAttr K (He.ga K "Glyph") "advance" := He.noat_ok (T.says.fact 84 (f := .noat "Glyph" "advance") rfl)
theorem Txt.no_Glyph_anchors (T : Txt K mg) : NoAttr K (He.ga K "Glyph") "anchors" := He.noat_ok (T.says.fact 85 (f := .noat "Glyph" "anchors") rfl)
theorem Txt.no_Glyph_deltas (T : Txt K mg) : NoAttr K (He.ga K "Glyph") "deltas" := He.noat_ok (T.says.fact 86 (f := .noat "Glyph" "deltas") rfl)
theorem Txt.no_Glyph_hint (T : Txt K mg) : NoAttr K (He.ga K "Glyph") "hint" := He.noat_ok (T.says.fact 87 (f := .noat "Glyph" "hint") rfl)
theorem Txt.no_Glyph_mark (T : Txt K mg) : NoAttr K (He.ga K "Glyph") "mark" := He.noat_ok (T.says.fact 88 (f := .noat "Glyph" "mark") rfl)
theorem Txt.no_Glyph_outline (T : Txt K mg) : NoAttr K (He.ga K "Glyph") "outline" := He.noat_ok (T.says.fact 89 (f := .noat "Glyph" "outline") rfl)
theorem Txt.no_Glyph_parts (T : Txt K mg) : NoAttr K (He.ga K "Glyph") "parts" := He.noat_ok (T.says.fact 90 (f := .noat "Glyph" "parts") rfl)
theorem Txt.cls_Rule (T : Txt K mg) : Cls K (He.ga K "Rule") := He.cls_ok (T.says.fact 91 (f := .cls "Rule") rfl)
theorem Txt.mk_Rule (T : Txt K mg) : Mk K (He.ga K "Rule") (He.ma K (He.ga K "Rule") "__init__") := He.mkr_ok (T.says.fact 92 (f := .mkr "Rule") rfl)
theorem Txt.no_Rule_ahead (T : Txt K mg) : NoAttr K (He.ga K "Rule") "ahead" := He.noat_ok (T.says.fact 93 (f := .noat "Rule" "ahead") rfl)
theorem Txt.no_Rule_back (T : Txt K mg) : NoAttr K (He.ga K "Rule") "back" := He.noat_ok (T.says.fact 94 (f := .noat "Rule" "back") rfl)
theorem Txt.no_Rule_calls (T : Txt K mg) : NoAttr K (He.ga K "Rule") "calls" := He.noat_ok (T.says.fact 95 (f := .noat "Rule" "calls") rfl)
theorem Txt.no_Rule_extra (T : Txt K mg) : NoAttr K (He.ga K "Rule") "extra" := He.noat_ok (T.says.fact 96 (f := .noat "Rule" "extra") rfl)
theorem Txt.no_Rule_inside (T : Txt K mg) : NoAttr K (He.ga K "Rule") "inside" := He.noat_ok (T.says.fact 97 (f := .noat "Rule" "inside") rfl)
theorem Txt.no_Rule_out (T : Txt K mg) : NoAttr K (He.ga K "Rule") "out" := He.noat_ok (T.says.fact 98 (f := .noat "Rule" "out") rfl)
theorem Txt.cls_Lookup (T : Txt K mg) : Cls K (He.ga K "Lookup") := He.cls_ok (T.says.fact 99 (f := .cls "Lookup") rfl)
theorem Txt.mk_Lookup (T : Txt K mg) : Mk K (He.ga K "Lookup") (He.ma K (He.ga K "Lookup") "__init__") := He.mkr_ok (T.says.fact 100 (f := .mkr "Lookup") rfl)
theorem Txt.no_Lookup_ignore (T : Txt K mg) : NoAttr K (He.ga K "Lookup") "ignore" := He.noat_ok (T.says.fact 101 (f := .noat "Lookup" "ignore") rfl)
theorem Txt.no_Lookup_kind (T : Txt K mg) : NoAttr K (He.ga K "Lookup") "kind" := He.noat_ok (T.says.fact 102 (f := .noat "Lookup" "kind") rfl)
theorem Txt.no_Lookup_rules (T : Txt K mg) : NoAttr K (He.ga K "Lookup") "rules" := He.noat_ok (T.says.fact 103 (f := .noat "Lookup" "rules") rfl)
theorem Txt.cls_Font (T : Txt K mg) : Cls K (He.ga K "Font") := He.cls_ok (T.says.fact 104 (f := .cls "Font") rfl)
theorem Txt.mk_Font (T : Txt K mg) : Mk K (He.ga K "Font") (He.ma K (He.ga K "Font") "__init__") := He.mkr_ok (T.says.fact 105 (f := .mkr "Font") rfl)
theorem Txt.no_Font_axes (T : Txt K mg) : NoAttr K (He.ga K "Font") "axes" := He.noat_ok (T.says.fact 106 (f := .noat "Font" "axes") rfl)
theorem Txt.no_Font_chars (T : Txt K mg) : NoAttr K (He.ga K "Font") "chars" := He.noat_ok (T.says.fact 107 (f := .noat "Font" "chars") rfl)
theorem Txt.no_Font_features (T : Txt K mg) : NoAttr K (He.ga K "Font") "features" := He.noat_ok (T.says.fact 108 (f := .noat "Font" "features") rfl)
theorem Txt.no_Font_functions (T : Txt K mg) : NoAttr K (He.ga K "Font") "functions" := He.noat_ok (T.says.fact 109 (f := .noat "Font" "functions") rfl)
theorem Txt.no_Font_glyphs (T : Txt K mg) : NoAttr K (He.ga K "Font") "glyphs" := He.noat_ok (T.says.fact 110 (f := .noat "Font" "glyphs") rfl)
theorem Txt.no_Font_lookups (T : Txt K mg) : NoAttr K (He.ga K "Font") "lookups" := He.noat_ok (T.says.fact 111 (f := .noat "Font" "lookups") rfl)
theorem Txt.no_Font_presets (T : Txt K mg) : NoAttr K (He.ga K "Font") "presets" := He.noat_ok (T.says.fact 112 (f := .noat "Font" "presets") rfl)
theorem Txt.no_Font_regions (T : Txt K mg) : NoAttr K (He.ga K "Font") "regions" := He.noat_ok (T.says.fact 113 (f := .noat "Font" "regions") rfl)
theorem Txt.no_Font_unit (T : Txt K mg) : NoAttr K (He.ga K "Font") "unit" := He.noat_ok (T.says.fact 114 (f := .noat "Font" "unit") rfl)
theorem Txt.me_Font_refuse (T : Txt K mg) : Meth K (He.ga K "Font") "refuse" (He.ma K (He.ga K "Font") "refuse") := He.meth_ok (T.says.fact 115 (f := .meth "Font" "refuse") rfl)
theorem Txt.me_Font_check_glyphs (T : Txt K mg) : Meth K (He.ga K "Font") "check_glyphs" (He.ma K (He.ga K "Font") "check_glyphs") := He.meth_ok (T.says.fact 116 (f := .meth "Font" "check_glyphs") rfl)
theorem Txt.me_Font_check_lookups (T : Txt K mg) : Meth K (He.ga K "Font") "check_lookups" (He.ma K (He.ga K "Font") "check_lookups") := He.meth_ok (T.says.fact 117 (f := .meth "Font" "check_lookups") rfl)
theorem Txt.me_Font_check_rest (T : Txt K mg) : Meth K (He.ga K "Font") "check_rest" (He.ma K (He.ga K "Font") "check_rest") := He.meth_ok (T.says.fact 118 (f := .meth "Font" "check_rest") rfl)
theorem Txt.g_KINDS (T : Txt K mg) : mg "KINDS" = some (.ref (He.ga K "KINDS")) := T.glo 119 rfl
theorem Txt.f_Automaton_init (T : Txt K mg) : ∃ fd, Fn K "__init__" "Automaton.__init__" s_Automaton_init [] (He.ma K (He.ga K "Automaton") "__init__") fd := T.says.def_ 0 (d := d_Automaton_init) rfl
theorem Txt.k_Automaton_init (T : Txt K mg) : PySem.W.keepIn K (.ref (He.ma K (He.ga K "Automaton") "__init__")) = true := let ⟨_, F⟩ := T.f_Automaton_init; F.kp
theorem Txt.f_copied_side (T : Txt K mg) : ∃ fd, Fn K "copied_side" "copied_side" s_copied_side [] (He.ga K "copied_side") fd := T.says.def_ 1 (d := d_copied_side) rfl
theorem Txt.k_copied_side (T : Txt K mg) : PySem.W.keepIn K (.ref (He.ga K "copied_side")) = true := let ⟨_, F⟩ := T.f_copied_side; F.kp
theorem Txt.f_side_of (T : Txt K mg) : ∃ fd, Fn K "side_of" "side_of" s_side_of [] (He.ga K "side_of") fd := T.says.def_ 2 (d := d_side_of) rfl
theorem Txt.k_side_of (T : Txt K mg) : PySem.W.keepIn K (.ref (He.ga K "side_of")) = true := let ⟨_, F⟩ := T.f_side_of; F.kp
theorem Txt.f_patterns (T : Txt K mg) : ∃ fd, Fn K "patterns" "patterns" s_patterns [] (He.ga K "patterns") fd := T.says.def_ 3 (d := d_patterns) rfl
theorem Txt.k_patterns (T : Txt K mg) : PySem.W.keepIn K (.ref (He.ga K "patterns")) = true := let ⟨_, F⟩ := T.f_patterns; F.kp
theorem Txt.f_next_status (T : Txt K mg) : ∃ fd, Fn K "next_status" "next_status" s_next_status [] (He.ga K "next_status") fd := T.says.def_ 4 (d := d_next_status) rfl
theorem Txt.k_next_status (T : Txt K mg) : PySem.W.keepIn K (.ref (He.ga K "next_status")) = true := let ⟨_, F⟩ := T.f_next_status; F.kp
theorem Txt.f_status_after (T : Txt K mg) : ∃ fd, Fn K "status_after" "status_after" s_status_after [] (He.ga K "status_after") fd := T.says.def_ 5 (d := d_status_after) rfl
theorem Txt.k_status_after (T : Txt K mg) : PySem.W.keepIn K (.ref (He.ga K "status_after")) = true := let ⟨_, F⟩ := T.f_status_after; F.kp
theorem Txt.f_met_rules (T : Txt K mg) : ∃ fd, Fn K "met_rules" "met_rules" s_met_rules [] (He.ga K "met_rules") fd := T.says.def_ 6 (d := d_met_rules) rfl
theorem Txt.k_met_rules (T : Txt K mg) : PySem.W.keepIn K (.ref (He.ga K "met_rules")) = true := let ⟨_, F⟩ := T.f_met_rules; F.kp
theorem Txt.f_side_fits (T : Txt K mg) : ∃ fd, Fn K "side_fits" "side_fits" s_side_fits [] (He.ga K "side_fits") fd := T.says.def_ 7 (d := d_side_fits) rfl
theorem Txt.k_side_fits (T : Txt K mg) : PySem.W.keepIn K (.ref (He.ga K "side_fits")) = true := let ⟨_, F⟩ := T.f_side_fits; F.kp
theorem Txt.f_fits (T : Txt K mg) : ∃ fd, Fn K "fits" "fits" s_fits [] (He.ga K "fits") fd := T.says.def_ 8 (d := d_fits) rfl
theorem Txt.k_fits (T : Txt K mg) : PySem.W.keepIn K (.ref (He.ga K "fits")) = true := let ⟨_, F⟩ := T.f_fits; F.kp
theorem Txt.f_built_side (T : Txt K mg) : ∃ fd, Fn K "built_side" "built_side" s_built_side [] (He.ga K "built_side") fd := T.says.def_ 9 (d := d_built_side) rfl
theorem Txt.k_built_side (T : Txt K mg) : PySem.W.keepIn K (.ref (He.ga K "built_side")) = true := let ⟨_, F⟩ := T.f_built_side; F.kp
theorem Txt.f_build (T : Txt K mg) : ∃ fd, Fn K "build" "build" s_build [] (He.ga K "build") fd := T.says.def_ 10 (d := d_build) rfl
theorem Txt.k_build (T : Txt K mg) : PySem.W.keepIn K (.ref (He.ga K "build")) = true := let ⟨_, F⟩ := T.f_build; F.kp
theorem Txt.f_read (T : Txt K mg) : ∃ fd, Fn K "read" "read" s_read [] (He.ga K "read") fd := T.says.def_ 11 (d := d_read) rfl
theorem Txt.k_read (T : Txt K mg) : PySem.W.keepIn K (.ref (He.ga K "read")) = true := let ⟨_, F⟩ := T.f_read; F.kp
theorem Txt.f_met_by (T : Txt K mg) : ∃ fd, Fn K "met_by" "met_by" s_met_by [] (He.ga K "met_by") fd := T.says.def_ 12 (d := d_met_by) rfl
theorem Txt.k_met_by (T : Txt K mg) : PySem.W.keepIn K (.ref (He.ga K "met_by")) = true := let ⟨_, F⟩ := T.f_met_by; F.kp
theorem Txt.f_count_points (T : Txt K mg) : ∃ fd, Fn K "count_points" "count_points" s_count_points [] (He.ga K "count_points") fd := T.says.def_ 13 (d := d_count_points) rfl
theorem Txt.k_count_points (T : Txt K mg) : PySem.W.keepIn K (.ref (He.ga K "count_points")) = true := let ⟨_, F⟩ := T.f_count_points; F.kp
theorem Txt.f_is_proper (T : Txt K mg) : ∃ fd, Fn K "is_proper" "is_proper" s_is_proper [] (He.ga K "is_proper") fd := T.says.def_ 14 (d := d_is_proper) rfl
theorem Txt.k_is_proper (T : Txt K mg) : PySem.W.keepIn K (.ref (He.ga K "is_proper")) = true := let ⟨_, F⟩ := T.f_is_proper; F.kp
theorem Txt.f_is_coordinate (T : Txt K mg) : ∃ fd, Fn K "is_coordinate" "is_coordinate" s_is_coordinate [] (He.ga K "is_coordinate") fd := T.says.def_ 15 (d := d_is_coordinate) rfl
theorem Txt.k_is_coordinate (T : Txt K mg) : PySem.W.keepIn K (.ref (He.ga K "is_coordinate")) = true := let ⟨_, F⟩ := T.f_is_coordinate; F.kp
theorem Txt.f_hint_fault (T : Txt K mg) : ∃ fd, Fn K "hint_fault" "hint_fault" s_hint_fault [] (He.ga K "hint_fault") fd := T.says.def_ 16 (d := d_hint_fault) rfl
theorem Txt.k_hint_fault (T : Txt K mg) : PySem.W.keepIn K (.ref (He.ga K "hint_fault")) = true := let ⟨_, F⟩ := T.f_hint_fault; F.kp
theorem Txt.f_glyph_fault (T : Txt K mg) : ∃ fd, Fn K "glyph_fault" "glyph_fault" s_glyph_fault [] (He.ga K "glyph_fault") fd := T.says.def_ 17 (d := d_glyph_fault) rfl
theorem Txt.k_glyph_fault (T : Txt K mg) : PySem.W.keepIn K (.ref (He.ga K "glyph_fault")) = true := let ⟨_, F⟩ := T.f_glyph_fault; F.kp
theorem Txt.f_depths (T : Txt K mg) : ∃ fd, Fn K "depths" "depths" s_depths [] (He.ga K "depths") fd := T.says.def_ 18 (d := d_depths) rfl
theorem Txt.k_depths (T : Txt K mg) : PySem.W.keepIn K (.ref (He.ga K "depths")) = true := let ⟨_, F⟩ := T.f_depths; F.kp
theorem Txt.f_parts_fault (T : Txt K mg) : ∃ fd, Fn K "parts_fault" "parts_fault" s_parts_fault [] (He.ga K "parts_fault") fd := T.says.def_ 19 (d := d_parts_fault) rfl
theorem Txt.k_parts_fault (T : Txt K mg) : PySem.W.keepIn K (.ref (He.ga K "parts_fault")) = true := let ⟨_, F⟩ := T.f_parts_fault; F.kp
theorem Txt.f_chars_fault (T : Txt K mg) : ∃ fd, Fn K "chars_fault" "chars_fault" s_chars_fault [] (He.ga K "chars_fault") fd := T.says.def_ 20 (d := d_chars_fault) rfl
theorem Txt.k_chars_fault (T : Txt K mg) : PySem.W.keepIn K (.ref (He.ga K "chars_fault")) = true := let ⟨_, F⟩ := T.f_chars_fault; F.kp
theorem Txt.f_is_set (T : Txt K mg) : ∃ fd, Fn K "is_set" "is_set" s_is_set [] (He.ga K "is_set") fd := T.says.def_ 21 (d := d_is_set) rfl
theorem Txt.k_is_set (T : Txt K mg) : PySem.W.keepIn K (.ref (He.ga K "is_set")) = true := let ⟨_, F⟩ := T.f_is_set; F.kp
theorem Txt.f_calls_right (T : Txt K mg) : ∃ fd, Fn K "calls_right" "calls_right" s_calls_right [] (He.ga K "calls_right") fd := T.says.def_ 22 (d := d_calls_right) rfl
theorem Txt.k_calls_right (T : Txt K mg) : PySem.W.keepIn K (.ref (He.ga K "calls_right")) = true := let ⟨_, F⟩ := T.f_calls_right; F.kp
theorem Txt.f_fits_kind (T : Txt K mg) : ∃ fd, Fn K "fits_kind" "fits_kind" s_fits_kind [] (He.ga K "fits_kind") fd := T.says.def_ 23 (d := d_fits_kind) rfl
theorem Txt.k_fits_kind (T : Txt K mg) : PySem.W.keepIn K (.ref (He.ga K "fits_kind")) = true := let ⟨_, F⟩ := T.f_fits_kind; F.kp
theorem Txt.f_rule_fault (T : Txt K mg) : ∃ fd, Fn K "rule_fault" "rule_fault" s_rule_fault [] (He.ga K "rule_fault") fd := T.says.def_ 24 (d := d_rule_fault) rfl
theorem Txt.k_rule_fault (T : Txt K mg) : PySem.W.keepIn K (.ref (He.ga K "rule_fault")) = true := let ⟨_, F⟩ := T.f_rule_fault; F.kp
theorem Txt.f_lookup_fault (T : Txt K mg) : ∃ fd, Fn K "lookup_fault" "lookup_fault" s_lookup_fault [] (He.ga K "lookup_fault") fd := T.says.def_ 25 (d := d_lookup_fault) rfl
theorem Txt.k_lookup_fault (T : Txt K mg) : PySem.W.keepIn K (.ref (He.ga K "lookup_fault")) = true := let ⟨_, F⟩ := T.f_lookup_fault; F.kp
theorem Txt.f_feature_fault (T : Txt K mg) : ∃ fd, Fn K "feature_fault" "feature_fault" s_feature_fault [] (He.ga K "feature_fault") fd := T.says.def_ 26 (d := d_feature_fault) rfl
theorem Txt.k_feature_fault (T : Txt K mg) : PySem.W.keepIn K (.ref (He.ga K "feature_fault")) = true := let ⟨_, F⟩ := T.f_feature_fault; F.kp
theorem Txt.f_axis_fault (T : Txt K mg) : ∃ fd, Fn K "axis_fault" "axis_fault" s_axis_fault [] (He.ga K "axis_fault") fd := T.says.def_ 27 (d := d_axis_fault) rfl
theorem Txt.k_axis_fault (T : Txt K mg) : PySem.W.keepIn K (.ref (He.ga K "axis_fault")) = true := let ⟨_, F⟩ := T.f_axis_fault; F.kp
theorem Txt.f_region_fault (T : Txt K mg) : ∃ fd, Fn K "region_fault" "region_fault" s_region_fault [] (He.ga K "region_fault") fd := T.says.def_ 28 (d := d_region_fault) rfl
theorem Txt.k_region_fault (T : Txt K mg) : PySem.W.keepIn K (.ref (He.ga K "region_fault")) = true := let ⟨_, F⟩ := T.f_region_fault; F.kp
theorem Txt.f_Glyph_init (T : Txt K mg) : ∃ fd, Fn K "__init__" "Glyph.__init__" s_Glyph_init [("parts", .ref (kwAt ("Glyph", some "__init__") "parts" K)), ("anchors", .ref (kwAt ("Glyph", some "__init__") "anchors" K)), ("mark", .bl false), ("deltas", .ref (kwAt ("Glyph", some "__init__") "deltas" K)), ("hint", .ref (kwAt ("Glyph", some "__init__") "hint" K))] (He.ma K (He.ga K "Glyph") "__init__") fd := T.says.def_ 29 (d := d_Glyph_init) rfl
theorem Txt.k_Glyph_init (T : Txt K mg) : PySem.W.keepIn K (.ref (He.ma K (He.ga K "Glyph") "__init__")) = true := let ⟨_, F⟩ := T.f_Glyph_init; F.kp
theorem Txt.f_Rule_init (T : Txt K mg) : ∃ fd, Fn K "__init__" "Rule.__init__" s_Rule_init [("back", .ref (kwAt ("Rule", some "__init__") "back" K)), ("ahead", .ref (kwAt ("Rule", some "__init__") "ahead" K)), ("out", .ref (kwAt ("Rule", some "__init__") "out" K)), ("calls", .ref (kwAt ("Rule", some "__init__") "calls" K)), ("extra", .int 0)] (He.ma K (He.ga K "Rule") "__init__") fd := T.says.def_ 30 (d := d_Rule_init) rfl
theorem Txt.k_Rule_init (T : Txt K mg) : PySem.W.keepIn K (.ref (He.ma K (He.ga K "Rule") "__init__")) = true := let ⟨_, F⟩ := T.f_Rule_init; F.kp
theorem Txt.f_Lookup_init (T : Txt K mg) : ∃ fd, Fn K "__init__" "Lookup.__init__" s_Lookup_init [("ignore", .bl false)] (He.ma K (He.ga K "Lookup") "__init__") fd := T.says.def_ 31 (d := d_Lookup_init) rfl
theorem Txt.k_Lookup_init (T : Txt K mg) : PySem.W.keepIn K (.ref (He.ma K (He.ga K "Lookup") "__init__")) = true := let ⟨_, F⟩ := T.f_Lookup_init; F.kp
theorem Txt.f_copied_glyph (T : Txt K mg) : ∃ fd, Fn K "copied_glyph" "copied_glyph" s_copied_glyph [] (He.ga K "copied_glyph") fd := T.says.def_ 32 (d := d_copied_glyph) rfl
theorem Txt.k_copied_glyph (T : Txt K mg) : PySem.W.keepIn K (.ref (He.ga K "copied_glyph")) = true := let ⟨_, F⟩ := T.f_copied_glyph; F.kp
theorem Txt.f_copied_rule (T : Txt K mg) : ∃ fd, Fn K "copied_rule" "copied_rule" s_copied_rule [] (He.ga K "copied_rule") fd := T.says.def_ 33 (d := d_copied_rule) rfl
theorem Txt.k_copied_rule (T : Txt K mg) : PySem.W.keepIn K (.ref (He.ga K "copied_rule")) = true := let ⟨_, F⟩ := T.f_copied_rule; F.kp
theorem Txt.f_copied_lookup (T : Txt K mg) : ∃ fd, Fn K "copied_lookup" "copied_lookup" s_copied_lookup [] (He.ga K "copied_lookup") fd := T.says.def_ 34 (d := d_copied_lookup) rfl
theorem Txt.k_copied_lookup (T : Txt K mg) : PySem.W.keepIn K (.ref (He.ga K "copied_lookup")) = true := let ⟨_, F⟩ := T.f_copied_lookup; F.kp
theorem Txt.f_Font_init (T : Txt K mg) : ∃ fd, Fn K "__init__" "Font.__init__" s_Font_init [("chars", .ref (kwAt ("Font", some "__init__") "chars" K)), ("lookups", .ref (kwAt ("Font", some "__init__") "lookups" K)), ("features", .ref (kwAt ("Font", some "__init__") "features" K)), ("axes", .ref (kwAt ("Font", some "__init__") "axes" K)), ("regions", .ref (kwAt ("Font", some "__init__") "regions" K)), ("functions", .ref (kwAt ("Font", some "__init__") "functions" K)), ("presets", .ref (kwAt ("Font", some "__init__") "presets" K))] (He.ma K (He.ga K "Font") "__init__") fd := T.says.def_ 35 (d := d_Font_init) rfl
theorem Txt.k_Font_init (T : Txt K mg) : PySem.W.keepIn K (.ref (He.ma K (He.ga K "Font") "__init__")) = true := let ⟨_, F⟩ := T.f_Font_init; F.kp
theorem Txt.f_Font_refuse (T : Txt K mg) : ∃ fd, Fn K "refuse" "Font.refuse" s_Font_refuse [] (He.ma K (He.ga K "Font") "refuse") fd := T.says.def_ 36 (d := d_Font_refuse) rfl
theorem Txt.k_Font_refuse (T : Txt K mg) : PySem.W.keepIn K (.ref (He.ma K (He.ga K "Font") "refuse")) = true := let ⟨_, F⟩ := T.f_Font_refuse; F.kp
theorem Txt.f_Font_check_glyphs (T : Txt K mg) : ∃ fd, Fn K "check_glyphs" "Font.check_glyphs" s_Font_check_glyphs [] (He.ma K (He.ga K "Font") "check_glyphs") fd := T.says.def_ 37 (d := d_Font_check_glyphs) rfl
theorem Txt.k_Font_check_glyphs (T : Txt K mg) : PySem.W.keepIn K (.ref (He.ma K (He.ga K "Font") "check_glyphs")) = true := let ⟨_, F⟩ := T.f_Font_check_glyphs; F.kp
theorem Txt.f_Font_check_lookups (T : Txt K mg) : ∃ fd, Fn K "check_lookups" "Font.check_lookups" s_Font_check_lookups [] (He.ma K (He.ga K "Font") "check_lookups") fd := T.says.def_ 38 (d := d_Font_check_lookups) rfl
theorem Txt.k_Font_check_lookups (T : Txt K mg) : PySem.W.keepIn K (.ref (He.ma K (He.ga K "Font") "check_lookups")) = true := let ⟨_, F⟩ := T.f_Font_check_lookups; F.kp
theorem Txt.f_Font_check_rest (T : Txt K mg) : ∃ fd, Fn K "check_rest" "Font.check_rest" s_Font_check_rest [] (He.ma K (He.ga K "Font") "check_rest") fd := T.says.def_ 39 (d := d_Font_check_rest) rfl
theorem Txt.k_Font_check_rest (T : Txt K mg) : PySem.W.keepIn K (.ref (He.ma K (He.ga K "Font") "check_rest")) = true := let ⟨_, F⟩ := T.f_Font_check_rest; F.kp
theorem Txt.f_law_mix (T : Txt K mg) : ∃ fd, Fn K "_law_mix" "_law_mix" s_law_mix [] (He.ga K "_law_mix") fd := T.says.def_ 40 (d := d_law_mix) rfl
theorem Txt.k_law_mix (T : Txt K mg) : PySem.W.keepIn K (.ref (He.ga K "_law_mix")) = true := let ⟨_, F⟩ := T.f_law_mix; F.kp
theorem Txt.f_law_numbers (T : Txt K mg) : ∃ fd, Fn K "_law_numbers" "_law_numbers" s_law_numbers [] (He.ga K "_law_numbers") fd := T.says.def_ 41 (d := d_law_numbers) rfl
theorem Txt.k_law_numbers (T : Txt K mg) : PySem.W.keepIn K (.ref (He.ga K "_law_numbers")) = true := let ⟨_, F⟩ := T.f_law_numbers; F.kp
theorem Txt.f_law_take (T : Txt K mg) : ∃ fd, Fn K "_law_take" "_law_take" s_law_take [] (He.ga K "_law_take") fd := T.says.def_ 42 (d := d_law_take) rfl
theorem Txt.k_law_take (T : Txt K mg) : PySem.W.keepIn K (.ref (He.ga K "_law_take")) = true := let ⟨_, F⟩ := T.f_law_take; F.kp
theorem Txt.f_law_set (T : Txt K mg) : ∃ fd, Fn K "_law_set" "_law_set" s_law_set [] (He.ga K "_law_set") fd := T.says.def_ 43 (d := d_law_set) rfl
theorem Txt.k_law_set (T : Txt K mg) : PySem.W.keepIn K (.ref (He.ga K "_law_set")) = true := let ⟨_, F⟩ := T.f_law_set; F.kp
theorem Txt.f_law_sets (T : Txt K mg) : ∃ fd, Fn K "_law_sets" "_law_sets" s_law_sets [] (He.ga K "_law_sets") fd := T.says.def_ 44 (d := d_law_sets) rfl
theorem Txt.k_law_sets (T : Txt K mg) : PySem.W.keepIn K (.ref (He.ga K "_law_sets")) = true := let ⟨_, F⟩ := T.f_law_sets; F.kp
theorem Txt.f_law_rule (T : Txt K mg) : ∃ fd, Fn K "_law_rule" "_law_rule" s_law_rule [] (He.ga K "_law_rule") fd := T.says.def_ 45 (d := d_law_rule) rfl
theorem Txt.k_law_rule (T : Txt K mg) : PySem.W.keepIn K (.ref (He.ga K "_law_rule")) = true := let ⟨_, F⟩ := T.f_law_rule; F.kp
theorem Txt.f_law_lookups (T : Txt K mg) : ∃ fd, Fn K "_law_lookups" "_law_lookups" s_law_lookups [] (He.ga K "_law_lookups") fd := T.says.def_ 46 (d := d_law_lookups) rfl
theorem Txt.k_law_lookups (T : Txt K mg) : PySem.W.keepIn K (.ref (He.ga K "_law_lookups")) = true := let ⟨_, F⟩ := T.f_law_lookups; F.kp
theorem Txt.f_law_font (T : Txt K mg) : ∃ fd, Fn K "_law_font" "_law_font" s_law_font [] (He.ga K "_law_font") fd := T.says.def_ 47 (d := d_law_font) rfl
theorem Txt.k_law_font (T : Txt K mg) : PySem.W.keepIn K (.ref (He.ga K "_law_font")) = true := let ⟨_, F⟩ := T.f_law_font; F.kp
theorem Txt.f_law_world (T : Txt K mg) : ∃ fd, Fn K "_law_world" "_law_world" s_law_world [] (He.ga K "_law_world") fd := T.says.def_ 48 (d := d_law_world) rfl
theorem Txt.k_law_world (T : Txt K mg) : PySem.W.keepIn K (.ref (He.ga K "_law_world")) = true := let ⟨_, F⟩ := T.f_law_world; F.kp
theorem Txt.f_law_patterns (T : Txt K mg) : ∃ fd, Fn K "_law_patterns" "_law_patterns" s_law_patterns [] (He.ga K "_law_patterns") fd := T.says.def_ 49 (d := d_law_patterns) rfl
theorem Txt.k_law_patterns (T : Txt K mg) : PySem.W.keepIn K (.ref (He.ga K "_law_patterns")) = true := let ⟨_, F⟩ := T.f_law_patterns; F.kp
theorem Txt.f_law_status (T : Txt K mg) : ∃ fd, Fn K "_law_status" "_law_status" s_law_status [] (He.ga K "_law_status") fd := T.says.def_ 50 (d := d_law_status) rfl
theorem Txt.k_law_status (T : Txt K mg) : PySem.W.keepIn K (.ref (He.ga K "_law_status")) = true := let ⟨_, F⟩ := T.f_law_status; F.kp
theorem Txt.f_law_met (T : Txt K mg) : ∃ fd, Fn K "_law_met" "_law_met" s_law_met [] (He.ga K "_law_met") fd := T.says.def_ 51 (d := d_law_met) rfl
theorem Txt.k_law_met (T : Txt K mg) : PySem.W.keepIn K (.ref (He.ga K "_law_met")) = true := let ⟨_, F⟩ := T.f_law_met; F.kp
theorem Txt.f_law_words (T : Txt K mg) : ∃ fd, Fn K "_law_words" "_law_words" s_law_words [] (He.ga K "_law_words") fd := T.says.def_ 52 (d := d_law_words) rfl
theorem Txt.k_law_words (T : Txt K mg) : PySem.W.keepIn K (.ref (He.ga K "_law_words")) = true := let ⟨_, F⟩ := T.f_law_words; F.kp
theorem Txt.f_law_next (T : Txt K mg) : ∃ fd, Fn K "_law_next" "_law_next" s_law_next [] (He.ga K "_law_next") fd := T.says.def_ 53 (d := d_law_next) rfl
theorem Txt.k_law_next (T : Txt K mg) : PySem.W.keepIn K (.ref (He.ga K "_law_next")) = true := let ⟨_, F⟩ := T.f_law_next; F.kp
theorem Txt.f_law_side (T : Txt K mg) : ∃ fd, Fn K "_law_side" "_law_side" s_law_side [] (He.ga K "_law_side") fd := T.says.def_ 54 (d := d_law_side) rfl
theorem Txt.k_law_side (T : Txt K mg) : PySem.W.keepIn K (.ref (He.ga K "_law_side")) = true := let ⟨_, F⟩ := T.f_law_side; F.kp
theorem Txt.f_law (T : Txt K mg) : ∃ fd, Fn K "law" "law" s_law [] (He.ga K "law") fd := T.says.def_ 55 (d := d_law) rfl
theorem Txt.k_law (T : Txt K mg) : PySem.W.keepIn K (.ref (He.ga K "law")) = true := let ⟨_, F⟩ := T.f_law; F.kp
theorem Txt.kinds (T : Txt K mg) (H : Hp) : SqT K H (He.ga K "KINDS") (kindsD.map (He.Dv.v K)) := tupA_ok (He.ba T.exK).1 H
theorem Txt.et_Glyph_parts (T : Txt K mg) (H : Hp) : SqT K H (kwAt ("Glyph", some "__init__") "parts" K) [] := tupA_ok (vs := []) (List.all_eq_true.mp (He.ba T.exK).2 (kwAt ("Glyph", some "__init__") "parts") (by simp [ets])) H
theorem Txt.et_Glyph_anchors (T : Txt K mg) (H : Hp) : SqT K H (kwAt ("Glyph", some "__init__") "anchors" K) [] := tupA_ok (vs := []) (List.all_eq_true.mp (He.ba T.exK).2 (kwAt ("Glyph", some "__init__") "anchors") (by simp [ets])) H
theorem Txt.et_Glyph_deltas (T : Txt K mg) (H : Hp) : SqT K H (kwAt ("Glyph", some "__init__") "deltas" K) [] := tupA_ok (vs := []) (List.all_eq_true.mp (He.ba T.exK).2 (kwAt ("Glyph", some "__init__") "deltas") (by simp [ets])) H
theorem Txt.et_Glyph_hint (T : Txt K mg) (H : Hp) : SqT K H (kwAt ("Glyph", some "__init__") "hint" K) [] := tupA_ok (vs := []) (List.all_eq_true.mp (He.ba T.exK).2 (kwAt ("Glyph", some "__init__") "hint") (by simp [ets])) H
theorem Txt.et_Rule_back (T : Txt K mg) (H : Hp) : SqT K H (kwAt ("Rule", some "__init__") "back" K) [] := tupA_ok (vs := []) (List.all_eq_true.mp (He.ba T.exK).2 (kwAt ("Rule", some "__init__") "back") (by simp [ets])) H
theorem Txt.et_Rule_ahead (T : Txt K mg) (H : Hp) : SqT K H (kwAt ("Rule", some "__init__") "ahead" K) [] := tupA_ok (vs := []) (List.all_eq_true.mp (He.ba T.exK).2 (kwAt ("Rule", some "__init__") "ahead") (by simp [ets])) H
theorem Txt.et_Rule_out (T : Txt K mg) (H : Hp) : SqT K H (kwAt ("Rule", some "__init__") "out" K) [] := tupA_ok (vs := []) (List.all_eq_true.mp (He.ba T.exK).2 (kwAt ("Rule", some "__init__") "out") (by simp [ets])) H
theorem Txt.et_Rule_calls (T : Txt K mg) (H : Hp) : SqT K H (kwAt ("Rule", some "__init__") "calls" K) [] := tupA_ok (vs := []) (List.all_eq_true.mp (He.ba T.exK).2 (kwAt ("Rule", some "__init__") "calls") (by simp [ets])) H
theorem Txt.et_Font_chars (T : Txt K mg) (H : Hp) : SqT K H (kwAt ("Font", some "__init__") "chars" K) [] := tupA_ok (vs := []) (List.all_eq_true.mp (He.ba T.exK).2 (kwAt ("Font", some "__init__") "chars") (by simp [ets])) H
theorem Txt.et_Font_lookups (T : Txt K mg) (H : Hp) : SqT K H (kwAt ("Font", some "__init__") "lookups" K) [] := tupA_ok (vs := []) (List.all_eq_true.mp (He.ba T.exK).2 (kwAt ("Font", some "__init__") "lookups") (by simp [ets])) H
theorem Txt.et_Font_features (T : Txt K mg) (H : Hp) : SqT K H (kwAt ("Font", some "__init__") "features" K) [] := tupA_ok (vs := []) (List.all_eq_true.mp (He.ba T.exK).2 (kwAt ("Font", some "__init__") "features") (by simp [ets])) H
theorem Txt.et_Font_axes (T : Txt K mg) (H : Hp) : SqT K H (kwAt ("Font", some "__init__") "axes" K) [] := tupA_ok (vs := []) (List.all_eq_true.mp (He.ba T.exK).2 (kwAt ("Font", some "__init__") "axes") (by simp [ets])) H
theorem Txt.et_Font_regions (T : Txt K mg) (H : Hp) : SqT K H (kwAt ("Font", some "__init__") "regions" K) [] := tupA_ok (vs := []) (List.all_eq_true.mp (He.ba T.exK).2 (kwAt ("Font", some "__init__") "regions") (by simp [ets])) H
theorem Txt.et_Font_functions (T : Txt K mg) (H : Hp) : SqT K H (kwAt ("Font", some "__init__") "functions" K) [] := tupA_ok (vs := []) (List.all_eq_true.mp (He.ba T.exK).2 (kwAt ("Font", some "__init__") "functions") (by simp [ets])) H
theorem Txt.et_Font_presets (T : Txt K mg) (H : Hp) : SqT K H (kwAt ("Font", some "__init__") "presets" K) [] := tupA_ok (vs := []) (List.all_eq_true.mp (He.ba T.exK).2 (kwAt ("Font", some "__init__") "presets") (by simp [ets])) H
end
end K26


set_option maxHeartbeats 4000000
namespace K26
open PySem PySem.Spec PyProof.Rows L2
/-! ### calls by name -/
section
variable {P : Program} {w : World} {K : PySem.W.Frag} {mg : Str → Option Value} {base : Heap}
/-- the module's name x calls a def of no default that keeps the promise sp -/
structure Cal (P : Program) (w : World) (K : PySem.W.Frag) (mg : Str → Option Value) (base : Heap) (k : Nat) (x : Str) (ps : List Str) (sp : Sp) : Prop where
  ex : ∃ (f : Addr) (fd : FuncData), FnOk P w K mg base CX0 k f fd ps sp ∧ mg x = some (.ref f) ∧ PySem.W.keepIn K (.ref f) = true ∧ Binds K fd ps []
theorem Cal.mono {j k : Nat} {x : Str} {ps : List Str} {sp : Sp} (C : Cal P w K mg base j x ps sp) (h : j ≤ k) : Cal P w K mg base k x ps sp :=
  let ⟨f, fd, F, m, kp, b⟩ := C.ex
  ⟨f, fd, F.mono h, m, kp, b⟩
/-- the class at C makes instances by an __init__ of no default -/
structure CalM (P : Program) (w : World) (K : PySem.W.Frag) (mg : Str → Option Value) (base : Heap) (k : Nat) (C f : Addr) (ps : List Str) (sp : Sp) : Prop where
  ex : ∃ fd : FuncData, FnOk P w K mg base CX0 k f fd ps sp ∧ Binds K fd ps []
theorem pe_cal {X : Cx} {k : Nat} {x : Str} {ps : List Str} {sp : Sp} {p pos : Pos} {e : Expr} {es : List Expr} {t : TA} (C : Cal X.prog X.w X.K X.mg X.base k x ps sp) (hr : Room k X.A) (hg : Gl X x) (ha : PA X (e :: es) t)
    (hdb : (x == ("__debug__" : Str)) = false := by decide) (he : starEach (e :: es) X.env = (false, eval e X.env) :: starEach es X.env := by rfl) (hpl : (backTo pos (starEach es X.env)).any (·.1) = false := by rfl) :
    PE X (.Call (.Name x p) (e :: es) [] pos) (tCall sp [] E0 t) :=
  let ⟨_, _, F, m, kp, b⟩ := C.ex
  pe_call F hr hg m kp b .nil pass0 ha hdb he hpl
theorem fn_ok {x q : Str} {st : Stmt} {f : Addr} {fd : FuncData} {kws : List (Str × V)} {N ps : List Str} {k : Nat} {sp : Sp} (F : Fn K x q st kws f fd) (S : FnScope N ps (defScope st)) (len : ∀ vs H Q E, sp vs H Q E → vs.length = ps.length)
    (hbody : ∀ (cdv : Value) (A : Around) (outer : List Env) (s : Shared) (H : Hp) (vs : List V) (Q : VK) (E : XK), Room k (A.deeper (envOfC q (defScope st) s.heap.objs.size f cdv)) → sp vs H Q E →
      ∃ t, PSs (cxOf CX0 P w K mg base N q (defScope st) f cdv A outer s H E).nox (defBody st) t ∧ t { nx := fun _ H' => Q .non H', rt := Q } (start N vs) H) : FnOk P w K mg base CX0 (k + 1) f fd ps sp :=
  FunD.ok F S len fun cdv A outer s H vs Q E hr h => by
    obtain ⟨t, h1, h2⟩ := hbody cdv A outer s H vs Q E hr h
    exact ⟨t, h1.nox, h2⟩
theorem cal_of {x : Str} {st : Stmt} {fd : FuncData} {N ps : List Str} {k : Nat} {sp : Sp} (F : Fn K x x st [] (He.ga K x) fd) (hm : mg x = some (.ref (He.ga K x))) (S : FnScope N ps (defScope st)) (len : ∀ vs H Q E, sp vs H Q E → vs.length = ps.length)
    (hb : ∀ (kV doc pm : Value) (an : Option Addr) (cdv ct : Value) (us : List Value), us.length = ps.length → bindArgs (PySem.W.fnOf x x (defArgs st) (defBody st) (defScope st) .none kV doc pm an cdv ct) ⟨us, []⟩ = pure (ps.zip us))
    (hbody : ∀ (cdv : Value) (A : Around) (outer : List Env) (s : Shared) (H : Hp) (vs : List V) (Q : VK) (E : XK), Room k (A.deeper (envOfC x (defScope st) s.heap.objs.size (He.ga K x) cdv)) → sp vs H Q E →
      ∃ t, PSs (cxOf CX0 P w K mg base N x (defScope st) (He.ga K x) cdv A outer s H E).nox (defBody st) t ∧ t { nx := fun _ H' => Q .non H', rt := Q } (start N vs) H) : Cal P w K mg base (k + 1) x ps sp :=
  ⟨_, fd, fn_ok F S len hbody, hm, F.kp, F.bindsN hb⟩
end
/-! ### list comprehensions whose elements are data -/
/-- what a comprehension's loop asks behind its new list D -/
abbrev LcG (J : It) (g : TG) (tt : TT) (te : TE) (vs : List Nat) (σ : L2.St) (H0 : Hp) (D : Addr) (Qd : Hp → Prop) : Prop :=
  ∃ W : Nat → Nat → Hp → Prop, (∃ m, W 0 m H0) ∧ ∀ i m H, W i m H → (J.stop i H ∧ Qd H) ∨ (J.go i H ∧ ∃ Nx : Hp → Prop, (∀ H', Nx H' → ∃ m', m' < m ∧ W (i + 1) m' H') ∧
    ∀ x H', J.yld i H x H' → g x (wipe σ vs) H' fun σ2 H2 => wipe σ2 vs = wipe σ vs ∧ tt σ2 H2 fun b H3 => if b = true then te σ2 H3 fun y H4 => ∃ acc, H4 D = some (.lst acc) ∧ acc.length < sizeLine ∧ Nx (upd H4 D (.lst (acc ++ [y]))) else Nx H3)
/-- the list at D holds the data ys, all that stood before D stands -/
structure Bld {β : Type} (R : Rp β) (M : List Addr) (D : Addr) (H1 : Hp) (ys : List β) (H : Hp) : Prop where
  same : Same H1 (cut [D] H)
  at_ : ∃ acc : List V, H D = some (.lst acc) ∧ Paired (R (cut (D :: M) H)) acc ys
section
variable {β : Type} {R : Rp β} [Mono R] {M : List Addr} {D : Addr} {H1 H H' : Hp} {ys : List β}
theorem Bld.start (hD : H1 D = none) : Bld R M D H1 [] (upd H1 D (.lst [])) :=
  ⟨by rw [cut_upd (List.mem_singleton.mpr rfl)]; exact Same.newD hD (Same.refl _), [], upd_same, .nil⟩
theorem Bld.keep (b : Bld R M D H1 ys H) : Same H1 H := b.same.trans cut_same
theorem Bld.len (b : Bld R M D H1 ys H) : ∃ acc : List V, H D = some (.lst acc) ∧ acc.length = ys.length := by
  obtain ⟨acc, h, p⟩ := b.at_
  exact ⟨acc, h, p.length⟩
/-- one item more: v, made while all stood -/
theorem Bld.add {v : V} {y : β} (b : Bld R M D H1 ys H) (s : Same H H') (r : R (cut (D :: M) H') v y) : ∃ acc, H' D = some (.lst acc) ∧ acc.length = ys.length ∧ Bld R M D H1 (ys ++ [y]) (upd H' D (.lst (acc ++ [v]))) := by
  obtain ⟨acc, h, p⟩ := b.at_
  refine ⟨acc, s _ _ h, p.length, ?_, acc ++ [v], upd_same, ?_⟩
  · rw [cut_upd (List.mem_singleton.mpr rfl)]
    exact b.same.trans (s.cutS _)
  · rw [cut_upd (List.mem_cons_self ..)]
    exact paired_app (pair_mono (s.cutS _) p) (.cons r .nil)
theorem Bld.done (b : Bld R M D H1 ys H) (hD : H1 D = none) : Ls R (cut M H) (.ref D) ys ∨ D ∈ M := by
  by_cases h : D ∈ M
  · exact .inr h
  · obtain ⟨acc, h1, p⟩ := b.at_
    exact .inl ⟨D, acc, rfl, cut_of h1 h, pair_mono (cut_mono fun b hb => List.mem_cons_of_mem _ hb) p⟩
theorem not_in_of (hM : ∀ b ∈ M, H1 b ≠ none) (hD : H1 D = none) : D ∉ M := fun h => hM D h hD
theorem Bld.fin (b : Bld R M D H1 ys H) (hM : ∀ b ∈ M, H1 b ≠ none) (hD : H1 D = none) : Ls R (cut M H) (.ref D) ys := (b.done hD).resolve_right (not_in_of hM hD)
theorem there_cons {b : Addr} {l : List Addr} (s : Same H1 H) (hM : ∀ b ∈ l, H1 b ≠ none) (hD : H D ≠ none) (hb : b ∈ D :: l) : H b ≠ none := by
  rcases List.mem_cons.mp hb with e | hb
  · rw [e]; exact hD
  · exact s.there (hM b hb)
/-- over a list that stands: each element is data made of the item while all stands -/
theorem lc_map {K : PySem.W.Frag} {a : Addr} {xs : List V} {g : TG} {te : TE} {vs : List Nat} {σ : L2.St} {Qd : Hp → Prop} (R : Rp β) [Mono R] (M : List Addr) (ys : List β) (hM : ∀ b ∈ M, H1 b ≠ none) (hD : H1 D = none) (hS : SqL K H1 a xs) (hl : xs.length = ys.length) (hz : xs.length < sizeLine)
    (hs : ∀ (i : Nat) (x : V) (y : β) (H : Hp), xs[i]? = some x → ys[i]? = some y → Same H1 H → Same (cut M H1) (cut (D :: M) H) → (∀ b ∈ D :: M, H b ≠ none) → ∀ Q : V → Hp → Prop, (∀ v H', Same H H' → R (cut (D :: M) H') v y → Q v H') →
      g x (wipe σ vs) H fun σ2 H2 => wipe σ2 vs = wipe σ vs ∧ te σ2 H2 Q)
    (hd : ∀ H', Same H1 H' → Same (cut M H1) (cut M H') → Ls R (cut M H') (.ref D) ys → Qd H') : LcG (Itl K a) g tYes te vs σ (upd H1 D (.lst [])) D Qd := by
  refine lc_list (K := K) (a := a) (xs := xs) (fun i H => Bld R M D H1 (ys.take i) H) (by rw [List.take_zero]; exact Bld.start hD) (fun i H _ b => b.keep.seq hS) (fun i x H hx b => ?_) (fun H b => ?_)
  · have hi : i < ys.length := by
      rw [← hl]
      exact (List.getElem?_eq_some_iff.mp hx).1
    have hy : ys[i]? = some ys[i] := List.getElem?_eq_getElem hi
    obtain ⟨acc0, hD0, _⟩ := b.at_
    refine hs i x ys[i] H hx hy b.keep (same_cut_new hD b.same) (fun c hc => there_cons b.keep hM (some_ne hD0) hc) _ fun v H' s r => ?_
    obtain ⟨acc, h1, h2, h3⟩ := b.add s r
    refine ⟨acc, h1, ?_, ?_⟩
    · rw [h2, List.length_take]
      exact Nat.lt_of_le_of_lt (Nat.min_le_right _ _) (by rw [← hl]; exact hz)
    · have e : ys.take (i + 1) = ys.take i ++ [ys[i]] := by
        rw [List.take_add_one, hy]
        rfl
      rw [e]
      exact h3
  · rw [hl, List.take_length] at b
    exact hd H b.keep (b.keep.cutS _) (b.fin hM hD)
/-- the same over a range -/
theorem lc_mapR {lo : Int} {n : Nat} {g : TG} {te : TE} {vs : List Nat} {σ : L2.St} {Qd : Hp → Prop} (R : Rp β) [Mono R] (M : List Addr) (ys : List β) (hM : ∀ b ∈ M, H1 b ≠ none) (hD : H1 D = none) (hl : n = ys.length) (hz : n < sizeLine)
    (hs : ∀ (i : Nat) (y : β) (H : Hp), i < n → ys[i]? = some y → Same H1 H → Same (cut M H1) (cut (D :: M) H) → (∀ b ∈ D :: M, H b ≠ none) → ∀ Q : V → Hp → Prop, (∀ v H', Same H H' → R (cut (D :: M) H') v y → Q v H') →
      g (.int (lo + i)) (wipe σ vs) H fun σ2 H2 => wipe σ2 vs = wipe σ vs ∧ te σ2 H2 Q)
    (hd : ∀ H', Same H1 H' → Same (cut M H1) (cut M H') → Ls R (cut M H') (.ref D) ys → Qd H') : LcG (Itr lo n) g tYes te vs σ (upd H1 D (.lst [])) D Qd := by
  refine lc_range (lo := lo) (n := n) (fun i H => Bld R M D H1 (ys.take i) H) (by rw [List.take_zero]; exact Bld.start hD) (fun i H hi b => ?_) (fun H b => ?_)
  · have hi' : i < ys.length := by omega
    have hy : ys[i]? = some ys[i] := List.getElem?_eq_getElem hi'
    obtain ⟨acc0, hD0, _⟩ := b.at_
    refine hs i ys[i] H hi hy b.keep (same_cut_new hD b.same) (fun c hc => there_cons b.keep hM (some_ne hD0) hc) _ fun v H' s r => ?_
    obtain ⟨acc, h1, h2, h3⟩ := b.add s r
    refine ⟨acc, h1, ?_, ?_⟩
    · rw [h2, List.length_take]
      exact Nat.lt_of_le_of_lt (Nat.min_le_right _ _) (by rw [← hl]; exact hz)
    · have e : ys.take (i + 1) = ys.take i ++ [ys[i]] := by
        rw [List.take_add_one, hy]
        rfl
      rw [e]
      exact h3
  · rw [hl, List.take_length] at b
    exact hd H b.keep (b.keep.cutS _) (b.fin hM hD)
end
/-! ### the same where each element draws from the row at r -/
def RowAt (H : Hp) (r : Addr) : Prop := ∃ ns : List Int, H r = some (.lst (ns.map V.int))
theorem RowAt.ne {H : Hp} {r : Addr} (h : RowAt H r) : H r ≠ none := let ⟨_, e⟩ := h; some_ne e
theorem RowAt.same {H H' : Hp} {r : Addr} (s : Same H H') (h : RowAt H r) : RowAt H' r := let ⟨ns, e⟩ := h; ⟨ns, s _ _ e⟩
/-- the list at D holds the data ys, all but r that stood before D stands -/
structure BldX {β : Type} (R : Rp β) (r : Addr) (M : List Addr) (D : Addr) (H1 : Hp) (ys : List β) (H : Hp) : Prop where
  same : SameX r H1 (cut [D] H)
  row : RowAt H r
  at_ : ∃ acc : List V, H D = some (.lst acc) ∧ Paired (R (cut (D :: M) H)) acc ys
section
variable {β : Type} {R : Rp β} [Mono R] {r : Addr} {M : List Addr} {D : Addr} {H1 H H' : Hp} {ys : List β}
theorem BldX.start (hD : H1 D = none) (hr : RowAt H1 r) : BldX R r M D H1 [] (upd H1 D (.lst [])) := by
  obtain ⟨ns, e⟩ := hr
  refine ⟨?_, ⟨ns, ?_⟩, [], upd_same, .nil⟩
  · rw [cut_upd (List.mem_singleton.mpr rfl)]
    exact SameX.of (Same.newD hD (Same.refl _))
  · rw [upd_ne (ne_of_none e hD)]
    exact e
theorem BldX.keep (b : BldX R r M D H1 ys H) : SameX r H1 H := b.same.trans (SameX.of cut_same)
theorem BldX.cutM (b : BldX R r M D H1 ys H) (hr : r ∈ M) (hD : H1 D = none) : Same (cut M H1) (cut (D :: M) H) := fun c o e => by
  obtain ⟨h1, h2⟩ := cut_get e
  obtain ⟨_, h4⟩ := cut_get (b.same c o (fun z => h1 (z ▸ hr)) h2)
  exact cut_of h4 (by simp only [List.mem_cons, not_or]; exact ⟨ne_of_none h2 hD, h1⟩)
theorem BldX.add {v : V} {y : β} (b : BldX R r M D H1 ys H) (hr : r ∈ M) (hDr : D ≠ r) (s : SameX r H H') (hw : RowAt H' r) (q : R (cut (D :: M) H') v y) :
    ∃ acc, H' D = some (.lst acc) ∧ acc.length = ys.length ∧ BldX R r M D H1 (ys ++ [y]) (upd H' D (.lst (acc ++ [v]))) := by
  obtain ⟨acc, h, p⟩ := b.at_
  obtain ⟨ns, e⟩ := hw
  refine ⟨acc, s _ _ hDr h, p.length, ?_, ⟨ns, ?_⟩, acc ++ [v], upd_same, ?_⟩
  · rw [cut_upd (List.mem_singleton.mpr rfl)]
    intro c o n e'
    obtain ⟨h1, h2⟩ := cut_get (b.same c o n e')
    exact cut_of (s c o n h2) h1
  · rw [upd_ne hDr.symm]
    exact e
  · rw [cut_upd (List.mem_cons_self ..)]
    exact paired_app (pair_mono (s.cutX (List.mem_cons_of_mem _ hr)) p) (.cons q .nil)
theorem BldX.fin (b : BldX R r M D H1 ys H) (hM : ∀ b ∈ M, H1 b ≠ none) (hD : H1 D = none) : Ls R (cut M H) (.ref D) ys := by
  obtain ⟨acc, h1, p⟩ := b.at_
  exact ⟨D, acc, rfl, cut_of h1 (not_in_of hM hD), pair_mono (cut_mono fun b hb => List.mem_cons_of_mem _ hb) p⟩
theorem BldX.there (b : BldX R r M D H1 ys H) (hM : ∀ b ∈ M, H1 b ≠ none) {c : Addr} (hc : c ∈ D :: M) : H c ≠ none := by
  rcases List.mem_cons.mp hc with e | hc
  · obtain ⟨acc, h, _⟩ := b.at_
    rw [e]
    exact some_ne h
  · exact b.keep.there b.row.ne (hM c hc)
/-- over a range: each element is drawn, and has Pr -/
theorem lc_draw {lo : Int} {n : Nat} {g : TG} {te : TE} {vs : List Nat} {σ : L2.St} {Qd : Hp → Prop} (R : Rp β) [Mono R] (Pr : Nat → β → Prop) (r : Addr) (M : List Addr) (hr : r ∈ M) (hM : ∀ b ∈ M, H1 b ≠ none) (hD : H1 D = none) (hw : RowAt H1 r) (hz : n < sizeLine)
    (hs : ∀ (i : Nat) (H : Hp), i < n → SameX r H1 H → Same (cut M H1) (cut (D :: M) H) → RowAt H r → (∀ b ∈ D :: M, H b ≠ none) → ∀ Q : V → Hp → Prop, (∀ v H' y, SameX r H H' → RowAt H' r → Pr i y → R (cut (D :: M) H') v y → Q v H') →
      g (.int (lo + i)) (wipe σ vs) H fun σ2 H2 => wipe σ2 vs = wipe σ vs ∧ te σ2 H2 Q)
    (hd : ∀ H' ys, SameX r H1 H' → Same (cut M H1) (cut M H') → RowAt H' r → ys.length = n → (∀ i y, ys[i]? = some y → Pr i y) → Ls R (cut M H') (.ref D) ys → Qd H') : LcG (Itr lo n) g tYes te vs σ (upd H1 D (.lst [])) D Qd := by
  have hDr : D ≠ r := fun e => hM r hr (by rw [← e]; exact hD)
  refine lc_range (lo := lo) (n := n) (fun i H => ∃ ys : List β, ys.length = i ∧ (∀ j y, ys[j]? = some y → Pr j y) ∧ BldX R r M D H1 ys H) ⟨[], rfl, fun j y h => by simp at h, BldX.start hD hw⟩ (fun i H hi ⟨ys, hl, hp, b⟩ => ?_) (fun H ⟨ys, hl, hp, b⟩ => ?_)
  · refine hs i H hi b.keep (b.cutM hr hD) b.row (fun c hc => b.there hM hc) _ fun v H' y s w' py q => ?_
    obtain ⟨acc, h1, h2, h3⟩ := b.add hr hDr s w' q
    refine ⟨acc, h1, by omega, ys ++ [y], by rw [List.length_append, hl]; rfl, fun j z hz => ?_, h3⟩
    by_cases hj : j < ys.length
    · rw [List.getElem?_append_left hj] at hz
      exact hp j z hz
    · rw [List.getElem?_append_right (by omega)] at hz
      have e0 : j - ys.length = 0 := by
        have := (List.getElem?_eq_some_iff.mp hz).1
        rw [List.length_singleton] at this
        omega
      rw [e0] at hz
      have ez : y = z := Option.some.inj hz
      have ej : j = i := by omega
      rw [← ez, ej]
      exact py
  · exact hd H ys b.keep (b.keep.cutX hr) b.row hl hp (b.fin hM hD)
/-- over a list that stands: each element is drawn, and has Pr -/
theorem lc_drawL {K : PySem.W.Frag} {a : Addr} {xs : List V} {g : TG} {te : TE} {vs : List Nat} {σ : L2.St} {Qd : Hp → Prop} (R : Rp β) [Mono R] (Pr : Nat → β → Prop) (r : Addr) (M : List Addr) (hr : r ∈ M) (hM : ∀ b ∈ M, H1 b ≠ none) (hD : H1 D = none) (hw : RowAt H1 r)
    (hS : (cut M H1) a = some (.lst xs)) (hz : xs.length < sizeLine)
    (hs : ∀ (i : Nat) (x : V) (H : Hp), xs[i]? = some x → SameX r H1 H → Same (cut M H1) (cut (D :: M) H) → RowAt H r → (∀ b ∈ D :: M, H b ≠ none) → ∀ Q : V → Hp → Prop, (∀ v H' y, SameX r H H' → RowAt H' r → Pr i y → R (cut (D :: M) H') v y → Q v H') →
      g x (wipe σ vs) H fun σ2 H2 => wipe σ2 vs = wipe σ vs ∧ te σ2 H2 Q)
    (hd : ∀ H' ys, SameX r H1 H' → Same (cut M H1) (cut M H') → RowAt H' r → ys.length = xs.length → (∀ i y, ys[i]? = some y → Pr i y) → Ls R (cut M H') (.ref D) ys → Qd H') : LcG (Itl K a) g tYes te vs σ (upd H1 D (.lst [])) D Qd := by
  have hDr : D ≠ r := fun e => hM r hr (by rw [← e]; exact hD)
  refine lc_list (K := K) (a := a) (xs := xs) (fun i H => ∃ ys : List β, ys.length = i ∧ (∀ j y, ys[j]? = some y → Pr j y) ∧ BldX R r M D H1 ys H) ⟨[], rfl, fun j y h => by simp at h, BldX.start hD hw⟩ (fun i H _ ⟨ys, _, _, b⟩ => SqL.of (cut_get (b.cutM hr hD _ _ hS)).2)
    (fun i x H hx ⟨ys, hl, hp, b⟩ => ?_) (fun H ⟨ys, hl, hp, b⟩ => ?_)
  · have hi : i < xs.length := (List.getElem?_eq_some_iff.mp hx).1
    refine hs i x H hx b.keep (b.cutM hr hD) b.row (fun c hc => b.there hM hc) _ fun v H' y s w' py q => ?_
    obtain ⟨acc, h1, h2, h3⟩ := b.add hr hDr s w' q
    refine ⟨acc, h1, by omega, ys ++ [y], by rw [List.length_append, hl]; rfl, fun j z hz => ?_, h3⟩
    by_cases hj : j < ys.length
    · rw [List.getElem?_append_left hj] at hz
      exact hp j z hz
    · rw [List.getElem?_append_right (by omega)] at hz
      have e0 : j - ys.length = 0 := by
        have := (List.getElem?_eq_some_iff.mp hz).1
        rw [List.length_singleton] at this
        omega
      rw [e0] at hz
      have ez : y = z := Option.some.inj hz
      have ej : j = i := by omega
      rw [← ez, ej]
      exact py
  · exact hd H ys b.keep (b.keep.cutX hr) b.row hl hp (b.fin hM hD)
end
/-- a loop over enumerate of a list -/
theorem for_enum {K : PySem.W.Frag} {a : Addr} {xs : List V} {g : TG} {tb : TS} {D : Ends} {σ : L2.St} {H : Hp} (Pv : Nat → L2.St → Hp → Prop) (h0 : Pv 0 σ H) (hq : ∀ i σ H, Pv i σ H → SqL K H a xs)
    (hs : ∀ (i : Nat) (x : V) (t : Addr) (σ : L2.St) (H : Hp), xs[i]? = some x → Pv i σ H → H t = none → g (.ref t) σ (upd H t (.tup [.int (i : Nat), x])) fun σ2 H2 => tb { D with nx := Pv (i + 1), ct := Pv (i + 1), bk := D.nx } σ2 H2)
    (hd : ∀ σ H, Pv xs.length σ H → D.nx σ H) :
    ∃ W : Nat → Nat → L2.St → Hp → Prop, (∃ m, W 0 m σ H) ∧ ∀ i m σ H, W i m σ H → ((Ite K a).stop i H ∧ D.nx σ H) ∨ ((Ite K a).go i H ∧ ∃ N : L2.St → Hp → Prop, (∀ σ' H', N σ' H' → ∃ m', m' < m ∧ W (i + 1) m' σ' H') ∧
      ∀ x H', (Ite K a).yld i H x H' → g x σ H' fun σ2 H2 => tb { D with nx := N, ct := N, bk := D.nx } σ2 H2) := by
  refine ⟨fun i m σ H => m = xs.length - i ∧ i ≤ xs.length ∧ Pv i σ H, ⟨xs.length, rfl, Nat.zero_le _, h0⟩, fun i m σ H ⟨em, hi, p⟩ => ?_⟩
  have q := hq i σ H p
  by_cases hlt : i < xs.length
  · refine .inr ⟨⟨xs, xs[i], q, List.getElem?_eq_getElem hlt⟩, Pv (i + 1), fun σ' H' p' => ⟨xs.length - (i + 1), by omega, rfl, hlt, p'⟩, fun v H' y => ?_⟩
    obtain ⟨t, x, rfl, ht, rfl, f⟩ := y
    exact hs i x t σ H (f xs q) p ht
  · have e : i = xs.length := by omega
    subst e
    exact .inl ⟨⟨xs, q, Nat.le_refl _⟩, hd σ H p⟩
/-- list(x) of a list or a tuple -/
abbrev rListOf (K : PySem.W.Frag) : List V → Hp → VK → Prop := fun xs H Q =>
  ∃ p ys, xs = [.ref p] ∧ (SqL K H p ys ∨ SqT K H p ys) ∧ ∀ l, H l = none → Q (.ref l) (upd H l (.lst ys))
abbrev rLenSeq (K : PySem.W.Frag) : List V → Hp → VK → Prop := fun xs H Q =>
  ∃ p ys, xs = [.ref p] ∧ (SqL K H p ys ∨ SqT K H p ys) ∧ Q (.int ys.length) H
abbrev rLe : R2 := rI0 fun i j => .bl (decide (i ≤ j))
abbrev rLt : R2 := rI0 fun i j => .bl (decide (i < j))
theorem there_same {M : List Addr} {H H' : Hp} (s : Same H H') (h : ∀ b ∈ M, H b ≠ none) : ∀ b ∈ M, H' b ≠ none := fun b hb => s.there (h b hb)
theorem new_cut {M : List Addr} {H : Hp} {p : Addr} {o : HO} (h : ∀ b ∈ M, H b ≠ none) (np : H p = none) : cut M (upd H p o) = upd (cut M H) p o := cut_upd_ne (not_in_of h np)
/-- a target that is never reached -/
theorem pg_never {X : Cx} {e : Expr} : PG X e (fun _ _ _ _ => False) := ⟨fun _ _ _ _ _ _ _ _ _ h => h.elim⟩
theorem pe_never {X : Cx} {e : Expr} : PE X e (fun _ _ _ => False) := ⟨fun _ _ _ _ _ _ h => h.elim⟩
theorem pt_never {X : Cx} {e : Expr} : PT X e (fun _ _ _ => False) := ⟨fun _ _ _ _ _ _ h => h.elim⟩
end K26


set_option maxHeartbeats 4000000
namespace K26
open PySem PySem.Spec PyProof.Rows L2
section
variable {P : Program} {w : World} {K : PySem.W.Frag} {mg : Str → Option Value} {base : Heap}
/-- the numbers of a status lie within their patterns -/
def StOk (ps : List Pat) (st : List Int) : Prop := st.length = ps.length ∧ ∀ (k : Nat) (p : Pat) (n : Int), ps[k]? = some p → st[k]? = some n → n = -1 ∨ (0 ≤ n ∧ n ≤ (p.length : Int))
theorem Reach.ok {ps : List Pat} {s : List Int} (r : Reach ps s) : StOk ps s := ⟨r.len, fun _ _ _ h1 h2 => r.bd h1 h2⟩
/-! ### next_status -/
def spNext : Sp := fun vs H Q _ => ∃ (ps : List Pat) (st : List Int) (g : Int) (pv sv : V), vs = [pv, sv, .int g] ∧ PtsR H pv ps ∧ IL H sv st ∧ StOk ps st ∧ ps.length ≤ 1000 ∧
  ∀ H' p, Same H H' → H p = none → H' p = some (.lst ((nxS ps st g).map V.int)) → Q (.ref p) H'
theorem sc_next : FnScope ["patterns_now", "status", "glyph", "found", "pattern", "number"] ["patterns_now", "status", "glyph"] (defScope s_next_status) := ⟨rfl, rfl, rfl, by decide +kernel, rfl, by decide +kernel, by decide +kernel⟩
theorem c_next (T : Txt K mg) : Cal P w K mg base 1 "next_status" ["patterns_now", "status", "glyph"] spNext := by
  obtain ⟨fd, F⟩ := T.f_next_status
  refine cal_of F T.g_next_status sc_next (fun vs H Q E h => ?_) (fun _ _ _ _ _ _ us hl => match us, hl with | [_, _, _], _ => rfl) (fun cdv A outer s H vs Q E hr h => ?_)
  · obtain ⟨ps, st, g, pv, sv, rfl, _⟩ := h
    rfl
  · obtain ⟨ps, st, g, pv', sv, rfl, ⟨a, pvs, rfl, ha, pp⟩, ⟨b, rfl, hb⟩, ⟨hl, hbd⟩, hsz, k⟩ := h
    have nd := sc_next.nd
    refine ⟨_, pss_cons (ps_set (i := 3) nd rfl (.inl rfl) (pe_lst pa_nil))
      (pss_cons (ps_for PassesOwn.never rfl (pi_zip (by rfl) T.b_zip (pa_cons (pv 0) (pa_cons (pv 1) pa_nil)))
          (pg_tup rfl (pgs_cons (pg_name (i := 4) nd rfl (.inl rfl)) (pgs_cons (pg_name (i := 5) nd rfl (.inl rfl)) pgs_nil)))
        (pss_one (ps_if (PW.pt (pw_or (pt_cmpR op_eq (pv 5) (pe_un un_neg pe_int) (nomark _)) (pw_or1 (pt_cmpR op_eq (pv 5) (pe_callB call_len_seq (by rfl) T.b_len boot_len (pa_cons (pv 4) pa_nil)) (nomark _)))))
          (pss_one (ps_expr (pe_bm PySem.F.plainAttrs_list PySem.F.slot_list_append PySem.F.type_list_append mt_append (pv 3) (pa_cons (pv 5) pa_nil))))
          (pss_one (ps_if (pt_cmpR op_in_seq (pv 2) (pe_ix ix_list (pv 4) (pv 5) (fun _ _ => rfl)) (by rfl))
            (pss_one (ps_expr (pe_bm PySem.F.plainAttrs_list PySem.F.slot_list_append PySem.F.type_list_append mt_append (pv 3) (pa_cons (pe_op op_add (pv 5) pe_int) pa_nil))))
            (pss_one (ps_expr (pe_bm PySem.F.plainAttrs_list PySem.F.slot_list_append PySem.F.type_list_append mt_append (pv 3) (pa_cons (pe_un un_neg pe_int) pa_nil)))))))))
      (pss_one (ps_ret (pv 3)))), ?_⟩
    -- the new list
    refine ⟨Nat.zero_le _, fun o no => ?_⟩
    have s0 : Same H (upd H o (.lst [])) := same_upd no
    -- the two lists, turn by turn
    have hpl := pp.length
    refine ⟨_, rfl, _, rfl, a, b, pvs, st.map V.int, rfl, SqL.of (s0 _ _ ha), SqL.of (s0 _ _ hb), RZ.for_zipL (K := K) (xs := pvs) (ys := st.map V.int) (by rw [List.length_map]; omega)
      (fun i σ H1 => ∃ y4 y5, σ = [some (.ref a), some (.ref b), some (.int g), some (.ref o), y4, y5] ∧ Same H (cut [o] H1) ∧ H1 o = some (.lst (((nxS ps st g).take i).map V.int)))
      ⟨none, none, rfl, ?_, upd_same⟩ (fun i σ H1 ⟨_, _, _, sm, _⟩ => ⟨SqL.of (cut_same _ _ (sm _ _ ha)), SqL.of (cut_same _ _ (sm _ _ hb))⟩) ?_ ?_⟩
    · rw [cut_upd (List.mem_singleton.mpr rfl)]
      exact Same.newD no (Same.refl _)
    · rintro i x y t σ H1 hx hy ⟨y4, y5, rfl, sm, eo⟩ nt
      obtain ⟨p, hp, ⟨q, svs, rfl, hq, sp⟩⟩ := paired_getL pp hx
      rw [List.getElem?_map] at hy
      cases hn : st[i]? with
      | none =>
        rw [hn] at hy
        cases hy
      | some n =>
      rw [hn] at hy
      obtain rfl : V.int n = y := Option.some.inj hy
      have hnx := nxS_get (g := g) hp hn
      have nto : o ≠ t := ne_of_none eo nt
      have sT : Same H1 (upd H1 t (.tup [V.ref q, V.int n])) := same_upd nt
      have hq1 : (upd H1 t (.tup [V.ref q, V.int n])) q = some (.lst svs) := sT _ _ (cut_same _ _ (sm _ _ hq))
      have eoT : (upd H1 t (.tup [V.ref q, V.int n])) o = some (.lst (((nxS ps st g).take i).map V.int)) := sT _ _ eo
      have hlen : (((nxS ps st g).take i).map V.int).length < sizeLine := by
        rw [List.length_map, List.length_take, nxS_len]
        exact len_small (by omega)
      have fin : ∀ v : Int, v = nx1 p n g → ∃ y4 y5, ([some (.ref a), some (.ref b), some (.int g), some (.ref o), some (V.ref q), some (V.int n)] : L2.St) = [some (.ref a), some (.ref b), some (.int g), some (.ref o), y4, y5] ∧
          Same H (cut [o] (upd (upd H1 t (.tup [V.ref q, V.int n])) o (.lst (((nxS ps st g).take i).map V.int ++ [V.int v])))) ∧ (upd (upd H1 t (.tup [V.ref q, V.int n])) o (.lst (((nxS ps st g).take i).map V.int ++ [V.int v]))) o = some (.lst (((nxS ps st g).take (i + 1)).map V.int)) := fun v ev => by
        refine ⟨_, _, rfl, ?_, ?_⟩
        · rw [cut_upd (List.mem_singleton.mpr rfl)]
          exact sm.trans (sT.cutS _)
        · rw [upd_same, List.take_add_one, hnx, ev, List.map_append]
          rfl
      have sl := sp.length
      -- the pair taken apart, the test
      refine ⟨t, _, rfl, SqT.of upd_same, rfl, _, _, rfl, _, _, rfl, rfl, ?_⟩
      refine ⟨_, rfl, 1, rfl, rfl, _, rfl, ite2 (fun e => ?_) (fun e => ?_)⟩
      · have e1 : n = -1 := V.int.inj (of_decide_eq_true e)
        refine iteT ⟨_, rfl, .inl ⟨rfl, _, SqL.of eoT⟩, _, rfl, o, _, _, rfl, rfl, eoT, hlen, ?_⟩
        exact fin n (by unfold nx1; rw [if_pos (.inl e1)])
      · have e1 : n ≠ -1 := fun z => e (decide_eq_true (by rw [z]))
        refine ⟨_, rfl, _, rfl, q, svs, rfl, .inl (SqL.of hq1), rfl, _, rfl, ite2 (fun e => ?_) (fun e => ?_)⟩
        · have e2 : n = (svs.length : Int) := V.int.inj (of_decide_eq_true e)
          refine ⟨_, rfl, .inl ⟨rfl, _, SqL.of eoT⟩, _, rfl, o, _, _, rfl, rfl, eoT, hlen, ?_⟩
          exact fin n (by unfold nx1; rw [if_pos (.inr (by rw [e2, sl]))])
        · have e2 : n ≠ (p.length : Int) := fun z => e (decide_eq_true (by rw [z, sl]))
          have hb2 : 0 ≤ n ∧ n < (p.length : Int) := by
            have := hbd i p n hp hn
            omega
          have hj : n.toNat < p.length := by omega
          obtain ⟨sv', hsv, ⟨z, rfl, hz⟩⟩ := paired_get (i := n.toNat) sp (List.getElem?_eq_getElem hj)
          have hz1 : (upd H1 t (.tup [V.ref q, V.int n])) z = some (.lst ((p[n.toNat]).map V.int)) := sT _ _ (cut_same _ _ (sm _ _ hz))
          have egd : p.getD n.toNat [] = p[n.toNat] := by
            rw [List.getD_eq_getElem?_getD, List.getElem?_eq_getElem hj]
            rfl
          refine ⟨_, rfl, _, rfl, _, rfl, q, svs, n, _, rfl, rfl, SqL.of hq1, at_of (j := n.toNat) (by omega) hsv, z, _, rfl, .inl (SqL.of hz1), rfl, flat_ints _, _, rfl, ite2 (fun e => ?_) (fun e => ?_)⟩
          · have e3 : g ∈ p[n.toNat] := by
              have z2 : inV (V.int g) ((p[n.toNat]).map V.int) = true := e
              rw [inV_ints] at z2
              exact of_decide_eq_true z2
            refine ⟨_, rfl, .inl ⟨rfl, _, SqL.of eoT⟩, _, rfl, _, _, rfl, rfl, o, _, _, rfl, rfl, eoT, hlen, ?_⟩
            exact fin (n + 1) (by unfold nx1; rw [if_neg (by omega), egd, if_pos e3])
          · have e3 : ¬ g ∈ p[n.toNat] := fun z2 => e (by
              show inV (V.int g) ((p[n.toNat]).map V.int) = true
              rw [inV_ints]
              exact decide_eq_true z2)
            refine ⟨_, rfl, .inl ⟨rfl, _, SqL.of eoT⟩, 1, rfl, o, _, _, rfl, rfl, eoT, hlen, ?_⟩
            exact fin (-1) (by unfold nx1; rw [if_neg (by omega), egd, if_neg e3])
    · rintro σ H1 ⟨y4, y5, rfl, sm, eo⟩
      have ei : (nxS ps st g).take pvs.length = nxS ps st g := List.take_of_length_le (by rw [nxS_len]; omega)
      rw [ei] at eo
      exact ⟨_, rfl, k H1 o (sm.trans cut_same) no eo⟩
end
end K26


set_option maxHeartbeats 4000000
namespace K26
open PySem PySem.Spec PyProof.Rows L2
/-! ### the font's objects -/
structure RuleD where
  inside : Pat
  back : Pat
  ahead : Pat
  out : List Int
  calls : List (Int × Int)
structure LkD where
  kind : Str
  rules : List RuleD
  ign : Bool
structure FontD where
  gls : List (Int × Bool)
  lks : List LkD
/-- the classes' addresses -/
abbrev cGlyph (K : PySem.W.Frag) : Addr := He.ga K "Glyph"
abbrev cRule (K : PySem.W.Frag) : Addr := He.ga K "Rule"
abbrev cLookup (K : PySem.W.Frag) : Addr := He.ga K "Lookup"
abbrev cFont (K : PySem.W.Frag) : Addr := He.ga K "Font"
abbrev cAuto (K : PySem.W.Frag) : Addr := He.ga K "Automaton"
def glF (adv : Int) (o p an : Addr) (mk : Bool) (d h : Addr) : List (Str × V) := [("advance", .int adv), ("outline", .ref o), ("parts", .ref p), ("anchors", .ref an), ("mark", .bl mk), ("deltas", .ref d), ("hint", .ref h)]
def ruF (i b a o c : V) : List (Str × V) := [("inside", i), ("back", b), ("ahead", a), ("out", o), ("calls", c), ("extra", .int 0)]
def lkF (k : Str) (r : V) (g : Bool) : List (Str × V) := [("kind", .str k), ("rules", r), ("ignore", .bl g)]
def foF (g : V) (ch : Addr) (l : V) (fe ax re fu pr : Addr) : List (Str × V) :=
  [("unit", .int 100), ("glyphs", g), ("chars", .ref ch), ("lookups", l), ("features", .ref fe), ("axes", .ref ax), ("regions", .ref re), ("functions", .ref fu), ("presets", .ref pr)]
def auF (f b : V) : List (Str × V) := [("fore", f), ("back", b)]
def GlyphR (K : PySem.W.Frag) : Rp (Int × Bool) := fun H v g => ∃ (x dx o p an d h : Addr), v = .ref x ∧ H x = some (.ins (cGlyph K) dx (glF g.1 o p an g.2 d h)) ∧
  H o = some (.lst []) ∧ H p = some (.lst []) ∧ H an = some (.lst []) ∧ H d = some (.lst []) ∧ H h = some (.lst [])
abbrev CallR : Rp (Int × Int) := Tp INT INT
def RuleR (K : PySem.W.Frag) : Rp RuleD := fun H v r => ∃ (x dx : Addr) (i b a o c : V), v = .ref x ∧ H x = some (.ins (cRule K) dx (ruF i b a o c)) ∧ PatR H i r.inside ∧ PatR H b r.back ∧ PatR H a r.ahead ∧ IL H o r.out ∧ Ls CallR H c r.calls
def LookR (K : PySem.W.Frag) : Rp LkD := fun H v l => ∃ (x dx : Addr) (r : V), v = .ref x ∧ H x = some (.ins (cLookup K) dx (lkF l.kind r l.ign)) ∧ Ls (RuleR K) H r l.rules
def FontR (K : PySem.W.Frag) : Rp FontD := fun H v f => ∃ (x dx : Addr) (g l : V) (ch fe ax re fu pr : Addr), v = .ref x ∧ H x = some (.ins (cFont K) dx (foF g ch l fe ax re fu pr)) ∧ Ls (GlyphR K) H g f.gls ∧ Ls (LookR K) H l f.lks
def AutoR (K : PySem.W.Frag) : Rp ((List (List Int) × List (List Int)) × (List (List Int) × List (List Int))) := fun H v p => ∃ (x dx : Addr) (f b : V), v = .ref x ∧ H x = some (.ins (cAuto K) dx (auF f b)) ∧ SideR H f p.1 ∧ SideR H b p.2
section
variable {K : PySem.W.Frag}
instance : Mono (GlyphR K) := ⟨fun s h => by
  obtain ⟨x, dx, o, p, an, d, h', e, h0, h1, h2, h3, h4, h5⟩ := h
  exact ⟨x, dx, o, p, an, d, h', e, s _ _ h0, s _ _ h1, s _ _ h2, s _ _ h3, s _ _ h4, s _ _ h5⟩⟩
instance : Mono (RuleR K) := ⟨fun s h => by
  obtain ⟨x, dx, i, b, a, o, c, e, h0, h1, h2, h3, h4, h5⟩ := h
  exact ⟨x, dx, i, b, a, o, c, e, s _ _ h0, Mono.mono s h1, Mono.mono s h2, Mono.mono s h3, Mono.mono s h4, Mono.mono s h5⟩⟩
instance : Mono (LookR K) := ⟨fun s h => by
  obtain ⟨x, dx, r, e, h0, h1⟩ := h
  exact ⟨x, dx, r, e, s _ _ h0, Mono.mono s h1⟩⟩
instance : Mono (FontR K) := ⟨fun s h => by
  obtain ⟨x, dx, g, l, ch, fe, ax, re, fu, pr, e, h0, h1, h2⟩ := h
  exact ⟨x, dx, g, l, ch, fe, ax, re, fu, pr, e, s _ _ h0, Mono.mono s h1, Mono.mono s h2⟩⟩
instance : Mono (AutoR K) := ⟨fun s h => by
  obtain ⟨x, dx, f, b, e, h0, h1, h2⟩ := h
  exact ⟨x, dx, f, b, e, s _ _ h0, Mono.mono s h1, Mono.mono s h2⟩⟩
end
/-- the patterns of a side -/
def sideName (fore : Bool) : Str := if fore = true then "fore" else "back"
def patOf (fore : Bool) (r : RuleD) : Pat := if fore = true then r.inside ++ r.ahead else r.back
def patsOf (fore : Bool) (l : LkD) : List Pat := l.rules.map (patOf fore)
/-- the lengths that the walk asks -/
structure LkLen (l : LkD) : Prop where
  rules : l.rules.length ≤ 1000
  sets : ∀ r ∈ l.rules, r.inside.length ≤ 1000 ∧ r.ahead.length ≤ 1000 ∧ r.back.length ≤ 1000
end K26


set_option maxHeartbeats 4000000
namespace K26
open PySem PySem.Spec PyProof.Rows L2
section
variable {P : Program} {w : World} {K : PySem.W.Frag} {mg : Str → Option Value} {base : Heap}
/-! ### patterns -/
def spPats (K : PySem.W.Frag) : Sp := fun vs H Q _ => ∃ (f : FontD) (n : Nat) (lk : LkD) (fore : Bool) (fv : V), vs = [fv, .int n, .str (sideName fore)] ∧ FontR K H fv f ∧ f.lks[n]? = some lk ∧ LkLen lk ∧
  ∀ H' v, Same H H' → PtsR H' v (patsOf fore lk) → Q v H'
theorem sc_pats : FnScope ["font", "lookup", "side", "rule"] ["font", "lookup", "side"] (defScope s_patterns) := ⟨rfl, rfl, rfl, by decide +kernel, rfl, by decide +kernel, by decide +kernel⟩
theorem c_pats (T : Txt K mg) : Cal P w K mg base 1 "patterns" ["font", "lookup", "side"] (spPats K) := by
  obtain ⟨fd, F⟩ := T.f_patterns
  refine cal_of F T.g_patterns sc_pats (fun vs H Q E h => ?_) (fun _ _ _ _ _ _ us hl => match us, hl with | [_, _, _], _ => rfl) (fun cdv A outer s H vs Q E hr h => ?_)
  · obtain ⟨f, n, lk, fore, fv, rfl, _⟩ := h
    rfl
  · obtain ⟨f, n, lk, fore, fv, rfl, ⟨x, dx, g, l, ch, fe, ax, re, fu, pr, rfl, hx, hg, hl⟩, hn, ll, k⟩ := h
    obtain ⟨la, lvs, rfl, hla, lp⟩ := hl
    obtain ⟨lv, hlv, ⟨y, dy, r, rfl, hy, hr'⟩⟩ := paired_get lp hn
    obtain ⟨ra, rvs, rfl, hra, rp⟩ := hr'
    have nd := sc_pats.nd
    refine ⟨_, pss_cons (ps_if (pt_cmpR op_eq (pv 2) pe_str (nomark _))
        (pss_one (ps_ret (pe_lc (own := [("rule", 3)]) (g := gName 3) (tt := tYes) (te := tOp rCat (tFld K (tVar 3) "inside") (tFld K (tVar 3) "ahead")) rfl nd (pi_list (pe_fld (pe_ix ix_list (pe_fld (pv 0) rfl) (pv 1) (fun _ _ => rfl)) rfl)) (blkOk_by (N := ["font", "lookup", "side", "rule"]) (sc := defScope s_patterns) (by decide +kernel))
          (fun _ _ _ _ _ => pg_name (i := 3) nd rfl (Or.inl rfl)) (fun _ _ _ _ _ => pts_nil) (fun _ _ _ _ _ => pe_op op_cat (pe_fld (pv 3) rfl) (pe_fld (pv 3) rfl))))) pss_nil)
      (pss_one (ps_ret (pe_lc (own := [("rule", 3)]) (g := gName 3) (tt := tYes) (te := tCB (rListOf K) (tCons (tFld K (tVar 3) "back") tNil)) rfl nd (pi_list (pe_fld (pe_ix ix_list (pe_fld (pv 0) rfl) (pv 1) (fun _ _ => rfl)) rfl)) (blkOk_by (N := ["font", "lookup", "side", "rule"]) (sc := defScope s_patterns) (by decide +kernel))
          (fun _ _ _ _ _ => pg_name (i := 3) nd rfl (Or.inl rfl)) (fun _ _ _ _ _ => pts_nil) (fun _ _ _ _ _ => pe_callTy call_list_of (by rfl) T.b_list boot_list (pa_cons (pe_fld (pv 3) rfl) pa_nil))))), ?_⟩
    have hlen : rvs.length = (patsOf fore lk).length := by
      rw [rp.length]
      unfold patsOf
      rw [List.length_map]
    have hz : rvs.length < sizeLine := len_small (by rw [rp.length]; have := ll.rules; omega)
    refine ⟨_, rfl, rfl, _, rfl, ?_⟩
    cases fore with
    | true =>
      refine iteT ⟨_, rfl, x, _, dx, _, _, rfl, hx, T.cls_Font, T.no_Font_lookups, rfl, _, rfl, la, lvs, n, _, rfl, rfl, SqL.of hla, atI_nat hlv, y, _, dy, _, _, rfl, hy, T.cls_Lookup, T.no_Lookup_rules, rfl,
        ra, rfl, ⟨_, SqL.of hra⟩, fun D hD => lc_map (K := K) (a := ra) (xs := rvs) PatR [] (patsOf true lk) (fun b hb => absurd hb List.not_mem_nil) hD (SqL.of hra) hlen hz ?_ fun H' sm _ hL => k H' _ sm (Mono.mono cut_same hL)⟩
      intro i xv yv H2 hxi hyi sm smc _ Q2 kQ
      obtain ⟨rd, hrd, ⟨z, dz, vi, vb, va, vo, vc, rfl, hz1, hi, hb, ha, ho, hc⟩⟩ := paired_getL rp hxi
      have ey : yv = patOf true rd := by
        unfold patsOf at hyi
        rw [List.getElem?_map, hrd] at hyi
        exact (Option.some.inj hyi).symm
      obtain ⟨ia, ivs, rfl, hia, ip⟩ := hi
      obtain ⟨aa, avs, rfl, haa, ap⟩ := ha
      have hrl := ll.sets rd (List.mem_of_getElem? hrd)
      have e1 := ip.length
      have e2 := ap.length
      refine ⟨rfl, _, rfl, z, _, dz, _, _, rfl, sm _ _ hz1, T.cls_Rule, T.no_Rule_inside, rfl, _, rfl, z, _, dz, _, _, rfl, sm _ _ hz1, T.cls_Rule, T.no_Rule_ahead, rfl, ia, aa, _, _, rfl, rfl, sm _ _ hia, sm _ _ haa, len_small' (by omega), fun p np => ?_⟩
      have hpD : p ∉ [D] := fun z2 => by
        have e : p = D := by simpa using z2
        have hDs := (by assumption : ∀ b ∈ [D], H2 b ≠ none) D (List.mem_cons_self ..)
        exact hDs (e ▸ np)
      refine kQ _ _ (same_upd np) ?_
      have hs2 : Same (cut [] H) (cut [D] (upd H2 p (.lst (ivs ++ avs)))) := smc.trans ((same_upd np).cutS _)
      rw [cut_nil] at hs2
      rw [ey]
      exact ⟨p, _, rfl, by rw [cut_upd_ne hpD, upd_same], paired_app (pair_mono hs2 ip) (pair_mono hs2 ap)⟩
    | false =>
      refine iteF ⟨_, rfl, x, _, dx, _, _, rfl, hx, T.cls_Font, T.no_Font_lookups, rfl, _, rfl, la, lvs, n, _, rfl, rfl, SqL.of hla, atI_nat hlv, y, _, dy, _, _, rfl, hy, T.cls_Lookup, T.no_Lookup_rules, rfl,
        ra, rfl, ⟨_, SqL.of hra⟩, fun D hD => lc_map (K := K) (a := ra) (xs := rvs) PatR [] (patsOf false lk) (fun b hb => absurd hb List.not_mem_nil) hD (SqL.of hra) hlen hz ?_ fun H' sm _ hL => k H' _ sm (Mono.mono cut_same hL)⟩
      intro i xv yv H2 hxi hyi sm smc hth Q2 kQ
      obtain ⟨rd, hrd, ⟨z, dz, vi, vb, va, vo, vc, rfl, hz1, hi, hb, ha, ho, hc⟩⟩ := paired_getL rp hxi
      have ey : yv = patOf false rd := by
        unfold patsOf at hyi
        rw [List.getElem?_map, hrd] at hyi
        exact (Option.some.inj hyi).symm
      obtain ⟨ba, bvs, rfl, hba, bp⟩ := hb
      refine ⟨rfl, _, rfl, z, _, dz, _, _, rfl, sm _ _ hz1, T.cls_Rule, T.no_Rule_back, rfl, ba, _, rfl, .inl (SqL.of (sm _ _ hba)), fun p np => ?_⟩
      have hpD : p ∉ [D] := fun z2 => by
        have e : p = D := by simpa using z2
        exact hth D (List.mem_cons_self ..) (e ▸ np)
      refine kQ _ _ (same_upd np) ?_
      have hs2 : Same (cut [] H) (cut [D] (upd H2 p (.lst bvs))) := smc.trans ((same_upd np).cutS _)
      rw [cut_nil] at hs2
      rw [ey]
      exact ⟨p, _, rfl, by rw [cut_upd_ne hpD, upd_same], pair_mono hs2 bp⟩
/-! ### status_after of no glyph -/
def spAfter : Sp := fun vs H Q _ => ∃ (ps : List Pat) (pv rv : V), vs = [pv, rv] ∧ PtsR H pv ps ∧ IL H rv [] ∧ ps.length ≤ 1000 ∧ ∀ H' p, Same H H' → H p = none → H' p = some (.lst ((st0 ps).map V.int)) → Q (.ref p) H'
theorem sc_after : FnScope ["patterns_now", "row", "status", "glyph"] ["patterns_now", "row"] (defScope s_status_after) := ⟨rfl, rfl, rfl, by decide +kernel, rfl, by decide +kernel, by decide +kernel⟩
theorem flat_rep (n : Nat) : (List.replicate n ([V.int 0] : List V)).flatten = (List.replicate n (0 : Int)).map V.int := by
  induction n with
  | zero => rfl
  | succ n ih =>
    rw [List.replicate_succ, List.flatten_cons, ih, List.replicate_succ, List.map_cons]
    rfl
theorem c_after (T : Txt K mg) : Cal P w K mg base 1 "status_after" ["patterns_now", "row"] spAfter := by
  obtain ⟨fd, F⟩ := T.f_status_after
  refine cal_of F T.g_status_after sc_after (fun vs H Q E h => ?_) (fun _ _ _ _ _ _ us hl => match us, hl with | [_, _], _ => rfl) (fun cdv A outer s H vs Q E hr h => ?_)
  · obtain ⟨ps, a, b, rfl, _⟩ := h
    rfl
  · obtain ⟨ps, _, _, rfl, ⟨a, pvs, rfl, ha, pp⟩, ⟨b, rfl, hb⟩, hl, k⟩ := h
    have nd := sc_after.nd
    refine ⟨_, pss_cons (ps_set (i := 2) nd rfl (.inl rfl) (pe_op op_rep (pe_lst (pa_cons pe_int pa_nil)) (pe_callB call_len_seq (by rfl) T.b_len boot_len (pa_cons (pv 0) pa_nil))))
      (pss_cons (ps_for PassesOwn.never rfl (pi_list (pv 1)) (pg_name (i := 3) nd rfl (.inl rfl)) pss_never)
      (pss_one (ps_ret (pv 2)))), ?_⟩
    have hpl := pp.length
    refine ⟨(by show 1 ≤ sizeLine; decide), fun o no => ?_⟩
    have s0 : Same H (upd H o (.lst [V.int 0])) := same_upd no
    refine ⟨_, rfl, a, pvs, rfl, .inl (SqL.of (s0 _ _ ha)), o, _, _, rfl, rfl, upd_same, by omega, by omega, ?_, fun p np => ?_⟩
    · rw [List.length_singleton, Nat.one_mul, Int.toNat_natCast]
      exact len_small' (by omega)
    · have s1 : Same H (upd (upd H o (.lst [V.int 0])) p (.lst ((List.replicate ((pvs.length : Int)).toNat [V.int 0]).flatten))) := s0.trans (same_upd np)
      refine ⟨_, rfl, b, rfl, ⟨_, SqL.of (s1 _ _ hb)⟩, for_list (K := K) (a := b) (xs := []) (fun i σ H1 => σ = [some (.ref a), some (.ref b), some (.ref p), none] ∧ H1 = _) ⟨rfl, rfl⟩ (fun i σ H1 _ ⟨_, e⟩ => by rw [e]; exact SqL.of (s1 _ _ hb)) (fun i x σ H1 hx _ => by simp at hx) ?_⟩
      rintro σ H1 ⟨rfl, rfl⟩
      refine ⟨_, rfl, k _ p s1 (s0.free np) ?_⟩
      rw [upd_same, Int.toNat_natCast, flat_rep, hpl]
      rfl
/-! ### side_of -/
abbrev Side : Type := List (List Int) × List (List Int)
def sideOf (fore : Bool) (p : Side × Side) : Side := if fore = true then p.1 else p.2
def spSideOf (K : PySem.W.Frag) : Sp := fun vs H Q _ => ∃ (p : Side × Side) (fore : Bool) (av : V), vs = [av, .str (sideName fore)] ∧ AutoR K H av p ∧ ∀ v, SideR H v (sideOf fore p) → Q v H
theorem sc_side : FnScope ["automaton", "side"] ["automaton", "side"] (defScope s_side_of) := ⟨rfl, rfl, rfl, by decide +kernel, rfl, by decide +kernel, by decide +kernel⟩
theorem c_side (T : Txt K mg) : Cal P w K mg base 1 "side_of" ["automaton", "side"] (spSideOf K) := by
  obtain ⟨fd, F⟩ := T.f_side_of
  refine cal_of F T.g_side_of sc_side (fun vs H Q E h => ?_) (fun _ _ _ _ _ _ us hl => match us, hl with | [_, _], _ => rfl) (fun cdv A outer s H vs Q E hr h => ?_)
  · obtain ⟨p, fore, av, rfl, _⟩ := h
    rfl
  · obtain ⟨p, fore, av, rfl, ⟨x, dx, f, b, rfl, hx, hf, hb⟩, k⟩ := h
    refine ⟨_, pss_cons (ps_if (pt_cmpR op_eq (pv 1) pe_str (nomark _)) (pss_one (ps_ret (pe_fld (pv 0) rfl))) pss_nil) (pss_one (ps_ret (pe_fld (pv 0) rfl))), ?_⟩
    refine ⟨_, rfl, rfl, _, rfl, ?_⟩
    cases fore with
    | true => exact iteT ⟨_, rfl, x, _, dx, _, _, rfl, hx, T.cls_Automaton, T.no_Automaton_fore, rfl, k _ hf⟩
    | false => exact iteF ⟨_, rfl, x, _, dx, _, _, rfl, hx, T.cls_Automaton, T.no_Automaton_back, rfl, k _ hb⟩
/-! ### copied_side, Automaton's __init__ -/
structure SideLen (p : Side) : Prop where
  a : p.1.length ≤ 1000
  b : p.2.length ≤ 1000
def spCopied : Sp := fun vs H Q _ => ∃ (M : List Addr) (p : Side) (sv : V), vs = [sv] ∧ (∀ b ∈ M, H b ≠ none) ∧ SideR (cut M H) sv p ∧ SideLen p ∧ ∀ H' v, Same H H' → SideR (cut M H') v p → Q v H'
theorem sc_copied : FnScope ["side", "rows", "met", "row", "rules"] ["side"] (defScope s_copied_side) := ⟨rfl, rfl, rfl, by decide +kernel, rfl, by decide +kernel, by decide +kernel⟩
/-- [list(x) for x in xs]: the element -/
theorem copy_elt {K : PySem.W.Frag} {M : List Addr} {H2 : Hp} {D : Addr} {xv : V} {y : List Int} (hth : ∀ b ∈ D :: M, H2 b ≠ none) (h : IL H2 xv y) {Q2 : V → Hp → Prop} (kQ : ∀ v H', Same H2 H' → IL (cut (D :: M) H') v y → Q2 v H') : rListOf K [xv] H2 Q2 := by
  obtain ⟨a, rfl, ha⟩ := h
  refine ⟨a, _, rfl, .inl (SqL.of ha), fun p np => kQ _ _ (same_upd np) ⟨p, rfl, ?_⟩⟩
  rw [new_cut hth np, upd_same]
theorem c_copied (T : Txt K mg) : Cal P w K mg base 1 "copied_side" ["side"] spCopied := by
  obtain ⟨fd, F⟩ := T.f_copied_side
  refine cal_of F T.g_copied_side sc_copied (fun vs H Q E h => ?_) (fun _ _ _ _ _ _ us hl => match us, hl with | [_], _ => rfl) (fun cdv A outer s H vs Q E hr h => ?_)
  · obtain ⟨M, p, sv, rfl, _⟩ := h
    rfl
  · obtain ⟨M, ⟨rows, mets⟩, sv, rfl, hM, ⟨t, x, y, rfl, ht, ⟨xa, xvs, rfl, hxa, xp⟩, ⟨ya, yvs, rfl, hya, yp⟩⟩, ⟨l1, l2⟩, k⟩ := h
    have nd := sc_copied.nd
    have b1 := (cut_get ht).2
    have b2 := (cut_get hxa).2
    have b3 := (cut_get hya).2
    refine ⟨_, pss_cons (ps_asg (pv 0) (pg_tup rfl (pgs_cons (pg_name (i := 1) nd rfl (.inl rfl)) (pgs_cons (pg_name (i := 2) nd rfl (.inl rfl)) pgs_nil))))
      (pss_one (ps_ret (pe_tup (pa_cons (pe_lc (own := [("row", 3)]) (g := gName 3) (tt := tYes) (te := tCB (rListOf K) (tCons (tVar 3) tNil)) rfl nd (pi_list (pv 1)) (blkOk_by (N := ["side", "rows", "met", "row", "rules"]) (sc := defScope s_copied_side) (by decide +kernel))
            (fun _ _ _ _ _ => pg_name (i := 3) nd rfl (Or.inl rfl)) (fun _ _ _ _ _ => pts_nil) (fun _ _ _ _ _ => pe_callTy call_list_of (by rfl) T.b_list boot_list (pa_cons (pv 3) pa_nil)))
        (pa_cons (pe_lc (own := [("rules", 4)]) (g := gName 4) (tt := tYes) (te := tCB (rListOf K) (tCons (tVar 4) tNil)) rfl nd (pi_list (pv 2)) (blkOk_by (N := ["side", "rows", "met", "row", "rules"]) (sc := defScope s_copied_side) (by decide +kernel))
            (fun _ _ _ _ _ => pg_name (i := 4) nd rfl (Or.inl rfl)) (fun _ _ _ _ _ => pts_nil) (fun _ _ _ _ _ => pe_callTy call_list_of (by rfl) T.b_list boot_list (pa_cons (pv 4) pa_nil)))
          pa_nil))))), ?_⟩
    refine ⟨_, rfl, t, _, rfl, SqT.of b1, rfl, _, _, rfl, _, _, rfl, rfl, ?_⟩
    refine ⟨_, rfl, xa, rfl, ⟨_, SqL.of b2⟩, fun D hD => lc_map (K := K) (a := xa) (xs := xvs) IL M rows hM hD (SqL.of b2) xp.length (len_small (by rw [xp.length]; exact Nat.le_trans l1 (by decide))) ?_ fun H1 s1 c1 r1 => ?_⟩
    · intro i xv yv H2 hxi hyi sm smc hth Q2 kQ
      obtain ⟨z, hz, hq⟩ := paired_getL xp hxi
      obtain rfl : z = yv := Option.some.inj (hz.symm.trans hyi)
      exact ⟨rfl, _, rfl, copy_elt hth (Mono.mono (R := IL) (smc.trans cut_same) hq) kQ⟩
    · have hM1 := there_same s1 hM
      refine ⟨_, rfl, ya, rfl, ⟨_, SqL.of (s1 _ _ b3)⟩, fun D2 hD2 => lc_map (K := K) (a := ya) (xs := yvs) IL M mets hM1 hD2 (SqL.of (s1 _ _ b3)) yp.length (len_small (by rw [yp.length]; exact Nat.le_trans l2 (by decide))) ?_ fun H2 s2 c2 r2 => ?_⟩
      · intro i xv yv H2 hxi hyi sm smc hth Q2 kQ
        obtain ⟨z, hz, hq⟩ := paired_getL yp hxi
        obtain rfl : z = yv := Option.some.inj (hz.symm.trans hyi)
        exact ⟨rfl, _, rfl, copy_elt hth (Mono.mono (R := IL) (c1.trans (smc.trans cut_same)) hq) kQ⟩
      · refine ⟨(by show 2 ≤ sizeLine; decide), fun p np => k _ _ (s1.trans (s2.trans (same_upd np))) ?_⟩
        have hM2 := there_same s2 hM1
        have sp := (same_upd (o := .tup [V.ref D, V.ref D2]) np).cutS M
        exact ⟨p, _, _, rfl, by rw [new_cut hM2 np, upd_same], Mono.mono (c2.trans sp) r1, Mono.mono sp r2⟩
def spAutoInit (K : PySem.W.Frag) : Sp := fun vs H Q _ => ∃ (x dx : Addr) (p : Side × Side) (fv bv : V), vs = [.ref x, fv, bv] ∧ H x = some (.ins (cAuto K) dx []) ∧ SideR (cut [x] H) fv p.1 ∧ SideR (cut [x] H) bv p.2 ∧ SideLen p.1 ∧ SideLen p.2 ∧
  ∀ H', SameX x H H' → AutoR K H' (.ref x) p → Q .non H'
theorem sc_autoI : FnScope ["self", "fore", "back"] ["self", "fore", "back"] (defScope s_Automaton_init) := ⟨rfl, rfl, rfl, by decide +kernel, rfl, by decide +kernel, by decide +kernel⟩
theorem ok_autoI (T : Txt K mg) {fd : FuncData} (F : Fn K "__init__" "Automaton.__init__" s_Automaton_init [] (He.ma K (cAuto K) "__init__") fd) : FnOk P w K mg base CX0 2 (He.ma K (cAuto K) "__init__") fd ["self", "fore", "back"] (spAutoInit K) := by
  refine fn_ok F sc_autoI (fun vs H Q E h => ?_) (fun cdv A outer s H vs Q E hr h => ?_)
  · obtain ⟨x, dx, p, fv, bv, rfl, _⟩ := h
    rfl
  · obtain ⟨x, dx, p, fv, bv, rfl, hx, hf, hb, l1, l2, k⟩ := h
    refine ⟨_, pss_cons (ps_fld (pv 0) (pe_cal (c_copied T) hr rfl (pa_cons (pv 1) pa_nil)) rfl) (pss_one (ps_fld (pv 0) (pe_cal (c_copied T) hr rfl (pa_cons (pv 2) pa_nil)) rfl)), ?_⟩
    have hM : ∀ b ∈ [x], H b ≠ none := fun b hb => by
      have e : b = x := by simpa using hb
      rw [e]
      exact some_ne hx
    refine ⟨_, rfl, [x], p.1, fv, rfl, hM, hf, l1, fun H1 v1 s1 r1 => ?_⟩
    refine ⟨_, rfl, x, _, dx, _, rfl, s1 _ _ hx, T.cls_Automaton, T.no_Automaton_fore, (by show 0 < 1000; decide), ?_⟩
    have hM1 : ∀ b ∈ [x], (upd H1 x (.ins (cAuto K) dx (putF "fore" v1 []))) b ≠ none := fun b hb => by
      have e : b = x := by simpa using hb
      rw [e, upd_same]
      exact fun z => by cases z
    have cu : cut [x] (upd H1 x (.ins (cAuto K) dx (putF "fore" v1 []))) = cut [x] H1 := cut_upd (List.mem_singleton.mpr rfl)
    refine ⟨_, rfl, [x], p.2, bv, rfl, hM1, by rw [cu]; exact Mono.mono (s1.cutS _) hb, l2, fun H2 v2 s2 r2 => ?_⟩
    refine ⟨_, rfl, x, _, dx, _, rfl, s2 _ _ upd_same, T.cls_Automaton, T.no_Automaton_back, (by show 1 < 1000; decide), ?_⟩
    refine k _ (fun b o n e => ?_) ⟨x, dx, v1, v2, rfl, upd_same, ?_, ?_⟩
    · rw [upd_ne n]
      exact s2 _ _ (by rw [upd_ne n]; exact s1 _ _ e)
    · have s3 : Same (cut [x] H1) (cut [x] H2) := by
        have s4 := s2.cutS [x]
        rw [cu] at s4
        exact s4
      have s5 : Same (cut [x] H2) (upd H2 x (.ins (cAuto K) dx (putF "back" v2 (putF "fore" v1 [])))) := by
        have e := cut_same (M := [x]) (H := upd H2 x (.ins (cAuto K) dx (putF "back" v2 (putF "fore" v1 []))))
        rw [cut_upd (List.mem_singleton.mpr rfl)] at e
        exact e
      exact Mono.mono (s3.trans s5) r1
    · have s5 : Same (cut [x] H2) (upd H2 x (.ins (cAuto K) dx (putF "back" v2 (putF "fore" v1 [])))) := by
        have e := cut_same (M := [x]) (H := upd H2 x (.ins (cAuto K) dx (putF "back" v2 (putF "fore" v1 []))))
        rw [cut_upd (List.mem_singleton.mpr rfl)] at e
        exact e
      exact Mono.mono s5 r2
end
end K26


set_option maxHeartbeats 4000000
namespace K26
open PySem PySem.Spec PyProof.Rows L2
theorem int_at {ns : List Int} {i : Nat} {v : V} (h : (ns.map V.int)[i]? = some v) : ∃ n, ns[i]? = some n ∧ v = .int n := by
  rw [List.getElem?_map] at h
  cases e : ns[i]? with
  | none =>
    rw [e] at h
    cases h
  | some n =>
    rw [e] at h
    exact ⟨n, rfl, (Option.some.inj h).symm⟩
theorem int_at_of {ns : List Int} {i : Nat} {n : Int} (h : ns[i]? = some n) : (ns.map V.int)[i]? = some (.int n) := by
  rw [List.getElem?_map, h]
  rfl
theorem mem_at {α : Type} {l : List α} {i : Nat} {x : α} (h : l[i]? = some x) : x ∈ l := List.mem_of_getElem? h
/-! ### what a side that fits has -/
structure FitOk (p : Side) (c rc : Nat) : Prop where
  pos : 0 < p.1.length
  eq : p.1.length = p.2.length
  le : p.1.length ≤ 1000
  cle : c ≤ 1000
  row : ∀ r ∈ p.1, r.length = c ∧ ∀ i ∈ r, 0 ≤ i ∧ i < (p.1.length : Int)
  met : ∀ ms ∈ p.2, (∀ r ∈ ms, 0 ≤ r ∧ r < (rc : Int)) ∧ ms.Pairwise (· < ·)
section
variable {P : Program} {w : World} {K : PySem.W.Frag} {mg : Str → Option Value} {base : Heap}
def spSFits : Sp := fun vs H Q _ => ∃ (p : Side) (c rc : Nat) (sv : V), vs = [sv, .int c, .int rc] ∧ SideR H sv p ∧ FitOk p c rc ∧ ∀ H', Same H H' → Q (.bl true) H'
theorem sc_sfits : FnScope ["side", "glyph_count", "rule_count", "rows", "met", "row", "rules", "index", "rule", "state"] ["side", "glyph_count", "rule_count"] (defScope s_side_fits) := ⟨rfl, rfl, rfl, by decide +kernel, rfl, by decide +kernel, by decide +kernel⟩
theorem any_false (n : Nat) : (List.replicate n false).any id = false := by
  induction n with
  | zero => rfl
  | succ n ih => rw [List.replicate_succ, List.any_cons, ih]; rfl
theorem c_sfits (T : Txt K mg) : Cal P w K mg base 1 "side_fits" ["side", "glyph_count", "rule_count"] spSFits := by
  obtain ⟨fd, F⟩ := T.f_side_fits
  refine cal_of F T.g_side_fits sc_sfits (fun vs H Q E h => ?_) (fun _ _ _ _ _ _ us hl => match us, hl with | [_, _, _], _ => rfl) (fun cdv A outer s H vs Q E hr h => ?_)
  · obtain ⟨p, c, rc, sv, rfl, _⟩ := h
    rfl
  · obtain ⟨⟨rows, mets⟩, c, rc, sv, rfl, ⟨t, x, y, rfl, ht, ⟨xa, xvs, rfl, hxa, xp⟩, ⟨ya, yvs, rfl, hya, yp⟩⟩, ok, k⟩ := h
    have nd := sc_sfits.nd
    have l1 : xvs.length = rows.length := xp.length
    have l2 : yvs.length = mets.length := yp.length
    have hpos : 0 < rows.length := ok.pos
    have heq : rows.length = mets.length := ok.eq
    have hle : rows.length ≤ 1000 := ok.le
    refine ⟨_, pss_cons (ps_asg (pv 0) (pg_tup rfl (pgs_cons (pg_name (i := 3) nd rfl (.inr rfl)) (pgs_cons (pg_name (i := 4) nd rfl (.inl rfl)) pgs_nil))))
      (pss_cons (ps_if (PW.pt (pw_or (pt_cmpR op_eq (pe_callB call_len_seq (by rfl) T.b_len boot_len (pa_cons (pv 3) pa_nil)) pe_int (nomark _)) (pw_or1 (pt_cmpR op_ne (pe_callB call_len_seq (by rfl) T.b_len boot_len (pa_cons (pv 3) pa_nil)) (pe_callB call_len_seq (by rfl) T.b_len boot_len (pa_cons (pv 4) pa_nil)) (nomark _)))))
        (pss_one (ps_ret pe_bl)) pss_nil)
      (pss_cons (ps_for PassesOwn.never rfl (pi_list (pv 3)) (pg_name (i := 5) nd rfl (.inl rfl))
        (pss_one (ps_if (PW.pt (pw_or (pt_cmpR op_ne (pe_callB call_len_seq (by rfl) T.b_len boot_len (pa_cons (pv 5) pa_nil)) (pv 1) (nomark _)) (pw_or1 (pt_val (pe_callB (cr_any rfl) (by rfl) T.b_any (by decide +kernel)
            (pa_cons (pe_lc (own := [("state", 9)]) (g := gName 9) (tt := tYes) (te := tNotV (tChain rLe rLt (tC (.int 0)) (tVar 9) (tCB (rLenSeq K) (tCons (tVar 3) tNil)))) rfl nd (pi_list (pv 5)) (blkOk_by (N := ["side", "glyph_count", "rule_count", "rows", "met", "row", "rules", "index", "rule", "state"]) (sc := defScope s_side_fits) (by decide +kernel))
              (fun _ _ _ _ _ => pg_name (i := 9) nd rfl (Or.inl rfl)) (fun _ _ _ _ _ => pts_nil) (fun _ _ _ _ _ => pe_not (pe_chain op_le op_lt pe_int (pv 9) (pe_callB call_len_seq (by rfl) T.b_len boot_len (pa_cons (pv 3) pa_nil))))) pa_nil))))))
          (pss_one (ps_ret pe_bl)) pss_nil)))
      (pss_cons (ps_for PassesOwn.never rfl (pi_list (pv 4)) (pg_name (i := 6) nd rfl (.inl rfl))
        (pss_one (ps_for PassesOwn.never rfl (pi_enum (by rfl) T.b_enumerate (pa_cons (pv 6) pa_nil)) (pg_tup rfl (pgs_cons (pg_name (i := 7) nd rfl (.inl rfl)) (pgs_cons (pg_name (i := 8) nd rfl (.inl rfl)) pgs_nil)))
          (pss_one (ps_if (PW.pt (pw_or (pt_not (pt_chain op_le op_lt pe_int (pv 8) (pv 2))) (pw_or1 (PW.pt (pw_and (pt_cmpR op_gt (pv 7) pe_int (nomark _)) (pw_and1 (pt_cmpR op_ge (pe_ix ix_list (pv 6) (pe_op op_sub (pv 7) pe_int) (fun _ _ => rfl)) (pv 8) (nomark _))))))))
            (pss_one (ps_ret pe_bl)) pss_nil)))))
      (pss_one (ps_ret pe_bl))))), ?_⟩
    refine ⟨_, rfl, t, _, rfl, SqT.of ht, rfl, _, _, rfl, _, _, rfl, rfl, ?_⟩
    -- the lengths
    refine ⟨_, rfl, xa, _, rfl, .inl (SqL.of hxa), rfl, _, rfl, ite2 (fun e => ?_) (fun _ => ?_)⟩
    · have e0 : (xvs.length : Int) = 0 := V.int.inj (of_decide_eq_true e)
      exact absurd hpos (by omega)
    refine ⟨_, rfl, xa, _, rfl, .inl (SqL.of hxa), _, rfl, ya, _, rfl, .inl (SqL.of hya), rfl, _, rfl, ?_⟩
    refine iteNS (by rw [l1, l2, heq]) ?_
    -- the rows
    refine ⟨_, rfl, xa, rfl, ⟨_, SqL.of hxa⟩, for_list (K := K) (a := xa) (xs := xvs) (fun i σ H1 => ∃ y5, σ = [some (.ref t), some (.int c), some (.int rc), some (.ref xa), some (.ref ya), y5, none, none, none, none] ∧ Same H H1)
      ⟨none, rfl, Same.refl _⟩ (fun i σ H1 _ ⟨_, _, sm⟩ => SqL.of (sm _ _ hxa)) ?_ ?_⟩
    · rintro i xv σ H1 hxi ⟨y5, rfl, sm⟩
      obtain ⟨row, hrow, ⟨ra, rfl, hra⟩⟩ := paired_getL xp hxi
      obtain ⟨r1, r2⟩ := ok.row row (mem_at hrow)
      have hra1 := sm _ _ hra
      refine ⟨_, rfl, ra, _, rfl, .inl (SqL.of hra1), _, rfl, rfl, _, rfl, iteNS (by rw [List.length_map, r1]) ?_⟩
      refine ⟨_, rfl, ra, rfl, ⟨_, SqL.of hra1⟩, fun D hD => lc_map (K := K) (a := ra) (xs := row.map V.int) BL [] (List.replicate row.length false) (fun b hb => absurd hb List.not_mem_nil) hD (SqL.of hra1) (by rw [List.length_map, List.length_replicate])
        (by rw [List.length_map, r1]; exact len_small (Nat.le_trans ok.cle (by decide))) ?_ fun H2 s2 _ r => ?_⟩
      · intro j jv bv H2 hj hb s2 _ hth Q2 kQ
        obtain ⟨n, hn, rfl⟩ := int_at hj
        have hb2 := r2 n (mem_at hn)
        obtain rfl : false = bv := by
          rw [List.getElem?_replicate] at hb
          split at hb
          · exact Option.some.inj hb
          · cases hb
        refine ⟨rfl, _, rfl, _, _, rfl, rfl, _, rfl, ite2 (fun _ => ?_) (fun e => absurd (decide_eq_true hb2.1) e)⟩
        refine ⟨_, rfl, xa, _, rfl, .inl (SqL.of (s2 _ _ (sm _ _ hxa))), _, _, rfl, rfl, _, rfl, ?_⟩
        have e : decide (n < (xvs.length : Int)) = true := decide_eq_true (by rw [l1]; exact hb2.2)
        rw [e]
        exact kQ _ _ (Same.refl _) rfl
      · obtain ⟨a, ea, ha⟩ := (Mono.mono cut_same r : Ls BL H2 _ _).bl
        refine ⟨a, _, by rw [ea], SqL.of ha, _, rfl, ?_⟩
        rw [any_false]
        exact ⟨_, rfl, sm.trans s2⟩
    · rintro σ H1 ⟨y5, rfl, sm⟩
      -- the lists of rules
      refine ⟨_, rfl, ya, rfl, ⟨_, SqL.of (sm _ _ hya)⟩, for_list (K := K) (a := ya) (xs := yvs) (fun i σ H1 => ∃ y6 y7 y8, σ = [some (.ref t), some (.int c), some (.int rc), some (.ref xa), some (.ref ya), y5, y6, y7, y8, none] ∧ Same H H1)
        ⟨none, none, none, rfl, sm⟩ (fun i σ H1 _ ⟨_, _, _, _, sm⟩ => SqL.of (sm _ _ hya)) ?_ ?_⟩
      · rintro i xv σ H2 hxi ⟨y6, y7, y8, rfl, sm2⟩
        obtain ⟨ms, hms, ⟨ra, rfl, hra⟩⟩ := paired_getL yp hxi
        obtain ⟨r1, r2⟩ := ok.met ms (mem_at hms)
        refine ⟨_, rfl, ra, _, rfl, SqL.of (sm2 _ _ hra), for_enum (K := K) (a := ra) (xs := ms.map V.int) (fun i σ H1 => ∃ y7 y8, σ = [some (.ref t), some (.int c), some (.int rc), some (.ref xa), some (.ref ya), y5, some (.ref ra), y7, y8, none] ∧ Same H H1)
          ⟨y7, y8, rfl, sm2⟩ (fun i σ H1 ⟨_, _, _, sm⟩ => SqL.of (sm _ _ hra)) ?_ ?_⟩
        · rintro j jv u σ H3 hj ⟨y7', y8', rfl, sm3⟩ nu
          obtain ⟨n, hn, rfl⟩ := int_at hj
          have hb := r1 n (mem_at hn)
          have s4 : Same H3 (upd H3 u (.tup [V.int (j : Nat), V.int n])) := same_upd nu
          refine ⟨u, _, rfl, SqT.of upd_same, rfl, _, _, rfl, _, _, rfl, rfl, ?_⟩
          refine ⟨_, rfl, _, _, rfl, rfl, _, rfl, ite2 (fun _ => ?_) (fun e => absurd (decide_eq_true hb.1) e)⟩
          refine ⟨_, rfl, _, _, rfl, rfl, _, rfl, ?_⟩
          have e : decide (n < (rc : Int)) = true := decide_eq_true hb.2
          rw [e]
          refine iteF ⟨_, rfl, _, _, rfl, rfl, _, rfl, ite2 (fun e1 => ?_) (fun e1 => ?_)⟩
          · have hj0 : 0 < j := by
              have := of_decide_eq_true e1
              omega
            have hjm : j - 1 < ms.length := by
              have := (List.getElem?_eq_some_iff.mp hn).1
              omega
            refine ⟨_, rfl, _, rfl, _, _, rfl, rfl, ra, _, _, _, rfl, rfl, SqL.of (s4 _ _ (sm3 _ _ hra)), at_of (j := j - 1) (by omega) (int_at_of (List.getElem?_eq_getElem hjm)), _, rfl, _, _, rfl, rfl, _, rfl, ?_⟩
            have lt : ms[j - 1] < n := by
              obtain ⟨hjl, en⟩ := List.getElem?_eq_some_iff.mp hn
              rw [← en]
              exact List.pairwise_iff_getElem.mp r2 (j - 1) j hjm hjl (by omega)
            have e2 : decide (n ≤ ms[j - 1]) = false := decide_eq_false (by omega)
            rw [e2]
            exact iteF ⟨_, _, rfl, sm3.trans s4⟩
          · exact iteF ⟨_, _, rfl, sm3.trans s4⟩
        · rintro σ H3 ⟨y7', y8', rfl, sm3⟩
          exact ⟨_, _, _, rfl, sm3⟩
      · rintro σ H2 ⟨y6, y7, y8, rfl, sm2⟩
        exact k _ sm2
/-! ### fits -/
def spFits (K : PySem.W.Frag) : Sp := fun vs H Q _ => ∃ (f : FontD) (n : Nat) (lk : LkD) (p : Side × Side) (fv av : V), vs = [fv, .int n, av] ∧ FontR K H fv f ∧ f.lks[n]? = some lk ∧ AutoR K H av p ∧ FitOk p.1 f.gls.length lk.rules.length ∧ FitOk p.2 f.gls.length lk.rules.length ∧
  ∀ H', Same H H' → Q (.bl true) H'
theorem sc_fits : FnScope ["font", "lookup", "automaton", "glyph_count", "rule_count"] ["font", "lookup", "automaton"] (defScope s_fits) := ⟨rfl, rfl, rfl, by decide +kernel, rfl, by decide +kernel, by decide +kernel⟩
theorem c_fits (T : Txt K mg) : Cal P w K mg base 2 "fits" ["font", "lookup", "automaton"] (spFits K) := by
  obtain ⟨fd, F⟩ := T.f_fits
  refine cal_of F T.g_fits sc_fits (fun vs H Q E h => ?_) (fun _ _ _ _ _ _ us hl => match us, hl with | [_, _, _], _ => rfl) (fun cdv A outer s H vs Q E hr h => ?_)
  · obtain ⟨f, n, lk, p, fv, av, rfl, _⟩ := h
    rfl
  · obtain ⟨f, n, lk, p, fv, av, rfl, ⟨x, dx, g, l, ch, fe, ax, re, fu, pr, rfl, hx, ⟨ga, gvs, rfl, hga, gp⟩, ⟨la, lvs, rfl, hla, lp⟩⟩, hn, ⟨z, dz, fo, ba, rfl, hz, hf, hb⟩, o1, o2, k⟩ := h
    obtain ⟨lv, hlv, ⟨y, dy, r, rfl, hy, ⟨ra, rvs, rfl, hra, rp⟩⟩⟩ := paired_get lp hn
    have nd := sc_fits.nd
    refine ⟨_, pss_cons (ps_set (i := 3) nd rfl (.inl rfl) (pe_callB call_len_seq (by rfl) T.b_len boot_len (pa_cons (pe_fld (pv 0) rfl) pa_nil)))
      (pss_cons (ps_set (i := 4) nd rfl (.inl rfl) (pe_callB call_len_seq (by rfl) T.b_len boot_len (pa_cons (pe_fld (pe_ix ix_list (pe_fld (pv 0) rfl) (pv 1) (fun _ _ => rfl)) rfl) pa_nil)))
      (pss_one (ps_ret (pe_and (pe_cal (c_sfits T) hr rfl (pa_cons (pe_fld (pv 2) rfl) (pa_cons (pv 3) (pa_cons (pv 4) pa_nil)))) (pe_one (pe_cal (c_sfits T) hr rfl (pa_cons (pe_fld (pv 2) rfl) (pa_cons (pv 3) (pa_cons (pv 4) pa_nil))))))))), ?_⟩
    refine ⟨_, rfl, x, _, dx, _, _, rfl, hx, T.cls_Font, T.no_Font_glyphs, rfl, ga, _, rfl, .inl (SqL.of hga), ?_⟩
    refine ⟨_, rfl, x, _, dx, _, _, rfl, hx, T.cls_Font, T.no_Font_lookups, rfl, _, rfl, la, lvs, n, _, rfl, rfl, SqL.of hla, atI_nat hlv, y, _, dy, _, _, rfl, hy, T.cls_Lookup, T.no_Lookup_rules, rfl, ra, _, rfl, .inl (SqL.of hra), ?_⟩
    refine ⟨_, rfl, z, _, dz, _, _, rfl, hz, T.cls_Automaton, T.no_Automaton_fore, rfl, _, rfl, _, rfl, ?_⟩
    refine ⟨p.1, gvs.length, rvs.length, fo, rfl, hf, by rw [gp.length, rp.length]; exact o1, fun H1 s1 => ⟨true, rfl, iteT ?_⟩⟩
    refine ⟨_, rfl, z, _, dz, _, _, rfl, s1 _ _ hz, T.cls_Automaton, T.no_Automaton_back, rfl, _, rfl, _, rfl, ?_⟩
    exact ⟨p.2, gvs.length, rvs.length, ba, rfl, Mono.mono s1 hb, by rw [gp.length, rp.length]; exact o2, fun H2 s2 => k _ (s1.trans s2)⟩
/-! ### read, met_by -/
structure Built (ps : List Pat) (c k : Nat) : Prop where
  sm : Small ps
  fin : Fin ps c k
def spRead (K : PySem.W.Frag) : Sp := fun vs H Q _ => ∃ (p : Side × Side) (fore : Bool) (ps : List Pat) (c k : Nat) (word : List Int) (av wv : V), vs = [av, .str (sideName fore), wv] ∧ AutoR K H av p ∧ sideOf fore p = (rowsOf ps c k, metOf ps c k) ∧ Built ps c k ∧ IL H wv word ∧
  (∀ g ∈ word, 0 ≤ g ∧ g < (c : Int)) ∧ ∀ st : Nat, st < k → (tn ps c k).1[st]? = some (stW ps word) → Q (.int st) H
theorem sc_read : FnScope ["automaton", "side", "row", "state", "rows", "glyph"] ["automaton", "side", "row"] (defScope s_read) := ⟨rfl, rfl, rfl, by decide +kernel, rfl, by decide +kernel, by decide +kernel⟩
theorem c_read (T : Txt K mg) : Cal P w K mg base 2 "read" ["automaton", "side", "row"] (spRead K) := by
  obtain ⟨fd, F⟩ := T.f_read
  refine cal_of F T.g_read sc_read (fun vs H Q E h => ?_) (fun _ _ _ _ _ _ us hl => match us, hl with | [_, _, _], _ => rfl) (fun cdv A outer s H vs Q E hr h => ?_)
  · obtain ⟨p, fore, ps, c, k, word, av, wv, rfl, _⟩ := h
    rfl
  · obtain ⟨p, fore, ps, c, k, word, av, wv, rfl, ha, es, B, ⟨wa, rfl, hwa⟩, hw, kk⟩ := h
    have nd := sc_read.nd
    refine ⟨_, pss_cons (ps_set (i := 3) nd rfl (.inl rfl) pe_int) (pss_cons (ps_set (i := 4) nd rfl (.inl rfl) (pe_ix ix_tup (pe_cal (c_side T) hr rfl (pa_cons (pv 0) (pa_cons (pv 1) pa_nil))) pe_int (fun _ _ => rfl)))
      (pss_cons (ps_for PassesOwn.never rfl (pi_list (pv 2)) (pg_name (i := 5) nd rfl (.inl rfl)) (pss_one (ps_set (i := 3) nd rfl (.inl rfl) (pe_ix ix_list (pe_ix ix_list (pv 4) (pv 3) (fun _ _ => rfl)) (pv 5) (fun _ _ => rfl)))))
      (pss_one (ps_ret (pv 3))))), ?_⟩
    refine ⟨_, rfl, _, rfl, p, fore, av, rfl, ha, fun v hv => ?_⟩
    rw [es] at hv
    obtain ⟨t, x, y, rfl, ht, ⟨xa, xvs, rfl, hxa, xp⟩, hy⟩ := hv
    refine ⟨t, _, 0, _, rfl, rfl, SqT.of ht, atI_nat (j := 0) rfl, ?_⟩
    have h0 := (tn_ok B.sm c k B.fin.2).zero
    refine ⟨_, rfl, wa, rfl, ⟨_, SqL.of hwa⟩, for_list (K := K) (a := wa) (xs := word.map V.int) (fun i σ H1 => ∃ (st : Nat) (y5 : Option V), st < k ∧ (tn ps c k).1[st]? = some ((word.take i).foldl (nxS ps) (st0 ps)) ∧ σ = [some av, some (.str (sideName fore)), some (.ref wa), some (.int st), some (.ref xa), y5] ∧ H1 = H)
      ⟨0, none, B.fin.pos B.sm, h0, rfl, rfl⟩ (fun i σ H1 _ ⟨_, _, _, _, _, e⟩ => by rw [e]; exact SqL.of hwa) ?_ ?_⟩
    · rintro i gv σ H1 hi ⟨st, y5, hst, hs, rfl, rfl⟩
      obtain ⟨g, hg, rfl⟩ := int_at hi
      obtain ⟨hg0, hgc⟩ := hw g (mem_at hg)
      obtain ⟨row, j, hrow, hj, hjk, hn⟩ := B.fin.step B.sm hs hg0 hgc
      obtain ⟨rv, hrv, ⟨ra, rfl, hra⟩⟩ := paired_get xp hrow
      refine ⟨_, rfl, _, rfl, xa, _, st, _, rfl, rfl, SqL.of hxa, atI_nat hrv, _, rfl, ra, _, g, _, rfl, rfl, SqL.of hra, at_of (j := g.toNat) (by omega) (int_at_of hj), j, _, hjk, ?_, rfl, rfl⟩
      rw [hn, List.take_add_one, hg, Option.toList_some, List.foldl_append]
      rfl
    · rintro σ H1 ⟨st, y5, hst, hs, rfl, rfl⟩
      rw [List.length_map, List.take_length] at hs
      exact ⟨_, rfl, kk st hst hs⟩
def spMetBy (K : PySem.W.Frag) : Sp := fun vs H Q _ => ∃ (p : Side × Side) (fore : Bool) (ps : List Pat) (c k : Nat) (word : List Int) (av wv : V), vs = [av, .str (sideName fore), wv] ∧ AutoR K H av p ∧ sideOf fore p = (rowsOf ps c k, metOf ps c k) ∧ Built ps c k ∧ IL H wv word ∧
  (∀ g ∈ word, 0 ≤ g ∧ g < (c : Int)) ∧ ∀ q, H q = none → Q (.ref q) (upd H q (.lst ((met ps (stW ps word)).map V.int)))
theorem sc_metby : FnScope ["automaton", "side", "row"] ["automaton", "side", "row"] (defScope s_met_by) := ⟨rfl, rfl, rfl, by decide +kernel, rfl, by decide +kernel, by decide +kernel⟩
theorem c_metby (T : Txt K mg) : Cal P w K mg base 3 "met_by" ["automaton", "side", "row"] (spMetBy K) := by
  obtain ⟨fd, F⟩ := T.f_met_by
  refine cal_of F T.g_met_by sc_metby (fun vs H Q E h => ?_) (fun _ _ _ _ _ _ us hl => match us, hl with | [_, _, _], _ => rfl) (fun cdv A outer s H vs Q E hr h => ?_)
  · obtain ⟨p, fore, ps, c, k, word, av, wv, rfl, _⟩ := h
    rfl
  · obtain ⟨p, fore, ps, c, k, word, av, wv, rfl, ha, es, B, hwv, hw, kk⟩ := h
    refine ⟨_, pss_one (ps_ret (pe_callTy call_list_of (by rfl) T.b_list boot_list (pa_cons (pe_ix ix_list (pe_ix ix_tup (pe_cal ((c_side T).mono (by decide)) hr rfl (pa_cons (pv 0) (pa_cons (pv 1) pa_nil))) pe_int (fun _ _ => rfl))
      (pe_cal (c_read T) hr rfl (pa_cons (pv 0) (pa_cons (pv 1) (pa_cons (pv 2) pa_nil)))) (fun _ _ => rfl)) pa_nil))), ?_⟩
    refine ⟨_, rfl, _, rfl, p, fore, av, rfl, ha, fun v hv => ?_⟩
    rw [es] at hv
    obtain ⟨t, x, y, rfl, ht, hx, ⟨ya, yvs, rfl, hya, yp⟩⟩ := hv
    refine ⟨t, _, 1, _, rfl, rfl, SqT.of ht, atI_nat (j := 1) rfl, ?_⟩
    refine ⟨_, rfl, _, rfl, _, rfl, p, fore, ps, c, k, word, av, wv, rfl, ha, es, B, hwv, hw, fun st hst hs => ?_⟩
    have hm : (metOf ps c k)[st]? = some (met ps (stW ps word)) := by
      unfold metOf
      rw [List.getElem?_map, hs]
      rfl
    obtain ⟨mv, hmv, ⟨ma, rfl, hma⟩⟩ := paired_get yp hm
    exact ⟨ya, _, st, _, rfl, rfl, SqL.of hya, atI_nat hmv, ma, _, rfl, .inl (SqL.of hma), fun q nq => kk q nq⟩
end
end K26


set_option maxHeartbeats 4000000
/-! enumerate of zip of two lists: the iterator and its turns -/
namespace K26
open PySem PySem.Spec PyProof.Rows L2
/-- a zip's record, whatever is known of the tuple that it has handed out -/
abbrev ZipRec (h : Heap) (z TI TO : Addr) (f0 fl : Value) : Prop := h.get? z = some { cls := .type "zip", dict := none, data := .fields #[f0, fl, .bool false, .ref TI, .ref TO], slots := #[] }
/-- none is out, or one at T -/
def ZipSt (h : Heap) (z TI TO : Addr) : Prop := ZipRec h z TI TO .none (.bool false) ∨ ∃ (T : Addr) (f : Bool), ZipRec h z TI TO (rawInt T) (.bool f)
theorem ZipSt.of {h h' : Heap} {z TI TO : Addr} (k : ∀ o, h.get? z = some o → h'.get? z = some o) (s : ZipSt h z TI TO) : ZipSt h' z TI TO := by
  rcases s with s | ⟨T, f, s⟩
  · exact .inl (k _ s)
  · exact .inr ⟨T, f, k _ s⟩
section
variable {prog : Program} {w : World} {A : Around} {E : Value → Shared → Prop} {s : Shared}
/-- the next item where the owned tuple is free -/
theorem zip_free_item {z TI TO i1 i2 l1 l2 : Addr} {f0 : Value} {fb : Bool} {k1 k2 : Nat} {xs ys : Array Value} {x y a b : Value} {Q : Value → Shared → Prop} (D : ZipApart z TI TO i1 i2 l1 l2) (hz : ZipRec s.heap z TI TO f0 (.bool fb))
    (hfree : ∀ (A : Around) (R : Bool → Shared → Prop) (E : Value → Shared → Prop), R true s → wpAny (model prog w) A (Builtin.SmallTypes.ownedTupleIsFree (.ref z)) R E s)
    (hTI : IsPair s.heap TI (.ref i1) (.ref i2)) (hTO : IsPair s.heap TO a b) (h1 : s.heap.IsListIter i1 l1 k1) (h2 : s.heap.IsListIter i2 l2 k2) (hl1 : s.heap.IsList l1 xs) (hl2 : s.heap.IsList l2 ys) (hx : xs[k1]? = some x) (hy : ys[k2]? = some y)
    (hQ : ∀ h', ZipSt h' z TI TO → (∃ a b, IsPair h' TO a b) → h'.IsListIter i1 l1 (k1 + 1) → h'.IsListIter i2 l2 (k2 + 1) → IsPair h' s.heap.objs.size x y → h'.objs.size = s.heap.objs.size + 1 →
      (∀ c o, c ≠ z → c ≠ TO → c ≠ i1 → c ≠ i2 → s.heap.get? c = some o → h'.get? c = some o) → Q (.ref s.heap.objs.size) { s with heap := h' }) :
    wpAny (model prog w) A (Builtin.«zip.__next__» ⟨[.ref z], []⟩) (fun fin s' => ∃ v, fin = .done (.ret v) ∧ Q v s') E s := by
  show wpAny _ _ (field (.ref z) 2 >>= _) _ _ _
  refine wpAny_bind (wpAny_field hz rfl (x := .bool false) rfl ?_)
  show wpAny _ _ (field (.ref z) 3 >>= _) _ _ _
  refine wpAny_bind (wpAny_field hz rfl (x := .ref TI) rfl (wpAny_bind (wpAny_seqItems hTI rfl ?_)))
  show wpAny _ _ (Builtin.SmallTypes.ownedTupleIsFree (.ref z) >>= _) _ _ _
  refine wpAny_bind (hfree _ _ _ ?_)
  simp only [if_true]
  refine wpAny_bind (wpAny_rule (wpAny_bind (wpAny_field hz rfl (x := .ref TO) rfl ?_)))
  refine wpAny_bind (wpAny_setField_rec hz (by simp) fun ha hza sa => ?_)
  replace hza : ZipRec ha z TI TO .ellipsis (.bool fb) := hza
  refine wpAny_bind ?_
  simp only [List.zipIdx_cons, List.zipIdx_nil, List.forIn_cons, List.forIn_nil]
  -- the first list's item into the owned tuple
  refine wpAny_bind (wpAny_bind (wpAny_onRaise ?_))
  show wpAny _ _ (Builtin.SmallTypes.nextOf (.ref i1) >>= _) _ _ _
  refine wpAny_bind (wpAny_nextOf_list_item (h1.extBut sa.extBut D.i1z) (hl1.extBut sa.extBut D.l1z) hx fun hb i1b sb => wpAny_pure ?_)
  have tob : IsPair hb TO a b := sb.extBut _ _ D.TOi1 (sa.extBut _ _ D.TOz hTO)
  refine wpAny_bind (wpAny_seqItems tob rfl (wpAny_bind (wpAny_updateSeq_pair tob fun hc toc sc => ?_)))
  replace toc : IsPair hc TO x b := toc
  refine wpAny_bind (wpAny_letGo (wpAny_pure ?_))
  -- the second's
  refine wpAny_bind (wpAny_bind (wpAny_onRaise ?_))
  show wpAny _ _ (Builtin.SmallTypes.nextOf (.ref i2) >>= _) _ _ _
  have i2c : hc.IsListIter i2 l2 k2 := ((h2.extBut sa.extBut D.i2z).extBut sb.extBut D.i12.symm).extBut sc.extBut D.TOi2.symm
  have l2c : hc.IsList l2 ys := ((hl2.extBut sa.extBut D.l2z).extBut sb.extBut D.l2i1).extBut sc.extBut D.l2TO
  refine wpAny_bind (wpAny_nextOf_list_item i2c l2c hy fun hd i2d sd => wpAny_pure ?_)
  have tod : IsPair hd TO x b := sd.extBut _ _ D.TOi2 toc
  refine wpAny_bind (wpAny_seqItems tod rfl (wpAny_bind (wpAny_updateSeq_pair tod fun he toe se => ?_)))
  replace toe : IsPair he TO x y := toe
  refine wpAny_bind (wpAny_letGo (wpAny_pure (wpAny_pure ?_)))
  -- the new tuple handed out
  refine wpAny_bind (wpAny_seqItems toe rfl (wpAny_bind (wpAny_newTuple ?_)))
  have hsz : he.objs.size = s.heap.objs.size := by rw [se.1, sd.1, sc.1, sb.1, sa.1]
  have ze : ZipRec he z TI TO .ellipsis (.bool fb) := se.extBut _ _ D.TOz.symm (sd.extBut _ _ D.i2z.symm (sc.extBut _ _ D.TOz.symm (sb.extBut _ _ D.i1z.symm hza)))
  have ke : ∀ c o, c ≠ z → c ≠ TO → c ≠ i1 → c ≠ i2 → s.heap.get? c = some o → he.get? c = some o := fun c o n1 n2 n3 n4 e => se.extBut _ _ n2 (sd.extBut _ _ n4 (sc.extBut _ _ n2 (sb.extBut _ _ n3 (sa.extBut _ _ n1 e))))
  have i1e : he.IsListIter i1 l1 (k1 + 1) := ((i1b.extBut sc.extBut D.TOi1.symm).extBut sd.extBut D.i12).extBut se.extBut D.TOi1.symm
  have i2e : he.IsListIter i2 l2 (k2 + 1) := i2d.extBut se.extBut D.TOi2.symm
  have zlt : z < he.objs.size := Heap.lt_size ze
  show wpAny _ _ (Builtin.SmallTypes.ownedTupleHandOut (.ref z) (.ref he.objs.size) >>= _) _ _ _
  refine wpAny_bind ?_
  unfold Builtin.SmallTypes.ownedTupleHandOut
  have zf : ZipRec (he.push { cls := .type "tuple", data := .seq #[x, y] }) z TI TO .ellipsis (.bool fb) := Heap.get?_push_of_some _ ze
  refine wpAny_bind (wpAny_setField_rec zf (by simp) fun hg zg sg => ?_)
  replace zg : ZipRec hg z TI TO (rawInt he.objs.size) (.bool fb) := zg
  refine wpAny_setField_rec zg (by simp) fun hh zh sh => ?_
  replace zh : ZipRec hh z TI TO (rawInt he.objs.size) (.bool false) := zh
  have up : ∀ c o, c ≠ z → he.get? c = some o → hh.get? c = some o := fun c o n e => sh.extBut _ _ n (sg.extBut _ _ n (Heap.get?_push_of_some _ e))
  have th : IsPair hh he.objs.size x y := sh.extBut _ _ (Nat.ne_of_gt zlt) (sg.extBut _ _ (Nat.ne_of_gt zlt) (Heap.get?_push_size _ rfl))
  have sz : hh.objs.size = he.objs.size + 1 := by rw [sh.1, sg.1, Heap.size_push]
  rw [hsz] at th sz
  refine wpAny_pure ⟨_, rfl, ?_⟩
  show Q (.ref he.objs.size) _
  rw [hsz]
  exact hQ hh (.inr ⟨_, _, zh⟩) ⟨x, y, up _ _ D.TOz toe⟩ (i1e.at fun o e => up _ o D.i1z e) (i2e.at fun o e => up _ o D.i2z e) th sz fun c o n1 n2 n3 n4 e => up c o n1 (ke c o n1 n2 n3 n4 e)
theorem zip_free_end {z TI TO i1 i2 l1 l2 : Addr} {f0 : Value} {fb : Bool} {k1 k2 : Nat} {xs ys : Array Value} {a b : Value} {Q : PySem.Fin → Shared → Prop} (hh : A.handled = none) (D : ZipApart z TI TO i1 i2 l1 l2) (hz : ZipRec s.heap z TI TO f0 (.bool fb))
    (hfree : ∀ (A : Around) (R : Bool → Shared → Prop) (E : Value → Shared → Prop), R true s → wpAny (model prog w) A (Builtin.SmallTypes.ownedTupleIsFree (.ref z)) R E s)
    (hTI : IsPair s.heap TI (.ref i1) (.ref i2)) (hTO : IsPair s.heap TO a b) (h1 : s.heap.IsListIter i1 l1 k1) (h2 : s.heap.IsListIter i2 l2 k2) (hl1 : s.heap.IsList l1 xs) (hl2 : s.heap.IsList l2 ys) (hend : xs[k1]? = none ∨ ys[k2]? = none)
    (hE : ∀ h' e, (∀ c o, c ≠ z → c ≠ TO → c ≠ i1 → c ≠ i2 → s.heap.get? c = some o → h'.get? c = some o) → (∃ o, h'.get? e = some o ∧ o.cls = .type "StopIteration") → E (.ref e) { s with heap := h' }) :
    wpAny (model prog w) A (Builtin.«zip.__next__» ⟨[.ref z], []⟩) Q E s := by
  show wpAny _ _ (field (.ref z) 2 >>= _) _ _ _
  refine wpAny_bind (wpAny_field hz rfl (x := .bool false) rfl ?_)
  show wpAny _ _ (field (.ref z) 3 >>= _) _ _ _
  refine wpAny_bind (wpAny_field hz rfl (x := .ref TI) rfl (wpAny_bind (wpAny_seqItems hTI rfl ?_)))
  show wpAny _ _ (Builtin.SmallTypes.ownedTupleIsFree (.ref z) >>= _) _ _ _
  refine wpAny_bind (hfree _ _ _ ?_)
  simp only [if_true]
  refine wpAny_bind (wpAny_rule (wpAny_bind (wpAny_field hz rfl (x := .ref TO) rfl ?_)))
  refine wpAny_bind (wpAny_setField_rec hz (by simp) fun ha hza sa => ?_)
  replace hza : ZipRec ha z TI TO .ellipsis (.bool fb) := hza
  refine wpAny_bind ?_
  simp only [List.zipIdx_cons, List.zipIdx_nil, List.forIn_cons, List.forIn_nil]
  refine wpAny_bind (wpAny_bind (wpAny_onRaise ?_))
  show wpAny _ _ (Builtin.SmallTypes.nextOf (.ref i1) >>= _) _ _ _
  cases hx : xs[k1]? with
  | none =>
    refine wpAny_bind (wpAny_nextOf_list_end hh (h1.extBut sa.extBut D.i1z) (hl1.extBut sa.extBut D.l1z) hx fun hb e sb he => ?_)
    obtain ⟨oe, hoe, hce⟩ := he
    have zb : ZipRec hb z TI TO .ellipsis (.bool fb) := sb _ _ D.i1z.symm hza
    have nez : e ≠ z := fun q => by
      subst q
      rw [zb] at hoe
      cases hoe
      simp at hce
    exact wpAny_setField_rec zb (by simp) fun hc _ sc => hE hc e (fun c o n1 _ n3 _ q => sc.extBut _ _ n1 (sb _ _ n3 (sa.extBut _ _ n1 q))) ⟨oe, sc.extBut _ _ nez hoe, hce⟩
  | some x =>
    have hy : ys[k2]? = none := by
      rcases hend with q | q
      · rw [hx] at q
        cases q
      · exact q
    refine wpAny_bind (wpAny_nextOf_list_item (h1.extBut sa.extBut D.i1z) (hl1.extBut sa.extBut D.l1z) hx fun hb i1b sb => wpAny_pure ?_)
    have tob : IsPair hb TO a b := sb.extBut _ _ D.TOi1 (sa.extBut _ _ D.TOz hTO)
    refine wpAny_bind (wpAny_seqItems tob rfl (wpAny_bind (wpAny_updateSeq_pair tob fun hc toc sc => ?_)))
    refine wpAny_bind (wpAny_letGo (wpAny_pure (wpAny_bind (wpAny_bind (wpAny_onRaise ?_)))))
    show wpAny _ _ (Builtin.SmallTypes.nextOf (.ref i2) >>= _) _ _ _
    have i2c : hc.IsListIter i2 l2 k2 := ((h2.extBut sa.extBut D.i2z).extBut sb.extBut D.i12.symm).extBut sc.extBut D.TOi2.symm
    have l2c : hc.IsList l2 ys := ((hl2.extBut sa.extBut D.l2z).extBut sb.extBut D.l2i1).extBut sc.extBut D.l2TO
    refine wpAny_bind (wpAny_nextOf_list_end hh i2c l2c hy fun hd e sd he => ?_)
    obtain ⟨oe, hoe, hce⟩ := he
    have zd : ZipRec hd z TI TO .ellipsis (.bool fb) := sd _ _ D.i2z.symm (sc.extBut _ _ D.TOz.symm (sb.extBut _ _ D.i1z.symm hza))
    have nez : e ≠ z := fun q => by
      subst q
      rw [zd] at hoe
      cases hoe
      simp at hce
    exact wpAny_setField_rec zd (by simp) fun he2 _ se => hE he2 e (fun c o n1 n2 n3 n4 q => se.extBut _ _ n1 (sd _ _ n4 (sc.extBut _ _ n2 (sb.extBut _ _ n3 (sa.extBut _ _ n1 q))))) ⟨oe, se.extBut _ _ nez hoe, hce⟩
theorem alive_any {a : Addr} {R : Option Obj → Shared → Prop} (h : R (s.heap.get? a) s) : wpAny (model prog w) A (loadIfAlive a) R E s := fun _ _ _ => h
/-- is the owned tuple free? where none is out, or the one that is out stands no more -/
theorem free_none {z TI TO : Addr} {fl : Value} (hz : ZipRec s.heap z TI TO .none fl) (A : Around) (R : Bool → Shared → Prop) (E : Value → Shared → Prop) (h : R true s) : wpAny (model prog w) A (Builtin.SmallTypes.ownedTupleIsFree (.ref z)) R E s := by
  unfold Builtin.SmallTypes.ownedTupleIsFree
  exact wpAny_bind (wpAny_field hz rfl (x := .none) rfl (wpAny_pure h))
theorem free_gone {z TI TO T : Addr} {fl : Value} (hz : ZipRec s.heap z TI TO (rawInt T) fl) (hT : s.heap.get? T = none) (A : Around) (R : Bool → Shared → Prop) (E : Value → Shared → Prop) (h : R true s) : wpAny (model prog w) A (Builtin.SmallTypes.ownedTupleIsFree (.ref z)) R E s := by
  unfold Builtin.SmallTypes.ownedTupleIsFree
  refine wpAny_bind (wpAny_field hz rfl (x := rawInt T) rfl ?_)
  show wpAny _ _ (loadIfAlive ((T : Int).toNat) >>= _) _ _ _
  rw [Int.toNat_natCast]
  refine wpAny_bind (alive_any ?_)
  rw [hT]
  simp only [Option.isNone_none, if_true]
  exact wpAny_pure h
/-- the next item of a zip, whatever it knows of the tuple that is out -/
theorem nextOf_zip {z TI TO i1 i2 l1 l2 : Addr} {k1 k2 : Nat} {xs ys : Array Value} {x y a b : Value} {Q : Value → Shared → Prop} (D : ZipApart z TI TO i1 i2 l1 l2) (hz : ZipSt s.heap z TI TO)
    (hTI : IsPair s.heap TI (.ref i1) (.ref i2)) (hTO : IsPair s.heap TO a b) (h1 : s.heap.IsListIter i1 l1 k1) (h2 : s.heap.IsListIter i2 l2 k2) (hl1 : s.heap.IsList l1 xs) (hl2 : s.heap.IsList l2 ys) (hx : xs[k1]? = some x) (hy : ys[k2]? = some y)
    (hQ : ∀ h', ZipSt h' z TI TO → (∃ a b, IsPair h' TO a b) → h'.IsListIter i1 l1 (k1 + 1) → h'.IsListIter i2 l2 (k2 + 1) → IsPair h' s.heap.objs.size x y → h'.objs.size = s.heap.objs.size + 1 →
      (∀ c o, c ≠ z → c ≠ TO → c ≠ i1 → c ≠ i2 → s.heap.get? c = some o → h'.get? c = some o) → Q (.ref s.heap.objs.size) { s with heap := h' }) :
    wpAny (model prog w) A (Builtin.SmallTypes.nextOf (.ref z)) Q E s := by
  have go : ∀ A : Around, wpAny (model prog w) A (Builtin.«zip.__next__» ⟨[.ref z], []⟩) (fun fin s' => ∃ v, fin = .done (.ret v) ∧ Q v s') E s := fun A => by
    rcases hz with hz | ⟨T, f, hz⟩
    · exact zip_free_item D hz (free_none hz) hTI hTO h1 h2 hl1 hl2 hx hy hQ
    · cases e : s.heap.get? T with
      | none => exact zip_free_item D hz (free_gone hz e) hTI hTO h1 h2 hl1 hl2 hx hy hQ
      | some oT =>
        refine zip_next_item_held D hz e hTI h1 h2 hl1 hl2 hx hy fun h' a1 a2 a3 a4 a5 a6 => hQ h' (.inr ⟨_, _, a1⟩) ⟨a, b, a6 _ _ D.TOz D.TOi1 D.TOi2 hTO⟩ a2 a3 a4 a5 fun c o n1 _ n3 n4 q => a6 c o n1 n3 n4 q
  have hT : s.TypeIs (.ref z) "zip" := by
    rcases hz with hz | ⟨T, f, hz⟩
    · exact ⟨_, hz, rfl⟩
    · exact ⟨_, hz, rfl⟩
  unfold Builtin.SmallTypes.nextOf
  exact wpAny_bind (wpAny_callSpecial?_slot (name := Str.ofString "__next__") hT F.slot_zip_next (wpAny_call_entry F.slot_zip_next hT F.entry_zip_next (wpAny_mono (go _) (fun fin s' ⟨v, e1, q⟩ => ⟨v, e1, wpAny_pure q⟩) fun _ _ h => h) (F.args_zip_next_1 _)))
theorem nextOf_zip_end {z TI TO i1 i2 l1 l2 : Addr} {k1 k2 : Nat} {xs ys : Array Value} {a b : Value} {Q : Value → Shared → Prop} (hh : A.handled = none) (D : ZipApart z TI TO i1 i2 l1 l2) (hz : ZipSt s.heap z TI TO)
    (hTI : IsPair s.heap TI (.ref i1) (.ref i2)) (hTO : IsPair s.heap TO a b) (h1 : s.heap.IsListIter i1 l1 k1) (h2 : s.heap.IsListIter i2 l2 k2) (hl1 : s.heap.IsList l1 xs) (hl2 : s.heap.IsList l2 ys) (hend : xs[k1]? = none ∨ ys[k2]? = none)
    (hE : ∀ h' e, (∀ c o, c ≠ z → c ≠ TO → c ≠ i1 → c ≠ i2 → s.heap.get? c = some o → h'.get? c = some o) → (∃ o, h'.get? e = some o ∧ o.cls = .type "StopIteration") → E (.ref e) { s with heap := h' }) :
    wpAny (model prog w) A (Builtin.SmallTypes.nextOf (.ref z)) Q E s := by
  have go : ∀ (A : Around) (R : PySem.Fin → Shared → Prop), A.handled = none → wpAny (model prog w) A (Builtin.«zip.__next__» ⟨[.ref z], []⟩) R E s := fun A R hh => by
    rcases hz with hz | ⟨T, f, hz⟩
    · exact zip_free_end hh D hz (free_none hz) hTI hTO h1 h2 hl1 hl2 hend hE
    · cases e : s.heap.get? T with
      | none => exact zip_free_end hh D hz (free_gone hz e) hTI hTO h1 h2 hl1 hl2 hend hE
      | some oT => exact zip_next_end_held hh D hz e hTI h1 h2 hl1 hl2 hend fun h' ex k q => hE h' ex (fun c o n1 _ n3 n4 r => k c o n1 n3 n4 r) q
  have hT : s.TypeIs (.ref z) "zip" := by
    rcases hz with hz | ⟨T, f, hz⟩
    · exact ⟨_, hz, rfl⟩
    · exact ⟨_, hz, rfl⟩
  unfold Builtin.SmallTypes.nextOf
  exact wpAny_bind (wpAny_callSpecial?_slot (name := Str.ofString "__next__") hT F.slot_zip_next (wpAny_call_entry F.slot_zip_next hT F.entry_zip_next (go _ _ hh) (F.args_zip_next_1 _)))
/-- what stands apart: the enumerate's record from all that the zip has -/
structure EzApart (e z TI TO i1 i2 l1 l2 : Addr) : Prop where
  zs : ZipApart z TI TO i1 i2 l1 l2
  ez : e ≠ z
  eTI : e ≠ TI
  eTO : e ≠ TO
  e1 : e ≠ i1
  e2 : e ≠ i2
theorem next_ez_item {e z TI TO i1 i2 l1 l2 : Addr} {i k1 k2 : Nat} {xs ys : Array Value} {x y a b old : Value} {Q : Option Value → Shared → Prop} (D : EzApart e z TI TO i1 i2 l1 l2) (he : IsEnum s.heap e z i old) (hz : ZipSt s.heap z TI TO)
    (hTI : IsPair s.heap TI (.ref i1) (.ref i2)) (hTO : IsPair s.heap TO a b) (h1 : s.heap.IsListIter i1 l1 k1) (h2 : s.heap.IsListIter i2 l2 k2) (hl1 : s.heap.IsList l1 xs) (hl2 : s.heap.IsList l2 ys) (hx : xs[k1]? = some x) (hy : ys[k2]? = some y)
    (hQ : ∀ h' tk, (∃ it, IsEnumOut h' e z ((i : Int) + 1) it (s.heap.objs.size + 1)) → ZipSt h' z TI TO → IsPair h' TI (.ref i1) (.ref i2) → (∃ a b, IsPair h' TO a b) → h'.IsListIter i1 l1 (k1 + 1) → h'.IsListIter i2 l2 (k2 + 1) →
      IsPair h' s.heap.objs.size x y → IsPair h' (s.heap.objs.size + 1) (.int i tk) (.ref s.heap.objs.size) →
      (∀ c o, c ≠ e → c ≠ z → c ≠ TO → c ≠ i1 → c ≠ i2 → s.heap.get? c = some o → h'.get? c = some o) → Q (some (.ref (s.heap.objs.size + 1))) { s with heap := h', toks := tk + 1 }) :
    wpAny (model prog w) A (pyNext (.ref e)) Q E s := by
  have hTy : s.TypeIs (.ref e) "enumerate" := ⟨_, he, rfl⟩
  unfold pyNext
  refine wpAny_bind (wpAny_attempt (wpAny_callSpecial?_slot (name := Str.ofString "__next__") hTy F.slot_enumerate_next (wpAny_call_entry F.slot_enumerate_next hTy F.entry_enumerate_next ?_ (F.args_enumerate_next_1 _))))
  obtain ⟨hp, g, d, tk, os⟩ := s
  show wpAny _ _ (field (.ref e) 2 >>= _) _ _ _
  refine wpAny_bind (wpAny_field he rfl (x := .ref z) rfl (wpAny_bind (nextOf_zip D.zs hz hTI hTO h1 h2 hl1 hl2 hx hy fun ha za toa i1a i2a pa sza ka => ?_)))
  replace ka : ∀ c o, c ≠ z → c ≠ TO → c ≠ i1 → c ≠ i2 → hp.get? c = some o → ha.get? c = some o := ka
  have ea : IsEnum ha e z i old := ka _ _ D.ez D.eTO D.e1 D.e2 he
  show wpAny _ _ (field (.ref e) 3 >>= _) _ _ ⟨ha, g, d, tk, os⟩
  refine wpAny_bind (wpAny_field ea rfl (x := rawInt i) rfl ?_)
  show wpAny _ _ (field (.ref e) 4 >>= _) _ _ ⟨ha, g, d, tk, os⟩
  refine wpAny_bind (wpAny_field ea rfl (x := .none) rfl ?_)
  show wpAny _ _ (mkInt i >>= _) _ _ ⟨ha, g, d, tk, os⟩
  refine wpAny_bind (wpAny_mkInt ?_)
  show wpAny _ _ (setField (.ref e) 3 (rawInt ((i : Int) + 1)) >>= _) _ _ ⟨ha, g, d, tk + 1, os⟩
  refine wpAny_bind (wpAny_setField_rec ea (by simp) fun hb eb sb => ?_)
  replace sb : Heap.SameBut e ha hb := sb
  replace eb : IsEnum hb e z ((i : Int) + 1) old := eb
  show wpAny _ _ (setField (.ref e) 4 .none >>= _) _ _ ⟨hb, g, d, tk + 1, os⟩
  refine wpAny_bind (wpAny_setField_rec eb (by simp) fun hc ec sc => ?_)
  replace sc : Heap.SameBut e hb hc := sc
  replace ec : IsEnum hc e z ((i : Int) + 1) old := ec
  show wpAny _ _ (newTuple [.int i tk, .ref hp.objs.size] >>= _) _ _ ⟨hc, g, d, tk + 1, os⟩
  refine wpAny_bind (wpAny_newTuple ?_)
  have szc : hc.objs.size = hp.objs.size + 1 := by rw [sc.1, sb.1, sza]
  have ed : IsEnum (hc.push { cls := .type "tuple", data := .seq #[.int i tk, .ref hp.objs.size] }) e z ((i : Int) + 1) old := Heap.get?_push_of_some _ ec
  have td : IsPair (hc.push { cls := .type "tuple", data := .seq #[.int i tk, .ref hp.objs.size] }) hc.objs.size (.int i tk) (.ref hp.objs.size) := Heap.get?_push_size _ rfl
  have elt : e < hc.objs.size := Heap.lt_size ec
  have ud : ∀ c o, c ≠ e → ha.get? c = some o → (hc.push { cls := .type "tuple", data := .seq #[.int i tk, .ref hp.objs.size] }).get? c = some o := fun c o n q => Heap.get?_push_of_some _ (sc.extBut _ _ n (sb.extBut _ _ n q))
  generalize hc.push { cls := .type "tuple", data := .seq #[.int i tk, .ref hp.objs.size] } = hd at ed td ud
  show wpAny _ _ (Builtin.SmallTypes.ownedTupleIsFree (.ref e) >>= _) _ _ ⟨hd, g, d, tk + 1, os⟩
  refine wpAny_bind ?_
  unfold Builtin.SmallTypes.ownedTupleIsFree
  refine wpAny_bind (wpAny_field ed rfl (x := .none) rfl (wpAny_pure ?_))
  simp only [if_true]
  refine wpAny_bind (wpAny_rule (wpAny_bind (wpAny_field ed rfl (x := old) rfl (wpAny_bind (wpAny_setField_rec ed (by simp) fun hf ef sf => ?_)))))
  replace sf : Heap.SameBut e hd hf := sf
  replace ef : IsEnum hf e z ((i : Int) + 1) (.ref hp.objs.size) := ef
  show wpAny _ _ (Builtin.SmallTypes.ownedTupleHandOut (.ref e) (.ref hc.objs.size) >>= _) _ _ ⟨hf, g, d, tk + 1, os⟩
  refine wpAny_bind ?_
  unfold Builtin.SmallTypes.ownedTupleHandOut
  refine wpAny_bind (wpAny_setField_rec ef (by simp) fun hg eg sg => ?_)
  replace sg : Heap.SameBut e hf hg := sg
  replace eg : IsEnumOut hg e z ((i : Int) + 1) (.ref hp.objs.size) hc.objs.size := eg
  refine wpAny_setField_rec eg (by simp) fun hh eh sh => ?_
  replace sh : Heap.SameBut e hg hh := sh
  replace eh : IsEnumOut hh e z ((i : Int) + 1) (.ref hp.objs.size) hc.objs.size := eh
  have up : ∀ c o, c ≠ e → ha.get? c = some o → hh.get? c = some o := fun c o n q => sh.extBut _ _ n (sg.extBut _ _ n (sf.extBut _ _ n (ud c o n q)))
  have th : IsPair hh hc.objs.size (.int i tk) (.ref hp.objs.size) := sh.extBut _ _ (Nat.ne_of_gt elt) (sg.extBut _ _ (Nat.ne_of_gt elt) (sf.extBut _ _ (Nat.ne_of_gt elt) td))
  have ne : e ≠ hp.objs.size := Nat.ne_of_lt (Heap.lt_size he)
  rw [szc] at th eh ⊢
  obtain ⟨a', b', toa⟩ := toa
  refine wpAny_bind (wpAny_letGo (wpAny_pure ⟨_, rfl, wpAny_pure (hQ hh tk ⟨_, eh⟩ (za.of fun o q => up _ o D.ez.symm q) (up _ _ D.eTI.symm (ka _ _ D.zs.TIz D.zs.TITO D.zs.TIi1 D.zs.TIi2 hTI)) ⟨a', b', up _ _ D.eTO.symm toa⟩ (i1a.at fun o q => up _ o D.e1.symm q) (i2a.at fun o q => up _ o D.e2.symm q)
    (up _ _ ne.symm pa) th fun c o n0 n1 n2 n3 n4 q => up c o n0 (ka c o n1 n2 n3 n4 q))⟩))
theorem next_ez_end {e z TI TO i1 i2 l1 l2 : Addr} {i : Int} {k1 k2 : Nat} {xs ys : Array Value} {a b old : Value} {Q : Option Value → Shared → Prop} (hh : A.handled = none) (D : EzApart e z TI TO i1 i2 l1 l2) (he : IsEnum s.heap e z i old) (hz : ZipSt s.heap z TI TO)
    (hTI : IsPair s.heap TI (.ref i1) (.ref i2)) (hTO : IsPair s.heap TO a b) (h1 : s.heap.IsListIter i1 l1 k1) (h2 : s.heap.IsListIter i2 l2 k2) (hl1 : s.heap.IsList l1 xs) (hl2 : s.heap.IsList l2 ys) (hend : xs[k1]? = none ∨ ys[k2]? = none)
    (hQ : ∀ h', (∀ c o, c ≠ z → c ≠ TO → c ≠ i1 → c ≠ i2 → s.heap.get? c = some o → h'.get? c = some o) → Q none { s with heap := h' }) : wpAny (model prog w) A (pyNext (.ref e)) Q E s := by
  have hTy : s.TypeIs (.ref e) "enumerate" := ⟨_, he, rfl⟩
  unfold pyNext
  refine wpAny_bind (wpAny_attempt (wpAny_callSpecial?_slot (name := Str.ofString "__next__") hTy F.slot_enumerate_next (wpAny_call_entry F.slot_enumerate_next hTy F.entry_enumerate_next ?_ (F.args_enumerate_next_1 _))))
  show wpAny _ _ (field (.ref e) 2 >>= _) _ _ _
  refine wpAny_bind (wpAny_field he rfl (x := .ref z) rfl (wpAny_bind (nextOf_zip_end hh D.zs hz hTI hTO h1 h2 hl1 hl2 hend fun h' ex k q => ?_)))
  obtain ⟨o, ho, hc⟩ := q
  refine wpAny_bind (wpAny_isInstance (T := "StopIteration") (b := true) ⟨o, ho, hc⟩ isSubtype_stop ?_)
  exact wpAny_pure (hQ _ k)
end
end K26


set_option maxHeartbeats 4000000
namespace K26
open PySem PySem.Spec PyProof.Rows L2
/-! ### enumerate(zip(a, b)) begins -/
abbrev enumO (z : Addr) : Obj := { cls := .type "enumerate", data := .fields #[.none, .bool false, .ref z, rawInt 0, .none, .none] }
theorem meets_enum_zip (z TI TO : Addr) :
    Meets (Builtin.«enumerate.__new__» ⟨[.type "enumerate", .ref z], []⟩) (fun _ R s => IsZip s.heap z TI TO .none ∧ R (.ok (.ret (.ref s.heap.objs.size))) { s with heap := s.heap.push (enumO z) }) :=
  .of_wp fun prog w A R s h => by
    obtain ⟨hp, g, d, tk, os⟩ := s
    obtain ⟨hz, h⟩ := h
    have hsub := sub_enumerate
    wp_walk using wpAny_pyIter_zip hz
    refine wpAny_stack_any fun st => wpAny_pure ?_
    split
    · rename_i c _ _ _ _ _
      cases (c == Value.type "enumerate")
      · wp_walk using wpAny_pyIter_zip hz
        exact ⟨_, rfl, h⟩
      · wp_walk using wpAny_pyIter_zip hz
        exact ⟨_, rfl, h⟩
    · wp_walk using wpAny_pyIter_zip hz
      exact ⟨_, rfl, h⟩
section
variable {prog : Program} {w : World} {A : Around} {E : Value → Shared → Prop} {s : Shared}
theorem call_enum_zip {z TI TO : Addr} {Q : Value → Shared → Prop} (hz : IsZip s.heap z TI TO .none)
    (h : ∀ h', IsEnum h' s.heap.objs.size z 0 .none → (∀ b o, s.heap.get? b = some o → h'.get? b = some o) → Q (.ref s.heap.objs.size) { s with heap := h' }) : wpAny (model prog w) A (call (.type "enumerate") [.ref z]) Q E s := by
  refine callType_new F.called_enumerate (by decide) (F.typeCall_enumerate_1 _) (F.newCall_enumerate_1 _) (fun obj => F.args_object_init_2 obj _) F.entry_enumerate_new (meets_enum_zip z TI TO) ⟨hz, ?_⟩
  have he : IsEnum (s.heap.push (enumO z)) s.heap.objs.size z 0 .none := Heap.get?_push_size _ rfl
  exact ⟨⟨_, he, rfl⟩, h _ he fun b o q => Heap.get?_push_of_some _ q⟩
end
/-- records of ours have turned, and new objects are laid -/
theorem turned_more {X : Cx} {pins : List (Addr × Obj)} {σ : L2.St} {H H' : Hp} {s : Shared} {h' : Heap} {t' : Nat} {ch : List Addr} (I : Inv X pins σ H s) (k : ∀ b o, b ∉ ch → s.heap.get? b = some o → h'.get? b = some o) (hf : ∀ b ∈ ch, FpOk X pins H b)
    (up : ∀ b o, H b = some o → H' b = some o) (fresh : ∀ b, H' b ≠ H b → s.heap.objs.size ≤ b) (new : ∀ b o, H' b = some o → H b = none → ObjOk X.prog X.w H' h' b o) : Inv X pins σ H' { s with heap := h', toks := t' } := by
  have off : ∀ b u, H b = some u → b ∉ ch := fun b u e z => by
    rw [(hf b z).1] at e
    cases e
  refine I.step (g' := s.gens) (d' := s.drawn) (ch := ch) (fun b hb => ?_) (fun b o _ _ hc e _ => k b o hc e) (fun b o _ _ hc e _ => ⟨o.slots, k b o hc e⟩) (fun b o _ e n => ?_) (fun b o hc e => ⟨o, k b o hc e⟩)
    (fun b xs e => up _ _ e) (fun b o u e => up _ _ e) (fun b ps e => ⟨#[], by rw [up _ _ e]; simp⟩) (fun m hm => ?_) (fun b u e => ?_) I.bare
  · obtain ⟨_, f1, _, f3, f4, f5⟩ := hf b hb
    exact ⟨f3, f1, f4, f5⟩
  · cases q : H' b with
    | none => rfl
    | some u => exact absurd (Heap.lt_size e) (Nat.not_lt.mpr (fresh b (by rw [q, n]; exact fun z => by cases z)))
  · obtain ⟨o, es, ep, ho, r⟩ := hm
    exact ⟨o, es, ep, k _ o (fun z => (hf _ z).2.1 rfl) ho, r⟩
  · cases q : H b with
    | none => exact new b u e q
    | some v =>
      obtain rfl : v = u := Option.some.inj ((up b v q).symm.trans e)
      refine (I.hok b v q).stay (fun c v' hc r => k c v' ?_ r) (fun c r => up _ _ r) fun c xs r => up _ _ r
      rcases hc with z | z
      · rw [z]; exact off b v q
      · exact off c _ z
/-- the lists at a and b as they stand at each turn, the items in new pairs, each in a new pair with its place -/
def Itez (K : PySem.W.Frag) (a b : Addr) : It :=
  ⟨fun i H => ∃ (xs ys : List V) (x y : V), SqL K H a xs ∧ SqL K H b ys ∧ xs[i]? = some x ∧ ys[i]? = some y,
    fun i H v H' => ∃ (t r : Addr) (x y : V), v = .ref r ∧ H t = none ∧ H r = none ∧ r ≠ t ∧ H' = upd (upd H t (.tup [x, y])) r (.tup [.int (i : Nat), .ref t]) ∧ (∀ xs, SqL K H a xs → xs[i]? = some x) ∧ ∀ ys, SqL K H b ys → ys[i]? = some y,
    fun i H => ∃ xs ys : List V, SqL K H a xs ∧ SqL K H b ys ∧ (xs.length ≤ i ∨ ys.length ≤ i)⟩
def EzTn (e z TI TO i1 i2 a b : Addr) (i : Nat) (h : Heap) : Prop := (∃ old, IsEnum h e z ((i : Nat) : Int) old) ∧ ZipSt h z TI TO ∧ IsPair h TI (.ref i1) (.ref i2) ∧ (∃ x y, IsPair h TO x y) ∧ h.IsListIter i1 a i ∧ h.IsListIter i2 b i
theorem turn_ez {P : Program} {w : World} {K : PySem.W.Frag} {elts : List Expr} {kk : Nat} {tpos : Pos} {e z TI TO i1 i2 a b : Addr} (D : EzApart e z TI TO i1 i2 a b) (ea : e ≠ a) (eb : e ≠ b) :
    Turn P w K (.Tuple elts kk tpos) (Itez K a b) [e, z, TI, TO, i1, i2] e (EzTn e z TI TO i1 i2 a b) where
  mem := by simp
  obj := fun i h st c hc => by
    obtain ⟨⟨old, he⟩, hz, hTI, ⟨x, y, hTO⟩, ⟨o1, e1, _, d1⟩, ⟨o2, e2, _, d2⟩⟩ := st
    have e' : c = e ∨ c = z ∨ c = TI ∨ c = TO ∨ c = i1 ∨ c = i2 := by simpa using hc
    rcases e' with q | q | q | q | q | q
    · rw [q]; exact ⟨_, he, fun v q => nomatch q⟩
    · rw [q]
      rcases hz with hz | ⟨T, f, hz⟩
      · exact ⟨_, hz, fun v q => nomatch q⟩
      · exact ⟨_, hz, fun v q => nomatch q⟩
    · rw [q]; exact ⟨_, hTI, fun v q => nomatch q⟩
    · rw [q]; exact ⟨_, hTO, fun v q => nomatch q⟩
    · rw [q]; exact ⟨o1, e1, fun v q => by rw [d1] at q; cases q⟩
    · rw [q]; exact ⟨o2, e2, fun v q => by rw [d2] at q; cases q⟩
  keep := fun i h h' st k => by
    obtain ⟨⟨old, he⟩, hz, hTI, ⟨x, y, hTO⟩, h1, h2⟩ := st
    exact ⟨⟨old, k e (by simp) _ he⟩, hz.of fun o q => k z (by simp) o q, k TI (by simp) _ hTI, ⟨x, y, k TO (by simp) _ hTO⟩, h1.at fun o q => k i1 (by simp) o q, h2.at fun o q => k i2 (by simp) o q⟩
  item := by
    intro X hP hw hK hc i pins s σ H E I hf st hg
    subst hP hw hK
    obtain ⟨⟨old, he⟩, hz, hTI, ⟨x0, y0, hTO⟩, h1, h2⟩ := st
    obtain ⟨xs, ys, x, y, hqx, hqy, hx, hy⟩ := hg
    obtain ⟨its, rv, p, _⟩ := I.list hqx
    obtain ⟨its2, rv2, p2, _⟩ := I.list hqy
    obtain ⟨u, hu, ru⟩ := rv.get hx
    obtain ⟨u2, hu2, ru2⟩ := rv2.get hy
    have elt : e < s.heap.objs.size := Heap.lt_size he
    refine next_ez_item D he hz hTI hTO h1 h2 p.isList p2.isList (x := u) (y := u2) (by simpa using hu) (by simpa using hu2) fun h' tk eo z' TI' TO' i1' i2' pT pR hk => ?_
    obtain ⟨it, eo⟩ := eo
    refine ⟨_, rfl, wpAny_letOwnedTupleGo_enum (s := { s with heap := h', toks := tk + 1 }) eo fun h'' e'' sb => ?_⟩
    have nT : s.heap.objs.size ≠ e := Nat.ne_of_gt elt
    have nR : s.heap.objs.size + 1 ≠ e := Nat.ne_of_gt (Nat.lt_succ_of_lt elt)
    have pT2 : IsPair h'' s.heap.objs.size u u2 := (sb.2 _ nT).trans pT
    have pR2 : IsPair h'' (s.heap.objs.size + 1) (.int i tk) (.ref s.heap.objs.size) := (sb.2 _ nR).trans pR
    have fT : H s.heap.objs.size = none := I.hok.fresh (Nat.le_refl _)
    have fR : H (s.heap.objs.size + 1) = none := I.hok.fresh (Nat.le_succ _)
    have nRT : (s.heap.objs.size + 1 : Nat) ≠ s.heap.objs.size := Nat.succ_ne_self _
    have hk2 : ∀ c o, c ∉ [e, z, TI, TO, i1, i2] → s.heap.get? c = some o → h''.get? c = some o := fun c o hb q =>
      (sb.2 c (fun q' => hb (by simp [q']))).trans (hk c o (fun q' => hb (by simp [q'])) (fun q' => hb (by simp [q'])) (fun q' => hb (by simp [q'])) (fun q' => hb (by simp [q'])) (fun q' => hb (by simp [q'])) q)
    have fR1 : (upd H s.heap.objs.size (.tup [x, y])) (s.heap.objs.size + 1) = none := by
      rw [upd_ne nRT]
      exact fR
    have newR : ObjOk X.prog X.w (upd (upd H s.heap.objs.size (.tup [x, y])) (s.heap.objs.size + 1) (.tup [.int (i : Nat), .ref s.heap.objs.size])) h'' (s.heap.objs.size + 1) (.tup [.int (i : Nat), .ref s.heap.objs.size]) :=
      ⟨by show 2 ≤ sizeLine; decide, [.int i tk, .ref s.heap.objs.size], .cons ⟨_, rfl⟩ (.cons rfl .nil), ⟨_, pR2, rfl, _, rfl⟩⟩
    have I2 : Inv X pins σ (upd (upd H s.heap.objs.size (.tup [x, y])) (s.heap.objs.size + 1) (.tup [.int (i : Nat), .ref s.heap.objs.size])) { s with heap := h'', toks := tk + 1 } :=
      turned_more (ch := [e, z, TI, TO, i1, i2]) I hk2 hf (fun c o q => by rw [upd_ne (ne_of_none q fR), upd_ne (ne_of_none q fT)]; exact q)
        (fun c q => by
          by_cases c1 : c = s.heap.objs.size + 1
          · rw [c1]; exact Nat.le_succ _
          · rw [upd_ne c1] at q
            by_cases c2 : c = s.heap.objs.size
            · rw [c2]; exact Nat.le_refl _
            · rw [upd_ne c2] at q
              exact absurd rfl q)
        (fun c o q hn => by
          by_cases c1 : c = s.heap.objs.size + 1
          · subst c1
            rw [upd_same] at q
            cases q
            exact newR
          · rw [upd_ne c1] at q
            by_cases c2 : c = s.heap.objs.size
            · subst c2
              rw [upd_same] at q
              cases q
              exact ⟨by show 2 ≤ sizeLine; decide, [u, u2], .cons ru (.cons ru2 .nil), ⟨_, pT2, rfl, _, rfl⟩⟩
            · rw [upd_ne c2, hn] at q
              cases q)
    refine ⟨.ref (s.heap.objs.size + 1), _, I2, rfl, ⟨_, _, x, y, rfl, fT, fR, nRT, rfl, fun l hl => by rw [I.list_inj hl hqx]; exact hx, fun l hl => by rw [I.list_inj hl hqy]; exact hy⟩, ?_, fun c hcm => ?_⟩
    · have e1 : ((i + 1 : Nat) : Int) = (i : Int) + 1 := by omega
      refine ⟨⟨it, ?_⟩, z'.of fun o q => (sb.2 z D.ez.symm).trans q, (sb.2 _ D.eTI.symm).trans TI', ?_, i1'.at fun o q => (sb.2 i1 D.e1.symm).trans q, i2'.at fun o q => (sb.2 i2 D.e2.symm).trans q⟩
      · rw [e1]
        exact e''
      · obtain ⟨a', b', q⟩ := TO'
        exact ⟨a', b', (sb.2 _ D.eTO.symm).trans q⟩
    · have hlt : c < s.heap.objs.size := by
        have q : c = e ∨ c = z ∨ c = TI ∨ c = TO ∨ c = i1 ∨ c = i2 := by simpa using hcm
        rcases q with q | q | q | q | q | q
        · rw [q]; exact elt
        · rw [q]
          rcases hz with hz | ⟨T, f, hz⟩
          · exact Heap.lt_size hz
          · exact Heap.lt_size hz
        · rw [q]; exact Heap.lt_size hTI
        · rw [q]; exact Heap.lt_size hTO
        · rw [q]; obtain ⟨_, e1, _⟩ := h1; exact Heap.lt_size e1
        · rw [q]; obtain ⟨_, e2, _⟩ := h2; exact Heap.lt_size e2
      rw [upd_ne (Nat.ne_of_lt (Nat.lt_succ_of_lt hlt)), upd_ne (Nat.ne_of_lt hlt)]
      exact (hf c hcm).1
  done := by
    intro X hP hw hK hc i pins s σ H E I hf st hg
    subst hP hw hK
    obtain ⟨⟨old, he⟩, hz, hTI, ⟨x0, y0, hTO⟩, h1, h2⟩ := st
    obtain ⟨xs, ys, hqx, hqy, hend⟩ := hg
    obtain ⟨its, rv, p, _⟩ := I.list hqx
    obtain ⟨its2, rv2, p2, _⟩ := I.list hqy
    have l1 := rv.length
    have l2 := rv2.length
    have hn : its.toArray[i]? = none ∨ its2.toArray[i]? = none := by
      rcases hend with q | q
      · exact .inl (by simp; omega)
      · exact .inr (by simp; omega)
    exact next_ez_end (I.ok.hd hc) D he hz hTI hTO h1 h2 p.isList p2.isList hn fun h' hk => ⟨rfl, I.turnedL (t' := s.toks) (ch := [e, z, TI, TO, i1, i2]) (fun c o hb q =>
      hk c o (fun q' => hb (by simp [q'])) (fun q' => hb (by simp [q'])) (fun q' => hb (by simp [q'])) (fun q' => hb (by simp [q'])) q) hf⟩
  self := fun A i s Q E st h => let ⟨⟨_, he⟩, _⟩ := st; wpAny_pyIter_enum he h
def iEz (K : PySem.W.Frag) (ta : TA) : TI := fun σ H R => ta σ H fun vs H1 => ∃ a b xs ys, vs = [.ref a, .ref b] ∧ SqL K H1 a xs ∧ SqL K H1 b ys ∧ R (Itez K a b) H1
theorem pi_ez {X : Cx} {ea eb : Expr} {ta : TA} {p p2 pos pos2 tpos : Pos} {elts : List Expr} {kk : Nat} (hg : Gl X "enumerate") (hm : X.mg "enumerate" = none) (hg2 : Gl X "zip") (hm2 : X.mg "zip" = none) (ha : PA X [ea, eb] ta)
    (hs1 : starEach [.Call (.Name "zip" p2) [ea, eb] [] pos2] X.env = (false, eval (.Call (.Name "zip" p2) [ea, eb] [] pos2) X.env) :: starEach [] X.env := by rfl)
    (hs : starEach [ea, eb] X.env = (false, eval ea X.env) :: starEach [eb] X.env := by rfl) (hpl : (backTo pos2 (starEach [eb] X.env)).any (·.1) = false := by rfl) (hpl1 : (backTo pos (starEach [] X.env)).any (·.1) = false := by rfl) :
    PI X (.Tuple elts kk tpos) (.Call (.Name "enumerate" p) [.Call (.Name "zip" p2) [ea, eb] [] pos2] [] pos) (iEz X.K ta) := by
  refine ⟨fun pins s σ H R I h => ?_⟩
  refine Call_ (ld_blt I hg hm boot_enumerate (PyProof.Rows.callWith_type1 ?_ hs1 hpl1))
  rw [hs1]
  show wpAny _ _ (spliced ((false, eval (.Call (.Name "zip" p2) [ea, eb] [] pos2) X.env) :: backTo pos (starEach [] X.env))) _ _ s
  refine Calls.spliced_cons ?_
  refine Call_ (ld_blt I hg2 hm2 PyProof.Rows.boot_zip (PyProof.Rows.callWith_type1 (thn (ha.run pos2 pins s σ H _ I h) fun us s1 ⟨vs, H1, I1, r1, q1⟩ => ?_) hs hpl))
  obtain ⟨a, b, xs, ys, rfl, hqx, hqy, q⟩ := q1
  cases r1 with
  | cons r rr =>
  cases rr with
  | cons r' rr =>
  cases rr
  cases r
  cases r'
  obtain ⟨its, rv, p1, _⟩ := I1.list hqx
  obtain ⟨its2, rv2, p3, _⟩ := I1.list hqy
  have la : a < s1.heap.objs.size := p1.lt
  have lb : b < s1.heap.objs.size := p3.lt
  refine call_zip_2 p1.isList p3.isList fun h' hz hTI hTO h1 h2 hsz hk => ?_
  refine Calls.spliced_nil ?_
  refine call_enum_zip (s := { s1 with heap := h' }) hz fun h2' he hk2 => wpAny_pyIter_enum he ?_
  have hsz' : h'.objs.size = s1.heap.objs.size + 5 := hsz
  have k2 : ∀ c o, s1.heap.get? c = some o → h2'.get? c = some o := fun c o e => hk2 c o (hk c o e)
  have I2 : Inv X pins σ H1 { s1 with heap := h2' } := I1.kept (t' := s1.toks) k2
  have D : EzApart h'.objs.size (s1.heap.objs.size + 4) (s1.heap.objs.size + 2) (s1.heap.objs.size + 3) s1.heap.objs.size (s1.heap.objs.size + 1) a b := by
    refine ⟨PySem.W.ktu_apart s1.heap.objs.size a b la lb, ?_, ?_, ?_, ?_, ?_⟩ <;> (rw [hsz']; exact Nat.ne_of_gt (by simp only [Nat.add_lt_add_iff_left, Nat.lt_add_left_iff_pos, Nat.lt_add_right_iff_pos]; decide))
  have na : h'.objs.size ≠ a := by
    rw [hsz']
    exact Nat.ne_of_gt (Nat.lt_of_lt_of_le la (Nat.le_add_right _ _))
  have nb : h'.objs.size ≠ b := by
    rw [hsz']
    exact Nat.ne_of_gt (Nat.lt_of_lt_of_le lb (Nat.le_add_right _ _))
  refine ⟨h'.objs.size, [h'.objs.size, s1.heap.objs.size + 4, s1.heap.objs.size + 2, s1.heap.objs.size + 3, s1.heap.objs.size, s1.heap.objs.size + 1], _, _, H1, rfl, I2, turn_ez D na nb,
    ⟨⟨.none, he⟩, .inl (hk2 _ _ hz), hk2 _ _ hTI, ⟨_, _, hk2 _ _ hTO⟩, h1.at fun o e => hk2 _ o e, h2.at fun o e => hk2 _ o e⟩, fun c hcm => ?_, q⟩
  have hle : s1.heap.objs.size ≤ c := by
    have e' : c = h'.objs.size ∨ c = s1.heap.objs.size + 4 ∨ c = s1.heap.objs.size + 2 ∨ c = s1.heap.objs.size + 3 ∨ c = s1.heap.objs.size ∨ c = s1.heap.objs.size + 1 := by simpa using hcm
    rcases e' with z | z | z | z | z | z
    · rw [z, hsz']; exact Nat.le_add_right _ _
    · rw [z]; exact Nat.le_add_right _ _
    · rw [z]; exact Nat.le_add_right _ _
    · rw [z]; exact Nat.le_add_right _ _
    · rw [z]; exact Nat.le_refl _
    · rw [z]; exact Nat.le_add_right _ _
  exact I1.fpOk hle (I1.hok.fresh hle)
end K26


set_option maxHeartbeats 4000000
namespace K26
open PySem PySem.Spec PyProof.Rows L2
/-- a comprehension over enumerate(zip(a, b)) of lists of one length -/
theorem lc_ez {K : PySem.W.Frag} {a b : Addr} {xs ys : List V} {g : TG} {tt : TT} {te : TE} {vs : List Nat} {σ : L2.St} {H1 : Hp} {D : Addr} {Qd : Hp → Prop} (hl : xs.length = ys.length) (Pv : Nat → Hp → Prop) (h0 : Pv 0 (upd H1 D (.lst [])))
    (hq : ∀ i H, Pv i H → SqL K H a xs ∧ SqL K H b ys)
    (hs : ∀ (i : Nat) (x y : V) (t r : Addr) (H : Hp), xs[i]? = some x → ys[i]? = some y → Pv i H → H t = none → H r = none → r ≠ t → g (.ref r) (wipe σ vs) (upd (upd H t (.tup [x, y])) r (.tup [.int (i : Nat), .ref t])) fun σ2 H2 => wipe σ2 vs = wipe σ vs ∧ tt σ2 H2 fun c H3 =>
      if c = true then te σ2 H3 fun y H4 => ∃ acc, H4 D = some (.lst acc) ∧ acc.length < sizeLine ∧ Pv (i + 1) (upd H4 D (.lst (acc ++ [y]))) else Pv (i + 1) H3)
    (hd : ∀ H, Pv xs.length H → Qd H) : LcG (Itez K a b) g tt te vs σ (upd H1 D (.lst [])) D Qd := by
  refine ⟨fun i m H => m = xs.length - i ∧ i ≤ xs.length ∧ Pv i H, ⟨xs.length, rfl, Nat.zero_le _, h0⟩, fun i m H ⟨em, hi, p⟩ => ?_⟩
  obtain ⟨qx, qy⟩ := hq i H p
  by_cases hlt : i < xs.length
  · have hlt2 : i < ys.length := by omega
    refine .inr ⟨⟨xs, ys, _, _, qx, qy, List.getElem?_eq_getElem hlt, List.getElem?_eq_getElem hlt2⟩, Pv (i + 1), fun H' p' => ⟨xs.length - (i + 1), by omega, rfl, hlt, p'⟩, fun v H' y => ?_⟩
    obtain ⟨t, r, x, y, rfl, ht, hr, hrt, rfl, f1, f2⟩ := y
    exact hs i x y t r H (f1 xs qx) (f2 ys qy) p ht hr hrt
  · have e : i = xs.length := by omega
    subst e
    exact .inl ⟨⟨xs, ys, qx, qy, .inl (Nat.le_refl _)⟩, hd H p⟩
section
variable {P : Program} {w : World} {K : PySem.W.Frag} {mg : Str → Option Value} {base : Heap}
/-! ### met_rules -/
def spMet : Sp := fun vs H Q _ => ∃ (ps : List Pat) (st : List Int) (pv sv : V), vs = [pv, sv] ∧ PtsR H pv ps ∧ IL H sv st ∧ st.length = ps.length ∧ ps.length ≤ 1000 ∧ ∀ H' q, Same H H' → H q = none → H' q = some (.lst ((met ps st).map V.int)) → Q (.ref q) H'
theorem sc_met : FnScope ["patterns_now", "status", "rule", "pattern", "number"] ["patterns_now", "status"] (defScope s_met_rules) := ⟨rfl, rfl, rfl, by decide +kernel, rfl, by decide +kernel, by decide +kernel⟩
theorem c_met (T : Txt K mg) : Cal P w K mg base 1 "met_rules" ["patterns_now", "status"] spMet := by
  obtain ⟨fd, F⟩ := T.f_met_rules
  refine cal_of F T.g_met_rules sc_met (fun vs H Q E h => ?_) (fun _ _ _ _ _ _ us hl => match us, hl with | [_, _], _ => rfl) (fun cdv A outer s H vs Q E hr h => ?_)
  · obtain ⟨ps, st, a, b, rfl, _⟩ := h
    rfl
  · obtain ⟨ps, st, _, _, rfl, ⟨a, pvs, rfl, ha, pp⟩, ⟨b, rfl, hb⟩, hl, hle, k⟩ := h
    have nd := sc_met.nd
    refine ⟨_, pss_one (ps_ret (pe_lc (own := [("rule", 2), ("pattern", 3), ("number", 4)]) (g := gTup K 2 (gCons (gName 2) (gCons (gTup K 2 (gCons (gName 3) (gCons (gName 4) gNil))) gNil))) (tt := tTest (tOp rEq (tVar 4) (tCB (rLenSeq K) (tCons (tVar 3) tNil)))) (te := tVar 2) rfl nd
      (pi_ez (by rfl) T.b_enumerate (by rfl) T.b_zip (pa_cons (pv 0) (pa_cons (pv 1) pa_nil))) (blkOk_by (N := ["patterns_now", "status", "rule", "pattern", "number"]) (sc := defScope s_met_rules) (by decide +kernel))
      (fun _ _ _ _ _ => pg_tup rfl (pgs_cons (pg_name (i := 2) nd rfl (Or.inl rfl)) (pgs_cons (pg_tup rfl (pgs_cons (pg_name (i := 3) nd rfl (Or.inl rfl)) (pgs_cons (pg_name (i := 4) nd rfl (Or.inl rfl)) pgs_nil))) pgs_nil)))
      (fun _ _ _ _ _ => pts_one (pt_cmpR op_eq (pv 4) (pe_callB call_len_seq (by rfl) T.b_len boot_len (pa_cons (pv 3) pa_nil)) (nomark _))) (fun _ _ _ _ _ => pv 2))), ?_⟩
    have hpl := pp.length
    refine ⟨_, rfl, _, rfl, a, b, pvs, st.map V.int, rfl, SqL.of ha, SqL.of hb, fun D hD => lc_ez (K := K) (a := a) (b := b) (xs := pvs) (ys := st.map V.int) (by rw [List.length_map]; omega)
      (fun i H1 => Same H (cut [D] H1) ∧ H1 D = some (.lst ((metN ps st i).map V.int))) ⟨by rw [cut_upd (List.mem_singleton.mpr rfl)]; exact Same.newD hD (Same.refl _), by rw [upd_same]; rfl⟩
      (fun i H1 ⟨sm, _⟩ => ⟨SqL.of (cut_same _ _ (sm _ _ ha)), SqL.of (cut_same _ _ (sm _ _ hb))⟩) ?_ ?_⟩
    · rintro i x y t r H1 hx hy ⟨sm, eD⟩ nt nr nrt
      obtain ⟨p, hp, ⟨q, svs, rfl, hq, sp⟩⟩ := paired_getL pp hx
      obtain ⟨n, hn, rfl⟩ := int_at hy
      have s1 : Same H1 (upd H1 t (.tup [V.ref q, V.int n])) := same_upd nt
      have nr1 : (upd H1 t (.tup [V.ref q, V.int n])) r = none := by
        rw [upd_ne nrt]
        exact nr
      have s2 : Same H1 (upd (upd H1 t (.tup [V.ref q, V.int n])) r (.tup [V.int (i : Nat), V.ref t])) := s1.trans (same_upd nr1)
      have ht2 : (upd (upd H1 t (.tup [V.ref q, V.int n])) r (.tup [V.int (i : Nat), V.ref t])) t = some (.tup [V.ref q, V.int n]) := by rw [upd_ne nrt.symm, upd_same]
      have sl := sp.length
      have e2 : met ps st = met ps st := rfl
      have eb : (decide (V.int n = V.int (svs.length : Int))) = metB ps st i := by
        unfold metB
        rw [List.getD_eq_getElem?_getD, List.getD_eq_getElem?_getD, hn, hp, sl]
        by_cases h : n = (p.length : Int)
        · rw [decide_eq_true (by rw [h]), decide_eq_true (by exact h)]
        · rw [decide_eq_false (fun z => h (V.int.inj z)), decide_eq_false (by exact h)]
      refine ⟨r, _, rfl, SqT.of upd_same, rfl, _, _, rfl, _, _, rfl, ⟨t, _, rfl, SqT.of ht2, rfl, _, _, rfl, _, _, rfl, rfl, rfl, ?_⟩⟩
      refine ⟨rfl, _, rfl, _, rfl, q, svs, rfl, .inl (SqL.of (s2 _ _ (cut_same _ _ (sm _ _ hq)))), rfl, _, rfl, ?_⟩
      rw [eb]
      refine ite2 (fun e => ?_) (fun e => ?_)
      · refine ⟨_, rfl, _, s2 _ _ eD, ?_, ?_, ?_⟩
        · rw [List.length_map]
          have h1 := metN_len ps st i
          have h2 : i < pvs.length := (List.getElem?_eq_some_iff.mp hx).1
          exact len_small (by omega)
        · rw [cut_upd (List.mem_singleton.mpr rfl)]
          exact sm.trans (s2.cutS _)
        · rw [upd_same, metN_succ, if_pos e, List.map_append]
          rfl
      · refine ⟨sm.trans (s2.cutS _), ?_⟩
        rw [metN_succ, if_neg e]
        exact s2 _ _ eD
    · rintro H1 ⟨sm, eD⟩
      rw [hpl] at eD
      exact k H1 D (sm.trans cut_same) hD eD
end
end K26


set_option maxHeartbeats 4000000
namespace K26
open PySem PySem.Spec PyProof.Rows L2
theorem any_dI (x : List Int) : ∀ S : List (List Int), ((S.map dI).any fun z => PyData.eqv z (dI x)) = decide (x ∈ S)
  | [] => by simp
  | s :: S => by
    rw [List.map_cons, List.any_cons, any_dI x S, eqv_dI]
    by_cases h : s = x
    · subst h
      simp
    · have h' : ¬ x = s := fun e => h e.symm
      simp [h, h']
theorem Fin.of {ps : List Pat} (h : Small ps) {c k : Nat} (hj : ∀ j, j < k → j < (tn ps c j).1.length) (hk : ¬ k < (tn ps c k).1.length) : Fin ps c k := by
  refine ⟨?_, hj⟩
  have le : k ≤ (tn ps c k).1.length := by
    cases k with
    | zero => exact Nat.zero_le _
    | succ j =>
      obtain ⟨st, row, a1, _⟩ := (tn_ok h c (j + 1) hj).row j (Nat.lt_succ_self j)
      exact (List.getElem?_eq_some_iff.mp a1).1
  omega
/-- the statuses at sa, the table's rows at ra, all else as it was -/
structure SrAt (M : List Addr) (H0 : Hp) (sa ra : Addr) (S rows : List (List Int)) (H : Hp) : Prop where
  same : Same H0 (cut M H)
  st : ∃ svs, H sa = some (.lst svs) ∧ Paired (IL (cut M H)) svs S
  rw : ∃ rvs, H ra = some (.lst rvs) ∧ Paired (IL (cut M H)) rvs rows
section
variable {P : Program} {w : World} {K : PySem.W.Frag} {mg : Str → Option Value} {base : Heap}
theorem SrAt.keep {M : List Addr} {H0 H H' : Hp} {sa ra : Addr} {S rows : List (List Int)} (a : SrAt M H0 sa ra S rows H) (s : Same H H') : SrAt M H0 sa ra S rows H' := by
  obtain ⟨svs, h1, p1⟩ := a.st
  obtain ⟨rvs, h2, p2⟩ := a.rw
  exact ⟨a.same.trans (s.cutS _), ⟨svs, s _ _ h1, pair_mono (s.cutS _) p1⟩, ⟨rvs, s _ _ h2, pair_mono (s.cutS _) p2⟩⟩
theorem SrAt.dpS {M : List Addr} {H0 H : Hp} {sa ra : Addr} {S rows : List (List Int)} (a : SrAt M H0 sa ra S rows H) : Dp K H (.ref sa) (.list (S.map dI)) := by
  obtain ⟨svs, h1, p1⟩ := a.st
  exact .lst (SqL.of h1) (dpAll_of (fun _ _ q => IL.dp q) (pair_mono cut_same p1))
/-- row.append(statuses.index(status)) -/
def tApp (K : PySem.W.Frag) : TS := tDrop (tBM K "list" rAppend (tVar 6) (tCons (tBM K "list" (rIndexD K) (tVar 4) (tCons (tVar 8) tNil)) tNil))
theorem app_index {M : List Addr} {D : Ends} {H0 H : Hp} {sa ra wa p : Addr} {S rows : List (List Int)} {s nums : List Int} {f n d pt g : Option V} (a : SrAt M H0 sa ra S rows H) (hw : H wa = some (.lst (nums.map V.int))) (hp : IL H (.ref p) s) (hs : s ∈ S) (hl : nums.length ≤ 1000)
    (k : D.nx [f, n, d, pt, some (.ref sa), some (.ref ra), some (.ref wa), g, some (.ref p)] (upd H wa (.lst ((nums ++ [((S.idxOf s : Nat) : Int)]).map V.int)))) : tApp K D [f, n, d, pt, some (.ref sa), some (.ref ra), some (.ref wa), g, some (.ref p)] H := by
  have hix := idx_get hs
  obtain ⟨svs, h1, _⟩ := a.st
  have hj : (S.map dI)[S.idxOf s]? = some (dI s) := by
    rw [List.getElem?_map, hix]
    rfl
  refine ⟨_, rfl, .inl ⟨rfl, _, SqL.of hw⟩, _, rfl, .inl ⟨rfl, _, SqL.of h1⟩, _, rfl, sa, _, dI s, S.map dI, S.idxOf s, dI s, rfl, rfl, a.dpS, IL.dp hp, dL_shaped S, dI_shaped s, hj, by rw [eqv_dI]; exact decide_eq_true rfl, fun m z' hm hz => ?_, ?_⟩
  · rw [List.getElem?_map] at hz
    cases e : S[m]? with
    | none =>
      rw [e] at hz
      cases hz
    | some t =>
      rw [e] at hz
      obtain rfl : dI t = z' := Option.some.inj hz
      rw [eqv_dI]
      refine decide_eq_false fun q => ?_
      subst q
      have h2 := List.not_of_lt_findIdx (p := (· == t)) (xs := S) (i := m) hm
      obtain ⟨hml, em⟩ := List.getElem?_eq_some_iff.mp e
      rw [em] at h2
      simp at h2
  · refine ⟨wa, _, _, rfl, rfl, hw, len_small (by rw [List.length_map]; omega), ?_⟩
    rw [List.map_append] at k
    exact k
theorem cut_new {M : List Addr} {H : Hp} {wa : Addr} (nw : H wa = none) : Same (cut M H) (cut (wa :: M) H) := fun b o e => by
  obtain ⟨h1, h2⟩ := cut_get e
  exact cut_of h2 (by simp only [List.mem_cons, not_or]; exact ⟨ne_of_none h2 nw, h1⟩)
theorem SrAt.new {M : List Addr} {H0 H : Hp} {sa ra wa : Addr} {o : HO} {S rows : List (List Int)} (a : SrAt M H0 sa ra S rows H) (nw : H wa = none) : SrAt (wa :: M) H0 sa ra S rows (upd H wa o) := by
  obtain ⟨svs, h1, p1⟩ := a.st
  obtain ⟨rvs, h2, p2⟩ := a.rw
  have e : cut (wa :: M) (upd H wa o) = cut (wa :: M) H := cut_upd (List.mem_cons_self ..)
  have s := cut_new (M := M) nw
  exact ⟨by rw [e]; exact a.same.trans s, ⟨svs, by rw [upd_ne (ne_of_none h1 nw)]; exact h1, by rw [e]; exact pair_mono s p1⟩, ⟨rvs, by rw [upd_ne (ne_of_none h2 nw)]; exact h2, by rw [e]; exact pair_mono s p2⟩⟩
theorem SrAt.write {M : List Addr} {H0 H : Hp} {sa ra wa : Addr} {o : HO} {S rows : List (List Int)} (a : SrAt M H0 sa ra S rows H) (hw : wa ∈ M) (n1 : sa ≠ wa) (n2 : ra ≠ wa) : SrAt M H0 sa ra S rows (upd H wa o) := by
  obtain ⟨svs, h1, p1⟩ := a.st
  obtain ⟨rvs, h2, p2⟩ := a.rw
  have e : cut M (upd H wa o) = cut M H := cut_upd hw
  exact ⟨by rw [e]; exact a.same, ⟨svs, by rw [upd_ne n1]; exact h1, by rw [e]; exact p1⟩, ⟨rvs, by rw [upd_ne n2]; exact h2, by rw [e]; exact p2⟩⟩
theorem SrAt.addS {M : List Addr} {H0 H : Hp} {sa ra : Addr} {svs : List V} {v : V} {s : List Int} {S rows : List (List Int)} (a : SrAt M H0 sa ra S rows H) (hs : H sa = some (.lst svs)) (hM : sa ∈ M) (n : ra ≠ sa) (hv : IL (cut M H) v s) : SrAt M H0 sa ra (S ++ [s]) rows (upd H sa (.lst (svs ++ [v]))) := by
  obtain ⟨svs', h1, p1⟩ := a.st
  obtain ⟨rvs, h2, p2⟩ := a.rw
  have e : cut M (upd H sa (.lst (svs ++ [v]))) = cut M H := cut_upd hM
  have e2 : svs' = svs := by
    rw [hs] at h1
    injection h1 with h1
    injection h1 with h1
    exact h1.symm
  subst e2
  exact ⟨by rw [e]; exact a.same, ⟨_, upd_same, by rw [e]; exact paired_app p1 (.cons hv .nil)⟩, ⟨rvs, by rw [upd_ne n]; exact h2, by rw [e]; exact p2⟩⟩
def spBuiltS (K : PySem.W.Frag) : Sp := fun vs H Q _ => ∃ (f : FontD) (n : Nat) (lk : LkD) (fore : Bool) (fv : V), vs = [fv, .int n, .str (sideName fore)] ∧ FontR K H fv f ∧ f.lks[n]? = some lk ∧ LkLen lk ∧ Small (patsOf fore lk) ∧ f.gls.length ≤ 1000 ∧
  ∀ k H' v, Fin (patsOf fore lk) f.gls.length k → Same H H' → SideR H' v (rowsOf (patsOf fore lk) f.gls.length k, metOf (patsOf fore lk) f.gls.length k) → Q v H'
theorem sc_bs : FnScope ["font", "lookup", "side", "patterns_now", "statuses", "rows", "row", "glyph", "status"] ["font", "lookup", "side"] (defScope s_built_side) := ⟨rfl, rfl, rfl, by decide +kernel, rfl, by decide +kernel, by decide +kernel⟩
theorem c_bs (T : Txt K mg) : Cal P w K mg base 2 "built_side" ["font", "lookup", "side"] (spBuiltS K) := by
  obtain ⟨fd, F⟩ := T.f_built_side
  refine cal_of F T.g_built_side sc_bs (fun vs H Q E h => ?_) (fun _ _ _ _ _ _ us hl => match us, hl with | [_, _, _], _ => rfl) (fun cdv A outer s H vs Q E hr h => ?_)
  · obtain ⟨f, n, lk, fore, fv, rfl, _⟩ := h
    rfl
  · obtain ⟨f, n, lk, fore, fv, rfl, hf, hn, ll, sml, hgl, kk⟩ := h
    have nd := sc_bs.nd
    obtain ⟨tM, hM⟩ := T.c_MOST_STATES
    have hu65 : (A.deeper (envOfC "built_side" (defScope s_built_side) s.heap.objs.size (He.ga K "built_side") cdv)).units + 65 < cLine := by
      have h1 := hr.un
      omega
    refine ⟨_, pss_cons (ps_set (i := 3) nd rfl (.inr rfl) (pe_cal (c_pats T) hr rfl (pa_cons (pv 0) (pa_cons (pv 1) (pa_cons (pv 2) pa_nil)))))
      (pss_cons (ps_set (i := 4) nd rfl (.inl rfl) (pe_lst (pa_cons (pe_cal (c_after T) hr rfl (pa_cons (pv 3) (pa_cons (pe_lst pa_nil) pa_nil))) pa_nil)))
      (pss_cons (ps_set (i := 5) nd rfl (.inl rfl) (pe_lst pa_nil))
      (pss_cons (ps_while PassesOwn.never (pt_cmpR op_lt (pe_callB call_len_seq (by rfl) T.b_len boot_len (pa_cons (pv 5) pa_nil)) (pe_callB call_len_seq (by rfl) T.b_len boot_len (pa_cons (pv 4) pa_nil)) (nomark _))
        (pss_cons (ps_set (i := 6) nd rfl (.inl rfl) (pe_lst pa_nil))
        (pss_cons (ps_for PassesOwn.never rfl (pi_range1 (by rfl) T.b_range (pa_cons (pe_callB call_len_seq (by rfl) T.b_len boot_len (pa_cons (pe_fld (pv 0) rfl) pa_nil)) pa_nil)) (pg_name (i := 7) nd rfl (.inl rfl))
          (pss_cons (ps_set (i := 8) nd rfl (.inl rfl) (pe_cal (c_next T) hr rfl (pa_cons (pv 3) (pa_cons (pe_ix ix_list (pv 4) (pe_callB call_len_seq (by rfl) T.b_len boot_len (pa_cons (pv 5) pa_nil)) (fun _ _ => rfl)) (pa_cons (pv 7) pa_nil)))))
          (pss_cons (ps_if (pt_cmpR (op_notInD hu65) (pv 8) (pv 4) (by rfl))
            (pss_cons (ps_expr (pe_bm PySem.F.plainAttrs_list PySem.F.slot_list_append PySem.F.type_list_append mt_append (pv 4) (pa_cons (pv 8) pa_nil)))
            (pss_one (ps_if (pt_cmpR op_gt (pe_callB call_len_seq (by rfl) T.b_len boot_len (pa_cons (pv 4) pa_nil)) (pe_glob (v := .int 500) (by rfl) hM ⟨_, rfl⟩) (nomark _)) (pss_one ps_never) pss_nil))) pss_nil)
          (pss_one (ps_expr (pe_bm PySem.F.plainAttrs_list PySem.F.slot_list_append PySem.F.type_list_append mt_append (pv 6) (pa_cons (pe_bm PySem.F.plainAttrs_list PySem.F.slot_list_index PySem.F.type_list_index (mt_indexD hu65) (pv 4) (pa_cons (pv 8) pa_nil)) pa_nil)))))))
        (pss_one (ps_expr (pe_bm PySem.F.plainAttrs_list PySem.F.slot_list_append PySem.F.type_list_append mt_append (pv 5) (pa_cons (pv 6) pa_nil)))))))
      (pss_one (ps_ret (pe_tup (pa_cons (pv 5) (pa_cons (pe_lc (own := [("status", 8)]) (g := gName 8) (tt := tYes) (te := tCall spMet [] E0 (tCons (tVar 3) (tCons (tVar 8) tNil))) rfl nd (pi_list (pv 4)) (blkOk_by (N := ["font", "lookup", "side", "patterns_now", "statuses", "rows", "row", "glyph", "status"]) (sc := defScope s_built_side) (by decide +kernel))
        (fun _ _ _ _ _ => pg_name (i := 8) nd rfl (Or.inl rfl)) (fun _ _ _ _ _ => pts_nil) (fun _ _ _ _ _ => pe_cal (c_met T) hr rfl (pa_cons (pv 3) (pa_cons (pv 8) pa_nil)))) pa_nil))))))))
      , ?_⟩
    -- patterns
    obtain ⟨x, dx, g, l, ch, fe, ax, re, fu, pr, rfl, hx, ⟨ga, gvs, rfl, hga, gp⟩, hlk⟩ := id hf
    refine ⟨_, rfl, _, rfl, _, rfl, f, n, lk, fore, _, rfl, hf, hn, ll, fun H1 pv1 s1 hp1 => ?_⟩
    have hps : (patsOf fore lk).length ≤ 1000 := Nat.le_trans sml.rules (by decide)
    generalize hpp : patsOf fore lk = ps at hp1 sml hps kk
    -- the first status
    refine ⟨_, rfl, Nat.zero_le _, fun e ne => ?_⟩
    have s2 : Same H1 (upd H1 e (.lst [])) := same_upd ne
    refine ⟨ps, pv1, .ref e, rfl, Mono.mono s2 hp1, ⟨e, rfl, upd_same⟩, hps, fun H2 p0 s3 np0 ep0 => ?_⟩
    have s12 : Same H H2 := s1.trans (s2.trans s3)
    refine ⟨(by show 1 ≤ sizeLine; decide), fun sa nsa => ⟨Nat.zero_le _, fun ra nra => ?_⟩⟩
    have s34 : Same H2 (upd H2 sa (.lst [V.ref p0])) := same_upd nsa
    have s45 : Same (upd H2 sa (.lst [V.ref p0])) (upd (upd H2 sa (.lst [V.ref p0])) ra (.lst [])) := same_upd nra
    have nrs : ra ≠ sa := fun q => by
      rw [q, upd_same] at nra
      cases nra
    have hpts : PtsR H2 pv1 ps := Mono.mono (s2.trans s3) hp1
    have ini : SrAt [sa, ra] H2 sa ra (tn ps f.gls.length 0).1 (tn ps f.gls.length 0).2 (upd (upd H2 sa (.lst [V.ref p0])) ra (.lst [])) := by
      have q : Same H2 (cut [sa, ra] (upd (upd H2 sa (.lst [V.ref p0])) ra (.lst []))) := fun b o hb => by
        refine cut_of (s45 _ _ (s34 _ _ hb)) ?_
        simp only [List.mem_cons, List.not_mem_nil, not_or, or_false]
        exact ⟨ne_of_none hb nsa, ne_of_none (s34 _ _ hb) nra⟩
      refine ⟨q, ⟨_, by rw [upd_ne nrs.symm, upd_same], .cons ⟨p0, rfl, q _ _ ep0⟩ .nil⟩, ⟨[], upd_same, .nil⟩⟩
    -- while
    refine ⟨fun m σ H' => ∃ (k : Nat) (y6 y7 y8 : Option V), m = 100 - k ∧ (∀ j, j < k → j < (tn ps f.gls.length j).1.length) ∧ σ = [some (.ref x), some (.int n), some (.str (sideName fore)), some pv1, some (.ref sa), some (.ref ra), y6, y7, y8] ∧
      SrAt [sa, ra] H2 sa ra (tn ps f.gls.length k).1 (tn ps f.gls.length k).2 H', ⟨100, 0, none, none, none, rfl, fun j hj => absurd hj (Nat.not_lt_zero _), rfl, ini⟩, ?_⟩
    rintro m σ H' ⟨k, y6, y7, y8, rfl, hj, rfl, at_⟩
    obtain ⟨svs, hsa, sp⟩ := at_.st
    obtain ⟨rvs, hra, rp⟩ := at_.rw
    have lS := sp.length
    have lR : rvs.length = k := by rw [rp.length, tn_rows]
    have tok := tn_ok sml f.gls.length k hj
    have le48 := tok.sts.le sml
    refine ⟨_, rfl, ra, _, rfl, .inl (SqL.of hra), _, rfl, sa, _, rfl, .inl (SqL.of hsa), _, _, rfl, rfl, _, rfl, ite2 (fun ek => ?_) (fun ek => ?_)⟩
    · have hk : k < (tn ps f.gls.length k).1.length := by
        have := of_decide_eq_true ek
        omega
      refine ⟨fun σ' H' => ∃ (y6 y7 y8 : Option V), σ' = [some (.ref x), some (.int n), some (.str (sideName fore)), some pv1, some (.ref sa), some (.ref ra), y6, y7, y8] ∧
        SrAt [sa, ra] H2 sa ra (tn ps f.gls.length (k + 1)).1 (tn ps f.gls.length (k + 1)).2 H', fun σ' H'' ⟨z6, z7, z8, e1, e2⟩ => ⟨100 - (k + 1), by omega, k + 1, z6, z7, z8, rfl, fun j hjl => ?_, e1, e2⟩, ?_⟩
      · by_cases q : j < k
        · exact hj j q
        · have q2 : j = k := by omega
          rw [q2]
          exact hk
      -- row = []
      refine ⟨Nat.zero_le _, fun wa nwa => ?_⟩
      have nws : sa ≠ wa := ne_of_none hsa nwa
      have nwr : ra ≠ wa := ne_of_none hra nwa
      have sW : Same H' (upd H' wa (.lst [])) := same_upd nwa
      have h2' : Same H2 (upd H' wa (.lst [])) := (at_.same.trans cut_same).trans sW
      refine ⟨_, rfl, x, _, dx, _, _, rfl, h2' _ _ (s12 _ _ hx), T.cls_Font, T.no_Font_glyphs, rfl, ga, _, rfl, .inl (SqL.of (h2' _ _ (s12 _ _ hga))), (gvs.length : Int), rfl, by omega, ?_, ?_⟩
      · have := gp.length
        omega
      have en : ((gvs.length : Int)).toNat = f.gls.length := by rw [Int.toNat_natCast, gp.length]
      rw [en]
      -- the statuses and the row that is made
      generalize hSt : (tn ps f.gls.length k).1.getD (tn ps f.gls.length k).2.length [] = st
      have est : (tn ps f.gls.length k).1[k]? = some st := by
        rw [← hSt, tn_rows, List.getD_eq_getElem?_getD, List.getElem?_eq_getElem hk]
        rfl
      have rst := tok.sts.re st (List.mem_of_getElem? est)
      refine for_range (lo := 0) (n := f.gls.length) (fun i σ H6 => ∃ y7 y8, σ = [some (.ref x), some (.int n), some (.str (sideName fore)), some pv1, some (.ref sa), some (.ref ra), some (.ref wa), y7, y8] ∧
        SrAt [wa, sa, ra] H2 sa ra (line ps st (tn ps f.gls.length k).1 i).1 (tn ps f.gls.length k).2 H6 ∧ H6 wa = some (.lst ((line ps st (tn ps f.gls.length k).1 i).2.map V.int))) ⟨y7, y8, rfl, at_.new nwa, upd_same⟩ ?_ ?_
      · rintro i σ H6 hi ⟨z7, z8, rfl, a6, hw6⟩
        have lok := line_ok sml rst tok.sts i
        obtain ⟨svs6, hsa6, sp6⟩ := a6.st
        obtain ⟨rvs6, hra6, rp6⟩ := a6.rw
        have lR6 : rvs6.length = k := by rw [rp6.length, tn_rows]
        obtain ⟨v6, hv6, il6⟩ := paired_get sp6 (lok.keep _ _ est)
        refine ⟨_, rfl, _, rfl, _, rfl, ra, _, rfl, .inl (SqL.of hra6), sa, svs6, _, v6, rfl, rfl, SqL.of hsa6, atI_nat (j := rvs6.length) (by rw [lR6]; exact hv6), _, rfl,
          ps, st, 0 + (i : Int), pv1, v6, rfl, Mono.mono (a6.same.trans cut_same) hpts, Mono.mono cut_same il6, rst.ok, hps, fun H7 p s7 np ep => ?_⟩
        rw [Int.zero_add] at ep
        have a7 := a6.keep s7
        have hM6 : ∀ b ∈ [wa, sa, ra], H6 b ≠ none := fun b hb => by
          simp only [List.mem_cons, List.not_mem_nil, or_false] at hb
          rcases hb with q | q | q
          · rw [q]; exact some_ne hw6
          · rw [q]; exact some_ne hsa6
          · rw [q]; exact some_ne hra6
        have ilp : IL (cut [wa, sa, ra] H7) (.ref p) (nxS ps st (i : Int)) := ⟨p, rfl, cut_of ep (not_in_of hM6 np)⟩
        have hw7 := s7 _ _ hw6
        have hsa7 := s7 _ _ hsa6
        have ll7 : (line ps st (tn ps f.gls.length k).1 i).2.length ≤ 1000 := by
          rw [lok.len]
          omega
        have e2 : (!(((line ps st (tn ps f.gls.length k).1 i).1.map dI).any fun z => PyData.eqv z (dI (nxS ps st (i : Int))))) = !decide (nxS ps st (i : Int) ∈ (line ps st (tn ps f.gls.length k).1 i).1) := by rw [any_dI]
        refine ⟨_, rfl, _, rfl, dI (nxS ps st (i : Int)), _, IL.dp (Mono.mono cut_same ilp), a7.dpS, dI_shaped _, dL_shaped _, _, rfl, ?_⟩
        rw [e2]
        by_cases hin : nxS ps st (i : Int) ∈ (line ps st (tn ps f.gls.length k).1 i).1
        · rw [decide_eq_true hin]
          refine iteF (app_index a7 hw7 (Mono.mono cut_same ilp) hin ll7 ⟨_, _, rfl, ?_, ?_⟩)
          · have e3 : (line ps st (tn ps f.gls.length k).1 (i + 1)).1 = (line ps st (tn ps f.gls.length k).1 i).1 := by
              show (if _ then _ else _) = _
              rw [if_pos hin]
            rw [e3]
            exact a7.write (List.mem_cons_self ..) nws nwr
          · rw [upd_same]
            have e3 : (line ps st (tn ps f.gls.length k).1 (i + 1)).2 = (line ps st (tn ps f.gls.length k).1 i).2 ++ [(((line ps st (tn ps f.gls.length k).1 i).1.idxOf (nxS ps st (i : Int)) : Nat) : Int)] := by
              show _ ++ [((List.idxOf _ (if _ then _ else _) : Nat) : Int)] = _
              rw [if_pos hin]
            rw [e3]
        · rw [decide_eq_false hin]
          refine iteT ⟨_, rfl, .inl ⟨rfl, _, SqL.of hsa7⟩, _, rfl, sa, _, _, rfl, rfl, hsa7, ?_, ?_⟩
          · have q := lok.sts.le sml
            have q2 := sp6.length
            exact len_small (by omega)
          have a8 := a7.addS (v := .ref p) hsa7 (by simp) nrs ilp
          refine ⟨_, rfl, sa, _, rfl, .inl (SqL.of upd_same), _, _, rfl, rfl, _, rfl, ite2 (fun q => ?_) (fun _ => ?_)⟩
          · have q1 := of_decide_eq_true q
            have q2 := lok.sts.le sml
            have q3 := sp6.length
            rw [List.length_append, List.length_singleton] at q1
            exact absurd q1 (by omega)
          have mem8 : nxS ps st (i : Int) ∈ (line ps st (tn ps f.gls.length k).1 i).1 ++ [nxS ps st (i : Int)] := by simp
          refine app_index a8 (by rw [upd_ne nws.symm]; exact hw7) ⟨p, rfl, ?_⟩ mem8 ll7 ⟨_, _, rfl, ?_, ?_⟩
          · have q : p ≠ sa := fun q => not_in_of hM6 np (by rw [q]; simp)
            rw [upd_ne q]
            exact ep
          · have e3 : (line ps st (tn ps f.gls.length k).1 (i + 1)).1 = (line ps st (tn ps f.gls.length k).1 i).1 ++ [nxS ps st (i : Int)] := by
              show (if _ then _ else _) = _
              rw [if_neg hin]
            rw [e3]
            exact a8.write (List.mem_cons_self ..) nws nwr
          · rw [upd_same]
            have e3 : (line ps st (tn ps f.gls.length k).1 (i + 1)).2 = (line ps st (tn ps f.gls.length k).1 i).2 ++ [((((line ps st (tn ps f.gls.length k).1 i).1 ++ [nxS ps st (i : Int)]).idxOf (nxS ps st (i : Int)) : Nat) : Int)] := by
              show _ ++ [((List.idxOf _ (if _ then _ else _) : Nat) : Int)] = _
              rw [if_neg hin]
            rw [e3]
      · -- rows.append(row)
        rintro σ H6 ⟨z7, z8, rfl, a6, hw6⟩
        obtain ⟨svs6, hsa6, sp6⟩ := a6.st
        obtain ⟨rvs6, hra6, rp6⟩ := a6.rw
        have lR6 : rvs6.length = k := by rw [rp6.length, tn_rows]
        refine ⟨_, rfl, .inl ⟨rfl, _, SqL.of hra6⟩, _, rfl, ra, _, _, rfl, rfl, hra6, len_small (by omega), _, _, _, rfl, ?_⟩
        have ec : cut [sa, ra] (upd H6 ra (.lst (rvs6 ++ [V.ref wa]))) = cut [sa, ra] H6 := cut_upd (by simp)
        have sm : Same (cut [wa, sa, ra] H6) (cut [sa, ra] H6) := cut_mono fun b hb => List.mem_cons_of_mem _ hb
        have e1 : (tn ps f.gls.length (k + 1)).1 = (line ps st (tn ps f.gls.length k).1 f.gls.length).1 := by
          show (line ps ((tn ps f.gls.length k).1.getD (tn ps f.gls.length k).2.length []) (tn ps f.gls.length k).1 f.gls.length).1 = _
          rw [hSt]
        have e2 : (tn ps f.gls.length (k + 1)).2 = (tn ps f.gls.length k).2 ++ [(line ps st (tn ps f.gls.length k).1 f.gls.length).2] := by
          show _ ++ [(line ps ((tn ps f.gls.length k).1.getD (tn ps f.gls.length k).2.length []) (tn ps f.gls.length k).1 f.gls.length).2] = _
          rw [hSt]
        rw [e1, e2]
        refine ⟨by rw [ec]; exact a6.same.trans sm, ⟨svs6, by rw [upd_ne nrs.symm]; exact hsa6, by rw [ec]; exact pair_mono sm sp6⟩, ⟨_, upd_same, ?_⟩⟩
        rw [ec]
        exact paired_app (pair_mono sm rp6) (.cons ⟨wa, rfl, cut_of hw6 (by simp only [List.mem_cons, List.not_mem_nil, or_false, not_or]; exact ⟨nws.symm, nwr.symm⟩)⟩ .nil)
    · -- the end
      have hk : ¬ k < (tn ps f.gls.length k).1.length := fun q => ek (decide_eq_true (by omega))
      have fin := Fin.of sml hj hk
      have f1 := fin.1
      have sH : Same H H' := s12.trans (at_.same.trans cut_same)
      refine ⟨_, rfl, _, rfl, sa, rfl, ⟨_, SqL.of hsa⟩, fun D hD => lc_map (K := K) (a := sa) (xs := svs) IL [] (metOf ps f.gls.length k) (fun b hb => absurd hb List.not_mem_nil) hD (SqL.of hsa) (by rw [fin.metLen]; omega) (len_small (by omega)) ?_ fun H8 s8 _ r8 => ?_⟩
      · intro i xv yv H9 hxi hyi sm9 smc9 hth9 Q9 kQ9
        obtain ⟨s9, hs9, q9⟩ := paired_getL sp hxi
        have e9 : met ps s9 = yv := by
          unfold metOf at hyi
          rw [List.getElem?_map, hs9] at hyi
          exact Option.some.inj hyi
        have r9 := tok.sts.re s9 (List.mem_of_getElem? hs9)
        refine ⟨rfl, _, rfl, _, rfl, ps, s9, pv1, xv, rfl, Mono.mono ((at_.same.trans cut_same).trans sm9) hpts, Mono.mono (cut_same.trans sm9) q9, r9.len, hps, fun H10 q s10 nq eq => kQ9 _ _ s10 ⟨q, rfl, ?_⟩⟩
        rw [← e9]
        exact cut_of eq (not_in_of hth9 nq)
      · refine ⟨(by show 2 ≤ sizeLine; decide), fun p np => kk k _ (.ref p) fin (sH.trans (s8.trans (same_upd np))) ⟨p, .ref ra, .ref D, rfl, upd_same, ?_, Mono.mono (cut_same.trans (same_upd np)) r8⟩⟩
        exact ⟨ra, rvs, rfl, same_upd np _ _ (s8 _ _ hra), pair_mono (cut_same.trans (s8.trans (same_upd np))) rp⟩
end
end K26


set_option maxHeartbeats 4000000
namespace K26
open PySem PySem.Spec PyProof.Rows L2
/-! ### an instance that is being made -/
structure Mk1 (x dx C : Addr) (H0 H : Hp) (fs : List (Str × V)) : Prop where
  at_ : H x = some (.ins C dx fs)
  same : SameX x H0 H
theorem Mk1.start {x dx C : Addr} {H : Hp} {fs : List (Str × V)} (h : H x = some (.ins C dx fs)) : Mk1 x dx C H H fs := ⟨h, SameX.refl _ _⟩
theorem stepX {x : Addr} {H H1 : Hp} {o : HO} (s : Same H H1) : SameX x H (upd H1 x o) := fun b u n e => by
  rw [upd_ne n]
  exact s _ _ e
theorem Mk1.step {x dx C : Addr} {H0 H H1 : Hp} {fs fs' : List (Str × V)} (a : Mk1 x dx C H0 H fs) (s : Same H H1) : Mk1 x dx C H0 (upd H1 x (.ins C dx fs')) fs' := ⟨upd_same, a.same.trans (stepX s)⟩
/-- an object that was laid meanwhile -/
structure NewAt (x : Addr) (H0 H : Hp) (l : Addr) (o : HO) : Prop where
  ne : l ≠ x
  at_ : H l = some o
  fresh : H0 l = none
theorem NewAt.of {x dx C l : Addr} {H0 H : Hp} {fs : List (Str × V)} {o u : HO} (a : Mk1 x dx C H0 H fs) (nl : H l = none) : NewAt x H0 (upd (upd H l o) x u) l o := by
  have ne : l ≠ x := (ne_of_none a.at_ nl).symm
  refine ⟨ne, by rw [upd_ne ne, upd_same], ?_⟩
  cases q : H0 l with
  | none => rfl
  | some v =>
    have := a.same l v ne q
    rw [nl] at this
    cases this
theorem NewAt.keep {x l : Addr} {H0 H H' : Hp} {o : HO} (n : NewAt x H0 H l o) (s : SameX x H H') : NewAt x H0 H' l o := ⟨n.ne, s _ _ n.ne n.at_, n.fresh⟩
theorem NewAt.cutM {x l : Addr} {H0 H : Hp} {o : HO} {M : List Addr} (n : NewAt x H0 H l o) (hM : ∀ b ∈ M, H0 b ≠ none) : cut M H l = some o := cut_of n.at_ (not_in_of hM n.fresh)
/-- nothing is walked -/
theorem lc_nil {K : PySem.W.Frag} {a : Addr} {g : TG} {tt : TT} {te : TE} {vs : List Nat} {σ : L2.St} {H1 : Hp} {D : Addr} {Qd : Hp → Prop} (hD : H1 D = none) (hS : SqL K H1 a []) (hd : Qd (upd H1 D (.lst []))) : LcG (Itl K a) g tt te vs σ (upd H1 D (.lst [])) D Qd :=
  lc_list (K := K) (a := a) (xs := []) (fun _ H => H = upd H1 D (.lst [])) rfl (fun i H _ e => by rw [e]; exact (same_upd hD).seq hS) (fun i x H h _ => by simp at h) fun H e => by
    rw [e]
    exact hd
theorem for_nil {K : PySem.W.Frag} {a : Addr} {g : TG} {tb : TS} {D : Ends} {σ : L2.St} {H : Hp} (hS : SqL K H a []) (hd : D.nx σ H) :
    ∃ W : Nat → Nat → L2.St → Hp → Prop, (∃ m, W 0 m σ H) ∧ ∀ i m σ H, W i m σ H → ((Itl K a).stop i H ∧ D.nx σ H) ∨ ((Itl K a).go i H ∧ ∃ N : L2.St → Hp → Prop, (∀ σ' H', N σ' H' → ∃ m', m' < m ∧ W (i + 1) m' σ' H') ∧
      ∀ x H', (Itl K a).yld i H x H' → g x σ H' fun σ2 H2 => tb { D with nx := N, ct := N, bk := D.nx } σ2 H2) :=
  for_list (K := K) (a := a) (xs := []) (fun _ σ' H' => σ' = σ ∧ H' = H) ⟨rfl, rfl⟩ (fun i σ' H' _ ⟨_, e⟩ => by rw [e]; exact hS) (fun i x σ' H' h _ => by simp at h) fun σ' H' ⟨e1, e2⟩ => by
    rw [e1, e2]
    exact hd
/-- an empty list or tuple -/
def Emp (K : PySem.W.Frag) (H : Hp) (v : V) : Prop := ∃ a, v = .ref a ∧ (SqL K H a [] ∨ SqT K H a [])
theorem seqT {K : PySem.W.Frag} {H H' : Hp} {a : Addr} {xs : List V} (e : Same H H') (h : SqT K H a xs) : SqT K H' a xs := by
  rcases h with (h | ⟨o, h⟩) | h
  · exact .inl (.inl (e _ _ h))
  · exact .inl (.inr ⟨o, e _ _ h⟩)
  · exact .inr h
theorem Emp.same {K : PySem.W.Frag} {H H' : Hp} {v : V} (s : Same H H') (h : Emp K H v) : Emp K H' v := by
  obtain ⟨a, e, h⟩ := h
  exact ⟨a, e, h.imp (fun q => s.seq q) fun q => seqT s q⟩
section
variable {P : Program} {w : World} {K : PySem.W.Frag} {mg : Str → Option Value} {base : Heap}
/-! ### build -/
def spBuild (K : PySem.W.Frag) : Sp := fun vs H Q _ => ∃ (f : FontD) (n : Nat) (lk : LkD) (fv : V), vs = [fv, .int n] ∧ FontR K H fv f ∧ f.lks[n]? = some lk ∧ LkLen lk ∧ Small (patsOf true lk) ∧ Small (patsOf false lk) ∧ f.gls.length ≤ 1000 ∧
  ∀ k k' H' v, Fin (patsOf true lk) f.gls.length k → Fin (patsOf false lk) f.gls.length k' → Same H H' →
    AutoR K H' v ((rowsOf (patsOf true lk) f.gls.length k, metOf (patsOf true lk) f.gls.length k), (rowsOf (patsOf false lk) f.gls.length k', metOf (patsOf false lk) f.gls.length k')) → Q v H'
theorem sc_build : FnScope ["font", "lookup"] ["font", "lookup"] (defScope s_build) := ⟨rfl, rfl, rfl, by decide +kernel, rfl, by decide +kernel, by decide +kernel⟩
theorem Fin.side {ps : List Pat} {c k : Nat} (h : Small ps) (f : Fin ps c k) : SideLen (rowsOf ps c k, metOf ps c k) := by
  have h1 := f.le h
  exact ⟨by rw [f.rowsLen]; omega, by rw [f.metLen]; omega⟩
/-- a new instance: what stood, stands, the instance apart -/
theorem made_cut {H : Hp} {x dx : Addr} {o u : HO} (nx : H x = none) (ndx : H dx = none) : Same H (cut [x] (upd (upd H dx o) x u)) := fun b v e => by
  have n1 : b ≠ x := ne_of_none e nx
  have n2 : b ≠ dx := ne_of_none e ndx
  exact cut_of (by rw [upd_ne n1, upd_ne n2]; exact e) (by simpa using n1)
theorem made_cutM {M : List Addr} {H : Hp} {x dx : Addr} {o u : HO} (nx : H x = none) (ndx : H dx = none) : Same (cut M H) (cut (x :: M) (upd (upd H dx o) x u)) := fun b v e => by
  obtain ⟨h1, h2⟩ := cut_get e
  have n1 : b ≠ x := ne_of_none h2 nx
  have n2 : b ≠ dx := ne_of_none h2 ndx
  exact cut_of (by rw [upd_ne n1, upd_ne n2]; exact h2) (by simp only [List.mem_cons, not_or]; exact ⟨n1, h1⟩)
theorem made_X {H H' : Hp} {x dx : Addr} {o u : HO} (nx : H x = none) (ndx : H dx = none) (s : SameX x (upd (upd H dx o) x u) H') : Same H H' := fun b v e => by
  have n1 : b ≠ x := ne_of_none e nx
  have n2 : b ≠ dx := ne_of_none e ndx
  exact s _ _ n1 (by rw [upd_ne n1, upd_ne n2]; exact e)
theorem c_build (T : Txt K mg) : Cal P w K mg base 4 "build" ["font", "lookup"] (spBuild K) := by
  obtain ⟨fd, F⟩ := T.f_build
  obtain ⟨fdA, FA⟩ := T.f_Automaton_init
  have GA : FnOk P w K mg base CX0 2 (He.ma K (cAuto K) "__init__") fdA ["self", "fore", "back"] (spAutoInit K) := ok_autoI T FA
  have bA : Binds K fdA ["self", "fore", "back"] [] := FA.bindsN fun _ _ _ _ _ _ us hl => match us, hl with | [_, _, _], _ => rfl
  refine cal_of F T.g_build sc_build (fun vs H Q E h => ?_) (fun _ _ _ _ _ _ us hl => match us, hl with | [_, _], _ => rfl) (fun cdv A outer s H vs Q E hr h => ?_)
  · obtain ⟨f, n, lk, fv, rfl, _⟩ := h
    rfl
  · obtain ⟨f, n, lk, fv, rfl, hf, hn, ll, sm1, sm2, hgl, kk⟩ := h
    have hr2 : Room 2 _ := hr.mono (by decide)
    refine ⟨_, pss_one (ps_ret (pe_make T.mk_Automaton GA hr rfl T.g_Automaton bA .nil pass0 (pa_cons (pe_cal (c_bs T) hr2 rfl (pa_cons (pv 0) (pa_cons (pv 1) (pa_cons pe_str pa_nil)))) (pa_cons (pe_cal (c_bs T) hr2 rfl (pa_cons (pv 0) (pa_cons (pv 1) (pa_cons pe_str pa_nil)))) pa_nil)))), ?_⟩
    refine ⟨_, rfl, _, rfl, f, n, lk, true, fv, rfl, hf, hn, ll, sm1, hgl, fun k H1 v1 f1 s1 r1 => ?_⟩
    refine ⟨_, rfl, _, rfl, f, n, lk, false, fv, rfl, Mono.mono s1 hf, hn, ll, sm2, hgl, fun k' H2 v2 f2 s2 r2 => ?_⟩
    intro x dx nx ndx nex
    have m := made_cut (o := .own x) (u := .ins (cAuto K) dx []) nx ndx
    refine ⟨x, dx, ((rowsOf (patsOf true lk) f.gls.length k, metOf (patsOf true lk) f.gls.length k), (rowsOf (patsOf false lk) f.gls.length k', metOf (patsOf false lk) f.gls.length k')), v1, v2, rfl, upd_same, Mono.mono (s2.trans m) r1, Mono.mono m r2, f1.side sm1, f2.side sm2, fun H3 s3 r3 => ⟨rfl, ?_⟩⟩
    exact kk k k' H3 _ f1 f2 (s1.trans (s2.trans (made_X nx ndx s3))) r3
/-! ### Glyph -/
def spGlyphI (K : PySem.W.Frag) : Sp := fun vs H Q _ => ∃ (M : List Addr) (x dx o : Addr) (adv : Int) (mk : Bool) (pv' av dv hv : V), vs = [.ref x, .int adv, .ref o, pv', av, .bl mk, dv, hv] ∧ H x = some (.ins (cGlyph K) dx []) ∧ (∀ b ∈ M, H b ≠ none) ∧ x ∉ M ∧
  SqL K (cut [x] H) o [] ∧ Emp K (cut [x] H) pv' ∧ Emp K (cut [x] H) av ∧ Emp K (cut [x] H) dv ∧ Emp K (cut [x] H) hv ∧ ∀ H', SameX x H H' → GlyphR K (cut M H') (.ref x) (adv, mk) → Q .non H'
abbrev psGlyph : List Str := ["self", "advance", "outline", "parts", "anchors", "mark", "deltas", "hint"]
theorem sc_glyphI : FnScope ["self", "advance", "outline", "parts", "anchors", "mark", "deltas", "hint", "contour"] psGlyph (defScope s_Glyph_init) := ⟨rfl, rfl, rfl, by decide +kernel, rfl, by decide +kernel, by decide +kernel⟩
theorem ok_glyphI (T : Txt K mg) {fd : FuncData} {kws : List (Str × V)} (F : Fn K "__init__" "Glyph.__init__" s_Glyph_init kws (He.ma K (cGlyph K) "__init__") fd) : FnOk P w K mg base CX0 1 (He.ma K (cGlyph K) "__init__") fd psGlyph (spGlyphI K) := by
  refine fn_ok F sc_glyphI (fun vs H Q E h => ?_) (fun cdv A outer s H vs Q E hr h => ?_)
  · obtain ⟨M, x, dx, o, adv, mk, pv', av, dv, hv, rfl, _⟩ := h
    rfl
  · obtain ⟨M, x, dx, o, adv, mk, pv', av, dv, hv, rfl, hx, hM, nM, ho, hp, ha, hd, hh, k⟩ := h
    have nd := sc_glyphI.nd
    refine ⟨_, pss_cons (ps_fld (pv 0) (pv 1) rfl)
      (pss_cons (ps_fld (pv 0) (pe_lc (own := [("contour", 8)]) (g := gName 8) (tt := tYes) (te := tCB (rListOf K) (tCons (tVar 8) tNil)) rfl nd (pi_list (pv 2)) (blkOk_by (N := ["self", "advance", "outline", "parts", "anchors", "mark", "deltas", "hint", "contour"]) (sc := defScope s_Glyph_init) (by decide +kernel))
        (fun _ _ _ _ _ => pg_name (i := 8) nd rfl (Or.inl rfl)) (fun _ _ _ _ _ => pts_nil) (fun _ _ _ _ _ => pe_callTy call_list_of (by rfl) T.b_list boot_list (pa_cons (pv 8) pa_nil))) rfl)
      (pss_cons (ps_fld (pv 0) (pe_callTy call_list_of (by rfl) T.b_list boot_list (pa_cons (pv 3) pa_nil)) rfl)
      (pss_cons (ps_fld (pv 0) (pe_callTy call_list_of (by rfl) T.b_list boot_list (pa_cons (pv 4) pa_nil)) rfl)
      (pss_cons (ps_fld (pv 0) (pv 5) rfl)
      (pss_cons (ps_fld (pv 0) (pe_callTy call_list_of (by rfl) T.b_list boot_list (pa_cons (pv 6) pa_nil)) rfl)
      (pss_one (ps_fld (pv 0) (pe_callTy call_list_of (by rfl) T.b_list boot_list (pa_cons (pv 7) pa_nil)) rfl))))))), ?_⟩
    have hxm : x ∈ [x] := List.mem_singleton.mpr rfl
    refine ⟨_, rfl, _, rfl, x, _, dx, _, rfl, hx, T.cls_Glyph, T.no_Glyph_advance, (by show 0 < 1000; decide), ?_⟩
    have a1 : Mk1 x dx (cGlyph K) H (upd H x (.ins (cGlyph K) dx (putF "advance" (.int adv) []))) _ := (Mk1.start hx).step (Same.refl _)
    have so : SqL K (upd H x (.ins (cGlyph K) dx (putF "advance" (.int adv) []))) o [] := Same.seq cut_same (Same.seq (a1.same.cutX hxm) ho)
    refine ⟨_, rfl, o, rfl, ⟨_, so⟩, fun D hD => lc_nil hD so ?_⟩
    refine ⟨_, rfl, x, _, dx, _, rfl, by rw [upd_ne (ne_of_none a1.at_ hD)]; exact a1.at_, T.cls_Glyph, T.no_Glyph_outline, (by show 1 < 1000; decide), ?_⟩
    have a2 := a1.step (fs' := putF "outline" (.ref D) (putF "advance" (.int adv) [])) (same_upd (o := .lst []) hD)
    have n1 := NewAt.of (o := .lst []) (u := .ins (cGlyph K) dx (putF "outline" (.ref D) (putF "advance" (.int adv) []))) a1 hD
    generalize upd (upd (upd H x (.ins (cGlyph K) dx (putF "advance" (.int adv) []))) D (.lst [])) x (.ins (cGlyph K) dx (putF "outline" (.ref D) (putF "advance" (.int adv) []))) = H2 at a2 n1 ⊢
    obtain ⟨pa, rfl, ep⟩ := Emp.same ((a2.same.cutX hxm).trans cut_same) hp
    refine ⟨_, rfl, pa, [], rfl, ep, fun lp hlp => ⟨_, rfl, x, _, dx, _, rfl, by rw [upd_ne (ne_of_none a2.at_ hlp)]; exact a2.at_, T.cls_Glyph, T.no_Glyph_parts, (by show 2 < 1000; decide), ?_⟩⟩
    have a3 := a2.step (fs' := putF "parts" (.ref lp) (putF "outline" (.ref D) (putF "advance" (.int adv) []))) (same_upd (o := .lst []) hlp)
    have n2 := NewAt.of (o := .lst []) (u := .ins (cGlyph K) dx (putF "parts" (.ref lp) (putF "outline" (.ref D) (putF "advance" (.int adv) [])))) a2 hlp
    have x3 : SameX x H2 _ := stepX (o := .ins (cGlyph K) dx (putF "parts" (.ref lp) (putF "outline" (.ref D) (putF "advance" (.int adv) [])))) (same_upd (o := .lst []) hlp)
    replace n1 := n1.keep x3
    generalize upd (upd H2 lp (.lst [])) x (.ins (cGlyph K) dx (putF "parts" (.ref lp) (putF "outline" (.ref D) (putF "advance" (.int adv) [])))) = H3 at a3 n1 n2 ⊢
    clear x3 a2
    obtain ⟨aa, rfl, ea⟩ := Emp.same ((a3.same.cutX hxm).trans cut_same) ha
    refine ⟨_, rfl, aa, [], rfl, ea, fun la hla => ⟨_, rfl, x, _, dx, _, rfl, by rw [upd_ne (ne_of_none a3.at_ hla)]; exact a3.at_, T.cls_Glyph, T.no_Glyph_anchors, (by show 3 < 1000; decide), ?_⟩⟩
    have a4 := a3.step (fs' := putF "anchors" (.ref la) (putF "parts" (.ref lp) (putF "outline" (.ref D) (putF "advance" (.int adv) [])))) (same_upd (o := .lst []) hla)
    have n3 := NewAt.of (o := .lst []) (u := .ins (cGlyph K) dx (putF "anchors" (.ref la) (putF "parts" (.ref lp) (putF "outline" (.ref D) (putF "advance" (.int adv) []))))) a3 hla
    have x4 : SameX x H3 _ := stepX (o := .ins (cGlyph K) dx (putF "anchors" (.ref la) (putF "parts" (.ref lp) (putF "outline" (.ref D) (putF "advance" (.int adv) []))))) (same_upd (o := .lst []) hla)
    replace n1 := n1.keep x4
    replace n2 := n2.keep x4
    generalize upd (upd H3 la (.lst [])) x (.ins (cGlyph K) dx (putF "anchors" (.ref la) (putF "parts" (.ref lp) (putF "outline" (.ref D) (putF "advance" (.int adv) []))))) = H4 at a4 n1 n2 n3 ⊢
    clear x4 a3
    -- mark
    refine ⟨_, rfl, _, rfl, x, _, dx, _, rfl, a4.at_, T.cls_Glyph, T.no_Glyph_mark, (by show 4 < 1000; decide), ?_⟩
    have a5 := a4.step (fs' := putF "mark" (.bl mk) (putF "anchors" (.ref la) (putF "parts" (.ref lp) (putF "outline" (.ref D) (putF "advance" (.int adv) []))))) (Same.refl _)
    have x5 : SameX x H4 _ := stepX (o := .ins (cGlyph K) dx (putF "mark" (.bl mk) (putF "anchors" (.ref la) (putF "parts" (.ref lp) (putF "outline" (.ref D) (putF "advance" (.int adv) [])))))) (Same.refl H4)
    replace n1 := n1.keep x5
    replace n2 := n2.keep x5
    replace n3 := n3.keep x5
    generalize upd H4 x (.ins (cGlyph K) dx (putF "mark" (.bl mk) (putF "anchors" (.ref la) (putF "parts" (.ref lp) (putF "outline" (.ref D) (putF "advance" (.int adv) [])))))) = H5 at a5 n1 n2 n3 ⊢
    clear x5 a4
    obtain ⟨da, rfl, ed⟩ := Emp.same ((a5.same.cutX hxm).trans cut_same) hd
    refine ⟨_, rfl, da, [], rfl, ed, fun ld hld => ⟨_, rfl, x, _, dx, _, rfl, by rw [upd_ne (ne_of_none a5.at_ hld)]; exact a5.at_, T.cls_Glyph, T.no_Glyph_deltas, (by show 5 < 1000; decide), ?_⟩⟩
    have a6 := a5.step (fs' := putF "deltas" (.ref ld) (putF "mark" (.bl mk) (putF "anchors" (.ref la) (putF "parts" (.ref lp) (putF "outline" (.ref D) (putF "advance" (.int adv) [])))))) (same_upd (o := .lst []) hld)
    have n4 := NewAt.of (o := .lst []) (u := .ins (cGlyph K) dx (putF "deltas" (.ref ld) (putF "mark" (.bl mk) (putF "anchors" (.ref la) (putF "parts" (.ref lp) (putF "outline" (.ref D) (putF "advance" (.int adv) []))))))) a5 hld
    have x6 : SameX x H5 _ := stepX (o := .ins (cGlyph K) dx (putF "deltas" (.ref ld) (putF "mark" (.bl mk) (putF "anchors" (.ref la) (putF "parts" (.ref lp) (putF "outline" (.ref D) (putF "advance" (.int adv) []))))))) (same_upd (o := .lst []) hld)
    replace n1 := n1.keep x6
    replace n2 := n2.keep x6
    replace n3 := n3.keep x6
    generalize upd (upd H5 ld (.lst [])) x (.ins (cGlyph K) dx (putF "deltas" (.ref ld) (putF "mark" (.bl mk) (putF "anchors" (.ref la) (putF "parts" (.ref lp) (putF "outline" (.ref D) (putF "advance" (.int adv) []))))))) = H6 at a6 n1 n2 n3 n4 ⊢
    clear x6 a5
    obtain ⟨ha', rfl, eh⟩ := Emp.same ((a6.same.cutX hxm).trans cut_same) hh
    refine ⟨_, rfl, ha', [], rfl, eh, fun lh hlh => ⟨_, rfl, x, _, dx, _, rfl, by rw [upd_ne (ne_of_none a6.at_ hlh)]; exact a6.at_, T.cls_Glyph, T.no_Glyph_hint, (by show 6 < 1000; decide), ?_⟩⟩
    have a7 := a6.step (fs' := glF adv D lp la mk ld lh) (same_upd (o := .lst []) hlh)
    have n5 := NewAt.of (o := .lst []) (u := .ins (cGlyph K) dx (glF adv D lp la mk ld lh)) a6 hlh
    have x7 : SameX x H6 _ := stepX (o := .ins (cGlyph K) dx (glF adv D lp la mk ld lh)) (same_upd (o := .lst []) hlh)
    replace n1 := n1.keep x7
    replace n2 := n2.keep x7
    replace n3 := n3.keep x7
    replace n4 := n4.keep x7
    have kf := k _ a7.same ⟨x, dx, D, lp, la, ld, lh, rfl, cut_of a7.at_ nM, n1.cutM hM, n2.cutM hM, n3.cutM hM, n4.cutM hM, n5.cutM hM⟩
    exact kf
end
end K26


set_option maxHeartbeats 4000000
namespace K26
open PySem PySem.Spec PyProof.Rows L2
theorem keepC {α : Type} {R : Rp α} [Mono R] {x : Addr} {M : List Addr} {H H1 : Hp} {o : HO} {v : V} {d : α} (s : Same H H1) (h : R (cut (x :: M) H) v d) : R (cut (x :: M) (upd H1 x o)) v d := by
  rw [cut_upd (List.mem_cons_self ..)]
  exact Mono.mono (s.cutS _) h
theorem dropC {α : Type} {R : Rp α} [Mono R] {x : Addr} {M : List Addr} {H : Hp} {v : V} {d : α} (h : R (cut (x :: M) H) v d) : R (cut M H) v d := Mono.mono (cut_mono fun b hb => List.mem_cons_of_mem _ hb) h
theorem dropA {α : Type} {R : Rp α} [Mono R] {M : List Addr} {H : Hp} {v : V} {d : α} (h : R (cut M H) v d) : R H v d := Mono.mono cut_same h
theorem there_x {x : Addr} {M : List Addr} {H H' : Hp} (hx : H' x ≠ none) (s : SameX x H H') (hM : ∀ b ∈ M, H b ≠ none) : ∀ b ∈ x :: M, H' b ≠ none := fun b hb => by
  rcases List.mem_cons.mp hb with e | hb
  · rw [e]; exact hx
  · exact s.there hx (hM b hb)
structure RLen (r : RuleD) : Prop where
  i : r.inside.length ≤ 1000
  b : r.back.length ≤ 1000
  a : r.ahead.length ≤ 1000
section
variable {P : Program} {w : World} {K : PySem.W.Frag} {mg : Str → Option Value} {base : Heap}
/-! ### Rule -/
def spRuleI (K : PySem.W.Frag) : Sp := fun vs H Q _ => ∃ (M : List Addr) (x dx : Addr) (r : RuleD) (iv bv av ov cv : V), vs = [.ref x, iv, bv, av, ov, cv, .int 0] ∧ H x = some (.ins (cRule K) dx []) ∧ (∀ b ∈ M, H b ≠ none) ∧ x ∉ M ∧
  PatR (cut (x :: M) H) iv r.inside ∧ PatR (cut (x :: M) H) bv r.back ∧ PatR (cut (x :: M) H) av r.ahead ∧ IL (cut (x :: M) H) ov r.out ∧ Ls CallR (cut (x :: M) H) cv r.calls ∧ RLen r ∧ ∀ H', SameX x H H' → RuleR K (cut M H') (.ref x) r → Q .non H'
abbrev psRule : List Str := ["self", "inside", "back", "ahead", "out", "calls", "extra"]
theorem sc_ruleI : FnScope ["self", "inside", "back", "ahead", "out", "calls", "extra", "glyphs"] psRule (defScope s_Rule_init) := ⟨rfl, rfl, rfl, by decide +kernel, rfl, by decide +kernel, by decide +kernel⟩
/-- [list(y) for y in ys] where x is being made -/
theorem copy_pat {K : PySem.W.Frag} {x a : Addr} {M : List Addr} {H1 : Hp} {D : Addr} {vs : List Nat} {σ : L2.St} {i : Nat} {p : Pat} {Qd : Hp → Prop} (hvs : vs = [i]) (hi : i < σ.length) (hM : ∀ b ∈ x :: M, H1 b ≠ none) (hD : H1 D = none) (hp : PatR (cut (x :: M) H1) (.ref a) p) (hl : p.length ≤ 1000)
    (hd : ∀ H', Same H1 H' → PatR (cut (x :: M) H') (.ref D) p → Qd H') : LcG (Itl K a) (gName i) tYes (tCB (rListOf K) (tCons (tVar i) tNil)) vs σ (upd H1 D (.lst [])) D Qd := by
  obtain ⟨a', xvs, e, ha, pp⟩ := hp
  obtain rfl : a = a' := by
    injection e
  have ha1 := (cut_get ha).2
  refine lc_map (K := K) (a := a) (xs := xvs) IL (x :: M) p hM hD (SqL.of ha1) pp.length (len_small (by rw [pp.length]; omega)) ?_ fun H' s _ r => hd H' s r
  intro j xv yv H2 hxi hyi sm smc hth Q2 kQ
  obtain ⟨z, hz, hq⟩ := paired_getL pp hxi
  obtain rfl : z = yv := Option.some.inj (hz.symm.trans hyi)
  subst hvs
  refine ⟨?_, _, ?_, copy_elt hth (Mono.mono (R := IL) (smc.trans cut_same) hq) kQ⟩
  · show ((σ.set i none).set i (some xv)).set i none = σ.set i none
    rw [List.set_set, List.set_set]
  · show ((σ.set i none).set i (some xv))[i]? = _
    rw [List.getElem?_set_self (by rw [List.length_set]; exact hi)]
theorem ok_ruleI (T : Txt K mg) {fd : FuncData} {kws : List (Str × V)} (F : Fn K "__init__" "Rule.__init__" s_Rule_init kws (He.ma K (cRule K) "__init__") fd) : FnOk P w K mg base CX0 1 (He.ma K (cRule K) "__init__") fd psRule (spRuleI K) := by
  refine fn_ok F sc_ruleI (fun vs H Q E h => ?_) (fun cdv A outer s H vs Q E hr h => ?_)
  · obtain ⟨M, x, dx, r, iv, bv, av, ov, cv, rfl, _⟩ := h
    rfl
  · obtain ⟨M, x, dx, r, iv, bv, av, ov, cv, rfl, hx, hM, nM, hi, hb, ha, ho, hc, ll, k⟩ := h
    have nd := sc_ruleI.nd
    refine ⟨_, pss_cons (ps_fld (pv 0) (pe_lc (own := [("glyphs", 7)]) (g := gName 7) (tt := tYes) (te := tCB (rListOf K) (tCons (tVar 7) tNil)) rfl nd (pi_list (pv 1)) (blkOk_by (N := ["self", "inside", "back", "ahead", "out", "calls", "extra", "glyphs"]) (sc := defScope s_Rule_init) (by decide +kernel))
        (fun _ _ _ _ _ => pg_name (i := 7) nd rfl (Or.inl rfl)) (fun _ _ _ _ _ => pts_nil) (fun _ _ _ _ _ => pe_callTy call_list_of (by rfl) T.b_list boot_list (pa_cons (pv 7) pa_nil))) rfl)
      (pss_cons (ps_fld (pv 0) (pe_lc (own := [("glyphs", 7)]) (g := gName 7) (tt := tYes) (te := tCB (rListOf K) (tCons (tVar 7) tNil)) rfl nd (pi_list (pv 2)) (blkOk_by (N := ["self", "inside", "back", "ahead", "out", "calls", "extra", "glyphs"]) (sc := defScope s_Rule_init) (by decide +kernel))
        (fun _ _ _ _ _ => pg_name (i := 7) nd rfl (Or.inl rfl)) (fun _ _ _ _ _ => pts_nil) (fun _ _ _ _ _ => pe_callTy call_list_of (by rfl) T.b_list boot_list (pa_cons (pv 7) pa_nil))) rfl)
      (pss_cons (ps_fld (pv 0) (pe_lc (own := [("glyphs", 7)]) (g := gName 7) (tt := tYes) (te := tCB (rListOf K) (tCons (tVar 7) tNil)) rfl nd (pi_list (pv 3)) (blkOk_by (N := ["self", "inside", "back", "ahead", "out", "calls", "extra", "glyphs"]) (sc := defScope s_Rule_init) (by decide +kernel))
        (fun _ _ _ _ _ => pg_name (i := 7) nd rfl (Or.inl rfl)) (fun _ _ _ _ _ => pts_nil) (fun _ _ _ _ _ => pe_callTy call_list_of (by rfl) T.b_list boot_list (pa_cons (pv 7) pa_nil))) rfl)
      (pss_cons (ps_fld (pv 0) (pe_callTy call_list_of (by rfl) T.b_list boot_list (pa_cons (pv 4) pa_nil)) rfl)
      (pss_cons (ps_fld (pv 0) (pe_callTy call_list_of (by rfl) T.b_list boot_list (pa_cons (pv 5) pa_nil)) rfl)
      (pss_one (ps_fld (pv 0) (pv 6) rfl)))))), ?_⟩
    obtain ⟨ia, _, rfl, hia, _⟩ := id hi
    obtain ⟨ba, _, rfl, hba, _⟩ := id hb
    obtain ⟨aa, _, rfl, haa, _⟩ := id ha
    have a0 : Mk1 x dx (cRule K) H H [] := Mk1.start hx
    -- inside
    refine ⟨_, rfl, ia, rfl, ⟨_, SqL.of (cut_get hia).2⟩, fun D1 hD1 => copy_pat rfl (by show 7 < 8; decide) (there_x (some_ne a0.at_) a0.same hM) hD1 hi ll.i fun H1 s1 r1 => ?_⟩
    refine ⟨_, rfl, x, _, dx, _, rfl, s1 _ _ a0.at_, T.cls_Rule, T.no_Rule_inside, (by show 0 < 1000; decide), ?_⟩
    have a1 := a0.step (fs' := putF "inside" (.ref D1) []) s1
    replace r1 : PatR (cut (x :: M) (upd H1 x (.ins (cRule K) dx (putF "inside" (.ref D1) [])))) (.ref D1) r.inside := keepC (Same.refl _) r1
    replace hb : PatR (cut (x :: M) (upd H1 x (.ins (cRule K) dx (putF "inside" (.ref D1) [])))) (.ref ba) r.back := keepC s1 hb
    replace ha : PatR (cut (x :: M) (upd H1 x (.ins (cRule K) dx (putF "inside" (.ref D1) [])))) (.ref aa) r.ahead := keepC s1 ha
    replace ho : IL (cut (x :: M) (upd H1 x (.ins (cRule K) dx (putF "inside" (.ref D1) [])))) ov r.out := keepC s1 ho
    replace hc : Ls CallR (cut (x :: M) (upd H1 x (.ins (cRule K) dx (putF "inside" (.ref D1) [])))) cv r.calls := keepC s1 hc
    generalize upd H1 x (.ins (cRule K) dx (putF "inside" (.ref D1) [])) = J1 at a1 r1 hb ha ho hc ⊢
    -- back
    obtain ⟨_, _, e1, hba', _⟩ := id hb
    injection e1 with e1
    subst e1
    refine ⟨_, rfl, ba, rfl, ⟨_, SqL.of (cut_get hba').2⟩, fun D2 hD2 => copy_pat rfl (by show 7 < 8; decide) (there_x (some_ne a1.at_) a1.same hM) hD2 hb ll.b fun H2 s2 r2 => ?_⟩
    refine ⟨_, rfl, x, _, dx, _, rfl, s2 _ _ a1.at_, T.cls_Rule, T.no_Rule_back, (by show 1 < 1000; decide), ?_⟩
    have a2 := a1.step (fs' := putF "back" (.ref D2) (putF "inside" (.ref D1) [])) s2
    replace r2 : PatR (cut (x :: M) (upd H2 x (.ins (cRule K) dx (putF "back" (.ref D2) (putF "inside" (.ref D1) []))))) (.ref D2) r.back := keepC (Same.refl _) r2
    replace r1 : PatR (cut (x :: M) (upd H2 x (.ins (cRule K) dx (putF "back" (.ref D2) (putF "inside" (.ref D1) []))))) (.ref D1) r.inside := keepC s2 r1
    replace ha : PatR (cut (x :: M) (upd H2 x (.ins (cRule K) dx (putF "back" (.ref D2) (putF "inside" (.ref D1) []))))) (.ref aa) r.ahead := keepC s2 ha
    replace ho : IL (cut (x :: M) (upd H2 x (.ins (cRule K) dx (putF "back" (.ref D2) (putF "inside" (.ref D1) []))))) ov r.out := keepC s2 ho
    replace hc : Ls CallR (cut (x :: M) (upd H2 x (.ins (cRule K) dx (putF "back" (.ref D2) (putF "inside" (.ref D1) []))))) cv r.calls := keepC s2 hc
    generalize upd H2 x (.ins (cRule K) dx (putF "back" (.ref D2) (putF "inside" (.ref D1) []))) = J2 at a2 r1 r2 ha ho hc ⊢
    clear a1 hb hba' hba
    -- ahead
    obtain ⟨_, _, e1, haa', _⟩ := id ha
    injection e1 with e1
    subst e1
    refine ⟨_, rfl, aa, rfl, ⟨_, SqL.of (cut_get haa').2⟩, fun D3 hD3 => copy_pat rfl (by show 7 < 8; decide) (there_x (some_ne a2.at_) a2.same hM) hD3 ha ll.a fun H3 s3 r3 => ?_⟩
    refine ⟨_, rfl, x, _, dx, _, rfl, s3 _ _ a2.at_, T.cls_Rule, T.no_Rule_ahead, (by show 2 < 1000; decide), ?_⟩
    have a3 := a2.step (fs' := putF "ahead" (.ref D3) (putF "back" (.ref D2) (putF "inside" (.ref D1) []))) s3
    replace r3 : PatR (cut (x :: M) (upd H3 x (.ins (cRule K) dx (putF "ahead" (.ref D3) (putF "back" (.ref D2) (putF "inside" (.ref D1) [])))))) (.ref D3) r.ahead := keepC (Same.refl _) r3
    replace r2 : PatR (cut (x :: M) (upd H3 x (.ins (cRule K) dx (putF "ahead" (.ref D3) (putF "back" (.ref D2) (putF "inside" (.ref D1) [])))))) (.ref D2) r.back := keepC s3 r2
    replace r1 : PatR (cut (x :: M) (upd H3 x (.ins (cRule K) dx (putF "ahead" (.ref D3) (putF "back" (.ref D2) (putF "inside" (.ref D1) [])))))) (.ref D1) r.inside := keepC s3 r1
    replace ho : IL (cut (x :: M) (upd H3 x (.ins (cRule K) dx (putF "ahead" (.ref D3) (putF "back" (.ref D2) (putF "inside" (.ref D1) [])))))) ov r.out := keepC s3 ho
    replace hc : Ls CallR (cut (x :: M) (upd H3 x (.ins (cRule K) dx (putF "ahead" (.ref D3) (putF "back" (.ref D2) (putF "inside" (.ref D1) [])))))) cv r.calls := keepC s3 hc
    generalize upd H3 x (.ins (cRule K) dx (putF "ahead" (.ref D3) (putF "back" (.ref D2) (putF "inside" (.ref D1) [])))) = J3 at a3 r1 r2 r3 ho hc ⊢
    clear a2 ha haa' haa
    -- out, calls
    obtain ⟨oa, rfl, hoa⟩ := ho
    refine ⟨_, rfl, oa, _, rfl, .inl (SqL.of (cut_get hoa).2), fun lo hlo => ?_⟩
    have s4 : Same J3 (upd J3 lo (.lst (r.out.map V.int))) := same_upd hlo
    have r4 : IL (cut (x :: M) (upd J3 lo (.lst (r.out.map V.int)))) (.ref lo) r.out := ⟨lo, rfl, by rw [new_cut (there_x (some_ne a3.at_) a3.same hM) hlo, upd_same]⟩
    generalize upd J3 lo (.lst (r.out.map V.int)) = H4 at s4 r4 ⊢
    refine ⟨_, rfl, x, _, dx, _, rfl, s4 _ _ a3.at_, T.cls_Rule, T.no_Rule_out, (by show 3 < 1000; decide), ?_⟩
    have a4 := a3.step (fs' := putF "out" (.ref lo) (putF "ahead" (.ref D3) (putF "back" (.ref D2) (putF "inside" (.ref D1) [])))) s4
    replace r4 : IL (cut (x :: M) (upd H4 x (.ins (cRule K) dx (putF "out" (.ref lo) (putF "ahead" (.ref D3) (putF "back" (.ref D2) (putF "inside" (.ref D1) []))))))) (.ref lo) r.out := keepC (Same.refl _) r4
    replace r3 : PatR (cut (x :: M) (upd H4 x (.ins (cRule K) dx (putF "out" (.ref lo) (putF "ahead" (.ref D3) (putF "back" (.ref D2) (putF "inside" (.ref D1) []))))))) (.ref D3) r.ahead := keepC s4 r3
    replace r2 : PatR (cut (x :: M) (upd H4 x (.ins (cRule K) dx (putF "out" (.ref lo) (putF "ahead" (.ref D3) (putF "back" (.ref D2) (putF "inside" (.ref D1) []))))))) (.ref D2) r.back := keepC s4 r2
    replace r1 : PatR (cut (x :: M) (upd H4 x (.ins (cRule K) dx (putF "out" (.ref lo) (putF "ahead" (.ref D3) (putF "back" (.ref D2) (putF "inside" (.ref D1) []))))))) (.ref D1) r.inside := keepC s4 r1
    replace hc : Ls CallR (cut (x :: M) (upd H4 x (.ins (cRule K) dx (putF "out" (.ref lo) (putF "ahead" (.ref D3) (putF "back" (.ref D2) (putF "inside" (.ref D1) []))))))) cv r.calls := keepC s4 hc
    generalize upd H4 x (.ins (cRule K) dx (putF "out" (.ref lo) (putF "ahead" (.ref D3) (putF "back" (.ref D2) (putF "inside" (.ref D1) []))))) = J4 at a4 r1 r2 r3 r4 hc ⊢
    clear a3
    obtain ⟨ca, cvs, rfl, hca, cp⟩ := hc
    refine ⟨_, rfl, ca, _, rfl, .inl (SqL.of (cut_get hca).2), fun lc hlc => ?_⟩
    have s5 : Same J4 (upd J4 lc (.lst cvs)) := same_upd hlc
    have r5 : Ls CallR (cut (x :: M) (upd J4 lc (.lst cvs))) (.ref lc) r.calls := ⟨lc, cvs, rfl, by rw [new_cut (there_x (some_ne a4.at_) a4.same hM) hlc, upd_same], pair_mono (s5.cutS _) cp⟩
    generalize upd J4 lc (.lst cvs) = H5 at s5 r5 ⊢
    refine ⟨_, rfl, x, _, dx, _, rfl, s5 _ _ a4.at_, T.cls_Rule, T.no_Rule_calls, (by show 4 < 1000; decide), ?_⟩
    have a5 := a4.step (fs' := putF "calls" (.ref lc) (putF "out" (.ref lo) (putF "ahead" (.ref D3) (putF "back" (.ref D2) (putF "inside" (.ref D1) []))))) s5
    replace r5 : Ls CallR (cut (x :: M) (upd H5 x (.ins (cRule K) dx (putF "calls" (.ref lc) (putF "out" (.ref lo) (putF "ahead" (.ref D3) (putF "back" (.ref D2) (putF "inside" (.ref D1) [])))))))) (.ref lc) r.calls := keepC (Same.refl _) r5
    replace r4 : IL (cut (x :: M) (upd H5 x (.ins (cRule K) dx (putF "calls" (.ref lc) (putF "out" (.ref lo) (putF "ahead" (.ref D3) (putF "back" (.ref D2) (putF "inside" (.ref D1) [])))))))) (.ref lo) r.out := keepC s5 r4
    replace r3 : PatR (cut (x :: M) (upd H5 x (.ins (cRule K) dx (putF "calls" (.ref lc) (putF "out" (.ref lo) (putF "ahead" (.ref D3) (putF "back" (.ref D2) (putF "inside" (.ref D1) [])))))))) (.ref D3) r.ahead := keepC s5 r3
    replace r2 : PatR (cut (x :: M) (upd H5 x (.ins (cRule K) dx (putF "calls" (.ref lc) (putF "out" (.ref lo) (putF "ahead" (.ref D3) (putF "back" (.ref D2) (putF "inside" (.ref D1) [])))))))) (.ref D2) r.back := keepC s5 r2
    replace r1 : PatR (cut (x :: M) (upd H5 x (.ins (cRule K) dx (putF "calls" (.ref lc) (putF "out" (.ref lo) (putF "ahead" (.ref D3) (putF "back" (.ref D2) (putF "inside" (.ref D1) [])))))))) (.ref D1) r.inside := keepC s5 r1
    generalize upd H5 x (.ins (cRule K) dx (putF "calls" (.ref lc) (putF "out" (.ref lo) (putF "ahead" (.ref D3) (putF "back" (.ref D2) (putF "inside" (.ref D1) [])))))) = J5 at a5 r1 r2 r3 r4 r5 ⊢
    clear a4
    -- extra
    refine ⟨_, rfl, _, rfl, x, _, dx, _, rfl, a5.at_, T.cls_Rule, T.no_Rule_extra, (by show 5 < 1000; decide), ?_⟩
    have a6 := a5.step (fs' := ruF (.ref D1) (.ref D2) (.ref D3) (.ref lo) (.ref lc)) (Same.refl _)
    have kf := k _ a6.same ⟨x, dx, _, _, _, _, _, rfl, cut_of a6.at_ nM, dropC (keepC (Same.refl _) r1), dropC (keepC (Same.refl _) r2), dropC (keepC (Same.refl _) r3), dropC (keepC (Same.refl _) r4), dropC (keepC (Same.refl _) r5)⟩
    exact kf
/-! ### Lookup -/
def spLookI (K : PySem.W.Frag) : Sp := fun vs H Q _ => ∃ (M : List Addr) (x dx : Addr) (l : LkD) (rv : V), vs = [.ref x, .str l.kind, rv, .bl l.ign] ∧ H x = some (.ins (cLookup K) dx []) ∧ (∀ b ∈ M, H b ≠ none) ∧ x ∉ M ∧ Ls (RuleR K) (cut (x :: M) H) rv l.rules ∧
  ∀ H', SameX x H H' → LookR K (cut M H') (.ref x) l → Q .non H'
abbrev psLook : List Str := ["self", "kind", "rules", "ignore"]
theorem sc_lookI : FnScope ["self", "kind", "rules", "ignore"] psLook (defScope s_Lookup_init) := ⟨rfl, rfl, rfl, by decide +kernel, rfl, by decide +kernel, by decide +kernel⟩
theorem ok_lookI (T : Txt K mg) {fd : FuncData} {kws : List (Str × V)} (F : Fn K "__init__" "Lookup.__init__" s_Lookup_init kws (He.ma K (cLookup K) "__init__") fd) : FnOk P w K mg base CX0 1 (He.ma K (cLookup K) "__init__") fd psLook (spLookI K) := by
  refine fn_ok F sc_lookI (fun vs H Q E h => ?_) (fun cdv A outer s H vs Q E hr h => ?_)
  · obtain ⟨M, x, dx, l, rv, rfl, _⟩ := h
    rfl
  · obtain ⟨M, x, dx, l, rv, rfl, hx, hM, nM, hl, k⟩ := h
    refine ⟨_, pss_cons (ps_fld (pv 0) (pv 1) rfl) (pss_cons (ps_fld (pv 0) (pe_callTy call_list_of (by rfl) T.b_list boot_list (pa_cons (pv 2) pa_nil)) rfl) (pss_one (ps_fld (pv 0) (pv 3) rfl))), ?_⟩
    refine ⟨_, rfl, _, rfl, x, _, dx, _, rfl, hx, T.cls_Lookup, T.no_Lookup_kind, (by show 0 < 1000; decide), ?_⟩
    have a1 : Mk1 x dx (cLookup K) H (upd H x (.ins (cLookup K) dx (putF "kind" (.str l.kind) []))) _ := (Mk1.start hx).step (Same.refl _)
    replace hl : Ls (RuleR K) (cut (x :: M) (upd H x (.ins (cLookup K) dx (putF "kind" (.str l.kind) [])))) rv l.rules := keepC (Same.refl _) hl
    generalize upd H x (.ins (cLookup K) dx (putF "kind" (.str l.kind) [])) = J1 at a1 hl ⊢
    obtain ⟨ra, rvs, rfl, hra, rp⟩ := hl
    refine ⟨_, rfl, ra, _, rfl, .inl (SqL.of (cut_get hra).2), fun lr hlr => ?_⟩
    have s2 : Same J1 (upd J1 lr (.lst rvs)) := same_upd hlr
    have r2 : Ls (RuleR K) (cut (x :: M) (upd J1 lr (.lst rvs))) (.ref lr) l.rules := ⟨lr, rvs, rfl, by rw [new_cut (there_x (some_ne a1.at_) a1.same hM) hlr, upd_same], pair_mono (s2.cutS _) rp⟩
    generalize upd J1 lr (.lst rvs) = H2 at s2 r2 ⊢
    refine ⟨_, rfl, x, _, dx, _, rfl, s2 _ _ a1.at_, T.cls_Lookup, T.no_Lookup_rules, (by show 1 < 1000; decide), ?_⟩
    have a2 := a1.step (fs' := putF "rules" (.ref lr) (putF "kind" (.str l.kind) [])) s2
    replace r2 : Ls (RuleR K) (cut (x :: M) (upd H2 x (.ins (cLookup K) dx (putF "rules" (.ref lr) (putF "kind" (.str l.kind) []))))) (.ref lr) l.rules := keepC (Same.refl _) r2
    generalize upd H2 x (.ins (cLookup K) dx (putF "rules" (.ref lr) (putF "kind" (.str l.kind) []))) = J2 at a2 r2 ⊢
    refine ⟨_, rfl, _, rfl, x, _, dx, _, rfl, a2.at_, T.cls_Lookup, T.no_Lookup_ignore, (by show 2 < 1000; decide), ?_⟩
    have a3 := a2.step (fs' := lkF l.kind (.ref lr) l.ign) (Same.refl _)
    have kf := k _ a3.same ⟨x, dx, _, rfl, cut_of a3.at_ nM, dropC (keepC (Same.refl _) r2)⟩
    exact kf
end
end K26


set_option maxHeartbeats 4000000
namespace K26
open PySem PySem.Spec PyProof.Rows L2
/-! ### how keywords are bound -/
abbrev kwsG (K : PySem.W.Frag) : List (Str × V) := [("parts", .ref (kwAt ("Glyph", some "__init__") "parts" K)), ("anchors", .ref (kwAt ("Glyph", some "__init__") "anchors" K)), ("mark", .bl false), ("deltas", .ref (kwAt ("Glyph", some "__init__") "deltas" K)), ("hint", .ref (kwAt ("Glyph", some "__init__") "hint" K))]
abbrev kwmG (K : PySem.W.Frag) : List (Str × V) := [("parts", .ref (kwAt ("Glyph", some "__init__") "parts" K)), ("anchors", .ref (kwAt ("Glyph", some "__init__") "anchors" K)), ("deltas", .ref (kwAt ("Glyph", some "__init__") "deltas" K)), ("hint", .ref (kwAt ("Glyph", some "__init__") "hint" K))]
abbrev kwsR (K : PySem.W.Frag) : List (Str × V) := [("back", .ref (kwAt ("Rule", some "__init__") "back" K)), ("ahead", .ref (kwAt ("Rule", some "__init__") "ahead" K)), ("out", .ref (kwAt ("Rule", some "__init__") "out" K)), ("calls", .ref (kwAt ("Rule", some "__init__") "calls" K)), ("extra", .int 0)]
section
variable {P : Program} {w : World} {K : PySem.W.Frag} {mg : Str → Option Value} {base : Heap} {fd : FuncData}
/-- Glyph(adv, outline, mark=..) -/
theorem kb_glyph1 (F : Fn K "__init__" "Glyph.__init__" s_Glyph_init (kwsG K) (He.ma K (He.ga K "Glyph") "__init__") fd) :
    ∃ mv : List Value, KBn K fd psGlyph 3 ["mark"] (fun us ws => us ++ mv.take 2 ++ ws ++ mv.drop 2) (fun vs zs => vs ++ ((kwmG K).map (·.2)).take 2 ++ zs ++ ((kwmG K).map (·.2)).drop 2) := by
  refine FunD.kbinds0 F 3 ["mark"] (kwmG K) (fun us mv ws => us ++ mv.take 2 ++ ws ++ mv.drop 2) (List.cons_ne_nil _ _) (fun q hq => ?_) (fun r1 r2 r3 => ((r1.append (r2.take 2)).append r3).append (r2.drop 2)) ?_
  · simp only [List.mem_cons, List.not_mem_nil, or_false] at hq ⊢
    rcases hq with e | e | e | e <;> simp [e]
  · intro D doc pm an cdv ct us mv ws h1 h2 h3
    match us, mv, ws, h1, h2, h3 with
    | [a, b, c], [m1, m2, m3, m4], [w1], _, _, _ =>
      exact ⟨_, _, _, _, _, _, rfl, rfl, _, _, _, _, _, _, rfl, rfl, _, _, _, _, _, _, rfl, rfl, _, _, _, _, _, _, rfl, rfl, rfl⟩
/-- Glyph(.., with all keywords) -/
theorem kb_glyph5 (F : Fn K "__init__" "Glyph.__init__" s_Glyph_init (kwsG K) (He.ma K (He.ga K "Glyph") "__init__") fd) :
    ∃ mv : List Value, KBn K fd psGlyph 3 ["parts", "anchors", "mark", "deltas", "hint"] (fun us ws => us ++ ws) (fun vs zs => vs ++ zs) := by
  refine FunD.kbinds0 F 3 ["parts", "anchors", "mark", "deltas", "hint"] [] (fun us _ ws => us ++ ws) (List.cons_ne_nil _ _) (fun q hq => absurd hq List.not_mem_nil) (fun r1 _ r3 => r1.append r3) ?_
  intro D doc pm an cdv ct us mv ws h1 h2 h3
  match us, mv, ws, h1, h2, h3 with
  | [a, b, c], [], [w1, w2, w3, w4, w5], _, _, _ => rfl
/-- Rule(inside, back=.., ahead=.., out=.., calls=..) -/
theorem kb_rule4 (F : Fn K "__init__" "Rule.__init__" s_Rule_init (kwsR K) (He.ma K (He.ga K "Rule") "__init__") fd) :
    ∃ mv : List Value, KBn K fd psRule 2 ["back", "ahead", "out", "calls"] (fun us ws => us ++ ws ++ mv) (fun vs zs => vs ++ zs ++ [.int 0]) := by
  refine FunD.kbinds0 F 2 ["back", "ahead", "out", "calls"] [("extra", .int 0)] (fun us mv ws => us ++ ws ++ mv) (List.cons_ne_nil _ _) (fun q hq => ?_) (fun r1 r2 r3 => (r1.append r3).append r2) ?_
  · simp only [List.mem_cons, List.not_mem_nil, or_false] at hq ⊢
    simp [hq]
  · intro D doc pm an cdv ct us mv ws h1 h2 h3
    match us, mv, ws, h1, h2, h3 with
    | [a, b], [m1], [w1, w2, w3, w4], _, _, _ => exact ⟨_, _, _, _, _, _, rfl, rfl, rfl⟩
theorem kb_rule5 (F : Fn K "__init__" "Rule.__init__" s_Rule_init (kwsR K) (He.ma K (He.ga K "Rule") "__init__") fd) :
    ∃ mv : List Value, KBn K fd psRule 2 ["back", "ahead", "out", "calls", "extra"] (fun us ws => us ++ ws) (fun vs zs => vs ++ zs) := by
  refine FunD.kbinds0 F 2 ["back", "ahead", "out", "calls", "extra"] [] (fun us _ ws => us ++ ws) (List.cons_ne_nil _ _) (fun q hq => absurd hq List.not_mem_nil) (fun r1 _ r3 => r1.append r3) ?_
  intro D doc pm an cdv ct us mv ws h1 h2 h3
  match us, mv, ws, h1, h2, h3 with
  | [a, b], [], [w1, w2, w3, w4, w5], _, _, _ => rfl
theorem kb_look (F : Fn K "__init__" "Lookup.__init__" s_Lookup_init [("ignore", .bl false)] (He.ma K (He.ga K "Lookup") "__init__") fd) :
    ∃ mv : List Value, KBn K fd psLook 3 ["ignore"] (fun us ws => us ++ ws) (fun vs zs => vs ++ zs) := by
  refine FunD.kbinds0 F 3 ["ignore"] [] (fun us _ ws => us ++ ws) (List.cons_ne_nil _ _) (fun q hq => absurd hq List.not_mem_nil) (fun r1 _ r3 => r1.append r3) ?_
  intro D doc pm an cdv ct us mv ws h1 h2 h3
  match us, mv, ws, h1, h2, h3 with
  | [a, b, c], [], [w1], _, _, _ => rfl
end
section
variable {P : Program} {w : World} {K : PySem.W.Frag} {mg : Str → Option Value} {base : Heap}
theorem there_made {M : List Addr} {H : Hp} {x dx : Addr} {o u : HO} (hM : ∀ b ∈ M, H b ≠ none) (nx : H x = none) (ndx : H dx = none) : ∀ b ∈ M, (upd (upd H dx o) x u) b ≠ none := fun b hb => by
  cases q : H b with
  | none => exact absurd q (hM b hb)
  | some v =>
    rw [upd_ne (ne_of_none q nx), upd_ne (ne_of_none q ndx), q]
    exact fun z => by cases z
/-! ### copies -/
def spCopG (K : PySem.W.Frag) : Sp := fun vs H Q _ => ∃ (M : List Addr) (g : Int × Bool) (gv : V), vs = [gv] ∧ (∀ b ∈ M, H b ≠ none) ∧ GlyphR K (cut M H) gv g ∧ ∀ H' v, Same H H' → GlyphR K (cut M H') v g → Q v H'
theorem sc_copG : FnScope ["glyph"] ["glyph"] (defScope s_copied_glyph) := ⟨rfl, rfl, rfl, by decide +kernel, rfl, by decide +kernel, by decide +kernel⟩
theorem emp_of {H : Hp} {a : Addr} (h : H a = some (.lst [])) : Emp K H (.ref a) := ⟨a, rfl, .inl (SqL.of h)⟩
theorem c_copG (T : Txt K mg) : Cal P w K mg base 3 "copied_glyph" ["glyph"] (spCopG K) := by
  obtain ⟨fd, F⟩ := T.f_copied_glyph
  obtain ⟨fdG, FG⟩ := T.f_Glyph_init
  obtain ⟨mv, kb⟩ := kb_glyph5 FG
  refine cal_of F T.g_copied_glyph sc_copG (fun vs H Q E h => ?_) (fun _ _ _ _ _ _ us hl => match us, hl with | [_], _ => rfl) (fun cdv A outer s H vs Q E hr h => ?_)
  · obtain ⟨M, g, gv, rfl, _⟩ := h
    rfl
  · obtain ⟨M, g, gv, rfl, hM, ⟨x, dx, o, p, an, d, h', rfl, hx, ho, hp, ha, hd, hh⟩, k⟩ := h
    refine ⟨_, pss_one (ps_ret (pe_makeK T.mk_Glyph (ok_glyphI T FG) hr rfl T.g_Glyph kb pass0 (pa_cons (pe_fld (pv 0) rfl) (pa_cons (pe_fld (pv 0) rfl) pa_nil))
      (pk_cons (pe_fld (pv 0) rfl) (pk_cons (pe_fld (pv 0) rfl) (pk_cons (pe_fld (pv 0) rfl) (pk_cons (pe_fld (pv 0) rfl) (pk_cons (pe_fld (pv 0) rfl) pk_nil))))))), ?_⟩
    have hx' := (cut_get hx).2
    refine ⟨_, rfl, x, _, dx, _, _, rfl, hx', T.cls_Glyph, T.no_Glyph_advance, rfl, _, rfl, x, _, dx, _, _, rfl, hx', T.cls_Glyph, T.no_Glyph_outline, rfl, ?_⟩
    refine ⟨_, rfl, x, _, dx, _, _, rfl, hx', T.cls_Glyph, T.no_Glyph_parts, rfl, _, rfl, x, _, dx, _, _, rfl, hx', T.cls_Glyph, T.no_Glyph_anchors, rfl, _, rfl, x, _, dx, _, _, rfl, hx', T.cls_Glyph, T.no_Glyph_mark, rfl,
      _, rfl, x, _, dx, _, _, rfl, hx', T.cls_Glyph, T.no_Glyph_deltas, rfl, _, rfl, x, _, dx, _, _, rfl, hx', T.cls_Glyph, T.no_Glyph_hint, rfl, rfl, rfl, ?_⟩
    intro y dy ny ndy ney
    have m := made_cut (o := .own y) (u := .ins (cGlyph K) dy []) ny ndy
    have st : ∀ {a : Addr} {u : HO}, cut M H a = some u → (cut [y] (upd (upd H dy (.own y)) y (.ins (cGlyph K) dy []))) a = some u := fun q => m _ _ (cut_get q).2
    refine ⟨M, y, dy, o, g.1, g.2, _, _, _, _, rfl, upd_same, there_made hM ny ndy, not_in_of hM ny, SqL.of (st ho), emp_of (st hp), emp_of (st ha), emp_of (st hd), emp_of (st hh), fun H3 s3 r3 => ⟨rfl, k _ _ (made_X ny ndy s3) r3⟩⟩
def spCopR (K : PySem.W.Frag) : Sp := fun vs H Q _ => ∃ (M : List Addr) (r : RuleD) (rv : V), vs = [rv] ∧ (∀ b ∈ M, H b ≠ none) ∧ RuleR K (cut M H) rv r ∧ RLen r ∧ ∀ H' v, Same H H' → RuleR K (cut M H') v r → Q v H'
theorem sc_copR : FnScope ["rule"] ["rule"] (defScope s_copied_rule) := ⟨rfl, rfl, rfl, by decide +kernel, rfl, by decide +kernel, by decide +kernel⟩
theorem c_copR (T : Txt K mg) : Cal P w K mg base 3 "copied_rule" ["rule"] (spCopR K) := by
  obtain ⟨fd, F⟩ := T.f_copied_rule
  obtain ⟨fdG, FG⟩ := T.f_Rule_init
  obtain ⟨mv, kb⟩ := kb_rule5 FG
  refine cal_of F T.g_copied_rule sc_copR (fun vs H Q E h => ?_) (fun _ _ _ _ _ _ us hl => match us, hl with | [_], _ => rfl) (fun cdv A outer s H vs Q E hr h => ?_)
  · obtain ⟨M, r, rv, rfl, _⟩ := h
    rfl
  · obtain ⟨M, r, rv, rfl, hM, ⟨x, dx, i, b, a, o, c, rfl, hx, hi, hb, ha, ho, hc⟩, ll, k⟩ := h
    refine ⟨_, pss_one (ps_ret (pe_makeK T.mk_Rule (ok_ruleI T FG) hr rfl T.g_Rule kb pass0 (pa_cons (pe_fld (pv 0) rfl) pa_nil)
      (pk_cons (pe_fld (pv 0) rfl) (pk_cons (pe_fld (pv 0) rfl) (pk_cons (pe_fld (pv 0) rfl) (pk_cons (pe_fld (pv 0) rfl) (pk_cons (pe_fld (pv 0) rfl) pk_nil))))))), ?_⟩
    have hx' := (cut_get hx).2
    refine ⟨_, rfl, x, _, dx, _, _, rfl, hx', T.cls_Rule, T.no_Rule_inside, rfl, ?_⟩
    refine ⟨_, rfl, x, _, dx, _, _, rfl, hx', T.cls_Rule, T.no_Rule_back, rfl, _, rfl, x, _, dx, _, _, rfl, hx', T.cls_Rule, T.no_Rule_ahead, rfl, _, rfl, x, _, dx, _, _, rfl, hx', T.cls_Rule, T.no_Rule_out, rfl,
      _, rfl, x, _, dx, _, _, rfl, hx', T.cls_Rule, T.no_Rule_calls, rfl, _, rfl, x, _, dx, _, _, rfl, hx', T.cls_Rule, T.no_Rule_extra, rfl, rfl, rfl, ?_⟩
    intro y dy ny ndy ney
    have m := made_cutM (M := M) (o := .own y) (u := .ins (cRule K) dy []) ny ndy
    exact ⟨M, y, dy, r, _, _, _, _, _, rfl, upd_same, there_made hM ny ndy, not_in_of hM ny, Mono.mono m hi, Mono.mono m hb, Mono.mono m ha, Mono.mono m ho, Mono.mono m hc, ll, fun H3 s3 r3 => ⟨rfl, k _ _ (made_X ny ndy s3) r3⟩⟩
structure LLen (l : LkD) : Prop where
  n : l.rules.length ≤ 1000
  r : ∀ r ∈ l.rules, RLen r
def spCopL (K : PySem.W.Frag) : Sp := fun vs H Q _ => ∃ (M : List Addr) (l : LkD) (lv : V), vs = [lv] ∧ (∀ b ∈ M, H b ≠ none) ∧ LookR K (cut M H) lv l ∧ LLen l ∧ ∀ H' v, Same H H' → LookR K (cut M H') v l → Q v H'
theorem sc_copL : FnScope ["lookup", "rule"] ["lookup"] (defScope s_copied_lookup) := ⟨rfl, rfl, rfl, by decide +kernel, rfl, by decide +kernel, by decide +kernel⟩
theorem c_copL (T : Txt K mg) : Cal P w K mg base 4 "copied_lookup" ["lookup"] (spCopL K) := by
  obtain ⟨fd, F⟩ := T.f_copied_lookup
  obtain ⟨fdG, FG⟩ := T.f_Lookup_init
  obtain ⟨mv, kb⟩ := kb_look FG
  refine cal_of F T.g_copied_lookup sc_copL (fun vs H Q E h => ?_) (fun _ _ _ _ _ _ us hl => match us, hl with | [_], _ => rfl) (fun cdv A outer s H vs Q E hr h => ?_)
  · obtain ⟨M, l, lv, rfl, _⟩ := h
    rfl
  · obtain ⟨M, l, lv, rfl, hM, ⟨x, dx, rv, rfl, hx, ⟨ra, rvs, rfl, hra, rp⟩⟩, ll, k⟩ := h
    have nd := sc_copL.nd
    have hr2 : Room 2 _ := hr.mono (by decide)
    refine ⟨_, pss_one (ps_ret (pe_makeK T.mk_Lookup (ok_lookI T FG) hr2 rfl T.g_Lookup kb pass0 (pa_cons (pe_fld (pv 0) rfl)
      (pa_cons (pe_lc (own := [("rule", 1)]) (g := gName 1) (tt := tYes) (te := tCall (spCopR K) [] E0 (tCons (tVar 1) tNil)) rfl nd (pi_list (pe_fld (pv 0) rfl)) (blkOk_by (N := ["lookup", "rule"]) (sc := defScope s_copied_lookup) (by decide +kernel))
        (fun _ _ _ _ _ => pg_name (i := 1) nd rfl (Or.inl rfl)) (fun _ _ _ _ _ => pts_nil) (fun _ _ _ _ _ => pe_cal (c_copR T) hr rfl (pa_cons (pv 1) pa_nil))) pa_nil))
      (pk_cons (pe_fld (pv 0) rfl) pk_nil))), ?_⟩
    have hx' := (cut_get hx).2
    have hra' := (cut_get hra).2
    refine ⟨_, rfl, x, _, dx, _, _, rfl, hx', T.cls_Lookup, T.no_Lookup_kind, rfl, _, rfl, x, _, dx, _, _, rfl, hx', T.cls_Lookup, T.no_Lookup_rules, rfl, ra, rfl, ⟨_, SqL.of hra'⟩, fun D hD =>
      lc_map (K := K) (a := ra) (xs := rvs) (RuleR K) M l.rules hM hD (SqL.of hra') rp.length (len_small (by rw [rp.length]; have := ll.n; omega)) ?_ fun H1 s1 c1 r1 => ?_⟩
    · intro i xv yv H2 hxi hyi sm smc hth Q2 kQ
      obtain ⟨z, hz, hq⟩ := paired_getL rp hxi
      obtain rfl : z = yv := Option.some.inj (hz.symm.trans hyi)
      exact ⟨rfl, _, rfl, D :: M, z, xv, rfl, hth, Mono.mono smc hq, ll.r z (mem_at hz), fun H3 v => kQ v H3⟩
    · refine ⟨_, rfl, x, _, dx, _, _, rfl, s1 _ _ hx', T.cls_Lookup, T.no_Lookup_ignore, rfl, rfl, rfl, ?_⟩
      intro y dy ny ndy ney
      have m := made_cutM (M := M) (o := .own y) (u := .ins (cLookup K) dy []) ny ndy
      have hM1 := there_same s1 hM
      exact ⟨M, y, dy, l, _, rfl, upd_same, there_made hM1 ny ndy, not_in_of hM1 ny, Mono.mono m r1, fun H3 s3 r3 => ⟨rfl, k _ _ (s1.trans (made_X ny ndy s3)) r3⟩⟩
end
end K26


set_option maxHeartbeats 4000000
namespace K26
open PySem PySem.Spec PyProof.Rows L2
/-- the readings of what is never reached -/
def gNever : TG := fun _ _ _ _ => False
def eNever : TE := fun _ _ _ => False
theorem pgN {X : Cx} {e : Expr} : PG X e gNever := ⟨fun _ _ _ _ _ _ _ _ _ h => h.elim⟩
theorem peN {X : Cx} {e : Expr} : PE X e eNever := ⟨fun _ _ _ _ _ _ h => h.elim⟩
theorem boot_sum' : bootBuiltins "sum" = some (.builtin "sum") := by decide +kernel
section
variable {P : Program} {w : World} {K : PySem.W.Frag} {mg : Str → Option Value} {base : Heap}
/-! ### outlines -/
def spCount : Sp := fun vs H Q _ => ∃ o : Addr, vs = [.ref o] ∧ H o = some (.lst []) ∧ ∀ H', Same H H' → Q (.int 0) H'
theorem sc_count : FnScope ["outline", "contour"] ["outline"] (defScope s_count_points) := ⟨rfl, rfl, rfl, by decide +kernel, rfl, by decide +kernel, by decide +kernel⟩
theorem c_count (T : Txt K mg) : Cal P w K mg base 1 "count_points" ["outline"] spCount := by
  obtain ⟨fd, F⟩ := T.f_count_points
  refine cal_of F T.g_count_points sc_count (fun vs H Q E h => ?_) (fun _ _ _ _ _ _ us hl => match us, hl with | [_], _ => rfl) (fun cdv A outer s H vs Q E hr h => ?_)
  · obtain ⟨o, rfl, _⟩ := h
    rfl
  · obtain ⟨o, rfl, ho, k⟩ := h
    have nd := sc_count.nd
    refine ⟨_, pss_one (ps_ret (pe_callB (cr_sum rfl) (by rfl) T.b_sum boot_sum' (pa_cons (pe_lc (own := [("contour", 1)]) (g := gName 1) (tt := tYes) (te := eNever) rfl nd (pi_list (pv 0)) (blkOk_by (N := ["outline", "contour"]) (sc := defScope s_count_points) (by decide +kernel))
      (fun _ _ _ _ _ => pg_name (i := 1) nd rfl (Or.inl rfl)) (fun _ _ _ _ _ => pts_nil) (fun _ _ _ _ _ => peN)) pa_nil))), ?_⟩
    refine ⟨_, rfl, o, rfl, ⟨_, SqL.of ho⟩, fun D hD => lc_nil hD (SqL.of ho) ?_⟩
    exact ⟨D, [], rfl, SqL.of upd_same, k _ (same_upd hD)⟩
def spProper : Sp := fun vs H Q _ => ∃ o : Addr, vs = [.ref o] ∧ H o = some (.lst []) ∧ ∀ H', Same H H' → Q (.bl true) H'
theorem sc_proper : FnScope ["outline", "contour"] ["outline"] (defScope s_is_proper) := ⟨rfl, rfl, rfl, by decide +kernel, rfl, by decide +kernel, by decide +kernel⟩
theorem c_proper (T : Txt K mg) : Cal P w K mg base 2 "is_proper" ["outline"] spProper := by
  obtain ⟨fd, F⟩ := T.f_is_proper
  refine cal_of F T.g_is_proper sc_proper (fun vs H Q E h => ?_) (fun _ _ _ _ _ _ us hl => match us, hl with | [_], _ => rfl) (fun cdv A outer s H vs Q E hr h => ?_)
  · obtain ⟨o, rfl, _⟩ := h
    rfl
  · obtain ⟨o, rfl, ho, k⟩ := h
    have nd := sc_proper.nd
    obtain ⟨t1, h1⟩ := T.c_MOST_CONTOURS
    obtain ⟨t2, h2⟩ := T.c_MOST_POINTS
    refine ⟨_, pss_cons (ps_if (PW.pt (pw_or (pt_cmpR op_gt (pe_callB call_len_seq (by rfl) T.b_len boot_len (pa_cons (pv 0) pa_nil)) (pe_glob (v := .int 40) (by rfl) h1 ⟨_, rfl⟩) (nomark _)) (pw_or1 (pt_cmpR op_gt (pe_cal (c_count T) hr rfl (pa_cons (pv 0) pa_nil)) (pe_glob (v := .int 200) (by rfl) h2 ⟨_, rfl⟩) (nomark _)))))
        (pss_one (ps_ret pe_bl)) pss_nil)
      (pss_cons (ps_for PassesOwn.never rfl (pi_list (pv 0)) (pg_name (i := 1) nd rfl (.inl rfl)) pss_never) (pss_one (ps_ret pe_bl))), ?_⟩
    refine ⟨_, rfl, o, _, rfl, .inl (SqL.of ho), _, _, rfl, rfl, _, rfl, iteF ?_⟩
    refine ⟨_, rfl, o, rfl, ho, fun H1 s1 => ⟨_, _, rfl, rfl, _, rfl, iteF ?_⟩⟩
    exact ⟨_, rfl, o, rfl, ⟨_, SqL.of (s1 _ _ ho)⟩, for_nil (SqL.of (s1 _ _ ho)) (k _ s1)⟩
/-! ### small checks -/
def spCoord : Sp := fun vs H Q _ => vs = [.int 0] ∧ Q (.bl true) H
theorem sc_coord : FnScope ["number"] ["number"] (defScope s_is_coordinate) := ⟨rfl, rfl, rfl, by decide +kernel, rfl, by decide +kernel, by decide +kernel⟩
theorem c_coord (T : Txt K mg) : Cal P w K mg base 1 "is_coordinate" ["number"] spCoord := by
  obtain ⟨fd, F⟩ := T.f_is_coordinate
  refine cal_of F T.g_is_coordinate sc_coord (fun vs H Q E h => ?_) (fun _ _ _ _ _ _ us hl => match us, hl with | [_], _ => rfl) (fun cdv A outer s H vs Q E hr h => ?_)
  · obtain ⟨rfl, _⟩ := h
    rfl
  · obtain ⟨rfl, k⟩ := h
    obtain ⟨t1, h1⟩ := T.c_MOST_ADVANCE
    refine ⟨_, pss_one (ps_ret (pe_chain op_le op_le (pe_un un_neg (pe_glob (v := .int 16384) (by rfl) h1 ⟨_, rfl⟩)) (pv 0) (pe_glob (v := .int 16384) (by rfl) h1 ⟨_, rfl⟩))), ?_⟩
    exact ⟨_, rfl, _, rfl, _, _, rfl, rfl, _, rfl, iteT ⟨_, _, rfl, rfl, k⟩⟩
def spEmpN : Sp := fun vs H Q _ => ∃ o : Addr, vs = [.ref o] ∧ H o = some (.lst []) ∧ Q .non H
theorem sc_hint : FnScope ["instructions", "word", "number"] ["instructions"] (defScope s_hint_fault) := ⟨rfl, rfl, rfl, by decide +kernel, rfl, by decide +kernel, by decide +kernel⟩
theorem c_hint (T : Txt K mg) : Cal P w K mg base 1 "hint_fault" ["instructions"] spEmpN := by
  obtain ⟨fd, F⟩ := T.f_hint_fault
  refine cal_of F T.g_hint_fault sc_hint (fun vs H Q E h => ?_) (fun _ _ _ _ _ _ us hl => match us, hl with | [_], _ => rfl) (fun cdv A outer s H vs Q E hr h => ?_)
  · obtain ⟨o, rfl, _⟩ := h
    rfl
  · obtain ⟨o, rfl, ho, k⟩ := h
    refine ⟨_, pss_cons (ps_for PassesOwn.never rfl (pi_list (pv 0)) pgN pss_never) (pss_one (ps_ret pe_non)), ?_⟩
    exact ⟨_, rfl, o, rfl, ⟨_, SqL.of ho⟩, for_nil (SqL.of ho) k⟩
theorem sc_axis : FnScope ["axes", "least", "normal", "greatest"] ["axes"] (defScope s_axis_fault) := ⟨rfl, rfl, rfl, by decide +kernel, rfl, by decide +kernel, by decide +kernel⟩
theorem c_axis (T : Txt K mg) : Cal P w K mg base 1 "axis_fault" ["axes"] spEmpN := by
  obtain ⟨fd, F⟩ := T.f_axis_fault
  refine cal_of F T.g_axis_fault sc_axis (fun vs H Q E h => ?_) (fun _ _ _ _ _ _ us hl => match us, hl with | [_], _ => rfl) (fun cdv A outer s H vs Q E hr h => ?_)
  · obtain ⟨o, rfl, _⟩ := h
    rfl
  · obtain ⟨o, rfl, ho, k⟩ := h
    refine ⟨_, pss_cons (ps_for PassesOwn.never rfl (pi_list (pv 0)) pgN pss_never) (pss_one (ps_ret pe_non)), ?_⟩
    exact ⟨_, rfl, o, rfl, ⟨_, SqL.of ho⟩, for_nil (SqL.of ho) k⟩
def spEmpN2 : Sp := fun vs H Q _ => ∃ (o : Addr) (n : Nat), vs = [.ref o, .int n] ∧ H o = some (.lst []) ∧ ∀ H', Same H H' → Q .non H'
theorem sc_region : FnScope ["regions", "axis_count", "region", "start", "peak", "end"] ["regions", "axis_count"] (defScope s_region_fault) := ⟨rfl, rfl, rfl, by decide +kernel, rfl, by decide +kernel, by decide +kernel⟩
theorem c_region (T : Txt K mg) : Cal P w K mg base 1 "region_fault" ["regions", "axis_count"] spEmpN2 := by
  obtain ⟨fd, F⟩ := T.f_region_fault
  refine cal_of F T.g_region_fault sc_region (fun vs H Q E h => ?_) (fun _ _ _ _ _ _ us hl => match us, hl with | [_, _], _ => rfl) (fun cdv A outer s H vs Q E hr h => ?_)
  · obtain ⟨o, n, rfl, _⟩ := h
    rfl
  · obtain ⟨o, n, rfl, ho, k⟩ := h
    refine ⟨_, pss_cons (ps_for PassesOwn.never rfl (pi_list (pv 0)) pgN pss_never) (pss_one (ps_ret pe_non)), ?_⟩
    exact ⟨_, rfl, o, rfl, ⟨_, SqL.of ho⟩, for_nil (SqL.of ho) (k _ (Same.refl _))⟩
theorem sc_chars : FnScope ["chars", "glyph_count", "before", "code", "glyph"] ["chars", "glyph_count"] (defScope s_chars_fault) := ⟨rfl, rfl, rfl, by decide +kernel, rfl, by decide +kernel, by decide +kernel⟩
theorem c_chars (T : Txt K mg) : Cal P w K mg base 1 "chars_fault" ["chars", "glyph_count"] spEmpN2 := by
  obtain ⟨fd, F⟩ := T.f_chars_fault
  refine cal_of F T.g_chars_fault sc_chars (fun vs H Q E h => ?_) (fun _ _ _ _ _ _ us hl => match us, hl with | [_, _], _ => rfl) (fun cdv A outer s H vs Q E hr h => ?_)
  · obtain ⟨o, n, rfl, _⟩ := h
    rfl
  · obtain ⟨o, n, rfl, ho, k⟩ := h
    have nd := sc_chars.nd
    refine ⟨_, pss_cons (ps_set (i := 2) nd rfl (.inl rfl) (pe_un un_neg pe_int)) (pss_cons (ps_for PassesOwn.never rfl (pi_list (pv 0)) pgN pss_never) (pss_one (ps_ret pe_non))), ?_⟩
    exact ⟨_, rfl, _, rfl, o, rfl, ⟨_, SqL.of ho⟩, for_nil (SqL.of ho) (k _ (Same.refl _))⟩
theorem sc_feature : FnScope ["features", "lookup_count", "names", "name", "numbers", "index", "number"] ["features", "lookup_count"] (defScope s_feature_fault) := ⟨rfl, rfl, rfl, by decide +kernel, rfl, by decide +kernel, by decide +kernel⟩
theorem c_feature (T : Txt K mg) : Cal P w K mg base 1 "feature_fault" ["features", "lookup_count"] spEmpN2 := by
  obtain ⟨fd, F⟩ := T.f_feature_fault
  refine cal_of F T.g_feature_fault sc_feature (fun vs H Q E h => ?_) (fun _ _ _ _ _ _ us hl => match us, hl with | [_, _], _ => rfl) (fun cdv A outer s H vs Q E hr h => ?_)
  · obtain ⟨o, n, rfl, _⟩ := h
    rfl
  · obtain ⟨o, n, rfl, ho, k⟩ := h
    have nd := sc_feature.nd
    refine ⟨_, pss_cons (ps_set (i := 2) nd rfl (.inl rfl) (pe_lst pa_nil)) (pss_cons (ps_for PassesOwn.never rfl (pi_list (pv 0)) pgN pss_never) (pss_one (ps_ret pe_non))), ?_⟩
    refine ⟨Nat.zero_le _, fun l nl => ⟨_, rfl, o, rfl, ⟨_, SqL.of (same_upd nl _ _ ho)⟩, for_nil (SqL.of (same_upd nl _ _ ho)) (k _ (same_upd nl))⟩⟩
/-! ### glyph_fault -/
def spGF (K : PySem.W.Frag) : Sp := fun vs H Q _ => ∃ (g : Int × Bool) (c rc : Nat) (gv : V), vs = [gv, .int c, .int rc] ∧ GlyphR K H gv g ∧ 0 ≤ g.1 ∧ g.1 ≤ 16384 ∧ ∀ H', Same H H' → Q .non H'
theorem sc_gf : FnScope ["glyph", "glyph_count", "region_count", "number", "x", "y", "kind", "points", "region", "point"] ["glyph", "glyph_count", "region_count"] (defScope s_glyph_fault) := ⟨rfl, rfl, rfl, by decide +kernel, rfl, by decide +kernel, by decide +kernel⟩
theorem c_gf (T : Txt K mg) : Cal P w K mg base 3 "glyph_fault" ["glyph", "glyph_count", "region_count"] (spGF K) := by
  obtain ⟨fd, F⟩ := T.f_glyph_fault
  refine cal_of F T.g_glyph_fault sc_gf (fun vs H Q E h => ?_) (fun _ _ _ _ _ _ us hl => match us, hl with | [_, _, _], _ => rfl) (fun cdv A outer s H vs Q E hr h => ?_)
  · obtain ⟨g, c, rc, gv, rfl, _⟩ := h
    rfl
  · obtain ⟨g, c, rc, gv, rfl, ⟨x, dx, o, p, an, d, h', rfl, hx, ho, hp, ha, hd, hh⟩, g0, g1, k⟩ := h
    have nd := sc_gf.nd
    have hr1 : Room 1 _ := hr.mono (by decide)
    obtain ⟨t1, h1⟩ := T.c_MOST_ADVANCE
    refine ⟨_, pss_cons (ps_if (pt_not (pt_chain op_le op_le pe_int (pe_fld (pv 0) rfl) (pe_glob (v := .int 16384) (by rfl) h1 ⟨_, rfl⟩))) (pss_one (ps_ret pe_str)) pss_nil)
      (pss_cons (ps_if (pt_not (pt_val (pe_cal (c_proper T) hr rfl (pa_cons (pe_fld (pv 0) rfl) pa_nil)))) (pss_one (ps_ret pe_str)) pss_nil)
      (pss_cons (ps_for PassesOwn.never rfl (pi_list (pe_fld (pv 0) rfl)) pgN pss_never)
      (pss_cons (ps_for PassesOwn.never rfl (pi_list (pe_fld (pv 0) rfl)) pgN pss_never)
      (pss_cons (ps_set (i := 7) nd rfl (.inl rfl) (pe_cal (c_count T) hr1 rfl (pa_cons (pe_fld (pv 0) rfl) pa_nil)))
      (pss_cons (ps_for PassesOwn.never rfl (pi_list (pe_fld (pv 0) rfl)) pgN pss_never)
      (pss_one (ps_ret (pe_cal (c_hint T) hr1 rfl (pa_cons (pe_fld (pv 0) rfl) pa_nil))))))))), ?_⟩
    refine ⟨_, rfl, x, _, dx, _, _, rfl, hx, T.cls_Glyph, T.no_Glyph_advance, rfl, _, _, rfl, rfl, _, rfl, ite2 (fun _ => ?_) (fun e => absurd (decide_eq_true g0) e)⟩
    refine ⟨_, _, rfl, rfl, _, rfl, ?_⟩
    have e1 : decide (g.1 ≤ 16384) = true := decide_eq_true g1
    rw [e1]
    refine iteF ⟨_, rfl, x, _, dx, _, _, rfl, hx, T.cls_Glyph, T.no_Glyph_outline, rfl, o, rfl, ho, fun H1 s1 => ⟨_, rfl, iteF ?_⟩⟩
    refine ⟨_, rfl, x, _, dx, _, _, rfl, s1 _ _ hx, T.cls_Glyph, T.no_Glyph_parts, rfl, p, rfl, ⟨_, SqL.of (s1 _ _ hp)⟩, for_nil (SqL.of (s1 _ _ hp)) ?_⟩
    refine ⟨_, rfl, x, _, dx, _, _, rfl, s1 _ _ hx, T.cls_Glyph, T.no_Glyph_anchors, rfl, an, rfl, ⟨_, SqL.of (s1 _ _ ha)⟩, for_nil (SqL.of (s1 _ _ ha)) ?_⟩
    refine ⟨_, rfl, x, _, dx, _, _, rfl, s1 _ _ hx, T.cls_Glyph, T.no_Glyph_outline, rfl, o, rfl, s1 _ _ ho, fun H2 s2 => ?_⟩
    have s12 := s1.trans s2
    refine ⟨_, rfl, x, _, dx, _, _, rfl, s12 _ _ hx, T.cls_Glyph, T.no_Glyph_deltas, rfl, d, rfl, ⟨_, SqL.of (s12 _ _ hd)⟩, for_nil (SqL.of (s12 _ _ hd)) ?_⟩
    exact ⟨_, rfl, x, _, dx, _, _, rfl, s12 _ _ hx, T.cls_Glyph, T.no_Glyph_hint, rfl, h', rfl, s12 _ _ hh, k _ s12⟩
/-! ### depths, parts_fault -/
def spDepths (K : PySem.W.Frag) : Sp := fun vs H Q _ => ∃ (gs : List (Int × Bool)) (gv : V), vs = [gv] ∧ Ls (GlyphR K) H gv gs ∧ gs.length ≤ 1000 ∧ ∀ H' p, Same H H' → H' p = some (.lst ((List.replicate gs.length (0 : Int)).map V.int)) → Q (.ref p) H'
theorem sc_depths : FnScope ["glyphs", "found", "_", "glyph", "number", "x", "y"] ["glyphs"] (defScope s_depths) := ⟨rfl, rfl, rfl, by decide +kernel, rfl, by decide +kernel, by decide +kernel⟩
theorem c_depths (T : Txt K mg) : Cal P w K mg base 1 "depths" ["glyphs"] (spDepths K) := by
  obtain ⟨fd, F⟩ := T.f_depths
  refine cal_of F T.g_depths sc_depths (fun vs H Q E h => ?_) (fun _ _ _ _ _ _ us hl => match us, hl with | [_], _ => rfl) (fun cdv A outer s H vs Q E hr h => ?_)
  · obtain ⟨gs, gv, rfl, _⟩ := h
    rfl
  · obtain ⟨gs, gv, rfl, ⟨a, gvs, rfl, ha, gp⟩, hl, k⟩ := h
    have nd := sc_depths.nd
    obtain ⟨t1, h1⟩ := T.c_MOST_DEPTH
    refine ⟨_, pss_cons (ps_set (i := 1) nd rfl (.inr rfl) (pe_op op_rep (pe_lst (pa_cons pe_int pa_nil)) (pe_callB call_len_seq (by rfl) T.b_len boot_len (pa_cons (pv 0) pa_nil))))
      (pss_cons (ps_for PassesOwn.never rfl (pi_range1 (by rfl) T.b_range (pa_cons (pe_op op_add (pe_glob (v := .int 4) (by rfl) h1 ⟨_, rfl⟩) pe_int) pa_nil)) (pg_name (i := 2) nd rfl (.inl rfl))
        (pss_one (ps_set (i := 1) nd rfl (.inr rfl) (pe_lc (own := [("glyph", 3)]) (g := gName 3) (tt := tYes)
          (te := tCB (rMax K) (tCons (tOp rCat (tLst (tCons (tC (.int 0)) tNil)) (tLc (iList K (tFld K (tVar 3) "parts")) gNever tYes eNever [4, 5, 6])) tNil)) rfl nd (pi_list (pv 0)) (blkOk_by (N := ["glyphs", "found", "_", "glyph", "number", "x", "y"]) (sc := defScope s_depths) (by decide +kernel))
          (fun _ _ _ _ _ => pg_name (i := 3) nd rfl (Or.inl rfl)) (fun _ _ _ _ _ => pts_nil)
          (fun _ _ _ _ _ => pe_callB (cr_max rfl) (by rfl) T.b_max (by decide +kernel) (pa_cons (pe_op op_cat (pe_lst (pa_cons pe_int pa_nil))
            (pe_lc (own := [("number", 4), ("x", 5), ("y", 6)]) rfl nd (pi_list (pe_fld (pv 3) rfl)) (blkOk_by (by rfl)) (fun _ _ _ _ _ => pgN) (fun _ _ _ _ _ => pts_nil) (fun _ _ _ _ _ => peN))) pa_nil))))))
      (pss_one (ps_ret (pv 1)))), ?_⟩
    have ln : gvs.length = gs.length := gp.length
    have hz : gvs.length < sizeLine := len_small (by omega)
    refine ⟨(by show 1 ≤ sizeLine; decide), fun l0 n0 => ⟨_, rfl, a, gvs, rfl, .inl (SqL.of (same_upd n0 _ _ ha)), l0, _, _, rfl, rfl, upd_same, by omega, by omega, ?_, fun f0 nf0 => ?_⟩⟩
    · rw [Int.toNat_natCast]
      show 1 * _ ≤ _
      omega
    have sF : Same H (upd (upd H l0 (.lst [V.int 0])) f0 (.lst (List.replicate ((gvs.length : Int)).toNat [V.int 0]).flatten)) := (same_upd n0).trans (same_upd nf0)
    have eF : (List.replicate ((gvs.length : Int)).toNat [V.int 0]).flatten = (List.replicate gs.length (0 : Int)).map V.int := by
      rw [Int.toNat_natCast, ln, List.map_replicate, List.flatten_replicate_singleton]
    rw [eF] at sF ⊢
    refine ⟨_, _, rfl, rfl, (5 : Int), rfl, by decide, by decide, ?_⟩
    refine for_range (lo := 0) (n := 5) (fun _ σ H1 => Same H H1 ∧ ∃ (f : Addr) (y2 y3 y4 y5 y6 : Option V), σ = [some (.ref a), some (.ref f), y2, y3, y4, y5, y6] ∧ H1 f = some (.lst ((List.replicate gs.length (0 : Int)).map V.int))) ⟨sF, f0, none, none, none, none, none, rfl, upd_same⟩ ?_ ?_
    · rintro i σ H1 hi ⟨s1, f, y2, y3, y4, y5, y6, rfl, hf⟩
      refine ⟨_, rfl, a, rfl, ⟨_, SqL.of (s1 _ _ ha)⟩, fun D hD => lc_map (K := K) (a := a) (xs := gvs) INT [] (List.replicate gs.length (0 : Int)) (fun b hb => absurd hb List.not_mem_nil) hD (SqL.of (s1 _ _ ha)) (by rw [List.length_replicate]; exact ln) hz ?_ fun H2 s2 _ r2 => ?_⟩
      · intro j xv yv H3 hxj hyj s3 _ hth Q3 kQ
        have ey : yv = 0 := by
          rw [List.getElem?_replicate] at hyj
          split at hyj
          · exact (Option.some.inj hyj).symm
          · cases hyj
        obtain ⟨g, hg, ⟨x, dx, o, p, an, d, h', rfl, hx, ho, hp, had, hd, hh⟩⟩ := paired_getL gp hxj
        have s13 : Same H H3 := s1.trans s3
        refine ⟨rfl, (by show 1 ≤ sizeLine; decide), fun l nl => ?_⟩
        have s4 : Same H (upd H3 l (.lst [V.int 0])) := s13.trans (same_upd nl)
        refine ⟨_, rfl, x, _, dx, _, _, rfl, s4 _ _ hx, T.cls_Glyph, T.no_Glyph_parts, rfl, p, rfl, ⟨_, SqL.of (s4 _ _ hp)⟩, fun D2 hD2 => lc_nil hD2 (SqL.of (s4 _ _ hp)) ?_⟩
        refine ⟨l, D2, _, _, rfl, rfl, same_upd hD2 _ _ upd_same, upd_same, (by show 1 ≤ sizeLine; decide), fun q nq => ⟨q, [0], rfl, SqL.of upd_same, by decide, fun m hm _ => ?_⟩⟩
        have em : m = 0 := List.mem_singleton.mp hm
        refine kQ _ _ ((same_upd nl).trans ((same_upd hD2).trans (same_upd nq))) ?_
        rw [em, ey]
        exact rfl
      · obtain ⟨q, eq, hq⟩ := Ls.int r2
        cases eq
        exact ⟨s1.trans s2, D, some (V.int (0 + (i : Int))), y3, y4, y5, y6, rfl, cut_get hq |>.2⟩
    · rintro σ H1 ⟨s1, f, y2, y3, y4, y5, y6, rfl, hf⟩
      exact ⟨_, rfl, k _ _ s1 hf⟩
def spParts (K : PySem.W.Frag) : Sp := fun vs H Q _ => ∃ (gs : List (Int × Bool)) (gv : V), vs = [gv] ∧ Ls (GlyphR K) H gv gs ∧ 1 ≤ gs.length ∧ gs.length ≤ 1000 ∧ ∀ H', Same H H' → Q .non H'
theorem sc_parts : FnScope ["glyphs"] ["glyphs"] (defScope s_parts_fault) := ⟨rfl, rfl, rfl, by decide +kernel, rfl, by decide +kernel, by decide +kernel⟩
theorem c_parts (T : Txt K mg) : Cal P w K mg base 2 "parts_fault" ["glyphs"] (spParts K) := by
  obtain ⟨fd, F⟩ := T.f_parts_fault
  refine cal_of F T.g_parts_fault sc_parts (fun vs H Q E h => ?_) (fun _ _ _ _ _ _ us hl => match us, hl with | [_], _ => rfl) (fun cdv A outer s H vs Q E hr h => ?_)
  · obtain ⟨gs, gv, rfl, _⟩ := h
    rfl
  · obtain ⟨gs, gv, rfl, hg, h1, h2, k⟩ := h
    obtain ⟨t1, c1⟩ := T.c_MOST_DEPTH
    refine ⟨_, pss_cons (ps_if (pt_cmpR op_gt (pe_callB (cr_max rfl) (by rfl) T.b_max (by decide +kernel) (pa_cons (pe_cal (c_depths T) hr rfl (pa_cons (pv 0) pa_nil)) pa_nil)) (pe_glob (v := .int 4) (by rfl) c1 ⟨_, rfl⟩) (nomark _)) (pss_one (ps_ret pe_str)) pss_nil)
      (pss_one (ps_ret pe_non)), ?_⟩
    refine ⟨_, rfl, gs, gv, rfl, hg, h2, fun H1 p s1 hp => ⟨p, List.replicate gs.length 0, rfl, SqL.of hp, by rw [List.length_replicate]; exact h1, fun m hm _ => ⟨_, _, rfl, rfl, _, rfl, ?_⟩⟩⟩
    have em := (List.mem_replicate.mp hm).2
    subst em
    exact iteF (k _ s1)
end
end K26


set_option maxHeartbeats 4000000
namespace K26
open PySem PySem.Spec PyProof.Rows L2
theorem iteN {b : Bool} {A B : Prop} (e : b = false) (h : B) : if b = true then A else B := by
  rw [e]
  exact iteF h
theorem iteP {b : Bool} {A B : Prop} (e : b = true) (h : A) : if b = true then A else B := by
  rw [e]
  exact iteT h
/-! ### sets -/
structure IsSet (c : Nat) (s : List Int) : Prop where
  pos : 0 < s.length
  le : s.length ≤ 1000
  inr : ∀ g ∈ s, 0 ≤ g ∧ g < (c : Int)
  asc : s.Pairwise (· < ·)
section
variable {P : Program} {w : World} {K : PySem.W.Frag} {mg : Str → Option Value} {base : Heap}
def spIsSet : Sp := fun vs H Q _ => ∃ (s : List Int) (c : Nat) (sv : V), vs = [sv, .int c] ∧ IL H sv s ∧ IsSet c s ∧ ∀ H', Same H H' → Q (.bl true) H'
theorem sc_isset : FnScope ["glyphs", "glyph_count", "index", "glyph"] ["glyphs", "glyph_count"] (defScope s_is_set) := ⟨rfl, rfl, rfl, by decide +kernel, rfl, by decide +kernel, by decide +kernel⟩
theorem c_isset (T : Txt K mg) : Cal P w K mg base 1 "is_set" ["glyphs", "glyph_count"] spIsSet := by
  obtain ⟨fd, F⟩ := T.f_is_set
  refine cal_of F T.g_is_set sc_isset (fun vs H Q E h => ?_) (fun _ _ _ _ _ _ us hl => match us, hl with | [_, _], _ => rfl) (fun cdv A outer s H vs Q E hr h => ?_)
  · obtain ⟨ss, c, sv, rfl, _⟩ := h
    rfl
  · obtain ⟨ms, c, sv, rfl, ⟨ra, rfl, hra⟩, ok, k⟩ := h
    have nd := sc_isset.nd
    refine ⟨_, pss_cons (ps_if (pt_cmpR op_eq (pe_callB call_len_seq (by rfl) T.b_len boot_len (pa_cons (pv 0) pa_nil)) pe_int (nomark _)) (pss_one (ps_ret pe_bl)) pss_nil)
      (pss_cons (ps_for PassesOwn.never rfl (pi_enum (by rfl) T.b_enumerate (pa_cons (pv 0) pa_nil)) (pg_tup rfl (pgs_cons (pg_name (i := 2) nd rfl (.inl rfl)) (pgs_cons (pg_name (i := 3) nd rfl (.inl rfl)) pgs_nil)))
        (pss_one (ps_if (PW.pt (pw_or (pt_not (pt_chain op_le op_lt pe_int (pv 3) (pv 1))) (pw_or1 (PW.pt (pw_and (pt_cmpR op_gt (pv 2) pe_int (nomark _)) (pw_and1 (pt_cmpR op_ge (pe_ix ix_list (pv 0) (pe_op op_sub (pv 2) pe_int) (fun _ _ => rfl)) (pv 3) (nomark _))))))))
          (pss_one (ps_ret pe_bl)) pss_nil)))
      (pss_one (ps_ret pe_bl))), ?_⟩
    refine ⟨_, rfl, ra, _, rfl, .inl (SqL.of hra), rfl, _, rfl, ite2 (fun e => ?_) (fun _ => ?_)⟩
    · have e0 := V.int.inj (of_decide_eq_true e)
      have := ok.pos
      rw [List.length_map] at e0
      exact absurd this (by omega)
    refine ⟨_, rfl, ra, _, rfl, SqL.of hra, for_enum (K := K) (a := ra) (xs := ms.map V.int) (fun i σ H1 => ∃ y2 y3, σ = [some (.ref ra), some (.int c), y2, y3] ∧ Same H H1)
      ⟨none, none, rfl, Same.refl _⟩ (fun i σ H1 ⟨_, _, _, sm⟩ => SqL.of (sm _ _ hra)) ?_ ?_⟩
    · rintro j jv u σ H3 hj ⟨y7', y8', rfl, sm3⟩ nu
      obtain ⟨n, hn, rfl⟩ := int_at hj
      have hb := ok.inr n (mem_at hn)
      have s4 : Same H3 (upd H3 u (.tup [V.int (j : Nat), V.int n])) := same_upd nu
      refine ⟨u, _, rfl, SqT.of upd_same, rfl, _, _, rfl, _, _, rfl, rfl, ?_⟩
      refine ⟨_, rfl, _, _, rfl, rfl, _, rfl, ite2 (fun _ => ?_) (fun e => absurd (decide_eq_true hb.1) e)⟩
      refine ⟨_, rfl, _, _, rfl, rfl, _, rfl, ?_⟩
      have e : decide (n < (c : Int)) = true := decide_eq_true hb.2
      rw [e]
      refine iteF ⟨_, rfl, _, _, rfl, rfl, _, rfl, ite2 (fun e1 => ?_) (fun e1 => ?_)⟩
      · have hj0 : 0 < j := by
          have := of_decide_eq_true e1
          omega
        have hjm : j - 1 < ms.length := by
          have := (List.getElem?_eq_some_iff.mp hn).1
          omega
        refine ⟨_, rfl, _, rfl, _, _, rfl, rfl, ra, _, _, _, rfl, rfl, SqL.of (s4 _ _ (sm3 _ _ hra)), at_of (j := j - 1) (by omega) (int_at_of (List.getElem?_eq_getElem hjm)), _, rfl, _, _, rfl, rfl, _, rfl, ?_⟩
        have lt : ms[j - 1] < n := by
          obtain ⟨hjl, en⟩ := List.getElem?_eq_some_iff.mp hn
          rw [← en]
          exact List.pairwise_iff_getElem.mp ok.asc (j - 1) j hjm hjl (by omega)
        have e2 : decide (n ≤ ms[j - 1]) = false := decide_eq_false (by omega)
        rw [e2]
        exact iteF ⟨_, _, rfl, sm3.trans s4⟩
      · exact iteF ⟨_, _, rfl, sm3.trans s4⟩
    · rintro σ H3 ⟨y7', y8', rfl, sm3⟩
      exact k _ sm3
end
/-! ### calls -/
structure CallsOk (ks : List Str) (n : Nat) (cs : List (Int × Int)) : Prop where
  le : cs.length ≤ 1000
  inr : ∀ p ∈ cs, 0 ≤ p.1 ∧ p.1 < (n : Int) ∧ ∃ l : Nat, p.2 = l ∧ (ks[l]? = some "single" ∨ ks[l]? = some "multiple")
  asc : cs.Pairwise fun a b => a.1 < b.1
def KsR : Rp (List Str) := fun H v ks => ∃ a, v = .ref a ∧ H a = some (.lst (ks.map V.str))
instance : Mono KsR := ⟨fun s h => by
  obtain ⟨a, e, h⟩ := h
  exact ⟨a, e, s _ _ h⟩⟩
theorem sing_in : inV (.str "single") [V.str "single", V.str "multiple"] = true := by decide +kernel
theorem mult_in : inV (.str "multiple") [V.str "single", V.str "multiple"] = true := by decide +kernel
section
variable {P : Program} {w : World} {K : PySem.W.Frag} {mg : Str → Option Value} {base : Heap}
def spCallsR (K : PySem.W.Frag) : Sp := fun vs H Q _ => ∃ (r : RuleD) (ks : List Str) (rv kv : V), vs = [rv, kv] ∧ RuleR K H rv r ∧ KsR H kv ks ∧ CallsOk ks r.inside.length r.calls ∧ ∀ H', Same H H' → Q (.bl true) H'
theorem sc_callsr : FnScope ["rule", "kinds", "before", "index", "lookup"] ["rule", "kinds"] (defScope s_calls_right) := ⟨rfl, rfl, rfl, by decide +kernel, rfl, by decide +kernel, by decide +kernel⟩
theorem c_callsr (T : Txt K mg) : Cal P w K mg base 1 "calls_right" ["rule", "kinds"] (spCallsR K) := by
  obtain ⟨fd, F⟩ := T.f_calls_right
  refine cal_of F T.g_calls_right sc_callsr (fun vs H Q E h => ?_) (fun _ _ _ _ _ _ us hl => match us, hl with | [_, _], _ => rfl) (fun cdv A outer s H vs Q E hr h => ?_)
  · obtain ⟨r, ks, rv, kv, rfl, _⟩ := h
    rfl
  · obtain ⟨r, ks, rv, kv, rfl, ⟨x, dx, iv, bv, av, ov, cv, rfl, hx, ⟨ia, ivs, rfl, hia, ip⟩, hb, ha, ho, ⟨ca, cvs, rfl, hca, cp⟩⟩, ⟨ka, rfl, hka⟩, ok, k⟩ := h
    have nd := sc_callsr.nd
    refine ⟨_, pss_cons (ps_set (i := 2) nd rfl (.inl rfl) (pe_un un_neg pe_int))
      (pss_cons (ps_for PassesOwn.never rfl (pi_list (pe_fld (pv 0) rfl)) (pg_tup rfl (pgs_cons (pg_name (i := 3) nd rfl (.inl rfl)) (pgs_cons (pg_name (i := 4) nd rfl (.inl rfl)) pgs_nil)))
        (pss_cons (ps_if (PW.pt (pw_or (pt_not (pt_chain op_lt op_lt (pv 2) (pv 3) (pe_callB call_len_seq (by rfl) T.b_len boot_len (pa_cons (pe_fld (pv 0) rfl) pa_nil)))) (pw_or1 (pt_not (pt_chain op_le op_lt pe_int (pv 4) (pe_callB call_len_seq (by rfl) T.b_len boot_len (pa_cons (pv 1) pa_nil)))))))
          (pss_one (ps_ret pe_bl)) pss_nil)
        (pss_cons (ps_if (pt_cmpR op_notIn_seq (pe_ix ix_list (pv 1) (pv 4) (fun _ _ => rfl)) (pe_tup (pa_cons pe_str (pa_cons pe_str pa_nil))) (by rfl)) (pss_one (ps_ret pe_bl)) pss_nil)
        (pss_one (ps_set (i := 2) nd rfl (.inl rfl) (pv 3))))))
      (pss_one (ps_ret pe_bl))), ?_⟩
    refine ⟨_, rfl, _, rfl, x, _, dx, _, _, rfl, hx, T.cls_Rule, T.no_Rule_calls, rfl, ca, rfl, ⟨_, SqL.of hca⟩, ?_⟩
    refine for_list (K := K) (a := ca) (xs := cvs) (fun i σ H1 => ∃ (b : Int) (y3 y4 : Option V), σ = [some (.ref x), some (.ref ka), some (.int b), y3, y4] ∧ Same H H1 ∧ ∀ j p, i ≤ j → r.calls[j]? = some p → b < p.1)
      ⟨-1, none, none, rfl, Same.refl _, fun j p _ hp => by
        have := (ok.inr p (List.mem_of_getElem? hp)).1
        omega⟩ (fun i σ H1 _ ⟨_, _, _, _, sm, _⟩ => SqL.of (sm _ _ hca)) ?_ ?_
    · rintro i xv σ H1 hxi ⟨b, y3, y4, rfl, sm, lo⟩
      obtain ⟨p, hp, ⟨t, xx, yy, rfl, ht, ex, ey⟩⟩ := paired_getL cp hxi
      have ex' : xx = .int p.1 := ex
      have ey' : yy = .int p.2 := ey
      subst ex' ey'
      obtain ⟨p0, p1, l, el, hk⟩ := ok.inr p (List.mem_of_getElem? hp)
      have hlo := lo i p (Nat.le_refl _) hp
      have hlk : l < ks.length := by
        rcases hk with hk | hk <;> exact (List.getElem?_eq_some_iff.mp hk).1
      refine ⟨t, _, rfl, SqT.of (sm _ _ ht), rfl, _, _, rfl, _, _, rfl, rfl, ?_⟩
      refine ⟨_, rfl, _, rfl, _, _, rfl, rfl, _, rfl, iteP (decide_eq_true hlo) ?_⟩
      refine ⟨_, rfl, x, _, dx, _, _, rfl, sm _ _ hx, T.cls_Rule, T.no_Rule_inside, rfl, ia, _, rfl, .inl (SqL.of (sm _ _ hia)), _, _, rfl, rfl, _, rfl, ?_⟩
      have e : decide (p.1 < (ivs.length : Int)) = true := decide_eq_true (by rw [ip.length]; exact p1)
      rw [e]
      refine iteF ⟨_, rfl, _, _, rfl, rfl, _, rfl, iteP (decide_eq_true (by omega)) ?_⟩
      refine ⟨_, rfl, ka, _, rfl, .inl (SqL.of (sm _ _ hka)), _, _, rfl, rfl, _, rfl, ?_⟩
      have e2 : decide (p.2 < ((ks.map V.str).length : Int)) = true := decide_eq_true (by rw [List.length_map]; omega)
      rw [e2]
      refine iteF ?_
      have hat : ∃ kk : Str, ks[l]? = some kk ∧ inV (.str kk) [V.str "single", V.str "multiple"] = true := by
        rcases hk with hk | hk
        · exact ⟨_, hk, sing_in⟩
        · exact ⟨_, hk, mult_in⟩
      obtain ⟨kk, hkk, hin⟩ := hat
      refine ⟨_, rfl, _, rfl, ka, _, _, _, rfl, rfl, SqL.of (sm _ _ hka), at_of (j := l) (by omega) (by rw [List.getElem?_map, hkk]; rfl), (by show 2 ≤ sizeLine; decide), fun u nu => ⟨u, _, rfl, .inr (SqT.of upd_same), rfl, rfl, _, rfl, ?_⟩⟩
      refine iteN (by rw [hin]; rfl) ?_
      refine ⟨_, rfl, p.1, some (.int p.1), some (.int p.2), rfl, sm.trans (same_upd nu), fun j q hj hq => ?_⟩
      obtain ⟨h1, e1⟩ := List.getElem?_eq_some_iff.mp hp
      obtain ⟨h2, e2⟩ := List.getElem?_eq_some_iff.mp hq
      have := List.pairwise_iff_getElem.mp ok.asc i j h1 h2 (by omega)
      rw [e1, e2] at this
      exact this
    · rintro σ H1 ⟨b, y3, y4, rfl, sm, _⟩
      exact k _ sm
/-! ### kinds -/
structure KindOk (ks : List Str) (kind : Str) (r : RuleD) : Prop where
  ctx : inV (.str kind) [V.str "chain", V.str "reverse"] = false → r.back = [] ∧ r.ahead = []
  nocall : kind ≠ "chain" → r.calls = []
  one : inV (.str kind) [V.str "single", V.str "reverse"] = true → ∃ s, r.inside = [s] ∧ r.out.length = s.length
  mult : kind = "multiple" → r.inside.length = 1
  lig : kind = "ligature" → 2 ≤ r.inside.length ∧ r.out.length = 1
  chain : kind = "chain" → r.out = [] ∧ CallsOk ks r.inside.length r.calls
  five : kind ∈ (["single", "multiple", "ligature", "chain", "reverse"] : List Str)
theorem ne_nil {H : Hp} {a l : Addr} {Q : VK} (ha : H a = some (.lst [])) (hl : H l = some (.lst [])) (h : Q (.bl false) H) : rNeD K (.ref a) (.ref l) H Q := by
  refine ⟨dI [], dI [], IL.dp ⟨a, rfl, ha⟩, IL.dp ⟨l, rfl, hl⟩, dI_shaped _, dI_shaped _, ?_⟩
  have e : (!PyData.eqv (dI []) (dI [])) = false := by
    rw [eqv_dI]
    rfl
  rw [e]
  exact h
end
end K26


set_option maxHeartbeats 4000000
namespace K26
open PySem PySem.Spec PyProof.Rows L2
section
variable {P : Program} {w : World} {K : PySem.W.Frag} {mg : Str → Option Value} {base : Heap}
def spFitsK (K : PySem.W.Frag) : Sp := fun vs H Q _ => ∃ (r : RuleD) (ks : List Str) (kind : Str) (rv kv : V), vs = [rv, .str kind, kv] ∧ RuleR K H rv r ∧ KsR H kv ks ∧ KindOk ks kind r ∧ ∀ H', Same H H' → Q (.bl true) H'
theorem sc_fitsk : FnScope ["rule", "kind", "kinds", "inside"] ["rule", "kind", "kinds"] (defScope s_fits_kind) := ⟨rfl, rfl, rfl, by decide +kernel, rfl, by decide +kernel, by decide +kernel⟩
theorem ls_nil {α : Type} {R : Rp α} {H : Hp} {v : V} (h : Ls R H v []) : ∃ a, v = .ref a ∧ H a = some (.lst []) := by
  obtain ⟨a, vs, rfl, h1, p⟩ := h
  cases p
  exact ⟨a, rfl, h1⟩
theorem ils_nil {H : Hp} {v : V} (h : IL H v []) : ∃ a, v = .ref a ∧ H a = some (.lst []) := h
theorem c_fitsk (T : Txt K mg) : Cal P w K mg base 2 "fits_kind" ["rule", "kind", "kinds"] (spFitsK K) := by
  obtain ⟨fd, F⟩ := T.f_fits_kind
  refine cal_of F T.g_fits_kind sc_fitsk (fun vs H Q E h => ?_) (fun _ _ _ _ _ _ us hl => match us, hl with | [_, _, _], _ => rfl) (fun cdv A outer s H vs Q E hr h => ?_)
  · obtain ⟨r, ks, kind, rv, kv, rfl, _⟩ := h
    rfl
  · obtain ⟨r, ks, kind, rv, kv, rfl, ⟨x, dx, iv, bv, av, ov, cv, rfl, hx, hi, hb, ha, ho, hc⟩, hkv, ok, k⟩ := h
    have nd := sc_fitsk.nd
    have hu : (A.deeper (envOfC "fits_kind" (defScope s_fits_kind) s.heap.objs.size (He.ga K "fits_kind") cdv)).units + 64 < cLine := by
      have h1 := hr.un
      omega
    have rr : RuleR K H (.ref x) r := ⟨x, dx, iv, bv, av, ov, cv, rfl, hx, hi, hb, ha, ho, hc⟩
    refine ⟨_, pss_cons (ps_set (i := 3) nd rfl (.inl rfl) (pe_callB call_len_seq (by rfl) T.b_len boot_len (pa_cons (pe_fld (pv 0) rfl) pa_nil)))
      (Evl.pss_cut (ps_if (PW.pt (pw_and (pt_cmpR op_notIn_seq (pv 1) (pe_tup (pa_cons pe_str (pa_cons pe_str pa_nil))) (by rfl)) (pw_and1 (PW.pt (pw_or (pt_cmpR (op_neD hu) (pe_fld (pv 0) rfl) (pe_lst pa_nil) (nomark _)) (pw_or1 (pt_cmpR (op_neD hu) (pe_fld (pv 0) rfl) (pe_lst pa_nil) (nomark _)))))))) (pss_one (ps_ret pe_bl)) pss_nil)
      (Evl.pss_cut (ps_if (PW.pt (pw_or (PW.pt (pw_and (pt_cmpR op_ne (pv 1) pe_str (nomark _)) (pw_and1 (pt_cmpR op_ne (pe_fld (pv 0) rfl) pe_int (nomark _))))) (pw_or1 (PW.pt (pw_and (pt_cmpR op_ne (pv 1) pe_str (nomark _)) (pw_and1 (pt_cmpR (op_neD hu) (pe_fld (pv 0) rfl) (pe_lst pa_nil) (nomark _)))))))) (pss_one (ps_ret pe_bl)) pss_nil)
      (pss_cons (ps_if (pt_cmpR op_in_seq (pv 1) (pe_tup (pa_cons pe_str (pa_cons pe_str pa_nil))) (by rfl)) (pss_one (ps_ret (pe_and (pe_cmpR op_eq (pv 3) pe_int (nomark _)) (pe_one (pe_cmpR op_eq (pe_callB call_len_seq (by rfl) T.b_len boot_len (pa_cons (pe_fld (pv 0) rfl) pa_nil)) (pe_callB call_len_seq (by rfl) T.b_len boot_len (pa_cons (pe_ix ix_list (pe_fld (pv 0) rfl) pe_int (fun _ _ => rfl)) pa_nil)) (nomark _)))))) pss_nil)
      (pss_cons (ps_if (pt_cmpR op_eq (pv 1) pe_str (nomark _)) (pss_one (ps_ret (pe_cmpR op_eq (pv 3) pe_int (nomark _)))) pss_nil)
      (pss_cons (ps_if (pt_cmpR op_eq (pv 1) pe_str (nomark _)) (pss_one (ps_ret (pe_and (pe_cmpR op_ge (pv 3) pe_int (nomark _)) (pe_one (pe_cmpR op_eq (pe_callB call_len_seq (by rfl) T.b_len boot_len (pa_cons (pe_fld (pv 0) rfl) pa_nil)) pe_int (nomark _)))))) pss_nil)
      (pss_cons (ps_if (pt_cmpR (op_neD hu) (pe_fld (pv 0) rfl) (pe_lst pa_nil) (nomark _)) (pss_one (ps_ret pe_bl)) pss_nil)
      (pss_cons (ps_if (pt_cmpR op_eq (pv 1) pe_str (nomark _)) (pss_one (ps_ret (pe_cal (c_callsr T) hr rfl (pa_cons (pv 0) (pa_cons (pv 2) pa_nil))))) pss_nil)
      (pss_one ps_never)))))))), ?_⟩
    obtain ⟨ia, ivs, rfl, hia, ip⟩ := id hi
    refine ⟨_, rfl, x, _, dx, _, _, rfl, hx, T.cls_Rule, T.no_Rule_inside, rfl, ia, _, rfl, .inl (SqL.of hia), ?_⟩
    -- back and ahead
    refine ⟨fun σ' H1 => σ' = [some (.ref x), some (.str kind), some kv, some (.int (ivs.length : Nat))] ∧ Same H H1, ?_, ?_⟩
    · refine ⟨_, rfl, (by show 2 ≤ sizeLine; decide), fun t nt => ⟨t, _, rfl, .inr (SqT.of upd_same), rfl, rfl, _, rfl, ?_⟩⟩
      have s1 : Same H (upd H t (.tup [V.str "chain", V.str "reverse"])) := same_upd nt
      refine ite2 (fun e => ?_) (fun _ => ⟨rfl, s1⟩)
      have e' : inV (.str kind) [V.str "chain", V.str "reverse"] = false := by
        cases q : inV (.str kind) [V.str "chain", V.str "reverse"]
        · rfl
        · have : (!inV (.str kind) [V.str "chain", V.str "reverse"]) = true := e
          rw [q] at this
          cases this
      obtain ⟨b1, b2⟩ := ok.ctx e'
      rw [b1] at hb
      rw [b2] at ha
      obtain ⟨ba, rfl, hba⟩ := ls_nil hb
      obtain ⟨aa, rfl, haa⟩ := ls_nil ha
      refine ⟨_, rfl, x, _, dx, _, _, rfl, s1 _ _ hx, T.cls_Rule, T.no_Rule_back, rfl, Nat.zero_le _, fun l1 n1 => ?_⟩
      have s2 := s1.trans (same_upd (o := .lst []) n1)
      refine ne_nil (s2 _ _ hba) upd_same ⟨_, rfl, iteF ?_⟩
      refine ⟨_, rfl, x, _, dx, _, _, rfl, s2 _ _ hx, T.cls_Rule, T.no_Rule_ahead, rfl, Nat.zero_le _, fun l2 n2 => ?_⟩
      have s3 := s2.trans (same_upd (o := .lst []) n2)
      exact ne_nil (s3 _ _ haa) upd_same ⟨_, rfl, iteF ⟨rfl, s3⟩⟩
    rintro σ H1 ⟨rfl, s1⟩
    -- extra and calls
    refine ⟨fun σ' H1 => σ' = [some (.ref x), some (.str kind), some kv, some (.int (ivs.length : Nat))] ∧ Same H H1, ?_, ?_⟩
    · have h2 : ∀ Q : Prop, (∀ H2, Same H H2 → Q) → Q := fun Q h => h H1 s1
      refine ⟨_, rfl, rfl, _, rfl, ite2 (fun e1 => ?_) (fun e1 => ?_)⟩
      · refine ⟨_, rfl, x, _, dx, _, _, rfl, s1 _ _ hx, T.cls_Rule, T.no_Rule_extra, rfl, rfl, _, rfl, iteN rfl ?_⟩
        refine ⟨_, rfl, rfl, _, rfl, ite2 (fun e2 => ?_) (fun e2 => iteF ⟨rfl, s1⟩)⟩
        have ek : kind ≠ "chain" := fun q => by
          rw [q] at e2
          simp at e2
        rw [ok.nocall ek] at hc
        obtain ⟨ca, rfl, hca⟩ := ls_nil hc
        refine ⟨_, rfl, x, _, dx, _, _, rfl, s1 _ _ hx, T.cls_Rule, T.no_Rule_calls, rfl, Nat.zero_le _, fun l1 n1 => ?_⟩
        have s2 := s1.trans (same_upd (o := .lst []) n1)
        exact ne_nil (s2 _ _ hca) upd_same ⟨_, rfl, iteF ⟨rfl, s2⟩⟩
      · refine iteF ⟨_, rfl, rfl, _, rfl, ite2 (fun e2 => ?_) (fun e2 => iteF ⟨rfl, s1⟩)⟩
        have ek : kind ≠ "chain" := fun q => by
          rw [q] at e2
          simp at e2
        rw [ok.nocall ek] at hc
        obtain ⟨ca, rfl, hca⟩ := ls_nil hc
        refine ⟨_, rfl, x, _, dx, _, _, rfl, s1 _ _ hx, T.cls_Rule, T.no_Rule_calls, rfl, Nat.zero_le _, fun l1 n1 => ?_⟩
        have s2 := s1.trans (same_upd (o := .lst []) n1)
        exact ne_nil (s2 _ _ hca) upd_same ⟨_, rfl, iteF ⟨rfl, s2⟩⟩
    clear s1
    rintro σ H1 ⟨rfl, s1⟩
    have il := ip.length
    -- single, reverse
    refine ⟨_, rfl, (by show 2 ≤ sizeLine; decide), fun t nt => ⟨t, _, rfl, .inr (SqT.of upd_same), rfl, rfl, _, rfl, ?_⟩⟩
    have s2 : Same H (upd H1 t (.tup [V.str "single", V.str "reverse"])) := s1.trans (same_upd nt)
    refine ite2 (fun e => ?_) (fun e => ?_)
    · have e' : inV (.str kind) [V.str "single", V.str "reverse"] = true := e
      obtain ⟨ss, h1, h2⟩ := ok.one e'
      have h1' : ivs.length = 1 := by rw [il, h1]; rfl
      obtain ⟨oa, rfl, hoa⟩ := ho
      have hs0 : r.inside[0]? = some ss := by rw [h1]; rfl
      obtain ⟨sv, hsv, sa, rfl, hsa⟩ := paired_get ip hs0
      refine ⟨_, rfl, rfl, true, by rw [h1']; rfl, iteT ?_⟩
      refine ⟨_, rfl, x, _, dx, _, _, rfl, s2 _ _ hx, T.cls_Rule, T.no_Rule_out, rfl, oa, _, rfl, .inl (SqL.of (s2 _ _ hoa)), ?_⟩
      refine ⟨_, rfl, x, _, dx, _, _, rfl, s2 _ _ hx, T.cls_Rule, T.no_Rule_inside, rfl, ia, _, _, _, rfl, rfl, SqL.of (s2 _ _ hia), atI_nat (j := 0) hsv, sa, _, rfl, .inl (SqL.of (s2 _ _ hsa)), rfl, ?_⟩
      have e3 : decide (V.int (((r.out.map V.int).length : Nat) : Int) = V.int (((ss.map V.int).length : Nat) : Int)) = true := by
        rw [List.length_map, List.length_map, h2]
        exact decide_eq_true rfl
      rw [e3]
      exact k _ s2
    -- multiple
    refine ⟨_, rfl, rfl, _, rfl, ite2 (fun e1 => ?_) (fun e1 => ?_)⟩
    · have ek : kind = "multiple" := V.str.inj (of_decide_eq_true e1)
      refine ⟨_, rfl, rfl, ?_⟩
      have e3 : decide (V.int ((ivs.length : Nat) : Int) = V.int 1) = true := by
        rw [il, ok.mult ek]
        rfl
      rw [e3]
      exact k _ s2
    -- ligature
    refine ⟨_, rfl, rfl, _, rfl, ite2 (fun e2 => ?_) (fun e2 => ?_)⟩
    · have ek : kind = "ligature" := V.str.inj (of_decide_eq_true e2)
      obtain ⟨l1, l2⟩ := ok.lig ek
      obtain ⟨oa, rfl, hoa⟩ := ho
      refine ⟨_, rfl, _, _, rfl, rfl, true, ?_, iteT ?_⟩
      · have : decide ((2 : Int) ≤ ((ivs.length : Nat) : Int)) = true := decide_eq_true (by omega)
        show V.bl (decide ((2 : Int) ≤ ((ivs.length : Nat) : Int))) = V.bl true
        rw [this]
      refine ⟨_, rfl, x, _, dx, _, _, rfl, s2 _ _ hx, T.cls_Rule, T.no_Rule_out, rfl, oa, _, rfl, .inl (SqL.of (s2 _ _ hoa)), rfl, ?_⟩
      have e3 : decide (V.int (((r.out.map V.int).length : Nat) : Int) = V.int 1) = true := by
        rw [List.length_map, l2]
        rfl
      rw [e3]
      exact k _ s2
    -- chain
    have ek : kind = "chain" := by
      have q1 : kind ≠ "multiple" := fun q => e1 (decide_eq_true (by rw [q]))
      have q2 : kind ≠ "ligature" := fun q => e2 (decide_eq_true (by rw [q]))
      have q3 : kind ≠ "single" := fun q => e (by rw [q]; decide +kernel)
      have q4 : kind ≠ "reverse" := fun q => e (by rw [q]; decide +kernel)
      have f5 := ok.five
      simp only [List.mem_cons, List.not_mem_nil, or_false] at f5
      rcases f5 with q | q | q | q | q
      · exact absurd q q3
      · exact absurd q q1
      · exact absurd q q2
      · exact q
      · exact absurd q q4
    obtain ⟨c1, c2⟩ := ok.chain ek
    rw [c1] at ho
    obtain ⟨oa, rfl, hoa⟩ := ils_nil ho
    refine ⟨_, rfl, x, _, dx, _, _, rfl, s2 _ _ hx, T.cls_Rule, T.no_Rule_out, rfl, Nat.zero_le _, fun l1 n1 => ?_⟩
    have s3 := s2.trans (same_upd (o := .lst []) n1)
    refine ne_nil (s3 _ _ hoa) upd_same ⟨_, rfl, iteF ?_⟩
    refine ⟨_, rfl, rfl, _, rfl, iteP (decide_eq_true (by rw [ek])) ?_⟩
    exact ⟨_, rfl, _, rfl, r, ks, .ref x, kv, rfl, Mono.mono s3 rr, Mono.mono s3 hkv, c2, fun H' s' => k _ (s3.trans s')⟩
/-! ### a rule, a lookup -/
structure RuleV (ks : List Str) (kind : Str) (c : Nat) (r : RuleD) : Prop where
  i1 : 1 ≤ r.inside.length
  i4 : r.inside.length ≤ 4
  b3 : r.back.length ≤ 3
  a3 : r.ahead.length ≤ 3
  o8 : r.out.length ≤ 8
  sets : ∀ s ∈ r.inside ++ r.back ++ r.ahead, IsSet c s
  outr : ∀ g ∈ r.out, 0 ≤ g ∧ g < (c : Int)
  ok : KindOk ks kind r
def spRuleF (K : PySem.W.Frag) : Sp := fun vs H Q _ => ∃ (r : RuleD) (ks : List Str) (kind : Str) (c : Nat) (rv kv : V), vs = [rv, .str kind, kv, .int c] ∧ RuleR K H rv r ∧ KsR H kv ks ∧ RuleV ks kind c r ∧ ∀ H', Same H H' → Q .non H'
theorem sc_rulef : FnScope ["rule", "kind", "kinds", "glyph_count", "glyphs", "glyph"] ["rule", "kind", "kinds", "glyph_count"] (defScope s_rule_fault) := ⟨rfl, rfl, rfl, by decide +kernel, rfl, by decide +kernel, by decide +kernel⟩
theorem c_rulef (T : Txt K mg) : Cal P w K mg base 3 "rule_fault" ["rule", "kind", "kinds", "glyph_count"] (spRuleF K) := by
  obtain ⟨fd, F⟩ := T.f_rule_fault
  refine cal_of F T.g_rule_fault sc_rulef (fun vs H Q E h => ?_) (fun _ _ _ _ _ _ us hl => match us, hl with | [_, _, _, _], _ => rfl) (fun cdv A outer s H vs Q E hr h => ?_)
  · obtain ⟨r, ks, kind, c, rv, kv, rfl, _⟩ := h
    rfl
  · obtain ⟨r, ks, kind, c, rv, kv, rfl, rr, hkv, ok, k⟩ := h
    obtain ⟨x, dx, iv, bv, av, ov, cv, rfl, hx, ⟨ia, ivs, rfl, hia, ip⟩, ⟨ba, bvs, rfl, hba, bp⟩, ⟨aa, avs, rfl, haa, ap⟩, ⟨oa, rfl, hoa⟩, hc⟩ := id rr
    have nd := sc_rulef.nd
    have hr1 : Room 1 _ := hr.mono (by decide)
    have i1 := ok.i1
    have i4 := ok.i4
    have b3 := ok.b3
    have a3 := ok.a3
    have o8 := ok.o8
    have li := ip.length
    have lb := bp.length
    have la := ap.length
    refine ⟨_, pss_cons (ps_if (PW.pt (pw_or (pt_not (pt_chain op_le op_le pe_int (pe_callB call_len_seq (by rfl) T.b_len boot_len (pa_cons (pe_fld (pv 0) rfl) pa_nil)) pe_int))
        (pw_or (pt_cmpR op_gt (pe_callB call_len_seq (by rfl) T.b_len boot_len (pa_cons (pe_fld (pv 0) rfl) pa_nil)) pe_int (nomark _))
        (pw_or (pt_cmpR op_gt (pe_callB call_len_seq (by rfl) T.b_len boot_len (pa_cons (pe_fld (pv 0) rfl) pa_nil)) pe_int (nomark _))
        (pw_or1 (pt_cmpR op_gt (pe_callB call_len_seq (by rfl) T.b_len boot_len (pa_cons (pe_fld (pv 0) rfl) pa_nil)) pe_int (nomark _))))))) (pss_one (ps_ret pe_str)) pss_nil)
      (pss_cons (ps_for PassesOwn.never rfl (pi_list (pe_op op_cat (pe_op op_cat (pe_fld (pv 0) rfl) (pe_fld (pv 0) rfl)) (pe_fld (pv 0) rfl))) (pg_name (i := 4) nd rfl (.inl rfl))
        (pss_one (ps_if (pt_not (pt_val (pe_cal (c_isset T) hr1 rfl (pa_cons (pv 4) (pa_cons (pv 3) pa_nil))))) (pss_one (ps_ret pe_str)) pss_nil)))
      (pss_cons (ps_if (PW.pt (pw_or (pt_val (pe_callB (cr_any rfl) (by rfl) T.b_any (by decide +kernel)
            (pa_cons (pe_lc (own := [("glyph", 5)]) (g := gName 5) (tt := tYes) (te := tNotV (tChain rLe rLt (tC (.int 0)) (tVar 5) (tVar 3))) rfl nd (pi_list (pe_fld (pv 0) rfl)) (blkOk_by (N := ["rule", "kind", "kinds", "glyph_count", "glyphs", "glyph"]) (sc := defScope s_rule_fault) (by decide +kernel))
              (fun _ _ _ _ _ => pg_name (i := 5) nd rfl (Or.inl rfl)) (fun _ _ _ _ _ => pts_nil) (fun _ _ _ _ _ => pe_not (pe_chain op_le op_lt pe_int (pv 5) (pv 3)))) pa_nil)))
          (pw_or1 (pt_not (pt_val (pe_cal (c_coord T) hr1 rfl (pa_cons (pe_fld (pv 0) rfl) pa_nil))))))) (pss_one (ps_ret pe_str)) pss_nil)
      (pss_cons (ps_if (pt_not (pt_val (pe_cal (c_fitsk T) hr rfl (pa_cons (pv 0) (pa_cons (pv 1) (pa_cons (pv 2) pa_nil)))))) (pss_one (ps_ret pe_str)) pss_nil)
      (pss_one (ps_ret pe_non))))), ?_⟩
    -- lengths
    refine ⟨_, rfl, x, _, dx, _, _, rfl, hx, T.cls_Rule, T.no_Rule_inside, rfl, ia, _, rfl, .inl (SqL.of hia), _, _, rfl, rfl, _, rfl, iteP (decide_eq_true (by omega)) ?_⟩
    refine ⟨_, _, rfl, rfl, _, rfl, ?_⟩
    have e1 : decide ((ivs.length : Int) ≤ 4) = true := decide_eq_true (by omega)
    rw [e1]
    refine iteF ⟨_, rfl, x, _, dx, _, _, rfl, hx, T.cls_Rule, T.no_Rule_back, rfl, ba, _, rfl, .inl (SqL.of hba), _, _, rfl, rfl, _, rfl, iteN (decide_eq_false (by omega)) ?_⟩
    refine ⟨_, rfl, x, _, dx, _, _, rfl, hx, T.cls_Rule, T.no_Rule_ahead, rfl, aa, _, rfl, .inl (SqL.of haa), _, _, rfl, rfl, _, rfl, iteN (decide_eq_false (by omega)) ?_⟩
    refine ⟨_, rfl, x, _, dx, _, _, rfl, hx, T.cls_Rule, T.no_Rule_out, rfl, oa, _, rfl, .inl (SqL.of hoa), _, _, rfl, rfl, _, rfl, iteN (decide_eq_false (by rw [List.length_map]; omega)) ?_⟩
    -- the sets
    refine ⟨_, rfl, x, _, dx, _, _, rfl, hx, T.cls_Rule, T.no_Rule_inside, rfl, ?_⟩
    refine ⟨_, rfl, x, _, dx, _, _, rfl, hx, T.cls_Rule, T.no_Rule_back, rfl, ia, ba, ivs, bvs, rfl, rfl, hia, hba, len_small' (by omega), fun p1 n1 => ?_⟩
    have s1 : Same H (upd H p1 (.lst (ivs ++ bvs))) := same_upd n1
    refine ⟨_, rfl, x, _, dx, _, _, rfl, s1 _ _ hx, T.cls_Rule, T.no_Rule_ahead, rfl, p1, aa, _, avs, rfl, rfl, upd_same, s1 _ _ haa, len_small' (by rw [List.length_append]; omega), fun p2 n2 => ?_⟩
    have s2 : Same H (upd (upd H p1 (.lst (ivs ++ bvs))) p2 (.lst (ivs ++ bvs ++ avs))) := s1.trans (same_upd n2)
    have all3 := paired_app (paired_app ip bp) ap
    refine ⟨p2, rfl, ⟨_, SqL.of upd_same⟩, ?_⟩
    refine for_list (K := K) (a := p2) (xs := ivs ++ bvs ++ avs) (fun i σ H1 => ∃ y4 : Option V, σ = [some (.ref x), some (.str kind), some kv, some (.int c), y4, none] ∧ Same (upd (upd H p1 (.lst (ivs ++ bvs))) p2 (.lst (ivs ++ bvs ++ avs))) H1)
      ⟨none, rfl, Same.refl _⟩ (fun i σ H1 _ ⟨_, _, sm⟩ => SqL.of (sm _ _ upd_same)) ?_ ?_
    · rintro i xv σ H1 hxi ⟨y4, rfl, sm⟩
      obtain ⟨ss, hs, is⟩ := paired_getL all3 hxi
      refine ⟨_, rfl, _, rfl, ss, c, xv, rfl, Mono.mono (s2.trans sm) is, ok.sets ss (mem_at hs), fun H2 s3 => ?_⟩
      exact ⟨_, rfl, iteF ⟨_, rfl, sm.trans s3⟩⟩
    rintro σ H1 ⟨y4, rfl, sm⟩
    have sH : Same H H1 := s2.trans sm
    clear sm
    -- out and extra
    refine ⟨_, rfl, x, _, dx, _, _, rfl, sH _ _ hx, T.cls_Rule, T.no_Rule_out, rfl, oa, rfl, ⟨_, SqL.of (sH _ _ hoa)⟩, fun D hD => lc_map (K := K) (a := oa) (xs := r.out.map V.int) BL [] (List.replicate r.out.length false) (fun b hb => absurd hb List.not_mem_nil) hD (SqL.of (sH _ _ hoa)) (by rw [List.length_map, List.length_replicate])
      (by rw [List.length_map]; exact len_small (by omega)) ?_ fun H2 s2 _ q => ?_⟩
    · intro j jv bv2 H2 hj hb2 s2 _ hth Q2 kQ
      obtain ⟨n, hn, rfl⟩ := int_at hj
      have hb3 := ok.outr n (mem_at hn)
      obtain rfl : false = bv2 := by
        rw [List.getElem?_replicate] at hb2
        split at hb2
        · exact Option.some.inj hb2
        · cases hb2
      refine ⟨rfl, _, rfl, _, _, rfl, rfl, _, rfl, iteP (decide_eq_true hb3.1) ?_⟩
      refine ⟨_, rfl, _, _, rfl, rfl, _, rfl, ?_⟩
      have e : decide (n < (c : Int)) = true := decide_eq_true hb3.2
      rw [e]
      exact kQ _ _ (Same.refl _) rfl
    obtain ⟨a, ea, hal⟩ := (Mono.mono cut_same q : Ls BL H2 _ _).bl
    have s3 := sH.trans s2
    refine ⟨a, _, by rw [ea], SqL.of hal, _, rfl, iteN (by rw [any_false]) ?_⟩
    refine ⟨_, rfl, x, _, dx, _, _, rfl, s3 _ _ hx, T.cls_Rule, T.no_Rule_extra, rfl, rfl, ?_⟩
    refine ⟨_, rfl, iteF ?_⟩
    refine ⟨_, rfl, _, rfl, _, rfl, r, ks, kind, .ref x, kv, rfl, Mono.mono s3 rr, Mono.mono s3 hkv, ok.ok, fun H4 s4 => ⟨_, rfl, iteF ?_⟩⟩
    exact k _ (s3.trans s4)
def LookV (ks : List Str) (c : Nat) (l : LkD) : Prop := l.rules.length ≤ 12 ∧ l.kind ∈ (["single", "multiple", "ligature", "chain", "reverse"] : List Str) ∧ ∀ r ∈ l.rules, RuleV ks l.kind c r
theorem kinds_eq : kindsD.map (He.Dv.v K) = [V.str "single", V.str "multiple", V.str "ligature", V.str "chain", V.str "reverse", V.str "pair", V.str "cursive", V.str "marks"] := rfl
theorem kinds_in {k : Str} (h : k ∈ (["single", "multiple", "ligature", "chain", "reverse"] : List Str)) : inV (.str k) (kindsD.map (He.Dv.v K)) = true := by
  simp only [List.mem_cons, List.not_mem_nil, or_false] at h
  rw [kinds_eq]
  rcases h with rfl | rfl | rfl | rfl | rfl <;> decide +kernel
theorem kinds_flat : (kindsD.map (He.Dv.v K)).all flatV = true := by
  rw [kinds_eq]
  decide +kernel
def spLookF (K : PySem.W.Frag) : Sp := fun vs H Q _ => ∃ (l : LkD) (ks : List Str) (c : Nat) (lv kv : V), vs = [lv, kv, .int c] ∧ LookR K H lv l ∧ KsR H kv ks ∧ LookV ks c l ∧ ∀ H', Same H H' → Q .non H'
theorem sc_lookf : FnScope ["lookup", "kinds", "glyph_count", "rule", "reason"] ["lookup", "kinds", "glyph_count"] (defScope s_lookup_fault) := ⟨rfl, rfl, rfl, by decide +kernel, rfl, by decide +kernel, by decide +kernel⟩
theorem c_lookf (T : Txt K mg) : Cal P w K mg base 4 "lookup_fault" ["lookup", "kinds", "glyph_count"] (spLookF K) := by
  obtain ⟨fd, F⟩ := T.f_lookup_fault
  refine cal_of F T.g_lookup_fault sc_lookf (fun vs H Q E h => ?_) (fun _ _ _ _ _ _ us hl => match us, hl with | [_, _, _], _ => rfl) (fun cdv A outer s H vs Q E hr h => ?_)
  · obtain ⟨l, ks, c, lv, kv, rfl, _⟩ := h
    rfl
  · obtain ⟨l, ks, c, lv, kv, rfl, ⟨x, dx, rl, rfl, hx, ⟨ra, rvs, rfl, hra, rp⟩⟩, hkv, ⟨o1, o2, o3⟩, k⟩ := h
    have nd := sc_lookf.nd
    have lr := rp.length
    refine ⟨_, pss_cons (ps_if (pt_cmpR op_notIn_seq (pe_fld (pv 0) rfl) (pe_glob (v := .ref (He.ga K "KINDS")) (by rfl) T.g_KINDS rfl) (by rfl)) (pss_one (ps_ret pe_str)) pss_nil)
      (pss_cons (ps_if (pt_cmpR op_gt (pe_callB call_len_seq (by rfl) T.b_len boot_len (pa_cons (pe_fld (pv 0) rfl) pa_nil)) pe_int (nomark _)) (pss_one (ps_ret pe_str)) pss_nil)
      (pss_cons (ps_for PassesOwn.never rfl (pi_list (pe_fld (pv 0) rfl)) (pg_name (i := 3) nd rfl (.inl rfl))
        (pss_cons (ps_set (i := 4) nd rfl (.inl rfl) (pe_cal (c_rulef T) hr rfl (pa_cons (pv 3) (pa_cons (pe_fld (pv 0) rfl) (pa_cons (pv 1) (pa_cons (pv 2) pa_nil))))))
        (pss_one (ps_if (pt_cmpR op_notN (pv 4) pe_non (nomark _)) (pss_one (ps_ret (pv 4))) pss_nil))))
      (pss_one (ps_ret pe_non)))), ?_⟩
    refine ⟨_, rfl, x, _, dx, _, _, rfl, hx, T.cls_Lookup, T.no_Lookup_kind, rfl, He.ga K "KINDS", _, rfl, .inr (T.kinds H), rfl, kinds_flat, _, rfl, iteN ?_ ?_⟩
    · show (!inV (.str l.kind) (kindsD.map (He.Dv.v K))) = false
      rw [kinds_in o2]
      rfl
    refine ⟨_, rfl, x, _, dx, _, _, rfl, hx, T.cls_Lookup, T.no_Lookup_rules, rfl, ra, _, rfl, .inl (SqL.of hra), _, _, rfl, rfl, _, rfl, iteN (decide_eq_false (by omega)) ?_⟩
    refine ⟨_, rfl, x, _, dx, _, _, rfl, hx, T.cls_Lookup, T.no_Lookup_rules, rfl, ra, rfl, ⟨_, SqL.of hra⟩, ?_⟩
    refine for_list (K := K) (a := ra) (xs := rvs) (fun i σ H1 => ∃ y3 y4 : Option V, σ = [some (.ref x), some kv, some (.int c), y3, y4] ∧ Same H H1)
      ⟨none, none, rfl, Same.refl _⟩ (fun i σ H1 _ ⟨_, _, _, sm⟩ => SqL.of (sm _ _ hra)) ?_ ?_
    · rintro i xv σ H1 hxi ⟨y3, y4, rfl, sm⟩
      obtain ⟨r, hr', rr⟩ := paired_getL rp hxi
      refine ⟨_, rfl, _, rfl, x, _, dx, _, _, rfl, sm _ _ hx, T.cls_Lookup, T.no_Lookup_kind, rfl, _, rfl, _, rfl, r, ks, l.kind, c, xv, kv, rfl, Mono.mono sm rr, Mono.mono sm hkv, o3 r (List.mem_of_getElem? hr'), fun H2 s2 => ?_⟩
      refine ⟨_, rfl, rfl, _, rfl, iteN rfl ⟨_, _, rfl, sm.trans s2⟩⟩
    · rintro σ H1 ⟨y3, y4, rfl, sm⟩
      exact k _ sm
end
end K26


set_option maxHeartbeats 4000000
namespace K26
open PySem PySem.Spec PyProof.Rows L2
/-! ### a font's own checks -/
theorem js_g : ∀ i : Nat, i < 64 → ((Str.empty ++ ("glyph " : Str)) ++ ((toString (i : Int) : String) : Str)).length ≤ 100 ∧ (Str.empty ++ ("glyph " : Str)).length ≤ 100 ∧ (i : Int).natAbs.log2 < 1920 := by decide +kernel
theorem js_l : ∀ i : Nat, i < 64 → ((Str.empty ++ ("lookup " : Str)) ++ ((toString (i : Int) : String) : Str)).length ≤ 100 ∧ (Str.empty ++ ("lookup " : Str)).length ≤ 100 := by decide +kernel
def STR : Rp Str := fun _ v s => v = .str s
instance : Mono STR := ⟨fun _ h => h⟩
theorem pair_str {H : Hp} : ∀ {vs : List V} {ns : List Str}, Paired (STR H) vs ns → vs = ns.map V.str
  | _, _, .nil => rfl
  | _, _, .cons h t => by
    have h' : _ = _ := h
    rw [List.map_cons, ← pair_str t, h']
theorem Ls.str {H : Hp} {v : V} {ks : List Str} (h : Ls STR H v ks) : KsR H v ks := by
  obtain ⟨a, vs, e, h, p⟩ := h
  exact ⟨a, e, by rw [← pair_str p]; exact h⟩
/-- a whole font at x, with its empty parts -/
def FontC (K : PySem.W.Frag) (H : Hp) (x : Addr) (f : FontD) : Prop := ∃ (dx : Addr) (g l : V) (ch fe ax re fu pr : Addr), H x = some (.ins (cFont K) dx (foF g ch l fe ax re fu pr)) ∧ Ls (GlyphR K) H g f.gls ∧ Ls (LookR K) H l f.lks ∧
  H ch = some (.lst []) ∧ H fe = some (.lst []) ∧ H ax = some (.lst []) ∧ H re = some (.lst []) ∧ H fu = some (.lst []) ∧ H pr = some (.lst [])
theorem FontC.mono {K : PySem.W.Frag} {H H' : Hp} {x : Addr} {f : FontD} (s : Same H H') (h : FontC K H x f) : FontC K H' x f := by
  obtain ⟨dx, g, l, ch, fe, ax, re, fu, pr, h0, h1, h2, h3, h4, h5, h6, h7, h8⟩ := h
  exact ⟨dx, g, l, ch, fe, ax, re, fu, pr, s _ _ h0, Mono.mono s h1, Mono.mono s h2, s _ _ h3, s _ _ h4, s _ _ h5, s _ _ h6, s _ _ h7, s _ _ h8⟩
structure FontV (f : FontD) : Prop where
  g1 : 1 ≤ f.gls.length
  g60 : f.gls.length ≤ 60
  adv : ∀ g ∈ f.gls, 0 ≤ g.1 ∧ g.1 ≤ 16384
  l20 : f.lks.length ≤ 20
  lks : ∀ l ∈ f.lks, LookV (f.lks.map (·.kind)) f.gls.length l
section
variable {P : Program} {w : World} {K : PySem.W.Frag} {mg : Str → Option Value} {base : Heap}
def spRefuse : Sp := fun vs H Q _ => ∃ (x : Addr) (p : Str), vs = [.ref x, .str p, .non] ∧ Q .non H
abbrev psRefuse : List Str := ["self", "place", "reason"]
theorem sc_refuse : FnScope psRefuse psRefuse (defScope s_Font_refuse) := ⟨rfl, rfl, rfl, by decide +kernel, rfl, by decide +kernel, by decide +kernel⟩
theorem ok_refuse (T : Txt K mg) {fd : FuncData} (F : Fn K "refuse" "Font.refuse" s_Font_refuse [] (He.ma K (He.ga K "Font") "refuse") fd) : FnOk P w K mg base CX0 1 (He.ma K (He.ga K "Font") "refuse") fd psRefuse spRefuse := by
  refine fn_ok F sc_refuse (fun vs H Q E h => ?_) (fun cdv A outer s H vs Q E hr h => ?_)
  · obtain ⟨x, p, rfl, _⟩ := h
    rfl
  · obtain ⟨x, p, rfl, k⟩ := h
    refine ⟨_, pss_one (ps_if (pt_cmpR op_notN (pv 2) pe_non (nomark _)) (pss_one ps_never) pss_nil), ?_⟩
    exact ⟨_, rfl, rfl, _, rfl, iteN rfl k⟩
def spChk (K : PySem.W.Frag) : Sp := fun vs H Q _ => ∃ (f : FontD) (x : Addr), vs = [.ref x] ∧ FontC K H x f ∧ FontV f ∧ ∀ H', Same H H' → Q .non H'
theorem sc_cg : FnScope ["self", "number", "glyph"] ["self"] (defScope s_Font_check_glyphs) := ⟨rfl, rfl, rfl, by decide +kernel, rfl, by decide +kernel, by decide +kernel⟩
theorem ok_cg (T : Txt K mg) {fd : FuncData} (F : Fn K "check_glyphs" "Font.check_glyphs" s_Font_check_glyphs [] (He.ma K (He.ga K "Font") "check_glyphs") fd) : FnOk P w K mg base CX0 4 (He.ma K (He.ga K "Font") "check_glyphs") fd ["self"] (spChk K) := by
  obtain ⟨fdR, FR⟩ := T.f_Font_refuse
  have bR : Binds K fdR psRefuse [] := FR.bindsN (fun _ _ _ _ _ _ us hl => match us, hl with | [_, _, _], _ => rfl)
  refine fn_ok F sc_cg (fun vs H Q E h => ?_) (fun cdv A outer s H vs Q E hr h => ?_)
  · obtain ⟨f, x, rfl, _⟩ := h
    rfl
  · obtain ⟨f, x, rfl, ⟨dx, g, l, ch, fe, ax, re, fu, pr, hx, ⟨ga, gvs, rfl, hga, gp⟩, hl, hch, hfe, hax, hre, hfu, hpr⟩, ok, k⟩ := h
    have nd := sc_cg.nd
    have hr1 : Room 1 _ := hr.mono (by decide)
    have hr2 : Room 2 _ := hr.mono (by decide)
    obtain ⟨t1, c1⟩ := T.c_MOST_GLYPHS
    have lg := gp.length
    have g1 := ok.g1
    have g60 := ok.g60
    refine ⟨_, pss_cons (ps_if (pt_not (pt_chain op_le op_le pe_int (pe_fld (pv 0) rfl) pe_int)) (pss_one ps_never) pss_nil)
      (pss_cons (ps_if (pt_not (pt_chain op_le op_le pe_int (pe_callB call_len_seq (by rfl) T.b_len boot_len (pa_cons (pe_fld (pv 0) rfl) pa_nil)) (pe_glob (v := .int 60) (by rfl) c1 ⟨_, rfl⟩))) (pss_one ps_never) pss_nil)
      (pss_cons (ps_for PassesOwn.never rfl (pi_enum (by rfl) T.b_enumerate (pa_cons (pe_fld (pv 0) rfl) pa_nil)) (pg_tup rfl (pgs_cons (pg_name (i := 1) nd rfl (.inl rfl)) (pgs_cons (pg_name (i := 2) nd rfl (.inl rfl)) pgs_nil)))
        (pss_one (ps_expr (pe_meth (pv 0) T.cls_Font T.me_Font_refuse (ok_refuse T FR) hr1 bR .nil pass0 (pa_cons (pe_joined (.cons pe_str (.cons (pe_fmt (pv 1)) .nil)))
          (pa_cons (pe_cal (c_gf T) hr rfl (pa_cons (pv 2) (pa_cons (pe_callB call_len_seq (by rfl) T.b_len boot_len (pa_cons (pe_fld (pv 0) rfl) pa_nil)) (pa_cons (pe_callB call_len_seq (by rfl) T.b_len boot_len (pa_cons (pe_fld (pv 0) rfl) pa_nil)) pa_nil)))) pa_nil))))))
      (pss_cons (ps_expr (pe_meth (pv 0) T.cls_Font T.me_Font_refuse (ok_refuse T FR) hr1 bR .nil pass0 (pa_cons pe_str (pa_cons (pe_cal (c_parts T) hr2 rfl (pa_cons (pe_fld (pv 0) rfl) pa_nil)) pa_nil))))
      (pss_one (ps_expr (pe_meth (pv 0) T.cls_Font T.me_Font_refuse (ok_refuse T FR) hr1 bR .nil pass0 (pa_cons pe_str (pa_cons (pe_cal (c_chars T) hr1 rfl (pa_cons (pe_fld (pv 0) rfl) (pa_cons (pe_callB call_len_seq (by rfl) T.b_len boot_len (pa_cons (pe_fld (pv 0) rfl) pa_nil)) pa_nil))) pa_nil)))))))), ?_⟩
    refine ⟨_, rfl, x, _, dx, _, _, rfl, hx, T.cls_Font, T.no_Font_unit, rfl, _, _, rfl, rfl, _, rfl, iteP (by decide) ⟨_, _, rfl, rfl, _, rfl, iteN (by decide) ?_⟩⟩
    refine ⟨_, rfl, x, _, dx, _, _, rfl, hx, T.cls_Font, T.no_Font_glyphs, rfl, ga, _, rfl, .inl (SqL.of hga), _, _, rfl, rfl, _, rfl, iteP (decide_eq_true (by omega)) ⟨_, _, rfl, rfl, _, rfl, ?_⟩⟩
    have e1 : decide ((gvs.length : Int) ≤ 60) = true := decide_eq_true (by omega)
    rw [e1]
    refine iteF ⟨_, rfl, x, _, dx, _, _, rfl, hx, T.cls_Font, T.no_Font_glyphs, rfl, ga, _, rfl, SqL.of hga, ?_⟩
    refine for_enum (K := K) (a := ga) (xs := gvs) (fun i σ H1 => ∃ y1 y2 : Option V, σ = [some (.ref x), y1, y2] ∧ Same H H1) ⟨none, none, rfl, Same.refl _⟩ (fun i σ H1 ⟨_, _, _, sm⟩ => SqL.of (sm _ _ hga)) ?_ ?_
    · rintro j jv u σ H3 hj ⟨y1, y2, rfl, sm3⟩ nu
      have s4 : Same H (upd H3 u (.tup [V.int (j : Nat), jv])) := sm3.trans (same_upd nu)
      obtain ⟨gg, hgg, gr⟩ := paired_getL gp hj
      have jl : j < 64 := by
        have := (List.getElem?_eq_some_iff.mp hj).1
        omega
      obtain ⟨j1, j2, j3⟩ := js_g j jl
      obtain ⟨a1, a2⟩ := ok.adv gg (List.mem_of_getElem? hgg)
      refine ⟨u, _, rfl, SqT.of upd_same, rfl, _, _, rfl, _, _, rfl, rfl, ?_⟩
      refine ⟨_, rfl, x, dx, _, rfl, s4 _ _ hx, rfl, _, rfl, len_small' (Nat.le_trans j2 (by decide)), _, rfl, .inr ⟨_, rfl, j3, _, rfl, len_small' (Nat.le_trans j1 (by decide)), ?_⟩⟩
      refine ⟨_, rfl, _, rfl, x, _, dx, _, _, rfl, s4 _ _ hx, T.cls_Font, T.no_Font_glyphs, rfl, ga, _, rfl, .inl (SqL.of (s4 _ _ hga)), ?_⟩
      refine ⟨_, rfl, x, _, dx, _, _, rfl, s4 _ _ hx, T.cls_Font, T.no_Font_regions, rfl, re, _, rfl, .inl (SqL.of (s4 _ _ hre)), ?_⟩
      refine ⟨gg, gvs.length, 0, jv, rfl, Mono.mono s4 gr, a1, a2, fun H5 s5 => ?_⟩
      exact ⟨x, _, rfl, _, _, rfl, s4.trans s5⟩
    · rintro σ H1 ⟨y1, y2, rfl, sm⟩
      refine ⟨_, rfl, x, dx, _, rfl, sm _ _ hx, rfl, ?_⟩
      refine ⟨_, rfl, x, _, dx, _, _, rfl, sm _ _ hx, T.cls_Font, T.no_Font_glyphs, rfl, f.gls, .ref ga, rfl, ⟨ga, gvs, rfl, sm _ _ hga, pair_mono sm gp⟩, g1, by omega, fun H2 s2 => ?_⟩
      have s12 := sm.trans s2
      refine ⟨x, _, rfl, ?_⟩
      refine ⟨_, rfl, x, dx, _, rfl, s12 _ _ hx, rfl, ?_⟩
      refine ⟨_, rfl, x, _, dx, _, _, rfl, s12 _ _ hx, T.cls_Font, T.no_Font_chars, rfl, _, rfl, x, _, dx, _, _, rfl, s12 _ _ hx, T.cls_Font, T.no_Font_glyphs, rfl, ga, _, rfl, .inl (SqL.of (s12 _ _ hga)), ?_⟩
      refine ⟨ch, gvs.length, rfl, s12 _ _ hch, fun H3 s3 => ⟨x, _, rfl, ?_⟩⟩
      exact k _ (s12.trans s3)
theorem sc_cl : FnScope ["self", "lookup", "kinds", "number"] ["self"] (defScope s_Font_check_lookups) := ⟨rfl, rfl, rfl, by decide +kernel, rfl, by decide +kernel, by decide +kernel⟩
theorem ok_cl (T : Txt K mg) {fd : FuncData} (F : Fn K "check_lookups" "Font.check_lookups" s_Font_check_lookups [] (He.ma K (He.ga K "Font") "check_lookups") fd) : FnOk P w K mg base CX0 5 (He.ma K (He.ga K "Font") "check_lookups") fd ["self"] (spChk K) := by
  obtain ⟨fdR, FR⟩ := T.f_Font_refuse
  have bR : Binds K fdR psRefuse [] := FR.bindsN (fun _ _ _ _ _ _ us hl => match us, hl with | [_, _, _], _ => rfl)
  refine fn_ok F sc_cl (fun vs H Q E h => ?_) (fun cdv A outer s H vs Q E hr h => ?_)
  · obtain ⟨f, x, rfl, _⟩ := h
    rfl
  · obtain ⟨f, x, rfl, ⟨dx, g, l, ch, fe, ax, re, fu, pr, hx, ⟨ga, gvs, rfl, hga, gp⟩, ⟨la, lvs, rfl, hla, lp⟩, hch, hfe, hax, hre, hfu, hpr⟩, ok, k⟩ := h
    have nd := sc_cl.nd
    have hr1 : Room 1 _ := hr.mono (by decide)
    obtain ⟨t1, c1⟩ := T.c_MOST_LOOKUPS
    obtain ⟨t2, c2⟩ := T.c_MOST_FEATURES
    have ll := lp.length
    have lg := gp.length
    have l20 := ok.l20
    refine ⟨_, pss_cons (ps_if (pt_cmpR op_gt (pe_callB call_len_seq (by rfl) T.b_len boot_len (pa_cons (pe_fld (pv 0) rfl) pa_nil)) (pe_glob (v := .int 20) (by rfl) c1 ⟨_, rfl⟩) (nomark _)) (pss_one ps_never) pss_nil)
      (pss_cons (ps_setLc (i := 2) (own := [("lookup", 1)]) (g := gName 1) (tt := tYes) (te := tFld K (tVar 1) "kind") rfl nd rfl rfl (sw_true rfl rfl rfl (by decide +kernel)) (pi_list (pe_fld (pv 0) rfl)) (blkOk_by (N := ["self", "lookup", "kinds", "number"]) (sc := defScope s_Font_check_lookups) (by decide +kernel))
          (fun _ _ _ _ _ => pg_name (i := 1) nd rfl (Or.inl rfl)) (fun _ _ _ _ _ => pts_nil) (fun _ _ _ _ _ => pe_fld (pv 1) rfl))
      (pss_cons (ps_for PassesOwn.never rfl (pi_enum (by rfl) T.b_enumerate (pa_cons (pe_fld (pv 0) rfl) pa_nil)) (pg_tup rfl (pgs_cons (pg_name (i := 3) nd rfl (.inl rfl)) (pgs_cons (pg_name (i := 1) nd rfl (.inl rfl)) pgs_nil)))
        (pss_one (ps_expr (pe_meth (pv 0) T.cls_Font T.me_Font_refuse (ok_refuse T FR) hr1 bR .nil pass0 (pa_cons (pe_joined (.cons pe_str (.cons (pe_fmt (pv 3)) .nil)))
          (pa_cons (pe_cal (c_lookf T) hr rfl (pa_cons (pv 1) (pa_cons (pv 2) (pa_cons (pe_callB call_len_seq (by rfl) T.b_len boot_len (pa_cons (pe_fld (pv 0) rfl) pa_nil)) pa_nil)))) pa_nil))))))
      (pss_cons (ps_if (pt_cmpR op_gt (pe_callB call_len_seq (by rfl) T.b_len boot_len (pa_cons (pe_fld (pv 0) rfl) pa_nil)) (pe_glob (v := .int 12) (by rfl) c2 ⟨_, rfl⟩) (nomark _)) (pss_one ps_never) pss_nil)
      (pss_one (ps_expr (pe_meth (pv 0) T.cls_Font T.me_Font_refuse (ok_refuse T FR) hr1 bR .nil pass0 (pa_cons pe_str (pa_cons (pe_cal (c_feature T) hr1 rfl (pa_cons (pe_fld (pv 0) rfl) (pa_cons (pe_callB call_len_seq (by rfl) T.b_len boot_len (pa_cons (pe_fld (pv 0) rfl) pa_nil)) pa_nil))) pa_nil)))))))), ?_⟩
    refine ⟨_, rfl, x, _, dx, _, _, rfl, hx, T.cls_Font, T.no_Font_lookups, rfl, la, _, rfl, .inl (SqL.of hla), _, _, rfl, rfl, _, rfl, iteN (decide_eq_false (by omega)) ?_⟩
    -- kinds
    refine ⟨_, rfl, x, _, dx, _, _, rfl, hx, T.cls_Font, T.no_Font_lookups, rfl, la, rfl, ⟨_, SqL.of hla⟩, fun D hD => lc_map (K := K) (a := la) (xs := lvs) STR [] (f.lks.map (·.kind)) (fun b hb => absurd hb List.not_mem_nil) hD (SqL.of hla) (by rw [List.length_map]; exact ll) (len_small (by omega)) ?_ fun H1 s1 _ r1 => ?_⟩
    · intro j xv yv H2 hxj hyj s2 _ hth Q2 kQ
      obtain ⟨lk, hlk, ⟨z, dz, r, rfl, hz, hr'⟩⟩ := paired_getL lp hxj
      refine ⟨rfl, _, rfl, z, _, dz, _, _, rfl, s2 _ _ hz, T.cls_Lookup, T.no_Lookup_kind, rfl, kQ _ _ (Same.refl _) ?_⟩
      rw [List.getElem?_map, hlk] at hyj
      have e := Option.some.inj hyj
      rw [← e]
      exact rfl
    have hks : KsR H1 (.ref D) (f.lks.map (·.kind)) := Mono.mono cut_same (Ls.str r1)
    refine ⟨_, rfl, x, _, dx, _, _, rfl, s1 _ _ hx, T.cls_Font, T.no_Font_lookups, rfl, la, _, rfl, SqL.of (s1 _ _ hla), ?_⟩
    refine for_enum (K := K) (a := la) (xs := lvs) (fun i σ H2 => ∃ y1 y3 : Option V, σ = [some (.ref x), y1, some (.ref D), y3] ∧ Same H1 H2) ⟨none, none, rfl, Same.refl _⟩ (fun i σ H2 ⟨_, _, _, sm⟩ => SqL.of (sm _ _ (s1 _ _ hla))) ?_ ?_
    · rintro j jv u σ H3 hj ⟨y1, y3, rfl, sm3⟩ nu
      have s34 : Same H1 (upd H3 u (.tup [V.int (j : Nat), jv])) := sm3.trans (same_upd nu)
      have s4 := s1.trans s34
      obtain ⟨lk, hlk, lr⟩ := paired_getL lp hj
      have jl : j < 64 := by
        have := (List.getElem?_eq_some_iff.mp hj).1
        omega
      obtain ⟨j1, j2⟩ := js_l j jl
      obtain ⟨_, _, j3⟩ := js_g j jl
      refine ⟨u, _, rfl, SqT.of upd_same, rfl, _, _, rfl, _, _, rfl, rfl, ?_⟩
      refine ⟨_, rfl, x, dx, _, rfl, s4 _ _ hx, rfl, _, rfl, len_small' (Nat.le_trans j2 (by decide)), _, rfl, .inr ⟨_, rfl, j3, _, rfl, len_small' (Nat.le_trans j1 (by decide)), ?_⟩⟩
      refine ⟨_, rfl, _, rfl, _, rfl, x, _, dx, _, _, rfl, s4 _ _ hx, T.cls_Font, T.no_Font_glyphs, rfl, ga, _, rfl, .inl (SqL.of (s4 _ _ hga)), ?_⟩
      refine ⟨lk, f.lks.map (·.kind), gvs.length, jv, .ref D, rfl, Mono.mono s4 lr, Mono.mono s34 hks, by rw [lg]; exact ok.lks lk (List.mem_of_getElem? hlk), fun H5 s5 => ?_⟩
      exact ⟨x, _, rfl, _, _, rfl, s34.trans s5⟩
    · rintro σ H2 ⟨y1, y3, rfl, sm⟩
      have s2 := s1.trans sm
      refine ⟨_, rfl, x, _, dx, _, _, rfl, s2 _ _ hx, T.cls_Font, T.no_Font_features, rfl, fe, _, rfl, .inl (SqL.of (s2 _ _ hfe)), _, _, rfl, rfl, _, rfl, iteN (by decide) ?_⟩
      refine ⟨_, rfl, x, dx, _, rfl, s2 _ _ hx, rfl, ?_⟩
      refine ⟨_, rfl, x, _, dx, _, _, rfl, s2 _ _ hx, T.cls_Font, T.no_Font_features, rfl, _, rfl, x, _, dx, _, _, rfl, s2 _ _ hx, T.cls_Font, T.no_Font_lookups, rfl, la, _, rfl, .inl (SqL.of (s2 _ _ hla)), ?_⟩
      refine ⟨fe, lvs.length, rfl, s2 _ _ hfe, fun H3 s3 => ⟨x, _, rfl, ?_⟩⟩
      exact k _ (s2.trans s3)
theorem sc_cr : FnScope ["self", "instructions", "value"] ["self"] (defScope s_Font_check_rest) := ⟨rfl, rfl, rfl, by decide +kernel, rfl, by decide +kernel, by decide +kernel⟩
theorem ok_cr (T : Txt K mg) {fd : FuncData} (F : Fn K "check_rest" "Font.check_rest" s_Font_check_rest [] (He.ma K (He.ga K "Font") "check_rest") fd) : FnOk P w K mg base CX0 2 (He.ma K (He.ga K "Font") "check_rest") fd ["self"] (spChk K) := by
  obtain ⟨fdR, FR⟩ := T.f_Font_refuse
  have bR : Binds K fdR psRefuse [] := FR.bindsN (fun _ _ _ _ _ _ us hl => match us, hl with | [_, _, _], _ => rfl)
  refine fn_ok F sc_cr (fun vs H Q E h => ?_) (fun cdv A outer s H vs Q E hr h => ?_)
  · obtain ⟨f, x, rfl, _⟩ := h
    rfl
  · obtain ⟨f, x, rfl, ⟨dx, g, l, ch, fe, ax, re, fu, pr, hx, hg, hl, hch, hfe, hax, hre, hfu, hpr⟩, ok, k⟩ := h
    have nd := sc_cr.nd
    obtain ⟨t1, c1⟩ := T.c_MOST_AXES
    obtain ⟨t2, c2⟩ := T.c_MOST_REGIONS
    obtain ⟨t3, c3⟩ := T.c_MOST_FUNCTIONS
    obtain ⟨t4, c4⟩ := T.c_MOST_VALUES
    refine ⟨_, pss_cons (ps_if (pt_cmpR op_gt (pe_callB call_len_seq (by rfl) T.b_len boot_len (pa_cons (pe_fld (pv 0) rfl) pa_nil)) (pe_glob (v := .int 3) (by rfl) c1 ⟨_, rfl⟩) (nomark _)) (pss_one ps_never) pss_nil)
      (pss_cons (ps_expr (pe_meth (pv 0) T.cls_Font T.me_Font_refuse (ok_refuse T FR) hr bR .nil pass0 (pa_cons pe_str (pa_cons (pe_cal (c_axis T) hr rfl (pa_cons (pe_fld (pv 0) rfl) pa_nil)) pa_nil))))
      (pss_cons (ps_if (pt_cmpR op_gt (pe_callB call_len_seq (by rfl) T.b_len boot_len (pa_cons (pe_fld (pv 0) rfl) pa_nil)) (pe_glob (v := .int 8) (by rfl) c2 ⟨_, rfl⟩) (nomark _)) (pss_one ps_never) pss_nil)
      (pss_cons (ps_expr (pe_meth (pv 0) T.cls_Font T.me_Font_refuse (ok_refuse T FR) hr bR .nil pass0 (pa_cons pe_str (pa_cons (pe_cal (c_region T) hr rfl (pa_cons (pe_fld (pv 0) rfl) (pa_cons (pe_callB call_len_seq (by rfl) T.b_len boot_len (pa_cons (pe_fld (pv 0) rfl) pa_nil)) pa_nil))) pa_nil))))
      (pss_cons (ps_if (pt_cmpR op_gt (pe_callB call_len_seq (by rfl) T.b_len boot_len (pa_cons (pe_fld (pv 0) rfl) pa_nil)) (pe_glob (v := .int 12) (by rfl) c3 ⟨_, rfl⟩) (nomark _)) (pss_one ps_never) pss_nil)
      (pss_cons (ps_for PassesOwn.never rfl (pi_list (pe_fld (pv 0) rfl)) pgN pss_never)
      (pss_one (ps_if (PW.pt (pw_or (pt_cmpR op_gt (pe_callB call_len_seq (by rfl) T.b_len boot_len (pa_cons (pe_fld (pv 0) rfl) pa_nil)) (pe_glob (v := .int 32) (by rfl) c4 ⟨_, rfl⟩) (nomark _))
        (pw_or1 (pt_val (pe_callB (cr_any rfl) (by rfl) T.b_any (by decide +kernel) (pa_cons (pe_lc (own := [("value", 2)]) (g := gNever) (tt := tYes) (te := eNever) rfl nd (pi_list (pe_fld (pv 0) rfl)) (blkOk_by (N := ["self", "instructions", "value"]) (sc := defScope s_Font_check_rest) (by decide +kernel))
          (fun _ _ _ _ _ => pgN) (fun _ _ _ _ _ => pts_nil) (fun _ _ _ _ _ => peN)) pa_nil)))))) (pss_one ps_never) pss_nil))))))), ?_⟩
    refine ⟨_, rfl, x, _, dx, _, _, rfl, hx, T.cls_Font, T.no_Font_axes, rfl, ax, _, rfl, .inl (SqL.of hax), _, _, rfl, rfl, _, rfl, iteN (by decide) ?_⟩
    refine ⟨_, rfl, x, dx, _, rfl, hx, rfl, ?_⟩
    refine ⟨_, rfl, x, _, dx, _, _, rfl, hx, T.cls_Font, T.no_Font_axes, rfl, ax, rfl, hax, x, _, rfl, ?_⟩
    refine ⟨_, rfl, x, _, dx, _, _, rfl, hx, T.cls_Font, T.no_Font_regions, rfl, re, _, rfl, .inl (SqL.of hre), _, _, rfl, rfl, _, rfl, iteN (by decide) ?_⟩
    refine ⟨_, rfl, x, dx, _, rfl, hx, rfl, ?_⟩
    refine ⟨_, rfl, x, _, dx, _, _, rfl, hx, T.cls_Font, T.no_Font_regions, rfl, _, rfl, x, _, dx, _, _, rfl, hx, T.cls_Font, T.no_Font_axes, rfl, ax, _, rfl, .inl (SqL.of hax), ?_⟩
    refine ⟨re, 0, rfl, hre, fun H1 s1 => ⟨x, _, rfl, ?_⟩⟩
    refine ⟨_, rfl, x, _, dx, _, _, rfl, s1 _ _ hx, T.cls_Font, T.no_Font_functions, rfl, fu, _, rfl, .inl (SqL.of (s1 _ _ hfu)), _, _, rfl, rfl, _, rfl, iteN (by decide) ?_⟩
    refine ⟨_, rfl, x, _, dx, _, _, rfl, s1 _ _ hx, T.cls_Font, T.no_Font_functions, rfl, fu, rfl, ⟨_, SqL.of (s1 _ _ hfu)⟩, for_nil (SqL.of (s1 _ _ hfu)) ?_⟩
    refine ⟨_, rfl, x, _, dx, _, _, rfl, s1 _ _ hx, T.cls_Font, T.no_Font_presets, rfl, pr, _, rfl, .inl (SqL.of (s1 _ _ hpr)), _, _, rfl, rfl, _, rfl, iteN (by decide) ?_⟩
    refine ⟨_, rfl, x, _, dx, _, _, rfl, s1 _ _ hx, T.cls_Font, T.no_Font_presets, rfl, pr, rfl, ⟨_, SqL.of (s1 _ _ hpr)⟩, fun D hD => lc_nil hD (SqL.of (s1 _ _ hpr)) ?_⟩
    refine ⟨D, [], rfl, SqL.of upd_same, _, rfl, iteN rfl ?_⟩
    exact k _ (s1.trans (same_upd hD))
end
end K26


set_option maxHeartbeats 4000000
namespace K26
open PySem PySem.Spec PyProof.Rows L2
theorem lc_tnil {K : PySem.W.Frag} {a : Addr} {g : TG} {tt : TT} {te : TE} {vs : List Nat} {σ : L2.St} {H1 : Hp} {D : Addr} {Qd : Hp → Prop} (hD : H1 D = none) (hS : SqT K H1 a []) (hd : Qd (upd H1 D (.lst []))) : LcG (Itt K a) g tt te vs σ (upd H1 D (.lst [])) D Qd :=
  lc_tup (K := K) (a := a) (xs := []) (fun _ H => H = upd H1 D (.lst [])) rfl (fun i H _ e => by rw [e]; exact seqT (same_upd hD) hS) (fun i x H h _ => by simp at h) fun H e => by
    rw [e]
    exact hd
theorem keepX {α : Type} {R : Rp α} [Mono R] {x : Addr} {M : List Addr} {H H' : Hp} {v : V} {d : α} (s : SameX x H H') (h : R (cut (x :: M) H) v d) : R (cut (x :: M) H') v d := Mono.mono (s.cutX (List.mem_cons_self ..)) h
theorem Mk1.stp {x dx C l : Addr} {H0 H : Hp} {fs : List (Str × V)} (fs' : List (Str × V)) (a : Mk1 x dx C H0 H fs) (nl : H l = none) :
    Mk1 x dx C H0 (upd (upd H l (.lst [])) x (.ins C dx fs')) fs' ∧ NewAt x H0 (upd (upd H l (.lst [])) x (.ins C dx fs')) l (.lst []) ∧ SameX x H (upd (upd H l (.lst [])) x (.ins C dx fs')) :=
  ⟨a.step (same_upd nl), NewAt.of a nl, stepX (same_upd nl)⟩
section
variable {P : Program} {w : World} {K : PySem.W.Frag} {mg : Str → Option Value} {base : Heap}
abbrev kF (K : PySem.W.Frag) (n : Str) : Addr := kwAt ("Font", some "__init__") n K
abbrev psFont : List Str := ["self", "unit", "glyphs", "chars", "lookups", "features", "axes", "regions", "functions", "presets"]
abbrev nsFont : List Str := ["self", "unit", "glyphs", "chars", "lookups", "features", "axes", "regions", "functions", "presets", "glyph", "lookup", "name", "numbers", "region", "instructions"]
def spFontI (K : PySem.W.Frag) : Sp := fun vs H Q _ => ∃ (M : List Addr) (x dx : Addr) (f : FontD) (gv lv : V), vs = [.ref x, .int 100, gv, .ref (kF K "chars"), lv, .ref (kF K "features"), .ref (kF K "axes"), .ref (kF K "regions"), .ref (kF K "functions"), .ref (kF K "presets")] ∧
  H x = some (.ins (cFont K) dx []) ∧ (∀ b ∈ M, H b ≠ none) ∧ x ∉ M ∧ Ls (GlyphR K) (cut (x :: M) H) gv f.gls ∧ Ls (LookR K) (cut (x :: M) H) lv f.lks ∧ (∀ l ∈ f.lks, LLen l) ∧ FontV f ∧ ∀ H', SameX x H H' → FontR K (cut M H') (.ref x) f → Q .non H'
theorem sc_fontI : FnScope nsFont psFont (defScope s_Font_init) := ⟨rfl, rfl, rfl, by decide +kernel, rfl, by decide +kernel, by decide +kernel⟩
theorem ok_fontI (T : Txt K mg) {fd : FuncData} {kws : List (Str × V)} (F : Fn K "__init__" "Font.__init__" s_Font_init kws (He.ma K (cFont K) "__init__") fd) : FnOk P w K mg base CX0 6 (He.ma K (cFont K) "__init__") fd psFont (spFontI K) := by
  obtain ⟨fdG, FG⟩ := T.f_Font_check_glyphs
  obtain ⟨fdL, FL⟩ := T.f_Font_check_lookups
  obtain ⟨fdR, FR⟩ := T.f_Font_check_rest
  have bG : Binds K fdG ["self"] [] := FG.bindsN (fun _ _ _ _ _ _ us hl => match us, hl with | [_], _ => rfl)
  have bL : Binds K fdL ["self"] [] := FL.bindsN (fun _ _ _ _ _ _ us hl => match us, hl with | [_], _ => rfl)
  have bR : Binds K fdR ["self"] [] := FR.bindsN (fun _ _ _ _ _ _ us hl => match us, hl with | [_], _ => rfl)
  refine fn_ok F sc_fontI (fun vs H Q E h => ?_) (fun cdv A outer s H vs Q E hr h => ?_)
  · obtain ⟨M, x, dx, f, gv, lv, rfl, _⟩ := h
    rfl
  · obtain ⟨M, x, dx, f, gv, lv, rfl, hx, hM, nM, hg, hl, lln, fv, k⟩ := h
    have nd := sc_fontI.nd
    have hr3 : Room 3 _ := hr.mono (by decide)
    have hr4 : Room 4 _ := hr.mono (by decide)
    have hr2 : Room 2 _ := hr.mono (by decide)
    have hxm : x ∈ x :: M := List.mem_cons_self ..
    have g60 := fv.g60
    have l20 := fv.l20
    refine ⟨_, pss_cons (ps_fld (pv 0) (pv 1) rfl)
      (pss_cons (ps_fld (pv 0) (pe_lc (own := [("glyph", 10)]) (g := gName 10) (tt := tYes) (te := tCall (spCopG K) [] E0 (tCons (tVar 10) tNil)) rfl nd (pi_list (pv 2)) (blkOk_by (N := nsFont) (sc := defScope s_Font_init) (by decide +kernel)) (fun _ _ _ _ _ => pg_name (i := 10) nd rfl (Or.inl rfl)) (fun _ _ _ _ _ => pts_nil) (fun _ _ _ _ _ => pe_cal (c_copG T) hr3 rfl (pa_cons (pv 10) pa_nil))) rfl)
      (pss_cons (ps_fld (pv 0) (pe_callTy call_list_of (by rfl) T.b_list boot_list (pa_cons (pv 3) pa_nil)) rfl)
      (pss_cons (ps_fld (pv 0) (pe_lc (own := [("lookup", 11)]) (g := gName 11) (tt := tYes) (te := tCall (spCopL K) [] E0 (tCons (tVar 11) tNil)) rfl nd (pi_list (pv 4)) (blkOk_by (N := nsFont) (sc := defScope s_Font_init) (by decide +kernel)) (fun _ _ _ _ _ => pg_name (i := 11) nd rfl (Or.inl rfl)) (fun _ _ _ _ _ => pts_nil) (fun _ _ _ _ _ => pe_cal (c_copL T) hr4 rfl (pa_cons (pv 11) pa_nil))) rfl)
      (pss_cons (ps_fld (pv 0) (pe_lc (own := [("name", 12), ("numbers", 13)]) (g := gNever) (tt := tYes) (te := eNever) rfl nd (pi_tup (pv 5)) (blkOk_by (N := nsFont) (sc := defScope s_Font_init) (by decide +kernel)) (fun _ _ _ _ _ => pgN) (fun _ _ _ _ _ => pts_nil) (fun _ _ _ _ _ => peN)) rfl)
      (pss_cons (ps_fld (pv 0) (pe_callTy call_list_of (by rfl) T.b_list boot_list (pa_cons (pv 6) pa_nil)) rfl)
      (pss_cons (ps_fld (pv 0) (pe_lc (own := [("region", 14)]) (g := gNever) (tt := tYes) (te := eNever) rfl nd (pi_tup (pv 7)) (blkOk_by (N := nsFont) (sc := defScope s_Font_init) (by decide +kernel)) (fun _ _ _ _ _ => pgN) (fun _ _ _ _ _ => pts_nil) (fun _ _ _ _ _ => peN)) rfl)
      (pss_cons (ps_fld (pv 0) (pe_lc (own := [("instructions", 15)]) (g := gNever) (tt := tYes) (te := eNever) rfl nd (pi_tup (pv 8)) (blkOk_by (N := nsFont) (sc := defScope s_Font_init) (by decide +kernel)) (fun _ _ _ _ _ => pgN) (fun _ _ _ _ _ => pts_nil) (fun _ _ _ _ _ => peN)) rfl)
      (pss_cons (ps_fld (pv 0) (pe_callTy call_list_of (by rfl) T.b_list boot_list (pa_cons (pv 9) pa_nil)) rfl)
      (pss_cons (ps_expr (pe_meth0 (pv 0) T.cls_Font T.me_Font_check_glyphs (ok_cg T FG) hr4 bG .nil pass0))
      (pss_cons (ps_expr (pe_meth0 (pv 0) T.cls_Font T.me_Font_check_lookups (ok_cl T FL) hr bL .nil pass0))
      (pss_one (ps_expr (pe_meth0 (pv 0) T.cls_Font T.me_Font_check_rest (ok_cr T FR) hr2 bR .nil pass0))))))))))))), ?_⟩
    refine ⟨_, rfl, _, rfl, x, _, dx, _, rfl, hx, T.cls_Font, T.no_Font_unit, (by show 0 < 1000; decide), ?_⟩
    have a0 : Mk1 x dx (cFont K) H (upd H x (.ins (cFont K) dx (putF "unit" (.int 100) []))) _ := (Mk1.start hx).step (Same.refl _)
    replace hg : Ls (GlyphR K) (cut (x :: M) (upd H x (.ins (cFont K) dx (putF "unit" (.int 100) [])))) gv f.gls := keepX a0.same hg
    replace hl : Ls (LookR K) (cut (x :: M) (upd H x (.ins (cFont K) dx (putF "unit" (.int 100) [])))) lv f.lks := keepX a0.same hl
    generalize upd H x (.ins (cFont K) dx (putF "unit" (.int 100) [])) = J0 at a0 hg hl ⊢
    obtain ⟨sa1, svs1, rfl, hsa1, sp1⟩ := hg
    have hMx1 : ∀ b ∈ x :: M, J0 b ≠ none := there_x (some_ne a0.at_) a0.same hM
    refine ⟨_, rfl, sa1, rfl, ⟨_, SqL.of (cut_get hsa1).2⟩, fun gD hD1 => lc_map (K := K) (a := sa1) (xs := svs1) (GlyphR K) (x :: M) f.gls hMx1 hD1 (SqL.of (cut_get hsa1).2) sp1.length (len_small (by rw [sp1.length]; omega)) ?_ fun C1 s1 _ r1 => ?_⟩
    · intro i xv yv H2 hxi hyi sm smc hth Q2 kQ
      obtain ⟨z, hz, hq⟩ := paired_getL sp1 hxi
      obtain rfl : z = yv := Option.some.inj (hz.symm.trans hyi)
      exact ⟨rfl, _, rfl, gD :: x :: M, z, xv, rfl, hth, Mono.mono smc hq, fun H3 v => kQ v H3⟩
    refine ⟨_, rfl, x, _, dx, _, rfl, s1 _ _ a0.at_, T.cls_Font, T.no_Font_glyphs, (by show 1 < 1000; decide), ?_⟩
    have a1 : Mk1 x dx (cFont K) H (upd C1 x (.ins (cFont K) dx (putF "glyphs" (.ref gD) (putF "unit" (.int 100) [])))) _ := a0.step s1
    have x1 : SameX x J0 (upd C1 x (.ins (cFont K) dx (putF "glyphs" (.ref gD) (putF "unit" (.int 100) [])))) := stepX s1
    have w1 : Ls (GlyphR K) (cut (x :: M) (upd C1 x (.ins (cFont K) dx (putF "glyphs" (.ref gD) (putF "unit" (.int 100) []))))) (.ref gD) f.gls := keepX (stepX (Same.refl C1)) r1
    replace hl : Ls (LookR K) (cut (x :: M) (upd C1 x (.ins (cFont K) dx (putF "glyphs" (.ref gD) (putF "unit" (.int 100) []))))) lv f.lks := keepX x1 hl
    generalize (upd C1 x (.ins (cFont K) dx (putF "glyphs" (.ref gD) (putF "unit" (.int 100) [])))) = J1 at a1 w1 hl ⊢
    clear x1 a0
    refine ⟨_, rfl, kF K "chars", [], rfl, .inr (T.et_Font_chars _), fun l2 hl2 => ⟨_, rfl, x, _, dx, _, rfl, by rw [upd_ne (ne_of_none a1.at_ hl2)]; exact a1.at_, T.cls_Font, T.no_Font_chars, (by show 2 < 1000; decide), ?_⟩⟩
    obtain ⟨a2, n2, x2⟩ := a1.stp (putF "chars" (.ref l2) (putF "glyphs" (.ref gD) (putF "unit" (.int 100) []))) hl2
    replace w1 : Ls (GlyphR K) (cut (x :: M) (upd (upd J1 l2 (.lst [])) x (.ins (cFont K) dx (putF "chars" (.ref l2) (putF "glyphs" (.ref gD) (putF "unit" (.int 100) [])))))) (.ref gD) f.gls := keepX x2 w1
    replace hl : Ls (LookR K) (cut (x :: M) (upd (upd J1 l2 (.lst [])) x (.ins (cFont K) dx (putF "chars" (.ref l2) (putF "glyphs" (.ref gD) (putF "unit" (.int 100) [])))))) lv f.lks := keepX x2 hl
    generalize (upd (upd J1 l2 (.lst [])) x (.ins (cFont K) dx (putF "chars" (.ref l2) (putF "glyphs" (.ref gD) (putF "unit" (.int 100) []))))) = J2 at a2 n2 w1 hl ⊢
    clear x2 hl2 a1
    obtain ⟨sa3, svs3, rfl, hsa3, sp3⟩ := hl
    have hMx3 : ∀ b ∈ x :: M, J2 b ≠ none := there_x (some_ne a2.at_) a2.same hM
    refine ⟨_, rfl, sa3, rfl, ⟨_, SqL.of (cut_get hsa3).2⟩, fun lD hD3 => lc_map (K := K) (a := sa3) (xs := svs3) (LookR K) (x :: M) f.lks hMx3 hD3 (SqL.of (cut_get hsa3).2) sp3.length (len_small (by rw [sp3.length]; omega)) ?_ fun C3 s3 _ r3 => ?_⟩
    · intro i xv yv H2 hxi hyi sm smc hth Q2 kQ
      obtain ⟨z, hz, hq⟩ := paired_getL sp3 hxi
      obtain rfl : z = yv := Option.some.inj (hz.symm.trans hyi)
      exact ⟨rfl, _, rfl, lD :: x :: M, z, xv, rfl, hth, Mono.mono smc hq, lln z (mem_at hz), fun H3 v => kQ v H3⟩
    refine ⟨_, rfl, x, _, dx, _, rfl, s3 _ _ a2.at_, T.cls_Font, T.no_Font_lookups, (by show 3 < 1000; decide), ?_⟩
    have a3 : Mk1 x dx (cFont K) H (upd C3 x (.ins (cFont K) dx (putF "lookups" (.ref lD) (putF "chars" (.ref l2) (putF "glyphs" (.ref gD) (putF "unit" (.int 100) [])))))) _ := a2.step s3
    have x3 : SameX x J2 (upd C3 x (.ins (cFont K) dx (putF "lookups" (.ref lD) (putF "chars" (.ref l2) (putF "glyphs" (.ref gD) (putF "unit" (.int 100) [])))))) := stepX s3
    have w3 : Ls (LookR K) (cut (x :: M) (upd C3 x (.ins (cFont K) dx (putF "lookups" (.ref lD) (putF "chars" (.ref l2) (putF "glyphs" (.ref gD) (putF "unit" (.int 100) []))))))) (.ref lD) f.lks := keepX (stepX (Same.refl C3)) r3
    replace n2 := n2.keep x3
    replace w1 : Ls (GlyphR K) (cut (x :: M) (upd C3 x (.ins (cFont K) dx (putF "lookups" (.ref lD) (putF "chars" (.ref l2) (putF "glyphs" (.ref gD) (putF "unit" (.int 100) []))))))) (.ref gD) f.gls := keepX x3 w1
    generalize (upd C3 x (.ins (cFont K) dx (putF "lookups" (.ref lD) (putF "chars" (.ref l2) (putF "glyphs" (.ref gD) (putF "unit" (.int 100) [])))))) = J3 at a3 w1 w3 n2 ⊢
    clear x3 a2
    refine ⟨_, rfl, kF K "features", rfl, ⟨_, T.et_Font_features _⟩, fun l4 hl4 => lc_tnil hl4 (T.et_Font_features _) ⟨_, rfl, x, _, dx, _, rfl, by rw [upd_ne (ne_of_none a3.at_ hl4)]; exact a3.at_, T.cls_Font, T.no_Font_features, (by show 4 < 1000; decide), ?_⟩⟩
    obtain ⟨a4, n4, x4⟩ := a3.stp (putF "features" (.ref l4) (putF "lookups" (.ref lD) (putF "chars" (.ref l2) (putF "glyphs" (.ref gD) (putF "unit" (.int 100) []))))) hl4
    replace n2 := n2.keep x4
    replace w1 : Ls (GlyphR K) (cut (x :: M) (upd (upd J3 l4 (.lst [])) x (.ins (cFont K) dx (putF "features" (.ref l4) (putF "lookups" (.ref lD) (putF "chars" (.ref l2) (putF "glyphs" (.ref gD) (putF "unit" (.int 100) [])))))))) (.ref gD) f.gls := keepX x4 w1
    replace w3 : Ls (LookR K) (cut (x :: M) (upd (upd J3 l4 (.lst [])) x (.ins (cFont K) dx (putF "features" (.ref l4) (putF "lookups" (.ref lD) (putF "chars" (.ref l2) (putF "glyphs" (.ref gD) (putF "unit" (.int 100) [])))))))) (.ref lD) f.lks := keepX x4 w3
    generalize (upd (upd J3 l4 (.lst [])) x (.ins (cFont K) dx (putF "features" (.ref l4) (putF "lookups" (.ref lD) (putF "chars" (.ref l2) (putF "glyphs" (.ref gD) (putF "unit" (.int 100) []))))))) = J4 at a4 n2 n4 w1 w3 ⊢
    clear x4 hl4 a3
    refine ⟨_, rfl, kF K "axes", [], rfl, .inr (T.et_Font_axes _), fun l5 hl5 => ⟨_, rfl, x, _, dx, _, rfl, by rw [upd_ne (ne_of_none a4.at_ hl5)]; exact a4.at_, T.cls_Font, T.no_Font_axes, (by show 5 < 1000; decide), ?_⟩⟩
    obtain ⟨a5, n5, x5⟩ := a4.stp (putF "axes" (.ref l5) (putF "features" (.ref l4) (putF "lookups" (.ref lD) (putF "chars" (.ref l2) (putF "glyphs" (.ref gD) (putF "unit" (.int 100) [])))))) hl5
    replace n2 := n2.keep x5
    replace n4 := n4.keep x5
    replace w1 : Ls (GlyphR K) (cut (x :: M) (upd (upd J4 l5 (.lst [])) x (.ins (cFont K) dx (putF "axes" (.ref l5) (putF "features" (.ref l4) (putF "lookups" (.ref lD) (putF "chars" (.ref l2) (putF "glyphs" (.ref gD) (putF "unit" (.int 100) []))))))))) (.ref gD) f.gls := keepX x5 w1
    replace w3 : Ls (LookR K) (cut (x :: M) (upd (upd J4 l5 (.lst [])) x (.ins (cFont K) dx (putF "axes" (.ref l5) (putF "features" (.ref l4) (putF "lookups" (.ref lD) (putF "chars" (.ref l2) (putF "glyphs" (.ref gD) (putF "unit" (.int 100) []))))))))) (.ref lD) f.lks := keepX x5 w3
    generalize (upd (upd J4 l5 (.lst [])) x (.ins (cFont K) dx (putF "axes" (.ref l5) (putF "features" (.ref l4) (putF "lookups" (.ref lD) (putF "chars" (.ref l2) (putF "glyphs" (.ref gD) (putF "unit" (.int 100) [])))))))) = J5 at a5 n2 n4 n5 w1 w3 ⊢
    clear x5 hl5 a4
    refine ⟨_, rfl, kF K "regions", rfl, ⟨_, T.et_Font_regions _⟩, fun l6 hl6 => lc_tnil hl6 (T.et_Font_regions _) ⟨_, rfl, x, _, dx, _, rfl, by rw [upd_ne (ne_of_none a5.at_ hl6)]; exact a5.at_, T.cls_Font, T.no_Font_regions, (by show 6 < 1000; decide), ?_⟩⟩
    obtain ⟨a6, n6, x6⟩ := a5.stp (putF "regions" (.ref l6) (putF "axes" (.ref l5) (putF "features" (.ref l4) (putF "lookups" (.ref lD) (putF "chars" (.ref l2) (putF "glyphs" (.ref gD) (putF "unit" (.int 100) []))))))) hl6
    replace n2 := n2.keep x6
    replace n4 := n4.keep x6
    replace n5 := n5.keep x6
    replace w1 : Ls (GlyphR K) (cut (x :: M) (upd (upd J5 l6 (.lst [])) x (.ins (cFont K) dx (putF "regions" (.ref l6) (putF "axes" (.ref l5) (putF "features" (.ref l4) (putF "lookups" (.ref lD) (putF "chars" (.ref l2) (putF "glyphs" (.ref gD) (putF "unit" (.int 100) [])))))))))) (.ref gD) f.gls := keepX x6 w1
    replace w3 : Ls (LookR K) (cut (x :: M) (upd (upd J5 l6 (.lst [])) x (.ins (cFont K) dx (putF "regions" (.ref l6) (putF "axes" (.ref l5) (putF "features" (.ref l4) (putF "lookups" (.ref lD) (putF "chars" (.ref l2) (putF "glyphs" (.ref gD) (putF "unit" (.int 100) [])))))))))) (.ref lD) f.lks := keepX x6 w3
    generalize (upd (upd J5 l6 (.lst [])) x (.ins (cFont K) dx (putF "regions" (.ref l6) (putF "axes" (.ref l5) (putF "features" (.ref l4) (putF "lookups" (.ref lD) (putF "chars" (.ref l2) (putF "glyphs" (.ref gD) (putF "unit" (.int 100) []))))))))) = J6 at a6 n2 n4 n5 n6 w1 w3 ⊢
    clear x6 hl6 a5
    refine ⟨_, rfl, kF K "functions", rfl, ⟨_, T.et_Font_functions _⟩, fun l7 hl7 => lc_tnil hl7 (T.et_Font_functions _) ⟨_, rfl, x, _, dx, _, rfl, by rw [upd_ne (ne_of_none a6.at_ hl7)]; exact a6.at_, T.cls_Font, T.no_Font_functions, (by show 7 < 1000; decide), ?_⟩⟩
    obtain ⟨a7, n7, x7⟩ := a6.stp (putF "functions" (.ref l7) (putF "regions" (.ref l6) (putF "axes" (.ref l5) (putF "features" (.ref l4) (putF "lookups" (.ref lD) (putF "chars" (.ref l2) (putF "glyphs" (.ref gD) (putF "unit" (.int 100) [])))))))) hl7
    replace n2 := n2.keep x7
    replace n4 := n4.keep x7
    replace n5 := n5.keep x7
    replace n6 := n6.keep x7
    replace w1 : Ls (GlyphR K) (cut (x :: M) (upd (upd J6 l7 (.lst [])) x (.ins (cFont K) dx (putF "functions" (.ref l7) (putF "regions" (.ref l6) (putF "axes" (.ref l5) (putF "features" (.ref l4) (putF "lookups" (.ref lD) (putF "chars" (.ref l2) (putF "glyphs" (.ref gD) (putF "unit" (.int 100) []))))))))))) (.ref gD) f.gls := keepX x7 w1
    replace w3 : Ls (LookR K) (cut (x :: M) (upd (upd J6 l7 (.lst [])) x (.ins (cFont K) dx (putF "functions" (.ref l7) (putF "regions" (.ref l6) (putF "axes" (.ref l5) (putF "features" (.ref l4) (putF "lookups" (.ref lD) (putF "chars" (.ref l2) (putF "glyphs" (.ref gD) (putF "unit" (.int 100) []))))))))))) (.ref lD) f.lks := keepX x7 w3
    generalize (upd (upd J6 l7 (.lst [])) x (.ins (cFont K) dx (putF "functions" (.ref l7) (putF "regions" (.ref l6) (putF "axes" (.ref l5) (putF "features" (.ref l4) (putF "lookups" (.ref lD) (putF "chars" (.ref l2) (putF "glyphs" (.ref gD) (putF "unit" (.int 100) [])))))))))) = J7 at a7 n2 n4 n5 n6 n7 w1 w3 ⊢
    clear x7 hl7 a6
    refine ⟨_, rfl, kF K "presets", [], rfl, .inr (T.et_Font_presets _), fun l8 hl8 => ⟨_, rfl, x, _, dx, _, rfl, by rw [upd_ne (ne_of_none a7.at_ hl8)]; exact a7.at_, T.cls_Font, T.no_Font_presets, (by show 8 < 1000; decide), ?_⟩⟩
    obtain ⟨a8, n8, x8⟩ := a7.stp (putF "presets" (.ref l8) (putF "functions" (.ref l7) (putF "regions" (.ref l6) (putF "axes" (.ref l5) (putF "features" (.ref l4) (putF "lookups" (.ref lD) (putF "chars" (.ref l2) (putF "glyphs" (.ref gD) (putF "unit" (.int 100) []))))))))) hl8
    replace n2 := n2.keep x8
    replace n4 := n4.keep x8
    replace n5 := n5.keep x8
    replace n6 := n6.keep x8
    replace n7 := n7.keep x8
    replace w1 : Ls (GlyphR K) (cut (x :: M) (upd (upd J7 l8 (.lst [])) x (.ins (cFont K) dx (putF "presets" (.ref l8) (putF "functions" (.ref l7) (putF "regions" (.ref l6) (putF "axes" (.ref l5) (putF "features" (.ref l4) (putF "lookups" (.ref lD) (putF "chars" (.ref l2) (putF "glyphs" (.ref gD) (putF "unit" (.int 100) [])))))))))))) (.ref gD) f.gls := keepX x8 w1
    replace w3 : Ls (LookR K) (cut (x :: M) (upd (upd J7 l8 (.lst [])) x (.ins (cFont K) dx (putF "presets" (.ref l8) (putF "functions" (.ref l7) (putF "regions" (.ref l6) (putF "axes" (.ref l5) (putF "features" (.ref l4) (putF "lookups" (.ref lD) (putF "chars" (.ref l2) (putF "glyphs" (.ref gD) (putF "unit" (.int 100) [])))))))))))) (.ref lD) f.lks := keepX x8 w3
    generalize (upd (upd J7 l8 (.lst [])) x (.ins (cFont K) dx (putF "presets" (.ref l8) (putF "functions" (.ref l7) (putF "regions" (.ref l6) (putF "axes" (.ref l5) (putF "features" (.ref l4) (putF "lookups" (.ref lD) (putF "chars" (.ref l2) (putF "glyphs" (.ref gD) (putF "unit" (.int 100) []))))))))))) = J8 at a8 n2 n4 n5 n6 n7 n8 w1 w3 ⊢
    clear x8 hl8 a7
    have fc : FontC K J8 x f := ⟨dx, _, _, l2, l4, l5, l6, l7, l8, a8.at_, dropA w1, dropA w3, n2.at_, n4.at_, n5.at_, n6.at_, n7.at_, n8.at_⟩
    refine ⟨_, rfl, x, dx, _, rfl, a8.at_, rfl, f, x, rfl, fc, fv, fun H1 s1 => ?_⟩
    refine ⟨_, rfl, x, dx, _, rfl, s1 _ _ a8.at_, rfl, f, x, rfl, fc.mono s1, fv, fun H2 s2 => ?_⟩
    have s12 := s1.trans s2
    refine ⟨_, rfl, x, dx, _, rfl, s12 _ _ a8.at_, rfl, f, x, rfl, fc.mono s12, fv, fun H3 s3 => ?_⟩
    have s13 := s12.trans s3
    exact k _ (a8.same.trans (SameX.of s13)) ⟨x, dx, _, _, l2, l4, l5, l6, l7, l8, rfl, cut_of (s13 _ _ a8.at_) nM, Mono.mono (s13.cutS _) (dropC w1), Mono.mono (s13.cutS _) (dropC w3)⟩
def kwmF (K : PySem.W.Frag) : List (Str × V) := [("chars", .ref (kF K "chars")), ("features", .ref (kF K "features")), ("axes", .ref (kF K "axes")), ("regions", .ref (kF K "regions")), ("functions", .ref (kF K "functions")), ("presets", .ref (kF K "presets"))]
theorem kb_fontB {fd : FuncData} (F : Fn K "__init__" "Font.__init__" s_Font_init [("chars", .ref (kF K "chars")), ("lookups", .ref (kF K "lookups")), ("features", .ref (kF K "features")), ("axes", .ref (kF K "axes")), ("regions", .ref (kF K "regions")), ("functions", .ref (kF K "functions")), ("presets", .ref (kF K "presets"))] (He.ma K (He.ga K "Font") "__init__") fd) :
    ∃ mv : List Value, KBn K fd psFont 3 ["lookups"] (fun us ws => us ++ mv.take 1 ++ ws ++ mv.drop 1) (fun vs zs => vs ++ ((kwmF K).map (·.2)).take 1 ++ zs ++ ((kwmF K).map (·.2)).drop 1) := by
  refine FunD.kbinds0 F 3 ["lookups"] (kwmF K) (fun us mv ws => us ++ mv.take 1 ++ ws ++ mv.drop 1) (List.cons_ne_nil _ _) (fun q hq => ?_) (fun r1 r2 r3 => ((r1.append (r2.take 1)).append r3).append (r2.drop 1)) ?_
  · have hq' : q ∈ ([("chars", .ref (kF K "chars")), ("features", .ref (kF K "features")), ("axes", .ref (kF K "axes")), ("regions", .ref (kF K "regions")), ("functions", .ref (kF K "functions")), ("presets", .ref (kF K "presets"))] : List (Str × V)) := hq
    simp only [List.mem_cons, List.not_mem_nil, or_false] at hq' ⊢
    rcases hq' with e | e | e | e | e | e <;> simp [e]
  · intro D doc pm an cdv ct us mv ws h1 h2 h3
    match us, mv, ws, h1, h2, h3 with
    | [a, b, c], [m1, m2, m3, m4, m5, m6], [w1], _, _, _ =>
      exact ⟨_, _, _, _, _, _, rfl, rfl, _, _, _, _, _, _, rfl, rfl, _, _, _, _, _, _, rfl, rfl, _, _, _, _, _, _, rfl, rfl, _, _, _, _, _, _, rfl, rfl, _, _, _, _, _, _, rfl, rfl, rfl⟩
end
end K26


set_option maxHeartbeats 4000000
namespace K26
open PySem PySem.Spec PyProof.Rows L2
theorem boot_int' : bootBuiltins "int" = some (.type "int") := by decide +kernel
theorem same_put {H H1 : Hp} {r : Addr} {o : HO} (hr : H r = none) (s : Same H H1) : Same H (upd H1 r o) := fun b u e => by
  rw [upd_ne (ne_of_none e hr)]
  exact s _ _ e
theorem cut_map (ns : List Int) (lo hi : Option Int) : cutV (ns.map V.int) lo hi = ((ns.drop (HT.sIx ns.length 0 lo)).take (HT.sIx ns.length ns.length hi - HT.sIx ns.length 0 lo)).map V.int := by
  unfold cutV
  rw [List.length_map, ← List.map_drop, ← List.map_take]
section
variable {P : Program} {w : World} {K : PySem.W.Frag} {mg : Str → Option Value} {base : Heap}
def spMix : Sp := fun vs H Q _ => ∃ n k : Int, vs = [.int n, .int k] ∧ ∀ m : Int, Q (.int m) H
theorem sc_mix : FnScope ["_law_number", "_law_k"] ["_law_number", "_law_k"] (defScope s_law_mix) := ⟨rfl, rfl, rfl, by decide +kernel, rfl, by decide +kernel, by decide +kernel⟩
theorem cmul_r {i j : Int} (h1 : -(2 ^ 64) < j) (h2 : j < 2 ^ 64) : CMul i j := .inr ⟨h1, h2⟩
theorem cmul_l {i j : Int} (h1 : -(2 ^ 64) < i) (h2 : i < 2 ^ 64) : CMul i j := .inl ⟨h1, h2⟩
theorem c_mix (T : Txt K mg) : Cal P w K mg base 1 "_law_mix" ["_law_number", "_law_k"] spMix := by
  obtain ⟨fd, F⟩ := T.f_law_mix
  refine cal_of F T.g_law_mix sc_mix (fun vs H Q E h => ?_) (fun _ _ _ _ _ _ us hl => match us, hl with | [_, _], _ => rfl) (fun cdv A outer s H vs Q E hr h => ?_)
  · obtain ⟨n, k, rfl, _⟩ := h
    rfl
  · obtain ⟨n, k, rfl, kk⟩ := h
    refine ⟨_, pss_one (ps_ret (pe_op op_mod (pe_op op_mul (pe_op op_mod (pe_callTy call_int1 (by rfl) T.b_int boot_int' (pa_cons (pe_op op_mul (pe_op op_add (pe_op op_add (pe_op op_mod (pe_callTy call_int1 (by rfl) T.b_int boot_int' (pa_cons (pv 0) pa_nil)) pe_int)
      (pe_op op_mul pe_int (pv 1))) pe_int) pe_int) pa_nil)) pe_int) pe_int) pe_int)), ?_⟩
    refine ⟨_, rfl, .inl ⟨_, rfl, _, _, rfl, rfl, (by show (0 : Int) < 1000003; decide), _, rfl, _, _, rfl, rfl, cmul_l (by decide) (by decide), _, _, rfl, rfl, _, _, rfl, rfl, _, _, rfl, rfl, cmul_r (by decide) (by decide), .inl ⟨_, rfl, _, _, rfl, rfl, (by show (0 : Int) < 1000033; decide), _, _, rfl, rfl, cmul_r (by decide) (by decide), _, _, rfl, rfl, (by show (0 : Int) < 998244353; decide), kk _⟩⟩⟩
def spNum (K : PySem.W.Frag) : Sp := fun vs H Q _ => ∃ (a : Addr) (ns : List Int), vs = [.ref a, .int 150] ∧ SqL K H a (ns.map V.int) ∧ ns.length ≤ 63 ∧ ∀ r H', H r = none → Same H H' → RowAt H' r → Q (.ref r) H'
theorem sc_num : FnScope ["_law_script", "_law_count", "_law_row", "_law_base", "_law_cell", "_law_rest", "_law_k"] ["_law_script", "_law_count"] (defScope s_law_numbers) := ⟨rfl, rfl, rfl, by decide +kernel, rfl, by decide +kernel, by decide +kernel⟩
/-- the row under way -/
structure RowN (H : Hp) (r p : Addr) (cs : List Int) (n : Nat) (H1 : Hp) : Prop where
  same : Same H H1
  at_ : H1 p = some (.lst (cs.map V.int))
  row : ∃ ms : List Int, H1 r = some (.lst (ms.map V.int)) ∧ ms.length ≤ n
theorem RowN.put {H H1 H2 : Hp} {r p : Addr} {cs : List Int} {n : Nat} {m : Int} {ms : List Int} (h : RowN H r p cs n H1) (hr : H r = none) (np : p ≠ r) (s : Same H1 H2) (e : H2 r = some (.lst (ms.map V.int))) (hl : ms.length ≤ n) : RowN H r p cs (n + 1) (upd H2 r (.lst (ms.map V.int ++ [V.int m]))) :=
  ⟨same_put hr (h.same.trans s), by rw [upd_ne np]; exact s _ _ h.at_, ms ++ [m], by rw [upd_same, List.map_append]; rfl, by rw [List.length_append, List.length_singleton]; omega⟩
theorem RowN.le {H H1 : Hp} {r p : Addr} {cs : List Int} {n m : Nat} (h : RowN H r p cs n H1) (l : n ≤ m) : RowN H r p cs m H1 :=
  let ⟨a, b, ms, e, hl⟩ := h
  ⟨a, b, ms, e, Nat.le_trans hl l⟩
theorem c_num (T : Txt K mg) : Cal P w K mg base 2 "_law_numbers" ["_law_script", "_law_count"] (spNum K) := by
  obtain ⟨fd, F⟩ := T.f_law_numbers
  refine cal_of F T.g_law_numbers sc_num (fun vs H Q E h => ?_) (fun _ _ _ _ _ _ us hl => match us, hl with | [_, _], _ => rfl) (fun cdv A outer s H vs Q E hr h => ?_)
  · obtain ⟨a, ns, rfl, _⟩ := h
    rfl
  · obtain ⟨a, ns, rfl, ha, hn, kk⟩ := h
    have nd := sc_num.nd
    refine ⟨_, pss_cons (ps_set (i := 2) nd rfl (.inl rfl) (pe_lst pa_nil)) (pss_cons (ps_set (i := 3) nd rfl (.inl rfl) pe_int)
      (pss_cons (ps_for PassesOwn.never rfl (pi_list (pe_slice sl_list (pv 0) po_none (po_some pe_int))) (pg_name (i := 4) nd rfl (.inl rfl))
        (pss_cons (ps_set (i := 3) nd rfl (.inl rfl) (pe_op op_add (pv 3) (pv 4)))
        (pss_one (ps_if (pt_cmpR op_ge (pv 4) pe_int (nomark _))
          (pss_cons (ps_set (i := 5) nd rfl (.inl rfl) (pv 4))
          (pss_one (ps_for PassesOwn.never rfl (pi_range1 (by rfl) T.b_range (pa_cons pe_int pa_nil)) (pg_name (i := 6) nd rfl (.inl rfl))
            (pss_cons (ps_expr (pe_bm PySem.F.plainAttrs_list PySem.F.slot_list_append PySem.F.type_list_append mt_append (pv 2) (pa_cons (pe_op op_mod (pe_callTy call_int1 (by rfl) T.b_int boot_int' (pa_cons (pv 5) pa_nil)) pe_int) pa_nil)))
            (pss_cons (ps_set (i := 5) nd rfl (.inl rfl) (pe_op op_fdiv (pv 5) pe_int))
            (pss_one (ps_if (pt_cmpR op_eq (pv 5) pe_int (nomark _)) (pss_one ps_break) pss_nil)))))))
          (pss_one (ps_expr (pe_bm PySem.F.plainAttrs_list PySem.F.slot_list_append PySem.F.type_list_append mt_append (pv 2) (pa_cons (pe_cal (c_mix T) hr rfl (pa_cons (pe_cal (c_mix T) hr rfl (pa_cons (pv 4) (pa_cons pe_int pa_nil))) (pa_cons pe_int pa_nil))) pa_nil))))))))
      (pss_cons (ps_for PassesOwn.never rfl (pi_range1 (by rfl) T.b_range (pa_cons (pv 1) pa_nil)) (pg_name (i := 6) nd rfl (.inl rfl))
        (pss_one (ps_expr (pe_bm PySem.F.plainAttrs_list PySem.F.slot_list_append PySem.F.type_list_append mt_append (pv 2) (pa_cons (pe_cal (c_mix T) hr rfl (pa_cons (pe_cal (c_mix T) hr rfl (pa_cons (pe_op op_add (pv 3) (pe_op op_mul pe_int (pv 6))) (pa_cons (pe_op op_add pe_int (pv 6)) pa_nil))) (pa_cons pe_int pa_nil))) pa_nil)))))
      (pss_cons (ps_expr (pe_bm0 PySem.F.plainAttrs_list PySem.F.slot_list_reverse PySem.F.type_list_reverse mt_reverse (pv 2)))
      (pss_one (ps_ret (pv 2))))))), ?_⟩
    refine ⟨Nat.zero_le _, fun r nr => ?_⟩
    have s1 : Same H (upd H r (.lst [])) := same_upd nr
    refine ⟨_, rfl, _, rfl, a, _, rfl, Same.seq s1 ha, fun p np => ?_⟩
    rw [cut_map]
    generalize hcs : (ns.drop (HT.sIx ns.length 0 none)).take (HT.sIx ns.length ns.length (some 63) - HT.sIx ns.length 0 none) = cs at *
    have lcs : cs.length ≤ 63 := by
      rw [← hcs, List.length_take, List.length_drop]
      omega
    have npr : p ≠ r := fun e => by
      rw [e, upd_same] at np
      cases np
    have st : RowN H r p cs 0 (upd (upd H r (.lst [])) p (.lst (cs.map V.int))) := ⟨s1.trans (same_upd np), upd_same, [], by rw [upd_ne npr.symm, upd_same]; rfl, Nat.le_refl _⟩
    refine ⟨p, rfl, ⟨_, SqL.of upd_same⟩, ?_⟩
    refine for_list (K := K) (a := p) (xs := cs.map V.int) (fun i σ H1 => ∃ (b : Int) (y4 y5 y6 : Option V), σ = [some (.ref a), some (.int 150), some (.ref r), some (.int b), y4, y5, y6] ∧ RowN H r p cs (60 * i) H1)
      ⟨0, none, none, none, rfl, st⟩ (fun i σ H1 _ ⟨_, _, _, _, _, rn⟩ => SqL.of rn.at_) ?_ ?_
    · rintro i xv σ H1 hxi ⟨b, y4, y5, y6, rfl, rn⟩
      have hi : i < 63 := by
        have := (List.getElem?_eq_some_iff.mp hxi).1
        rw [List.length_map] at this
        omega
      obtain ⟨c, hc, rfl⟩ := int_at hxi
      refine ⟨_, rfl, _, rfl, _, _, rfl, rfl, _, rfl, _, _, rfl, rfl, _, rfl, ite2 (fun _ => ?_) (fun _ => ?_)⟩
      · refine ⟨_, rfl, (60 : Int), rfl, by decide, by decide, ?_⟩
        refine for_range (lo := 0) (n := 60) (fun j σ H2 => ∃ (rest : Int) (y6 : Option V), σ = [some (.ref a), some (.int 150), some (.ref r), some (.int (b + c)), some (.int c), some (.int rest), y6] ∧ RowN H r p cs (60 * i + j) H2) ⟨c, y6, rfl, rn⟩ ?_ ?_
        · rintro j σ H2 hj ⟨rest, z6, rfl, rn2⟩
          obtain ⟨ms, hms, hl⟩ := rn2.row
          refine ⟨_, rfl, .inl ⟨rfl, _, SqL.of hms⟩, _, rfl, .inl ⟨_, rfl, _, _, rfl, rfl, (by show (0 : Int) < 840; decide), r, _, _, rfl, rfl, hms, ?_, ?_⟩⟩
          · rw [List.length_map]
            exact len_small (by omega)
          have rn3 := rn2.put (m := rest % 840) nr npr (Same.refl _) hms hl
          refine ⟨_, rfl, _, _, rfl, rfl, ⟨by decide, by decide⟩, _, rfl, rfl, _, rfl, ite2 (fun _ => ?_) (fun _ => ?_)⟩
          · exact ⟨_, _, _, _, rfl, rn3.le (by omega)⟩
          · exact ⟨_, _, rfl, rn3⟩
        · rintro σ H2 ⟨rest, z6, rfl, rn2⟩
          exact ⟨_, _, _, _, rfl, rn2.le (by omega)⟩
      · obtain ⟨ms, hms, hl⟩ := rn.row
        refine ⟨_, rfl, .inl ⟨rfl, _, SqL.of hms⟩, _, rfl, _, _, rfl, fun m1 => ⟨_, _, rfl, fun m2 => ⟨r, _, _, rfl, rfl, hms, ?_, ?_⟩⟩⟩
        · rw [List.length_map]
          exact len_small (by omega)
        exact ⟨_, _, _, _, rfl, (rn.put (m := m2) nr npr (Same.refl _) hms hl).le (by omega)⟩
    · rintro σ H1 ⟨b, y4, y5, y6, rfl, rn⟩
      rw [List.length_map] at rn
      refine ⟨_, rfl, (150 : Int), rfl, by decide, by decide, ?_⟩
      refine for_range (lo := 0) (n := 150) (fun j σ H2 => ∃ (y6 : Option V), σ = [some (.ref a), some (.int 150), some (.ref r), some (.int b), y4, y5, y6] ∧ RowN H r p cs (60 * cs.length + j) H2) ⟨y6, rfl, rn⟩ ?_ ?_
      · rintro j σ H2 hj ⟨z6, rfl, rn2⟩
        obtain ⟨ms, hms, hl⟩ := rn2.row
        refine ⟨_, rfl, .inl ⟨rfl, _, SqL.of hms⟩, _, rfl, _, rfl, _, _, rfl, rfl, cmul_l (by decide) (by decide), _, _, rfl, rfl, _, rfl, _, _, rfl, rfl, _, _, rfl, fun m1 => ⟨_, _, rfl, fun m2 => ⟨r, _, _, rfl, rfl, hms, ?_, ?_⟩⟩⟩
        · rw [List.length_map]
          exact len_small (by omega)
        exact ⟨_, rfl, rn2.put (m := m2) nr npr (Same.refl _) hms hl⟩
      · rintro σ H2 ⟨z6, rfl, rn2⟩
        obtain ⟨ms, hms, hl⟩ := rn2.row
        refine ⟨_, rfl, .inl ⟨rfl, _, SqL.of hms⟩, r, _, rfl, rfl, hms, _, rfl, ?_⟩
        exact kk _ _ nr (same_put nr rn2.same) ⟨ms.reverse, by rw [upd_same, List.map_reverse]⟩
end
end K26


set_option maxHeartbeats 4000000
namespace K26
open PySem PySem.Spec PyProof.Rows L2
theorem sameX_put {r D : Addr} {H H1 : Hp} {o : HO} (hD : H D = none) (s : SameX r H H1) : SameX r H (upd H1 D o) := fun b u n e => by
  rw [upd_ne (ne_of_none e hD)]
  exact s _ _ n e
section
variable {P : Program} {w : World} {K : PySem.W.Frag} {mg : Str → Option Value} {base : Heap}
/-! ### one number from the row -/
def spTake : Sp := fun vs H Q _ => ∃ (r : Addr) (b : Int), vs = [.ref r, .int b] ∧ RowAt H r ∧ 0 < b ∧ ∀ n H', SameX r H H' → RowAt H' r → 0 ≤ n → n < b → Q (.int n) H'
theorem sc_take : FnScope ["_law_row", "_law_bound"] ["_law_row", "_law_bound"] (defScope s_law_take) := ⟨rfl, rfl, rfl, by decide +kernel, rfl, by decide +kernel, by decide +kernel⟩
theorem c_take (T : Txt K mg) : Cal P w K mg base 1 "_law_take" ["_law_row", "_law_bound"] spTake := by
  obtain ⟨fd, F⟩ := T.f_law_take
  refine cal_of F T.g_law_take sc_take (fun vs H Q E h => ?_) (fun _ _ _ _ _ _ us hl => match us, hl with | [_, _], _ => rfl) (fun cdv A outer s H vs Q E hr h => ?_)
  · obtain ⟨r, b, rfl, _⟩ := h
    rfl
  · obtain ⟨r, b, rfl, ⟨ns, hns⟩, hb, kk⟩ := h
    refine ⟨_, pss_cons (ps_if (pt_not (pt_truth (pv 0) (by intro _; rfl))) (pss_one (ps_ret pe_int)) pss_nil)
      (pss_one (ps_ret (pe_op op_mod (pe_callTy call_int1 (by rfl) T.b_int boot_int' (pa_cons (pe_bm0 PySem.F.plainAttrs_list PySem.F.slot_list_pop PySem.F.type_list_pop mt_pop (pv 0)) pa_nil)) (pv 1)))), ?_⟩
    refine ⟨_, rfl, !(ns.map V.int).isEmpty, .inl ⟨_, SqL.of hns, rfl⟩, ?_⟩
    cases ns with
    | nil => exact iteT (kk 0 H (SameX.refl _ _) ⟨[], hns⟩ (Int.le_refl 0) hb)
    | cons n0 ns =>
      refine iteF ?_
      have hl : ((n0 :: ns).map V.int)[((n0 :: ns).map V.int).length - 1]? = some (V.int ((n0 :: ns).getLast (List.cons_ne_nil _ _))) := by
        rw [List.length_map, List.getElem?_map, List.getLast_eq_getElem]
        have : (n0 :: ns).length - 1 < (n0 :: ns).length := by simp
        rw [List.getElem?_eq_getElem this]
        rfl
      refine ⟨_, rfl, .inl ⟨rfl, _, SqL.of hns⟩, r, _, _, rfl, rfl, hns, hl, .inl ⟨_, rfl, _, rfl, _, _, rfl, rfl, hb, ?_⟩⟩
      refine kk _ _ SameX.put ⟨(n0 :: ns).dropLast, by rw [upd_same, List.map_dropLast]⟩ (Int.emod_nonneg _ (by omega)) (Int.emod_lt_of_pos _ hb)
/-! ### a set -/
def spSetL : Sp := fun vs H Q _ => ∃ (r : Addr) (c : Nat), vs = [.ref r, .int c] ∧ RowAt H r ∧ 0 < c ∧ c ≤ 1000 ∧ ∀ s p H', SameX r H H' → RowAt H' r → IsSet c s → H p = none → H' p = some (.lst (s.map V.int)) → Q (.ref p) H'
theorem sc_setL : FnScope ["_law_row", "_law_count", "_law_glyphs", "_law_k"] ["_law_row", "_law_count"] (defScope s_law_set) := ⟨rfl, rfl, rfl, by decide +kernel, rfl, by decide +kernel, by decide +kernel⟩
theorem c_setL (T : Txt K mg) : Cal P w K mg base 2 "_law_set" ["_law_row", "_law_count"] spSetL := by
  obtain ⟨fd, F⟩ := T.f_law_set
  refine cal_of F T.g_law_set sc_setL (fun vs H Q E h => ?_) (fun _ _ _ _ _ _ us hl => match us, hl with | [_, _], _ => rfl) (fun cdv A outer s H vs Q E hr h => ?_)
  · obtain ⟨r, c, rfl, _⟩ := h
    rfl
  · obtain ⟨r, c, rfl, hrow, c0, c1, kk⟩ := h
    have nd := sc_setL.nd
    have hu : (A.deeper (envOfC "_law_set" (defScope s_law_set) s.heap.objs.size (He.ga K "_law_set") cdv)).units + 64 < cLine := by
      have h1 := hr.un
      omega
    refine ⟨_, pss_cons (ps_setLc (i := 2) (own := [("_law_k", 3)]) (g := gName 3) (tt := tTest (tOp rEq (tCall spTake [] E0 (tCons (tVar 0) (tCons (tC (.int 3)) tNil))) (tC (.int 0)))) (te := tVar 3) rfl nd rfl rfl (sw_true rfl rfl rfl (by decide +kernel))
        (pi_range1 (by rfl) T.b_range (pa_cons (pv 1) pa_nil)) (blkOk_by (N := ["_law_row", "_law_count", "_law_glyphs", "_law_k"]) (sc := defScope s_law_set) (by decide +kernel))
        (fun _ _ _ _ _ => pg_name (i := 3) nd rfl (Or.inl rfl)) (fun _ _ _ _ _ => pts_one (pt_cmpR op_eq (pe_cal (c_take T) hr rfl (pa_cons (pv 0) (pa_cons pe_int pa_nil))) pe_int (nomark _))) (fun _ _ _ _ _ => pv 3))
      (pss_cons (ps_if (pt_cmpR (op_eqD hu) (pv 2) (pe_lst pa_nil) (nomark _)) (pss_one (ps_ret (pe_lst (pa_cons (pe_cal (c_take T) hr rfl (pa_cons (pv 0) (pa_cons (pv 1) pa_nil))) pa_nil)))) pss_nil)
      (pss_one (ps_ret (pv 2)))), ?_⟩
    refine ⟨_, rfl, (c : Int), rfl, by omega, by omega, fun D hD => ?_⟩
    rw [Int.toNat_natCast]
    have hDr : D ≠ r := fun e => hrow.ne (by rw [← e]; exact hD)
    refine lc_range (lo := 0) (n := c) (fun i H1 => SameX r H H1 ∧ RowAt H1 r ∧ ∃ acc : List Int, H1 D = some (.lst (acc.map V.int)) ∧ acc.length ≤ i ∧ (∀ g ∈ acc, 0 ≤ g ∧ g < (i : Int)) ∧ acc.Pairwise (· < ·))
      ⟨sameX_put hD (SameX.refl _ _), ?_, [], upd_same, Nat.le_refl _, fun g hg => absurd hg List.not_mem_nil, .nil⟩ ?_ ?_
    · obtain ⟨ns, e⟩ := hrow
      exact ⟨ns, by rw [upd_ne hDr.symm]; exact e⟩
    · rintro i H1 hi ⟨sx, rw1, acc, hacc, l1, l2, l3⟩
      rw [Int.zero_add]
      refine ⟨rfl, _, rfl, r, 3, rfl, rw1, by decide, fun n H2 s2 rw2 n0 n1 => ⟨rfl, _, rfl, ?_⟩⟩
      have hacc2 := s2 _ _ hDr hacc
      refine ite2 (fun _ => ?_) (fun _ => ?_)
      · refine ⟨_, rfl, _, hacc2, by rw [List.length_map]; exact len_small (by omega), ?_⟩
        refine ⟨sameX_put hD (sx.trans s2), ?_, acc ++ [(i : Int)], by rw [upd_same, List.map_append]; rfl, by rw [List.length_append, List.length_singleton]; omega, fun g hg => ?_, ?_⟩
        · obtain ⟨ns, e⟩ := rw2
          exact ⟨ns, by rw [upd_ne hDr.symm]; exact e⟩
        · rcases List.mem_append.mp hg with h | h
          · have := l2 g h
            omega
          · have := List.mem_singleton.mp h
            omega
        · refine List.pairwise_append.mpr ⟨l3, List.pairwise_singleton _ _, fun a ha b hb => ?_⟩
          have := l2 a ha
          have := List.mem_singleton.mp hb
          omega
      · refine ⟨sx.trans s2, rw2, acc, hacc2, by omega, fun g hg => ?_, l3⟩
        have := l2 g hg
        omega
    · rintro H1 ⟨sx, rw1, acc, hacc, l1, l2, l3⟩
      refine ⟨_, rfl, Nat.zero_le _, fun l nl => ?_⟩
      have s2 : Same H1 (upd H1 l (.lst [])) := same_upd nl
      refine ⟨dI acc, dI [], IL.dp ⟨D, rfl, s2 _ _ hacc⟩, IL.dp ⟨l, rfl, upd_same⟩, dI_shaped _, dI_shaped _, _, rfl, ?_⟩
      rw [eqv_dI]
      refine ite2 (fun e => ?_) (fun e => ?_)
      · have rw2 := RowAt.same s2 rw1
        refine ⟨_, rfl, _, rfl, r, c, rfl, rw2, by omega, fun n H3 s3 rw3 n0 n1 => ⟨(by show 1 ≤ sizeLine; decide), fun p np => ?_⟩⟩
        have sx3 : SameX r H H3 := (sx.trans (SameX.of s2)).trans s3
        have np0 : H p = none := by
          cases q : H p with
          | none => rfl
          | some v =>
            by_cases e : p = r
            · obtain ⟨ns, e3⟩ := rw3
              rw [e, e3] at np
              cases np
            · have := sx3 _ _ e q
              rw [np] at this
              cases this
        exact kk [n] p _ (sx3.trans (SameX.of (same_upd np))) (RowAt.same (same_upd np) rw3) ⟨by show 0 < 1; decide, by show 1 ≤ 1000; decide, fun g hg => by have := List.mem_singleton.mp hg; omega, List.pairwise_singleton _ _⟩ np0 (by rw [upd_same]; rfl)
      · have hne : acc ≠ [] := fun q => e (decide_eq_true q)
        exact ⟨_, rfl, kk acc D _ (sx.trans (SameX.of s2)) (RowAt.same s2 rw1) ⟨List.length_pos_iff.mpr hne, by omega, l2, l3⟩ hD (s2 _ _ hacc)⟩
/-! ### some sets -/
def spSets : Sp := fun vs H Q _ => ∃ (M : List Addr) (r : Addr) (c lo hi : Nat), vs = [.ref r, .int c, .int lo, .int hi] ∧ r ∈ M ∧ (∀ b ∈ M, H b ≠ none) ∧ RowAt H r ∧ 0 < c ∧ c ≤ 1000 ∧ lo ≤ hi ∧ hi ≤ 100 ∧
  ∀ (ss : Pat) p H', SameX r H H' → RowAt H' r → (∀ s ∈ ss, IsSet c s) → lo ≤ ss.length → ss.length ≤ hi → H p = none → PatR (cut M H') (.ref p) ss → Q (.ref p) H'
theorem sc_sets : FnScope ["_law_row", "_law_count", "_law_least", "_law_most", "_law_k"] ["_law_row", "_law_count", "_law_least", "_law_most"] (defScope s_law_sets) := ⟨rfl, rfl, rfl, by decide +kernel, rfl, by decide +kernel, by decide +kernel⟩
theorem freshX {r p : Addr} {H H' : Hp} (hr : RowAt H' r) (s : SameX r H H') (np : H' p = none) : H p = none := by
  cases q : H p with
  | none => rfl
  | some v =>
    by_cases e : p = r
    · obtain ⟨ns, e3⟩ := hr
      rw [e, e3] at np
      cases np
    · have := s _ _ e q
      rw [np] at this
      cases this
theorem thereX {r : Addr} {M : List Addr} {H H' : Hp} (hr : RowAt H' r) (s : SameX r H H') (hM : ∀ b ∈ M, H b ≠ none) : ∀ b ∈ M, H' b ≠ none := fun b hb => s.there hr.ne (hM b hb)
theorem c_sets (T : Txt K mg) : Cal P w K mg base 3 "_law_sets" ["_law_row", "_law_count", "_law_least", "_law_most"] spSets := by
  obtain ⟨fd, F⟩ := T.f_law_sets
  refine cal_of F T.g_law_sets sc_sets (fun vs H Q E h => ?_) (fun _ _ _ _ _ _ us hl => match us, hl with | [_, _, _, _], _ => rfl) (fun cdv A outer s H vs Q E hr h => ?_)
  · obtain ⟨M, r, c, lo, hi, rfl, _⟩ := h
    rfl
  · obtain ⟨M, r, c, lo, hi, rfl, hrM, hM, hrow, c0, c1, lh, h100, kk⟩ := h
    have nd := sc_sets.nd
    have hr1 : Room 1 _ := hr.mono (by decide)
    refine ⟨_, pss_one (ps_ret (pe_lc (own := [("_law_k", 4)]) (g := gName 4) (tt := tYes) (te := tCall spSetL [] E0 (tCons (tVar 0) (tCons (tVar 1) tNil))) rfl nd
        (pi_range1 (by rfl) T.b_range (pa_cons (pe_op op_add (pv 2) (pe_cal (c_take T) hr1 rfl (pa_cons (pv 0) (pa_cons (pe_op op_add (pe_op op_sub (pv 3) (pv 2)) pe_int) pa_nil)))) pa_nil)) (blkOk_by (N := ["_law_row", "_law_count", "_law_least", "_law_most", "_law_k"]) (sc := defScope s_law_sets) (by decide +kernel))
        (fun _ _ _ _ _ => pg_name (i := 4) nd rfl (Or.inl rfl)) (fun _ _ _ _ _ => pts_nil) (fun _ _ _ _ _ => pe_cal (c_setL T) hr rfl (pa_cons (pv 0) (pa_cons (pv 1) pa_nil))))), ?_⟩
    refine ⟨_, rfl, _, rfl, _, rfl, _, rfl, _, _, rfl, rfl, _, _, rfl, rfl, r, _, rfl, hrow, by omega, fun n H1 s1 rw1 n0 n1 => ⟨_, _, rfl, rfl, (lo : Int) + n, rfl, by omega, by omega, fun D hD => ?_⟩⟩
    have hM1 := thereX rw1 s1 hM
    obtain ⟨m, em⟩ : ∃ m : Nat, (lo : Int) + n = m := ⟨((lo : Int) + n).toNat, by omega⟩
    rw [em, Int.toNat_natCast]
    refine lc_draw (lo := 0) (n := m) IL (fun _ s => IsSet c s) r M hrM hM1 hD rw1 (len_small (by omega)) ?_ fun H2 ss s2 cm rw2 hl hp hR => ?_
    · intro i H2 hi s2 cm rw2 hth Q2 kQ
      exact ⟨rfl, _, rfl, _, rfl, r, c, rfl, rw2, c0, c1, fun ss p H3 s3 rw3 is np e => kQ _ _ ss s3 rw3 is ⟨p, rfl, cut_of e (not_in_of hth np)⟩⟩
    · exact kk ss D H2 (s1.trans s2) rw2 (fun s hs => by
        obtain ⟨i, hi⟩ := List.mem_iff_getElem?.mp hs
        exact hp i s hi) (by omega) (by omega) (freshX rw1 s1 hD) hR
end
end K26


set_option maxHeartbeats 4000000
namespace K26
open PySem PySem.Spec PyProof.Rows L2
/-- a rule as the law draws it -/
def RuleT : Rp RuleD := fun H v r => ∃ (t : Addr) (i b a o c : V), v = .ref t ∧ H t = some (.tup [i, b, a, o, c]) ∧ PatR H i r.inside ∧ PatR H b r.back ∧ PatR H a r.ahead ∧ IL H o r.out ∧ Ls CallR H c r.calls
instance : Mono RuleT := ⟨fun s h => by
  obtain ⟨t, i, b, a, o, c, e, h0, h1, h2, h3, h4, h5⟩ := h
  exact ⟨t, i, b, a, o, c, e, s _ _ h0, Mono.mono s h1, Mono.mono s h2, Mono.mono s h3, Mono.mono s h4, Mono.mono s h5⟩⟩
theorem cut1 (x : V) (xs : List V) : cutV (x :: xs) none (some 1) = [x] := by
  unfold cutV
  have e1 : HT.sIx (x :: xs).length 0 none = 0 := rfl
  have e2 : HT.sIx (x :: xs).length (x :: xs).length (some 1) = 1 := by
    unfold HT.sIx
    simp
    try omega
  rw [e1, e2]
  rfl
theorem asc_len (c : Int) : ∀ (s : List Int) (lo : Int), lo ≤ c → s.Pairwise (· < ·) → (∀ g ∈ s, lo ≤ g ∧ g < c) → (s.length : Int) ≤ c - lo
  | [], lo, h, _, _ => by
    show (0 : Int) ≤ _
    omega
  | x :: xs, lo, h, p, hg => by
    obtain ⟨p1, p2⟩ := List.pairwise_cons.mp p
    have hx := hg x (List.mem_cons_self ..)
    have q := asc_len c xs (lo + 1) (by omega) p2 fun g h => ⟨by have := p1 g h; omega, (hg g (List.mem_cons_of_mem _ h)).2⟩
    rw [List.length_cons]
    omega
theorem IsSet.len {c : Nat} {s : List Int} (h : IsSet c s) : s.length ≤ c := by
  have := asc_len c s 0 (by omega) h.asc h.inr
  omega
theorem none_of {H H' : Hp} {p : Addr} (s : Same H H') (n : H' p = none) : H p = none := by
  cases q : H p with
  | none => rfl
  | some v =>
    have := s _ _ q
    rw [n] at this
    cases this
abbrev five : List Str := ["single", "multiple", "ligature", "chain", "reverse"]
structure LawR (ks : List Str) (kind : Str) (c : Nat) (r : RuleD) : Prop where
  v : RuleV ks kind c r
  i3 : r.inside.length ≤ 3
  b2 : r.back.length ≤ 2
  a2 : r.ahead.length ≤ 2
def isCall (ks : List Str) (l : Int) : Prop := ∃ n : Nat, l = n ∧ (ks[n]? = some "single" ∨ ks[n]? = some "multiple")
/-- a rule under way: stage n -/
structure RU (kind : Str) (c : Nat) (M : List Addr) (r cl : Addr) (H H1 : Hp) (iv bv av ov : V) (rl : RuleD) (n : Nat) : Prop where
  same : SameX r H H1
  row : RowAt H1 r
  i : PatR (cut (cl :: M) H1) iv rl.inside
  b : PatR (cut (cl :: M) H1) bv rl.back
  a : PatR (cut (cl :: M) H1) av rl.ahead
  o : IL (cut (cl :: M) H1) ov rl.out
  si : ∀ s ∈ rl.inside, IsSet c s
  sb : ∀ s ∈ rl.back, IsSet c s
  sa : ∀ s ∈ rl.ahead, IsSet c s
  i1 : 1 ≤ rl.inside.length
  i3 : rl.inside.length ≤ 3
  b2 : rl.back.length ≤ 2
  a2 : rl.ahead.length ≤ 2
  outr : ∀ g ∈ rl.out, 0 ≤ g ∧ g < (c : Int)
  o8 : rl.out.length ≤ 8
  f3 : 3 ≤ n → inV (.str kind) [V.str "single", V.str "multiple", V.str "reverse"] = true → rl.inside.length = 1
  f4 : 4 ≤ n → kind = "ligature" → 2 ≤ rl.inside.length
  f5 : inV (.str kind) [V.str "chain", V.str "reverse"] = false → rl.back = [] ∧ rl.ahead = []
  f6 : 6 ≤ n → inV (.str kind) [V.str "single", V.str "reverse"] = true → ∃ s, rl.inside[0]? = some s ∧ rl.out.length = s.length
  f8 : 8 ≤ n → kind = "ligature" → rl.out.length = 1
  ch : kind = "chain" → rl.out = []
theorem RU.keep {kind : Str} {c : Nat} {M : List Addr} {r cl : Addr} {H H1 H2 : Hp} {iv bv av ov : V} {rl : RuleD} {n : Nat} (u : RU kind c M r cl H H1 iv bv av ov rl n) (hr : r ∈ M) (s : SameX r H1 H2) (w : RowAt H2 r) : RU kind c M r cl H H2 iv bv av ov rl n :=
  have sc : Same (cut (cl :: M) H1) (cut (cl :: M) H2) := s.cutX (List.mem_cons_of_mem _ hr)
  { u with same := u.same.trans s, row := w, i := Mono.mono sc u.i, b := Mono.mono sc u.b, a := Mono.mono sc u.a, o := Mono.mono sc u.o }
/-- a write to the list of calls -/
theorem RU.put {kind : Str} {c : Nat} {M : List Addr} {r cl : Addr} {H H1 : Hp} {iv bv av ov : V} {rl : RuleD} {n : Nat} {o : HO} (u : RU kind c M r cl H H1 iv bv av ov rl n) (hc : H cl = none) (ne : cl ≠ r) : RU kind c M r cl H (upd H1 cl o) iv bv av ov rl n := by
  have e : cut (cl :: M) (upd H1 cl o) = cut (cl :: M) H1 := cut_upd (List.mem_cons_self ..)
  exact { u with
    same := sameX_put hc u.same
    row := by
      obtain ⟨ns, h⟩ := u.row
      exact ⟨ns, by rw [upd_ne ne.symm]; exact h⟩
    i := by rw [e]; exact u.i
    b := by rw [e]; exact u.b
    a := by rw [e]; exact u.a
    o := by rw [e]; exact u.o }
theorem RU.up {kind : Str} {c : Nat} {M : List Addr} {r cl : Addr} {H H1 : Hp} {iv bv av ov : V} {rl : RuleD} (n m : Nat) (u : RU kind c M r cl H H1 iv bv av ov rl n) (h3 : m ≤ 2 ∨ 3 ≤ n ∨ (inV (.str kind) [V.str "single", V.str "multiple", V.str "reverse"] = true → rl.inside.length = 1))
    (h4 : m ≤ 3 ∨ 4 ≤ n ∨ (kind = "ligature" → 2 ≤ rl.inside.length)) (h6 : m ≤ 5 ∨ 6 ≤ n ∨ (inV (.str kind) [V.str "single", V.str "reverse"] = true → ∃ s, rl.inside[0]? = some s ∧ rl.out.length = s.length)) (h8 : m ≤ 7 ∨ 8 ≤ n ∨ (kind = "ligature" → rl.out.length = 1)) :
    RU kind c M r cl H H1 iv bv av ov rl m :=
  { u with
    f3 := fun q k => by
      rcases h3 with h | h | h
      · omega
      · exact u.f3 h k
      · exact h k
    f4 := fun q k => by
      rcases h4 with h | h | h
      · omega
      · exact u.f4 h k
      · exact h k
    f6 := fun q k => by
      rcases h6 with h | h | h
      · omega
      · exact u.f6 h k
      · exact h k
    f8 := fun q k => by
      rcases h8 with h | h | h
      · omega
      · exact u.f8 h k
      · exact h k }
/-- between two statements -/
def MidR (kind : Str) (c : Nat) (M : List Addr) (r ca : Addr) (H : Hp) (n : Nat) : L2.St → Hp → Prop := fun σ H1 => ∃ (iv bv av ov : V) (rl : RuleD) (cl : Addr) (y9 y10 y11 : Option V),
  σ = [some (.ref r), some (.str kind), some (.int c), some (.ref ca), some iv, some bv, some av, some ov, some (.ref cl), y9, y10, y11] ∧ cl ≠ r ∧ cl ∉ M ∧ H cl = none ∧ H1 cl = some (.lst []) ∧ RU kind c M r cl H H1 iv bv av ov rl n ∧ rl.calls = []
theorem mid_of {kind : Str} {c : Nat} {M : List Addr} {r ca cl : Addr} {H H1 : Hp} {n : Nat} {iv bv av ov : V} {rl : RuleD} {y9 y10 y11 : Option V} (h1 : cl ≠ r) (h2 : cl ∉ M) (h3 : H cl = none) (h4 : H1 cl = some (.lst [])) (h5 : RU kind c M r cl H H1 iv bv av ov rl n) (h6 : rl.calls = []) :
    MidR kind c M r ca H n [some (.ref r), some (.str kind), some (.int c), some (.ref ca), some iv, some bv, some av, some ov, some (.ref cl), y9, y10, y11] H1 := ⟨iv, bv, av, ov, rl, cl, y9, y10, y11, rfl, h1, h2, h3, h4, h5, h6⟩
theorem chn_in : inV (.str "chain") [V.str "single", V.str "reverse"] = false := by decide +kernel
theorem mul_in : inV (.str "multiple") [V.str "single", V.str "reverse"] = false := by decide +kernel
theorem lig_in : inV (.str "ligature") [V.str "single", V.str "reverse"] = false := by decide +kernel
theorem lig_in3 : inV (.str "ligature") [V.str "single", V.str "multiple", V.str "reverse"] = false := by decide +kernel
section
variable {P : Program} {w : World} {K : PySem.W.Frag} {mg : Str → Option Value} {base : Heap}
def spLRule : Sp := fun vs H Q _ => ∃ (M : List Addr) (r : Addr) (kind : Str) (c : Nat) (called : List Int) (cv : V) (ks : List Str), vs = [.ref r, .str kind, .int c, cv] ∧ r ∈ M ∧ (∀ b ∈ M, H b ≠ none) ∧ RowAt H r ∧ 2 ≤ c ∧ c ≤ 5 ∧ kind ∈ five ∧ IL (cut M H) cv called ∧ called.length ≤ 1000 ∧
  (∀ l ∈ called, isCall ks l) ∧ ∀ rl v H', SameX r H H' → RowAt H' r → LawR ks kind c rl → RuleT (cut M H') v rl → Q v H'
abbrev nsRule : List Str := ["_law_row", "_law_kind", "_law_count", "_law_called", "_law_inside", "_law_back", "_law_ahead", "_law_out", "_law_calls", "_law_index", "_law_glyph", "_law_k"]
theorem sc_lrule : FnScope nsRule ["_law_row", "_law_kind", "_law_count", "_law_called"] (defScope s_law_rule) := ⟨rfl, rfl, rfl, by decide +kernel, rfl, by decide +kernel, by decide +kernel⟩
theorem c_lrule (T : Txt K mg) : Cal P w K mg base 4 "_law_rule" ["_law_row", "_law_kind", "_law_count", "_law_called"] spLRule := by
  obtain ⟨fd, F⟩ := T.f_law_rule
  refine cal_of F T.g_law_rule sc_lrule (fun vs H Q E h => ?_) (fun _ _ _ _ _ _ us hl => match us, hl with | [_, _, _, _], _ => rfl) (fun cdv A outer s H vs Q E hr h => ?_)
  · obtain ⟨M, r, kind, c, called, cv, ks, rfl, _⟩ := h
    rfl
  · obtain ⟨M, r, kind, c, called, cv, ks, rfl, hrM, hM, hrow, c2, c5, hk5, ⟨ca, rfl, hca⟩, lca, hcall, kk⟩ := h
    have nd := sc_lrule.nd
    have hr1 : Room 1 _ := hr.mono (by decide)
    have hr2 : Room 2 _ := hr.mono (by decide)
    refine ⟨_, Evl.pss_cut (ps_set (i := 4) nd rfl (.inl rfl) (pe_cal (c_sets T) hr rfl (pa_cons (pv 0) (pa_cons (pv 2) (pa_cons pe_int (pa_cons pe_int pa_nil))))))
      (Evl.pss_cut (ps_asg (pe_tup (pa_cons (pe_lst pa_nil) (pa_cons (pe_lst pa_nil) (pa_cons (pe_lst pa_nil) (pa_cons (pe_lst pa_nil) pa_nil))))) (pg_tup rfl (pgs_cons (pg_name (i := 5) nd rfl (.inl rfl)) (pgs_cons (pg_name (i := 6) nd rfl (.inl rfl)) (pgs_cons (pg_name (i := 7) nd rfl (.inl rfl)) (pgs_cons (pg_name (i := 8) nd rfl (.inl rfl)) pgs_nil))))))
      (Evl.pss_cut (ps_if (pt_cmpR op_in_seq (pv 1) (pe_lst (pa_cons pe_str (pa_cons pe_str (pa_cons pe_str pa_nil)))) (by rfl)) (pss_one (ps_set (i := 4) nd rfl (.inl rfl) (pe_slice sl_list (pv 4) po_none (po_some pe_int)))) pss_nil)
      (Evl.pss_cut (ps_if (PW.pt (pw_and (pt_cmpR op_eq (pv 1) pe_str (nomark _)) (pw_and1 (pt_cmpR op_eq (pe_callB call_len_seq (by rfl) T.b_len boot_len (pa_cons (pv 4) pa_nil)) pe_int (nomark _))))) (pss_one (ps_set (i := 4) nd rfl (.inl rfl) (pe_op op_cat (pv 4) (pe_lst (pa_cons (pe_cal (c_setL T) hr2 rfl (pa_cons (pv 0) (pa_cons (pv 2) pa_nil))) pa_nil))))) pss_nil)
      (Evl.pss_cut (ps_if (pt_cmpR op_in_seq (pv 1) (pe_lst (pa_cons pe_str (pa_cons pe_str pa_nil))) (by rfl)) (pss_cons (ps_set (i := 5) nd rfl (.inl rfl) (pe_cal (c_sets T) hr rfl (pa_cons (pv 0) (pa_cons (pv 2) (pa_cons pe_int (pa_cons pe_int pa_nil))))))
        (pss_one (ps_set (i := 6) nd rfl (.inl rfl) (pe_cal (c_sets T) hr rfl (pa_cons (pv 0) (pa_cons (pv 2) (pa_cons pe_int (pa_cons pe_int pa_nil)))))))) pss_nil)
      (Evl.pss_cut (ps_if (pt_cmpR op_in_seq (pv 1) (pe_lst (pa_cons pe_str (pa_cons pe_str pa_nil))) (by rfl)) (pss_one (ps_setLc (i := 7) (own := [("_law_glyph", 10)]) (g := gName 10) (tt := tYes) (te := tCall spTake [] E0 (tCons (tVar 0) (tCons (tVar 2) tNil))) rfl nd rfl rfl (sw_true rfl rfl rfl (by decide +kernel))
          (pi_list (pe_ix ix_list (pv 4) pe_int (fun _ _ => rfl))) (blkOk_by (N := nsRule) (sc := defScope s_law_rule) (by decide +kernel)) (fun _ _ _ _ _ => pg_name (i := 10) nd rfl (Or.inl rfl)) (fun _ _ _ _ _ => pts_nil) (fun _ _ _ _ _ => pe_cal (c_take T) hr1 rfl (pa_cons (pv 0) (pa_cons (pv 2) pa_nil))))) pss_nil)
      (Evl.pss_cut (ps_if (pt_cmpR op_eq (pv 1) pe_str (nomark _)) (pss_one (ps_setLc (i := 7) (own := [("_law_k", 11)]) (g := gName 11) (tt := tYes) (te := tCall spTake [] E0 (tCons (tVar 0) (tCons (tVar 2) tNil))) rfl nd rfl rfl (sw_true rfl rfl rfl (by decide +kernel))
          (pi_range1 (by rfl) T.b_range (pa_cons (pe_cal (c_take T) hr1 rfl (pa_cons (pv 0) (pa_cons pe_int pa_nil))) pa_nil)) (blkOk_by (N := nsRule) (sc := defScope s_law_rule) (by decide +kernel)) (fun _ _ _ _ _ => pg_name (i := 11) nd rfl (Or.inl rfl)) (fun _ _ _ _ _ => pts_nil) (fun _ _ _ _ _ => pe_cal (c_take T) hr1 rfl (pa_cons (pv 0) (pa_cons (pv 2) pa_nil))))) pss_nil)
      (Evl.pss_cut (ps_if (pt_cmpR op_eq (pv 1) pe_str (nomark _)) (pss_one (ps_set (i := 7) nd rfl (.inl rfl) (pe_lst (pa_cons (pe_cal (c_take T) hr1 rfl (pa_cons (pv 0) (pa_cons (pv 2) pa_nil))) pa_nil)))) pss_nil)
      (Evl.pss_cut (ps_if (PW.pt (pw_and (pt_cmpR op_eq (pv 1) pe_str (nomark _)) (pw_and1 (pt_truth (pv 3) (by intro _; rfl))))) (pss_one (ps_for PassesOwn.never rfl (pi_range1 (by rfl) T.b_range (pa_cons (pe_callB call_len_seq (by rfl) T.b_len boot_len (pa_cons (pv 4) pa_nil)) pa_nil)) (pg_name (i := 9) nd rfl (.inl rfl))
          (pss_one (ps_if (pt_cmpR op_eq (pe_cal (c_take T) hr1 rfl (pa_cons (pv 0) (pa_cons pe_int pa_nil))) pe_int (nomark _)) (pss_one (ps_expr (pe_bm PySem.F.plainAttrs_list PySem.F.slot_list_append PySem.F.type_list_append mt_append (pv 8)
            (pa_cons (pe_tup (pa_cons (pv 9) (pa_cons (pe_ix ix_list (pv 3) (pe_cal (c_take T) hr1 rfl (pa_cons (pv 0) (pa_cons (pe_callB call_len_seq (by rfl) T.b_len boot_len (pa_cons (pv 3) pa_nil)) pa_nil))) (fun _ _ => rfl)) pa_nil))) pa_nil)))) pss_nil)))) pss_nil)
      (pss_one (ps_ret (pe_tup (pa_cons (pv 4) (pa_cons (pv 5) (pa_cons (pv 6) (pa_cons (pv 7) (pa_cons (pv 8) pa_nil)))))))))))))))), ?_⟩
    -- inside
    refine ⟨fun σ H1 => ∃ (p : Addr) (ss : Pat), σ = [some (.ref r), some (.str kind), some (.int c), some (.ref ca), some (.ref p), none, none, none, none, none, none, none] ∧ SameX r H H1 ∧ RowAt H1 r ∧ PatR (cut M H1) (.ref p) ss ∧ (∀ s ∈ ss, IsSet c s) ∧ 1 ≤ ss.length ∧ ss.length ≤ 3, ?_, ?_⟩
    · exact ⟨_, rfl, _, rfl, M, r, c, 1, 3, rfl, hrM, hM, hrow, by omega, by omega, by decide, by decide, fun ss p H1 s1 w1 is l1 l3 np pr => ⟨p, ss, rfl, s1, w1, pr, is, l1, l3⟩⟩
    rintro σ H1 ⟨p, ss, rfl, s1, w1, pr, is, l1, l3⟩
    have hM1 := thereX w1 s1 hM
    refine ⟨MidR kind c M r ca H 2, ?_, ?_⟩
    · refine ⟨Nat.zero_le _, fun lb nb => ⟨Nat.zero_le _, fun la na => ⟨Nat.zero_le _, fun lo no => ⟨Nat.zero_le _, fun lc nc => ⟨(by show 4 ≤ sizeLine; decide), fun t nt => ?_⟩⟩⟩⟩⟩
      have b1 : Same H1 (upd H1 lb (.lst [])) := same_upd nb
      have b2 : Same (upd H1 lb (.lst [])) (upd (upd H1 lb (.lst [])) la (.lst [])) := same_upd na
      have b3 : Same (upd (upd H1 lb (.lst [])) la (.lst [])) (upd (upd (upd H1 lb (.lst [])) la (.lst [])) lo (.lst [])) := same_upd no
      have b4 : Same (upd (upd (upd H1 lb (.lst [])) la (.lst [])) lo (.lst [])) (upd (upd (upd (upd H1 lb (.lst [])) la (.lst [])) lo (.lst [])) lc (.lst [])) := same_upd nc
      have b5 : Same (upd (upd (upd (upd H1 lb (.lst [])) la (.lst [])) lo (.lst [])) lc (.lst [])) (upd (upd (upd (upd (upd H1 lb (.lst [])) la (.lst [])) lo (.lst [])) lc (.lst [])) t (.tup [V.ref lb, V.ref la, V.ref lo, V.ref lc])) := same_upd nt
      have eb := b5 _ _ (b4 _ _ (b3 _ _ (b2 _ _ (upd_same (H := H1) (a := lb) (o := .lst [])))))
      have ea := b5 _ _ (b4 _ _ (b3 _ _ (upd_same (H := upd H1 lb (.lst [])) (a := la) (o := .lst []))))
      have eo := b5 _ _ (b4 _ _ (upd_same (H := upd (upd H1 lb (.lst [])) la (.lst [])) (a := lo) (o := .lst [])))
      have ec := b5 _ _ (upd_same (H := upd (upd (upd H1 lb (.lst [])) la (.lst [])) lo (.lst [])) (a := lc) (o := .lst []))
      have n2 : lb ≠ lc := ne_of_none (b3 _ _ (b2 _ _ (upd_same (H := H1) (a := lb) (o := .lst [])))) nc
      have n3 : la ≠ lc := ne_of_none (b3 _ _ (upd_same (H := upd H1 lb (.lst [])) (a := la) (o := .lst []))) nc
      have n4 : lo ≠ lc := ne_of_none (upd_same (H := upd (upd H1 lb (.lst [])) la (.lst [])) (a := lo) (o := .lst [])) nc
      have sA : Same H1 (upd (upd (upd (upd H1 lb (.lst [])) la (.lst [])) lo (.lst [])) lc (.lst [])) := b1.trans (b2.trans (b3.trans b4))
      have s13 := b1.trans (b2.trans b3)
      have m1 : lb ∉ M := not_in_of hM1 nb
      have m2 : la ∉ M := not_in_of (there_same b1 hM1) na
      have m3 : lo ∉ M := not_in_of (there_same (b1.trans b2) hM1) no
      have m4 : lc ∉ M := not_in_of (there_same s13 hM1) nc
      have fc : H lc = none := freshX (RowAt.same s13 w1) (s1.trans (SameX.of s13)) nc
      have ncl : H1 lc = none := none_of s13 nc
      have ncr : lc ≠ r := fun q => (RowAt.same s13 w1).ne (by rw [← q]; exact nc)
      have et := upd_same (H := upd (upd (upd (upd H1 lb (.lst [])) la (.lst [])) lo (.lst [])) lc (.lst [])) (a := t) (o := .tup [V.ref lb, V.ref la, V.ref lo, V.ref lc])
      have sB := sA.trans b5
      clear b1 b2 b3 b4 b5 s13 sA na no nc nt
      generalize upd (upd (upd (upd (upd H1 lb (.lst [])) la (.lst [])) lo (.lst [])) lc (.lst [])) t (.tup [V.ref lb, V.ref la, V.ref lo, V.ref lc]) = H2 at *
      have ct {b : Addr} (h1 : b ≠ lc) (h2 : b ∉ M) : b ∉ lc :: M := by
        simp only [List.mem_cons, not_or]
        exact ⟨h1, h2⟩
      have pr2 : PatR (cut (lc :: M) H2) (.ref p) ss := Mono.mono (same_cut_new ncl (Same.newD ncl sB)) pr
      refine ⟨t, _, rfl, SqT.of et, rfl, _, _, rfl, _, _, rfl, _, _, rfl, _, _, rfl, rfl, ?_⟩
      refine mid_of (rl := ⟨ss, [], [], [], []⟩) ncr m4 fc ec ⟨s1.trans (SameX.of sB), RowAt.same sB w1, pr2, ⟨lb, [], rfl, cut_of eb (ct n2 m1), .nil⟩, ⟨la, [], rfl, cut_of ea (ct n3 m2), .nil⟩, ⟨lo, rfl, cut_of eo (ct n4 m3)⟩,
        is, fun s h => absurd h List.not_mem_nil, fun s h => absurd h List.not_mem_nil, l1, l3, Nat.zero_le _, Nat.zero_le _, fun s h => absurd h List.not_mem_nil, Nat.zero_le _, fun h => absurd h (by decide), fun h => absurd h (by decide), fun _ => ⟨rfl, rfl⟩, fun h => absurd h (by decide), fun h => absurd h (by decide), fun _ => rfl⟩ rfl
    clear s1 w1 pr is l1 l3 hM1
    -- inside[:1]
    rintro σ H1 ⟨iv, bv, av, ov, rl, cl, y9, y10, y11, rfl, ncr, ncM, ncl, ecl, u, e0⟩
    refine ⟨MidR kind c M r ca H 3, ?_, ?_⟩
    · refine ⟨_, rfl, (by show 3 ≤ sizeLine; decide), fun l nl => ⟨l, _, rfl, .inl (SqL.of upd_same), rfl, rfl, _, rfl, ?_⟩⟩
      have s2 : Same H1 (upd H1 l (.lst [V.str "single", V.str "multiple", V.str "reverse"])) := same_upd nl
      have u2 := u.keep hrM (SameX.of s2) (RowAt.same s2 u.row)
      have ecl2 := s2 _ _ ecl
      have hM2 := thereX u2.row u2.same hM
      generalize upd H1 l (.lst [V.str "single", V.str "multiple", V.str "reverse"]) = H2 at *
      refine ite2 (fun e => ?_) (fun e => ?_)
      · obtain ⟨ia, ivs, rfl, hia, ip⟩ := u2.i
        have i1 := u2.i1
        obtain ⟨inside, back, ahead, out, calls⟩ := rl
        match inside, ivs, ip, i1 with
        | s0 :: ss, x0 :: xs, .cons ip0 ips, _ =>
          refine ⟨_, rfl, _, rfl, ia, _, rfl, SqL.of (cut_get hia).2, fun p np => ?_⟩
          rw [cut1]
          have s3 : Same H2 (upd H2 p (.lst [x0])) := same_upd np
          have u3 := u2.keep hrM (SameX.of s3) (RowAt.same s3 u2.row)
          have npc : p ≠ cl := (ne_of_none ecl2 np).symm
          have npM : p ∉ cl :: M := by
            simp only [List.mem_cons, not_or]
            exact ⟨npc, not_in_of hM2 np⟩
          exact mid_of (rl := ⟨[s0], back, ahead, out, calls⟩) ncr ncM ncl (s3 _ _ ecl2) { u3 with
            i := ⟨p, [x0], rfl, cut_of upd_same npM, .cons (Mono.mono (s3.cutS _) ip0) .nil⟩
            si := fun s h => u3.si s (by rw [List.mem_singleton.mp h]; exact List.mem_cons_self ..)
            i1 := Nat.le_refl _
            i3 := by show 1 ≤ 3; decide
            f3 := fun _ _ => rfl
            f4 := fun h => absurd h (by decide)
            f6 := fun h => absurd h (by decide)
            f8 := fun h => absurd h (by decide) } e0
      · exact mid_of ncr ncM ncl ecl2 (u2.up 2 3 (.inr (.inr fun k => absurd k e)) (.inl (by decide)) (.inl (by decide)) (.inl (by decide))) e0
    clear u ecl ncr ncM ncl e0
    rintro σ H1 ⟨iv, bv, av, ov, rl, cl, y9, y10, y11, rfl, ncr, ncM, ncl, ecl, u, e0⟩
    refine ⟨MidR kind c M r ca H 4, ?_, ?_⟩
    · refine ⟨_, rfl, rfl, _, rfl, ite2 (fun e => ?_) (fun e => iteF ?_)⟩
      · have ek : kind = "ligature" := V.str.inj (of_decide_eq_true e)
        obtain ⟨ia, ivs, rfl, hia, ip⟩ := u.i
        refine ⟨_, rfl, ia, _, rfl, .inl (SqL.of (cut_get hia).2), rfl, _, rfl, ite2 (fun e2 => ?_) (fun e2 => ?_)⟩
        · have i1 : (ivs.length : Int) = 1 := V.int.inj (of_decide_eq_true e2)
          have lip := ip.length
          refine ⟨_, rfl, _, rfl, _, rfl, r, c, rfl, u.row, by omega, by omega, fun s p H2 s2 w2 is np ep => ⟨(by show 1 ≤ sizeLine; decide), fun q nq => ?_⟩⟩
          have u2 := u.keep hrM s2 w2
          have ecl2 := s2 _ _ ncr ecl
          have hM1 := thereX u.row u.same hM
          have hM2 := thereX u2.row u2.same hM
          have npc : p ≠ cl := (ne_of_none ecl np).symm
          have npM : p ∉ cl :: M := by
            simp only [List.mem_cons, not_or]
            exact ⟨npc, not_in_of hM1 np⟩
          have hia2 : H2 ia = some (.lst ivs) := (cut_get (s2.cutX (M := cl :: M) (List.mem_cons_of_mem _ hrM) _ _ hia)).2
          have s3 : Same H2 (upd H2 q (.lst [V.ref p])) := same_upd nq
          refine ⟨ia, q, _, _, rfl, rfl, s3 _ _ hia2, upd_same, len_small' (by rw [List.length_singleton]; omega), fun z nz => ?_⟩
          have s4 := s3.trans (same_upd (o := .lst (ivs ++ [V.ref p])) nz)
          have u4 := u2.keep hrM (SameX.of s4) (RowAt.same s4 u2.row)
          have nzc : z ≠ cl := (ne_of_none (s3 _ _ ecl2) nz).symm
          have nzM : z ∉ cl :: M := by
            simp only [List.mem_cons, not_or]
            exact ⟨nzc, not_in_of (there_same s3 hM2) nz⟩
          have sc4 : Same (cut (cl :: M) H1) (cut (cl :: M) (upd (upd H2 q (.lst [V.ref p])) z (.lst (ivs ++ [V.ref p])))) := (s2.trans (SameX.of s4)).cutX (List.mem_cons_of_mem _ hrM)
          exact mid_of (rl := ⟨rl.inside ++ [s], rl.back, rl.ahead, rl.out, rl.calls⟩) ncr ncM ncl (s4 _ _ ecl2) { u4 with
            i := ⟨z, _, rfl, cut_of upd_same nzM, paired_app (pair_mono sc4 ip) (.cons ⟨p, rfl, cut_of (s4 _ _ ep) npM⟩ .nil)⟩
            si := fun s' h => by
              rcases List.mem_append.mp h with h | h
              · exact u4.si s' h
              · rw [List.mem_singleton.mp h]
                exact is
            i1 := by
              show 1 ≤ (rl.inside ++ [s]).length
              rw [List.length_append, List.length_singleton]
              omega
            i3 := by
              show (rl.inside ++ [s]).length ≤ 3
              rw [List.length_append, List.length_singleton]
              omega
            f3 := fun _ k => by
              rw [ek, lig_in3] at k
              cases k
            f4 := fun _ _ => by
              show 2 ≤ (rl.inside ++ [s]).length
              rw [List.length_append, List.length_singleton]
              omega
            f6 := fun h => absurd h (by decide)
            f8 := fun h => absurd h (by decide) } e0
        · have i1 := u.i1
          have lip := ip.length
          have i2 : 2 ≤ rl.inside.length := by
            have : ¬ (ivs.length : Int) = 1 := fun q => e2 (decide_eq_true (by rw [q]))
            omega
          exact mid_of ncr ncM ncl ecl (u.up 3 4 (.inr (.inl (by decide))) (.inr (.inr fun _ => i2)) (.inl (by decide)) (.inl (by decide))) e0
      · exact mid_of ncr ncM ncl ecl (u.up 3 4 (.inr (.inl (by decide))) (.inr (.inr fun k => absurd (decide_eq_true (by rw [k])) e)) (.inl (by decide)) (.inl (by decide))) e0
    clear u ecl ncr ncM ncl e0
    rintro σ H1 ⟨iv, bv, av, ov, rl, cl, y9, y10, y11, rfl, ncr, ncM, ncl, ecl, u, e0⟩
    -- back, ahead
    refine ⟨MidR kind c M r ca H 5, ?_, ?_⟩
    · refine ⟨_, rfl, (by show 2 ≤ sizeLine; decide), fun l nl => ⟨l, _, rfl, .inl (SqL.of upd_same), rfl, rfl, _, rfl, ?_⟩⟩
      have s2 : Same H1 (upd H1 l (.lst [V.str "chain", V.str "reverse"])) := same_upd nl
      have u2 := u.keep hrM (SameX.of s2) (RowAt.same s2 u.row)
      have ecl2 := s2 _ _ ecl
      have hM2 := thereX u2.row u2.same hM
      generalize upd H1 l (.lst [V.str "chain", V.str "reverse"]) = H2 at *
      have hM2c : ∀ b ∈ cl :: M, H2 b ≠ none := fun b hb => by
        rcases List.mem_cons.mp hb with q | hb
        · rw [q]
          exact some_ne ecl2
        · exact hM2 b hb
      refine ite2 (fun e => ?_) (fun e => ?_)
      · refine ⟨_, rfl, _, rfl, cl :: M, r, c, 0, 2, rfl, List.mem_cons_of_mem _ hrM, hM2c, u2.row, by omega, by omega, by decide, by decide, fun bb p H3 s3 w3 ib b1 b2 np pb => ?_⟩
        have u3 := u2.keep hrM s3 w3
        have ecl3 := s3 _ _ ncr ecl2
        have hM3c := thereX w3 s3 hM2c
        refine ⟨_, rfl, _, rfl, cl :: M, r, c, 0, 2, rfl, List.mem_cons_of_mem _ hrM, hM3c, w3, by omega, by omega, by decide, by decide, fun aa p' H4 s4 w4 ia a1 a2 np' pa => ?_⟩
        have u4 := u3.keep hrM s4 w4
        have e' : inV (.str kind) [V.str "chain", V.str "reverse"] = true := e
        exact mid_of (rl := ⟨rl.inside, bb, aa, rl.out, rl.calls⟩) ncr ncM ncl (s4 _ _ ncr ecl3) { u4 with
          b := Mono.mono (s4.cutX (List.mem_cons_of_mem _ hrM)) pb
          a := pa
          sb := ib
          sa := ia
          b2 := b2
          a2 := a2
          f3 := fun _ => u4.f3 (by decide)
          f4 := fun _ => u4.f4 (by decide)
          f5 := fun q => by
            rw [e'] at q
            cases q
          f6 := fun h => absurd h (by decide)
          f8 := fun h => absurd h (by decide) } e0
      · exact mid_of ncr ncM ncl ecl2 (u2.up 4 5 (.inr (.inl (by decide))) (.inr (.inl (by decide))) (.inl (by decide)) (.inl (by decide))) e0
    clear u ecl ncr ncM ncl e0
    rintro σ H1 ⟨iv, bv, av, ov, rl, cl, y9, y10, y11, rfl, ncr, ncM, ncl, ecl, u, e0⟩
    -- out of single, reverse
    refine ⟨MidR kind c M r ca H 6, ?_, ?_⟩
    · refine ⟨_, rfl, (by show 2 ≤ sizeLine; decide), fun l nl => ⟨l, _, rfl, .inl (SqL.of upd_same), rfl, rfl, _, rfl, ?_⟩⟩
      have s2 : Same H1 (upd H1 l (.lst [V.str "single", V.str "reverse"])) := same_upd nl
      have u2 := u.keep hrM (SameX.of s2) (RowAt.same s2 u.row)
      have ecl2 := s2 _ _ ecl
      have hM2 := thereX u2.row u2.same hM
      generalize upd H1 l (.lst [V.str "single", V.str "reverse"]) = H2 at *
      have hM2c : ∀ b ∈ cl :: M, H2 b ≠ none := fun b hb => by
        rcases List.mem_cons.mp hb with q | hb
        · rw [q]
          exact some_ne ecl2
        · exact hM2 b hb
      refine ite2 (fun e => ?_) (fun e => ?_)
      · have e' : inV (.str kind) [V.str "single", V.str "reverse"] = true := e
        have i1 := u2.i1
        obtain ⟨ia, ivs, rfl, hia, ip⟩ := id u2.i
        have hs0 : rl.inside[0]? = some rl.inside[0] := List.getElem?_eq_getElem (by omega)
        obtain ⟨sv, hsv, sa, rfl, hsa⟩ := paired_get ip hs0
        have is0 := u2.si _ (List.mem_of_getElem? hs0)
        have ls0 := is0.len
        refine ⟨_, rfl, ia, _, _, _, rfl, rfl, SqL.of (cut_get hia).2, atI_nat (j := 0) hsv, sa, rfl, ⟨_, SqL.of (cut_get hsa).2⟩, fun D hD => ?_⟩
        refine lc_drawL (K := K) (a := sa) INT (fun _ n => 0 ≤ n ∧ n < (c : Int)) r (cl :: M) (List.mem_cons_of_mem _ hrM) hM2c hD u2.row hsa (by rw [List.length_map]; exact len_small (by omega)) ?_ fun H3 ys s3 cm w3 hl hp hR => ?_
        · intro i x H3 hx s3 cm w3 hth Q3 kQ
          exact ⟨rfl, _, rfl, _, rfl, r, c, rfl, w3, by omega, fun n H4 s4 w4 n0 n1 => kQ _ _ n s4 w4 ⟨n0, n1⟩ rfl⟩
        · have u3 := u2.keep hrM s3 w3
          rw [List.length_map] at hl
          refine mid_of (rl := ⟨rl.inside, rl.back, rl.ahead, ys, rl.calls⟩) ncr ncM ncl (s3 _ _ ncr ecl2) { u3 with
            o := Ls.int hR
            outr := fun g hg => by
              obtain ⟨j, hj⟩ := List.mem_iff_getElem?.mp hg
              exact hp j g hj
            o8 := by
              show ys.length ≤ 8
              omega
            f3 := fun _ => u3.f3 (by decide)
            f4 := fun _ => u3.f4 (by decide)
            f6 := fun _ _ => ⟨_, hs0, hl⟩
            f8 := fun h => absurd h (by decide)
            ch := fun q => by
              rw [q, chn_in] at e'
              cases e' } e0
      · exact mid_of ncr ncM ncl ecl2 (u2.up 5 6 (.inr (.inl (by decide))) (.inr (.inl (by decide))) (.inr (.inr fun k => absurd k e)) (.inl (by decide))) e0
    clear u ecl ncr ncM ncl e0
    rintro σ H1 ⟨iv, bv, av, ov, rl, cl, y9, y10, y11, rfl, ncr, ncM, ncl, ecl, u, e0⟩
    have hM1c : ∀ b ∈ cl :: M, H1 b ≠ none := fun b hb => by
      rcases List.mem_cons.mp hb with q | hb
      · rw [q]
        exact some_ne ecl
      · exact thereX u.row u.same hM b hb
    -- out of multiple
    refine ⟨MidR kind c M r ca H 7, ?_, ?_⟩
    · refine ⟨_, rfl, rfl, _, rfl, ite2 (fun e => ?_) (fun e => ?_)⟩
      · have ek : kind = "multiple" := V.str.inj (of_decide_eq_true e)
        refine ⟨_, rfl, r, 4, rfl, u.row, by decide, fun n H2 s2 w2 n0 n1 => ⟨n, rfl, by omega, by omega, fun D hD => ?_⟩⟩
        have u2 := u.keep hrM s2 w2
        have ecl2 := s2 _ _ ncr ecl
        have hM2c := thereX w2 s2 hM1c
        refine lc_draw (lo := 0) (n := n.toNat) INT (fun _ n => 0 ≤ n ∧ n < (c : Int)) r (cl :: M) (List.mem_cons_of_mem _ hrM) hM2c hD u2.row (len_small (by omega)) ?_ fun H3 ys s3 cm w3 hl hp hR => ?_
        · intro i H3 hi s3 cm w3 hth Q3 kQ
          exact ⟨rfl, _, rfl, _, rfl, r, c, rfl, w3, by omega, fun n H4 s4 w4 n0 n1 => kQ _ _ n s4 w4 ⟨n0, n1⟩ rfl⟩
        · have u3 := u2.keep hrM s3 w3
          refine mid_of (rl := ⟨rl.inside, rl.back, rl.ahead, ys, rl.calls⟩) ncr ncM ncl (s3 _ _ ncr ecl2) { u3 with
            o := Ls.int hR
            outr := fun g hg => by
              obtain ⟨j, hj⟩ := List.mem_iff_getElem?.mp hg
              exact hp j g hj
            o8 := by
              show ys.length ≤ 8
              omega
            f3 := fun _ => u3.f3 (by decide)
            f4 := fun _ => u3.f4 (by decide)
            f6 := fun _ q => by
              rw [ek, mul_in] at q
              cases q
            f8 := fun h => absurd h (by decide)
            ch := fun q => by
              rw [ek] at q
              exact absurd q (by decide +kernel) } e0
      · exact mid_of ncr ncM ncl ecl (u.up 6 7 (.inr (.inl (by decide))) (.inr (.inl (by decide))) (.inr (.inl (by decide))) (.inl (by decide))) e0
    clear u ecl ncr ncM ncl e0 hM1c
    rintro σ H1 ⟨iv, bv, av, ov, rl, cl, y9, y10, y11, rfl, ncr, ncM, ncl, ecl, u, e0⟩
    -- out of ligature
    refine ⟨MidR kind c M r ca H 8, ?_, ?_⟩
    · refine ⟨_, rfl, rfl, _, rfl, ite2 (fun e => ?_) (fun e => ?_)⟩
      · have ek : kind = "ligature" := V.str.inj (of_decide_eq_true e)
        refine ⟨_, rfl, _, rfl, r, c, rfl, u.row, by omega, fun n H2 s2 w2 n0 n1 => ⟨(by show 1 ≤ sizeLine; decide), fun q nq => ?_⟩⟩
        have u2 := u.keep hrM s2 w2
        have ecl2 := s2 _ _ ncr ecl
        have hM2 := thereX u2.row u2.same hM
        have s3 : Same H2 (upd H2 q (.lst [V.int n])) := same_upd nq
        have u3 := u2.keep hrM (SameX.of s3) (RowAt.same s3 u2.row)
        have nqM : q ∉ cl :: M := by
          simp only [List.mem_cons, not_or]
          exact ⟨(ne_of_none ecl2 nq).symm, not_in_of hM2 nq⟩
        refine mid_of (rl := ⟨rl.inside, rl.back, rl.ahead, [n], rl.calls⟩) ncr ncM ncl (s3 _ _ ecl2) { u3 with
          o := ⟨q, rfl, cut_of upd_same nqM⟩
          outr := fun g hg => by
            rw [List.mem_singleton.mp hg]
            exact ⟨n0, n1⟩
          o8 := by
            show 1 ≤ 8
            decide
          f3 := fun _ => u3.f3 (by decide)
          f4 := fun _ => u3.f4 (by decide)
          f6 := fun _ q => by
            rw [ek, lig_in] at q
            cases q
          f8 := fun _ _ => rfl
          ch := fun q => by
            rw [ek] at q
            exact absurd q (by decide +kernel) } e0
      · exact mid_of ncr ncM ncl ecl (u.up 7 8 (.inr (.inl (by decide))) (.inr (.inl (by decide))) (.inr (.inl (by decide))) (.inr (.inr fun k => absurd (decide_eq_true (by rw [k])) e))) e0
    clear u ecl ncr ncM ncl e0
    rintro σ H1 ⟨iv, bv, av, ov, rl, cl, y9, y10, y11, rfl, ncr, ncM, ncl, ecl, u, e0⟩
    -- calls
    refine ⟨fun σ H2 => ∃ (y9 : Option V) (cs : List (Int × Int)) (cvs : List V), σ = [some (.ref r), some (.str kind), some (.int c), some (.ref ca), some iv, some bv, some av, some ov, some (.ref cl), y9, y10, y11] ∧ RU kind c M r cl H H2 iv bv av ov rl 8 ∧ H2 cl = some (.lst cvs) ∧ Paired (CallR (cut (cl :: M) H2)) cvs cs ∧
      CallsOk ks rl.inside.length cs ∧ (kind ≠ "chain" → cs = []), ?_, ?_⟩
    · have none0 : CallsOk ks rl.inside.length [] := ⟨Nat.zero_le _, fun p h => absurd h List.not_mem_nil, .nil⟩
      refine ⟨_, rfl, rfl, _, rfl, ite2 (fun e => ?_) (fun e => iteF ⟨y9, [], [], rfl, u, ecl, .nil, none0, fun _ => rfl⟩)⟩
      have ek : kind = "chain" := V.str.inj (of_decide_eq_true e)
      have nca : ca ≠ r := fun q => (cut_get hca).1 (by rw [q]; exact hrM)
      have hca1 := u.same _ _ nca (cut_get hca).2
      refine ⟨_, rfl, !(called.map V.int).isEmpty, .inl ⟨_, SqL.of hca1, rfl⟩, ite2 (fun e2 => ?_) (fun e2 => ⟨y9, [], [], rfl, u, ecl, .nil, none0, fun _ => rfl⟩)⟩
      have hpos : 0 < called.length := by
        cases called with
        | nil => cases e2
        | cons _ _ => exact Nat.succ_pos _
      obtain ⟨ia, ivs, eiv, hia, ip⟩ := id u.i
      subst eiv
      have lip := ip.length
      have i3 := u.i3
      refine ⟨_, rfl, ia, _, rfl, .inl (SqL.of (cut_get hia).2), ((ivs.length : Nat) : Int), rfl, by omega, by omega, ?_⟩
      rw [Int.toNat_natCast]
      refine for_range (lo := 0) (n := ivs.length) (fun i σ H2 => ∃ (y9 : Option V) (cs : List (Int × Int)) (cvs : List V), σ = [some (.ref r), some (.str kind), some (.int c), some (.ref ca), some (.ref ia), some bv, some av, some ov, some (.ref cl), y9, y10, y11] ∧ RU kind c M r cl H H2 (.ref ia) bv av ov rl 8 ∧ H2 cl = some (.lst cvs) ∧ Paired (CallR (cut (cl :: M) H2)) cvs cs ∧
        cs.length ≤ i ∧ (∀ p ∈ cs, 0 ≤ p.1 ∧ p.1 < (i : Int) ∧ isCall ks p.2) ∧ cs.Pairwise (fun a b => a.1 < b.1)) ⟨y9, [], [], rfl, u, ecl, .nil, Nat.le_refl _, fun p h => absurd h List.not_mem_nil, .nil⟩ ?_ ?_
      · rintro i σ H2 hi ⟨z9, cs, cvs, rfl, u2, hcl2, cp, cle, cin, casc⟩
        rw [Int.zero_add]
        refine ⟨_, rfl, r, 2, rfl, u2.row, by decide, fun n H3 s3 w3 n0 n1 => ⟨rfl, _, rfl, ?_⟩⟩
        have u3 := u2.keep hrM s3 w3
        have hcl3 := s3 _ _ ncr hcl2
        have cp3 := pair_mono (s3.cutX (M := cl :: M) (List.mem_cons_of_mem _ hrM)) cp
        have hca3 := u3.same _ _ nca (cut_get hca).2
        refine ite2 (fun _ => ?_) (fun _ => ⟨_, cs, cvs, rfl, u3, hcl3, cp3, by omega, fun p hp => ?_, casc⟩)
        · refine ⟨_, rfl, .inl ⟨rfl, _, SqL.of hcl3⟩, _, rfl, _, rfl, _, rfl, _, rfl, ca, _, rfl, .inl (SqL.of hca3), r, _, rfl, w3, ?_, fun m H4 s4 w4 m0 m1 => ?_⟩
          · rw [List.length_map]
            omega
          rw [List.length_map] at m1
          have hca4 := s4 _ _ nca hca3
          have hml : m.toNat < called.length := by omega
          have hmg := List.getElem?_eq_getElem hml
          refine ⟨ca, _, m, _, rfl, rfl, SqL.of hca4, at_of (j := m.toNat) (by omega) (int_at_of hmg), (by show 2 ≤ sizeLine; decide), fun t nt => ?_⟩
          have u4 := u3.keep hrM s4 w4
          have hcl4 := s4 _ _ ncr hcl3
          have s5 : Same H4 (upd H4 t (.tup [V.int (i : Int), V.int (called[m.toNat])])) := same_upd nt
          have u5 := u4.keep hrM (SameX.of s5) (RowAt.same s5 w4)
          have hcl5 := s5 _ _ hcl4
          have lcv := cp.length
          refine ⟨cl, cvs, _, rfl, rfl, hcl5, len_small (by omega), ?_⟩
          have ec : cut (cl :: M) (upd (upd H4 t (.tup [V.int (i : Int), V.int (called[m.toNat])])) cl (.lst (cvs ++ [V.ref t]))) = cut (cl :: M) (upd H4 t (.tup [V.int (i : Int), V.int (called[m.toNat])])) := cut_upd (List.mem_cons_self ..)
          have hM4 := thereX u4.row u4.same hM
          have ntM : t ∉ cl :: M := by
            simp only [List.mem_cons, not_or]
            exact ⟨(ne_of_none hcl4 nt).symm, not_in_of hM4 nt⟩
          refine ⟨_, cs ++ [((i : Int), called[m.toNat])], _, rfl, u5.put ncl ncr, upd_same, ?_, ?_, fun p hp => ?_, ?_⟩
          · rw [ec]
            exact paired_app (pair_mono ((s4.trans (SameX.of s5)).cutX (M := cl :: M) (List.mem_cons_of_mem _ hrM)) cp3) (.cons ⟨t, _, _, rfl, cut_of upd_same ntM, rfl, rfl⟩ .nil)
          · rw [List.length_append, List.length_singleton]
            omega
          · rcases List.mem_append.mp hp with h | h
            · obtain ⟨q1, q2, q3⟩ := cin p h
              exact ⟨q1, by omega, q3⟩
            · rw [List.mem_singleton.mp h]
              exact ⟨by show (0 : Int) ≤ (i : Int); omega, by show (i : Int) < ((i + 1 : Nat) : Int); omega, hcall _ (List.getElem_mem hml)⟩
          · refine List.pairwise_append.mpr ⟨casc, List.pairwise_singleton _ _, fun a ha b hb => ?_⟩
            rw [List.mem_singleton.mp hb]
            exact (cin a ha).2.1
        · obtain ⟨q1, q2, q3⟩ := cin p hp
          exact ⟨q1, by omega, q3⟩
      · rintro σ H2 ⟨z9, cs, cvs, rfl, u2, hcl2, cp, cle, cin, casc⟩
        refine ⟨z9, cs, cvs, rfl, u2, hcl2, cp, ⟨by omega, fun p hp => ?_, casc⟩, fun q => absurd ek q⟩
        obtain ⟨q1, q2, q3⟩ := cin p hp
        exact ⟨q1, by omega, q3⟩
    rintro σ H2 ⟨z9, cs, cvs, rfl, u2, hcl2, cp, cok, cch⟩
    refine ⟨_, rfl, _, rfl, _, rfl, _, rfl, _, rfl, (by show 5 ≤ sizeLine; decide), fun t nt => ?_⟩
    have s3 : Same H2 (upd H2 t (.tup [iv, bv, av, ov, V.ref cl])) := same_upd nt
    have sM : Same (cut (cl :: M) H2) (cut M (upd H2 t (.tup [iv, bv, av, ov, V.ref cl]))) := (s3.cutS _).trans (cut_mono fun b hb => List.mem_cons_of_mem _ hb)
    have hM2 := thereX u2.row u2.same hM
    have i1 := u2.i1
    have i3 := u2.i3
    have f3 := u2.f3 (by decide)
    have f6 := u2.f6 (by decide)
    refine kk ⟨rl.inside, rl.back, rl.ahead, rl.out, cs⟩ _ _ (u2.same.trans (SameX.of s3)) (RowAt.same s3 u2.row) ⟨⟨i1, (by show rl.inside.length ≤ 4; omega), Nat.le_trans u2.b2 (by decide), Nat.le_trans u2.a2 (by decide), u2.o8, fun s hs => ?_, u2.outr, ?_⟩, i3, u2.b2, u2.a2⟩
      ⟨t, _, _, _, _, _, rfl, cut_of upd_same (not_in_of hM2 nt), Mono.mono sM u2.i, Mono.mono sM u2.b, Mono.mono sM u2.a, Mono.mono sM u2.o, ⟨cl, cvs, rfl, cut_of (s3 _ _ hcl2) ncM, pair_mono sM cp⟩⟩
    · rcases List.mem_append.mp hs with hs | hs
      · rcases List.mem_append.mp hs with hs | hs
        · exact u2.si s hs
        · exact u2.sb s hs
      · exact u2.sa s hs
    · refine ⟨u2.f5, cch, fun q => ?_, fun q => f3 (by rw [q]; decide +kernel), fun q => ⟨u2.f4 (by decide) q, u2.f8 (by decide) q⟩, fun q => ⟨u2.ch q, cok⟩, hk5⟩
      obtain ⟨s0, hs0, hl0⟩ := f6 q
      have l1 : rl.inside.length = 1 := f3 (by
        simp only [five, List.mem_cons, List.not_mem_nil, or_false] at hk5
        rcases hk5 with k | k | k | k | k
        · rw [k]; decide +kernel
        · rw [k, mul_in] at q; cases q
        · rw [k, lig_in] at q; cases q
        · rw [k, chn_in] at q; cases q
        · rw [k]; decide +kernel)
      refine ⟨s0, ?_, hl0⟩
      show rl.inside = [s0]
      match rl.inside, l1, hs0 with
      | [z], _, h => rw [Option.some.inj h]
end
end K26


set_option maxHeartbeats 4000000
namespace K26
open PySem PySem.Spec PyProof.Rows L2
/-- a lookup as the law draws it -/
def LookT : Rp LkD := fun H v l => ∃ (t : Addr) (rv : V), v = .ref t ∧ H t = some (.tup [.str l.kind, rv, .bl l.ign]) ∧ Ls RuleT H rv l.rules
instance : Mono LookT := ⟨fun s h => by
  obtain ⟨t, rv, e, h0, h1⟩ := h
  exact ⟨t, rv, e, s _ _ h0, Mono.mono s h1⟩⟩
structure LawLk (ks : List Str) (c : Nat) (l : LkD) : Prop where
  kind : l.kind ∈ five
  n : l.rules.length ≤ 3
  rules : ∀ r ∈ l.rules, LawR ks l.kind c r
def LW (c : Nat) (lks : List LkD) : Prop := ∀ n lk, lks[n]? = some lk → LawLk ((lks.take n).map (·.kind)) c lk
theorem LW.add {c : Nat} {lks : List LkD} {lk : LkD} (h : LW c lks) (k : LawLk (lks.map (·.kind)) c lk) : LW c (lks ++ [lk]) := fun n l e => by
  by_cases q : n < lks.length
  · rw [List.getElem?_append_left q] at e
    have t : (lks ++ [lk]).take n = lks.take n := List.take_append_of_le_length (by omega)
    rw [t]
    exact h n l e
  · have q1 := (List.getElem?_eq_some_iff.mp e).1
    rw [List.length_append, List.length_singleton] at q1
    have en : n = lks.length := by omega
    subst en
    rw [List.getElem?_append_right (Nat.le_refl _), Nat.sub_self] at e
    have e' : lk = l := Option.some.inj e
    rw [← e']
    have t : (lks ++ [lk]).take lks.length = lks := List.take_left' rfl
    rw [t]
    exact k
abbrev six : List Str := ["single", "multiple", "ligature", "chain", "reverse", "chain"]
theorem six_five : ∀ k ∈ six, k ∈ five := by decide +kernel
theorem called_of {k : Str} (h : inV (.str k) [V.str "single", V.str "multiple"] = true) : k = "single" ∨ k = "multiple" := by
  unfold inV at h
  rw [List.any_cons, List.any_cons, List.any_nil, Bool.or_false, Bool.or_eq_true] at h
  have e : ∀ s : Str, eqV (.str s) (.str k) = decide (s = k) := fun s => by
    unfold eqV
    simp
    rw [Bool.eq_iff_iff, beq_iff_eq, decide_eq_true_iff]
  rw [e, e] at h
  rcases h with h | h
  · exact .inl (of_decide_eq_true h).symm
  · exact .inr (of_decide_eq_true h).symm
section
variable {P : Program} {w : World} {K : PySem.W.Frag} {mg : Str → Option Value} {base : Heap}
def spLooks : Sp := fun vs H Q _ => ∃ (M : List Addr) (r : Addr) (c : Nat), vs = [.ref r, .int c] ∧ r ∈ M ∧ (∀ b ∈ M, H b ≠ none) ∧ RowAt H r ∧ 2 ≤ c ∧ c ≤ 5 ∧
  ∀ lks v H', SameX r H H' → RowAt H' r → LW c lks → 1 ≤ lks.length → lks.length ≤ 4 → Ls LookT (cut M H') v lks → Q v H'
abbrev nsLooks : List Str := ["_law_row", "_law_count", "_law_lookups_here", "_law_number", "_law_kind", "_law_called", "_law_rules", "_law_k"]
theorem sc_looks : FnScope nsLooks ["_law_row", "_law_count"] (defScope s_law_lookups) := ⟨rfl, rfl, rfl, by decide +kernel, rfl, by decide +kernel, by decide +kernel⟩
theorem c_looks (T : Txt K mg) : Cal P w K mg base 5 "_law_lookups" ["_law_row", "_law_count"] spLooks := by
  obtain ⟨fd, F⟩ := T.f_law_lookups
  refine cal_of F T.g_law_lookups sc_looks (fun vs H Q E h => ?_) (fun _ _ _ _ _ _ us hl => match us, hl with | [_, _], _ => rfl) (fun cdv A outer s H vs Q E hr h => ?_)
  · obtain ⟨M, r, c, rfl, _⟩ := h
    rfl
  · obtain ⟨M, r, c, rfl, hrM, hM, hrow, c2, c5, kk⟩ := h
    have nd := sc_looks.nd
    have hr1 : Room 1 _ := hr.mono (by decide)
    refine ⟨_, pss_cons (ps_set (i := 2) nd rfl (.inr rfl) (pe_lst pa_nil))
      (pss_cons (ps_for PassesOwn.never rfl (pi_range1 (by rfl) T.b_range (pa_cons (pe_op op_add pe_int (pe_cal (c_take T) hr1 rfl (pa_cons (pv 0) (pa_cons pe_int pa_nil)))) pa_nil)) (pg_name (i := 3) nd rfl (.inl rfl))
        (pss_cons (ps_set (i := 4) nd rfl (.inr rfl) (pe_ix ix_list (pe_lst (pa_cons pe_str (pa_cons pe_str (pa_cons pe_str (pa_cons pe_str (pa_cons pe_str (pa_cons pe_str pa_nil))))))) (pe_cal (c_take T) hr1 rfl (pa_cons (pv 0) (pa_cons pe_int pa_nil))) (fun _ _ => rfl)))
        (pss_cons (ps_set (i := 5) nd rfl (.inr rfl) (pe_lc (own := [("_law_k", 7)]) (g := gName 7) (tt := tTest (tOp (rIn K false) (tOp (rIxT K) (tOp (rIxL K) (tVar 2) (tVar 7)) (tC (.int 0))) (tLst (tCons (tC (.str "single")) (tCons (tC (.str "multiple")) tNil))))) (te := tVar 7) rfl nd
            (pi_range1 (by rfl) T.b_range (pa_cons (pv 3) pa_nil)) (blkOk_by (N := nsLooks) (sc := defScope s_law_lookups) (by decide +kernel)) (fun _ _ _ _ _ => pg_name (i := 7) nd rfl (Or.inl rfl))
            (fun _ _ _ _ _ => pts_one (pt_cmpR op_in_seq (pe_ix ix_tup (pe_ix ix_list (pv 2) (pv 7) (fun _ _ => rfl)) pe_int (fun _ _ => rfl)) (pe_lst (pa_cons pe_str (pa_cons pe_str pa_nil))) (by rfl))) (fun _ _ _ _ _ => pv 7)))
        (pss_cons (ps_setLc (i := 6) (own := [("_law_k", 7)]) (g := gName 7) (tt := tYes) (te := tCall spLRule [] E0 (tCons (tVar 0) (tCons (tVar 4) (tCons (tVar 1) (tCons (tVar 5) tNil))))) rfl nd rfl rfl (sw_true rfl rfl rfl (by decide +kernel))
            (pi_range1 (by rfl) T.b_range (pa_cons (pe_cal (c_take T) hr1 rfl (pa_cons (pv 0) (pa_cons pe_int pa_nil))) pa_nil)) (blkOk_by (N := nsLooks) (sc := defScope s_law_lookups) (by decide +kernel)) (fun _ _ _ _ _ => pg_name (i := 7) nd rfl (Or.inl rfl))
            (fun _ _ _ _ _ => pts_nil) (fun _ _ _ _ _ => pe_cal (c_lrule T) hr rfl (pa_cons (pv 0) (pa_cons (pv 4) (pa_cons (pv 1) (pa_cons (pv 5) pa_nil))))))
        (pss_one (ps_expr (pe_bm PySem.F.plainAttrs_list PySem.F.slot_list_append PySem.F.type_list_append mt_append (pv 2) (pa_cons (pe_tup (pa_cons (pv 4) (pa_cons (pv 6) (pa_cons (pe_cmpR op_eq (pe_cal (c_take T) hr1 rfl (pa_cons (pv 0) (pa_cons pe_int pa_nil))) pe_int (nomark _)) pa_nil)))) pa_nil))))))))
      (pss_one (ps_ret (pv 2)))), ?_⟩
    refine ⟨Nat.zero_le _, fun hl nhl => ?_⟩
    have nlr : hl ≠ r := fun q => hrow.ne (by rw [← q]; exact nhl)
    have nlM : hl ∉ M := not_in_of hM nhl
    have s0 : Same H (upd H hl (.lst [])) := same_upd nhl
    have w0 := RowAt.same s0 hrow
    refine ⟨_, rfl, r, 4, rfl, w0, by decide, fun n H1 s1 w1 n0 n1 => ⟨_, _, rfl, rfl, 1 + n, rfl, by omega, by omega, ?_⟩⟩
    obtain ⟨m, em⟩ : ∃ m : Nat, 1 + n = m := ⟨(1 + n).toNat, by omega⟩
    rw [em, Int.toNat_natCast]
    have sx1 : SameX r H H1 := (SameX.of s0).trans s1
    have e1 := s1 _ _ nlr (upd_same (H := H) (a := hl) (o := .lst []))
    have hrM' : r ∈ hl :: M := List.mem_cons_of_mem _ hrM
    refine for_range (lo := 0) (n := m) (fun i σ H2 => ∃ (y3 y4 y5 y6 y7 : Option V) (lks : List LkD) (lvs : List V), σ = [some (.ref r), some (.int c), some (.ref hl), y3, y4, y5, y6, y7] ∧ SameX r H H2 ∧ RowAt H2 r ∧ H2 hl = some (.lst lvs) ∧ Paired (LookT (cut (hl :: M) H2)) lvs lks ∧ lks.length = i ∧ LW c lks)
      ⟨none, none, none, none, none, [], [], rfl, sx1, w1, e1, .nil, rfl, fun n lk h => by simp at h⟩ ?_ ?_
    · rintro i σ H2 hi ⟨y3, y4, y5, y6, y7, lks, lvs, rfl, s2, w2, e2, lp, ll, lw⟩
      rw [Int.zero_add]
      have llv := lp.length
      have hM2 := thereX w2 s2 hM
      have hM2c : ∀ b ∈ hl :: M, H2 b ≠ none := fun b hb => by
        rcases List.mem_cons.mp hb with q | hb
        · rw [q]
          exact some_ne e2
        · exact hM2 b hb
      -- the kind
      refine ⟨(by show 6 ≤ sizeLine; decide), fun k6 nk6 => ?_⟩
      have s3 : Same H2 (upd H2 k6 (.lst (six.map V.str))) := same_upd nk6
      refine ⟨_, rfl, r, 6, rfl, RowAt.same s3 w2, by decide, fun m H4 s4 w4 m0 m1 => ?_⟩
      have n6r : k6 ≠ r := fun q => w2.ne (by rw [← q]; exact nk6)
      have e6 : H4 k6 = some (.lst (six.map V.str)) := s4 _ _ n6r upd_same
      have hml : m.toNat < six.length := by
        show m.toNat < 6
        omega
      have hk5 : six[m.toNat] ∈ five := six_five _ (List.getElem_mem hml)
      refine ⟨k6, _, m, .str six[m.toNat], rfl, rfl, SqL.of e6, at_of (j := m.toNat) (by omega) (by rw [List.getElem?_map, List.getElem?_eq_getElem hml]; rfl), ?_⟩
      generalize six[m.toNat] = kind at *
      have sx4 : SameX r H2 H4 := (SameX.of s3).trans s4
      have e4 := sx4 _ _ nlr e2
      have lp4 := pair_mono (sx4.cutX (M := hl :: M) hrM') lp
      have hM4c := thereX w4 sx4 hM2c
      -- the lookups that may be called
      refine ⟨_, rfl, (i : Int), rfl, by omega, by omega, fun D hD => ?_⟩
      rw [Int.toNat_natCast]
      have nDl : hl ≠ D := ne_of_none e4 hD
      refine lc_range (lo := 0) (n := i) (fun j H5 => Same H4 (cut [D] H5) ∧ ∃ acc : List Int, H5 D = some (.lst (acc.map V.int)) ∧ acc.length ≤ j ∧ ∀ l ∈ acc, isCall (lks.map (·.kind)) l)
        ⟨by rw [cut_upd (List.mem_singleton.mpr rfl)]; exact Same.newD hD (Same.refl _), [], upd_same, Nat.le_refl _, fun l h => absurd h List.not_mem_nil⟩ ?_ ?_
      · rintro j H5 hj ⟨s5, acc, hacc, la, lc⟩
        rw [Int.zero_add]
        have s45 : Same H4 H5 := s5.trans cut_same
        have hjl : j < lks.length := by omega
        obtain ⟨tv, htv, ⟨t, rv, rfl, ht, hrv⟩⟩ := paired_get lp4 (List.getElem?_eq_getElem hjl)
        have ht5 := s45 _ _ (cut_get ht).2
        refine ⟨rfl, _, rfl, _, rfl, hl, lvs, _, _, rfl, rfl, SqL.of (s45 _ _ e4), atI_nat (j := j) htv, t, _, _, _, rfl, rfl, SqT.of ht5, atI_nat (j := 0) rfl, (by show 2 ≤ sizeLine; decide), fun u nu => ⟨u, _, rfl, .inl (SqL.of upd_same), rfl, rfl, _, rfl, ?_⟩⟩
        have nDu : D ≠ u := ne_of_none hacc nu
        have s6 : Same H4 (cut [D] (upd H5 u (.lst [V.str "single", V.str "multiple"]))) := fun b o hb => by
          obtain ⟨q1, q2⟩ := cut_get (s5 _ _ hb)
          exact cut_of (by rw [upd_ne (ne_of_none q2 nu)]; exact q2) q1
        refine ite2 (fun e => ?_) (fun e => ?_)
        · refine ⟨_, rfl, _, by rw [upd_ne nDu]; exact hacc, by rw [List.length_map]; exact len_small (by omega), ?_, acc ++ [(j : Int)], by rw [upd_same, List.map_append]; rfl, by rw [List.length_append, List.length_singleton]; omega, fun l h => ?_⟩
          · rw [cut_upd (List.mem_singleton.mpr rfl)]
            exact s6
          · rcases List.mem_append.mp h with h | h
            · exact lc l h
            · rw [List.mem_singleton.mp h]
              refine ⟨j, rfl, ?_⟩
              have ek : (lks.map (·.kind))[j]? = some lks[j].kind := by
                rw [List.getElem?_map, List.getElem?_eq_getElem hjl]
                rfl
              rw [ek]
              rcases called_of e with q | q
              · exact .inl (by rw [q]; rfl)
              · exact .inr (by rw [q]; rfl)
        · exact ⟨s6, acc, by rw [upd_ne nDu]; exact hacc, by omega, lc⟩
      · rintro H5 ⟨s5, acc, hacc, la, lc⟩
        have s45 : Same H4 H5 := s5.trans cut_same
        have sx5 := sx4.trans (SameX.of s45)
        have w5 := RowAt.same s45 w4
        have e5 := s45 _ _ e4
        have lp5 := pair_mono (s45.cutS (hl :: M)) lp4
        have hM5c := there_same s45 hM4c
        have nDM : D ∉ hl :: M := not_in_of hM4c hD
        have ilc : IL (cut (hl :: M) H5) (.ref D) acc := ⟨D, rfl, cut_of hacc nDM⟩
        -- the rules
        refine ⟨_, rfl, r, 4, rfl, w5, by decide, fun n H6 s6 w6 n0 n1 => ⟨n, rfl, by omega, by omega, fun D2 hD2 => ?_⟩⟩
        have e6 := s6 _ _ nlr e5
        have lp6 := pair_mono (s6.cutX (M := hl :: M) hrM') lp5
        have hM6c := thereX w6 s6 hM5c
        have ilc6 := Mono.mono (s6.cutX (M := hl :: M) hrM') ilc
        refine lc_draw (lo := 0) (n := n.toNat) RuleT (fun _ rl => LawR (lks.map (·.kind)) kind c rl) r (hl :: M) hrM' hM6c hD2 w6 (len_small (by omega)) ?_ fun H7 rls s7 cm7 w7 hlr hp hR => ?_
        · intro q H7 hq s7 cm w7 hth Q7 kQ
          exact ⟨rfl, _, rfl, _, rfl, _, rfl, _, rfl, D2 :: hl :: M, r, kind, c, acc, .ref D, lks.map (·.kind), rfl, List.mem_cons_of_mem _ hrM', hth, w7, c2, c5, hk5, Mono.mono cm ilc6, by omega, lc, fun rl v H8 s8 w8 k8 r8 => kQ _ _ rl s8 w8 k8 r8⟩
        · have e7 := s7 _ _ nlr e6
          have lp7 := pair_mono cm7 lp6
          -- append
          refine ⟨_, rfl, .inl ⟨rfl, _, SqL.of e7⟩, _, rfl, _, rfl, _, rfl, r, 2, rfl, w7, by decide, fun b H8 s8 w8 b0 b1 => ⟨rfl, (by show 3 ≤ sizeLine; decide), fun t nt => ?_⟩⟩
          have e8 := s8 _ _ nlr e7
          have lp8 := pair_mono (s8.cutX (M := hl :: M) hrM') lp7
          have hR8 : Ls RuleT (cut (hl :: M) H8) (.ref D2) rls := Mono.mono (s8.cutX (M := hl :: M) hrM') hR
          have hM8c := thereX w8 s8 (thereX w7 s7 hM6c)
          have ntM : t ∉ hl :: M := not_in_of hM8c nt
          have s9 : Same H8 (upd H8 t (.tup [V.str kind, V.ref D2, V.bl (decide (V.int b = V.int 1))])) := same_upd nt
          refine ⟨hl, lvs, _, rfl, rfl, s9 _ _ e8, len_small (by omega), ?_⟩
          have ec : cut (hl :: M) (upd (upd H8 t (.tup [V.str kind, V.ref D2, V.bl (decide (V.int b = V.int 1))])) hl (.lst (lvs ++ [V.ref t]))) = cut (hl :: M) (upd H8 t (.tup [V.str kind, V.ref D2, V.bl (decide (V.int b = V.int 1))])) := cut_upd (List.mem_cons_self ..)
          refine ⟨_, _, _, _, _, lks ++ [⟨kind, rls, decide (V.int b = V.int 1)⟩], lvs ++ [V.ref t], rfl, ?_, ?_, upd_same, ?_, by rw [List.length_append, List.length_singleton, ll], lw.add ⟨hk5, by show rls.length ≤ 3; omega, fun rl h => ?_⟩⟩
          · exact sameX_put nhl (s2.trans (sx5.trans (s6.trans (s7.trans (s8.trans (SameX.of s9))))))
          · obtain ⟨ns, hns⟩ := RowAt.same s9 w8
            exact ⟨ns, by rw [upd_ne nlr.symm]; exact hns⟩
          · rw [ec]
            exact paired_app (pair_mono (s9.cutS _) lp8) (.cons ⟨t, .ref D2, rfl, cut_of upd_same ntM, Mono.mono (s9.cutS _) hR8⟩ .nil)
          · obtain ⟨q, hq⟩ := List.mem_iff_getElem?.mp h
            exact hp q rl hq
    · rintro σ H2 ⟨y3, y4, y5, y6, y7, lks, lvs, rfl, s2, w2, e2, lp, ll, lw⟩
      refine ⟨_, rfl, kk lks _ _ s2 w2 lw (by omega) (by omega) ⟨hl, lvs, rfl, cut_of e2 nlM, pair_mono (cut_mono fun b hb => List.mem_cons_of_mem _ hb) lp⟩⟩
end
end K26


set_option maxHeartbeats 4000000
namespace K26
open PySem PySem.Spec PyProof.Rows L2
structure WorldD where
  c : Nat
  marks : List Bool
  advs : List Int
  lks : List LkD
structure LawW (W : WorldD) : Prop where
  c2 : 2 ≤ W.c
  c5 : W.c ≤ 5
  ml : W.marks.length = W.c
  al : W.advs.length = W.c
  ar : ∀ a ∈ W.advs, 0 ≤ a ∧ a ≤ 80
  lw : LW W.c W.lks
  n1 : 1 ≤ W.lks.length
  n4 : W.lks.length ≤ 4
def BLs : Rp (List Bool) := fun H v bs => ∃ a, v = .ref a ∧ H a = some (.lst (bs.map V.bl))
instance : Mono BLs := ⟨fun s h => by
  obtain ⟨a, e, h⟩ := h
  exact ⟨a, e, s _ _ h⟩⟩
def WorldR : Rp WorldD := fun H v W => ∃ (t : Addr) (mv av lv : V), v = .ref t ∧ H t = some (.tup [.int W.c, mv, av, lv]) ∧ BLs H mv W.marks ∧ IL H av W.advs ∧ Ls LookT H lv W.lks
instance : Mono WorldR := ⟨fun s h => by
  obtain ⟨t, mv, av, lv, e, h0, h1, h2, h3⟩ := h
  exact ⟨t, mv, av, lv, e, s _ _ h0, Mono.mono s h1, Mono.mono s h2, Mono.mono s h3⟩⟩
section
variable {P : Program} {w : World} {K : PySem.W.Frag} {mg : Str → Option Value} {base : Heap}
def spWorld : Sp := fun vs H Q _ => ∃ (M : List Addr) (r : Addr), vs = [.ref r] ∧ r ∈ M ∧ (∀ b ∈ M, H b ≠ none) ∧ RowAt H r ∧ ∀ W v H', SameX r H H' → RowAt H' r → LawW W → WorldR (cut M H') v W → Q v H'
abbrev nsWorld : List Str := ["_law_row", "_law_count", "_law_marks", "_law_advances", "_law_lookups_here", "_law_k"]
theorem sc_world : FnScope nsWorld ["_law_row"] (defScope s_law_world) := ⟨rfl, rfl, rfl, by decide +kernel, rfl, by decide +kernel, by decide +kernel⟩
theorem c_world (T : Txt K mg) : Cal P w K mg base 6 "_law_world" ["_law_row"] spWorld := by
  obtain ⟨fd, F⟩ := T.f_law_world
  refine cal_of F T.g_law_world sc_world (fun vs H Q E h => ?_) (fun _ _ _ _ _ _ us hl => match us, hl with | [_], _ => rfl) (fun cdv A outer s H vs Q E hr h => ?_)
  · obtain ⟨M, r, rfl, _⟩ := h
    rfl
  · obtain ⟨M, r, rfl, hrM, hM, hrow, kk⟩ := h
    have nd := sc_world.nd
    have hr1 : Room 1 _ := hr.mono (by decide)
    refine ⟨_, Evl.pss_cut (ps_set (i := 1) nd rfl (.inl rfl) (pe_op op_add pe_int (pe_cal (c_take T) hr1 rfl (pa_cons (pv 0) (pa_cons pe_int pa_nil)))))
      (pss_cons (ps_setLc (i := 2) (own := [("_law_k", 5)]) (g := gName 5) (tt := tYes) (te := tOp rEq (tCall spTake [] E0 (tCons (tVar 0) (tCons (tC (.int 4)) tNil))) (tC (.int 0))) rfl nd rfl rfl (sw_true rfl rfl rfl (by decide +kernel))
          (pi_range1 (by rfl) T.b_range (pa_cons (pv 1) pa_nil)) (blkOk_by (N := nsWorld) (sc := defScope s_law_world) (by decide +kernel)) (fun _ _ _ _ _ => pg_name (i := 5) nd rfl (Or.inl rfl)) (fun _ _ _ _ _ => pts_nil)
          (fun _ _ _ _ _ => pe_cmpR op_eq (pe_cal (c_take T) hr1 rfl (pa_cons (pv 0) (pa_cons pe_int pa_nil))) pe_int (nomark _)))
      (pss_cons (ps_setLc (i := 3) (own := [("_law_k", 5)]) (g := gName 5) (tt := tYes) (te := tOp (rI CMul fun i j => .int (i * j)) (tC (.int 10)) (tCall spTake [] E0 (tCons (tVar 0) (tCons (tC (.int 9)) tNil)))) rfl nd rfl rfl (sw_true rfl rfl rfl (by decide +kernel))
          (pi_range1 (by rfl) T.b_range (pa_cons (pv 1) pa_nil)) (blkOk_by (N := nsWorld) (sc := defScope s_law_world) (by decide +kernel)) (fun _ _ _ _ _ => pg_name (i := 5) nd rfl (Or.inl rfl)) (fun _ _ _ _ _ => pts_nil)
          (fun _ _ _ _ _ => pe_op op_mul pe_int (pe_cal (c_take T) hr1 rfl (pa_cons (pv 0) (pa_cons pe_int pa_nil)))))
      (pss_cons (ps_set (i := 4) nd rfl (.inl rfl) (pe_cal (c_looks T) hr rfl (pa_cons (pv 0) (pa_cons (pv 1) pa_nil))))
      (pss_one (ps_ret (pe_tup (pa_cons (pv 1) (pa_cons (pv 2) (pa_cons (pv 3) (pa_cons (pv 4) pa_nil)))))))))), ?_⟩
    refine ⟨fun σ H1 => ∃ c : Nat, σ = [some (.ref r), some (.int c), none, none, none, none] ∧ 2 ≤ c ∧ c ≤ 5 ∧ SameX r H H1 ∧ RowAt H1 r, ?_, ?_⟩
    · refine ⟨_, rfl, r, 4, rfl, hrow, by decide, fun n H1 s1 w1 n0 n1 => ⟨_, _, rfl, rfl, (2 + n).toNat, ?_, by omega, by omega, s1, w1⟩⟩
      have ec : ((2 + n).toNat : Int) = 2 + n := Int.toNat_of_nonneg (by omega)
      rw [ec]
      rfl
    rintro σ H1 ⟨c, rfl, c2, c5, s1, w1⟩
    have hM1 := thereX w1 s1 hM
    refine ⟨_, rfl, (c : Int), rfl, by omega, by omega, fun D hD => ?_⟩
    rw [Int.toNat_natCast]
    refine lc_draw (lo := 0) (n := c) BL (fun _ _ => True) r M hrM hM1 hD w1 (len_small (by omega)) ?_ fun H2 ms s2 cm2 w2 hl2 _ hR2 => ?_
    · intro i H2 hi s2 cm w2 hth Q2 kQ
      exact ⟨rfl, _, rfl, r, 4, rfl, w2, by decide, fun n H3 s3 w3 n0 n1 => ⟨rfl, kQ _ _ (decide (V.int n = V.int 0)) s3 w3 trivial rfl⟩⟩
    have hM2 := thereX w2 s2 hM1
    refine ⟨_, rfl, (c : Int), rfl, by omega, by omega, fun D2 hD2 => ?_⟩
    rw [Int.toNat_natCast]
    refine lc_draw (lo := 0) (n := c) INT (fun _ a => 0 ≤ a ∧ a ≤ 80) r M hrM hM2 hD2 w2 (len_small (by omega)) ?_ fun H3 as s3 cm3 w3 hl3 hp3 hR3 => ?_
    · intro i H3 hi s3 cm w3 hth Q3 kQ
      exact ⟨rfl, _, rfl, r, 9, rfl, w3, by decide, fun n H4 s4 w4 n0 n1 => ⟨_, _, rfl, rfl, cmul_l (by decide) (by decide), kQ _ _ (10 * n) s4 w4 ⟨by omega, by omega⟩ rfl⟩⟩
    have hM3 := thereX w3 s3 hM2
    refine ⟨_, rfl, _, rfl, M, r, c, rfl, hrM, hM3, w3, c2, c5, fun lks v H4 s4 w4 lw l1 l4 hR4 => ?_⟩
    have hM4 := thereX w4 s4 hM3
    refine ⟨_, rfl, _, rfl, _, rfl, _, rfl, (by show 4 ≤ sizeLine; decide), fun t nt => ?_⟩
    have s5 : Same H4 (upd H4 t (.tup [V.int (c : Int), V.ref D, V.ref D2, v])) := same_upd nt
    obtain ⟨ma, ema, hma⟩ := Ls.bl hR2
    refine kk ⟨c, ms, as, lks⟩ _ _ (s1.trans (s2.trans (s3.trans (s4.trans (SameX.of s5))))) (RowAt.same s5 w4) ⟨c2, c5, hl2, hl3, fun a h => ?_, lw, l1, l4⟩
      ⟨t, _, _, _, rfl, cut_of upd_same (not_in_of hM4 nt), ⟨ma, ema, s5.cutS M _ _ (s4.cutX hrM _ _ (cm3 _ _ hma))⟩, Mono.mono ((s4.cutX hrM).trans (s5.cutS M)) (Ls.int hR3), Mono.mono (s5.cutS M) hR4⟩
    obtain ⟨i, hi⟩ := List.mem_iff_getElem?.mp h
    exact hp3 i a hi
/-! ### words -/
def spWords : Sp := fun vs H Q _ => ∃ (M : List Addr) (r : Addr) (c : Nat), vs = [.ref r, .int c] ∧ r ∈ M ∧ (∀ b ∈ M, H b ≠ none) ∧ RowAt H r ∧ 0 < c ∧ ∀ (ws : List (List Int)) v H', SameX r H H' → RowAt H' r → ws.length = 10 → (∀ w ∈ ws, w.length ≤ 6 ∧ ∀ g ∈ w, 0 ≤ g ∧ g < (c : Int)) → Ls IL (cut M H') v ws → Q v H'
abbrev nsWords : List Str := ["_law_row", "_law_count", "_law_words_here", "_law_k", "_law_j"]
theorem sc_words : FnScope nsWords ["_law_row", "_law_count"] (defScope s_law_words) := ⟨rfl, rfl, rfl, by decide +kernel, rfl, by decide +kernel, by decide +kernel⟩
theorem c_words (T : Txt K mg) : Cal P w K mg base 2 "_law_words" ["_law_row", "_law_count"] spWords := by
  obtain ⟨fd, F⟩ := T.f_law_words
  refine cal_of F T.g_law_words sc_words (fun vs H Q E h => ?_) (fun _ _ _ _ _ _ us hl => match us, hl with | [_, _], _ => rfl) (fun cdv A outer s H vs Q E hr h => ?_)
  · obtain ⟨M, r, c, rfl, _⟩ := h
    rfl
  · obtain ⟨M, r, c, rfl, hrM, hM, hrow, c0, kk⟩ := h
    have nd := sc_words.nd
    refine ⟨_, pss_cons (ps_set (i := 2) nd rfl (.inl rfl) (pe_lst (pa_cons (pe_lst pa_nil) pa_nil)))
      (pss_cons (ps_for PassesOwn.never rfl (pi_range1 (by rfl) T.b_range (pa_cons pe_int pa_nil)) (pg_name (i := 3) nd rfl (.inl rfl))
        (pss_one (ps_expr (pe_bm PySem.F.plainAttrs_list PySem.F.slot_list_append PySem.F.type_list_append mt_append (pv 2) (pa_cons (pe_lc (own := [("_law_j", 4)]) (g := gName 4) (tt := tYes) (te := tCall spTake [] E0 (tCons (tVar 0) (tCons (tVar 1) tNil))) rfl nd
          (pi_range1 (by rfl) T.b_range (pa_cons (pe_cal (c_take T) hr rfl (pa_cons (pv 0) (pa_cons pe_int pa_nil))) pa_nil)) (blkOk_by (N := nsWords) (sc := defScope s_law_words) (by decide +kernel)) (fun _ _ _ _ _ => pg_name (i := 4) nd rfl (Or.inl rfl)) (fun _ _ _ _ _ => pts_nil)
          (fun _ _ _ _ _ => pe_cal (c_take T) hr rfl (pa_cons (pv 0) (pa_cons (pv 1) pa_nil)))) pa_nil)))))
      (pss_one (ps_ret (pv 2)))), ?_⟩
    refine ⟨Nat.zero_le _, fun l0 n0 => ⟨(by show 1 ≤ sizeLine; decide), fun wl nwl => ?_⟩⟩
    have s1 : Same H (upd H l0 (.lst [])) := same_upd n0
    have s2 : Same (upd H l0 (.lst [])) (upd (upd H l0 (.lst [])) wl (.lst [V.ref l0])) := same_upd nwl
    have nwH : H wl = none := none_of s1 nwl
    have nwr : wl ≠ r := fun q => hrow.ne (by rw [← q]; exact nwH)
    have nwM : wl ∉ M := not_in_of hM nwH
    have n0w : l0 ≠ wl := ne_of_none (upd_same (H := H) (a := l0) (o := .lst [])) nwl
    have n0M : l0 ∉ wl :: M := by
      simp only [List.mem_cons, not_or]
      exact ⟨n0w, not_in_of hM n0⟩
    have hrM' : r ∈ wl :: M := List.mem_cons_of_mem _ hrM
    refine ⟨(9 : Int), rfl, by decide, by decide, ?_⟩
    refine for_range (lo := 0) (n := 9) (fun i σ H1 => ∃ (y3 y4 : Option V) (ws : List (List Int)) (wvs : List V), σ = [some (.ref r), some (.int c), some (.ref wl), y3, y4] ∧ SameX r H H1 ∧ RowAt H1 r ∧ H1 wl = some (.lst wvs) ∧ Paired (IL (cut (wl :: M) H1)) wvs ws ∧ ws.length = i + 1 ∧ ∀ w ∈ ws, w.length ≤ 6 ∧ ∀ g ∈ w, 0 ≤ g ∧ g < (c : Int))
      ⟨none, none, [[]], [V.ref l0], rfl, SameX.of (s1.trans s2), RowAt.same (s1.trans s2) hrow, upd_same, .cons ⟨l0, rfl, cut_of (s2 _ _ upd_same) n0M⟩ .nil, rfl, fun w hw => ?_⟩ ?_ ?_
    · rw [List.mem_singleton.mp hw]
      exact ⟨Nat.zero_le _, fun g h => absurd h List.not_mem_nil⟩
    · rintro i σ H1 hi ⟨y3, y4, ws, wvs, rfl, sx, w1, e1, wp, wl1, wr⟩
      have hM1 := thereX w1 sx hM
      have hM1c : ∀ b ∈ wl :: M, H1 b ≠ none := fun b hb => by
        rcases List.mem_cons.mp hb with q | hb
        · rw [q]
          exact some_ne e1
        · exact hM1 b hb
      refine ⟨_, rfl, .inl ⟨rfl, _, SqL.of e1⟩, _, rfl, r, 7, rfl, w1, by decide, fun n H2 s2 w2 n0 n1 => ⟨n, rfl, by omega, by omega, fun D hD => ?_⟩⟩
      have hM2c := thereX w2 s2 hM1c
      refine lc_draw (lo := 0) (n := n.toNat) INT (fun _ g => 0 ≤ g ∧ g < (c : Int)) r (wl :: M) hrM' hM2c hD w2 (len_small (by omega)) ?_ fun H3 gs s3 cm3 w3 hl3 hp3 hR3 => ?_
      · intro j H3 hj s3 cm w3 hth Q3 kQ
        exact ⟨rfl, _, rfl, _, rfl, r, c, rfl, w3, by omega, fun n H4 s4 w4 n0 n1 => kQ _ _ n s4 w4 ⟨n0, n1⟩ rfl⟩
      · have e3 := s3 _ _ nwr (s2 _ _ nwr e1)
        have lwv := wp.length
        refine ⟨wl, wvs, _, rfl, rfl, e3, len_small (by omega), ?_⟩
        have ec : cut (wl :: M) (upd H3 wl (.lst (wvs ++ [V.ref D]))) = cut (wl :: M) H3 := cut_upd (List.mem_cons_self ..)
        refine ⟨_, _, ws ++ [gs], _, rfl, sameX_put nwH (sx.trans (s2.trans s3)), ?_, upd_same, ?_, by rw [List.length_append, List.length_singleton]; omega, fun w hw => ?_⟩
        · obtain ⟨ns, h⟩ := w3
          exact ⟨ns, by rw [upd_ne nwr.symm]; exact h⟩
        · rw [ec]
          exact paired_app (pair_mono ((s2.cutX hrM').trans cm3) wp) (.cons (Ls.int hR3) .nil)
        · rcases List.mem_append.mp hw with h | h
          · exact wr w h
          · rw [List.mem_singleton.mp h]
            refine ⟨by omega, fun g hg => ?_⟩
            obtain ⟨j, hj⟩ := List.mem_iff_getElem?.mp hg
            exact hp3 j g hj
    · rintro σ H1 ⟨y3, y4, ws, wvs, rfl, sx, w1, e1, wp, wl1, wr⟩
      exact ⟨_, rfl, kk ws _ _ sx w1 wl1 wr ⟨wl, wvs, rfl, cut_of e1 nwM, pair_mono (cut_mono fun b hb => List.mem_cons_of_mem _ hb) wp⟩⟩
end
end K26


set_option maxHeartbeats 1000000
namespace K26
open PySem PySem.Spec PyProof.Rows L2
/-! ### more kinds behind -/
theorem CallsOk.app {ks t : List Str} {n : Nat} {cs : List (Int × Int)} (h : CallsOk ks n cs) : CallsOk (ks ++ t) n cs :=
  ⟨h.le, fun p hp => by
    obtain ⟨a, b, l, e, q⟩ := h.inr p hp
    have hl : l < ks.length := by
      rcases q with q | q <;> exact (List.getElem?_eq_some_iff.mp q).1
    refine ⟨a, b, l, e, ?_⟩
    rw [List.getElem?_append_left hl]
    exact q, h.asc⟩
theorem KindOk.app {ks t : List Str} {kind : Str} {r : RuleD} (h : KindOk ks kind r) : KindOk (ks ++ t) kind r := { h with chain := fun e => ⟨(h.chain e).1, (h.chain e).2.app⟩ }
theorem RuleV.app {ks t : List Str} {kind : Str} {c : Nat} {r : RuleD} (h : RuleV ks kind c r) : RuleV (ks ++ t) kind c r := { h with ok := h.ok.app }
def fontOf (W : WorldD) : FontD := ⟨W.advs.zip W.marks, W.lks⟩
theorem LawW.glen {W : WorldD} (h : LawW W) : (fontOf W).gls.length = W.c := by
  show (W.advs.zip W.marks).length = _
  rw [List.length_zip, h.ml, h.al, Nat.min_self]
theorem LawW.lookV {W : WorldD} (h : LawW W) : ∀ l ∈ W.lks, LookV (W.lks.map (·.kind)) W.c l := fun l hl => by
  obtain ⟨n, hn⟩ := List.mem_iff_getElem?.mp hl
  have k := h.lw n l hn
  refine ⟨Nat.le_trans k.n (by decide), k.kind, fun r hr => ?_⟩
  have e : W.lks.map (·.kind) = (W.lks.take n).map (·.kind) ++ (W.lks.drop n).map (·.kind) := by rw [← List.map_append, List.take_append_drop]
  rw [e]
  exact (k.rules r hr).v.app
theorem LawW.fontV {W : WorldD} (h : LawW W) : FontV (fontOf W) := by
  have h2 := h.c2
  have h5 := h.c5
  have h4 := h.n4
  refine ⟨by rw [h.glen]; omega, by rw [h.glen]; omega, fun g hg => ?_, by show W.lks.length ≤ 20; omega, by rw [h.glen]; exact h.lookV⟩
  have q := h.ar g.1 (List.of_mem_zip (show (g.1, g.2) ∈ W.advs.zip W.marks from hg)).1
  exact ⟨q.1, by omega⟩
theorem LawW.rlen {W : WorldD} (h : LawW W) : ∀ l ∈ W.lks, ∀ r ∈ l.rules, RLen r := fun l hl r hr => by
  obtain ⟨n, hn⟩ := List.mem_iff_getElem?.mp hl
  have k := (h.lw n l hn).rules r hr
  exact ⟨Nat.le_trans k.i3 (by decide), Nat.le_trans k.b2 (by decide), Nat.le_trans k.a2 (by decide)⟩
theorem LawW.r3 {W : WorldD} (h : LawW W) : ∀ l ∈ W.lks, l.rules.length ≤ 3 := fun l hl => by
  obtain ⟨n, hn⟩ := List.mem_iff_getElem?.mp hl
  exact (h.lw n l hn).n
theorem LawW.llen {W : WorldD} (h : LawW W) : ∀ l ∈ W.lks, LLen l := fun l hl => ⟨Nat.le_trans (h.r3 l hl) (by decide), h.rlen l hl⟩
section
variable {P : Program} {w : World} {K : PySem.W.Frag} {mg : Str → Option Value} {base : Heap}
def spLFont (K : PySem.W.Frag) : Sp := fun vs H Q _ => ∃ (M : List Addr) (W : WorldD) (mv av lv : V), vs = [.int W.c, mv, av, lv] ∧ (∀ b ∈ M, H b ≠ none) ∧ BLs (cut M H) mv W.marks ∧ IL (cut M H) av W.advs ∧ Ls LookT (cut M H) lv W.lks ∧ LawW W ∧
  ∀ v H', Same H H' → FontR K (cut M H') v (fontOf W) → Q v H'
abbrev nsLFont : List Str := ["_law_count", "_law_marks", "_law_advances", "_law_lookups_here", "_law_made", "_law_kind", "_law_rules", "_law_ignore", "_law_rows", "_law_glyphs", "_law_one", "_law_k"]
theorem sc_lfont : FnScope nsLFont ["_law_count", "_law_marks", "_law_advances", "_law_lookups_here"] (defScope s_law_font) := ⟨rfl, rfl, rfl, by decide +kernel, rfl, by decide +kernel, by decide +kernel⟩
theorem c_lfont (T : Txt K mg) : Cal P w K mg base 8 "_law_font" ["_law_count", "_law_marks", "_law_advances", "_law_lookups_here"] (spLFont K) := by
  obtain ⟨fd, F⟩ := T.f_law_font
  obtain ⟨fdG, FG⟩ := T.f_Glyph_init
  obtain ⟨mvG, kbG⟩ := kb_glyph1 FG
  obtain ⟨fdR, FR⟩ := T.f_Rule_init
  obtain ⟨mvR, kbR⟩ := kb_rule4 FR
  obtain ⟨fdL, FL⟩ := T.f_Lookup_init
  obtain ⟨mvL, kbL⟩ := kb_look FL
  obtain ⟨fdF, FF⟩ := T.f_Font_init
  obtain ⟨mvF, kbF⟩ := kb_fontB FF
  refine cal_of F T.g_law_font sc_lfont (fun vs H Q E h => ?_) (fun _ _ _ _ _ _ us hl => match us, hl with | [_, _, _, _], _ => rfl) (fun cdv A outer s H vs Q E hr h => ?_)
  · obtain ⟨M, W, mv, av, lv, rfl, _⟩ := h
    rfl
  · obtain ⟨M, W, mv, av, lv, rfl, hM, ⟨ma, rfl, hma⟩, ⟨aa, rfl, haa⟩, ⟨la, lvs, rfl, hla, lp⟩, ok, kk⟩ := h
    have nd := sc_lfont.nd
    have hr2 : Room 2 _ := hr.mono (by decide)
    have c2 := ok.c2
    have c5 := ok.c5
    refine ⟨_, pss_cons (ps_set (i := 4) nd rfl (.inl rfl) (pe_lst pa_nil))
      (pss_cons (ps_for PassesOwn.never rfl (pi_list (pv 3)) (pg_tup rfl (pgs_cons (pg_name (i := 5) nd rfl (.inl rfl)) (pgs_cons (pg_name (i := 6) nd rfl (.inl rfl)) (pgs_cons (pg_name (i := 7) nd rfl (.inl rfl)) pgs_nil))))
        (pss_cons (ps_setLc (i := 8) (own := [("_law_one", 10)]) (g := gName 10) (tt := tYes) (te := tMakeK (cRule K) 1 (List.length (α := Str) ["back", "ahead", "out", "calls"]) (spRuleI K) (fun (vs zs : List V) => vs ++ zs ++ [V.int 0]) E0 (tCons (tOp (rIxT K) (tVar 10) (tC (.int 0))) tNil)
              (tCons (tOp (rIxT K) (tVar 10) (tC (.int 1))) (tCons (tOp (rIxT K) (tVar 10) (tC (.int 2))) (tCons (tOp (rIxT K) (tVar 10) (tC (.int 3))) (tCons (tOp (rIxT K) (tVar 10) (tC (.int 4))) tNil))))) rfl nd rfl rfl (sw_true rfl rfl rfl (by decide +kernel))
            (pi_list (pv 6)) (blkOk_by (N := nsLFont) (sc := defScope s_law_font) (by decide +kernel)) (fun _ _ _ _ _ => pg_name (i := 10) nd rfl (Or.inl rfl)) (fun _ _ _ _ _ => pts_nil)
            (fun _ _ _ _ _ => pe_makeK T.mk_Rule (ok_ruleI T FR) hr2 rfl T.g_Rule kbR pass0 (pa_cons (pe_ix ix_tup (pv 10) pe_int (fun _ _ => rfl)) pa_nil)
              (pk_cons (pe_ix ix_tup (pv 10) pe_int (fun _ _ => rfl)) (pk_cons (pe_ix ix_tup (pv 10) pe_int (fun _ _ => rfl)) (pk_cons (pe_ix ix_tup (pv 10) pe_int (fun _ _ => rfl)) (pk_cons (pe_ix ix_tup (pv 10) pe_int (fun _ _ => rfl)) pk_nil))))))
        (pss_one (ps_expr (pe_bm PySem.F.plainAttrs_list PySem.F.slot_list_append PySem.F.type_list_append mt_append (pv 4) (pa_cons (pe_makeK T.mk_Lookup (ok_lookI T FL) hr2 rfl T.g_Lookup kbL pass0 (pa_cons (pv 5) (pa_cons (pv 8) pa_nil)) (pk_cons (pv 7) pk_nil)) pa_nil))))))
      (pss_cons (ps_setLc (i := 9) (own := [("_law_k", 11)]) (g := gName 11) (tt := tYes) (te := tMakeK (cGlyph K) 2 (List.length (α := Str) ["mark"]) (spGlyphI K) (fun (vs zs : List V) => vs ++ ((kwmG K).map (·.2)).take 2 ++ zs ++ ((kwmG K).map (·.2)).drop 2) E0 (tCons (tOp (rIxL K) (tVar 2) (tVar 11)) (tCons (tLst tNil) tNil))
              (tCons (tOp (rIxL K) (tVar 1) (tVar 11)) tNil)) rfl nd rfl rfl (sw_true rfl rfl rfl (by decide +kernel))
            (pi_range1 (by rfl) T.b_range (pa_cons (pv 0) pa_nil)) (blkOk_by (N := nsLFont) (sc := defScope s_law_font) (by decide +kernel)) (fun _ _ _ _ _ => pg_name (i := 11) nd rfl (Or.inl rfl)) (fun _ _ _ _ _ => pts_nil)
            (fun _ _ _ _ _ => pe_makeK T.mk_Glyph (ok_glyphI T FG) hr2 rfl T.g_Glyph kbG pass0 (pa_cons (pe_ix ix_list (pv 2) (pv 11) (fun _ _ => rfl)) (pa_cons (pe_lst pa_nil) pa_nil)) (pk_cons (pe_ix ix_list (pv 1) (pv 11) (fun _ _ => rfl)) pk_nil)))
      (pss_one (ps_ret (pe_makeK T.mk_Font (ok_fontI T FF) hr rfl T.g_Font kbF pass0 (pa_cons pe_int (pa_cons (pv 9) pa_nil)) (pk_cons (pv 4) pk_nil)))))), ?_⟩
    refine ⟨Nat.zero_le _, fun ml nml => ?_⟩
    have s0 : Same H (upd H ml (.lst [])) := same_upd nml
    have nmM : ml ∉ M := not_in_of hM nml
    have sx0 : Same (cut M H) (cut (ml :: M) (upd H ml (.lst []))) := same_cut_new nml (Same.newD nml s0)
    refine ⟨_, rfl, la, rfl, ⟨_, SqL.of (s0 _ _ (cut_get hla).2)⟩, ?_⟩
    refine for_list (K := K) (a := la) (xs := lvs) (fun i σ H1 => ∃ (y5 y6 y7 y8 : Option V) (mvs : List V), σ = [some (.int W.c), some (.ref ma), some (.ref aa), some (.ref la), some (.ref ml), y5, y6, y7, y8, none, none, none] ∧ Same H H1 ∧ Same (cut M H) (cut (ml :: M) H1) ∧ H1 ml = some (.lst mvs) ∧ Paired (LookR K (cut (ml :: M) H1)) mvs (W.lks.take i))
      ⟨none, none, none, none, [], rfl, s0, sx0, upd_same, by rw [List.take_zero]; exact .nil⟩ (fun i σ H1 _ ⟨_, _, _, _, _, _, sm, _⟩ => SqL.of (sm _ _ (cut_get hla).2)) ?_ ?_
    · rintro i xv σ H1 hxi ⟨y5, y6, y7, y8, mvs, rfl, s1, sx1, e1, mp⟩
      obtain ⟨lk, hlk, ⟨t, rv, rfl, ht, ⟨ra, rvs, rfl, hra, rp⟩⟩⟩ := paired_getL lp hxi
      have hlm := List.mem_of_getElem? hlk
      have l3 := ok.r3 lk hlm
      have hM1c : ∀ b ∈ ml :: M, H1 b ≠ none := fun b hb => by
        rcases List.mem_cons.mp hb with q | hb
        · rw [q]
          exact some_ne e1
        · exact s1.there (hM b hb)
      have lrp := rp.length
      refine ⟨t, _, rfl, SqT.of (s1 _ _ (cut_get ht).2), rfl, _, _, rfl, _, _, rfl, _, _, rfl, rfl, ?_⟩
      have hra1 := s1 _ _ (cut_get hra).2
      refine ⟨_, rfl, ra, rfl, ⟨_, SqL.of hra1⟩, fun D hD => lc_map (K := K) (a := ra) (xs := rvs) (RuleR K) (ml :: M) lk.rules hM1c hD (SqL.of hra1) lrp (len_small (by omega)) ?_ fun H2 s2 cm2 hR => ?_⟩
      · intro j xv yv H2 hxj hyj s2 cm hth Q2 kQ
        obtain ⟨z, hz, hq⟩ := paired_getL rp hxj
        obtain rfl : z = yv := Option.some.inj (hz.symm.trans hyj)
        obtain ⟨u, iv, bv, av', ov, cv, rfl, hu, h1, h2, h3, h4, h5⟩ := Mono.mono (sx1.trans cm) hq
        have hu' := (cut_get hu).2
        refine ⟨rfl, _, rfl, u, _, _, _, rfl, rfl, SqT.of hu', atI_nat (j := 0) rfl, _, rfl, u, _, _, _, rfl, rfl, SqT.of hu', atI_nat (j := 1) rfl, _, rfl, u, _, _, _, rfl, rfl, SqT.of hu', atI_nat (j := 2) rfl, _, rfl, u, _, _, _, rfl, rfl, SqT.of hu', atI_nat (j := 3) rfl, _, rfl, u, _, _, _, rfl, rfl, SqT.of hu', atI_nat (j := 4) rfl, rfl, rfl, ?_⟩
        intro y dy ny ndy ney
        have m := made_cutM (M := D :: ml :: M) (o := .own y) (u := .ins (cRule K) dy []) ny ndy
        exact ⟨D :: ml :: M, y, dy, z, _, _, _, _, _, rfl, upd_same, there_made hth ny ndy, not_in_of hth ny, Mono.mono m h1, Mono.mono m h2, Mono.mono m h3, Mono.mono m h4, Mono.mono m h5, ok.rlen lk hlm z (mem_at hz), fun H3 s3 r3 => ⟨rfl, kQ _ _ (made_X ny ndy s3) r3⟩⟩
      · have e2 := s2 _ _ e1
        refine ⟨_, rfl, .inl ⟨rfl, _, SqL.of e2⟩, _, rfl, _, rfl, _, rfl, rfl, rfl, ?_⟩
        intro y dy ny ndy ney
        have hM2c := there_same s2 hM1c
        have m := made_cutM (M := ml :: M) (o := .own y) (u := .ins (cLookup K) dy []) ny ndy
        refine ⟨ml :: M, y, dy, lk, _, rfl, upd_same, there_made hM2c ny ndy, not_in_of hM2c ny, Mono.mono m hR, fun H3 s3 r3 => ⟨rfl, ?_⟩⟩
        have s23 := made_X ny ndy s3
        have e3 := s23 _ _ e2
        have lmv := mp.length
        have hmv : mvs.length ≤ 4 := by
          rw [lmv, List.length_take]
          have := ok.n4
          omega
        refine ⟨ml, mvs, _, rfl, rfl, e3, len_small (by omega), ?_⟩
        have ec : cut (ml :: M) (upd H3 ml (.lst (mvs ++ [V.ref y]))) = cut (ml :: M) H3 := cut_upd (List.mem_cons_self ..)
        refine ⟨_, _, _, _, _, rfl, same_put nml (s1.trans (s2.trans s23)), ?_, upd_same, ?_⟩
        · rw [ec]
          exact sx1.trans ((s2.trans s23).cutS _)
        · rw [ec]
          have et : W.lks.take (i + 1) = W.lks.take i ++ [lk] := by
            rw [List.take_add_one, hlk]
            rfl
          rw [et]
          exact paired_app (pair_mono ((s2.trans s23).cutS _) mp) (.cons r3 .nil)
    · rintro σ H1 ⟨y5, y6, y7, y8, mvs, rfl, s1, sx1, e1, mp⟩
      rw [lp.length, List.take_length] at mp
      have hM1 := there_same s1 hM
      have hmk : Ls (LookR K) (cut M H1) (.ref ml) W.lks := ⟨ml, mvs, rfl, cut_of e1 nmM, pair_mono (cut_mono fun b hb => List.mem_cons_of_mem _ hb) mp⟩
      have haa1 := s1 _ _ (cut_get haa).2
      have hma1 := s1 _ _ (cut_get hma).2
      have lz : (W.advs.zip W.marks).length = W.c := ok.glen
      refine ⟨_, rfl, (W.c : Int), rfl, by omega, by omega, fun D hD => ?_⟩
      rw [Int.toNat_natCast]
      refine lc_mapR (lo := 0) (n := W.c) (GlyphR K) M (W.advs.zip W.marks) hM1 hD lz.symm (len_small (by omega)) ?_ fun H2 s2 cm2 hR => ?_
      · intro i yv H2 hi hyi s2 cm hth Q2 kQ
        rw [Int.zero_add]
        obtain ⟨za, zm⟩ := yv
        have hz := List.getElem?_zip_eq_some.mp hyi
        have ha2 := s2 _ _ haa1
        have hm2 := s2 _ _ hma1
        refine ⟨rfl, _, rfl, _, rfl, aa, _, _, _, rfl, rfl, SqL.of ha2, atI_nat (j := i) (int_at_of hz.1), Nat.zero_le _, fun o no => ?_⟩
        have s3 : Same H2 (upd H2 o (.lst [])) := same_upd no
        refine ⟨_, rfl, _, rfl, ma, _, _, .bl zm, rfl, rfl, SqL.of (s3 _ _ hm2), atI_nat (j := i) (by rw [List.getElem?_map, hz.2]; rfl), rfl, rfl, ?_⟩
        intro y dy ny ndy ney
        have m := made_cut (o := .own y) (u := .ins (cGlyph K) dy []) ny ndy
        have hth3 := there_same s3 hth
        refine ⟨D :: M, y, dy, o, za, zm, _, _, _, _, rfl, upd_same, there_made hth3 ny ndy, not_in_of hth3 ny, SqL.of (m _ _ upd_same), ⟨_, rfl, .inr (T.et_Glyph_parts _)⟩, ⟨_, rfl, .inr (T.et_Glyph_anchors _)⟩, ⟨_, rfl, .inr (T.et_Glyph_deltas _)⟩, ⟨_, rfl, .inr (T.et_Glyph_hint _)⟩, fun H3 s3' r3 => ⟨rfl, kQ _ _ (s3.trans (made_X ny ndy s3')) r3⟩⟩
      · refine ⟨_, rfl, _, rfl, rfl, rfl, ?_⟩
        intro y dy ny ndy ney
        have m := made_cutM (M := M) (o := .own y) (u := .ins (cFont K) dy []) ny ndy
        have hM2 := there_same s2 hM1
        exact ⟨M, y, dy, fontOf W, _, _, rfl, upd_same, there_made hM2 ny ndy, not_in_of hM2 ny, Mono.mono m hR, Mono.mono (cm2.trans m) hmk, ok.llen, ok.fontV, fun H3 s3 r3 => ⟨rfl, kk _ _ (s1.trans (s2.trans (made_X ny ndy s3))) r3⟩⟩
end
end K26


set_option maxHeartbeats 1000000
namespace K26
open PySem PySem.Spec PyProof.Rows L2
section
variable {P : Program} {w : World} {K : PySem.W.Frag} {mg : Str → Option Value} {base : Heap}
/-! ### the law's patterns -/
def spLPats : Sp := fun vs H Q _ => ∃ (W : WorldD) (n : Nat) (lk : LkD) (fore : Bool) (wv : V), vs = [wv, .int n, .str (sideName fore)] ∧ WorldR H wv W ∧ W.lks[n]? = some lk ∧ lk.rules.length ≤ 1000 ∧ (∀ r ∈ lk.rules, r.inside.length + r.ahead.length ≤ 1000) ∧
  ∀ H' v, Same H H' → PtsR H' v (patsOf fore lk) → Q v H'
abbrev nsLPats : List Str := ["_law_world_here", "_law_lookup", "_law_side_here", "_law_rules", "_law_one"]
theorem sc_lpats : FnScope nsLPats ["_law_world_here", "_law_lookup", "_law_side_here"] (defScope s_law_patterns) := ⟨rfl, rfl, rfl, by decide +kernel, rfl, by decide +kernel, by decide +kernel⟩
theorem c_lpats (T : Txt K mg) : Cal P w K mg base 1 "_law_patterns" ["_law_world_here", "_law_lookup", "_law_side_here"] spLPats := by
  obtain ⟨fd, F⟩ := T.f_law_patterns
  refine cal_of F T.g_law_patterns sc_lpats (fun vs H Q E h => ?_) (fun _ _ _ _ _ _ us hl => match us, hl with | [_, _, _], _ => rfl) (fun cdv A outer s H vs Q E hr h => ?_)
  · obtain ⟨W, n, lk, fore, wv, rfl, _⟩ := h
    rfl
  · obtain ⟨W, n, lk, fore, wv, rfl, ⟨t, mv, av, lv, rfl, ht, _, _, ⟨la, lvs, rfl, hla, lp⟩⟩, hn, l1, l2, kk⟩ := h
    have nd := sc_lpats.nd
    obtain ⟨xv, hxv, ⟨u, rv, rfl, hu, ⟨ra, rvs, rfl, hra, rp⟩⟩⟩ := paired_get lp hn
    refine ⟨_, pss_cons (ps_set (i := 3) nd rfl (.inl rfl) (pe_ix ix_tup (pe_ix ix_list (pe_ix ix_tup (pv 0) pe_int (fun _ _ => rfl)) (pv 1) (fun _ _ => rfl)) pe_int (fun _ _ => rfl)))
      (pss_cons (ps_if (pt_cmpR op_eq (pv 2) pe_str (nomark _)) (pss_one (ps_ret (pe_lc (own := [("_law_one", 4)]) (g := gName 4) (tt := tYes) (te := tOp rCat (tOp (rIxT K) (tVar 4) (tC (.int 0))) (tOp (rIxT K) (tVar 4) (tC (.int 2)))) rfl nd (pi_list (pv 3)) (blkOk_by (N := nsLPats) (sc := defScope s_law_patterns) (by decide +kernel))
          (fun _ _ _ _ _ => pg_name (i := 4) nd rfl (Or.inl rfl)) (fun _ _ _ _ _ => pts_nil) (fun _ _ _ _ _ => pe_op op_cat (pe_ix ix_tup (pv 4) pe_int (fun _ _ => rfl)) (pe_ix ix_tup (pv 4) pe_int (fun _ _ => rfl)))))) pss_nil)
      (pss_one (ps_ret (pe_lc (own := [("_law_one", 4)]) (g := gName 4) (tt := tYes) (te := tOp (rIxT K) (tVar 4) (tC (.int 1))) rfl nd (pi_list (pv 3)) (blkOk_by (N := nsLPats) (sc := defScope s_law_patterns) (by decide +kernel))
          (fun _ _ _ _ _ => pg_name (i := 4) nd rfl (Or.inl rfl)) (fun _ _ _ _ _ => pts_nil) (fun _ _ _ _ _ => pe_ix ix_tup (pv 4) pe_int (fun _ _ => rfl)))))), ?_⟩
    refine ⟨_, rfl, t, _, _, _, rfl, rfl, SqT.of ht, atI_nat (j := 3) rfl, _, rfl, la, _, _, _, rfl, rfl, SqL.of hla, atI_nat hxv, u, _, _, _, rfl, rfl, SqT.of hu, atI_nat (j := 1) rfl, ?_⟩
    have lr := rp.length
    cases fore with
    | true =>
      refine ⟨_, rfl, rfl, _, rfl, iteP (by decide +kernel) ?_⟩
      refine ⟨_, rfl, ra, rfl, ⟨_, SqL.of hra⟩, fun D hD => lc_map (K := K) (a := ra) (xs := rvs) PatR [] (patsOf true lk) (fun b hb => absurd hb List.not_mem_nil) hD (SqL.of hra) (by unfold patsOf; rw [List.length_map]; exact lr) (len_small (by omega)) ?_ fun H2 s2 _ r2 => ?_⟩
      · intro j xv yv H3 hxj hyj s3 _ hth Q3 kQ
        obtain ⟨r, hr', ⟨q, iv, bv, av', ov, cv, rfl, hq, ⟨ia, ivs, rfl, hia, ip⟩, hb, ⟨aa, avs, rfl, haa, ap⟩, _, _⟩⟩ := paired_getL rp hxj
        have ey : yv = r.inside ++ r.ahead := by
          unfold patsOf at hyj
          rw [List.getElem?_map, hr'] at hyj
          exact (Option.some.inj hyj).symm
        have lir := l2 r (List.mem_of_getElem? hr')
        have li := ip.length
        have la' := ap.length
        refine ⟨rfl, _, rfl, q, _, _, _, rfl, rfl, SqT.of (s3 _ _ hq), atI_nat (j := 0) rfl, _, rfl, q, _, _, _, rfl, rfl, SqT.of (s3 _ _ hq), atI_nat (j := 2) rfl, ia, aa, ivs, avs, rfl, rfl, s3 _ _ hia, s3 _ _ haa, len_small' (by omega), fun p np => kQ _ _ (same_upd np) ?_⟩
        rw [ey]
        have sn : Same H3 (upd H3 p (.lst (ivs ++ avs))) := same_upd np
        have npD : p ∉ [D] := not_in_of hth np
        have sH : Same H (cut [D] (upd H3 p (.lst (ivs ++ avs)))) := fun b o hb => by
          have e1 := sn _ _ (s3 _ _ hb)
          exact cut_of e1 (by simp only [List.mem_singleton]; exact ne_of_none hb hD)
        exact ⟨p, ivs ++ avs, rfl, cut_of upd_same npD, pair_mono sH (paired_app ip ap)⟩
      · exact kk _ _ s2 (dropA r2)
    | false =>
      refine ⟨_, rfl, rfl, _, rfl, iteN (by decide +kernel) ?_⟩
      refine ⟨_, rfl, ra, rfl, ⟨_, SqL.of hra⟩, fun D hD => lc_map (K := K) (a := ra) (xs := rvs) PatR [] (patsOf false lk) (fun b hb => absurd hb List.not_mem_nil) hD (SqL.of hra) (by unfold patsOf; rw [List.length_map]; exact lr) (len_small (by omega)) ?_ fun H2 s2 _ r2 => ?_⟩
      · intro j xv yv H3 hxj hyj s3 _ hth Q3 kQ
        obtain ⟨r, hr', ⟨q, iv, bv, av', ov, cv, rfl, hq, _, hb, _, _, _⟩⟩ := paired_getL rp hxj
        have ey : yv = r.back := by
          unfold patsOf at hyj
          rw [List.getElem?_map, hr'] at hyj
          exact (Option.some.inj hyj).symm
        refine ⟨rfl, _, rfl, q, _, _, _, rfl, rfl, SqT.of (s3 _ _ hq), atI_nat (j := 1) rfl, kQ _ _ (Same.refl _) ?_⟩
        rw [ey]
        have sH : Same H (cut [D] H3) := fun b o hb => cut_of (s3 _ _ hb) (by simp only [List.mem_singleton]; exact ne_of_none hb hD)
        exact Mono.mono sH hb
      · exact kk _ _ s2 (dropA r2)
/-! ### the law's next status -/
def spLNext : Sp := fun vs H Q _ => ∃ (ps : List Pat) (st : List Int) (g : Int) (pv sv : V), vs = [pv, sv, .int g] ∧ PtsR H pv ps ∧ IL H sv st ∧ StOk ps st ∧ ps.length ≤ 1000 ∧
  ∀ H' p, Same H H' → H p = none → H' p = some (.lst ((nxS ps st g).map V.int)) → Q (.ref p) H'
abbrev nsLNext : List Str := ["_law_patterns_here", "_law_status_here", "_law_glyph", "_law_found", "_law_k", "_law_number"]
theorem sc_lnext : FnScope nsLNext ["_law_patterns_here", "_law_status_here", "_law_glyph"] (defScope s_law_next) := ⟨rfl, rfl, rfl, by decide +kernel, rfl, by decide +kernel, by decide +kernel⟩
theorem c_lnext (T : Txt K mg) : Cal P w K mg base 1 "_law_next" ["_law_patterns_here", "_law_status_here", "_law_glyph"] spLNext := by
  obtain ⟨fd, F⟩ := T.f_law_next
  refine cal_of F T.g_law_next sc_lnext (fun vs H Q E h => ?_) (fun _ _ _ _ _ _ us hl => match us, hl with | [_, _, _], _ => rfl) (fun cdv A outer s H vs Q E hr h => ?_)
  · obtain ⟨ps, st, g, pv, sv, rfl, _⟩ := h
    rfl
  · obtain ⟨ps, st, g, pv', sv, rfl, ⟨a, pvs, rfl, ha, pp⟩, ⟨b, rfl, hb⟩, ⟨hl, hbd⟩, hsz, k⟩ := h
    have nd := sc_lnext.nd
    refine ⟨_, pss_cons (ps_set (i := 3) nd rfl (.inl rfl) (pe_lst pa_nil))
      (pss_cons (ps_for PassesOwn.never rfl (pi_range1 (by rfl) T.b_range (pa_cons (pe_callB call_len_seq (by rfl) T.b_len boot_len (pa_cons (pv 0) pa_nil)) pa_nil)) (pg_name (i := 4) nd rfl (.inl rfl))
        (pss_cons (ps_set (i := 5) nd rfl (.inl rfl) (pe_ix ix_list (pv 1) (pv 4) (fun _ _ => rfl)))
        (pss_cons (ps_if (PW.pt (pw_and (pt_cmpR op_le pe_int (pv 5) (nomark _)) (pw_and1 (pt_cmpR op_lt (pv 5) (pe_callB call_len_seq (by rfl) T.b_len boot_len (pa_cons (pe_ix ix_list (pv 0) (pv 4) (fun _ _ => rfl)) pa_nil)) (nomark _)))))
          (pss_one (ps_set (i := 5) nd rfl (.inl rfl) (pe_ix ix_list (pe_lst (pa_cons (pe_un un_neg pe_int) (pa_cons (pe_op op_add (pv 5) pe_int) pa_nil))) (pe_callTy call_int1 (by rfl) T.b_int boot_int' (pa_cons (pe_cmpR op_in_seq (pv 2) (pe_ix ix_list (pe_ix ix_list (pv 0) (pv 4) (fun _ _ => rfl)) (pv 5) (fun _ _ => rfl)) (by rfl)) pa_nil)) (fun _ _ => rfl)))) pss_nil)
        (pss_one (ps_expr (pe_bm PySem.F.plainAttrs_list PySem.F.slot_list_append PySem.F.type_list_append mt_append (pv 3) (pa_cons (pv 5) pa_nil)))))))
      (pss_one (ps_ret (pv 3)))), ?_⟩
    refine ⟨Nat.zero_le _, fun o no => ?_⟩
    have s0 : Same H (upd H o (.lst [])) := same_upd no
    have hpl := pp.length
    refine ⟨_, rfl, a, _, rfl, .inl (SqL.of (s0 _ _ ha)), ((pvs.length : Nat) : Int), rfl, by omega, by omega, ?_⟩
    rw [Int.toNat_natCast]
    refine for_range (lo := 0) (n := pvs.length) (fun i σ H1 => ∃ y4 y5, σ = [some (.ref a), some (.ref b), some (.int g), some (.ref o), y4, y5] ∧ Same H (cut [o] H1) ∧ H1 o = some (.lst (((nxS ps st g).take i).map V.int)))
      ⟨none, none, rfl, ?_, upd_same⟩ ?_ ?_
    · rw [cut_upd (List.mem_singleton.mpr rfl)]
      exact Same.newD no (Same.refl _)
    · rintro i σ H1 hi ⟨y4, y5, rfl, sm, eo⟩
      rw [Int.zero_add]
      have sH : Same H H1 := sm.trans cut_same
      have hip : i < ps.length := by omega
      have his : i < st.length := by omega
      have hp : ps[i]? = some ps[i] := List.getElem?_eq_getElem hip
      have hn : st[i]? = some st[i] := List.getElem?_eq_getElem his
      generalize ps[i] = p at hp
      generalize st[i] = n at hn
      obtain ⟨x, hx, ⟨q, svs, rfl, hq, sp⟩⟩ := paired_get pp hp
      have hnx := nxS_get (g := g) hp hn
      have hbn := hbd i p n hp hn
      have sl := sp.length
      have hlen : (((nxS ps st g).take i).map V.int).length < sizeLine := by
        rw [List.length_map, List.length_take, nxS_len]
        exact len_small (by omega)
      have fin : ∀ (v : Int) (H2 : Hp), Same H1 H2 → v = nx1 p n g → ∃ y4 y5, ([some (.ref a), some (.ref b), some (.int g), some (.ref o), some (V.int (i : Int)), some (V.int v)] : L2.St) = [some (.ref a), some (.ref b), some (.int g), some (.ref o), y4, y5] ∧
          Same H (cut [o] (upd H2 o (.lst (((nxS ps st g).take i).map V.int ++ [V.int v])))) ∧ (upd H2 o (.lst (((nxS ps st g).take i).map V.int ++ [V.int v]))) o = some (.lst (((nxS ps st g).take (i + 1)).map V.int)) := fun v H2 s2 ev => by
        refine ⟨_, _, rfl, ?_, ?_⟩
        · rw [cut_upd (List.mem_singleton.mpr rfl)]
          exact sm.trans (s2.cutS _)
        · rw [upd_same, List.take_add_one, hnx, ev, List.map_append]
          rfl
      refine ⟨_, rfl, _, rfl, b, _, _, _, rfl, rfl, SqL.of (sH _ _ hb), atI_nat (j := i) (int_at_of hn), ?_⟩
      refine ⟨_, rfl, _, _, rfl, rfl, _, rfl, ite2 (fun e => ?_) (fun e => ?_)⟩
      · have n0 : 0 ≤ n := of_decide_eq_true e
        refine ⟨_, rfl, _, rfl, _, rfl, a, _, _, _, rfl, rfl, SqL.of (sH _ _ ha), atI_nat (j := i) hx, q, _, rfl, .inl (SqL.of (sH _ _ hq)), _, _, rfl, rfl, _, rfl, ite2 (fun e2 => ?_) (fun e2 => ?_)⟩
        · have n1 : n < (svs.length : Int) := of_decide_eq_true e2
          have hj : n.toNat < p.length := by omega
          obtain ⟨sv', hsv, ⟨z, rfl, hz⟩⟩ := paired_get (i := n.toNat) sp (List.getElem?_eq_getElem hj)
          have egd : p.getD n.toNat [] = p[n.toNat] := by
            rw [List.getD_eq_getElem?_getD, List.getElem?_eq_getElem hj]
            rfl
          refine ⟨1, rfl, _, rfl, _, _, rfl, rfl, (by show 2 ≤ sizeLine; decide), fun w2 nw2 => ?_⟩
          have s2 : Same H1 (upd H1 w2 (.lst [V.int (-1), V.int (n + 1)])) := same_upd nw2
          have sH2 := sH.trans s2
          refine ⟨_, rfl, _, rfl, _, rfl, a, _, _, _, rfl, rfl, SqL.of (sH2 _ _ ha), atI_nat (j := i) hx, _, rfl, q, _, _, _, rfl, rfl, SqL.of (sH2 _ _ hq), at_of (j := n.toNat) (by omega) hsv, z, _, rfl, .inl (SqL.of (sH2 _ _ hz)), rfl, flat_ints _, .inr ⟨_, rfl, ?_⟩⟩
          have ein : inV (V.int g) ((p[n.toNat]).map V.int) = decide (g ∈ p[n.toNat]) := inV_ints _ _
          have eo2 := s2 _ _ eo
          by_cases hg : g ∈ p[n.toNat]
          · refine ⟨w2, _, 1, .int (n + 1), rfl, ?_, SqL.of upd_same, rfl, _, rfl, .inl ⟨rfl, _, SqL.of eo2⟩, _, rfl, o, _, _, rfl, rfl, eo2, hlen, fin (n + 1) _ s2 (by unfold nx1; rw [if_neg (by omega), egd, if_pos hg])⟩
            show V.int (if inV (V.int g) ((p[n.toNat]).map V.int) = true then 1 else 0) = V.int 1
            rw [ein, decide_eq_true hg]
            rfl
          · refine ⟨w2, _, 0, .int (-1), rfl, ?_, SqL.of upd_same, rfl, _, rfl, .inl ⟨rfl, _, SqL.of eo2⟩, _, rfl, o, _, _, rfl, rfl, eo2, hlen, fin (-1) _ s2 (by unfold nx1; rw [if_neg (by omega), egd, if_neg hg])⟩
            show V.int (if inV (V.int g) ((p[n.toNat]).map V.int) = true then 1 else 0) = V.int 0
            rw [ein, decide_eq_false hg]
            rfl
        · have e3 : ¬ n < (svs.length : Int) := fun z => e2 (decide_eq_true z)
          refine ⟨_, rfl, .inl ⟨rfl, _, SqL.of eo⟩, _, rfl, o, _, _, rfl, rfl, eo, hlen, fin n _ (Same.refl _) (by unfold nx1; rw [if_pos (by omega)])⟩
      · have e3 : ¬ 0 ≤ n := fun z => e (decide_eq_true z)
        refine iteF ⟨_, rfl, .inl ⟨rfl, _, SqL.of eo⟩, _, rfl, o, _, _, rfl, rfl, eo, hlen, fin n _ (Same.refl _) (by unfold nx1; rw [if_pos (by omega)])⟩
    · rintro σ H1 ⟨y4, y5, rfl, sm, eo⟩
      have ei : (nxS ps st g).take pvs.length = nxS ps st g := List.take_of_length_le (by rw [nxS_len]; omega)
      rw [ei] at eo
      exact ⟨_, rfl, k H1 o (sm.trans cut_same) no eo⟩
end
end K26


set_option maxHeartbeats 1000000
namespace K26
open PySem PySem.Spec PyProof.Rows L2
/-- line.append(statuses.index(status)) -/
def tApp2 (K : PySem.W.Frag) : TS := tDrop (tBM K "list" rAppend (tVar 5) (tCons (tBM K "list" (rIndexD K) (tVar 2) (tCons (tVar 7) tNil)) tNil))
theorem app_index2 {K : PySem.W.Frag} {M : List Addr} {D : Ends} {H0 H : Hp} {sa ra wa p : Addr} {S rows : List (List Int)} {s nums : List Int} {f n y4 y6 y8 y9 y10 : Option V} (a : SrAt M H0 sa ra S rows H) (hw : H wa = some (.lst (nums.map V.int))) (hp : IL H (.ref p) s) (hs : s ∈ S) (hl : nums.length ≤ 1000)
    (k : D.nx [f, n, some (.ref sa), some (.ref ra), y4, some (.ref wa), y6, some (.ref p), y8, y9, y10] (upd H wa (.lst ((nums ++ [((S.idxOf s : Nat) : Int)]).map V.int)))) : tApp2 K D [f, n, some (.ref sa), some (.ref ra), y4, some (.ref wa), y6, some (.ref p), y8, y9, y10] H := by
  have hix := idx_get hs
  obtain ⟨svs, h1, _⟩ := a.st
  have hj : (S.map dI)[S.idxOf s]? = some (dI s) := by
    rw [List.getElem?_map, hix]
    rfl
  refine ⟨_, rfl, .inl ⟨rfl, _, SqL.of hw⟩, _, rfl, .inl ⟨rfl, _, SqL.of h1⟩, _, rfl, sa, _, dI s, S.map dI, S.idxOf s, dI s, rfl, rfl, a.dpS, IL.dp hp, dL_shaped S, dI_shaped s, hj, by rw [eqv_dI]; exact decide_eq_true rfl, fun m z' hm hz => ?_, ?_⟩
  · rw [List.getElem?_map] at hz
    cases e : S[m]? with
    | none =>
      rw [e] at hz
      cases hz
    | some t =>
      rw [e] at hz
      obtain rfl : dI t = z' := Option.some.inj hz
      rw [eqv_dI]
      refine decide_eq_false fun q => ?_
      subst q
      have h2 := List.not_of_lt_findIdx (p := (· == t)) (xs := S) (i := m) hm
      obtain ⟨hml, em⟩ := List.getElem?_eq_some_iff.mp e
      rw [em] at h2
      simp at h2
  · refine ⟨wa, _, _, rfl, rfl, hw, len_small (by rw [List.length_map]; omega), ?_⟩
    rw [List.map_append] at k
    exact k
section
variable {P : Program} {w : World} {K : PySem.W.Frag} {mg : Str → Option Value} {base : Heap}
/-! ### the law's status of a row -/
def spLSt : Sp := fun vs H Q _ => ∃ (ps : List Pat) (word : List Int) (pv wv : V), vs = [pv, wv] ∧ PtsR H pv ps ∧ IL H wv word ∧ ps.length ≤ 1000 ∧ (∀ p ∈ ps, p.length ≤ 1000) ∧
  ∀ H' a, Same H H' → H a = none → H' a = some (.lst ((ps.map fun p => lst1 p word).map V.int)) → Q (.ref a) H'
abbrev nsLSt : List Str := ["_law_patterns_here", "_law_glyphs", "_law_found", "_law_pattern", "_law_fitting", "_law_k"]
theorem sc_lst : FnScope nsLSt ["_law_patterns_here", "_law_glyphs"] (defScope s_law_status) := ⟨rfl, rfl, rfl, by decide +kernel, rfl, by decide +kernel, by decide +kernel⟩
theorem c_lst (T : Txt K mg) : Cal P w K mg base 1 "_law_status" ["_law_patterns_here", "_law_glyphs"] spLSt := by
  obtain ⟨fd, F⟩ := T.f_law_status
  refine cal_of F T.g_law_status sc_lst (fun vs H Q E h => ?_) (fun _ _ _ _ _ _ us hl => match us, hl with | [_, _], _ => rfl) (fun cdv A outer s H vs Q E hr h => ?_)
  · obtain ⟨ps, word, pv, wv, rfl, _⟩ := h
    rfl
  · obtain ⟨ps, word, pv', wv, rfl, ⟨a, pvs, rfl, ha, pp⟩, ⟨b, rfl, hb⟩, hsz, hpl, kk⟩ := h
    have nd := sc_lst.nd
    refine ⟨_, pss_cons (ps_set (i := 2) nd rfl (.inl rfl) (pe_lst pa_nil))
      (pss_cons (ps_for PassesOwn.never rfl (pi_list (pv 0)) (pg_name (i := 3) nd rfl (.inr rfl))
        (pss_cons (ps_setLc (i := 4) (own := [("_law_k", 5)]) (g := gName 5) (tt := tYes) (te := tOp (rIn K false) (tOp (rIxL K) (tVar 1) (tVar 5)) (tOp (rIxL K) (tVar 3) (tVar 5))) rfl nd rfl rfl (sw_true rfl rfl rfl (by decide +kernel))
            (pi_range1 (by rfl) T.b_range (pa_cons (pe_callB (call_min2 rfl) (by rfl) T.b_min (by decide +kernel) (pa_cons (pe_callB call_len_seq (by rfl) T.b_len boot_len (pa_cons (pv 1) pa_nil)) (pa_cons (pe_callB call_len_seq (by rfl) T.b_len boot_len (pa_cons (pv 3) pa_nil)) pa_nil))) pa_nil))
            (blkOk_by (N := nsLSt) (sc := defScope s_law_status) (by decide +kernel)) (fun _ _ _ _ _ => pg_name (i := 5) nd rfl (Or.inl rfl)) (fun _ _ _ _ _ => pts_nil)
            (fun _ _ _ _ _ => pe_cmpR op_in_seq (pe_ix ix_list (pv 1) (pv 5) (fun _ _ => rfl)) (pe_ix ix_list (pv 3) (pv 5) (fun _ _ => rfl)) (by rfl)))
        (pss_one (ps_if (pt_not (pt_val (pe_callB (cr_all rfl) (by rfl) T.b_all (by decide +kernel) (pa_cons (pv 4) pa_nil))))
          (pss_one (ps_expr (pe_bm PySem.F.plainAttrs_list PySem.F.slot_list_append PySem.F.type_list_append mt_append (pv 2) (pa_cons (pe_un un_neg pe_int) pa_nil))))
          (pss_one (ps_expr (pe_bm PySem.F.plainAttrs_list PySem.F.slot_list_append PySem.F.type_list_append mt_append (pv 2) (pa_cons (pe_callB call_len_seq (by rfl) T.b_len boot_len (pa_cons (pv 4) pa_nil)) pa_nil))))))))
      (pss_one (ps_ret (pv 2)))), ?_⟩
    refine ⟨Nat.zero_le _, fun o no => ?_⟩
    have s0 : Same H (upd H o (.lst [])) := same_upd no
    refine ⟨_, rfl, a, rfl, ⟨_, SqL.of (s0 _ _ ha)⟩, ?_⟩
    have lpp := pp.length
    refine for_list (K := K) (a := a) (xs := pvs) (fun i σ H1 => ∃ y3 y4 y5, σ = [some (.ref a), some (.ref b), some (.ref o), y3, y4, y5] ∧ Same H H1 ∧ H1 o = some (.lst (((ps.map fun p => lst1 p word).take i).map V.int)))
      ⟨none, none, none, rfl, s0, upd_same⟩ (fun i σ H1 _ ⟨_, _, _, _, sm, _⟩ => SqL.of (sm _ _ ha)) ?_ ?_
    · rintro i xv σ H1 hxi ⟨y3, y4, y5, rfl, sm, eo⟩
      obtain ⟨p, hp, ⟨q, svs, rfl, hq, sp⟩⟩ := paired_getL pp hxi
      have lsp := sp.length
      have hpl' := hpl p (List.mem_of_getElem? hp)
      have hil : i < ps.length := (List.getElem?_eq_some_iff.mp hp).1
      have hlen : (((ps.map fun p => lst1 p word).take i).map V.int).length < sizeLine := by
        rw [List.length_map, List.length_take]
        exact len_small (by omega)
      have fl := fit_len p word
      refine ⟨_, rfl, b, _, rfl, .inl (SqL.of (sm _ _ hb)), _, rfl, q, _, rfl, .inl (SqL.of (sm _ _ hq)), _, _, rfl, ((min word.length p.length : Nat) : Int), ?_, by omega, by omega, fun D hD => ?_⟩
      · rw [List.length_map, lsp]
        by_cases z : (p.length : Int) < (word.length : Int)
        · rw [if_pos z]
          have : min word.length p.length = p.length := by omega
          rw [this]
        · rw [if_neg z]
          have : min word.length p.length = word.length := by omega
          rw [this]
      rw [Int.toNat_natCast]
      refine lc_mapR (lo := 0) (n := min word.length p.length) BL [] (fit p word) (fun b hb => absurd hb List.not_mem_nil) hD fl.symm (len_small (by omega)) ?_ fun H2 s2 _ r2 => ?_
      · intro j yv H2 hj hyj s2 _ hth Q2 kQ
        rw [Int.zero_add]
        have sH2 := sm.trans s2
        have hjw : word[j]? = some word[j] := List.getElem?_eq_getElem (by omega)
        have hjp : p[j]? = some p[j] := List.getElem?_eq_getElem (by omega)
        obtain ⟨sv, hsv, ⟨z, rfl, hz⟩⟩ := paired_get sp hjp
        refine ⟨rfl, _, rfl, _, rfl, b, _, _, _, rfl, rfl, SqL.of (sH2 _ _ hb), atI_nat (j := j) (int_at_of hjw), _, rfl, _, rfl, q, _, _, _, rfl, rfl, SqL.of (sH2 _ _ hq), atI_nat (j := j) hsv, z, _, rfl, .inl (SqL.of (sH2 _ _ hz)), rfl, flat_ints _, kQ _ _ (Same.refl _) ?_⟩
        have ey : yv = decide (word[j] ∈ p[j]) := by
          unfold fit at hyj
          rw [List.getElem?_map, List.getElem?_range hj] at hyj
          have e := Option.some.inj hyj
          rw [← e]
          unfold fitB
          rw [List.getD_eq_getElem?_getD, List.getD_eq_getElem?_getD, hjw, hjp]
          rfl
        rw [ey]
        show V.bl (inV (V.int word[j]) ((p[j]).map V.int)) = _
        rw [inV_ints]
      · obtain ⟨fa, ef, hfa⟩ := (dropA r2 : Ls BL H2 _ _).bl
        cases ef
        have sH2 := sm.trans s2
        have eo2 := s2 _ _ eo
        have fin : ∀ v : Int, v = lst1 p word → ∃ z3 z4 z5, ([some (.ref a), some (.ref b), some (.ref o), some (V.ref q), some (V.ref D), y5] : L2.St) = [some (.ref a), some (.ref b), some (.ref o), z3, z4, z5] ∧
            Same H (upd H2 o (.lst (((ps.map fun p => lst1 p word).take i).map V.int ++ [V.int v]))) ∧ (upd H2 o (.lst (((ps.map fun p => lst1 p word).take i).map V.int ++ [V.int v]))) o = some (.lst (((ps.map fun p => lst1 p word).take (i + 1)).map V.int)) := fun v ev => by
          refine ⟨_, _, _, rfl, same_put no sH2, ?_⟩
          have e1 : (ps.map fun p => lst1 p word)[i]? = some (lst1 p word) := by
            rw [List.getElem?_map, hp]
            rfl
          rw [upd_same, List.take_add_one, e1, ev, List.map_append]
          rfl
        refine ⟨_, rfl, D, fit p word, rfl, SqL.of hfa, _, rfl, ?_⟩
        by_cases hall : (fit p word).all id = true
        · refine iteN (by rw [hall]; rfl) ?_
          refine ⟨_, rfl, .inl ⟨rfl, _, SqL.of eo2⟩, _, rfl, D, _, rfl, .inl (SqL.of hfa), o, _, _, rfl, rfl, eo2, hlen, fin _ ?_⟩
          unfold lst1
          rw [if_pos hall, List.length_map]
        · have hall' : (fit p word).all id = false := by
            cases z : (fit p word).all id
            · rfl
            · exact absurd z hall
          refine iteP (by rw [hall']; rfl) ?_
          refine ⟨_, rfl, .inl ⟨rfl, _, SqL.of eo2⟩, 1, rfl, o, _, _, rfl, rfl, eo2, hlen, fin (-1) ?_⟩
          unfold lst1
          rw [if_neg hall]
    · rintro σ H1 ⟨y3, y4, y5, rfl, sm, eo⟩
      rw [lpp, List.take_of_length_le (by rw [List.length_map]; exact Nat.le_refl _)] at eo
      exact ⟨_, rfl, kk H1 o sm no eo⟩
/-! ### the rules that are met -/
def spLMet : Sp := fun vs H Q _ => ∃ (ps : List Pat) (word : List Int) (pv wv : V), vs = [pv, wv] ∧ PtsR H pv ps ∧ IL H wv word ∧ ps.length ≤ 1000 ∧ (∀ p ∈ ps, p.length ≤ 1000) ∧
  ∀ H' a, Same H H' → H' a = some (.lst ((met ps (stW ps word)).map V.int)) → Q (.ref a) H'
abbrev nsLMet : List Str := ["_law_patterns_here", "_law_glyphs", "_law_status_here", "_law_k"]
theorem sc_lmet : FnScope nsLMet ["_law_patterns_here", "_law_glyphs"] (defScope s_law_met) := ⟨rfl, rfl, rfl, by decide +kernel, rfl, by decide +kernel, by decide +kernel⟩
theorem c_lmet (T : Txt K mg) : Cal P w K mg base 2 "_law_met" ["_law_patterns_here", "_law_glyphs"] spLMet := by
  obtain ⟨fd, F⟩ := T.f_law_met
  refine cal_of F T.g_law_met sc_lmet (fun vs H Q E h => ?_) (fun _ _ _ _ _ _ us hl => match us, hl with | [_, _], _ => rfl) (fun cdv A outer s H vs Q E hr h => ?_)
  · obtain ⟨ps, word, pv, wv, rfl, _⟩ := h
    rfl
  · obtain ⟨ps, word, pv', wv, rfl, hp, hw, hsz, hpl, kk⟩ := h
    have nd := sc_lmet.nd
    obtain ⟨a, pvs, rfl, ha, pp⟩ := id hp
    refine ⟨_, pss_cons (ps_set (i := 2) nd rfl (.inr rfl) (pe_cal (c_lst T) hr rfl (pa_cons (pv 0) (pa_cons (pv 1) pa_nil))))
      (pss_one (ps_ret (pe_lc (own := [("_law_k", 3)]) (g := gName 3) (tt := tTest (tOp rEq (tOp (rIxL K) (tVar 2) (tVar 3)) (tCB (rLenSeq K) (tCons (tOp (rIxL K) (tVar 0) (tVar 3)) tNil)))) (te := tVar 3) rfl nd
          (pi_range1 (by rfl) T.b_range (pa_cons (pe_callB call_len_seq (by rfl) T.b_len boot_len (pa_cons (pv 0) pa_nil)) pa_nil)) (blkOk_by (N := nsLMet) (sc := defScope s_law_met) (by decide +kernel)) (fun _ _ _ _ _ => pg_name (i := 3) nd rfl (Or.inl rfl))
          (fun _ _ _ _ _ => pts_one (pt_cmpR op_eq (pe_ix ix_list (pv 2) (pv 3) (fun _ _ => rfl)) (pe_callB call_len_seq (by rfl) T.b_len boot_len (pa_cons (pe_ix ix_list (pv 0) (pv 3) (fun _ _ => rfl)) pa_nil)) (nomark _))) (fun _ _ _ _ _ => pv 3)))), ?_⟩
    have lpp := pp.length
    refine ⟨_, rfl, _, rfl, ps, word, _, _, rfl, hp, hw, hsz, hpl, fun H1 st s1 nst hst => ?_⟩
    rw [← lst_eq] at hst
    have lst : (stW ps word).length = ps.length := by rw [lst_eq, List.length_map]
    generalize stW ps word = sw at hst lst kk
    refine ⟨_, rfl, a, _, rfl, .inl (SqL.of (s1 _ _ ha)), ((pvs.length : Nat) : Int), rfl, by omega, by omega, fun D hD => ?_⟩
    rw [Int.toNat_natCast]
    refine lc_range (lo := 0) (n := pvs.length) (fun i H2 => Same H1 H2 ∧ H2 D = some (.lst ((metN ps sw i).map V.int))) ⟨same_upd hD, by rw [upd_same]; rfl⟩ ?_ ?_
    · rintro i H2 hi ⟨s2, e2⟩
      rw [Int.zero_add]
      have hp' : ps[i]? = some ps[i] := List.getElem?_eq_getElem (by omega)
      have hs' : sw[i]? = some sw[i] := List.getElem?_eq_getElem (by omega)
      obtain ⟨x, hx, ⟨q, svs, rfl, hq, sp⟩⟩ := paired_get pp hp'
      have lsp := sp.length
      have eb : metB ps sw i = decide (sw[i] = (ps[i].length : Int)) := by
        unfold metB
        rw [List.getD_eq_getElem?_getD, List.getD_eq_getElem?_getD, hp', hs']
        rfl
      refine ⟨rfl, _, rfl, _, rfl, st, _, _, _, rfl, rfl, SqL.of (s2 _ _ hst), atI_nat (j := i) (int_at_of hs'), _, rfl, _, rfl, a, _, _, _, rfl, rfl, SqL.of (s2 _ _ (s1 _ _ ha)), atI_nat (j := i) hx, q, _, rfl, .inl (SqL.of (s2 _ _ (s1 _ _ hq))), rfl, _, rfl, ite2 (fun e => ?_) (fun e => ?_)⟩
      · have e3 : sw[i] = (svs.length : Int) := V.int.inj (of_decide_eq_true e)
        have e4 : metB ps sw i = true := by
          rw [eb]
          exact decide_eq_true (by rw [e3, lsp])
        refine ⟨_, rfl, _, e2, ?_, same_put hD s2, ?_⟩
        · have := metN_len ps sw i
          rw [List.length_map]
          exact len_small (by omega)
        · rw [upd_same, metN_succ, if_pos e4, List.map_append]
          rfl
      · have e4 : ¬ metB ps sw i = true := fun z => e (by
          rw [eb] at z
          have := of_decide_eq_true z
          exact decide_eq_true (by rw [this, lsp]))
        refine ⟨s2, ?_⟩
        rw [metN_succ, if_neg e4]
        exact e2
    · rintro H2 ⟨s2, e2⟩
      rw [lpp] at e2
      exact kk H2 D (s1.trans s2) e2
end
end K26


set_option maxHeartbeats 1000000
namespace K26
open PySem PySem.Spec PyProof.Rows L2
section
variable {P : Program} {w : World} {K : PySem.W.Frag} {mg : Str → Option Value} {base : Heap}
def spLSide : Sp := fun vs H Q _ => ∃ (ps : List Pat) (c : Nat) (pv : V), vs = [pv, .int c] ∧ PtsR H pv ps ∧ Small ps ∧ c ≤ 1000 ∧ ∀ k H' v, Fin ps c k → Same H H' → SideR H' v (rowsOf ps c k, metOf ps c k) → Q v H'
abbrev nsLSide : List Str := ["_law_patterns_here", "_law_count", "_law_statuses", "_law_rows", "_law_turn", "_law_line", "_law_glyph", "_law_status_here", "_law_met_here", "_law_one", "_law_k"]
theorem sc_lside : FnScope nsLSide ["_law_patterns_here", "_law_count"] (defScope s_law_side) := ⟨rfl, rfl, rfl, by decide +kernel, rfl, by decide +kernel, by decide +kernel⟩
theorem c_lside (T : Txt K mg) : Cal P w K mg base 2 "_law_side" ["_law_patterns_here", "_law_count"] spLSide := by
  obtain ⟨fd, F⟩ := T.f_law_side
  refine cal_of F T.g_law_side sc_lside (fun vs H Q E h => ?_) (fun _ _ _ _ _ _ us hl => match us, hl with | [_, _], _ => rfl) (fun cdv A outer s H vs Q E hr h => ?_)
  · obtain ⟨ps, c, pv, rfl, _⟩ := h
    rfl
  · obtain ⟨ps, c, pv', rfl, hp1, sml, hc, kk⟩ := h
    have nd := sc_lside.nd
    have hu65 : (A.deeper (envOfC "_law_side" (defScope s_law_side) s.heap.objs.size (He.ga K "_law_side") cdv)).units + 65 < cLine := by
      have h1 := hr.un
      omega
    refine ⟨_, pss_cons (ps_set (i := 2) nd rfl (.inl rfl) (pe_lst (pa_cons (pe_op op_rep (pe_lst (pa_cons pe_int pa_nil)) (pe_callB call_len_seq (by rfl) T.b_len boot_len (pa_cons (pv 0) pa_nil))) pa_nil)))
      (pss_cons (ps_set (i := 3) nd rfl (.inl rfl) (pe_lst pa_nil))
      (pss_cons (ps_for PassesOwn.never rfl (pi_range1 (by rfl) T.b_range (pa_cons pe_int pa_nil)) (pg_name (i := 4) nd rfl (.inl rfl))
        (pss_cons (ps_if (pt_cmpR op_ge (pv 4) (pe_callB call_len_seq (by rfl) T.b_len boot_len (pa_cons (pv 2) pa_nil)) (nomark _)) (pss_one ps_break) pss_nil)
        (pss_cons (ps_set (i := 5) nd rfl (.inl rfl) (pe_lst pa_nil))
        (pss_cons (ps_for PassesOwn.never rfl (pi_range1 (by rfl) T.b_range (pa_cons (pv 1) pa_nil)) (pg_name (i := 6) nd rfl (.inl rfl))
          (pss_cons (ps_set (i := 7) nd rfl (.inl rfl) (pe_cal (c_lnext T) hr rfl (pa_cons (pv 0) (pa_cons (pe_ix ix_list (pv 2) (pv 4) (fun _ _ => rfl)) (pa_cons (pv 6) pa_nil)))))
          (pss_cons (ps_if (pt_cmpR (op_notInD hu65) (pv 7) (pv 2) (by rfl))
            (pss_one (ps_expr (pe_bm PySem.F.plainAttrs_list PySem.F.slot_list_append PySem.F.type_list_append mt_append (pv 2) (pa_cons (pv 7) pa_nil)))) pss_nil)
          (pss_one (ps_expr (pe_bm PySem.F.plainAttrs_list PySem.F.slot_list_append PySem.F.type_list_append mt_append (pv 5) (pa_cons (pe_bm PySem.F.plainAttrs_list PySem.F.slot_list_index PySem.F.type_list_index (mt_indexD hu65) (pv 2) (pa_cons (pv 7) pa_nil)) pa_nil)))))))
        (pss_one (ps_expr (pe_bm PySem.F.plainAttrs_list PySem.F.slot_list_append PySem.F.type_list_append mt_append (pv 3) (pa_cons (pv 5) pa_nil))))))))
      (pss_cons (ps_setLc (i := 8) (own := [("_law_one", 9)]) (g := gName 9) (tt := tYes) (te := tLc (iRng1 (tCons (tCB (rLenSeq K) (tCons (tVar 0) tNil)) tNil)) (gName 10) (tTest (tOp rEq (tOp (rIxL K) (tVar 9) (tVar 10)) (tCB (rLenSeq K) (tCons (tOp (rIxL K) (tVar 0) (tVar 10)) tNil)))) (tVar 10) [10]) rfl nd rfl rfl (sw_true rfl rfl rfl (by decide +kernel))
          (pi_list (pv 2)) (blkOk_by (N := nsLSide) (sc := defScope s_law_side) (by decide +kernel)) (fun _ _ _ _ _ => pg_name (i := 9) nd rfl (Or.inr rfl)) (fun _ _ _ _ _ => pts_nil)
          (fun _ _ _ _ _ => pe_lc (own := [("_law_k", 10)]) rfl nd (pi_range1 (by rfl) T.b_range (pa_cons (pe_callB call_len_seq (by rfl) T.b_len boot_len (pa_cons (pv 0) pa_nil)) pa_nil)) (blkOk_by (by rfl)) (fun _ _ _ _ _ => pg_name (i := 10) nd rfl (Or.inl rfl))
            (fun _ _ _ _ _ => pts_one (pt_cmpR op_eq (pe_ix ix_list (pv 9) (pv 10) (fun _ _ => rfl)) (pe_callB call_len_seq (by rfl) T.b_len boot_len (pa_cons (pe_ix ix_list (pv 0) (pv 10) (fun _ _ => rfl)) pa_nil)) (nomark _))) (fun _ _ _ _ _ => pv 10)))
      (pss_one (ps_ret (pe_tup (pa_cons (pv 3) (pa_cons (pv 8) pa_nil)))))))), ?_⟩
    have hps : ps.length ≤ 1000 := Nat.le_trans sml.rules (by decide)
    obtain ⟨pa, pvs, rfl, hpa, pp⟩ := id hp1
    have lpp := pp.length
    -- the first status
    refine ⟨(by show 1 ≤ sizeLine; decide), fun l0 n0 => ⟨_, rfl, pa, _, rfl, .inl (SqL.of (same_upd n0 _ _ hpa)), l0, _, _, rfl, rfl, upd_same, by omega, by omega, ?_, fun p0 np0 => ?_⟩⟩
    · rw [Int.toNat_natCast]
      show 1 * _ ≤ _
      exact len_small' (by omega)
    have s12 : Same H (upd (upd H l0 (.lst [V.int 0])) p0 (.lst (List.replicate ((pvs.length : Int)).toNat [V.int 0]).flatten)) := (same_upd n0).trans (same_upd np0)
    have eF : (List.replicate ((pvs.length : Int)).toNat [V.int 0]).flatten = (st0 ps).map V.int := by
      unfold st0
      rw [Int.toNat_natCast, lpp, List.map_replicate, List.flatten_replicate_singleton]
    rw [eF] at s12 ⊢
    have ep0 : (upd (upd H l0 (.lst [V.int 0])) p0 (.lst ((st0 ps).map V.int))) p0 = some (.lst ((st0 ps).map V.int)) := upd_same
    generalize upd (upd H l0 (.lst [V.int 0])) p0 (.lst ((st0 ps).map V.int)) = H2 at s12 ep0 ⊢
    refine ⟨(by show 1 ≤ sizeLine; decide), fun sa nsa => ⟨Nat.zero_le _, fun ra nra => ?_⟩⟩
    have s34 : Same H2 (upd H2 sa (.lst [V.ref p0])) := same_upd nsa
    have s45 : Same (upd H2 sa (.lst [V.ref p0])) (upd (upd H2 sa (.lst [V.ref p0])) ra (.lst [])) := same_upd nra
    have nrs : ra ≠ sa := fun q => by
      rw [q, upd_same] at nra
      cases nra
    have hpts : PtsR H2 (.ref pa) ps := Mono.mono s12 hp1
    have ini : SrAt [sa, ra] H2 sa ra (tn ps c 0).1 (tn ps c 0).2 (upd (upd H2 sa (.lst [V.ref p0])) ra (.lst [])) := by
      have q : Same H2 (cut [sa, ra] (upd (upd H2 sa (.lst [V.ref p0])) ra (.lst []))) := fun b o hb => by
        refine cut_of (s45 _ _ (s34 _ _ hb)) ?_
        simp only [List.mem_cons, List.not_mem_nil, not_or, or_false]
        exact ⟨ne_of_none hb nsa, ne_of_none (s34 _ _ hb) nra⟩
      refine ⟨q, ⟨_, by rw [upd_ne nrs.symm, upd_same], .cons ⟨p0, rfl, q _ _ ep0⟩ .nil⟩, ⟨[], upd_same, .nil⟩⟩
    refine ⟨(200 : Int), rfl, by decide, by decide, ?_⟩
    -- what follows the loop
    have after : ∀ (k : Nat) (y4 y5 y6 y7 : Option V) (H' : Hp), Fin ps c k → SrAt [sa, ra] H2 sa ra (tn ps c k).1 (tn ps c k).2 H' →
        tSeq (tAsg (tLc (iList K (tVar 2)) (gName 9) tYes (tLc (iRng1 (tCons (tCB (rLenSeq K) (tCons (tVar 0) tNil)) tNil)) (gName 10) (tTest (tOp rEq (tOp (rIxL K) (tVar 9) (tVar 10)) (tCB (rLenSeq K) (tCons (tOp (rIxL K) (tVar 0) (tVar 10)) tNil)))) (tVar 10) [10]) [9]) (gName 8))
          (tRet (tTup (tCons (tVar 3) (tCons (tVar 8) tNil)))) { nx := fun _ H' => Q .non H', rt := Q } [some (.ref pa), some (.int c), some (.ref sa), some (.ref ra), y4, y5, y6, y7, none, none, none] H' := by
      intro k y4 y5 y6 y7 H' fin at_
      obtain ⟨svs, hsa, sp⟩ := at_.st
      obtain ⟨rvs, hra, rp⟩ := at_.rw
      have lS := sp.length
      have f1 := fin.1
      have f48 := fin.le sml
      have tok := tn_ok sml c k fin.2
      have sH : Same H2 H' := at_.same.trans cut_same
      refine ⟨_, rfl, sa, rfl, ⟨_, SqL.of hsa⟩, fun D hD => lc_map (K := K) (a := sa) (xs := svs) IL [] (metOf ps c k) (fun b hb => absurd hb List.not_mem_nil) hD (SqL.of hsa) (by rw [fin.metLen]; omega) (len_small (by omega)) ?_ fun H8 s8 _ r8 => ?_⟩
      · intro i xv yv H9 hxi hyi sm9 smc9 hth9 Q9 kQ9
        obtain ⟨s9, hs9, q9⟩ := paired_getL sp hxi
        have e9 : met ps s9 = yv := by
          unfold metOf at hyi
          rw [List.getElem?_map, hs9] at hyi
          exact Option.some.inj hyi
        have r9 := tok.sts.re s9 (List.mem_of_getElem? hs9)
        obtain ⟨z9, rfl, hz9⟩ := q9
        have hz9' := sm9 _ _ (cut_get hz9).2
        have hpa9 := sm9 _ _ (sH _ _ (s12 _ _ hpa))
        refine ⟨rfl, _, rfl, pa, _, rfl, .inl (SqL.of hpa9), ((pvs.length : Nat) : Int), rfl, by omega, by omega, fun D2 hD2 => ?_⟩
        rw [Int.toNat_natCast]
        refine lc_range (lo := 0) (n := pvs.length) (fun j H10 => Same H9 H10 ∧ H10 D2 = some (.lst ((metN ps s9 j).map V.int))) ⟨same_upd hD2, by rw [upd_same]; rfl⟩ ?_ ?_
        · rintro j H10 hj ⟨s10, e10⟩
          rw [Int.zero_add]
          have l9 := r9.len
          have hp' : ps[j]? = some ps[j] := List.getElem?_eq_getElem (by omega)
          have hs' : s9[j]? = some s9[j] := List.getElem?_eq_getElem (by omega)
          obtain ⟨x, hx, ⟨q, qvs, rfl, hq, qp⟩⟩ := paired_get pp hp'
          have lsp := qp.length
          have hq10 := s10 _ _ (sm9 _ _ (sH _ _ (s12 _ _ hq)))
          have eb : metB ps s9 j = decide (s9[j] = (ps[j].length : Int)) := by
            unfold metB
            rw [List.getD_eq_getElem?_getD, List.getD_eq_getElem?_getD, hp', hs']
            rfl
          refine ⟨rfl, _, rfl, _, rfl, z9, _, _, _, rfl, rfl, SqL.of (s10 _ _ hz9'), atI_nat (j := j) (int_at_of hs'), _, rfl, _, rfl, pa, _, _, _, rfl, rfl, SqL.of (s10 _ _ hpa9), atI_nat (j := j) hx, q, _, rfl, .inl (SqL.of hq10), rfl, _, rfl, ite2 (fun e => ?_) (fun e => ?_)⟩
          · have e3 : s9[j] = (qvs.length : Int) := V.int.inj (of_decide_eq_true e)
            have e4 : metB ps s9 j = true := by
              rw [eb]
              exact decide_eq_true (by rw [e3, lsp])
            refine ⟨_, rfl, _, e10, ?_, same_put hD2 s10, ?_⟩
            · have := metN_len ps s9 j
              rw [List.length_map]
              exact len_small (by omega)
            · rw [upd_same, metN_succ, if_pos e4, List.map_append]
              rfl
          · have e4 : ¬ metB ps s9 j = true := fun z => e (by
              rw [eb] at z
              have := of_decide_eq_true z
              exact decide_eq_true (by rw [this, lsp]))
            refine ⟨s10, ?_⟩
            rw [metN_succ, if_neg e4]
            exact e10
        · rintro H10 ⟨s10, e10⟩
          rw [lpp] at e10
          refine kQ9 _ _ s10 ⟨D2, rfl, ?_⟩
          rw [← e9]
          exact cut_of e10 (not_in_of hth9 hD2)
      · refine ⟨_, rfl, _, rfl, (by show 2 ≤ sizeLine; decide), fun p np => kk k _ (.ref p) fin (s12.trans (sH.trans (s8.trans (same_upd np)))) ⟨p, .ref ra, .ref D, rfl, upd_same, ?_, Mono.mono (cut_same.trans (same_upd np)) r8⟩⟩
        exact ⟨ra, rvs, rfl, same_upd np _ _ (s8 _ _ hra), pair_mono (cut_same.trans (s8.trans (same_upd np))) rp⟩
    refine for_range (lo := 0) (n := 200) (fun k σ H' => ∃ (y4 y5 y6 y7 : Option V), (∀ j, j < k → j < (tn ps c j).1.length) ∧ σ = [some (.ref pa), some (.int c), some (.ref sa), some (.ref ra), y4, y5, y6, y7, none, none, none] ∧
      SrAt [sa, ra] H2 sa ra (tn ps c k).1 (tn ps c k).2 H') ⟨none, none, none, none, fun j hj => absurd hj (Nat.not_lt_zero _), rfl, ini⟩ ?_ ?_
    · rintro k σ H' hk200 ⟨y4, y5, y6, y7, hj, rfl, at_⟩
      rw [Int.zero_add]
      obtain ⟨svs, hsa, sp⟩ := at_.st
      obtain ⟨rvs, hra, rp⟩ := at_.rw
      have lS := sp.length
      have lR : rvs.length = k := by rw [rp.length, tn_rows]
      have tok := tn_ok sml c k hj
      have le48 := tok.sts.le sml
      refine ⟨_, rfl, _, rfl, sa, _, rfl, .inl (SqL.of hsa), _, _, rfl, rfl, _, rfl, ite2 (fun ek => ?_) (fun ek => ?_)⟩
      · have hk : ¬ k < (tn ps c k).1.length := by
          have := of_decide_eq_true ek
          omega
        exact after k _ _ _ _ H' (Fin.of sml hj hk) at_
      have hk : k < (tn ps c k).1.length := by
        have : ¬ (svs.length : Int) ≤ (k : Int) := fun q => ek (decide_eq_true q)
        omega
      -- line = []
      refine ⟨Nat.zero_le _, fun wa nwa => ?_⟩
      have nws : sa ≠ wa := ne_of_none hsa nwa
      have nwr : ra ≠ wa := ne_of_none hra nwa
      have sW : Same H' (upd H' wa (.lst [])) := same_upd nwa
      refine ⟨_, rfl, (c : Int), rfl, by omega, by omega, ?_⟩
      rw [Int.toNat_natCast]
      generalize hSt : (tn ps c k).1.getD (tn ps c k).2.length [] = st
      have est : (tn ps c k).1[k]? = some st := by
        rw [← hSt, tn_rows, List.getD_eq_getElem?_getD, List.getElem?_eq_getElem hk]
        rfl
      have rst := tok.sts.re st (List.mem_of_getElem? est)
      refine for_range (lo := 0) (n := c) (fun i σ H6 => ∃ y6 y7, σ = [some (.ref pa), some (.int c), some (.ref sa), some (.ref ra), some (.int (k : Int)), some (.ref wa), y6, y7, none, none, none] ∧
        SrAt [wa, sa, ra] H2 sa ra (line ps st (tn ps c k).1 i).1 (tn ps c k).2 H6 ∧ H6 wa = some (.lst ((line ps st (tn ps c k).1 i).2.map V.int))) ⟨y6, y7, rfl, at_.new nwa, upd_same⟩ ?_ ?_
      · rintro i σ H6 hi ⟨z6, z7, rfl, a6, hw6⟩
        rw [Int.zero_add]
        have lok := line_ok sml rst tok.sts i
        obtain ⟨svs6, hsa6, sp6⟩ := a6.st
        obtain ⟨rvs6, hra6, rp6⟩ := a6.rw
        obtain ⟨v6, hv6, il6⟩ := paired_get sp6 (lok.keep _ _ est)
        refine ⟨_, rfl, _, rfl, _, rfl, sa, svs6, _, v6, rfl, rfl, SqL.of hsa6, atI_nat (j := k) hv6, _, rfl,
          ps, st, (i : Int), .ref pa, v6, rfl, Mono.mono (a6.same.trans cut_same) hpts, Mono.mono cut_same il6, rst.ok, hps, fun H7 p s7 np ep => ?_⟩
        have a7 := a6.keep s7
        have hM6 : ∀ b ∈ [wa, sa, ra], H6 b ≠ none := fun b hb => by
          simp only [List.mem_cons, List.not_mem_nil, or_false] at hb
          rcases hb with q | q | q
          · rw [q]; exact some_ne hw6
          · rw [q]; exact some_ne hsa6
          · rw [q]; exact some_ne hra6
        have ilp : IL (cut [wa, sa, ra] H7) (.ref p) (nxS ps st (i : Int)) := ⟨p, rfl, cut_of ep (not_in_of hM6 np)⟩
        have hw7 := s7 _ _ hw6
        have hsa7 := s7 _ _ hsa6
        have ll7 : (line ps st (tn ps c k).1 i).2.length ≤ 1000 := by
          rw [lok.len]
          omega
        have e2 : (!(((line ps st (tn ps c k).1 i).1.map dI).any fun z => PyData.eqv z (dI (nxS ps st (i : Int))))) = !decide (nxS ps st (i : Int) ∈ (line ps st (tn ps c k).1 i).1) := by rw [any_dI]
        refine ⟨_, rfl, _, rfl, dI (nxS ps st (i : Int)), _, IL.dp (Mono.mono cut_same ilp), a7.dpS, dI_shaped _, dL_shaped _, _, rfl, ?_⟩
        rw [e2]
        by_cases hin : nxS ps st (i : Int) ∈ (line ps st (tn ps c k).1 i).1
        · rw [decide_eq_true hin]
          refine iteF (app_index2 a7 hw7 (Mono.mono cut_same ilp) hin ll7 ⟨_, _, rfl, ?_, ?_⟩)
          · have e3 : (line ps st (tn ps c k).1 (i + 1)).1 = (line ps st (tn ps c k).1 i).1 := by
              show (if _ then _ else _) = _
              rw [if_pos hin]
            rw [e3]
            exact a7.write (List.mem_cons_self ..) nws nwr
          · rw [upd_same]
            have e3 : (line ps st (tn ps c k).1 (i + 1)).2 = (line ps st (tn ps c k).1 i).2 ++ [(((line ps st (tn ps c k).1 i).1.idxOf (nxS ps st (i : Int)) : Nat) : Int)] := by
              show _ ++ [((List.idxOf _ (if _ then _ else _) : Nat) : Int)] = _
              rw [if_pos hin]
            rw [e3]
        · rw [decide_eq_false hin]
          refine iteT ⟨_, rfl, .inl ⟨rfl, _, SqL.of hsa7⟩, _, rfl, sa, _, _, rfl, rfl, hsa7, ?_, ?_⟩
          · have q := lok.sts.le sml
            have q2 := sp6.length
            exact len_small (by omega)
          have a8 := a7.addS (v := .ref p) hsa7 (by simp) nrs ilp
          have mem8 : nxS ps st (i : Int) ∈ (line ps st (tn ps c k).1 i).1 ++ [nxS ps st (i : Int)] := by simp
          refine app_index2 a8 (by rw [upd_ne nws.symm]; exact hw7) ⟨p, rfl, ?_⟩ mem8 ll7 ⟨_, _, rfl, ?_, ?_⟩
          · have q : p ≠ sa := fun q => not_in_of hM6 np (by rw [q]; simp)
            rw [upd_ne q]
            exact ep
          · have e3 : (line ps st (tn ps c k).1 (i + 1)).1 = (line ps st (tn ps c k).1 i).1 ++ [nxS ps st (i : Int)] := by
              show (if _ then _ else _) = _
              rw [if_neg hin]
            rw [e3]
            exact a8.write (List.mem_cons_self ..) nws nwr
          · rw [upd_same]
            have e3 : (line ps st (tn ps c k).1 (i + 1)).2 = (line ps st (tn ps c k).1 i).2 ++ [((((line ps st (tn ps c k).1 i).1 ++ [nxS ps st (i : Int)]).idxOf (nxS ps st (i : Int)) : Nat) : Int)] := by
              show _ ++ [((List.idxOf _ (if _ then _ else _) : Nat) : Int)] = _
              rw [if_neg hin]
            rw [e3]
      · -- rows.append(line)
        rintro σ H6 ⟨z6, z7, rfl, a6, hw6⟩
        obtain ⟨svs6, hsa6, sp6⟩ := a6.st
        obtain ⟨rvs6, hra6, rp6⟩ := a6.rw
        have lR6 : rvs6.length = k := by rw [rp6.length, tn_rows]
        refine ⟨_, rfl, .inl ⟨rfl, _, SqL.of hra6⟩, _, rfl, ra, _, _, rfl, rfl, hra6, len_small (by omega), _, _, _, _, fun j hjl => ?_, rfl, ?_⟩
        · by_cases q : j < k
          · exact hj j q
          · have q2 : j = k := by omega
            rw [q2]
            exact hk
        have ec : cut [sa, ra] (upd H6 ra (.lst (rvs6 ++ [V.ref wa]))) = cut [sa, ra] H6 := cut_upd (by simp)
        have sm : Same (cut [wa, sa, ra] H6) (cut [sa, ra] H6) := cut_mono fun b hb => List.mem_cons_of_mem _ hb
        have e1 : (tn ps c (k + 1)).1 = (line ps st (tn ps c k).1 c).1 := by
          show (line ps ((tn ps c k).1.getD (tn ps c k).2.length []) (tn ps c k).1 c).1 = _
          rw [hSt]
        have e2 : (tn ps c (k + 1)).2 = (tn ps c k).2 ++ [(line ps st (tn ps c k).1 c).2] := by
          show _ ++ [(line ps ((tn ps c k).1.getD (tn ps c k).2.length []) (tn ps c k).1 c).2] = _
          rw [hSt]
        rw [e1, e2]
        refine ⟨by rw [ec]; exact a6.same.trans sm, ⟨svs6, by rw [upd_ne nrs.symm]; exact hsa6, by rw [ec]; exact pair_mono sm sp6⟩, ⟨_, upd_same, ?_⟩⟩
        rw [ec]
        exact paired_app (pair_mono sm rp6) (.cons ⟨wa, rfl, cut_of hw6 (by simp only [List.mem_cons, List.not_mem_nil, or_false, not_or]; exact ⟨nws.symm, nwr.symm⟩)⟩ .nil)
    · rintro σ H' ⟨y4, y5, y6, y7, hj, rfl, at_⟩
      have t := (tn_ok sml c 100 fun j h => hj j (by omega)).sts.le sml
      have := hj 100 (by decide)
      omega
end
end K26


set_option maxHeartbeats 1000000
namespace K26
open PySem PySem.Spec PyProof.Rows L2
/-! ### what the law's lookups are small enough for -/
theorem LawLk.small {ks : List Str} {c : Nat} {l : LkD} (h : LawLk ks c l) (fore : Bool) : Small (patsOf fore l) := by
  refine ⟨by unfold patsOf; rw [List.length_map]; exact h.n, fun p hp => ?_⟩
  obtain ⟨r, hr, e⟩ := List.mem_map.mp (show p ∈ l.rules.map (patOf fore) from hp)
  have k := h.rules r hr
  have k1 := k.i3
  have k2 := k.a2
  have k3 := k.b2
  rw [← e]
  cases fore with
  | true =>
    show (r.inside ++ r.ahead).length ≤ 5
    rw [List.length_append]
    omega
  | false =>
    show r.back.length ≤ 5
    omega
theorem LawLk.len {ks : List Str} {c : Nat} {l : LkD} (h : LawLk ks c l) : LkLen l :=
  ⟨Nat.le_trans h.n (by decide), fun r hr => by
    have k := h.rules r hr
    exact ⟨Nat.le_trans k.i3 (by decide), Nat.le_trans k.a2 (by decide), Nat.le_trans k.b2 (by decide)⟩⟩
theorem Fin.fitOk {ps : List Pat} {c k n : Nat} (h : Small ps) (f : Fin ps c k) (hc : c ≤ 1000) (hn : ps.length = n) : FitOk (rowsOf ps c k, metOf ps c k) c n := by
  subst hn
  have hk := f.le h
  have rl := f.rowsLen
  have ml := f.metLen
  refine ⟨?_, ?_, ?_, hc, fun r hr => ?_, Fin.metOk (c := c) (k := k)⟩
  · show 0 < (rowsOf ps c k).length
    rw [rl]
    exact f.pos h
  · show (rowsOf ps c k).length = (metOf ps c k).length
    rw [rl, ml]
  · show (rowsOf ps c k).length ≤ 1000
    omega
  · obtain ⟨q1, q2⟩ := f.rowOk h r hr
    refine ⟨q1, fun i hi => ?_⟩
    show 0 ≤ i ∧ i < ((rowsOf ps c k).length : Int)
    rw [rl]
    exact q2 i hi
theorem Small.len {ps : List Pat} (h : Small ps) : ps.length ≤ 1000 ∧ ∀ p ∈ ps, p.length ≤ 1000 := ⟨Nat.le_trans h.rules (by decide), fun p hp => Nat.le_trans (h.sets p hp) (by decide)⟩
/-- a joined word -/
def joinW (ws : List (List Int)) (i : Nat) : List Int := ws.getD (i + 1) [] ++ ws.getD (i + 2) [] ++ ws.getD 0 [] ++ ws.getD (i + 1) []
def nm (fore : Bool) : Nat := if fore = true then 0 else 1
section
variable {P : Program} {w : World} {K : PySem.W.Frag} {mg : Str → Option Value} {base : Heap}
theorem ne_same {H : Hp} {a b : V} {s t : Side} {Q : VK} (h1 : SideR H a s) (h2 : SideR H b t) (e : s = t) (h : Q (.bl false) H) : rNeD K a b H Q := by
  refine ⟨dSide s, dSide t, Tp.dp h1, Tp.dp h2, dS_shaped _, dS_shaped _, ?_⟩
  have q : (!PyData.eqv (dSide s) (dSide t)) = false := by
    rw [eqv_dS, e]
    simp
  rw [q]
  exact h
theorem ne_ints {H : Hp} {a b : V} {s : List Int} {Q : VK} (h1 : IL H a s) (h2 : IL H b s) (h : Q (.bl false) H) : rNeD K a b H Q := by
  refine ⟨dI s, dI s, IL.dp h1, IL.dp h2, dI_shaped _, dI_shaped _, ?_⟩
  have q : (!PyData.eqv (dI s) (dI s)) = false := by
    rw [eqv_dI]
    simp
  rw [q]
  exact h
def spLaw (K : PySem.W.Frag) : Sp := fun vs H Q _ => ∃ (a : Addr) (ns : List Int), vs = [.ref a] ∧ SqL K H a (ns.map V.int) ∧ ns.length ≤ 63 ∧ ∀ H', Q (.bl true) H'
abbrev nsLaw : List Str := ["_law_script", "_law_row", "_law_world_here", "_law_font_here", "_law_words_here", "_law_k", "_law_lookup", "_law_automaton", "_law_sides", "_law_name", "_law_patterns_here", "_law_word", "_law_again"]
theorem sc_law : FnScope nsLaw ["_law_script"] (defScope s_law) := ⟨rfl, rfl, rfl, by decide +kernel, rfl, by decide +kernel, by decide +kernel⟩
theorem ok_law (T : Txt K mg) {fd : FuncData} (F : Fn K "law" "law" s_law [] (He.ga K "law") fd) : FnOk P w K mg base CX0 40 (He.ga K "law") fd ["_law_script"] (spLaw K) := by
  refine fn_ok F sc_law (fun vs H Q E h => ?_) (fun cdv A outer s H vs Q E hr h => ?_)
  · obtain ⟨a, ns, rfl, _⟩ := h
    rfl
  · obtain ⟨sa, ns, rfl, hsa, hns, kk⟩ := h
    have nd := sc_law.nd
    have hr2 : Room 2 _ := hr.mono (by decide)
    have hr1 : Room 1 _ := hr.mono (by decide)
    have hr3 : Room 3 _ := hr.mono (by decide)
    have hr4 : Room 4 _ := hr.mono (by decide)
    have hr6 : Room 6 _ := hr.mono (by decide)
    have hr8 : Room 8 _ := hr.mono (by decide)
    have hu : (A.deeper (envOfC "law" (defScope s_law) s.heap.objs.size (He.ga K "law") cdv)).units + 64 < cLine := by
      have h1 := hr.un
      omega
    refine ⟨_, pss_cons (ps_set (i := 1) nd rfl (.inl rfl) (pe_cal (c_num T) hr2 rfl (pa_cons (pv 0) (pa_cons pe_int pa_nil))))
      (pss_cons (ps_set (i := 2) nd rfl (.inl rfl) (pe_cal (c_world T) hr6 rfl (pa_cons (pv 1) pa_nil)))
      (pss_cons (ps_set (i := 3) nd rfl (.inl rfl) (pe_cal (c_lfont T) hr8 rfl (pa_cons (pe_ix ix_tup (pv 2) pe_int (fun _ _ => rfl)) (pa_cons (pe_ix ix_tup (pv 2) pe_int (fun _ _ => rfl)) (pa_cons (pe_ix ix_tup (pv 2) pe_int (fun _ _ => rfl)) (pa_cons (pe_ix ix_tup (pv 2) pe_int (fun _ _ => rfl)) pa_nil))))))
      (pss_cons (ps_set (i := 4) nd rfl (.inr rfl) (pe_cal (c_words T) hr2 rfl (pa_cons (pv 1) (pa_cons (pe_ix ix_tup (pv 2) pe_int (fun _ _ => rfl)) pa_nil))))
      (Evl.pss_cut (ps_set (i := 4) nd rfl (.inr rfl) (pe_op op_cat (pv 4) (pe_lc (own := [("_law_k", 5)]) (g := gName 5) (tt := tYes)
          (te := tOp rCat (tOp rCat (tOp rCat (tOp (rIxL K) (tVar 4) (tVar 5)) (tOp (rIxL K) (tVar 4) (tOp (rI0 fun i j => .int (i + j)) (tVar 5) (tC (.int 1))))) (tOp (rIxL K) (tVar 4) (tC (.int 0)))) (tOp (rIxL K) (tVar 4) (tVar 5))) rfl nd
          (pi_range2 (by rfl) T.b_range (pa_cons pe_int (pa_cons pe_int pa_nil))) (blkOk_by (N := nsLaw) (sc := defScope s_law) (by decide +kernel)) (fun _ _ _ _ _ => pg_name (i := 5) nd rfl (Or.inl rfl)) (fun _ _ _ _ _ => pts_nil)
          (fun _ _ _ _ _ => pe_op op_cat (pe_op op_cat (pe_op op_cat (pe_ix ix_list (pv 4) (pv 5) (fun _ _ => rfl)) (pe_ix ix_list (pv 4) (pe_op op_add (pv 5) pe_int) (fun _ _ => rfl))) (pe_ix ix_list (pv 4) pe_int (fun _ _ => rfl))) (pe_ix ix_list (pv 4) (pv 5) (fun _ _ => rfl))))))
      (pss_cons (ps_for PassesOwn.never rfl (pi_range1 (by rfl) T.b_range (pa_cons (pe_callB call_len_seq (by rfl) T.b_len boot_len (pa_cons (pe_ix ix_tup (pv 2) pe_int (fun _ _ => rfl)) pa_nil)) pa_nil)) (pg_name (i := 6) nd rfl (.inl rfl))
        (pss_cons (ps_set (i := 7) nd rfl (.inl rfl) (pe_cal (c_build T) hr4 rfl (pa_cons (pv 3) (pa_cons (pv 6) pa_nil))))
        (pss_cons (ps_if (pt_cmpR op_notBl (pe_cal (c_fits T) hr2 rfl (pa_cons (pv 3) (pa_cons (pv 6) (pa_cons (pv 7) pa_nil)))) pe_bl (nomark _)) (pss_one (ps_ret pe_bl)) pss_nil)
        (pss_cons (ps_set (i := 8) nd rfl (.inl rfl) (pe_lst (pa_cons (pe_fld (pv 7) rfl) (pa_cons (pe_fld (pv 7) rfl) pa_nil))))
        (pss_cons (ps_for PassesOwn.never rfl (pi_range1 (by rfl) T.b_range (pa_cons pe_int pa_nil)) (pg_name (i := 5) nd rfl (.inl rfl))
          (pss_cons (ps_set (i := 9) nd rfl (.inl rfl) (pe_ix ix_list (pe_lst (pa_cons pe_str (pa_cons pe_str pa_nil))) (pv 5) (fun _ _ => rfl)))
          (pss_cons (ps_set (i := 10) nd rfl (.inl rfl) (pe_cal (c_lpats T) hr1 rfl (pa_cons (pv 2) (pa_cons (pv 6) (pa_cons (pv 9) pa_nil)))))
          (pss_cons (ps_if (pt_cmpR (op_neD hu) (pe_ix ix_list (pv 8) (pv 5) (fun _ _ => rfl)) (pe_cal (c_lside T) hr2 rfl (pa_cons (pv 10) (pa_cons (pe_ix ix_tup (pv 2) pe_int (fun _ _ => rfl)) pa_nil))) (nomark _)) (pss_one (ps_ret pe_bl)) pss_nil)
          (pss_one (ps_for PassesOwn.never rfl (pi_list (pv 4)) (pg_name (i := 11) nd rfl (.inl rfl))
            (pss_one (ps_if (pt_cmpR (op_neD hu) (pe_cal (c_metby T) hr3 rfl (pa_cons (pv 7) (pa_cons (pv 9) (pa_cons (pv 11) pa_nil)))) (pe_cal (c_lmet T) hr2 rfl (pa_cons (pv 10) (pa_cons (pv 11) pa_nil))) (nomark _)) (pss_one (ps_ret pe_bl)) pss_nil))))))))
        (pss_cons (ps_set (i := 12) nd rfl (.inl rfl) (pe_cal (c_build T) hr4 rfl (pa_cons (pv 3) (pa_cons (pv 6) pa_nil))))
        (pss_one (ps_if (PW.pt (pw_or (pt_cmpR (op_neD hu) (pe_fld (pv 12) rfl) (pe_fld (pv 7) rfl) (nomark _)) (pw_or1 (pt_cmpR (op_neD hu) (pe_fld (pv 12) rfl) (pe_fld (pv 7) rfl) (nomark _))))) (pss_one (ps_ret pe_bl)) pss_nil))))))))
      (pss_one (ps_ret pe_bl))))))), ?_⟩
    refine ⟨_, rfl, sa, ns, rfl, hsa, hns, fun r H1 nr s1 w1 => ?_⟩
    have mem : r ∈ [r] := List.mem_singleton.mpr rfl
    have row1 {H' : Hp} (w' : RowAt H' r) : ∀ b ∈ [r], H' b ≠ none := fun b hb => by
      rw [List.mem_singleton.mp hb]
      exact w'.ne
    refine ⟨_, rfl, [r], r, rfl, mem, row1 w1, w1, fun W wv H2 s2 w2 ok hW2 => ?_⟩
    obtain ⟨t, mv, av, lv, rfl, ht, hmv, hav, hlv⟩ := id hW2
    have ht2 := (cut_get ht).2
    have c2 := ok.c2
    have c5 := ok.c5
    refine ⟨_, rfl, t, _, _, _, rfl, rfl, SqT.of ht2, atI_nat (j := 0) rfl, _, rfl, t, _, _, _, rfl, rfl, SqT.of ht2, atI_nat (j := 1) rfl, _, rfl, t, _, _, _, rfl, rfl, SqT.of ht2, atI_nat (j := 2) rfl, _, rfl, t, _, _, _, rfl, rfl, SqT.of ht2, atI_nat (j := 3) rfl,
      [r], W, mv, av, lv, rfl, row1 w2, hmv, hav, hlv, ok, fun fv H3 s3 hF3 => ?_⟩
    have w3 := RowAt.same s3 w2
    refine ⟨_, rfl, _, rfl, t, _, _, _, rfl, rfl, SqT.of (s3 _ _ ht2), atI_nat (j := 0) rfl, [r], r, W.c, rfl, mem, row1 w3, w3, by omega, fun ws wsv H4 s4 w4 wl wr hws => ?_⟩
    have hW4 : WorldR H4 (.ref t) W := dropA (Mono.mono (s4.cutX mem) (Mono.mono (s3.cutS [r]) hW2))
    have hF4 : FontR K H4 fv (fontOf W) := dropA (Mono.mono (s4.cutX mem) hF3)
    have hws4 : Ls IL H4 wsv ws := dropA hws
    clear hW2 hmv hav hlv hF3 hws ht ht2 s1 s2 s3 s4 w1 w2 w3 w4 nr
    -- the joined words
    refine ⟨fun σ H5 => ∃ (wsv' : V) (ws' : List (List Int)), σ = [some (.ref sa), some (.ref r), some (.ref t), some fv, some wsv', none, none, none, none, none, none, none, none] ∧ Same H4 H5 ∧ Ls IL H5 wsv' ws' ∧ ws'.length ≤ 100 ∧ ∀ w ∈ ws', ∀ g ∈ w, 0 ≤ g ∧ g < (W.c : Int), ?_, ?_⟩
    · obtain ⟨wa, wvs, rfl, hwa, wp⟩ := hws4
      refine ⟨_, rfl, 1, 8, rfl, ⟨by decide, by decide, by decide, by decide⟩, fun D hD => ?_⟩
      refine lc_mapR (lo := 1) (n := 7) IL [] ((List.range 7).map (joinW ws)) (fun b hb => absurd hb List.not_mem_nil) hD (by simp) (len_small (by decide)) ?_ fun H8 s8 _ r8 => ?_
      · intro i yv H5 hi hyi s5 _ hth Q5 kQ
        have ey : yv = joinW ws i := by
          rw [List.getElem?_map, List.getElem?_range hi] at hyi
          exact (Option.some.inj hyi).symm
        have gt : ∀ j, j < 10 → ∃ a : Addr, wvs[j]? = some (.ref a) ∧ H5 a = some (.lst ((ws.getD j []).map V.int)) ∧ (ws.getD j []).length ≤ 6 := fun j hj => by
          have e : ws[j]? = some ws[j] := List.getElem?_eq_getElem (by omega)
          obtain ⟨v, hv, a, rfl, ha⟩ := paired_get wp e
          have eg : ws.getD j [] = ws[j] := by
            rw [List.getD_eq_getElem?_getD, e]
            rfl
          rw [eg]
          exact ⟨a, hv, s5 _ _ ha, (wr _ (List.mem_of_getElem? e)).1⟩
        obtain ⟨a1, v1, e1, l1⟩ := gt (i + 1) (by omega)
        obtain ⟨a2, v2, e2, l2⟩ := gt (i + 2) (by omega)
        obtain ⟨a0, v0, e0, l0⟩ := gt 0 (by omega)
        have hwa5 := s5 _ _ hwa
        refine ⟨rfl, _, rfl, _, rfl, wa, _, _, _, rfl, rfl, SqL.of hwa5, at_of (j := i + 1) (by omega) v1, _, rfl, _, rfl, _, _, rfl, rfl, wa, _, _, _, rfl, rfl, SqL.of hwa5, at_of (j := i + 2) (by omega) v2,
          a1, a2, _, _, rfl, rfl, e1, e2, len_small' (by rw [List.length_map, List.length_map]; omega), fun p np => ?_⟩
        have n1 : Same H5 (upd H5 p (.lst ((ws.getD (i + 1) []).map V.int ++ (ws.getD (i + 2) []).map V.int))) := same_upd np
        refine ⟨_, rfl, wa, _, _, _, rfl, rfl, SqL.of (n1 _ _ hwa5), atI_nat (j := 0) v0, p, a0, _, _, rfl, rfl, upd_same, n1 _ _ e0, len_small' (by simp only [List.length_append, List.length_map]; omega), fun p2 np2 => ?_⟩
        have n2 := n1.trans (same_upd (o := .lst ((ws.getD (i + 1) []).map V.int ++ (ws.getD (i + 2) []).map V.int ++ (ws.getD 0 []).map V.int)) np2)
        refine ⟨_, rfl, _, rfl, wa, _, _, _, rfl, rfl, SqL.of (n2 _ _ hwa5), at_of (j := i + 1) (by omega) v1, p2, a1, _, _, rfl, rfl, upd_same, n2 _ _ e1, len_small' (by simp only [List.length_append, List.length_map]; omega), fun p3 np3 => ?_⟩
        have n3 := n2.trans (same_upd (o := .lst ((ws.getD (i + 1) []).map V.int ++ (ws.getD (i + 2) []).map V.int ++ (ws.getD 0 []).map V.int ++ (ws.getD (i + 1) []).map V.int)) np3)
        refine kQ _ _ n3 ⟨p3, rfl, ?_⟩
        rw [ey]
        refine cut_of ?_ (not_in_of (there_same n2 hth) np3)
        rw [upd_same]
        unfold joinW
        simp only [List.map_append]
      · obtain ⟨D', dvs, eD, hdD, dp⟩ := (dropA r8 : Ls IL H8 _ _)
        cases eD
        have lw := wp.length
        have ld := dp.length
        rw [List.length_map, List.length_range] at ld
        refine ⟨wa, D, wvs, dvs, rfl, rfl, s8 _ _ hwa, hdD, len_small' (by omega), fun p np => ⟨_, ws ++ (List.range 7).map (joinW ws), rfl, s8.trans (same_upd np), ⟨p, _, rfl, upd_same, paired_app (pair_mono (s8.trans (same_upd np)) wp) (pair_mono (same_upd np) dp)⟩, ?_, fun w hw g hg => ?_⟩⟩
        · rw [List.length_append, List.length_map, List.length_range]
          omega
        · have hgd : ∀ j, ∀ g ∈ ws.getD j [], 0 ≤ g ∧ g < (W.c : Int) := fun j g hg => by
            cases e : ws[j]? with
            | none =>
              rw [List.getD_eq_getElem?_getD, e] at hg
              exact absurd hg List.not_mem_nil
            | some w' =>
              rw [List.getD_eq_getElem?_getD, e] at hg
              exact (wr w' (List.mem_of_getElem? e)).2 g hg
          rcases List.mem_append.mp hw with h | h
          · exact (wr w h).2 g hg
          · obtain ⟨i, _, e⟩ := List.mem_map.mp h
            rw [← e] at hg
            unfold joinW at hg
            rcases List.mem_append.mp hg with hg | hg
            · rcases List.mem_append.mp hg with hg | hg
              · rcases List.mem_append.mp hg with hg | hg
                · exact hgd _ g hg
                · exact hgd _ g hg
              · exact hgd _ g hg
            · exact hgd _ g hg
    clear hws4 wl wr
    rintro σ H5 ⟨wsv', ws', rfl, s45, hws', wl', wr'⟩
    have hW5 : WorldR H5 (.ref t) W := Mono.mono s45 hW4
    have hF5 : FontR K H5 fv (fontOf W) := Mono.mono s45 hF4
    clear hW4 hF4 s45
    obtain ⟨t', mv, av, lv, et, ht, hmv, hav, ⟨la, lvs, rfl, hla, lp⟩⟩ := id hW5
    cases et
    obtain ⟨wa, wvs, rfl, hwa, wp⟩ := id hws'
    have llv := lp.length
    have n4 := ok.n4
    have gl := ok.glen
    have lwv := wp.length
    refine ⟨_, rfl, t, _, _, _, rfl, rfl, SqT.of ht, atI_nat (j := 3) rfl, la, _, rfl, .inl (SqL.of hla), ((lvs.length : Nat) : Int), rfl, by omega, by omega, ?_⟩
    rw [Int.toNat_natCast]
    refine for_range (lo := 0) (n := lvs.length) (fun i σ H6 => ∃ y5 y6 y7 y8 y9 y10 y11 y12 : Option V, σ = [some (.ref sa), some (.ref r), some (.ref t), some fv, some (.ref wa), y5, y6, y7, y8, y9, y10, y11, y12] ∧ Same H5 H6) ⟨none, none, none, none, none, none, none, none, rfl, Same.refl _⟩ ?_ ?_
    · rintro i σ H6 hi ⟨y5, y6, y7, y8, y9, y10, y11, y12, rfl, s6⟩
      rw [Int.zero_add]
      obtain ⟨lk, hlk⟩ : ∃ lk, W.lks[i]? = some lk := ⟨_, List.getElem?_eq_getElem (by omega)⟩
      have kl := ok.lw i lk hlk
      have smt := kl.small true
      have smf := kl.small false
      have c1000 : W.c ≤ 1000 := by omega
      refine ⟨_, rfl, _, rfl, fontOf W, i, lk, fv, rfl, Mono.mono s6 hF5, hlk, kl.len, smt, smf, by omega, fun k k' H7 v7 f1 f2 s7 hA7 => ?_⟩
      rw [gl] at f1 f2 hA7
      have s57 := s6.trans s7
      have lpt : (patsOf true lk).length = lk.rules.length := List.length_map _
      have lpf : (patsOf false lk).length = lk.rules.length := List.length_map _
      refine ⟨_, rfl, _, rfl, _, rfl, fontOf W, i, lk, _, fv, v7, rfl, Mono.mono s57 hF5, hlk, hA7, by rw [gl]; exact f1.fitOk smt c1000 lpt, by rw [gl]; exact f2.fitOk smf c1000 lpf, fun H8 s8 => ⟨true, true, rfl, rfl, _, rfl, iteN (by decide) ?_⟩⟩
      have hA8 := Mono.mono s8 hA7
      have s58 := s57.trans s8
      clear hA7 s7 s8 s57 s6
      obtain ⟨z, dz, fo, ba, rfl, hz, hfo, hba⟩ := id hA8
      refine ⟨_, rfl, z, _, dz, _, _, rfl, hz, T.cls_Automaton, T.no_Automaton_fore, rfl, _, rfl, z, _, dz, _, _, rfl, hz, T.cls_Automaton, T.no_Automaton_back, rfl, (by show 2 ≤ sizeLine; decide), fun sl nsl => ?_⟩
      have s89 : Same H8 (upd H8 sl (.lst [fo, ba])) := same_upd nsl
      have hsl : (upd H8 sl (.lst [fo, ba])) sl = some (.lst [fo, ba]) := upd_same
      have hA9 := Mono.mono s89 hA8
      have s59 := s58.trans s89
      generalize upd H8 sl (.lst [fo, ba]) = H9 at s89 hsl hA9 s59 ⊢
      refine ⟨(2 : Int), rfl, by decide, by decide, ?_⟩
      refine for_range (lo := 0) (n := 2) (fun _ σ H' => ∃ y5 y9 y10 y11 : Option V, σ = [some (.ref sa), some (.ref r), some (.ref t), some fv, some (.ref wa), y5, some (.int (i : Int)), some (.ref z), some (.ref sl), y9, y10, y11, y12] ∧ Same H9 H') ⟨y5, y9, y10, y11, rfl, Same.refl _⟩ ?_ ?_
      · rintro j σ H10 hj ⟨x5, x9, x10, x11, rfl, s10⟩
        rw [Int.zero_add]
        obtain ⟨fore, ej⟩ : ∃ fore : Bool, j = nm fore := by
          by_cases h0 : j = 0
          · exact ⟨true, h0⟩
          · exact ⟨false, by show j = 1; omega⟩
        have sm := kl.small fore
        obtain ⟨sv, hsv, hside⟩ : ∃ sv : V, [fo, ba][j]? = some sv ∧ SideR H9 sv (sideOf fore ((rowsOf (patsOf true lk) W.c k, metOf (patsOf true lk) W.c k), (rowsOf (patsOf false lk) W.c k', metOf (patsOf false lk) W.c k'))) := by
          subst ej
          cases fore with
          | true => exact ⟨fo, rfl, Mono.mono s89 hfo⟩
          | false => exact ⟨ba, rfl, Mono.mono s89 hba⟩
        obtain ⟨kf, fin, eside⟩ : ∃ kf : Nat, Fin (patsOf fore lk) W.c kf ∧ sideOf fore ((rowsOf (patsOf true lk) W.c k, metOf (patsOf true lk) W.c k), (rowsOf (patsOf false lk) W.c k', metOf (patsOf false lk) W.c k')) = (rowsOf (patsOf fore lk) W.c kf, metOf (patsOf fore lk) W.c kf) := by
          cases fore with
          | true => exact ⟨k, f1, rfl⟩
          | false => exact ⟨k', f2, rfl⟩
        refine ⟨(by show 2 ≤ sizeLine; decide), fun nl nnl => ?_⟩
        have sn : Same H10 (upd H10 nl (.lst [V.str "fore", V.str "back"])) := same_upd nnl
        have hnm : ([V.str "fore", V.str "back"] : List V)[j]? = some (.str (sideName fore)) := by
          subst ej
          cases fore <;> rfl
        refine ⟨_, rfl, nl, _, _, _, rfl, rfl, SqL.of upd_same, atI_nat (j := j) hnm, ?_⟩
        have s9n := s10.trans sn
        refine ⟨_, rfl, _, rfl, _, rfl, W, i, lk, fore, .ref t, rfl, Mono.mono (s59.trans s9n) hW5, hlk, kl.len.rules, fun rr hrr => ?_, fun H11 pv11 s11 hp11 => ?_⟩
        · have k0 := kl.rules rr hrr
          have k1 := k0.i3
          have k2 := k0.a2
          omega
        have s911 := s9n.trans s11
        have s511 := s59.trans s911
        refine ⟨_, rfl, _, rfl, sl, _, _, sv, rfl, rfl, SqL.of (s911 _ _ hsl), atI_nat (j := j) hsv, _, rfl, _, rfl, t, _, _, _, rfl, rfl, SqT.of (s511 _ _ ht), atI_nat (j := 0) rfl, patsOf fore lk, W.c, pv11, rfl, hp11, sm, c1000, fun k2 H12 v12 f12 s12 hs12 => ?_⟩
        have ek := fin.uniq f12
        subst ek
        have s912 := s911.trans s12
        refine ne_same (Mono.mono s912 hside) hs12 eside ⟨_, rfl, iteF ?_⟩
        refine ⟨_, rfl, wa, rfl, ⟨_, SqL.of (s912 _ _ (s59 _ _ hwa))⟩, ?_⟩
        refine for_list (K := K) (a := wa) (xs := wvs) (fun _ σ H' => ∃ y11 : Option V, σ = [some (.ref sa), some (.ref r), some (.ref t), some fv, some (.ref wa), some (.int (j : Int)), some (.int (i : Int)), some (.ref z), some (.ref sl), some (.str (sideName fore)), some pv11, y11, y12] ∧ Same H12 H')
          ⟨_, rfl, Same.refl _⟩ (fun _ σ H' _ ⟨_, _, sx⟩ => SqL.of (sx _ _ (s912 _ _ (s59 _ _ hwa)))) ?_ ?_
        · rintro m xv σ H13 hxm ⟨x11, rfl, s13⟩
          obtain ⟨word, hword, hil⟩ := paired_getL wp hxm
          have s913 := s912.trans s13
          have hil13 : IL H13 xv word := Mono.mono (s59.trans s913) hil
          refine ⟨_, rfl, _, rfl, _, rfl, _, fore, patsOf fore lk, W.c, kf, word, .ref z, xv, rfl, Mono.mono s913 hA9, eside, ⟨sm, fin⟩, hil13, wr' word (List.mem_of_getElem? hword), fun q nq => ?_⟩
          have s14 : Same H13 (upd H13 q (.lst ((met (patsOf fore lk) (stW (patsOf fore lk) word)).map V.int))) := same_upd nq
          refine ⟨_, rfl, _, rfl, patsOf fore lk, word, pv11, xv, rfl, Mono.mono (s12.trans (s13.trans s14)) hp11, Mono.mono s14 hil13, sm.len.1, sm.len.2, fun H15 a15 s15 h15 => ?_⟩
          refine ne_ints (s := met (patsOf fore lk) (stW (patsOf fore lk) word)) ⟨q, rfl, s15 _ _ upd_same⟩ ⟨a15, rfl, h15⟩ ⟨_, rfl, iteF ?_⟩
          exact ⟨_, rfl, s13.trans (s14.trans s15)⟩
        · rintro σ H13 ⟨x11, rfl, s13⟩
          exact ⟨_, _, _, _, rfl, s912.trans s13⟩
      · rintro σ H10 ⟨x5, x9, x10, x11, rfl, s10⟩
        have s510 := s59.trans s10
        refine ⟨_, rfl, _, rfl, fontOf W, i, lk, fv, rfl, Mono.mono s510 hF5, hlk, kl.len, smt, smf, by omega, fun k3 k4 H11 v11 f3 f4 s11 hA11 => ?_⟩
        rw [gl] at f3 f4 hA11
        have e3 := f1.uniq f3
        have e4 := f2.uniq f4
        subst e3 e4
        obtain ⟨z2, dz2, fo2, ba2, rfl, hz2, hfo2, hba2⟩ := hA11
        have s911 := s89.trans (s10.trans s11)
        have hz11 := s911 _ _ hz
        refine ⟨_, rfl, z2, _, dz2, _, _, rfl, hz2, T.cls_Automaton, T.no_Automaton_fore, rfl, _, rfl, z, _, dz, _, _, rfl, hz11, T.cls_Automaton, T.no_Automaton_fore, rfl, ?_⟩
        refine ne_same hfo2 (Mono.mono s911 hfo) rfl ⟨_, rfl, iteF ?_⟩
        refine ⟨_, rfl, z2, _, dz2, _, _, rfl, hz2, T.cls_Automaton, T.no_Automaton_back, rfl, _, rfl, z, _, dz, _, _, rfl, hz11, T.cls_Automaton, T.no_Automaton_back, rfl, ?_⟩
        refine ne_same hba2 (Mono.mono s911 hba) rfl ⟨_, rfl, iteF ?_⟩
        exact ⟨_, _, _, _, _, _, _, _, rfl, s510.trans s11⟩
    · rintro σ H6 ⟨y5, y6, y7, y8, y9, y10, y11, y12, rfl, s6⟩
      exact kk _
end
end K26


set_option maxHeartbeats 0
namespace K26
open PySem PySem.Spec PyProof.Rows L2
theorem facts {P : Program} {w : World} {K : PySem.W.Frag} {h : Heap} {mg : Str → Option Value} {f : Addr} (X : K.In h) (G : h.Ns mainGlobals mg) (hfa : mg ("law" : Str) = some (.ref f)) (c : He.SaysD fa fn K) (cx : ex K = true) :
    ∃ fd : FuncData, (∀ (s : Shared) (v : Value), BindsTo s fd ⟨[v], []⟩ [("_law_script", v)]) ∧ ∀ base : Heap, K.In base → base.Ns mainGlobals mg → FnOk P w K mg base CX0 40 f fd ["_law_script"] (spLaw K) := by
  have T : Txt K mg := ⟨h, X, G, c, cx⟩
  obtain ⟨fd, F⟩ := T.f_law
  have e := hfa.symm.trans T.g_law
  cases e
  have b := FunD.bindsA (ps := ["_law_script"]) F fun _ _ _ _ _ _ us hl => match us, hl with | [_], _ => rfl
  exact ⟨fd, fun s v => b s [v] rfl, fun base _ _ => ok_law T F⟩
end K26
open PySem PySem.W PySem.Calls PyProof.Rows
theorem PySem.Challenge.cw_fleuron_k26_whole_built_automata_holds : PySem.Challenge.rw_fleuron_k26_whole_built_automata.Holds := by
  w_on; o_law
  refine HandSHeadRun.head_any (r := OpenLaw.row PySem.Challenge.rw_fleuron_k26_whole_built_automata) (q := view (OpenLaw.row PySem.Challenge.rw_fleuron_k26_whole_built_automata).prog [85]) (H := K26.hk) (ob := K26.ob) (M := 9000) (loose := K26.loose) (d := HandSHeadRun.topDef (OpenLaw.row PySem.Challenge.rw_fleuron_k26_whole_built_automata).prog 85) (kwd := []) K26.ob_eq
    (by kernel_rfl) (fun s => by kernel_rfl) K26.run (by kernel_rfl) (by kernel_rfl) (by kernel_rfl) (by rfl) (by first | assumption | decide +kernel) (by decide +kernel) ⟨rfl, rfl, rfl, rfl, rfl, by decide +kernel⟩ ?hw ?hc
  case hw => w_witness2
  case hc =>
    refine L2.walk_ofE (l := PySem.Challenge.rw_fleuron_k26_whole_built_automata) (n := 63) (k := 40) (x := "_law_script") (CX := L2.CX0) rfl (by decide) (by kernel_rfl) ⟨rfl, by decide, by decide⟩ ?F (fun _ _ _ _ z => z)
    intro w mg fa h Y G hmg0
    obtain ⟨K, KX, c, cx⟩ := Y
    have hmg : mg ("law" : PySem.Str) = some (.ref fa) := by
      have e : (HandSHeadRun.topDef (OpenLaw.row PySem.Challenge.rw_fleuron_k26_whole_built_automata).prog 85).name = ("law" : PySem.Str) := by kernel_rfl
      rw [← e]
      exact hmg0
    obtain ⟨fd, hb, hF⟩ := K26.facts (P := (PySem.Challenge.rw_fleuron_k26_whole_built_automata).prog) (w := w) KX G hmg c cx
    exact ⟨K, fd, K26.spLaw K, KX, hb, fun H a ns hl _ hS => ⟨a, ns, rfl, hS, hl, fun _ => rfl⟩, hF⟩

