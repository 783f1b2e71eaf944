import PyProof.Rows.All
import Wide.All
import OpenK.AllK
import Wide.FinOn
import HandS.Base
import HandS.Call
import HandS.List
import HandS.Comp
import HandS.Dict
import HandS.Iter
import HandS.Text
import KE.SortData
import KE.GoesNew
import KE.KDictPairs
import KE.KDictZip
import KE.KDictList
import HandS.ForMost
import HandS.TupMul
import HandS.Style
import HandS.IsInst
import HandS.Conv
import HandS.Walk
import HandS.Codes
import PySem.Challenge.RW_pairfolds_k14_whole_brackets_and_loops
import HandS.Zip
set_option Elab.async false
set_option linter.all false
set_option maxRecDepth 100000
set_option maxHeartbeats 4000000
/-! The plain law: foldings as forests. No program in sight. -/
namespace K14

/-- a folding: pairs (i, j), those within, those behind -/
inductive F where
  | nil
  | cons (i j : Nat) (kids rest : F)

/-- all places lie from lo up to below hi, nothing crosses -/
def WF : Nat → Nat → F → Prop
  | lo, hi, .nil => lo ≤ hi
  | lo, hi, .cons i j k r => lo ≤ i ∧ i < j ∧ j < hi ∧ WF (i + 1) j k ∧ WF (j + 1) hi r
def flat : F → List (Nat × Nat)
  | .nil => []
  | .cons i j k r => (i, j) :: (flat k ++ flat r)
def roots : F → List (Nat × Nat)
  | .nil => []
  | .cons i j _ r => (i, j) :: roots r
/-- each pair, in order, with what lies within -/
def subs : F → List ((Nat × Nat) × F)
  | .nil => []
  | .cons i j k r => ((i, j), k) :: (subs k ++ subs r)
theorem subs_flat : ∀ t : F, (subs t).map (·.1) = flat t
  | .nil => rfl
  | .cons i j k r => by
    simp only [subs, flat, List.map_cons, List.map_append, subs_flat k, subs_flat r]
theorem WF.le : ∀ {t : F} {lo hi : Nat}, WF lo hi t → lo ≤ hi
  | .nil, _, _, h => h
  | .cons i j k r, lo, hi, h => by
    obtain ⟨h1, h2, h3, _, _⟩ := h
    omega
theorem WF.mem : ∀ {t : F} {lo hi : Nat}, WF lo hi t → ∀ p ∈ flat t, lo ≤ p.1 ∧ p.1 < p.2 ∧ p.2 < hi
  | .nil, _, _, _, p, hp => by cases hp
  | .cons i j k r, lo, hi, h, p, hp => by
    obtain ⟨h1, h2, h3, h4, h5⟩ := h
    simp only [flat, List.mem_cons, List.mem_append] at hp
    rcases hp with rfl | hp | hp
    · exact ⟨h1, h2, h3⟩
    · have := WF.mem h4 p hp
      omega
    · have := WF.mem h5 p hp
      omega
theorem WF.low : ∀ {t : F} {lo lo' hi : Nat}, lo' ≤ lo → WF lo hi t → WF lo' hi t
  | .nil, _, _, _, h, w => Nat.le_trans h w
  | .cons i j k r, lo, lo', hi, h, w => by
    obtain ⟨h1, h2⟩ := w
    exact ⟨Nat.le_trans h h1, h2⟩
/-! ### rising -/
def ltP (p q : Nat × Nat) : Prop := p.1 < q.1
theorem flat_rising : ∀ {t : F} {lo hi : Nat}, WF lo hi t → (flat t).Pairwise ltP
  | .nil, _, _, _ => .nil
  | .cons i j k r, lo, hi, h => by
    obtain ⟨h1, h2, h3, h4, h5⟩ := h
    simp only [flat, List.pairwise_cons, List.pairwise_append]
    refine ⟨fun p hp => ?_, flat_rising h4, flat_rising h5, fun p hp q hq => ?_⟩
    · rcases List.mem_append.mp hp with hp | hp
      · have := h4.mem p hp
        simp only [ltP]
        omega
      · have := h5.mem p hp
        simp only [ltP]
        omega
    · have a := h4.mem p hp
      have b := h5.mem q hq
      simp only [ltP]
      omega
/-! ### none crosses -/
theorem flat_apart : ∀ {t : F} {lo hi : Nat}, WF lo hi t → (flat t).Pairwise (fun p q => p.1 < q.1 ∧ (q.1 > p.2 ∨ q.2 < p.2))
  | .nil, _, _, _ => .nil
  | .cons i j k r, lo, hi, h => by
    obtain ⟨h1, h2, h3, h4, h5⟩ := h
    simp only [flat, List.pairwise_cons, List.pairwise_append]
    refine ⟨fun p hp => ?_, flat_apart h4, flat_apart h5, fun p hp q hq => ?_⟩
    · rcases List.mem_append.mp hp with hp | hp
      · have := h4.mem p hp
        omega
      · have := h5.mem p hp
        omega
    · have a := h4.mem p hp
      have b := h5.mem q hq
      omega
/-! ### how many -/
theorem roots_len : ∀ {t : F} {lo hi : Nat}, WF lo hi t → 2 * (roots t).length + lo ≤ hi
  | .nil, _, _, h => by simpa [roots, WF] using h
  | .cons i j k r, lo, hi, h => by
    obtain ⟨h1, h2, h3, h4, h5⟩ := h
    have := roots_len h5
    simp only [roots, List.length_cons]
    omega
theorem flat_len : ∀ {t : F} {lo hi : Nat}, WF lo hi t → 2 * (flat t).length + lo ≤ hi
  | .nil, _, _, h => by simpa [flat, WF] using h
  | .cons i j k r, lo, hi, h => by
    obtain ⟨h1, h2, h3, h4, h5⟩ := h
    have a := flat_len h4
    have b := flat_len h5
    simp only [flat, List.length_cons, List.length_append]
    omega
/-! ### straight within -/
/-- what the walk over the pairs takes: those beyond the last taken one, that end ahead of last -/
def sw (last : Option Int) : Int → List (Nat × Nat) → List (Nat × Nat)
  | _, [] => []
  | e, p :: ps => if e < (p.1 : Int) ∧ (∀ l, last = some l → (p.2 : Int) < l) then p :: sw last p.2 ps else sw last e ps
theorem sw_skip {last : Option Int} {e : Int} : ∀ {L S : List (Nat × Nat)}, (∀ p ∈ L, (p.1 : Int) ≤ e) → sw last e (L ++ S) = sw last e S
  | [], _, _ => rfl
  | p :: L, S, h => by
    have h1 := h p (List.mem_cons_self ..)
    rw [List.cons_append, sw, if_neg (by omega)]
    exact sw_skip fun q hq => h q (List.mem_cons_of_mem _ hq)
theorem sw_end {l e : Int} : ∀ {S : List (Nat × Nat)}, (∀ p ∈ S, l ≤ (p.2 : Int)) → sw (some l) e S = []
  | [], _ => rfl
  | p :: S, h => by
    have h1 := h p (List.mem_cons_self ..)
    rw [sw, if_neg (by intro c; have := c.2 l rfl; omega)]
    exact sw_end fun q hq => h q (List.mem_cons_of_mem _ hq)
theorem sw_roots {last : Option Int} : ∀ {t : F} {lo hi : Nat} {e : Int} {S : List (Nat × Nat)}, WF lo hi t → e < (lo : Int) → (∀ l, last = some l → (hi : Int) ≤ l) →
    ∃ e' : Int, e ≤ e' ∧ sw last e (flat t ++ S) = roots t ++ sw last e' S
  | .nil, lo, hi, e, S, h, he, hl => ⟨e, Int.le_refl _, rfl⟩
  | .cons i j k r, lo, hi, e, S, h, he, hl => by
    obtain ⟨h1, h2, h3, h4, h5⟩ := h
    obtain ⟨e', g1, g2⟩ := sw_roots (last := last) (e := (j : Int)) (S := S) h5 (by omega) hl
    refine ⟨e', by omega, ?_⟩
    simp only [flat, roots, List.cons_append, List.append_assoc]
    rw [sw, if_pos ⟨by show e < (i : Int); omega, fun l e => by have := hl l e; show (j : Int) < l; omega⟩]
    show (i, j) :: sw last (j : Int) (flat k ++ (flat r ++ S)) = _
    rw [sw_skip fun p hp => by have := h4.mem p hp; omega, g2]
theorem sw_out {t : F} {n : Nat} (h : WF 0 n t) : sw none (-1) (flat t) = roots t := by
  obtain ⟨e', _, g⟩ := sw_roots (last := none) (e := -1) (S := []) h (by omega) (fun l e => nomatch e)
  rw [List.append_nil] at g
  rw [g]
  simp [sw]
/-- each pair with what lies within: its place among all -/
theorem subs_at : ∀ {t : F} {lo hi : Nat}, WF lo hi t → ∀ x ∈ subs t, ∃ L S, flat t = L ++ x.1 :: (flat x.2 ++ S) ∧ (∀ p ∈ L, p.1 ≤ x.1.1) ∧ (∀ p ∈ S, x.1.2 ≤ p.2) ∧ WF (x.1.1 + 1) x.1.2 x.2 ∧ lo ≤ x.1.1 ∧ x.1.2 < hi ∧ x.1.1 < x.1.2
  | .nil, _, _, _, x, hx => by cases hx
  | .cons i j k r, lo, hi, h, x, hx => by
    obtain ⟨h1, h2, h3, h4, h5⟩ := h
    simp only [subs, List.mem_cons, List.mem_append] at hx
    rcases hx with rfl | hx | hx
    · refine ⟨[], flat r, rfl, fun p hp => (by cases hp), fun p hp => ?_, h4, h1, h3, h2⟩
      have := h5.mem p hp
      show j ≤ p.2
      omega
    · obtain ⟨L, S, e, a, b, c, d1, d2, d3⟩ := subs_at h4 x hx
      refine ⟨(i, j) :: L, S ++ flat r, ?_, fun p hp => ?_, fun p hp => ?_, c, by omega, by omega, d3⟩
      · simp only [flat, e, List.cons_append, List.append_assoc]
      · rcases List.mem_cons.mp hp with rfl | hp
        · show i ≤ x.1.1
          omega
        · exact a p hp
      · rcases List.mem_append.mp hp with hp | hp
        · exact b p hp
        · have := h5.mem p hp
          omega
    · obtain ⟨L, S, e, a, b, c, d1, d2, d3⟩ := subs_at h5 x hx
      refine ⟨(i, j) :: (flat k ++ L), S, ?_, fun p hp => ?_, b, c, by omega, d2, d3⟩
      · simp only [flat, e, List.cons_append, List.append_assoc]
      · rcases List.mem_cons.mp hp with rfl | hp
        · show i ≤ x.1.1
          omega
        · rcases List.mem_append.mp hp with hp | hp
          · have := h4.mem p hp
            omega
          · exact a p hp
theorem sw_in {t : F} {n : Nat} (h : WF 0 n t) {x : (Nat × Nat) × F} (hx : x ∈ subs t) : sw (some (x.1.2 : Int)) (x.1.1 : Int) (flat t) = roots x.2 := by
  obtain ⟨L, S, e, a, b, c, _, _, _⟩ := subs_at h x hx
  have e2 : flat t = (L ++ [x.1]) ++ (flat x.2 ++ S) := by rw [e, List.append_assoc]; rfl
  rw [e2, sw_skip fun p hp => by
    rcases List.mem_append.mp hp with hp | hp
    · have := a p hp; omega
    · rcases List.mem_singleton.mp hp with rfl; omega]
  obtain ⟨e', g1, g2⟩ := sw_roots (last := some (x.1.2 : Int)) (e := (x.1.1 : Int)) (S := S) c (by omega) (fun l e => by cases e; omega)
  rw [g2, sw_end fun p hp => by have := b p hp; omega, List.append_nil]
/-- the pairs straight within a pair of the folding, by the program's walk -/
def inner (ps : List (Nat × Nat)) (p : Nat × Nat) : List (Nat × Nat) := sw (some (p.2 : Int)) (p.1 : Int) ps
theorem inner_all {t : F} {n : Nat} (h : WF 0 n t) : (flat t).map (inner (flat t)) = (subs t).map (fun x => roots x.2) := by
  rw [show (flat t).map (inner (flat t)) = ((subs t).map (·.1)).map (inner (flat t)) by rw [subs_flat], List.map_map]
  exact List.map_congr_left fun x hx => sw_in h hx
/-! ### each pair stands straight within just one -/
theorem all_perm : ∀ t : F, (roots t ++ ((subs t).map (fun x => roots x.2)).flatten).Perm (flat t)
  | .nil => .nil
  | .cons i j k r => by
    have hk := all_perm k
    have hr := all_perm r
    simp only [roots, subs, flat, List.map_cons, List.map_append, List.flatten_cons, List.flatten_append, List.cons_append]
    refine List.Perm.cons _ ?_
    refine List.Perm.trans ?_ (hk.append hr)
    -- roots r ++ (roots k ++ (fk ++ fr)) ~ (roots k ++ fk) ++ (roots r ++ fr)
    refine List.Perm.trans (l₂ := (roots k ++ (((subs k).map (fun x => roots x.2)).flatten)) ++ (roots r ++ ((subs r).map (fun x => roots x.2)).flatten)) ?_ (List.Perm.refl _)
    rw [← List.append_assoc, ← List.append_assoc, ← List.append_assoc]
    refine List.Perm.append_right _ ?_
    rw [List.append_assoc]
    exact List.perm_append_comm
theorem perm_all {t : F} {n : Nat} (h : WF 0 n t) : (sw none (-1) (flat t) ++ ((flat t).map (inner (flat t))).flatten).Perm (flat t) := by
  rw [sw_out h, inner_all h]
  exact all_perm t
/-! ### free places -/
def width (p : Nat × Nat) : Int := (p.2 : Int) - p.1 + 1
def freeIn (p : Nat × Nat) (ks : List (Nat × Nat)) : Int := (p.2 : Int) - p.1 - 1 - (ks.map width).sum
theorem sum_perm {α : Type} (f : α → Int) {l m : List α} (h : l.Perm m) : (l.map f).sum = (m.map f).sum := by
  induction h with
  | nil => rfl
  | cons x _ ih => simp only [List.map_cons, List.sum_cons, ih]
  | swap x y l => simp only [List.map_cons, List.sum_cons]; omega
  | trans _ _ a b => exact a.trans b
theorem sum_app (l m : List Int) : (l ++ m).sum = l.sum + m.sum := by
  induction l with
  | nil => simp
  | cons x l ih => simp only [List.cons_append, List.sum_cons, ih]; omega
theorem sum_flat (f : Nat × Nat → Int) : ∀ ls : List (List (Nat × Nat)), ((ls.flatten).map f).sum = (ls.map (fun l => (l.map f).sum)).sum
  | [] => rfl
  | l :: ls => by simp only [List.flatten_cons, List.map_append, sum_app, List.map_cons, List.sum_cons, sum_flat f ls]
theorem sum_free (g : Nat × Nat → List (Nat × Nat)) : ∀ ps : List (Nat × Nat), (ps.map (fun p => freeIn p (g p))).sum + (((ps.map g).flatten).map width).sum + 2 * (ps.length : Int) = (ps.map width).sum
  | [] => rfl
  | p :: ps => by
    have ih := sum_free g ps
    simp only [List.map_cons, List.sum_cons, List.flatten_cons, List.map_append, sum_app, List.length_cons, freeIn, width] at ih ⊢
    omega
/-- free places of all loops and of the open one, and two for each pair, are all places -/
theorem places {t : F} {n : Nat} (h : WF 0 n t) : ((n : Int) - ((sw none (-1) (flat t)).map width).sum) + ((flat t).map (fun p => freeIn p (inner (flat t) p))).sum + 2 * ((flat t).length : Int) = n := by
  have a := sum_perm width (perm_all h)
  rw [List.map_append, sum_app] at a
  have b := sum_free (inner (flat t)) (flat t)
  omega
theorem inner_len {t : F} {n : Nat} (h : WF 0 n t) (hn : n ≤ 12) : ∀ p ∈ flat t, (inner (flat t) p).length ≤ 6 := by
  intro p hp
  rw [← subs_flat] at hp
  obtain ⟨x, hx, rfl⟩ := List.mem_map.mp hp
  have e : inner (flat t) x.1 = roots x.2 := sw_in h hx
  obtain ⟨L, S, _, _, _, c, d1, d2, d3⟩ := subs_at h x hx
  have := roots_len c
  rw [e]
  omega
/-! ### brackets -/
def dots (n : Nat) : List Nat := List.replicate n 46
def codes : Nat → Nat → F → List Nat
  | lo, hi, .nil => dots (hi - lo)
  | lo, hi, .cons i j k r => dots (i - lo) ++ 40 :: (codes (i + 1) j k ++ 41 :: codes (j + 1) hi r)
theorem codes_len : ∀ {t : F} {lo hi : Nat}, WF lo hi t → (codes lo hi t).length = hi - lo
  | .nil, _, _, _ => by simp [codes, dots]
  | .cons i j k r, lo, hi, h => by
    obtain ⟨h1, h2, h3, h4, h5⟩ := h
    have a := codes_len h4
    have b := codes_len h5
    have c := h4.le
    have d := h5.le
    simp only [codes, List.length_append, List.length_cons, dots, List.length_replicate, a, b]
    omega
/-- the program's loop: each pair sets two signs -/
def mark (z : List Nat) (p : Nat × Nat) : List Nat := (z.set p.1 40).set p.2 41
theorem set_at {α : Type} (A B : List α) (x y : α) {n : Nat} (h : A.length = n) : (A ++ x :: B).set n y = A ++ y :: B := by
  subst h
  simp
theorem dots_split {lo i hi : Nat} (h1 : lo ≤ i) (h2 : i < hi) : dots (hi - lo) = dots (i - lo) ++ 46 :: dots (hi - (i + 1)) := by
  unfold dots
  rw [show hi - lo = (i - lo) + ((hi - (i + 1)) + 1) by omega, ← List.replicate_append_replicate, List.replicate_succ]
theorem marks : ∀ {t : F} {lo hi : Nat} (A B : List Nat), WF lo hi t → A.length = lo → (flat t).foldl mark (A ++ (dots (hi - lo) ++ B)) = A ++ (codes lo hi t ++ B)
  | .nil, _, _, A, B, _, _ => rfl
  | .cons i j k r, lo, hi, A, B, h, hA => by
    obtain ⟨h1, h2, h3, h4, h5⟩ := h
    have e1 : dots (hi - lo) = dots (i - lo) ++ 46 :: (dots (j - (i + 1)) ++ 46 :: dots (hi - (j + 1))) := by
      rw [dots_split h1 (by omega : i < hi), dots_split (by omega : i + 1 ≤ j) h3]
    have e2 : mark (A ++ (dots (hi - lo) ++ B)) (i, j) = (A ++ (dots (i - lo) ++ [40])) ++ (dots (j - (i + 1)) ++ (41 :: (dots (hi - (j + 1)) ++ B))) := by
      unfold mark
      rw [e1]
      have s1 : (A ++ ((dots (i - lo) ++ 46 :: (dots (j - (i + 1)) ++ 46 :: dots (hi - (j + 1)))) ++ B)) = (A ++ dots (i - lo)) ++ 46 :: (dots (j - (i + 1)) ++ 46 :: (dots (hi - (j + 1)) ++ B)) := by
        simp only [List.append_assoc, List.cons_append]
      rw [s1, set_at _ _ _ _ (by simp [dots]; omega)]
      have s2 : (A ++ dots (i - lo)) ++ 40 :: (dots (j - (i + 1)) ++ 46 :: (dots (hi - (j + 1)) ++ B)) = ((A ++ dots (i - lo)) ++ 40 :: dots (j - (i + 1))) ++ 46 :: (dots (hi - (j + 1)) ++ B) := by
        simp only [List.append_assoc, List.cons_append]
      rw [s2, set_at _ _ _ _ (by simp [dots]; omega)]
      simp only [List.append_assoc, List.cons_append, List.nil_append]
    simp only [flat, List.foldl_cons, List.foldl_append]
    rw [e2, marks _ _ h4 (by simp [dots]; omega)]
    have s3 : (A ++ (dots (i - lo) ++ [40])) ++ (codes (i + 1) j k ++ (41 :: (dots (hi - (j + 1)) ++ B))) = (A ++ (dots (i - lo) ++ 40 :: (codes (i + 1) j k ++ [41]))) ++ (dots (hi - (j + 1)) ++ B) := by
      simp only [List.append_assoc, List.cons_append, List.nil_append]
    rw [s3, marks _ _ h5 (by simp [dots, codes_len h4]; have := h4.le; omega)]
    simp only [codes, List.append_assoc, List.cons_append, List.nil_append]
theorem marked {t : F} {n : Nat} (h : WF 0 n t) : (flat t).foldl mark (dots n) = codes 0 n t := by
  have := marks [] [] h rfl
  simpa using this
/-! ### reading brackets -/
/-- found so far, waiting -/
abbrev RS := List (Nat × Nat) × List Nat
/-- the reading goes through from a place and a state -/
inductive Run : List Nat → Nat → RS → RS → Prop where
  | nil {n : Nat} {s : RS} : Run [] n s s
  | opens {c : List Nat} {n : Nat} {fs : List (Nat × Nat)} {ws : List Nat} {e : RS} : Run c (n + 1) (fs, ws ++ [n]) e → Run (40 :: c) n (fs, ws) e
  | shuts {c : List Nat} {n w : Nat} {fs : List (Nat × Nat)} {ws : List Nat} {e : RS} : Run c (n + 1) (fs ++ [(w, n)], ws) e → Run (41 :: c) n (fs, ws ++ [w]) e
  | free {c : List Nat} {n : Nat} {s e : RS} : Run c (n + 1) s e → Run (46 :: c) n s e
def post : F → List (Nat × Nat)
  | .nil => []
  | .cons i j k r => post k ++ (i, j) :: post r
theorem run_dots : ∀ (m : Nat) {c : List Nat} {n : Nat} {s e : RS}, Run c (n + m) s e → Run (dots m ++ c) n s e
  | 0, _, _, _, _, h => h
  | m + 1, c, n, s, e, h => by
    show Run (46 :: (dots m ++ c)) n s e
    exact .free (run_dots m (by rw [show n + 1 + m = n + (m + 1) by omega]; exact h))
theorem run_codes : ∀ {t : F} {lo hi : Nat} {c : List Nat} {fs : List (Nat × Nat)} {ws : List Nat} {e : RS}, WF lo hi t → Run c hi (fs ++ post t, ws) e → Run (codes lo hi t ++ c) lo (fs, ws) e
  | .nil, lo, hi, c, fs, ws, e, h, r => by
    rw [show post .nil = [] from rfl, List.append_nil] at r
    refine run_dots _ ?_
    rw [show lo + (hi - lo) = hi from Nat.add_sub_cancel' h]
    exact r
  | .cons i j k q, lo, hi, c, fs, ws, e, h, r => by
    obtain ⟨h1, h2, h3, h4, h5⟩ := h
    simp only [codes, List.append_assoc, List.cons_append]
    refine run_dots _ ?_
    rw [show lo + (i - lo) = i by omega]
    refine .opens (run_codes h4 (.shuts (run_codes h5 ?_)))
    simp only [post, List.append_assoc, List.cons_append, List.nil_append] at r ⊢
    exact r
theorem run_all {t : F} {n : Nat} (h : WF 0 n t) : Run (codes 0 n t) 0 ([], []) (post t, []) := by
  have := run_codes (c := []) (fs := []) (ws := []) (e := (post t, [])) h .nil
  simpa using this
theorem post_perm : ∀ t : F, (post t).Perm (flat t)
  | .nil => .nil
  | .cons i j k r => by
    simp only [post, flat]
    exact (List.perm_middle).trans (List.Perm.cons _ ((post_perm k).append (post_perm r)))
/-! ### rising lists that hold the same are one -/
theorem rising_one : ∀ {l m : List (Nat × Nat)}, l.Perm m → l.Pairwise ltP → m.Pairwise ltP → l = m
  | [], m, h, _, _ => (List.nil_perm.mp h).symm
  | x :: l, [], h, _, _ => (List.perm_nil.mp h)
  | x :: l, y :: m, h, hl, hm => by
    obtain ⟨a1, a2⟩ := List.pairwise_cons.mp hl
    obtain ⟨b1, b2⟩ := List.pairwise_cons.mp hm
    have e : x = y := by
      rcases List.mem_cons.mp (h.subset (List.mem_cons_self ..)) with e | e
      · exact e
      · rcases List.mem_cons.mp (h.symm.subset (List.mem_cons_self ..)) with e2 | e2
        · exact e2.symm
        · have c1 := b1 x e
          have c2 := a1 y e2
          simp only [ltP] at c1 c2
          omega
    subst e
    rw [rising_one (List.Perm.cons_inv h) a2 b2]
end K14
/-! Rules of my own, A: sorted of data, tuple(list) told by its object, dict(tuple of pairs). -/
namespace K14
open PySem L2

section
variable {X : Cx}

/-! ### sorted(xs), xs a list of data -/
def rSortG (K : PySem.W.Frag) {C : Type} (e : C → PyData) : List V → Hp → VK → Prop := fun vs H Q => ∃ (a : Addr) (bs : List (V × C)), vs = [V.ref a] ∧ SqL K H a (bs.map (·.1)) ∧ (∀ b ∈ bs, Dp K H b.1 (e b.2)) ∧
  PySem.W.AllAlike (bs.map fun b => e b.2) ∧ PySem.W.Sortable (bs.map fun b => e b.2) ∧ (∀ b ∈ bs, (e b.2).depth ≤ 8) ∧
  ∀ p, H p = none → Q (.ref p) (upd H p (.lst ((bs.mergeSort (PySem.W.dataLe false fun b => e b.2)).map (·.1))))
theorem each_vals {C : Type} : ∀ {bs : List (V × C)} {us : List Value}, Vals (bs.map (·.1)) us → PySem.W.EachIs (fun u b => RelV b.1 u) us bs
  | [], us, h => by
    rw [List.map_nil] at h
    cases h
    exact .nil
  | b :: bs, us, h => by
    rw [List.map_cons] at h
    cases h with
    | cons r t => exact .cons r (each_vals t)
theorem vals_each {C : Type} : ∀ {bs : List (V × C)} {us : List Value}, PySem.W.EachIs (fun u b => RelV b.1 u) us bs → Vals (bs.map (·.1)) us
  | [], us, h => by
    cases h
    exact .nil
  | b :: bs, us, h => by
    cases h with
    | cons r t => exact .cons r (vals_each t)
theorem each_reads {C : Type} {e : C → PyData} {pins : List (Addr × Obj)} {σ : L2.St} {H : Hp} {s : Shared} (I : Inv X pins σ H s) :
    ∀ {bs : List (V × C)} {us : List Value}, Vals (bs.map (·.1)) us → (∀ b ∈ bs, Dp X.K H b.1 (e b.2)) → PySem.W.EachIs (fun u b => ∃ as, Reads s.heap u (e b.2) as) us bs
  | [], us, h, _ => by
    rw [List.map_nil] at h
    cases h
    exact .nil
  | b :: bs, us, h, d => by
    rw [List.map_cons] at h
    cases h with
    | cons r t => exact .cons (Dp.reads I _ _ _ (d b (List.mem_cons_self ..)) r) (each_reads I t fun c hc => d c (List.mem_cons_of_mem _ hc))
theorem cr_sortG (hu : X.A.units + 64 < cLine) {C : Type} (e : C → PyData) : CallR X (.builtin "sorted") (rSortG X.K e) := by
  intro pins s σ H vs us Q I r h
  obtain ⟨a, bs, rfl, hs, hd, hal, hso, hde, q⟩ := h
  obtain ⟨its, rv, hl, hz⟩ := I.list hs
  rw [Vals.ref1 r]
  have hlen : bs.length = its.length := by
    have := rv.length
    rwa [List.length_map] at this
  refine PySem.W.sorted_data (R := fun u b => RelV b.1 u) (enc := fun b : V × C => e b.2) hl.isList (each_vals rv) (each_reads I rv hd) hal hso (by rw [List.length_map] at hz; exact hz) (fun b hb => ?_) fun out hol ho => ?_
  · have := hde b hb
    omega
  · obtain ⟨ep, he⟩ := PyProof.Rows.sortedAll_at s.heap its out.toArray
    have rz := vals_each ho
    refine ⟨.ref _, upd H (s.heap.objs.size + 1) (.lst ((bs.mergeSort (PySem.W.dataLe false fun b => e b.2)).map (·.1))), I.laid (t' := s.toks) (fun _ _ => PyProof.Rows.sortedAll_old) (Nat.le_succ _) ⟨?_, out, ep, rz, ?_⟩, rfl, q _ (I.hok.fresh (Nat.le_succ _))⟩
    · rw [List.length_map, List.length_mergeSort]
      rw [List.length_map] at hz
      exact hz
    · exact he

/-! ### tuple(xs) of a list, its object told -/
def rTupF (K : PySem.W.Frag) : List V → Hp → VK → Prop := fun xs H Q => ∃ p ys, xs = [V.ref p] ∧ SqL K H p ys ∧ ∀ l o, H l = none → o.dict = none → Q (.ref l) (upd H l (.frz o (.tup ys)))
theorem call_tupleF : CallR X (.type "tuple") (rTupF X.K) := by
  intro pins s σ H xs us Q I r h
  obtain ⟨p, ys, rfl, hq, q⟩ := h
  obtain ⟨u, rfl, rx⟩ := vals1 r
  cases rx
  obtain ⟨its, r', pl, hz⟩ := I.list hq
  have hlen := r'.length
  refine call_tuple_list pl.isList (fun h' kp => ?_) (by simp only [List.size_toArray] <;> omega)
  have I1 : Inv X pins σ H { s with heap := h' } := I.kept (t' := s.toks) kp
  have I2 : Inv X pins σ (upd H h'.objs.size (.frz { cls := .type "tuple", data := .seq its.toArray } (.tup ys))) { s with heap := h'.push { cls := .type "tuple", data := .seq its.toArray } } :=
    I1.laid (t' := s.toks) (fun b o e => Heap.get?_push_of_some _ e) (Nat.le_refl _) (show ObjOk X.prog X.w _ _ _ (.frz _ (.tup ys)) from ⟨Heap.get?_push_size _ rfl, hz, its, r', PyProof.Rows.IsTup.new _ _⟩)
  exact ⟨.ref h'.objs.size, _, I2, rfl, q _ _ (I1.hok.fresh (Nat.le_refl _)) rfl⟩

/-! ### dict(t) of such a tuple of pairs -/
def rDictT (K : PySem.W.Frag) : List V → Hp → VK → Prop := fun xs H Q => ∃ (a : Addr) (o : Obj) (ps : List Addr) (kvs : List (Key × V)), xs = [V.ref a] ∧ H a = some (.frz o (.tup (ps.map V.ref))) ∧ o.dict = none ∧
  Paired (fun p kv => SqT K H p [kV kv.1, kv.2]) ps kvs ∧ ∀ p, H p = none → Q (.ref p) (upd H p (.dK (mergeK [] kvs)))
theorem pairItems {s : Shared} : ∀ {ps : List Addr} {prs : List (Key × Value)}, prs.length = ps.length →
    (∀ (j : Nat) (q : Key × Value), prs[j]? = some q → ∃ (b : Addr) (u : Value), ps[j]? = some b ∧ PyProof.Rows.IsTup s.heap b #[u, q.2] ∧ keyIs q.1 u = true) →
    ∃ (kvs : List (Value × Value)), kvs.length = ps.length ∧ (∀ (j : Nat) (k v : Value), kvs[j]? = some (k, v) → ∃ q, prs[j]? = some q ∧ v = q.2 ∧ keyIs q.1 k = true) ∧
      (∀ (j : Nat) (k v : Value), kvs[j]? = some (k, v) → (ps.map Value.ref)[j]? = some (.ref (ps.getD j 0)) ∧ PairAt s.heap (ps.getD j 0) k v)
  | [], [], _, _ => ⟨[], rfl, fun j k v e => by simp at e, fun j k v e => by simp at e⟩
  | [], _ :: _, h, _ => by simp at h
  | _ :: _, [], h, _ => by simp at h
  | p :: ps, q :: prs, h, hp => by
    obtain ⟨kvs, h1, h2, h3⟩ := pairItems (s := s) (ps := ps) (prs := prs) (by simpa using h) fun j r e => by
      obtain ⟨b, u, a1, a2, a3⟩ := hp (j + 1) r (by simpa using e)
      exact ⟨b, u, by simpa using a1, a2, a3⟩
    obtain ⟨b, u, a1, a2, a3⟩ := hp 0 q rfl
    have eb : p = b := by simpa using a1
    subst eb
    refine ⟨(u, q.2) :: kvs, by simp [h1], fun j k v e => ?_, fun j k v e => ?_⟩
    · cases j with
      | zero =>
        have e' : (u, q.2) = (k, v) := Option.some.inj e
        cases e'
        exact ⟨q, rfl, rfl, a3⟩
      | succ j =>
        obtain ⟨r, b1, b2, b3⟩ := h2 j k v (by simpa using e)
        exact ⟨r, by simpa using b1, b2, b3⟩
    · cases j with
      | zero =>
        have e' : (u, q.2) = (k, v) := Option.some.inj e
        cases e'
        exact ⟨rfl, .inl a2⟩
      | succ j =>
        obtain ⟨b1, b2⟩ := h3 j k v (by simpa using e)
        refine ⟨by simpa using b1, by simpa using b2⟩
theorem call_dictT (hcalm : X.calm = true) : CallR X (.type "dict") (rDictT X.K) := by
  intro pins s σ H xs us Q I r q
  obtain ⟨a, o, ps, kvs, ex, hq, hod, hp, q⟩ := q
  subst ex
  obtain ⟨u, eu, rx⟩ := vals1 r
  subst eu
  cases rx
  obtain ⟨ho, hz, its, rv, ht⟩ := (show ObjOk X.prog X.w H s.heap a (.frz o (.tup (ps.map V.ref))) from I.hok a _ hq)
  have ei := refs_at rv
  subst ei
  rw [List.length_map] at hz
  obtain ⟨prs, rel, hl, hpr⟩ := pairs_of I hp
  obtain ⟨kvs', h1, h2, h3⟩ := pairItems hl hpr
  obtain ⟨o2, ho2, hc, n, hdat⟩ := ht
  rw [ho] at ho2
  cases ho2
  refine PySem.call_dict_pairs (knd := mixKind X.prog X.w) (kvs := prs) (PairArg.tuple a (ps.map Value.ref).toArray (fun j => ps.getD j 0) kvs') (I.ok.hd hcalm) ⟨⟨o, n, ho, hc, hod, hdat⟩, ?_⟩ ⟨?_, fun i k v e => ?_⟩ ?_ fun h' tk hd' k => ?_
  · refine ⟨by simp [h1], fun j k v e => ?_⟩
    obtain ⟨b1, b2⟩ := h3 j k v e
    exact ⟨by simpa using b1, b2⟩
  · rw [hl, h1]
  · obtain ⟨x, b1, b2, b3⟩ := h2 i k v e
    exact ⟨x.1, by rw [b1, b2], b3⟩
  · rw [h1]
    exact hz
  · have hm : (s.heap.objs.size == sysModules) = false := beq_eq_false_iff_ne.mpr (Nat.ne_of_gt I.big)
    have hlen : (mergeK [] kvs).length ≤ sizeLine := by
      refine Nat.le_trans (length_mergeK kvs []) ?_
      rw [List.length_nil, Nat.zero_add, rel.length, hl]
      exact hz
    exact ⟨.ref s.heap.objs.size, upd H s.heap.objs.size (.dK (mergeK [] kvs)), I.laid (t' := tk) (fun b o e => k b o (by simp) e) (Nat.le_refl _) (show ObjOk X.prog X.w _ _ _ (.dK (mergeK [] kvs)) from ⟨hlen, hm, merged [] prs, KV.merge rel .nil, hd'⟩), rfl, q _ (I.hok.fresh (Nat.le_refl _))⟩
end
end K14
/-! Rules of my own, B: enumerate of a tuple, of a text. -/
namespace K14
open PySem L2

/-- the tuple at a, each item in a new pair with its number -/
def IteT (K : PySem.W.Frag) (a : Addr) : It :=
  ⟨fun i H => ∃ (xs : List V) (x : V), SqT K H a xs ∧ xs[i]? = some x, fun i H v H' => ∃ T x, v = .ref T ∧ H T = none ∧ H' = upd H T (.tup [.int (i : Nat), x]) ∧ ∀ xs, SqT K H a xs → xs[i]? = some x, fun i H => ∃ xs : List V, SqT K H a xs ∧ xs.length = i⟩
/-- the signs of a text, each in a new pair with its number -/
def IteS (z : Str) : It :=
  ⟨fun i _ => i < z.cps.size, fun i H v H' => ∃ T c, v = .ref T ∧ H T = none ∧ H' = upd H T (.tup [.int (i : Nat), .str ⟨#[c]⟩]) ∧ z.cps[i]? = some c, fun i _ => i = z.cps.size⟩

/-- one turn of an enumerate over whatever draws -/
theorem turn_goes {X : Cx} {elts : List Expr} {kk : Nat} {tpos : Pos} {e it : Addr} {fp : List Addr} {n i : Nat} {P : Nat → Value → Prop} {St : Nat → Heap → Prop} (D : Draws X.prog X.w X.A.in1 it fp n P St) (hei : e ≠ it) (hef : e ∉ fp) (hif : it ∈ fp) (hi : i < n)
    {pins : List (Addr × Obj)} {s : Shared} {σ : L2.St} {H : Hp} {E : Value → Shared → Prop} (I : Inv X pins σ H s) (hf : ∀ b ∈ [e, it], FpOk X pins H b) (st : (∃ old, IsEnum s.heap e it (0 + (i : Int)) old) ∧ St i s.heap) {R : V → Hp → Heap → Prop}
    (val : ∀ u, P i u → ∃ x, RelV x u ∧ ∀ T h', s.heap.objs.size ≤ T → (∃ old, IsEnum h' e it (0 + ((i + 1 : Nat) : Int)) old) → St (i + 1) h' → R (.ref T) (upd H T (.tup [.int (i : Nat), x])) h') :
    wpAny (model X.prog X.w) X.A (pyNext (.ref e)) (fun r s1 => ∃ u, r = some u ∧
      wpAny (model X.prog X.w) X.A (letOwnedTupleGo (.Tuple elts kk tpos) (.ref e) u) (fun _ s2 => ∃ x H', Inv X pins σ H' s2 ∧ RelV x u ∧ R x H' s2.heap ∧ ∀ b ∈ [e, it], H' b = none) E s1) E s := by
  refine (GoesN.enumFrom (elts := elts) (x1 := kk) (pos := tpos) 0 D e hei hef hif).goes i s (fun v s2 => ∃ x H', Inv X pins σ H' s2 ∧ RelV x v ∧ R x H' s2.heap ∧ ∀ b ∈ [e, it], H' b = none) E hi st fun v h' tk hy st' hk htk => ?_
  obtain ⟨T, t, u, rfl, hT, hu, hTup⟩ := hy
  obtain ⟨x, rx, q⟩ := val u hu
  have new : ObjOk X.prog X.w (upd H T (.tup [.int (i : Nat), x])) h' T (.tup [.int (i : Nat), x]) := by
    refine ⟨by show 2 ≤ sizeLine; decide, [.int (0 + (i : Int)) t, u], .cons ⟨t, by rw [Int.zero_add]⟩ (.cons rx .nil), hTup⟩
  have I1 : Inv X pins σ (upd H T (.tup [.int (i : Nat), x])) { s with heap := h', toks := tk } := I.turnedNew (ch := [e, it]) hk hf hT new
  refine ⟨.ref T, _, I1, rfl, q T h' hT st'.1 st'.2, fun b hb => ?_⟩
  obtain ⟨f0, f1⟩ := hf b hb
  have hlt : b < s.heap.objs.size := by
    rcases List.mem_cons.mp hb with z | hb
    · rw [z]
      obtain ⟨old, he⟩ := st.1
      exact Heap.lt_size he
    · rw [List.mem_singleton.mp hb]
      obtain ⟨o, ho⟩ := D.live i s.heap st.2
      exact Heap.lt_size ho
  rw [upd_ne (Nat.ne_of_lt (Nat.lt_of_lt_of_le hlt hT))]
  exact f0
theorem turn_goes_end {X : Cx} {elts : List Expr} {kk : Nat} {tpos : Pos} {e it : Addr} {fp : List Addr} {n : Nat} {P : Nat → Value → Prop} {St : Nat → Heap → Prop} (D : Draws X.prog X.w X.A.in1 it fp n P St) (hei : e ≠ it) (hef : e ∉ fp) (hif : it ∈ fp)
    {pins : List (Addr × Obj)} {s : Shared} {σ : L2.St} {H : Hp} {E : Value → Shared → Prop} (I : Inv X pins σ H s) (hf : ∀ b ∈ [e, it], FpOk X pins H b) (st : (∃ old, IsEnum s.heap e it (0 + (n : Int)) old) ∧ St n s.heap) :
    wpAny (model X.prog X.w) X.A (pyNext (.ref e)) (fun r s1 => r = none ∧ Inv X pins σ H s1) E s := by
  refine (GoesN.enumFrom (elts := elts) (x1 := kk) (pos := tpos) 0 D e hei hef hif).stops s (fun s1 => Inv X pins σ H s1) E st fun h' tk hk htk => ?_
  refine I.step (g' := s.gens) (d' := s.drawn) (ch := [e, it]) (fun b hb => ⟨(hf b hb).2.2.2.1, (hf b hb).2.1, (hf b hb).2.2.2.2.1, (hf b hb).2.2.2.2.2⟩) (fun b o _ _ hc e _ => hk b o hc e) (fun b o _ _ hc e _ => ⟨o.slots, hk b o hc e⟩)
    (fun b o _ e n => n) (fun b o hc e => ⟨o, hk b o hc e⟩) (fun b xs e => e) (fun b o u e => e) (fun b ps e => ⟨#[], by rw [e]; simp⟩) (fun m hm => ?_) (fun b u e => ?_) I.bare
  · obtain ⟨o, es, ep, ho, r⟩ := hm
    refine ⟨o, es, ep, hk _ o (fun z => ?_) ho, r⟩
    exact (hf _ z).2.1 rfl
  · refine (I.hok b u e).stay (fun c v hc r => hk c v (fun z => ?_) r) (fun c r => r) fun c xs r => r
    rcases hc with rfl | hc
    · have q := (hf c z).1
      rw [q] at e
      cases e
    · have q := (hf c z).1
      rw [q] at hc
      cases hc

theorem turn_enumT {P : Program} {w : World} {K : PySem.W.Frag} {elts : List Expr} {kk : Nat} {tpos : Pos} (a e it : Addr) (hei : e ≠ it) (hea : e ≠ a) (hai : a ≠ it) :
    Turn P w K (.Tuple elts kk tpos) (IteT K a) [e, it] e (fun i h => (∃ old, IsEnum h e it (0 + (i : Int)) old) ∧ h.IsTupleIter it a i) where
  mem := by simp
  obj := fun i h st b hb => by
    obtain ⟨⟨old, he⟩, ⟨o, ho, hc, hd⟩⟩ := st
    have e' : b = e ∨ b = it := by simpa using hb
    rcases e' with z | z
    · rw [z]; exact ⟨_, he, fun v q => nomatch q⟩
    · rw [z]; exact ⟨o, ho, fun v q => by rw [hd] at q; cases q⟩
  keep := fun i h h' st k => let ⟨⟨old, he⟩, hi⟩ := st; ⟨⟨old, k e (by simp) _ he⟩, hi.at fun o q => k it (by simp) o q⟩
  item := by
    intro X hP hw hK hc i pins s σ H E I hf st hg
    subst hP hw hK
    obtain ⟨xs, x, hq, hx⟩ := hg
    obtain ⟨its, rv, p, hz⟩ := I.tuple hq
    have hi : i < its.toArray.size := by
      have h1 := (List.getElem?_eq_some_iff.mp hx).1
      have h2 := rv.length
      simp only [List.size_toArray]
      omega
    have D : Draws X.prog X.w X.A.in1 it [it, a] its.toArray.size (fun i v => its.toArray[i]? = some v) (fun i h => h.IsTupleIter it a i ∧ h.IsTuple a its.toArray) := Draws.tuple (show X.A.in1.handled = none from I.ok.hd hc) it a hai its.toArray
    refine wpAny_mono (turn_goes (elts := elts) (kk := kk) (tpos := tpos) (R := fun v H' h' => ((IteT X.K a).yld i H v H') ∧ (∃ old, IsEnum h' e it (0 + ((i + 1 : Nat) : Int)) old) ∧ h'.IsTupleIter it a (i + 1)) D hei (by simp; exact ⟨hei, hea⟩) (by simp) hi I hf ⟨st.1, st.2, p⟩ fun u hu => ?_) (fun r s1 h => ?_) fun _ _ z => z
    · obtain ⟨x', hx', rx⟩ : ∃ x', xs[i]? = some x' ∧ RelV x' u := by
        obtain ⟨u', hu', ru⟩ := rv.get hx
        have e1 : its[i]? = some u := by simpa using hu
        rw [e1] at hu'
        cases hu'
        exact ⟨x, hx, ru⟩
      refine ⟨x', rx, fun T h' hT he hst => ⟨⟨T, x', rfl, I.hok.fresh hT, rfl, fun ys hy => by rw [I.tuple_inj hy hq]; exact hx'⟩, he, hst.1⟩⟩
    · obtain ⟨u, e1, e2⟩ := h
      refine ⟨u, e1, wpAny_mono e2 (fun _ s2 h => ?_) fun _ _ z => z⟩
      obtain ⟨x, H', a1, a2, ⟨a3, a4⟩, a5⟩ := h
      exact ⟨x, H', a1, a2, a3, a4, a5⟩
  done := by
    intro X hP hw hK hc i pins s σ H E I hf st hg
    subst hP hw hK
    obtain ⟨xs, hq, hx⟩ := hg
    obtain ⟨its, rv, p, hz⟩ := I.tuple hq
    have en : i = its.toArray.size := by
      have h2 := rv.length
      simp only [List.size_toArray]
      omega
    subst en
    exact turn_goes_end (elts := elts) (kk := kk) (tpos := tpos) (Draws.tuple (show X.A.in1.handled = none from I.ok.hd hc) it a hai its.toArray) hei (by simp; exact ⟨hei, hea⟩) (by simp) I hf ⟨st.1, st.2, p⟩
  self := fun A i s Q E st h => let ⟨⟨_, he⟩, _⟩ := st; wpAny_pyIter_enum he h

theorem turn_enumS {P : Program} {w : World} {K : PySem.W.Frag} {elts : List Expr} {kk : Nat} {tpos : Pos} (z : Str) (t : Tok) (e it : Addr) (hei : e ≠ it) :
    Turn P w K (.Tuple elts kk tpos) (IteS z) [e, it] e (fun i h => (∃ old, IsEnum h e it (0 + (i : Int)) old) ∧ h.IsStrIter it (strIterType z) z t i) where
  mem := by simp
  obj := fun i h st b hb => by
    obtain ⟨⟨old, he⟩, ⟨o, ho, hc, hd⟩⟩ := st
    have e' : b = e ∨ b = it := by simpa using hb
    rcases e' with z | z
    · rw [z]; exact ⟨_, he, fun v q => nomatch q⟩
    · rw [z]; exact ⟨o, ho, fun v q => by rw [hd] at q; cases q⟩
  keep := fun i h h' st k => let ⟨⟨old, he⟩, hi⟩ := st; ⟨⟨old, k e (by simp) _ he⟩, let ⟨o, ho, r⟩ := hi; ⟨o, k it (by simp) _ ho, r⟩⟩
  item := by
    intro X hP hw hK hc i pins s σ H E I hf st hg
    subst hP hw hK
    have D := Draws.text (prog := X.prog) (w := X.w) (show X.A.in1.handled = none from I.ok.hd hc) it z t
    refine wpAny_mono (turn_goes (elts := elts) (kk := kk) (tpos := tpos) (R := fun v H' h' => ((IteS z).yld i H v H') ∧ (∃ old, IsEnum h' e it (0 + ((i + 1 : Nat) : Int)) old) ∧ h'.IsStrIter it (strIterType z) z t (i + 1)) D hei (by simp; exact hei) (by simp) hg I hf st fun u hu => ?_) (fun r s1 h => ?_) fun _ _ z => z
    · obtain ⟨c, k, h1, rfl⟩ := hu
      exact ⟨.str ⟨#[c]⟩, ⟨k, rfl⟩, fun T h' hT he hst => ⟨⟨T, c, rfl, I.hok.fresh hT, rfl, h1⟩, he, hst⟩⟩
    · obtain ⟨u, e1, e2⟩ := h
      refine ⟨u, e1, wpAny_mono e2 (fun _ s2 h => ?_) fun _ _ z => z⟩
      obtain ⟨x, H', a1, a2, ⟨a3, a4⟩, a5⟩ := h
      exact ⟨x, H', a1, a2, a3, a4, a5⟩
  done := by
    intro X hP hw hK hc i pins s σ H E I hf st hg
    subst hP hw hK
    have en : i = z.cps.size := hg
    subst en
    exact turn_goes_end (elts := elts) (kk := kk) (tpos := tpos) (Draws.text (prog := X.prog) (w := X.w) (show X.A.in1.handled = none from I.ok.hd hc) it z t) hei (by simp; exact hei) (by simp) I hf st
  self := fun A i s Q E st h => let ⟨⟨_, he⟩, _⟩ := st; wpAny_pyIter_enum he h

/-! ### how they begin -/
theorem meets_enum_newT {v : Value} {o : Obj} {Hh : Heap → Prop} (B : Begins v o Hh) :
    Meets (Builtin.«enumerate.__new__» ⟨[.type "enumerate", v], []⟩) (fun _ R s => Hh s.heap ∧
      R (.ok (.ret (.ref (s.heap.push o).objs.size))) { s with heap := (s.heap.push o).push { cls := .type "enumerate", data := .fields #[.none, .bool false, .ref s.heap.objs.size, rawInt 0, .none, .none] } }) :=
  .of_wp fun prog w A R s h => by
    obtain ⟨hp, g, d, tk, os⟩ := s
    obtain ⟨h1, h⟩ := h
    have hsub := sub_enumerate
    have q1 : ∀ {A' : Around} {E : Value → Shared → Prop} {Q : Value → Shared → Prop}, Q (.ref hp.objs.size) ⟨hp.push o, g, d, tk, os⟩ → wpAny (model prog w) A' (pyIter v) Q E ⟨hp, g, d, tk, os⟩ :=
      fun q => B.iter prog w _ _ ⟨hp, g, d, tk, os⟩ _ h1 q
    wp_walk using q1
    refine wpAny_stack_any fun st => wpAny_pure ?_
    split
    · rename_i c _ _ _ _ _
      cases (c == Value.type "enumerate")
      · wp_walk using q1
        exact ⟨_, rfl, h⟩
      · wp_walk using q1
        exact ⟨_, rfl, h⟩
    · wp_walk using q1
      exact ⟨_, rfl, h⟩
theorem call_enum1 {prog : Program} {w : World} {A : Around} {E : Value → Shared → Prop} {s : Shared} {v : Value} {o : Obj} {Hh : Heap → Prop} {Q : Value → Shared → Prop} (B : Begins v o Hh) (h1 : Hh s.heap)
    (h : ∀ h', IsEnum h' (s.heap.objs.size + 1) s.heap.objs.size 0 .none → h'.get? s.heap.objs.size = some o → h'.objs.size = s.heap.objs.size + 2 →
      (∀ b o, s.heap.get? b = some o → h'.get? b = some o) → Q (.ref (s.heap.objs.size + 1)) { s with heap := h' }) :
    wpAny (model prog w) A (call (.type "enumerate") [v]) Q E s := by
  refine callType_new PySem.F.called_enumerate (by decide) (PySem.F.typeCall_enumerate_1 _) (PySem.F.newCall_enumerate_1 _) (fun obj => PySem.F.args_object_init_2 obj _) PySem.F.entry_enumerate_new
    (meets_enum_newT B) ⟨h1, ?_⟩
  have hz : (s.heap.push o).objs.size = s.heap.objs.size + 1 := Heap.size_push ..
  show _ ∧ _
  rw [hz]
  have he : IsEnum ((s.heap.push o).push { cls := .type "enumerate", data := .fields #[.none, .bool false, .ref s.heap.objs.size, rawInt 0, .none, .none] }) (s.heap.objs.size + 1) s.heap.objs.size 0 .none := by
    have := Heap.get?_push_size (s.heap.push o) (o := { cls := .type "enumerate", data := .fields #[.none, .bool false, .ref s.heap.objs.size, rawInt 0, .none, .none] }) rfl
    rw [hz] at this
    exact this
  refine ⟨⟨_, he, rfl⟩, h _ he (Heap.get?_push_of_some _ (Heap.get?_push_size _ B.free)) (by rw [Heap.size_push, hz]) fun b o x => Heap.get?_push_of_some _ (Heap.get?_push_of_some _ x)⟩

section
variable {X : Cx}
def iEnumT (K : PySem.W.Frag) (ta : TA) : TI := fun σ H R => ta σ H fun vs H1 => ∃ a xs, vs = [.ref a] ∧ SqT K H1 a xs ∧ R (IteT K a) H1
def iEnumS (ta : TA) : TI := fun σ H R => ta σ H fun vs H1 => ∃ z, vs = [.str z] ∧ R (IteS z) H1
theorem pi_enumT {e : Expr} {ta : TA} {p pos tpos : Pos} {elts : List Expr} {kk : Nat} (hg : Gl X "enumerate") (hm : X.mg "enumerate" = none) (ha : PA X [e] ta) (hs : starEach [e] X.env = [(false, eval e X.env)] := by rfl) :
    PI X (.Tuple elts kk tpos) (.Call (.Name "enumerate" p) [e] [] pos) (iEnumT X.K ta) := by
  refine ⟨fun pins s σ H R I h => ?_⟩
  refine PyProof.Rows.Call_ (ld_blt I hg hm PyProof.Rows.boot_enumerate (PyProof.Rows.callWith_type1 (thn (ha.run pos pins s σ H _ I h) fun us s1 ⟨vs, H1, I1, r1, q1⟩ => ?_) hs rfl))
  obtain ⟨a, xs, ex, hq, q⟩ := q1
  subst ex
  cases r1 with
  | cons r rr =>
    cases rr
    cases r
    obtain ⟨its, rv, p', hz⟩ := I1.tuple hq
    refine call_enum1 (begins_tuple a its.toArray) p' fun h' he hit hsz hk => wpAny_pyIter_enum he ?_
    have I2 : Inv X pins σ H1 { s1 with heap := h' } := I1.kept (t' := s1.toks) hk
    have hal : a < s1.heap.objs.size := by
      obtain ⟨o, ho, _⟩ := p'
      exact Heap.lt_size ho
    refine ⟨s1.heap.objs.size + 1, [s1.heap.objs.size + 1, s1.heap.objs.size], _, _, H1, rfl, I2, turn_enumT a (s1.heap.objs.size + 1) s1.heap.objs.size (Nat.succ_ne_self _) (Nat.ne_of_gt (Nat.lt_succ_of_lt hal)) (Nat.ne_of_lt hal), ⟨⟨.none, he⟩, ⟨_, hit, rfl, rfl⟩⟩, fun b hb => ?_, q⟩
    have e' : b = s1.heap.objs.size + 1 ∨ b = s1.heap.objs.size := by simpa using hb
    have hle : s1.heap.objs.size ≤ b := by
      rcases e' with z | z
      · rw [z]; exact Nat.le_add_right _ _
      · rw [z]; exact Nat.le_refl _
    exact I1.fpOk hle (I1.hok.fresh hle)
theorem pi_enumS {e : Expr} {ta : TA} {p pos tpos : Pos} {elts : List Expr} {kk : Nat} (hg : Gl X "enumerate") (hm : X.mg "enumerate" = none) (ha : PA X [e] ta) (hs : starEach [e] X.env = [(false, eval e X.env)] := by rfl) :
    PI X (.Tuple elts kk tpos) (.Call (.Name "enumerate" p) [e] [] pos) (iEnumS ta) := by
  refine ⟨fun pins s σ H R I h => ?_⟩
  refine PyProof.Rows.Call_ (ld_blt I hg hm PyProof.Rows.boot_enumerate (PyProof.Rows.callWith_type1 (thn (ha.run pos pins s σ H _ I h) fun us s1 ⟨vs, H1, I1, r1, q1⟩ => ?_) hs rfl))
  obtain ⟨z, ex, q⟩ := q1
  subst ex
  cases r1 with
  | cons r rr =>
    cases rr
    obtain ⟨t, rfl⟩ := r
    refine call_enum1 (begins_text z t) trivial fun h' he hit hsz hk => wpAny_pyIter_enum he ?_
    have I2 : Inv X pins σ H1 { s1 with heap := h' } := I1.kept (t' := s1.toks) hk
    refine ⟨s1.heap.objs.size + 1, [s1.heap.objs.size + 1, s1.heap.objs.size], _, _, H1, rfl, I2, turn_enumS z t (s1.heap.objs.size + 1) s1.heap.objs.size (Nat.succ_ne_self _), ⟨⟨.none, he⟩, ⟨_, hit, rfl, rfl⟩⟩, fun b hb => ?_, q⟩
    have e' : b = s1.heap.objs.size + 1 ∨ b = s1.heap.objs.size := by simpa using hb
    have hle : s1.heap.objs.size ≤ b := by
      rcases e' with z | z
      · rw [z]; exact Nat.le_add_right _ _
      · rw [z]; exact Nat.le_refl _
    exact I1.fpOk hle (I1.hok.fresh hle)
end
end K14
/-! Rules of my own, C: dict(list(zip(t, u))) of two tuples. -/
namespace K14
open PySem L2

section
variable {prog : Program} {w : World} {A : Around} {E : Value → Shared → Prop} {s : Shared} {z TI TO i1 i2 : Addr} {fp1 fp2 : List Addr} {n1 n2 i : Nat} {P1 P2 : Nat → Value → Prop} {St1 St2 : Nat → Heap → Prop}

/-- next of a zip whose first tuple is still held: a tuple of its own each time -/
theorem zh_item {T : Addr} {f : Bool} {oT : Obj} {Q : Option Value → Shared → Prop} (S : ZipSep2 z TI TO i1 i2 fp1 fp2) (D1 : Draws prog w A.in1 i1 fp1 n1 P1 St1) (D2 : Draws prog w A.in1 i2 fp2 n2 P2 St2)
    (hz : IsZipHeld s.heap z TI TO T f) (hT : s.heap.get? T = some oT) (hTI : IsTupOf2 s.heap TI (.ref i1) (.ref i2)) (st1 : St1 i s.heap) (st2 : St2 i s.heap) (hlt1 : i < n1) (hlt2 : i < n2)
    (hQ : ∀ x1 x2 h' tk, P1 i x1 → P2 i x2 → IsZipHeld h' z TI TO T true → St1 (i + 1) h' → St2 (i + 1) h' → IsTupOf2 h' s.heap.objs.size x1 x2 →
      (∀ c o, c ∉ [z, i1, i2] → s.heap.get? c = some o → h'.get? c = some o) → Q (some (.ref s.heap.objs.size)) { s with heap := h', toks := tk }) :
    wpAny (model prog w) A (pyNext (.ref z)) Q E s := by
  have hTy : s.TypeIs (.ref z) "zip" := ⟨_, hz, rfl⟩
  unfold pyNext
  refine wpAny_bind (wpAny_attempt (wpAny_callSpecial?_slot (name := Str.ofString "__next__") hTy PySem.F.slot_zip_next
    (wpAny_call_entry PySem.F.slot_zip_next hTy PySem.F.entry_zip_next ?_ (PySem.F.args_zip_next_1 _))))
  show wpAny _ _ (field (.ref z) 2 >>= _) _ _ _
  refine wpAny_bind (wpAny_field hz rfl (x := .bool false) rfl ?_)
  show wpAny _ _ (field (.ref z) 3 >>= _) _ _ _
  refine wpAny_bind (wpAny_field hz rfl (x := .ref TI) rfl ?_)
  refine wpAny_bind (wpAny_seqItems hTI rfl ?_)
  show wpAny _ _ (Builtin.SmallTypes.ownedTupleIsFree (.ref z) >>= _) _ _ _
  refine wpAny_bind (wpAny_tupleHeld_zip hz hT fun g0 hz0 hs0 => ?_)
  simp only [Bool.false_eq_true, if_false]
  refine wpAny_bind ?_
  rw [← Array.forIn_toList]
  simp only [List.forIn_cons, List.forIn_nil]
  refine wpAny_bind (wpAny_bind (wpAny_holding ?_))
  show wpAny _ _ (Builtin.SmallTypes.nextOf (.ref i1) >>= _) _ _ _
  refine wpAny_bind (D1.item i { s with heap := g0 } _ _ hlt1 (D1.over st1 hs0 S.zf1) fun x1 p1 tk1 hx1 sn1 hp1 => wpAny_pure ?_)
  refine wpAny_pure ?_
  refine wpAny_bind (wpAny_bind (wpAny_holding ?_))
  show wpAny _ _ (Builtin.SmallTypes.nextOf (.ref i2) >>= _) _ _ _
  refine wpAny_bind (D2.item i { s with heap := p1, toks := tk1 } _ _ hlt2 (D2.over (D2.over st2 hs0 S.zf2) hp1 S.sep1_2) fun x2 p2 tk2 hx2 sn2 hp2 => wpAny_pure ?_)
  refine wpAny_pure (wpAny_pure ?_)
  show wpAny _ _ (newTuple [x1, x2] >>= _) _ _ _
  refine wpAny_bind (wpAny_newTuple ?_)
  replace hp1 : Heap.SameBut i1 g0 p1 := hp1
  replace hp2 : Heap.SameBut i2 p1 p2 := hp2
  have hsz : p2.objs.size = s.heap.objs.size := by rw [hp2.1, hp1.1, hs0.1]
  have hz3 : IsZipHeld p2 z TI TO T true := hp2.extBut _ _ S.zi2 (hp1.extBut _ _ S.zi1 hz0)
  have hj1 : St1 (i + 1) p2 := D1.over sn1 hp2 S.sep2_1
  have hk : ∀ c o, c ∉ [z, i1, i2] → s.heap.get? c = some o → p2.get? c = some o := fun c o hc e => by
    simp only [List.mem_cons, List.not_mem_nil, or_false, not_or] at hc
    exact hp2.extBut _ _ hc.2.2 (hp1.extBut _ _ hc.2.1 (hs0.extBut _ _ hc.1 e))
  have up : ∀ c o, p2.get? c = some o → (p2.push { cls := .type "tuple", data := .seq #[x1, x2] }).get? c = some o := fun c o e => Heap.get?_push_of_some _ e
  have hp : IsTupOf2 (p2.push { cls := .type "tuple", data := .seq #[x1, x2] }) p2.objs.size x1 x2 := Heap.get?_push_size _ rfl
  rw [hsz] at hp
  refine wpAny_pure ⟨_, rfl, ?_⟩
  refine wpAny_pure ?_
  show Q (some (.ref p2.objs.size)) _
  rw [hsz]
  exact hQ x1 x2 _ tk2 hx1 hx2 (up _ _ hz3) (D1.frame _ _ _ hj1 fun b _ o e => up b o e) (D2.frame _ _ _ sn2 fun b _ o e => up b o e) hp fun c o hc e => up c o (hk c o hc e)
theorem zh_end {T : Addr} {f : Bool} {oT : Obj} {Q : Option Value → Shared → Prop} (S : ZipSep2 z TI TO i1 i2 fp1 fp2) (D1 : Draws prog w A.in1 i1 fp1 n1 P1 St1)
    (hz : IsZipHeld s.heap z TI TO T f) (hT : s.heap.get? T = some oT) (hTI : IsTupOf2 s.heap TI (.ref i1) (.ref i2)) (st1 : St1 n1 s.heap)
    (hQ : ∀ h' tk, (∀ c o, c ∉ [z, i1, i2] → s.heap.get? c = some o → h'.get? c = some o) → Q none { s with heap := h', toks := tk }) :
    wpAny (model prog w) A (pyNext (.ref z)) Q E s := by
  have hTy : s.TypeIs (.ref z) "zip" := ⟨_, hz, rfl⟩
  unfold pyNext
  refine wpAny_bind (wpAny_attempt (wpAny_callSpecial?_slot (name := Str.ofString "__next__") hTy PySem.F.slot_zip_next
    (wpAny_call_entry PySem.F.slot_zip_next hTy PySem.F.entry_zip_next ?_ (PySem.F.args_zip_next_1 _))))
  show wpAny _ _ (field (.ref z) 2 >>= _) _ _ _
  refine wpAny_bind (wpAny_field hz rfl (x := .bool false) rfl ?_)
  show wpAny _ _ (field (.ref z) 3 >>= _) _ _ _
  refine wpAny_bind (wpAny_field hz rfl (x := .ref TI) rfl ?_)
  refine wpAny_bind (wpAny_seqItems hTI rfl ?_)
  show wpAny _ _ (Builtin.SmallTypes.ownedTupleIsFree (.ref z) >>= _) _ _ _
  refine wpAny_bind (wpAny_tupleHeld_zip hz hT fun g0 hz0 hs0 => ?_)
  simp only [Bool.false_eq_true, if_false]
  refine wpAny_bind ?_
  rw [← Array.forIn_toList]
  simp only [List.forIn_cons, List.forIn_nil]
  refine wpAny_bind (wpAny_bind (wpAny_holding ?_))
  show wpAny _ _ (Builtin.SmallTypes.nextOf (.ref i1) >>= _) _ _ _
  refine wpAny_bind (D1.done { s with heap := g0 } _ _ (D1.over st1 hs0 S.zf1) fun h2 e hs2 he => ?_)
  obtain ⟨o, ho, hc⟩ := he
  refine wpAny_bind (wpAny_isInstance (T := "StopIteration") (b := true) ⟨o, ho, hc⟩ isSubtype_stop ?_)
  refine wpAny_pure (hQ h2 s.toks fun c o hc e => ?_)
  simp only [List.mem_cons, List.not_mem_nil, or_false, not_or] at hc
  exact hs2 _ _ hc.2.1 (hs0.extBut _ _ hc.1 e)

/-- what has come out so far -/
def Outs (P1 P2 : Nat → Value → Prop) (z i1 i2 S : Addr) (i : Nat) (h : Heap) (acc : Array Value) : Prop :=
  acc.size = i ∧ ∀ j, j < i → ∃ T x y, acc[j]? = some (.ref T) ∧ P1 j x ∧ P2 j y ∧ IsTupOf2 h T x y ∧ T ∉ [z, i1, i2, S]
theorem Outs.keep {S : Addr} {h h' : Heap} {acc : Array Value} (o : Outs P1 P2 z i1 i2 S i h acc) (hk : ∀ c ob, c ∉ [z, i1, i2, S] → h.get? c = some ob → h'.get? c = some ob) : Outs P1 P2 z i1 i2 S i h' acc :=
  ⟨o.1, fun j hj => let ⟨T, x, y, a, b, c, d, e⟩ := o.2 j hj; ⟨T, x, y, a, b, c, hk _ _ e d, e⟩⟩
theorem Outs.push {S T : Addr} {x y : Value} {h : Heap} {acc : Array Value} (o : Outs P1 P2 z i1 i2 S i h acc) (h1 : P1 i x) (h2 : P2 i y) (hT : IsTupOf2 h T x y) (hn : T ∉ [z, i1, i2, S]) : Outs P1 P2 z i1 i2 S (i + 1) h (acc.push (.ref T)) := by
  refine ⟨by rw [Array.size_push, o.1], fun j hj => ?_⟩
  by_cases e : j = i
  · subst e
    refine ⟨T, x, y, ?_, h1, h2, hT, hn⟩
    rw [← o.1]
    simp
  · obtain ⟨T', x', y', a, b, c, d, f⟩ := o.2 j (by omega)
    refine ⟨T', x', y', ?_, b, c, d, f⟩
    rw [Array.getElem?_push, if_neg (by rw [o.1]; exact e)]
    exact a

theorem zl_loop {R : Result → Shared → Prop} {n : Nat} (Z : ZipSep2 z TI TO i1 i2 fp1 fp2) (D1 : Draws prog w A.in1.in1 i1 fp1 n P1 St1) (D2 : Draws prog w A.in1.in1 i2 fp2 n P2 St2) (hn : n ≤ 1000) (S : Addr) (hSz : S ≠ z) (hSI : S ≠ TI) (hS1 : S ∉ fp1) (hS2 : S ∉ fp2) (res : Value) (T : Addr) (hTn : T ∉ [z, i1, i2, S]) :
    ∀ (k i : Nat) (s : Shared) (acc : Array Value) (c : Nat) (f : Bool) (oT : Obj), n - i = k → i ≤ n → IsZipHeld s.heap z TI TO T f → s.heap.get? T = some oT → IsTupOf2 s.heap TI (.ref i1) (.ref i2) → St1 i s.heap → St2 i s.heap →
      s.heap.get? S = some { cls := .type "list", dict := none, data := .seq acc c, slots := #[] } → Outs P1 P2 z i1 i2 S i s.heap acc →
      (∀ h' tk acc' c', (∀ b o, b ∉ [z, i1, i2, S] → s.heap.get? b = some o → h'.get? b = some o) → h'.get? S = some { cls := .type "list", dict := none, data := .seq acc' c', slots := #[] } → Outs P1 P2 z i1 i2 S n h' acc' → R (.ok (.ret res)) { s with heap := h', toks := tk }) →
      codeAny (model prog w) A (.builtin "list.extend.loop" ⟨[.ref S, .ref z, res], []⟩) R s := by
  have hSi1 : S ≠ i1 := fun e => hS1 (by rw [e]; exact Z.mem1)
  have hSi2 : S ≠ i2 := fun e => hS2 (by rw [e]; exact Z.mem2)
  have hTIz : TI ∉ [z, i1, i2] := by
    simp only [List.mem_cons, List.not_mem_nil, or_false, not_or]
    exact ⟨Z.TIz, Z.TIi1, Z.TIi2⟩
  have hSo : S ∉ [z, i1, i2] := by
    simp only [List.mem_cons, List.not_mem_nil, or_false, not_or]
    exact ⟨hSz, hSi1, hSi2⟩
  have sub3 : ∀ {c : Addr}, c ∉ [z, i1, i2, S] → c ∉ [z, i1, i2] ∧ S ≠ c := fun {c} h => by
    simp only [List.mem_cons, List.not_mem_nil, or_false, not_or] at h ⊢
    exact ⟨⟨h.1, h.2.1, h.2.2.1⟩, fun e => h.2.2.2 e.symm⟩
  intro k
  induction k with
  | zero =>
    intro i s acc c f oT hk hi hz hT hTI st1 st2 hS ho hR
    have hin : i = n := by omega
    subst hin
    refine codeAny_builtin PySem.F.entry_extend_loop ?_
    rw [Around.under_plainId PySem.F.plain_extend_loop _]
    show wpAny _ A.in1 (pyNext (.ref z) >>= _) _ _ s
    refine wpAny_bind (zh_end Z D1 hz hT hTI st1 fun h' tk hk => ?_)
    refine wpAny_pure (hR h' tk acc c (fun b o hb e => hk b o (sub3 hb).1 e) (hk _ _ hSo hS) (ho.keep fun b o hb e => hk b o (sub3 hb).1 e))
  | succ k ih =>
    intro i s acc c f oT hk hi hz hT hTI st1 st2 hS ho hR
    have hlt : i < n := by omega
    refine codeAny_builtin PySem.F.entry_extend_loop ?_
    rw [Around.under_plainId PySem.F.plain_extend_loop _]
    show wpAny _ A.in1 (pyNext (.ref z) >>= _) _ _ s
    refine wpAny_bind (zh_item Z D1 D2 hz hT hTI st1 st2 hlt hlt fun x1 x2 h' tk p1 p2 hz' st1' st2' hN hk' => ?_)
    have hS' := hk' S _ hSo hS
    show wpAny _ A.in1 (updateSeq S (·.push (.ref s.heap.objs.size)) >>= _) _ _ _
    refine wpAny_bind ?_
    have acz : acc.size ≤ 1000 := by rw [ho.1]; omega
    have lz : (1000 : Nat) < sizeLine := by decide
    have oth : ∀ b o, b ≠ S → h'.get? b = some o → (h'.update S (Obj.mapSeq (·.push (Value.ref s.heap.objs.size)))).get? b = some o := fun b o hb e => (Heap.get?_update_other _ _ (Ne.symm hb)).trans e
    have hNn : s.heap.objs.size ∉ [z, i1, i2, S] := by
      have lt := fun {b : Addr} {o : Obj} (e : s.heap.get? b = some o) => Nat.ne_of_gt (Heap.lt_size e)
      obtain ⟨o1, e1⟩ := D1.live i s.heap st1
      obtain ⟨o2, e2⟩ := D2.live i s.heap st2
      simp only [List.mem_cons, List.not_mem_nil, or_false, not_or]
      exact ⟨lt hz, lt e1, lt e2, lt hS⟩
    have hNS : s.heap.objs.size ≠ S := (sub3 hNn).2.symm
    have hTN := sub3 hTn
    refine wpAny_updateSeq hS' rfl (wpAny_pure ⟨plainId_quiet PySem.F.plain_extend_loop _, ih (i + 1) _ (acc.push (.ref s.heap.objs.size)) _ true oT (by omega) hlt (oth _ _ hSz.symm hz') (oth _ _ hTN.2.symm (hk' _ _ hTN.1 hT)) (oth _ _ hSI.symm (hk' _ _ hTIz hTI))
      (D1.frame _ _ _ st1' fun b hb o e => oth b o (fun q => hS1 (q ▸ hb)) e) (D2.frame _ _ _ st2' fun b hb o e => oth b o (fun q => hS2 (q ▸ hb)) e) (Heap.get?_update_self _ hS' rfl) ?_ fun h2 tk2 acc2 c2 hk2 hS2' ho2 => ?_⟩) (by omega) (by show (acc.push _).size ≤ sizeLine + 1; rw [Array.size_push]; omega)
    · exact Outs.push (ho.keep fun b o hb e => oth b o (sub3 hb).2.symm (hk' b o (sub3 hb).1 e)) p1 p2 (oth _ _ hNS hN) hNn
    · exact hR h2 tk2 acc2 c2 (fun b o hb e => hk2 b o hb (oth b o (sub3 hb).2.symm (hk' b o (sub3 hb).1 e))) hS2' ho2

theorem nolen_zip : typeLookup (.type "zip") "__len__" = pure none := by rw [typeLookup_type, builtinLookup_eq_fast]; kernel_rfl
theorem nohint_zip : typeLookup (.type "zip") "__length_hint__" = pure none := by rw [typeLookup_type, builtinLookup_eq_fast]; kernel_rfl

/-- list(z), z a zip that has given out nothing yet, over two that draw as many, at least one -/
theorem call_list_zip {n : Nat} {Q : Value → Shared → Prop} (Z : ZipSep2 z TI TO i1 i2 fp1 fp2) (D1 : Draws prog w A.in1.in1.in1 i1 fp1 n P1 St1) (D2 : Draws prog w A.in1.in1.in1 i2 fp2 n P2 St2) (hn : n ≤ 1000) (h1n : 0 < n)
    (hz : IsZip s.heap z TI TO .none) (hTI : IsTupOf2 s.heap TI (.ref i1) (.ref i2)) (hTO : IsTupOf2 s.heap TO .none .none) (st1 : St1 0 s.heap) (st2 : St2 0 s.heap) (hf1 : ∀ b ∈ fp1, b < s.heap.objs.size) (hf2 : ∀ b ∈ fp2, b < s.heap.objs.size)
    (hQ : ∀ h' tk acc c, (∀ b o, b ∉ [z, TO, i1, i2] → s.heap.get? b = some o → h'.get? b = some o) → h'.get? s.heap.objs.size = some { cls := .type "list", dict := none, data := .seq acc c, slots := #[] } →
      acc.size = n → (∀ j, j < n → ∃ T x y, acc[j]? = some (.ref T) ∧ P1 j x ∧ P2 j y ∧ IsTupOf2 h' T x y) → Q (.ref s.heap.objs.size) { s with heap := h', toks := tk }) :
    wpAny (model prog w) A (call (.type "list") [.ref z]) Q E s := by
  generalize eS : s.heap.objs.size = S
  rw [eS] at hQ
  have hSz : S ≠ z := by rw [← eS]; exact Nat.ne_of_gt (Heap.lt_size hz)
  have hSI : S ≠ TI := by rw [← eS]; exact Nat.ne_of_gt (Heap.lt_size hTI)
  have hSO : S ≠ TO := by rw [← eS]; exact Nat.ne_of_gt (Heap.lt_size hTO)
  have hS1 : S ∉ fp1 := fun h => by have := hf1 S h; rw [eS] at this; exact Nat.lt_irrefl _ this
  have hS2 : S ∉ fp2 := fun h => by have := hf2 S h; rw [eS] at this; exact Nat.lt_irrefl _ this
  have hSi1 : S ≠ i1 := fun e => hS1 (by rw [e]; exact Z.mem1)
  have hSi2 : S ≠ i2 := fun e => hS2 (by rw [e]; exact Z.mem2)
  refine callType_codes (Q₁ := fun obj s₁ => obj = .ref S ∧ s₁ = { s with heap := s.heap.push { cls := .type "list", data := .seq #[] } }) PySem.F.called_list (PySem.F.typeCall_list_1 _) PySem.F.entry_list_init
    (code_list_new _ ⟨by rw [eS], rfl⟩) fun obj s₁ h₁ => ?_
  obtain ⟨rfl, rfl⟩ := h₁
  have hS : (s.heap.push { cls := .type "list", data := .seq #[] }).get? S = some { cls := .type "list", data := .seq #[] } := by rw [← eS]; exact Heap.get?_push_size _ rfl
  refine ⟨⟨_, hS, rfl⟩, PySem.F.args_list_init_2 _ _, ?_⟩
  show wpAny _ _ (do let old ← Builtin.List.listItems (.ref S); Builtin.List.listUpdate (.ref S) (fun _ => #[]); letGo old.toList.reverse; Builtin.List.listExtendWith (.ref S) (.ref z) .none) _ _ _
  refine wpAny_bind ?_
  unfold Builtin.List.listItems
  refine wpAny_bind (wpAny_seqItems hS rfl (wpAny_pure ?_))
  show wpAny _ _ (updateSeq S (fun _ => #[]) >>= fun _ => letGo (#[] : Array Value).toList.reverse >>= fun _ => Builtin.List.listExtendWith (.ref S) (.ref z) .none) _ _ _
  refine wpAny_bind (wpAny_updateSeq hS rfl ?_)
  have hS2' := Heap.get?_update_self (Obj.mapSeq (fun _ => (#[] : Array Value))) hS rfl
  generalize e1 : (s.heap.push { cls := .type "list", data := .seq #[] }).update S (Obj.mapSeq (fun _ => (#[] : Array Value))) = g1
  rw [e1] at hS2'
  have k1 : ∀ b o, s.heap.get? b = some o → g1.get? b = some o := fun b o e => by
    have hb : b ≠ S := by rw [← eS]; exact Nat.ne_of_lt (Heap.lt_size e)
    rw [← e1]
    exact (Heap.get?_update_other _ _ (Ne.symm hb)).trans (Heap.get?_push_of_some _ e)
  refine wpAny_bind (wpAny_letGo ?_)
  unfold Builtin.List.listExtendWith
  have hTz : ∀ tk, Shared.TypeIs { s with heap := g1, toks := tk } (.ref z) "zip" := fun tk => ⟨_, k1 _ _ hz, rfl⟩
  refine wpAny_bind (wpAny_typeOf (T := "zip") (hTz _) ?_)
  have hsame : Builtin.List.listSameRef (.ref S) (.ref z) = false := by simp [Builtin.List.listSameRef, hSz]
  have hl2 : (Value.type "zip" == Value.type "list") = false := by decide
  have hl3 : (Value.type "zip" == Value.type "tuple") = false := by decide
  simp only [hsame, hl2, hl3, Bool.or_false, Bool.false_eq_true, if_false]
  refine wpAny_bind (wpAny_pyIter_zip (k1 _ _ hz) ?_)
  refine wpAny_bind (wpAny_holding ?_)
  unfold Builtin.List.listLengthHint
  refine wpAny_bind (wpAny_specialOf (hTz _) nolen_zip ?_)
  show wpAny _ _ (specialOf (Value.ref z) (Str.ofString "__length_hint__") >>= _) _ _ _
  refine wpAny_bind (wpAny_specialOf (hTz _) nohint_zip ?_)
  refine wpAny_pure ?_
  show wpAny _ _ (rule "list.extend.makes-room" >>= fun _ => Builtin.List.listTouch (.ref S) >>= fun _ =>
    again (.builtin "list.extend.loop" ⟨[.ref S, .ref z, .none], []⟩)) _ _ _
  refine wpAny_bind (wpAny_rule ?_)
  refine wpAny_bind ?_
  show wpAny _ _ (updateSeq S (·.push .none) >>= fun _ => updateSeq S (·.pop)) _ _ _
  refine wpAny_bind (wpAny_updateSeq hS2' rfl ?_)
  have hS3 := Heap.get?_update_self (Obj.mapSeq (·.push Value.none)) hS2' rfl
  refine wpAny_updateSeq hS3 rfl ?_
  have hS4 := Heap.get?_update_self (Obj.mapSeq (·.pop)) hS3 rfl
  generalize e2 : ((g1.update S (Obj.mapSeq (·.push Value.none))).update S (Obj.mapSeq (·.pop))) = g2
  rw [e2] at hS4
  have k2 : ∀ b o, s.heap.get? b = some o → g2.get? b = some o := fun b o e => by
    have hb : b ≠ S := by rw [← eS]; exact Nat.ne_of_lt (Heap.lt_size e)
    rw [← e2]
    exact (Heap.get?_update_other _ _ (Ne.symm hb)).trans ((Heap.get?_update_other _ _ (Ne.symm hb)).trans (k1 _ _ e))
  have lz : (1000 : Nat) < sizeLine := by decide
  -- the first turn: the zip's own tuple is free
  refine wpAny_pure ⟨plainId_quiet PySem.F.plain_extend_loop _, codeAny_builtin PySem.F.entry_extend_loop ?_⟩
  rw [Around.under_plainId PySem.F.plain_extend_loop _]
  show wpAny _ _ (pyNext (.ref z) >>= _) _ _ _
  have f1 : St1 0 g2 := D1.frame _ _ _ st1 fun b _ o e => k2 b o e
  have f2 : St2 0 g2 := D2.frame _ _ _ st2 fun b _ o e => k2 b o e
  refine wpAny_bind (wpAny_pyNext_zipD2_item Z D1 D2 (k2 _ _ hz) (k2 _ _ hTI) (k2 _ _ hTO) f1 f2 h1n h1n fun x1 x2 h' tk p1 p2 hz' hTO' st1' st2' hN hsz hk' => ?_)
  replace hN : IsTupOf2 h' g2.objs.size x1 x2 := hN
  replace hk' : ∀ c o, c ≠ z → c ≠ TO → c ≠ i1 → c ≠ i2 → g2.get? c = some o → h'.get? c = some o := hk'
  have hzh : IsZipHeld h' z TI TO g2.objs.size false := hz'
  have hS5 := hk' S _ hSz hSO hSi1 hSi2 hS4
  show wpAny _ _ (updateSeq S (·.push (.ref g2.objs.size)) >>= _) _ _ _
  refine wpAny_bind (wpAny_updateSeq hS5 rfl ?_)
  have oth : ∀ b o, b ≠ S → h'.get? b = some o → (h'.update S (Obj.mapSeq (·.push (Value.ref g2.objs.size)))).get? b = some o := fun b o hb e => (Heap.get?_update_other _ _ (Ne.symm hb)).trans e
  have lt := fun {b : Addr} {o : Obj} (e : g2.get? b = some o) => Nat.ne_of_gt (Heap.lt_size e)
  obtain ⟨o1, q1⟩ := D1.live 0 _ f1
  obtain ⟨o2, q2⟩ := D2.live 0 _ f2
  have hNS : g2.objs.size ≠ S := lt hS4
  have hNn : g2.objs.size ∉ [z, i1, i2, S] := by
    simp only [List.mem_cons, List.not_mem_nil, or_false, not_or]
    exact ⟨lt (k2 _ _ hz), lt q1, lt q2, hNS⟩
  refine wpAny_pure ⟨plainId_quiet PySem.F.plain_extend_loop _, zl_loop Z D1 D2 hn S hSz hSI hS1 hS2 .none g2.objs.size hNn (n - 1) 1 _ _ _ false _ rfl h1n (oth _ _ hSz.symm hzh) (oth _ _ hNS hN) (oth _ _ hSI.symm (hk' _ _ Z.TIz Z.TITO Z.TIi1 Z.TIi2 (k2 _ _ hTI)))
    (D1.frame _ _ _ st1' fun b hb o e => oth b o (fun q => hS1 (q ▸ hb)) e) (D2.frame _ _ _ st2' fun b hb o e => oth b o (fun q => hS2 (q ▸ hb)) e) (Heap.get?_update_self _ hS5 rfl) ?_ fun h2 tk2 acc2 c2 hk2 hS2'' ho2 => ?_⟩
  · refine Outs.push (acc := #[]) ⟨rfl, fun j hj => absurd hj (Nat.not_lt_zero j)⟩ p1 p2 (oth _ _ hNS hN) hNn
  · refine ⟨rfl, ?_⟩
    have ho3 := ho2.2
    have hS6 := hS2''
    refine hQ h2 tk2 acc2 c2 (fun b o hb e => ?_) hS6 ho2.1 fun j hj => let ⟨T, x, y, a1, a2, a3, a4, _⟩ := ho3 j hj; ⟨T, x, y, a1, a2, a3, a4⟩
    simp only [List.mem_cons, List.not_mem_nil, or_false, not_or] at hb
    have hbS : b ≠ S := by rw [← eS]; exact Nat.ne_of_lt (Heap.lt_size e)
    refine hk2 b o ?_ (oth b o hbS (hk' b o hb.1 hb.2.1 hb.2.2.1 hb.2.2.2 (k2 b o e)))
    simp only [List.mem_cons, List.not_mem_nil, or_false, not_or]
    exact ⟨hb.1, hb.2.2.1, hb.2.2.2, hbS⟩
end

section
variable {X : Cx}
/-- dict(list(zip(t, u))): t a tuple of texts, u one as long -/
def tDLZ (K : PySem.W.Frag) (ta : TA) : TE := fun σ H Q => ta σ H fun vs H1 => ∃ (a b : Addr) (ks : List Str) (xs : List V), vs = [.ref a, .ref b] ∧ SqT K H1 a (ks.map V.str) ∧ SqT K H1 b xs ∧ ks.length = xs.length ∧ 0 < xs.length ∧ xs.length ≤ 1000 ∧
  ∀ p, H1 p = none → Q (.ref p) (upd H1 p (.dK (mergeK [] ((ks.map fun k => (Sum.inr k : Key)).zip xs))))
theorem kv_zip : ∀ {ks : List Str} {xs : List V} {us : List Value}, Vals xs us → KV ((ks.map fun k => (Sum.inr k : Key)).zip xs) ((ks.map fun k => (Sum.inr k : Key)).zip us)
  | [], _, _, _ => .nil
  | _ :: _, [], _, r => by
    cases r
    exact .nil
  | k :: ks, x :: xs, _, r => by
    cases r with
    | cons r t => exact .cons ⟨rfl, r⟩ (kv_zip t)
theorem pe_dlz {e1 e2 : Expr} {ta : TA} {p1 p2 p3 q1 q2 q3 : Pos} (hc : X.calm = true) (hgd : Gl X "dict") (hmd : X.mg "dict" = none) (hgl : Gl X "list") (hml : X.mg "list" = none) (hgz : Gl X "zip") (hmz : X.mg "zip" = none)
    (ha : PA X [e1, e2] ta) (hs1 : starEach [.Call (.Name "list" p2) [.Call (.Name "zip" p3) [e1, e2] [] q3] [] q2] X.env = (false, eval (.Call (.Name "list" p2) [.Call (.Name "zip" p3) [e1, e2] [] q3] [] q2) X.env) :: starEach [] X.env := by rfl)
    (hs2 : starEach [.Call (.Name "zip" p3) [e1, e2] [] q3] X.env = (false, eval (.Call (.Name "zip" p3) [e1, e2] [] q3) X.env) :: starEach [] X.env := by rfl)
    (hs3 : starEach [e1, e2] X.env = (false, eval e1 X.env) :: starEach [e2] X.env := by rfl) (hpl : (backTo q3 (starEach [e2] X.env)).any (·.1) = false := by rfl) :
    PE X (.Call (.Name "dict" p1) [.Call (.Name "list" p2) [.Call (.Name "zip" p3) [e1, e2] [] q3] [] q2] [] q1) (tDLZ X.K ta) := by
  refine ⟨fun pins s σ H Q I h => ?_⟩
  refine PyProof.Rows.Call_ (ld_blt I hgd hmd PyProof.Rows.boot_dict ?_)
  refine PyProof.Rows.callWith_type1 (PyProof.Rows.args_cons ?_ hs1) hs1 rfl
  refine PyProof.Rows.Call_ (ld_blt I hgl hml PyProof.Rows.boot_list ?_)
  refine PyProof.Rows.callWith_type1 (PyProof.Rows.args_cons ?_ hs2) hs2 rfl
  refine PyProof.Rows.Call_ (ld_blt I hgz hmz PyProof.Rows.boot_zip ?_)
  refine PyProof.Rows.callWith_type1 (thn (ha.run q3 pins s σ H _ I h) fun us s1 ⟨vs, H1, I1, r1, q1⟩ => ?_) hs3 hpl
  obtain ⟨a, b, ks, xs, rfl, hA, hB, hlen, h0, h1000, q⟩ := q1
  obtain ⟨u, u', rfl, ra, rb⟩ := vals2 r1
  cases ra
  cases rb
  obtain ⟨itA, rvA, pA, _⟩ := I1.tuple hA
  obtain ⟨itB, rvB, pB, _⟩ := I1.tuple hB
  have lA : itA.length = ks.length := by rw [← rvA.length, List.length_map]
  have lB : itB.length = xs.length := rvB.length.symm
  have la : a < s1.heap.objs.size := by
    obtain ⟨o, ho, _⟩ := pA
    exact Heap.lt_size ho
  have lb : b < s1.heap.objs.size := by
    obtain ⟨o, ho, _⟩ := pB
    exact Heap.lt_size ho
  have sA : itA.toArray.size = xs.length := by rw [List.size_toArray, lA, hlen]
  have sB : itB.toArray.size = xs.length := by rw [List.size_toArray, lB]
  refine zip_begins2 (begins_tuple a itA.toArray) (begins_tuple b itB.toArray) pA pB fun h' hz hTI hTO g1 g2 hsz hk => ?_
  refine PyProof.Rows.args_nil ?_
  have hh : X.A.in1.in1.in1.handled = none := I1.ok.hd hc
  have D1 : Draws X.prog X.w X.A.in1.in1.in1 s1.heap.objs.size [s1.heap.objs.size, a] xs.length (fun i v => itA.toArray[i]? = some v) (fun i h => h.IsTupleIter s1.heap.objs.size a i ∧ h.IsTuple a itA.toArray) := by
    rw [← sA]
    exact Draws.tuple hh _ a (Nat.ne_of_lt la) itA.toArray
  have D2 : Draws X.prog X.w X.A.in1.in1.in1 (s1.heap.objs.size + 1) [s1.heap.objs.size + 1, b] xs.length (fun i v => itB.toArray[i]? = some v) (fun i h => h.IsTupleIter (s1.heap.objs.size + 1) b i ∧ h.IsTuple b itB.toArray) := by
    rw [← sB]
    exact Draws.tuple hh _ b (Nat.ne_of_lt (Nat.lt_succ_of_lt lb)) itB.toArray
  have Z : ZipSep2 (s1.heap.objs.size + 4) (s1.heap.objs.size + 2) (s1.heap.objs.size + 3) s1.heap.objs.size (s1.heap.objs.size + 1) [s1.heap.objs.size, a] [s1.heap.objs.size + 1, b] :=
    zip_sep2 (fp1 := [a]) (fp2 := [b]) (fun c hc => by rw [List.mem_singleton.mp hc]; exact la) (fun c hc => by rw [List.mem_singleton.mp hc]; exact lb)
  have bd : ∀ {N j : Nat}, j < 5 → N + j < N + 5 := fun h => Nat.add_lt_add_left h _
  refine call_list_zip (s := { s1 with heap := h' }) Z D1 D2 h1000 h0 hz hTI hTO ⟨⟨_, g1, rfl, rfl⟩, pA.keeps hk⟩ ⟨⟨_, g2, rfl, rfl⟩, pB.keeps hk⟩ (fun c hc => ?_) (fun c hc => ?_) fun h2 tk acc c hk2 hL hacc hout => ?_
  · show c < h'.objs.size
    rw [hsz]
    simp only [List.mem_cons, List.not_mem_nil, or_false] at hc
    rcases hc with z | z
    · rw [z]; exact bd (j := 0) (by decide)
    · rw [z]; exact Nat.lt_of_lt_of_le la (Nat.le_add_right _ _)
  · show c < h'.objs.size
    rw [hsz]
    simp only [List.mem_cons, List.not_mem_nil, or_false] at hc
    rcases hc with z | z
    · rw [z]; exact bd (j := 1) (by decide)
    · rw [z]; exact Nat.lt_of_lt_of_le lb (Nat.le_add_right _ _)
  refine PyProof.Rows.args_nil ?_
  have keep : ∀ b o, s1.heap.get? b = some o → h2.get? b = some o := fun b o e => by
    refine hk2 b o ?_ (hk b o e)
    have hb : b < s1.heap.objs.size := Heap.lt_size e
    have ne : ∀ {N b j : Nat}, b < N → b ≠ N + j := fun h e => by omega
    simp only [List.mem_cons, List.not_mem_nil, or_false, not_or]
    exact ⟨ne hb, ne hb, ne (j := 0) hb, ne hb⟩
  have I2 : Inv X pins σ H1 { s1 with heap := h2, toks := tk } := I1.kept (t' := tk) keep
  generalize hL' : h'.objs.size = L at hL ⊢
  have lKV : ((ks.map fun k => (Sum.inr k : Key)).zip itB).length = xs.length := by
    rw [List.length_zip, List.length_map, lB, hlen, Nat.min_self]
  refine L2.call_dict_pairs (s := { s1 with heap := h2, toks := tk }) (prs := (ks.map fun k => (Sum.inr k : Key)).zip itB) (I2.ok.hd hc) hL rfl rfl rfl (by rw [hacc, lKV]) ?_ (fun j q' e => ?_) fun h3 tk3 hd3 k3 => ?_
  · rw [lKV]
    exact Nat.le_trans h1000 (by decide)
  · have hj : j < xs.length := by
      rw [← lKV]
      exact (List.getElem?_eq_some_iff.mp e).1
    obtain ⟨T, x, y, b1, b2, b3, b4⟩ := hout j hj
    rw [List.getElem?_zip_eq_some] at e
    obtain ⟨e1, e2⟩ := e
    have b3' : itB[j]? = some y := by simpa using b3
    have b2' : itA[j]? = some x := by simpa using b2
    rw [b3'] at e2
    cases e2
    rw [List.getElem?_map] at e1
    cases e3 : ks[j]? with
    | none =>
      rw [e3] at e1
      cases e1
    | some k =>
      rw [e3] at e1
      have e4 : (Sum.inr k : Key) = q'.1 := Option.some.inj e1
      obtain ⟨u, hu, ru⟩ := rvA.get (i := j) (x := .str k) (by rw [List.getElem?_map, e3]; rfl)
      rw [b2'] at hu
      cases hu
      obtain ⟨t, rfl⟩ := ru
      exact ⟨T, _, b1, ⟨_, b4, rfl, _, rfl⟩, by rw [← e4]; exact keyIs_str k t⟩
  · have hm : (h2.objs.size == sysModules) = false := beq_eq_false_iff_ne.mpr (Nat.ne_of_gt I2.big)
    have rel : KV ((ks.map fun k => (Sum.inr k : Key)).zip xs) ((ks.map fun k => (Sum.inr k : Key)).zip itB) := kv_zip rvB
    have hlen3 : (mergeK [] ((ks.map fun k => (Sum.inr k : Key)).zip xs)).length ≤ sizeLine := by
      refine Nat.le_trans (length_mergeK _ []) ?_
      rw [List.length_nil, Nat.zero_add, rel.length, lKV]
      exact Nat.le_trans h1000 (by decide)
    exact ⟨.ref h2.objs.size, upd H1 h2.objs.size (.dK (mergeK [] ((ks.map fun k => (Sum.inr k : Key)).zip xs))), I2.laid (t' := tk3) k3 (Nat.le_refl _) (show ObjOk X.prog X.w _ _ _ (.dK (mergeK [] _)) from ⟨hlen3, hm, merged [] _, KV.merge rel .nil, hd3⟩), rfl, q _ (I2.hok.fresh (Nat.le_refl _))⟩
end
end K14
/-! Rules of my own, D: sum(list of lists, []). -/
namespace K14
open PySem L2

theorem args_sum2 (a b : Value) : argsOk "sum" ⟨[a, b], []⟩ := by unfold argsOk; kernel_rfl
theorem sub_list_bytearray : isSubtype (.type "list") (.type "bytearray") = pure false := by rw [isSubtype_type]; kernel_rfl

section
variable {prog : Program} {w : World} {A : Around} {E : Value → Shared → Prop} {s : Shared} {l it S : Addr}

/-- the items of the list are lists, told by their addresses and what they hold -/
def Lists (h : Heap) : List Addr → List (List Value) → Prop
  | [], [] => True
  | b :: bs, x :: xs => (∃ m, IsL h b x.toArray m) ∧ Lists h bs xs
  | _, _ => False
theorem Lists.keep {h h' : Heap} : ∀ {bs : List Addr} {xs : List (List Value)}, Lists h bs xs → (∀ b ∈ bs, ∀ o, h.get? b = some o → h'.get? b = some o) → Lists h' bs xs
  | [], [], _, _ => trivial
  | b :: bs, x :: xs, ⟨⟨m, hm⟩, t⟩, k => ⟨⟨m, k b (List.mem_cons_self ..) _ hm⟩, t.keep fun c hc => k c (List.mem_cons_of_mem _ hc)⟩
  | [], _ :: _, h, _ => h.elim
  | _ :: _, [], h, _ => h.elim

theorem sumL_loop {R : Result → Shared → Prop} (hh : A.handled = none) (hSi : S ≠ it) (hSl : S ≠ l) (hli : l ≠ it) {items : Array Value} (N : Nat) (hSN : N ≤ S) (hiN : N ≤ it) (lim : Nat) (hlim : lim ≤ 1000000) :
    ∀ (bs : List Addr) (xs : List (List Value)) (i : Nat) (s : Shared) (t : Addr) (acc : List Value) (n c : Nat), items.toList.drop i = bs.map Value.ref → i + bs.length = items.size → (∀ b ∈ bs, b ≠ S ∧ b ≠ it) → Lists s.heap bs xs →
      s.heap.IsListIter it l i → s.heap.IsList l items → s.heap.get? S = some { cls := .type "list", dict := none, data := .seq #[.ref t] c, slots := #[] } → IsL s.heap t acc.toArray n → t ≠ S → t ≠ it → N ≤ s.heap.objs.size → acc.length + xs.flatten.length ≤ lim →
      (∀ h' tk t' n', (∀ b o, b ≠ S → b ≠ it → s.heap.get? b = some o → h'.get? b = some o) → IsL h' t' (acc ++ xs.flatten).toArray n' → (bs = [] ∧ t' = t ∨ N ≤ t') → R (.ok (.ret (.ref t'))) { s with heap := h', toks := tk }) →
      codeAny (model prog w) A (.builtin "sum.loop" ⟨[.ref it, .ref S, rawInt 2, rawInt 0], []⟩) R s := by
  intro bs
  induction bs with
  | nil =>
    intro xs i s t acc n c hd hi hb hL hit hl hS hT hts hti hN hlm hR
    have hin : i = items.size := by simpa using hi
    have hx : xs = [] := by
      cases xs with
      | nil => rfl
      | cons _ _ => exact hL.elim
    subst hx
    refine codeAny_builtin PySem.F.entry_sum_loop ?_
    rw [Around.under_plainId PySem.F.plain_sum_loop _]
    show wpAny _ A.in1 (seqItems? (.ref S) >>= _) _ _ s
    refine wpAny_bind (wpAny_seqItems hS rfl ?_)
    show wpAny _ A.in1 (tryCatch (pyNext (.ref it)) _ >>= _) _ _ s
    refine wpAny_bind (wpAny_tryCatch (wpAny_pyNext_list_end (show A.in1.handled = none from hh) hit hl (Array.getElem?_eq_none (by omega)) fun h' hk => ?_))
    exact wpAny_pure (hR h' s.toks t n (fun b o _ hb e => hk b o hb e) (by rw [List.flatten_nil, List.append_nil]; exact hk _ _ hti hT) (.inl ⟨rfl, rfl⟩))
  | cons b bs ih =>
    intro xs i s t acc n c hd hi hb hL hit hl hS hT hts hti hN hlm hR
    cases xs with
    | nil => exact hL.elim
    | cons x xs =>
      obtain ⟨⟨m, hB⟩, hLs⟩ := hL
      have hlt : i < items.size := by
        rw [List.length_cons] at hi
        omega
      have hib : items[i]? = some (.ref b) := by
        have h1 : (items.toList.drop i)[0]? = some (.ref b) := by rw [hd]; rfl
        rw [List.getElem?_drop] at h1
        simpa using h1
      have hb1 := hb b (List.mem_cons_self ..)
      rw [List.flatten_cons, List.length_append] at hlm
      have lz : (1000000 : Nat) ≤ sizeLine := by decide
      refine codeAny_builtin PySem.F.entry_sum_loop ?_
      rw [Around.under_plainId PySem.F.plain_sum_loop _]
      show wpAny _ A.in1 (seqItems? (.ref S) >>= _) _ _ s
      refine wpAny_bind (wpAny_seqItems hS rfl ?_)
      show wpAny _ A.in1 (tryCatch (pyNext (.ref it)) _ >>= _) _ _ s
      refine wpAny_bind (wpAny_tryCatch (wpAny_pyNext_list_item hit hl hib fun h1 hit1 hs1 => ?_))
      have hS1 := hs1.extBut _ _ hSi hS
      have hT1 : IsL h1 t acc.toArray n := hs1.extBut _ _ hti hT
      have hB1 : IsL h1 b x.toArray m := hs1.extBut _ _ hb1.2 hB
      show wpAny _ A.in1 ((holding [Value.ref b] (binaryOp .Add (.ref t) (.ref b))).attempt >>= _) _ _ _
      refine wpAny_bind (wpAny_attempt (wpAny_holding (PySem.P.add_list (s := { s with heap := h1 }) hT1 hB1 ?_ (by simp only [List.size_toArray]; omega))))
      have e12 : acc.toArray ++ x.toArray = (acc ++ x).toArray := by simp
      rw [e12]
      show wpAny _ A.in1 (updateSeq S (fun _ => #[.ref h1.objs.size]) >>= _) _ _ _
      generalize eT : h1.objs.size = T'
      have lt1 : ∀ {b : Addr} {o : Obj}, h1.get? b = some o → b ≠ T' := fun e => by rw [← eT]; exact Nat.ne_of_lt (Heap.lt_size e)
      have hS2 := Heap.get?_push_of_some { cls := .type "list", data := .seq (acc ++ x).toArray } hS1
      refine wpAny_bind (wpAny_updateSeq hS2 rfl ?_)
      have hS3 := Heap.get?_update_self (Obj.mapSeq fun _ => #[Value.ref T']) hS2 rfl
      refine wpAny_bind (wpAny_letGo ?_)
      refine wpAny_bind (wpAny_updateSeq hS3 rfl (wpAny_pure ⟨plainId_quiet PySem.F.plain_sum_loop _, ?_⟩))
      have hS4 := Heap.get?_update_self (Obj.mapSeq fun _ => #[Value.ref T']) hS3 rfl
      generalize e4 : (((h1.push { cls := .type "list", data := .seq (acc ++ x).toArray }).update S (Obj.mapSeq fun _ => #[Value.ref T'])).update S (Obj.mapSeq fun _ => #[Value.ref T'])) = h4
      rw [e4] at hS4
      have oth : ∀ b o, b ≠ S → h1.get? b = some o → h4.get? b = some o := fun b o hb e => by
        rw [← e4]
        exact (Heap.get?_update_other _ _ (Ne.symm hb)).trans ((Heap.get?_update_other _ _ (Ne.symm hb)).trans (Heap.get?_push_of_some _ e))
      have hTS : T' ≠ S := (lt1 hS1).symm
      have hT4 : IsL h4 T' (acc ++ x).toArray 0 := by
        rw [← e4]
        refine (Heap.get?_update_other _ _ (Ne.symm hTS)).trans ((Heap.get?_update_other _ _ (Ne.symm hTS)).trans ?_)
        rw [← eT]
        exact Heap.get?_push_size _ rfl
      have hNT : N ≤ T' := by
        rw [← eT, hs1.1]
        exact hN
      have hTi : T' ≠ it := by
        obtain ⟨o, ho, _⟩ := hit1
        exact (lt1 ho).symm
      have hN4 : N ≤ h4.objs.size := Nat.le_trans hNT (Nat.le_of_lt (Heap.lt_size hT4))
      refine ih xs (i + 1) _ T' (acc ++ x) 0 _ ?_ (by rw [List.length_cons] at hi; omega) (fun c hc => hb c (List.mem_cons_of_mem _ hc)) ?_ ?_ ?_ hS4 hT4 hTS hTi hN4 (by rw [List.length_append]; omega) fun h' tk t' n' hk hI ht => ?_
      · have h2 : items.toList.drop (i + 1) = (items.toList.drop i).drop 1 := by rw [List.drop_drop]
        rw [h2, hd]
        rfl
      · exact hLs.keep fun c hc o e => oth c o (hb c (List.mem_cons_of_mem _ hc)).1 (hs1.extBut _ _ (hb c (List.mem_cons_of_mem _ hc)).2 e)
      · exact hit1.at fun o e => oth it o hSi.symm e
      · exact hl.at fun o e => oth l o hSl.symm (hs1.extBut _ _ hli e)
      · refine hR h' tk t' n' (fun b o hbS hbi e => hk b o hbS hbi (oth b o hbS (hs1.extBut _ _ hbi e))) ?_ ?_
        · rw [List.flatten_cons, ← List.append_assoc]
          exact hI
        · rcases ht with ⟨_, rfl⟩ | ht
          · exact .inr hNT
          · exact .inr ht

theorem call_sumL {items : Array Value} {b0 : Addr} {n0 : Nat} {bs : List Addr} {xs : List (List Value)} {Q : Value → Shared → Prop} (hh : A.handled = none) (hl : s.heap.IsList l items) (hi : items.toList = bs.map Value.ref) (hL : Lists s.heap bs xs) (h0 : IsL s.heap b0 #[] n0) (hlen : xs.flatten.length ≤ 1000000)
    (hQ : ∀ h' tk t' n', (∀ b o, s.heap.get? b = some o → h'.get? b = some o) → IsL h' t' xs.flatten.toArray n' → (bs = [] ∧ t' = b0 ∨ s.heap.objs.size ≤ t') → Q (.ref t') { s with heap := h', toks := tk }) :
    wpAny (model prog w) A (call (.builtin "sum") [.ref l, .ref b0]) Q E s := by
  refine call_function_tree PySem.F.kind_sum PySem.F.plain_sum PySem.F.entry_sum (args_sum2 _ _) ?_
  unfold Builtin.«sum»
  simp only [List.length_cons, List.length_nil]
  rw [if_neg (by decide)]
  refine wpAny_bind (wpAny_of_eq (show Builtin.Builtins.bindParams "sum" ["start"] 0 ⟨[Value.ref b0], []⟩ = pure [some (Value.ref b0)] from rfl) ?_)
  refine wpAny_bind (wpAny_pyIter_list hl ?_)
  generalize eN : s.heap.objs.size = N
  have ltN : ∀ {b : Addr} {o : Obj}, s.heap.get? b = some o → b < N := fun e => by rw [← eN]; exact Heap.lt_size e
  have hit0 : (s.heap.push { cls := .type "list_iterator", data := .fields #[.ref l, .int 0 0] }).IsListIter N l 0 := ⟨_, by rw [← eN]; exact Heap.get?_push_size _ rfl, rfl, rfl⟩
  have hz1 : (s.heap.push { cls := .type "list_iterator", data := .fields #[.ref l, .int 0 0] }).objs.size = N + 1 := by rw [Heap.size_push, eN]
  have k1 : ∀ b o, s.heap.get? b = some o → (s.heap.push { cls := .type "list_iterator", data := .fields #[.ref l, .int 0 0] }).get? b = some o := fun b o e => Heap.get?_push_of_some _ e
  generalize e1 : s.heap.push { cls := .type "list_iterator", data := .fields #[.ref l, .int 0 0] } = h1 at hit0 hz1 k1 ⊢
  refine wpAny_bind (wpAny_pure ?_)
  simp only [List.forIn_cons, List.forIn_nil]
  have hTy : ∀ tk, Shared.TypeIs { s with heap := h1, toks := tk } (.ref b0) "list" := fun tk => ⟨_, k1 _ _ h0, rfl⟩
  refine wpAny_bind (wpAny_bind (wpAny_bind (wpAny_isInstance (T := "list") (b := false) (hTy _) PySem.F.sub_list_str ?_)))
  simp only [Bool.false_eq_true, if_false]
  refine wpAny_pure (wpAny_bind (wpAny_bind (wpAny_isInstance (T := "list") (b := false) (hTy _) PySem.F.sub_list_bytes ?_)))
  simp only [Bool.false_eq_true, if_false]
  refine wpAny_pure (wpAny_bind (wpAny_bind (wpAny_isInstance (T := "list") (b := false) (hTy _) sub_list_bytearray ?_)))
  simp only [Bool.false_eq_true, if_false]
  refine wpAny_pure (wpAny_pure ?_)
  refine wpAny_bind (wpAny_newObj_type ?_)
  have hS2 : (h1.push { cls := .type "list", data := .seq ([Value.ref b0] : List Value).toArray }).get? h1.objs.size = some { cls := .type "list", data := .seq ([Value.ref b0] : List Value).toArray } := Heap.get?_push_size _ rfl
  have k2 : ∀ b o, h1.get? b = some o → (h1.push { cls := .type "list", data := .seq ([Value.ref b0] : List Value).toArray }).get? b = some o := fun b o e => Heap.get?_push_of_some _ e
  have z2 : N ≤ (h1.push { cls := .type "list", data := .seq ([Value.ref b0] : List Value).toArray }).objs.size := by rw [Heap.size_push, hz1]; omega
  have gt : ∀ {b : Addr}, b < N → b ≠ h1.objs.size ∧ b ≠ N := fun {b} h => by
    rw [hz1]
    exact ⟨Nat.ne_of_lt (Nat.lt_succ_of_lt h), Nat.ne_of_lt h⟩
  have hbl : ∀ b ∈ bs, b < N := by
    clear hi hQ hlen
    induction bs generalizing xs with
    | nil => intro b hb; cases hb
    | cons c bs ih =>
      cases xs with
      | nil => exact hL.elim
      | cons x xs =>
        obtain ⟨⟨m, hm⟩, t⟩ := hL
        intro b hb
        rcases List.mem_cons.mp hb with rfl | hb
        · exact ltN hm
        · exact ih t b hb
  have hlN : l < N := by
    obtain ⟨o, ho, _⟩ := hl
    exact ltN ho
  refine wpAny_pure ⟨plainId_quiet PySem.F.plain_sum_loop _, sumL_loop (l := l) (it := N) (S := h1.objs.size) (items := items) hh (by rw [hz1]; exact Nat.succ_ne_self N) (gt hlN).1.symm (gt hlN).2 N (by rw [hz1]; exact Nat.le_succ N) (Nat.le_refl N) 1000000 (Nat.le_refl _) bs xs 0 _ b0 [] n0 0 (by simpa using hi) ?_
    (fun b hb => gt (hbl b hb)) (hL.keep fun b _ o e => k2 b o (k1 b o e)) (hit0.at fun o e => k2 _ o e) (hl.at fun o e => k2 _ o (k1 _ o e)) hS2 (k2 _ _ (k1 _ _ h0)) (gt (ltN h0)).1 (gt (ltN h0)).2 z2 (by simpa using hlen) fun h' tk t' n' hk hI ht => ?_⟩
  · have h2 := congrArg List.length hi
    rw [List.length_map, Array.length_toList] at h2
    omega
  · rw [List.nil_append] at hI
    exact hQ h' tk t' n' (fun b o e => hk b o (gt (ltN e)).1 (gt (ltN e)).2 (k2 b o (k1 b o e))) hI (ht.imp id fun h => by rw [eN]; exact h)
end

section
variable {X : Cx}
/-- sum(l, b): l a list of lists, b an empty one -/
def rSumL (K : PySem.W.Frag) : List V → Hp → VK → Prop := fun vs H Q => ∃ (a b : Addr) (bs : List Addr) (xss : List (List V)), vs = [.ref a, .ref b] ∧ SqL K H a (bs.map V.ref) ∧ Paired (fun p xs => H p = some (.lst xs)) bs xss ∧ H b = some (.lst []) ∧ xss.flatten.length ≤ 1000000 ∧
  ∀ t H', (∀ c o, H c = some o → H' c = some o) → H' t = some (.lst xss.flatten) → Q (.ref t) H'
theorem lists_of {pins : List (Addr × Obj)} {σ : L2.St} {H : Hp} {s : Shared} (I : Inv X pins σ H s) : ∀ {bs : List Addr} {xss : List (List V)}, Paired (fun p xs => H p = some (.lst xs)) bs xss →
    ∃ uss : List (List Value), Lists s.heap bs uss ∧ Vals xss.flatten uss.flatten
  | _, _, .nil => ⟨[], trivial, .nil⟩
  | _, _, .cons h t => by
    obtain ⟨uss, h1, h2⟩ := lists_of I t
    obtain ⟨z, its, n, r, hl, e⟩ := I.lstM h
    refine ⟨its :: uss, ⟨⟨n, e⟩, h1⟩, ?_⟩
    rw [List.flatten_cons, List.flatten_cons]
    exact r.append h2
theorem cr_sumL (hc : X.calm = true) : CallR X (.builtin "sum") (rSumL X.K) := by
  intro pins s σ H vs us Q I r h
  obtain ⟨a, b, bs, xss, rfl, hq, hp, hb, hlen, q⟩ := h
  obtain ⟨u, u', rfl, ra, rb⟩ := vals2 r
  cases ra
  cases rb
  obtain ⟨its, rv, pl, hz⟩ := I.list hq
  have ei := refs_at rv
  obtain ⟨z0, its0, n0, r0, hl0, e0⟩ := I.lstM hb
  have e00 : its0 = [] := by
    cases r0
    rfl
  subst e00
  obtain ⟨uss, hL, hv⟩ := lists_of I hp
  have hlv : uss.flatten.length = xss.flatten.length := hv.length.symm
  have lz : (1000000 : Nat) ≤ sizeLine := by decide
  refine call_sumL (bs := bs) (xs := uss) (I.ok.hd hc) pl.isList (by simpa using ei) hL e0 (by omega) fun h' tk t' n' hk hI ht => ?_
  rcases ht with ⟨e, rfl⟩ | ht
  · subst e
    cases hp
    exact ⟨.ref t', H, I.kept (t' := tk) hk, rfl, q t' H (fun _ _ h => h) hb⟩
  · have I1 : Inv X pins σ (upd H t' (.lst xss.flatten)) { s with heap := h', toks := tk } := I.laid (t' := tk) hk ht ⟨by omega, _, _, hv, hI⟩
    refine ⟨.ref t', _, I1, rfl, q t' _ (fun c o e => ?_) upd_same⟩
    rw [upd_ne (ne_of_none e (I.hok.fresh ht))]
    exact e
end
end K14
/-! The text by places, data in the heap, the promises. -/
namespace K14
open PySem L2

def top (i : Nat) : Stmt := PySem.Challenge.pw_pairfolds_k14_whole_brackets_and_loops.main.body.getD i (.Pass ⟨0, 0, 0, 0⟩)

/-! ### tuples stay -/
def TK (H H' : Hp) : Prop := (∀ a xs, H a = some (.tup xs) → H' a = some (.tup xs)) ∧ ∀ a o xs, H a = some (.frz o (.tup xs)) → H' a = some (.frz o (.tup xs))
theorem TK.refl (H : Hp) : TK H H := ⟨fun _ _ h => h, fun _ _ _ h => h⟩
theorem TK.trans {H H1 H2 : Hp} (a : TK H H1) (b : TK H1 H2) : TK H H2 := ⟨fun c xs h => b.1 c xs (a.1 c xs h), fun c o xs h => b.2 c o xs (a.2 c o xs h)⟩
theorem TK.same {H H' : Hp} (h : Same H H') : TK H H' := ⟨fun a xs e => h a _ e, fun a o xs e => h a _ e⟩
theorem TK.mut {H : Hp} {p : Addr} {u : HO} (o : HO) (h : H p = some u) (n1 : ∀ xs, u ≠ .tup xs) (n2 : ∀ ob xs, u ≠ .frz ob (.tup xs)) : TK H (upd H p o) := by
  refine ⟨fun a xs e => ?_, fun a ob xs e => ?_⟩
  · rw [upd_ne (fun z => by subst z; rw [h] at e; exact n1 xs (Option.some.inj e))]
    exact e
  · rw [upd_ne (fun z => by subst z; rw [h] at e; exact n2 ob xs (Option.some.inj e))]
    exact e
theorem TK.lst {H : Hp} {p : Addr} {xs : List V} (o : HO) (h : H p = some (.lst xs)) : TK H (upd H p o) := TK.mut o h (fun _ => by intro z; cases z) (fun _ _ => by intro z; cases z)
theorem TK.dK {H : Hp} {p : Addr} {xs : List (Key × V)} (o : HO) (h : H p = some (.dK xs)) : TK H (upd H p o) := TK.mut o h (fun _ => by intro z; cases z) (fun _ _ => by intro z; cases z)
theorem TK.dT {H : Hp} {p : Addr} {xs : List (List Key × V)} (o : HO) (h : H p = some (.dT xs)) : TK H (upd H p o) := TK.mut o h (fun _ => by intro z; cases z) (fun _ _ => by intro z; cases z)
theorem same_new {H : Hp} {p : Addr} (o : HO) (h : H p = none) : Same H (upd H p o) := fun b u q => by rw [upd_ne (ne_of_none q h)]; exact q
theorem TK.new {H : Hp} {p : Addr} (o : HO) (h : H p = none) : TK H (upd H p o) := TK.same (same_new o h)
theorem TK.sq {K : PySem.W.Frag} {H H' : Hp} {a : Addr} {xs : List V} (k : TK H H') (h : SqT K H a xs) : SqT K H' a xs := by
  rcases h with (h | ⟨o, h⟩) | h
  · exact .inl (.inl (k.1 _ _ h))
  · exact .inl (.inr ⟨o, k.2 _ _ _ h⟩)
  · exact .inr h
/-- what stood stands, but at the addresses of a list -/
def But (S : List Addr) (H H' : Hp) : Prop := ∀ b o, H b = some o → b ∉ S → H' b = some o
theorem But.refl (S : List Addr) (H : Hp) : But S H H := fun _ _ h _ => h
theorem But.trans {S : List Addr} {H H1 H2 : Hp} (a : But S H H1) (b : But S H1 H2) : But S H H2 := fun c o h n => b c o (a c o h n) n
theorem But.same {S : List Addr} {H H' : Hp} (h : Same H H') : But S H H' := fun b o e _ => h b o e
/-- a new object changes, or one of the list -/
theorem But.fresh {S : List Addr} {H H' : Hp} {p : Addr} (o : HO) (h : But S H H') (n : H p = none) : But S H (upd H' p o) := fun b u e nb => by
  rw [upd_ne (ne_of_none e n)]
  exact h b u e nb
theorem But.at {S : List Addr} {H H' : Hp} {p : Addr} (o : HO) (h : But S H H') (n : p ∈ S) : But S H (upd H' p o) := fun b u e nb => by
  rw [upd_ne (show b ≠ p from fun z => nb (by rw [z]; exact n))]
  exact h b u e nb
theorem But.off {S : List Addr} {H H' : Hp} (h : But S H H') (n : ∀ p ∈ S, H p = none) : Same H H' := fun b o e => h b o e fun z => by
  rw [n b z] at e
  cases e
theorem same_fresh {H H' : Hp} {p : Addr} (o : HO) (h : Same H H') (n : H p = none) : Same H (upd H' p o) := fun b u e => by
  rw [upd_ne (ne_of_none e n)]
  exact h b u e

/-! ### data of tuples -/
mutual
inductive Dt (K : PySem.W.Frag) (H : Hp) : V → PyData → Prop
  | non : Dt K H .non .none
  | bl (b : Bool) : Dt K H (.bl b) (.bool b)
  | int (i : Int) : Dt K H (.int i) (.int i)
  | str (x : Str) : Dt K H (.str x) (.str x)
  | tup {a : Addr} {xs : List V} {ds : List PyData} : SqT K H a xs → DtAll K H xs ds → Dt K H (.ref a) (.tuple ds)
inductive DtAll (K : PySem.W.Frag) (H : Hp) : List V → List PyData → Prop
  | nil : DtAll K H [] []
  | cons {v : V} {vs : List V} {d : PyData} {ds : List PyData} : Dt K H v d → DtAll K H vs ds → DtAll K H (v :: vs) (d :: ds)
end
section
variable {K : PySem.W.Frag} {H H' : Hp}
mutual
theorem Dt.keep (k : TK H H') : ∀ {v : V} {d : PyData}, Dt K H v d → Dt K H' v d
  | _, _, .non => .non
  | _, _, .bl b => .bl b
  | _, _, .int i => .int i
  | _, _, .str x => .str x
  | _, _, .tup h t => .tup (k.sq h) (DtAll.keep k t)
theorem DtAll.keep (k : TK H H') : ∀ {vs : List V} {ds : List PyData}, DtAll K H vs ds → DtAll K H' vs ds
  | _, _, .nil => .nil
  | _, _, .cons h t => .cons (Dt.keep k h) (DtAll.keep k t)
end
mutual
theorem Dt.dp : ∀ {v : V} {d : PyData}, Dt K H v d → Dp K H v d
  | _, _, .non => .non
  | _, _, .bl b => .bl b
  | _, _, .int i => .int i
  | _, _, .str x => .str x
  | _, _, .tup h t => .tup h (DtAll.dp t)
theorem DtAll.dp : ∀ {vs : List V} {ds : List PyData}, DtAll K H vs ds → DpAll K H vs ds
  | _, _, .nil => .nil
  | _, _, .cons h t => .cons (Dt.dp h) (DtAll.dp t)
end
theorem DtAll.length : ∀ {vs : List V} {ds : List PyData}, DtAll K H vs ds → vs.length = ds.length
  | _, _, .nil => rfl
  | _, _, .cons _ t => by rw [List.length_cons, List.length_cons, t.length]
theorem DtAll.get : ∀ {vs : List V} {ds : List PyData} {i : Nat} {v : V}, DtAll K H vs ds → vs[i]? = some v → ∃ d, ds[i]? = some d ∧ Dt K H v d
  | _, _, _, _, .nil, e => by simp at e
  | _, _, 0, _, .cons h _, e => by
    cases (Option.some.inj e)
    exact ⟨_, rfl, h⟩
  | _, _, i + 1, _, .cons _ t, e => by
    obtain ⟨d, h1, h2⟩ := t.get (i := i) (by simpa using e)
    exact ⟨d, by simpa using h1, h2⟩
theorem DtAll.get' : ∀ {vs : List V} {ds : List PyData} {i : Nat} {d : PyData}, DtAll K H vs ds → ds[i]? = some d → ∃ v, vs[i]? = some v ∧ Dt K H v d
  | _, _, _, _, .nil, e => by simp at e
  | _, _, 0, _, .cons h _, e => by
    cases (Option.some.inj e)
    exact ⟨_, rfl, h⟩
  | _, _, i + 1, _, .cons _ t, e => by
    obtain ⟨d, h1, h2⟩ := t.get' (i := i) (by simpa using e)
    exact ⟨d, by simpa using h1, h2⟩
theorem DtAll.append : ∀ {vs ws : List V} {ds es : List PyData}, DtAll K H vs ds → DtAll K H ws es → DtAll K H (vs ++ ws) (ds ++ es)
  | _, _, _, _, .nil, h => h
  | _, _, _, _, .cons a t, h => .cons a (t.append h)
theorem DtAll.drop : ∀ (n : Nat) {vs : List V} {ds : List PyData}, DtAll K H vs ds → DtAll K H (vs.drop n) (ds.drop n)
  | 0, _, _, h => h
  | _ + 1, _, _, .nil => .nil
  | n + 1, _, _, .cons _ t => DtAll.drop n t
theorem DtAll.one {v : V} {d : PyData} (h : Dt K H v d) : DtAll K H [v] [d] := .cons h .nil
theorem Dt.tup_inv {v : V} {ds : List PyData} (h : Dt K H v (.tuple ds)) : ∃ a xs, v = .ref a ∧ SqT K H a xs ∧ DtAll K H xs ds := by
  cases h with
  | tup h t => exact ⟨_, _, rfl, h, t⟩
theorem Dt.int_inv {v : V} {i : Int} (h : Dt K H v (.int i)) : v = .int i := by
  cases h
  rfl
theorem Dt.str_inv {v : V} {i : Str} (h : Dt K H v (.str i)) : v = .str i := by
  cases h
  rfl
/-- a tuple of known things, its items one by one -/
theorem Dt.two_inv {v : V} {d e : PyData} (h : Dt K H v (.tuple [d, e])) : ∃ a x y, v = .ref a ∧ SqT K H a [x, y] ∧ Dt K H x d ∧ Dt K H y e := by
  obtain ⟨a, xs, rfl, h1, h2⟩ := h.tup_inv
  cases h2 with
  | cons q1 t =>
    cases t with
    | cons q2 t =>
      cases t
      exact ⟨a, _, _, rfl, h1, q1, q2⟩
theorem Dt.new {p : Addr} {xs : List V} {ds : List PyData} (h : H p = none) (t : DtAll K H xs ds) : Dt K (upd H p (.tup xs)) (.ref p) (.tuple ds) := .tup (SqT.of upd_same) (t.keep (TK.new _ h))
end
/-- a pair of places -/
def encP (p : Nat × Nat) : PyData := .tuple [.int p.1, .int p.2]
theorem Dt.pair {K : PySem.W.Frag} {H : Hp} {v : V} {p : Nat × Nat} (h : Dt K H v (encP p)) : ∃ a, v = .ref a ∧ SqT K H a [.int p.1, .int p.2] := by
  obtain ⟨a, x, y, rfl, h1, h2, h3⟩ := Dt.two_inv h
  rw [h2.int_inv, h3.int_inv] at h1
  exact ⟨a, rfl, h1⟩
theorem Dt.of_pair {K : PySem.W.Frag} {H : Hp} {a : Addr} {p : Nat × Nat} (h : SqT K H a [.int p.1, .int p.2]) : Dt K H (.ref a) (encP p) := .tup h (.cons (.int _) (.cons (.int _) .nil))

/-! ### rules -/
structure Code where
  signs : Str
  pairs : List (Str × Int)
  span : Int
  loops : List Int
  rows : List (Str × Str × Int)
def encR (r : Str × Str × Int) : PyData := .tuple [.str r.1, .str r.2.1, .int r.2.2]
def encS (p : Str × Int) : PyData := .tuple [.str p.1, .int p.2]
/-- the rules stand at v -/
def CodeAt (K : PySem.W.Frag) (H : Hp) (v : V) (c : Code) : Prop := ∃ (a b l : Addr) (vr : V) (o : Obj) (ts : List Addr), v = .ref a ∧ SqT K H a [.str c.signs, .ref b, .int c.span, .ref l, vr] ∧
  (H b = some (.frz o (.tup (ts.map V.ref))) ∧ o.dict = none ∧ Paired (fun t p => SqT K H t [V.str p.1, V.int p.2]) ts c.pairs) ∧ SqT K H l (c.loops.map V.int) ∧ Dt K H vr (.tuple (c.rows.map encR))
theorem paired_keep {K : PySem.W.Frag} {H H' : Hp} (k : TK H H') : ∀ {ts : List Addr} {ps : List (Str × Int)}, Paired (fun t p => SqT K H t [V.str p.1, V.int p.2]) ts ps → Paired (fun t p => SqT K H' t [V.str p.1, V.int p.2]) ts ps
  | _, _, .nil => .nil
  | _, _, .cons h t => .cons (k.sq h) (paired_keep k t)
theorem CodeAt.keep {K : PySem.W.Frag} {H H' : Hp} {v : V} {c : Code} (k : TK H H') (h : CodeAt K H v c) : CodeAt K H' v c := by
  obtain ⟨a, b, l, vr, o, ts, h1, h2, ⟨h3, h4, h5⟩, h6, h7⟩ := h
  exact ⟨a, b, l, vr, o, ts, h1, k.sq h2, ⟨k.2 _ _ _ h3, h4, paired_keep k h5⟩, k.sq h6, h7.keep k⟩

/-- what the law's own drawing gives -/
structure CodeOk (c : Code) : Prop where
  pr : ∀ p ∈ c.pairs, p.1.length = 2 ∧ PyData.strOk p.1 = true
  sp : 0 ≤ c.span
  lp : c.loops.length = 9
  rw : ∀ r ∈ c.rows, PyData.strOk r.1 = true ∧ PyData.strOk r.2.1 = true
  rl : c.rows.length ≤ 12
  pl : c.pairs.length ≤ 12
  sg : PyData.strOk c.signs = true
  s0 : 0 < c.signs.length
  s6 : c.signs.length ≤ 6
structure WordOk (z : Str) : Prop where
  le : z.length ≤ 12
  ok : PyData.strOk z = true

/-! ### rules whose fragment is told (within a comprehension's block) -/
section
variable {X : Cx} {K : PySem.W.Frag}
theorem ix_tupK (h : X.K = K) : IxR X (rIxT K) := h ▸ ix_tup
theorem ix_listK (h : X.K = K) : IxR X (rIxL K) := h ▸ ix_list
theorem op_catTK (h : X.K = K) : OpR X (binaryOp .Add) (rCatT K) := h ▸ op_catT
theorem op_eqDK (h : X.K = K) (hu : X.A.units + 64 < cLine) : OpR X (compareOp .Eq) (rEqD K) := h ▸ op_eqD hu
theorem op_neDK (h : X.K = K) (hu : X.A.units + 64 < cLine) : OpR X (compareOp .NotEq) (rNeD K) := h ▸ op_neD hu
end

/-! ### walks of my own iterables -/
theorem walk_enumT {K : PySem.W.Frag} {a : Addr} {xs : List V} : Walk (IteT K a) xs.length (fun H => SqT K H a xs) (YPair (fun i => some (.int (i : Nat))) (fun i => xs[i]?)) := by
  refine ⟨fun i _ hi q => ⟨xs, xs[i], q, by simp [hi]⟩, fun _ q => ⟨xs, q, rfl⟩, fun i H v H' _ q y => ?_⟩
  obtain ⟨T, x, h1, h2, h3, h4⟩ := y
  exact ⟨T, .int (i : Nat), x, h1, h2, h3, rfl, h4 xs q⟩
theorem walk_enumS {z : Str} : Walk (IteS z) z.cps.size (fun _ => True) (YPair (fun i => some (.int (i : Nat))) (fun i => (z.cps[i]?).map fun c => V.str ⟨#[c]⟩)) := by
  refine ⟨fun _ _ hi _ => hi, fun _ _ => rfl, fun i H v H' _ _ y => ?_⟩
  obtain ⟨T, c, h1, h2, h3, h4⟩ := y
  exact ⟨T, .int (i : Nat), .str ⟨#[c]⟩, h1, h2, h3, rfl, by show Option.map _ _ = _; rw [h4]; rfl⟩

/-- the module's constants -/
structure Cst (K : PySem.W.Frag) (mg : Str → Option Value) : Prop where
  op : ∃ t, mg "OPENING" = some (.str "(" t)
  sh : ∃ t, mg "SHUTTING" = some (.str ")" t)
  fr : ∃ t, mg "FREE" = some (.str "." t)
  lo : ∃ a, mg "LOOPS" = some (.ref a) ∧ ∀ H, SqT K H a [.str "stacked", .str "inner", .str "inner free", .str "forked", .str "branch", .str "fork free", .str "lone", .str "lone free", .str "open"]

/-! ### defs and built-ins that the text calls -/
def Has (P : Program) (w : World) (K : PySem.W.Frag) (mg : Str → Option Value) (base : Heap) (x : Str) (ps : List Str) (k : Nat) (sp : Sp) : Prop :=
  ∃ (f : Addr) (fd : FuncData), FnOk P w K mg base CX0 k f fd ps sp ∧ mg x = some (.ref f) ∧ PySem.W.keepIn K (.ref f) = true ∧ Binds K fd ps []
structure Blt (mg : Str → Option Value) : Prop where
  len : mg "len" = none
  dict : mg "dict" = none
  list : mg "list" = none
  tuple : mg "tuple" = none
  zip : mg "zip" = none
  isi : mg "isinstance" = none
  int : mg "int" = none
  bool : mg "bool" = none
  all : mg "all" = none
  enum : mg "enumerate" = none
  sorted : mg "sorted" = none
  sum : mg "sum" = none
  abs : mg "abs" = none
  range : mg "range" = none
theorem sz {n : Nat} (h : n ≤ 100000) : n ≤ sizeLine := Nat.le_trans h (by decide)
theorem szl {n : Nat} (h : n < 100000) : n < sizeLine := Nat.lt_of_lt_of_le h (by decide)
end K14
/-! both_of, pair_worth, stack_worth, may_pair, letters_of. -/
namespace K14
open PySem L2

abbrev sBoth : Stmt := top 5
abbrev sPairW : Stmt := top 2
abbrev sStackW : Stmt := top 3
abbrev sMay : Stmt := top 6
abbrev sLetters : Stmt := top 20

/-! ### what they compute -/
def sign (z : Str) (i : Nat) : Nat := z.cps.toList.getD i 0
def two (z : Str) (i j : Nat) : Str := (⟨#[sign z i]⟩ : Str) ++ ⟨#[sign z j]⟩
def kvsOf (c : Code) : List (Key × V) := c.pairs.map fun p => (Sum.inr p.1, V.int p.2)
def pw (c : Code) (b : Str) : Option V := valV (mergeK [] (kvsOf c)) (Sum.inr b : Key)
def mayB (c : Code) (z : Str) (i j : Nat) : Bool := decide (c.span < (j : Int) - i) && (pw c (two z i j)).isSome
def stackF (c : Code) (o w : Str) : List (Str × Str × Int) := c.rows.filter fun r => decide (r.1 = o) && decide (r.2.1 = w)
def stackW (c : Code) (o w : Str) : Int := match stackF c o w with
  | [] => 0
  | r :: _ => r.2.2

theorem sign_at {z : Str} {i : Nat} (h : i < z.length) : atI z.cps.toList (i : Int) = some (sign z i) := by
  refine atI_nat ?_
  have h' : i < z.cps.toList.length := by rw [Array.length_toList]; exact h
  unfold sign
  rw [List.getD_eq_getElem?_getD, List.getElem?_eq_getElem h']
  rfl

def spBoth : Sp := fun vs H Q _ => ∃ (z : Str) (i j : Nat), vs = [.str z, .int i, .int j] ∧ i < z.length ∧ j < z.length ∧ z.length ≤ 12 ∧ Q (.str (two z i j)) H
section
variable {P : Program} {w : World} {K : PySem.W.Frag} {mg : Str → Option Value} {base : Heap} {k : Nat} {f : Addr} {fd : FuncData}
theorem scBoth : FnScope ["string", "i", "j"] ["string", "i", "j"] (defScope sBoth) := ⟨rfl, rfl, rfl, by decide +kernel, rfl, by decide +kernel, by decide +kernel⟩
theorem ok_both (F : Fun K "both_of" "both_of" sBoth f fd) : FnOk P w K mg base CX0 (k + 1) f fd ["string", "i", "j"] spBoth := by
  refine F.ok scBoth (fun vs H Q E h => ?_) (fun cdv A outer s H vs Q E hr h => ?_)
  · obtain ⟨z, i, j, rfl, _⟩ := h
    rfl
  obtain ⟨z, i, j, rfl, hi, hj, hz, q⟩ := h
  refine ⟨_, pss_one (ps_ret (pe_op op_add_str (pe_ix ix_str (pv 0) (pv 1) (fun _ _ => rfl)) (pe_ix ix_str (pv 0) (pv 2) (fun _ _ => rfl)))), ?_⟩
  exact ⟨_, rfl, _, rfl, z, i, _, rfl, rfl, sz (by omega), sign_at hi, _, rfl, _, rfl, z, j, _, rfl, rfl, sz (by omega), sign_at hj, _, _, rfl, rfl, by show 2 ≤ sizeLine; decide, q⟩

/-! ### pair_worth -/
theorem kvs_paired {H : Hp} : ∀ {ts : List Addr} {ps : List (Str × Int)}, Paired (fun t p => SqT K H t [V.str p.1, V.int p.2]) ts ps → Paired (fun p (kv : Key × V) => SqT K H p [kV kv.1, kv.2]) ts (ps.map fun p => ((Sum.inr p.1 : Key), V.int p.2))
  | _, _, .nil => .nil
  | _, _, .cons h t => .cons h (kvs_paired t)
def spPairW (K : PySem.W.Frag) : Sp := fun vs H Q _ => ∃ (v : V) (c : Code) (b : Str), vs = [v, .str b] ∧ CodeAt K H v c ∧ ∀ H', Same H H' → Q ((pw c b).getD .non) H'
theorem scPairW : FnScope ["rules", "both"] ["rules", "both"] (defScope sPairW) := ⟨rfl, rfl, rfl, by decide +kernel, rfl, by decide +kernel, by decide +kernel⟩
theorem ok_pairW (F : Fun K "pair_worth" "pair_worth" sPairW f fd) (T : Blt mg) : FnOk P w K mg base CX0 (k + 1) f fd ["rules", "both"] (spPairW K) := by
  refine F.ok scPairW (fun vs H Q E h => ?_) (fun cdv A outer s H vs Q E hr h => ?_)
  · obtain ⟨v, c, b, rfl, _⟩ := h
    rfl
  obtain ⟨v, c, b, rfl, ⟨a, tb, l, vr, o, ts, rfl, h2, ⟨h3, h4, h5⟩, h6, h7⟩, q⟩ := h
  have hu := hu_of hr
  refine ⟨_, pss_one (ps_ret (pe_dget1 hu (pe_callTy (call_dictT rfl) (by rfl) T.dict PyProof.Rows.boot_dict (pa_cons (pe_ix ix_tup (pv 0) pe_int (fun _ _ => rfl)) pa_nil)) (pv 1) ⟨rfl, rfl, rfl, rfl⟩)), ?_⟩
  refine ⟨_, rfl, a, _, 1, _, rfl, rfl, h2, atI_nat (j := 1) rfl, tb, o, ts, _, rfl, h3, h4, kvs_paired h5, fun p np => ?_⟩
  refine ⟨p, rfl, .inl ⟨_, .inl upd_same⟩, _, rfl, _, DGet.k (k := Sum.inr b) upd_same, ?_⟩
  exact q _ (same_new _ np)

/-! ### stack_worth -/
theorem eqv_two (a b o w : Str) : PyData.eqv (.tuple [.str a, .str b]) (.tuple [.str o, .str w]) = (decide (a = o) && decide (b = w)) := by
  simp only [PyData.eqv, PyData.eqvAll, Bool.and_true]
  rfl
theorem shaped_two {a b : Str} (ha : PyData.strOk a = true) (hb : PyData.strOk b = true) : SeqAt.shaped (.tuple [.str a, .str b]) = true := by
  simp [SeqAt.shaped, PyData.canLay0, PyData.canLayAll0, PyData.depth, PyData.depthAll, ha, hb]
theorem two_ok {z : Str} (h : PyData.strOk z = true) (i j : Nat) : PyData.strOk (two z i j) = true := by
  have hs : ∀ i, sign z i < 0x110000 := fun i => by
    unfold sign
    rw [List.getD_eq_getElem?_getD]
    cases e : z.cps.toList[i]? with
    | none => show 0 < 0x110000; decide
    | some c =>
      have hm : c ∈ z.cps.toList := List.mem_of_getElem? e
      unfold PyData.strOk at h
      rw [← Array.all_toList, List.all_eq_true] at h
      exact of_decide_eq_true (h c hm)
  have e : (two z i j).cps = #[sign z i, sign z j] := rfl
  unfold PyData.strOk
  rw [e]
  simp [hs]
theorem row_inv {H : Hp} {v : V} {r : Str × Str × Int} (h : Dt K H v (encR r)) : ∃ t, v = .ref t ∧ SqT K H t [.str r.1, .str r.2.1, .int r.2.2] := by
  obtain ⟨a, xs, rfl, h1, h2⟩ := Dt.tup_inv h
  cases h2 with
  | cons q1 t =>
    cases t with
    | cons q2 t =>
      cases t with
      | cons q3 t =>
        cases t
        rw [q1.str_inv, q2.str_inv, q3.int_inv] at h1
        exact ⟨a, rfl, h1⟩
def spStackW (K : PySem.W.Frag) : Sp := fun vs H Q _ => ∃ (v : V) (c : Code) (o w : Str), vs = [v, .str o, .str w] ∧ CodeAt K H v c ∧ CodeOk c ∧ PyData.strOk o = true ∧ PyData.strOk w = true ∧ ∀ H', Same H H' → Q (.int (stackW c o w)) H'
theorem scStackW : FnScope ["rules", "outer", "within", "found", "one", "other", "worth"] ["rules", "outer", "within"] (defScope sStackW) := ⟨rfl, rfl, rfl, by decide +kernel, rfl, by decide +kernel, by decide +kernel⟩
theorem take_filter {α : Type} (p : α → Bool) (l : List α) {i : Nat} {x : α} (h : l[i]? = some x) : (l.take (i + 1)).filter p = if p x then (l.take i).filter p ++ [x] else (l.take i).filter p := by
  rw [List.take_add_one, h, List.filter_append]
  by_cases hx : p x = true
  · simp [hx]
  · simp [hx]
theorem ok_stackW (F : Fun K "stack_worth" "stack_worth" sStackW f fd) : FnOk P w K mg base CX0 (k + 1) f fd ["rules", "outer", "within"] (spStackW K) := by
  refine F.ok scStackW (fun vs H Q E h => ?_) (fun cdv A outer s H vs Q E hr h => ?_)
  · obtain ⟨v, c, o, u, rfl, _⟩ := h
    rfl
  obtain ⟨v, c, o, u, rfl, ⟨a, tb, l, vr, ob, ts, rfl, h2, ⟨h3, h4, h5⟩, h6, h7⟩, ck, oo, ou, q⟩ := h
  have hrl := ck.rl
  obtain ⟨ar, rs, rfl, hrs, hra⟩ := h7.tup_inv
  have hlr : rs.length = c.rows.length := by rw [hra.length, List.length_map]
  have hu := hr.units
  refine ⟨_, pss_cons (ps_setLc (i := 3) (own := [("one", 4), ("other", 5), ("worth", 6)]) (g := gTup K 3 (gCons (gName 4) (gCons (gName 5) (gCons (gName 6) gNil)))) rfl scStackW.nd rfl rfl (sw_true rfl rfl rfl (by decide +kernel))
      (pi_tup (pe_ix ix_tup (pv 0) pe_int (fun _ _ => rfl))) (blkOk_by (N := ["rules", "outer", "within", "found", "one", "other", "worth"]) (sc := defScope sStackW) (by decide +kernel))
      (fun _ _ _ _ _ => pg_tup rfl (pgs_cons (pg_name (i := 4) scStackW.nd rfl (Or.inl rfl)) (pgs_cons (pg_name (i := 5) scStackW.nd rfl (Or.inl rfl)) (pgs_cons (pg_name (i := 6) scStackW.nd rfl (Or.inl rfl)) pgs_nil))))
      (fun _ _ _ _ _ => pts_one (pt_cmpR (op_eqDK (K := K) rfl hu) (pe_tup (pa_cons (pv 4) (pa_cons (pv 5) pa_nil))) (pe_tup (pa_cons (pv 1) (pa_cons (pv 2) pa_nil))) (nomark _)))
      (fun _ _ _ _ _ => pv 6))
    (pss_one (ps_ret (pe_ifExp (pt_cmpR (op_neD hu) (pv 3) (pe_lst pa_nil) (nomark _)) (pe_ix ix_list (pv 3) pe_int (fun _ _ => rfl)) pe_int))), ?_⟩
  refine ⟨_, rfl, a, _, 4, _, rfl, rfl, h2, atI_nat (j := 4) rfl, ar, rfl, ⟨_, hrs⟩, fun D nD => ?_⟩
  refine lc_tup (K := K) (a := ar) (xs := rs) (fun i H' => Same H H' ∧ H' D = some (.lst (((c.rows.take i).filter fun r => decide (r.1 = o) && decide (r.2.1 = u)).map fun r => V.int r.2.2))) ⟨same_new _ nD, upd_same⟩ (fun i H' _ h => (TK.same h.1).sq hrs) ?_ ?_
  · intro i x H' hx hP
    obtain ⟨sm, hD⟩ := hP
    obtain ⟨d, hd, hdx⟩ := hra.get hx
    rw [List.getElem?_map] at hd
    cases hci : c.rows[i]? with
    | none =>
      rw [hci] at hd
      cases hd
    | some r =>
      rw [hci] at hd
      cases hd
      obtain ⟨t, rfl, ht⟩ := row_inv hdx
      obtain ⟨hr1, hr2⟩ := ck.rw r (List.mem_of_getElem? hci)
      have hst : SqT K H' t [.str r.1, .str r.2.1, .int r.2.2] := (TK.same sm).sq ht
      refine ⟨t, _, rfl, hst, rfl, _, _, rfl, _, _, rfl, _, _, rfl, rfl, rfl, ?_⟩
      refine ⟨_, rfl, _, rfl, (by show 2 ≤ sizeLine; decide), fun p np => ?_⟩
      refine ⟨_, rfl, _, rfl, (by show 2 ≤ sizeLine; decide), fun p2 np2 => ?_⟩
      have s2 : Same H' (upd (upd H' p (.tup [.str r.1, .str r.2.1])) p2 (.tup [.str o, .str u])) := same_fresh _ (same_new _ np) ((same_new _ np).free np2)
      have np2p : p2 ≠ p := fun e => by
        rw [e, upd_same] at np2
        cases np2
      refine ⟨.tuple [.str r.1, .str r.2.1], .tuple [.str o, .str u], .tup (SqT.of (by rw [upd_ne np2p.symm, upd_same])) (.cons (.str _) (.cons (.str _) .nil)), .tup (SqT.of upd_same) (.cons (.str _) (.cons (.str _) .nil)), shaped_two hr1 hr2, shaped_two oo ou, _, rfl, ?_⟩
      rw [eqv_two]
      have hfl : ((c.rows.take i).filter fun r => decide (r.1 = o) && decide (r.2.1 = u)).length ≤ 12 := by
        refine Nat.le_trans (List.length_filter_le _ _) ?_
        rw [List.length_take]
        omega
      refine ite2 (fun e => ?_) (fun e => ?_)
      · refine ⟨_, rfl, _, s2 _ _ hD, ?_, ?_⟩
        · rw [List.length_map]
          exact szl (by omega)
        · refine ⟨same_fresh _ (sm.trans s2) nD, ?_⟩
          rw [upd_same, take_filter _ _ hci, if_pos e, List.map_append]
          rfl
      · refine ⟨sm.trans s2, ?_⟩
        rw [s2 _ _ hD, take_filter _ _ hci, if_neg e]
  · intro H' hP
    obtain ⟨sm, hD⟩ := hP
    rw [hlr, List.take_length] at hD
    have e1 : ((c.rows.filter fun r => decide (r.1 = o) && decide (r.2.1 = u)).map fun r => V.int r.2.2) = (stackF c o u).map fun r => V.int r.2.2 := rfl
    rw [e1] at hD
    refine ⟨_, rfl, Nat.zero_le _, fun p np => ?_⟩
    have hDp : (upd H' p (.lst [])) D = some (.lst ((stackF c o u).map fun r => V.int r.2.2)) := same_new _ np _ _ hD
    have s3 : Same H (upd H' p (.lst [])) := sm.trans (same_new _ np)
    have dpD : ∀ l : List (Str × Str × Int), DpAll K (upd H' p (.lst [])) (l.map fun r => V.int r.2.2) (l.map fun r => PyData.int r.2.2) := fun l => by
      induction l with
      | nil => exact .nil
      | cons r l ih => exact .cons (.int _) ih
    have shp : ∀ l : List (Str × Str × Int), SeqAt.shaped (.list (l.map fun r => PyData.int r.2.2)) = true := fun l => by
      have h1 : PyData.canLayAll0 (l.map fun r => PyData.int r.2.2) = true := by
        induction l with
        | nil => rfl
        | cons r l ih =>
          rw [List.map_cons, PyData.canLayAll0, ih]
          rfl
      have h2 : PyData.depthAll (l.map fun r => PyData.int r.2.2) = 0 := by
        induction l with
        | nil => rfl
        | cons r l ih =>
          rw [List.map_cons, PyData.depthAll, ih (by
            rw [List.map_cons, PyData.canLayAll0, Bool.and_eq_true] at h1
            exact h1.2)]
          rfl
      simp [SeqAt.shaped, PyData.canLay0, PyData.depth, h1, h2]
    refine ⟨PyData.list ((stackF c o u).map fun (r : Str × Str × Int) => PyData.int r.2.2), .list [], .lst (SqL.of hDp) (dpD (stackF c o u)), .lst (SqL.of upd_same) .nil, shp (stackF c o u), rfl, _, rfl, ?_⟩
    unfold stackW at q
    cases e : stackF c o u with
    | nil =>
      rw [e] at q
      exact q _ s3
    | cons r rs2 =>
      rw [e] at q hDp
      exact ⟨_, rfl, D, _, 0, _, rfl, rfl, SqL.of hDp, atI_nat (j := 0) rfl, q _ s3⟩
end
end K14
/-! may_pair, letters_of, crosses, is_place, is_pair, free_within, kind_of. -/
namespace K14
open PySem L2

/-! ### what the dict of the pairs tells -/
theorem valV_some {κ : Type} [DecidableEq κ] : ∀ (kvs : List (κ × V)) (k : κ), (valV kvs k).isSome = kvs.any fun kv => decide (kv.1 = k)
  | [], _ => rfl
  | kv :: r, k => by
    have ih := valV_some r k
    unfold valV at ih ⊢
    rw [List.find?_cons, List.any_cons]
    cases h : decide (kv.1 = k)
    · simpa using ih
    · rfl
theorem any_putK {κ : Type} [DecidableEq κ] (kvs : List (κ × V)) (k k' : κ) (v : V) : (putK kvs k' v).any (fun kv => decide (kv.1 = k)) = (kvs.any (fun kv => decide (kv.1 = k)) || decide (k' = k)) := by
  unfold putK
  split
  · rename_i h
    rw [List.any_map]
    have e : (fun kv : κ × V => decide ((if kv.1 = k' then (kv.1, v) else kv).1 = k)) = fun kv => decide (kv.1 = k) := by
      funext kv
      split <;> rfl
    show kvs.any (fun kv : κ × V => decide ((if kv.1 = k' then (kv.1, v) else kv).1 = k)) = _
    rw [e]
    by_cases hk : k' = k
    · subst hk
      rw [h]
      rfl
    · rw [decide_eq_false hk, Bool.or_false]
  · rw [List.any_append, List.any_cons, List.any_nil, Bool.or_false]
theorem any_mergeK (more : List (Key × V)) : ∀ (kvs : List (Key × V)) (k : Key), (mergeK kvs more).any (fun kv => decide (kv.1 = k)) = (kvs.any (fun kv => decide (kv.1 = k)) || more.any fun kv => decide (kv.1 = k)) := by
  induction more with
  | nil =>
    intro kvs k
    rw [List.any_nil, Bool.or_false]
    rfl
  | cons m more ih =>
    intro kvs k
    show (mergeK (putK kvs m.1 m.2) more).any _ = _
    rw [ih, any_putK, List.any_cons, Bool.or_assoc]
theorem pw_isSome (c : Code) (b : Str) : (pw c b).isSome = c.pairs.any fun p => decide (p.1 = b) := by
  unfold pw
  rw [valV_some, any_mergeK, List.any_nil, Bool.false_or]
  unfold kvsOf
  rw [List.any_map]
  congr 1
  funext p
  show decide ((Sum.inr p.1 : Key) = Sum.inr b) = decide (p.1 = b)
  by_cases h : p.1 = b
  · rw [h]
    simp
  · rw [decide_eq_false h, decide_eq_false (fun e => h (Sum.inr.inj e))]
theorem ints_putK (kvs : List (Key × V)) (k : Key) (n : Int) (h : ∀ kv ∈ kvs, ∃ m, kv.2 = V.int m) : ∀ kv ∈ putK kvs k (.int n), ∃ m, kv.2 = V.int m := by
  unfold putK
  split
  · intro kv hkv
    obtain ⟨x, hx, rfl⟩ := List.mem_map.mp hkv
    split
    · exact ⟨n, rfl⟩
    · exact h x hx
  · intro kv hkv
    rcases List.mem_append.mp hkv with hkv | hkv
    · exact h kv hkv
    · rw [List.mem_singleton.mp hkv]
      exact ⟨n, rfl⟩
theorem ints_mergeK (ps : List (Str × Int)) : ∀ (kvs : List (Key × V)), (∀ kv ∈ kvs, ∃ m, kv.2 = V.int m) → ∀ kv ∈ mergeK kvs (ps.map fun p => ((Sum.inr p.1 : Key), V.int p.2)), ∃ m, kv.2 = V.int m := by
  induction ps with
  | nil => intro kvs h; exact h
  | cons p ps ih =>
    intro kvs h
    exact ih _ (ints_putK kvs _ _ h)
theorem pw_int {c : Code} {b : Str} {v : V} (h : pw c b = some v) : ∃ n, v = .int n := by
  unfold pw valV at h
  obtain ⟨kv, h1, rfl⟩ := Option.map_eq_some_iff.mp h
  exact ints_mergeK c.pairs [] (fun kv h => by cases h) kv (List.mem_of_find?_eq_some h1)
theorem pw_notN (c : Code) (b : Str) : (!decide ((pw c b).getD .non = .non)) = (pw c b).isSome := by
  cases h : pw c b with
  | none => rfl
  | some v =>
    obtain ⟨n, rfl⟩ := pw_int h
    rfl
def pwI (c : Code) (b : Str) : Int := match pw c b with
  | some (.int n) => n
  | _ => 0
theorem pw_eq {c : Code} {b : Str} (h : (pw c b).isSome = true) : (pw c b).getD .non = .int (pwI c b) := by
  unfold pwI
  cases e : pw c b with
  | none =>
    rw [e] at h
    cases h
  | some v =>
    obtain ⟨n, rfl⟩ := pw_int e
    rfl

section
variable {P : Program} {w : World} {K : PySem.W.Frag} {mg : Str → Option Value} {base : Heap} {k : Nat} {f : Addr} {fd : FuncData}
/-! ### may_pair -/
def spMay (K : PySem.W.Frag) : Sp := fun vs H Q _ => ∃ (v : V) (c : Code) (z : Str) (i j : Nat), vs = [v, .str z, .int i, .int j] ∧ CodeAt K H v c ∧ i < z.length ∧ j < z.length ∧ z.length ≤ 12 ∧ ∀ H', Same H H' → Q (.bl (mayB c z i j)) H'
theorem scMay : FnScope ["rules", "string", "i", "j"] ["rules", "string", "i", "j"] (defScope sMay) := ⟨rfl, rfl, rfl, by decide +kernel, rfl, by decide +kernel, by decide +kernel⟩
theorem ok_may (F : Fun K "may_pair" "may_pair" sMay f fd) (GB : Has P w K mg base "both_of" ["string", "i", "j"] (k + 1) spBoth) (GP : Has P w K mg base "pair_worth" ["rules", "both"] (k + 1) (spPairW K)) :
    FnOk P w K mg base CX0 (k + 2) f fd ["rules", "string", "i", "j"] (spMay K) := by
  refine F.ok scMay (fun vs H Q E h => ?_) (fun cdv A outer s H vs Q E hr h => ?_)
  · obtain ⟨v, c, z, i, j, rfl, _⟩ := h
    rfl
  obtain ⟨v, c, z, i, j, rfl, hc, hi, hj, hz, q⟩ := h
  obtain ⟨fB, fdB, gB, mB, kB, bB⟩ := GB
  obtain ⟨fP, fdP, gP, mP, kP, bP⟩ := GP
  refine ⟨_, pss_one (ps_ret (pe_and (pe_cmpR op_gt (pe_op op_sub (pv 3) (pv 2)) (pe_ix ix_tup (pv 0) pe_int (fun _ _ => rfl)) (nomark _))
    (pe_one (pe_cmpR op_notN (pe_call gP hr (by rfl) mP kP bP .nil pass0 (pa_cons (pv 0) (pa_cons (pe_call gB hr (by rfl) mB kB bB .nil pass0 (pa_cons (pv 1) (pa_cons (pv 2) (pa_cons (pv 3) pa_nil)))) pa_nil))) pe_non (nomark _))))), ?_⟩
  obtain ⟨a, tb, l, vr, ob, ts, rfl, h2, h3, h6, h7⟩ := id hc
  refine ⟨_, rfl, _, rfl, _, _, rfl, rfl, _, rfl, a, _, 2, _, rfl, rfl, h2, atI_nat (j := 2) rfl, _, _, rfl, rfl, _, rfl, ?_⟩
  have e1 : mayB c z i j = (decide (c.span < (j : Int) - i) && (pw c (two z i j)).isSome) := rfl
  refine ite2 (fun e => ?_) (fun e => ?_)
  · refine ⟨_, rfl, _, rfl, _, rfl, _, rfl, z, i, j, rfl, hi, hj, hz, ?_⟩
    refine ⟨_, c, _, rfl, hc, fun H' sm => ⟨rfl, ?_⟩⟩
    rw [pw_notN]
    rw [e1, e, Bool.true_and] at q
    exact q H' sm
  · rw [e1, Bool.eq_false_iff.mpr e, Bool.false_and] at q
    exact q H (Same.refl H)
/-! ### letters_of -/
def spLetters (K : PySem.W.Frag) : Sp := fun vs H Q _ => ∃ (v : V) (z : Str) (p : Nat × Nat), vs = [.str z, v] ∧ Dt K H v (encP p) ∧ p.1 < z.length ∧ p.2 < z.length ∧ z.length ≤ 12 ∧ Q (.str (two z p.1 p.2)) H
theorem scLetters : FnScope ["string", "pair"] ["string", "pair"] (defScope sLetters) := ⟨rfl, rfl, rfl, by decide +kernel, rfl, by decide +kernel, by decide +kernel⟩
theorem ok_letters (F : Fun K "letters_of" "letters_of" sLetters f fd) : FnOk P w K mg base CX0 (k + 1) f fd ["string", "pair"] (spLetters K) := by
  refine F.ok scLetters (fun vs H Q E h => ?_) (fun cdv A outer s H vs Q E hr h => ?_)
  · obtain ⟨v, z, p, rfl, _⟩ := h
    rfl
  obtain ⟨v, z, p, rfl, hd, hi, hj, hz, q⟩ := h
  obtain ⟨a, rfl, ht⟩ := hd.pair
  refine ⟨_, pss_one (ps_ret (pe_op op_add_str (pe_ix ix_str (pv 0) (pe_ix ix_tup (pv 1) pe_int (fun _ _ => rfl)) (fun _ _ => rfl)) (pe_ix ix_str (pv 0) (pe_ix ix_tup (pv 1) pe_int (fun _ _ => rfl)) (fun _ _ => rfl)))), ?_⟩
  exact ⟨_, rfl, _, rfl, a, _, 0, _, rfl, rfl, ht, atI_nat (j := 0) rfl, z, _, _, rfl, rfl, sz (by omega), sign_at hi,
    _, rfl, _, rfl, a, _, 1, _, rfl, rfl, ht, atI_nat (j := 1) rfl, z, _, _, rfl, rfl, sz (by omega), sign_at hj, _, _, rfl, rfl, by show 2 ≤ sizeLine; decide, q⟩
end
end K14
/-! crosses, is_place, is_pair, free_within, kind_of. -/
namespace K14
open PySem L2

abbrev sCross : Stmt := top 13
abbrev sPlace : Stmt := top 11
abbrev sIsPair : Stmt := top 12
abbrev sFreeW : Stmt := top 19
abbrev sKind : Stmt := top 21

theorem tyx_tup {K : PySem.W.Frag} {H : Hp} {a : Addr} {xs : List V} (h : SqT K H a xs) : TyX K H (.ref a) (.type "tuple") := by
  rcases h with (h | ⟨o, h⟩) | ⟨o, its, n, h, c, _⟩
  · exact .base (.tup h)
  · exact .fTuple h
  · exact .kTuple h c

section
variable {P : Program} {w : World} {K : PySem.W.Frag} {mg : Str → Option Value} {base : Heap} {k : Nat} {f : Addr} {fd : FuncData}
/-! ### crosses -/
def spCross (K : PySem.W.Frag) : Sp := fun vs H Q _ => ∃ (v u : V) (p q : Nat × Nat), vs = [v, u] ∧ Dt K H v (encP p) ∧ Dt K H u (encP q) ∧ Q (.bl (decide (q.1 ≤ p.2) && decide (p.2 ≤ q.2))) H
theorem scCross : FnScope ["pair", "other"] ["pair", "other"] (defScope sCross) := ⟨rfl, rfl, rfl, by decide +kernel, rfl, by decide +kernel, by decide +kernel⟩
theorem dec_cast {a b : Nat} : decide ((a : Int) ≤ b) = decide (a ≤ b) := by
  by_cases h : a ≤ b
  · rw [decide_eq_true h, decide_eq_true (Int.ofNat_le.mpr h)]
  · rw [decide_eq_false h, decide_eq_false (fun e => h (Int.ofNat_le.mp e))]
theorem ok_cross (F : Fun K "crosses" "crosses" sCross f fd) : FnOk P w K mg base CX0 (k + 1) f fd ["pair", "other"] (spCross K) := by
  refine F.ok scCross (fun vs H Q E h => ?_) (fun cdv A outer s H vs Q E hr h => ?_)
  · obtain ⟨v, u, p, q, rfl, _⟩ := h
    rfl
  obtain ⟨v, u, p, q, rfl, hp, hq, g⟩ := h
  obtain ⟨a, rfl, ha⟩ := hp.pair
  obtain ⟨b, rfl, hb⟩ := hq.pair
  refine ⟨_, pss_one (ps_ret (pe_and (pe_cmpR op_le (pe_ix ix_tup (pv 1) pe_int (fun _ _ => rfl)) (pe_ix ix_tup (pv 0) pe_int (fun _ _ => rfl)) (nomark _))
    (pe_one (pe_cmpR op_ge (pe_ix ix_tup (pv 1) pe_int (fun _ _ => rfl)) (pe_ix ix_tup (pv 0) pe_int (fun _ _ => rfl)) (nomark _))))), ?_⟩
  refine ⟨_, rfl, b, _, 0, _, rfl, rfl, hb, atI_nat (j := 0) rfl, _, rfl, a, _, 1, _, rfl, rfl, ha, atI_nat (j := 1) rfl, _, _, rfl, rfl, _, rfl, ?_⟩
  rw [dec_cast]
  refine ite2 (fun e => ?_) (fun e => ?_)
  · refine ⟨_, rfl, b, _, 1, _, rfl, rfl, hb, atI_nat (j := 1) rfl, _, rfl, a, _, 1, _, rfl, rfl, ha, atI_nat (j := 1) rfl, _, _, rfl, rfl, ?_⟩
    rw [e, Bool.true_and] at g
    show Q (.bl (decide ((p.2 : Int) ≤ q.2))) H
    rw [dec_cast]
    exact g
  · rw [Bool.eq_false_iff.mpr e, Bool.false_and] at g
    exact g
/-! ### is_place -/
def spPlace : Sp := fun vs H Q _ => ∃ (i n : Nat), vs = [.int i, .int n] ∧ i < n ∧ Q (.bl true) H
theorem scPlace : FnScope ["thing", "many"] ["thing", "many"] (defScope sPlace) := ⟨rfl, rfl, rfl, by decide +kernel, rfl, by decide +kernel, by decide +kernel⟩
theorem ok_place (F : Fun K "is_place" "is_place" sPlace f fd) (T : Blt mg) : FnOk P w K mg base CX0 (k + 1) f fd ["thing", "many"] spPlace := by
  refine F.ok scPlace (fun vs H Q E h => ?_) (fun cdv A outer s H vs Q E hr h => ?_)
  · obtain ⟨i, n, rfl, _⟩ := h
    rfl
  obtain ⟨i, n, rfl, hi, g⟩ := h
  refine ⟨_, pss_one (ps_ret (pe_and (pe_callB call_isi (by rfl) T.isi PyProof.Rows.boot_isinstance (pa_cons (pv 0) (pa_cons (pe_bltn (v := .ty "int") (by rfl) T.int PyProof.Rows.boot_int rfl) pa_nil)))
    (pe_and (pe_not (pe_callB call_isi (by rfl) T.isi PyProof.Rows.boot_isinstance (pa_cons (pv 0) (pa_cons (pe_bltn (v := .ty "bool") (u := .type "bool") (by rfl) T.bool (by decide +kernel) rfl) pa_nil))))
    (pe_one (pe_chain op_le op_lt pe_int (pv 0) (pv 1)))))), ?_⟩
  refine ⟨_, rfl, _, _, _, _, true, rfl, .ty _, .base (.int _), kit_ty (by decide +kernel), _, rfl, iteT ?_⟩
  refine ⟨_, rfl, _, _, _, _, false, rfl, .ty _, .base (.int _), kit_ty (by decide +kernel), _, rfl, _, rfl, iteT ?_⟩
  refine ⟨_, rfl, _, _, rfl, rfl, _, rfl, ?_⟩
  rw [decide_eq_true (Int.natCast_nonneg i)]
  refine iteT ⟨_, rfl, _, _, rfl, rfl, ?_⟩
  show Q (.bl (decide ((i : Int) < n))) H
  rw [decide_eq_true (Int.ofNat_lt.mpr hi)]
  exact g
/-! ### is_pair, of a pair that may stand -/
def spIsPair (K : PySem.W.Frag) : Sp := fun vs H Q _ => ∃ (v u : V) (c : Code) (z : Str) (p : Nat × Nat), vs = [v, .str z, u] ∧ CodeAt K H v c ∧ Dt K H u (encP p) ∧ p.1 < p.2 ∧ p.2 < z.length ∧ z.length ≤ 12 ∧ mayB c z p.1 p.2 = true ∧ ∀ H', Same H H' → Q (.bl true) H'
theorem scIsPair : FnScope ["rules", "string", "thing", "one"] ["rules", "string", "thing"] (defScope sIsPair) := ⟨rfl, rfl, rfl, by decide +kernel, rfl, by decide +kernel, by decide +kernel⟩
theorem ok_isPair (F : Fun K "is_pair" "is_pair" sIsPair f fd) (T : Blt mg) (GL : Has P w K mg base "is_place" ["thing", "many"] (k + 2) spPlace) (GM : Has P w K mg base "may_pair" ["rules", "string", "i", "j"] (k + 2) (spMay K)) :
    FnOk P w K mg base CX0 (k + 3) f fd ["rules", "string", "thing"] (spIsPair K) := by
  refine F.ok scIsPair (fun vs H Q E h => ?_) (fun cdv A outer s H vs Q E hr h => ?_)
  · obtain ⟨v, u, c, z, p, rfl, _⟩ := h
    rfl
  obtain ⟨v, u, c, z, p, rfl, hc, hp, h1, h2, hz, hm, g⟩ := h
  obtain ⟨fL, fdL, gL, mL, kL, bL⟩ := GL
  obtain ⟨fM, fdM, gM, mM, kM, bM⟩ := GM
  obtain ⟨a, rfl, ha⟩ := hp.pair
  refine ⟨_, pss_cons (ps_if (PW.pt (pw_or (pt_not (pt_val (pe_callB call_isi (by rfl) T.isi PyProof.Rows.boot_isinstance (pa_cons (pv 2) (pa_cons (pe_bltn (v := .ty "tuple") (by rfl) T.tuple PyProof.Rows.boot_tuple rfl) pa_nil)))))
      (pw_or (pt_cmpR op_ne (pe_callB call_len_seq (by rfl) T.len PySem.boot_len (pa_cons (pv 2) pa_nil)) pe_int (nomark _))
      (pw_or1 (pt_not (pt_val (pe_callB (cr_all rfl) (by rfl) T.all PyProof.Rows.boot_all (pa_cons
        (pe_lc (own := [("one", 3)]) (g := gName 3) (tt := tYes) rfl scIsPair.nd (pi_tup (pv 2)) (blkOk_by (N := ["rules", "string", "thing", "one"]) (sc := defScope sIsPair) (by decide +kernel)) (fun _ _ _ _ _ => pg_name (i := 3) scIsPair.nd rfl (Or.inl rfl)) (fun _ _ _ _ _ => pts_nil)
          (fun _ _ _ _ _ => pe_call gL hr (by rfl) mL kL bL .nil pass0 (pa_cons (pv 3) (pa_cons (pe_callB call_len_str (by rfl) T.len PySem.boot_len (pa_cons (pv 1) pa_nil)) pa_nil)))) pa_nil))))))))
      (pss_one (ps_ret pe_bl)) pss_nil)
    (pss_one (ps_ret (pe_and (pe_cmpR op_lt (pe_ix ix_tup (pv 2) pe_int (fun _ _ => rfl)) (pe_ix ix_tup (pv 2) pe_int (fun _ _ => rfl)) (nomark _))
      (pe_one (pe_call gM hr (by rfl) mM kM bM .nil pass0 (pa_cons (pv 0) (pa_cons (pv 1) (pa_cons (pe_ix ix_tup (pv 2) pe_int (fun _ _ => rfl)) (pa_cons (pe_ix ix_tup (pv 2) pe_int (fun _ _ => rfl)) pa_nil))))))))), ?_⟩
  refine ⟨_, rfl, _, _, _, _, true, rfl, .ty _, tyx_tup ha, kit_ty (by decide +kernel), _, rfl, iteF ?_⟩
  refine ⟨_, rfl, a, _, rfl, .inr ha, rfl, _, rfl, iteNS rfl ?_⟩
  refine ⟨_, rfl, a, rfl, ⟨_, ha⟩, fun D nD => ?_⟩
  refine lc_tup (K := K) (a := a) (xs := [.int p.1, .int p.2]) (fun i H' => Same H H' ∧ H' D = some (.lst (List.replicate i (V.bl true)))) ⟨same_new _ nD, upd_same⟩ (fun i H' _ h => (TK.same h.1).sq ha) ?_ ?_
  · intro i x H' hx hP
    obtain ⟨sm, hD⟩ := hP
    have hix : ∃ m : Nat, x = .int m ∧ m < z.length ∧ i < 2 := by
      match i, hx with
      | 0, hx => exact ⟨p.1, (Option.some.inj hx).symm, by omega, by decide⟩
      | 1, hx => exact ⟨p.2, (Option.some.inj hx).symm, h2, by decide⟩
      | n + 2, hx => simp at hx
    obtain ⟨m, rfl, hmz, hi2⟩ := hix
    refine ⟨rfl, ?_⟩
    refine ⟨_, rfl, _, rfl, z, rfl, sz (by omega), m, z.length, rfl, hmz, _, hD, ?_, ?_⟩
    · rw [List.length_replicate]
      exact szl (by omega)
    · refine ⟨same_fresh _ sm nD, ?_⟩
      rw [upd_same, List.replicate_succ']
  · intro H' hP
    obtain ⟨sm, hD⟩ := hP
    refine ⟨D, [true, true], rfl, SqL.of hD, _, rfl, iteF ?_⟩
    have ha' : SqT K H' a [.int p.1, .int p.2] := (TK.same sm).sq ha
    refine ⟨_, rfl, a, _, 0, _, rfl, rfl, ha', atI_nat (j := 0) rfl, _, rfl, a, _, 1, _, rfl, rfl, ha', atI_nat (j := 1) rfl, _, _, rfl, rfl, _, rfl, ?_⟩
    rw [decide_eq_true (Int.ofNat_lt.mpr h1)]
    refine iteT ⟨_, rfl, _, rfl, _, rfl, a, _, 0, _, rfl, rfl, ha', atI_nat (j := 0) rfl, _, rfl, a, _, 1, _, rfl, rfl, ha', atI_nat (j := 1) rfl, ?_⟩
    refine ⟨v, c, z, p.1, p.2, rfl, hc.keep (TK.same sm), by omega, h2, hz, fun H2 sm2 => ?_⟩
    rw [hm]
    exact g H2 (sm.trans sm2)
end
end K14
/-! free_within, kind_of, straight_within. -/
namespace K14
open PySem L2

abbrev sStraight : Stmt := top 18

theorem pairs_at {K : PySem.W.Frag} {H : Hp} {xs : List V} {ps : List (Nat × Nat)} {i : Nat} {x : V} (h : DtAll K H xs (ps.map encP)) (hx : xs[i]? = some x) : ∃ p t, ps[i]? = some p ∧ x = .ref t ∧ SqT K H t [.int p.1, .int p.2] := by
  obtain ⟨d, hd, hdx⟩ := h.get hx
  rw [List.getElem?_map] at hd
  cases e : ps[i]? with
  | none =>
    rw [e] at hd
    cases hd
  | some p =>
    rw [e] at hd
    cases hd
    obtain ⟨t, rfl, ht⟩ := hdx.pair
    exact ⟨p, t, rfl, rfl, ht⟩
theorem lay_pairs : ∀ ps : List (Nat × Nat), PyData.canLayAll0 (ps.map encP) = true
  | [] => rfl
  | p :: ps => by
    rw [List.map_cons, PyData.canLayAll0, lay_pairs ps]
    rfl
theorem depth_pairs : ∀ ps : List (Nat × Nat), PyData.depthAll (ps.map encP) ≤ 1
  | [] => Nat.zero_le _
  | p :: ps => by
    rw [List.map_cons, PyData.depthAll]
    have h := depth_pairs ps
    have e : (encP p).depth = 1 := by simp [encP, PyData.depth, PyData.depthAll]
    rw [e]
    omega
theorem shaped_list (ps : List (Nat × Nat)) : SeqAt.shaped (.list (ps.map encP)) = true := by
  have h := depth_pairs ps
  have e : (PyData.list (ps.map encP)).depth = PyData.depthAll (ps.map encP) + 1 := by simp [PyData.depth]
  have l : (PyData.list (ps.map encP)).canLay0 = true := by simp [PyData.canLay0, lay_pairs]
  unfold SeqAt.shaped
  rw [l, e, Bool.true_and]
  exact decide_eq_true (by omega)
theorem shaped_tuple (ps : List (Nat × Nat)) : SeqAt.shaped (.tuple (ps.map encP)) = true := by
  have h := depth_pairs ps
  have e : (PyData.tuple (ps.map encP)).depth = PyData.depthAll (ps.map encP) + 1 := by simp [PyData.depth]
  have l : (PyData.tuple (ps.map encP)).canLay0 = true := by simp [PyData.canLay0, lay_pairs]
  unfold SeqAt.shaped
  rw [l, e, Bool.true_and]
  exact decide_eq_true (by omega)
theorem take_next {α : Type} {l : List α} {i : Nat} {x : α} (h : l[i]? = some x) : l.take (i + 1) = l.take i ++ [x] := by
  rw [List.take_add_one, h]
  rfl

section
variable {P : Program} {w : World} {K : PySem.W.Frag} {mg : Str → Option Value} {base : Heap} {k : Nat} {f : Addr} {fd : FuncData}
/-! ### free_within -/
def spFreeW (K : PySem.W.Frag) : Sp := fun vs H Q _ => ∃ (v : V) (l : Addr) (p : Nat × Nat) (ks : List (Nat × Nat)) (xs : List V), vs = [v, .ref l] ∧ Dt K H v (encP p) ∧ H l = some (.lst xs) ∧ DtAll K H xs (ks.map encP) ∧ ks.length ≤ 12 ∧ ∀ H', Same H H' → Q (.int (freeIn p ks)) H'
theorem scFreeW : FnScope ["pair", "inner", "first", "last"] ["pair", "inner"] (defScope sFreeW) := ⟨rfl, rfl, rfl, by decide +kernel, rfl, by decide +kernel, by decide +kernel⟩
theorem ok_freeW (F : Fun K "free_within" "free_within" sFreeW f fd) (T : Blt mg) : FnOk P w K mg base CX0 (k + 1) f fd ["pair", "inner"] (spFreeW K) := by
  refine F.ok scFreeW (fun vs H Q E h => ?_) (fun cdv A outer s H vs Q E hr h => ?_)
  · obtain ⟨v, l, p, ks, xs, rfl, _⟩ := h
    rfl
  obtain ⟨v, l, p, ks, xs, rfl, hp, hl, hx, hk, g⟩ := h
  obtain ⟨a, rfl, ha⟩ := hp.pair
  have hlen : xs.length = ks.length := by rw [hx.length, List.length_map]
  refine ⟨_, pss_one (ps_ret (pe_op op_sub (pe_op op_sub (pe_op op_sub (pe_ix ix_tup (pv 0) pe_int (fun _ _ => rfl)) (pe_ix ix_tup (pv 0) pe_int (fun _ _ => rfl))) pe_int)
    (pe_callB (cr_sum rfl) (by rfl) T.sum PyProof.Rows.boot_sum (pa_cons
      (pe_lc (own := [("first", 2), ("last", 3)]) (g := gTup K 2 (gCons (gName 2) (gCons (gName 3) gNil))) (tt := tYes) rfl scFreeW.nd (pi_list (pv 1)) (blkOk_by (N := ["pair", "inner", "first", "last"]) (sc := defScope sFreeW) (by decide +kernel))
        (fun _ _ _ _ _ => pg_tup rfl (pgs_cons (pg_name (i := 2) scFreeW.nd rfl (Or.inl rfl)) (pgs_cons (pg_name (i := 3) scFreeW.nd rfl (Or.inl rfl)) pgs_nil))) (fun _ _ _ _ _ => pts_nil)
        (fun _ _ _ _ _ => pe_op op_add (pe_op op_sub (pv 3) (pv 2)) pe_int)) pa_nil)))), ?_⟩
  refine ⟨_, rfl, a, _, 1, _, rfl, rfl, ha, atI_nat (j := 1) rfl, _, rfl, a, _, 0, _, rfl, rfl, ha, atI_nat (j := 0) rfl, _, _, rfl, rfl, _, _, rfl, rfl, _, rfl, l, rfl, ⟨_, SqL.of hl⟩, fun D nD => ?_⟩
  refine lc_list (K := K) (a := l) (xs := xs) (fun i H' => Same H H' ∧ H' D = some (.lst (((ks.take i).map width).map V.int))) ⟨same_new _ nD, upd_same⟩ (fun i H' _ h => h.1.seq (SqL.of hl)) ?_ ?_
  · intro i x H' hxi hP
    obtain ⟨sm, hD⟩ := hP
    obtain ⟨q, t, hq, rfl, ht⟩ := pairs_at hx hxi
    have ht' := (TK.same sm).sq ht
    have hlt : i < ks.length := (List.getElem?_eq_some_iff.mp hq).1
    refine ⟨t, _, rfl, ht', rfl, _, _, rfl, _, _, rfl, rfl, rfl, ?_⟩
    refine ⟨_, rfl, _, rfl, _, _, rfl, rfl, _, _, rfl, rfl, _, hD, ?_, ?_⟩
    · rw [List.length_map, List.length_map, List.length_take]
      exact szl (by omega)
    · refine ⟨same_fresh _ sm nD, ?_⟩
      rw [upd_same, take_next hq, List.map_append, List.map_append]
      rfl
  · intro H' hP
    obtain ⟨sm, hD⟩ := hP
    rw [hlen, List.take_length] at hD
    exact ⟨D, _, rfl, SqL.of hD, _, _, rfl, rfl, g H' sm⟩
/-! ### kind_of -/
def kindS (n : Nat) (fr : Int) : Str := if n = 0 then ("lone" : Str) else if 1 < n then ("forked" : Str) else if fr = 0 then ("stacked" : Str) else ("inner" : Str)
def spKind (K : PySem.W.Frag) : Sp := fun vs H Q _ => ∃ (l : Addr) (fr : Int) (ks : List (Nat × Nat)) (xs : List V), vs = [.ref l, .int fr] ∧ H l = some (.lst xs) ∧ DtAll K H xs (ks.map encP) ∧ ∀ H', Same H H' → Q (.str (kindS ks.length fr)) H'
theorem scKind : FnScope ["inner", "free"] ["inner", "free"] (defScope sKind) := ⟨rfl, rfl, rfl, by decide +kernel, rfl, by decide +kernel, by decide +kernel⟩
theorem eqv_nil (ps : List PyData) : PyData.eqv (.list ps) (.list []) = ps.isEmpty := by
  cases ps <;> rfl
theorem ok_kind (F : Fun K "kind_of" "kind_of" sKind f fd) (T : Blt mg) : FnOk P w K mg base CX0 (k + 1) f fd ["inner", "free"] (spKind K) := by
  refine F.ok scKind (fun vs H Q E h => ?_) (fun cdv A outer s H vs Q E hr h => ?_)
  · obtain ⟨l, fr, ks, xs, rfl, _⟩ := h
    rfl
  obtain ⟨l, fr, ks, xs, rfl, hl, hx, g⟩ := h
  have hu := hr.units
  have hlen : xs.length = ks.length := by rw [hx.length, List.length_map]
  refine ⟨_, pss_cons (ps_if (pt_cmpR (op_eqD hu) (pv 0) (pe_lst pa_nil) (nomark _)) (pss_one (ps_ret pe_str)) pss_nil)
    (pss_cons (ps_if (pt_cmpR op_gt (pe_callB call_len_seq (by rfl) T.len PySem.boot_len (pa_cons (pv 0) pa_nil)) pe_int (nomark _)) (pss_one (ps_ret pe_str)) pss_nil)
    (pss_one (ps_ret (pe_ifExp (pt_cmpR op_eq (pv 1) pe_int (nomark _)) pe_str pe_str)))), ?_⟩
  refine ⟨_, rfl, Nat.zero_le _, fun p np => ?_⟩
  have sm : Same H (upd H p (.lst [])) := same_new _ np
  have hl' := sm _ _ hl
  refine ⟨.list (ks.map encP), .list [], .lst (SqL.of hl') (hx.keep (TK.same sm)).dp, .lst (SqL.of upd_same) .nil, shaped_list ks, rfl, _, rfl, ?_⟩
  rw [eqv_nil]
  cases ks with
  | nil => exact iteT (g _ sm)
  | cons y ks =>
    refine iteF ?_
    refine ⟨_, rfl, l, _, rfl, .inl (SqL.of hl'), _, _, rfl, rfl, _, rfl, ?_⟩
    have e0 : ¬ (y :: ks).length = 0 := Nat.succ_ne_zero _
    unfold kindS at g
    rw [if_neg e0] at g
    refine ite2 (fun e => ?_) (fun e => ?_)
    · have e1 : 1 < (y :: ks).length := by
        have := of_decide_eq_true e
        rw [hlen] at this
        omega
      rw [if_pos e1] at g
      exact g _ sm
    · have e1 : ¬ 1 < (y :: ks).length := fun h => e (decide_eq_true (by rw [hlen]; omega))
      rw [if_neg e1] at g
      refine ⟨_, rfl, rfl, _, rfl, ?_⟩
      rw [dec_int]
      refine ite2 (fun e => ?_) (fun e => ?_)
      · have e2 : fr = 0 := eq_of_beq e
        rw [if_pos e2] at g
        exact g _ sm
      · have e2 : ¬ fr = 0 := fun h => e (by rw [h]; rfl)
        rw [if_neg e2] at g
        exact g _ sm
/-! ### straight_within -/
/-- the second argument: None, or a pair -/
def ArgP (K : PySem.W.Frag) (H : Hp) (v : V) (first : Int) (last : Option Int) : Prop := (v = .non ∧ first = -1 ∧ last = none) ∨ ∃ p : Nat × Nat, Dt K H v (encP p) ∧ first = p.1 ∧ last = some (p.2 : Int)
def lastV (last : Option Int) : V := match last with
  | none => .non
  | some l => .int l
def spStraight (K : PySem.W.Frag) : Sp := fun vs H Q _ => ∃ (fv v : V) (ps : List (Nat × Nat)) (first : Int) (last : Option Int), vs = [fv, v] ∧ Dt K H fv (.tuple (ps.map encP)) ∧ ArgP K H v first last ∧ ps.length ≤ 12 ∧
  ∀ H' l xs, Same H H' → H l = none → H' l = some (.lst xs) → DtAll K H' xs ((sw last first ps).map encP) → Q (.ref l) H'
theorem scStraight : FnScope ["folding", "pair", "first", "last", "found", "end", "one"] ["folding", "pair"] (defScope sStraight) := ⟨rfl, rfl, rfl, by decide +kernel, rfl, by decide +kernel, by decide +kernel⟩
theorem ok_straight (F : Fun K "straight_within" "straight_within" sStraight f fd) : FnOk P w K mg base CX0 (k + 1) f fd ["folding", "pair"] (spStraight K) := by
  refine F.ok scStraight (fun vs H Q E h => ?_) (fun cdv A outer s H vs Q E hr h => ?_)
  · obtain ⟨fv, v, ps, first, last, rfl, _⟩ := h
    rfl
  obtain ⟨fv, v, ps, first, last, rfl, hf, hv, hps, g⟩ := h
  obtain ⟨a, xs, rfl, ha, hx⟩ := hf.tup_inv
  have hlen : xs.length = ps.length := by rw [hx.length, List.length_map]
  refine ⟨_, pss_cons (ps_asg (pe_ifExp (pt_cmpR op_isN (pv 1) pe_non (nomark _)) (pe_tup (pa_cons (pe_un un_neg pe_int) (pa_cons pe_non pa_nil))) (pv 1))
      (pg_tup rfl (pgs_cons (pg_name (i := 2) scStraight.nd rfl (Or.inl rfl)) (pgs_cons (pg_name (i := 3) scStraight.nd rfl (Or.inl rfl)) pgs_nil))))
    (pss_cons (ps_set (i := 4) scStraight.nd rfl (Or.inl rfl) (pe_lst pa_nil))
    (pss_cons (ps_set (i := 5) scStraight.nd rfl (Or.inl rfl) (pv 2))
    (pss_cons (ps_for PassesOwn.never rfl (pi_tup (pv 0)) (pg_name (i := 6) scStraight.nd rfl (Or.inl rfl))
      (pss_one (ps_if (PW.pt (pw_and (pt_cmpR op_gt (pe_ix ix_tup (pv 6) pe_int (fun _ _ => rfl)) (pv 5) (nomark _)) (pw_and1 (PW.pt (pw_or (pt_cmpR op_isN (pv 3) pe_non (nomark _)) (pw_or1 (pt_cmpR op_lt (pe_ix ix_tup (pv 6) pe_int (fun _ _ => rfl)) (pv 3) (nomark _))))))))
        (pss_cons (ps_expr (pe_bm PySem.F.plainAttrs_list PySem.F.slot_list_append PySem.F.type_list_append mt_append (pv 4) (pa_cons (pv 6) pa_nil)))
        (pss_one (ps_set (i := 5) scStraight.nd rfl (Or.inl rfl) (pe_ix ix_tup (pv 6) pe_int (fun _ _ => rfl))))) pss_nil)))
    (pss_one (ps_ret (pv 4)))))), ?_⟩
  -- behind the first row
  have main : ∀ H1, Same H H1 → ∀ l, H1 l = none → ∀ x6, ∃ W : Nat → Nat → L2.St → Hp → Prop, (∃ m, W 0 m [some (.ref a), some v, some (.int first), some (lastV last), some (.ref l), some (.int first), x6] (upd H1 l (.lst []))) ∧ ∀ i m σ H2, W i m σ H2 →
      ((Itt K a).stop i H2 ∧ tRet (tVar 4) { nx := fun _ H' => Q .non H', rt := Q } σ H2) ∨ ((Itt K a).go i H2 ∧ ∃ N : L2.St → Hp → Prop, (∀ σ' H', N σ' H' → ∃ m', m' < m ∧ W (i + 1) m' σ' H') ∧ ∀ x H', (Itt K a).yld i H2 x H' → gName 6 x σ H' fun σ2 H3 =>
        tIfS (tAnd (tTest (tOp (rI0 fun i j => .bl (decide (j < i))) (tOp (rIxT K) (tVar 6) (tC (.int 0))) (tVar 5))) (tOr (tTest (tOp (fun x y H Q => y = .non ∧ Q (.bl (decide (x = .non))) H) (tVar 3) (tC .non))) (tTest (tOp (rI0 fun i j => .bl (decide (i < j))) (tOp (rIxT K) (tVar 6) (tC (.int 1))) (tVar 3)))))
          (tSeq (tDrop (tBM K "list" rAppend (tVar 4) (tCons (tVar 6) tNil))) (tAsg (tOp (rIxT K) (tVar 6) (tC (.int 1))) (gName 5))) tNext
          { nx := N, ct := N, bk := tRet (tVar 4) { nx := fun _ H' => Q .non H', rt := Q }, rt := Q } σ2 H3) := by
    intro H1 s1 l nl x6
    have ha1 : SqT K H1 a xs := (TK.same s1).sq ha
    have nlH : H l = none := s1.free nl
    refine for_tup (K := K) (a := a) (xs := xs) (D := { nx := tRet (tVar 4) { nx := fun _ H' => Q .non H', rt := Q }, rt := Q }) (fun i σ H2 => ∃ (e : Int) (y6 : Option V) (ys : List V) (gs : List (Nat × Nat)), σ = [some (.ref a), some v, some (.int first), some (lastV last), some (.ref l), some (.int e), y6] ∧ Same H H2 ∧ H2 l = some (.lst ys) ∧ DtAll K H2 ys (gs.map encP) ∧
        gs.length ≤ i ∧ gs ++ sw last e (ps.drop i) = sw last first ps) ?_ ?_ ?_ ?_
    · exact ⟨first, x6, [], [], rfl, s1.trans (same_new _ nl), upd_same, .nil, Nat.le_refl _, rfl⟩
    · rintro i σ H2 _ ⟨e, y6, ys, gs, _, sm, _⟩
      exact (TK.same sm).sq ha
    · rintro i x σ H2 hxi ⟨e, y6, ys, gs, rfl, sm, hy, hd, hgl, heq⟩
      obtain ⟨p, t, hp, rfl, ht⟩ := pairs_at hx hxi
      have ht2 := (TK.same sm).sq ht
      have hlt : i < ps.length := (List.getElem?_eq_some_iff.mp hp).1
      have hdrop : ps.drop i = p :: ps.drop (i + 1) := by
        rw [List.drop_eq_getElem_cons hlt]
        rw [List.getElem?_eq_getElem hlt] at hp
        rw [Option.some.inj hp]
      rw [hdrop] at heq
      have keepit : ¬ (e < (p.1 : Int) ∧ ∀ l, last = some l → (p.2 : Int) < l) → ∃ (e' : Int) (y6 : Option V) (ys : List V) (gs : List (Nat × Nat)), [some (.ref a), some v, some (.int first), some (lastV last), some (.ref l), some (.int e), some (.ref t)] = [some (.ref a), some v, some (.int first), some (lastV last), some (.ref l), some (.int e'), y6] ∧ Same H H2 ∧ H2 l = some (.lst ys) ∧ DtAll K H2 ys (gs.map encP) ∧
        gs.length ≤ i + 1 ∧ gs ++ sw last e' (ps.drop (i + 1)) = sw last first ps := fun hn => by
        refine ⟨e, _, ys, gs, rfl, sm, hy, hd, Nat.le_succ_of_le hgl, ?_⟩
        rw [sw, if_neg hn] at heq
        exact heq
      have takeit : (e < (p.1 : Int) ∧ ∀ l, last = some l → (p.2 : Int) < l) → tSeq (tDrop (tBM K "list" rAppend (tVar 4) (tCons (tVar 6) tNil))) (tAsg (tOp (rIxT K) (tVar 6) (tC (.int 1))) (gName 5))
          { nx := fun σ H2 => ∃ (e : Int) (y6 : Option V) (ys : List V) (gs : List (Nat × Nat)), σ = [some (.ref a), some v, some (.int first), some (lastV last), some (.ref l), some (.int e), y6] ∧ Same H H2 ∧ H2 l = some (.lst ys) ∧ DtAll K H2 ys (gs.map encP) ∧
        gs.length ≤ i + 1 ∧ gs ++ sw last e (ps.drop (i + 1)) = sw last first ps, rt := Q } [some (.ref a), some v, some (.int first), some (lastV last), some (.ref l), some (.int e), some (.ref t)] H2 := fun hc => by
        refine ⟨_, rfl, .inl ⟨rfl, _, SqL.of hy⟩, _, rfl, l, ys, _, rfl, rfl, hy, ?_, ?_⟩
        · rw [hd.length, List.length_map]
          exact szl (by omega)
        · have k2 : TK H2 (upd H2 l (.lst (ys ++ [.ref t]))) := TK.lst _ hy
          refine ⟨_, rfl, t, _, 1, _, rfl, rfl, k2.sq ht2, atI_nat (j := 1) rfl, p.2, _, ys ++ [.ref t], gs ++ [p], rfl, same_fresh _ sm nlH, upd_same, ?_, ?_, ?_⟩
          · rw [List.map_append]
            exact (hd.keep k2).append (.one (Dt.of_pair (k2.sq ht2)))
          · rw [List.length_append]
            exact Nat.succ_le_succ hgl
          · rw [sw, if_pos hc] at heq
            rw [List.append_assoc]
            exact heq
      refine ⟨_, rfl, t, _, 0, _, rfl, rfl, ht2, atI_nat (j := 0) rfl, _, rfl, _, _, rfl, rfl, _, rfl, ?_⟩
      refine ite2 (fun c1 => ?_) (fun c1 => ?_)
      · have c1' : e < (p.1 : Int) := of_decide_eq_true c1
        refine ⟨_, rfl, rfl, _, rfl, ?_⟩
        cases hlast : last with
        | none =>
          rw [hlast] at takeit
          refine iteT (iteT (takeit ⟨c1', fun l h => nomatch h⟩))
        | some lz =>
          rw [hlast] at takeit keepit
          refine iteF ⟨_, rfl, t, _, 1, _, rfl, rfl, ht2, atI_nat (j := 1) rfl, _, rfl, _, _, rfl, rfl, _, rfl, ?_⟩
          refine ite2 (fun c2 => ?_) (fun c2 => ?_)
          · exact takeit ⟨c1', fun l h => by cases h; exact of_decide_eq_true c2⟩
          · exact keepit fun h => c2 (decide_eq_true (h.2 _ rfl))
      · exact iteF (keepit fun h => c1 (decide_eq_true h.1))
    · rintro σ H2 ⟨e, y6, ys, gs, rfl, sm, hy, hd, hgl, heq⟩
      rw [hlen, List.drop_length] at heq
      simp only [sw, List.append_nil] at heq
      rw [heq] at hd
      exact ⟨_, rfl, g H2 l ys sm nlH hy hd⟩
  refine ⟨_, rfl, rfl, _, rfl, ?_⟩
  rcases hv with ⟨rfl, rfl, rfl⟩ | ⟨p, hp, rfl, rfl⟩
  · refine iteT ⟨1, rfl, (by show 2 ≤ sizeLine; decide), fun q nq => ?_⟩
    refine ⟨q, _, rfl, SqT.of upd_same, rfl, _, _, rfl, _, _, rfl, rfl, Nat.zero_le _, fun l nl => ?_⟩
    have s1 : Same H (upd H q (.tup [.int (-1), .non])) := same_new _ nq
    exact ⟨_, rfl, _, rfl, a, rfl, ⟨_, (TK.same (s1.trans (same_new _ nl))).sq ha⟩, main _ s1 l nl none⟩
  · obtain ⟨b, rfl, hb⟩ := hp.pair
    refine iteF ⟨_, rfl, b, _, rfl, hb, rfl, _, _, rfl, _, _, rfl, rfl, Nat.zero_le _, fun l nl => ?_⟩
    exact ⟨_, rfl, _, rfl, a, rfl, ⟨_, (TK.same (same_new _ nl)).sq ha⟩, main _ (Same.refl H) l nl none⟩
end
end K14
/-! brackets, pairs_in. -/
namespace K14
open PySem L2

abbrev sBrackets : Stmt := top 15
abbrev sPairsIn : Stmt := top 16

def s1 (c : Nat) : Str := ⟨#[c]⟩
open TL in
theorem joinL_nil : ∀ cs : List Nat, joinL [] (cs.map fun c => [c]) = cs
  | [] => rfl
  | [c] => rfl
  | c :: d :: r => by
    show [c] ++ ([] ++ joinL [] ((d :: r).map fun c => [c])) = c :: d :: r
    rw [joinL_nil (d :: r)]
    rfl
open TL in
theorem join_signs (cs : List Nat) : Txt.join (Str.ofString "") (cs.map s1) = ⟨cs.toArray⟩ := by
  have h : tl (Txt.join (Str.ofString "") (cs.map s1)) = cs := by
    rw [join_eq, tl_join, List.map_map]
    exact joinL_nil cs
  rw [← mk_tl (Txt.join (Str.ofString "") (cs.map s1)), h]
theorem lens_signs : ∀ cs : List Nat, ((cs.map s1).map (·.length)).sum = cs.length
  | [] => rfl
  | c :: r => by
    rw [List.map_cons, List.map_cons, List.sum_cons, lens_signs r, List.length_cons]
    show 1 + r.length = r.length + 1
    omega
theorem sOpen : ("(" : Str) = s1 40 := by decide +kernel
theorem sShut : (")" : Str) = s1 41 := by decide +kernel
theorem sFree : ("." : Str) = s1 46 := by decide +kernel

section
variable {P : Program} {w : World} {K : PySem.W.Frag} {mg : Str → Option Value} {base : Heap} {k : Nat} {f : Addr} {fd : FuncData}
/-! ### brackets -/
def vS (cs : List Nat) : List V := cs.map fun c => V.str (s1 c)
theorem vS_set (cs : List Nat) (i c : Nat) : (vS cs).set i (.str (s1 c)) = vS (cs.set i c) := by
  unfold vS
  rw [List.map_set]
theorem ixN_nat {n i : Nat} (h : i < n) : ixN n (i : Int) = some i := by
  unfold ixN
  rw [if_pos (Int.natCast_nonneg i), if_pos (Int.ofNat_lt.mpr h)]
  rfl
theorem mark_len (z : List Nat) (p : Nat × Nat) : (mark z p).length = z.length := by simp [mark]
theorem marks_len : ∀ (ps : List (Nat × Nat)) (z : List Nat), (ps.foldl mark z).length = z.length
  | [], _ => rfl
  | p :: ps, z => by rw [List.foldl_cons, marks_len ps, mark_len]
def spBrackets (K : PySem.W.Frag) : Sp := fun vs H Q _ => ∃ (z : Str) (v : V) (ps : List (Nat × Nat)), vs = [.str z, v] ∧ Dt K H v (.tuple (ps.map encP)) ∧ z.length ≤ 12 ∧ (∀ p ∈ ps, p.1 < z.length ∧ p.2 < z.length) ∧
  ∀ H', Same H H' → Q (.str ⟨(ps.foldl mark (dots z.length)).toArray⟩) H'
theorem scBrackets : FnScope ["string", "folding", "found", "first", "last", "sign"] ["string", "folding"] (defScope sBrackets) := ⟨rfl, rfl, rfl, by decide +kernel, rfl, by decide +kernel, by decide +kernel⟩
theorem ok_brackets (F : Fun K "brackets" "brackets" sBrackets f fd) (C : Cst K mg) : FnOk P w K mg base CX0 (k + 1) f fd ["string", "folding"] (spBrackets K) := by
  refine F.ok scBrackets (fun vs H Q E h => ?_) (fun cdv A outer s H vs Q E hr h => ?_)
  · obtain ⟨z, v, ps, rfl, _⟩ := h
    rfl
  obtain ⟨z, v, ps, rfl, hv, hz, hps, g⟩ := h
  obtain ⟨a, xs, rfl, ha, hx⟩ := hv.tup_inv
  have hlen : xs.length = ps.length := by rw [hx.length, List.length_map]
  obtain ⟨t1, mO⟩ := C.op
  obtain ⟨t2, mS⟩ := C.sh
  obtain ⟨t3, mF⟩ := C.fr
  refine ⟨_, pss_cons (ps_setLc (i := 2) (own := [("sign", 5)]) (g := gName 5) (tt := tYes) (te := tC (.str (s1 46))) rfl scBrackets.nd rfl rfl (sw_true rfl rfl rfl (by decide +kernel)) (pi_str (pv 0)) (blkOk_by (N := ["string", "folding", "found", "first", "last", "sign"]) (sc := defScope sBrackets) (by decide +kernel))
      (fun _ _ _ _ _ => pg_name (i := 5) scBrackets.nd rfl (Or.inl rfl)) (fun _ _ _ _ _ => pts_nil) (fun _ _ _ _ _ => pe_glob (by rfl) mF ⟨t3, by rw [sFree]⟩))
    (pss_cons (ps_for PassesOwn.never rfl (pi_tup (pv 1)) (pg_tup rfl (pgs_cons (pg_name (i := 3) scBrackets.nd rfl (Or.inl rfl)) (pgs_cons (pg_name (i := 4) scBrackets.nd rfl (Or.inl rfl)) pgs_nil)))
      (pss_cons (ps_asg (pe_glob (v := .str (s1 40)) (by rfl) mO ⟨t1, by rw [sOpen]⟩) (pg_sub (pv 2) (pv 3) set_list))
      (pss_one (ps_asg (pe_glob (v := .str (s1 41)) (by rfl) mS ⟨t2, by rw [sShut]⟩) (pg_sub (pv 2) (pv 4) set_list)))))
    (pss_one (ps_ret (pe_join pe_str (pv 2))))), ?_⟩
  refine ⟨_, rfl, z, rfl, fun D nD => ?_⟩
  refine lc_it walk_str (fun i H' => Same H H' ∧ H' D = some (.lst (vS (dots i)))) ⟨same_new _ nD, upd_same⟩ (fun _ _ _ _ => trivial) ?_ ?_
  · rintro i x H' H'' hi ⟨sm, hD⟩ ⟨rfl, c, hc, rfl⟩
    have hi' : i < z.length := hi
    refine ⟨rfl, ?_⟩
    refine ⟨_, hD, ?_, same_fresh _ sm nD, ?_⟩
    · unfold vS dots
      rw [List.length_map, List.length_replicate]
      exact szl (by omega)
    · rw [upd_same]
      unfold vS dots
      rw [List.replicate_succ', List.map_append]
      rfl
  · rintro H1 ⟨s1', hD1⟩
    refine ⟨_, rfl, a, rfl, ⟨_, (TK.same s1').sq ha⟩, ?_⟩
    refine for_tup (K := K) (a := a) (xs := xs) (fun i σ H2 => ∃ (y3 y4 : Option V), σ = [some (.str z), some (.ref a), some (.ref D), y3, y4, none] ∧ Same H H2 ∧ H2 D = some (.lst (vS ((ps.take i).foldl mark (dots z.length))))) ?_ ?_ ?_ ?_
    · exact ⟨none, none, rfl, s1', hD1⟩
    · rintro i σ H2 _ ⟨_, _, _, sm, _⟩
      exact (TK.same sm).sq ha
    · rintro i x σ H2 hxi ⟨y3, y4, rfl, sm, hD⟩
      obtain ⟨p, t, hp, rfl, ht⟩ := pairs_at hx hxi
      obtain ⟨h1, h2⟩ := hps p (List.mem_of_getElem? hp)
      have hl1 : (vS ((ps.take i).foldl mark (dots z.length))).length = z.length := by
        unfold vS
        rw [List.length_map, marks_len]
        unfold dots
        rw [List.length_replicate]
      refine ⟨t, _, rfl, (TK.same sm).sq ht, rfl, _, _, rfl, _, _, rfl, rfl, ?_⟩
      refine ⟨_, rfl, _, rfl, D, _, _, p.1, rfl, rfl, hD, ixN_nat (by rw [hl1]; exact h1), ?_⟩
      refine ⟨_, rfl, _, rfl, D, _, _, p.2, rfl, rfl, upd_same, ixN_nat (by rw [List.length_set, hl1]; exact h2), ?_⟩
      refine ⟨_, _, rfl, same_fresh _ (same_fresh _ sm nD) nD, ?_⟩
      rw [upd_same, vS_set, vS_set, take_next hp, List.foldl_append]
      rfl
    · rintro σ H2 ⟨y3, y4, rfl, sm, hD⟩
      rw [hlen, List.take_length] at hD
      have hl1 : (ps.foldl mark (dots z.length)).length = z.length := by
        rw [marks_len]
        unfold dots
        rw [List.length_replicate]
      refine ⟨⟨_, rfl⟩, _, rfl, _, D, (ps.foldl mark (dots z.length)).map s1, rfl, rfl, .inl (SqL.of ?_), ?_, ?_⟩
      · rw [List.map_map]
        exact hD
      · rw [lens_signs, List.length_map, hl1]
        show z.length + z.length * 0 ≤ 16777216
        omega
      · rw [join_signs]
        exact g H2 sm
end
end K14
/-! pairs_in. -/
namespace K14
open PySem L2

theorem iteY {c A B : Prop} [Decidable c] (hc : c) (h : A) : if (decide c) = true then A else B := by
  rw [decide_eq_true hc]
  exact iteT h
theorem iteN {c A B : Prop} [Decidable c] (hc : ¬ c) (h : B) : if (decide c) = true then A else B := by
  rw [decide_eq_false hc]
  exact iteF h
theorem iteNY {c A B : Prop} [Decidable c] (hc : ¬ c) (h : A) : if (!decide c) = true then A else B := by
  rw [decide_eq_false hc]
  exact iteT h

/-! ### the sorted pairs are the folding -/
theorem sort_flat {bs : List (V × (Nat × Nat))} {t : F} {lo hi : Nat} (hw : WF lo hi t) (hp : (bs.map (·.2)).Perm (flat t)) : (bs.mergeSort (PySem.W.dataLe false fun b => encP b.2)).map (·.2) = flat t := by
  have e : (PySem.W.dataLe false fun b : V × (Nat × Nat) => encP b.2) = fun p q => decide (((p.2.1 : Nat) : Int) < q.2.1 ∨ ((p.2.1 : Nat) : Int) = q.2.1 ∧ ((p.2.2 : Nat) : Int) ≤ q.2.2) := PySem.W.dataLe_ii (fun b : V × (Nat × Nat) => (b.2.1 : Int)) (fun b => (b.2.2 : Int))
  have pm := List.mergeSort_perm bs (PySem.W.dataLe false fun b => encP b.2)
  have pw1 : (bs.mergeSort (PySem.W.dataLe false fun b => encP b.2)).Pairwise (fun p q => (PySem.W.dataLe false fun b : V × (Nat × Nat) => encP b.2) p q = true) := by
    refine List.pairwise_mergeSort (fun a b c => ?_) (fun a b => ?_) bs
    · rw [e]
      simp only [decide_eq_true_eq]
      omega
    · rw [e]
      simp only [Bool.or_eq_true, decide_eq_true_eq]
      omega
  have p2 : ((bs.mergeSort (PySem.W.dataLe false fun b => encP b.2)).map (·.2)).Perm (flat t) := (pm.map _).trans hp
  have r1 := flat_rising hw
  refine rising_one p2 ?_ r1
  have nd : (((bs.mergeSort (PySem.W.dataLe false fun b => encP b.2)).map (·.2)).map (·.1)).Nodup := by
    refine (p2.map (·.1)).nodup_iff.mpr ?_
    refine List.pairwise_map.mpr (r1.imp fun h => ?_)
    exact Nat.ne_of_lt h
  have nd' : (bs.mergeSort (PySem.W.dataLe false fun b => encP b.2)).Pairwise (fun a b => a.2.1 ≠ b.2.1) := by
    have h1 := List.pairwise_map.mp nd
    exact (List.pairwise_map (f := fun b : V × (Nat × Nat) => b.2) (R := fun a b => a.1 ≠ b.1)).mp h1
  refine List.pairwise_map.mpr ((pw1.and nd').imp fun {a b} h => ?_)
  obtain ⟨h1, h2⟩ := h
  rw [e] at h1
  have h3 := of_decide_eq_true h1
  show a.2.1 < b.2.1
  omega
theorem alike_pairs {γ : Type} (g : γ → Nat × Nat) (bs : List γ) : PySem.W.AllAlike (bs.map fun b => encP (g b)) := PySem.W.AllAlike.of fun b b' => by
  simp [encP, PySem.W.alike, PySem.W.alikeAll]
theorem sortable_pairs {γ : Type} (g : γ → Nat × Nat) (bs : List γ) : PySem.W.Sortable (bs.map fun b => encP (g b)) := PySem.W.Sortable.tuples fun b => ⟨_, _, rfl⟩
theorem depth_pair (p : Nat × Nat) : (encP p).depth ≤ 8 := by simp [encP, PyData.depth, PyData.depthAll]
/-- the values with the pairs that they are -/
theorem zip_pairs {K : PySem.W.Frag} {H : Hp} : ∀ {xs : List V} {ps : List (Nat × Nat)}, DtAll K H xs (ps.map encP) → (xs.zip ps).map (·.1) = xs ∧ (xs.zip ps).map (·.2) = ps ∧ ∀ b ∈ xs.zip ps, Dt K H b.1 (encP b.2)
  | [], [], _ => ⟨rfl, rfl, fun b hb => by cases hb⟩
  | [], _ :: _, h => by cases h
  | _ :: _, [], h => by cases h
  | x :: xs, p :: ps, h => by
    cases h with
    | cons h t =>
      obtain ⟨a, b, c⟩ := zip_pairs t
      refine ⟨by rw [List.zip_cons_cons, List.map_cons, a], by rw [List.zip_cons_cons, List.map_cons, b], fun q hq => ?_⟩
      rw [List.zip_cons_cons] at hq
      rcases List.mem_cons.mp hq with rfl | hq
      · exact h
      · exact c q hq
theorem dt_zip {K : PySem.W.Frag} {H : Hp} : ∀ {bs : List (V × (Nat × Nat))}, (∀ b ∈ bs, Dt K H b.1 (encP b.2)) → DtAll K H (bs.map (·.1)) ((bs.map (·.2)).map encP)
  | [], _ => .nil
  | b :: bs, h => .cons (h b (List.mem_cons_self ..)) (dt_zip fun c hc => h c (List.mem_cons_of_mem _ hc))

section
variable {P : Program} {w : World} {K : PySem.W.Frag} {mg : Str → Option Value} {base : Heap} {k : Nat} {f : Addr} {fd : FuncData}
theorem ints_dp {H : Hp} : ∀ ws : List Nat, DpAll K H (ws.map fun (n : Nat) => V.int n) (ws.map fun (n : Nat) => PyData.int n)
  | [] => .nil
  | _ :: ws => .cons (.int _) (ints_dp ws)
theorem shaped_ints (ws : List Nat) : SeqAt.shaped (.list (ws.map fun (n : Nat) => PyData.int n)) = true := by
  have h1 : ∀ ws : List Nat, PyData.canLayAll0 (ws.map fun (n : Nat) => PyData.int n) = true := fun ws => by
    induction ws with
    | nil => rfl
    | cons n ws ih =>
      rw [List.map_cons, PyData.canLayAll0, ih]
      rfl
  have h2 : ∀ ws : List Nat, PyData.depthAll (ws.map fun (n : Nat) => PyData.int n) = 0 := fun ws => by
    induction ws with
    | nil => rfl
    | cons n ws ih =>
      rw [List.map_cons, PyData.depthAll, ih]
      rfl
  simp [SeqAt.shaped, PyData.canLay0, PyData.depth, h1, h2]
def spPairsIn (K : PySem.W.Frag) : Sp := fun vs H Q _ => ∃ (n : Nat) (t : F), vs = [.str ⟨(codes 0 n t).toArray⟩] ∧ WF 0 n t ∧ n ≤ 12 ∧ ∀ H' v, Same H H' → Dt K H' v (.tuple ((flat t).map encP)) → Q v H'
theorem scPairsIn : FnScope ["text", "found", "waiting", "place", "sign"] ["text"] (defScope sPairsIn) := ⟨rfl, rfl, rfl, by decide +kernel, rfl, by decide +kernel, by decide +kernel⟩
theorem ok_pairsIn (F : Fun K "pairs_in" "pairs_in" sPairsIn f fd) (C : Cst K mg) (T : Blt mg) : FnOk P w K mg base CX0 (k + 1) f fd ["text"] (spPairsIn K) := by
  refine F.ok scPairsIn (fun vs H Q E h => ?_) (fun cdv A outer s H vs Q E hr h => ?_)
  · obtain ⟨n, t, rfl, _⟩ := h
    rfl
  obtain ⟨n, t, rfl, hw, hn, g⟩ := h
  have hu := hr.units
  obtain ⟨t1, mO⟩ := C.op
  obtain ⟨t2, mS⟩ := C.sh
  obtain ⟨t3, mF⟩ := C.fr
  have hcl : (codes 0 n t).length = n := codes_len hw
  refine ⟨_, pss_cons (ps_set (i := 1) scPairsIn.nd rfl (Or.inl rfl) (pe_lst pa_nil))
    (pss_cons (ps_set (i := 2) scPairsIn.nd rfl (Or.inl rfl) (pe_lst pa_nil))
    (pss_cons (ps_for PassesOwn.never rfl (pi_enumS (by rfl) T.enum (pa_cons (pv 0) pa_nil)) (pg_tup rfl (pgs_cons (pg_name (i := 3) scPairsIn.nd rfl (Or.inl rfl)) (pgs_cons (pg_name (i := 4) scPairsIn.nd rfl (Or.inl rfl)) pgs_nil)))
      (pss_one (ps_if (pt_cmpR op_eq (pv 4) (pe_glob (v := .str (s1 40)) (by rfl) mO ⟨t1, by rw [sOpen]⟩) (nomark _))
        (pss_one (ps_expr (pe_bm PySem.F.plainAttrs_list PySem.F.slot_list_append PySem.F.type_list_append mt_append (pv 2) (pa_cons (pv 3) pa_nil))))
        (pss_one (ps_if (PW.pt (pw_and (pt_cmpR op_eq (pv 4) (pe_glob (v := .str (s1 41)) (by rfl) mS ⟨t2, by rw [sShut]⟩) (nomark _)) (pw_and1 (pt_cmpR (op_neD hu) (pv 2) (pe_lst pa_nil) (nomark _)))))
          (pss_one (ps_expr (pe_bm PySem.F.plainAttrs_list PySem.F.slot_list_append PySem.F.type_list_append mt_append (pv 1) (pa_cons (pe_tup (pa_cons (pe_bm0 PySem.F.plainAttrs_list PySem.F.slot_list_pop PySem.F.type_list_pop mt_pop (pv 2)) (pa_cons (pv 3) pa_nil))) pa_nil))))
          (pss_one (ps_if (pt_cmpR op_ne (pv 4) (pe_glob (v := .str (s1 46)) (by rfl) mF ⟨t3, by rw [sFree]⟩) (nomark _)) (pss_one (ps_ret pe_non)) pss_nil)))))))
    (pss_one (ps_ret (pe_ifExp (pt_cmpR (op_eqD hu) (pv 2) (pe_lst pa_nil) (nomark _))
      (pe_callTy call_tuple_of (by rfl) T.tuple PyProof.Rows.boot_tuple (pa_cons (pe_callB (cr_sortG hu encP) (by rfl) T.sorted PyProof.Rows.boot_sorted (pa_cons (pv 1) pa_nil)) pa_nil)) pe_non))))), ?_⟩
  refine ⟨Nat.zero_le _, fun fa nf => ?_⟩
  refine ⟨Nat.zero_le _, fun wa nw => ?_⟩
  have nfH : H fa = none := nf
  have nwf : wa ≠ fa := fun e => by
    rw [e, upd_same] at nw
    cases nw
  have nwH : H wa = none := (same_new _ nf).free nw
  have sm0 : Same H (upd (upd H fa (.lst [])) wa (.lst [])) := same_fresh _ (same_new _ nf) nwH
  refine ⟨_, rfl, _, rfl, ?_⟩
  refine for_it walk_enumS (fun i σ H2 => ∃ (fs : List (Nat × Nat)) (ws : List Nat) (y3 y4 : Option V) (xs : List V), σ = [some (.str ⟨(codes 0 n t).toArray⟩), some (.ref fa), some (.ref wa), y3, y4] ∧ Same H H2 ∧ H2 fa = some (.lst xs) ∧ DtAll K H2 xs (fs.map encP) ∧ H2 wa = some (.lst (ws.map fun (n : Nat) => V.int n)) ∧
      Run ((codes 0 n t).drop i) i (fs, ws) (post t, []) ∧ fs.length ≤ i ∧ ws.length ≤ i) ?_ (fun _ _ _ _ _ => trivial) ?_ ?_
  · refine ⟨[], [], none, none, [], rfl, sm0, ?_, .nil, upd_same, run_all hw, Nat.le_refl _, Nat.le_refl _⟩
    rw [upd_ne nwf.symm, upd_same]
  · rintro i x σ H2 H3 hi ⟨fs, ws, y3, y4, xs, rfl, sm, hf, hd, hwv, hrun, hlf, hlw⟩ ⟨T0, a1, a2, rfl, nT, rfl, e1, e2⟩
    have hi' : i < (codes 0 n t).length := by
      have : i < (codes 0 n t).toArray.size := hi
      rwa [List.size_toArray] at this
    have hin : i < n := by omega
    have hdrop : (codes 0 n t).drop i = (codes 0 n t)[i] :: (codes 0 n t).drop (i + 1) := List.drop_eq_getElem_cons hi'
    have e1' : a1 = .int (i : Nat) := (Option.some.inj e1).symm
    have e2' : a2 = .str (s1 (codes 0 n t)[i]) := by
      have e3 : (Str.mk (codes 0 n t).toArray).cps[i]? = some (codes 0 n t)[i] := by simp [hi']
      have e4 : Option.map (fun c => V.str ⟨#[c]⟩) (Str.mk (codes 0 n t).toArray).cps[i]? = some a2 := e2
      rw [e3] at e4
      exact (Option.some.inj e4).symm
    subst e1' e2'
    rw [hdrop] at hrun
    generalize (codes 0 n t)[i] = c at hrun hdrop ⊢
    have s3 : Same H2 (upd H2 T0 (.tup [.int (i : Nat), .str (s1 c)])) := same_new _ nT
    have hf3 := s3 _ _ hf
    have hw3 := s3 _ _ hwv
    have hd3 := hd.keep (TK.same s3)
    have sm3 := sm.trans s3
    refine ⟨T0, _, rfl, SqT.of upd_same, rfl, _, _, rfl, _, _, rfl, rfl, ?_⟩
    refine ⟨_, rfl, rfl, _, rfl, ?_⟩
    cases hrun with
    | opens hrun =>
      refine iteY rfl ?_
      refine ⟨_, rfl, .inl ⟨rfl, _, SqL.of hw3⟩, _, rfl, wa, _, _, rfl, rfl, hw3, ?_, ?_⟩
      · rw [List.length_map]
        exact szl (by omega)
      · have k4 : TK (upd H2 T0 (.tup [.int (i : Nat), .str (s1 40)])) (upd (upd H2 T0 (.tup [.int (i : Nat), .str (s1 40)])) wa (.lst ((ws.map fun (n : Nat) => V.int n) ++ [.int (i : Nat)]))) := TK.lst _ hw3
        refine ⟨fs, ws ++ [i], _, _, xs, rfl, same_fresh _ sm3 nwH, ?_, hd3.keep k4, ?_, hrun, Nat.le_succ_of_le hlf, ?_⟩
        · rw [upd_ne nwf.symm]
          exact hf3
        · rw [upd_same, List.map_append]
          rfl
        · rw [List.length_append]
          exact Nat.succ_le_succ hlw
    | @shuts _ _ w0 _ ws0 _ hrun =>
      refine iteN (by decide) ?_
      refine ⟨_, rfl, rfl, _, rfl, iteY rfl ?_⟩
      refine ⟨_, rfl, Nat.zero_le _, fun q nq => ?_⟩
      have s4 := same_new (HO.lst []) nq
      have hw4 := s4 _ _ hw3
      have hf4 := s4 _ _ hf3
      refine ⟨.list ((ws0 ++ [w0]).map fun (n : Nat) => PyData.int n), .list [], .lst (SqL.of hw4) (ints_dp _), .lst (SqL.of upd_same) .nil, shaped_ints _, rfl, _, rfl, ?_⟩
      have e5 : (!PyData.eqv (.list ((ws0 ++ [w0]).map fun (n : Nat) => PyData.int n)) (.list [])) = true := by
        rw [eqv_nil, List.map_append]
        cases ws0 <;> rfl
      rw [e5]
      refine iteT ?_
      refine ⟨_, rfl, .inl ⟨rfl, _, SqL.of hf4⟩, ?_⟩
      refine ⟨_, rfl, .inl ⟨rfl, _, SqL.of hw4⟩, wa, _, .int w0, rfl, rfl, hw4, ?_, ?_⟩
      · rw [List.length_map, List.length_append, List.map_append]
        show (List.map _ ws0 ++ [V.int w0])[ws0.length + 1 - 1]? = some (V.int w0)
        rw [Nat.add_sub_cancel, List.getElem?_append_right (by rw [List.length_map]; exact Nat.le_refl _), List.length_map, Nat.sub_self]
        rfl
      refine ⟨_, rfl, (by show 2 ≤ sizeLine; decide), fun u nu => ?_⟩
      have edl : ((ws0 ++ [w0]).map fun (n : Nat) => V.int n).dropLast = ws0.map fun (n : Nat) => V.int n := by
        rw [List.map_append]
        exact List.dropLast_concat
      rw [edl] at nu ⊢
      generalize eH5 : upd (upd (upd H2 T0 (.tup [.int (i : Nat), .str (s1 41)])) q (.lst [])) wa (.lst (ws0.map fun (n : Nat) => V.int n)) = H5 at nu ⊢
      have k5 : TK (upd (upd H2 T0 (.tup [.int (i : Nat), .str (s1 41)])) q (.lst [])) H5 := by rw [← eH5]; exact TK.lst _ hw4
      have sm5 : Same H H5 := by rw [← eH5]; exact same_fresh _ (sm3.trans s4) nwH
      have hf5 : H5 fa = some (.lst xs) := by rw [← eH5, upd_ne nwf.symm]; exact hf4
      have hw5 : H5 wa = some (.lst (ws0.map fun (n : Nat) => V.int n)) := by rw [← eH5, upd_same]
      have s6 := same_new (HO.tup [.int w0, .int (i : Nat)]) nu
      have hf6 := s6 _ _ hf5
      have hw6 := s6 _ _ hw5
      have hd6 : DtAll K (upd H5 u (.tup [.int w0, .int (i : Nat)])) xs (fs.map encP) := hd3.keep ((TK.same s4).trans (k5.trans (TK.same s6)))
      refine ⟨fa, xs, _, rfl, rfl, hf6, ?_, ?_⟩
      · rw [hd.length, List.length_map]
        exact szl (by omega)
      · have k7 : TK (upd H5 u (.tup [.int w0, .int (i : Nat)])) (upd (upd H5 u (.tup [.int w0, .int (i : Nat)])) fa (.lst (xs ++ [.ref u]))) := TK.lst _ hf6
        refine ⟨fs ++ [(w0, i)], ws0, _, _, xs ++ [.ref u], rfl, same_fresh _ (sm5.trans s6) nfH, upd_same, ?_, ?_, hrun, ?_, ?_⟩
        · rw [List.map_append]
          exact (hd6.keep k7).append (.one (Dt.of_pair (k7.sq (SqT.of upd_same))))
        · rw [upd_ne nwf]
          exact hw6
        · rw [List.length_append]
          exact Nat.succ_le_succ hlf
        · rw [List.length_append] at hlw
          have : ws0.length + 1 ≤ i := hlw
          omega
    | free hrun =>
      refine iteN (by decide) ?_
      refine ⟨_, rfl, rfl, _, rfl, iteN (by decide) (iteF ?_)⟩
      refine ⟨_, rfl, rfl, _, rfl, iteNS rfl ?_⟩
      exact ⟨fs, ws, _, _, xs, rfl, sm3, hf3, hd3, hw3, hrun, Nat.le_succ_of_le hlf, Nat.le_succ_of_le hlw⟩
  · rintro σ H2 ⟨fs, ws, y3, y4, xs, rfl, sm, hf, hd, hwv, hrun, hlf, hlw⟩
    have hsz : (Str.mk (codes 0 n t).toArray).cps.size = (codes 0 n t).length := by
      show (codes 0 n t).toArray.size = _
      rw [List.size_toArray]
    rw [hsz, List.drop_length] at hrun
    cases hrun
    refine ⟨_, rfl, Nat.zero_le _, fun q nq => ?_⟩
    have s4 := same_new (HO.lst []) nq
    refine ⟨.list [], .list [], .lst (SqL.of (s4 _ _ hwv)) .nil, .lst (SqL.of upd_same) .nil, rfl, rfl, _, rfl, iteT ?_⟩
    have hd4 := hd.keep (TK.same s4)
    obtain ⟨z1, z2, z3⟩ := zip_pairs hd4
    refine ⟨_, rfl, fa, xs.zip (post t), rfl, by rw [z1]; exact SqL.of (s4 _ _ hf), fun b hb => (z3 b hb).dp, alike_pairs _ _, sortable_pairs _ _, fun b _ => depth_pair _, fun p np => ?_⟩
    refine ⟨p, _, rfl, .inl ⟨SqL.of upd_same, fun l nl => ?_⟩⟩
    have s5 := same_new (HO.lst (((xs.zip (post t)).mergeSort (PySem.W.dataLe false fun b => encP b.2)).map (·.1))) np
    refine g _ _ (sm.trans (s4.trans (s5.trans (same_new _ nl)))) (Dt.new nl ?_)
    have es := sort_flat (bs := xs.zip (post t)) hw (by rw [z2]; exact post_perm t)
    rw [← es]
    refine dt_zip fun b hb => ?_
    have hb' : b ∈ xs.zip (post t) := (List.mergeSort_perm _ _).subset hb
    exact (z3 b hb').keep (TK.same s5)
end
end K14
/-! is_folding. -/
namespace K14
open PySem L2

abbrev sIsFold : Stmt := top 14
theorem cut_from (xs : List V) {k : Nat} (h : k ≤ xs.length) : cutV xs (some (k : Int)) none = xs.drop k := by
  unfold cutV
  rw [HT.sIx_nat, HT.sIx_none, Nat.min_eq_left h]
  exact List.take_of_length_le (by rw [List.length_drop]; exact Nat.le_refl _)
theorem DtAll.dropP {K : PySem.W.Frag} {H : Hp} {xs : List V} {ps : List (Nat × Nat)} (h : DtAll K H xs (ps.map encP)) (n : Nat) : DtAll K H (xs.drop n) ((ps.drop n).map encP) := by
  rw [List.map_drop]
  exact h.drop n

section
variable {P : Program} {w : World} {K : PySem.W.Frag} {mg : Str → Option Value} {base : Heap} {k : Nat} {f : Addr} {fd : FuncData}
/-- a folding, by the program's own words -/
structure Fold (c : Code) (z : Str) (ps : List (Nat × Nat)) : Prop where
  may : ∀ p ∈ ps, p.1 < p.2 ∧ p.2 < z.length ∧ mayB c z p.1 p.2 = true
  apart : ps.Pairwise (fun p q => p.1 < q.1 ∧ (q.1 > p.2 ∨ q.2 < p.2))
  len : ps.length ≤ 12
def spIsFold (K : PySem.W.Frag) : Sp := fun vs H Q _ => ∃ (v u : V) (c : Code) (z : Str) (ps : List (Nat × Nat)), vs = [v, .str z, u] ∧ CodeAt K H v c ∧ Dt K H u (.tuple (ps.map encP)) ∧ Fold c z ps ∧ z.length ≤ 12 ∧ ∀ H', Same H H' → Q (.bl true) H'
theorem scIsFold : FnScope ["rules", "string", "thing", "at", "pair", "later"] ["rules", "string", "thing"] (defScope sIsFold) := ⟨rfl, rfl, rfl, by decide +kernel, rfl, by decide +kernel, by decide +kernel⟩
theorem ok_isFold (F : Fun K "is_folding" "is_folding" sIsFold f fd) (T : Blt mg) (GP : Has P w K mg base "is_pair" ["rules", "string", "thing"] (k + 1) (spIsPair K)) (GC : Has P w K mg base "crosses" ["pair", "other"] (k + 1) (spCross K)) :
    FnOk P w K mg base CX0 (k + 2) f fd ["rules", "string", "thing"] (spIsFold K) := by
  refine F.ok scIsFold (fun vs H Q E h => ?_) (fun cdv A outer s H vs Q E hr h => ?_)
  · obtain ⟨v, u, c, z, ps, rfl, _⟩ := h
    rfl
  obtain ⟨v, u, c, z, ps, rfl, hc, hd, hf, hz, g⟩ := h
  obtain ⟨fP, fdP, gP, mP, kP, bP⟩ := GP
  obtain ⟨fC, fdC, gC, mC, kC, bC⟩ := GC
  obtain ⟨a, xs, rfl, ha, hx⟩ := hd.tup_inv
  have hlen : xs.length = ps.length := by rw [hx.length, List.length_map]
  refine ⟨_, pss_cons (ps_if (PW.pt (pw_or (pt_not (pt_val (pe_callB call_isi (by rfl) T.isi PyProof.Rows.boot_isinstance (pa_cons (pv 2) (pa_cons (pe_bltn (v := .ty "tuple") (by rfl) T.tuple PyProof.Rows.boot_tuple rfl) pa_nil)))))
      (pw_or1 (pt_not (pt_val (pe_callB (cr_all rfl) (by rfl) T.all PyProof.Rows.boot_all (pa_cons
        (pe_lc (own := [("pair", 4)]) (g := gName 4) (tt := tYes) rfl scIsFold.nd (pi_tup (pv 2)) (blkOk_by (N := ["rules", "string", "thing", "at", "pair", "later"]) (sc := defScope sIsFold) (by decide +kernel)) (fun _ _ _ _ _ => pg_name (i := 4) scIsFold.nd rfl (Or.inl rfl)) (fun _ _ _ _ _ => pts_nil)
          (fun _ _ _ _ _ => pe_call gP hr (by rfl) mP kP bP .nil pass0 (pa_cons (pv 0) (pa_cons (pv 1) (pa_cons (pv 4) pa_nil))))) pa_nil)))))))
      (pss_one (ps_ret pe_bl)) pss_nil)
    (pss_cons (ps_for PassesOwn.never rfl (pi_enumT (by rfl) T.enum (pa_cons (pv 2) pa_nil)) (pg_tup rfl (pgs_cons (pg_name (i := 3) scIsFold.nd rfl (Or.inl rfl)) (pgs_cons (pg_name (i := 4) scIsFold.nd rfl (Or.inl rfl)) pgs_nil)))
      (pss_one (ps_for PassesOwn.never rfl (pi_tup (pe_slice sl_tup (pv 2) (po_some (pe_op op_add (pv 3) pe_int)) po_none)) (pg_name (i := 5) scIsFold.nd rfl (Or.inl rfl))
        (pss_one (ps_if (PW.pt (pw_or (pt_cmpR op_le (pe_ix ix_tup (pv 5) pe_int (fun _ _ => rfl)) (pe_ix ix_tup (pv 4) pe_int (fun _ _ => rfl)) (nomark _))
          (pw_or1 (pt_val (pe_call gC hr (by rfl) mC kC bC .nil pass0 (pa_cons (pv 4) (pa_cons (pv 5) pa_nil))))))) (pss_one (ps_ret pe_bl)) pss_nil)))))
    (pss_one (ps_ret pe_bl))), ?_⟩
  refine ⟨_, rfl, _, _, _, _, true, rfl, .ty _, tyx_tup ha, kit_ty (by decide +kernel), _, rfl, iteF ?_⟩
  refine ⟨_, rfl, a, rfl, ⟨_, ha⟩, fun D nD => ?_⟩
  refine lc_tup (K := K) (a := a) (xs := xs) (fun i H' => Same H H' ∧ H' D = some (.lst (List.replicate i (V.bl true)))) ⟨same_new _ nD, upd_same⟩ (fun i H' _ h => (TK.same h.1).sq ha) ?_ ?_
  · rintro i x H' hxi ⟨sm, hD⟩
    obtain ⟨p, t, hp, rfl, ht⟩ := pairs_at hx hxi
    have hlt : i < ps.length := (List.getElem?_eq_some_iff.mp hp).1
    obtain ⟨m1, m2, m3⟩ := hf.may p (List.mem_of_getElem? hp)
    have hl12 := hf.len
    refine ⟨rfl, ?_⟩
    refine ⟨_, rfl, _, rfl, _, rfl, v, .ref t, c, z, p, rfl, hc.keep (TK.same sm), Dt.of_pair ((TK.same sm).sq ht), m1, m2, hz, m3, fun H2 sm2 => ?_⟩
    refine ⟨_, sm2 _ _ hD, ?_, same_fresh _ (sm.trans sm2) nD, ?_⟩
    · rw [List.length_replicate]
      exact szl (by omega)
    · rw [upd_same, List.replicate_succ']
  rintro H1 ⟨sm1, hD1⟩
  have hall : (List.replicate xs.length true).all id = true := List.all_eq_true.mpr fun b hb => (List.mem_replicate.mp hb).2
  have hmap : List.replicate xs.length (V.bl true) = (List.replicate xs.length true).map V.bl := by rw [List.map_replicate]
  refine ⟨D, List.replicate xs.length true, rfl, SqL.of (by rw [← hmap]; exact hD1), _, rfl, ?_⟩
  rw [hall]
  refine iteF ?_
  have ha1 := (TK.same sm1).sq ha
  refine ⟨_, rfl, a, xs, rfl, ha1, ?_⟩
  refine for_it (walk_enumT (K := K) (a := a) (xs := xs)) (fun i σ H2 => ∃ (y3 y4 y5 : Option V), σ = [some v, some (.str z), some (.ref a), y3, y4, y5] ∧ Same H H2) ⟨none, none, none, rfl, sm1⟩ ?_ ?_ ?_
  · rintro i σ H2 _ ⟨_, _, _, _, sm⟩
    exact (TK.same sm).sq ha
  · rintro i x σ H2 H3 hi ⟨y3, y4, y5, rfl, sm⟩ ⟨T0, a1, a2, rfl, nT, rfl, e1, e2⟩
    have e1' : a1 = .int (i : Nat) := (Option.some.inj e1).symm
    subst e1'
    obtain ⟨p, t, hp, rfl, ht⟩ := pairs_at hx e2
    have s3 : Same H2 (upd H2 T0 (.tup [.int (i : Nat), .ref t])) := same_new _ nT
    have sm3 := sm.trans s3
    generalize hH3 : upd H2 T0 (.tup [.int (i : Nat), .ref t]) = H3 at s3 sm3 ⊢
    have hT3 : SqT K H3 T0 [.int (i : Nat), .ref t] := SqT.of (by rw [← hH3, upd_same])
    have hlt : i < ps.length := (List.getElem?_eq_some_iff.mp hp).1
    refine ⟨T0, _, rfl, hT3, rfl, _, _, rfl, _, _, rfl, rfl, ?_⟩
    refine ⟨_, rfl, _, rfl, _, _, rfl, rfl, (i : Int) + 1, rfl, a, xs, rfl, (TK.same sm3).sq ha, ?_, fun q nq => ?_⟩
    · have e : ((i : Int) + 1) = ((i + 1 : Nat) : Int) := by omega
      rw [e, HT.sIx_nat]
      intro h
      have h1 := h.1
      rw [Nat.min_eq_left (by omega)] at h1
      omega
    · have ecut : cutV xs (some ((i : Int) + 1)) none = xs.drop (i + 1) := by
        have e : ((i : Int) + 1) = ((i + 1 : Nat) : Int) := by omega
        rw [e, cut_from xs (by omega)]
      rw [ecut]
      have sm4 : Same H (upd H3 q (.tup (xs.drop (i + 1)))) := sm3.trans (same_new _ nq)
      have hq4 : SqT K (upd H3 q (.tup (xs.drop (i + 1)))) q (xs.drop (i + 1)) := SqT.of upd_same
      generalize upd H3 q (.tup (xs.drop (i + 1))) = H4 at sm4 hq4 ⊢
      have hx4 : DtAll K H4 (xs.drop (i + 1)) ((ps.drop (i + 1)).map encP) := (hx.keep (TK.same sm4)).dropP (i + 1)
      have hpair : ∀ r ∈ ps.drop (i + 1), p.1 < r.1 ∧ (r.1 > p.2 ∨ r.2 < p.2) := by
        have h1 := List.Pairwise.drop (i := i) hf.apart
        rw [List.drop_eq_getElem_cons hlt] at h1
        rw [List.getElem?_eq_getElem hlt] at hp
        have h2 := (List.pairwise_cons.mp h1).1
        rw [Option.some.inj hp] at h2
        exact h2
      refine ⟨q, rfl, ⟨_, hq4⟩, ?_⟩
      refine for_tup (K := K) (a := q) (xs := xs.drop (i + 1)) (fun j σ H5 => ∃ (y5 : Option V), σ = [some v, some (.str z), some (.ref a), some (.int (i : Nat)), some (.ref t), y5] ∧ TK H4 H5 ∧ Same H H5) ⟨y5, rfl, TK.refl _, sm4⟩ ?_ ?_ ?_
      · rintro j σ H5 _ ⟨_, _, k5, _⟩
        exact k5.sq hq4
      · rintro j x σ H5 hxj ⟨y5', rfl, k5, sm5⟩
        obtain ⟨r, t2, hr2, rfl, ht2⟩ := pairs_at hx4 hxj
        obtain ⟨q1, q2⟩ := hpair r (List.mem_of_getElem? hr2)
        have ht5 := k5.sq ht2
        have htp := (TK.same sm5).sq ht
        refine ⟨_, rfl, t2, _, 0, _, rfl, rfl, ht5, atI_nat (j := 0) rfl, _, rfl, t, _, 0, _, rfl, rfl, htp, atI_nat (j := 0) rfl, _, _, rfl, rfl, _, rfl, ?_⟩
        refine iteN (by omega) ?_
        refine ⟨_, rfl, _, rfl, .ref t, .ref t2, p, r, rfl, Dt.of_pair htp, Dt.of_pair ht5, _, rfl, ?_⟩
        have e5 : (decide (r.1 ≤ p.2) && decide (p.2 ≤ r.2)) = false := by
          rcases q2 with q2 | q2
          · rw [decide_eq_false (by omega), Bool.false_and]
          · rw [decide_eq_false (show ¬ p.2 ≤ r.2 by omega), Bool.and_false]
        rw [e5]
        exact iteF ⟨_, rfl, k5, sm5⟩
      · rintro σ H5 ⟨y5', rfl, k5, sm5⟩
        exact ⟨_, _, _, rfl, sm5⟩
  · rintro σ H2 ⟨y3, y4, y5, rfl, sm⟩
    exact g H2 sm
end
end K14
/-! loop_of. -/
namespace K14
open PySem L2

abbrev sLoop : Stmt := top 22

/-! ### the dict of the loops' worths -/
def nms : List Str := ["stacked", "inner", "inner free", "forked", "branch", "fork free", "lone", "lone free", "open"]
def toldKv (c : Code) : List (Key × V) := (nms.map fun k => (Sum.inr k : Key)).zip (c.loops.map V.int)
def tl (c : Code) (i : Nat) : Int := c.loops.getD i 0
theorem valV_merge_out : ∀ (more kvs : List (Key × V)) (k : Key), k ∉ more.map (·.1) → valV (mergeK kvs more) k = valV kvs k
  | [], _, _, _ => rfl
  | m :: more, kvs, k, h => by
    rw [List.map_cons, List.mem_cons, not_or] at h
    show valV (mergeK (putK kvs m.1 m.2) more) k = _
    rw [valV_merge_out more _ k h.2, valV_put, if_neg h.1]
theorem valV_merge_in : ∀ (more kvs : List (Key × V)) (k : Key) (v : V), (more.map (·.1)).Nodup → (k, v) ∈ more → valV (mergeK kvs more) k = some v
  | [], _, _, _, _, h => by cases h
  | m :: more, kvs, k, v, hn, h => by
    rw [List.map_cons, List.nodup_cons] at hn
    show valV (mergeK (putK kvs m.1 m.2) more) k = _
    rcases List.mem_cons.mp h with e | h
    · subst e
      rw [valV_merge_out more _ k hn.1, valV_put, if_pos rfl]
    · exact valV_merge_in more _ k v hn.2 h
theorem zip_fst {α β : Type} : ∀ (l : List α) (m : List β), l.length = m.length → (l.zip m).map (·.1) = l
  | [], [], _ => rfl
  | [], _ :: _, h => by simp at h
  | _ :: _, [], h => by simp at h
  | a :: l, b :: m, h => by rw [List.zip_cons_cons, List.map_cons, zip_fst l m (by simpa using h)]
theorem nms_nodup : (nms.map fun k => (Sum.inr k : Key)).Nodup := by decide +kernel
theorem told_at {c : Code} (h : c.loops.length = 9) {i : Nat} {n : Str} (hn : nms[i]? = some n) : valV (mergeK [] (toldKv c)) (Sum.inr n : Key) = some (.int (tl c i)) := by
  have hi : i < 9 := (List.getElem?_eq_some_iff.mp hn).1
  have el : (nms.map fun k => (Sum.inr k : Key)).length = (c.loops.map V.int).length := by
    rw [List.length_map, List.length_map, h]
    rfl
  refine valV_merge_in _ _ _ _ ?_ ?_
  · unfold toldKv
    rw [zip_fst _ _ el]
    exact nms_nodup
  · refine List.mem_of_getElem? (i := i) ?_
    unfold toldKv
    rw [List.getElem?_zip_eq_some, List.getElem?_map, hn, List.getElem?_map]
    refine ⟨rfl, ?_⟩
    unfold tl
    rw [List.getD_eq_getElem?_getD]
    rw [List.getElem?_eq_getElem (by omega)]
    rfl
theorem dget_told {c : Code} (h : c.loops.length = 9) {H : Hp} {d : Addr} (e : H d = some (.dK (mergeK [] (toldKv c)))) {i : Nat} {n : Str} (hn : nms[i]? = some n) : DGet H d (.str n) (some (.int (tl c i))) := by
  rw [← told_at h hn]
  exact DGet.k (k := Sum.inr n) e

/-! ### what a loop is worth -/
def loopW (c : Code) (z : Str) (ps : List (Nat × Nat)) (p : Nat × Nat) : Int :=
  if (inner ps p).length = 0 then tl c 6 + freeIn p (inner ps p) * tl c 7
  else if 1 < (inner ps p).length then tl c 3 + (((inner ps p).length : Int) * tl c 4 + freeIn p (inner ps p) * tl c 5)
  else if freeIn p (inner ps p) = 0 then tl c 0 + stackW c (two z p.1 p.2) (two z ((inner ps p).getD 0 (0, 0)).1 ((inner ps p).getD 0 (0, 0)).2)
  else tl c 1 + freeIn p (inner ps p) * tl c 2
theorem sw_sub (last : Option Int) : ∀ (e : Int) (ps : List (Nat × Nat)), ∀ p ∈ sw last e ps, p ∈ ps
  | _, [], p, h => by
    simp [sw] at h
  | e, q :: ps, p, h => by
    rw [sw] at h
    split at h
    · rcases List.mem_cons.mp h with rfl | h
      · exact List.mem_cons_self ..
      · exact List.mem_cons_of_mem _ (sw_sub last _ ps p h)
    · exact List.mem_cons_of_mem _ (sw_sub last _ ps p h)
theorem sw_len (last : Option Int) : ∀ (e : Int) (ps : List (Nat × Nat)), (sw last e ps).length ≤ ps.length
  | _, [] => by simp [sw]
  | e, q :: ps => by
    rw [sw]
    split
    · rw [List.length_cons, List.length_cons]
      have := sw_len last q.2 ps
      omega
    · rw [List.length_cons]
      have := sw_len last e ps
      omega
theorem widths (ks : List (Nat × Nat)) (h : ∀ p ∈ ks, p.1 < p.2 ∧ p.2 < 12) : 0 ≤ (ks.map width).sum ∧ (ks.map width).sum ≤ 13 * (ks.length : Int) := by
  induction ks with
  | nil => exact ⟨Int.le_refl _, Int.le_refl _⟩
  | cons p ks ih =>
    obtain ⟨i1, i2⟩ := ih fun q hq => h q (List.mem_cons_of_mem _ hq)
    obtain ⟨h1, h2⟩ := h p (List.mem_cons_self ..)
    rw [List.map_cons, List.sum_cons, List.length_cons]
    unfold width at i1 i2 ⊢
    omega
theorem freeIn_bd {ps : List (Nat × Nat)} {p : Nat × Nat} (h : ∀ p ∈ ps, p.1 < p.2 ∧ p.2 < 12) (hl : ps.length ≤ 12) (hp : p ∈ ps) : -(2 ^ 64) < freeIn p (inner ps p) ∧ freeIn p (inner ps p) < 2 ^ 64 := by
  have hs : ∀ q ∈ inner ps p, q.1 < q.2 ∧ q.2 < 12 := fun q hq => h q (sw_sub _ _ _ q hq)
  have hlen : (inner ps p).length ≤ 12 := Nat.le_trans (sw_len _ _ _) hl
  obtain ⟨i1, i2⟩ := widths _ hs
  obtain ⟨h1, h2⟩ := h p hp
  unfold freeIn
  constructor <;> omega

section
variable {P : Program} {w : World} {K : PySem.W.Frag} {mg : Str → Option Value} {base : Heap} {k : Nat} {f : Addr} {fd : FuncData}
def encLoop (c : Code) (z : Str) (ps : List (Nat × Nat)) (p : Nat × Nat) : PyData := .tuple [.str (kindS (inner ps p).length (freeIn p (inner ps p))), .int (freeIn p (inner ps p)), .int (loopW c z ps p)]
/-- rules, a word, pairs of its places -/
structure Set3 (K : PySem.W.Frag) (H : Hp) (v : V) (c : Code) (z : Str) (fv : V) (ps : List (Nat × Nat)) : Prop where
  code : CodeAt K H v c
  ok : CodeOk c
  word : WordOk z
  fold : Dt K H fv (.tuple (ps.map encP))
  pl : ∀ p ∈ ps, p.1 < p.2 ∧ p.2 < z.length
  len : ps.length ≤ 12
theorem Set3.keep {H H' : Hp} {v fv : V} {c : Code} {z : Str} {ps : List (Nat × Nat)} (k : TK H H') (h : Set3 K H v c z fv ps) : Set3 K H' v c z fv ps := ⟨h.code.keep k, h.ok, h.word, h.fold.keep k, h.pl, h.len⟩
def spLoop (K : PySem.W.Frag) : Sp := fun vs H Q _ => ∃ (v fv u : V) (c : Code) (z : Str) (ps : List (Nat × Nat)) (p : Nat × Nat), vs = [v, .str z, fv, u] ∧ Set3 K H v c z fv ps ∧ p ∈ ps ∧ Dt K H u (encP p) ∧
  ∀ H' t, Same H H' → SqT K H' t [.str (kindS (inner ps p).length (freeIn p (inner ps p))), .int (freeIn p (inner ps p)), .int (loopW c z ps p)] → Q (.ref t) H'
theorem scLoop : FnScope ["rules", "string", "folding", "pair", "told", "inner", "free", "kind", "worth"] ["rules", "string", "folding", "pair"] (defScope sLoop) := ⟨rfl, rfl, rfl, by decide +kernel, rfl, by decide +kernel, by decide +kernel⟩
theorem ok_loop (F : Fun K "loop_of" "loop_of" sLoop f fd) (T : Blt mg) (C : Cst K mg) (GS : Has P w K mg base "straight_within" ["folding", "pair"] (k + 1) (spStraight K)) (GF : Has P w K mg base "free_within" ["pair", "inner"] (k + 1) (spFreeW K))
    (GK : Has P w K mg base "kind_of" ["inner", "free"] (k + 1) (spKind K)) (GW : Has P w K mg base "stack_worth" ["rules", "outer", "within"] (k + 1) (spStackW K)) (GL : Has P w K mg base "letters_of" ["string", "pair"] (k + 1) (spLetters K)) :
    FnOk P w K mg base CX0 (k + 2) f fd ["rules", "string", "folding", "pair"] (spLoop K) := by
  refine F.ok scLoop (fun vs H Q E h => ?_) (fun cdv A outer s H vs Q E hr h => ?_)
  · obtain ⟨v, fv, u, c, z, ps, p, rfl, _⟩ := h
    rfl
  obtain ⟨v, fv, u, c, z, ps, p, rfl, hS, hpm, hp, g⟩ := h
  have hu := hu_of hr
  obtain ⟨fS, fdS, gS, mS, kS, bS⟩ := GS
  obtain ⟨fF, fdF, gF, mF, kF, bF⟩ := GF
  obtain ⟨fK, fdK, gK, mK, kK, bK⟩ := GK
  obtain ⟨fW, fdW, gW, mW, kW, bW⟩ := GW
  obtain ⟨fL, fdL, gL, mL, kL, bL⟩ := GL
  obtain ⟨la, mLo, hLo⟩ := C.lo
  have hz := hS.word.le
  obtain ⟨hp1, hp2⟩ := hS.pl p hpm
  refine ⟨_, pss_cons (ps_set (i := 4) scLoop.nd rfl (Or.inl rfl) (pe_dlz rfl (by rfl) T.dict (by rfl) T.list (by rfl) T.zip (pa_cons (pe_glob (v := .ref la) (by rfl) mLo rfl) (pa_cons (pe_ix ix_tup (pv 0) pe_int (fun _ _ => rfl)) pa_nil))))
    (pss_cons (ps_set (i := 5) scLoop.nd rfl (Or.inl rfl) (pe_call gS hr (by rfl) mS kS bS .nil pass0 (pa_cons (pv 2) (pa_cons (pv 3) pa_nil))))
    (pss_cons (ps_set (i := 6) scLoop.nd rfl (Or.inl rfl) (pe_call gF hr (by rfl) mF kF bF .nil pass0 (pa_cons (pv 3) (pa_cons (pv 5) pa_nil))))
    (pss_cons (ps_set (i := 7) scLoop.nd rfl (Or.inl rfl) (pe_call gK hr (by rfl) mK kK bK .nil pass0 (pa_cons (pv 5) (pa_cons (pv 6) pa_nil))))
    (pss_cons (ps_set (i := 8) scLoop.nd rfl (Or.inl rfl) (pe_dget hu (pv 4) (pv 7) (fun _ _ => rfl)))
    (pss_cons (ps_if (pt_cmpR op_eq (pv 7) pe_str (nomark _))
        (pss_one (ps_aug (i := 8) scLoop.nd rfl (.inl rfl) (pe_call gW hr (by rfl) mW kW bW .nil pass0 (pa_cons (pv 0) (pa_cons (pe_call gL hr (by rfl) mL kL bL .nil pass0 (pa_cons (pv 1) (pa_cons (pv 3) pa_nil))) (pa_cons (pe_call gL hr (by rfl) mL kL bL .nil pass0 (pa_cons (pv 1) (pa_cons (pe_ix ix_list (pv 5) pe_int (fun _ _ => rfl)) pa_nil))) pa_nil)))) ip_add))
        (pss_one (ps_if (pt_cmpR op_eq (pv 7) pe_str (nomark _))
          (pss_one (ps_aug (i := 8) scLoop.nd rfl (.inl rfl) (pe_op op_add (pe_op op_mul (pe_callB call_len_seq (by rfl) T.len PySem.boot_len (pa_cons (pv 5) pa_nil)) (pe_dget hu (pv 4) pe_str (fun _ _ => rfl))) (pe_op op_mul (pv 6) (pe_dget hu (pv 4) pe_str (fun _ _ => rfl)))) ip_add))
          (pss_one (ps_aug (i := 8) scLoop.nd rfl (.inl rfl) (pe_op op_mul (pv 6) (pe_dget hu (pv 4) (pe_op op_add_str (pv 7) pe_str) (fun _ _ => rfl))) ip_add)))))
    (pss_one (ps_ret (pe_tup (pa_cons (pv 7) (pa_cons (pv 6) (pa_cons (pv 8) pa_nil))))))))))), ?_⟩
  obtain ⟨a, tb, l, vr, ob, ts, rfl, h2, h3, h6, h7⟩ := id hS.code
  have hlp := hS.ok.lp
  refine ⟨_, rfl, a, _, 3, _, rfl, rfl, h2, atI_nat (j := 3) rfl, la, l, nms, _, rfl, hLo _, h6, ?_, ?_, ?_, fun d nd => ?_⟩
  · rw [List.length_map, hlp]
    rfl
  · rw [List.length_map, hlp]
    decide
  · rw [List.length_map, hlp]
    decide
  have s1 : Same H (upd H d (.dK (mergeK [] (toldKv c)))) := same_new _ nd
  have hd1 : (upd H d (.dK (mergeK [] (toldKv c)))) d = some (.dK (mergeK [] (toldKv c))) := upd_same
  change ∃ _, _
  generalize hH1 : upd H d (.dK (mergeK [] (toldKv c))) = H1 at s1 hd1
  have hH1' : upd H d (.dK (mergeK [] ((nms.map fun k => (Sum.inr k : Key)).zip (c.loops.map V.int)))) = H1 := hH1
  rw [hH1']
  refine ⟨_, rfl, _, rfl, fv, u, ps, p.1, some (p.2 : Int), rfl, hS.fold.keep (TK.same s1), .inr ⟨p, hp.keep (TK.same s1), rfl, rfl⟩, hS.len, fun H2 il xs sm2 nil2 hil hxs => ?_⟩
  have hxs' : DtAll K H2 xs ((inner ps p).map encP) := hxs
  have hil12 : (inner ps p).length ≤ 12 := Nat.le_trans (sw_len _ _ _) hS.len
  have s2 := s1.trans sm2
  refine ⟨_, rfl, _, rfl, u, il, p, inner ps p, xs, rfl, hp.keep (TK.same s2), hil, hxs', hil12, fun H3 sm3 => ?_⟩
  have s3 := s2.trans sm3
  refine ⟨_, rfl, _, rfl, il, _, inner ps p, xs, rfl, sm3 _ _ hil, hxs'.keep (TK.same sm3), fun H4 sm4 => ?_⟩
  have s4 := s3.trans sm4
  have hd4 : H4 d = some (.dK (mergeK [] (toldKv c))) := sm4 _ _ (sm3 _ _ (sm2 _ _ hd1))
  have hil4 : H4 il = some (.lst xs) := sm4 _ _ (sm3 _ _ hil)
  have hxs4 : DtAll K H4 xs ((inner ps p).map encP) := hxs'.keep ((TK.same sm3).trans (TK.same sm4))
  have hxl : xs.length = (inner ps p).length := by rw [hxs'.length, List.length_map]
  obtain ⟨fb1, fb2⟩ := freeIn_bd (fun q hq => by have := hS.pl q hq; omega) hS.len hpm
  have fin : ∀ (kd : Str) (wv : Int) (H5 : Hp), Same H H5 → kindS (inner ps p).length (freeIn p (inner ps p)) = kd → loopW c z ps p = wv →
      tRet (tTup (tCons (tVar 7) (tCons (tVar 6) (tCons (tVar 8) tNil)))) { nx := fun _ H' => Q .non H', rt := Q } [some (.ref a), some (.str z), some fv, some u, some (.ref d), some (.ref il), some (.int (freeIn p (inner ps p))), some (.str kd), some (.int wv)] H5 := fun kd wv H5 s5 e1 e2 => by
    refine ⟨_, rfl, _, rfl, _, rfl, (by show 3 ≤ sizeLine; decide), fun t nt => ?_⟩
    refine g _ t (s5.trans (same_new _ nt)) (SqT.of ?_)
    rw [upd_same, e1, e2]
  unfold loopW at fin
  unfold kindS at fin ⊢
  by_cases c0 : (inner ps p).length = 0
  · rw [if_pos c0] at fin ⊢
    rw [if_pos c0] at fin
    refine ⟨_, rfl, _, rfl, d, _, rfl, dget_told hlp hd4 (i := 6) rfl, ?_⟩
    refine ⟨_, rfl, rfl, _, rfl, iteN (by decide +kernel) ?_⟩
    refine ⟨_, rfl, rfl, _, rfl, iteN (by decide +kernel) ?_⟩
    have en : (("lone" : Str) ++ (" free" : Str)) = ("lone free" : Str) := by decide +kernel
    refine ⟨_, rfl, _, rfl, _, rfl, _, rfl, _, _, rfl, rfl, (by decide +kernel), d, _, rfl, ?_, _, _, rfl, rfl, .inl ⟨fb1, fb2⟩, _, _, rfl, rfl, fin _ _ H4 s4 rfl rfl⟩
    rw [en]
    exact dget_told hlp hd4 (i := 7) rfl
  · rw [if_neg c0] at fin ⊢
    rw [if_neg c0] at fin
    by_cases c1 : 1 < (inner ps p).length
    · rw [if_pos c1] at fin ⊢
      rw [if_pos c1] at fin
      refine ⟨_, rfl, _, rfl, d, _, rfl, dget_told hlp hd4 (i := 3) rfl, ?_⟩
      refine ⟨_, rfl, rfl, _, rfl, iteN (by decide +kernel) ?_⟩
      refine ⟨_, rfl, rfl, _, rfl, iteY rfl ?_⟩
      refine ⟨_, rfl, _, rfl, il, _, rfl, .inl (SqL.of hil4), _, rfl, d, _, rfl, dget_told hlp hd4 (i := 4) rfl, _, _, rfl, rfl, .inl (by rw [hxl]; constructor <;> omega), ?_⟩
      refine ⟨_, rfl, _, rfl, d, _, rfl, dget_told hlp hd4 (i := 5) rfl, _, _, rfl, rfl, .inl ⟨fb1, fb2⟩, _, _, rfl, rfl, _, _, rfl, rfl, ?_⟩
      rw [hxl]
      exact fin _ _ H4 s4 rfl rfl
    · rw [if_neg c1] at fin ⊢
      rw [if_neg c1] at fin
      by_cases c2 : freeIn p (inner ps p) = 0
      · rw [if_pos c2] at fin ⊢
        rw [if_pos c2] at fin
        refine ⟨_, rfl, _, rfl, d, _, rfl, dget_told hlp hd4 (i := 0) rfl, ?_⟩
        refine ⟨_, rfl, rfl, _, rfl, iteY rfl ?_⟩
        have h0 : 0 < (inner ps p).length := by omega
        have e0 : (inner ps p)[0]? = some ((inner ps p).getD 0 (0, 0)) := by
          rw [List.getD_eq_getElem?_getD, List.getElem?_eq_getElem h0]
          rfl
        obtain ⟨x0, hx0, hdx0⟩ := hxs4.get' (i := 0) (d := encP ((inner ps p).getD 0 (0, 0))) (by rw [List.getElem?_map, e0]; rfl)
        obtain ⟨k1, k2⟩ := hS.pl _ (sw_sub _ _ _ _ (List.mem_of_getElem? e0))
        refine ⟨_, rfl, _, rfl, _, rfl, _, rfl, u, z, p, rfl, hp.keep (TK.same s4), by omega, by omega, hz, ?_⟩
        refine ⟨_, rfl, _, rfl, il, _, 0, x0, rfl, rfl, SqL.of hil4, atI_nat (j := 0) hx0, x0, z, _, rfl, hdx0, by omega, by omega, hz, ?_⟩
        refine ⟨_, c, _, _, rfl, hS.code.keep (TK.same s4), hS.ok, two_ok hS.word.ok _ _, two_ok hS.word.ok _ _, fun H5 sm5 => ?_⟩
        exact ⟨_, _, rfl, rfl, fin _ _ H5 (s4.trans sm5) rfl rfl⟩
      · rw [if_neg c2] at fin ⊢
        rw [if_neg c2] at fin
        refine ⟨_, rfl, _, rfl, d, _, rfl, dget_told hlp hd4 (i := 1) rfl, ?_⟩
        refine ⟨_, rfl, rfl, _, rfl, iteN (by decide +kernel) ?_⟩
        refine ⟨_, rfl, rfl, _, rfl, iteN (by decide +kernel) ?_⟩
        have en : (("inner" : Str) ++ (" free" : Str)) = ("inner free" : Str) := by decide +kernel
        refine ⟨_, rfl, _, rfl, _, rfl, _, rfl, _, _, rfl, rfl, (by decide +kernel), d, _, rfl, ?_, _, _, rfl, rfl, .inl ⟨fb1, fb2⟩, _, _, rfl, rfl, fin _ _ H4 s4 rfl rfl⟩
        rw [en]
        exact dget_told hlp hd4 (i := 2) rfl
end
end K14
/-! loops_of, worth_of. -/
namespace K14
open PySem L2

abbrev sLoops : Stmt := top 23
abbrev sWorth : Stmt := top 24

def rowOf (c : Code) (z : Str) (ps : List (Nat × Nat)) (p : Nat × Nat) : List V := [.int p.1, .int p.2, .str (kindS (inner ps p).length (freeIn p (inner ps p))), .int (freeIn p (inner ps p)), .int (loopW c z ps p)]
/-- a list of such rows -/
inductive Rows (K : PySem.W.Frag) (H : Hp) (c : Code) (z : Str) (ps : List (Nat × Nat)) : List V → List (Nat × Nat) → Prop where
  | nil : Rows K H c z ps [] []
  | cons {t : Addr} {p : Nat × Nat} {xs : List V} {qs : List (Nat × Nat)} : SqT K H t (rowOf c z ps p) → Rows K H c z ps xs qs → Rows K H c z ps (.ref t :: xs) (p :: qs)
section
variable {K : PySem.W.Frag} {H H' : Hp} {c : Code} {z : Str} {ps : List (Nat × Nat)}
theorem Rows.keep (k : TK H H') : ∀ {xs : List V} {qs : List (Nat × Nat)}, Rows K H c z ps xs qs → Rows K H' c z ps xs qs
  | _, _, .nil => .nil
  | _, _, .cons h t => .cons (k.sq h) (Rows.keep k t)
theorem Rows.snoc : ∀ {xs : List V} {qs : List (Nat × Nat)} {t : Addr} {p : Nat × Nat}, Rows K H c z ps xs qs → SqT K H t (rowOf c z ps p) → Rows K H c z ps (xs ++ [.ref t]) (qs ++ [p])
  | _, _, _, _, .nil, h => .cons h .nil
  | _, _, _, _, .cons h t, h' => .cons h (Rows.snoc t h')
theorem Rows.length : ∀ {xs : List V} {qs : List (Nat × Nat)}, Rows K H c z ps xs qs → xs.length = qs.length
  | _, _, .nil => rfl
  | _, _, .cons _ t => by rw [List.length_cons, List.length_cons, t.length]
theorem Rows.at : ∀ {xs : List V} {qs : List (Nat × Nat)} {i : Nat} {x : V}, Rows K H c z ps xs qs → xs[i]? = some x → ∃ p t, qs[i]? = some p ∧ x = .ref t ∧ SqT K H t (rowOf c z ps p)
  | _, _, _, _, .nil, e => by simp at e
  | _, _, 0, _, .cons h _, e => by
    cases (Option.some.inj e)
    exact ⟨_, _, rfl, rfl, h⟩
  | _, _, i + 1, _, .cons _ t, e => by
    obtain ⟨p, t', h1, h2, h3⟩ := t.at (i := i) (by simpa using e)
    exact ⟨p, t', by simpa using h1, h2, h3⟩
end
section
variable {P : Program} {w : World} {K : PySem.W.Frag} {mg : Str → Option Value} {base : Heap} {k : Nat} {f : Addr} {fd : FuncData}
/-! ### loops_of -/
def spLoops (K : PySem.W.Frag) : Sp := fun vs H Q _ => ∃ (v fv : V) (c : Code) (z : Str) (ps : List (Nat × Nat)), vs = [v, .str z, fv] ∧ Set3 K H v c z fv ps ∧
  ∀ H' l xs, Same H H' → H l = none → H' l = some (.lst xs) → Rows K H' c z ps xs ps → Q (.ref l) H'
theorem scLoops : FnScope ["rules", "string", "folding", "pair"] ["rules", "string", "folding"] (defScope sLoops) := ⟨rfl, rfl, rfl, by decide +kernel, rfl, by decide +kernel, by decide +kernel⟩
theorem ok_loops (F : Fun K "loops_of" "loops_of" sLoops f fd) (GL : Has P w K mg base "loop_of" ["rules", "string", "folding", "pair"] (k + 1) (spLoop K)) : FnOk P w K mg base CX0 (k + 2) f fd ["rules", "string", "folding"] (spLoops K) := by
  refine F.ok scLoops (fun vs H Q E h => ?_) (fun cdv A outer s H vs Q E hr h => ?_)
  · obtain ⟨v, fv, c, z, ps, rfl, _⟩ := h
    rfl
  obtain ⟨v, fv, c, z, ps, rfl, hS, g⟩ := h
  obtain ⟨fL, fdL, gL, mL, kL, bL⟩ := GL
  obtain ⟨a, xs, rfl, ha, hx⟩ := hS.fold.tup_inv
  have hlen : xs.length = ps.length := by rw [hx.length, List.length_map]
  refine ⟨_, pss_one (ps_ret (pe_lc (own := [("pair", 3)]) (g := gName 3) (tt := tYes) rfl scLoops.nd (pi_tup (pv 2)) (blkOk_by (N := ["rules", "string", "folding", "pair"]) (sc := defScope sLoops) (by decide +kernel)) (fun _ _ _ _ _ => pg_name (i := 3) scLoops.nd rfl (Or.inl rfl)) (fun _ _ _ _ _ => pts_nil)
    (fun _ _ _ _ _ => pe_op (op_catTK (K := K) rfl) (pv 3) (pe_call gL hr (by rfl) mL kL bL .nil pass0 (pa_cons (pv 0) (pa_cons (pv 1) (pa_cons (pv 2) (pa_cons (pv 3) pa_nil)))))))), ?_⟩
  refine ⟨_, rfl, a, rfl, ⟨_, ha⟩, fun D nD => ?_⟩
  refine lc_tup (K := K) (a := a) (xs := xs) (fun i H' => Same H H' ∧ ∃ ys, H' D = some (.lst ys) ∧ Rows K H' c z ps ys (ps.take i)) ⟨same_new _ nD, [], upd_same, .nil⟩ (fun i H' _ h => (TK.same h.1).sq ha) ?_ ?_
  · rintro i x H' hxi ⟨sm, ys, hD, hR⟩
    obtain ⟨p, t, hp, rfl, ht⟩ := pairs_at hx hxi
    have hlt : i < ps.length := (List.getElem?_eq_some_iff.mp hp).1
    have hl12 := hS.len
    refine ⟨rfl, ?_⟩
    have ht' := (TK.same sm).sq ht
    refine ⟨_, rfl, _, rfl, _, rfl, _, rfl, _, rfl, v, .ref a, .ref t, c, z, ps, p, rfl, hS.keep (TK.same sm), List.mem_of_getElem? hp, Dt.of_pair ht', fun H2 t2 sm2 ht2 => ?_⟩
    have ht3 := (TK.same sm2).sq ht'
    refine ⟨t, t2, _, _, rfl, rfl, ht3, ht2, (by intro h; cases h), (by show 5 ≤ sizeLine; decide), (fun h => by cases h), fun _ t3 nt3 => ?_⟩
    have s3 := same_new (HO.tup ([.int p.1, .int p.2] ++ [.str (kindS (inner ps p).length (freeIn p (inner ps p))), .int (freeIn p (inner ps p)), .int (loopW c z ps p)])) nt3
    have hD3 := s3 _ _ (sm2 _ _ hD)
    refine ⟨ys, hD3, ?_, same_fresh _ (sm.trans (sm2.trans s3)) nD, ys ++ [.ref t3], upd_same, ?_⟩
    · rw [hR.length, List.length_take]
      exact szl (by omega)
    · rw [take_next hp]
      refine Rows.keep (TK.lst _ hD3) ((hR.keep ((TK.same sm2).trans (TK.same s3))).snoc (SqT.of upd_same))
  · rintro H' ⟨sm, ys, hD, hR⟩
    rw [hlen, List.take_length] at hR
    exact g H' D ys sm nD hD hR
/-! ### worth_of -/
def pairSum (c : Code) (z : Str) (ps : List (Nat × Nat)) : Int := (ps.map fun p => pwI c (two z p.1 p.2)).sum
def loopSum (c : Code) (z : Str) (ps : List (Nat × Nat)) : Int := (ps.map fun p => loopW c z ps p).sum
theorem mayB_pw {c : Code} {z : Str} {i j : Nat} (h : mayB c z i j = true) : (pw c (two z i j)).isSome = true := by
  unfold mayB at h
  rw [Bool.and_eq_true] at h
  exact h.2
def spWorth (K : PySem.W.Frag) : Sp := fun vs H Q _ => ∃ (v fv : V) (c : Code) (z : Str) (ps : List (Nat × Nat)), vs = [v, .str z, fv] ∧ Set3 K H v c z fv ps ∧ (∀ p ∈ ps, mayB c z p.1 p.2 = true) ∧
  ∀ H', Same H H' → Q (.int (pairSum c z ps + loopSum c z ps + tl c 8 * ((sw none (-1) ps).length : Int))) H'
theorem scWorth : FnScope ["rules", "string", "folding", "open_worth", "pairs", "loops", "pair", "row"] ["rules", "string", "folding"] (defScope sWorth) := ⟨rfl, rfl, rfl, by decide +kernel, rfl, by decide +kernel, by decide +kernel⟩
theorem ok_worth (F : Fun K "worth_of" "worth_of" sWorth f fd) (T : Blt mg) (C : Cst K mg) (GP : Has P w K mg base "pair_worth" ["rules", "both"] (k + 1) (spPairW K)) (GL : Has P w K mg base "letters_of" ["string", "pair"] (k + 1) (spLetters K))
    (GO : Has P w K mg base "loops_of" ["rules", "string", "folding"] (k + 1) (spLoops K)) (GS : Has P w K mg base "straight_within" ["folding", "pair"] (k + 1) (spStraight K)) : FnOk P w K mg base CX0 (k + 2) f fd ["rules", "string", "folding"] (spWorth K) := by
  refine F.ok scWorth (fun vs H Q E h => ?_) (fun cdv A outer s H vs Q E hr h => ?_)
  · obtain ⟨v, fv, c, z, ps, rfl, _⟩ := h
    rfl
  obtain ⟨v, fv, c, z, ps, rfl, hS, hmay, g⟩ := h
  have hu := hu_of hr
  obtain ⟨fP, fdP, gP, mP, kP, bP⟩ := GP
  obtain ⟨fL, fdL, gL, mL, kL, bL⟩ := GL
  obtain ⟨fO, fdO, gO, mO, kO, bO⟩ := GO
  obtain ⟨fS, fdS, gS, mS, kS, bS⟩ := GS
  obtain ⟨la, mLo, hLo⟩ := C.lo
  obtain ⟨fa, xs, rfl, ha, hx⟩ := hS.fold.tup_inv
  have hlen : xs.length = ps.length := by rw [hx.length, List.length_map]
  have hl12 := hS.len
  have hz := hS.word.le
  refine ⟨_, pss_cons (ps_set (i := 3) scWorth.nd rfl (Or.inl rfl) (pe_dget hu (pe_dlz rfl (by rfl) T.dict (by rfl) T.list (by rfl) T.zip (pa_cons (pe_glob (v := .ref la) (by rfl) mLo rfl) (pa_cons (pe_ix ix_tup (pv 0) pe_int (fun _ _ => rfl)) pa_nil))) pe_str (fun _ _ => rfl)))
    (pss_cons (ps_set (i := 4) scWorth.nd rfl (Or.inl rfl) (pe_callB (cr_sum rfl) (by rfl) T.sum PyProof.Rows.boot_sum (pa_cons
      (pe_lc (own := [("pair", 6)]) (g := gName 6) (tt := tYes) rfl scWorth.nd (pi_tup (pv 2)) (blkOk_by (N := ["rules", "string", "folding", "open_worth", "pairs", "loops", "pair", "row"]) (sc := defScope sWorth) (by decide +kernel)) (fun _ _ _ _ _ => pg_name (i := 6) scWorth.nd rfl (Or.inl rfl)) (fun _ _ _ _ _ => pts_nil)
        (fun _ _ _ _ _ => pe_call gP hr (by rfl) mP kP bP .nil pass0 (pa_cons (pv 0) (pa_cons (pe_call gL hr (by rfl) mL kL bL .nil pass0 (pa_cons (pv 1) (pa_cons (pv 6) pa_nil))) pa_nil)))) pa_nil)))
    (pss_cons (ps_set (i := 5) scWorth.nd rfl (Or.inl rfl) (pe_callB (cr_sum rfl) (by rfl) T.sum PyProof.Rows.boot_sum (pa_cons
      (pe_lc (own := [("row", 7)]) (g := gName 7) (tt := tYes) rfl scWorth.nd (pi_list (pe_call gO hr (by rfl) mO kO bO .nil pass0 (pa_cons (pv 0) (pa_cons (pv 1) (pa_cons (pv 2) pa_nil))))) (blkOk_by (N := ["rules", "string", "folding", "open_worth", "pairs", "loops", "pair", "row"]) (sc := defScope sWorth) (by decide +kernel)) (fun _ _ _ _ _ => pg_name (i := 7) scWorth.nd rfl (Or.inl rfl)) (fun _ _ _ _ _ => pts_nil)
        (fun _ _ _ _ _ => pe_ix (ix_tupK (K := K) rfl) (pv 7) (pe_un un_neg pe_int) (fun _ _ => rfl))) pa_nil)))
    (pss_one (ps_ret (pe_op op_add (pe_op op_add (pv 4) (pv 5)) (pe_op op_mul (pv 3) (pe_callB call_len_seq (by rfl) T.len PySem.boot_len (pa_cons (pe_call gS hr (by rfl) mS kS bS .nil pass0 (pa_cons (pv 2) (pa_cons pe_non pa_nil))) pa_nil)))))))), ?_⟩
  obtain ⟨a, tb, l, vr, ob, ts, rfl, h2, h3, h6, h7⟩ := id hS.code
  have hlp := hS.ok.lp
  refine ⟨_, rfl, a, _, 3, _, rfl, rfl, h2, atI_nat (j := 3) rfl, la, l, nms, _, rfl, hLo _, h6, ?_, ?_, ?_, fun d nd => ?_⟩
  · rw [List.length_map, hlp]
    rfl
  · rw [List.length_map, hlp]
    decide
  · rw [List.length_map, hlp]
    decide
  have s1 : Same H (upd H d (.dK (mergeK [] (toldKv c)))) := same_new _ nd
  refine ⟨d, _, rfl, dget_told hlp (upd_same (o := .dK (mergeK [] (toldKv c)))) (i := 8) rfl, ?_⟩
  have hH1' : upd H d (.dK (mergeK [] ((nms.map fun k => (Sum.inr k : Key)).zip (c.loops.map V.int)))) = upd H d (.dK (mergeK [] (toldKv c))) := rfl
  rw [hH1']
  generalize upd H d (.dK (mergeK [] (toldKv c))) = H1 at s1 ⊢
  -- pairs
  refine ⟨_, rfl, fa, rfl, ⟨_, (TK.same s1).sq ha⟩, fun D nD => ?_⟩
  have nDH := s1.free nD
  refine lc_tup (K := K) (a := fa) (xs := xs) (fun i H' => Same H H' ∧ H' D = some (.lst (((ps.take i).map fun p => pwI c (two z p.1 p.2)).map V.int))) ⟨s1.trans (same_new _ nD), upd_same⟩ (fun i H' _ h => (TK.same h.1).sq ha) ?_ ?_
  · rintro i x H' hxi ⟨sm, hD⟩
    obtain ⟨p, t, hp, rfl, ht⟩ := pairs_at hx hxi
    have hlt : i < ps.length := (List.getElem?_eq_some_iff.mp hp).1
    have hpm := List.mem_of_getElem? hp
    obtain ⟨q1, q2⟩ := hS.pl p hpm
    refine ⟨rfl, ?_⟩
    refine ⟨_, rfl, _, rfl, _, rfl, .ref t, z, p, rfl, Dt.of_pair ((TK.same sm).sq ht), by omega, q2, hz, ?_⟩
    refine ⟨_, c, _, rfl, hS.code.keep (TK.same sm), fun H2 sm2 => ?_⟩
    rw [pw_eq (mayB_pw (hmay p hpm))]
    refine ⟨_, sm2 _ _ hD, ?_, same_fresh _ (sm.trans sm2) nDH, ?_⟩
    · rw [List.length_map, List.length_map, List.length_take]
      exact szl (by omega)
    · rw [upd_same, take_next hp, List.map_append, List.map_append]
      rfl
  rintro H2 ⟨s2, hD2⟩
  rw [hlen, List.take_length] at hD2
  refine ⟨D, _, rfl, SqL.of hD2, ?_⟩
  -- loops
  refine ⟨_, rfl, _, rfl, _, rfl, _, _, c, z, ps, rfl, hS.keep (TK.same s2), fun H3 lo rows sm3 nlo hlo hrows => ?_⟩
  have s3 := s2.trans sm3
  refine ⟨lo, rfl, ⟨_, SqL.of hlo⟩, fun D2 nD2 => ?_⟩
  have nD2H := s3.free nD2
  have hrl : rows.length = ps.length := hrows.length
  refine lc_list (K := K) (a := lo) (xs := rows) (fun i H' => Same H3 H' ∧ H' D2 = some (.lst (((ps.take i).map fun p => loopW c z ps p).map V.int))) ⟨same_new _ nD2, upd_same⟩ (fun i H' _ h => h.1.seq (SqL.of hlo)) ?_ ?_
  · rintro i x H' hxi ⟨sm, hD⟩
    obtain ⟨p, t, hp, rfl, ht⟩ := hrows.at hxi
    have hlt : i < ps.length := (List.getElem?_eq_some_iff.mp hp).1
    refine ⟨rfl, ?_⟩
    refine ⟨_, rfl, 1, rfl, t, _, -1, _, rfl, rfl, (TK.same sm).sq ht, rfl, _, hD, ?_, same_fresh _ sm nD2, ?_⟩
    · rw [List.length_map, List.length_map, List.length_take]
      exact szl (by omega)
    · rw [upd_same, take_next hp, List.map_append, List.map_append]
      rfl
  rintro H4 ⟨sm4, hD4⟩
  rw [hrl, List.take_length] at hD4
  have s4 := s3.trans sm4
  refine ⟨D2, _, rfl, SqL.of hD4, ?_⟩
  -- the sum
  refine ⟨_, rfl, _, rfl, _, _, rfl, rfl, _, rfl, _, rfl, _, .non, ps, -1, none, rfl, hS.fold.keep (TK.same s4), .inl ⟨rfl, rfl, rfl⟩, hS.len, fun H5 sl ys sm5 nsl hsl hys => ?_⟩
  have hyl : ys.length = (sw none (-1) ps).length := by rw [hys.length, List.length_map]
  have hb := sw_len none (-1) ps
  refine ⟨sl, ys, rfl, .inl (SqL.of hsl), _, _, rfl, rfl, .inr (by rw [hyl]; constructor <;> omega), _, _, rfl, rfl, ?_⟩
  rw [hyl]
  exact g H5 (s4.trans sm5)
end
end K14
/-! The law's pen: _law_pen, _law_take. -/
namespace K14
open PySem L2

abbrev sPen : Stmt := top 26
abbrev sTake : Stmt := top 27

/-! ### the pen -/
abbrev kC : Key := Sum.inr "cells"
abbrev kA : Key := Sum.inr "at"
abbrev kL : Key := Sum.inr "left"
def penKv (cl : Addr) (m l : Int) : List (Key × V) := [(kC, .ref cl), (kA, .int m), (kL, .int l)]
theorem kCA : ¬ (kC = kA) := by decide +kernel
theorem kCL : ¬ (kC = kL) := by decide +kernel
theorem kAL : ¬ (kA = kL) := by decide +kernel
theorem kLA : ¬ (kL = kA) := by decide +kernel
theorem kAC : ¬ (kA = kC) := by decide +kernel
theorem kLC : ¬ (kL = kC) := by decide +kernel
theorem pen_valC (cl : Addr) (m l : Int) : valV (penKv cl m l) kC = some (.ref cl) := valV_pos rfl
theorem pen_valA (cl : Addr) (m l : Int) : valV (penKv cl m l) kA = some (.int m) := by
  unfold penKv
  rw [valV_neg kCA, valV_pos rfl]
theorem pen_valL (cl : Addr) (m l : Int) : valV (penKv cl m l) kL = some (.int l) := by
  unfold penKv
  rw [valV_neg kCL, valV_neg kAL, valV_pos rfl]
theorem pen_putA (cl : Addr) (m l m' : Int) : putK (penKv cl m l) kA (.int m') = penKv cl m' l := by
  unfold putK
  have h : ((penKv cl m l).any fun kv => decide (kv.1 = kA)) = true := by
    rw [valV_any, pen_valA]
    rfl
  rw [if_pos h]
  unfold penKv
  simp only [List.map_cons, List.map_nil, if_neg kCA, if_neg kLA, if_true]
theorem pen_putL (cl : Addr) (m l l' : Int) : putK (penKv cl m l) kL (.int l') = penKv cl m l' := by
  unfold putK
  have h : ((penKv cl m l).any fun kv => decide (kv.1 = kL)) = true := by
    rw [valV_any, pen_valL]
    rfl
  rw [if_pos h]
  unfold penKv
  simp only [List.map_cons, List.map_nil, if_neg kCL, if_neg kAL, if_true]
theorem pen_merge (cl : Addr) (m l : Int) : mergeK [] (penKv cl m l) = penKv cl m l := by
  have e1 : putK ([] : List (Key × V)) kC (.ref cl) = [(kC, .ref cl)] := putK_new _ valV_nil
  have e2 : putK [(kC, V.ref cl)] kA (.int m) = [(kC, .ref cl), (kA, .int m)] := putK_new _ (by rw [valV_neg kCA, valV_nil])
  have e3 : putK [(kC, V.ref cl), (kA, V.int m)] kL (.int l) = [(kC, .ref cl), (kA, .int m), (kL, .int l)] := putK_new _ (by rw [valV_neg kCL, valV_neg kAL, valV_nil])
  show putK (putK (putK ([] : List (Key × V)) kC (.ref cl)) kA (.int m)) kL (.int l) = _
  rw [e1, e2, e3]
  rfl
/-- the pen stands at p, its cells at cl, at most n taken -/
def PenAt (H : Hp) (p cl : Addr) (ns : List Int) (n : Nat) : Prop := ∃ (m : Nat) (l : Int), m ≤ n ∧ 0 ≤ l ∧ H p = some (.dK (penKv cl m l)) ∧ H cl = some (.lst (ns.map V.int))
theorem PenAt.mono {H : Hp} {p cl : Addr} {ns : List Int} {n n' : Nat} (h : PenAt H p cl ns n) (hn : n ≤ n') : PenAt H p cl ns n' := by
  obtain ⟨m, l, h1, h2⟩ := h
  exact ⟨m, l, Nat.le_trans h1 hn, h2⟩
theorem PenAt.same {H H' : Hp} {p cl : Addr} {ns : List Int} {n : Nat} (h : PenAt H p cl ns n) (s : Same H H') : PenAt H' p cl ns n := by
  obtain ⟨m, l, h1, h2, h3, h4⟩ := h
  exact ⟨m, l, h1, h2, s _ _ h3, s _ _ h4⟩
theorem PenAt.tk {H H' : Hp} {p cl : Addr} {ns : List Int} {n : Nat} (h : PenAt H p cl ns n) (b : But [p] H H') : TK H H' := by
  obtain ⟨m, l, h1, h2, h3, h4⟩ := h
  refine ⟨fun a xs e => b a _ e fun z => ?_, fun a o xs e => b a _ e fun z => ?_⟩
  · rw [List.mem_singleton.mp z, h3] at e
    cases e
  · rw [List.mem_singleton.mp z, h3] at e
    cases e
theorem PenAt.lst {H H' : Hp} {p cl a : Addr} {ns : List Int} {n : Nat} {xs : List V} (h : PenAt H p cl ns n) (b : But [p] H H') (e : H a = some (.lst xs)) : H' a = some (.lst xs) := by
  obtain ⟨m, l, h1, h2, h3, h4⟩ := h
  refine b a _ e fun z => ?_
  rw [List.mem_singleton.mp z, h3] at e
  cases e
theorem pen_get {H : Hp} {p cl : Addr} {m l : Int} (h : H p = some (.dK (penKv cl m l))) : DGet H p (.str "cells") (some (.ref cl)) ∧ DGet H p (.str "at") (some (.int m)) ∧ DGet H p (.str "left") (some (.int l)) := by
  refine ⟨?_, ?_, ?_⟩
  · rw [← pen_valC cl m l]
    exact DGet.k (k := kC) h
  · rw [← pen_valA cl m l]
    exact DGet.k (k := kA) h
  · rw [← pen_valL cl m l]
    exact DGet.k (k := kL) h
theorem pen_setA {H : Hp} {p cl : Addr} {m l m' : Int} (h : H p = some (.dK (penKv cl m l))) : DPut H p (.str "at") (.int m') (upd H p (.dK (penKv cl m' l))) := by
  rw [← pen_putA cl m l m']
  exact DPut.k (k := kA) h (by show 3 < sizeLine; decide)
theorem pen_setL {H : Hp} {p cl : Addr} {m l l' : Int} (h : H p = some (.dK (penKv cl m l))) : DPut H p (.str "left") (.int l') (upd H p (.dK (penKv cl m l'))) := by
  rw [← pen_putL cl m l l']
  exact DPut.k (k := kL) h (by show 3 < sizeLine; decide)

section
variable {P : Program} {w : World} {K : PySem.W.Frag} {mg : Str → Option Value} {base : Heap} {k : Nat} {f : Addr} {fd : FuncData}
/-! ### _law_pen -/
def spPen (K : PySem.W.Frag) : Sp := fun vs H Q _ => ∃ (a : Addr) (ns : List Int), vs = [.ref a] ∧ SqL K H a (ns.map V.int) ∧ ns.length ≤ 63 ∧ ∀ H' p cl, Same H H' → PenAt H' p cl ns 0 → Q (.ref p) H'
theorem scPen : FnScope ["_law_script"] ["_law_script"] (defScope sPen) := ⟨rfl, rfl, rfl, by decide +kernel, rfl, by decide +kernel, by decide +kernel⟩
theorem ok_pen (F : Fun K "_law_pen" "_law_pen" sPen f fd) : FnOk P w K mg base CX0 (k + 1) f fd ["_law_script"] (spPen K) := by
  refine F.ok scPen (fun vs H Q E h => ?_) (fun cdv A outer s H vs Q E hr h => ?_)
  · obtain ⟨a, ns, rfl, _⟩ := h
    rfl
  obtain ⟨a, ns, rfl, hq, hl, g⟩ := h
  refine ⟨_, pss_one (ps_ret (pe_disp (pps_cons pe_str (pe_slice sl_list (pv 0) po_none (po_some pe_int)) (pps_cons pe_str pe_int (pps_cons pe_str pe_int pps_nil))) (by rfl) (by rfl) (fun z => by cases z) (by decide))), ?_⟩
  refine fun p np => ?_
  have s1 := same_new (HO.dK []) np
  refine ⟨_, rfl, 63, rfl, a, _, rfl, s1.seq hq, fun cl ncl => ?_⟩
  have hpc : p ≠ cl := fun e => by
    rw [← e, upd_same] at ncl
    cases ncl
  have ecut : cutV (ns.map V.int) none (some 63) = ns.map V.int := by
    unfold cutV
    rw [show HT.sIx (ns.map V.int).length (ns.map V.int).length (some 63) = min 63 (ns.map V.int).length from HT.sIx_nat _ _ 63, HT.sIx_none, List.length_map, Nat.min_eq_right hl]
    exact List.take_of_length_le (by rw [List.drop_zero, List.length_map]; exact Nat.le_refl _)
  rw [ecut]
  refine ⟨by rw [upd_ne hpc, upd_same], penKv cl 0 0, rfl, (by show 3 ≤ 15; decide), ?_⟩
  rw [pen_merge]
  have s2 : Same H (upd (upd H p (.dK [])) cl (.lst (ns.map V.int))) := s1.trans (same_new _ ncl)
  refine g _ p cl (same_fresh _ s2 np) ⟨0, 0, Nat.le_refl _, Int.le_refl _, upd_same, ?_⟩
  rw [upd_ne hpc.symm, upd_same]
/-! ### _law_take -/
theorem md_bd (a : Int) {b : Int} (h : 0 < b) (hb : b ≤ 2 ^ 64) : -(2 ^ 64) < a % b ∧ a % b < 2 ^ 64 := by
  have h1 := Int.emod_nonneg a (show b ≠ 0 by omega)
  have h2 := Int.emod_lt_of_pos a h
  constructor <;> omega
def spTake : Sp := fun vs H Q _ => ∃ (p cl : Addr) (ns : List Int) (n : Nat) (sz : Int), vs = [.ref p, .int sz] ∧ PenAt H p cl ns n ∧ n ≤ 1000000 ∧ ns.length ≤ 63 ∧ 1 ≤ sz ∧ sz ≤ 100000 ∧
  ∀ H' r, 0 ≤ r → r < sz → But [p] H H' → PenAt H' p cl ns (n + 1) → Q (.int r) H'
theorem scTake : FnScope ["_law_pen_here", "_law_size", "_law_cells", "_law_found", "_law_at", "_law_raw", "_law_number"] ["_law_pen_here", "_law_size"] (defScope sTake) := ⟨rfl, rfl, rfl, by decide +kernel, rfl, by decide +kernel, by decide +kernel⟩
theorem ok_take (F : Fun K "_law_take" "_law_take" sTake f fd) (T : Blt mg) : FnOk P w K mg base CX0 (k + 1) f fd ["_law_pen_here", "_law_size"] spTake := by
  refine F.ok scTake (fun vs H Q E h => ?_) (fun cdv A outer s H vs Q E hr h => ?_)
  · obtain ⟨p, cl, ns, n, sz, rfl, _⟩ := h
    rfl
  obtain ⟨p, cl, ns, n, sz, rfl, ⟨m, l, hm, hl, hp, hcl⟩, hn, hns, hs1, hs2, g⟩ := h
  have hu := hu_of hr
  have ncp : cl ≠ p := fun e => by
    rw [e, hp] at hcl
    cases hcl
  refine ⟨_, pss_cons (ps_set (i := 2) scTake.nd rfl (Or.inl rfl) (pe_dget hu (pv 0) pe_str (fun _ _ => rfl)))
    (pss_cons (ps_if (pt_cmpR op_gt (pe_dget hu (pv 0) pe_str (fun _ _ => rfl)) pe_int (nomark _))
        (pss_cons (ps_set (i := 3) scTake.nd rfl (Or.inl rfl) (pe_op op_mod (pe_dget hu (pv 0) pe_str (fun _ _ => rfl)) (pv 1)))
        (pss_cons (ps_dput hu (pv 0) pe_str (pe_op op_fdiv (pe_dget hu (pv 0) pe_str (fun _ _ => rfl)) (pv 1)) rfl)
        (pss_one (ps_ret (pv 3))))) pss_nil)
    (pss_cons (ps_set (i := 4) scTake.nd rfl (Or.inl rfl) (pe_dget hu (pv 0) pe_str (fun _ _ => rfl)))
    (pss_cons (ps_dput hu (pv 0) pe_str (pe_op op_add (pv 4) pe_int) rfl)
    (pss_cons (ps_set (i := 5) scTake.nd rfl (Or.inl rfl) (pe_op op_add (pe_op op_add (pe_op op_mul (pe_op op_mul pe_int (pv 4)) (pv 4)) (pe_op op_mul pe_int (pv 4))) pe_int))
    (C8.pss_cut (ps_if (pt_cmpR op_lt (pv 4) (pe_callB call_len_seq (by rfl) T.len PySem.boot_len (pa_cons (pv 2) pa_nil)) (nomark _))
        (pss_cons (ps_set (i := 5) scTake.nd rfl (Or.inl rfl) (pe_ix ix_list (pv 2) (pv 4) (fun _ _ => rfl)))
        (pss_one (ps_if (pt_cmpR op_ge (pe_callB call_abs (by rfl) T.abs PyProof.Rows.boot_abs (pa_cons (pv 5) pa_nil)) (pe_op op_pow pe_int pe_int) (nomark _))
          (pss_cons (ps_dput hu (pv 0) pe_str (pe_op op_fdiv (pe_callB call_abs (by rfl) T.abs PyProof.Rows.boot_abs (pa_cons (pv 5) pa_nil)) (pv 1)) rfl)
          (pss_one (ps_ret (pe_op op_mod (pe_callB call_abs (by rfl) T.abs PyProof.Rows.boot_abs (pa_cons (pv 5) pa_nil)) (pv 1))))) pss_nil)))
        (pss_one (ps_if (pt_cmpR op_gt (pe_callB call_len_seq (by rfl) T.len PySem.boot_len (pa_cons (pv 2) pa_nil)) pe_int (nomark _))
          (pss_one (ps_set (i := 5) scTake.nd rfl (Or.inl rfl) (pe_op op_add (pe_op op_mod (pe_ix ix_list (pv 2) (pe_op op_mod (pv 4) (pe_callB call_len_seq (by rfl) T.len PySem.boot_len (pa_cons (pv 2) pa_nil))) (fun _ _ => rfl)) (pe_op op_pow pe_int pe_int)) (pe_op op_mul pe_int (pv 4))))) pss_nil)))
    (pss_cons (ps_set (i := 6) scTake.nd rfl (Or.inl rfl) (pe_op op_mod (pe_op op_mul (pe_op op_add (pe_op op_add (pe_op op_mod (pv 5) pe_int) (pe_op op_mul pe_int (pv 4))) pe_int) pe_int) pe_int))
    (pss_cons (ps_set (i := 6) scTake.nd rfl (Or.inl rfl) (pe_op op_mod (pe_op op_add (pe_op op_mul (pv 6) (pe_op op_add (pe_op op_mod (pv 6) pe_int) pe_int)) (pe_op op_mul pe_int (pv 4))) pe_int))
    (pss_one (ps_ret (pe_op op_mod (pe_op op_fdiv (pe_op op_mod (pe_op op_mul (pv 6) (pe_op op_add (pe_op op_mod (pv 6) pe_int) pe_int)) pe_int) pe_int) (pv 1))))))))))), ?_⟩
  obtain ⟨d1, d2, d3⟩ := pen_get hp
  refine ⟨_, rfl, p, _, rfl, d1, ?_⟩
  refine ⟨_, rfl, p, _, rfl, d3, _, _, rfl, rfl, _, rfl, ?_⟩
  refine ite2 (fun c => ?_) (fun c => ?_)
  · -- a digit of a great cell
    refine ⟨_, rfl, p, _, rfl, d3, _, rfl, _, _, rfl, rfl, (by show 0 < sz; omega), ?_⟩
    refine ⟨_, rfl, p, _, rfl, d3, _, rfl, _, _, rfl, rfl, ⟨by omega, by omega⟩, _, rfl, p, _, rfl, pen_setL hp, _, rfl, ?_⟩
    refine g _ _ (Int.emod_nonneg _ (by omega)) (Int.emod_lt_of_pos _ (by omega)) (But.at _ (But.refl _ _) (List.mem_singleton.mpr rfl)) ⟨m, l / sz, by omega, Int.ediv_nonneg hl (by omega), upd_same, ?_⟩
    rw [upd_ne ncp]
    exact hcl
  · refine ⟨_, rfl, p, _, rfl, d2, ?_⟩
    refine ⟨_, rfl, _, _, rfl, rfl, _, rfl, p, _, rfl, pen_setA (m' := ((m + 1 : Nat) : Int)) hp, ?_⟩
    have hp1 : (upd H p (.dK (penKv cl ((m + 1 : Nat) : Int) l))) p = some (.dK (penKv cl ((m + 1 : Nat) : Int) l)) := upd_same
    have hcl1 : (upd H p (.dK (penKv cl ((m + 1 : Nat) : Int) l))) cl = some (.lst (ns.map V.int)) := by rw [upd_ne ncp]; exact hcl
    have b1 : But [p] H (upd H p (.dK (penKv cl ((m + 1 : Nat) : Int) l))) := But.at _ (But.refl _ _) (List.mem_singleton.mpr rfl)
    generalize upd H p (.dK (penKv cl ((m + 1 : Nat) : Int) l)) = H1 at hp1 hcl1 b1 ⊢
    have hmb : (-(2 ^ 64) : Int) < (m : Int) ∧ (m : Int) < 2 ^ 64 := by constructor <;> omega
    refine ⟨_, rfl, _, _, rfl, rfl, .inr hmb, _, rfl, _, _, rfl, rfl, .inr hmb, _, rfl, _, _, rfl, rfl, .inr hmb, _, _, rfl, rfl, _, _, rfl, rfl, ?_⟩
    -- whatever the raw number is
    refine ⟨fun σ' H' => ∃ rw6 : Int, σ' = [some (.ref p), some (.int sz), some (.ref cl), none, some (.int (m : Nat)), some (.int rw6), none] ∧ H' = H1, ?_, ?_⟩
    · refine ⟨_, rfl, _, rfl, cl, _, rfl, .inl (SqL.of hcl1), _, _, rfl, rfl, _, rfl, ?_⟩
      refine ite2 (fun c2 => ?_) (fun c2 => ?_)
      · have c2' : m < ns.length := by
          have := of_decide_eq_true c2
          rw [List.length_map] at this
          omega
        refine ⟨_, rfl, _, rfl, cl, _, _, _, rfl, rfl, SqL.of hcl1, atI_nat (v := V.int ns[m]) (by rw [List.getElem?_map, List.getElem?_eq_getElem c2']; rfl), ?_⟩
        refine ⟨_, rfl, _, rfl, _, _, rfl, rfl, ⟨by decide, by decide, by decide⟩, _, _, rfl, rfl, _, rfl, ?_⟩
        refine ite2 (fun c3 => ?_) (fun c3 => ?_)
        · have ha : 0 ≤ (if ns[m] < 0 then -ns[m] else ns[m]) := by split <;> omega
          refine ⟨_, rfl, _, rfl, _, rfl, _, _, rfl, rfl, ⟨by omega, by omega⟩, _, rfl, p, _, rfl, pen_setL hp1, ?_⟩
          refine ⟨_, rfl, _, rfl, _, rfl, _, _, rfl, rfl, (by show 0 < sz; omega), ?_⟩
          refine g _ _ (Int.emod_nonneg _ (by omega)) (Int.emod_lt_of_pos _ (by omega)) (But.at _ b1 (List.mem_singleton.mpr rfl)) ⟨m + 1, (if ns[m] < 0 then -ns[m] else ns[m]) / sz, by omega, Int.ediv_nonneg ha (by omega), upd_same, ?_⟩
          rw [upd_ne ncp]
          exact hcl1
        · exact ⟨_, rfl, rfl⟩
      · refine ⟨_, rfl, cl, _, rfl, .inl (SqL.of hcl1), _, _, rfl, rfl, _, rfl, ?_⟩
        refine ite2 (fun c3 => ?_) (fun c3 => ?_)
        · have hpos : 0 < ns.length := by
            have := of_decide_eq_true c3
            rw [List.length_map] at this
            omega
          have hlt : m % ns.length < ns.length := Nat.mod_lt _ hpos
          refine ⟨_, rfl, _, rfl, _, rfl, cl, _, rfl, .inl (SqL.of hcl1), _, _, rfl, rfl, ?_, cl, _, ((m % ns.length : Nat) : Int), _, rfl, ?_, SqL.of hcl1, atI_nat (v := V.int ns[m % ns.length]) (by rw [List.getElem?_map, List.getElem?_eq_getElem hlt]; rfl), ?_⟩
          · show (0 : Int) < ((ns.map V.int).length : Nat)
            rw [List.length_map]
            omega
          · rw [List.length_map]
            exact congrArg V.int (Int.natCast_emod m ns.length).symm
          · exact ⟨_, _, rfl, rfl, ⟨by decide, by decide, by decide⟩, _, _, rfl, rfl, (show (0 : Int) < 10 ^ (Int.toNat 17) by decide), _, rfl, _, _, rfl, rfl, .inr hmb, _, _, rfl, rfl, _, rfl, rfl⟩
        · exact ⟨_, rfl, rfl⟩
    · rintro σ' H' ⟨r6, rfl, rfl⟩
      refine ⟨_, rfl, _, _, rfl, rfl, (show (0 : Int) < 2147483563 by decide), _, rfl, _, _, rfl, rfl, .inr hmb, _, _, rfl, rfl, _, _, rfl, rfl, _, _, rfl, rfl, .inr (by decide), _, _, rfl, rfl, (show (0 : Int) < 2147483629 by decide), ?_⟩
      refine ⟨_, rfl, _, rfl, _, _, rfl, rfl, (show (0 : Int) < 65419 by decide), _, _, rfl, rfl, _, _, rfl, rfl, .inl (md_bd _ (by decide) (by decide)), _, rfl, _, _, rfl, rfl, .inr hmb, _, _, rfl, rfl, _, _, rfl, rfl, (show (0 : Int) < 2147483587 by decide), ?_⟩
      refine ⟨_, rfl, _, rfl, _, _, rfl, rfl, (show (0 : Int) < 9883 by decide), _, _, rfl, rfl, _, _, rfl, rfl, .inl (md_bd _ (by decide) (by decide)), _, _, rfl, rfl, (show (0 : Int) < 2147483549 by decide), _, _, rfl, rfl, ⟨by decide, by decide⟩, _, rfl, _, _, rfl, rfl, (show 0 < sz by omega), ?_⟩
      exact g _ _ (Int.emod_nonneg _ (by omega)) (Int.emod_lt_of_pos _ (by omega)) b1 ⟨m + 1, l, by omega, hl, hp1, hcl1⟩
end
end K14
/-! The law's draws: _law_pick, _law_worth. -/
namespace K14
open PySem L2

abbrev sPick : Stmt := top 28
abbrev sWorthL : Stmt := top 29

/-- what is picked from: a list, a tuple, a text's signs -/
def SeqV (K : PySem.W.Frag) (H : Hp) (v : V) (xs : List V) : Prop := (∃ a, v = .ref a ∧ SqL K H a xs) ∨ (∃ a, v = .ref a ∧ SqT K H a xs) ∨ ∃ z : Str, v = .str z ∧ xs = vS z.cps.toList
theorem PenAt.sql {K : PySem.W.Frag} {H H' : Hp} {p cl a : Addr} {ns : List Int} {n : Nat} {xs : List V} (h : PenAt H p cl ns n) (b : But [p] H H') (e : SqL K H a xs) : SqL K H' a xs := by
  obtain ⟨m, l, h1, h2, h3, h4⟩ := h
  rcases e with (e | ⟨o, e⟩) | e
  · refine .inl (.inl (b a _ e fun z => ?_))
    rw [List.mem_singleton.mp z, h3] at e
    cases e
  · refine .inl (.inr ⟨o, b a _ e fun z => ?_⟩)
    rw [List.mem_singleton.mp z, h3] at e
    cases e
  · exact .inr e
theorem PenAt.seqV {K : PySem.W.Frag} {H H' : Hp} {p cl : Addr} {v : V} {ns : List Int} {n : Nat} {xs : List V} (h : PenAt H p cl ns n) (b : But [p] H H') (e : SeqV K H v xs) : SeqV K H' v xs := by
  rcases e with ⟨a, e1, e2⟩ | ⟨a, e1, e2⟩ | e
  · exact .inl ⟨a, e1, h.sql b e2⟩
  · exact .inr (.inl ⟨a, e1, (h.tk b).sq e2⟩)
  · exact .inr (.inr e)
theorem at_toNat {α : Type} {xs : List α} {r : Int} (h0 : 0 ≤ r) (h1 : r < (xs.length : Int)) : ∃ x, x ∈ xs ∧ atI xs r = some x := by
  have hk : r.toNat < xs.length := by omega
  have e : r = ((r.toNat : Nat) : Int) := by omega
  refine ⟨xs[r.toNat], List.getElem_mem hk, ?_⟩
  have q : atI xs ((r.toNat : Nat) : Int) = some xs[r.toNat] := atI_nat (List.getElem?_eq_getElem hk)
  rw [← e] at q
  exact q
section
variable {P : Program} {w : World} {K : PySem.W.Frag} {mg : Str → Option Value} {base : Heap} {k : Nat} {f : Addr} {fd : FuncData}
def spPick (K : PySem.W.Frag) : Sp := fun vs H Q _ => ∃ (p cl : Addr) (ns : List Int) (n : Nat) (v : V) (xs : List V), vs = [.ref p, v] ∧ PenAt H p cl ns n ∧ n ≤ 1000000 ∧ ns.length ≤ 63 ∧ SeqV K H v xs ∧ 1 ≤ xs.length ∧ xs.length ≤ 100000 ∧
  ∀ H' x, x ∈ xs → But [p] H H' → PenAt H' p cl ns (n + 1) → Q x H'
theorem scPick : FnScope ["_law_pen_here", "_law_some"] ["_law_pen_here", "_law_some"] (defScope sPick) := ⟨rfl, rfl, rfl, by decide +kernel, rfl, by decide +kernel, by decide +kernel⟩
theorem ok_pick (F : Fun K "_law_pick" "_law_pick" sPick f fd) (T : Blt mg) (GT : Has P w K mg base "_law_take" ["_law_pen_here", "_law_size"] (k + 1) spTake) : FnOk P w K mg base CX0 (k + 2) f fd ["_law_pen_here", "_law_some"] (spPick K) := by
  refine F.ok scPick (fun vs H Q E h => ?_) (fun cdv A outer s H vs Q E hr h => ?_)
  · obtain ⟨p, cl, ns, n, v, xs, rfl, _⟩ := h
    rfl
  obtain ⟨p, cl, ns, n, v, xs, rfl, hp, hn, hns, hv, h1, h2, g⟩ := h
  obtain ⟨fT, fdT, gT, mT, kT, bT⟩ := GT
  refine ⟨_, pss_one (ps_ret (pe_ix ix_seq (pv 1) (pe_call gT hr (by rfl) mT kT bT .nil pass0 (pa_cons (pv 0) (pa_cons (pe_callB call_len (by rfl) T.len PySem.boot_len (pa_cons (pv 1) pa_nil)) pa_nil))) (fun _ _ => rfl))), ?_⟩
  have hlen : LenV K v H xs.length := by
    rcases hv with ⟨a, rfl, e⟩ | ⟨a, rfl, e⟩ | ⟨z, rfl, e⟩
    · exact .inl ⟨xs, e, rfl⟩
    · exact .inr ⟨xs, e, rfl⟩
    · have el : xs.length = z.length := by
        rw [e]
        unfold vS
        rw [List.length_map, Array.length_toList]
        rfl
      exact ⟨sz (by omega), el⟩
  refine ⟨_, rfl, _, rfl, _, rfl, _, xs.length, rfl, hlen, p, cl, ns, n, (xs.length : Int), rfl, hp, hn, hns, by omega, by omega, fun H' r r0 r1 b hp' => ?_⟩
  have hv' := hp.seqV b hv
  obtain ⟨x, hx, hat⟩ := at_toNat r0 r1
  rcases hv' with ⟨a, rfl, e⟩ | ⟨a, rfl, e⟩ | ⟨z, rfl, e⟩
  · exact .inl ⟨a, xs, r, x, rfl, rfl, e, hat, g H' x hx b hp'⟩
  · exact .inr (.inl ⟨a, xs, r, x, rfl, rfl, e, hat, g H' x hx b hp'⟩)
  · have el : xs.length = z.length := by
      rw [e]
      unfold vS
      rw [List.length_map, Array.length_toList]
      rfl
    obtain ⟨c, hc, hatc⟩ := at_toNat (xs := z.cps.toList) r0 (by rw [Array.length_toList]; show r < (z.length : Int); omega)
    refine .inr (.inr ⟨z, r, c, rfl, rfl, sz (by omega), hatc, g H' _ ?_ b hp'⟩)
    rw [e]
    exact List.mem_map.mpr ⟨c, hc, rfl⟩
/-! ### _law_worth -/
def spWorthL : Sp := fun vs H Q _ => ∃ (p cl : Addr) (ns : List Int) (n : Nat), vs = [.ref p] ∧ PenAt H p cl ns n ∧ n ≤ 999000 ∧ ns.length ≤ 63 ∧ ∀ H' i, But [p] H H' → PenAt H' p cl ns (n + 4) → Q (.int i) H'
theorem scWorthL : FnScope ["_law_pen_here", "_law_some"] ["_law_pen_here"] (defScope sWorthL) := ⟨rfl, rfl, rfl, by decide +kernel, rfl, by decide +kernel, by decide +kernel⟩
theorem But.new {S : List Addr} {H H' : Hp} {p : Addr} (o : HO) (h : But S H H') (n : H' p = none) (hs : ∀ b ∈ S, ∃ u, H' b = some u) : But S H (upd H' p o) := fun b u e nb => by
  have e' := h b u e nb
  rw [upd_ne (ne_of_none e' n)]
  exact e'
theorem PenAt.there {H : Hp} {p cl : Addr} {ns : List Int} {n : Nat} (h : PenAt H p cl ns n) : ∃ u, H p = some u := by
  obtain ⟨m, l, h1, h2, h3, h4⟩ := h
  exact ⟨_, h3⟩
theorem ok_worthL (F : Fun K "_law_worth" "_law_worth" sWorthL f fd) (GT : Has P w K mg base "_law_take" ["_law_pen_here", "_law_size"] (k + 1) spTake) (GP : Has P w K mg base "_law_pick" ["_law_pen_here", "_law_some"] (k + 1) (spPick K)) : FnOk P w K mg base CX0 (k + 2) f fd ["_law_pen_here"] spWorthL := by
  refine F.ok scWorthL (fun vs H Q E h => ?_) (fun cdv A outer s H vs Q E hr h => ?_)
  · obtain ⟨p, cl, ns, n, rfl, _⟩ := h
    rfl
  obtain ⟨p, cl, ns, n, rfl, hp, hn, hns, g⟩ := h
  obtain ⟨fT, fdT, gT, mT, kT, bT⟩ := GT
  obtain ⟨fP, fdP, gP, mP, kP, bP⟩ := GP
  refine ⟨_, pss_cons (ps_set (i := 1) scWorthL.nd rfl (Or.inl rfl) (pe_lst (pa_cons pe_int (pa_cons (pe_un un_neg pe_int) (pa_cons (pe_un un_neg pe_int) (pa_cons pe_int
      (pa_cons (pe_op op_sub (pe_call gT hr (by rfl) mT kT bT .nil pass0 (pa_cons (pv 0) (pa_cons pe_int pa_nil))) pe_int)
      (pa_cons (pe_op op_sub (pe_call gT hr (by rfl) mT kT bT .nil pass0 (pa_cons (pv 0) (pa_cons pe_int pa_nil))) pe_int)
      (pa_cons pe_int (pa_cons (pe_un un_neg pe_int)
      (pa_cons (pe_op op_sub (pe_call gT hr (by rfl) mT kT bT .nil pass0 (pa_cons (pv 0) (pa_cons pe_int pa_nil))) pe_int) pa_nil)))))))))))
    (pss_one (ps_ret (pe_call gP hr (by rfl) mP kP bP .nil pass0 (pa_cons (pv 0) (pa_cons (pv 1) pa_nil))))), ?_⟩
  refine ⟨1, rfl, 2, rfl, _, rfl, p, cl, ns, n, 9, rfl, hp, by omega, hns, by decide, by decide, fun H1 r1 r10 r11 b1 hp1 => ?_⟩
  refine ⟨_, _, rfl, rfl, _, rfl, p, cl, ns, n + 1, 7, rfl, hp1, by omega, hns, by decide, by decide, fun H2 r2 r20 r21 b2 hp2 => ?_⟩
  refine ⟨_, _, rfl, rfl, 99, rfl, _, rfl, p, cl, ns, n + 1 + 1, 199, rfl, hp2, by omega, hns, by decide, by decide, fun H3 r3 r30 r31 b3 hp3 => ?_⟩
  refine ⟨_, _, rfl, rfl, (by show 9 ≤ sizeLine; decide), fun q nq => ?_⟩
  have b13 : But [p] H H3 := (b1.trans b2).trans b3
  have s4 := same_new (HO.lst [.int 0, .int (-1), .int (-2), .int 1, .int (r1 - 6), .int (r2 - 3), .int 99, .int (-99), .int (r3 - 99)]) nq
  refine ⟨_, rfl, _, rfl, p, cl, ns, n + 1 + 1 + 1, .ref q, _, rfl, hp3.same s4, by omega, hns, .inl ⟨q, rfl, SqL.of upd_same⟩, (by show 1 ≤ 9; decide), (by show 9 ≤ 100000; decide), fun H5 x hx b5 hp5 => ?_⟩
  have hi : ∃ i, x = V.int i := by
    simp only [List.mem_cons, List.not_mem_nil, or_false] at hx
    rcases hx with h | h | h | h | h | h | h | h | h <;> exact ⟨_, h⟩
  obtain ⟨i, rfl⟩ := hi
  exact g H5 i ((b13.trans (But.same s4)).trans b5) hp5
end
end K14
/-! _law_may, _law_word. -/
namespace K14
open PySem L2

abbrev sMayL : Stmt := top 32
abbrev sWordL : Stmt := top 31

theorem op_in_seqK {X : Cx} {K : PySem.W.Frag} (h : X.K = K) : OpR X (compareOp .In) (rIn K false) := h ▸ op_in_seq
theorem paired_at {K : PySem.W.Frag} {H : Hp} : ∀ {ts : List Addr} {ps : List (Str × Int)} {i : Nat} {t : Addr}, Paired (fun t p => SqT K H t [V.str p.1, V.int p.2]) ts ps → ts[i]? = some t → ∃ p, ps[i]? = some p ∧ SqT K H t [V.str p.1, V.int p.2]
  | _, _, _, _, .nil, e => by simp at e
  | _, _, 0, _, .cons h _, e => by
    cases (Option.some.inj e)
    exact ⟨_, rfl, h⟩
  | _, _, i + 1, _, .cons _ t, e => by
    obtain ⟨p, h1, h2⟩ := paired_at (i := i) t (by simpa using e)
    exact ⟨p, by simpa using h1, h2⟩
theorem paired_len {K : PySem.W.Frag} {H : Hp} : ∀ {ts : List Addr} {ps : List (Str × Int)}, Paired (fun t p => SqT K H t [V.str p.1, V.int p.2]) ts ps → ts.length = ps.length
  | _, _, .nil => rfl
  | _, _, .cons _ t => by rw [List.length_cons, List.length_cons, paired_len t]
theorem paired_dt {K : PySem.W.Frag} {H : Hp} : ∀ {ts : List Addr} {ps : List (Str × Int)}, Paired (fun t p => SqT K H t [V.str p.1, V.int p.2]) ts ps → DtAll K H (ts.map V.ref) (ps.map encS)
  | _, _, .nil => .nil
  | _, _, .cons h t => .cons (.tup h (.cons (.str _) (.cons (.int _) .nil))) (paired_dt t)

section
variable {P : Program} {w : World} {K : PySem.W.Frag} {mg : Str → Option Value} {base : Heap} {k : Nat} {f : Addr} {fd : FuncData}
/-! ### _law_may -/
def spMayL (K : PySem.W.Frag) : Sp := fun vs H Q _ => ∃ (v : V) (c : Code) (z : Str) (i j : Nat), vs = [v, .str z, .int i, .int j] ∧ CodeAt K H v c ∧ CodeOk c ∧ i < z.length ∧ j < z.length ∧ z.length ≤ 12 ∧ ∀ H', Same H H' → Q (.bl (mayB c z i j)) H'
theorem scMayL : FnScope ["_law_code_here", "_law_word_here", "_law_i", "_law_j", "_law_texts", "_law_both", "_law_much"] ["_law_code_here", "_law_word_here", "_law_i", "_law_j"] (defScope sMayL) := ⟨rfl, rfl, rfl, by decide +kernel, rfl, by decide +kernel, by decide +kernel⟩
theorem texts_in (c : Code) (b : Str) : inV (.str b) (c.pairs.map fun p => V.str p.1) = (pw c b).isSome := by
  rw [pw_isSome]
  unfold inV
  rw [List.any_map]
  rfl
theorem ok_mayL (F : Fun K "_law_may" "_law_may" sMayL f fd) : FnOk P w K mg base CX0 (k + 1) f fd ["_law_code_here", "_law_word_here", "_law_i", "_law_j"] (spMayL K) := by
  refine F.ok scMayL (fun vs H Q E h => ?_) (fun cdv A outer s H vs Q E hr h => ?_)
  · obtain ⟨v, c, z, i, j, rfl, _⟩ := h
    rfl
  obtain ⟨v, c, z, i, j, rfl, hc, ck, hi, hj, hz, q⟩ := h
  refine ⟨_, pss_cons (ps_setLc (i := 4) (own := [("_law_both", 5), ("_law_much", 6)]) (g := gTup K 2 (gCons (gName 5) (gCons (gName 6) gNil))) (tt := tYes) rfl scMayL.nd rfl rfl (sw_true rfl rfl rfl (by decide +kernel))
      (pi_tup (pe_ix ix_tup (pv 0) pe_int (fun _ _ => rfl))) (blkOk_by (N := ["_law_code_here", "_law_word_here", "_law_i", "_law_j", "_law_texts", "_law_both", "_law_much"]) (sc := defScope sMayL) (by decide +kernel))
      (fun _ _ _ _ _ => pg_tup rfl (pgs_cons (pg_name (i := 5) scMayL.nd rfl (Or.inl rfl)) (pgs_cons (pg_name (i := 6) scMayL.nd rfl (Or.inl rfl)) pgs_nil))) (fun _ _ _ _ _ => pts_nil) (fun _ _ _ _ _ => pv 5))
    (pss_one (ps_ret (pe_and (pe_cmpR op_ge (pe_op op_sub (pe_op op_sub (pv 3) (pv 2)) pe_int) (pe_ix ix_tup (pv 0) pe_int (fun _ _ => rfl)) (nomark _))
      (pe_one (pe_cmpR op_in_seq (pe_op op_add_str (pe_ix ix_str (pv 1) (pv 2) (fun _ _ => rfl)) (pe_ix ix_str (pv 1) (pv 3) (fun _ _ => rfl))) (pv 4) (by rfl)))))), ?_⟩
  obtain ⟨a, tb, l, vr, ob, ts, rfl, h2, ⟨h3, h4, h5⟩, h6, h7⟩ := id hc
  have hpl := ck.pl
  have hts : (ts.map V.ref).length = c.pairs.length := by rw [List.length_map, paired_len h5]
  have hsq : SqT K H tb (ts.map V.ref) := .inl (.inr ⟨ob, h3⟩)
  refine ⟨_, rfl, a, _, 1, _, rfl, rfl, h2, atI_nat (j := 1) rfl, tb, rfl, ⟨_, hsq⟩, fun D nD => ?_⟩
  refine lc_tup (K := K) (a := tb) (xs := ts.map V.ref) (fun i H' => Same H H' ∧ H' D = some (.lst ((c.pairs.take i).map fun p => V.str p.1))) ⟨same_new _ nD, upd_same⟩ (fun i H' _ h => (TK.same h.1).sq hsq) ?_ ?_
  · rintro i x H' hxi ⟨sm, hD⟩
    rw [List.getElem?_map] at hxi
    cases e : ts[i]? with
    | none =>
      rw [e] at hxi
      cases hxi
    | some t =>
      rw [e] at hxi
      cases hxi
      obtain ⟨p, hp, ht⟩ := paired_at h5 e
      have hlt : i < c.pairs.length := (List.getElem?_eq_some_iff.mp hp).1
      refine ⟨t, _, rfl, (TK.same sm).sq ht, rfl, _, _, rfl, _, _, rfl, rfl, rfl, ?_⟩
      refine ⟨_, rfl, _, hD, ?_, same_fresh _ sm nD, ?_⟩
      · rw [List.length_map, List.length_take]
        exact szl (by omega)
      · rw [upd_same, take_next hp, List.map_append]
        rfl
  · rintro H1 ⟨sm, hD⟩
    rw [hts, List.take_length] at hD
    have e1 : mayB c z i j = (decide (c.span < (j : Int) - i) && (pw c (two z i j)).isSome) := rfl
    have e2 : decide (c.span ≤ (j : Int) - i - 1) = decide (c.span < (j : Int) - i) := by
      by_cases h : c.span < (j : Int) - i
      · rw [decide_eq_true h, decide_eq_true (by omega)]
      · rw [decide_eq_false h, decide_eq_false (by omega)]
    refine ⟨_, rfl, _, rfl, _, _, rfl, rfl, _, _, rfl, rfl, _, rfl, a, _, 2, _, rfl, rfl, (TK.same sm).sq h2, atI_nat (j := 2) rfl, _, _, rfl, rfl, _, rfl, ?_⟩
    rw [e2]
    refine ite2 (fun e => ?_) (fun e => ?_)
    · refine ⟨_, rfl, _, rfl, z, _, _, rfl, rfl, sz (by omega), sign_at hi, _, rfl, _, rfl, z, _, _, rfl, rfl, sz (by omega), sign_at hj, _, _, rfl, rfl, (by show 2 ≤ sizeLine; decide), ?_⟩
      refine ⟨_, rfl, D, _, rfl, .inl (SqL.of hD), rfl, ?_, ?_⟩
      · rw [List.all_map]
        exact List.all_eq_true.mpr fun p _ => rfl
      · rw [e1, e, Bool.true_and, ← texts_in] at q
        exact q H1 sm
    · rw [e1, Bool.eq_false_iff.mpr e, Bool.false_and] at q
      exact q H1 sm
end
end K14
/-! _law_word. -/
namespace K14
open PySem L2

theorem ok_mem {z : Str} (h : PyData.strOk z = true) {c : Nat} (hc : c ∈ z.cps.toList) : c < 0x110000 := by
  unfold PyData.strOk at h
  rw [← Array.all_toList, List.all_eq_true] at h
  exact of_decide_eq_true (h c hc)
theorem ok_of {cs : List Nat} (h : ∀ c ∈ cs, c < 0x110000) : PyData.strOk ⟨cs.toArray⟩ = true := by
  unfold PyData.strOk
  rw [← Array.all_toList, List.all_eq_true]
  intro c hc
  exact decide_eq_true (h c (by simpa using hc))
theorem lay_S : ∀ {ps : List (Str × Int)}, (∀ p ∈ ps, PyData.strOk p.1 = true) → PyData.canLayAll0 (ps.map encS) = true
  | [], _ => rfl
  | p :: ps, h => by
    rw [List.map_cons, PyData.canLayAll0, lay_S fun q hq => h q (List.mem_cons_of_mem _ hq)]
    have := h p (List.mem_cons_self ..)
    simp [encS, PyData.canLay0, PyData.canLayAll0, this]
theorem depth_S : ∀ ps : List (Str × Int), PyData.depthAll (ps.map encS) ≤ 1
  | [] => Nat.zero_le _
  | p :: ps => by
    rw [List.map_cons, PyData.depthAll]
    have h := depth_S ps
    have e : (encS p).depth = 1 := by simp [encS, PyData.depth, PyData.depthAll]
    rw [e]
    omega
theorem shaped_S {ps : List (Str × Int)} (hp : ∀ p ∈ ps, PyData.strOk p.1 = true) : SeqAt.shaped (.tuple (ps.map encS)) = true := by
  have h := depth_S ps
  have e : (PyData.tuple (ps.map encS)).depth = PyData.depthAll (ps.map encS) + 1 := by simp [PyData.depth]
  have l : (PyData.tuple (ps.map encS)).canLay0 = true := by simp [PyData.canLay0, lay_S hp]
  unfold SeqAt.shaped
  rw [l, e, Bool.true_and]
  exact decide_eq_true (by omega)
theorem eqv_nilT (ps : List PyData) : PyData.eqv (.tuple ps) (.tuple []) = ps.isEmpty := by
  cases ps <;> rfl
theorem set_ok {cs : List Nat} {i c : Nat} (h : ∀ c ∈ cs, c < 0x110000) (hc : c < 0x110000) : ∀ d ∈ cs.set i c, d < 0x110000 := fun d hd => by
  rcases List.mem_or_eq_of_mem_set hd with hd | rfl
  · exact h d hd
  · exact hc

section
variable {P : Program} {w : World} {K : PySem.W.Frag} {mg : Str → Option Value} {base : Heap} {k : Nat} {f : Addr} {fd : FuncData}
def spWordL (K : PySem.W.Frag) : Sp := fun vs H Q _ => ∃ (p cl : Addr) (ns : List Int) (n : Nat) (v : V) (c : Code), vs = [.ref p, v, .int 12] ∧ PenAt H p cl ns n ∧ n ≤ 900000 ∧ ns.length ≤ 63 ∧ CodeAt K H v c ∧ CodeOk c ∧
  ∀ H' z, But [p] H H' → PenAt H' p cl ns (n + 100) → WordOk z → Q (.str z) H'
theorem scWordL : FnScope ["_law_pen_here", "_law_code_here", "_law_most", "_law_size", "_law_found", "_law_both", "_law_k"] ["_law_pen_here", "_law_code_here", "_law_most"] (defScope sWordL) := ⟨rfl, rfl, rfl, by decide +kernel, rfl, by decide +kernel, by decide +kernel⟩
theorem ok_wordL (F : Fun K "_law_word" "_law_word" sWordL f fd) (T : Blt mg) (GT : Has P w K mg base "_law_take" ["_law_pen_here", "_law_size"] (k + 1) spTake) (GP : Has P w K mg base "_law_pick" ["_law_pen_here", "_law_some"] (k + 1) (spPick K)) :
    FnOk P w K mg base CX0 (k + 2) f fd ["_law_pen_here", "_law_code_here", "_law_most"] (spWordL K) := by
  refine F.ok scWordL (fun vs H Q E h => ?_) (fun cdv A outer s H vs Q E hr h => ?_)
  · obtain ⟨p, cl, ns, n, v, c, rfl, _⟩ := h
    rfl
  obtain ⟨p, cl, ns, n, v, c, rfl, hp, hn, hns, hc, ck, g⟩ := h
  have hu := hr.units
  obtain ⟨fT, fdT, gT, mT, kT, bT⟩ := GT
  obtain ⟨fP, fdP, gP, mP, kP, bP⟩ := GP
  refine ⟨_, pss_cons (ps_set (i := 3) scWordL.nd rfl (Or.inl rfl) (pe_ix ix_list (pe_lst (pa_cons (pv 2) (pa_cons (pv 2) (pa_cons (pe_call gT hr (by rfl) mT kT bT .nil pass0 (pa_cons (pv 0) (pa_cons (pe_op op_add (pv 2) pe_int) pa_nil))) pa_nil)))) (pe_call gT hr (by rfl) mT kT bT .nil pass0 (pa_cons (pv 0) (pa_cons pe_int pa_nil))) (fun _ _ => rfl)))
    (pss_cons (ps_setLc (i := 4) (own := [("_law_k", 6)]) (g := gName 6) (tt := tYes) rfl scWordL.nd rfl rfl (sw_true rfl rfl rfl (by decide +kernel)) (pi_range1 (by rfl) T.range (pa_cons (pv 3) pa_nil)) (blkOk_by (N := ["_law_pen_here", "_law_code_here", "_law_most", "_law_size", "_law_found", "_law_both", "_law_k"]) (sc := defScope sWordL) (by decide +kernel))
      (fun _ _ _ _ _ => pg_name (i := 6) scWordL.nd rfl (Or.inl rfl)) (fun _ _ _ _ _ => pts_nil) (fun _ _ _ _ _ => pe_call gP hr (by rfl) mP kP bP .nil pass0 (pa_cons (pv 0) (pa_cons (pe_ix (ix_tupK (K := K) rfl) (pv 1) pe_int (fun _ _ => rfl)) pa_nil))))
    (C8.pss_cut (ps_if (PW.pt (pw_and (pt_cmpR (op_neD hu) (pe_ix ix_tup (pv 1) pe_int (fun _ _ => rfl)) (pe_tup pa_nil) (nomark _)) (pw_and1 (pt_cmpR op_eq (pe_call gT hr (by rfl) mT kT bT .nil pass0 (pa_cons (pv 0) (pa_cons pe_int pa_nil))) pe_int (nomark _)))))
      (pss_one (ps_for PassesOwn.never rfl (pi_range1 (by rfl) T.range (pa_cons (pe_op op_fdiv (pv 3) pe_int) pa_nil)) (pg_name (i := 6) scWordL.nd rfl (Or.inl rfl))
        (pss_cons (ps_set (i := 5) scWordL.nd rfl (Or.inl rfl) (pe_ix ix_tup (pe_call gP hr (by rfl) mP kP bP .nil pass0 (pa_cons (pv 0) (pa_cons (pe_ix ix_tup (pv 1) pe_int (fun _ _ => rfl)) pa_nil))) pe_int (fun _ _ => rfl)))
        (pss_cons (ps_asg (pe_ix ix_str (pv 5) pe_int (fun _ _ => rfl)) (pg_sub (pv 4) (pv 6) set_list))
        (pss_one (ps_asg (pe_ix ix_str (pv 5) pe_int (fun _ _ => rfl)) (pg_sub (pv 4) (pe_op op_sub (pe_op op_sub (pv 3) pe_int) (pv 6)) set_list))))))) pss_nil)
    (pss_one (ps_ret (pe_join pe_str (pv 4)))))), ?_⟩
  -- the size
  refine ⟨_, rfl, _, rfl, _, rfl, _, rfl, _, _, rfl, rfl, p, cl, ns, n, 13, rfl, hp, by omega, hns, by decide, by decide, fun H1 r1 r10 r11 b1 hp1 => ?_⟩
  refine ⟨(by show 3 ≤ sizeLine; decide), fun q nq => ?_⟩
  have s2 := same_new (HO.lst [.int 12, .int 12, .int r1]) nq
  refine ⟨_, rfl, p, cl, ns, n + 1, 3, rfl, hp1.same s2, by omega, hns, by decide, by decide, fun H3 r2 r20 r21 b3 hp3 => ?_⟩
  obtain ⟨x, hx, hat⟩ := at_toNat (xs := [V.int 12, V.int 12, V.int r1]) r20 r21
  have hsz : ∃ m : Nat, x = .int m ∧ m ≤ 12 := by
    simp only [List.mem_cons, List.not_mem_nil, or_false] at hx
    rcases hx with h | h | h
    · exact ⟨12, h, Nat.le_refl _⟩
    · exact ⟨12, h, Nat.le_refl _⟩
    · exact ⟨r1.toNat, by rw [h]; congr 1; omega, by omega⟩
  obtain ⟨m, rfl, hm⟩ := hsz
  have hq3 : H3 q = some (.lst [.int 12, .int 12, .int r1]) := (hp1.same s2).lst b3 upd_same
  refine ⟨q, _, r2, _, rfl, rfl, SqL.of hq3, hat, ?_⟩
  have b13 : But [p] H H3 := (b1.trans (But.same s2)).trans b3
  have k13 : TK H H3 := hp.tk b13
  -- the letters
  refine ⟨_, rfl, (m : Int), rfl, by omega, by omega, fun D nD => ?_⟩
  rw [Int.toNat_natCast]
  obtain ⟨a, tb, l, vr, ob, ts, rfl, h2, ⟨h3, h4, h5⟩, h6, h7⟩ := id hc
  obtain ⟨u0, hu0⟩ := hp3.there
  have npD : p ≠ D := ne_of_none hu0 nD
  have nDH : ∀ {o}, H D = some o → D ∈ [p] := fun {o} e => by
    by_cases hd : D ∈ [p]
    · exact hd
    · have := b13 D o e hd
      rw [nD] at this
      cases this
  refine lc_range (lo := 0) (n := m) (fun i H' => But [p] H3 H' ∧ PenAt H' p cl ns (n + 2 + i) ∧ ∃ cs : List Nat, cs.length = i ∧ (∀ c ∈ cs, c < 0x110000) ∧ H' D = some (.lst (vS cs))) ?_ ?_ ?_
  · exact ⟨But.same (same_new _ nD), hp3.same (same_new _ nD), [], rfl, fun c hc => (by cases hc), upd_same⟩
  · rintro i H4 hi ⟨b4, hp4, cs, hcl, hcs, hD⟩
    have k4 : TK H3 H4 := hp3.tk b4
    refine ⟨rfl, ?_⟩
    refine ⟨_, rfl, _, rfl, a, _, 0, _, rfl, rfl, k4.sq (k13.sq h2), atI_nat (j := 0) rfl, p, cl, ns, n + 2 + i, .str c.signs, vS c.signs.cps.toList, rfl, hp4, by omega, hns, .inr (.inr ⟨_, rfl, rfl⟩), ?_, ?_, fun H5 x hx b5 hp5 => ?_⟩
    · unfold vS
      rw [List.length_map, Array.length_toList]
      exact ck.s0
    · unfold vS
      rw [List.length_map, Array.length_toList]
      have := ck.s6
      exact Nat.le_trans this (by decide)
    · obtain ⟨d, hd, rfl⟩ := List.mem_map.mp hx
      refine ⟨vS cs, hp4.lst b5 hD, ?_, ?_, ?_, cs ++ [d], ?_, ?_, ?_⟩
      · unfold vS
        rw [List.length_map, hcl]
        exact szl (by omega)
      · exact But.fresh _ (b4.trans b5) nD
      · obtain ⟨m5, l5, q1, q2, q3, q4⟩ := hp5
        have hDc : cl ≠ D := fun e => by
          obtain ⟨_, _, _, _, _, hcl3⟩ := hp3
          rw [e, nD] at hcl3
          cases hcl3
        exact ⟨m5, l5, by omega, q2, by rw [upd_ne npD]; exact q3, by rw [upd_ne hDc]; exact q4⟩
      · rw [List.length_append, hcl]
        rfl
      · intro e he
        rcases List.mem_append.mp he with he | he
        · exact hcs e he
        · rw [List.mem_singleton.mp he]
          exact ok_mem ck.sg hd
      · rw [upd_same]
        unfold vS
        rw [List.map_append]
        rfl
  rintro H4 ⟨b4, hp4, cs, hcl, hcs, hD⟩
  have k4 : TK H H4 := k13.trans (hp3.tk b4)
  have nclD : cl ≠ D := fun e => by
    obtain ⟨_, _, _, _, _, hcl3⟩ := hp3
    rw [e, nD] at hcl3
    cases hcl3
  have penD : ∀ {H5 : Hp} {n5 : Nat} {xs : List V}, PenAt H5 p cl ns n5 → PenAt (upd H5 D (.lst xs)) p cl ns n5 := fun {H5 n5 xs} h => by
    obtain ⟨m5, l5, q1, q2, q3, q4⟩ := h
    exact ⟨m5, l5, q1, q2, by rw [upd_ne npD]; exact q3, by rw [upd_ne nclD]; exact q4⟩
  -- behind the if
  refine ⟨fun σ' H' => ∃ (y5 y6 : Option V) (cs : List Nat), σ' = [some (.ref p), some (.ref a), some (.int 12), some (.int (m : Nat)), some (.ref D), y5, y6] ∧ But [p] H3 H' ∧ PenAt H' p cl ns (n + 50) ∧ cs.length = m ∧ (∀ c ∈ cs, c < 0x110000) ∧ H' D = some (.lst (vS cs)), ?_, ?_⟩
  · refine ⟨_, rfl, a, _, 1, _, rfl, rfl, k4.sq h2, atI_nat (j := 1) rfl, Nat.zero_le _, fun e ne => ?_⟩
    have s5 := same_new (HO.tup []) ne
    have k5 : TK H (upd H4 e (.tup [])) := k4.trans (TK.same s5)
    have hD5 := s5 _ _ hD
    have hp5 := hp4.same s5
    have b5 : But [p] H3 (upd H4 e (.tup [])) := b4.trans (But.same s5)
    have he5 : SqT K (upd H4 e (.tup [])) e [] := SqT.of upd_same
    generalize upd H4 e (.tup []) = H5 at s5 k5 hD5 hp5 b5 he5 ⊢
    refine ⟨.tuple (c.pairs.map encS), .tuple [], .tup (k5.sq (.inl (.inr ⟨ob, h3⟩))) (paired_dt (paired_keep k5 h5)).dp, .tup he5 .nil, shaped_S fun p hp => (ck.pr p hp).2, rfl, _, rfl, ?_⟩
    rw [eqv_nilT]
    cases epairs : c.pairs with
    | nil => exact iteF (iteF ⟨none, none, cs, rfl, b5, hp5.mono (by omega), hcl, hcs, hD5⟩)
    | cons p0 prs =>
      refine iteT ?_
      refine ⟨_, rfl, p, cl, ns, n + 2 + m, 2, rfl, hp5, by omega, hns, by decide, by decide, fun H6 r6 r60 r61 b6 hp6 => ?_⟩
      have hD6 := hp5.lst b6 hD5
      have b36 : But [p] H3 H6 := b5.trans b6
      refine ⟨rfl, _, rfl, ?_⟩
      refine ite2 (fun _ => ?_) (fun _ => ⟨none, none, cs, rfl, b36, hp6.mono (by omega), hcl, hcs, hD6⟩)
      -- pairs from without to within
      have k6 : TK H H6 := k5.trans (hp5.tk b6)
      refine ⟨_, rfl, _, _, rfl, rfl, ⟨by decide, by decide⟩, ((m / 2 : Nat) : Int), ?_, by omega, by omega, ?_⟩
      · exact congrArg (fun z : Int => [V.int z]) (by omega)
      rw [Int.toNat_natCast]
      refine for_range (lo := 0) (n := m / 2) (fun i σ H' => ∃ (y5 y6 : Option V) (cs : List Nat), σ = [some (.ref p), some (.ref a), some (.int 12), some (.int (m : Nat)), some (.ref D), y5, y6] ∧ But [p] H3 H' ∧ PenAt H' p cl ns (n + 3 + m + i) ∧ cs.length = m ∧ (∀ c ∈ cs, c < 0x110000) ∧ H' D = some (.lst (vS cs))) ?_ ?_ ?_
      · exact ⟨none, none, cs, rfl, b36, hp6.mono (by omega), hcl, hcs, hD6⟩
      · rintro i σ H7 hi ⟨y5, y6, cs7, rfl, b7, hp7, hcl7, hcs7, hD7⟩
        have k7 : TK H H7 := k13.trans (hp3.tk b7)
        refine ⟨_, rfl, _, rfl, a, _, 1, _, rfl, rfl, k7.sq h2, atI_nat (j := 1) rfl, p, cl, ns, _, .ref tb, ts.map V.ref, rfl, hp7, by omega, hns, .inr (.inl ⟨tb, rfl, k7.sq (.inl (.inr ⟨ob, h3⟩))⟩), ?_, ?_, fun H8 x hx b8 hp8 => ?_⟩
        · rw [List.length_map, paired_len h5, epairs, List.length_cons]
          omega
        · rw [List.length_map, paired_len h5]
          have := ck.pl
          omega
        · obtain ⟨t, ht, rfl⟩ := List.mem_map.mp hx
          obtain ⟨j, hj⟩ := List.mem_iff_getElem?.mp ht
          obtain ⟨pr, hpr, hsq⟩ := paired_at h5 hj
          obtain ⟨hl2, hok⟩ := ck.pr pr (List.mem_of_getElem? hpr)
          have k8 : TK H H8 := k7.trans (hp7.tk b8)
          have hD8 := hp7.lst b8 hD7
          refine ⟨t, _, 0, _, rfl, rfl, k8.sq hsq, atI_nat (j := 0) rfl, ?_⟩
          have a0 := sign_at (z := pr.1) (i := 0) (by omega)
          have a1 := sign_at (z := pr.1) (i := 1) (by omega)
          have hs0 : sign pr.1 0 < 0x110000 ∧ sign pr.1 1 < 0x110000 := by
            have h1 : ∀ i, i < pr.1.length → sign pr.1 i < 0x110000 := fun i hi => by
              have e := sign_at hi
              unfold sign
              rw [List.getD_eq_getElem?_getD, List.getElem?_eq_getElem (by rw [Array.length_toList]; exact hi)]
              exact ok_mem hok (List.getElem_mem _)
            exact ⟨h1 0 (by omega), h1 1 (by omega)⟩
          have him : i < m := by omega
          have hl8 : (vS cs7).length = m := by
            unfold vS
            rw [List.length_map, hcl7]
          refine ⟨_, rfl, pr.1, 0, _, rfl, rfl, sz (by omega), a0, _, rfl, _, rfl, D, _, _, i, rfl, (by show V.int (0 + (i : Int)) = _; rw [Int.zero_add]), hD8, ixN_nat (by rw [hl8]; exact him), ?_⟩
          have hm1 : (m : Int) - 1 - (0 + (i : Int)) = ((m - 1 - i : Nat) : Int) := by omega
          refine ⟨_, rfl, pr.1, 1, _, rfl, rfl, sz (by omega), a1, _, rfl, _, rfl, _, _, rfl, rfl, _, rfl, _, _, rfl, rfl, D, _, _, m - 1 - i, rfl, (by show V.int ((m : Int) - 1 - (0 + (i : Int))) = _; rw [hm1]), upd_same, ixN_nat (by rw [List.length_set, hl8]; omega), ?_⟩
          refine ⟨_, _, (cs7.set i (sign pr.1 0)).set (m - 1 - i) (sign pr.1 1), rfl, ?_, ?_, ?_, ?_, ?_⟩
          · exact But.fresh _ (But.fresh _ (b7.trans b8) nD) nD
          · exact (penD (penD hp8)).mono (by omega)
          · rw [List.length_set, List.length_set, hcl7]
          · exact set_ok (set_ok hcs7 hs0.1) hs0.2
          · rw [upd_same]
            show some (HO.lst (((vS cs7).set i (.str (s1 (sign pr.1 0)))).set (m - 1 - i) (.str (s1 (sign pr.1 1))))) = _
            rw [vS_set, vS_set]
      · rintro σ H7 ⟨y5, y6, cs7, rfl, b7, hp7, hcl7, hcs7, hD7⟩
        exact ⟨y5, y6, cs7, rfl, b7, hp7.mono (by omega), hcl7, hcs7, hD7⟩
  · rintro σ' H' ⟨y5, y6, cs7, rfl, b7, hp7, hcl7, hcs7, hD7⟩
    refine ⟨⟨_, rfl⟩, _, rfl, _, D, cs7.map s1, rfl, rfl, .inl (SqL.of ?_), ?_, ?_⟩
    · rw [List.map_map]
      exact hD7
    · rw [lens_signs, List.length_map, hcl7]
      show m + m * 0 ≤ 16777216
      omega
    · rw [join_signs]
      refine g H' _ (b13.trans b7) (hp7.mono (by omega)) ⟨?_, ok_of hcs7⟩
      show (cs7.toArray).size ≤ 12
      rw [List.size_toArray, hcl7]
      exact hm
end
end K14
/-! _law_code. -/
namespace K14
open PySem L2

abbrev sCode : Stmt := top 30
abbrev nCode : List Str := ["_law_pen_here", "_law_signs", "_law_every", "_law_one", "_law_few", "_law_some", "_law_alike", "_law_pairs", "_law_loops", "_law_stacks", "_law_k", "_law_rows", "_law_other", "_law_both", "_law_texts"]

theorem PenAt.ne {H : Hp} {p cl D : Addr} {ns : List Int} {n : Nat} (h : PenAt H p cl ns n) (nD : H D = none) : p ≠ D ∧ cl ≠ D := by
  obtain ⟨m, l, h1, h2, h3, h4⟩ := h
  exact ⟨ne_of_none h3 nD, ne_of_none h4 nD⟩
theorem PenAt.upd {H : Hp} {p cl D : Addr} {ns : List Int} {n : Nat} {o : HO} (h : PenAt H p cl ns n) (hn : p ≠ D ∧ cl ≠ D) : PenAt (upd H D o) p cl ns n := by
  obtain ⟨m, l, h1, h2, h3, h4⟩ := h
  exact ⟨m, l, h1, h2, by rw [upd_ne hn.1]; exact h3, by rw [upd_ne hn.2]; exact h4⟩
/-- two signs that can be laid -/
def Both (b : Str) : Prop := b.length = 2 ∧ PyData.strOk b = true
theorem both_two {z : Str} (h : PyData.strOk z = true) {c d : Nat} (hc : c ∈ z.cps.toList) (hd : d ∈ z.cps.toList) : Both ((⟨#[c]⟩ : Str) ++ ⟨#[d]⟩) := by
  refine ⟨rfl, ?_⟩
  show PyData.strOk ⟨[c, d].toArray⟩ = true
  exact ok_of fun e he => by
    rcases List.mem_cons.mp he with rfl | he
    · exact ok_mem h hc
    · rw [List.mem_singleton.mp he]
      exact ok_mem h hd
theorem strs_dp {K : PySem.W.Frag} {H : Hp} : ∀ ws : List Str, DpAll K H (ws.map V.str) (ws.map PyData.str)
  | [] => .nil
  | _ :: ws => .cons (.str _) (strs_dp ws)
theorem shaped_strs {ws : List Str} (h : ∀ w ∈ ws, PyData.strOk w = true) : SeqAt.shaped (.list (ws.map PyData.str)) = true := by
  have h1 : ∀ ws : List Str, (∀ w ∈ ws, PyData.strOk w = true) → PyData.canLayAll0 (ws.map PyData.str) = true := fun ws => by
    induction ws with
    | nil => intro _; rfl
    | cons n ws ih =>
      intro h
      rw [List.map_cons, PyData.canLayAll0, ih fun w hw => h w (List.mem_cons_of_mem _ hw)]
      have := h n (List.mem_cons_self ..)
      simp [PyData.canLay0, this]
  have h2 : ∀ ws : List Str, PyData.depthAll (ws.map PyData.str) = 0 := fun ws => by
    induction ws with
    | nil => rfl
    | cons n ws ih =>
      rw [List.map_cons, PyData.depthAll, ih]
      rfl
  simp [SeqAt.shaped, PyData.canLay0, PyData.depth, h1 ws h, h2]
theorem erase_map {α β : Type} (f : α → β) : ∀ (xs : List α) (k : Nat), (xs.map f).eraseIdx k = (xs.eraseIdx k).map f
  | [], _ => rfl
  | _ :: _, 0 => rfl
  | x :: xs, k + 1 => by
    show f x :: (xs.map f).eraseIdx k = f x :: (xs.eraseIdx k).map f
    rw [erase_map f xs k]
theorem But.free {S : List Addr} {H H' : Hp} {D : Addr} (b : But S H H') (h : ∀ x ∈ S, ∃ u, H' x = some u) (n : H' D = none) : H D = none := by
  cases e : H D with
  | none => rfl
  | some o =>
    by_cases hd : D ∈ S
    · obtain ⟨u, hu⟩ := h D hd
      rw [hu] at n
      cases n
    · rw [b D o e hd] at n
      cases n
theorem PenAt.one {H H' : Hp} {p cl D : Addr} {ns : List Int} {n : Nat} (h : PenAt H' p cl ns n) (b : But [p] H H') (nD : H' D = none) : H D = none := b.free (fun x hx => by rw [List.mem_singleton.mp hx]; exact h.there) nD
theorem But.sub {S S' : List Addr} {H H' : Hp} (h : But S H H') (hs : ∀ x ∈ S, x ∈ S') : But S' H H' := fun b o e n => h b o e fun hb => n (hs b hb)
theorem But.drop {p st : Addr} {H H1 H2 : Hp} (h1 : But [p] H H1) (h2 : But [p, st] H1 H2) (n : H st = none) : But [p] H H2 := fun b o e nb => h2 b o (h1 b o e nb) fun hb => by
  rcases List.mem_cons.mp hb with rfl | hb
  · exact nb (List.mem_singleton.mpr rfl)
  · rw [List.mem_singleton.mp hb, n] at e
    cases e
theorem tk2 {p cl st : Addr} {H H' : Hp} {ns : List Int} {n : Nat} {kvs : List (List Key × V)} (h : PenAt H p cl ns n) (hs : H st = some (.dT kvs)) (b : But [p, st] H H') : TK H H' := by
  obtain ⟨m, l, h1, h2, h3, h4⟩ := h
  refine ⟨fun a xs e => b a _ e fun z => ?_, fun a o xs e => b a _ e fun z => ?_⟩
  · rcases List.mem_cons.mp z with rfl | z
    · rw [h3] at e
      cases e
    · rw [List.mem_singleton.mp z, hs] at e
      cases e
  · rcases List.mem_cons.mp z with rfl | z
    · rw [h3] at e
      cases e
    · rw [List.mem_singleton.mp z, hs] at e
      cases e
theorem lst2 {p cl st a : Addr} {H H' : Hp} {ns : List Int} {n : Nat} {kvs : List (List Key × V)} {xs : List V} (h : PenAt H p cl ns n) (hs : H st = some (.dT kvs)) (b : But [p, st] H H') (e : H a = some (.lst xs)) : H' a = some (.lst xs) := by
  obtain ⟨m, l, h1, h2, h3, h4⟩ := h
  refine b a _ e fun z => ?_
  rcases List.mem_cons.mp z with rfl | z
  · rw [h3] at e
    cases e
  · rw [List.mem_singleton.mp z, hs] at e
    cases e
theorem put_le {κ : Type} [DecidableEq κ] (kvs : List (κ × V)) (k : κ) (v : V) : (putK kvs k v).length ≤ kvs.length + 1 := by
  unfold putK
  split
  · rw [List.length_map]
    exact Nat.le_succ _
  · rw [List.length_append]
    exact Nat.le_refl _
/-- an entry of the stacks -/
def Entry (kv : List Key × V) : Prop := ∃ (a b : Str) (i : Int), kv = ([Sum.inr a, Sum.inr b], V.int i) ∧ PyData.strOk a = true ∧ PyData.strOk b = true
theorem entry_put {kvs : List (List Key × V)} {a b : Str} {i : Int} (h : ∀ kv ∈ kvs, Entry kv) (ha : PyData.strOk a = true) (hb : PyData.strOk b = true) : ∀ kv ∈ putK kvs [Sum.inr a, Sum.inr b] (V.int i), Entry kv := by
  unfold putK
  split
  · intro kv hkv
    obtain ⟨x, hx, rfl⟩ := List.mem_map.mp hkv
    split
    · rename_i e
      rw [e]
      exact ⟨a, b, i, rfl, ha, hb⟩
    · exact h x hx
  · intro kv hkv
    rcases List.mem_append.mp hkv with hkv | hkv
    · exact h kv hkv
    · rw [List.mem_singleton.mp hkv]
      exact ⟨a, b, i, rfl, ha, hb⟩
theorem entry_val {kvs : List (List Key × V)} (h : ∀ kv ∈ kvs, Entry kv) {kv : List Key × V} (hk : kv ∈ kvs) : ∃ i : Int, valV kvs kv.1 = some (V.int i) := by
  have h1 : (valV kvs kv.1).isSome = true := by
    rw [← valV_any]
    exact List.any_eq_true.mpr ⟨kv, hk, decide_eq_true rfl⟩
  cases e : valV kvs kv.1 with
  | none =>
    rw [e] at h1
    cases h1
  | some v =>
    unfold valV at e
    obtain ⟨kv', h2, rfl⟩ := Option.map_eq_some_iff.mp e
    obtain ⟨a, b, i, rfl, _⟩ := h kv' (List.mem_of_find?_eq_some h2)
    exact ⟨i, rfl⟩
/-- the keys as they are sorted -/
def KeyAt (H : Hp) (kvs : List (List Key × V)) (q : V × (Str × Str)) : Prop := ∃ (t : Addr) (i : Int), q.1 = .ref t ∧ H t = some (.tup [.str q.2.1, .str q.2.2]) ∧ valV kvs [Sum.inr q.2.1, Sum.inr q.2.2] = some (V.int i) ∧ PyData.strOk q.2.1 = true ∧ PyData.strOk q.2.2 = true
theorem keys_at {H : Hp} {all : List (List Key × V)} (ha : ∀ kv ∈ all, Entry kv) : ∀ {kvs : List (List Key × V)} {bs : List Addr}, Paired (fun p b => H b = some (.tup (p.1.map kV))) kvs bs → (∀ kv ∈ kvs, kv ∈ all) → ∃ qs : List (V × (Str × Str)), qs.map (·.1) = bs.map V.ref ∧ qs.length = kvs.length ∧ ∀ q ∈ qs, KeyAt H all q
  | _, _, .nil, _ => ⟨[], rfl, rfl, fun q hq => by cases hq⟩
  | kv :: kvs, b :: bs, .cons h t, hm => by
    obtain ⟨qs, h1, h2, h3⟩ := keys_at ha t fun kv hkv => hm kv (List.mem_cons_of_mem _ hkv)
    have hkv := hm kv (List.mem_cons_self ..)
    obtain ⟨i, hi⟩ := entry_val ha hkv
    obtain ⟨x, y, j, rfl, hx, hy⟩ := ha kv hkv
    refine ⟨(.ref b, (x, y)) :: qs, by rw [List.map_cons, List.map_cons, h1], by rw [List.length_cons, List.length_cons, h2], fun q hq => ?_⟩
    rcases List.mem_cons.mp hq with rfl | hq
    · exact ⟨b, i, rfl, h, hi, hx, hy⟩
    · exact h3 q hq
theorem paired_snoc {α β : Type} {R : α → β → Prop} : ∀ {xs : List α} {ys : List β} {x : α} {y : β}, Paired R xs ys → R x y → Paired R (xs ++ [x]) (ys ++ [y])
  | _, _, _, _, .nil, h => .cons h .nil
  | _, _, _, _, .cons h t, h' => .cons h (paired_snoc t h')

section
variable {P : Program} {w : World} {K : PySem.W.Frag} {mg : Str → Option Value} {base : Heap} {k : Nat} {f : Addr} {fd : FuncData}
def spCode (K : PySem.W.Frag) : Sp := fun vs H Q _ => ∃ (p cl : Addr) (ns : List Int) (n : Nat), vs = [.ref p] ∧ PenAt H p cl ns n ∧ n ≤ 900000 ∧ ns.length ≤ 63 ∧
  ∀ H' v c, But [p] H H' → PenAt H' p cl ns (n + 1000) → CodeAt K H' v c → CodeOk c → Q v H'
theorem scCode : FnScope nCode ["_law_pen_here"] (defScope sCode) := ⟨rfl, rfl, rfl, by decide +kernel, rfl, by decide +kernel, by decide +kernel⟩
theorem ok_code (F : Fun K "_law_code" "_law_code" sCode f fd) (T : Blt mg) (GT : Has P w K mg base "_law_take" ["_law_pen_here", "_law_size"] (k + 1) spTake) (GP : Has P w K mg base "_law_pick" ["_law_pen_here", "_law_some"] (k + 1) (spPick K))
    (GW : Has P w K mg base "_law_worth" ["_law_pen_here"] (k + 1) spWorthL) :
    FnOk P w K mg base CX0 (k + 2) f fd ["_law_pen_here"] (spCode K) := by
  refine F.ok scCode (fun vs H Q E h => ?_) (fun cdv A outer s H vs Q E hr h => ?_)
  · obtain ⟨p, cl, ns, n, rfl, _⟩ := h
    rfl
  obtain ⟨p, cl, ns, n, rfl, hp, hn, hns, g⟩ := h
  have hu := hr.units
  have hu1 := hu_of hr
  obtain ⟨fT, fdT, gT, mT, kT, bT⟩ := GT
  obtain ⟨fP, fdP, gP, mP, kP, bP⟩ := GP
  obtain ⟨fW, fdW, gW, mW, kW, bW⟩ := GW
  refine ⟨_, pss_cons (ps_set (i := 1) scCode.nd rfl (Or.inl rfl) (pe_ix ix_list (pe_lst (pa_cons pe_str (pa_cons pe_str (pa_cons pe_str (pa_cons pe_str (pa_cons pe_str (pa_cons pe_str pa_nil)))))))
        (pe_call gT hr (by rfl) mT kT bT .nil pass0 (pa_cons (pv 0) (pa_cons pe_int pa_nil))) (fun _ _ => rfl)))
    (pss_cons (ps_set (i := 2) scCode.nd rfl (Or.inl rfl) (pe_lst pa_nil))
    (pss_cons (ps_for PassesOwn.never rfl (pi_str (pv 1)) (pg_name (i := 3) scCode.nd rfl (Or.inr rfl))
      (pss_one (ps_set (i := 2) scCode.nd rfl (Or.inl rfl) (pe_op op_cat (pv 2) (pe_lc (own := [("_law_other", 12)]) (g := gName 12) (tt := tYes) rfl scCode.nd (pi_str (pv 1)) (blkOk_by (N := nCode) (sc := defScope sCode) (by decide +kernel))
        (fun _ _ _ _ _ => pg_name (i := 12) scCode.nd rfl (Or.inl rfl)) (fun _ _ _ _ _ => pts_nil) (fun _ _ _ _ _ => pe_op op_add_str (pv 3) (pv 12)))))))
    (pss_cons (ps_set (i := 4) scCode.nd rfl (Or.inr rfl) (pe_ix ix_list (pe_lst (pa_cons pe_int (pa_cons pe_int (pa_cons pe_int (pa_cons pe_int pa_nil)))))
        (pe_call gT hr (by rfl) mT kT bT .nil pass0 (pa_cons (pv 0) (pa_cons pe_int pa_nil))) (fun _ _ => rfl)))
    (pss_cons (ps_set (i := 5) scCode.nd rfl (Or.inl rfl) (pe_callB cr_sortedS (by rfl) T.sorted PyProof.Rows.boot_sorted (pa_cons
        (pe_lc (own := [("_law_both", 13)]) (g := gName 13) rfl scCode.nd (pi_list (pv 2)) (blkOk_by (N := nCode) (sc := defScope sCode) (by decide +kernel))
          (fun _ _ _ _ _ => pg_name (i := 13) scCode.nd rfl (Or.inl rfl)) (fun _ _ _ _ _ => pts_one (pt_cmpR op_ge (pe_call gT hr (by rfl) mT kT bT .nil pass0 (pa_cons (pv 0) (pa_cons pe_int pa_nil))) (pv 4) (nomark _)))
          (fun _ _ _ _ _ => pv 13)) pa_nil)))
    (pss_cons (ps_while PassesOwn.never (pt_cmpR op_gt (pe_callB call_len_seq (by rfl) T.len PySem.boot_len (pa_cons (pv 5) pa_nil)) pe_int (nomark _))
        (pss_one (ps_expr (pe_bm PySem.F.plainAttrs_list PySem.F.slot_list_pop PySem.F.type_list_pop mt_popAt (pv 5) (pa_cons
          (pe_call gT hr (by rfl) mT kT bT .nil pass0 (pa_cons (pv 0) (pa_cons (pe_callB call_len_seq (by rfl) T.len PySem.boot_len (pa_cons (pv 5) pa_nil)) pa_nil))) pa_nil)))))
    (pss_cons (ps_set (i := 6) scCode.nd rfl (Or.inr rfl) (pe_cmpR op_eq (pe_call gT hr (by rfl) mT kT bT .nil pass0 (pa_cons (pv 0) (pa_cons pe_int pa_nil))) pe_int (nomark _)))
    (pss_cons (ps_set (i := 7) scCode.nd rfl (Or.inl rfl) (pe_callTy call_tupleF (by rfl) T.tuple PyProof.Rows.boot_tuple (pa_cons
        (pe_lc (own := [("_law_both", 13)]) (g := gName 13) (tt := tYes) rfl scCode.nd (pi_list (pv 5)) (blkOk_by (N := nCode) (sc := defScope sCode) (by decide +kernel))
          (fun _ _ _ _ _ => pg_name (i := 13) scCode.nd rfl (Or.inl rfl)) (fun _ _ _ _ _ => pts_nil)
          (fun _ _ _ _ _ => pe_tup (pa_cons (pv 13) (pa_cons (pe_ix (ix_listK (K := K) rfl) (pe_lst (pa_cons (pe_call gW hr (by rfl) mW kW bW .nil pass0 (pa_cons (pv 0) pa_nil)) (pa_cons (pe_un un_neg pe_int) pa_nil)))
            (pe_callTy call_int1 (by rfl) T.int PyProof.Rows.boot_int (pa_cons (pv 6) pa_nil)) (fun _ _ => rfl)) pa_nil)))) pa_nil)))
    (pss_cons (ps_set (i := 8) scCode.nd rfl (Or.inl rfl) (pe_callTy call_tuple_of (by rfl) T.tuple PyProof.Rows.boot_tuple (pa_cons
        (pe_lc (own := [("_law_k", 10)]) (g := gName 10) (tt := tYes) rfl scCode.nd (pi_range1 (by rfl) T.range (pa_cons pe_int pa_nil)) (blkOk_by (N := nCode) (sc := defScope sCode) (by decide +kernel))
          (fun _ _ _ _ _ => pg_name (i := 10) scCode.nd rfl (Or.inl rfl)) (fun _ _ _ _ _ => pts_nil)
          (fun _ _ _ _ _ => pe_call gW hr (by rfl) mW kW bW .nil pass0 (pa_cons (pv 0) pa_nil))) pa_nil)))
    (C8.pss_cut (ps_if (pt_cmpR op_eq (pe_call gT hr (by rfl) mT kT bT .nil pass0 (pa_cons (pv 0) (pa_cons pe_int pa_nil))) pe_int (nomark _))
        (pss_one (ps_set (i := 8) scCode.nd rfl (Or.inl rfl) (pe_op op_repT (pe_tup (pa_cons pe_int pa_nil)) pe_int))) pss_nil)
    (pss_cons (ps_set (i := 9) scCode.nd rfl (Or.inr rfl) pe_dnewT)
    (pss_cons (ps_for PassesOwn.never rfl (pi_range1 (by rfl) T.range (pa_cons (pe_op op_mul (pe_call gT hr (by rfl) mT kT bT .nil pass0 (pa_cons (pv 0) (pa_cons pe_int pa_nil)))
        (pe_callTy call_int1 (by rfl) T.int PyProof.Rows.boot_int (pa_cons (pe_cmpR (op_neD hu) (pv 5) (pe_lst pa_nil) (nomark _)) pa_nil))) pa_nil)) (pg_name (i := 10) scCode.nd rfl (Or.inl rfl))
        (pss_one (ps_dput hu1 (pv 9) (pe_tup (pa_cons (pe_call gP hr (by rfl) mP kP bP .nil pass0 (pa_cons (pv 0) (pa_cons (pv 5) pa_nil))) (pa_cons (pe_call gP hr (by rfl) mP kP bP .nil pass0 (pa_cons (pv 0) (pa_cons (pv 5) pa_nil))) pa_nil)))
          (pe_call gW hr (by rfl) mW kW bW .nil pass0 (pa_cons (pv 0) pa_nil)) rfl)))
    (pss_cons (ps_set (i := 11) scCode.nd rfl (Or.inl rfl) (pe_callTy call_tuple_of (by rfl) T.tuple PyProof.Rows.boot_tuple (pa_cons
        (pe_lc (own := [("_law_texts", 14)]) (g := gName 14) (tt := tYes) rfl scCode.nd (pi_list (pe_callB (cr_sortG hu (fun q : Str × Str => PyData.tuple [.str q.1, .str q.2])) (by rfl) T.sorted PyProof.Rows.boot_sorted (pa_cons (pe_callTy (call_list_dT rfl) (by rfl) T.list PyProof.Rows.boot_list (pa_cons (pv 9) pa_nil)) pa_nil)))
          (blkOk_by (N := nCode) (sc := defScope sCode) (by decide +kernel))
          (fun _ _ _ _ _ => pg_name (i := 14) scCode.nd rfl (Or.inl rfl)) (fun _ _ _ _ _ => pts_nil)
          (fun _ _ _ _ _ => pe_op (op_catTK (K := K) rfl) (pv 14) (pe_tup (pa_cons (pe_dget hu1 (pv 9) (pv 14) (fun _ _ => rfl)) pa_nil)))) pa_nil)))
    (pss_one (ps_ret (pe_tup (pa_cons (pv 1) (pa_cons (pv 7) (pa_cons (pe_ix ix_list (pe_lst (pa_cons pe_int (pa_cons pe_int (pa_cons pe_int (pa_cons pe_int (pa_cons pe_int pa_nil))))))
        (pe_call gT hr (by rfl) mT kT bT .nil pass0 (pa_cons (pv 0) (pa_cons pe_int pa_nil))) (fun _ _ => rfl)) (pa_cons (pv 8) (pa_cons (pv 11) pa_nil)))))))))))))))))))), ?_⟩
  -- the signs
  refine ⟨(by show 6 ≤ sizeLine; decide), fun q nq => ?_⟩
  have s1' := same_new (HO.lst [.str "a", .str "ab", .str "acgu", .str "abcdef", .str "xyz", .str "bdnqtz"]) nq
  refine ⟨_, rfl, p, cl, ns, n, 6, rfl, hp.same s1', by omega, hns, by decide, by decide, fun H1 r r0 r1 b1 hp1 => ?_⟩
  obtain ⟨x, hx, hat⟩ := at_toNat (xs := [V.str "a", V.str "ab", V.str "acgu", V.str "abcdef", V.str "xyz", V.str "bdnqtz"]) r0 r1
  have hz : ∃ z : Str, x = .str z ∧ PyData.strOk z = true ∧ 0 < z.length ∧ z.length ≤ 6 := by
    simp only [List.mem_cons, List.not_mem_nil, or_false] at hx
    rcases hx with h | h | h | h | h | h <;> exact ⟨_, h, by decide +kernel, by decide +kernel, by decide +kernel⟩
  obtain ⟨z, rfl, hz1, hz2, hz3⟩ := hz
  have hq1 := (hp.same s1').lst b1 upd_same
  have b01 : But [p] H H1 := (But.same s1').trans b1
  refine ⟨q, _, r, _, rfl, rfl, SqL.of hq1, hat, ?_⟩
  clear hq1 hat hx b1 s1' nq
  -- the texts
  refine ⟨Nat.zero_le _, fun e0 ne0 => ?_⟩
  have s2 := same_new (HO.lst []) ne0
  have b02 := b01.trans (But.same s2)
  have hp2 := hp1.same s2
  have he0 : (upd H1 e0 (.lst [])) e0 = some (.lst []) := upd_same
  generalize upd H1 e0 (.lst []) = H2 at s2 b02 hp2 he0 ⊢
  clear hp1 b01 s2 ne0
  refine ⟨_, rfl, z, rfl, ?_⟩
  refine for_it walk_str (fun i σ H3 => ∃ (y3 : Option V) (e : Addr) (es : List Str), σ = [some (.ref p), some (.str z), some (.ref e), y3, none, none, none, none, none, none, none, none, none, none, none] ∧ But [p] H2 H3 ∧ PenAt H3 p cl ns (n + 1) ∧ H3 e = some (.lst (es.map V.str)) ∧ es.length = i * z.length ∧ ∀ x ∈ es, Both x) ?_ (fun _ _ _ _ _ => trivial) ?_ ?_
  · exact ⟨none, e0, [], rfl, But.refl _ _, hp2, he0, (Nat.zero_mul _).symm, fun x hx => by cases hx⟩
  · rintro i x σ H3 H3' hi ⟨y3, e, es, rfl, b3, hp3, he, hl, hes⟩ ⟨rfl, c, hc, rfl⟩
    have hi6 : i < z.length := hi
    have hcm : c ∈ z.cps.toList := Array.mem_toList_iff.mpr (Array.mem_of_getElem? hc)
    refine ⟨_, rfl, _, rfl, z, rfl, fun D nD => ?_⟩
    refine lc_it walk_str (fun j H4 => Same H3' H4 ∧ ∃ fs : List Str, H4 D = some (.lst (fs.map V.str)) ∧ fs.length = j ∧ ∀ x ∈ fs, Both x) ⟨same_new _ nD, [], upd_same, rfl, fun x hx => (by cases hx)⟩ (fun _ _ _ _ => trivial) ?_ ?_
    · rintro j x H4 H4' hj ⟨sm, fs, hD, hfl, hfs⟩ ⟨rfl, d, hd, rfl⟩
      have hj6 : j < z.length := hj
      have hdm : d ∈ z.cps.toList := Array.mem_toList_iff.mpr (Array.mem_of_getElem? hd)
      refine ⟨rfl, ?_⟩
      refine ⟨_, rfl, _, rfl, _, _, rfl, rfl, (by show 2 ≤ sizeLine; decide), _, hD, ?_, same_fresh _ sm nD, fs ++ [⟨#[c]⟩ ++ ⟨#[d]⟩], ?_, ?_, ?_⟩
      · rw [List.length_map]
        exact szl (by omega)
      · rw [upd_same, List.map_append]
        rfl
      · rw [List.length_append, hfl]
        rfl
      · intro y hy
        rcases List.mem_append.mp hy with hy | hy
        · exact hfs y hy
        · rw [List.mem_singleton.mp hy]
          exact both_two hz1 hcm hdm
    · rintro H4 ⟨sm, fs, hD, hfl, hfs⟩
      have hfl' : fs.length = z.length := hfl
      have hmul : i * z.length ≤ 6 * 6 := Nat.mul_le_mul (by omega) hz3
      refine ⟨e, D, _, _, rfl, rfl, sm _ _ he, hD, ?_, fun t nt => ?_⟩
      · rw [List.length_map, List.length_map, hl, hfl']
        exact sz (by omega)
      have s5 := same_new (HO.lst (es.map V.str ++ fs.map V.str)) nt
      refine ⟨_, t, es ++ fs, rfl, b3.trans (But.same (sm.trans s5)), hp3.same (sm.trans s5), ?_, ?_, ?_⟩
      · rw [upd_same, List.map_append]
      · rw [List.length_append, hl, hfl', Nat.succ_mul]
      · intro y hy
        rcases List.mem_append.mp hy with hy | hy
        · exact hes y hy
        · exact hfs y hy
  rintro σ H3 ⟨y3, e, es, rfl, b3, hp3, he, hl, hes⟩
  have hel : es.length ≤ 36 := by
    have hl' : es.length = z.length * z.length := hl
    have hmul : z.length * z.length ≤ 6 * 6 := Nat.mul_le_mul hz3 hz3
    omega
  have b03 := b02.trans b3
  clear b3 hl b02 hp2 he0
  -- few
  refine ⟨(by show 4 ≤ sizeLine; decide), fun q nq => ?_⟩
  have s4 := same_new (HO.lst [.int 0, .int 1, .int 2, .int 3]) nq
  refine ⟨_, rfl, p, cl, ns, n + 1, 4, rfl, hp3.same s4, by omega, hns, by decide, by decide, fun H5 r4 r40 r41 b5 hp5 => ?_⟩
  obtain ⟨x, hx, hat⟩ := at_toNat (xs := [V.int 0, V.int 1, V.int 2, V.int 3]) r40 r41
  have hfew : ∃ fw : Int, x = .int fw := by
    simp only [List.mem_cons, List.not_mem_nil, or_false] at hx
    rcases hx with h | h | h | h <;> exact ⟨_, h⟩
  obtain ⟨fw, rfl⟩ := hfew
  have hq5 := (hp3.same s4).lst b5 upd_same
  have he5 := (hp3.same s4).lst b5 (s4 _ _ he)
  have b05 := (b03.trans (But.same s4)).trans b5
  refine ⟨q, _, r4, _, rfl, rfl, SqL.of hq5, hat, ?_⟩
  clear hq5 hat hx b5 s4 nq b03 hp3 he
  -- some
  refine ⟨_, rfl, e, rfl, ⟨_, SqL.of he5⟩, fun D nD => ?_⟩
  have npD := hp5.ne nD
  refine lc_list (K := K) (a := e) (xs := es.map V.str) (fun j H6 => But [p] H5 H6 ∧ PenAt H6 p cl ns (n + 2 + j) ∧ ∃ fs : List Str, H6 D = some (.lst (fs.map V.str)) ∧ fs.length ≤ j ∧ ∀ x ∈ fs, Both x) ⟨But.same (same_new _ nD), hp5.same (same_new _ nD), [], upd_same, Nat.le_refl _, fun x hx => (by cases hx)⟩ ?_ ?_ ?_
  · rintro j H6 _ ⟨b6, hp6, _⟩
    exact SqL.of (hp5.lst b6 he5)
  · rintro j x H6 hxj ⟨b6, hp6, fs, hD, hfl, hfs⟩
    have hj : j < es.length := by
      have := (List.getElem?_eq_some_iff.mp hxj).1
      rwa [List.length_map] at this
    rw [List.getElem?_map, List.getElem?_eq_getElem hj] at hxj
    cases hxj
    refine ⟨rfl, ?_⟩
    refine ⟨_, rfl, p, cl, ns, n + 2 + j, 4, rfl, hp6, by omega, hns, by decide, by decide, fun H7 r7 r70 r71 b7 hp7 => ?_⟩
    refine ⟨_, rfl, _, _, rfl, rfl, _, rfl, ?_⟩
    have hD7 := hp6.lst b7 hD
    refine ite2 (fun _ => ?_) (fun _ => ?_)
    · refine ⟨_, rfl, _, hD7, ?_, But.fresh _ (b6.trans b7) nD, (hp7.upd npD).mono (by omega), fs ++ [es[j]], ?_, ?_, ?_⟩
      · rw [List.length_map]
        exact szl (by omega)
      · rw [upd_same, List.map_append]
        rfl
      · rw [List.length_append]
        exact Nat.succ_le_succ hfl
      · intro y hy
        rcases List.mem_append.mp hy with hy | hy
        · exact hfs y hy
        · rw [List.mem_singleton.mp hy]
          exact hes _ (List.getElem_mem hj)
    · exact ⟨b6.trans b7, hp7.mono (by omega), fs, hD7, Nat.le_succ_of_le hfl, hfs⟩
  rintro H6 ⟨b6, hp6, fs, hD, hfl, hfs⟩
  rw [List.length_map] at hfl hp6
  refine ⟨D, fs, rfl, SqL.of hD, by omega, fun ys so pm _ nso => ?_⟩
  have s7 := same_new (HO.lst (ys.map V.str)) nso
  have b07 := (b05.trans b6).trans (But.same s7)
  have hp7 : PenAt (upd H6 so (.lst (ys.map V.str))) p cl ns (n + 40) := (hp6.same s7).mono (by omega)
  have hso : (upd H6 so (.lst (ys.map V.str))) so = some (.lst (ys.map V.str)) := upd_same
  have hyl : ys.length ≤ 36 := by
    rw [pm.length_eq]
    omega
  have hys : ∀ x ∈ ys, Both x := fun x hx => hfs x (pm.mem_iff.mp hx)
  generalize upd H6 so (.lst (ys.map V.str)) = H7 at s7 b07 hp7 hso ⊢
  have nsoH : H so = none := hp6.one (b05.trans b6) nso
  have nso2 := hp6.ne nso
  clear b6 hp6 hD hfl hfs s7 nso pm b05 hp5 he5 nD npD hes hel
  -- at most twelve
  refine while_by (fun σ H8 => ∃ xs : List Str, σ = [some (.ref p), some (.str z), some (.ref e), y3, some (.int fw), some (.ref so), none, none, none, none, none, none, none, none, none] ∧ But [p] H H8 ∧ PenAt H8 p cl ns (n + 40 + (36 - xs.length)) ∧ H8 so = some (.lst (xs.map V.str)) ∧ xs.length ≤ 36 ∧ ∀ x ∈ xs, Both x)
    (fun _ H8 => match H8 so with | some (.lst xs) => xs.length | _ => 0) ?_ ?_ ?_
  · exact ⟨ys, rfl, b07, hp7.mono (by omega), hso, hyl, hys⟩
  · rintro σ H8 ⟨xs, rfl, b8, hp8, hs8, hxl, hxs⟩
    refine ⟨_, rfl, so, _, rfl, .inl (SqL.of hs8), _, _, rfl, rfl, _, rfl, ?_⟩
    refine ite2 (fun c => ?_) (fun c => ?_)
    · refine ⟨_, rfl, .inl ⟨rfl, _, SqL.of hs8⟩, ?_⟩
      have c' : 12 < xs.length := by
        have := of_decide_eq_true c
        rw [List.length_map] at this
        omega
      refine ⟨_, rfl, _, rfl, so, _, rfl, .inl (SqL.of hs8), p, cl, ns, _, _, rfl, hp8, by omega, hns, by rw [List.length_map]; omega, by rw [List.length_map]; omega, fun H9 r9 r90 r91 b9 hp9 => ?_⟩
      rw [List.length_map] at r91
      have hk : r9.toNat < xs.length := by omega
      have e9 : r9 = ((r9.toNat : Nat) : Int) := by omega
      have hs9 := hp8.lst b9 hs8
      refine ⟨so, _, r9, r9.toNat, V.str xs[r9.toNat], rfl, rfl, hs9, by omega, by omega, ?_, ?_, ?_⟩
      · rw [List.length_map]
        have := (ixN_seq (ixN_nat hk)).1
        rw [← e9] at this
        exact this
      · rw [List.getElem?_map, List.getElem?_eq_getElem hk]
        rfl
      · have el : (xs.eraseIdx r9.toNat).length = xs.length - 1 := List.length_eraseIdx_of_lt hk
        refine ⟨⟨xs.eraseIdx r9.toNat, rfl, But.fresh _ (b8.trans b9) nsoH, (hp9.upd nso2).mono (by omega), ?_, by omega, fun x hx => hxs x (List.mem_of_mem_eraseIdx hx)⟩, ?_⟩
        · rw [upd_same, erase_map]
        · rw [upd_same, hs8]
          show ((xs.map V.str).eraseIdx r9.toNat).length < (xs.map V.str).length
          rw [erase_map, List.length_map, List.length_map, el]
          omega
    · have c' : xs.length ≤ 12 := by
        have := of_decide_eq_false (Bool.eq_false_iff.mpr c)
        rw [List.length_map] at this
        omega
      -- alike
      refine ⟨_, rfl, p, cl, ns, _, 4, rfl, hp8.mono (show _ ≤ n + 76 by omega), by omega, hns, by decide, by decide, fun H9 r9 r90 r91 b9 hp9 => ?_⟩
      have hs9 := hp8.lst b9 hs8
      have b09 := b8.trans b9
      refine ⟨rfl, ?_⟩
      generalize decide (V.int r9 = V.int 0) = al
      clear hp8 hs8 b8 b9 hso b07 hp7 hyl hys c hxl
      -- pairs
      refine ⟨_, rfl, so, rfl, ⟨_, SqL.of hs9⟩, fun D nD => ?_⟩
      have npD := hp9.ne nD
      refine lc_list (K := K) (a := so) (xs := xs.map V.str) (fun j H' => But [p] H9 H' ∧ PenAt H' p cl ns (n + 77 + 4 * j) ∧ ∃ (ts : List Addr) (prs : List (Str × Int)), H' D = some (.lst (ts.map V.ref)) ∧ Paired (fun t p => SqT K H' t [V.str p.1, V.int p.2]) ts prs ∧ prs.length = j ∧ ts.length = j ∧ ∀ q ∈ prs, Both q.1) ⟨But.same (same_new _ nD), hp9.same (same_new _ nD), [], [], upd_same, .nil, rfl, rfl, fun x hx => (by cases hx)⟩ ?_ ?_ ?_
      · rintro j H6 _ ⟨b6, hp6, _⟩
        exact SqL.of (hp9.lst b6 hs9)
      · rintro j x H6 hxj ⟨b6, hp6, ts, prs, hD, hpr, hpl, htl, hpb⟩
        have hj : j < xs.length := by
          have := (List.getElem?_eq_some_iff.mp hxj).1
          rwa [List.length_map] at this
        rw [List.getElem?_map, List.getElem?_eq_getElem hj] at hxj
        cases hxj
        refine ⟨rfl, ?_⟩
        refine ⟨_, rfl, _, rfl, p, cl, ns, _, rfl, hp6, by omega, hns, fun H7 iw b7 hp7 => ?_⟩
        refine ⟨1, rfl, (by show 2 ≤ sizeLine; decide), fun u nu => ?_⟩
        have hal : ∃ m : Int, atI [V.int iw, V.int (-1)] (if al = true then 1 else 0) = some (V.int m) := by
          cases al
          · exact ⟨iw, rfl⟩
          · exact ⟨-1, rfl⟩
        obtain ⟨m, hm⟩ := hal
        have s8 := same_new (HO.lst [V.int iw, V.int (-1)]) nu
        refine ⟨_, rfl, .inr ⟨_, rfl, u, _, _, _, rfl, rfl, SqL.of upd_same, hm, ?_⟩⟩
        refine ⟨(by show 2 ≤ sizeLine; decide), fun t nt => ?_⟩
        have s9 := s8.trans (same_new (HO.tup [V.str xs[j], V.int m]) nt)
        refine ⟨_, s9 _ _ (hp6.lst b7 hD), ?_, But.fresh _ ((b6.trans b7).trans (But.same s9)) nD, ((hp7.same s9).upd npD).mono (by omega), ts ++ [t], prs ++ [(xs[j], m)], ?_, ?_, ?_, ?_, ?_⟩
        · rw [List.length_map, htl]
          exact szl (by omega)
        · rw [upd_same, List.map_append]
          rfl
        · have kD := TK.lst (HO.lst (ts.map V.ref ++ [V.ref t])) (s9 _ _ (hp6.lst b7 hD))
          exact paired_snoc (paired_keep (((hp6.tk b7).trans (TK.same s9)).trans kD) hpr) (kD.sq (SqT.of upd_same))
        · rw [List.length_append, hpl]
          rfl
        · rw [List.length_append, htl]
          rfl
        · intro y hy
          rcases List.mem_append.mp hy with hy | hy
          · exact hpb y hy
          · rw [List.mem_singleton.mp hy]
            exact hxs _ (List.getElem_mem hj)
      rintro H6 ⟨b6, hp6, ts, prs, hD, hpr, hpl, htl, hpb⟩
      rw [List.length_map] at hpl hp6
      refine ⟨D, _, rfl, SqL.of hD, fun tb ob ntb hob => ?_⟩
      have s7 := same_new (HO.frz ob (HO.tup (ts.map V.ref))) ntb
      have b07 := (b09.trans b6).trans (But.same s7)
      have hp7 : PenAt (upd H6 tb (.frz ob (.tup (ts.map V.ref)))) p cl ns (n + 125) := (hp6.same s7).mono (by omega)
      have htb : (upd H6 tb (.frz ob (.tup (ts.map V.ref)))) tb = some (.frz ob (.tup (ts.map V.ref))) := upd_same
      have hpr7 := paired_keep (TK.same s7) hpr
      have hs7 := s7 _ _ (hp9.lst b6 hs9)
      generalize upd H6 tb (.frz ob (.tup (ts.map V.ref))) = H7 at s7 b07 hp7 htb hpr7 hs7 ⊢
      clear b09 b6 hp6 hD hpr s7 hs9 hp9 nD npD ntb
      -- loops
      refine ⟨9, rfl, by decide, by decide, fun D nD => ?_⟩
      have npD := hp7.ne nD
      refine lc_range (lo := 0) (n := 9) (fun j H' => But [p] H7 H' ∧ PenAt H' p cl ns (n + 125 + 4 * j) ∧ ∃ is : List Int, H' D = some (.lst (is.map V.int)) ∧ is.length = j) ⟨But.same (same_new _ nD), hp7.same (same_new _ nD), [], upd_same, rfl⟩ ?_ ?_
      · rintro j H8 hj ⟨b8, hp8, is, hD, hil⟩
        refine ⟨rfl, ?_⟩
        refine ⟨_, rfl, p, cl, ns, _, rfl, hp8, by omega, hns, fun H9 iw b9 hp9 => ?_⟩
        refine ⟨_, hp8.lst b9 hD, ?_, But.fresh _ (b8.trans b9) nD, (hp9.upd npD).mono (by omega), is ++ [iw], ?_, ?_⟩
        · rw [List.length_map, hil]
          exact szl (by omega)
        · rw [upd_same, List.map_append]
          rfl
        · rw [List.length_append, hil]
          rfl
      rintro H8 ⟨b8, hp8, is, hD, hil⟩
      refine ⟨D, _, rfl, .inl ⟨SqL.of hD, fun lp nlp => ?_⟩⟩
      have s9 := same_new (HO.tup (is.map V.int)) nlp
      have b79 := b8.trans (But.same s9)
      have k79 := hp7.tk b79
      have hp9 : PenAt (upd H8 lp (.tup (is.map V.int))) p cl ns (n + 161) := hp8.same s9
      have hlp9 : SqT K (upd H8 lp (.tup (is.map V.int))) lp (is.map V.int) := SqT.of upd_same
      have hs9 := hp7.lst b79 hs7
      have htb9 := k79.2 _ _ _ htb
      have hpr9 := paired_keep k79 hpr7
      have b09 := b07.trans b79
      generalize upd H8 lp (.tup (is.map V.int)) = H9 at s9 b79 k79 hp9 hlp9 hs9 htb9 hpr9 b09 ⊢
      clear b8 hp8 hD nlp s9 b79 k79 htb hpr7 hs7 b07 hp7 nD npD
      -- behind the if
      refine ⟨fun σ' H' => ∃ (l : Addr) (is : List Int), σ' = [some (.ref p), some (.str z), some (.ref e), y3, some (.int fw), some (.ref so), some (.bl al), some (.ref tb), some (.ref l), none, none, none, none, none, none] ∧ But [p] H H' ∧ PenAt H' p cl ns (n + 162) ∧ H' so = some (.lst (xs.map V.str)) ∧ H' tb = some (.frz ob (.tup (ts.map V.ref))) ∧
        Paired (fun t p => SqT K H' t [V.str p.1, V.int p.2]) ts prs ∧ SqT K H' l (is.map V.int) ∧ is.length = 9, ?_, ?_⟩
      · refine ⟨_, rfl, p, cl, ns, _, 5, rfl, hp9, by omega, hns, by decide, by decide, fun H10 r10 r100 r101 b10 hp10 => ?_⟩
        have k10 := hp9.tk b10
        refine ⟨rfl, _, rfl, ?_⟩
        refine ite2 (fun _ => ?_) (fun _ => ⟨lp, is, rfl, b09.trans b10, hp10, hp9.lst b10 hs9, k10.2 _ _ _ htb9, paired_keep k10 hpr9, k10.sq hlp9, hil⟩)
        refine ⟨(by show 1 ≤ sizeLine; decide), fun t nt => ?_⟩
        have s11 := same_new (HO.tup [V.int 0]) nt
        refine ⟨t, 9, _, rfl, rfl, SqT.of upd_same, (by intro h; cases h), by decide, by decide, by decide, fun l nl => ?_⟩
        have s12 := s11.trans (same_new (HO.tup (List.replicate (Int.toNat 9) [V.int 0]).flatten) nl)
        have k12 := k10.trans (TK.same s12)
        exact ⟨l, List.replicate 9 0, rfl, (b09.trans b10).trans (But.same s12), hp10.same s12, s12 _ _ (hp9.lst b10 hs9), k12.2 _ _ _ htb9, paired_keep k12 hpr9, SqT.of upd_same, rfl⟩
      clear hp9 hlp9 hs9 htb9 hpr9 b09 hil lp is H9 H8
      rintro σ' H10 ⟨l, is, rfl, b010, hp10, hs10, htb10, hpr10, hl10, hil⟩
      -- the stacks
      refine fun st nst => ?_
      have nstH := hp10.one b010 nst
      have nps := hp10.ne nst
      have s11 := same_new (HO.dT []) nst
      have b011 := b010.trans (But.same s11)
      have hp11 := hp10.same s11
      have hs11 := s11 _ _ hs10
      have htb11 := s11 _ _ htb10
      have hpr11 := paired_keep (TK.same s11) hpr10
      have hl11 := (TK.same s11).sq hl10
      have hst11 : (upd H10 st (.dT [])) st = some (.dT []) := upd_same
      generalize upd H10 st (.dT []) = H11 at s11 b011 hp11 hs11 htb11 hpr11 hl11 hst11 ⊢
      clear s11 b010 hp10 hs10 htb10 hpr10 hl10 nst H10
      refine ⟨_, rfl, p, cl, ns, _, 13, rfl, hp11, by omega, hns, by decide, by decide, fun H12 rk rk0 rk1 b12 hp12 => ?_⟩
      refine ⟨_, rfl, Nat.zero_le _, fun u nu => ?_⟩
      have s13 := same_new (HO.lst []) nu
      have hs12 := hp11.lst b12 hs11
      refine ⟨.list (xs.map PyData.str), .list [], .lst (SqL.of (s13 _ _ hs12)) (strs_dp _), .lst (SqL.of upd_same) .nil, shaped_strs (fun w hw => (hxs w hw).2), rfl, ?_⟩
      rw [eqv_nil]
      refine .inr ⟨_, rfl, _, _, rfl, rfl, .inl ⟨by omega, by omega⟩, ?_⟩
      have hj : ∃ m : Nat, rk * (if (!(xs.map PyData.str).isEmpty) = true then (1 : Int) else 0) = (m : Int) ∧ m ≤ 12 ∧ (0 < m → 0 < xs.length) := by
        cases xs with
        | nil => exact ⟨0, Int.mul_zero _, Nat.zero_le _, fun h => absurd h (Nat.lt_irrefl _)⟩
        | cons y ys => exact ⟨rk.toNat, by rw [if_pos (by rfl), Int.mul_one]; omega, by omega, fun _ => Nat.succ_pos _⟩
      obtain ⟨m, hm, hm12, hmx⟩ := hj
      refine ⟨(m : Int), congrArg (fun z : Int => [V.int z]) hm, by omega, by omega, ?_⟩
      rw [Int.toNat_natCast]
      have b13 : But [p] H11 (upd H12 u (.lst [])) := b12.trans (But.same s13)
      have hp13 := hp12.same s13
      generalize upd H12 u (.lst []) = H13 at s13 b13 hp13 ⊢
      have b13' : But [p, st] H11 H13 := b13.sub fun x hx => List.mem_cons.mpr (.inl (List.mem_singleton.mp hx))
      have hst13 : H13 st = some (.dT []) := b13 _ _ hst11 fun h => nps.1 (List.mem_singleton.mp h).symm
      refine for_range (lo := 0) (n := m) (fun i σ H' => ∃ (yk : Option V) (kvs : List (List Key × V)), σ = [some (.ref p), some (.str z), some (.ref e), y3, some (.int fw), some (.ref so), some (.bl al), some (.ref tb), some (.ref l), some (.ref st), yk, none, none, none, none] ∧ But [p, st] H11 H' ∧ PenAt H' p cl ns (n + 163 + 6 * i) ∧
        H' st = some (.dT kvs) ∧ kvs.length ≤ i ∧ ∀ kv ∈ kvs, Entry kv) ⟨none, [], rfl, b13', hp13, hst13, Nat.le_refl _, fun x hx => (by cases hx)⟩ ?_ ?_
      · rintro i σ H14 hi ⟨yk, kvs, rfl, b14, hp14, hst14, hkl, hkv⟩
        have hx1 : 1 ≤ (xs.map V.str).length := by
          rw [List.length_map]
          exact hmx (by omega)
        have hx2 : (xs.map V.str).length ≤ 100000 := by
          rw [List.length_map]
          omega
        refine ⟨_, rfl, p, cl, ns, _, rfl, hp14, by omega, hns, fun H15 iw b15 hp15 => ?_⟩
        have hs14 := lst2 hp11 hst11 b14 hs11
        have hs15 := hp14.lst b15 hs14
        refine ⟨_, rfl, _, rfl, _, rfl, p, cl, ns, _, .ref so, xs.map V.str, rfl, hp15, by omega, hns, .inl ⟨so, rfl, SqL.of hs15⟩, hx1, hx2, fun H16 x1 hm1 b16 hp16 => ?_⟩
        have hs16 := hp15.lst b16 hs15
        refine ⟨_, rfl, _, rfl, p, cl, ns, _, .ref so, xs.map V.str, rfl, hp16, by omega, hns, .inl ⟨so, rfl, SqL.of hs16⟩, hx1, hx2, fun H17 x2 hm2 b17 hp17 => ?_⟩
        obtain ⟨w1, hw1, rfl⟩ := List.mem_map.mp hm1
        obtain ⟨w2, hw2, rfl⟩ := List.mem_map.mp hm2
        refine ⟨(by show 2 ≤ sizeLine; decide), fun t nt => ?_⟩
        have s18 := same_new (HO.tup [V.str w1, V.str w2]) nt
        have b18 : But [p] H14 (upd H17 t (.tup [.str w1, .str w2])) := ((b15.trans b16).trans b17).trans (But.same s18)
        have hst18 : (upd H17 t (.tup [.str w1, .str w2])) st = some (.dT kvs) := b18 _ _ hst14 fun h => nps.1 (List.mem_singleton.mp h).symm
        refine ⟨st, _, rfl, DPut.t (k := [Sum.inr w1, Sum.inr w2]) hst18 upd_same (szl (by omega)), ?_⟩
        refine ⟨_, _, rfl, ?_, ((hp17.same s18).upd nps).mono (by omega), upd_same, ?_, entry_put hkv (hxs w1 hw1).2 (hxs w2 hw2).2⟩
        · exact But.at _ (b14.trans (b18.sub fun x hx => List.mem_cons.mpr (.inl (List.mem_singleton.mp hx)))) (List.mem_cons.mpr (.inr (List.mem_singleton.mpr rfl)))
        · have := put_le kvs [Sum.inr w1, Sum.inr w2] (V.int iw)
          omega
      clear nu hst13 b13' hp13 b13 s13 hs12 hp12 b12 H13 H12
      rintro σ H14 ⟨yk, kvs, rfl, b14, hp14, hst14, hkl, hkv⟩
      have k14 := tk2 hp11 hst11 b14
      have b014 := b011.drop b14 nstH
      have htb14 := k14.2 _ _ _ htb11
      have hpr14 := paired_keep k14 hpr11
      have hl14 := k14.sq hl11
      clear hp11 hst11 b14 htb11 hpr11 hl11 hs11 b011 k14 H11
      -- the rows
      refine ⟨_, rfl, st, kvs, rfl, .inl hst14, fun kl bs nkl hbs => ?_⟩
      have s15 := same_new (HO.lst (bs.map V.ref)) nkl
      obtain ⟨qs, hq1, hq2, hq3⟩ := keys_at hkv hbs fun _ h => h
      refine ⟨kl, qs, rfl, ?_, ?_, ?_, ?_, ?_, fun sl nsl => ?_⟩
      · rw [hq1]
        exact SqL.of upd_same
      · intro b hb
        obtain ⟨t, i, e1, e2, _⟩ := hq3 b hb
        rw [e1]
        exact .tup (SqT.of (s15 _ _ e2)) (.cons (.str _) (.cons (.str _) .nil))
      · exact PySem.W.AllAlike.of fun b b' => by simp [PySem.W.alike, PySem.W.alikeAll]
      · exact PySem.W.Sortable.tuples fun b => ⟨_, _, rfl⟩
      · intro b _
        simp [PyData.depth, PyData.depthAll]
      have pmS := List.mergeSort_perm qs (PySem.W.dataLe false fun b => PyData.tuple [.str b.2.1, .str b.2.2])
      have hqm : ∀ q ∈ qs.mergeSort (PySem.W.dataLe false fun b => PyData.tuple [.str b.2.1, .str b.2.2]), KeyAt H14 kvs q := fun q hq => hq3 q (pmS.mem_iff.mp hq)
      have hql : (qs.mergeSort (PySem.W.dataLe false fun b => PyData.tuple [.str b.2.1, .str b.2.2])).length = kvs.length := by rw [pmS.length_eq, hq2]
      generalize qs.mergeSort (PySem.W.dataLe false fun b => PyData.tuple [.str b.2.1, .str b.2.2]) = ss at hqm hql nsl ⊢
      have s16 := s15.trans (same_new (HO.lst (ss.map (·.1))) nsl)
      have hsl : (upd (upd H14 kl (.lst (bs.map V.ref))) sl (.lst (ss.map (·.1)))) sl = some (.lst (ss.map (·.1))) := upd_same
      generalize upd (upd H14 kl (.lst (bs.map V.ref))) sl (.lst (ss.map (·.1))) = H16 at s16 hsl ⊢
      refine ⟨sl, rfl, ⟨_, SqL.of hsl⟩, fun D nD => ?_⟩
      refine lc_list (K := K) (a := sl) (xs := ss.map (·.1)) (fun j H' => Same H16 H' ∧ ∃ (ys : List V) (rws : List (Str × Str × Int)), H' D = some (.lst ys) ∧ DtAll K H' ys (rws.map encR) ∧ rws.length = j ∧ ∀ r ∈ rws, PyData.strOk r.1 = true ∧ PyData.strOk r.2.1 = true) ⟨same_new _ nD, [], [], upd_same, .nil, rfl, fun x hx => (by cases hx)⟩ ?_ ?_ ?_
      · rintro j H17 _ ⟨sm, _⟩
        exact SqL.of (sm _ _ hsl)
      · rintro j x H17 hxj ⟨sm, ys, rws, hD, hd, hrl, hrs⟩
        have hj : j < ss.length := by
          have := (List.getElem?_eq_some_iff.mp hxj).1
          rwa [List.length_map] at this
        rw [List.getElem?_map, List.getElem?_eq_getElem hj] at hxj
        obtain ⟨t, i, e1, e2, e3, e4, e5⟩ := hqm _ (List.getElem_mem hj)
        generalize ss[j] = sj at hxj e1 e2 e3 e4 e5
        have ex : x = .ref t := by
          rw [← e1]
          exact (Option.some.inj hxj).symm
        subst ex
        have e2' := sm _ _ (s16 _ _ e2)
        have hst17 := sm _ _ (s16 _ _ hst14)
        have hget : DGet H17 st (.ref t) (some (.int i)) := by
          rw [← e3]
          exact DGet.t hst17 e2'
        refine ⟨rfl, ?_⟩
        refine ⟨_, rfl, _, rfl, _, rfl, st, _, rfl, hget, (by show 1 ≤ sizeLine; decide), fun u nu => ?_⟩
        have s18 := same_new (HO.tup [V.int i]) nu
        refine ⟨t, u, _, _, rfl, rfl, SqT.of (s18 _ _ e2'), SqT.of upd_same, (by intro h; cases h), (by show 3 ≤ sizeLine; decide), (fun h => by cases h), fun _ v nv => ?_⟩
        have s19 := s18.trans (same_new (HO.tup ([V.str sj.2.1, V.str sj.2.2] ++ [V.int i])) nv)
        have hD19 := s19 _ _ hD
        have kD := TK.lst (HO.lst (ys ++ [V.ref v])) hD19
        refine ⟨ys, hD19, ?_, same_fresh _ (sm.trans s19) nD, ys ++ [.ref v], rws ++ [(sj.2.1, sj.2.2, i)], upd_same, ?_, ?_, ?_⟩
        · rw [hd.length, List.length_map]
          exact szl (by omega)
        · rw [List.map_append]
          refine (hd.keep ((TK.same s19).trans kD)).append (.one (.tup (kD.sq (SqT.of upd_same)) ?_))
          exact .cons (.str _) (.cons (.str _) (.cons (.int _) .nil))
        · rw [List.length_append, hrl]
          rfl
        · intro r hr
          rcases List.mem_append.mp hr with hr | hr
          · exact hrs r hr
          · rw [List.mem_singleton.mp hr]
            exact ⟨e4, e5⟩
      rintro H17 ⟨sm17, ys, rws, hD, hd, hrl, hrs⟩
      rw [List.length_map] at hrl
      refine ⟨D, _, rfl, .inl ⟨SqL.of hD, fun rt nrt => ?_⟩⟩
      have s18 := (s16.trans sm17).trans (same_new (HO.tup ys) nrt)
      have hrt : Dt K (upd H17 rt (.tup ys)) (.ref rt) (.tuple (rws.map encR)) := Dt.new nrt hd
      generalize upd H17 rt (.tup ys) = H18 at s18 hrt ⊢
      have b018 := b014.trans (But.same s18)
      have hp18 := hp14.same s18
      have htb18 := s18 _ _ htb14
      have hpr18 := paired_keep (TK.same s18) hpr14
      have hl18 := (TK.same s18).sq hl14
      -- the five
      refine ⟨_, rfl, _, rfl, (by show 5 ≤ sizeLine; decide), fun q nq => ?_⟩
      have s19 := same_new (HO.lst [.int 0, .int 0, .int 1, .int 2, .int 3]) nq
      refine ⟨_, rfl, p, cl, ns, _, 5, rfl, hp18.same s19, by omega, hns, by decide, by decide, fun H20 r r0 r1 b20 hp20 => ?_⟩
      obtain ⟨x, hx, hat⟩ := at_toNat (xs := [V.int 0, V.int 0, V.int 1, V.int 2, V.int 3]) r0 r1
      have hspan : ∃ sp : Int, x = .int sp ∧ 0 ≤ sp := by
        simp only [List.mem_cons, List.not_mem_nil, or_false] at hx
        rcases hx with h | h | h | h | h <;> exact ⟨_, h, by decide⟩
      obtain ⟨sp, rfl, hsp⟩ := hspan
      have hq20 := (hp18.same s19).lst b20 upd_same
      refine ⟨q, _, r, _, rfl, rfl, SqL.of hq20, hat, ?_⟩
      refine ⟨_, rfl, _, rfl, (by show 5 ≤ sizeLine; decide), fun v nv => ?_⟩
      have s21 := same_new (HO.tup [V.str z, .ref tb, .int sp, .ref l, .ref rt]) nv
      have k21 : TK H18 (upd H20 v (.tup [V.str z, .ref tb, .int sp, .ref l, .ref rt])) := ((TK.same s19).trans ((hp18.same s19).tk b20)).trans (TK.same s21)
      refine g _ _ ⟨z, prs, sp, is, rws⟩ (((b018.trans (But.same s19)).trans b20).trans (But.same s21)) ((hp20.same s21).mono (by omega)) ?_ ?_
      · exact ⟨v, tb, l, .ref rt, ob, ts, rfl, SqT.of upd_same, ⟨k21.2 _ _ _ htb18, hob, paired_keep k21 hpr18⟩, k21.sq hl18, hrt.keep k21⟩
      · exact ⟨fun q hq => hpb q hq, hsp, hil, hrs, by show rws.length ≤ 12; omega, by show prs.length ≤ 12; omega, hz1, hz2, hz3⟩
  · rintro σ H8 Q1 Q2 hq ⟨v, h1, a, xs, h2, h3, i, j, h4, h5, b, h6, h7⟩
    exact ⟨v, h1, a, xs, h2, h3, i, j, h4, h5, b, h6, hq _ _ h7⟩
end
end K14
/-! _law_folded. -/
namespace K14
open PySem L2

abbrev sFolded : Stmt := top 33
abbrev nFolded : List Str := ["_law_pen_here", "_law_code_here", "_law_word_here", "_law_first", "_law_last", "_law_found", "_law_place", "_law_some", "_law_j"]
abbrev pFolded : List Str := ["_law_pen_here", "_law_code_here", "_law_word_here", "_law_first", "_law_last"]

def snoc : F → Nat → Nat → F → F
  | .nil, i, j, k => .cons i j k .nil
  | .cons a b c r, i, j, k => .cons a b c (snoc r i j k)
theorem flat_snoc : ∀ (t : F) (i j : Nat) (k : F), flat (snoc t i j k) = flat t ++ (i, j) :: flat k
  | .nil, i, j, k => by simp [snoc, flat]
  | .cons a b c r, i, j, k => by simp [snoc, flat, flat_snoc r]
theorem wf_snoc : ∀ {t : F} {lo m i j hi : Nat} {k : F}, WF lo m t → m ≤ i → i < j → j < hi → WF (i + 1) j k → WF lo hi (snoc t i j k)
  | .nil, lo, m, i, j, hi, k, h, h1, h2, h3, h4 => ⟨Nat.le_trans h h1, h2, h3, h4, h3⟩
  | .cons a b c r, lo, m, i, j, hi, k, h, h1, h2, h3, h4 => by
    obtain ⟨g1, g2, g3, g4, g5⟩ := h
    exact ⟨g1, g2, by omega, g4, wf_snoc g5 h1 h2 h3 h4⟩
theorem wf_high : ∀ {t : F} {lo m hi : Nat}, WF lo m t → m ≤ hi → WF lo hi t
  | .nil, _, _, _, h, g => Nat.le_trans h g
  | .cons a b c r, lo, m, hi, h, g => by
    obtain ⟨g1, g2, g3, g4, g5⟩ := h
    exact ⟨g1, g2, by omega, g4, wf_high g5 g⟩
theorem atI_end {α : Type} {xs : List α} (h : 0 < xs.length) : ∃ x, x ∈ xs ∧ atI xs (-1) = some x := by
  have hk : xs.length - 1 < xs.length := by omega
  refine ⟨xs[xs.length - 1], List.getElem_mem hk, ?_⟩
  unfold atI ixN
  rw [if_neg (by decide), if_pos (by omega)]
  show xs[((-1 : Int) + xs.length).toNat]? = _
  rw [show ((-1 : Int) + xs.length).toNat = xs.length - 1 by omega, List.getElem?_eq_getElem hk]
section
variable {P : Program} {w : World} {K : PySem.W.Frag} {mg : Str → Option Value} {base : Heap} {k : Nat} {f : Addr} {fd : FuncData}
def spFolded (K : PySem.W.Frag) (d : Nat) : Sp := fun vs H Q _ => ∃ (p cl : Addr) (ns : List Int) (n : Nat) (v : V) (c : Code) (z : Str) (lo hi : Nat), vs = [.ref p, v, .str z, .int lo, .int ((hi : Int) - 1)] ∧ PenAt H p cl ns n ∧ n + 3 * (hi - lo) ≤ 950000 ∧ ns.length ≤ 63 ∧ CodeAt K H v c ∧ CodeOk c ∧ z.length ≤ 12 ∧
  lo ≤ hi ∧ hi ≤ z.length ∧ hi < lo + d ∧
  ∀ H' l xs t, But [p] H H' → PenAt H' p cl ns (n + 3 * (hi - lo)) → H l = none → H' l = some (.lst xs) → WF lo hi t → (∀ q ∈ flat t, mayB c z q.1 q.2 = true) → DtAll K H' xs ((flat t).map encP) → Q (.ref l) H'
theorem scFolded : FnScope nFolded pFolded (defScope sFolded) := ⟨rfl, rfl, rfl, by decide +kernel, rfl, by decide +kernel, by decide +kernel⟩
theorem ok_folded {d : Nat} (F : Fun K "_law_folded" "_law_folded" sFolded f fd) (T : Blt mg) (GT : Has P w K mg base "_law_take" ["_law_pen_here", "_law_size"] k spTake) (GP : Has P w K mg base "_law_pick" ["_law_pen_here", "_law_some"] k (spPick K))
    (GM : Has P w K mg base "_law_may" ["_law_code_here", "_law_word_here", "_law_i", "_law_j"] k (spMayL K)) (gF : FnOk P w K mg base CX0 k f fd pFolded (spFolded K d)) (mF : mg "_law_folded" = some (.ref f)) (kF : PySem.W.keepIn K (.ref f) = true) (bF : Binds K fd pFolded []) :
    FnOk P w K mg base CX0 (k + 1) f fd pFolded (spFolded K (d + 1)) := by
  refine F.ok scFolded (fun vs H Q E h => ?_) (fun cdv A outer s H vs Q E hr h => ?_)
  · obtain ⟨p, cl, ns, n, v, c, z, lo, hi, rfl, _⟩ := h
    rfl
  obtain ⟨p, cl, ns, n, v, c, z, lo, hi, rfl, hp, hn, hns, hc, ck, hz, h1, h2, h3, g⟩ := h
  have hu := hr.units
  obtain ⟨fT, fdT, gT, mT, kT, bT⟩ := GT
  obtain ⟨fP, fdP, gP, mP, kP, bP⟩ := GP
  obtain ⟨fM, fdM, gM, mM, kM, bM⟩ := GM
  refine ⟨_, pss_cons (ps_set (i := 5) scFolded.nd rfl (Or.inl rfl) (pe_lst pa_nil))
    (pss_cons (ps_set (i := 6) scFolded.nd rfl (Or.inr rfl) (pv 3))
    (pss_cons (ps_while PassesOwn.never (pt_cmpR op_le (pv 6) (pv 4) (nomark _))
      (pss_cons (ps_setLc (i := 7) (own := [("_law_j", 8)]) (g := gName 8) rfl scFolded.nd rfl rfl (sw_true rfl rfl rfl (by decide +kernel)) (pi_range2 (by rfl) T.range (pa_cons (pe_op op_add (pv 6) pe_int) (pa_cons (pe_op op_add (pv 4) pe_int) pa_nil)))
        (blkOk_by (N := nFolded) (sc := defScope sFolded) (by decide +kernel)) (fun _ _ _ _ _ => pg_name (i := 8) scFolded.nd rfl (Or.inl rfl))
        (fun _ _ _ _ _ => pts_one (pt_val (pe_call gM hr (by rfl) mM kM bM .nil pass0 (pa_cons (pv 1) (pa_cons (pv 2) (pa_cons (pv 6) (pa_cons (pv 8) pa_nil))))))) (fun _ _ _ _ _ => pv 8))
      (C8.pss_cut (ps_if (PW.pt (pw_and (pt_cmpR (op_neD hu) (pv 7) (pe_lst pa_nil) (nomark _)) (pw_and1 (pt_cmpR op_gt (pe_call gT hr (by rfl) mT kT bT .nil pass0 (pa_cons (pv 0) (pa_cons pe_int pa_nil))) pe_int (nomark _)))))
          (pss_cons (ps_set (i := 8) scFolded.nd rfl (Or.inl rfl) (pe_ix ix_list (pe_lst (pa_cons (pe_ix ix_list (pv 7) (pe_un un_neg pe_int) (fun _ _ => rfl)) (pa_cons (pe_call gP hr (by rfl) mP kP bP .nil pass0 (pa_cons (pv 0) (pa_cons (pv 7) pa_nil))) pa_nil)))
            (pe_call gT hr (by rfl) mT kT bT .nil pass0 (pa_cons (pv 0) (pa_cons pe_int pa_nil))) (fun _ _ => rfl)))
          (pss_cons (ps_expr (pe_bm PySem.F.plainAttrs_list PySem.F.slot_list_append PySem.F.type_list_append mt_append (pv 5) (pa_cons (pe_tup (pa_cons (pv 6) (pa_cons (pv 8) pa_nil))) pa_nil)))
          (pss_cons (ps_expr (pe_bm PySem.F.plainAttrs_list PySem.F.slot_list_extend PySem.F.type_list_extend mt_extend (pv 5) (pa_cons (pe_call gF hr (by rfl) mF kF bF .nil pass0 (pa_cons (pv 0) (pa_cons (pv 1) (pa_cons (pv 2) (pa_cons (pe_op op_add (pv 6) pe_int) (pa_cons (pe_op op_sub (pv 8) pe_int) pa_nil)))))) pa_nil)))
          (pss_one (ps_set (i := 6) scFolded.nd rfl (Or.inr rfl) (pv 8)))))) pss_nil)
      (pss_one (ps_set (i := 6) scFolded.nd rfl (Or.inr rfl) (pe_op op_add (pv 6) pe_int))))))
    (pss_one (ps_ret (pv 5))))), ?_⟩
  refine ⟨Nat.zero_le _, fun l nl => ?_⟩
  have s1' := same_new (HO.lst []) nl
  refine ⟨_, rfl, ?_⟩
  have hnl : H l = none := nl
  have npl := hp.ne hnl
  refine while_by (fun σ H1 => ∃ (pl : Nat) (t : K14.F) (xs : List V) (y7 y8 : Option V), σ = [some (.ref p), some v, some (.str z), some (.int lo), some (.int ((hi : Int) - 1)), some (.ref l), some (.int pl), y7, y8] ∧ lo ≤ pl ∧ pl ≤ hi ∧ But [p] H H1 ∧ PenAt H1 p cl ns (n + 3 * (pl - lo)) ∧ H1 l = some (.lst xs) ∧ WF lo pl t ∧
      (∀ q ∈ flat t, mayB c z q.1 q.2 = true) ∧ DtAll K H1 xs ((flat t).map encP))
    (fun σ _ => match σ with | [_, _, _, _, _, _, some (.int i), _, _] => ((hi : Int) - i).toNat | _ => 0) ?_ ?_ ?_
  · exact ⟨lo, .nil, [], none, none, rfl, Nat.le_refl _, h1, But.same s1', (hp.same s1').mono (Nat.le_add_right _ _), upd_same, Nat.le_refl _, fun q hq => (by cases hq), .nil⟩
  · rintro σ H1 ⟨pl, t, xs, y7, y8, rfl, hl1, hl2, b1, hp1, hl, hw, hm, hd⟩
    have hc1 := hc.keep (hp.tk b1)
    refine ⟨_, rfl, _, rfl, _, _, rfl, rfl, _, rfl, ?_⟩
    refine ite2 (fun c0 => ?_) (fun c0 => ?_)
    · have hlt : pl < hi := by
        have := of_decide_eq_true c0
        omega
      have e1 : [V.int ((pl : Int) + 1), V.int ((hi : Int) - 1 + 1)] = [V.int ((pl + 1 : Nat) : Int), V.int (hi : Int)] := by
        rw [Int.sub_add_cancel]
        rfl
      refine ⟨_, rfl, _, _, rfl, rfl, _, rfl, _, _, rfl, rfl, ((pl + 1 : Nat) : Int), (hi : Int), e1, ⟨by omega, by omega, by omega, by omega⟩, fun D nD => ?_⟩
      rw [show ((hi : Int) - ((pl + 1 : Nat) : Int)).toNat = hi - (pl + 1) by omega]
      refine lc_range (lo := ((pl + 1 : Nat) : Int)) (n := hi - (pl + 1)) (fun i H' => Same H1 H' ∧ ∃ js : List Nat, H' D = some (.lst (js.map fun (n : Nat) => V.int n)) ∧ js.length ≤ i ∧ ∀ j ∈ js, pl < j ∧ j < hi ∧ mayB c z pl j = true) ⟨same_new _ nD, [], upd_same, Nat.le_refl _, fun j hj => (by cases hj)⟩ ?_ ?_
      · rintro i H2 hi2 ⟨sm, js, hD, hjl, hjs⟩
        refine ⟨rfl, ?_⟩
        refine ⟨_, rfl, _, rfl, _, rfl, _, rfl, v, c, z, pl, pl + 1 + i, rfl, hc1.keep (TK.same sm), ck, by omega, by omega, hz, fun H3 sm3 => ⟨_, rfl, ?_⟩⟩
        have hD3 := sm3 _ _ hD
        refine ite2 (fun e => ?_) (fun e => ?_)
        · refine ⟨_, rfl, _, hD3, ?_, same_fresh _ (sm.trans sm3) nD, js ++ [pl + 1 + i], ?_, ?_, ?_⟩
          · rw [List.length_map]
            exact szl (by omega)
          · rw [upd_same, List.map_append]
            rfl
          · rw [List.length_append]
            exact Nat.succ_le_succ hjl
          · intro j hj
            rcases List.mem_append.mp hj with hj | hj
            · exact hjs j hj
            · rw [List.mem_singleton.mp hj]
              exact ⟨by omega, by omega, e⟩
        · exact ⟨sm.trans sm3, js, hD3, Nat.le_succ_of_le hjl, hjs⟩
      rintro H2 ⟨sm, js, hD, hjl, hjs⟩
      have b2 := b1.trans (But.same sm)
      have hp2 := hp1.same sm
      have hl' := sm _ _ hl
      have hd2 := hd.keep (TK.same sm)
      have hc2 := hc1.keep (TK.same sm)
      clear hp1 b1 hl hd hc1 sm nD
      have hxl : xs.length ≤ 6 := by
        have e := hd2.length
        rw [List.length_map] at e
        have := flat_len hw
        omega
      refine ⟨fun σ' H' => ∃ (pl' : Nat) (t' : K14.F) (xs' : List V) (y7 y8 : Option V), σ' = [some (.ref p), some v, some (.str z), some (.int lo), some (.int ((hi : Int) - 1)), some (.ref l), some (.int pl'), y7, y8] ∧ pl ≤ pl' ∧ pl' < hi ∧ But [p] H H' ∧ PenAt H' p cl ns (n + 3 * (pl' + 1 - lo)) ∧ H' l = some (.lst xs') ∧ WF lo (pl' + 1) t' ∧
        (∀ q ∈ flat t', mayB c z q.1 q.2 = true) ∧ DtAll K H' xs' ((flat t').map encP), ?_, ?_⟩
      · refine ⟨_, rfl, Nat.zero_le _, fun e ne => ?_⟩
        have s3 := same_new (HO.lst []) ne
        have hD3 := s3 _ _ hD
        have hl3 := s3 _ _ hl'
        have hd3 := hd2.keep (TK.same s3)
        have hp3 := hp2.same s3
        have b3 := b2.trans (But.same s3)
        refine ⟨.list (js.map fun (n : Nat) => PyData.int n), .list [], .lst (SqL.of hD3) (ints_dp _), .lst (SqL.of upd_same) .nil, shaped_ints _, rfl, _, rfl, ?_⟩
        rw [eqv_nil]
        by_cases ejs : js = []
        · subst ejs
          exact iteF (iteF ⟨pl, t, xs, _, _, rfl, Nat.le_refl _, hlt, b3, hp3.mono (by omega), hl3, wf_high hw (Nat.le_succ _), hm, hd3⟩)
        · have hj0 : 0 < (js.map fun (n : Nat) => V.int n).length := by
            rw [List.length_map]
            exact List.length_pos_iff.mpr ejs
          have e5 : (!(js.map fun (n : Nat) => PyData.int n).isEmpty) = true := by
            cases js with
            | nil => exact absurd rfl ejs
            | cons j0 jr => rfl
          rw [e5]
          refine iteT ?_
          refine ⟨_, rfl, p, cl, ns, _, 4, rfl, hp3, by omega, hns, by decide, by decide, fun H4 r4 r40 r41 b4 hp4 => ?_⟩
          have hD4 := hp3.lst b4 hD3
          have hl4 := hp3.lst b4 hl3
          have hd4 := hd3.keep (hp3.tk b4)
          refine ⟨_, _, rfl, rfl, _, rfl, ?_⟩
          refine ite2 (fun _ => ?_) (fun _ => ⟨pl, t, xs, _, _, rfl, Nat.le_refl _, hlt, b3.trans b4, hp4.mono (by omega), hl4, wf_high hw (Nat.le_succ _), hm, hd4⟩)
          -- a pair
          obtain ⟨x1, hx1, ha1⟩ := atI_end hj0
          refine ⟨_, rfl, 1, rfl, D, _, -1, x1, rfl, rfl, SqL.of hD4, ha1, ?_⟩
          refine ⟨_, rfl, _, rfl, p, cl, ns, _, .ref D, _, rfl, hp4, by omega, hns, .inl ⟨D, rfl, SqL.of hD4⟩, hj0, by rw [List.length_map]; omega, fun H5 x2 hx2 b5 hp5 => ?_⟩
          refine ⟨(by show 2 ≤ sizeLine; decide), fun e5 ne5 => ?_⟩
          have s6 := same_new (HO.lst [x1, x2]) ne5
          refine ⟨_, rfl, p, cl, ns, _, 2, rfl, hp5.same s6, by omega, hns, by decide, by decide, fun H7 r7 r70 r71 b7 hp7 => ?_⟩
          obtain ⟨x, hx, hat⟩ := at_toNat (xs := [x1, x2]) r70 r71
          have hxj : ∃ j : Nat, x = .int j ∧ pl < j ∧ j < hi ∧ mayB c z pl j = true := by
            have : x ∈ js.map fun (n : Nat) => V.int n := by
              simp only [List.mem_cons, List.not_mem_nil, or_false] at hx
              rcases hx with rfl | rfl
              · exact hx1
              · exact hx2
            obtain ⟨j, hj, rfl⟩ := List.mem_map.mp this
            exact ⟨j, rfl, hjs j hj⟩
          obtain ⟨j, rfl, hj1, hj2, hj3⟩ := hxj
          have he7 := (hp5.same s6).lst b7 upd_same
          refine ⟨e5, _, r7, _, rfl, rfl, SqL.of he7, hat, ?_⟩
          have b47 : But [p] H4 H7 := (b5.trans (But.same s6)).trans b7
          have hl7 := hp4.lst b47 hl4
          have hd7 := hd4.keep (hp4.tk b47)
          refine ⟨_, rfl, .inl ⟨rfl, _, SqL.of hl7⟩, _, rfl, _, rfl, (by show 2 ≤ sizeLine; decide), fun u nu => ?_⟩
          have s8 := same_new (HO.tup [V.int pl, V.int j]) nu
          have hl8 := s8 _ _ hl7
          refine ⟨l, xs, _, rfl, rfl, hl8, szl (by omega), ?_⟩
          have k9 := TK.lst (HO.lst (xs ++ [V.ref u])) hl8
          have hd9 : DtAll K (upd (upd H7 u (.tup [.int pl, .int j])) l (.lst (xs ++ [.ref u]))) (xs ++ [.ref u]) ((flat t).map encP ++ [encP (pl, j)]) := ((hd7.keep (TK.same s8)).keep k9).append (.one (Dt.of_pair (p := (pl, j)) (k9.sq (SqT.of upd_same))))
          have hl9 : (upd (upd H7 u (.tup [.int pl, .int j])) l (.lst (xs ++ [.ref u]))) l = some (.lst (xs ++ [.ref u])) := upd_same
          have hp9 : PenAt (upd (upd H7 u (.tup [.int pl, .int j])) l (.lst (xs ++ [.ref u]))) p cl ns (n + 3 * (pl + 1 - lo)) := ((hp7.same s8).upd npl).mono (by omega)
          have b9 : But [p] H (upd (upd H7 u (.tup [.int pl, .int j])) l (.lst (xs ++ [.ref u]))) := But.fresh _ (((b3.trans b4).trans b47).trans (But.same s8)) hnl
          generalize upd (upd H7 u (.tup [.int pl, .int j])) l (.lst (xs ++ [.ref u])) = H9 at hd9 hl9 hp9 b9 ⊢
          refine ⟨_, rfl, .inl ⟨rfl, _, SqL.of hl9⟩, _, rfl, _, rfl, _, rfl, _, rfl, _, _, rfl, rfl, _, rfl, _, _, rfl, rfl, p, cl, ns, _, v, c, z, pl + 1, j, rfl, hp9, by omega, hns, hc.keep (hp.tk b9), ck, hz, by omega, by omega, by omega, fun H10 l2 xs2 t2 b10 hp10 nl2 hl2' hw2 hm2 hd10 => ?_⟩
          have hl10 := hp9.lst b10 hl9
          have hd9' := hd9.keep (hp9.tk b10)
          have hx2l : xs2.length ≤ 6 := by
            have e := hd10.length
            rw [List.length_map] at e
            have := flat_len hw2
            omega
          refine ⟨l, l2, _, _, rfl, rfl, hl10, hl2', sz (by rw [List.length_append]; show xs.length + 1 + xs2.length ≤ _; omega), ?_⟩
          refine ⟨_, rfl, ?_⟩
          have k11 := TK.lst (HO.lst (xs ++ [V.ref u] ++ xs2)) hl10
          refine ⟨j, snoc t pl j t2, _, _, _, rfl, by omega, hj2, But.fresh _ (b9.trans b10) hnl, ((hp10.upd npl).mono (by omega)), upd_same, wf_snoc hw (Nat.le_refl _) hj1 (Nat.lt_succ_self _) hw2, ?_, ?_⟩
          · intro q hq
            rw [flat_snoc] at hq
            rcases List.mem_append.mp hq with hq | hq
            · exact hm q hq
            · rcases List.mem_cons.mp hq with rfl | hq
              · exact hj3
              · exact hm2 q hq
          · rw [flat_snoc, List.map_append, List.map_cons]
            have e : (flat t).map encP ++ encP (pl, j) :: (flat t2).map encP = ((flat t).map encP ++ [encP (pl, j)]) ++ (flat t2).map encP := by simp
            rw [e]
            exact (hd9'.keep k11).append (hd10.keep k11)
      · rintro σ' H' ⟨pl', t', xs', y7, y8, rfl, q1, q2, b', hp', hl', hw', hm', hd'⟩
        refine ⟨_, rfl, _, _, rfl, rfl, ?_⟩
        refine ⟨⟨pl' + 1, t', xs', _, _, rfl, by omega, by omega, b', hp', hl', hw', hm', hd'⟩, ?_⟩
        show ((hi : Int) - ((pl' : Int) + 1)).toNat < ((hi : Int) - (pl : Int)).toNat
        omega
    · have hge : pl = hi := by
        have := of_decide_eq_false (Bool.eq_false_iff.mpr c0)
        omega
      subst hge
      exact ⟨_, rfl, g H1 l xs t b1 hp1 hnl hl hw hm hd⟩
  · rintro σ H8 Q1 Q2 hq ⟨v1, e1, v2, e2, i, j, e3, e4, b, e5, e6⟩
    exact ⟨v1, e1, v2, e2, i, j, e3, e4, b, e5, hq _ _ e6⟩
/-- nothing can be asked with no calls -/
theorem folded_none : FnOk P w K mg base CX0 k f fd pFolded (spFolded K 0) := by
  have no : ∀ vs H Q E, ¬ spFolded K 0 vs H Q E := fun vs H Q E h => by
    obtain ⟨p, cl, ns, n, v, c, z, lo, hi, _, _, _, _, _, _, _, h1, _, h3, _⟩ := h
    omega
  exact ⟨fun vs H Q E h => absurd h (no vs H Q E), fun A outer s H args us vs Q E _ _ _ _ h => absurd h (no vs H Q E)⟩
theorem Has.up {x : Str} {ps : List Str} {sp : Sp} {j : Nat} (h : Has P w K mg base x ps j sp) (hj : j ≤ k) : Has P w K mg base x ps k sp := by
  obtain ⟨f, fd, h1, h2⟩ := h
  exact ⟨f, fd, h1.mono hj, h2⟩
theorem ok_foldeds (F : Fun K "_law_folded" "_law_folded" sFolded f fd) (T : Blt mg) (GT : Has P w K mg base "_law_take" ["_law_pen_here", "_law_size"] k spTake) (GP : Has P w K mg base "_law_pick" ["_law_pen_here", "_law_some"] k (spPick K))
    (GM : Has P w K mg base "_law_may" ["_law_code_here", "_law_word_here", "_law_i", "_law_j"] k (spMayL K)) (mF : mg "_law_folded" = some (.ref f)) (kF : PySem.W.keepIn K (.ref f) = true) (bF : Binds K fd pFolded []) : ∀ d : Nat, FnOk P w K mg base CX0 (k + d) f fd pFolded (spFolded K d)
  | 0 => folded_none
  | d + 1 => ok_folded F T (GT.up (Nat.le_add_right _ _)) (GP.up (Nat.le_add_right _ _)) (GM.up (Nat.le_add_right _ _)) (ok_foldeds F T GT GP GM mF kF bF d) mF kF bF
end
end K14
/-! _law_right. -/
namespace K14
open PySem L2

abbrev sRight : Stmt := top 34
abbrev pRight : List Str := ["_law_code_here", "_law_word_here", "_law_folds"]
abbrev nRight : List Str := ["_law_code_here", "_law_word_here", "_law_folds", "_law_signs", "_law_out", "_law_inner", "_law_loops", "_law_open_free", "_law_row", "_law_kids", "_law_size", "_law_much", "_law_one", "_law_i", "_law_j"]

theorem eqv_self {d : PyData} (h : SeqAt.shaped d = true) : PyData.eqv d d = true := by
  unfold SeqAt.shaped at h
  rw [Bool.and_eq_true] at h
  exact SeqAt.eqv_refl d h.1
theorem flat_dt {K : PySem.W.Frag} {H : Hp} : ∀ {xss : List (List V)} {ls : List (List (Nat × Nat))}, Paired (fun xs l => DtAll K H xs (l.map encP)) xss ls → DtAll K H xss.flatten (ls.flatten.map encP)
  | _, _, .nil => .nil
  | _, _, .cons h t => by
    rw [List.flatten_cons, List.flatten_cons, List.map_append]
    exact h.append (flat_dt t)
theorem paired_get {α β : Type} {R : α → β → Prop} : ∀ {xs : List α} {ys : List β} {i : Nat} {x : α}, Paired R xs ys → xs[i]? = some x → ∃ y, ys[i]? = some y ∧ R x y
  | _, _, _, _, .nil, e => by simp at e
  | _, _, 0, _, .cons h _, e => by
    cases (Option.some.inj e)
    exact ⟨_, rfl, h⟩
  | _, _, i + 1, _, .cons _ t, e => by
    obtain ⟨y, h1, h2⟩ := paired_get (i := i) t (by simpa using e)
    exact ⟨y, by simpa using h1, h2⟩
/-- the law's own table of how many pairs a kind of loop has within -/
def sizeKv (q1 q2 q3 q4 : Addr) : List (Key × V) := [(Sum.inr "lone", .ref q1), (Sum.inr "stacked", .ref q2), (Sum.inr "inner", .ref q3), (Sum.inr "forked", .ref q4)]
theorem size_get {H : Hp} {d q1 q2 q3 q4 : Addr} (e : H d = some (.dK (mergeK [] (sizeKv q1 q2 q3 q4)))) {x : Str} {q : Addr} (h : ((Sum.inr x : Key), V.ref q) ∈ sizeKv q1 q2 q3 q4) : DGet H d (.str x) (some (.ref q)) := by
  rw [← valV_merge_in (sizeKv q1 q2 q3 q4) [] (Sum.inr x) (.ref q) (by show ([Sum.inr "lone", Sum.inr "stacked", Sum.inr "inner", Sum.inr "forked"] : List Key).Nodup; decide +kernel) h]
  exact DGet.k (k := Sum.inr x) e
theorem kind_size {q1 q2 q3 q4 : Addr} {m : Nat} (fr : Int) (hm : m ≤ 6) : ∃ (q : Addr) (ws : List V), ((Sum.inr (kindS m fr) : Key), V.ref q) ∈ sizeKv q1 q2 q3 q4 ∧ (q = q1 ∧ ws = [.int 0] ∨ q = q2 ∧ ws = [.int 1] ∨ q = q3 ∧ ws = [.int 1] ∨ q = q4 ∧ ws = [.int 2, .int 3, .int 4, .int 5, .int 6]) ∧ ws.all flatV = true ∧ inV (.int (m : Int)) ws = true := by
  unfold kindS sizeKv
  by_cases h0 : m = 0
  · subst h0
    exact ⟨q1, [.int 0], by simp, .inl ⟨rfl, rfl⟩, rfl, rfl⟩
  rw [if_neg h0]
  by_cases h1 : 1 < m
  · rw [if_pos h1]
    refine ⟨q4, [.int 2, .int 3, .int 4, .int 5, .int 6], by simp, .inr (.inr (.inr ⟨rfl, rfl⟩)), rfl, ?_⟩
    have hmm : m = 2 ∨ m = 3 ∨ m = 4 ∨ m = 5 ∨ m = 6 := by omega
    rcases hmm with rfl | rfl | rfl | rfl | rfl <;> rfl
  rw [if_neg h1]
  have hm1 : m = 1 := by omega
  subst hm1
  by_cases h2 : fr = 0
  · rw [if_pos h2]
    exact ⟨q2, [.int 1], by simp, .inr (.inl ⟨rfl, rfl⟩), rfl, rfl⟩
  · rw [if_neg h2]
    exact ⟨q3, [.int 1], by simp, .inr (.inr (.inl ⟨rfl, rfl⟩)), rfl, rfl⟩
theorem kind_one (fr : Int) : V.bl (decide (V.int fr = V.int 0)) = V.bl (decide (V.str (kindS 1 fr) = V.str "stacked")) := by
  unfold kindS
  rw [if_neg (by decide), if_neg (by decide)]
  by_cases h : fr = 0
  · rw [if_pos h, h]
    rfl
  · rw [if_neg h, decide_eq_false (fun e => h (V.int.inj e)), decide_eq_false (by decide +kernel)]
section
variable {P : Program} {w : World} {K : PySem.W.Frag} {mg : Str → Option Value} {base : Heap} {k : Nat} {f : Addr} {fd : FuncData}
def spRight (K : PySem.W.Frag) : Sp := fun vs H Q _ => ∃ (v fv : V) (c : Code) (z : Str) (t : K14.F), vs = [v, .str z, fv] ∧ CodeAt K H v c ∧ CodeOk c ∧ WordOk z ∧ Dt K H fv (.tuple ((flat t).map encP)) ∧ WF 0 z.length t ∧ (∀ q ∈ flat t, mayB c z q.1 q.2 = true) ∧
  ∀ H', Same H H' → Q (.bl true) H'
theorem scRight : FnScope nRight pRight (defScope sRight) := ⟨rfl, rfl, rfl, by decide +kernel, rfl, by decide +kernel, by decide +kernel⟩
theorem ok_right (F : Fun K "_law_right" "_law_right" sRight f fd) (T : Blt mg) (GB : Has P w K mg base "brackets" ["string", "folding"] k (spBrackets K)) (GI : Has P w K mg base "pairs_in" ["text"] k (spPairsIn K)) (GF : Has P w K mg base "is_folding" ["rules", "string", "thing"] k (spIsFold K))
    (GS : Has P w K mg base "straight_within" ["folding", "pair"] k (spStraight K)) (GO : Has P w K mg base "loops_of" ["rules", "string", "folding"] k (spLoops K)) (GP : Has P w K mg base "pair_worth" ["rules", "both"] k (spPairW K)) (GW : Has P w K mg base "worth_of" ["rules", "string", "folding"] k (spWorth K)) :
    FnOk P w K mg base CX0 (k + 1) f fd pRight (spRight K) := by
  refine F.ok scRight (fun vs H Q E h => ?_) (fun cdv A outer s H vs Q E hr h => ?_)
  · obtain ⟨v, fv, c, z, t, rfl, _⟩ := h
    rfl
  obtain ⟨v, fv, c, z, t, rfl, hc, ck, wk, hfo, hw, hm, g⟩ := h
  have hu := hr.units
  have hu1 : (A.deeper (PyProof.Rows.envOfC "_law_right" (defScope sRight) s.heap.objs.size f cdv)).units + 1 < cLine := by omega
  obtain ⟨fB, fdB, gB, mB, kB, bB⟩ := GB
  obtain ⟨fI, fdI, gI, mI, kI, bI⟩ := GI
  obtain ⟨fF, fdF, gF, mF, kF, bF⟩ := GF
  obtain ⟨fS, fdS, gS, mS, kS, bS⟩ := GS
  obtain ⟨fO, fdO, gO, mO, kO, bO⟩ := GO
  obtain ⟨fP, fdP, gP, mP, kP, bP⟩ := GP
  obtain ⟨fW, fdW, gW, mW, kW, bW⟩ := GW
  refine ⟨_, pss_cons (ps_set (i := 3) scRight.nd rfl (Or.inl rfl) (pe_call gB hr (by rfl) mB kB bB .nil pass0 (pa_cons (pv 1) (pa_cons (pv 2) pa_nil))))
    (pss_cons (ps_if (PW.pt (pw_or (pt_cmpR (op_neD hu) (pe_call gI hr (by rfl) mI kI bI .nil pass0 (pa_cons (pv 3) pa_nil)) (pv 2) (nomark _))
        (pw_or (pt_cmpR op_ne (pe_callB call_len_str (by rfl) T.len PySem.boot_len (pa_cons (pv 3) pa_nil)) (pe_callB call_len_str (by rfl) T.len PySem.boot_len (pa_cons (pv 1) pa_nil)) (nomark _))
        (pw_or1 (pt_cmpR op_notBl (pe_call gF hr (by rfl) mF kF bF .nil pass0 (pa_cons (pv 0) (pa_cons (pv 1) (pa_cons (pe_call gI hr (by rfl) mI kI bI .nil pass0 (pa_cons (pv 3) pa_nil)) pa_nil)))) pe_bl (nomark _))))))
        (pss_one (ps_ret pe_bl)) pss_nil)
    (pss_cons (ps_set (i := 4) scRight.nd rfl (Or.inl rfl) (pe_call gS hr (by rfl) mS kS bS .nil pass0 (pa_cons (pv 2) (pa_cons pe_non pa_nil))))
    (pss_cons (ps_setLc (i := 5) (own := [("_law_one", 12)]) (g := gName 12) (tt := tYes) rfl scRight.nd rfl rfl (sw_true rfl rfl rfl (by decide +kernel)) (pi_tup (pv 2)) (blkOk_by (N := nRight) (sc := defScope sRight) (by decide +kernel))
        (fun _ _ _ _ _ => pg_name (i := 12) scRight.nd rfl (Or.inl rfl)) (fun _ _ _ _ _ => pts_nil) (fun _ _ _ _ _ => pe_call gS hr (by rfl) mS kS bS .nil pass0 (pa_cons (pv 2) (pa_cons (pv 12) pa_nil))))
    (pss_cons (ps_if (pt_cmpR (op_neD hu) (pe_callB (cr_sortG hu encP) (by rfl) T.sorted PyProof.Rows.boot_sorted (pa_cons (pe_op op_cat (pv 4) (pe_callB (cr_sumL rfl) (by rfl) T.sum PyProof.Rows.boot_sum (pa_cons (pv 5) (pa_cons (pe_lst pa_nil) pa_nil)))) pa_nil))
        (pe_callTy call_list_of (by rfl) T.list PyProof.Rows.boot_list (pa_cons (pv 2) pa_nil)) (nomark _)) (pss_one (ps_ret pe_bl)) pss_nil)
    (pss_cons (ps_set (i := 6) scRight.nd rfl (Or.inl rfl) (pe_call gO hr (by rfl) mO kO bO .nil pass0 (pa_cons (pv 0) (pa_cons (pv 1) (pa_cons (pv 2) pa_nil)))))
    (pss_cons (ps_set (i := 7) scRight.nd rfl (Or.inl rfl) (pe_op op_sub (pe_callB call_len_str (by rfl) T.len PySem.boot_len (pa_cons (pv 1) pa_nil)) (pe_callB (cr_sum rfl) (by rfl) T.sum PyProof.Rows.boot_sum (pa_cons
        (pe_lc (own := [("_law_i", 13), ("_law_j", 14)]) (g := gTup K 2 (gCons (gName 13) (gCons (gName 14) gNil))) (tt := tYes) rfl scRight.nd (pi_list (pv 4)) (blkOk_by (N := nRight) (sc := defScope sRight) (by decide +kernel))
          (fun _ _ _ _ _ => pg_tup rfl (pgs_cons (pg_name (i := 13) scRight.nd rfl (Or.inl rfl)) (pgs_cons (pg_name (i := 14) scRight.nd rfl (Or.inl rfl)) pgs_nil))) (fun _ _ _ _ _ => pts_nil)
          (fun _ _ _ _ _ => pe_op op_add (pe_op op_sub (pv 14) (pv 13)) pe_int)) pa_nil))))
    (pss_cons (ps_if (pt_cmpR op_ne (pe_op op_add (pe_op op_add (pv 7) (pe_callB (cr_sum rfl) (by rfl) T.sum PyProof.Rows.boot_sum (pa_cons
        (pe_lc (own := [("_law_row", 8)]) (g := gName 8) (tt := tYes) rfl scRight.nd (pi_list (pv 6)) (blkOk_by (N := nRight) (sc := defScope sRight) (by decide +kernel)) (fun _ _ _ _ _ => pg_name (i := 8) scRight.nd rfl (Or.inl rfl)) (fun _ _ _ _ _ => pts_nil)
          (fun _ _ _ _ _ => pe_ix (ix_tupK (K := K) rfl) (pv 8) pe_int (fun _ _ => rfl))) pa_nil))) (pe_op op_mul pe_int (pe_callB call_len_seq (by rfl) T.len PySem.boot_len (pa_cons (pv 2) pa_nil))))
        (pe_callB call_len_str (by rfl) T.len PySem.boot_len (pa_cons (pv 1) pa_nil)) (nomark _)) (pss_one (ps_ret pe_bl)) pss_nil)
    (pss_cons (ps_for PassesOwn.never rfl (pi_zip (by rfl) T.zip (pa_cons (pv 6) (pa_cons (pv 5) pa_nil))) (pg_tup rfl (pgs_cons (pg_name (i := 8) scRight.nd rfl (Or.inl rfl)) (pgs_cons (pg_name (i := 9) scRight.nd rfl (Or.inl rfl)) pgs_nil)))
        (pss_cons (ps_set (i := 10) scRight.nd rfl (Or.inl rfl) (pe_dget hu1 (pe_disp (pps_cons pe_str (pe_lst (pa_cons pe_int pa_nil)) (pps_cons pe_str (pe_lst (pa_cons pe_int pa_nil)) (pps_cons pe_str (pe_lst (pa_cons pe_int pa_nil))
          (pps_cons pe_str (pe_lst (pa_cons pe_int (pa_cons pe_int (pa_cons pe_int (pa_cons pe_int (pa_cons pe_int pa_nil)))))) pps_nil)))) (by rfl) (by rfl) (fun z => by cases z) (by decide)) (pe_ix ix_tup (pv 8) pe_int (fun _ _ => rfl)) (fun _ _ => rfl)))
        (pss_one (ps_if (PW.pt (pw_or (pt_cmpR op_notIn_seq (pe_callB call_len_seq (by rfl) T.len PySem.boot_len (pa_cons (pv 9) pa_nil)) (pv 10) (by rfl))
          (pw_or1 (PW.pt (pw_and (pt_cmpR op_eq (pe_callB call_len_seq (by rfl) T.len PySem.boot_len (pa_cons (pv 9) pa_nil)) pe_int (nomark _))
            (pw_and1 (pt_cmpR op_ne (pe_cmpR op_eq (pe_ix ix_tup (pv 8) pe_int (fun _ _ => rfl)) pe_int (nomark _)) (pe_cmpR op_eq (pe_ix ix_tup (pv 8) pe_int (fun _ _ => rfl)) pe_str (nomark _)) (nomark _)))))))) (pss_one (ps_ret pe_bl)) pss_nil))))
    (pss_cons (ps_set (i := 11) scRight.nd rfl (Or.inl rfl) (pe_op op_add (pe_callB (cr_sum rfl) (by rfl) T.sum PyProof.Rows.boot_sum (pa_cons
        (pe_lc (own := [("_law_i", 13), ("_law_j", 14)]) (g := gTup K 2 (gCons (gName 13) (gCons (gName 14) gNil))) (tt := tYes) rfl scRight.nd (pi_tup (pv 2)) (blkOk_by (N := nRight) (sc := defScope sRight) (by decide +kernel))
          (fun _ _ _ _ _ => pg_tup rfl (pgs_cons (pg_name (i := 13) scRight.nd rfl (Or.inl rfl)) (pgs_cons (pg_name (i := 14) scRight.nd rfl (Or.inl rfl)) pgs_nil))) (fun _ _ _ _ _ => pts_nil)
          (fun _ _ _ _ _ => pe_call gP hr (by rfl) mP kP bP .nil pass0 (pa_cons (pv 0) (pa_cons (pe_op op_add_str (pe_ix ix_str (pv 1) (pv 13) (fun _ _ => rfl)) (pe_ix ix_str (pv 1) (pv 14) (fun _ _ => rfl))) pa_nil)))) pa_nil))
        (pe_callB (cr_sum rfl) (by rfl) T.sum PyProof.Rows.boot_sum (pa_cons
          (pe_lc (own := [("_law_row", 8)]) (g := gName 8) (tt := tYes) rfl scRight.nd (pi_list (pv 6)) (blkOk_by (N := nRight) (sc := defScope sRight) (by decide +kernel)) (fun _ _ _ _ _ => pg_name (i := 8) scRight.nd rfl (Or.inl rfl)) (fun _ _ _ _ _ => pts_nil)
            (fun _ _ _ _ _ => pe_ix (ix_tupK (K := K) rfl) (pv 8) pe_int (fun _ _ => rfl))) pa_nil))))
    (pss_one (ps_ret (pe_cmpR op_eq (pe_call gW hr (by rfl) mW kW bW .nil pass0 (pa_cons (pv 0) (pa_cons (pv 1) (pa_cons (pv 2) pa_nil))))
      (pe_op op_add (pv 11) (pe_op op_mul (pe_ix ix_tup (pe_ix ix_tup (pv 0) pe_int (fun _ _ => rfl)) pe_int (fun _ _ => rfl)) (pe_callB call_len_seq (by rfl) T.len PySem.boot_len (pa_cons (pv 4) pa_nil)))) (nomark _))))))))))))), ?_⟩
  obtain ⟨fa, xs, rfl, ha, hx⟩ := hfo.tup_inv
  obtain ⟨a, tb, l, vr, ob, ts, rfl, h2, h3, h6, h7⟩ := id hc
  have hz := wk.le
  have hlen : xs.length = (flat t).length := by rw [hx.length, List.length_map]
  have hfl : 2 * (flat t).length ≤ z.length := flat_len hw
  have hpl : ∀ p ∈ flat t, p.1 < p.2 ∧ p.2 < z.length := fun p hp => (WF.mem hw p hp).2
  have S3 : Set3 K H (.ref a) c z (.ref fa) (flat t) := ⟨hc, ck, wk, hfo, hpl, by omega⟩
  have hlS : (Str.mk (codes 0 z.length t).toArray).length = z.length := by
    show (codes 0 z.length t).toArray.size = _
    rw [List.size_toArray, codes_len hw]
    rfl
  have hol := sw_len none (-1) (flat t)
  -- brackets
  refine ⟨_, rfl, _, rfl, z, .ref fa, flat t, rfl, hfo, hz, fun p hp => ⟨by have := hpl p hp; omega, (hpl p hp).2⟩, fun H1 sm1 => ?_⟩
  rw [marked hw]
  -- read back
  refine ⟨_, rfl, z.length, t, rfl, hw, hz, fun H2 v2 sm2 hd2 => ?_⟩
  have sm12 := sm1.trans sm2
  refine ⟨_, rfl, .tuple ((flat t).map encP), .tuple ((flat t).map encP), hd2.dp, (hfo.keep (TK.same sm12)).dp, shaped_tuple _, shaped_tuple _, _, rfl, ?_⟩
  rw [eqv_self (shaped_tuple _)]
  refine iteF ?_
  refine ⟨_, rfl, _, rfl, sz (by rw [hlS]; omega), _, rfl, z, rfl, sz (by omega), rfl, _, rfl, ?_⟩
  refine iteNS (congrArg (fun n : Nat => V.int n) hlS) ?_
  refine ⟨_, rfl, _, rfl, _, rfl, z.length, t, rfl, hw, hz, fun H3 v3 sm3 hd3 => ?_⟩
  have sm13 := sm12.trans sm3
  refine ⟨_, v3, c, z, flat t, rfl, hc.keep (TK.same sm13), hd3, ⟨fun p hp => ⟨(hpl p hp).1, (hpl p hp).2, hm p hp⟩, flat_apart hw, by omega⟩, hz, fun H4 sm4 => ?_⟩
  refine ⟨true, true, rfl, rfl, _, rfl, iteNS rfl ?_⟩
  have sm14 := sm13.trans sm4
  clear sm1 sm2 sm3 sm4 sm12 sm13 hd2 hd3
  -- out
  refine ⟨_, rfl, .ref fa, .non, flat t, -1, none, rfl, hfo.keep (TK.same sm14), .inl ⟨rfl, rfl, rfl⟩, by omega, fun H5 lo os sm5 nlo hlo hos => ?_⟩
  have sm15 := sm14.trans sm5
  have hol2 : os.length = (sw none (-1) (flat t)).length := by rw [hos.length, List.length_map]
  -- inner
  refine ⟨_, rfl, fa, rfl, ⟨_, (TK.same sm15).sq ha⟩, fun D nD => ?_⟩
  refine lc_tup (K := K) (a := fa) (xs := xs) (fun i H' => Same H5 H' ∧ ∃ (bs : List Addr) (xss : List (List V)), H' D = some (.lst (bs.map V.ref)) ∧ Paired (fun p xs => p ≠ D ∧ H' p = some (.lst xs)) bs xss ∧ Paired (fun xs l => DtAll K H' xs (l.map encP)) xss (((flat t).take i).map (inner (flat t))) ∧ bs.length = i) ⟨same_new _ nD, [], [], upd_same, .nil, .nil, rfl⟩
    (fun i H' _ h => (TK.same (sm15.trans h.1)).sq ha) ?_ ?_
  · rintro i x H' hxi ⟨sm, bs, xss, hD, hbs, hxs, hbl⟩
    obtain ⟨q, u, hq, rfl, hu'⟩ := pairs_at hx hxi
    have hlt : i < (flat t).length := (List.getElem?_eq_some_iff.mp hq).1
    have sm' := sm15.trans sm
    refine ⟨rfl, ?_⟩
    refine ⟨_, rfl, _, rfl, .ref fa, .ref u, flat t, (q.1 : Int), some (q.2 : Int), rfl, hfo.keep (TK.same sm'), .inr ⟨q, Dt.of_pair ((TK.same sm').sq hu'), rfl, rfl⟩, by omega, fun H7 nl ys sm7 nnl hnl hys => ?_⟩
    have hD7 := sm7 _ _ hD
    have hne : nl ≠ D := fun e => by
      rw [e, hD] at nnl
      cases nnl
    have kD := TK.lst (HO.lst (bs.map V.ref ++ [V.ref nl])) hD7
    refine ⟨_, hD7, ?_, same_fresh _ (sm.trans sm7) nD, bs ++ [nl], xss ++ [ys], ?_, ?_, ?_, ?_⟩
    · rw [List.length_map, hbl]
      exact szl (by omega)
    · rw [upd_same, List.map_append]
      rfl
    · refine paired_snoc (L2.Paired.mapP hbs fun b y h => ⟨h.1, ?_⟩) ⟨hne, ?_⟩
      · rw [upd_ne h.1]
        exact sm7 _ _ h.2
      · rw [upd_ne hne]
        exact hnl
    · rw [take_next hq, List.map_append]
      exact paired_snoc (L2.Paired.mapP hxs fun y l h => h.keep ((TK.same sm7).trans kD)) (hys.keep kD)
    · rw [List.length_append, hbl]
      rfl
  rintro H6 ⟨sm6, bs, xss, hD, hbs, hxs, hbl⟩
  rw [hlen, List.take_length] at hxs
  have sm16 := sm15.trans sm6
  have hlo6 := sm6 _ _ hlo
  have hos6 := hos.keep (TK.same sm6)
  have pm := perm_all hw
  have hfd := flat_dt hxs
  have hll : xss.flatten.length = ((flat t).map (inner (flat t))).flatten.length := by rw [hfd.length, List.length_map]
  have hpl2 : (sw none (-1) (flat t)).length + ((flat t).map (inner (flat t))).flatten.length = (flat t).length := by
    rw [← List.length_append]
    exact pm.length_eq
  -- sorted
  refine ⟨_, rfl, _, rfl, Nat.zero_le _, fun e ne => ?_⟩
  have s7 := same_new (HO.lst []) ne
  refine ⟨D, e, bs, xss, rfl, SqL.of (s7 _ _ hD), L2.Paired.mapP hbs (fun b y h => s7 _ _ h.2), upd_same, by omega, fun sl H8 sm8' hsl => ?_⟩
  have sm68 : Same H6 H8 := s7.trans fun b o e => sm8' b o e
  refine ⟨lo, sl, os, _, rfl, rfl, sm68 _ _ hlo6, hsl, sz (by omega), fun cl ncl => ?_⟩
  have s9 := sm68.trans (same_new (HO.lst (os ++ xss.flatten)) ncl)
  have hd9 : DtAll K (upd H8 cl (.lst (os ++ xss.flatten))) (os ++ xss.flatten) ((sw none (-1) (flat t) ++ ((flat t).map (inner (flat t))).flatten).map encP) := by
    rw [List.map_append]
    exact (hos6.append hfd).keep (TK.same s9)
  have hcl9 : (upd H8 cl (.lst (os ++ xss.flatten))) cl = some (.lst (os ++ xss.flatten)) := upd_same
  generalize upd H8 cl (.lst (os ++ xss.flatten)) = H9 at s9 hd9 hcl9 ⊢
  obtain ⟨z1, z2, z3⟩ := zip_pairs hd9
  generalize (os ++ xss.flatten).zip (sw none (-1) (flat t) ++ ((flat t).map (inner (flat t))).flatten) = zl at z1 z2 z3
  refine ⟨cl, zl, rfl, by rw [z1]; exact SqL.of hcl9, fun b hb => (z3 b hb).dp, alike_pairs _ _, sortable_pairs _ _, fun b _ => depth_pair _, fun p np => ?_⟩
  have es := sort_flat (bs := zl) hw (by rw [z2]; exact pm)
  have hsd : DtAll K H9 ((zl.mergeSort (PySem.W.dataLe false fun b => encP b.2)).map (·.1)) ((flat t).map encP) := by
    rw [← es]
    exact dt_zip fun b hb => z3 b ((List.mergeSort_perm _ _).subset hb)
  generalize (zl.mergeSort (PySem.W.dataLe false fun b => encP b.2)).map (·.1) = ss at hsd np ⊢
  have s10 := s9.trans (same_new (HO.lst ss) np)
  have k10 := TK.same (same_new (HO.lst ss) np)
  have sm110 := sm16.trans s10
  refine ⟨_, rfl, fa, xs, rfl, .inr ((TK.same sm110).sq ha), fun ll nll => ?_⟩
  have s11' := same_new (HO.lst xs) nll
  have s11 := s10.trans s11'
  refine ⟨.list ((flat t).map encP), .list ((flat t).map encP), .lst (SqL.of (s11' _ _ upd_same)) ((hsd.keep k10).keep (TK.same s11')).dp, .lst (SqL.of upd_same) (hx.keep (TK.same (sm110.trans s11'))).dp, shaped_list _, shaped_list _, _, rfl, ?_⟩
  rw [eqv_self (shaped_list _)]
  refine iteF ?_
  generalize upd (upd H9 p (.lst ss)) ll (.lst xs) = H11 at s11 ⊢
  have sm111 := sm16.trans s11
  have hlo11 := s11 _ _ hlo6
  have hos11 := hos6.keep (TK.same s11)
  have hD11 := s11 _ _ hD
  have hbs11 : Paired (fun p xs => H11 p = some (.lst xs)) bs xss := L2.Paired.mapP hbs fun b y h => s11 _ _ h.2
  clear hsd s10 k10 sm110 s11' hos6 hlo6 hD hbs hd9 hcl9 s9 sm68 sm8' s7 z1 z2 z3 hfd hsl np
  -- loops
  refine ⟨_, rfl, _, rfl, _, rfl, .ref a, .ref fa, c, z, flat t, rfl, S3.keep (TK.same sm111), fun H12 lp rows sm12 nlp hlp hrows => ?_⟩
  have sm112 := sm111.trans sm12
  have hlo12 := sm12 _ _ hlo11
  have hos12 := hos11.keep (TK.same sm12)
  have hrl : rows.length = (flat t).length := hrows.length
  -- open_free
  refine ⟨_, rfl, z, rfl, sz (by omega), _, rfl, lo, rfl, ⟨_, SqL.of hlo12⟩, fun D2 nD2 => ?_⟩
  refine lc_list (K := K) (a := lo) (xs := os) (fun i H' => Same H12 H' ∧ H' D2 = some (.lst ((((sw none (-1) (flat t)).take i).map width).map V.int))) ⟨same_new _ nD2, upd_same⟩ (fun i H' _ h => h.1.seq (SqL.of hlo12)) ?_ ?_
  · rintro i x H' hxi ⟨sm, hD'⟩
    obtain ⟨q, u, hq, rfl, hu'⟩ := pairs_at hos12 hxi
    have hlt : i < (sw none (-1) (flat t)).length := (List.getElem?_eq_some_iff.mp hq).1
    refine ⟨u, _, rfl, (TK.same sm).sq hu', rfl, _, _, rfl, _, _, rfl, rfl, rfl, ?_⟩
    refine ⟨_, rfl, _, rfl, _, _, rfl, rfl, _, _, rfl, rfl, _, hD', ?_, same_fresh _ sm nD2, ?_⟩
    · rw [List.length_map, List.length_map, List.length_take]
      exact szl (by omega)
    · rw [upd_same, take_next hq, List.map_append, List.map_append]
      rfl
  rintro H13 ⟨sm13, hD2⟩
  rw [hol2, List.take_length] at hD2
  refine ⟨D2, _, rfl, SqL.of hD2, _, _, rfl, rfl, ?_⟩
  have sm113 := sm112.trans sm13
  -- places
  refine ⟨_, rfl, _, rfl, lp, rfl, ⟨_, SqL.of (sm13 _ _ hlp)⟩, fun D3 nD3 => ?_⟩
  refine lc_list (K := K) (a := lp) (xs := rows) (fun i H' => Same H13 H' ∧ H' D3 = some (.lst ((((flat t).take i).map fun p => freeIn p (inner (flat t) p)).map V.int))) ⟨same_new _ nD3, upd_same⟩ (fun i H' _ h => (sm13.trans h.1).seq (SqL.of hlp)) ?_ ?_
  · rintro i x H' hxi ⟨sm, hD'⟩
    obtain ⟨q, u, hq, rfl, hu'⟩ := hrows.at hxi
    have hlt : i < (flat t).length := (List.getElem?_eq_some_iff.mp hq).1
    refine ⟨rfl, ?_⟩
    refine ⟨_, rfl, u, _, 3, _, rfl, rfl, (TK.same (sm13.trans sm)).sq hu', atI_nat (j := 3) rfl, _, hD', ?_, same_fresh _ sm nD3, ?_⟩
    · rw [List.length_map, List.length_map, List.length_take]
      exact szl (by omega)
    · rw [upd_same, take_next hq, List.map_append, List.map_append]
      rfl
  rintro H14 ⟨sm14', hD3⟩
  rw [hrl, List.take_length] at hD3
  have sm114 := sm113.trans sm14'
  refine ⟨D3, _, rfl, SqL.of hD3, _, _, rfl, rfl, ?_⟩
  refine ⟨_, rfl, fa, xs, rfl, .inr ((TK.same sm114).sq ha), _, _, rfl, rfl, .inl ⟨by decide, by decide⟩, _, _, rfl, rfl, ?_⟩
  refine ⟨_, rfl, z, rfl, sz (by omega), rfl, _, rfl, ?_⟩
  refine iteNS ?_ ?_
  · rw [hlen]
    exact congrArg V.int (places hw)
  have sm1214 := sm13.trans sm14'
  have hlp14 := sm1214 _ _ hlp
  have hrows14 := hrows.keep (TK.same sm1214)
  have sm1114 := sm12.trans sm1214
  have hD14 := sm1114 _ _ hD11
  have hbs14 : Paired (fun p xs => H14 p = some (.lst xs)) bs xss := L2.Paired.mapP hbs11 fun b y h => sm1114 _ _ h
  clear hlo12 hos12 hD2 hD3 nD2 nD3 sm13 sm14' sm113 sm112 hlp hrows hD11 hbs11
  -- each loop
  refine ⟨_, rfl, _, rfl, lp, D, _, _, rfl, SqL.of hlp14, SqL.of hD14, ?_⟩
  refine RZ.for_zipL (K := K) (a := lp) (b := D) (xs := rows) (ys := bs.map V.ref) (by rw [List.length_map, hbl, hrl, hlen]) (fun i σ H' => ∃ (y8 y9 y10 : Option V), σ = [some (.ref a), some (.str z), some (.ref fa), some (.str ⟨(codes 0 z.length t).toArray⟩), some (.ref lo), some (.ref D), some (.ref lp), some (.int ((z.length : Int) - ((sw none (-1) (flat t)).map width).sum)), y8, y9, y10, none, none, none, none] ∧ Same H14 H') ⟨none, none, none, rfl, Same.refl _⟩ ?_ ?_ ?_
  · rintro i σ H' ⟨_, _, _, _, sm⟩
    exact ⟨sm.seq (SqL.of hlp14), sm.seq (SqL.of hD14)⟩
  · rintro i x y Tt σ H' hxi hyi ⟨y8, y9, y10, rfl, sm⟩ nT
    obtain ⟨q, u, hq, rfl, hu'⟩ := hrows14.at hxi
    have hqm := List.mem_of_getElem? hq
    rw [List.getElem?_map] at hyi
    cases eb : bs[i]? with
    | none =>
      rw [eb] at hyi
      cases hyi
    | some b =>
      rw [eb] at hyi
      cases hyi
      obtain ⟨ys, hys, hb⟩ := paired_get hbs14 eb
      obtain ⟨ks, hks, hdk⟩ := paired_get hxs hys
      rw [List.getElem?_map, hq] at hks
      cases hks
      have hkl : ys.length = (inner (flat t) q).length := by rw [hdk.length, List.length_map]
      have hm6 := inner_len hw hz q hqm
      have s1' := same_new (HO.tup [V.ref u, V.ref b]) nT
      have hu1' := (TK.same (sm.trans s1')).sq hu'
      have hb1 := (sm.trans s1') _ _ hb
      refine ⟨Tt, _, rfl, SqT.of upd_same, rfl, _, _, rfl, _, _, rfl, rfl, ?_⟩
      have smT := sm.trans s1'
      generalize upd H' Tt (.tup [V.ref u, V.ref b]) = Ha at s1' smT hu1' hb1 ⊢
      refine fun d nd => ?_
      have g1 := same_new (HO.dK []) nd
      refine ⟨(by show 1 ≤ sizeLine; decide), fun q1 n1 => ?_⟩
      have g2 := same_new (HO.lst [V.int 0]) n1
      refine ⟨(by show 1 ≤ sizeLine; decide), fun q2 n2 => ?_⟩
      have g3 := same_new (HO.lst [V.int 1]) n2
      refine ⟨(by show 1 ≤ sizeLine; decide), fun q3 n3 => ?_⟩
      have g4 := same_new (HO.lst [V.int 1]) n3
      refine ⟨(by show 5 ≤ sizeLine; decide), fun q4 n4 => ?_⟩
      have g5 := same_new (HO.lst [V.int 2, V.int 3, V.int 4, V.int 5, V.int 6]) n4
      have hd1 : (upd Ha d (.dK [])) d = some (.dK []) := upd_same
      have e1 := (g3.trans (g4.trans g5)) _ _ (upd_same (H := upd Ha d (.dK [])) (a := q1) (o := HO.lst [V.int 0]))
      have e2 := (g4.trans g5) _ _ (upd_same (H := upd (upd Ha d (.dK [])) q1 (.lst [.int 0])) (a := q2) (o := HO.lst [V.int 1]))
      have e3 := g5 _ _ (upd_same (H := upd (upd (upd Ha d (.dK [])) q1 (.lst [.int 0])) q2 (.lst [.int 1])) (a := q3) (o := HO.lst [V.int 1]))
      have e4 := (upd_same (H := upd (upd (upd (upd Ha d (.dK [])) q1 (.lst [.int 0])) q2 (.lst [.int 1])) q3 (.lst [.int 1])) (a := q4) (o := HO.lst [V.int 2, V.int 3, V.int 4, V.int 5, V.int 6]))
      have g15 := g2.trans (g3.trans (g4.trans g5))
      have hd5 := g15 _ _ hd1
      have sma := g1.trans g15
      generalize upd (upd (upd (upd (upd Ha d (.dK [])) q1 (.lst [.int 0])) q2 (.lst [.int 1])) q3 (.lst [.int 1])) q4 (.lst [.int 2, .int 3, .int 4, .int 5, .int 6]) = Hb at g5 e1 e2 e3 e4 g15 hd5 sma ⊢
      refine ⟨hd5, sizeKv q1 q2 q3 q4, rfl, (by show 4 ≤ 15; decide), ?_⟩
      have smb : Same Ha (upd Hb d (.dK (mergeK [] (sizeKv q1 q2 q3 q4)))) := same_fresh _ sma nd
      have hdb : (upd Hb d (.dK (mergeK [] (sizeKv q1 q2 q3 q4)))) d = some (.dK (mergeK [] (sizeKv q1 q2 q3 q4))) := upd_same
      have ed : ∀ {b o}, Hb b = some (HO.lst o) → (upd Hb d (.dK (mergeK [] (sizeKv q1 q2 q3 q4)))) b = some (.lst o) := fun {b o} e => by
        rw [upd_ne (fun z => by rw [z, hd5] at e; cases e)]
        exact e
      have f1 := ed e1
      have f2 := ed e2
      have f3 := ed e3
      have f4 := ed e4
      generalize upd Hb d (.dK (mergeK [] (sizeKv q1 q2 q3 q4))) = Hc at smb hdb f1 f2 f3 f4 ⊢
      have hu3 := (TK.same smb).sq hu1'
      have hb3 := smb _ _ hb1
      obtain ⟨sq, ws, k1, k2, k3, k4⟩ := kind_size (q1 := q1) (q2 := q2) (q3 := q3) (q4 := q4) (freeIn q (inner (flat t) q)) hm6
      have hws : Hc sq = some (.lst ws) := by
        rcases k2 with ⟨rfl, rfl⟩ | ⟨rfl, rfl⟩ | ⟨rfl, rfl⟩ | ⟨rfl, rfl⟩
        · exact f1
        · exact f2
        · exact f3
        · exact f4
      refine ⟨_, rfl, u, _, 2, _, rfl, rfl, hu3, atI_nat (j := 2) rfl, d, _, rfl, size_get hdb k1, ?_⟩
      refine ⟨_, rfl, b, ys, rfl, .inl (SqL.of hb3), _, rfl, sq, ws, rfl, .inl (SqL.of hws), rfl, k3, _, rfl, ?_⟩
      rw [hkl, k4]
      refine iteF ?_
      refine ⟨_, rfl, b, ys, rfl, .inl (SqL.of hb3), rfl, _, rfl, ?_⟩
      have fin : Same H14 Hc := smT.trans smb
      by_cases hone : (inner (flat t) q).length = 1
      · refine iteY (by rw [hkl, hone]; rfl) ?_
        refine ⟨_, rfl, u, _, 3, _, rfl, rfl, hu3, atI_nat (j := 3) rfl, rfl, _, rfl, u, _, 2, _, rfl, rfl, hu3, atI_nat (j := 2) rfl, rfl, rfl, _, rfl, ?_⟩
        refine iteNS ?_ ⟨_, _, _, rfl, fin⟩
        rw [hone]
        exact kind_one _
      · refine iteN (fun e => hone ?_) (iteF ⟨_, _, _, rfl, fin⟩)
        have := V.int.inj e
        rw [hkl] at this
        omega
  rintro σ H15 ⟨y8, y9, y10, rfl, sm15'⟩
  have sm115 := sm114.trans sm15'
  have hlp15 := sm15' _ _ hlp14
  have hrows15 := hrows14.keep (TK.same sm15')
  have hlo15 := (sm1114.trans sm15') _ _ hlo11
  clear hD14 hbs14 hlp14 hrows14 hxs hll hbl hlo11 hos11
  -- what all is worth
  refine ⟨_, rfl, fa, rfl, ⟨_, (TK.same sm115).sq ha⟩, fun D4 nD4 => ?_⟩
  have nD4H := sm115.free nD4
  refine lc_tup (K := K) (a := fa) (xs := xs) (fun i H' => Same H15 H' ∧ H' D4 = some (.lst ((((flat t).take i).map fun p => pwI c (two z p.1 p.2)).map V.int))) ⟨same_new _ nD4, upd_same⟩ (fun i H' _ h => (TK.same (sm115.trans h.1)).sq ha) ?_ ?_
  · rintro i x H' hxi ⟨sm, hD'⟩
    obtain ⟨q, u, hq, rfl, hu'⟩ := pairs_at hx hxi
    have hlt : i < (flat t).length := (List.getElem?_eq_some_iff.mp hq).1
    have hqm := List.mem_of_getElem? hq
    obtain ⟨w1, w2⟩ := hpl q hqm
    have sm' := sm115.trans sm
    refine ⟨u, _, rfl, (TK.same sm').sq hu', rfl, _, _, rfl, _, _, rfl, rfl, rfl, ?_⟩
    refine ⟨_, rfl, _, rfl, _, rfl, z, _, _, rfl, rfl, sz (by omega), sign_at (by omega), _, rfl, _, rfl, z, _, _, rfl, rfl, sz (by omega), sign_at w2, _, _, rfl, rfl, (by show 2 ≤ sizeLine; decide), ?_⟩
    refine ⟨_, c, two z q.1 q.2, rfl, hc.keep (TK.same sm'), fun H17 sm17 => ?_⟩
    rw [pw_eq (mayB_pw (hm q hqm))]
    refine ⟨_, sm17 _ _ hD', ?_, same_fresh _ (sm.trans sm17) nD4, ?_⟩
    · rw [List.length_map, List.length_map, List.length_take]
      exact szl (by omega)
    · rw [upd_same, take_next hq, List.map_append, List.map_append]
      rfl
  rintro H16 ⟨sm16', hD4⟩
  rw [hlen, List.take_length] at hD4
  refine ⟨D4, _, rfl, SqL.of hD4, ?_⟩
  have sm116 := sm115.trans sm16'
  have hlp16 := sm16' _ _ hlp15
  refine ⟨_, rfl, lp, rfl, ⟨_, SqL.of hlp16⟩, fun D5 nD5 => ?_⟩
  refine lc_list (K := K) (a := lp) (xs := rows) (fun i H' => Same H16 H' ∧ H' D5 = some (.lst ((((flat t).take i).map fun p => loopW c z (flat t) p).map V.int))) ⟨same_new _ nD5, upd_same⟩ (fun i H' _ h => h.1.seq (SqL.of hlp16)) ?_ ?_
  · rintro i x H' hxi ⟨sm, hD'⟩
    obtain ⟨q, u, hq, rfl, hu'⟩ := hrows15.at hxi
    have hlt : i < (flat t).length := (List.getElem?_eq_some_iff.mp hq).1
    refine ⟨rfl, ?_⟩
    refine ⟨_, rfl, u, _, 4, _, rfl, rfl, (TK.same (sm16'.trans sm)).sq hu', atI_nat (j := 4) rfl, _, hD', ?_, same_fresh _ sm nD5, ?_⟩
    · rw [List.length_map, List.length_map, List.length_take]
      exact szl (by omega)
    · rw [upd_same, take_next hq, List.map_append, List.map_append]
      rfl
  rintro H17 ⟨sm17, hD5⟩
  rw [hrl, List.take_length] at hD5
  refine ⟨D5, _, rfl, SqL.of hD5, _, _, rfl, rfl, ?_⟩
  have sm117 := sm116.trans sm17
  -- the end
  refine ⟨_, rfl, _, rfl, _, rfl, .ref a, .ref fa, c, z, flat t, rfl, S3.keep (TK.same sm117), hm, fun H18 sm18 => ?_⟩
  have sm118 := sm117.trans sm18
  have hlo18 := (sm16'.trans (sm17.trans sm18)) _ _ hlo15
  have e8 : atI (c.loops.map V.int) 8 = some (.int (tl c 8)) := by
    refine atI_nat (j := 8) ?_
    have h9 : 8 < c.loops.length := by
      rw [ck.lp]
      decide
    unfold tl
    rw [List.getElem?_map, List.getElem?_eq_getElem h9, List.getD_eq_getElem?_getD, List.getElem?_eq_getElem h9]
    rfl
  refine ⟨_, rfl, _, rfl, a, _, 3, _, rfl, rfl, (TK.same sm118).sq h2, atI_nat (j := 3) rfl, l, _, 8, _, rfl, rfl, (TK.same sm118).sq h6, e8, _, rfl, lo, os, rfl, .inl (SqL.of hlo18), _, _, rfl, rfl, .inr (by rw [hol2]; constructor <;> omega), _, _, rfl, rfl, rfl, ?_⟩
  rw [hol2]
  show Q (.bl (decide (V.int (pairSum c z (flat t) + loopSum c z (flat t) + tl c 8 * ((sw none (-1) (flat t)).length : Int)) = V.int (pairSum c z (flat t) + loopSum c z (flat t) + tl c 8 * ((sw none (-1) (flat t)).length : Int))))) H18
  rw [decide_eq_true rfl]
  exact g H18 sm118
end
end K14
/-! law. -/
namespace K14
open PySem L2

abbrev sLaw : Stmt := top 35
abbrev nLaw : List Str := ["_law_script", "_law_pen_here", "_law_turn", "_law_code_here", "_law_word_here", "_law_folds"]
section
variable {P : Program} {w : World} {K : PySem.W.Frag} {mg : Str → Option Value} {base : Heap} {k : Nat} {f : Addr} {fd : FuncData}
def spLaw (K : PySem.W.Frag) : Sp := fun vs H Q _ => ∃ (a : Addr) (ns : List Int), vs = [.ref a] ∧ SqL K H a (ns.map V.int) ∧ ns.length ≤ 63 ∧ ∀ H', Q (.bl true) H'
theorem scLaw : FnScope nLaw ["_law_script"] (defScope sLaw) := ⟨rfl, rfl, rfl, by decide +kernel, rfl, by decide +kernel, by decide +kernel⟩
theorem ok_law (F : Fun K "law" "law" sLaw f fd) (T : Blt mg) (GP : Has P w K mg base "_law_pen" ["_law_script"] k (spPen K)) (GC : Has P w K mg base "_law_code" ["_law_pen_here"] k (spCode K))
    (GW : Has P w K mg base "_law_word" ["_law_pen_here", "_law_code_here", "_law_most"] k (spWordL K)) (GF : Has P w K mg base "_law_folded" pFolded k (spFolded K 13)) (GR : Has P w K mg base "_law_right" pRight k (spRight K)) :
    FnOk P w K mg base CX0 (k + 1) f fd ["_law_script"] (spLaw K) := by
  refine F.ok scLaw (fun vs H Q E h => ?_) (fun cdv A outer s H vs Q E hr h => ?_)
  · obtain ⟨a, ns, rfl, _⟩ := h
    rfl
  obtain ⟨a, ns, rfl, hq, hl, g⟩ := h
  obtain ⟨fP, fdP, gP, mP, kP, bP⟩ := GP
  obtain ⟨fC, fdC, gC, mC, kC, bC⟩ := GC
  obtain ⟨fW, fdW, gW, mW, kW, bW⟩ := GW
  obtain ⟨fF, fdF, gF, mF, kF, bF⟩ := GF
  obtain ⟨fR, fdR, gR, mR, kR, bR⟩ := GR
  refine ⟨_, pss_cons (ps_set (i := 1) scLaw.nd rfl (Or.inl rfl) (pe_call gP hr (by rfl) mP kP bP .nil pass0 (pa_cons (pv 0) pa_nil)))
    (pss_cons (ps_for PassesOwn.never rfl (pi_range1 (by rfl) T.range (pa_cons pe_int pa_nil)) (pg_name (i := 2) scLaw.nd rfl (Or.inl rfl))
      (pss_cons (ps_set (i := 3) scLaw.nd rfl (Or.inl rfl) (pe_call gC hr (by rfl) mC kC bC .nil pass0 (pa_cons (pv 1) pa_nil)))
      (pss_cons (ps_set (i := 4) scLaw.nd rfl (Or.inl rfl) (pe_call gW hr (by rfl) mW kW bW .nil pass0 (pa_cons (pv 1) (pa_cons (pv 3) (pa_cons pe_int pa_nil)))))
      (pss_cons (ps_set (i := 5) scLaw.nd rfl (Or.inl rfl) (pe_callTy call_tuple_of (by rfl) T.tuple PyProof.Rows.boot_tuple (pa_cons
        (pe_call gF hr (by rfl) mF kF bF .nil pass0 (pa_cons (pv 1) (pa_cons (pv 3) (pa_cons (pv 4) (pa_cons pe_int (pa_cons (pe_op op_sub (pe_callB call_len_str (by rfl) T.len PySem.boot_len (pa_cons (pv 4) pa_nil)) pe_int) pa_nil)))))) pa_nil)))
      (pss_one (ps_if (PW.pt (pw_or (pt_not (pt_val (pe_call gR hr (by rfl) mR kR bR .nil pass0 (pa_cons (pv 3) (pa_cons (pv 4) (pa_cons (pv 5) pa_nil))))))
        (pw_or1 (pt_not (pt_val (pe_call gR hr (by rfl) mR kR bR .nil pass0 (pa_cons (pv 3) (pa_cons (pv 4) (pa_cons (pe_tup pa_nil) pa_nil)))))))))
        (pss_one (ps_ret pe_bl)) pss_nil))))))
    (pss_one (ps_ret pe_bl))), ?_⟩
  refine ⟨_, rfl, a, ns, rfl, hq, hl, fun H1 p cl sm1 hp1 => ?_⟩
  refine ⟨6, rfl, by decide, by decide, ?_⟩
  refine for_range (lo := 0) (n := 6) (fun i σ H' => ∃ (y2 y3 y4 y5 : Option V), σ = [some (.ref a), some (.ref p), y2, y3, y4, y5] ∧ PenAt H' p cl ns (1200 * i)) ⟨none, none, none, none, rfl, hp1⟩ ?_ ?_
  · rintro i σ H2 hi ⟨y2, y3, y4, y5, rfl, hp2⟩
    refine ⟨_, rfl, p, cl, ns, _, rfl, hp2, by omega, hl, fun H3 v c b3 hp3 hc3 ck => ?_⟩
    refine ⟨_, rfl, _, rfl, p, cl, ns, _, v, c, rfl, hp3, by omega, hl, hc3, ck, fun H4 z b4 hp4 wk => ?_⟩
    have hz := wk.le
    have hc4 := hc3.keep (hp3.tk b4)
    refine ⟨_, rfl, _, rfl, _, rfl, _, rfl, z, rfl, sz (by omega), _, _, rfl, rfl, p, cl, ns, _, v, c, z, 0, z.length, rfl, hp4, by omega, hl, hc4, ck, hz, Nat.zero_le _, Nat.le_refl _, by omega, fun H5 l xs t b5 hp5 nl hl5 hw hm hd => ?_⟩
    have hc5 := hc4.keep (hp4.tk b5)
    refine ⟨l, xs, rfl, .inl ⟨SqL.of hl5, fun ft nft => ?_⟩⟩
    have s6 := same_new (HO.tup xs) nft
    have hft := Dt.new nft hd
    refine ⟨_, rfl, _, rfl, _, rfl, v, .ref ft, c, z, t, rfl, hc5.keep (TK.same s6), ck, wk, hft, hw, hm, fun H7 s7 => ?_⟩
    refine ⟨_, rfl, iteF ?_⟩
    have s67 := s6.trans s7
    refine ⟨_, rfl, _, rfl, Nat.zero_le _, fun e ne => ?_⟩
    have s8 := s67.trans (same_new (HO.tup []) ne)
    refine ⟨v, .ref e, c, z, .nil, rfl, hc5.keep (TK.same s8), ck, wk, .tup (SqT.of upd_same) .nil, Nat.zero_le _, fun q hq => (by cases hq), fun H9 s9 => ?_⟩
    refine ⟨_, rfl, iteF ?_⟩
    exact ⟨_, _, _, _, rfl, (hp5.same (s8.trans s9)).mono (by omega)⟩
  · rintro σ H2 _
    exact g H2
end
end K14
/-! The program's top. -/
namespace K14
open PySem L2

/-- a def stands in the module -/
def Stands (K : PySem.W.Frag) (x : Str) (st : Stmt) (ps : List Str) : Prop := ∃ (f : Addr) (fd : FuncData), Fun K x x st f fd ∧ PySem.W.nsIn K mainGlobals x = some (some (.ref f)) ∧ PySem.W.keepIn K (.ref f) = true ∧ Binds K fd ps []
theorem stands_mk {K : PySem.W.Frag} {x : Str} {st : Stmt} {ps : List Str} {f : Addr} {od an : Option Addr} {sl : Array (Option Value)} {oc kV dc pm cd ct : Value}
    (hb : ∀ (kV doc pm : Value) (an : Option Addr) (cdv ct : Value) (us : List Value), us.length = ps.length → bindArgs (PySem.W.fnOf x x (defArgs st) (defBody st) (defScope st) .none kV doc pm an cdv ct) ⟨us, []⟩ = pure (ps.zip us))
    (a : PySem.W.nsIn K mainGlobals x = some (some (.ref f))) (l : K.lookup f = some ⟨oc, od, .func (PySem.W.fnOf x x (defArgs st) (defBody st) (defScope st) .none kV dc pm an cd ct), sl⟩) (c : PySem.W.codeIn K cd x = true) (k : PySem.W.keepIn K (.ref f) = true) : Stands K x st ps := by
  have F := fun_mk (st := st) l c k
  exact ⟨f, _, F, a, k, F.binds hb⟩
section
variable {P : Program} {w : World} {K : PySem.W.Frag} {mg : Str → Option Value} {base h : Heap}
theorem Stands.has {x : Str} {st : Stmt} {ps : List Str} {k : Nat} {sp : Sp} (S : Stands K x st ps) (X : K.In h) (G : h.Ns mainGlobals mg) (ok : ∀ (f : Addr) (fd : FuncData), Fun K x x st f fd → FnOk P w K mg base CX0 k f fd ps sp) : Has P w K mg base x ps k sp := by
  obtain ⟨f, fd, F, a, k, b⟩ := S
  exact ⟨f, fd, ok f fd F, PySem.W.mg_of X G a, k, b⟩
theorem Stands.hasR {x : Str} {st : Stmt} {ps : List Str} {k : Nat} {sp : Sp} (S : Stands K x st ps) (X : K.In h) (G : h.Ns mainGlobals mg) (ok : ∀ (f : Addr) (fd : FuncData), Fun K x x st f fd → mg x = some (.ref f) → PySem.W.keepIn K (.ref f) = true → Binds K fd ps [] → FnOk P w K mg base CX0 k f fd ps sp) : Has P w K mg base x ps k sp := by
  obtain ⟨f, fd, F, a, k, b⟩ := S
  have m := PySem.W.mg_of X G a
  exact ⟨f, fd, ok f fd F m k b, m, k, b⟩

theorem cst_mk (X : K.In h) (G : h.Ns mainGlobals mg) {to ts tf t1 t2 t3 t4 t5 t6 t7 t8 t9 : Tok} {a : Addr} {od : Option Addr} {n : Nat} {sl : Array (Option Value)}
    (co : PySem.W.nsIn K mainGlobals "OPENING" = some (some (.str "(" to))) (cs : PySem.W.nsIn K mainGlobals "SHUTTING" = some (some (.str ")" ts))) (cf : PySem.W.nsIn K mainGlobals "FREE" = some (some (.str "." tf)))
    (cl : PySem.W.nsIn K mainGlobals "LOOPS" = some (some (.ref a))) (ll : K.lookup a = some ⟨.type "tuple", od, .seq #[.str "stacked" t1, .str "inner" t2, .str "inner free" t3, .str "forked" t4, .str "branch" t5, .str "fork free" t6, .str "lone" t7, .str "lone free" t8, .str "open" t9] n, sl⟩) : Cst K mg := by
  refine ⟨⟨to, PySem.W.mg_of X G co⟩, ⟨ts, PySem.W.mg_of X G cs⟩, ⟨tf, PySem.W.mg_of X G cf⟩, a, PySem.W.mg_of X G cl, fun H => .inr ⟨_, _, _, ll, rfl, rfl, (by show 9 ≤ sizeLine; decide), ?_⟩⟩
  exact .cons ⟨t1, rfl⟩ (.cons ⟨t2, rfl⟩ (.cons ⟨t3, rfl⟩ (.cons ⟨t4, rfl⟩ (.cons ⟨t5, rfl⟩ (.cons ⟨t6, rfl⟩ (.cons ⟨t7, rfl⟩ (.cons ⟨t8, rfl⟩ (.cons ⟨t9, rfl⟩ (.nil)))))))))
theorem blt_mk (X : K.In h) (G : h.Ns mainGlobals mg) (z1 : PySem.W.nsIn K mainGlobals "len" = some none) (z2 : PySem.W.nsIn K mainGlobals "dict" = some none) (z3 : PySem.W.nsIn K mainGlobals "list" = some none) (z4 : PySem.W.nsIn K mainGlobals "tuple" = some none) (z5 : PySem.W.nsIn K mainGlobals "zip" = some none) (z6 : PySem.W.nsIn K mainGlobals "isinstance" = some none) (z7 : PySem.W.nsIn K mainGlobals "int" = some none) (z8 : PySem.W.nsIn K mainGlobals "bool" = some none) (z9 : PySem.W.nsIn K mainGlobals "all" = some none) (z10 : PySem.W.nsIn K mainGlobals "enumerate" = some none) (z11 : PySem.W.nsIn K mainGlobals "sorted" = some none) (z12 : PySem.W.nsIn K mainGlobals "sum" = some none) (z13 : PySem.W.nsIn K mainGlobals "abs" = some none) (z14 : PySem.W.nsIn K mainGlobals "range" = some none) : Blt mg :=
  ⟨PySem.W.mg_none_of X G z1, PySem.W.mg_none_of X G z2, PySem.W.mg_none_of X G z3, PySem.W.mg_none_of X G z4, PySem.W.mg_none_of X G z5, PySem.W.mg_none_of X G z6, PySem.W.mg_none_of X G z7, PySem.W.mg_none_of X G z8, PySem.W.mg_none_of X G z9, PySem.W.mg_none_of X G z10, PySem.W.mg_none_of X G z11, PySem.W.mg_none_of X G z12, PySem.W.mg_none_of X G z13, PySem.W.mg_none_of X G z14⟩
theorem law_ok (X : K.In h) (G : h.Ns mainGlobals mg) (T : Blt mg) (C : Cst K mg) {f : Addr} {fd : FuncData} (FL : Fun K "law" "law" sLaw f fd)
    (d1 : Stands K "both_of" sBoth ["string", "i", "j"]) (d2 : Stands K "pair_worth" sPairW ["rules", "both"]) (d3 : Stands K "stack_worth" sStackW ["rules", "outer", "within"]) (d4 : Stands K "may_pair" sMay ["rules", "string", "i", "j"]) (d5 : Stands K "letters_of" sLetters ["string", "pair"]) (d6 : Stands K "crosses" sCross ["pair", "other"]) (d7 : Stands K "is_place" sPlace ["thing", "many"]) (d8 : Stands K "is_pair" sIsPair ["rules", "string", "thing"]) (d9 : Stands K "is_folding" sIsFold ["rules", "string", "thing"]) (d10 : Stands K "free_within" sFreeW ["pair", "inner"]) (d11 : Stands K "kind_of" sKind ["inner", "free"]) (d12 : Stands K "straight_within" sStraight ["folding", "pair"]) (d13 : Stands K "brackets" sBrackets ["string", "folding"]) (d14 : Stands K "pairs_in" sPairsIn ["text"]) (d15 : Stands K "loop_of" sLoop ["rules", "string", "folding", "pair"]) (d16 : Stands K "loops_of" sLoops ["rules", "string", "folding"]) (d17 : Stands K "worth_of" sWorth ["rules", "string", "folding"]) (d18 : Stands K "_law_pen" sPen ["_law_script"]) (d19 : Stands K "_law_take" sTake ["_law_pen_here", "_law_size"]) (d20 : Stands K "_law_pick" sPick ["_law_pen_here", "_law_some"]) (d21 : Stands K "_law_worth" sWorthL ["_law_pen_here"]) (d22 : Stands K "_law_code" sCode ["_law_pen_here"]) (d23 : Stands K "_law_word" sWordL ["_law_pen_here", "_law_code_here", "_law_most"]) (d24 : Stands K "_law_may" sMayL ["_law_code_here", "_law_word_here", "_law_i", "_law_j"]) (d25 : Stands K "_law_folded" sFolded ["_law_pen_here", "_law_code_here", "_law_word_here", "_law_first", "_law_last"]) (d26 : Stands K "_law_right" sRight ["_law_code_here", "_law_word_here", "_law_folds"])
    : FnOk P w K mg base CX0 16 f fd ["_law_script"] (spLaw K) := by
  have hBoth : Has P w K mg base "both_of" ["string", "i", "j"] 1 spBoth := d1.has X G fun f fd F => ok_both (k := 0) F
  have hPairW : Has P w K mg base "pair_worth" ["rules", "both"] 1 (spPairW K) := d2.has X G fun f fd F => ok_pairW (k := 0) F T
  have hStackW : Has P w K mg base "stack_worth" ["rules", "outer", "within"] 1 (spStackW K) := d3.has X G fun f fd F => ok_stackW (k := 0) F
  have hMay : Has P w K mg base "may_pair" ["rules", "string", "i", "j"] 2 (spMay K) := d4.has X G fun f fd F => ok_may (k := 0) F hBoth hPairW
  have hLetters : Has P w K mg base "letters_of" ["string", "pair"] 1 (spLetters K) := d5.has X G fun f fd F => ok_letters (k := 0) F
  have hCross : Has P w K mg base "crosses" ["pair", "other"] 1 (spCross K) := d6.has X G fun f fd F => ok_cross (k := 0) F
  have hPlace : Has P w K mg base "is_place" ["thing", "many"] 1 spPlace := d7.has X G fun f fd F => ok_place (k := 0) F T
  have hIsPair : Has P w K mg base "is_pair" ["rules", "string", "thing"] 3 (spIsPair K) := d8.has X G fun f fd F => ok_isPair (k := 0) F T (hPlace.up (by decide)) hMay
  have hIsFold : Has P w K mg base "is_folding" ["rules", "string", "thing"] 4 (spIsFold K) := d9.has X G fun f fd F => ok_isFold (k := 2) F T hIsPair (hCross.up (by decide))
  have hFreeW : Has P w K mg base "free_within" ["pair", "inner"] 1 (spFreeW K) := d10.has X G fun f fd F => ok_freeW (k := 0) F T
  have hKind : Has P w K mg base "kind_of" ["inner", "free"] 1 (spKind K) := d11.has X G fun f fd F => ok_kind (k := 0) F T
  have hStraight : Has P w K mg base "straight_within" ["folding", "pair"] 1 (spStraight K) := d12.has X G fun f fd F => ok_straight (k := 0) F
  have hBrackets : Has P w K mg base "brackets" ["string", "folding"] 1 (spBrackets K) := d13.has X G fun f fd F => ok_brackets (k := 0) F C
  have hPairsIn : Has P w K mg base "pairs_in" ["text"] 1 (spPairsIn K) := d14.has X G fun f fd F => ok_pairsIn (k := 0) F C T
  have hLoop : Has P w K mg base "loop_of" ["rules", "string", "folding", "pair"] 2 (spLoop K) := d15.has X G fun f fd F => ok_loop (k := 0) F T C hStraight hFreeW hKind hStackW hLetters
  have hLoops : Has P w K mg base "loops_of" ["rules", "string", "folding"] 3 (spLoops K) := d16.has X G fun f fd F => ok_loops (k := 1) F hLoop
  have hWorth : Has P w K mg base "worth_of" ["rules", "string", "folding"] 4 (spWorth K) := d17.has X G fun f fd F => ok_worth (k := 2) F T C (hPairW.up (by decide)) (hLetters.up (by decide)) hLoops (hStraight.up (by decide))
  have hPen : Has P w K mg base "_law_pen" ["_law_script"] 1 (spPen K) := d18.has X G fun f fd F => ok_pen (k := 0) F
  have hTake : Has P w K mg base "_law_take" ["_law_pen_here", "_law_size"] 1 spTake := d19.has X G fun f fd F => ok_take (k := 0) F T
  have hPick : Has P w K mg base "_law_pick" ["_law_pen_here", "_law_some"] 2 (spPick K) := d20.has X G fun f fd F => ok_pick (k := 0) F T hTake
  have hWorthL : Has P w K mg base "_law_worth" ["_law_pen_here"] 3 spWorthL := d21.has X G fun f fd F => ok_worthL (k := 1) F (hTake.up (by decide)) hPick
  have hCode : Has P w K mg base "_law_code" ["_law_pen_here"] 4 (spCode K) := d22.has X G fun f fd F => ok_code (k := 2) F T (hTake.up (by decide)) (hPick.up (by decide)) hWorthL
  have hWord : Has P w K mg base "_law_word" ["_law_pen_here", "_law_code_here", "_law_most"] 3 (spWordL K) := d23.has X G fun f fd F => ok_wordL (k := 1) F T (hTake.up (by decide)) hPick
  have hMayL : Has P w K mg base "_law_may" ["_law_code_here", "_law_word_here", "_law_i", "_law_j"] 1 (spMayL K) := d24.has X G fun f fd F => ok_mayL (k := 0) F
  have hFolded : Has P w K mg base "_law_folded" pFolded 15 (spFolded K 13) := d25.hasR X G fun f fd F m k b => ok_foldeds (k := 2) F T (hTake.up (by decide)) hPick (hMayL.up (by decide)) m k b 13
  have hRight : Has P w K mg base "_law_right" ["_law_code_here", "_law_word_here", "_law_folds"] 5 (spRight K) := d26.has X G fun f fd F => ok_right (k := 4) F T (hBrackets.up (by decide)) (hPairsIn.up (by decide)) hIsFold (hStraight.up (by decide)) (hLoops.up (by decide)) (hPairW.up (by decide)) hWorth
  exact ok_law (k := 15) FL T (hPen.up (by decide)) (hCode.up (by decide)) (hWord.up (by decide)) hFolded (hRight.up (by decide))
end
theorem all_mk {l : PySem.W.OpenLaw} {w : World} {K : PySem.W.Frag} {h : Heap} {mg : Str → Option Value} {fa fL : Addr} (X : K.In h) (G : h.Ns mainGlobals mg) (hfa : mg "law" = some (.ref fa))
    (d1 : Stands K "both_of" sBoth ["string", "i", "j"])
    (d2 : Stands K "pair_worth" sPairW ["rules", "both"])
    (d3 : Stands K "stack_worth" sStackW ["rules", "outer", "within"])
    (d4 : Stands K "may_pair" sMay ["rules", "string", "i", "j"])
    (d5 : Stands K "letters_of" sLetters ["string", "pair"])
    (d6 : Stands K "crosses" sCross ["pair", "other"])
    (d7 : Stands K "is_place" sPlace ["thing", "many"])
    (d8 : Stands K "is_pair" sIsPair ["rules", "string", "thing"])
    (d9 : Stands K "is_folding" sIsFold ["rules", "string", "thing"])
    (d10 : Stands K "free_within" sFreeW ["pair", "inner"])
    (d11 : Stands K "kind_of" sKind ["inner", "free"])
    (d12 : Stands K "straight_within" sStraight ["folding", "pair"])
    (d13 : Stands K "brackets" sBrackets ["string", "folding"])
    (d14 : Stands K "pairs_in" sPairsIn ["text"])
    (d15 : Stands K "loop_of" sLoop ["rules", "string", "folding", "pair"])
    (d16 : Stands K "loops_of" sLoops ["rules", "string", "folding"])
    (d17 : Stands K "worth_of" sWorth ["rules", "string", "folding"])
    (d18 : Stands K "_law_pen" sPen ["_law_script"])
    (d19 : Stands K "_law_take" sTake ["_law_pen_here", "_law_size"])
    (d20 : Stands K "_law_pick" sPick ["_law_pen_here", "_law_some"])
    (d21 : Stands K "_law_worth" sWorthL ["_law_pen_here"])
    (d22 : Stands K "_law_code" sCode ["_law_pen_here"])
    (d23 : Stands K "_law_word" sWordL ["_law_pen_here", "_law_code_here", "_law_most"])
    (d24 : Stands K "_law_may" sMayL ["_law_code_here", "_law_word_here", "_law_i", "_law_j"])
    (d25 : Stands K "_law_folded" sFolded ["_law_pen_here", "_law_code_here", "_law_word_here", "_law_first", "_law_last"])
    (d26 : Stands K "_law_right" sRight ["_law_code_here", "_law_word_here", "_law_folds"])
    {odL anL : Option Addr} {slL : Array (Option Value)} {ocL kVL dcL pmL cdL ctL : Value}
    (aL : PySem.W.nsIn K mainGlobals "law" = some (some (.ref fL))) (lL : K.lookup fL = some ⟨ocL, odL, .func (PySem.W.fnOf "law" "law" (defArgs sLaw) (defBody sLaw) (defScope sLaw) .none kVL dcL pmL anL cdL ctL), slL⟩) (cL : PySem.W.codeIn K cdL "law" = true) (kL : PySem.W.keepIn K (.ref fL) = true)
    (z1 : PySem.W.nsIn K mainGlobals "len" = some none) (z2 : PySem.W.nsIn K mainGlobals "dict" = some none) (z3 : PySem.W.nsIn K mainGlobals "list" = some none) (z4 : PySem.W.nsIn K mainGlobals "tuple" = some none) (z5 : PySem.W.nsIn K mainGlobals "zip" = some none) (z6 : PySem.W.nsIn K mainGlobals "isinstance" = some none) (z7 : PySem.W.nsIn K mainGlobals "int" = some none) (z8 : PySem.W.nsIn K mainGlobals "bool" = some none) (z9 : PySem.W.nsIn K mainGlobals "all" = some none) (z10 : PySem.W.nsIn K mainGlobals "enumerate" = some none) (z11 : PySem.W.nsIn K mainGlobals "sorted" = some none) (z12 : PySem.W.nsIn K mainGlobals "sum" = some none) (z13 : PySem.W.nsIn K mainGlobals "abs" = some none) (z14 : PySem.W.nsIn K mainGlobals "range" = some none)
    {to ts tf t1 t2 t3 t4 t5 t6 t7 t8 t9 : Tok} {a : Addr} {od : Option Addr} {n : Nat} {sl : Array (Option Value)}
    (co : PySem.W.nsIn K mainGlobals "OPENING" = some (some (.str "(" to))) (cs : PySem.W.nsIn K mainGlobals "SHUTTING" = some (some (.str ")" ts))) (cf : PySem.W.nsIn K mainGlobals "FREE" = some (some (.str "." tf)))
    (cl : PySem.W.nsIn K mainGlobals "LOOPS" = some (some (.ref a))) (ll : K.lookup a = some ⟨.type "tuple", od, .seq #[.str "stacked" t1, .str "inner" t2, .str "inner free" t3, .str "forked" t4, .str "branch" t5, .str "fork free" t6, .str "lone" t7, .str "lone free" t8, .str "open" t9] n, sl⟩) :
    ∃ fd : FuncData, (∀ (s : Shared) (v : Value), BindsTo s fd ⟨[v], []⟩ [("_law_script", v)]) ∧ ∀ base : Heap, K.In base → base.Ns mainGlobals mg → FnOk l.prog w K mg base CX0 16 fa fd ["_law_script"] (spLaw K) := by
  have e := hfa.symm.trans (PySem.W.mg_of X G aL)
  cases e
  have FL := fun_mk (st := sLaw) lL cL kL
  refine ⟨PySem.W.fnOf "law" "law" (defArgs sLaw) (defBody sLaw) (defScope sLaw) .none kVL dcL pmL anL cdL ctL, fun s v => .of_eq rfl, fun base _ _ => ?_⟩
  exact law_ok X G (blt_mk X G z1 z2 z3 z4 z5 z6 z7 z8 z9 z10 z11 z12 z13 z14) (cst_mk X G co cs cf cl ll) FL d1 d2 d3 d4 d5 d6 d7 d8 d9 d10 d11 d12 d13 d14 d15 d16 d17 d18 d19 d20 d21 d22 d23 d24 d25 d26
theorem walk {l : PySem.W.OpenLaw} {q : Program} {loose : List Str} {XP : (Str → Option Value) → Heap → Prop} {YP : World → Heap → Prop} {d : DefRec} {K : Params → PySem.W.Frag} (hn : l.most = some 63) (hdf : d.params.defaults = [])
    (hY : ∀ (w : World) (h : Heap), YP w h → (K w.params).In h)
    (F : ∀ (w : World) (mg : Str → Option Value) (fa : Addr) (h : Heap), (K w.params).In h → h.Ns mainGlobals mg → mg d.name = some (.ref fa) →
      ∃ fd : FuncData, (∀ (s : Shared) (u : Value), BindsTo s fd ⟨[u], []⟩ [("_law_script", u)]) ∧ ∀ base : Heap, (K w.params).In base → base.Ns mainGlobals mg → FnOk l.prog w (K w.params) mg base CX0 16 fa fd ["_law_script"] (spLaw (K w.params))) :
    PySem.W.WalkO q loose XP YP l.row.toRowW d [] (fun f vs => PySem.call f vs) :=
  L2.walk_of (n := 63) (k := 16) (x := "_law_script") (CX := fun _ => CX0) (sp := fun w => spLaw (K w.params)) hn (by decide) hdf ⟨rfl, by decide, by decide⟩ hY F (fun _ _ a ns hl _ hS => ⟨a, ns, rfl, hS, hl, fun _ => rfl⟩) fun _ _ _ _ _ z => z
end K14
open PySem PySem.W PyProof.Rows
set_option maxRecDepth 100000 in
set_option maxHeartbeats 0 in
theorem PySem.Challenge.cw_pairfolds_k14_whole_brackets_and_loops_holds : PySem.Challenge.rw_pairfolds_k14_whole_brackets_and_loops.Holds := by
  w_on; o_law; k_head; (case hw => w_witness2)
  k_fill
  refine K14.walk (l := PySem.Challenge.rw_pairfolds_k14_whole_brackets_and_loops) rfl rfl (fun w h Y => PySem.W.kIn_of Y) ?F
  case F =>
    intro w mg fa h KX G hmg
    refine' K14.all_mk KX G hmg ?d1 ?d2 ?d3 ?d4 ?d5 ?d6 ?d7 ?d8 ?d9 ?d10 ?d11 ?d12 ?d13 ?d14 ?d15 ?d16 ?d17 ?d18 ?d19 ?d20 ?d21 ?d22 ?d23 ?d24 ?d25 ?d26 ?aL ?lL ?cL ?kL ?z1 ?z2 ?z3 ?z4 ?z5 ?z6 ?z7 ?z8 ?z9 ?z10 ?z11 ?z12 ?z13 ?z14 ?co ?cs ?cf ?cl ?ll
    (case d1 => refine' K14.stands_mk (fun _ _ _ _ _ _ us hl => match us, hl with | [_, _, _], _ => rfl) ?a ?l ?c ?k; (case a => k_is); (case l => k_is); (case c => k_is); (case k => k_is))
    (case d2 => refine' K14.stands_mk (fun _ _ _ _ _ _ us hl => match us, hl with | [_, _], _ => rfl) ?a ?l ?c ?k; (case a => k_is); (case l => k_is); (case c => k_is); (case k => k_is))
    (case d3 => refine' K14.stands_mk (fun _ _ _ _ _ _ us hl => match us, hl with | [_, _, _], _ => rfl) ?a ?l ?c ?k; (case a => k_is); (case l => k_is); (case c => k_is); (case k => k_is))
    (case d4 => refine' K14.stands_mk (fun _ _ _ _ _ _ us hl => match us, hl with | [_, _, _, _], _ => rfl) ?a ?l ?c ?k; (case a => k_is); (case l => k_is); (case c => k_is); (case k => k_is))
    (case d5 => refine' K14.stands_mk (fun _ _ _ _ _ _ us hl => match us, hl with | [_, _], _ => rfl) ?a ?l ?c ?k; (case a => k_is); (case l => k_is); (case c => k_is); (case k => k_is))
    (case d6 => refine' K14.stands_mk (fun _ _ _ _ _ _ us hl => match us, hl with | [_, _], _ => rfl) ?a ?l ?c ?k; (case a => k_is); (case l => k_is); (case c => k_is); (case k => k_is))
    (case d7 => refine' K14.stands_mk (fun _ _ _ _ _ _ us hl => match us, hl with | [_, _], _ => rfl) ?a ?l ?c ?k; (case a => k_is); (case l => k_is); (case c => k_is); (case k => k_is))
    (case d8 => refine' K14.stands_mk (fun _ _ _ _ _ _ us hl => match us, hl with | [_, _, _], _ => rfl) ?a ?l ?c ?k; (case a => k_is); (case l => k_is); (case c => k_is); (case k => k_is))
    (case d9 => refine' K14.stands_mk (fun _ _ _ _ _ _ us hl => match us, hl with | [_, _, _], _ => rfl) ?a ?l ?c ?k; (case a => k_is); (case l => k_is); (case c => k_is); (case k => k_is))
    (case d10 => refine' K14.stands_mk (fun _ _ _ _ _ _ us hl => match us, hl with | [_, _], _ => rfl) ?a ?l ?c ?k; (case a => k_is); (case l => k_is); (case c => k_is); (case k => k_is))
    (case d11 => refine' K14.stands_mk (fun _ _ _ _ _ _ us hl => match us, hl with | [_, _], _ => rfl) ?a ?l ?c ?k; (case a => k_is); (case l => k_is); (case c => k_is); (case k => k_is))
    (case d12 => refine' K14.stands_mk (fun _ _ _ _ _ _ us hl => match us, hl with | [_, _], _ => rfl) ?a ?l ?c ?k; (case a => k_is); (case l => k_is); (case c => k_is); (case k => k_is))
    (case d13 => refine' K14.stands_mk (fun _ _ _ _ _ _ us hl => match us, hl with | [_, _], _ => rfl) ?a ?l ?c ?k; (case a => k_is); (case l => k_is); (case c => k_is); (case k => k_is))
    (case d14 => refine' K14.stands_mk (fun _ _ _ _ _ _ us hl => match us, hl with | [_], _ => rfl) ?a ?l ?c ?k; (case a => k_is); (case l => k_is); (case c => k_is); (case k => k_is))
    (case d15 => refine' K14.stands_mk (fun _ _ _ _ _ _ us hl => match us, hl with | [_, _, _, _], _ => rfl) ?a ?l ?c ?k; (case a => k_is); (case l => k_is); (case c => k_is); (case k => k_is))
    (case d16 => refine' K14.stands_mk (fun _ _ _ _ _ _ us hl => match us, hl with | [_, _, _], _ => rfl) ?a ?l ?c ?k; (case a => k_is); (case l => k_is); (case c => k_is); (case k => k_is))
    (case d17 => refine' K14.stands_mk (fun _ _ _ _ _ _ us hl => match us, hl with | [_, _, _], _ => rfl) ?a ?l ?c ?k; (case a => k_is); (case l => k_is); (case c => k_is); (case k => k_is))
    (case d18 => refine' K14.stands_mk (fun _ _ _ _ _ _ us hl => match us, hl with | [_], _ => rfl) ?a ?l ?c ?k; (case a => k_is); (case l => k_is); (case c => k_is); (case k => k_is))
    (case d19 => refine' K14.stands_mk (fun _ _ _ _ _ _ us hl => match us, hl with | [_, _], _ => rfl) ?a ?l ?c ?k; (case a => k_is); (case l => k_is); (case c => k_is); (case k => k_is))
    (case d20 => refine' K14.stands_mk (fun _ _ _ _ _ _ us hl => match us, hl with | [_, _], _ => rfl) ?a ?l ?c ?k; (case a => k_is); (case l => k_is); (case c => k_is); (case k => k_is))
    (case d21 => refine' K14.stands_mk (fun _ _ _ _ _ _ us hl => match us, hl with | [_], _ => rfl) ?a ?l ?c ?k; (case a => k_is); (case l => k_is); (case c => k_is); (case k => k_is))
    (case d22 => refine' K14.stands_mk (fun _ _ _ _ _ _ us hl => match us, hl with | [_], _ => rfl) ?a ?l ?c ?k; (case a => k_is); (case l => k_is); (case c => k_is); (case k => k_is))
    (case d23 => refine' K14.stands_mk (fun _ _ _ _ _ _ us hl => match us, hl with | [_, _, _], _ => rfl) ?a ?l ?c ?k; (case a => k_is); (case l => k_is); (case c => k_is); (case k => k_is))
    (case d24 => refine' K14.stands_mk (fun _ _ _ _ _ _ us hl => match us, hl with | [_, _, _, _], _ => rfl) ?a ?l ?c ?k; (case a => k_is); (case l => k_is); (case c => k_is); (case k => k_is))
    (case d25 => refine' K14.stands_mk (fun _ _ _ _ _ _ us hl => match us, hl with | [_, _, _, _, _], _ => rfl) ?a ?l ?c ?k; (case a => k_is); (case l => k_is); (case c => k_is); (case k => k_is))
    (case d26 => refine' K14.stands_mk (fun _ _ _ _ _ _ us hl => match us, hl with | [_, _, _], _ => rfl) ?a ?l ?c ?k; (case a => k_is); (case l => k_is); (case c => k_is); (case k => k_is))
    (case aL => k_is)
    (case lL => k_is)
    (case cL => k_is)
    (case kL => k_is)
    (case z1 => k_is)
    (case z2 => k_is)
    (case z3 => k_is)
    (case z4 => k_is)
    (case z5 => k_is)
    (case z6 => k_is)
    (case z7 => k_is)
    (case z8 => k_is)
    (case z9 => k_is)
    (case z10 => k_is)
    (case z11 => k_is)
    (case z12 => k_is)
    (case z13 => k_is)
    (case z14 => k_is)
    (case co => k_is)
    (case cs => k_is)
    (case cf => k_is)
    (case cl => k_is)
    (case ll => k_is)
