import PyProof.Rows.All
import Wide.All
import OpenK.AllK
import Wide.FinOn
import HandS.ForMost
import HandS.IsInst
import HandS.TupSets
import HandS.TupAny
import HandS.TupLe
import HandS.Deep
import HandS.SortOrd
import HandS.SortInts
import HandS.Walk
import HandS.Flow
import HandS.DictTup
import KE.GoesMore
import KE.KDictDisplayH
import KE.KDictCopyH
import KE.KDictWalk
import PySem.Challenge.RW_clockadds_k42_whole_webs_with_the_same_c
import KE.SortData
import KE.KDictSum
set_option linter.all false
set_option maxRecDepth 100000
/-! The plain law: mirrors of the defs as functions of lists, and what holds of them over all webs of 1 to 3 clocks. -/
namespace K42
abbrev Arr := Int × Int
abbrev Dial := List Int

/-! ### sorting -/
def insI (x : Int) : List Int → List Int
  | [] => [x]
  | y :: r => if x ≤ y then x :: y :: r else y :: insI x r
def isort : List Int → List Int
  | [] => []
  | x :: r => insI x (isort r)
def lexLe : Dial → Dial → Bool
  | [], _ => true
  | _ :: _, [] => false
  | x :: r, y :: q => if x = y then lexLe r q else decide (x < y)
def insD (x : Dial) : List Dial → List Dial
  | [] => [x]
  | y :: r => if lexLe x y then x :: y :: r else y :: insD x r
def isortD : List Dial → List Dial
  | [] => []
  | x :: r => insD x (isortD r)

/-! ### mirrors -/
def stepL (here : Int) (st : List Int × List Int) (a : Arr) : List Int × List Int :=
  if a.1 = here ∧ a.2 ∉ st.1 then (st.1 ++ [a.2], st.2 ++ [a.2]) else st
def ledRun : Nat → List Arr → List Int → List Int → Option (List Int)
  | 0, _, _, _ => none
  | m + 1, ar, f, r => match r.getLast? with
    | none => some f
    | some here => ledRun m ar (ar.foldl (stepL here) (f, r.dropLast)).1 (ar.foldl (stepL here) (f, r.dropLast)).2
/-- led_from(web, place) -/
def led (ar : List Arr) (p : Int) : List Int := match ledRun 8 ar [p] [p] with
  | some f => isort f
  | none => []
/-- all of led_from -/
def leds (n : Nat) (ar : List Arr) : List (List Int) := (List.range n).map fun (k : Nat) => led ar k
/-- the law's leads -/
def lawIn (a : Arr) (F : List (List Int)) (k : Nat) : List (List Int) :=
  if a.1 ∈ F.getD k [] ∧ a.2 ∉ F.getD k [] then F.set k (isort (F.getD k [] ++ [a.2])) else F
def lawArr (n : Nat) (F : List (List Int)) (a : Arr) : List (List Int) := (List.range n).foldl (lawIn a) F
def lawTurn (n : Nat) (ar : List Arr) (F : List (List Int)) (_ : Nat) : List (List Int) := ar.foldl (lawArr n) F
def lawLeads (n : Nat) (ar : List Arr) : List (List Int) := (List.range n).foldl (lawTurn n ar) ((List.range n).map fun (k : Nat) => [(k : Int)])
/-- closed_in(web)'s arrows, from the leads -/
def closedK (L : List (List Int)) (k : Nat) : List Arr := ((L.getD k []).filter fun j => decide (j ≠ (k : Int))).map fun j => ((k : Int), j)
def closed (n : Nat) (L : List (List Int)) : List Arr := (List.range n).flatMap (closedK L)
/-- all dials -/
def every (h : Nat) : Nat → List Dial
  | 0 => [[]]
  | n + 1 => (every h n).flatMap fun d => (List.range h).map fun (x : Nat) => d ++ [(x : Int)]
def stepD (h : Int) (d : Dial) (a : Arr) : Dial := d.set a.2.toNat ((d.getD a.2.toNat 0 + d.getD a.1.toNat 0) % h)
def stepF (h : Int) (here : Dial) (st : List Dial × List Dial) (a : Arr) : List Dial × List Dial :=
  if stepD h here a ∈ st.1 then st else (st.1 ++ [stepD h here a], st.2 ++ [stepD h here a])
def rowF (h : Int) (ar : List Arr) (st : List Dial × List Dial) (here : Dial) : List Dial × List Dial := ar.foldl (stepF h here) st
def fromRun : Nat → Int → List Arr → List Dial → List Dial → Option (List Dial)
  | 0, _, _, _, _ => none
  | m + 1, h, ar, ks, [] => some ks
  | m + 1, h, ar, ks, x :: r => fromRun m h ar ((x :: r).foldl (rowF h ar) (ks, [])).1 ((x :: r).foldl (rowF h ar) (ks, [])).2
/-- the keys of _law_from(web, hours, dial) -/
def fromM (h : Nat) (ar : List Arr) (d : Dial) : List Dial := (fromRun 64 h ar [d] [d]).getD []
def seeD (seen : List Dial) (t : Dial) : List Dial := if t ∈ seen then seen else seen ++ [t]
def clsIn (h : Nat) (ar : List Arr) (st : List Dial × List (List Dial)) (d : Dial) : List Dial × List (List Dial) :=
  if d ∈ st.1 then st else ((isortD (fromM h ar d)).foldl seeD st.1, st.2 ++ [isortD (fromM h ar d)])
/-- _law_classes(web, hours) -/
def classes (n h : Nat) (ar : List Arr) : List (List Dial) := ((every h n).foldl (clsIn h ar) ([], [])).2

/-! ### all webs of n clocks -/
def allArr (n : Nat) : List Arr := (List.range n).flatMap fun (u : Nat) => ((List.range n).filter fun v => decide (v ≠ u)).map fun (v : Nat) => ((u : Int), (v : Int))
def subs {α : Type} : List α → List (List α)
  | [] => [[]]
  | x :: r => (subs r) ++ (subs r).map (x :: ·)
def webs (n : Nat) : List (List Arr) := subs (allArr n)

def hd (c : List Dial) : Dial := c.headD []
def ascD : List Dial → Bool
  | x :: y :: r => lexLe x y && decide (x ≠ y) && ascD (y :: r)
  | _ => true
/-- the dial that shows 1 at u (and at v) -/
def eD (n : Nat) (u v : Nat) : Dial := (List.range n).map fun k => if k = u ∨ k = v then 1 else 0
/-- the leads, read back from the classes -/
def back (n : Nat) (C : List (List Dial)) : List (List Int) := (List.range n).map fun u => ((List.range n).filter fun v => u == v || C.any fun c => c.contains (eD n u u) && c.contains (eD n u v)).map fun (v : Nat) => (v : Int)
def chk (n h : Nat) (ar : List Arr) : Bool :=
  let C := classes n h ar
  decide (back n C = leds n ar) && ascD (C.map hd) && C.all (fun c => decide (c ≠ []) && decide (c.length < 64)) && decide (C = classes n h (closed n (leds n ar)))
end K42
set_option linter.all false
set_option maxRecDepth 100000
set_option maxHeartbeats 4000000
namespace K42
/-! ### the classes by masks: a fast run for the kernel -/
def stepB (sN : Nat → Arr → Nat) (t : Nat) (st : Nat × List Nat) (a : Arr) : Nat × List Nat :=
  if st.1.testBit (sN t a) = true then st else (st.1 ||| (1 <<< sN t a), sN t a :: st.2)
def rowB (sN : Nat → Arr → Nat) (ar : List Arr) (st : Nat × List Nat) (t : Nat) : Nat × List Nat := ar.foldl (stepB sN t) st
def fromB (sN : Nat → Arr → Nat) (ar : List Arr) : Nat → Nat → List Nat → Option Nat
  | 0, _, _ => none
  | _ + 1, M, [] => some M
  | m + 1, M, x :: r => fromB sN ar m ((x :: r).foldl (rowB sN ar) (M, [])).1 ((x :: r).foldl (rowB sN ar) (M, [])).2.reverse
def bits (N M : Nat) : List Nat := (List.range N).filter fun t => M.testBit t
def runB (sN : Nat → Arr → Nat) (ar : List Arr) (N : Nat) : List Nat → Nat → List Nat → Option (List Nat)
  | [], _, ms => some ms
  | t :: l, S, ms => if S.testBit t = true then runB sN ar N l S ms else match fromB sN ar 64 (1 <<< t) [t] with
    | some M => if (bits N M).length < 64 then runB sN ar N l (S ||| M) (ms ++ [M]) else none
    | none => none
/-- all runs that the classes' loop asks for come to an end, below 64 dials each -/
def clsGood (h : Nat) (ar : List Arr) : List Dial → List Dial × List (List Dial) → Prop
  | [], _ => True
  | d :: l, st => (d ∉ st.1 → ∃ ks, fromRun 64 h ar [d] [d] = some ks ∧ ks.length < 64) ∧ clsGood h ar l (clsIn h ar st d)

theorem tb_or (M s t : Nat) : (M ||| (1 <<< s)).testBit t = (M.testBit t || decide (s = t)) := by
  rw [Nat.testBit_or, Nat.one_shiftLeft, Nat.testBit_two_pow]

/-- f is the t-th dial; sN the step upon numbers -/
structure Tie (h : Int) (ar : List Arr) (f : Nat → Dial) (sN : Nat → Arr → Nat) (N : Nat) : Prop where
  step : ∀ t, t < N → ∀ a ∈ ar, stepD h (f t) a = f (sN t a)
  lt : ∀ t, t < N → ∀ a ∈ ar, sN t a < N
  le : ∀ t s, t < N → s < N → lexLe (f t) (f s) = decide (t ≤ s)
section
variable {h : Int} {ar : List Arr} {f : Nat → Dial} {sN : Nat → Arr → Nat} {N : Nat}
theorem Tie.inj (T : Tie h ar f sN N) {t s : Nat} (ht : t < N) (hs : s < N) (e : f t = f s) : t = s := by
  have a := T.le t s ht hs
  have b := T.le s t hs ht
  have c := T.le t t ht ht
  rw [← e, c] at a
  rw [← e, c] at b
  have a' : t ≤ s := by simpa using a.symm
  have b' : s ≤ t := by simpa using b.symm
  omega
/-- the list's members are the mask's bits -/
structure Ks (f : Nat → Dial) (N : Nat) (ks : List Dial) (M : Nat) : Prop where
  nd : ks.Nodup
  bd : ∀ t, M.testBit t = true → t < N
  mem : ∀ d, d ∈ ks ↔ ∃ t, M.testBit t = true ∧ d = f t
theorem Ks.iff (T : Tie h ar f sN N) {ks : List Dial} {M t : Nat} (K : Ks f N ks M) (ht : t < N) : f t ∈ ks ↔ M.testBit t = true := by
  rw [K.mem]
  constructor
  · rintro ⟨s, hs, e⟩
    rw [T.inj ht (K.bd s hs) e]
    exact hs
  · exact fun hb => ⟨t, hb, rfl⟩
theorem Ks.add (T : Tie h ar f sN N) {ks : List Dial} {M t : Nat} (K : Ks f N ks M) (ht : t < N) (hn : ¬ f t ∈ ks) : Ks f N (ks ++ [f t]) (M ||| (1 <<< t)) := by
  refine ⟨?_, fun s hs => ?_, fun d => ?_⟩
  · rw [List.nodup_append]
    refine ⟨K.nd, List.nodup_cons.mpr ⟨List.not_mem_nil, List.nodup_nil⟩, fun a ha b hb => ?_⟩
    rw [List.mem_singleton.mp hb]
    exact fun e => hn (e ▸ ha)
  · rw [tb_or, Bool.or_eq_true] at hs
    rcases hs with hs | hs
    · exact K.bd s hs
    · rw [← of_decide_eq_true hs]
      exact ht
  · rw [List.mem_append, K.mem, List.mem_singleton]
    constructor
    · rintro (⟨s, hs, e⟩ | e)
      · exact ⟨s, by rw [tb_or, hs]; rfl, e⟩
      · exact ⟨t, by rw [tb_or, decide_eq_true rfl, Bool.or_true], e⟩
    · rintro ⟨s, hs, e⟩
      rw [tb_or, Bool.or_eq_true] at hs
      rcases hs with hs | hs
      · exact .inl ⟨s, hs, e⟩
      · exact .inr (by rw [e, of_decide_eq_true hs])
/-- the state of a row of steps -/
structure Rw (f : Nat → Dial) (N : Nat) (st : List Dial × List Dial) (sb : Nat × List Nat) : Prop where
  ks : Ks f N st.1 sb.1
  more : st.2 = (sb.2.map f).reverse
  lt : ∀ t ∈ sb.2, t < N
theorem stepB_ok (T : Tie h ar f sN N) {t : Nat} (ht : t < N) {st : List Dial × List Dial} {sb : Nat × List Nat} (R : Rw f N st sb) {a : Arr} (ha : a ∈ ar) : Rw f N (stepF h (f t) st a) (stepB sN t sb a) := by
  unfold stepF stepB
  rw [T.step t ht a ha]
  have hl := T.lt t ht a ha
  have hi := R.ks.iff T hl
  by_cases hm : f (sN t a) ∈ st.1
  · rw [if_pos hm, if_pos (hi.mp hm)]
    exact R
  · rw [if_neg hm, if_neg (fun z => hm (hi.mpr z))]
    refine ⟨R.ks.add T hl hm, ?_, fun s hs => ?_⟩
    · show st.2 ++ [f (sN t a)] = ((sN t a :: sb.2).map f).reverse
      rw [List.map_cons, List.reverse_cons, R.more]
    · rcases List.mem_cons.mp hs with e | hs
      · rw [e]; exact hl
      · exact R.lt s hs
theorem foldB_ok (T : Tie h ar f sN N) {t : Nat} (ht : t < N) : ∀ (br : List Arr) (st : List Dial × List Dial) (sb : Nat × List Nat), (∀ a ∈ br, a ∈ ar) → Rw f N st sb → Rw f N (br.foldl (stepF h (f t)) st) (br.foldl (stepB sN t) sb)
  | [], _, _, _, R => R
  | a :: br, st, sb, hb, R => foldB_ok T ht br _ _ (fun c hc => hb c (List.mem_cons_of_mem _ hc)) (stepB_ok T ht R (hb a List.mem_cons_self))
theorem rowsB_ok (T : Tie h ar f sN N) : ∀ (rn : List Nat) (st : List Dial × List Dial) (sb : Nat × List Nat), (∀ t ∈ rn, t < N) → Rw f N st sb → Rw f N ((rn.map f).foldl (rowF h ar) st) (rn.foldl (rowB sN ar) sb)
  | [], _, _, _, R => R
  | t :: rn, st, sb, hb, R => rowsB_ok T rn _ _ (fun c hc => hb c (List.mem_cons_of_mem _ hc)) (foldB_ok T (hb t List.mem_cons_self) ar _ _ (fun _ x => x) R)
theorem fromB_ok (T : Tie h ar f sN N) : ∀ (m : Nat) (ks : List Dial) (M : Nat) (rn : List Nat) (M' : Nat), Ks f N ks M → (∀ t ∈ rn, t < N) → fromB sN ar m M rn = some M' → ∃ ks', fromRun m h ar ks (rn.map f) = some ks' ∧ Ks f N ks' M'
  | 0, _, _, _, _, _, _, e => nomatch e
  | m + 1, ks, M, [], M', K, _, e => ⟨ks, rfl, by cases e; exact K⟩
  | m + 1, ks, M, x :: r, M', K, hr, e => by
    have R := rowsB_ok T (x :: r) (ks, []) (M, []) hr ⟨K, rfl, fun _ z => nomatch z⟩
    have e' : fromB sN ar m ((x :: r).foldl (rowB sN ar) (M, [])).1 ((x :: r).foldl (rowB sN ar) (M, [])).2.reverse = some M' := e
    obtain ⟨ks', h1, h2⟩ := fromB_ok T m _ _ _ M' R.ks (fun t ht => R.lt t (List.mem_reverse.mp ht)) e'
    refine ⟨ks', ?_, h2⟩
    rw [List.map_reverse, ← R.more] at h1
    exact h1
/-! ### sorting -/
theorem lexLe_total : ∀ (a b : Dial), lexLe a b = true ∨ lexLe b a = true
  | [], _ => .inl (by cases ‹Dial› <;> rfl)
  | _ :: _, [] => .inr rfl
  | x :: r, y :: q => by
    unfold lexLe
    by_cases e : x = y
    · subst e
      simp only [if_true]
      exact lexLe_total r q
    · rw [if_neg e, if_neg (Ne.symm e), decide_eq_true_eq, decide_eq_true_eq]
      omega
theorem lexLe_trans : ∀ (a b c : Dial), lexLe a b = true → lexLe b c = true → lexLe a c = true
  | [], _, _, _, _ => by cases ‹Dial› <;> rfl
  | _ :: _, [], _, h, _ => nomatch h
  | _ :: _, _ :: _, [], _, h => nomatch h
  | x :: r, y :: q, z :: p, h1, h2 => by
    unfold lexLe at h1 h2 ⊢
    by_cases e : x = y
    · subst e
      rw [if_pos rfl] at h1
      by_cases e2 : x = z
      · rw [if_pos e2] at h2 ⊢
        exact lexLe_trans r q p h1 h2
      · rw [if_neg e2] at h2 ⊢
        exact h2
    · rw [if_neg e, decide_eq_true_eq] at h1
      by_cases e2 : y = z
      · subst e2
        rw [if_neg (by omega), decide_eq_true_eq]
        exact h1
      · rw [if_neg e2, decide_eq_true_eq] at h2
        rw [if_neg (by omega), decide_eq_true_eq]
        omega
theorem lexLe_anti : ∀ (a b : Dial), lexLe a b = true → lexLe b a = true → a = b
  | [], [], _, _ => rfl
  | [], _ :: _, _, h => nomatch h
  | _ :: _, [], h, _ => nomatch h
  | x :: r, y :: q, h1, h2 => by
    unfold lexLe at h1 h2
    by_cases e : x = y
    · subst e
      rw [if_pos rfl] at h1 h2
      rw [lexLe_anti r q h1 h2]
    · rw [if_neg e, decide_eq_true_eq] at h1
      rw [if_neg (Ne.symm e), decide_eq_true_eq] at h2
      omega
theorem insD_perm (x : Dial) : ∀ l : List Dial, (insD x l).Perm (x :: l)
  | [] => .refl _
  | y :: r => by
    unfold insD
    by_cases h : lexLe x y = true
    · rw [if_pos h]
    · rw [if_neg h]
      exact ((insD_perm x r).cons y).trans (.swap x y r)
theorem isortD_perm : ∀ l : List Dial, (isortD l).Perm l
  | [] => .refl _
  | x :: r => (insD_perm x (isortD r)).trans ((isortD_perm r).cons x)
theorem insD_sorted (x : Dial) : ∀ l : List Dial, l.Pairwise (fun a b => lexLe a b = true) → (insD x l).Pairwise (fun a b => lexLe a b = true)
  | [], _ => List.pairwise_singleton _ _
  | y :: r, h => by
    unfold insD
    obtain ⟨h1, h2⟩ := List.pairwise_cons.mp h
    by_cases e : lexLe x y = true
    · rw [if_pos e]
      refine List.pairwise_cons.mpr ⟨fun z hz => ?_, h⟩
      rcases List.mem_cons.mp hz with q | hz
      · rw [q]; exact e
      · exact lexLe_trans _ _ _ e (h1 z hz)
    · rw [if_neg e]
      refine List.pairwise_cons.mpr ⟨fun z hz => ?_, insD_sorted x r h2⟩
      rcases List.mem_cons.mp ((insD_perm x r).mem_iff.mp hz) with q | hz
      · rw [q]
        exact (lexLe_total y x).resolve_right e
      · exact h1 z hz
theorem isortD_sorted : ∀ l : List Dial, (isortD l).Pairwise (fun a b => lexLe a b = true)
  | [] => .nil
  | x :: r => insD_sorted x _ (isortD_sorted r)
/-- two sorted lists with the same items are one -/
theorem sorted_one {α : Type} {le : α → α → Prop} (an : ∀ a b, le a b → le b a → a = b) : ∀ {l m : List α}, l.Perm m → l.Pairwise le → m.Pairwise le → l = m
  | [], m, p, _, _ => by rw [List.Perm.nil_eq p]
  | x :: r, [], p, _, _ => absurd p.length_eq (by simp)
  | x :: r, y :: q, p, h1, h2 => by
    have e : x = y := by
      rcases List.mem_cons.mp (p.mem_iff.mp (List.mem_cons_self : x ∈ x :: r)) with e | hx
      · exact e
      · rcases List.mem_cons.mp (p.mem_iff.mpr (List.mem_cons_self : y ∈ y :: q)) with e | hy
        · exact e.symm
        · exact an _ _ ((List.pairwise_cons.mp h1).1 y hy) ((List.pairwise_cons.mp h2).1 x hx)
    subst e
    rw [sorted_one an p.cons_inv (List.pairwise_cons.mp h1).2 (List.pairwise_cons.mp h2).2]
theorem isortD_one {l m : List Dial} (p : m.Perm l) (h : m.Pairwise (fun a b => lexLe a b = true)) : isortD l = m :=
  sorted_one lexLe_anti ((isortD_perm l).trans p.symm) (isortD_sorted l) h
theorem perm_nodup {α : Type} [DecidableEq α] {l m : List α} (hl : l.Nodup) (hm : m.Nodup) (e : ∀ x, x ∈ l ↔ x ∈ m) : l.Perm m :=
  (List.perm_ext_iff_of_nodup hl hm).mpr e
theorem bits_asc (N M : Nat) : (bits N M).Pairwise (· < ·) := (List.pairwise_lt_range).filter _
theorem bits_mem {N M t : Nat} : t ∈ bits N M ↔ t < N ∧ M.testBit t = true := by
  unfold bits
  rw [List.mem_filter, List.mem_range]
theorem Ks.sorted (T : Tie h ar f sN N) {ks : List Dial} {M : Nat} (K : Ks f N ks M) : isortD ks = (bits N M).map f := by
  have hlt : ∀ t ∈ bits N M, t < N := fun t ht => (bits_mem.mp ht).1
  refine isortD_one (perm_nodup ?_ K.nd fun d => ?_) ?_
  · rw [List.Nodup, List.pairwise_map]
    refine (bits_asc N M).imp_of_mem fun {a b} ha hb hab e => ?_
    exact absurd (T.inj (hlt a ha) (hlt b hb) e) (Nat.ne_of_lt hab)
  · rw [K.mem, List.mem_map]
    constructor
    · rintro ⟨t, ht, e⟩
      exact ⟨t, (bits_mem.mp ht).2, e.symm⟩
    · rintro ⟨t, ht, e⟩
      exact ⟨t, bits_mem.mpr ⟨K.bd t ht, ht⟩, e.symm⟩
  · rw [List.pairwise_map]
    refine (bits_asc N M).imp_of_mem fun {a b} ha hb hab => ?_
    rw [T.le a b (hlt a ha) (hlt b hb)]
    exact decide_eq_true (Nat.le_of_lt hab)
theorem Ks.len {ks : List Dial} {M : Nat} (T : Tie h ar f sN N) (K : Ks f N ks M) : ks.length = (bits N M).length := by
  rw [← (isortD_perm ks).length_eq, K.sorted T, List.length_map]
/-! ### the classes -/
theorem tb_or2 (M s t : Nat) : (M ||| s).testBit t = (M.testBit t || s.testBit t) := Nat.testBit_or ..
theorem seeD_ok (T : Tie h ar f sN N) : ∀ (l : List Nat) (ks : List Dial) (M : Nat), (∀ t ∈ l, t < N) → Ks f N ks M → ∃ M', Ks f N ((l.map f).foldl seeD ks) M' ∧ ∀ s, M'.testBit s = true ↔ (M.testBit s = true ∨ s ∈ l)
  | [], ks, M, _, K => ⟨M, K, fun s => ⟨.inl, fun z => z.elim id fun q => nomatch q⟩⟩
  | t :: l, ks, M, hl, K => by
    have ht := hl t List.mem_cons_self
    have hi := K.iff T ht
    rw [List.map_cons, List.foldl_cons]
    unfold seeD
    by_cases hm : f t ∈ ks
    · rw [if_pos hm]
      obtain ⟨M', K', e⟩ := seeD_ok T l ks M (fun s hs => hl s (List.mem_cons_of_mem _ hs)) K
      refine ⟨M', K', fun s => ?_⟩
      rw [e s, List.mem_cons]
      constructor
      · rintro (z | z)
        · exact .inl z
        · exact .inr (.inr z)
      · rintro (z | z | z)
        · exact .inl z
        · rw [z]; exact .inl (hi.mp hm)
        · exact .inr z
    · rw [if_neg hm]
      obtain ⟨M', K', e⟩ := seeD_ok T l _ _ (fun s hs => hl s (List.mem_cons_of_mem _ hs)) (K.add T ht hm)
      refine ⟨M', K', fun s => ?_⟩
      rw [e s, tb_or, List.mem_cons, Bool.or_eq_true, decide_eq_true_eq]
      constructor
      · rintro ((z | z) | z)
        · exact .inl z
        · exact .inr (.inl z.symm)
        · exact .inr (.inr z)
      · rintro (z | z | z)
        · exact .inl (.inl z)
        · exact .inl (.inr z.symm)
        · exact .inr z
theorem ks_same {ks : List Dial} {M M' : Nat} (K : Ks f N ks M) (e : ∀ s, M.testBit s = true ↔ M'.testBit s = true) : Ks f N ks M' :=
  ⟨K.nd, fun t ht => K.bd t ((e t).mpr ht), fun d => by
    rw [K.mem]
    exact ⟨fun ⟨t, a, b⟩ => ⟨t, (e t).mp a, b⟩, fun ⟨t, a, b⟩ => ⟨t, (e t).mpr a, b⟩⟩⟩
theorem ks_one {t : Nat} (ht : t < N) : Ks f N [f t] (1 <<< t) := by
  have e : ∀ s, (1 <<< t).testBit s = decide (t = s) := fun s => by rw [Nat.one_shiftLeft, Nat.testBit_two_pow]
  refine ⟨List.nodup_cons.mpr ⟨List.not_mem_nil, List.nodup_nil⟩, fun s hs => ?_, fun d => ?_⟩
  · rw [e] at hs
    rw [← of_decide_eq_true hs]
    exact ht
  · rw [List.mem_singleton]
    constructor
    · exact fun q => ⟨t, by rw [e]; exact decide_eq_true rfl, q⟩
    · rintro ⟨s, hs, q⟩
      rw [e] at hs
      rw [q, of_decide_eq_true hs]
structure Cl (f : Nat → Dial) (N : Nat) (st : List Dial × List (List Dial)) (S : Nat) (ms : List Nat) : Prop where
  ks : Ks f N st.1 S
  cl : st.2 = ms.map fun M => (bits N M).map f
theorem runB_ok {h : Nat} (T : Tie h ar f sN N) : ∀ (l : List Nat) (st : List Dial × List (List Dial)) (S : Nat) (ms ms' : List Nat), (∀ t ∈ l, t < N) → Cl f N st S ms → runB sN ar N l S ms = some ms' →
    clsGood h ar (l.map f) st ∧ ((l.map f).foldl (clsIn h ar) st).2 = ms'.map fun M => (bits N M).map f
  | [], st, S, ms, ms', _, C, e => by
    have e' : some ms = some ms' := e
    cases e'
    exact ⟨trivial, C.cl⟩
  | t :: l, st, S, ms, ms', hl, C, e => by
    have ht := hl t List.mem_cons_self
    have hl' : ∀ s ∈ l, s < N := fun s hs => hl s (List.mem_cons_of_mem _ hs)
    have hi := C.ks.iff T ht
    rw [List.map_cons, List.foldl_cons]
    unfold runB at e
    by_cases hm : f t ∈ st.1
    · rw [if_pos (hi.mp hm)] at e
      have ec : clsIn h ar st (f t) = st := by
        unfold clsIn
        rw [if_pos hm]
      obtain ⟨g, q⟩ := runB_ok T l st S ms ms' hl' C e
      refine ⟨⟨fun z => absurd hm z, ?_⟩, ?_⟩
      · rw [ec]; exact g
      · rw [ec]; exact q
    · rw [if_neg (fun z => hm (hi.mpr z))] at e
      cases hM : fromB sN ar 64 (1 <<< t) [t] with
      | none =>
        rw [hM] at e
        exact nomatch e
      | some M =>
        rw [hM] at e
        have e : (if (bits N M).length < 64 then runB sN ar N l (S ||| M) (ms ++ [M]) else none) = some ms' := e
        by_cases h64 : (bits N M).length < 64
        · rw [if_pos h64] at e
          obtain ⟨ks, h1, h3⟩ := fromB_ok T 64 [f t] (1 <<< t) [t] M (ks_one ht) (fun s hs => by rw [List.mem_singleton.mp hs]; exact ht) hM
          have e1 : isortD (fromM h ar (f t)) = (bits N M).map f := by
            unfold fromM
            rw [show fromRun 64 h ar [f t] [f t] = some ks from h1]
            exact h3.sorted T
          obtain ⟨M', K', q⟩ := seeD_ok T (bits N M) st.1 S (fun s hs => (bits_mem.mp hs).1) C.ks
          have C' : Cl f N (clsIn h ar st (f t)) (S ||| M) (ms ++ [M]) := by
            have ec : clsIn h ar st (f t) = (((bits N M).map f).foldl seeD st.1, st.2 ++ [(bits N M).map f]) := by
              unfold clsIn
              rw [if_neg hm, e1]
            rw [ec]
            refine ⟨ks_same K' fun s => ?_, ?_⟩
            · rw [q s, tb_or2, Bool.or_eq_true, bits_mem]
              exact ⟨fun z => z.elim .inl fun w => .inr w.2, fun z => z.elim .inl fun w => .inr ⟨h3.bd s w, w⟩⟩
            · show st.2 ++ [_] = (ms ++ [M]).map _
              rw [List.map_append, C.cl]
              rfl
          obtain ⟨g, q2⟩ := runB_ok T l _ _ _ ms' hl' C' e
          exact ⟨⟨fun _ => ⟨ks, h1, by rw [h3.len T]; exact h64⟩, g⟩, q2⟩
        · rw [if_neg h64] at e
          exact nomatch e
theorem masks_ok {h n : Nat} {ms : List Nat} (T : Tie h ar f sN N) (ev : every h n = (List.range N).map f) (e : runB sN ar N (List.range N) 0 [] = some ms) :
    clsGood h ar (every h n) ([], []) ∧ classes n h ar = ms.map fun M => (bits N M).map f := by
  unfold classes
  rw [ev]
  exact runB_ok T (List.range N) ([], []) 0 [] ms (fun t ht => List.mem_range.mp ht) ⟨⟨List.nodup_nil, (fun t ht => by rw [Nat.zero_testBit] at ht; exact nomatch ht), (fun d => ⟨(fun z => nomatch z), (fun ⟨t, ht, _⟩ => by rw [Nat.zero_testBit] at ht; exact nomatch ht)⟩)⟩, rfl⟩ e
end
end K42
set_option linter.all false
set_option maxRecDepth 100000
set_option maxHeartbeats 4000000
set_option Elab.async false
namespace K42
/-! ### the dials by number -/
def fD (n h : Nat) (t : Nat) : Dial := (every h n).getD t []
def pw (n h : Nat) (u : Int) : Nat := h ^ (n - 1 - u.toNat)
def sD (n h : Nat) (t : Nat) (a : Arr) : Nat :=
  t - (t / pw n h a.2 % h) * pw n h a.2 + ((t / pw n h a.2 % h + t / pw n h a.1 % h) % h) * pw n h a.2
def tieB (n h : Nat) : Bool :=
  decide (every h n = (List.range (h ^ n)).map (fD n h)) &&
  ((List.range (h ^ n)).all fun t => (allArr n).all fun a => decide (stepD h (fD n h t) a = fD n h (sD n h t a)) && decide (sD n h t a < h ^ n)) &&
  ((List.range (h ^ n)).all fun t => (List.range (h ^ n)).all fun s => lexLe (fD n h t) (fD n h s) == decide (t ≤ s))
theorem tie_ok {n h : Nat} {ar : List Arr} (e : tieB n h = true) (ha : ∀ a ∈ ar, a ∈ allArr n) : Tie h ar (fD n h) (sD n h) (h ^ n) ∧ every h n = (List.range (h ^ n)).map (fD n h) := by
  unfold tieB at e
  rw [Bool.and_eq_true, Bool.and_eq_true] at e
  obtain ⟨⟨e1, e2⟩, e3⟩ := e
  refine ⟨⟨fun t ht a hm => ?_, fun t ht a hm => ?_, fun t s ht hs => ?_⟩, of_decide_eq_true e1⟩
  · have q := List.all_eq_true.mp (List.all_eq_true.mp e2 t (List.mem_range.mpr ht)) a (ha a hm)
    rw [Bool.and_eq_true] at q
    exact of_decide_eq_true q.1
  · have q := List.all_eq_true.mp (List.all_eq_true.mp e2 t (List.mem_range.mpr ht)) a (ha a hm)
    rw [Bool.and_eq_true] at q
    exact of_decide_eq_true q.2
  · have q := List.all_eq_true.mp (List.all_eq_true.mp e3 t (List.mem_range.mpr ht)) s (List.mem_range.mpr hs)
    exact eq_of_beq q
/-- the leads, read back from the classes' numbers -/
def one (n h : Nat) (u v : Nat) : Nat := if u = v then h ^ (n - 1 - u) else h ^ (n - 1 - u) + h ^ (n - 1 - v)
def backB (n h : Nat) (C : List (List Nat)) : List (List Int) := (List.range n).map fun u => ((List.range n).filter fun v => u == v || C.any fun c => c.contains (one n h u u) && c.contains (one n h u v)).map fun (v : Nat) => (v : Int)
def ascB : List Nat → Bool
  | x :: y :: r => decide (x < y) && ascB (y :: r)
  | _ => true
def mB (n h : Nat) (ar : List Arr) : Option (List Nat) := runB (sD n h) ar (h ^ n) (List.range (h ^ n)) 0 []
def chkB (n h : Nat) (ar : List Arr) : Bool := match mB n h ar with
  | none => false
  | some ms => decide (backB n h (ms.map (bits (h ^ n))) = leds n ar) && ascB (ms.map fun M => (bits (h ^ n) M).headD 0) && ms.all (fun M => decide (bits (h ^ n) M ≠ [])) && decide (mB n h (closed n (leds n ar)) = some ms)
/-! ### a web's leads -/
def ledsB (n : Nat) (ar : List Arr) : Bool := (List.range n).all fun k => (ledRun 8 ar [(k : Int)] [(k : Int)]).isSome && (led ar k).all (fun j => decide (0 ≤ j) && decide (j < (n : Int))) && decide ((k : Int) ∈ led ar k) && decide ((led ar k).length ≤ 3)
structure WOk (n : Nat) (ar : List Arr) : Prop where
  n1 : 1 ≤ n
  n3 : n ≤ 3
  mem : ar ∈ webs n
theorem webs_leds : ((webs 1).all (ledsB 1) && (webs 2).all (ledsB 2) && (webs 3).all (ledsB 3)) = true := by decide +kernel
def arrsB (n : Nat) (ar : List Arr) : Bool := decide (ar.length ≤ 6) && ar.all fun a => decide (0 ≤ a.1 ∧ a.1 < (n : Int) ∧ 0 ≤ a.2 ∧ a.2 < (n : Int) ∧ a.1 ≠ a.2) && decide (a ∈ allArr n)
theorem webs_arrs : ((webs 1).all (arrsB 1) && (webs 2).all (arrsB 2) && (webs 3).all (arrsB 3)) = true := by decide +kernel
def ascA : List Arr → Bool
  | x :: y :: r => (decide (x.1 < y.1) || (decide (x.1 = y.1) && decide (x.2 < y.2))) && ascA (y :: r)
  | _ => true
theorem webs_asc : ((webs 1).all ascA && (webs 2).all ascA && (webs 3).all ascA) = true := by decide +kernel
theorem all3 {p : Nat → List Arr → Bool} (h : ((webs 1).all (p 1) && (webs 2).all (p 2) && (webs 3).all (p 3)) = true) {n : Nat} {ar : List Arr} (W : WOk n ar) : p n ar = true := by
  rw [Bool.and_eq_true, Bool.and_eq_true] at h
  obtain ⟨n1, n3, m⟩ := W
  have e : n = 1 ∨ n = 2 ∨ n = 3 := by omega
  rcases e with e | e | e
  · subst e; exact List.all_eq_true.mp h.1.1 ar m
  · subst e; exact List.all_eq_true.mp h.1.2 ar m
  · subst e; exact List.all_eq_true.mp h.2 ar m
section
variable {n : Nat} {ar : List Arr}
theorem WOk.leds (W : WOk n ar) {k : Nat} (hk : k < n) : (∃ f, ledRun 8 ar [(k : Int)] [(k : Int)] = some f) ∧ (∀ j ∈ led ar k, 0 ≤ j ∧ j < (n : Int)) ∧ (k : Int) ∈ led ar k ∧ (led ar k).length ≤ 3 := by
  have h := all3 webs_leds W
  unfold ledsB at h
  have q := List.all_eq_true.mp h k (List.mem_range.mpr hk)
  rw [Bool.and_eq_true, Bool.and_eq_true, Bool.and_eq_true] at q
  obtain ⟨⟨⟨a, b⟩, c⟩, d⟩ := q
  refine ⟨Option.isSome_iff_exists.mp a, fun j hj => ?_, of_decide_eq_true c, of_decide_eq_true d⟩
  have z := List.all_eq_true.mp b j hj
  rw [Bool.and_eq_true, decide_eq_true_eq, decide_eq_true_eq] at z
  exact z
theorem WOk.few (W : WOk n ar) : ar.length ≤ 6 := by
  have h := all3 webs_arrs W
  unfold arrsB at h
  rw [Bool.and_eq_true] at h
  exact of_decide_eq_true h.1
theorem WOk.arr (W : WOk n ar) {a : Arr} (ha : a ∈ ar) : (0 ≤ a.1 ∧ a.1 < (n : Int) ∧ 0 ≤ a.2 ∧ a.2 < (n : Int) ∧ a.1 ≠ a.2) ∧ a ∈ allArr n := by
  have h := all3 webs_arrs W
  unfold arrsB at h
  rw [Bool.and_eq_true] at h
  have q := List.all_eq_true.mp h.2 a ha
  rw [Bool.and_eq_true] at q
  exact ⟨of_decide_eq_true q.1, of_decide_eq_true q.2⟩
theorem leds_get {k : Nat} (hk : k < n) : (leds n ar).getD k [] = led ar k := by
  unfold leds
  rw [List.getD_eq_getElem?_getD, List.getElem?_map, List.getElem?_range hk]
  rfl
end
/-! ### marks, from the leads -/
def aboveM (n : Nat) (L : List (List Int)) (p : Nat) : List Int := ((List.range n).filter fun k => decide ((p : Int) ∈ L.getD k []) && !decide ((k : Int) ∈ L.getD p [])).map fun (k : Nat) => (k : Int)
def partOf (L : List (List Int)) (k : Nat) : List Int := (L.getD k []).filter fun j => decide ((k : Int) ∈ L.getD j.toNat [])
def addPart (L : List (List Int)) (acc : List (List Int)) (k : Nat) : List (List Int) := if partOf L k ∈ acc then acc else acc ++ [partOf L k]
def partsM (n : Nat) (L : List (List Int)) : List (List Int) := (List.range n).foldl (addPart L) []
def gcdS (dl : List Int) (f : Int) (k : Int) : Int := (Int.gcd f (dl.getD k.toNat 0) : Nat)
def flowM (n : Nat) (L : List (List Int)) (h : Int) (dl : List Int) (p : Nat) : Int := (aboveM n L p).foldl (gcdS dl) h
def markM (n : Nat) (L : List (List Int)) (h : Int) (dl : List Int) (part : List Int) : List Int :=
  if part.length = 1 then [flowM n L h dl (part.headD 0).toNat, dl.getD (part.headD 0).toNat 0 % flowM n L h dl (part.headD 0).toNat]
  else [flowM n L h dl (part.headD 0).toNat, part.foldl (gcdS dl) (flowM n L h dl (part.headD 0).toNat)]
def marksM (n : Nat) (L : List (List Int)) (h : Int) (dl : List Int) : List (List Int) := (partsM n L).map (markM n L h dl)
def partsB (n : Nat) (ar : List Arr) : Bool := (partsM n (leds n ar)).all (fun p => decide (p ≠ []) && p.all fun j => decide (0 ≤ j ∧ j < (n : Int)))
theorem webs_parts : ((webs 1).all (partsB 1) && (webs 2).all (partsB 2) && (webs 3).all (partsB 3)) = true := by decide +kernel
theorem WOk.parts {n : Nat} {ar : List Arr} (W : WOk n ar) {p : List Int} (hp : p ∈ partsM n (K42.leds n ar)) : p ≠ [] ∧ ∀ j ∈ p, 0 ≤ j ∧ j < (n : Int) := by
  have h := all3 webs_parts W
  unfold partsB at h
  have q := List.all_eq_true.mp h p hp
  rw [Bool.and_eq_true] at q
  exact ⟨of_decide_eq_true q.1, fun j hj => of_decide_eq_true (List.all_eq_true.mp q.2 j hj)⟩
theorem partsM_len (L : List (List Int)) : ∀ (l : List Nat) (acc : List (List Int)), (l.foldl (addPart L) acc).length ≤ acc.length + l.length
  | [], acc => by simp
  | k :: l, acc => by
    have ih := partsM_len L l (addPart L acc k)
    have h1 : (addPart L acc k).length ≤ acc.length + 1 := by
      unfold addPart
      split
      · exact Nat.le_succ _
      · simp
    simp only [List.foldl_cons, List.length_cons]
    omega
theorem gcdS_pos {dl : List Int} {f k : Int} (h : 0 < f) : 0 < gcdS dl f k := by
  unfold gcdS
  have : 0 < Int.gcd f (dl.getD k.toNat 0) := Nat.pos_of_ne_zero fun z => by
    have := (Int.gcd_eq_zero_iff.mp z).1
    omega
  omega
theorem foldG_pos {dl : List Int} : ∀ (l : List Int) {f : Int}, 0 < f → 0 < l.foldl (gcdS dl) f
  | [], _, h => h
  | _ :: l, _, h => foldG_pos l (gcdS_pos h)
end K42
set_option linter.all false
set_option maxRecDepth 100000
set_option maxHeartbeats 4000000
set_option Elab.async false
namespace K42
/-! ### what holds over all webs of 1 to 3 clocks, by the kernel -/
theorem tie_all : (tieB 1 2 && tieB 1 3 && tieB 1 4 && tieB 2 2 && tieB 2 3 && tieB 2 4 && tieB 3 2 && tieB 3 3 && tieB 3 4) = true := by decide +kernel
theorem c12 : ((webs 1).all (chkB 1 2) && (webs 2).all (chkB 2 2)) = true := by decide +kernel
theorem c13 : ((webs 1).all (chkB 1 3) && (webs 2).all (chkB 2 3)) = true := by decide +kernel
theorem c14 : ((webs 1).all (chkB 1 4) && (webs 2).all (chkB 2 4)) = true := by decide +kernel
theorem c32 : (webs 3).all (chkB 3 2) = true := by decide +kernel
theorem c33 : (webs 3).all (chkB 3 3) = true := by decide +kernel
theorem c34a : ((webs 3).take 32).all (chkB 3 4) = true := by decide +kernel
theorem c34b : ((webs 3).drop 32).all (chkB 3 4) = true := by decide +kernel
theorem c34 : (webs 3).all (chkB 3 4) = true := by
  rw [← List.take_append_drop 32 (webs 3), List.all_append, c34a, c34b]
  rfl
theorem tie_at {n h : Nat} (n1 : 1 ≤ n) (n3 : n ≤ 3) (h2 : 2 ≤ h) (h4 : h ≤ 4) : tieB n h = true := by
  have t := tie_all
  simp only [Bool.and_eq_true] at t
  obtain ⟨⟨⟨⟨⟨⟨⟨⟨a, b⟩, c⟩, d⟩, e⟩, f⟩, g⟩, i⟩, j⟩ := t
  have en : n = 1 ∨ n = 2 ∨ n = 3 := by omega
  have eh : h = 2 ∨ h = 3 ∨ h = 4 := by omega
  rcases en with rfl | rfl | rfl <;> rcases eh with rfl | rfl | rfl <;> assumption
theorem chk_at {n h : Nat} {ar : List Arr} (W : WOk n ar) (h2 : 2 ≤ h) (h4 : h ≤ 4) : chkB n h ar = true := by
  have a := c12
  have b := c13
  have c := c14
  rw [Bool.and_eq_true] at a b c
  obtain ⟨n1, n3, m⟩ := W
  have en : n = 1 ∨ n = 2 ∨ n = 3 := by omega
  have eh : h = 2 ∨ h = 3 ∨ h = 4 := by omega
  rcases en with rfl | rfl | rfl <;> rcases eh with rfl | rfl | rfl
  · exact List.all_eq_true.mp a.1 ar m
  · exact List.all_eq_true.mp b.1 ar m
  · exact List.all_eq_true.mp c.1 ar m
  · exact List.all_eq_true.mp a.2 ar m
  · exact List.all_eq_true.mp b.2 ar m
  · exact List.all_eq_true.mp c.2 ar m
  · exact List.all_eq_true.mp c32 ar m
  · exact List.all_eq_true.mp c33 ar m
  · exact List.all_eq_true.mp c34 ar m
/-- closed_in tells the leads -/
def backA (n : Nat) (l : List Arr) : List (List Int) := (List.range n).map fun (k : Nat) => isort ((k : Int) :: (l.filter fun a => decide (a.1 = (k : Int))).map (·.2))
def clB (n : Nat) (ar : List Arr) : Bool := decide (backA n (closed n (leds n ar)) = leds n ar) && decide (lawLeads n ar = leds n ar)
theorem webs_cl : ((webs 1).all (clB 1) && (webs 2).all (clB 2) && (webs 3).all (clB 3)) = true := by decide +kernel
theorem law_leads {n : Nat} {ar : List Arr} (W : WOk n ar) : lawLeads n ar = leds n ar := by
  have h := all3 webs_cl W
  unfold clB at h
  rw [Bool.and_eq_true] at h
  exact of_decide_eq_true h.2
theorem closed_iff {n : Nat} {ar br : List Arr} (W : WOk n ar) (V : WOk n br) : closed n (leds n ar) = closed n (leds n br) ↔ leds n ar = leds n br := by
  have h := all3 webs_cl W
  have k := all3 webs_cl V
  unfold clB at h k
  rw [Bool.and_eq_true, decide_eq_true_eq] at h k
  exact ⟨fun e => by rw [← h.1, ← k.1, e], fun e => by rw [e]⟩
theorem map_inj_on {f : Nat → Dial} {N : Nat} (inj : ∀ s t, s < N → t < N → f s = f t → s = t) : ∀ {a b : List Nat}, (∀ t ∈ a, t < N) → (∀ t ∈ b, t < N) → a.map f = b.map f → a = b
  | [], [], _, _, _ => rfl
  | [], _ :: _, _, _, e => nomatch e
  | _ :: _, [], _, _, e => nomatch e
  | x :: a, y :: b, ha, hb, e => by
    rw [List.map_cons, List.map_cons] at e
    injection e with e1 e2
    rw [inj x y (ha x List.mem_cons_self) (hb y List.mem_cons_self) e1, map_inj_on inj (fun t ht => ha t (List.mem_cons_of_mem _ ht)) (fun t ht => hb t (List.mem_cons_of_mem _ ht)) e2]
theorem maps_inj {f : Nat → Dial} {N : Nat} (inj : ∀ s t, s < N → t < N → f s = f t → s = t) : ∀ {a b : List Nat}, (a.map fun M => (bits N M).map f) = (b.map fun M => (bits N M).map f) → a.map (bits N) = b.map (bits N)
  | [], [], _ => rfl
  | [], _ :: _, e => nomatch e
  | _ :: _, [], e => nomatch e
  | x :: a, y :: b, e => by
    rw [List.map_cons, List.map_cons] at e
    injection e with e1 e2
    rw [List.map_cons, List.map_cons, maps_inj inj e2, map_inj_on inj (fun t ht => (bits_mem.mp ht).1) (fun t ht => (bits_mem.mp ht).1) e1]
theorem ascB_pw : ∀ {l : List Nat}, ascB l = true → l.Pairwise (· < ·)
  | [], _ => .nil
  | [x], _ => List.pairwise_singleton _ _
  | x :: y :: r, h => by
    unfold ascB at h
    rw [Bool.and_eq_true, decide_eq_true_eq] at h
    have ih := ascB_pw h.2
    refine List.pairwise_cons.mpr ⟨fun z hz => ?_, ih⟩
    rcases List.mem_cons.mp hz with e | hz
    · rw [e]; exact h.1
    · exact Nat.lt_trans h.1 ((List.pairwise_cons.mp ih).1 z hz)
/-- the first items ascend -/
def HdLt (a b : List Dial) : Prop := ∃ x a' y b', a = x :: a' ∧ b = y :: b' ∧ lexLe x y = true ∧ x ≠ y
theorem cls_main {n h : Nat} {ar : List Arr} (W : WOk n ar) (h2 : 2 ≤ h) (h4 : h ≤ 4) : ∃ ms, mB n h ar = some ms ∧ mB n h (closed n (leds n ar)) = some ms ∧ backB n h (ms.map (bits (h ^ n))) = leds n ar ∧
    clsGood h ar (every h n) ([], []) ∧ (classes n h ar = ms.map fun M => (bits (h ^ n) M).map (fD n h)) ∧ (classes n h ar).Pairwise HdLt := by
  have c := chk_at W h2 h4
  obtain ⟨T, ev⟩ := tie_ok (tie_at W.n1 W.n3 h2 h4) (ar := ar) fun a ha => (W.arr ha).2
  unfold chkB at c
  cases hm : mB n h ar with
  | none => rw [hm] at c; exact nomatch c
  | some ms =>
    rw [hm] at c
    dsimp only at c
    rw [Bool.and_eq_true, Bool.and_eq_true, Bool.and_eq_true] at c
    obtain ⟨⟨⟨c1, c2⟩, c3⟩, c4⟩ := c
    obtain ⟨g, ec⟩ := masks_ok T ev (e := hm)
    refine ⟨ms, rfl, of_decide_eq_true c4, of_decide_eq_true c1, g, ec, ?_⟩
    rw [ec, List.pairwise_map]
    have pw := List.pairwise_map.mp (ascB_pw c2)
    refine pw.imp_of_mem fun {p q} hp hq hlt => ?_
    have np : bits (h ^ n) p ≠ [] := of_decide_eq_true (List.all_eq_true.mp c3 p hp)
    have nq : bits (h ^ n) q ≠ [] := of_decide_eq_true (List.all_eq_true.mp c3 q hq)
    obtain ⟨s, sr, es⟩ := List.exists_cons_of_ne_nil np
    obtain ⟨t, tr, et⟩ := List.exists_cons_of_ne_nil nq
    rw [es, et] at hlt
    have hs : s < h ^ n := (bits_mem.mp (by rw [es]; exact List.mem_cons_self : s ∈ bits (h ^ n) p)).1
    have ht : t < h ^ n := (bits_mem.mp (by rw [et]; exact List.mem_cons_self : t ∈ bits (h ^ n) q)).1
    have hst : s < t := hlt
    refine ⟨fD n h s, sr.map (fD n h), fD n h t, tr.map (fD n h), by rw [es]; rfl, by rw [et]; rfl, ?_, fun z => ?_⟩
    · rw [T.le s t hs ht]
      exact decide_eq_true (Nat.le_of_lt hst)
    · exact absurd (T.inj hs ht z) (Nat.ne_of_lt hst)
theorem cls_iff {n h : Nat} {ar br : List Arr} (W : WOk n ar) (V : WOk n br) (h2 : 2 ≤ h) (h4 : h ≤ 4) : classes n h ar = classes n h br ↔ leds n ar = leds n br := by
  obtain ⟨ms, m1, m2, m3, _, m5, _⟩ := cls_main W h2 h4
  obtain ⟨ns, k1, k2, k3, _, k5, _⟩ := cls_main V h2 h4
  obtain ⟨T, _⟩ := tie_ok (tie_at W.n1 W.n3 h2 h4) (ar := ar) fun a ha => (W.arr ha).2
  constructor
  · intro e
    rw [m5, k5] at e
    rw [← m3, ← k3, maps_inj (fun s t hs ht => T.inj hs ht) e]
  · intro e
    rw [e, k2] at m2
    rw [m5, k5, Option.some.inj m2]
end K42
set_option Elab.async false
set_option linter.all false
set_option maxRecDepth 100000
set_option maxHeartbeats 4000000
/-! rules of our own: enumerate over a tuple -/
namespace K42
open PySem PySem.Spec PyProof.Rows L2
open AutoSeq1 (wpAny_loadPart')

theorem meets_enumT (l : Addr) (items : Array Value) :
    Meets (Builtin.«enumerate.__new__» ⟨[.type "enumerate", .ref l], []⟩) (fun _ R s => s.heap.IsTuple l items ∧
      R (.ok (.ret (.ref (s.heap.push { cls := .type "tuple_iterator", data := .fields #[.ref l, .int 0 0] }).objs.size)))
        { s with heap := (s.heap.push { cls := .type "tuple_iterator", data := .fields #[.ref l, .int 0 0] }).push { cls := .type "enumerate", data := .fields #[.none, .bool false, .ref s.heap.objs.size, rawInt 0, .none, .none] } }) :=
  .of_wp fun prog w A R s h => by
    obtain ⟨hp, g, d, tk, os⟩ := s; obtain ⟨hl, h⟩ := h
    have hsub := sub_enumerate
    have q1 : ∀ {A' : Around} {E : Value → Shared → Prop} {Q : Value → Shared → Prop}, Q (.ref hp.objs.size) ⟨hp.push { cls := .type "tuple_iterator", data := .fields #[.ref l, .int 0 0] }, g, d, tk, os⟩ → wpAny (model prog w) A' (pyIter (.ref l)) Q E ⟨hp, g, d, tk, os⟩ :=
      fun q => wpAny_pyIter_tuple (s := ⟨hp, g, d, tk, os⟩) hl q
    wp_walk using q1
    refine wpAny_stack_any fun st => wpAny_pure ?_
    split
    · rename_i c _ _ _ _ _
      cases (c == Value.type "enumerate")
      · wp_walk using q1
        exact ⟨_, rfl, h⟩
      · wp_walk using q1
        exact ⟨_, rfl, h⟩
    · wp_walk using q1
      exact ⟨_, rfl, h⟩

section
variable {prog : Program} {w : World} {A : Around} {E : Value → Shared → Prop} {s : Shared}
theorem call_enumT {l : Addr} {items : Array Value} {Q : Value → Shared → Prop} (hL : s.heap.IsTuple l items)
    (h : ∀ h', IsEnum h' (s.heap.objs.size + 1) s.heap.objs.size 0 .none → h'.IsTupleIter s.heap.objs.size l 0 → h'.objs.size = s.heap.objs.size + 2 →
      (∀ b o, s.heap.get? b = some o → h'.get? b = some o) → Q (.ref (s.heap.objs.size + 1)) { s with heap := h' }) :
    wpAny (model prog w) A (call (.type "enumerate") [.ref l]) Q E s := by
  refine callType_new F.called_enumerate (by decide) (F.typeCall_enumerate_1 _) (F.newCall_enumerate_1 _) (fun obj => F.args_object_init_2 obj _) F.entry_enumerate_new
    (meets_enumT l items) ⟨hL, ?_⟩
  have hz : (s.heap.push { cls := .type "tuple_iterator", data := .fields #[.ref l, .int 0 0] }).objs.size = s.heap.objs.size + 1 := Heap.size_push ..
  show _ ∧ _
  rw [hz]
  have he : IsEnum ((s.heap.push { cls := .type "tuple_iterator", data := .fields #[.ref l, .int 0 0] }).push
      { cls := .type "enumerate", data := .fields #[.none, .bool false, .ref s.heap.objs.size, rawInt 0, .none, .none] }) (s.heap.objs.size + 1) s.heap.objs.size 0 .none := by
    have := Heap.get?_push_size (s.heap.push { cls := .type "tuple_iterator", data := .fields #[.ref l, .int 0 0] })
      (o := { cls := .type "enumerate", data := .fields #[.none, .bool false, .ref s.heap.objs.size, rawInt 0, .none, .none] }) rfl
    rw [hz] at this; exact this
  refine ⟨⟨_, he, rfl⟩, h _ he ⟨_, Heap.get?_push_of_some _ (Heap.get?_push_size _ rfl), rfl, rfl⟩ (by rw [Heap.size_push, hz]) fun b o x => Heap.get?_push_of_some _ (Heap.get?_push_of_some _ x)⟩
end

/-- the tuple at a as it stands at each turn, each item in a new pair -/
def IteT (K : PySem.W.Frag) (a : Addr) : It :=
  ⟨fun i H => ∃ (xs : List V) (x : V), SqT K H a xs ∧ xs[i]? = some x, fun i H v H' => ∃ T x, v = .ref T ∧ H T = none ∧ H' = upd H T (.tup [.int (i : Nat), x]) ∧ ∀ xs, SqT K H a xs → xs[i]? = some x, fun i H => ∃ xs : List V, SqT K H a xs ∧ xs.length ≤ i⟩
theorem turn_enumT {P : Program} {w : World} {K : PySem.W.Frag} {elts : List Expr} {kk : Nat} {tpos : Pos} (a e it : Addr) :
    Turn P w K (.Tuple elts kk tpos) (IteT K a) [e, it] e (fun i h => (∃ old, IsEnum h e it ((i : Nat) : Int) old) ∧ h.IsTupleIter it a i ∧ e ≠ it) where
  mem := by simp
  obj := fun i h st b hb => by
    obtain ⟨⟨old, he⟩, ⟨o, ho, hc, hd⟩, _⟩ := st
    have e' : b = e ∨ b = it := by simpa using hb
    rcases e' with z | z
    · rw [z]; exact ⟨_, he, fun v q => nomatch q⟩
    · rw [z]; exact ⟨o, ho, fun v q => by rw [hd] at q; cases q⟩
  keep := fun i h h' st k => let ⟨⟨old, he⟩, hi, hne⟩ := st; ⟨⟨old, k e (by simp) _ he⟩, hi.at fun o q => k it (by simp) o q, hne⟩
  item := by
    intro X hP hw hK hc i pins s σ H E I hf st hg
    subst hP hw hK
    obtain ⟨⟨old, he⟩, hit, hne⟩ := st
    obtain ⟨xs, x, hq, hx⟩ := hg
    obtain ⟨its, rv, p, hz⟩ := I.tuple hq
    obtain ⟨u, hu, ru⟩ := rv.get hx
    have hel : e < s.heap.objs.size := Heap.lt_size he
    have hil : it < s.heap.objs.size := by obtain ⟨_, q, _⟩ := hit; exact Heap.lt_size q
    have hai : a ≠ it := by
      intro z
      subst z
      obtain ⟨o1, e1, c1, _⟩ := hit
      obtain ⟨o2, e2, c2, _⟩ := p
      rw [e1] at e2
      cases e2
      rw [c1] at c2
      exact absurd (Value.type.inj c2) (by decide)
    have hae : e ≠ a := by
      intro z
      subst z
      obtain ⟨o2, e2, c2, _⟩ := p
      have he' : s.heap.get? e = some _ := he
      rw [he'] at e2
      cases e2
      exact absurd (Value.type.inj c2) (by decide)
    have hlt : i < its.toArray.size := by
      have := (List.getElem?_eq_some_iff.mp hu).1
      simpa using this
    have D := Draws.tuple (prog := X.prog) (w := X.w) (A := X.A.in1) (show X.A.in1.handled = none from I.ok.hd hc) it a hai its.toArray
    refine wpAny_pyNext_enum_itemD D he (show s.heap.IsTupleIter it a i ∧ s.heap.IsTuple a its.toArray from ⟨hit, p⟩) hlt hne (by simp [hne, hae]) fun x' h' tk hx' ho hit' hT hsz hk => ?_
    have ex : x' = u := by
      have e1 : its.toArray[i]? = some x' := hx'
      rw [show its.toArray[i]? = some u by simpa using hu] at e1
      exact (Option.some.inj e1).symm
    subst ex
    refine ⟨_, rfl, wpAny_letOwnedTupleGo_enum (s := { s with heap := h', toks := tk + 1 }) ho fun h'' he' sb => ?_⟩
    have hT2 : h''.get? s.heap.objs.size = some { cls := .type "tuple", data := .seq #[.int i tk, x'] } := (sb.2 _ (Nat.ne_of_gt hel)).trans hT
    have new : ObjOk X.prog X.w (upd H s.heap.objs.size (.tup [.int (i : Nat), x])) h'' s.heap.objs.size (.tup [.int (i : Nat), x]) :=
      ⟨by show 2 ≤ sizeLine; decide, [.int i tk, x'], .cons ⟨_, rfl⟩ (.cons ru .nil), ⟨_, hT2, rfl, _, rfl⟩⟩
    have I1 : Inv X pins σ (upd H s.heap.objs.size (.tup [.int (i : Nat), x])) { s with heap := h'', toks := tk + 1 } :=
      I.turnedNew (ch := [e, it]) (fun b ob hb q => (sb.2 b (fun z => hb (by simp [z]))).trans (hk b ob (fun z => hb (by simp [z])) (fun z => hb (by simp [z])) q)) hf (Nat.le_refl _) new
    refine ⟨.ref s.heap.objs.size, _, I1, rfl, ⟨_, x, rfl, I.hok.fresh (Nat.le_refl _), rfl, fun ys hy => by rw [I.tuple_inj hy hq]; exact hx⟩, ⟨⟨x', ?_⟩, hit'.1.at fun o q => (sb.2 it (Ne.symm hne)).trans q, hne⟩, fun b hb => ?_⟩
    · have e1 : ((i + 1 : Nat) : Int) = (i : Int) + 1 := by omega
      rw [e1]; exact he'
    · have hb' : b < s.heap.objs.size := by
        have e' : b = e ∨ b = it := by simpa using hb
        rcases e' with z | z
        · rw [z]; exact hel
        · rw [z]; exact hil
      rw [upd_ne (Nat.ne_of_lt hb')]
      exact (hf b hb).1
  done := by
    intro X hP hw hK hc i pins s σ H E I hf st hg
    subst hP hw hK
    obtain ⟨⟨old, he⟩, hit, hne⟩ := st
    obtain ⟨xs, hq, hx⟩ := hg
    obtain ⟨its, rv, p, hz⟩ := I.tuple hq
    obtain ⟨f0, f1, f2, f3, f4, f5⟩ := hf it (by simp)
    have hl := rv.length
    have hT : s.TypeIs (.ref e) "enumerate" := ⟨_, he, rfl⟩
    unfold pyNext
    refine wpAny_bind (wpAny_attempt (wpAny_callSpecial?_slot (name := Str.ofString "__next__") hT F.slot_enumerate_next
      (wpAny_call_entry F.slot_enumerate_next hT F.entry_enumerate_next ?_ (F.args_enumerate_next_1 _))))
    show wpAny _ _ (field (.ref e) 2 >>= _) _ _ _
    refine wpAny_bind (wpAny_field he rfl (x := .ref it) rfl ?_)
    refine wpAny_bind (wpAny_nextOf_tuple_end (I.ok.hd hc) hit p (by simp; omega) fun h' x he' hx' => ?_)
    obtain ⟨o, ho, hc'⟩ := hx'
    refine wpAny_bind (wpAny_isInstance (T := "StopIteration") (b := true) ⟨o, ho, hc'⟩ isSubtype_stop ?_)
    exact wpAny_pure ⟨rfl, I.turned (t' := s.toks) (fun b o hb q => he' b o hb q) f0 f1 f3 f4 f5⟩
  self := fun A i s Q E st h => let ⟨⟨_, he⟩, _⟩ := st; wpAny_pyIter_enum he h
def iEnumT (K : PySem.W.Frag) (ta : TA) : TI := fun σ H R => ta σ H fun vs H1 => ∃ a xs, vs = [.ref a] ∧ SqT K H1 a xs ∧ R (IteT K a) H1
theorem pi_enumT {X : Cx} {e : Expr} {ta : TA} {p pos tpos : Pos} {elts : List Expr} {kk : Nat} (hg : Gl X "enumerate") (hm : X.mg "enumerate" = none) (ha : PA X [e] ta) (hs : starEach [e] X.env = [(false, eval e X.env)] := by rfl) :
    PI X (.Tuple elts kk tpos) (.Call (.Name "enumerate" p) [e] [] pos) (iEnumT X.K ta) := by
  refine ⟨fun pins s σ H R I h => ?_⟩
  refine Call_ (ld_blt I hg hm boot_enumerate (PyProof.Rows.callWith_type1 (thn (ha.run pos pins s σ H _ I h) fun us s1 ⟨vs, H1, I1, r1, q1⟩ => ?_) hs rfl))
  obtain ⟨a, xs, ex, hq, q⟩ := q1
  subst ex
  cases r1 with
  | cons r rr =>
    cases rr
    cases r
    obtain ⟨its, rv, p', hz⟩ := I1.tuple hq
    refine call_enumT p' fun h' he hit hsz hk => wpAny_pyIter_enum he ?_
    have I2 : Inv X pins σ H1 { s1 with heap := h' } := I1.kept (t' := s1.toks) hk
    refine ⟨s1.heap.objs.size + 1, [s1.heap.objs.size + 1, s1.heap.objs.size], _, _, H1, rfl, I2, turn_enumT a (s1.heap.objs.size + 1) s1.heap.objs.size, ⟨⟨.none, he⟩, hit, Nat.succ_ne_self _⟩, fun b hb => ?_, q⟩
    have e' : b = s1.heap.objs.size + 1 ∨ b = s1.heap.objs.size := by simpa using hb
    have hle : s1.heap.objs.size ≤ b := by
      rcases e' with z | z
      · rw [z]; exact Nat.le_add_right _ _
      · rw [z]; exact Nat.le_refl _
    exact I1.fpOk hle (I1.hok.fresh hle)
theorem walk_enumT {K : PySem.W.Frag} {a : Addr} {xs : List V} : Walk (IteT K a) xs.length (fun H => SqT K H a xs) (YPair (fun i => some (.int (i : Nat))) (fun i => xs[i]?)) := by
  refine ⟨fun i _ hi q => ⟨xs, xs[i], q, by simp [hi]⟩, fun _ q => ⟨xs, q, Nat.le_refl _⟩, fun i H v H' _ q y => ?_⟩
  obtain ⟨T, x, h1, h2, h3, h4⟩ := y
  exact ⟨T, .int (i : Nat), x, h1, h2, h3, rfl, h4 xs q⟩
end K42
set_option Elab.async false
set_option linter.all false
set_option maxRecDepth 100000
set_option maxHeartbeats 4000000
namespace K42
open PySem PySem.Spec PyProof.Rows L2
/-! ### the text by places -/
def topS (i : Nat) : Stmt := PySem.Challenge.pw_clockadds_k42_whole_webs_with_the_same_c.main.body.getD i (.Pass ⟨0, 0, 0, 0⟩)
abbrev sIsIn : Stmt := topS 6
abbrev sGcd : Stmt := topS 7
abbrev sArrow : Stmt := topS 12
abbrev sNeedWeb : Stmt := topS 13
abbrev sNeedHours : Stmt := topS 14
abbrev sNeedDial : Stmt := topS 15
abbrev sNeedAll : Stmt := topS 16
abbrev sLed : Stmt := topS 17
abbrev sParts : Stmt := topS 18
abbrev sAbove : Stmt := topS 19
abbrev sClosed : Stmt := topS 21
abbrev sSame : Stmt := topS 22
abbrev sFlow : Stmt := topS 24
abbrev sMark : Stmt := topS 25
abbrev sMarks : Stmt := topS 26
abbrev sCan : Stmt := topS 27
abbrev sTaken : Stmt := topS 29
abbrev sPick : Stmt := topS 30
abbrev sWeb : Stmt := topS 31
abbrev sLeads : Stmt := topS 32
abbrev sAlike : Stmt := topS 33
abbrev sEvery : Stmt := topS 34
abbrev sStep : Stmt := topS 35
abbrev sFrom : Stmt := topS 36
abbrev sClasses : Stmt := topS 37
abbrev sDial : Stmt := topS 38
abbrev sLaw : Stmt := topS 39
theorem scIsIn : FnScope ["value", "least", "most"] ["value", "least", "most"] (defScope sIsIn) := ⟨rfl, rfl, rfl, by decide +kernel, rfl, by decide +kernel, by decide +kernel⟩
theorem scGcd : FnScope ["one", "other"] ["one", "other"] (defScope sGcd) := ⟨rfl, rfl, rfl, by decide +kernel, rfl, by decide +kernel, by decide +kernel⟩
theorem scArrow : FnScope ["value", "many", "one"] ["value", "many"] (defScope sArrow) := ⟨rfl, rfl, rfl, by decide +kernel, rfl, by decide +kernel, by decide +kernel⟩
theorem scNeedWeb : FnScope ["web", "index", "one"] ["web"] (defScope sNeedWeb) := ⟨rfl, rfl, rfl, by decide +kernel, rfl, by decide +kernel, by decide +kernel⟩
theorem scNeedHours : FnScope ["hours"] ["hours"] (defScope sNeedHours) := ⟨rfl, rfl, rfl, by decide +kernel, rfl, by decide +kernel, by decide +kernel⟩
theorem scNeedDial : FnScope ["web", "hours", "dial", "index", "one"] ["web", "hours", "dial"] (defScope sNeedDial) := ⟨rfl, rfl, rfl, by decide +kernel, rfl, by decide +kernel, by decide +kernel⟩
theorem scNeedAll : FnScope ["web", "hours", "dial"] ["web", "hours", "dial"] (defScope sNeedAll) := ⟨rfl, rfl, rfl, by decide +kernel, rfl, by decide +kernel, by decide +kernel⟩
theorem scLed : FnScope ["web", "place", "found", "rows", "here", "one", "other"] ["web", "place"] (defScope sLed) := ⟨rfl, rfl, rfl, by decide +kernel, rfl, by decide +kernel, by decide +kernel⟩
theorem scParts : FnScope ["web", "k", "leads_to", "found", "part", "j"] ["web"] (defScope sParts) := ⟨rfl, rfl, rfl, by decide +kernel, rfl, by decide +kernel, by decide +kernel⟩
theorem scAbove : FnScope ["web", "place", "here", "k"] ["web", "place"] (defScope sAbove) := ⟨rfl, rfl, rfl, by decide +kernel, rfl, by decide +kernel, by decide +kernel⟩
theorem scClosed : FnScope ["web", "found", "k", "other"] ["web"] (defScope sClosed) := ⟨rfl, rfl, rfl, by decide +kernel, rfl, by decide +kernel, by decide +kernel⟩
theorem scSame : FnScope ["web", "other"] ["web", "other"] (defScope sSame) := ⟨rfl, rfl, rfl, by decide +kernel, rfl, by decide +kernel, by decide +kernel⟩
theorem scFlow : FnScope ["web", "hours", "dial", "place", "found", "k"] ["web", "hours", "dial", "place"] (defScope sFlow) := ⟨rfl, rfl, rfl, by decide +kernel, rfl, by decide +kernel, by decide +kernel⟩
theorem scMark : FnScope ["web", "hours", "dial", "part", "flow", "found", "k"] ["web", "hours", "dial", "part"] (defScope sMark) := ⟨rfl, rfl, rfl, by decide +kernel, rfl, by decide +kernel, by decide +kernel⟩
theorem scMarks : FnScope ["web", "hours", "dial", "part"] ["web", "hours", "dial"] (defScope sMarks) := ⟨rfl, rfl, rfl, by decide +kernel, rfl, by decide +kernel, by decide +kernel⟩
theorem scCan : FnScope ["web", "hours", "one", "other"] ["web", "hours", "one", "other"] (defScope sCan) := ⟨rfl, rfl, rfl, by decide +kernel, rfl, by decide +kernel, by decide +kernel⟩
theorem scTaken : FnScope ["_law_row", "_law_many", "_law_found", "_law_cell"] ["_law_row", "_law_many"] (defScope sTaken) := ⟨rfl, rfl, rfl, by decide +kernel, rfl, by decide +kernel, by decide +kernel⟩
theorem scPick : FnScope ["_law_row", "_law_things"] ["_law_row", "_law_things"] (defScope sPick) := ⟨rfl, rfl, rfl, by decide +kernel, rfl, by decide +kernel, by decide +kernel⟩
theorem scWeb : FnScope ["_law_row", "_law_most", "_law_many", "_law_way", "_law_thin", "_law_arrows", "_law_k", "_law_j"] ["_law_row", "_law_most"] (defScope sWeb) := ⟨rfl, rfl, rfl, by decide +kernel, rfl, by decide +kernel, by decide +kernel⟩
theorem scLeads : FnScope ["_law_web_here", "_law_k", "_law_found", "_law_turn", "_law_one", "_law_other"] ["_law_web_here"] (defScope sLeads) := ⟨rfl, rfl, rfl, by decide +kernel, rfl, by decide +kernel, by decide +kernel⟩
theorem scAlike : FnScope ["_law_found", "_law_due"] ["_law_found", "_law_due"] (defScope sAlike) := ⟨rfl, rfl, rfl, by decide +kernel, rfl, by decide +kernel, by decide +kernel⟩
theorem scEvery : FnScope ["_law_many", "_law_hours", "_law_found", "_law_k", "_law_more", "_law_one", "_law_hour"] ["_law_many", "_law_hours"] (defScope sEvery) := ⟨rfl, rfl, rfl, by decide +kernel, rfl, by decide +kernel, by decide +kernel⟩
theorem scStep : FnScope ["_law_hours", "_law_dial_here", "_law_arrow"] ["_law_hours", "_law_dial_here", "_law_arrow"] (defScope sStep) := ⟨rfl, rfl, rfl, by decide +kernel, rfl, by decide +kernel, by decide +kernel⟩
theorem scFrom : FnScope ["_law_web_here", "_law_hours", "_law_dial_here", "_law_found", "_law_rows", "_law_more", "_law_here", "_law_arrow", "_law_there"] ["_law_web_here", "_law_hours", "_law_dial_here"] (defScope sFrom) := ⟨rfl, rfl, rfl, by decide +kernel, rfl, by decide +kernel, by decide +kernel⟩
theorem scClasses : FnScope ["_law_web_here", "_law_hours", "_law_seen", "_law_found", "_law_dial_here", "_law_some", "_law_there"] ["_law_web_here", "_law_hours"] (defScope sClasses) := ⟨rfl, rfl, rfl, by decide +kernel, rfl, by decide +kernel, by decide +kernel⟩
theorem scDial : FnScope ["_law_row", "_law_web_here", "_law_hours", "_law_part", "_law_one", "_law_k"] ["_law_row", "_law_web_here", "_law_hours"] (defScope sDial) := ⟨rfl, rfl, rfl, by decide +kernel, rfl, by decide +kernel, by decide +kernel⟩
theorem scLaw : FnScope ["_law_script", "_law_row", "_law_web_here", "_law_other", "_law_turn", "_law_leads_here", "_law_arrow", "_law_ends", "_law_hours", "_law_same", "_law_dial_here", "_law_there", "_law_j"] ["_law_script"] (defScope sLaw) := ⟨rfl, rfl, rfl, by decide +kernel, rfl, by decide +kernel, by decide +kernel⟩
end K42
set_option Elab.async false
set_option linter.all false
set_option maxRecDepth 100000
set_option maxHeartbeats 4000000
namespace K42
open PySem PySem.Spec PyProof.Rows L2
/-- the built-ins that the text names -/
structure Bt (mg : Str → Option Value) : Prop where
  isi : mg "isinstance" = none
  int : mg "int" = none
  bool : mg "bool" = none
  tuple : mg "tuple" = none
  len : mg "len" = none
  enum : mg "enumerate" = none
  sorted : mg "sorted" = none
  range : mg "range" = none
  abs : mg "abs" = none
  set : mg "set" = none
  list : mg "list" = none
  str : mg "str" = none
/-! ### heaps -/
theorem same_upd {H : Hp} {p : Addr} {o : HO} (h : H p = none) : Same H (upd H p o) := fun b x e => by
  rw [upd_ne (ne_of_none e h)]
  exact e
/-- the tuples stand as they stood -/
def KT (H H' : Hp) : Prop := ∀ a xs, H a = some (.tup xs) → H' a = some (.tup xs)
theorem KT.refl (H : Hp) : KT H H := fun _ _ h => h
theorem KT.trans {H H1 H2 : Hp} (a : KT H H1) (b : KT H1 H2) : KT H H2 := fun c o h => b c o (a c o h)
theorem kt_same {H H' : Hp} (s : Same H H') : KT H H' := fun a xs h => s a _ h
theorem kt_new {H : Hp} {p : Addr} {o : HO} (h : H p = none) : KT H (upd H p o) := kt_same (same_upd h)
theorem kt_lst {H : Hp} {p : Addr} {o : HO} {xs : List V} (h : H p = some (.lst xs)) : KT H (upd H p o) := fun a ys e => by
  rw [upd_ne (ne_of e h (by intro z; cases z))]
  exact e
theorem kt_dT {H : Hp} {p : Addr} {o : HO} {xs : List (List Key × V)} (h : H p = some (.dT xs)) : KT H (upd H p o) := fun a ys e => by
  rw [upd_ne (ne_of e h (by intro z; cases z))]
  exact e
/-- what stood at H0 stands; l, new since H0, is written -/
theorem same_wr {H0 H : Hp} {p : Addr} {o : HO} (s : Same H0 H) (h : H0 p = none) : Same H0 (upd H p o) := fun b x e => by
  rw [upd_ne (ne_of_none e h)]
  exact s b x e
/-- a tuple of ints stands at x -/
def TI (H : Hp) (x : V) (ns : List Int) : Prop := ∃ a, x = .ref a ∧ H a = some (.tup (ns.map V.int))
theorem TI.kt {H H' : Hp} {x : V} {ns : List Int} (h : TI H x ns) (k : KT H H') : TI H' x ns := by
  obtain ⟨a, e, q⟩ := h
  exact ⟨a, e, k _ _ q⟩
abbrev TIs (H : Hp) : List V → List (List Int) → Prop := Paired (TI H)
theorem TIs.kt {H H' : Hp} {xs : List V} {ns : List (List Int)} (h : TIs H xs ns) (k : KT H H') : TIs H' xs ns := Paired.mapP h fun _ _ q => q.kt k
theorem TIs.get {H : Hp} : ∀ {xs : List V} {ns : List (List Int)} {i : Nat} {x : V}, TIs H xs ns → xs[i]? = some x → ∃ n, ns[i]? = some n ∧ TI H x n
  | _, _, _, _, .nil, e => by simp at e
  | _, _, 0, _, .cons r _, e => by simp at e; subst e; exact ⟨_, rfl, r⟩
  | _, _, i + 1, x, .cons _ t, e => by
    obtain ⟨u, h1, h2⟩ := TIs.get (i := i) (x := x) t (by simpa using e)
    exact ⟨u, by simpa using h1, h2⟩
theorem TIs.at {H : Hp} : ∀ {xs : List V} {ns : List (List Int)} {i : Nat} {n : List Int}, TIs H xs ns → ns[i]? = some n → ∃ x, xs[i]? = some x ∧ TI H x n
  | _, _, _, _, .nil, e => by simp at e
  | _, _, 0, _, .cons r _, e => by simp at e; subst e; exact ⟨_, rfl, r⟩
  | _, _, i + 1, x, .cons _ t, e => by
    obtain ⟨u, h1, h2⟩ := TIs.at (i := i) (n := x) t (by simpa using e)
    exact ⟨u, by simpa using h1, h2⟩
theorem TIs.append {H : Hp} : ∀ {xs ys : List V} {ns ms : List (List Int)}, TIs H xs ns → TIs H ys ms → TIs H (xs ++ ys) (ns ++ ms)
  | _, _, _, _, .nil, s => s
  | _, _, _, _, .cons r t, s => .cons r (TIs.append t s)
theorem TIs.length {H : Hp} {xs : List V} {ns : List (List Int)} (h : TIs H xs ns) : xs.length = ns.length := Paired.length h
def arV (a : Arr) : List Int := [a.1, a.2]
/-- a web stands at x -/
def WebAt (H : Hp) (x : Addr) (n : Nat) (ar : List Arr) : Prop := ∃ t xs, H x = some (.tup [.int (n : Int), .ref t]) ∧ H t = some (.tup xs) ∧ TIs H xs (ar.map arV)
theorem WebAt.kt {H H' : Hp} {x : Addr} {n : Nat} {ar : List Arr} (h : WebAt H x n ar) (k : KT H H') : WebAt H' x n ar := by
  obtain ⟨t, xs, h1, h2, h3⟩ := h
  exact ⟨t, xs, k _ _ h1, k _ _ h2, h3.kt k⟩
theorem sz_lt {n : Nat} (h : n ≤ 1000000) : n < sizeLine := Nat.lt_of_le_of_lt h (by decide)
theorem sz_le {n : Nat} (h : n ≤ 1000000) : n ≤ sizeLine := Nat.le_of_lt (sz_lt h)
section
variable {P : Program} {w : World} {K : PySem.W.Frag} {mg : Str → Option Value} {base : Heap}
/-! ### is_in -/
def spIsIn : Sp := fun vs H Q _ => ∃ (i lo hi : Int), vs = [.int i, .int lo, .int hi] ∧ lo ≤ i ∧ i ≤ hi ∧ Q (.bl true) H
theorem ok_isIn {f : Addr} {fd : FuncData} {k : Nat} (F : Fun K "is_in" "is_in" sIsIn f fd) (B : Bt mg) : FnOk P w K mg base CX0 (k + 1) f fd ["value", "least", "most"] spIsIn := by
  refine F.ok scIsIn (fun vs H Q E h => ?_) (fun cdv A outer s H vs Q E hr h => ?_)
  · obtain ⟨i, lo, hi, rfl, _⟩ := h
    rfl
  · obtain ⟨i, lo, hi, rfl, h1, h2, q⟩ := h
    refine ⟨_, pss_one (ps_ret (pe_and (pe_callB call_isi (by rfl) B.isi (by decide +kernel) (pa_cons (pv 0) (pa_cons (pe_bltn (v := .ty "int") (by rfl) B.int (by decide +kernel) rfl) pa_nil)))
      (pe_and (pe_not (pe_callB call_isi (by rfl) B.isi (by decide +kernel) (pa_cons (pv 0) (pa_cons (pe_bltn (v := .ty "bool") (by rfl) B.bool (by decide +kernel) rfl) pa_nil))))
        (pe_one (pe_chain op_le op_le (pv 1) (pv 0) (pv 2)))))), ?_⟩
    refine ⟨_, rfl, _, _, _, _, true, rfl, .ty _, .base (.int i), kit_ty (by decide +kernel), true, rfl, iteT ?_⟩
    refine ⟨_, rfl, _, _, _, _, false, rfl, .ty _, .base (.int i), kit_ty (by decide +kernel), false, rfl, true, rfl, iteT ?_⟩
    refine ⟨_, rfl, _, rfl, _, _, rfl, rfl, _, rfl, ?_⟩
    rw [decide_eq_true h1]
    refine iteT ⟨_, rfl, _, _, rfl, rfl, ?_⟩
    show Q (.bl (decide (i ≤ hi))) H
    rw [decide_eq_true h2]
    exact q
/-! ### gcd -/
def spGcd : Sp := fun vs H Q _ => ∃ (i j : Int), vs = [.int i, .int j] ∧ Q (.int (Int.gcd i j : Nat)) H
theorem gcd_abs (i : Int) : (if i < 0 then -i else i) = (i.natAbs : Int) := by
  split <;> omega
theorem ok_gcd {f : Addr} {fd : FuncData} {k : Nat} (F : Fun K "gcd" "gcd" sGcd f fd) (B : Bt mg) : FnOk P w K mg base CX0 (k + 1) f fd ["one", "other"] spGcd := by
  refine F.ok scGcd (fun vs H Q E h => ?_) (fun cdv A outer s H vs Q E hr h => ?_)
  · obtain ⟨i, j, rfl, _⟩ := h
    rfl
  · obtain ⟨i, j, rfl, q⟩ := h
    refine ⟨_, pss_cons (ps_par (i := 0) (j := 1) (by rfl) scGcd.nd rfl rfl (by decide) rfl rfl (pa_cons (pe_callB call_abs (by rfl) B.abs (by decide +kernel) (pa_cons (pv 0) pa_nil)) (pa_cons (pe_callB call_abs (by rfl) B.abs (by decide +kernel) (pa_cons (pv 1) pa_nil)) pa_nil)) (by rfl))
      (pss_cons (ps_while PassesOwn.never (pt_cmpR op_ne (pv 1) pe_int (nomark _))
        (pss_one (ps_par (i := 0) (j := 1) (by rfl) scGcd.nd rfl rfl (by decide) rfl rfl (pa_cons (pv 1) (pa_cons (pe_op op_mod (pv 0) (pv 1)) pa_nil)) (by rfl))))
      (pss_one (ps_ret (pv 0)))), ?_⟩
    refine ⟨_, rfl, _, rfl, _, rfl, _, rfl, _, _, rfl, ?_⟩
    rw [gcd_abs, gcd_abs]
    refine ⟨fun m σ H' => ∃ (x y : Nat), σ = [some (.int x), some (.int y)] ∧ H' = H ∧ Nat.gcd x y = Int.gcd i j ∧ m = y, ⟨_, i.natAbs, j.natAbs, rfl, rfl, rfl, rfl⟩, ?_⟩
    rintro y σ H' ⟨x, m, rfl, rfl, hg, hm⟩
    subst hm
    refine ⟨_, rfl, rfl, _, rfl, ?_⟩
    by_cases h0 : y = 0
    · subst h0
      refine iteF ?_
      refine ⟨_, rfl, ?_⟩
      rw [← hg, Nat.gcd_zero_right] at q
      exact q
    · have e : (!decide (V.int (y : Int) = V.int 0)) = true := by
        rw [decide_eq_false (fun z => h0 (by have := V.int.inj z; omega))]
        rfl
      rw [e]
      refine iteT ⟨fun σ' H'' => ∃ (x' y' : Nat), σ' = [some (.int x'), some (.int y')] ∧ H'' = H' ∧ Nat.gcd x' y' = Int.gcd i j ∧ y' < y, fun σ' H'' hN => ?_, ?_⟩
      · obtain ⟨x', y', e1, e2, e3, e4⟩ := hN
        exact ⟨y', e4, x', y', e1, e2, e3, rfl⟩
      · refine ⟨_, rfl, _, rfl, _, rfl, _, _, rfl, rfl, (by show (0 : Int) < y; omega), _, _, rfl, ?_⟩
        refine ⟨y, x % y, ?_, rfl, ?_, Nat.mod_lt _ (by omega)⟩
        · show [some (V.int (y : Int)), some (V.int ((x : Int) % (y : Int)))] = _
          rw [Int.natCast_emod]
        · rw [← hg, Nat.gcd_comm y, ← Nat.gcd_rec, Nat.gcd_comm]
end
end K42
set_option Elab.async false
set_option linter.all false
set_option maxRecDepth 100000
set_option maxHeartbeats 4000000
namespace K42
open PySem PySem.Spec PyProof.Rows L2
/-! ### data of ints -/
def encT (d : List Int) : PyData := .tuple (d.map .int)
def encL (d : List Int) : PyData := .list (d.map .int)
def encC (c : List (List Int)) : PyData := .list (c.map encT)
theorem eqvAll_map {α : Type} [DecidableEq α] (f : α → PyData) (h : ∀ a b, PyData.eqv (f a) (f b) = decide (a = b)) : ∀ xs ys : List α, PyData.eqvAll (xs.map f) (ys.map f) = decide (xs = ys)
  | [], [] => by simp [PyData.eqvAll]
  | [], _ :: _ => by simp [PyData.eqvAll]
  | _ :: _, [] => by simp [PyData.eqvAll]
  | x :: xs, y :: ys => by
    rw [List.map_cons, List.map_cons, PySem.W.eqv_all_cons, h, eqvAll_map f h xs ys, Bool.eq_iff_iff]
    simp
theorem eqv_int (i j : Int) : PyData.eqv (.int i) (.int j) = decide (i = j) := by
  rw [Bool.eq_iff_iff]
  simp [PyData.eqv]
theorem eqv_T (a b : List Int) : PyData.eqv (encT a) (encT b) = decide (a = b) := by
  show PyData.eqv (.tuple _) (.tuple _) = _
  rw [PyData.eqv]
  exact eqvAll_map _ eqv_int a b
theorem eqv_L (a b : List Int) : PyData.eqv (encL a) (encL b) = decide (a = b) := by
  show PyData.eqv (.list _) (.list _) = _
  rw [PyData.eqv]
  exact eqvAll_map _ eqv_int a b
theorem eqv_C (a b : List (List Int)) : PyData.eqv (encC a) (encC b) = decide (a = b) := by
  show PyData.eqv (.list _) (.list _) = _
  rw [PyData.eqv]
  exact eqvAll_map _ eqv_T a b
theorem eqv_lst {α : Type} [DecidableEq α] {f : α → PyData} (h : ∀ a b, PyData.eqv (f a) (f b) = decide (a = b)) (a b : List α) : PyData.eqv (.list (a.map f)) (.list (b.map f)) = decide (a = b) := by
  rw [PyData.eqv]
  exact eqvAll_map _ h a b
theorem eqv_tup {α : Type} [DecidableEq α] {f : α → PyData} (h : ∀ a b, PyData.eqv (f a) (f b) = decide (a = b)) (a b : List α) : PyData.eqv (.tuple (a.map f)) (.tuple (b.map f)) = decide (a = b) := by
  rw [PyData.eqv]
  exact eqvAll_map _ h a b
/-- it can be laid, and is no deeper than k -/
def Sh (k : Nat) (d : PyData) : Prop := d.canLay0 = true ∧ d.depth ≤ k
theorem sh_all {k : Nat} : ∀ {ds : List PyData}, (∀ d ∈ ds, Sh k d) → PyData.canLayAll0 ds = true ∧ PyData.depthAll ds ≤ k
  | [], _ => by simp [PyData.canLayAll0, PyData.depthAll]
  | d :: ds, h => by
    have h1 := h d List.mem_cons_self
    have h2 := sh_all (ds := ds) fun x hx => h x (List.mem_cons_of_mem _ hx)
    refine ⟨?_, ?_⟩
    · rw [PyData.canLayAll0, h1.1, h2.1]; rfl
    · simp only [PyData.depthAll]
      have := h1.2
      have := h2.2
      omega
theorem sh_list {k : Nat} {ds : List PyData} (h : ∀ d ∈ ds, Sh k d) : Sh (k + 1) (.list ds) := by
  have q := sh_all h
  refine ⟨?_, ?_⟩
  · rw [PyData.canLay0]; exact q.1
  · simp only [PyData.depth]
    have := q.2
    omega
theorem sh_tup {k : Nat} {ds : List PyData} (h : ∀ d ∈ ds, Sh k d) : Sh (k + 1) (.tuple ds) := by
  have q := sh_all h
  refine ⟨?_, ?_⟩
  · rw [PyData.canLay0]; exact q.1
  · simp only [PyData.depth]
    have := q.2
    omega
theorem sh_int (i : Int) : Sh 0 (.int i) := ⟨by rw [PyData.canLay0], by simp [PyData.depth]⟩
theorem sh_map {α : Type} {f : α → PyData} {k : Nat} (h : ∀ a, Sh k (f a)) (xs : List α) : ∀ d ∈ xs.map f, Sh k d := fun d hd => by
  obtain ⟨a, _, rfl⟩ := List.mem_map.mp hd
  exact h a
theorem sh_T (d : List Int) : Sh 1 (encT d) := sh_tup (sh_map sh_int d)
theorem sh_L (d : List Int) : Sh 1 (encL d) := sh_list (sh_map sh_int d)
theorem sh_C (d : List (List Int)) : Sh 2 (encC d) := sh_list (sh_map sh_T d)
theorem Sh.shaped {k : Nat} {d : PyData} (h : Sh k d) (hk : k ≤ 64) : SeqAt.shaped d = true := by
  show (d.canLay0 && decide (d.depth ≤ 64)) = true
  rw [h.1, decide_eq_true (Nat.le_trans h.2 hk)]
  rfl
section
variable {K : PySem.W.Frag} {H : Hp}
theorem dpAll_ints : ∀ ns : List Int, DpAll K H (ns.map V.int) (ns.map .int)
  | [] => .nil
  | n :: ns => .cons (.int n) (dpAll_ints ns)
theorem dp_T {a : Addr} {ns : List Int} (h : SqT K H a (ns.map V.int)) : Dp K H (.ref a) (encT ns) := .tup h (dpAll_ints ns)
theorem dp_L {a : Addr} {ns : List Int} (h : SqL K H a (ns.map V.int)) : Dp K H (.ref a) (encL ns) := .lst h (dpAll_ints ns)
theorem sqT_of {a : Addr} {xs : List V} (h : H a = some (.tup xs)) : SqT K H a xs := .inl (.inl h)
theorem sqL_of {a : Addr} {xs : List V} (h : H a = some (.lst xs)) : SqL K H a xs := .inl (.inl h)
theorem TI.dp {x : V} {ns : List Int} (h : TI H x ns) : Dp K H x (encT ns) := by
  obtain ⟨a, rfl, q⟩ := h
  exact dp_T (sqT_of q)
theorem dpAll_of {α : Type} {R : V → α → Prop} {f : α → PyData} (h : ∀ x b, R x b → Dp K H x (f b)) : ∀ {xs : List V} {bs : List α}, Paired R xs bs → DpAll K H xs (bs.map f)
  | _, _, .nil => .nil
  | _, _, .cons r t => .cons (h _ _ r) (dpAll_of h t)
end
/-! ### sorted(xs), xs of data -/
theorem each_of {α : Type} {R : V → α → Prop} : ∀ {xs : List V} {us : List Value} {bs : List α}, Vals xs us → Paired R xs bs → PySem.W.EachIs (fun u b => ∃ x, RelV x u ∧ R x b) us bs
  | _, _, _, .nil, .nil => .nil
  | _, _, _, .cons r t, .cons q s => .cons ⟨_, r, q⟩ (each_of t s)
theorem of_each {α : Type} {R : V → α → Prop} : ∀ {us : List Value} {bs : List α}, PySem.W.EachIs (fun u b => ∃ x, RelV x u ∧ R x b) us bs → ∃ xs, Vals xs us ∧ Paired R xs bs
  | _, _, .nil => ⟨[], .nil, .nil⟩
  | _, _, .cons ⟨x, r, q⟩ t => by
    obtain ⟨xs, a, b⟩ := of_each t
    exact ⟨x :: xs, .cons r a, .cons q b⟩
section
variable {X : Cx}
def rSortD {α : Type} (K : PySem.W.Frag) (R : V → α → Prop) (enc : α → PyData) : List V → Hp → VK → Prop := fun vs H Q => ∃ (a : Addr) (xs : List V) (bs : List α), vs = [V.ref a] ∧ SqL K H a xs ∧ Paired R xs bs ∧ (∀ x b, R x b → Dp K H x (enc b)) ∧
  PySem.W.AllAlike (bs.map enc) ∧ PySem.W.Sortable (bs.map enc) ∧ (∀ b ∈ bs, (enc b).depth ≤ 60) ∧ ∀ ys p, ys.length = xs.length → Paired R ys (bs.mergeSort (PySem.W.dataLe false enc)) → H p = none → Q (.ref p) (upd H p (.lst ys))
theorem cr_sortD {α : Type} (R : V → α → Prop) (enc : α → PyData) (hu : X.A.units + 64 < cLine) : CallR X (.builtin "sorted") (rSortD X.K R enc) := by
  intro pins s σ H vs us Q I r h
  obtain ⟨a, xs, bs, rfl, hs, hp, hd, hal, hk, hdep, q⟩ := h
  obtain ⟨its, rv, hl, hz⟩ := I.list hs
  rw [Vals.ref1 r]
  have e := each_of rv hp
  have er : PySem.W.EachIs (fun v b => ∃ as, Reads s.heap v (enc b) as) its bs := e.mono fun v b ⟨x, rx, rb⟩ => Dp.reads I _ _ _ (hd x b rb) rx
  have hlen : bs.length = xs.length := (Paired.length hp).symm
  refine PySem.W.sorted_data (R := fun u b => ∃ x, RelV x u ∧ R x b) hl.isList e er hal hk (by rw [hlen]; exact hz) (fun b hb => ?_) fun out ho he => ?_
  · have := hdep b hb
    omega
  · obtain ⟨ys, vy, py⟩ := of_each he
    obtain ⟨ep, he'⟩ := PyProof.Rows.sortedAll_at s.heap its out.toArray
    have hly : ys.length = xs.length := by rw [vy.length, ho, hlen]
    refine ⟨.ref _, upd H (s.heap.objs.size + 1) (.lst ys), I.laid (t' := s.toks) (fun _ _ => PyProof.Rows.sortedAll_old) (Nat.le_succ _) ⟨by rw [hly]; exact hz, out, ep, vy, ?_⟩, rfl, q _ _ hly py (I.hok.fresh (Nat.le_succ _))⟩
    exact he'
end
end K42
set_option Elab.async false
set_option linter.all false
set_option maxRecDepth 100000
set_option maxHeartbeats 4000000
namespace K42
open PySem PySem.Spec PyProof.Rows L2
/-! ### set(t), t a tuple of tuples of ints -/
abbrev eSet (w : World) : Obj := { cls := .type "set", dict := none, data := .set #[] 0 (.fresh 0 0 (!w.params.followText "set-order")) }
section
variable {P : Program} {w : World} {A : Around} {E : Value → Shared → Prop} {s : Shared}
set_option maxHeartbeats 3200000 in
theorem call_setTT {l : Addr} {items : Array Value} (ks : List (Addr × List Int)) {Q : Value → Shared → Prop} (hh : A.handled = none) (hl : s.heap.IsTuple l items) (hit : items.toList = ks.map fun p => Value.ref p.1)
    (hk : ∀ p ∈ ks, IsT P w s.heap p.2 p.1) (hfew : ks.length < 64) (hu : A.units + 3 < cLine)
    (h : ∀ (h' : Heap) (tk : Nat) L es ep t, SetTR P w h' s.heap.objs.size L es ep t → Got ks ks.length L → (∀ b o, s.heap.get? b = some o → h'.get? b = some o) → Q (.ref s.heap.objs.size) { s with heap := h', toks := tk }) :
    wpAny (model P w) A (call (.type "set") [.ref l]) Q E s := by
  have hisz : items.size = ks.length := by
    rw [← Array.length_toList, hit, List.length_map]
  obtain ⟨c, tl, hmro⟩ := F.called_set.mro
  have hmade := F.called_set.made
  have hsub := F.called_set.sub
  refine wpAny_call (codeAny_of_tree ?_)
  show wpAny _ _ (callAny (.type "set") _) _ _ _
  refine wpAny_pure ⟨Code.quiet_builtin _ (by decide +kernel), codeAny_builtin F.entry_type_call ?_⟩
  rw [Around.under_plain (weight_type_call_type "set" [.ref l] []) rfl]
  have h1 := F.called_set.notType
  have h2 := F.called_set.canCreate
  have hct := F.typeCall_set_1 (.ref l)
  repeat (any_goals (first | assumption | wp_step))
  refine codeAny_mono (code_set_led1 (.ref l) (E := E) (Q₁ := fun obj s₁ => obj = .ref s.heap.objs.size ∧ s₁ = { s with heap := s.heap.push (eSet w) }) ⟨rfl, rfl⟩) fun r s₁ hr => ?_
  cases r with
  | error e => exact hr
  | ok fl =>
    cases fl with
    | ret obj =>
      obtain ⟨rfl, rfl⟩ := hr
      have hS : (s.heap.push (eSet w)).get? s.heap.objs.size = some (eSet w) := Heap.get?_push_size _ rfl
      have hT : Shared.TypeIs { s with heap := s.heap.push (eSet w) } (.ref s.heap.objs.size) "set" := ⟨_, hS, rfl⟩
      have hli := F.called_set.init.lookup
      have hbi := F.called_set.init.bind (.ref s.heap.objs.size)
      repeat (any_goals (first | assumption | wp_step))
      refine codeAny_mono (codeAny_call_builtin (R := wants (fun r s₂ => r = .none ∧ ∃ h' tk L es ep t, s₂ = { s with heap := h', toks := tk } ∧ SetTR P w h' s.heap.objs.size L es ep t ∧ Got ks ks.length L ∧
          (∀ b o, s.heap.get? b = some o → h'.get? b = some o)) E) F.called_set.init.plain F.entry_set_init (check_set_init_1 hT ?_)) fun r₂ s₂ hr₂ => ?_
      · obtain ⟨ol, hol, hcl, nl, hdl⟩ := hl
        obtain ⟨ocls, odict, odata, oslots⟩ := ol
        simp only at hcl hdl
        subst hcl; subst hdl
        have hol' : (s.heap.push (eSet w)).get? l = some { cls := .type "tuple", dict := odict, data := .seq items nl, slots := oslots } := Heap.get?_push_of_some _ hol
        have hsls := F.sub_tuple_set
        have hslf := F.sub_tuple_frozenset
        have hne : (Value.type "tuple" == Value.type "dict") = false := by decide
        have hl1 : (s.heap.push (eSet w)).IsTuple l items := ⟨_, hol', rfl, nl, rfl⟩
        unfold Builtin.«set.__init__» noKeywords Builtin.Frozenset.updateFrom
        generalize hPI : pyIter = PI
        wp_walk
        subst hPI
        refine wpAny_pyIter_tuple hl1 ?_
        refine wpAny_bind (wpAny_runValue ?_)
        have hlS : l < s.heap.objs.size := Heap.lt_size hol
        have hh3 : A.in1.in1.in1.handled = none := by simp [hh]
        have hz1 : (s.heap.push (eSet w)).objs.size = s.heap.objs.size + 1 := Heap.size_push ..
        have hneI : l ≠ (s.heap.push (eSet w)).objs.size := by
          rw [hz1]; exact Nat.ne_of_lt (Nat.lt_succ_of_lt hlS)
        have hSf : s.heap.objs.size ∉ [(s.heap.push (eSet w)).objs.size, l] := by
          rw [hz1]; simp only [List.mem_cons, List.mem_singleton, List.not_mem_nil, or_false, not_or]
          exact ⟨Nat.ne_of_lt (Nat.lt_succ_self _), Nat.ne_of_gt hlS⟩
        have hval : ∀ (i : Nat) (v : Value), items[i]? = some v → ∃ p, ks[i]? = some p ∧ v = .ref p.1 := fun i v hv => by
          have q : (ks.map fun p => Value.ref p.1)[i]? = some v := by rw [← hit, Array.getElem?_toList]; exact hv
          rw [List.getElem?_map] at q
          cases hq : ks[i]? with
          | none => rw [hq] at q; cases q
          | some p =>
            rw [hq] at q
            exact ⟨p, rfl, (Option.some.inj q).symm⟩
        have none_of : ∀ b, s.heap.objs.size ≤ b → s.heap.get? b = none := fun b hb => by
          cases q : s.heap.get? b with
          | none => rfl
          | some o => exact absurd (Nat.lt_of_lt_of_le (Heap.lt_size q) hb) (Nat.lt_irrefl _)
        refine set_update_tups ((Walks.tuple hh3 _ l hneI items).toS) s.heap.objs.size
          hSf ks hisz hfew hval s.heap hk (none_of _ (Nat.le_refl _)) (fun b hb => none_of b (by
            rw [List.mem_singleton.mp hb, Heap.size_push]
            exact Nat.le_succ _)) hu (items.size - 0) 0 _ (by omega) (Nat.zero_le _)
          ⟨⟨_, Heap.get?_push_size _ rfl, rfl, rfl⟩, (hl1.push _)⟩ (fun b o e => Heap.get?_push_of_some _ (Heap.get?_push_of_some _ e)) ?hS0 ?hR
        case hS0 =>
          exact ⟨[], #[], 0, _, setTR_fresh (Heap.get?_push_of_some _ hS), Got.zero ks⟩
        case hR =>
          intro s' L es ep t hm hS' g' hkp
          obtain ⟨h', g2, d', tk', os'⟩ := s'
          have eg : g2 = s.gens := hm.gens
          have ed : d' = s.drawn := hm.drawn
          have eo : os' = s.os := hm.os
          subst eg; subst ed; subst eo
          show wpAny _ _ _ _ _ _
          refine wpAny_pure ?_
          show wpAny _ _ (ret Value.none) _ _ _
          rw [hisz] at g'
          exact wpAny_pure ⟨rfl, h', tk', L, es, ep, t, rfl, hS', g', hkp⟩
      · cases r₂ with
        | error e => exact hr₂
        | ok fl₂ =>
          cases fl₂ with
          | ret r =>
            obtain ⟨rfl, h', tk, L, es, ep, t, rfl, hS', g', hk'⟩ := hr₂
            repeat (any_goals (first | assumption | wp_step))
            exact h _ _ _ _ _ _ hS' g' hk'
          | _ => exact hr₂.elim
    | _ => exact hr.elim
end
section
variable {X : Cx}
/-- set(t) of a list or a tuple of tuples of ints -/
def rSetT2 (K : PySem.W.Frag) (P : Program) (w : World) : List V → Hp → VK → Prop := fun xs H Q => ∃ (l : Addr) (ks : List (Addr × List Int)), xs = [V.ref l] ∧ SqT K H l (ks.map fun p => V.ref p.1) ∧ (∀ p ∈ ks, SqT K H p.1 (p.2.map V.int)) ∧ ks.length < 64 ∧
  ∀ a L, H a = none → (∀ p ∈ L, p ∈ ks) → (∀ p ∈ ks, p.2 ∈ L.map (·.2)) → Q (.ref a) (upd H a (SetTO P w a L))
theorem cr_setTT (hc : X.calm = true) (hu : X.A.units + 64 < cLine) : CallR X (.type "set") (rSetT2 X.K X.prog X.w) := by
  intro pins s σ H xs us Q I r h
  obtain ⟨l, ks, rfl, hl, hk, hf, q⟩ := h
  rw [Vals.ref1 r]
  obtain ⟨its, rv, pl, hz⟩ := I.tuple hl
  have hn : H s.heap.objs.size = none := I.hok.fresh (Nat.le_refl _)
  refine call_setTT (P := X.prog) (w := X.w) ks (I.ok.hd hc) pl (by simpa using refs_of_vals rv) (fun p hp => I.isT (hk p hp)) hf (by omega) fun h' tk L es ep t R g k => ?_
  refine ⟨.ref s.heap.objs.size, upd H s.heap.objs.size (SetTO X.prog X.w s.heap.objs.size L), I.laid (t' := tk) k (Nat.le_refl _) (setTO_new R.t0), rfl, q _ L hn (fun p hp => ?_) fun p hp => ?_⟩
  · exact List.mem_of_mem_take (g.sub p hp)
  · exact g.all p (by rw [List.take_length]; exact hp)
end
end K42
set_option Elab.async false
set_option linter.all false
set_option maxRecDepth 100000
set_option maxHeartbeats 4000000
namespace K42
open PySem PySem.Spec PyProof.Rows L2
section
variable {X : Cx}
/-! ### {k: v}, k a tuple -/
def tDispT (tk tv : TE) : TE := fun σ H Q => ∀ p, H p = none → tk σ (upd H p (.dT [])) fun x H1 => tv σ H1 fun y H2 => H2 p = some (.dT []) ∧ ∃ (b : Addr) (k : List Key), x = .ref b ∧ H2 b = some (.tup (k.map kV)) ∧ Q (.ref p) (upd H2 p (.dT [(k, y)]))
theorem pe_dispT {pos : Pos} {ke ve : Expr} {tk tv : TE} (hu : X.A.units + 1 < cLine) (hk : PE X ke tk) (hv : PE X ve tv) : PE X (.Dict [some ke] [ve] pos) (tDispT tk tv) := by
  refine ⟨fun pins s σ H Q I q => ?_⟩
  have hn := I.hok.fresh (Nat.le_refl s.heap.objs.size)
  have I1 := I.laid (a := s.heap.objs.size) (o := .dT []) (h' := s.heap.push { cls := .type "dict", data := .dict #[] }) (t' := s.toks) (fun _ _ q => Heap.get?_push_of_some _ q) (Nat.le_refl _) (dt_empty s.heap I.big)
  rw [arm_eval_Dict, zip_pairTrees [some ke] [ve] X.env pos rfl rfl, dictDisplay_pairs (pairTrees [some ke] [ve] X.env pos) (fun z => nomatch z) (by show 1 < 17; decide)]
  refine wpAny_bind (wpAny_standAt (wpAny_bind (wpAny_subDictH (knd := tupleKind (mixKind X.prog X.w)) (Q := fun d s' => wpAny (model X.prog X.w) X.A (pure (Value.ref d)) (EP X pins σ Q) X.xe s') ?_ (by show 1 ≤ 15; decide) ?_)))
  · show X.A.units < cLine
    omega
  refine pairTrees_cons_walk (thn (hk.run pins _ σ _ _ I1 (q _ hn)) fun u s1 ⟨x, H1, I2, rx, q1⟩ => thn (hv.run pins s1 σ H1 _ I2 q1) fun w2 s2 ⟨y, H2, I3, ry, q2⟩ => pairTrees_nil_walk ?_)
  obtain ⟨e0, b, k, rfl, eb, q3⟩ := q2
  cases (show u = Value.ref b from rx)
  obtain ⟨z, hd, xs0, r0, dd⟩ := dt_of I3.hok e0
  cases r0
  refine ⟨[(k, b, w2)], ⟨rfl, rfl, key_of I3.hok eb, trivial⟩, dd, fun h' tk dd' hs => wpAny_pure ?_⟩
  have e1 : storedAllH ([] : List (List Key × Addr × Value)) [(k, b, w2)] = [(k, b, w2)] := rfl
  rw [e1] at dd'
  obtain ⟨o, es, ep, hq, h2, h3, h4, _, h5⟩ := dd'
  refine ⟨.ref s.heap.objs.size, _, d_write (ob := .dT [(k, y)]) I3 (by rw [e0]; exact True.intro) hs ⟨o, hq⟩ ⟨by show 1 ≤ sizeLine; decide, hd, [(k, b, w2)], .cons ⟨rfl, ?_, ry⟩ .nil, o, es, ep, hq, h2, h3, h4, h5⟩, rfl, q3⟩
  rw [upd_ne (ne_of eb e0 (fun z => nomatch z))]
  exact eb
/-! ### d.keys(), sorted(d.keys()), the keys tuples of ints -/
def keysO (p d : Addr) : HO := .ext fun h => PySem.W.KdlKeysView h p d
theorem keysO_ok {P : Program} {w : World} {H : Hp} {h : Heap} {p d : Addr} (e : h.get? p = some { cls := .type "dict_keys", data := .fields #[.ref d] }) : ObjOk P w H h p (keysO p d) :=
  ⟨⟨_, e, rfl, rfl⟩, ⟨_, e⟩, fun h1 h2 x k => let ⟨o, ho, r⟩ := x; ⟨o, k o ho, r⟩⟩
def rKeysT : V → List V → Hp → VK → Prop := fun x xs H Q => ∃ (a : Addr) (kvs : List (List Key × V)), x = .ref a ∧ xs = [] ∧ H a = some (.dT kvs) ∧ ∀ p, H p = none → Q (.ref p) (upd H p (keysO p a))
theorem mt_keysT : MtR X "dict.keys" rKeysT := by
  intro pins s σ H x xs v us Q I rx rxs h
  obtain ⟨a, kvs, rfl, rfl, ha, q⟩ := h
  cases rx
  cases rxs
  obtain ⟨z, hd, xs', rel, o, es, ep, ho, hx, hdat, _⟩ := dt_of I.hok ha
  have hm : s.heap.DictRaw a es ep := ⟨o, ho, hx, hdat⟩
  refine call_meetsIn PySem.F.slot_dict_keys hm.typeIs PySem.F.entry_dict_keys (PySem.F.args_dict_keys_1 _) (meets_dict_keys_raw a hd) ⟨⟨es, ep, hm⟩, ?_⟩
  have hf : H s.heap.objs.size = none := I.hok.fresh (Nat.le_refl _)
  exact ⟨.ref s.heap.objs.size, upd H s.heap.objs.size (keysO s.heap.objs.size a), I.laid (t' := s.toks) (fun b u e => Heap.get?_push_of_some _ e) (Nat.le_refl _) (keysO_ok (Heap.get?_push_size _ rfl)), rfl, q _ hf⟩
theorem reads_ints {h : Heap} : ∀ {ns : List Int} {us : List Value}, Vals (ns.map V.int) us → ReadsAll h us (ns.map .int) []
  | [], _, .nil => .nil
  | n :: ns, _, .cons r t => by
    obtain ⟨tk, rfl⟩ := r
    exact .cons (as := []) (bs := []) (.int n tk) (reads_ints t)
theorem TI.reads {pins : List (Addr × Obj)} {σ : L2.St} {H : Hp} {s : Shared} {h' : Heap} {x : V} {ns : List Int} {u : Value} (I : Inv X pins σ H s) (h : TI H x ns) (r : RelV x u) (k : ∀ b o, s.heap.get? b = some o → h'.get? b = some o) : Reads h' u (encT ns) [] := by
  obtain ⟨a, rfl, e⟩ := h
  cases (show u = Value.ref a from r)
  obtain ⟨_, its, rv, o, h1, h2, n, h3⟩ := (show ObjOk X.prog X.w H s.heap a (.tup (ns.map V.int)) from I.hok a _ e)
  exact .tuple (k _ _ h1) h2 h3 (by simpa using reads_ints rv)
/-- the keys of a dict are the tuples of ints ds -/
def rSortK : List V → Hp → VK → Prop := fun vs H Q => ∃ (p a : Addr) (kvs : List (List Key × V)) (ds : List (List Int)) (n : Nat), vs = [.ref p] ∧ H p = some (keysO p a) ∧ H a = some (.dT kvs) ∧ kvs.map (·.1) = ds.map (fun d => d.map Sum.inl) ∧
  (∀ d ∈ ds, d.length = n + 1) ∧ ∀ ys l, TIs H ys (ds.mergeSort (PySem.W.dataLe false encT)) → H l = none → Q (.ref l) (upd H l (.lst ys))
theorem alike_T {a b : List Int} : PySem.W.alike (encT a) (encT b) = true := by
  show PySem.W.alike (.tuple _) (.tuple _) = true
  rw [PySem.W.alike]
  exact PySem.W.alike_ints a b
theorem key_row {H : Hp} : ∀ {kvs : List (List Key × V)} {xs : List (List Key × Addr × Value)} {ds : List (List Int)}, L2.KT H kvs xs → kvs.map (·.1) = ds.map (fun d => d.map Sum.inl) → PySem.W.EachIs (fun u b => ∃ x, RelV x u ∧ TI H x b) (xs.map fun q => Value.ref q.2.1) ds
  | [], _, [], .nil, _ => .nil
  | p :: kvs, _, d :: ds, .cons (b := q) h t, e => by
    rw [List.map_cons, List.map_cons] at e
    injection e with e1 e2
    refine .cons ⟨.ref q.2.1, rfl, q.2.1, rfl, ?_⟩ (key_row t e2)
    rw [h.2.1, e1, List.map_map]
    rfl
  | [], _, d :: ds, _, e => nomatch e
  | p :: kvs, _, [], _, e => nomatch e
theorem cr_sortK (hc : X.calm = true) (hu : X.A.units + 64 < cLine) : CallR X (.builtin "sorted") rSortK := by
  intro pins s σ H vs us Q I r h
  obtain ⟨p, a, kvs, ds, n, rfl, hp, ha, hkd, hlen, q⟩ := h
  rw [Vals.ref1 r]
  have view : PySem.W.KdlKeysView s.heap p a := (show ObjOk X.prog X.w H s.heap p (keysO p a) from I.hok p _ hp).1
  obtain ⟨z, hd, xs', rel, o, es, ep, ho, hx, hdat, hes, his, hn⟩ := dt_of I.hok ha
  have hraw : s.heap.DictRaw a es ep := ⟨o, ho, hx, hdat⟩
  have hh : X.A.handled = none := I.ok.hd hc
  have hsz : es.size = xs'.length := by
    rw [← Array.length_toList, hes, List.length_map]
  have hl1 : kvs.length = xs'.length := Paired.length rel
  have hl2 : kvs.length = ds.length := by
    have := congrArg List.length hkd
    rw [List.length_map, List.length_map] at this
    exact this
  refine Calls.call_function_entry kind_sorted plain_sorted entry_sorted (args_sorted1 _) ?_
  unfold Builtin.«sorted»
  refine wpAny_bind (m := checkCount "sorted" 1 1 _) (wpAny_pure ?_)
  refine wpAny_bind (PySem.W.kdu_collect (A := X.A.in1) (KdlSrc.rawKeys (r := p) (d := a) (es := es) (ep := ep)) hh ⟨view, hraw⟩ (by rw [hsz, ← hl1]; exact z) fun h' tk acc hk hacc => ?_)
  have eacc : acc.toList = xs'.map fun q => Value.ref q.2.1 := by
    refine List.ext_getElem? fun j => ?_
    rw [List.getElem?_map]
    by_cases hj : j < es.size
    · have hja : j < acc.size := by rw [hacc.1]; exact hj
      obtain ⟨hi, hv⟩ := hacc.2 j acc[j] (by simp [hja])
      have hx2 : (xs'.map (entryOfKey (tupleKind (mixKind X.prog X.w))))[j]? = some es[j] := by rw [← hes]; simp [hj]
      rw [List.getElem?_map] at hx2
      rw [Array.getElem?_toList, Array.getElem?_eq_getElem hja, hv]
      cases hq : xs'[j]? with
      | none => rw [hq] at hx2; cases hx2
      | some y =>
        rw [hq] at hx2
        have e9 : entryOfKey (tupleKind (mixKind X.prog X.w)) y = es[j] := Option.some.inj hx2
        rw [← e9]
        rfl
    · rw [Array.getElem?_toList, Array.getElem?_eq_none (by rw [hacc.1]; omega), List.getElem?_eq_none (by omega)]
      rfl
  have hla : acc.toList.length = ds.length := by rw [eacc, List.length_map]; omega
  have hdz : ds.length ≤ sizeLine := by rw [← hl2]; exact z
  refine wpAny_bind (wpAny_newList ?_ (by rw [hla]; exact hdz))
  have hE : PySem.W.EachIs (fun u b => ∃ x, RelV x u ∧ TI H x b) acc.toList ds := by rw [eacc]; exact key_row rel hkd
  have hD : (h'.push (seqObj "list" acc.toList.toArray 0)).get? h'.objs.size = some (seqObj "list" acc.toList.toArray 0) := Heap.get?_push_size _ rfl
  have hk2 : ∀ b o, s.heap.get? b = some o → (h'.push (seqObj "list" acc.toList.toArray 0)).get? b = some o := fun b o e => Heap.get?_push_of_some _ (hk b o e)
  have I2 : Inv X pins σ H { s with heap := h', toks := tk } := I.kept (t' := tk) hk
  refine wpAny_bind (wpAny_holding (PySem.W.list_sort_data (R := fun u b => ∃ x, RelV x u ∧ TI H x b) (enc := encT) hD hE ?_ ?_ ?_ hdz ?_ fun out hlo heo => ?_))
  · exact hE.mono fun u b ⟨x, rx, tx⟩ => ⟨[], tx.reads I rx hk2, fun z => nomatch z⟩
  · exact PySem.W.AllAlike.of fun b b' => alike_T
  · refine .inl fun d hd' => ?_
    obtain ⟨b, hb, rfl⟩ := List.mem_map.mp hd'
    have := hlen b hb
    cases b with
    | nil => exact absurd this (by simp)
    | cons y yr => exact ⟨_, _, rfl⟩
  · intro b hb
    have := (sh_T b).2
    show X.A.in1.units + 1 + (encT b).depth < cLine
    have e : X.A.in1.units = X.A.units + 1 := rfl
    omega
  · obtain ⟨ys, vy, py⟩ := of_each heo
    obtain ⟨ep2, hat⟩ := PyProof.Rows.sortedHeap_at (vs := acc.toList) (out := out.toArray) hD
    refine wpAny_pure ⟨_, rfl, ?_⟩
    refine ⟨.ref h'.objs.size, upd H h'.objs.size (.lst ys), I2.laid (t' := tk) (fun b o e2 => ?_) (Nat.le_refl _) ⟨by rw [vy.length, hlo]; exact hdz, out, ep2, vy, hat⟩, rfl, q _ _ py (I2.hok.fresh (Nat.le_refl _))⟩
    rw [PyProof.Rows.sortedHeap_old (Nat.ne_of_lt (Heap.lt_size e2)) (by rw [Heap.size_push]; exact Nat.lt_succ_of_lt (Heap.lt_size e2))]
    exact Heap.get?_push_of_some _ e2
end
end K42
set_option Elab.async false
set_option linter.all false
set_option maxRecDepth 100000
set_option maxHeartbeats 4000000
namespace K42
open PySem PySem.Spec PyProof.Rows L2
theorem inV_ints (v : Int) : ∀ f : List Int, inV (.int v) (f.map V.int) = decide (v ∈ f)
  | [] => by simp [inV]
  | x :: f => by
    have ih := inV_ints v f
    unfold inV at ih ⊢
    rw [List.map_cons, List.any_cons, ih, Bool.eq_iff_iff]
    simp only [eqV, Bool.or_eq_true, beq_iff_eq, decide_eq_true_eq, List.mem_cons]
    exact ⟨fun h => h.elim (fun a => .inl a.symm) .inr, fun h => h.elim (fun a => .inl a.symm) .inr⟩
theorem flat_ints (f : List Int) : (f.map V.int).all flatV = true := by
  rw [List.all_eq_true]
  intro x hx
  obtain ⟨i, _, rfl⟩ := List.mem_map.mp hx
  rfl
theorem isort_perm : ∀ l : List Int, (isort l).Perm l
  | [] => .refl _
  | x :: r => (ins_perm x (isort r)).trans ((isort_perm r).cons x)
where ins_perm (x : Int) : ∀ l : List Int, (insI x l).Perm (x :: l)
  | [] => .refl _
  | y :: r => by
    unfold insI
    by_cases h : x ≤ y
    · rw [if_pos h]
    · rw [if_neg h]
      exact ((ins_perm x r).cons y).trans (.swap x y r)
theorem insI_sorted (x : Int) : ∀ l : List Int, l.Pairwise (· ≤ ·) → (insI x l).Pairwise (· ≤ ·)
  | [], _ => List.pairwise_singleton _ _
  | y :: r, h => by
    unfold insI
    obtain ⟨h1, h2⟩ := List.pairwise_cons.mp h
    by_cases e : x ≤ y
    · rw [if_pos e]
      refine List.pairwise_cons.mpr ⟨fun z hz => ?_, h⟩
      rcases List.mem_cons.mp hz with q | hz
      · rw [q]; exact e
      · exact Int.le_trans e (h1 z hz)
    · rw [if_neg e]
      refine List.pairwise_cons.mpr ⟨fun z hz => ?_, insI_sorted x r h2⟩
      rcases List.mem_cons.mp ((isort_perm.ins_perm x r).mem_iff.mp hz) with q | hz
      · rw [q]; omega
      · exact h1 z hz
theorem isort_sorted : ∀ l : List Int, (isort l).Pairwise (· ≤ ·)
  | [] => .nil
  | x :: r => insI_sorted x _ (isort_sorted r)
theorem isort_one {l m : List Int} (p : m.Perm l) (h : m.Pairwise (· ≤ ·)) : m = isort l :=
  sorted_one (fun a b h1 h2 => Int.le_antisymm h1 h2) (p.trans (isort_perm l).symm) h (isort_sorted l)
theorem foldl_take_succ {α β : Type} (g : β → α → β) (b : β) {l : List α} {i : Nat} {x : α} (h : l[i]? = some x) : (l.take (i + 1)).foldl g b = g ((l.take i).foldl g b) x := by
  rw [List.take_succ, h, List.foldl_append]
  rfl
theorem stepL_len (here : Int) (st : List Int × List Int) (a : Arr) : (stepL here st a).1.length ≤ st.1.length + 1 ∧ (stepL here st a).2.length ≤ st.2.length + 1 := by
  unfold stepL
  split
  · simp
  · simp
theorem foldL_len (here : Int) : ∀ (ar : List Arr) (st : List Int × List Int), (ar.foldl (stepL here) st).1.length ≤ st.1.length + ar.length ∧ (ar.foldl (stepL here) st).2.length ≤ st.2.length + ar.length
  | [], st => by simp
  | a :: ar, st => by
    have h1 := stepL_len here st a
    have h2 := foldL_len here ar (stepL here st a)
    simp only [List.foldl_cons, List.length_cons]
    omega
section
variable {P : Program} {w : World} {K : PySem.W.Frag} {mg : Str → Option Value} {base : Heap}
def spLed : Sp := fun vs H Q _ => ∃ (x : Addr) (n : Nat) (ar : List Arr) (p : Int) (f : List Int), vs = [.ref x, .int p] ∧ WebAt H x n ar ∧ ar.length ≤ 6 ∧ ledRun 8 ar [p] [p] = some f ∧
  ∀ H' a, Same H H' → H a = none → H' a = some (.lst ((led ar p).map V.int)) → Q (.ref a) H'
theorem led_of {ar : List Arr} {p : Int} {f : List Int} (h : ledRun 8 ar [p] [p] = some f) : led ar p = isort f := by
  unfold led
  rw [h]
theorem ok_led {f : Addr} {fd : FuncData} {k : Nat} (F : Fun K "led_from" "led_from" sLed f fd) (B : Bt mg) : FnOk P w K mg base CX0 (k + 1) f fd ["web", "place"] spLed := by
  refine F.ok scLed (fun vs H Q E h => ?_) (fun cdv A outer s H vs Q E hr h => ?_)
  · obtain ⟨x, n, ar, p, fin, rfl, _⟩ := h
    rfl
  · obtain ⟨x, n, ar, p, fin, rfl, W, h6, hf, q⟩ := h
    have hu : (cxOf CX0 P w K mg base ["web", "place", "found", "rows", "here", "one", "other"] "led_from" (defScope sLed) f cdv A outer s H E).nox.A.units + 64 < cLine := hr.units
    refine ⟨_, pss_cons (ps_par (i := 2) (j := 3) (by rfl) scLed.nd rfl rfl (by decide) rfl rfl (pa_cons (pe_lst (pa_cons (pv 1) pa_nil)) (pa_cons (pe_lst (pa_cons (pv 1) pa_nil)) pa_nil)) (by rfl))
      (pss_cons (ps_while PassesOwn.never (pt_cmpR (op_neD hu) (pv 3) (pe_lst pa_nil) (nomark _))
        (pss_cons (ps_set (i := 4) scLed.nd rfl (.inl rfl) (pe_bm0 PySem.F.plainAttrs_list PySem.F.slot_list_pop PySem.F.type_list_pop mt_pop (pv 3)))
        (pss_one (ps_for PassesOwn.never rfl (pi_tup (pe_ix ix_tup (pv 0) pe_int (fun _ _ => rfl)))
          (pg_tup rfl (pgs_cons (pg_name (i := 5) scLed.nd rfl (.inl rfl)) (pgs_cons (pg_name (i := 6) scLed.nd rfl (.inl rfl)) pgs_nil)))
          (pss_one (ps_if (PW.pt (pw_and (pt_cmpR op_eq (pv 5) (pv 4) (nomark _)) (pw_and1 (pt_cmpR op_notIn_seq (pv 6) (pv 2) (by rfl)))))
            (pss_cons (ps_expr (pe_bm PySem.F.plainAttrs_list PySem.F.slot_list_append PySem.F.type_list_append mt_append (pv 2) (pa_cons (pv 6) pa_nil)))
            (pss_one (ps_expr (pe_bm PySem.F.plainAttrs_list PySem.F.slot_list_append PySem.F.type_list_append mt_append (pv 3) (pa_cons (pv 6) pa_nil))))) pss_nil))))))
      (pss_one (ps_ret (pe_callB cr_sorted (by rfl) B.sorted (by decide +kernel) (pa_cons (pv 2) pa_nil))))), ?_⟩
    -- found, rows = [place], [place]
    refine ⟨_, rfl, by show 1 ≤ sizeLine; decide, fun lf nf => ⟨_, rfl, by show 1 ≤ sizeLine; decide, fun lr nr => ⟨_, _, rfl, ?_⟩⟩⟩
    have nlr : lr ≠ lf := by
      intro e
      subst e
      rw [upd_same] at nr
      cases nr
    have nr0 : H lr = none := by
      rw [upd_ne nlr] at nr
      exact nr
    -- the while
    refine ⟨fun m σ H' => ∃ (g r : List Int) (h4 h5 h6 : Option V), σ = [some (.ref x), some (.int p), some (.ref lf), some (.ref lr), h4, h5, h6] ∧ Same H H' ∧ H' lf = some (.lst (g.map V.int)) ∧ H' lr = some (.lst (r.map V.int)) ∧
      ledRun m ar g r = some fin ∧ g.length + 6 * m ≤ 49 ∧ r.length + 6 * m ≤ 49, ⟨8, [p], [p], none, none, none, rfl, ?_, ?_, ?_, hf, by simp, by simp⟩, ?_⟩
    · exact same_wr (same_upd nf) nr0
    · rw [upd_ne nlr.symm, upd_same]
      rfl
    · rw [upd_same]
      rfl
    rintro m σ H' ⟨g, r, h4, h5, h7, rfl, sm, eg, er, hrun, lg, lr'⟩
    refine ⟨_, rfl, by show 0 ≤ sizeLine; decide, fun e he => ?_⟩
    have nle : lr ≠ e := ne_of_none er he
    have nfe : lf ≠ e := ne_of_none eg he
    have sm1 : Same H (upd H' e (.lst [])) := fun b o hb => same_upd he b o (sm b o hb)
    have eg1 : upd H' e (.lst []) lf = some (.lst (g.map V.int)) := by rw [upd_ne nfe]; exact eg
    have er1 : upd H' e (.lst []) lr = some (.lst (r.map V.int)) := by rw [upd_ne nle]; exact er
    refine ⟨encL r, encL [], dp_L (sqL_of er1), dp_L (sqL_of upd_same), (sh_L _).shaped (by decide), (sh_L _).shaped (by decide), _, rfl, ?_⟩
    rw [eqv_L]
    generalize hH1 : upd H' e (.lst []) = H1 at sm1 eg1 er1
    by_cases hr0 : r = []
    · rw [decide_eq_true hr0]
      refine iteF ?_
      subst hr0
      have ef : g = fin := by
        cases m with
        | zero => exact nomatch hrun
        | succ m => exact Option.some.inj hrun
      subst ef
      refine ⟨_, rfl, lf, g, rfl, sqL_of eg1, by omega, fun ns' l hp hs hl => ?_⟩
      refine q _ l (fun b o hb => same_upd hl b o (sm1 b o hb)) (sm1.free hl) ?_
      rw [upd_same, isort_one hp hs, led_of hf]
    · rw [decide_eq_false hr0]
      refine iteT ?_
      cases m with
      | zero => exact nomatch hrun
      | succ m =>
        obtain ⟨here, hh⟩ : ∃ here, r.getLast? = some here := by
          cases e2 : r.getLast? with
          | none => exact absurd (List.getLast?_eq_none_iff.mp e2) hr0
          | some z => exact ⟨z, rfl⟩
        have hrun2 : ledRun m ar (ar.foldl (stepL here) (g, r.dropLast)).1 (ar.foldl (stepL here) (g, r.dropLast)).2 = some fin := by
          have e3 := hrun
          unfold ledRun at e3
          rw [hh] at e3
          exact e3
        refine ⟨fun σ' H'' => ∃ (g r : List Int) (h4 h5 h6 : Option V), σ' = [some (.ref x), some (.int p), some (.ref lf), some (.ref lr), h4, h5, h6] ∧ Same H H'' ∧ H'' lf = some (.lst (g.map V.int)) ∧ H'' lr = some (.lst (r.map V.int)) ∧
          ledRun m ar g r = some fin ∧ g.length + 6 * m ≤ 49 ∧ r.length + 6 * m ≤ 49, fun σ' H'' hN => ⟨m, Nat.lt_succ_self m, hN⟩, ?_⟩
        -- here = rows.pop()
        refine ⟨_, rfl, .inl ⟨rfl, _, sqL_of er1⟩, lr, _, .int here, rfl, rfl, er1, ?_, ?_⟩
        · rw [List.length_map, List.getElem?_map, ← List.getLast?_eq_getElem?, hh]
          rfl
        have sm2 : Same H (upd H1 lr (.lst (r.map V.int).dropLast)) := same_wr sm1 nr0
        have eg2 : upd H1 lr (.lst (r.map V.int).dropLast) lf = some (.lst (g.map V.int)) := by rw [upd_ne nlr.symm]; exact eg1
        have er2 : upd H1 lr (.lst (r.map V.int).dropLast) lr = some (.lst (r.dropLast.map V.int)) := by rw [upd_same, List.map_dropLast]
        generalize upd H1 lr (.lst (r.map V.int).dropLast) = H2 at sm2 eg2 er2
        obtain ⟨t, xs, w1, w2, w3⟩ := W.kt (kt_same sm2)
        -- for one, other in web[1]
        refine ⟨_, rfl, x, _, _, _, rfl, rfl, sqT_of w1, atI_nat (j := 1) rfl, t, rfl, ⟨_, sqT_of w2⟩, ?_⟩
        refine for_tup (K := K) (a := t) (xs := xs) (fun i σ' H'' => ∃ (h5 h6 : Option V), σ' = [some (.ref x), some (.int p), some (.ref lf), some (.ref lr), some (.int here), h5, h6] ∧ Same H H'' ∧ KT H2 H'' ∧
          H'' lf = some (.lst (((ar.take i).foldl (stepL here) (g, r.dropLast)).1.map V.int)) ∧ H'' lr = some (.lst (((ar.take i).foldl (stepL here) (g, r.dropLast)).2.map V.int)))
          ⟨h5, h7, rfl, sm2, KT.refl _, eg2, er2⟩ (fun i σ' H'' _ ⟨_, _, _, _, kt, _⟩ => sqT_of (kt _ _ w2)) ?_ ?_
        · rintro i y σ' H'' hi ⟨v5, v6, rfl, sm3, kt, eg3, er3⟩
          obtain ⟨na, hna, T0⟩ := w3.get hi
          rw [List.getElem?_map] at hna
          obtain ⟨a, ha, ea⟩ : ∃ a, ar[i]? = some a ∧ arV a = na := by
            cases e4 : ar[i]? with
            | none => rw [e4] at hna; cases hna
            | some a => rw [e4] at hna; exact ⟨a, rfl, Option.some.inj hna⟩
          subst ea
          obtain ⟨ta, rfl, ht⟩ := T0.kt kt
          refine ⟨ta, _, rfl, sqT_of ht, rfl, _, _, rfl, _, _, rfl, rfl, ?_⟩
          have hil : i < ar.length := (List.getElem?_eq_some_iff.mp ha).1
          have hlen := foldL_len here (ar.take i) (g, r.dropLast)
          rw [List.length_take, List.length_dropLast] at hlen
          dsimp only at hlen
          generalize hst : (ar.take i).foldl (stepL here) (g, r.dropLast) = st at eg3 er3 hlen
          -- if one == here and other not in found
          have hnext : (ar.take (i + 1)).foldl (stepL here) (g, r.dropLast) = stepL here st a := by rw [foldl_take_succ _ _ ha, hst]
          refine ⟨_, rfl, _, rfl, rfl, _, rfl, ?_⟩
          by_cases h1 : a.1 = here
          · rw [decide_eq_true (show V.int a.1 = V.int here by rw [h1])]
            refine iteT ⟨_, rfl, _, rfl, lf, _, rfl, .inl (sqL_of eg3), rfl, flat_ints _, _, rfl, ?_⟩
            show if (!inV (V.int a.2) (st.1.map V.int)) = true then _ else _
            rw [inV_ints]
            by_cases h2 : a.2 ∈ st.1
            · rw [decide_eq_true h2]
              refine iteF ?_
              have e5 : stepL here st a = st := by
                unfold stepL
                rw [if_neg (fun z => z.2 h2)]
              refine ⟨_, _, rfl, sm3, kt, ?_, ?_⟩
              · rw [hnext, e5]; exact eg3
              · rw [hnext, e5]; exact er3
            · rw [decide_eq_false h2]
              refine iteT ?_
              have e5 : stepL here st a = (st.1 ++ [a.2], st.2 ++ [a.2]) := by
                unfold stepL
                rw [if_pos ⟨h1, h2⟩]
              refine ⟨_, rfl, .inl ⟨rfl, _, sqL_of eg3⟩, _, rfl, lf, _, _, rfl, rfl, eg3, ?_, ?_⟩
              · rw [List.length_map]; exact sz_lt (by omega)
              have er4 : upd H'' lf (.lst (st.1.map V.int ++ [V.int a.2])) lr = some (.lst (st.2.map V.int)) := by rw [upd_ne nlr]; exact er3
              refine ⟨_, rfl, .inl ⟨rfl, _, sqL_of er4⟩, _, rfl, lr, _, _, rfl, rfl, er4, ?_, ?_⟩
              · rw [List.length_map]; exact sz_lt (by omega)
              refine ⟨_, _, rfl, same_wr (same_wr sm3 nf) nr0, (kt.trans (kt_lst eg3)).trans (kt_lst er4), ?_, ?_⟩
              · rw [hnext, e5, upd_ne nlr.symm, upd_same, List.map_append]
                rfl
              · rw [hnext, e5, upd_same, List.map_append]
                rfl
          · rw [decide_eq_false (show ¬ V.int a.1 = V.int here from fun z => h1 (V.int.inj z))]
            refine iteF ?_
            have e5 : stepL here st a = st := by
              unfold stepL
              rw [if_neg (fun z => h1 z.1)]
            refine iteF ?_
            refine ⟨_, _, rfl, sm3, kt, ?_, ?_⟩
            · rw [hnext, e5]; exact eg3
            · rw [hnext, e5]; exact er3
        · rintro σ' H'' ⟨v5, v6, rfl, sm3, kt, eg3, er3⟩
          have hlx : xs.length = ar.length := by rw [w3.length, List.length_map]
          rw [hlx, List.take_length] at eg3 er3
          have hlen := foldL_len here ar (g, r.dropLast)
          rw [List.length_dropLast] at hlen
          refine ⟨_, _, _, _, _, rfl, sm3, eg3, er3, hrun2, ?_, ?_⟩
          · have h1 := hlen.1
            show (ar.foldl (stepL here) (g, r.dropLast)).1.length + 6 * m ≤ 49
            have : ({fst := g, snd := r.dropLast} : List Int × List Int).1.length = g.length := rfl
            omega
          · have h1 := hlen.2
            have : 0 < r.length := List.length_pos_iff.mpr hr0
            omega
end
end K42
set_option Elab.async false
set_option linter.all false
set_option maxRecDepth 100000
set_option maxHeartbeats 4000000
namespace K42
open PySem PySem.Spec PyProof.Rows L2
/-! ### a def as it is called -/
structure Ca (P : Program) (w : World) (K : PySem.W.Frag) (mg : Str → Option Value) (base : Heap) (k : Nat) (x : Str) (sp : Sp) : Prop where
  ex : ∃ (f : Addr) (fd : FuncData) (ps : List Str), FnOk P w K mg base CX0 k f fd ps sp ∧ mg x = some (.ref f) ∧ PySem.W.keepIn K (.ref f) = true ∧ Binds K fd ps []
section
variable {X : Cx} {k j : Nat} {x : Str} {sp : Sp} {e : Expr} {es : List Expr} {t : TA} {p pos : Pos}
theorem pe_ca (c : Ca X.prog X.w X.K X.mg X.base k x sp) (hr : Room j X.A) (hk : k ≤ j) (hg : Gl X x) (ha : PA X (e :: es) t)
    (hdb : (x == ("__debug__" : Str)) = false := by decide) (he : starEach (e :: es) X.env = (false, eval e X.env) :: starEach es X.env := by rfl) (hpl : (backTo pos (starEach es X.env)).any (·.1) = false := by rfl) :
    PE X (.Call (.Name x p) (e :: es) [] pos) (tCall sp [] E0 t) := by
  obtain ⟨f, fd, ps, F, hm, kp, b⟩ := c.ex
  exact pe_call F (hr.mono hk) hg hm kp b .nil pass0 ha hdb he hpl
end
section
variable {P : Program} {w : World} {K : PySem.W.Frag} {mg : Str → Option Value} {base : Heap}
/-! ### closed_in -/
def spClosed : Sp := fun vs H Q _ => ∃ (x : Addr) (n : Nat) (ar : List Arr), vs = [.ref x] ∧ WebAt H x n ar ∧ WOk n ar ∧
  ∀ H' a, Same H H' → H a = none → WebAt H' a n (closed n (leds n ar)) → Q (.ref a) H'
theorem range_succ_flat {α : Type} (g : Nat → List α) (i : Nat) : (List.range (i + 1)).flatMap g = (List.range i).flatMap g ++ g i := by
  rw [List.range_succ, List.flatMap_append]
  simp
theorem closedK_len {n : Nat} {ar : List Arr} (W : WOk n ar) {k : Nat} (hk : k < n) : (closedK (leds n ar) k).length ≤ 3 := by
  unfold closedK
  rw [leds_get hk, List.length_map]
  exact Nat.le_trans (List.length_filter_le _ _) (W.leds hk).2.2.2
theorem closed_len {n : Nat} {ar : List Arr} (W : WOk n ar) : ∀ i, i ≤ n → ((List.range i).flatMap (closedK (leds n ar))).length ≤ 3 * i
  | 0, _ => by simp
  | i + 1, h => by
    have ih := closed_len W i (by omega)
    have h1 := closedK_len W (show i < n by omega)
    rw [range_succ_flat, List.length_append]
    omega
theorem ok_closed {f : Addr} {fd : FuncData} {k : Nat} (F : Fun K "closed_in" "closed_in" sClosed f fd) (B : Bt mg) (cL : Ca P w K mg base k "led_from" spLed) : FnOk P w K mg base CX0 (k + 1) f fd ["web"] spClosed := by
  refine F.ok scClosed (fun vs H Q E h => ?_) (fun cdv A outer s H vs Q E hr h => ?_)
  · obtain ⟨x, n, ar, rfl, _⟩ := h
    rfl
  · obtain ⟨x, n, ar, rfl, W, ok, q⟩ := h
    refine ⟨_, pss_cons (ps_set (i := 1) scClosed.nd rfl (.inl rfl) (pe_lst pa_nil))
      (pss_cons (ps_for PassesOwn.never rfl (pi_range1 rfl B.range (pa_cons (pe_ix ix_tup (pv 0) pe_int (fun _ _ => rfl)) pa_nil)) (pg_name (i := 2) scClosed.nd rfl (.inr rfl))
        (pss_one (ps_set (i := 1) scClosed.nd rfl (.inl rfl) (pe_op op_cat (pv 1)
          (pe_lc (own := [("other", 3)]) (g := gName 3) (by rfl) scClosed.nd (pi_list (pe_ca cL hr (Nat.le_refl _) (by rfl) (pa_cons (pv 0) (pa_cons (pv 2) pa_nil))))
            (blkOk_by (N := ["web", "found", "k", "other"]) (sc := defScope sClosed) (by decide +kernel)) (fun _ _ _ _ _ => pg_name (i := 3) scClosed.nd rfl (Or.inl rfl))
            (fun _ _ _ _ _ => pts_one (pt_cmpR op_ne (pv 3) (pv 2) (nomark _))) (fun _ _ _ _ _ => pe_tup (pa_cons (pv 2) (pa_cons (pv 3) pa_nil))))))))
      (pss_one (ps_ret (pe_tup (pa_cons (pe_ix ix_tup (pv 0) pe_int (fun _ _ => rfl)) (pa_cons (pe_callTy call_tuple_of (by rfl) B.tuple (by decide +kernel) (pa_cons (pv 1) pa_nil)) pa_nil)))))), ?_⟩
    refine ⟨by show 0 ≤ sizeLine; decide, fun l0 nl0 => ?_⟩
    obtain ⟨t, xs, w1, w2, w3⟩ := W
    have s0 : Same H (upd H l0 (.lst [])) := same_upd nl0
    refine ⟨_, rfl, x, _, _, _, rfl, rfl, sqT_of (s0 _ _ w1), atI_nat (j := 0) rfl, (n : Int), rfl, by have := ok.n3; omega, by have := ok.n3; omega, ?_⟩
    refine for_range (lo := 0) (n := n) (fun i σ H' => ∃ (lf : Addr) (ys : List V) (h2 : Option V), σ = [some (.ref x), some (.ref lf), h2, none] ∧ Same H H' ∧ H lf = none ∧ H' lf = some (.lst ys) ∧ TIs H' ys (((List.range i).flatMap (closedK (leds n ar))).map arV))
      ⟨l0, [], none, rfl, s0, nl0, upd_same, .nil⟩ ?_ ?_
    · rintro i σ H' hi ⟨lf, ys, h2, rfl, sm, nf, ef, ty⟩
      have WK : WebAt H' x n ar := ⟨t, xs, sm _ _ w1, sm _ _ w2, w3.kt (kt_same sm)⟩
      obtain ⟨⟨fin, hfin⟩, hrng, hself, hl3⟩ := ok.leds hi
      rw [show (0 : Int) + (i : Int) = (i : Int) from Int.zero_add _]
      -- found + [(k, other) for other in led_from(web, k) if other != k]
      refine ⟨_, rfl, _, rfl, _, rfl, x, n, ar, i, fin, rfl, WK, ok.few, hfin, fun H2 ll s2 n2 e2 => ?_⟩
      refine ⟨ll, rfl, ⟨_, sqL_of e2⟩, fun D hD => ?_⟩
      refine lc_list (K := K) (a := ll) (xs := (led ar i).map V.int) (fun j H'' => Same H2 H'' ∧ ∃ acc, H'' D = some (.lst acc) ∧ TIs H'' acc (((((led ar i).take j).filter fun v => decide (v ≠ (i : Int))).map fun v => ((i : Int), v)).map arV))
        ⟨same_upd hD, [], upd_same, .nil⟩ (fun j H'' _ ⟨s3, _⟩ => sqL_of (s3 _ _ e2)) ?_ ?_
      · rintro j y H'' hj ⟨s3, acc, ea, ta⟩
        rw [List.getElem?_map] at hj
        obtain ⟨v, hv, rfl⟩ : ∃ v, (led ar i)[j]? = some v ∧ V.int v = y := by
          cases e4 : (led ar i)[j]? with
          | none => rw [e4] at hj; cases hj
          | some v => rw [e4] at hj; exact ⟨v, rfl, Option.some.inj hj⟩
        have hacc : acc.length ≤ 3 := by
          rw [ta.length, List.length_map, List.length_map]
          refine Nat.le_trans (List.length_filter_le _ _) (Nat.le_trans ?_ hl3)
          rw [List.length_take]
          exact Nat.min_le_right _ _
        refine ⟨rfl, _, rfl, _, rfl, rfl, _, rfl, ?_⟩
        have et : (led ar i).take (j + 1) = (led ar i).take j ++ [v] := by rw [List.take_succ, hv]; rfl
        by_cases hvi : v = (i : Int)
        · have ed : (!decide (V.int v = V.int (i : Int))) = false := by rw [decide_eq_true (by rw [hvi])]; rfl
          rw [ed]
          refine iteF ⟨s3, acc, ea, ?_⟩
          rw [et, List.filter_append]
          have e6 : [v].filter (fun v => decide (v ≠ (i : Int))) = [] := by simp [hvi]
          rw [e6, List.append_nil]
          exact ta
        · have ed : (!decide (V.int v = V.int (i : Int))) = true := by rw [decide_eq_false (fun z => hvi (V.int.inj z))]; rfl
          rw [ed]
          refine iteT ⟨_, rfl, _, rfl, by show 2 ≤ sizeLine; decide, fun p hp => ?_⟩
          have npD : D ≠ p := ne_of_none ea hp
          refine ⟨acc, by rw [upd_ne npD]; exact ea, sz_lt (by omega), ?_, acc ++ [.ref p], upd_same, ?_⟩
          · exact same_wr (fun b o hb => same_upd hp b o (s3 b o hb)) hD
          · have eD : upd H'' p (.tup [.int (i : Int), .int v]) D = some (.lst acc) := by rw [upd_ne npD]; exact ea
            have k1 : KT H'' (upd (upd H'' p (.tup [.int (i : Int), .int v])) D (.lst (acc ++ [.ref p]))) := (kt_new hp).trans (kt_lst eD)
            rw [et, List.filter_append]
            have e6 : [v].filter (fun v => decide (v ≠ (i : Int))) = [v] := by simp [hvi]
            rw [e6, List.map_append, List.map_append]
            refine TIs.append (ta.kt k1) (.cons ⟨p, rfl, ?_⟩ .nil)
            rw [upd_ne npD.symm, upd_same]
            rfl
      · rintro H'' ⟨s3, acc, ea, ta⟩
        rw [List.length_map, List.take_length] at ta
        have s4 : Same H' H'' := s2.trans s3
        have ef' : H'' lf = some (.lst ys) := s4 _ _ ef
        have hys : ys.length ≤ 9 := by
          rw [ty.length, List.length_map]
          have := closed_len ok i (by omega)
          have := ok.n3
          omega
        have hacc : acc.length ≤ 3 := by
          rw [ta.length, List.length_map, List.length_map]
          exact Nat.le_trans (List.length_filter_le _ _) hl3
        refine ⟨lf, D, ys, acc, rfl, rfl, ef', ea, sz_le (by omega), fun p hp => ?_⟩
        have sF : Same H H'' := sm.trans s4
        refine ⟨p, ys ++ acc, _, rfl, fun b o hb => same_upd hp b o (sF b o hb), sF.free hp, upd_same, ?_⟩
        have kF : KT H'' (upd H'' p (.lst (ys ++ acc))) := kt_new hp
        rw [range_succ_flat, List.map_append]
        refine TIs.append (ty.kt ((kt_same s4).trans kF)) ?_
        unfold closedK
        rw [leds_get hi]
        exact ta.kt kF
    · rintro σ H' ⟨lf, ys, h2, rfl, sm, nf, ef, ty⟩
      have hys : ys.length ≤ 9 := by
        rw [ty.length, List.length_map]
        have := closed_len ok n (Nat.le_refl _)
        have := ok.n3
        omega
      refine ⟨_, rfl, x, _, _, _, rfl, rfl, sqT_of (sm _ _ w1), atI_nat (j := 0) rfl, _, rfl, lf, ys, rfl, .inl ⟨sqL_of ef, fun tp htp => ?_⟩⟩
      refine ⟨by show 2 ≤ sizeLine; decide, fun a ha => ?_⟩
      have s1 : Same H (upd H' tp (.tup ys)) := fun b o hb => same_upd htp b o (sm b o hb)
      have nta : tp ≠ a := by
        intro z
        rw [← z, upd_same] at ha
        cases ha
      refine q _ a (fun b o hb => same_upd ha b o (s1 b o hb)) (s1.free ha) ⟨tp, ys, upd_same, ?_, ?_⟩
      · rw [upd_ne nta, upd_same]
      · exact ty.kt ((kt_new htp).trans (kt_new ha))
end
end K42
set_option Elab.async false
set_option linter.all false
set_option maxRecDepth 100000
set_option maxHeartbeats 4000000
namespace K42
open PySem PySem.Spec PyProof.Rows L2
/-- the constants -/
structure Cn (mg : Str → Option Value) : Prop where
  mc : ∃ t, mg "MOST_CLOCKS" = some (.int 7 t)
  lh : ∃ t, mg "LEAST_HOURS" = some (.int 2 t)
  mh : ∃ t, mg "MOST_HOURS" = some (.int 24 t)
section
variable {X : Cx}
theorem pe_const {x : Str} {i : Int} {pos : Pos} (hg : Gl X x) (hm : ∃ t, X.mg x = some (.int i t)) (hd : (x == ("__debug__" : Str)) = false := by decide) : PE X (.Name x pos) (tC (.int i)) := by
  obtain ⟨t, ht⟩ := hm
  exact pe_glob hg ht ⟨t, rfl⟩ hd
end
theorem asc_at : ∀ {ar : List Arr} {i : Nat} {x y : Arr}, ascA ar = true → ar[i]? = some x → ar[i + 1]? = some y → x.1 < y.1 ∨ (x.1 = y.1 ∧ x.2 < y.2)
  | [], _, _, _, _, h, _ => by simp at h
  | [_], 0, _, _, _, _, h => by simp at h
  | [_], i + 1, _, _, _, h, _ => by simp at h
  | a :: b :: r, 0, x, y, e, h1, h2 => by
    have e1 : a = x := by simpa using h1
    have e2 : b = y := by simpa using h2
    subst e1 e2
    unfold ascA at e
    simp only [Bool.and_eq_true, Bool.or_eq_true, decide_eq_true_eq] at e
    exact e.1
  | a :: b :: r, i + 1, x, y, e, h1, h2 => by
    unfold ascA at e
    rw [Bool.and_eq_true] at e
    exact asc_at (ar := b :: r) (i := i) e.2 (by simpa using h1) (by simpa using h2)
theorem le_pair {a b c d : Int} (h : c < a ∨ (c = a ∧ d < b)) : Ob.lexAt (fun j => decide (([a, b] : List Int).getD j 0 = ([c, d] : List Int).getD j 0)) (fun j => decide (([a, b] : List Int).getD j 0 ≤ ([c, d] : List Int).getD j 0)) (decide (([a, b] : List Int).length ≤ ([c, d] : List Int).length)) 0 (min ([a, b] : List Int).length ([c, d] : List Int).length) = false := by
  show Ob.lexAt _ _ _ 0 2 = false
  rw [Ob.lexAt_succ]
  show (if decide (a = c) = true then _ else decide (a ≤ c)) = false
  rcases h with h | ⟨h1, h2⟩
  · rw [decide_eq_false (show ¬ a = c by omega), decide_eq_false (show ¬ a ≤ c by omega)]
    rfl
  · rw [decide_eq_true h1.symm, if_pos rfl, Ob.lexAt_succ]
    show (if decide (b = d) = true then _ else decide (b ≤ d)) = false
    rw [decide_eq_false (show ¬ b = d by omega), decide_eq_false (show ¬ b ≤ d by omega)]
    rfl
section
variable {P : Program} {w : World} {K : PySem.W.Frag} {mg : Str → Option Value} {base : Heap}
/-! ### is_arrow -/
def spArrow : Sp := fun vs H Q _ => ∃ (a : Addr) (m u v : Int), vs = [.ref a, .int m] ∧ H a = some (.tup [.int u, .int v]) ∧ 0 ≤ u ∧ u < m ∧ 0 ≤ v ∧ v < m ∧ u ≠ v ∧ ∀ H', Same H H' → Q (.bl true) H'
theorem ok_arrow {f : Addr} {fd : FuncData} {k : Nat} (F : Fun K "is_arrow" "is_arrow" sArrow f fd) (B : Bt mg) (cI : Ca P w K mg base k "is_in" spIsIn) : FnOk P w K mg base CX0 (k + 1) f fd ["value", "many"] spArrow := by
  refine F.ok scArrow (fun vs H Q E h => ?_) (fun cdv A outer s H vs Q E hr h => ?_)
  · obtain ⟨a, m, u, v, rfl, _⟩ := h
    rfl
  · obtain ⟨a, m, u, v, rfl, ha, u0, um, v0, vm, uv, q⟩ := h
    have hu : (cxOf CX0 P w K mg base ["value", "many", "one"] "is_arrow" (defScope sArrow) f cdv A outer s H E).nox.A.units + 64 < cLine := hr.units
    refine ⟨_, pss_cons (ps_if (PW.pt (pw_or (pt_not (pt_val (pe_callB call_isi (by rfl) B.isi (by decide +kernel) (pa_cons (pv 0) (pa_cons (pe_bltn (v := .ty "tuple") (by rfl) B.tuple (by decide +kernel) rfl) pa_nil)))))
        (pw_or1 (pt_cmpR op_ne (pe_callB call_len_seq (by rfl) B.len PySem.boot_len (pa_cons (pv 0) pa_nil)) pe_int (nomark _))))) pss_never pss_nil)
      (pss_one (ps_ret (pe_and (pe_cmpR (op_eqD hu) (pe_lc (own := [("one", 2)]) (g := gName 2) (by rfl) scArrow.nd (pi_tup (pv 0))
            (blkOk_by (N := ["value", "many", "one"]) (sc := defScope sArrow) (by decide +kernel)) (fun _ _ _ _ _ => pg_name (i := 2) scArrow.nd rfl (Or.inl rfl))
            (fun _ _ _ _ _ => pts_one (pt_not (pt_val (pe_ca cI hr (Nat.le_refl _) (by rfl) (pa_cons (pv 2) (pa_cons pe_int (pa_cons (pe_op op_sub (pv 1) pe_int) pa_nil))))))) (fun _ _ _ _ _ => pv 2)) (pe_lst pa_nil) (nomark _))
          (pe_one (pe_cmpR op_ne (pe_ix ix_tup (pv 0) pe_int (fun _ _ => rfl)) (pe_ix ix_tup (pv 0) pe_int (fun _ _ => rfl)) (nomark _)))))), ?_⟩
    refine ⟨_, rfl, _, _, _, _, true, rfl, .ty _, .base (.tup ha), kit_ty (by decide +kernel), true, rfl, iteF ?_⟩
    refine ⟨_, rfl, a, _, rfl, .inr (sqT_of ha), rfl, _, rfl, iteF ?_⟩
    refine ⟨_, rfl, a, rfl, ⟨_, sqT_of ha⟩, fun D hD => ?_⟩
    refine lc_tup (K := K) (a := a) (xs := [.int u, .int v]) (fun i H' => Same H H' ∧ H' D = some (.lst [])) ⟨same_upd hD, upd_same⟩ (fun i H' _ ⟨s1, _⟩ => sqT_of (s1 _ _ ha)) ?_ ?_
    · rintro i y H' hy ⟨s1, e1⟩
      obtain ⟨z, rfl, z0, zm⟩ : ∃ z : Int, y = .int z ∧ 0 ≤ z ∧ z < m := by
        match i, hy with
        | 0, hy => exact ⟨u, (Option.some.inj hy).symm, u0, um⟩
        | 1, hy => exact ⟨v, (Option.some.inj hy).symm, v0, vm⟩
        | i + 2, hy => simp at hy
      refine ⟨rfl, _, rfl, _, rfl, _, _, rfl, rfl, z, 0, m - 1, rfl, z0, by omega, true, rfl, ?_⟩
      exact ⟨s1, e1⟩
    · rintro H' ⟨s1, e1⟩
      refine ⟨by show 0 ≤ sizeLine; decide, fun e he => ?_⟩
      have nDe : D ≠ e := ne_of_none e1 he
      have e2 : upd H' e (.lst []) D = some (.lst []) := by rw [upd_ne nDe]; exact e1
      have s2 : Same H (upd H' e (.lst [])) := fun b o hb => same_upd he b o (s1 b o hb)
      refine ⟨encL [], encL [], dp_L (ns := []) (sqL_of e2), dp_L (ns := []) (sqL_of upd_same), (sh_L _).shaped (by decide), (sh_L _).shaped (by decide), true, ?_, iteT ?_⟩
      · rw [eqv_L]; rfl
      · have ha2 := s2 _ _ ha
        refine ⟨_, rfl, a, _, _, _, rfl, rfl, sqT_of ha2, atI_nat (j := 0) rfl, _, rfl, a, _, _, _, rfl, rfl, sqT_of ha2, atI_nat (j := 1) rfl, rfl, ?_⟩
        show Q (.bl (!decide (V.int u = V.int v))) _
        rw [decide_eq_false (fun z => uv (V.int.inj z))]
        exact q _ s2
/-! ### need_web -/
def spNeedWeb : Sp := fun vs H Q _ => ∃ (x : Addr) (n : Nat) (ar : List Arr), vs = [.ref x] ∧ WebAt H x n ar ∧ WOk n ar ∧ ∀ H', Same H H' → Q .non H'
theorem ok_needWeb {f : Addr} {fd : FuncData} {k : Nat} (F : Fun K "need_web" "need_web" sNeedWeb f fd) (B : Bt mg) (C : Cn mg) (cI : Ca P w K mg base k "is_in" spIsIn) (cA : Ca P w K mg base k "is_arrow" spArrow) : FnOk P w K mg base CX0 (k + 1) f fd ["web"] spNeedWeb := by
  refine F.ok scNeedWeb (fun vs H Q E h => ?_) (fun cdv A outer s H vs Q E hr h => ?_)
  · obtain ⟨x, n, ar, rfl, _⟩ := h
    rfl
  · obtain ⟨x, n, ar, rfl, W, ok, q⟩ := h
    have hu : (cxOf CX0 P w K mg base ["web", "index", "one"] "need_web" (defScope sNeedWeb) f cdv A outer s H E).nox.A.units < cLine := Nat.lt_of_le_of_lt (Nat.le_add_right _ 64) hr.units
    refine ⟨_, pss_cons (ps_if (PW.pt (pw_or (pt_not (pt_val (pe_callB call_isi (by rfl) B.isi (by decide +kernel) (pa_cons (pv 0) (pa_cons (pe_bltn (v := .ty "tuple") (by rfl) B.tuple (by decide +kernel) rfl) pa_nil)))))
        (pw_or (pt_cmpR op_ne (pe_callB call_len_seq (by rfl) B.len PySem.boot_len (pa_cons (pv 0) pa_nil)) pe_int (nomark _))
          (pw_or1 (pt_not (pt_val (pe_callB call_isi (by rfl) B.isi (by decide +kernel) (pa_cons (pe_ix ix_tup (pv 0) pe_int (fun _ _ => rfl)) (pa_cons (pe_bltn (v := .ty "tuple") (by rfl) B.tuple (by decide +kernel) rfl) pa_nil))))))))) pss_never pss_nil)
      (pss_cons (ps_if (pt_not (pt_val (pe_ca cI hr (Nat.le_refl _) (by rfl) (pa_cons (pe_ix ix_tup (pv 0) pe_int (fun _ _ => rfl)) (pa_cons pe_int (pa_cons (pe_const (by rfl) C.mc) pa_nil)))))) pss_never pss_nil)
      (pss_one (ps_for PassesOwn.never rfl (pi_enumT (by rfl) B.enum (pa_cons (pe_ix ix_tup (pv 0) pe_int (fun _ _ => rfl)) pa_nil))
        (pg_tup rfl (pgs_cons (pg_name (i := 1) scNeedWeb.nd rfl (.inl rfl)) (pgs_cons (pg_name (i := 2) scNeedWeb.nd rfl (.inl rfl)) pgs_nil)))
        (pss_one (ps_if (PW.pt (pw_or (pt_not (pt_val (pe_ca cA hr (Nat.le_refl _) (by rfl) (pa_cons (pv 2) (pa_cons (pe_ix ix_tup (pv 0) pe_int (fun _ _ => rfl)) pa_nil)))))
          (pw_or1 (PW.pt (pw_and (pt_cmpR op_gt (pv 1) pe_int (nomark _)) (pw_and1 (pt_cmpR (op_leT hu) (pv 2) (pe_ix ix_tup (pe_ix ix_tup (pv 0) pe_int (fun _ _ => rfl)) (pe_op op_sub (pv 1) pe_int) (fun _ _ => rfl)) (nomark _)))))))) pss_never pss_nil))))), ?_⟩
    obtain ⟨t, xs, w1, w2, w3⟩ := W
    have hn3 := ok.n3
    have hn1 := ok.n1
    refine ⟨_, rfl, _, _, _, _, true, rfl, .ty _, .base (.tup w1), kit_ty (by decide +kernel), true, rfl, iteF ?_⟩
    refine ⟨_, rfl, x, _, rfl, .inr (sqT_of w1), rfl, _, rfl, iteF ?_⟩
    refine ⟨_, rfl, x, _, _, _, rfl, rfl, sqT_of w1, atI_nat (j := 1) rfl, _, _, _, _, true, rfl, .ty _, .base (.tup w2), kit_ty (by decide +kernel), true, rfl, iteF ?_⟩
    refine ⟨_, rfl, x, _, _, _, rfl, rfl, sqT_of w1, atI_nat (j := 0) rfl, (n : Int), 1, 7, rfl, by omega, by omega, true, rfl, iteF ?_⟩
    refine ⟨_, rfl, x, _, _, _, rfl, rfl, sqT_of w1, atI_nat (j := 1) rfl, t, xs, rfl, sqT_of w2, ?_⟩
    have hlx : xs.length = ar.length := by rw [w3.length, List.length_map]
    refine for_it (walk_enumT (K := K) (a := t) (xs := xs)) (fun i σ H' => ∃ h1 h2, σ = [some (.ref x), h1, h2] ∧ Same H H') ⟨none, none, rfl, Same.refl H⟩ (fun i σ H' _ ⟨_, _, _, s1⟩ => sqT_of (s1 _ _ w2)) ?_ ?_
    · rintro i y σ H' H'' hi ⟨h1, h2, rfl, s1⟩ ⟨T, z, y', rfl, nT, rfl, ez, ey⟩
      cases ez
      have s2 : Same H (upd H' T (.tup [.int (i : Int), y'])) := fun b o hb => same_upd nT b o (s1 b o hb)
      obtain ⟨na, hna, T0⟩ := w3.get ey
      rw [List.getElem?_map] at hna
      obtain ⟨a, ha, ea⟩ : ∃ a, ar[i]? = some a ∧ arV a = na := by
        cases e4 : ar[i]? with
        | none => rw [e4] at hna; cases hna
        | some a => rw [e4] at hna; exact ⟨a, rfl, Option.some.inj hna⟩
      subst ea
      obtain ⟨ta, rfl, ht⟩ := T0.kt (kt_same s2)
      obtain ⟨⟨b1, b2, b3, b4, b5⟩, _⟩ := ok.arr (List.mem_of_getElem? ha)
      refine ⟨T, _, rfl, sqT_of upd_same, rfl, _, _, rfl, _, _, rfl, rfl, ?_⟩
      refine ⟨_, rfl, _, rfl, x, _, _, _, rfl, rfl, sqT_of (s2 _ _ w1), atI_nat (j := 0) rfl, ta, (n : Int), a.1, a.2, rfl, ht, b1, b2, b3, b4, b5, fun H3 s3 => ⟨true, rfl, iteF ?_⟩⟩
      have s4 : Same H H3 := s2.trans s3
      refine ⟨_, rfl, _, _, rfl, rfl, _, rfl, ?_⟩
      cases i with
      | zero =>
        refine iteF (iteF ?_)
        exact ⟨_, _, rfl, s4⟩
      | succ i =>
        rw [decide_eq_true (show ((i + 1 : Nat) : Int) > 0 by omega)]
        refine iteT ?_
        have hil : i < ar.length := by
          have := (List.getElem?_eq_some_iff.mp ha).1
          omega
        have hprev : ar[i]? = some ar[i] := List.getElem?_eq_getElem hil
        obtain ⟨xp, hxp, Tp⟩ := TIs.at (w3.kt (kt_same s4)) (show (ar.map arV)[i]? = some (arV ar[i]) by rw [List.getElem?_map, hprev]; rfl)
        obtain ⟨tp, rfl, htp⟩ := Tp
        have hasc := asc_at (all3 (p := fun _ => ascA) webs_asc ok) hprev ha
        refine ⟨_, rfl, _, rfl, x, _, _, _, rfl, rfl, sqT_of (s4 _ _ w1), atI_nat (j := 1) rfl, _, rfl, _, _, rfl, rfl, t, xs, _, _, rfl, rfl, sqT_of (s4 _ _ w2), ?_, ta, tp, [a.1, a.2], [(ar[i]).1, (ar[i]).2], rfl, rfl, sqT_of (s3 _ _ ht), sqT_of htp, _, rfl, ?_⟩
        · show atI xs (((i + 1 : Nat) : Int) - 1) = some (.ref tp)
          rw [show ((i + 1 : Nat) : Int) - 1 = (i : Int) by omega]
          exact atI_nat hxp
        · rw [le_pair hasc]
          refine iteF ?_
          exact ⟨_, _, rfl, s4⟩
    · rintro σ H' ⟨h1, h2, rfl, s1⟩
      exact q H' s1
/-! ### need_hours, need_dial, need_all -/
def spNeedHours : Sp := fun vs H Q _ => ∃ (h : Int), vs = [.int h] ∧ 2 ≤ h ∧ h ≤ 24 ∧ Q .non H
theorem ok_needHours {f : Addr} {fd : FuncData} {k : Nat} (F : Fun K "need_hours" "need_hours" sNeedHours f fd) (C : Cn mg) (cI : Ca P w K mg base k "is_in" spIsIn) : FnOk P w K mg base CX0 (k + 1) f fd ["hours"] spNeedHours := by
  refine F.ok scNeedHours (fun vs H Q E h => ?_) (fun cdv A outer s H vs Q E hr h => ?_)
  · obtain ⟨h, rfl, _⟩ := h
    rfl
  · obtain ⟨h, rfl, h1, h2, q⟩ := h
    refine ⟨_, pss_one (ps_if (pt_not (pt_val (pe_ca cI hr (Nat.le_refl _) (by rfl) (pa_cons (pv 0) (pa_cons (pe_const (by rfl) C.lh) (pa_cons (pe_const (by rfl) C.mh) pa_nil)))))) pss_never pss_nil), ?_⟩
    exact ⟨_, rfl, h, 2, 24, rfl, h1, h2, true, rfl, iteF q⟩
/-- a dial stands at d -/
def DlAt (H : Hp) (d : Addr) (n h : Nat) (dl : List Int) : Prop := H d = some (.tup (dl.map V.int)) ∧ dl.length = n ∧ ∀ i ∈ dl, 0 ≤ i ∧ i < (h : Int)
def spNeedDial : Sp := fun vs H Q _ => ∃ (x d : Addr) (n h : Nat) (ar : List Arr) (dl : List Int), vs = [.ref x, .int (h : Int), .ref d] ∧ WebAt H x n ar ∧ DlAt H d n h dl ∧ ∀ H', Same H H' → Q .non H'
theorem ok_needDial {f : Addr} {fd : FuncData} {k : Nat} (F : Fun K "need_dial" "need_dial" sNeedDial f fd) (B : Bt mg) (cI : Ca P w K mg base k "is_in" spIsIn) : FnOk P w K mg base CX0 (k + 1) f fd ["web", "hours", "dial"] spNeedDial := by
  refine F.ok scNeedDial (fun vs H Q E h => ?_) (fun cdv A outer s H vs Q E hr h => ?_)
  · obtain ⟨x, d, n, h, ar, dl, rfl, _⟩ := h
    rfl
  · obtain ⟨x, d, n, h, ar, dl, rfl, ⟨t, xs, w1, w2, w3⟩, ⟨hd, hl, hb⟩, q⟩ := h
    refine ⟨_, pss_cons (ps_if (PW.pt (pw_or (pt_not (pt_val (pe_callB call_isi (by rfl) B.isi (by decide +kernel) (pa_cons (pv 2) (pa_cons (pe_bltn (v := .ty "tuple") (by rfl) B.tuple (by decide +kernel) rfl) pa_nil)))))
        (pw_or1 (pt_cmpR op_ne (pe_callB call_len_seq (by rfl) B.len PySem.boot_len (pa_cons (pv 2) pa_nil)) (pe_ix ix_tup (pv 0) pe_int (fun _ _ => rfl)) (nomark _))))) pss_never pss_nil)
      (pss_one (ps_for PassesOwn.never rfl (pi_enumT (by rfl) B.enum (pa_cons (pv 2) pa_nil))
        (pg_tup rfl (pgs_cons (pg_name (i := 3) scNeedDial.nd rfl (.inl rfl)) (pgs_cons (pg_name (i := 4) scNeedDial.nd rfl (.inl rfl)) pgs_nil)))
        (pss_one (ps_if (pt_not (pt_val (pe_ca cI hr (Nat.le_refl _) (by rfl) (pa_cons (pv 4) (pa_cons pe_int (pa_cons (pe_op op_sub (pv 1) pe_int) pa_nil)))))) pss_never pss_nil)))), ?_⟩
    refine ⟨_, rfl, _, _, _, _, true, rfl, .ty _, .base (.tup hd), kit_ty (by decide +kernel), true, rfl, iteF ?_⟩
    refine ⟨_, rfl, d, _, rfl, .inr (sqT_of hd), _, rfl, x, _, _, _, rfl, rfl, sqT_of w1, atI_nat (j := 0) rfl, rfl, _, rfl, ?_⟩
    have e : (!decide (V.int ((dl.map V.int).length : Int) = V.int (n : Int))) = false := by
      rw [decide_eq_true (by rw [List.length_map, hl])]
      rfl
    rw [e]
    refine iteF ?_
    refine ⟨_, rfl, d, _, rfl, sqT_of hd, ?_⟩
    refine for_it (walk_enumT (K := K) (a := d) (xs := dl.map V.int)) (fun i σ H' => ∃ h1 h2, σ = [some (.ref x), some (.int (h : Int)), some (.ref d), h1, h2] ∧ Same H H') ⟨none, none, rfl, Same.refl H⟩ (fun i σ H' _ ⟨_, _, _, s1⟩ => sqT_of (s1 _ _ hd)) ?_ ?_
    · rintro i y σ H' H'' hi ⟨h1, h2, rfl, s1⟩ ⟨T, z, y', rfl, nT, rfl, ez, ey⟩
      cases ez
      have s2 : Same H (upd H' T (.tup [.int (i : Int), y'])) := fun b o hb => same_upd nT b o (s1 b o hb)
      have ey : (dl.map V.int)[i]? = some y' := ey
      rw [List.getElem?_map] at ey
      obtain ⟨v, hv, rfl⟩ : ∃ v, dl[i]? = some v ∧ V.int v = y' := by
        cases e4 : dl[i]? with
        | none => rw [e4] at ey; cases ey
        | some v => rw [e4] at ey; exact ⟨v, rfl, Option.some.inj ey⟩
      obtain ⟨v0, vh⟩ := hb v (List.mem_of_getElem? hv)
      refine ⟨T, _, rfl, sqT_of upd_same, rfl, _, _, rfl, _, _, rfl, rfl, ?_⟩
      exact ⟨_, rfl, _, rfl, _, _, rfl, rfl, v, 0, (h : Int) - 1, rfl, v0, by omega, true, rfl, iteF ⟨_, _, rfl, s2⟩⟩
    · rintro σ H' ⟨h1, h2, rfl, s1⟩
      exact q H' s1
def spNeedAll : Sp := fun vs H Q _ => ∃ (x d : Addr) (n h : Nat) (ar : List Arr) (dl : List Int), vs = [.ref x, .int (h : Int), .ref d] ∧ WebAt H x n ar ∧ WOk n ar ∧ 2 ≤ h ∧ h ≤ 24 ∧ DlAt H d n h dl ∧ ∀ H', Same H H' → Q .non H'
theorem WebAt.same {H H' : Hp} {x : Addr} {n : Nat} {ar : List Arr} (h : WebAt H x n ar) (s : Same H H') : WebAt H' x n ar := h.kt (kt_same s)
theorem DlAt.same {H H' : Hp} {d : Addr} {n h : Nat} {dl : List Int} (a : DlAt H d n h dl) (s : Same H H') : DlAt H' d n h dl := ⟨s _ _ a.1, a.2.1, a.2.2⟩
theorem ok_needAll {f : Addr} {fd : FuncData} {k : Nat} (F : Fun K "need_all" "need_all" sNeedAll f fd) (cW : Ca P w K mg base k "need_web" spNeedWeb) (cH : Ca P w K mg base k "need_hours" spNeedHours) (cD : Ca P w K mg base k "need_dial" spNeedDial) : FnOk P w K mg base CX0 (k + 1) f fd ["web", "hours", "dial"] spNeedAll := by
  refine F.ok scNeedAll (fun vs H Q E h => ?_) (fun cdv A outer s H vs Q E hr h => ?_)
  · obtain ⟨x, d, n, h, ar, dl, rfl, _⟩ := h
    rfl
  · obtain ⟨x, d, n, h, ar, dl, rfl, W, ok, h2, h24, D, q⟩ := h
    refine ⟨_, pss_cons (ps_expr (pe_ca cW hr (Nat.le_refl _) (by rfl) (pa_cons (pv 0) pa_nil)))
      (pss_cons (ps_expr (pe_ca cH hr (Nat.le_refl _) (by rfl) (pa_cons (pv 1) pa_nil)))
      (pss_one (ps_expr (pe_ca cD hr (Nat.le_refl _) (by rfl) (pa_cons (pv 0) (pa_cons (pv 1) (pa_cons (pv 2) pa_nil))))))), ?_⟩
    refine ⟨_, rfl, x, n, ar, rfl, W, ok, fun H1 s1 => ?_⟩
    refine ⟨_, rfl, (h : Int), rfl, by omega, by omega, ?_⟩
    exact ⟨_, rfl, _, rfl, _, rfl, x, d, n, h, ar, dl, rfl, W.same s1, D.same s1, fun H2 s2 => q H2 (s1.trans s2)⟩
end
end K42
set_option Elab.async false
set_option linter.all false
set_option maxRecDepth 100000
set_option maxHeartbeats 4000000
namespace K42
open PySem PySem.Spec PyProof.Rows L2
theorem map_int_get {l : List Int} {i : Nat} {y : V} (h : (l.map V.int)[i]? = some y) : ∃ v, l[i]? = some v ∧ y = V.int v := by
  rw [List.getElem?_map] at h
  cases e4 : l[i]? with
  | none => rw [e4] at h; cases h
  | some v => rw [e4] at h; exact ⟨v, rfl, (Option.some.inj h).symm⟩
theorem getD_of {α : Type} {l : List α} {i : Nat} {d v : α} (h : l[i]? = some v) : l.getD i d = v := by
  rw [List.getD_eq_getElem?_getD, h]
  rfl
theorem at_int {dl : List Int} {k : Int} (h0 : 0 ≤ k) (h1 : k.toNat < dl.length) : atI (dl.map V.int) k = some (.int (dl.getD k.toNat 0)) := by
  refine at_of (j := k.toNat) (by omega) ?_
  rw [List.getElem?_map, List.getElem?_eq_getElem h1, getD_of (List.getElem?_eq_getElem h1)]
  rfl
theorem take_snoc {α : Type} {l : List α} {i : Nat} {v : α} (h : l[i]? = some v) : l.take (i + 1) = l.take i ++ [v] := by
  rw [List.take_succ, h]
  rfl
theorem filter_yes {α : Type} {p : α → Bool} {l : List α} {v : α} (h : p v = true) : (l ++ [v]).filter p = l.filter p ++ [v] := by
  rw [List.filter_append, List.filter_cons_of_pos h]
  rfl
theorem filter_no {α : Type} {p : α → Bool} {l : List α} {v : α} (h : p v = false) : (l ++ [v]).filter p = l.filter p := by
  rw [List.filter_append, List.filter_cons_of_neg (by rw [h]; exact Bool.false_ne_true)]
  simp
theorem addPart_in {L : List (List Int)} {acc : List (List Int)} {k : Nat} (h : partOf L k ∈ acc) : addPart L acc k = acc := by
  unfold addPart
  rw [if_pos h]
theorem addPart_out {L : List (List Int)} {acc : List (List Int)} {k : Nat} (h : partOf L k ∉ acc) : addPart L acc k = acc ++ [partOf L k] := by
  unfold addPart
  rw [if_neg h]
section
variable {P : Program} {w : World} {K : PySem.W.Frag} {mg : Str → Option Value} {base : Heap}
/-! ### above_in -/
def spAbove : Sp := fun vs H Q _ => ∃ (x : Addr) (n : Nat) (ar : List Arr) (p : Nat), vs = [.ref x, .int (p : Int)] ∧ WebAt H x n ar ∧ WOk n ar ∧ p < n ∧
  ∀ H' a, Same H H' → H a = none → H' a = some (.lst ((aboveM n (leds n ar) p).map V.int)) → Q (.ref a) H'
theorem ok_above {f : Addr} {fd : FuncData} {k : Nat} (F : Fun K "above_in" "above_in" sAbove f fd) (B : Bt mg) (cL : Ca P w K mg base k "led_from" spLed) : FnOk P w K mg base CX0 (k + 1) f fd ["web", "place"] spAbove := by
  refine F.ok scAbove (fun vs H Q E h => ?_) (fun cdv A outer s H vs Q E hr h => ?_)
  · obtain ⟨x, n, ar, p, rfl, _⟩ := h
    rfl
  · obtain ⟨x, n, ar, p, rfl, W, ok, hp, q⟩ := h
    refine ⟨_, pss_cons (ps_set (i := 2) scAbove.nd rfl (.inr rfl) (pe_ca cL hr (Nat.le_refl _) (by rfl) (pa_cons (pv 0) (pa_cons (pv 1) pa_nil))))
      (pss_one (ps_ret (pe_lc (own := [("k", 3)]) (g := gName 3) (by rfl) scAbove.nd (pi_range1 rfl B.range (pa_cons (pe_ix ix_tup (pv 0) pe_int (fun _ _ => rfl)) pa_nil))
        (blkOk_by (N := ["web", "place", "here", "k"]) (sc := defScope sAbove) (by decide +kernel)) (fun _ _ _ _ _ => pg_name (i := 3) scAbove.nd rfl (Or.inl rfl))
        (fun _ _ _ _ _ => pts_one (PW.pt (pw_and (pt_cmpR (show OpR _ _ (rIn K false) from op_in_seq) (pv 1) (pe_ca cL hr (Nat.le_refl _) (by rfl) (pa_cons (pv 0) (pa_cons (pv 3) pa_nil))) (by rfl))
          (pw_and1 (pt_cmpR (show OpR _ _ (rIn K true) from op_notIn_seq) (pv 3) (pv 2) (by rfl)))))) (fun _ _ _ _ _ => pv 3)))), ?_⟩
    have hn3 := ok.n3
    obtain ⟨⟨fin, hfin⟩, hrng, hself, hl3⟩ := ok.leds hp
    refine ⟨_, rfl, _, rfl, x, n, ar, p, fin, rfl, W, ok.few, hfin, fun H1 lh s1 n1 e1 => ?_⟩
    obtain ⟨t, xs, w1, w2, w3⟩ := id (W.same s1)
    refine ⟨_, rfl, x, _, _, _, rfl, rfl, sqT_of w1, atI_nat (j := 0) rfl, (n : Int), rfl, by omega, by omega, fun D hD => ?_⟩
    refine lc_range (lo := 0) (n := n) (fun i H' => Same H1 H' ∧ H' D = some (.lst ((((List.range i).filter fun k => decide ((p : Int) ∈ (leds n ar).getD k []) && !decide ((k : Int) ∈ (leds n ar).getD p [])).map fun (k : Nat) => (k : Int)).map V.int)))
      ⟨same_upd hD, upd_same⟩ ?_ ?_
    · rintro i H' hi ⟨s2, eD⟩
      rw [show (0 : Int) + (i : Int) = (i : Int) from Int.zero_add _]
      obtain ⟨⟨fi, hfi⟩, _, _, _⟩ := ok.leds hi
      refine ⟨rfl, _, rfl, _, rfl, _, rfl, x, n, ar, i, fi, rfl, (W.same s1).same s2, ok.few, hfi, fun H2 l2 s3 n3 e3 => ?_⟩
      refine ⟨l2, _, rfl, .inl (sqL_of e3), rfl, flat_ints _, _, rfl, ?_⟩
      show if inV (V.int (p : Int)) ((led ar i).map V.int) = true then _ else _
      rw [inV_ints]
      have s4 : Same H1 H2 := s2.trans s3
      have eD2 := s3 _ _ eD
      have hlen : ((((List.range i).filter fun k => decide ((p : Int) ∈ (leds n ar).getD k []) && !decide ((k : Int) ∈ (leds n ar).getD p [])).map fun (k : Nat) => (k : Int)).map V.int).length < sizeLine := by
        rw [List.length_map, List.length_map]
        refine sz_lt (Nat.le_trans (List.length_filter_le _ _) ?_)
        rw [List.length_range]
        omega
      by_cases h1 : (p : Int) ∈ led ar i
      · rw [decide_eq_true h1]
        refine iteT ⟨_, rfl, _, rfl, lh, _, rfl, .inl (sqL_of (s4 _ _ e1)), rfl, flat_ints _, _, rfl, ?_⟩
        show if (!inV (V.int (i : Int)) ((led ar p).map V.int)) = true then _ else _
        rw [inV_ints]
        by_cases h2 : (i : Int) ∈ led ar p
        · rw [decide_eq_true h2]
          refine iteF ⟨s4, ?_⟩
          rw [List.range_succ, filter_no (by rw [leds_get hi, leds_get hp, decide_eq_true h1, decide_eq_true h2]; rfl)]
          exact eD2
        · rw [decide_eq_false h2]
          refine iteT ⟨_, rfl, _, eD2, hlen, same_wr s4 hD, ?_⟩
          rw [upd_same, List.range_succ, filter_yes (by rw [leds_get hi, leds_get hp, decide_eq_true h1, decide_eq_false h2]; rfl), List.map_append, List.map_append]
          rfl
      · rw [decide_eq_false h1]
        refine iteF (iteF ⟨s4, ?_⟩)
        rw [List.range_succ, filter_no (by rw [leds_get hi, decide_eq_false h1]; rfl)]
        exact eD2
    · rintro H' ⟨s2, eD⟩
      have s3 : Same H H' := s1.trans s2
      exact q H' D s3 (s1.free hD) eD
/-! ### parts_in -/
def spParts : Sp := fun vs H Q _ => ∃ (x : Addr) (n : Nat) (ar : List Arr), vs = [.ref x] ∧ WebAt H x n ar ∧ WOk n ar ∧
  ∀ H' a ys, Same H H' → H a = none → H' a = some (.lst ys) → TIs H' ys (partsM n (leds n ar)) → Q (.ref a) H'
/-- a list of ints at x, not at D -/
def LIx (D : Addr) (H : Hp) (x : V) (ns : List Int) : Prop := ∃ a, x = .ref a ∧ a ≠ D ∧ H a = some (.lst (ns.map V.int))
theorem LIx.same {D : Addr} {H H' : Hp} {x : V} {ns : List Int} (h : LIx D H x ns) (s : Same H H') : LIx D H' x ns := by
  obtain ⟨a, e, d, q⟩ := h
  exact ⟨a, e, d, s _ _ q⟩
theorem LIx.upd {D : Addr} {H : Hp} {o : HO} {x : V} {ns : List Int} (h : LIx D H x ns) : LIx D (upd H D o) x ns := by
  obtain ⟨a, e, d, q⟩ := h
  exact ⟨a, e, d, by rw [upd_ne d]; exact q⟩
theorem paired_get {α : Type} {R : V → α → Prop} : ∀ {xs : List V} {bs : List α} {i : Nat} {b : α}, Paired R xs bs → bs[i]? = some b → ∃ x, xs[i]? = some x ∧ R x b
  | _, _, _, _, .nil, e => by simp at e
  | _, _, 0, _, .cons r _, e => by simp at e; subst e; exact ⟨_, rfl, r⟩
  | _, _, i + 1, b, .cons _ t, e => by
    obtain ⟨u, h1, h2⟩ := paired_get (i := i) (b := b) t (by simpa using e)
    exact ⟨u, by simpa using h1, h2⟩
theorem paired_app {α : Type} {R : V → α → Prop} : ∀ {xs ys : List V} {bs cs : List α}, Paired R xs bs → Paired R ys cs → Paired R (xs ++ ys) (bs ++ cs)
  | _, _, _, _, .nil, s => s
  | _, _, _, _, .cons r t, s => .cons r (paired_app t s)
theorem any_eqv (p : List Int) : ∀ zs : List (List Int), (zs.map encT).any (fun z => PyData.eqv z (encT p)) = decide (p ∈ zs)
  | [] => by simp
  | z :: zs => by
    rw [List.map_cons, List.any_cons, any_eqv p zs, eqv_T, Bool.eq_iff_iff]
    simp only [Bool.or_eq_true, decide_eq_true_eq, List.mem_cons]
    exact ⟨fun h => h.elim (fun a => .inl a.symm) .inr, fun h => h.elim (fun a => .inl a.symm) .inr⟩
theorem ok_parts {f : Addr} {fd : FuncData} {k : Nat} (F : Fun K "parts_in" "parts_in" sParts f fd) (B : Bt mg) (cL : Ca P w K mg base k "led_from" spLed) : FnOk P w K mg base CX0 (k + 1) f fd ["web"] spParts := by
  refine F.ok scParts (fun vs H Q E h => ?_) (fun cdv A outer s H vs Q E hr h => ?_)
  · obtain ⟨x, n, ar, rfl, _⟩ := h
    rfl
  · obtain ⟨x, n, ar, rfl, W, ok, q⟩ := h
    have hu : (cxOf CX0 P w K mg base ["web", "k", "leads_to", "found", "part", "j"] "parts_in" (defScope sParts) f cdv A outer s H E).nox.A.units + 65 < cLine := by
      have := hr.un
      show (A.deeper (envOfC "parts_in" (defScope sParts) s.heap.objs.size f cdv)).units + 65 < cLine
      omega
    refine ⟨_, pss_cons (ps_set (i := 2) scParts.nd rfl (.inr rfl) (pe_lc (own := [("k", 1)]) (g := gName 1) (by rfl) scParts.nd (pi_range1 rfl B.range (pa_cons (pe_ix ix_tup (pv 0) pe_int (fun _ _ => rfl)) pa_nil))
          (blkOk_by (N := ["web", "k", "leads_to", "found", "part", "j"]) (sc := defScope sParts) (by decide +kernel)) (fun _ _ _ _ _ => pg_name (i := 1) scParts.nd rfl (Or.inl rfl))
          (fun _ _ _ _ _ => pts_nil) (fun _ _ _ _ _ => pe_ca cL hr (Nat.le_refl _) (by rfl) (pa_cons (pv 0) (pa_cons (pv 1) pa_nil)))))
      (pss_cons (ps_set (i := 3) scParts.nd rfl (.inl rfl) (pe_lst pa_nil))
      (pss_cons (ps_for PassesOwn.never rfl (pi_range1 rfl B.range (pa_cons (pe_ix ix_tup (pv 0) pe_int (fun _ _ => rfl)) pa_nil)) (pg_name (i := 1) scParts.nd rfl (.inr rfl))
        (pss_cons (ps_set (i := 4) scParts.nd rfl (.inl rfl) (pe_callTy call_tuple_of (by rfl) B.tuple (by decide +kernel) (pa_cons
          (pe_lc (own := [("j", 5)]) (g := gName 5) (by rfl) scParts.nd (pi_list (pe_ix ix_list (pv 2) (pv 1) (fun _ _ => rfl)))
            (blkOk_by (N := ["web", "k", "leads_to", "found", "part", "j"]) (sc := defScope sParts) (by decide +kernel)) (fun _ _ _ _ _ => pg_name (i := 5) scParts.nd rfl (Or.inl rfl))
            (fun _ _ _ _ _ => pts_one (pt_cmpR (show OpR _ _ (rIn K false) from op_in_seq) (pv 1) (pe_ix (show IxR _ (rIxL K) from ix_list) (pv 2) (pv 5) (fun _ _ => rfl)) (by rfl))) (fun _ _ _ _ _ => pv 5)) pa_nil)))
        (pss_one (ps_if (pt_cmpR (op_notInD hu) (pv 4) (pv 3) (by rfl)) (pss_one (ps_expr (pe_bm PySem.F.plainAttrs_list PySem.F.slot_list_append PySem.F.type_list_append mt_append (pv 3) (pa_cons (pv 4) pa_nil)))) pss_nil))))
      (pss_one (ps_ret (pv 3))))), ?_⟩
    have hn3 := ok.n3
    obtain ⟨t, xs, w1, w2, w3⟩ := id W
    -- leads_to
    refine ⟨_, rfl, x, _, _, _, rfl, rfl, sqT_of w1, atI_nat (j := 0) rfl, (n : Int), rfl, by omega, by omega, fun D hD => ?_⟩
    refine lc_range (lo := 0) (n := n) (fun i H' => Same H H' ∧ ∃ acc, H' D = some (.lst acc) ∧ Paired (LIx D H') acc ((List.range i).map fun (k : Nat) => led ar k))
      ⟨same_upd hD, [], upd_same, .nil⟩ ?_ ?_
    · rintro i H' hi ⟨s1, acc, eD, pa⟩
      rw [show (0 : Int) + (i : Int) = (i : Int) from Int.zero_add _]
      obtain ⟨⟨fi, hfi⟩, _, _, _⟩ := ok.leds hi
      refine ⟨rfl, _, rfl, _, rfl, x, n, ar, i, fi, rfl, W.same s1, ok.few, hfi, fun H2 l2 s2 n2 e2 => ?_⟩
      have nlD : l2 ≠ D := fun z => by rw [z, eD] at n2; cases n2
      refine ⟨acc, s2 _ _ eD, ?_, same_wr (s1.trans s2) hD, acc ++ [.ref l2], upd_same, ?_⟩
      · rw [pa.length, List.length_map, List.length_range]
        exact sz_lt (by omega)
      · rw [List.range_succ, List.map_append]
        refine paired_app (Paired.mapP pa fun _ _ r => (r.same s2).upd) (.cons (LIx.upd ⟨l2, rfl, nlD, e2⟩) .nil)
    · rintro H1 ⟨s1, acc, eD, pa⟩
      have pa : Paired (LIx D H1) acc (leds n ar) := pa
      -- found = []
      refine ⟨by show 0 ≤ sizeLine; decide, fun f0 nf0 => ?_⟩
      have w1' := s1 _ _ w1
      have w10 : upd H1 f0 (.lst []) x = some (.tup [.int (n : Int), .ref t]) := (same_upd nf0) _ _ w1'
      refine ⟨_, rfl, x, _, _, _, rfl, rfl, sqT_of w10, atI_nat (j := 0) rfl, (n : Int), rfl, by omega, by omega, ?_⟩
      refine for_range (lo := 0) (n := n) (fun i σ H' => ∃ (h1 h4 : Option V) (ys : List V), σ = [some (.ref x), h1, some (.ref D), some (.ref f0), h4, none] ∧ Same H1 H' ∧ H' f0 = some (.lst ys) ∧ TIs H' ys ((List.range i).foldl (addPart (leds n ar)) []))
        ⟨none, none, [], rfl, same_upd nf0, upd_same, .nil⟩ ?_ ?_
      · rintro i σ H' hi ⟨h1, h4, ys, rfl, s2, ef, ty⟩
        rw [show (0 : Int) + (i : Int) = (i : Int) from Int.zero_add _]
        have hLi : (leds n ar)[i]? = some (led ar i) := by
          unfold leds
          rw [List.getElem?_map, List.getElem?_range hi]
          rfl
        obtain ⟨xi, hxi, li, rfl, _, eli⟩ := paired_get pa hLi
        obtain ⟨_, hrng, _, hl3⟩ := ok.leds hi
        -- part = tuple([..])
        refine ⟨_, rfl, _, rfl, D, _, _, _, rfl, rfl, sqL_of (s2 _ _ eD), atI_nat hxi, li, rfl, ⟨_, sqL_of (s2 _ _ eli)⟩, fun G hG => ?_⟩
        refine lc_list (K := K) (a := li) (xs := (led ar i).map V.int) (fun j H'' => Same H' H'' ∧ H'' G = some (.lst ((((led ar i).take j).filter fun v => decide ((i : Int) ∈ (leds n ar).getD v.toNat [])).map V.int)))
          ⟨same_upd hG, upd_same⟩ (fun j H'' _ ⟨s3, _⟩ => sqL_of (s3 _ _ (s2 _ _ eli))) ?_ ?_
        · rintro j y H'' hj ⟨s3, eG⟩
          obtain ⟨v, hv, rfl⟩ := map_int_get hj
          obtain ⟨v0, vn⟩ := hrng v (List.mem_of_getElem? hv)
          have hvn : v.toNat < n := by omega
          have hLv : (leds n ar)[v.toNat]? = some (led ar v) := by
            unfold leds
            rw [List.getElem?_map, List.getElem?_range hvn]
            show some (led ar ((v.toNat : Nat) : Int)) = _
            rw [Int.toNat_of_nonneg v0]
          obtain ⟨xv, hxv, lv, rfl, _, elv⟩ := paired_get pa hLv
          have s4 : Same H1 H'' := s2.trans s3
          refine ⟨rfl, _, rfl, _, rfl, _, rfl, D, _, _, _, rfl, rfl, sqL_of (s4 _ _ eD), at_of (j := v.toNat) (by omega) hxv, lv, _, rfl, .inl (sqL_of (s4 _ _ elv)), rfl, flat_ints _, _, rfl, ?_⟩
          show if inV (V.int (i : Int)) ((led ar v).map V.int) = true then _ else _
          rw [inV_ints, take_snoc hv]
          have hlen : ((((led ar i).take j).filter fun v => decide ((i : Int) ∈ (leds n ar).getD v.toNat [])).map V.int).length < sizeLine := by
            rw [List.length_map]
            refine sz_lt (Nat.le_trans (List.length_filter_le _ _) ?_)
            rw [List.length_take]
            omega
          by_cases h2 : (i : Int) ∈ led ar v
          · rw [decide_eq_true h2]
            refine iteT ⟨_, rfl, _, eG, hlen, same_wr s3 hG, ?_⟩
            rw [upd_same, filter_yes (by rw [getD_of hLv]; exact decide_eq_true h2), List.map_append]
            rfl
          · rw [decide_eq_false h2]
            refine iteF ⟨s3, ?_⟩
            rw [filter_no (by rw [getD_of hLv]; exact decide_eq_false h2)]
            exact eG
        · rintro H2 ⟨s3, eG⟩
          rw [List.length_map, List.take_length] at eG
          have eP : ((led ar i).filter fun v => decide ((i : Int) ∈ (leds n ar).getD v.toNat [])) = partOf (leds n ar) i := by
            unfold partOf
            rw [leds_get hi]
          rw [eP] at eG
          refine ⟨G, _, rfl, .inl ⟨sqL_of eG, fun tp htp => ?_⟩⟩
          have s4 : Same H' (upd H2 tp (.tup ((partOf (leds n ar) i).map V.int))) := s3.trans (same_upd htp)
          have s5 : Same H1 (upd H2 tp (.tup ((partOf (leds n ar) i).map V.int))) := s2.trans s4
          have ef2 := s4 _ _ ef
          have ty2 : TIs (upd H2 tp (.tup ((partOf (leds n ar) i).map V.int))) ys _ := ty.kt (kt_same s4)
          have tyD : DpAll K (upd H2 tp (.tup ((partOf (leds n ar) i).map V.int))) ys (((List.range i).foldl (addPart (leds n ar)) []).map encT) := dpAll_of (fun _ _ r => TI.dp r) ty2
          have hfold : (List.range (i + 1)).foldl (addPart (leds n ar)) [] = addPart (leds n ar) ((List.range i).foldl (addPart (leds n ar)) []) i := by
            rw [List.range_succ, List.foldl_append]
            rfl
          have hlen := partsM_len (leds n ar) (List.range i) []
          rw [List.length_range, List.length_nil] at hlen
          -- part not in found
          refine ⟨_, rfl, _, rfl, encT (partOf (leds n ar) i), _, dp_T (sqT_of upd_same), .lst (sqL_of ef2) tyD, (sh_T _).shaped (by decide), (sh_list (sh_map sh_T _)).shaped (by decide), _, rfl, ?_⟩
          rw [any_eqv]
          by_cases h2 : partOf (leds n ar) i ∈ (List.range i).foldl (addPart (leds n ar)) []
          · rw [decide_eq_true h2]
            refine iteF ⟨_, _, ys, rfl, s5, ef2, ?_⟩
            rw [hfold, addPart_in h2]
            exact ty2
          · rw [decide_eq_false h2]
            refine iteT ⟨_, rfl, .inl ⟨rfl, _, sqL_of ef2⟩, _, rfl, f0, _, _, rfl, rfl, ef2, ?_, ?_⟩
            · rw [ty2.length]
              exact sz_lt (by omega)
            · refine ⟨_, _, ys ++ [.ref tp], rfl, same_wr s5 nf0, upd_same, ?_⟩
              rw [hfold, addPart_out h2]
              exact TIs.append (ty2.kt (kt_lst ef2)) (.cons ⟨tp, rfl, (kt_lst ef2) _ _ upd_same⟩ .nil)
      · rintro σ H' ⟨h1, h4, ys, rfl, s2, ef, ty⟩
        exact ⟨_, rfl, q H' f0 ys (s1.trans s2) (s1.free nf0) ef ty⟩
end
end K42
set_option Elab.async false
set_option linter.all false
set_option maxRecDepth 100000
set_option maxHeartbeats 4000000
namespace K42
open PySem PySem.Spec PyProof.Rows L2
theorem foldl_snoc {α β : Type} (g : β → α → β) (b : β) {l : List α} {i : Nat} {v : α} (h : l[i]? = some v) : (l.take (i + 1)).foldl g b = g ((l.take i).foldl g b) v := foldl_take_succ g b h
theorem aboveM_rng {n : Nat} {L : List (List Int)} {p : Nat} : ∀ j ∈ aboveM n L p, 0 ≤ j ∧ j < (n : Int) := fun j hj => by
  unfold aboveM at hj
  obtain ⟨k, hk, rfl⟩ := List.mem_map.mp hj
  have := List.mem_range.mp (List.mem_filter.mp hk).1
  omega
section
variable {P : Program} {w : World} {K : PySem.W.Frag} {mg : Str → Option Value} {base : Heap}
/-! ### flow_in -/
def spFlow : Sp := fun vs H Q _ => ∃ (x d : Addr) (n h : Nat) (ar : List Arr) (dl : List Int) (p : Nat), vs = [.ref x, .int (h : Int), .ref d, .int (p : Int)] ∧ WebAt H x n ar ∧ WOk n ar ∧ DlAt H d n h dl ∧ p < n ∧
  ∀ H', Same H H' → Q (.int (flowM n (leds n ar) h dl p)) H'
theorem ok_flow {f : Addr} {fd : FuncData} {k : Nat} (F : Fun K "flow_in" "flow_in" sFlow f fd) (cA : Ca P w K mg base k "above_in" spAbove) (cG : Ca P w K mg base k "gcd" spGcd) : FnOk P w K mg base CX0 (k + 1) f fd ["web", "hours", "dial", "place"] spFlow := by
  refine F.ok scFlow (fun vs H Q E h => ?_) (fun cdv A outer s H vs Q E hr h => ?_)
  · obtain ⟨x, d, n, h, ar, dl, p, rfl, _⟩ := h
    rfl
  · obtain ⟨x, d, n, h, ar, dl, p, rfl, W, ok, D, hp, q⟩ := h
    refine ⟨_, pss_cons (ps_set (i := 4) scFlow.nd rfl (.inl rfl) (pv 1))
      (pss_cons (ps_for PassesOwn.never rfl (pi_list (pe_ca cA hr (Nat.le_refl _) (by rfl) (pa_cons (pv 0) (pa_cons (pv 3) pa_nil)))) (pg_name (i := 5) scFlow.nd rfl (.inl rfl))
        (pss_one (ps_set (i := 4) scFlow.nd rfl (.inl rfl) (pe_ca cG hr (Nat.le_refl _) (by rfl) (pa_cons (pv 4) (pa_cons (pe_ix ix_tup (pv 2) (pv 5) (fun _ _ => rfl)) pa_nil))))))
      (pss_one (ps_ret (pv 4)))), ?_⟩
    refine ⟨_, rfl, _, rfl, _, rfl, x, n, ar, p, rfl, W, ok, hp, fun H1 l s1 n1 e1 => ?_⟩
    refine ⟨l, rfl, ⟨_, sqL_of e1⟩, ?_⟩
    refine for_list (K := K) (a := l) (xs := (aboveM n (leds n ar) p).map V.int) (fun i σ H' => ∃ h5, σ = [some (.ref x), some (.int (h : Int)), some (.ref d), some (.int (p : Int)), some (.int (((aboveM n (leds n ar) p).take i).foldl (gcdS dl) h)), h5] ∧ Same H1 H')
      ⟨none, rfl, Same.refl _⟩ (fun i σ H' _ ⟨_, _, s2⟩ => sqL_of (s2 _ _ e1)) ?_ ?_
    · rintro i y σ H' hy ⟨h5, rfl, s2⟩
      obtain ⟨v, hv, rfl⟩ := map_int_get hy
      obtain ⟨v0, vn⟩ := aboveM_rng v (List.mem_of_getElem? hv)
      obtain ⟨hd, hl, _⟩ := D.same (s1.trans s2)
      refine ⟨_, rfl, _, rfl, _, rfl, d, _, _, _, rfl, rfl, sqT_of hd, at_int v0 (by omega), _, _, rfl, ?_⟩
      refine ⟨some (.int v), ?_, s2⟩
      rw [foldl_snoc _ _ hv]
      rfl
    · rintro σ H' ⟨h5, rfl, s2⟩
      rw [List.length_map, List.take_length]
      exact ⟨_, rfl, q H' (s1.trans s2)⟩
/-! ### mark_of -/
def spMark : Sp := fun vs H Q _ => ∃ (x d : Addr) (n h : Nat) (ar : List Arr) (dl : List Int) (pt : V) (p : List Int), vs = [.ref x, .int (h : Int), .ref d, pt] ∧ WebAt H x n ar ∧ WOk n ar ∧ 2 ≤ h ∧ DlAt H d n h dl ∧ TI H pt p ∧ p ∈ partsM n (leds n ar) ∧
  ∀ H' a, Same H H' → H a = none → H' a = some (.tup ((markM n (leds n ar) h dl p).map V.int)) → Q (.ref a) H'
theorem ok_mark {f : Addr} {fd : FuncData} {k : Nat} (F : Fun K "mark_of" "mark_of" sMark f fd) (B : Bt mg) (cF : Ca P w K mg base k "flow_in" spFlow) (cG : Ca P w K mg base k "gcd" spGcd) : FnOk P w K mg base CX0 (k + 1) f fd ["web", "hours", "dial", "part"] spMark := by
  refine F.ok scMark (fun vs H Q E h => ?_) (fun cdv A outer s H vs Q E hr h => ?_)
  · obtain ⟨x, d, n, h, ar, dl, pt, p, rfl, _⟩ := h
    rfl
  · obtain ⟨x, d, n, h, ar, dl, pt, p, rfl, W, ok, h2, D, ⟨a, rfl, ha⟩, hp, q⟩ := h
    refine ⟨_, pss_cons (ps_set (i := 4) scMark.nd rfl (.inl rfl) (pe_ca cF hr (Nat.le_refl _) (by rfl) (pa_cons (pv 0) (pa_cons (pv 1) (pa_cons (pv 2) (pa_cons (pe_ix ix_tup (pv 3) pe_int (fun _ _ => rfl)) pa_nil))))))
      (pss_cons (ps_if (pt_cmpR op_eq (pe_callB call_len_seq (by rfl) B.len PySem.boot_len (pa_cons (pv 3) pa_nil)) pe_int (nomark _))
        (pss_one (ps_ret (pe_tup (pa_cons (pv 4) (pa_cons (pe_op op_mod (pe_ix ix_tup (pv 2) (pe_ix ix_tup (pv 3) pe_int (fun _ _ => rfl)) (fun _ _ => rfl)) (pv 4)) pa_nil))))) pss_nil)
      (pss_cons (ps_set (i := 5) scMark.nd rfl (.inl rfl) (pv 4))
      (pss_cons (ps_for PassesOwn.never rfl (pi_tup (pv 3)) (pg_name (i := 6) scMark.nd rfl (.inl rfl))
        (pss_one (ps_set (i := 5) scMark.nd rfl (.inl rfl) (pe_ca cG hr (Nat.le_refl _) (by rfl) (pa_cons (pv 5) (pa_cons (pe_ix ix_tup (pv 2) (pv 6) (fun _ _ => rfl)) pa_nil))))))
      (pss_one (ps_ret (pe_tup (pa_cons (pv 4) (pa_cons (pv 5) pa_nil)))))))), ?_⟩
    obtain ⟨hne, hrng⟩ := ok.parts hp
    obtain ⟨p0, pr, rfl⟩ : ∃ p0 pr, p = p0 :: pr := by
      cases p with
      | nil => exact absurd rfl hne
      | cons a b => exact ⟨a, b, rfl⟩
    obtain ⟨p00, p0n⟩ := hrng p0 List.mem_cons_self
    have ep : ((p0.toNat : Nat) : Int) = p0 := Int.toNat_of_nonneg p00
    have hpn : p0.toNat < n := by omega
    have fpos : 0 < flowM n (leds n ar) h dl p0.toNat := foldG_pos _ (by omega)
    refine ⟨_, rfl, _, rfl, _, rfl, _, rfl, a, _, _, _, rfl, rfl, sqT_of ha, atI_nat (j := 0) rfl, x, d, n, h, ar, dl, p0.toNat, by rw [ep]; rfl, W, ok, D, hpn, fun H1 s1 => ?_⟩
    have ha1 := s1 _ _ ha
    obtain ⟨hd1, hl1, _⟩ := D.same s1
    refine ⟨_, rfl, a, _, rfl, .inr (sqT_of ha1), rfl, _, rfl, ?_⟩
    by_cases h1 : (p0 :: pr).length = 1
    · have e : decide (V.int (((p0 :: pr).map V.int).length : Int) = V.int 1) = true := decide_eq_true (by rw [List.length_map, h1]; rfl)
      rw [e]
      refine iteT ⟨_, rfl, _, rfl, _, rfl, a, _, _, _, rfl, rfl, sqT_of ha1, atI_nat (j := 0) rfl, d, _, _, _, rfl, rfl, sqT_of hd1, at_int p00 (by omega), _, rfl, _, _, rfl, rfl, fpos, by show 2 ≤ sizeLine; decide, fun r hr0 => ?_⟩
      refine q _ r (fun b o hb => same_upd hr0 b o (s1 b o hb)) (s1.free hr0) ?_
      rw [upd_same]
      unfold markM
      rw [if_pos h1]
      rfl
    · have e : decide (V.int (((p0 :: pr).map V.int).length : Int) = V.int 1) = false := decide_eq_false (fun z => h1 (by
        have := V.int.inj z
        rw [List.length_map] at this
        omega))
      rw [e]
      refine iteF ?_
      refine ⟨_, rfl, _, rfl, a, rfl, ⟨_, sqT_of ha1⟩, ?_⟩
      refine for_tup (K := K) (a := a) (xs := (p0 :: pr).map V.int) (fun i σ H' => ∃ h6, σ = [some (.ref x), some (.int (h : Int)), some (.ref d), some (.ref a), some (.int (flowM n (leds n ar) h dl p0.toNat)), some (.int (((p0 :: pr).take i).foldl (gcdS dl) (flowM n (leds n ar) h dl p0.toNat))), h6] ∧ Same H1 H')
        ⟨none, rfl, Same.refl _⟩ (fun i σ H' _ ⟨_, _, s2⟩ => sqT_of (s2 _ _ ha1)) ?_ ?_
      · rintro i y σ H' hy ⟨h6, rfl, s2⟩
        obtain ⟨v, hv, rfl⟩ := map_int_get hy
        obtain ⟨v0, vn⟩ := hrng v (List.mem_of_getElem? hv)
        refine ⟨_, rfl, _, rfl, _, rfl, d, _, _, _, rfl, rfl, sqT_of (s2 _ _ hd1), at_int v0 (by omega), _, _, rfl, ?_⟩
        refine ⟨some (.int v), ?_, s2⟩
        rw [foldl_snoc _ _ hv]
        rfl
      · rintro σ H' ⟨h6, rfl, s2⟩
        rw [List.length_map, List.take_length]
        refine ⟨_, rfl, _, rfl, by show 2 ≤ sizeLine; decide, fun r hr0 => ?_⟩
        have s3 := s1.trans s2
        refine q _ r (fun b o hb => same_upd hr0 b o (s3 b o hb)) (s3.free hr0) ?_
        rw [upd_same]
        unfold markM
        rw [if_neg h1]
        rfl
/-! ### marks_in -/
def spMarks : Sp := fun vs H Q _ => ∃ (x d : Addr) (n h : Nat) (ar : List Arr) (dl : List Int), vs = [.ref x, .int (h : Int), .ref d] ∧ WebAt H x n ar ∧ WOk n ar ∧ 2 ≤ h ∧ DlAt H d n h dl ∧
  ∀ H' a ys, Same H H' → H a = none → H' a = some (.lst ys) → TIs H' ys (marksM n (leds n ar) h dl) → Q (.ref a) H'
theorem ok_marks {f : Addr} {fd : FuncData} {k : Nat} (F : Fun K "marks_in" "marks_in" sMarks f fd) (cP : Ca P w K mg base k "parts_in" spParts) (cM : Ca P w K mg base k "mark_of" spMark) : FnOk P w K mg base CX0 (k + 1) f fd ["web", "hours", "dial"] spMarks := by
  refine F.ok scMarks (fun vs H Q E h => ?_) (fun cdv A outer s H vs Q E hr h => ?_)
  · obtain ⟨x, d, n, h, ar, dl, rfl, _⟩ := h
    rfl
  · obtain ⟨x, d, n, h, ar, dl, rfl, W, ok, h2, D, q⟩ := h
    refine ⟨_, pss_one (ps_ret (pe_lc (own := [("part", 3)]) (g := gName 3) (by rfl) scMarks.nd (pi_list (pe_ca cP hr (Nat.le_refl _) (by rfl) (pa_cons (pv 0) pa_nil)))
        (blkOk_by (N := ["web", "hours", "dial", "part"]) (sc := defScope sMarks) (by decide +kernel)) (fun _ _ _ _ _ => pg_name (i := 3) scMarks.nd rfl (Or.inl rfl))
        (fun _ _ _ _ _ => pts_nil) (fun _ _ _ _ _ => pe_ca cM hr (Nat.le_refl _) (by rfl) (pa_cons (pv 0) (pa_cons (pv 1) (pa_cons (pv 2) (pa_cons (pv 3) pa_nil))))))), ?_⟩
    have hn3 := ok.n3
    have hlen : (partsM n (leds n ar)).length ≤ n := by
      have := partsM_len (leds n ar) (List.range n) []
      rw [List.length_range, List.length_nil] at this
      unfold partsM
      omega
    refine ⟨_, rfl, x, n, ar, rfl, W, ok, fun H1 l ys s1 n1 e1 ty => ?_⟩
    refine ⟨l, rfl, ⟨_, sqL_of e1⟩, fun G hG => ?_⟩
    refine lc_list (K := K) (a := l) (xs := ys) (fun i H' => Same H1 H' ∧ ∃ acc, H' G = some (.lst acc) ∧ TIs H' acc (((partsM n (leds n ar)).take i).map (markM n (leds n ar) h dl)))
      ⟨same_upd hG, [], upd_same, .nil⟩ (fun i H' _ ⟨s2, _⟩ => sqL_of (s2 _ _ e1)) ?_ ?_
    · rintro i y H' hy ⟨s2, acc, eG, ta⟩
      obtain ⟨p, hp, Tp⟩ := ty.get hy
      have s3 := s1.trans s2
      refine ⟨rfl, _, rfl, _, rfl, _, rfl, _, rfl, x, d, n, h, ar, dl, y, p, rfl, W.same s3, ok, h2, D.same s3, Tp.kt (kt_same s2), List.mem_of_getElem? hp, fun H2 a s4 na ea => ?_⟩
      have eG2 := s4 _ _ eG
      have hal : acc.length ≤ 3 := by
        rw [ta.length, List.length_map, List.length_take]
        omega
      refine ⟨acc, eG2, sz_lt (by omega), same_wr (s2.trans s4) hG, acc ++ [.ref a], upd_same, ?_⟩
      rw [take_snoc hp, List.map_append]
      exact TIs.append (ta.kt ((kt_same s4).trans (kt_lst eG2))) (.cons ⟨a, rfl, (kt_lst eG2) _ _ ea⟩ .nil)
    · rintro H' ⟨s2, acc, eG, ta⟩
      rw [ty.length, List.take_length] at ta
      exact q H' G acc (s1.trans s2) (s1.free hG) eG ta
/-! ### can_come -/
def spCan : Sp := fun vs H Q _ => ∃ (x d e : Addr) (n h : Nat) (ar : List Arr) (dl el : List Int), vs = [.ref x, .int (h : Int), .ref d, .ref e] ∧ WebAt H x n ar ∧ WOk n ar ∧ 2 ≤ h ∧ h ≤ 24 ∧ DlAt H d n h dl ∧ DlAt H e n h el ∧
  ∀ H', Same H H' → Q (.bl (decide (marksM n (leds n ar) h dl = marksM n (leds n ar) h el))) H'
theorem ok_can {f : Addr} {fd : FuncData} {k : Nat} (F : Fun K "can_come" "can_come" sCan f fd) (cN : Ca P w K mg base k "need_all" spNeedAll) (cD : Ca P w K mg base k "need_dial" spNeedDial) (cM : Ca P w K mg base k "marks_in" spMarks) : FnOk P w K mg base CX0 (k + 1) f fd ["web", "hours", "one", "other"] spCan := by
  refine F.ok scCan (fun vs H Q E h => ?_) (fun cdv A outer s H vs Q E hr h => ?_)
  · obtain ⟨x, d, e, n, h, ar, dl, el, rfl, _⟩ := h
    rfl
  · obtain ⟨x, d, e, n, h, ar, dl, el, rfl, W, ok, h2, h24, D, E', q⟩ := h
    have hu : (cxOf CX0 P w K mg base ["web", "hours", "one", "other"] "can_come" (defScope sCan) f cdv A outer s H E).nox.A.units + 64 < cLine := hr.units
    refine ⟨_, pss_cons (ps_expr (pe_ca cN hr (Nat.le_refl _) (by rfl) (pa_cons (pv 0) (pa_cons (pv 1) (pa_cons (pv 2) pa_nil)))))
      (pss_cons (ps_expr (pe_ca cD hr (Nat.le_refl _) (by rfl) (pa_cons (pv 0) (pa_cons (pv 1) (pa_cons (pv 3) pa_nil)))))
      (pss_one (ps_ret (pe_cmpR (op_eqD hu) (pe_ca cM hr (Nat.le_refl _) (by rfl) (pa_cons (pv 0) (pa_cons (pv 1) (pa_cons (pv 2) pa_nil)))) (pe_ca cM hr (Nat.le_refl _) (by rfl) (pa_cons (pv 0) (pa_cons (pv 1) (pa_cons (pv 3) pa_nil)))) (nomark _))))), ?_⟩
    refine ⟨_, rfl, _, rfl, _, rfl, x, d, n, h, ar, dl, rfl, W, ok, h2, h24, D, fun H1 s1 => ?_⟩
    refine ⟨_, rfl, _, rfl, _, rfl, x, e, n, h, ar, el, rfl, W.same s1, E'.same s1, fun H2 s2 => ?_⟩
    have s02 := s1.trans s2
    refine ⟨_, rfl, _, rfl, _, rfl, x, d, n, h, ar, dl, rfl, W.same s02, ok, h2, D.same s02, fun H3 a ys s3 na ea ty => ?_⟩
    have s03 := s02.trans s3
    refine ⟨_, rfl, _, rfl, _, rfl, x, e, n, h, ar, el, rfl, W.same s03, ok, h2, E'.same s03, fun H4 b zs s4 nb eb tz => ?_⟩
    refine ⟨.list ((marksM n (leds n ar) h dl).map encT), .list ((marksM n (leds n ar) h el).map encT), .lst (sqL_of (s4 _ _ ea)) (dpAll_of (fun _ _ r => TI.dp r) (ty.kt (kt_same s4))), .lst (sqL_of eb) (dpAll_of (fun _ _ r => TI.dp r) tz),
      (sh_list (sh_map sh_T _)).shaped (by decide), (sh_list (sh_map sh_T _)).shaped (by decide), ?_⟩
    rw [eqv_lst eqv_T]
    exact q H4 (s03.trans s4)
/-! ### same_classes -/
def encW (n : Nat) (ar : List Arr) : PyData := .tuple [.int (n : Int), .tuple ((ar.map arV).map encT)]
theorem arV_inj : ∀ {a b : List Arr}, a.map arV = b.map arV → a = b
  | [], [], _ => rfl
  | [], _ :: _, h => nomatch h
  | _ :: _, [], h => nomatch h
  | x :: a, y :: b, h => by
    rw [List.map_cons, List.map_cons] at h
    injection h with h1 h2
    unfold arV at h1
    injection h1 with e1 e2
    injection e2 with e2 _
    rw [arV_inj h2, Prod.ext e1 e2]
theorem eqv_W (n : Nat) (a b : List Arr) : PyData.eqv (encW n a) (encW n b) = decide (a = b) := by
  unfold encW
  rw [PyData.eqv, PySem.W.eqv_all_cons, PySem.W.eqv_all_cons, eqv_int, eqv_tup eqv_T, decide_eq_true rfl, Bool.true_and, PyData.eqvAll, Bool.and_true, Bool.eq_iff_iff, decide_eq_true_eq, decide_eq_true_eq]
  exact ⟨arV_inj, fun e => by rw [e]⟩
theorem sh_W (n : Nat) (a : List Arr) : Sh 3 (encW n a) := by
  refine sh_tup fun d hd => ?_
  rcases List.mem_cons.mp hd with e | hd
  · rw [e]; exact ⟨(sh_int _).1, Nat.le_trans (sh_int _).2 (by decide)⟩
  · rcases List.mem_cons.mp hd with e | hd
    · rw [e]; exact sh_tup (sh_map sh_T _)
    · exact nomatch hd
theorem WebAt.dp {H : Hp} {x : Addr} {n : Nat} {ar : List Arr} (W : WebAt H x n ar) : Dp K H (.ref x) (encW n ar) := by
  obtain ⟨t, xs, w1, w2, w3⟩ := W
  exact .tup (sqT_of w1) (.cons (.int _) (.cons (.tup (sqT_of w2) (dpAll_of (fun _ _ r => TI.dp r) w3)) .nil))
def spSame : Sp := fun vs H Q _ => ∃ (x y : Addr) (n : Nat) (ar br : List Arr), vs = [.ref x, .ref y] ∧ WebAt H x n ar ∧ WOk n ar ∧ WebAt H y n br ∧ WOk n br ∧
  ∀ H', Same H H' → Q (.bl (decide (closed n (leds n ar) = closed n (leds n br)))) H'
theorem ok_same {f : Addr} {fd : FuncData} {k : Nat} (F : Fun K "same_classes" "same_classes" sSame f fd) (cN : Ca P w K mg base k "need_web" spNeedWeb) (cC : Ca P w K mg base k "closed_in" spClosed) : FnOk P w K mg base CX0 (k + 1) f fd ["web", "other"] spSame := by
  refine F.ok scSame (fun vs H Q E h => ?_) (fun cdv A outer s H vs Q E hr h => ?_)
  · obtain ⟨x, y, n, ar, br, rfl, _⟩ := h
    rfl
  · obtain ⟨x, y, n, ar, br, rfl, W, ok, Y, oky, q⟩ := h
    have hu : (cxOf CX0 P w K mg base ["web", "other"] "same_classes" (defScope sSame) f cdv A outer s H E).nox.A.units + 64 < cLine := hr.units
    refine ⟨_, pss_cons (ps_expr (pe_ca cN hr (Nat.le_refl _) (by rfl) (pa_cons (pv 0) pa_nil)))
      (pss_cons (ps_expr (pe_ca cN hr (Nat.le_refl _) (by rfl) (pa_cons (pv 1) pa_nil)))
      (pss_cons (ps_if (pt_cmpR op_ne (pe_ix ix_tup (pv 0) pe_int (fun _ _ => rfl)) (pe_ix ix_tup (pv 1) pe_int (fun _ _ => rfl)) (nomark _)) pss_never pss_nil)
      (pss_one (ps_ret (pe_cmpR (op_eqD hu) (pe_ca cC hr (Nat.le_refl _) (by rfl) (pa_cons (pv 0) pa_nil)) (pe_ca cC hr (Nat.le_refl _) (by rfl) (pa_cons (pv 1) pa_nil)) (nomark _)))))), ?_⟩
    refine ⟨_, rfl, x, n, ar, rfl, W, ok, fun H1 s1 => ?_⟩
    refine ⟨_, rfl, y, n, br, rfl, Y.same s1, oky, fun H2 s2 => ?_⟩
    have s02 := s1.trans s2
    obtain ⟨t, xs, w1, _, _⟩ := W.same s02
    obtain ⟨t', xs', y1, _, _⟩ := Y.same s02
    refine ⟨_, rfl, x, _, _, _, rfl, rfl, sqT_of w1, atI_nat (j := 0) rfl, _, rfl, y, _, _, _, rfl, rfl, sqT_of y1, atI_nat (j := 0) rfl, rfl, _, rfl, iteNS rfl ?_⟩
    refine ⟨_, rfl, x, n, ar, rfl, W.same s02, ok, fun H3 a s3 na Wa => ?_⟩
    have s03 := s02.trans s3
    refine ⟨_, rfl, y, n, br, rfl, Y.same s03, oky, fun H4 b s4 nb Wb => ?_⟩
    refine ⟨_, _, (Wa.same s4).dp, Wb.dp, (sh_W _ _).shaped (by decide), (sh_W _ _).shaped (by decide), ?_⟩
    rw [eqv_W]
    exact q H4 (s03.trans s4)
end
end K42
set_option Elab.async false
set_option linter.all false
set_option maxRecDepth 100000
set_option maxHeartbeats 4000000
namespace K42
open PySem PySem.Spec PyProof.Rows L2
/-- the script can be read at a -/
def Scr (K : PySem.W.Frag) (H : Hp) (a : Addr) (ns : List Int) : Prop := (∃ o, H a = some (.frz o (.lst (ns.map V.int)))) ∨ ∀ H', SqL K H' a (ns.map V.int)
theorem Scr.sq {K : PySem.W.Frag} {H : Hp} {a : Addr} {ns : List Int} (s : Scr K H a ns) : SqL K H a (ns.map V.int) := by
  rcases s with ⟨o, e⟩ | h
  · exact .inl (.inr ⟨o, e⟩)
  · exact h H
theorem scr_of {K : PySem.W.Frag} {H : Hp} {a : Addr} {ns : List Int} (hO : Only H) (h : SqL K H a (ns.map V.int)) : Scr K H a ns := by
  rcases h with (h | ⟨o, h⟩) | h
  · rcases hO a with e | ⟨o, xs, e⟩
    · rw [e] at h; cases h
    · rw [e] at h; cases h
  · exact .inl ⟨o, h⟩
  · exact .inr fun H' => .inr h
/-- all but r is as it was -/
def SameX (r : Addr) (H H' : Hp) : Prop := ∀ b o, H b = some o → b ≠ r → H' b = some o
theorem SameX.refl (r : Addr) (H : Hp) : SameX r H H := fun _ _ h _ => h
theorem SameX.trans {r : Addr} {H H1 H2 : Hp} (a : SameX r H H1) (b : SameX r H1 H2) : SameX r H H2 := fun c o h n => b c o (a c o h n) n
theorem Same.x {r : Addr} {H H' : Hp} (s : Same H H') : SameX r H H' := fun b o h _ => s b o h
theorem same_x {r : Addr} {H H' : Hp} (s : Same H H') : SameX r H H' := fun b o h _ => s b o h
/-- the row of draws -/
def RowAt (K : PySem.W.Frag) (H : Hp) (r a : Addr) (ns : List Int) : Prop := (∃ pos seed rest : Int, H r = some (.lst [.ref a, .int pos, .int seed, .int rest]) ∧ 0 ≤ pos) ∧ Scr K H a ns ∧ ns.length ≤ 63
theorem RowAt.lst {K : PySem.W.Frag} {H : Hp} {r a : Addr} {ns : List Int} (R : RowAt K H r a ns) : ∃ xs, H r = some (.lst xs) := by
  obtain ⟨⟨p, s, q, e, _⟩, _⟩ := R
  exact ⟨_, e⟩
theorem SameX.kt {K : PySem.W.Frag} {H H' : Hp} {r a : Addr} {ns : List Int} (s : SameX r H H') (R : RowAt K H r a ns) : KT H H' := fun b xs e => by
  obtain ⟨ys, er⟩ := R.lst
  exact s b _ e (ne_of e er (by intro z; cases z))
theorem Scr.x {K : PySem.W.Frag} {H H' : Hp} {r a : Addr} {ns : List Int} {xs : List V} (c : Scr K H a ns) (s : SameX r H H') (er : H r = some (.lst xs)) : Scr K H' a ns := by
  rcases c with ⟨o, e⟩ | h
  · exact .inl ⟨o, s a _ e (ne_of e er (by intro z; cases z))⟩
  · exact .inr h
/-- the row's own list is written -/
theorem RowAt.put {K : PySem.W.Frag} {H : Hp} {r a : Addr} {ns : List Int} (R : RowAt K H r a ns) {p s q : Int} (hp : 0 ≤ p) : RowAt K (upd H r (.lst [.ref a, .int p, .int s, .int q])) r a ns := by
  obtain ⟨⟨p0, s0, q0, e, _⟩, c, hl⟩ := R
  exact ⟨⟨p, s, q, upd_same, hp⟩, c.x (r := r) (fun b o h n => by rw [upd_ne n]; exact h) e, hl⟩
theorem samex_wr {r : Addr} {H0 H : Hp} {o : HO} (s : SameX r H0 H) : SameX r H0 (upd H r o) := fun b x e n => by
  rw [upd_ne n]
  exact s b x e n
theorem RowAt.same {K : PySem.W.Frag} {H H' : Hp} {r a : Addr} {ns : List Int} (R : RowAt K H r a ns) (s : Same H H') : RowAt K H' r a ns := by
  obtain ⟨⟨p0, s0, q0, e, hp⟩, c, hl⟩ := R
  exact ⟨⟨p0, s0, q0, s _ _ e, hp⟩, c.x (r := r) (same_x s) e, hl⟩
section
variable {P : Program} {w : World} {K : PySem.W.Frag} {mg : Str → Option Value} {base : Heap}
def spTaken (K : PySem.W.Frag) : Sp := fun vs H Q _ => ∃ (r a : Addr) (ns : List Int) (m : Int), vs = [.ref r, .int m] ∧ RowAt K H r a ns ∧ 1 ≤ m ∧ m ≤ 1000 ∧
  ∀ H' i, SameX r H H' → RowAt K H' r a ns → 0 ≤ i → i < m → Q (.int i) H'
theorem ok_taken {f : Addr} {fd : FuncData} {k : Nat} (F : Fun K "_law_taken" "_law_taken" sTaken f fd) (B : Bt mg) : FnOk P w K mg base CX0 (k + 1) f fd ["_law_row", "_law_many"] (spTaken K) := by
  refine F.ok scTaken (fun vs H Q E h => ?_) (fun cdv A outer s H vs Q E hr h => ?_)
  · obtain ⟨r, a, ns, m, rfl, _⟩ := h
    rfl
  · obtain ⟨r, a, ns, m, rfl, R, m1, m2, q⟩ := h
    refine ⟨_, pss_cons (ps_if (pt_cmpR op_gt (pe_ix ix_list (pv 0) pe_int (fun _ _ => rfl)) pe_int (nomark _))
        (pss_cons (ps_set (i := 2) scTaken.nd rfl (.inl rfl) (pe_op op_mod (pe_callTy call_int1 (by rfl) B.int (by decide +kernel) (pa_cons (pe_ix ix_list (pv 0) pe_int (fun _ _ => rfl)) pa_nil)) (pv 1)))
        (pss_cons (ps_asg (pe_op op_fdivN (pe_ix ix_list (pv 0) pe_int (fun _ _ => rfl)) (pv 1)) (pg_sub (pv 0) pe_int set_list))
        (pss_one (ps_ret (pv 2))))) pss_nil)
      (pss_cons (ps_asg (pe_op op_add (pe_ix ix_list (pv 0) pe_int (fun _ _ => rfl)) pe_int) (pg_sub (pv 0) pe_int set_list))
      (pss_cons (ps_if (pt_cmpR op_gt (pe_ix ix_list (pv 0) pe_int (fun _ _ => rfl)) (pe_callB call_len_seq (by rfl) B.len PySem.boot_len (pa_cons (pe_ix ix_list (pv 0) pe_int (fun _ _ => rfl)) pa_nil)) (nomark _))
        (pss_cons (ps_asg (pe_op op_mod (pe_callTy call_int1 (by rfl) B.int (by decide +kernel) (pa_cons (pe_op op_add (pe_op op_mul (pe_ix ix_list (pv 0) pe_int (fun _ _ => rfl)) pe_int) pe_int) pa_nil)) pe_int) (pg_sub (pv 0) pe_int set_list))
        (pss_one (ps_ret (pe_op op_mod (pe_callTy call_int1 (by rfl) B.int (by decide +kernel) (pa_cons (pe_op op_fdiv (pe_ix ix_list (pv 0) pe_int (fun _ _ => rfl)) pe_int) pa_nil)) (pv 1))))) pss_nil)
      (pss_cons (ps_set (i := 3) scTaken.nd rfl (.inl rfl) (pe_ix ix_list (pe_ix ix_list (pv 0) pe_int (fun _ _ => rfl)) (pe_op op_sub (pe_ix ix_list (pv 0) pe_int (fun _ _ => rfl)) pe_int) (fun _ _ => rfl)))
      (pss_cons (ps_asg (pe_op op_mod (pe_callTy call_int1 (by rfl) B.int (by decide +kernel) (pa_cons (pe_op op_add (pe_op op_add (pe_op op_mul (pe_ix ix_list (pv 0) pe_int (fun _ _ => rfl)) pe_int) (pv 3)) pe_int) pa_nil)) pe_int) (pg_sub (pv 0) pe_int set_list))
      (pss_cons (ps_if (pt_cmpR op_ge (pv 3) (pe_op op_pow pe_int pe_int) (nomark _))
        (pss_one (ps_asg (pe_op op_fdivN (pv 3) (pv 1)) (pg_sub (pv 0) pe_int set_list))) pss_nil)
      (pss_one (ps_ret (pe_op op_mod (pe_callTy call_int1 (by rfl) B.int (by decide +kernel) (pa_cons (pv 3) pa_nil)) (pv 1))))))))), ?_⟩
    obtain ⟨⟨pos, seed, rest, er, hp0⟩, hS, hlen⟩ := id R
    have hmN : CDivN 0 m := ⟨by omega, by omega⟩
    have fin : ∀ (x : Int), 0 ≤ x % m ∧ x % m < m := fun x => ⟨Int.emod_nonneg _ (by omega), Int.emod_lt_of_pos _ (by omega)⟩
    -- if row[3] > 0
    refine ⟨_, rfl, r, _, _, _, rfl, rfl, sqL_of er, atI_nat (j := 3) rfl, _, _, rfl, rfl, _, rfl, ?_⟩
    refine ite2 (fun hc => ?_) (fun hc => ?_)
    · refine ⟨_, rfl, r, _, _, _, rfl, rfl, sqL_of er, atI_nat (j := 3) rfl, .inl ⟨rest, rfl, _, rfl, _, _, rfl, rfl, (by show 0 < m; omega), ?_⟩⟩
      refine ⟨_, rfl, r, _, _, _, rfl, rfl, sqL_of er, atI_nat (j := 3) rfl, _, rfl, _, _, rfl, rfl, ⟨by omega, by omega⟩, ?_⟩
      refine ⟨_, rfl, r, _, _, 3, rfl, rfl, er, rfl, ?_⟩
      refine ⟨_, rfl, ?_⟩
      exact q _ _ (samex_wr (SameX.refl r H)) (R.put hp0) (fin _).1 (fin _).2
    · -- row[1] = row[1] + 1
      refine ⟨_, rfl, r, _, _, _, rfl, rfl, sqL_of er, atI_nat (j := 1) rfl, _, _, rfl, rfl, _, rfl, r, _, _, 1, rfl, rfl, er, rfl, ?_⟩
      have R1 : RowAt K (upd H r (.lst [.ref a, .int (pos + 1), .int seed, .int rest])) r a ns := R.put (by omega)
      have s1 : SameX r H (upd H r (.lst [.ref a, .int (pos + 1), .int seed, .int rest])) := samex_wr (SameX.refl r H)
      have er1 : upd H r (.lst [.ref a, .int (pos + 1), .int seed, .int rest]) r = some (.lst [.ref a, .int (pos + 1), .int seed, .int rest]) := upd_same
      show tSeq _ _ _ _ (upd H r (.lst [.ref a, .int (pos + 1), .int seed, .int rest]))
      generalize upd H r (.lst [.ref a, .int (pos + 1), .int seed, .int rest]) = H1 at R1 s1 er1
      have hS1 := R1.2.1.sq
      -- if row[1] > len(row[0])
      refine ⟨_, rfl, r, _, _, _, rfl, rfl, sqL_of er1, atI_nat (j := 1) rfl, _, rfl, r, _, _, _, rfl, rfl, sqL_of er1, atI_nat (j := 0) rfl, a, _, rfl, .inl hS1, _, _, rfl, rfl, _, rfl, ?_⟩
      refine ite2 (fun hc2 => ?_) (fun hc2 => ?_)
      · refine ⟨_, rfl, r, _, _, _, rfl, rfl, sqL_of er1, atI_nat (j := 2) rfl, _, _, rfl, rfl, .inr ⟨by decide, by decide⟩, _, _, rfl, rfl, .inl ⟨_, rfl, _, _, rfl, rfl, (by show (0 : Int) < 2147483647; decide), ?_⟩⟩
        refine ⟨_, rfl, r, _, _, 2, rfl, rfl, er1, rfl, ?_⟩
        refine ⟨_, rfl, r, _, _, _, rfl, rfl, sqL_of upd_same, atI_nat (j := 2) rfl, _, _, rfl, rfl, ⟨by decide, by decide⟩, .inl ⟨_, rfl, _, rfl, _, _, rfl, rfl, (by show 0 < m; omega), ?_⟩⟩
        exact q _ _ (samex_wr s1) (R1.put (by omega)) (fin _).1 (fin _).2
      · have hle : pos + 1 ≤ (ns.length : Int) := by
          have : ¬ (((ns.map V.int).length : Int) < pos + 1) := fun z => hc2 (decide_eq_true z)
          rw [List.length_map] at this
          omega
        have hix : pos.toNat < ns.length := by omega
        -- cell = row[0][row[1] - 1]
        refine ⟨_, rfl, r, _, _, _, rfl, rfl, sqL_of er1, atI_nat (j := 0) rfl, _, rfl, r, _, _, _, rfl, rfl, sqL_of er1, atI_nat (j := 1) rfl, _, _, rfl, rfl, a, _, _, .int (ns.getD pos.toNat 0), rfl, rfl, hS1, ?_, ?_⟩
        · show atI (ns.map V.int) (pos + 1 - 1) = _
          rw [show pos + 1 - 1 = pos by omega]
          exact at_int hp0 hix
        generalize ns.getD pos.toNat 0 = cell
        -- row[2] = ..
        refine ⟨_, rfl, r, _, _, _, rfl, rfl, sqL_of er1, atI_nat (j := 2) rfl, _, _, rfl, rfl, .inr ⟨by decide, by decide⟩, _, rfl, _, _, rfl, rfl, _, _, rfl, rfl, .inl ⟨_, rfl, _, _, rfl, rfl, (by show (0 : Int) < 2147483647; decide), ?_⟩⟩
        refine ⟨_, rfl, r, _, _, 2, rfl, rfl, er1, rfl, ?_⟩
        refine ⟨_, rfl, _, _, rfl, rfl, ⟨by decide, by decide, by decide⟩, _, _, rfl, rfl, _, rfl, ?_⟩
        refine ite2 (fun hc3 => ?_) (fun hc3 => ?_)
        · refine ⟨_, rfl, _, rfl, _, _, rfl, rfl, ⟨by omega, by omega⟩, _, rfl, r, _, _, 3, rfl, rfl, upd_same, rfl, ?_⟩
          refine ⟨_, rfl, .inl ⟨_, rfl, _, rfl, _, _, rfl, rfl, (by show 0 < m; omega), ?_⟩⟩
          exact q _ _ (samex_wr (samex_wr s1)) (RowAt.put (R1.put (s := (seed * 48271 + cell + 11) % 2147483647) (q := rest) (p := pos + 1) (by omega)) (by omega)) (fin _).1 (fin _).2
        · refine ⟨_, rfl, .inl ⟨_, rfl, _, rfl, _, _, rfl, rfl, (by show 0 < m; omega), ?_⟩⟩
          exact q _ _ (samex_wr s1) (R1.put (by omega)) (fin _).1 (fin _).2
/-! ### _law_pick -/
def spPick (K : PySem.W.Frag) : Sp := fun vs H Q _ => ∃ (r a t : Addr) (ns : List Int) (xs : List V), vs = [.ref r, .ref t] ∧ RowAt K H r a ns ∧ (H t = some (.lst xs) ∨ H t = some (.tup xs)) ∧ t ≠ r ∧ 1 ≤ xs.length ∧ xs.length ≤ 1000 ∧
  ∀ H' x, SameX r H H' → RowAt K H' r a ns → x ∈ xs → Q x H'
theorem ok_pick {f : Addr} {fd : FuncData} {k : Nat} (F : Fun K "_law_pick" "_law_pick" sPick f fd) (B : Bt mg) (cT : Ca P w K mg base k "_law_taken" (spTaken K)) : FnOk P w K mg base CX0 (k + 1) f fd ["_law_row", "_law_things"] (spPick K) := by
  refine F.ok scPick (fun vs H Q E h => ?_) (fun cdv A outer s H vs Q E hr h => ?_)
  · obtain ⟨r, a, t, ns, xs, rfl, _⟩ := h
    rfl
  · obtain ⟨r, a, t, ns, xs, rfl, R, ht, hne, l1, l2, q⟩ := h
    refine ⟨_, pss_one (ps_ret (pe_ix ix_seq (pv 1) (pe_ca cT hr (Nat.le_refl _) (by rfl) (pa_cons (pv 0) (pa_cons (pe_callB call_len_seq (by rfl) B.len PySem.boot_len (pa_cons (pv 1) pa_nil)) pa_nil))) (fun _ _ => rfl))), ?_⟩
    have hsq : SqL K H t xs ∨ SqT K H t xs := ht.elim (fun e => .inl (sqL_of e)) (fun e => .inr (sqT_of e))
    refine ⟨_, rfl, _, rfl, _, rfl, t, xs, rfl, hsq, r, a, ns, (xs.length : Int), rfl, R, by omega, by omega, fun H' i sx R' h0 h1 => ?_⟩
    have hi : i.toNat < xs.length := by omega
    have hat : atI xs i = some xs[i.toNat] := at_of (j := i.toNat) (by omega) (List.getElem?_eq_getElem hi)
    have fin := q H' xs[i.toNat] sx R' (List.getElem_mem hi)
    rcases ht with e | e
    · exact .inl ⟨t, xs, i, _, rfl, rfl, sqL_of (sx _ _ e hne), hat, fin⟩
    · exact .inr (.inl ⟨t, xs, i, _, rfl, rfl, sqT_of (sx _ _ e hne), hat, fin⟩)
end
end K42
set_option Elab.async false
set_option linter.all false
set_option maxRecDepth 100000
set_option maxHeartbeats 4000000
namespace K42
open PySem PySem.Spec PyProof.Rows L2
/-! ### strictly ascending arrows are a web's -/
def ltA (a b : Arr) : Prop := a.1 < b.1 ∨ (a.1 = b.1 ∧ a.2 < b.2)
theorem ltA_irr {a : Arr} : ¬ ltA a a := fun h => by
  rcases h with h | h <;> omega
theorem ltA_tr {a b c : Arr} (h : ltA a b) (k : ltA b c) : ltA a c := by
  unfold ltA at *
  omega
theorem subs_of : ∀ {m l : List Arr}, m.Pairwise ltA → l.Pairwise ltA → (∀ a ∈ l, a ∈ m) → l ∈ subs m
  | [], [], _, _, _ => by simp [subs]
  | [], a :: l, _, _, h => nomatch h a List.mem_cons_self
  | x :: m, l, hm, hl, h => by
    obtain ⟨hx, hm'⟩ := List.pairwise_cons.mp hm
    unfold subs
    rw [List.mem_append]
    cases l with
    | nil => exact .inl (subs_of hm' .nil fun a z => nomatch z)
    | cons y l =>
      obtain ⟨hy, hl'⟩ := List.pairwise_cons.mp hl
      rcases List.mem_cons.mp (h y List.mem_cons_self) with e | hym
      · subst e
        refine .inr (List.mem_map.mpr ⟨l, subs_of hm' hl' fun a ha => ?_, rfl⟩)
        rcases List.mem_cons.mp (h a (List.mem_cons_of_mem _ ha)) with e | q
        · rw [e] at ha
          exact absurd (hy y ha) ltA_irr
        · exact q
      · refine .inl (subs_of hm' hl fun a ha => ?_)
        rcases List.mem_cons.mp (h a ha) with e | q
        · subst e
          rcases List.mem_cons.mp ha with e2 | q2
          · rw [← e2] at hym
            exact hym
          · exact absurd (ltA_tr (hx y hym) (hy a q2)) ltA_irr
        · exact q
theorem mem_allArr {n : Nat} {u v : Int} (h0 : 0 ≤ u) (h1 : u < (n : Int)) (h2 : 0 ≤ v) (h3 : v < (n : Int)) (hne : u ≠ v) : (u, v) ∈ allArr n := by
  unfold allArr
  rw [List.mem_flatMap]
  refine ⟨u.toNat, List.mem_range.mpr (by omega), List.mem_map.mpr ⟨v.toNat, List.mem_filter.mpr ⟨List.mem_range.mpr (by omega), decide_eq_true (by omega)⟩, ?_⟩⟩
  rw [Int.toNat_of_nonneg h0, Int.toNat_of_nonneg h2]
theorem allArr_mem {n : Nat} {a : Arr} (h : a ∈ allArr n) : 0 ≤ a.1 ∧ a.1 < (n : Int) ∧ 0 ≤ a.2 ∧ a.2 < (n : Int) ∧ a.1 ≠ a.2 := by
  unfold allArr at h
  rw [List.mem_flatMap] at h
  obtain ⟨u, hu, h⟩ := h
  obtain ⟨v, hv, rfl⟩ := List.mem_map.mp h
  obtain ⟨hv1, hv2⟩ := List.mem_filter.mp hv
  have h1 := List.mem_range.mp hu
  have h2 := List.mem_range.mp hv1
  have h3 := of_decide_eq_true hv2
  show 0 ≤ (u : Int) ∧ (u : Int) < n ∧ 0 ≤ (v : Int) ∧ (v : Int) < n ∧ (u : Int) ≠ v
  omega
theorem allArr_asc {n : Nat} (h1 : 1 ≤ n) (h3 : n ≤ 3) : (allArr n).Pairwise ltA := by
  have e : n = 1 ∨ n = 2 ∨ n = 3 := by omega
  unfold ltA
  rcases e with e | e | e
  · subst e; decide +kernel
  · subst e; decide +kernel
  · subst e; decide +kernel
theorem pairwise_and {α : Type} {R S : α → α → Prop} : ∀ {l : List α}, l.Pairwise R → l.Pairwise S → l.Pairwise fun a b => R a b ∧ S a b
  | [], _, _ => .nil
  | a :: l, h, k => by
    obtain ⟨h1, h2⟩ := List.pairwise_cons.mp h
    obtain ⟨k1, k2⟩ := List.pairwise_cons.mp k
    exact List.pairwise_cons.mpr ⟨fun b hb => ⟨h1 b hb, k1 b hb⟩, pairwise_and h2 k2⟩
/-- what sorted(set(arrows)) leaves is a web's row of arrows -/
theorem web_fin {n : Nat} (h1 : 1 ≤ n) (h3 : n ≤ 3) {L : List (Addr × List Int)} (hm : ∀ p ∈ L, ∃ a ∈ allArr n, p.2 = arV a) (nd : (L.map (·.2)).Nodup) (pw : L.Pairwise fun q r => TS.code 64 q.2 ≤ TS.code 64 r.2) :
    ∃ ar : List Arr, WOk n ar ∧ L.map (·.2) = ar.map arV ∧ ∀ a ∈ ar, ∃ p ∈ L, p.2 = arV a := by
  have e : L.map (·.2) = (L.map fun p => ((p.2.getD 0 0, p.2.getD 1 0) : Arr)).map arV := by
    rw [List.map_map]
    refine List.map_congr_left fun p hp => ?_
    obtain ⟨a, _, q⟩ := hm p hp
    show p.2 = arV (p.2.getD 0 0, p.2.getD 1 0)
    rw [q]
    rfl
  refine ⟨L.map fun p => (p.2.getD 0 0, p.2.getD 1 0), ⟨h1, h3, subs_of (allArr_asc h1 h3) ?_ fun a ha => ?_⟩, e, fun a ha => ?_⟩
  · rw [List.pairwise_map]
    have nd2 : L.Pairwise fun p q => p.2 ≠ q.2 := List.pairwise_map.mp nd
    refine (pairwise_and nd2 pw).imp_of_mem fun {p q} hp hq hh => ?_
    obtain ⟨a, ha, ea⟩ := hm p hp
    obtain ⟨b, hb, eb⟩ := hm q hq
    obtain ⟨a1, a2, a3, a4, _⟩ := allArr_mem ha
    obtain ⟨b1, b2, b3, b4, _⟩ := allArr_mem hb
    rw [ea, eb] at hh ⊢
    show ltA (a.1, a.2) (b.1, b.2)
    exact pair_lt (x := a.1) (y := a.2) (x' := b.1) (y' := b.2) hh.2 hh.1 ⟨a1, by omega⟩ ⟨a3, by omega⟩ ⟨b1, by omega⟩ ⟨b3, by omega⟩
  · obtain ⟨p, hp, rfl⟩ := List.mem_map.mp ha
    obtain ⟨a, ha, ea⟩ := hm p hp
    show (p.2.getD 0 0, p.2.getD 1 0) ∈ allArr n
    rw [ea]
    exact ha
  · obtain ⟨p, hp, rfl⟩ := List.mem_map.mp ha
    obtain ⟨a, ha, ea⟩ := hm p hp
    refine ⟨p, hp, ?_⟩
    rw [ea]
    rfl
/-! ### heaps -/
theorem ks_of {H : Hp} : ∀ {xs : List V} {ds : List (List Int)}, TIs H xs ds → ∃ ks : List (Addr × List Int), xs = ks.map (fun p => V.ref p.1) ∧ ds = ks.map (·.2) ∧ ∀ p ∈ ks, H p.1 = some (.tup (p.2.map V.int))
  | _, _, .nil => ⟨[], rfl, rfl, fun p h => nomatch h⟩
  | _, _, .cons (b := d) ⟨a, e, q⟩ t => by
    obtain ⟨ks, h1, h2, h3⟩ := ks_of t
    refine ⟨(a, d) :: ks, by rw [List.map_cons, ← h1, e], by rw [List.map_cons, ← h2], fun p hp => ?_⟩
    rcases List.mem_cons.mp hp with z | hp
    · rw [z]; exact q
    · exact h3 p hp
theorem tis_of {H : Hp} : ∀ {ks : List (Addr × List Int)}, (∀ p ∈ ks, H p.1 = some (.tup (p.2.map V.int))) → TIs H (ks.map fun p => V.ref p.1) (ks.map (·.2))
  | [], _ => .nil
  | p :: ks, h => .cons ⟨p.1, rfl, h p List.mem_cons_self⟩ (tis_of fun q hq => h q (List.mem_cons_of_mem _ hq))
theorem samex_new {r : Addr} {H0 H : Hp} {p : Addr} {o : HO} (s : SameX r H0 H) (h : H0 p = none) : SameX r H0 (upd H p o) := fun b x e n => by
  rw [upd_ne (ne_of_none e h)]
  exact s b x e n
theorem RowAt.other {K : PySem.W.Frag} {H : Hp} {r a : Addr} {ns : List Int} (R : RowAt K H r a ns) {p : Addr} {o : HO} {xs : List V} (hp : H p = some (.lst xs)) (hne : p ≠ r) : RowAt K (upd H p o) r a ns := by
  obtain ⟨⟨p0, s0, q0, e, h0⟩, c, hl⟩ := R
  exact ⟨⟨p0, s0, q0, by rw [upd_ne hne.symm]; exact e, h0⟩, c.x (r := p) (fun b o h n => by rw [upd_ne n]; exact h) hp, hl⟩
theorem SameX.free {r : Addr} {H H' : Hp} (s : SameX r H H') {l : Addr} (h : H' l = none) (hne : l ≠ r) : H l = none := by
  cases q : H l with
  | none => rfl
  | some o =>
    rw [s l o q hne] at h
    cases h
theorem ne_row {K : PySem.W.Frag} {H : Hp} {r a : Addr} {ns : List Int} (R : RowAt K H r a ns) {l : Addr} (h : H l = none) : l ≠ r := fun e => by
  obtain ⟨xs, q⟩ := R.lst
  rw [← e, h] at q
  cases q
theorem ifS_by {c : TT} {t u : TS} {D : Ends} {σ : L2.St} {H : Hp} (P : Bool → Hp → Prop) (h : ∀ Qb : Bool → Hp → Prop, (∀ b H2, P b H2 → Qb b H2) → c σ H Qb) (yes : ∀ H2, P true H2 → t D σ H2) (no : ∀ H2, P false H2 → u D σ H2) : tIfS c t u D σ H :=
  h _ fun b H2 hp => by
    cases b with
    | false => exact iteF (no H2 hp)
    | true => exact iteT (yes H2 hp)
theorem seq_by {a b : TS} {D : Ends} {σ : L2.St} {H : Hp} (J : L2.St → Hp → Prop) (h : ∀ N : L2.St → Hp → Prop, (∀ σ' H', J σ' H' → N σ' H') → a { D with nx := N } σ H) (fin : ∀ σ' H', J σ' H' → b D σ' H') : tSeq a b D σ H := h _ fin
section
variable {P : Program} {w : World} {K : PySem.W.Frag} {mg : Str → Option Value} {base : Heap}
/-! ### _law_web -/
def spWeb (K : PySem.W.Frag) : Sp := fun vs H Q _ => ∃ (r a : Addr) (ns : List Int), vs = [.ref r, .int 3] ∧ RowAt K H r a ns ∧
  ∀ H' x n ar, SameX r H H' → RowAt K H' r a ns → WebAt H' x n ar → WOk n ar → Q (.ref x) H'
/-- arrows of n clocks -/
def ArrOk (n : Nat) (l : List Arr) : Prop := ∀ a ∈ l, a ∈ allArr n
theorem ok_web {f : Addr} {fd : FuncData} {k : Nat} (F : Fun K "_law_web" "_law_web" sWeb f fd) (B : Bt mg) (cT : Ca P w K mg base k "_law_taken" (spTaken K)) (cP : Ca P w K mg base k "_law_pick" (spPick K)) : FnOk P w K mg base CX0 (k + 1) f fd ["_law_row", "_law_most"] (spWeb K) := by
  refine F.ok scWeb (fun vs H Q E h => ?_) (fun cdv A outer s H vs Q E hr h => ?_)
  · obtain ⟨r, a, ns, rfl, _⟩ := h
    rfl
  · obtain ⟨r, a, ns, rfl, R, q⟩ := h
    have hu : (cxOf CX0 P w K mg base ["_law_row", "_law_most", "_law_many", "_law_way", "_law_thin", "_law_arrows", "_law_k", "_law_j"] "_law_web" (defScope sWeb) f cdv A outer s H E).nox.A.units + 64 < cLine := hr.units
    refine ⟨_, pss_cons (ps_par (i := 2) (j := 3) (by rfl) scWeb.nd rfl rfl (by decide) rfl rfl (pa_cons (pe_op op_add pe_int (pe_ca cT hr (Nat.le_refl _) (by rfl) (pa_cons (pv 0) (pa_cons (pv 1) pa_nil)))) (pa_cons (pe_ca cT hr (Nat.le_refl _) (by rfl) (pa_cons (pv 0) (pa_cons pe_int pa_nil))) pa_nil)) (by rfl))
      (pss_cons (ps_par (i := 4) (j := 5) (by rfl) scWeb.nd rfl rfl (by decide) rfl rfl (pa_cons (pe_ca cP hr (Nat.le_refl _) (by rfl) (pa_cons (pv 0) (pa_cons (pe_lst (pa_cons pe_int (pa_cons pe_int (pa_cons pe_int pa_nil)))) pa_nil))) (pa_cons (pe_lst pa_nil) pa_nil)) (by rfl))
      (pss_cons (ps_for PassesOwn.never rfl (pi_range1 rfl B.range (pa_cons (pv 2) pa_nil)) (pg_name (i := 6) scWeb.nd rfl (.inl rfl))
        (pss_one (ps_for PassesOwn.never rfl (pi_range1 rfl B.range (pa_cons (pv 2) pa_nil)) (pg_name (i := 7) scWeb.nd rfl (.inl rfl))
          (pss_one (ps_if (PW.pt (pw_and (pt_cmpR op_ne (pv 6) (pv 7) (nomark _)) (pw_and1 (PW.pt (pw_or
              (PW.pt (pw_and (pt_cmpR op_lt (pv 3) pe_int (nomark _)) (pw_and1 (pt_cmpR op_eq (pe_ca cT hr (Nat.le_refl _) (by rfl) (pa_cons (pv 0) (pa_cons (pv 4) pa_nil))) pe_int (nomark _)))))
              (pw_or1 (PW.pt (pw_and (pt_cmpR op_eq (pv 3) pe_int (nomark _)) (pw_and (pt_cmpR op_lt (pv 6) (pv 7) (nomark _)) (pw_and1 (pt_cmpR op_eq (pe_ca cT hr (Nat.le_refl _) (by rfl) (pa_cons (pv 0) (pa_cons pe_int pa_nil))) pe_int (nomark _)))))))))))) 
            (pss_one (ps_expr (pe_bm PySem.F.plainAttrs_list PySem.F.slot_list_append PySem.F.type_list_append mt_append (pv 5) (pa_cons (pe_tup (pa_cons (pv 6) (pa_cons (pv 7) pa_nil))) pa_nil)))) pss_nil)))))
      (pss_cons (ps_if (pt_cmpR op_gt (pv 3) pe_int (nomark _))
        (pss_one (ps_set (i := 5) scWeb.nd rfl (.inl rfl) (pe_op op_cat
          (pe_lc (own := [("_law_k", 6)]) (g := gName 6) (by rfl) scWeb.nd (pi_range1 rfl B.range (pa_cons (pe_op op_sub (pv 2) pe_int) pa_nil))
            (blkOk_by (N := ["_law_row", "_law_most", "_law_many", "_law_way", "_law_thin", "_law_arrows", "_law_k", "_law_j"]) (sc := defScope sWeb) (by decide +kernel)) (fun _ _ _ _ _ => pg_name (i := 6) scWeb.nd rfl (Or.inl rfl))
            (fun _ _ _ _ _ => pts_nil) (fun _ _ _ _ _ => pe_tup (pa_cons (pv 6) (pa_cons (pe_op op_add (pv 6) pe_int) pa_nil))))
          (pe_ifExp (PW.pt (pw_and (pt_cmpR op_eq (pv 3) pe_int (nomark _)) (pw_and1 (pt_cmpR op_gt (pv 2) pe_int (nomark _)))))
            (pe_lst (pa_cons (pe_tup (pa_cons (pe_op op_sub (pv 2) pe_int) (pa_cons pe_int pa_nil))) pa_nil)) (pe_lst pa_nil))))) pss_nil)
      (pss_one (ps_ret (pe_tup (pa_cons (pv 2) (pa_cons (pe_callTy call_tuple_of (by rfl) B.tuple (by decide +kernel) (pa_cons
        (pe_callB (cr_sortedT (by rfl)) (by rfl) B.sorted (by decide +kernel) (pa_cons (pe_callTy (cr_setOfT (by rfl) hu) (by rfl) B.set (by decide +kernel) (pa_cons (pv 5) pa_nil)) pa_nil)) pa_nil)) pa_nil)))))))), ?_⟩
    refine ⟨_, rfl, _, rfl, r, a, ns, 3, rfl, R, by decide, by decide, fun H1 i0 s1 R1 b0 b1 => ⟨_, _, rfl, rfl, _, rfl, r, a, ns, 6, rfl, R1, by decide, by decide, fun H2 way s2 R2 c0 c1 => ⟨_, _, rfl, ?_⟩⟩⟩
    obtain ⟨n, hn⟩ : ∃ n : Nat, 1 + i0 = (n : Int) := ⟨(1 + i0).toNat, by omega⟩
    have n1 : 1 ≤ n := by omega
    have n3 : n ≤ 3 := by omega
    show tSeq _ _ _ ([some (.ref r), some (.int 3), some (.int (1 + i0)), some (.int way), none, none, none, none] : L2.St) H2
    rw [hn]
    -- thin, arrows
    refine ⟨_, rfl, by show 3 ≤ sizeLine; decide, fun l0 nl0 => ?_⟩
    have R2' := R2.same (same_upd (o := .lst [.int 2, .int 3, .int 5]) nl0)
    refine ⟨r, a, l0, ns, _, rfl, R2', .inl upd_same, ne_row R2 nl0, by decide, by decide, fun H3 xz s3 R3 hxz => ?_⟩
    obtain ⟨z, rfl, z1, z2⟩ : ∃ z : Int, xz = .int z ∧ 1 ≤ z ∧ z ≤ 1000 := by
      simp only [List.mem_cons, List.not_mem_nil, or_false] at hxz
      rcases hxz with e | e | e
      · exact ⟨2, e, by decide, by decide⟩
      · exact ⟨3, e, by decide, by decide⟩
      · exact ⟨5, e, by decide, by decide⟩
    have sx3 : SameX r H H3 := (s1.trans s2).trans ((same_x (same_upd nl0)).trans s3)
    refine ⟨by show 0 ≤ sizeLine; decide, fun la nla => ⟨_, _, rfl, ?_⟩⟩
    have hlr : la ≠ r := ne_row R3 nla
    have hla : H la = none := sx3.free nla hlr
    have sx4 : SameX r H (upd H3 la (.lst [])) := samex_new sx3 hla
    have R4 := R3.same (same_upd (o := .lst []) nla)
    have e4 : upd H3 la (.lst []) la = some (.lst []) := upd_same
    generalize upd H3 la (.lst []) = H4 at sx4 R4 e4 ⊢
    dsimp only
    -- the loops
    refine seq_by (fun σ' H' => ∃ (xs : List V) (l : List Arr) (h6 h7 : Option V), σ' = [some (.ref r), some (.int 3), some (.int (n : Int)), some (.int way), some (.int z), some (.ref la), h6, h7] ∧ SameX r H H' ∧ RowAt K H' r a ns ∧ H' la = some (.lst xs) ∧ TIs H' xs (l.map arV) ∧ ArrOk n l ∧ l.length ≤ 9)
      (fun N hN => ?_) ?_
    · refine ⟨_, rfl, (n : Int), rfl, by omega, by omega, ?_⟩
      refine for_range (lo := 0) (n := n) (fun i σ' H' => ∃ (xs : List V) (l : List Arr) (h6 h7 : Option V), σ' = [some (.ref r), some (.int 3), some (.int (n : Int)), some (.int way), some (.int z), some (.ref la), h6, h7] ∧ SameX r H H' ∧ RowAt K H' r a ns ∧ H' la = some (.lst xs) ∧ TIs H' xs (l.map arV) ∧ ArrOk n l ∧ l.length ≤ 3 * i)
        ⟨[], [], none, none, rfl, sx4, R4, e4, .nil, (fun _ z => nomatch z), by simp⟩ ?_ ?_
      · rintro i σ' H' hi ⟨xs, l, h6, h7, rfl, sx, R', ea, ta, hok, hl⟩
        rw [show (0 : Int) + (i : Int) = (i : Int) from Int.zero_add _]
        refine ⟨_, rfl, (n : Int), rfl, by omega, by omega, ?_⟩
        refine for_range (lo := 0) (n := n) (fun j σ' H' => ∃ (xs : List V) (l : List Arr) (h7 : Option V), σ' = [some (.ref r), some (.int 3), some (.int (n : Int)), some (.int way), some (.int z), some (.ref la), some (.int (i : Int)), h7] ∧ SameX r H H' ∧ RowAt K H' r a ns ∧ H' la = some (.lst xs) ∧ TIs H' xs (l.map arV) ∧ ArrOk n l ∧ l.length ≤ 3 * i + j)
          ⟨xs, l, h7, rfl, sx, R', ea, ta, hok, by omega⟩ ?_ ?_
        · rintro j σ'' H'' hj ⟨xs, l, h7, rfl, sx, R', ea, ta, hok, hl⟩
          rw [show (0 : Int) + (j : Int) = (j : Int) from Int.zero_add _]
          refine ifS_by (fun b H2 => (b = true → i ≠ j) ∧ SameX r H'' H2 ∧ RowAt K H2 r a ns) (fun Qb hq => ?_) ?_ ?_
          · refine ⟨_, rfl, _, rfl, rfl, _, rfl, ?_⟩
            by_cases hij : i = j
            · have ed : (!decide (V.int (i : Int) = V.int (j : Int))) = false := by rw [decide_eq_true (by rw [hij])]; rfl
              rw [ed]
              exact iteF (hq _ _ ⟨(fun h => nomatch h), SameX.refl _ _, R'⟩)
            · have ed : (!decide (V.int (i : Int) = V.int (j : Int))) = true := by rw [decide_eq_false (fun z => hij (by have := V.int.inj z; omega))]; rfl
              rw [ed]
              refine iteT ⟨_, rfl, _, _, rfl, rfl, _, rfl, ite2 (fun _ => ?_) (fun _ => ?_)⟩
              · refine ⟨_, rfl, _, rfl, r, a, ns, z, rfl, R', z1, z2, fun H2 t s2 R2 t0 t1 => ⟨rfl, _, rfl, ite2 (fun _ => ?_) (fun _ => ?_)⟩⟩
                · exact hq _ _ ⟨fun _ => hij, s2, R2⟩
                · refine ⟨_, rfl, rfl, _, rfl, ite2 (fun _ => ?_) (fun _ => ?_)⟩
                  · refine ⟨_, rfl, _, rfl, _, _, rfl, rfl, _, rfl, ite2 (fun _ => ?_) (fun _ => ?_)⟩
                    · exact ⟨_, rfl, r, a, ns, 2, rfl, R2, by decide, by decide, fun H3 t s3 R3 t0 t1 => ⟨rfl, _, rfl, hq _ _ ⟨fun _ => hij, s2.trans s3, R3⟩⟩⟩
                    · exact hq _ _ ⟨(fun h => nomatch h), s2, R2⟩
                  · exact hq _ _ ⟨(fun h => nomatch h), s2, R2⟩
              · refine iteF ⟨_, rfl, rfl, _, rfl, ite2 (fun _ => ?_) (fun _ => ?_)⟩
                · refine ⟨_, rfl, _, rfl, _, _, rfl, rfl, _, rfl, ite2 (fun _ => ?_) (fun _ => ?_)⟩
                  · exact ⟨_, rfl, r, a, ns, 2, rfl, R', by decide, by decide, fun H3 t s3 R3 t0 t1 => ⟨rfl, _, rfl, hq _ _ ⟨fun _ => hij, s3, R3⟩⟩⟩
                  · exact hq _ _ ⟨(fun h => nomatch h), SameX.refl _ _, R'⟩
                · exact hq _ _ ⟨(fun h => nomatch h), SameX.refl _ _, R'⟩
          · rintro H2 ⟨hij, s2, R2⟩
            have hij := hij rfl
            have ea2 := s2 _ _ ea hlr
            have ta2 := ta.kt (s2.kt R')
            refine ⟨_, rfl, .inl ⟨rfl, _, sqL_of ea2⟩, _, rfl, _, rfl, by show 2 ≤ sizeLine; decide, fun p hp => ?_⟩
            have ea3 : upd H2 p (.tup [.int (i : Int), .int (j : Int)]) la = some (.lst xs) := same_upd hp _ _ ea2
            have R3 := R2.same (same_upd (o := .tup [.int (i : Int), .int (j : Int)]) hp)
            have sx3 : SameX r H (upd H2 p (.tup [.int (i : Int), .int (j : Int)])) := (sx.trans s2).trans (same_x (same_upd hp))
            refine ⟨la, _, _, rfl, rfl, ea3, ?_, ?_⟩
            · rw [ta2.length, List.length_map]
              exact sz_lt (by omega)
            · have kt3 := (kt_new (o := .tup [.int (i : Int), .int (j : Int)]) hp).trans (kt_lst (o := .lst (xs ++ [.ref p])) ea3)
              refine ⟨xs ++ [.ref p], l ++ [((i : Int), (j : Int))], _, rfl, samex_new sx3 hla, R3.other ea3 hlr, upd_same, ?_, ?_, ?_⟩
              · rw [List.map_append]
                exact TIs.append (ta2.kt kt3) (.cons ⟨p, rfl, kt_lst (o := .lst (xs ++ [.ref p])) ea3 _ _ upd_same⟩ .nil)
              · intro b hb
                rcases List.mem_append.mp hb with hb | hb
                · exact hok b hb
                · rw [List.mem_singleton.mp hb]
                  exact mem_allArr (by omega) (by omega) (by omega) (by omega) (by omega)
              · rw [List.length_append, List.length_singleton]
                omega
          · rintro H2 ⟨_, s2, R2⟩
            exact ⟨xs, l, _, rfl, sx.trans s2, R2, s2 _ _ ea hlr, ta.kt (s2.kt R'), hok, by omega⟩
        · rintro σ'' H'' ⟨xs, l, h7, rfl, sx, R', ea, ta, hok, hl⟩
          exact ⟨xs, l, _, h7, rfl, sx, R', ea, ta, hok, by omega⟩
      · rintro σ' H' ⟨xs, l, h6, h7, rfl, sx, R', ea, ta, hok, hl⟩
        exact hN _ _ ⟨xs, l, h6, h7, rfl, sx, R', ea, ta, hok, by omega⟩
    · rintro σ' H' ⟨xs, l, h6, h7, rfl, sx, R', ea, ta, hok, hl⟩
      refine seq_by (fun σ' H' => ∃ (lf : Addr) (xs : List V) (l : List Arr) (h6 h7 : Option V), σ' = [some (.ref r), some (.int 3), some (.int (n : Int)), some (.int way), some (.int z), some (.ref lf), h6, h7] ∧ SameX r H H' ∧ RowAt K H' r a ns ∧ H' lf = some (.lst xs) ∧ TIs H' xs (l.map arV) ∧ ArrOk n l ∧ l.length ≤ 9)
        (fun N hN => ?_) ?_
      · refine ⟨_, rfl, _, _, rfl, rfl, _, rfl, ite2 (fun hw => ?_) (fun hw => ?_)⟩
        · -- arrows = [..] + ..
          refine ⟨_, rfl, _, _, rfl, rfl, (n : Int) - 1, rfl, by omega, by omega, fun D hD => ?_⟩
          refine lc_range (lo := 0) (n := ((n : Int) - 1).toNat) (fun i H'' => Same H' H'' ∧ ∃ acc, H'' D = some (.lst acc) ∧ TIs H'' acc (((List.range i).map fun (k : Nat) => (((k : Int), (k : Int) + 1) : Arr)).map arV))
            ⟨same_upd hD, [], upd_same, .nil⟩ ?_ ?_
          · rintro i H'' hi ⟨s5, acc, eD, tD⟩
            rw [show (0 : Int) + (i : Int) = (i : Int) from Int.zero_add _]
            refine ⟨rfl, _, rfl, _, rfl, _, _, rfl, rfl, by show 2 ≤ sizeLine; decide, fun p hp => ?_⟩
            have eD2 : upd H'' p (.tup [.int (i : Int), .int ((i : Int) + 1)]) D = some (.lst acc) := same_upd hp _ _ eD
            refine ⟨acc, eD2, ?_, ?_, acc ++ [.ref p], upd_same, ?_⟩
            · rw [tD.length, List.length_map, List.length_map, List.length_range]
              exact sz_lt (by omega)
            · exact same_wr (s5.trans (same_upd hp)) hD
            · rw [List.range_succ, List.map_append, List.map_append]
              exact TIs.append (tD.kt ((kt_new hp).trans (kt_lst eD2))) (.cons ⟨p, rfl, kt_lst eD2 _ _ upd_same⟩ .nil)
          · rintro H5 ⟨s5, acc, eD, tD⟩
            have R5 := R'.same s5
            have sx5 : SameX r H H5 := sx.trans (same_x s5)
            have hDr : D ≠ r := ne_row R' hD
            have okD : ArrOk n ((List.range ((n : Int) - 1).toNat).map fun (k : Nat) => (((k : Int), (k : Int) + 1) : Arr)) := fun b hb => by
              obtain ⟨k, hk, rfl⟩ := List.mem_map.mp hb
              have := List.mem_range.mp hk
              exact mem_allArr (by omega) (by omega) (by omega) (by omega) (by omega)
            have hacc : acc.length ≤ 3 := by
              rw [tD.length, List.length_map, List.length_map, List.length_range]
              omega
            -- the two ways of the last item
            have two : ∀ (H6 : Hp) (e : Addr) (zs : List V) (m : List Arr), Same H5 H6 → H6 e = some (.lst zs) → TIs H6 zs (m.map arV) → ArrOk n m → m.length ≤ 1 → ∀ p, H6 p = none →
                N [some (.ref r), some (.int 3), some (.int (n : Int)), some (.int way), some (.int z), some (.ref p), h6, h7] (upd H6 p (.lst (acc ++ zs))) := by
              intro H6 e zs m s6 ee tz okm lm p hp
              refine hN _ _ ⟨p, acc ++ zs, ((List.range ((n : Int) - 1).toNat).map fun (k : Nat) => (((k : Int), (k : Int) + 1) : Arr)) ++ m, h6, h7, rfl, sx5.trans (same_x (s6.trans (same_upd hp))), R5.same (s6.trans (same_upd hp)), upd_same, ?_, ?_, ?_⟩
              · rw [List.map_append]
                exact TIs.append (tD.kt ((kt_same s6).trans (kt_new hp))) (tz.kt (kt_new hp))
              · intro b hb
                rcases List.mem_append.mp hb with hb | hb
                · exact okD b hb
                · exact okm b hb
              · rw [List.length_append, List.length_map, List.length_range]
                omega
            refine ⟨_, rfl, rfl, _, rfl, ite2 (fun h5 => ?_) (fun h5 => ?_)⟩
            · refine ⟨_, rfl, _, _, rfl, rfl, _, rfl, ite2 (fun hm => ?_) (fun hm => ?_)⟩
              · have hm : 1 < (n : Int) := of_decide_eq_true hm
                refine ⟨_, rfl, _, _, rfl, rfl, by show 2 ≤ sizeLine; decide, fun p hp => ?_⟩
                refine ⟨by show 1 ≤ sizeLine; decide, fun e he => ?_⟩
                have s6 : Same H5 (upd (upd H5 p (.tup [.int ((n : Int) - 1), .int 0])) e (.lst [.ref p])) := (same_upd hp).trans (same_upd he)
                have hpe : p ≠ e := fun z => by
                  rw [← z, upd_same] at he
                  cases he
                refine ⟨D, e, acc, _, rfl, rfl, s6 _ _ eD, upd_same, ?_, two _ e _ [((n : Int) - 1, 0)] s6 upd_same ?_ ?_ (by simp)⟩
                · show acc.length + 1 ≤ sizeLine
                  exact sz_le (by omega)
                · refine .cons ⟨p, rfl, ?_⟩ .nil
                  rw [upd_ne hpe, upd_same]
                  rfl
                · intro b hb
                  rw [List.mem_singleton.mp hb]
                  exact mem_allArr (by omega) (by omega) (by omega) (by omega) (by omega)
              · refine ⟨by show 0 ≤ sizeLine; decide, fun e he => ?_⟩
                exact ⟨D, e, acc, _, rfl, rfl, same_upd he _ _ eD, upd_same, by show acc.length + 0 ≤ sizeLine; exact sz_le (by omega), two _ e _ [] (same_upd he) upd_same .nil (fun _ z => nomatch z) (by simp)⟩
            · refine iteF ⟨by show 0 ≤ sizeLine; decide, fun e he => ?_⟩
              exact ⟨D, e, acc, _, rfl, rfl, same_upd he _ _ eD, upd_same, by show acc.length + 0 ≤ sizeLine; exact sz_le (by omega), two _ e _ [] (same_upd he) upd_same .nil (fun _ z => nomatch z) (by simp)⟩
        · exact hN _ _ ⟨la, xs, l, h6, h7, rfl, sx, R', ea, ta, hok, hl⟩
      · rintro σ' H' ⟨lf, xs, l, h6, h7, rfl, sx, R', ea, ta, hok, hl⟩
        obtain ⟨ks, ex, ed, hk⟩ := ks_of ta
        have hkl : ks.length ≤ 9 := by
          have := congrArg List.length ed
          rw [List.length_map, List.length_map] at this
          omega
        have hka : ∀ p ∈ ks, ∃ b ∈ allArr n, p.2 = arV b := fun p hp => by
          have : p.2 ∈ l.map arV := by rw [ed]; exact List.mem_map.mpr ⟨p, hp, rfl⟩
          obtain ⟨b, hb, e⟩ := List.mem_map.mp this
          exact ⟨b, hok b hb, e.symm⟩
        refine ⟨_, rfl, _, rfl, lf, ks, rfl, by rw [← ex]; exact sqL_of ea, fun p hp => sqT_of (hk p hp), by omega, fun sa L nsa hL1 hL2 => ?_⟩
        have s1 : Same H' (upd H' sa (SetTO P w sa L)) := same_upd nsa
        have hLa : ∀ p ∈ L, ∃ b ∈ allArr n, p.2 = arV b := fun p hp => hka p (hL1 p hp)
        refine ⟨sa, L, 2, 64, rfl, upd_same, fun p hp => sqT_of (s1 _ _ (hk p (hL1 p hp))), by decide, fun p hp => ?_, fun L' sp pm nd lt pw nsp => ?_⟩
        · obtain ⟨b, hb, e⟩ := hLa p hp
          obtain ⟨b1, b2, b3, b4, _⟩ := allArr_mem hb
          rw [e]
          refine ⟨rfl, fun m hm => ?_⟩
          simp only [arV, List.mem_cons, List.not_mem_nil, or_false] at hm
          rcases hm with e | e <;> omega
        have hLa' : ∀ p ∈ L', ∃ b ∈ allArr n, p.2 = arV b := fun p hp => hLa p (pm.mem_iff.mp hp)
        obtain ⟨ar, hW, ear, _⟩ := web_fin n1 n3 hLa' nd pw
        have s2 : Same H' (upd (upd H' sa (SetTO P w sa L)) sp (.lst (L'.map fun q => V.ref q.1))) := s1.trans (same_upd nsp)
        refine ⟨sp, _, rfl, .inl ⟨sqL_of upd_same, fun tp ntp => ⟨by show 2 ≤ sizeLine; decide, fun x nx => ?_⟩⟩⟩
        have s3 := s2.trans (same_upd (o := .tup (L'.map fun q => V.ref q.1)) ntp)
        have s4 := s3.trans (same_upd (o := .tup [.int (n : Int), .ref tp]) nx)
        refine q _ x n ar (sx.trans (same_x s4)) (R'.same s4) ⟨tp, L'.map fun q => V.ref q.1, upd_same, ?_, ?_⟩ hW
        · exact same_upd nx _ _ upd_same
        · rw [← ear]
          exact tis_of fun p hp => s4 _ _ (hk p (hL1 p (pm.mem_iff.mp hp)))
end
end K42
set_option Elab.async false
set_option linter.all false
set_option maxRecDepth 100000
set_option maxHeartbeats 4000000
namespace K42
open PySem PySem.Spec PyProof.Rows L2
theorem paired_set {α : Type} {R : V → α → Prop} {y : V} {c : α} (h : R y c) : ∀ {xs : List V} {bs : List α} (k : Nat), Paired R xs bs → Paired R (xs.set k y) (bs.set k c)
  | _, _, _, .nil => .nil
  | _, _, 0, .cons _ t => .cons h t
  | _, _, k + 1, .cons r t => .cons r (paired_set h k t)
theorem lawIn_no {a : Arr} {F : List (List Int)} {k : Nat} {c : List Int} (hc : F[k]? = some c) (h : ¬ (a.1 ∈ c ∧ a.2 ∉ c)) : lawIn a F k = F := by
  unfold lawIn
  rw [getD_of hc, if_neg h]
theorem lawIn_yes {a : Arr} {F : List (List Int)} {k : Nat} {c : List Int} (hc : F[k]? = some c) (h1 : a.1 ∈ c) (h2 : a.2 ∉ c) : lawIn a F k = F.set k (isort (c ++ [a.2])) := by
  unfold lawIn
  rw [getD_of hc, if_pos ⟨h1, h2⟩]
theorem range_fold_succ {α : Type} (g : α → Nat → α) (b : α) (i : Nat) : (List.range (i + 1)).foldl g b = g ((List.range i).foldl g b) i := by
  rw [List.range_succ, List.foldl_append]
  rfl
section
variable {P : Program} {w : World} {K : PySem.W.Frag} {mg : Str → Option Value} {base : Heap}
def spLeads : Sp := fun vs H Q _ => ∃ (x : Addr) (n : Nat) (ar : List Arr), vs = [.ref x] ∧ WebAt H x n ar ∧ 1 ≤ n ∧ n ≤ 3 ∧ ar.length ≤ 6 ∧
  ∀ H' D refs, Same H H' → H D = none → H' D = some (.lst refs) → Paired (LIx D H') refs (lawLeads n ar) → Q (.ref D) H'
theorem ok_leads {f : Addr} {fd : FuncData} {k : Nat} (F : Fun K "_law_leads" "_law_leads" sLeads f fd) (B : Bt mg) : FnOk P w K mg base CX0 (k + 1) f fd ["_law_web_here"] spLeads := by
  refine F.ok scLeads (fun vs H Q E h => ?_) (fun cdv A outer s H vs Q E hr h => ?_)
  · obtain ⟨x, n, ar, rfl, _⟩ := h
    rfl
  · obtain ⟨x, n, ar, rfl, W, n1, n3, h6, q⟩ := h
    refine ⟨_, pss_cons (ps_setLc (i := 2) (own := [("_law_k", 1)]) (g := gName 1) (by rfl) scLeads.nd rfl rfl (sw_true rfl rfl rfl (by decide +kernel)) (pi_range1 rfl B.range (pa_cons (pe_ix ix_tup (pv 0) pe_int (fun _ _ => rfl)) pa_nil))
          (blkOk_by (N := ["_law_web_here", "_law_k", "_law_found", "_law_turn", "_law_one", "_law_other"]) (sc := defScope sLeads) (by decide +kernel)) (fun _ _ _ _ _ => pg_name (i := 1) scLeads.nd rfl (Or.inl rfl))
          (fun _ _ _ _ _ => pts_nil) (fun _ _ _ _ _ => pe_lst (pa_cons (pv 1) pa_nil)))
      (pss_cons (ps_for PassesOwn.never rfl (pi_range1 rfl B.range (pa_cons (pe_ix ix_tup (pv 0) pe_int (fun _ _ => rfl)) pa_nil)) (pg_name (i := 3) scLeads.nd rfl (.inl rfl))
        (pss_one (ps_for PassesOwn.never rfl (pi_tup (pe_ix ix_tup (pv 0) pe_int (fun _ _ => rfl))) (pg_tup rfl (pgs_cons (pg_name (i := 4) scLeads.nd rfl (.inl rfl)) (pgs_cons (pg_name (i := 5) scLeads.nd rfl (.inl rfl)) pgs_nil)))
          (pss_one (ps_for PassesOwn.never rfl (pi_range1 rfl B.range (pa_cons (pe_ix ix_tup (pv 0) pe_int (fun _ _ => rfl)) pa_nil)) (pg_name (i := 1) scLeads.nd rfl (.inl rfl))
            (pss_one (ps_if (PW.pt (pw_and (pt_cmpR op_in_seq (pv 4) (pe_ix ix_list (pv 2) (pv 1) (fun _ _ => rfl)) (by rfl)) (pw_and1 (pt_cmpR op_notIn_seq (pv 5) (pe_ix ix_list (pv 2) (pv 1) (fun _ _ => rfl)) (by rfl)))))
              (pss_one (ps_asg (pe_callB cr_sorted (by rfl) B.sorted (by decide +kernel) (pa_cons (pe_op op_cat (pe_ix ix_list (pv 2) (pv 1) (fun _ _ => rfl)) (pe_lst (pa_cons (pv 5) pa_nil))) pa_nil)) (pg_sub (pv 2) (pv 1) set_list))) pss_nil)))))))
      (pss_one (ps_ret (pv 2)))), ?_⟩
    obtain ⟨t, xs, w1, w2, w3⟩ := W
    have hlx : xs.length = ar.length := by rw [w3.length, List.length_map]
    -- found = [[k] for k in range(..)]
    refine ⟨_, rfl, x, _, _, _, rfl, rfl, sqT_of w1, atI_nat (j := 0) rfl, (n : Int), rfl, by omega, by omega, fun D hD => ?_⟩
    refine lc_range (lo := 0) (n := n) (fun i H' => Same H H' ∧ ∃ acc, H' D = some (.lst acc) ∧ Paired (LIx D H') acc ((List.range i).map fun (k : Nat) => [(k : Int)]))
      ⟨same_upd hD, [], upd_same, .nil⟩ ?_ ?_
    · rintro i H' hi ⟨s1, acc, eD, pa⟩
      rw [show (0 : Int) + (i : Int) = (i : Int) from Int.zero_add _]
      refine ⟨rfl, _, rfl, by show 1 ≤ sizeLine; decide, fun l nl => ?_⟩
      have nlD : l ≠ D := fun z => by rw [z, eD] at nl; cases nl
      have s2 : Same H' (upd H' l (.lst [.int (i : Int)])) := same_upd nl
      refine ⟨acc, s2 _ _ eD, ?_, same_wr (s1.trans s2) hD, acc ++ [.ref l], upd_same, ?_⟩
      · rw [pa.length, List.length_map, List.length_range]
        exact sz_lt (by omega)
      · rw [List.range_succ, List.map_append]
        exact paired_app (Paired.mapP pa fun _ _ r => (r.same s2).upd) (.cons (LIx.upd ⟨l, rfl, nlD, upd_same⟩) .nil)
    · rintro H1 ⟨s1, acc, eD, pa⟩
      refine ⟨_, rfl, x, _, _, _, rfl, rfl, sqT_of (s1 _ _ w1), atI_nat (j := 0) rfl, (n : Int), rfl, by omega, by omega, ?_⟩
      have st : ∀ {H' : Hp} {o : HO}, Same H H' → Same H (upd H' D o) := fun s => same_wr s hD
      refine for_range (lo := 0) (n := n) (fun i σ H' => ∃ (refs : List V) (F : List (List Int)) (a1 a3 a4 a5 : Option V), σ = [some (.ref x), a1, some (.ref D), a3, a4, a5] ∧ Same H H' ∧ H' D = some (.lst refs) ∧ Paired (LIx D H') refs F ∧
        F = (List.range i).foldl (lawTurn n ar) ((List.range n).map fun (k : Nat) => [(k : Int)]) ∧ F.length = n ∧ ∀ c ∈ F, c.length ≤ 1 + 18 * i)
        ⟨acc, _, none, none, none, none, rfl, s1, eD, pa, rfl, by simp, fun c hc => ?_⟩ ?_ ?_
      · obtain ⟨z, _, rfl⟩ := List.mem_map.mp hc
        simp
      · rintro i σ H' hi ⟨refs, F0, a1, a3, a4, a5, rfl, s2, eD, pa, eF, lF, bF⟩
        rw [show (0 : Int) + (i : Int) = (i : Int) from Int.zero_add _]
        -- for one, other in web[1]
        refine ⟨_, rfl, x, _, _, _, rfl, rfl, sqT_of (s2 _ _ w1), atI_nat (j := 1) rfl, t, rfl, ⟨_, sqT_of (s2 _ _ w2)⟩, ?_⟩
        refine for_tup (K := K) (a := t) (xs := xs) (fun j σ' H'' => ∃ (refs : List V) (F : List (List Int)) (a1 a4 a5 : Option V), σ' = [some (.ref x), a1, some (.ref D), some (.int (i : Int)), a4, a5] ∧ Same H H'' ∧ H'' D = some (.lst refs) ∧ Paired (LIx D H'') refs F ∧
          F = (ar.take j).foldl (lawArr n) F0 ∧ F.length = n ∧ ∀ c ∈ F, c.length ≤ 1 + 18 * i + 3 * j)
          ⟨refs, F0, a1, a4, a5, rfl, s2, eD, pa, rfl, lF, fun c hc => by have := bF c hc; omega⟩ (fun j σ' H'' _ ⟨_, _, _, _, _, _, s3, _⟩ => sqT_of (s3 _ _ w2)) ?_ ?_
        · rintro j y σ' H'' hy ⟨refs, F1, a1, a4, a5, rfl, s3, eD, pa, eF1, lF1, bF1⟩
          obtain ⟨na, hna, T0⟩ := w3.get hy
          rw [List.getElem?_map] at hna
          obtain ⟨a, ha, ea⟩ : ∃ a, ar[j]? = some a ∧ arV a = na := by
            cases e4 : ar[j]? with
            | none => rw [e4] at hna; cases hna
            | some a => rw [e4] at hna; exact ⟨a, rfl, Option.some.inj hna⟩
          subst ea
          have hjl : j < ar.length := (List.getElem?_eq_some_iff.mp ha).1
          obtain ⟨ta, rfl, ht⟩ := T0.kt (kt_same s3)
          refine ⟨ta, _, rfl, sqT_of ht, rfl, _, _, rfl, _, _, rfl, rfl, ?_⟩
          refine ⟨_, rfl, x, _, _, _, rfl, rfl, sqT_of (s3 _ _ w1), atI_nat (j := 0) rfl, (n : Int), rfl, by omega, by omega, ?_⟩
          refine for_range (lo := 0) (n := n) (fun m σ3 H3 => ∃ (refs : List V) (F : List (List Int)) (a1 : Option V), σ3 = [some (.ref x), a1, some (.ref D), some (.int (i : Int)), some (.int a.1), some (.int a.2)] ∧ Same H H3 ∧ H3 D = some (.lst refs) ∧ Paired (LIx D H3) refs F ∧
            F = (List.range m).foldl (lawIn a) F1 ∧ F.length = n ∧ ∀ c ∈ F, c.length ≤ 1 + 18 * i + 3 * j + m)
            ⟨refs, F1, a1, rfl, s3, eD, pa, rfl, lF1, fun c hc => by have := bF1 c hc; omega⟩ ?_ ?_
          · rintro m σ3 H3 hm ⟨refs, F2, a1, rfl, s4, eD, pa, eF2, lF2, bF2⟩
            rw [show (0 : Int) + (m : Int) = (m : Int) from Int.zero_add _]
            have hF2 : F2[m]? = some F2[m] := List.getElem?_eq_getElem (by omega)
            have bm := bF2 _ (List.getElem_mem (show m < F2.length by omega))
            generalize F2[m] = c at hF2 bm
            obtain ⟨xm, hxm, lm, rfl, nlm, elm⟩ := paired_get pa hF2
            have hsucc : (List.range (m + 1)).foldl (lawIn a) F1 = lawIn a F2 m := by rw [range_fold_succ, ← eF2]
            refine ⟨_, rfl, _, rfl, _, rfl, D, _, _, _, rfl, rfl, sqL_of eD, atI_nat hxm, lm, _, rfl, .inl (sqL_of elm), rfl, flat_ints _, _, rfl, ?_⟩
            show if inV (V.int a.1) (c.map V.int) = true then _ else _
            rw [inV_ints]
            by_cases h1 : a.1 ∈ c
            · rw [decide_eq_true h1]
              refine iteT ⟨_, rfl, _, rfl, _, rfl, D, _, _, _, rfl, rfl, sqL_of eD, atI_nat hxm, lm, _, rfl, .inl (sqL_of elm), rfl, flat_ints _, _, rfl, ?_⟩
              show if (!inV (V.int a.2) (c.map V.int)) = true then _ else _
              rw [inV_ints]
              by_cases h2 : a.2 ∈ c
              · rw [decide_eq_true h2]
                refine iteF ⟨refs, F2, _, rfl, s4, eD, pa, ?_, lF2, fun c' hc' => by have := bF2 c' hc'; omega⟩
                rw [hsucc, lawIn_no hF2 (fun z => z.2 h2)]
              · rw [decide_eq_false h2]
                refine iteT ⟨_, rfl, _, rfl, D, _, _, _, rfl, rfl, sqL_of eD, atI_nat hxm, _, rfl, by show 1 ≤ sizeLine; decide, fun e1 n1' => ?_⟩
                have s5 : Same H3 (upd H3 e1 (.lst [.int a.2])) := same_upd n1'
                refine ⟨lm, e1, _, _, rfl, rfl, s5 _ _ elm, upd_same, ?_, fun e2 n2' => ?_⟩
                · rw [List.length_map]
                  show c.length + 1 ≤ sizeLine
                  exact sz_le (by omega)
                have s6 := s5.trans (same_upd (o := .lst (c.map V.int ++ [.int a.2])) n2')
                refine ⟨e2, c ++ [a.2], rfl, ?_, ?_, fun ns' e3 hp hs n3' => ?_⟩
                · rw [List.map_append]
                  exact sqL_of upd_same
                · rw [List.length_append, List.length_singleton]
                  omega
                have s7 := s6.trans (same_upd (o := .lst (ns'.map V.int)) n3')
                have n3D : e3 ≠ D := fun z => by
                  have := s6 _ _ eD
                  rw [← z, n3'] at this
                  cases this
                have hset : ixN refs.length (m : Int) = some m := by
                  unfold ixN
                  have : m < refs.length := by
                    have := pa.length
                    omega
                  rw [if_pos (by omega), if_pos (by omega)]
                  rfl
                refine ⟨_, rfl, _, rfl, D, _, _, m, rfl, rfl, s7 _ _ eD, hset, ?_⟩
                refine ⟨refs.set m (.ref e3), lawIn a F2 m, _, rfl, st (s4.trans s7), upd_same, ?_, hsucc.symm, ?_, ?_⟩
                · rw [lawIn_yes hF2 h1 h2, ← isort_one hp hs]
                  exact paired_set (LIx.upd ⟨e3, rfl, n3D, upd_same⟩) m (Paired.mapP pa fun _ _ r => (r.same s7).upd)
                · rw [lawIn_yes hF2 h1 h2, List.length_set, lF2]
                · rw [lawIn_yes hF2 h1 h2]
                  intro c' hc'
                  rcases List.mem_or_eq_of_mem_set hc' with hc' | hc'
                  · have := bF2 c' hc'
                    omega
                  · rw [hc', (isort_perm _).length_eq, List.length_append, List.length_singleton]
                    omega
            · rw [decide_eq_false h1]
              refine iteF (iteF ⟨refs, F2, _, rfl, s4, eD, pa, ?_, lF2, fun c' hc' => by have := bF2 c' hc'; omega⟩)
              rw [hsucc, lawIn_no hF2 (fun z => h1 z.1)]
          · rintro σ3 H3 ⟨refs, F2, a1, rfl, s4, eD, pa, eF2, lF2, bF2⟩
            refine ⟨refs, F2, a1, _, _, rfl, s4, eD, pa, ?_, lF2, fun c hc => by have := bF2 c hc; omega⟩
            rw [foldl_take_succ _ _ ha, ← eF1, eF2]
            rfl
        · rintro σ' H'' ⟨refs, F1, a1, a4, a5, rfl, s3, eD, pa, eF1, lF1, bF1⟩
          rw [hlx, List.take_length] at eF1
          rw [hlx] at bF1
          refine ⟨refs, F1, a1, _, a4, a5, rfl, s3, eD, pa, ?_, lF1, fun c hc => by have := bF1 c hc; omega⟩
          rw [range_fold_succ, ← eF, eF1]
          rfl
      · rintro σ H' ⟨refs, F0, a1, a3, a4, a5, rfl, s2, eD, pa, eF, lF, bF⟩
        rw [eF] at pa
        exact ⟨_, rfl, q H' D refs s2 hD eD pa⟩
end
end K42
set_option Elab.async false
set_option linter.all false
set_option maxRecDepth 100000
set_option maxHeartbeats 4000000
namespace K42
open PySem PySem.Spec PyProof.Rows L2
/-! ### tuples joined and cut -/
theorem cat_any {K : PySem.W.Frag} {x y : V} {H : Hp} {Q : VK} {ns ms : List Int} (hx : TI H x ns) (hy : TI H y ms) (hl : ns.length + ms.length ≤ 1000) (h : ∀ H' v, Same H H' → TI H' v (ns ++ ms) → Q v H') : rCatA K x y H Q := by
  obtain ⟨a, rfl, ha⟩ := hx
  obtain ⟨b, rfl, hb⟩ := hy
  refine ⟨a, b, _, _, rfl, rfl, sqT_of ha, sqT_of hb, ?_, fun e => ?_, fun e1 e2 => ?_, fun _ _ p hp => ?_⟩
  · rw [List.length_map, List.length_map]
    exact sz_le (by omega)
  · have e' : ns = [] := List.map_eq_nil_iff.mp e
    refine h _ _ (Same.refl _) ⟨b, rfl, ?_⟩
    rw [e', List.nil_append]
    exact hb
  · have e' : ms = [] := List.map_eq_nil_iff.mp e2
    refine h _ _ (Same.refl _) ⟨a, rfl, ?_⟩
    rw [e', List.append_nil]
    exact ha
  · refine h _ _ (same_upd hp) ⟨p, rfl, ?_⟩
    rw [upd_same, List.map_append]
theorem cut_any {K : PySem.W.Frag} {x : V} {H : Hp} {Q : VK} {ns ms : List Int} {lo hi : Option Int} (hx : TI H x ns) (hc : cutV (ns.map V.int) lo hi = ms.map V.int) (h : ∀ H' v, Same H H' → TI H' v ms → Q v H') : rSlA K x lo hi H Q := by
  obtain ⟨a, rfl, ha⟩ := hx
  refine ⟨a, _, rfl, sqT_of ha, fun e => ?_, fun _ p hp => ?_⟩
  · refine h _ _ (Same.refl _) ⟨a, rfl, ?_⟩
    rw [← hc]
    unfold cutV
    rw [e.1, e.2, List.drop_zero, Nat.sub_zero, List.take_length]
    exact ha
  · refine h _ _ (same_upd hp) ⟨p, rfl, ?_⟩
    rw [upd_same, hc]
theorem cut_hi {ns : List Int} {k : Int} (h0 : 0 ≤ k) : cutV (ns.map V.int) none (some k) = (ns.take k.toNat).map V.int := by
  unfold cutV
  rw [HT.sIx_none, show k = ((k.toNat : Nat) : Int) by omega, HT.sIx_nat, List.drop_zero, Nat.sub_zero, Int.toNat_natCast, ← List.map_take, List.length_map]
  congr 1
  rw [Nat.min_def]
  split
  · rfl
  · rw [List.take_of_length_le (Nat.le_refl _), List.take_of_length_le (by omega)]
theorem cut_lo {ns : List Int} {k : Int} (h0 : 0 ≤ k) : cutV (ns.map V.int) (some k) none = (ns.drop k.toNat).map V.int := by
  unfold cutV
  rw [HT.sIx_none, show k = ((k.toNat : Nat) : Int) by omega, HT.sIx_nat, Int.toNat_natCast, ← List.map_drop, ← List.map_take, List.length_map]
  congr 1
  rw [Nat.min_def]
  split
  · rw [List.take_of_length_le (by rw [List.length_drop]; exact Nat.le_refl _)]
  · rw [List.drop_of_length_le (Nat.le_refl _), List.drop_of_length_le (by omega)]
    simp
theorem set_eq {d : List Int} {v : Nat} {x : Int} (h : v < d.length) : d.take v ++ [x] ++ d.drop (v + 1) = d.set v x := by
  rw [List.set_eq_take_append_cons_drop, if_pos h, List.append_assoc]
  rfl
section
variable {P : Program} {w : World} {K : PySem.W.Frag} {mg : Str → Option Value} {base : Heap}
/-! ### _law_step -/
def spStep : Sp := fun vs H Q _ => ∃ (h u v : Int) (xd xa : V) (d : List Int), vs = [.int h, xd, xa] ∧ TI H xd d ∧ TI H xa [u, v] ∧ 0 < h ∧ 0 ≤ u ∧ u.toNat < d.length ∧ 0 ≤ v ∧ v.toNat < d.length ∧ d.length ≤ 100 ∧
  ∀ H' y, Same H H' → TI H' y (stepD h d (u, v)) → Q y H'
theorem TI.same {H H' : Hp} {x : V} {ns : List Int} (h : TI H x ns) (s : Same H H') : TI H' x ns := h.kt (kt_same s)
theorem ok_step {f : Addr} {fd : FuncData} {k : Nat} (F : Fun K "_law_step" "_law_step" sStep f fd) (B : Bt mg) : FnOk P w K mg base CX0 (k + 1) f fd ["_law_hours", "_law_dial_here", "_law_arrow"] spStep := by
  refine F.ok scStep (fun vs H Q E h => ?_) (fun cdv A outer s H vs Q E hr h => ?_)
  · obtain ⟨h, u, v, xd, xa, d, rfl, _⟩ := h
    rfl
  · obtain ⟨h, u, v, xd, xa, d, rfl, hd, ha, h0, u0, ul, v0, vl, hl, q⟩ := h
    refine ⟨_, pss_one (ps_ret (pe_op op_catA (pe_op op_catA (pe_slice sl_tupA (pv 1) po_none (po_some (pe_ix ix_tup (pv 2) pe_int (fun _ _ => rfl))))
        (pe_tup (pa_cons (pe_op op_mod (pe_callTy call_int1 (by rfl) B.int (by decide +kernel) (pa_cons (pe_op op_add (pe_ix ix_tup (pv 1) (pe_ix ix_tup (pv 2) pe_int (fun _ _ => rfl)) (fun _ _ => rfl)) (pe_ix ix_tup (pv 1) (pe_ix ix_tup (pv 2) pe_int (fun _ _ => rfl)) (fun _ _ => rfl))) pa_nil)) (pv 0)) pa_nil)))
        (pe_slice sl_tupA (pv 1) (po_some (pe_op op_add (pe_ix ix_tup (pv 2) pe_int (fun _ _ => rfl)) pe_int)) po_none))), ?_⟩
    obtain ⟨pa, rfl, ea⟩ := id ha
    obtain ⟨pd, rfl, ed⟩ := id hd
    -- dial[:arrow[1]]
    refine ⟨_, rfl, _, rfl, pa, _, _, _, rfl, rfl, sqT_of ea, atI_nat (j := 1) rfl, v, rfl, cut_any hd (cut_hi v0) fun H1 y1 s1 t1 => ?_⟩
    have ea1 := s1 _ _ ea
    have ed1 := s1 _ _ ed
    -- (int(..) % hours,)
    refine ⟨_, rfl, _, rfl, pa, _, _, _, rfl, rfl, sqT_of ea1, atI_nat (j := 1) rfl, pd, _, _, _, rfl, rfl, sqT_of ed1, at_int v0 vl, _, rfl, _, rfl, pa, _, _, _, rfl, rfl, sqT_of ea1, atI_nat (j := 0) rfl, pd, _, _, _, rfl, rfl, sqT_of ed1, at_int u0 ul, _, _, rfl, rfl, .inl ⟨_, rfl, _, rfl, _, _, rfl, rfl, h0, by show 1 ≤ sizeLine; decide, fun p hp => ?_⟩⟩
    have s2 : Same H1 (upd H1 p (.tup [.int ((d.getD v.toNat 0 + d.getD u.toNat 0) % h)])) := same_upd hp
    refine cat_any (t1.same s2) (ms := [(d.getD v.toNat 0 + d.getD u.toNat 0) % h]) ⟨p, rfl, upd_same⟩ ?_ fun H3 y3 s3 t3 => ?_
    · rw [List.length_take]
      simp only [List.length_singleton]
      omega
    have s03 := (s1.trans s2).trans s3
    refine ⟨_, rfl, _, rfl, pa, _, _, _, rfl, rfl, sqT_of (s03 _ _ ea), atI_nat (j := 1) rfl, _, _, rfl, rfl, v + 1, rfl, ?_⟩
    dsimp only [tNoPart]
    refine cut_any (hd.same s03) (cut_lo (show 0 ≤ v + 1 by omega)) fun H4 y4 s4 t4 => ?_
    refine cat_any (t3.same s4) t4 ?_ fun H5 y5 s5 t5 => ?_
    · rw [List.length_append, List.length_take, List.length_drop, List.length_singleton]
      omega
    refine q H5 y5 ((s03.trans s4).trans s5) ?_
    rw [show (v + 1).toNat = v.toNat + 1 by omega, set_eq vl] at t5
    exact t5
/-! ### _law_alike, of two truth values -/
def spAlike : Sp := fun vs H Q _ => ∃ (p q : Bool), vs = [.bl p, .bl q] ∧ ∀ H', Same H H' → Q (.bl (decide (p = q))) H'
theorem ok_alike {f : Addr} {fd : FuncData} {k : Nat} (F : Fun K "_law_alike" "_law_alike" sAlike f fd) (B : Bt mg) : FnOk P w K mg base CX0 (k + 1) f fd ["_law_found", "_law_due"] spAlike := by
  refine F.ok scAlike (fun vs H Q E h => ?_) (fun cdv A outer s H vs Q E hr h => ?_)
  · obtain ⟨p, q, rfl, _⟩ := h
    rfl
  · obtain ⟨p, q, rfl, hq⟩ := h
    refine ⟨_, pss_cons (ps_if (pt_val (pe_callB call_isiT (by rfl) B.isi (by decide +kernel) (pa_cons (pv 1) (pa_cons (pe_tup (pa_cons (pe_bltn (v := .ty "tuple") (by rfl) B.tuple (by decide +kernel) rfl) (pa_cons (pe_bltn (v := .ty "list") (by rfl) B.list (by decide +kernel) rfl) pa_nil))) pa_nil)))) pss_never pss_nil)
      (pss_cons (ps_if (PW.pt (pw_or (pt_cmpR op_isN (pv 1) pe_non (nomark _)) (pw_or1 (pt_val (pe_callB call_isi (by rfl) B.isi (by decide +kernel) (pa_cons (pv 1) (pa_cons (pe_bltn (v := .ty "str") (by rfl) B.str (by decide +kernel) rfl) pa_nil))))))) pss_never pss_nil)
      (pss_one (ps_ret (pe_and (pe_callB call_isi (by rfl) B.isi (by decide +kernel) (pa_cons (pv 0) (pa_cons (pe_bltn (v := .ty "int") (by rfl) B.int (by decide +kernel) rfl) pa_nil)))
        (pe_and (pe_cmpR op_eq (pe_callB call_isi (by rfl) B.isi (by decide +kernel) (pa_cons (pv 0) (pa_cons (pe_bltn (v := .ty "bool") (by rfl) B.bool (by decide +kernel) rfl) pa_nil))) (pe_callB call_isi (by rfl) B.isi (by decide +kernel) (pa_cons (pv 1) (pa_cons (pe_bltn (v := .ty "bool") (by rfl) B.bool (by decide +kernel) rfl) pa_nil))) (nomark _))
          (pe_one (pe_cmpR op_eq (pv 0) (pv 1) (nomark _)))))))), ?_⟩
    refine ⟨_, rfl, by show 2 ≤ sizeLine; decide, fun tp htp => ?_⟩
    have s1 : Same H (upd H tp (.tup [.ty "tuple", .ty "list"])) := same_upd htp
    refine ⟨_, tp, _, _, [.type "tuple", .type "list"], false, rfl, upd_same, .cons (.ty _) (.cons (.ty _) .nil), .base (.bl q), ?_, false, rfl, iteF ?_⟩
    · exact kitAny_cons (kit_ty (by decide +kernel : kitB "bool" "tuple" = some false)) (fun _ => kitAny_cons (kit_ty (by decide +kernel : kitB "bool" "list" = some false)) (fun _ => kitAny_nil) (fun h => nomatch h)) (fun h => nomatch h)
    refine ⟨_, rfl, rfl, _, rfl, ?_⟩
    rw [decide_eq_false (show ¬ V.bl q = V.non from fun z => nomatch z)]
    refine iteF ⟨_, rfl, _, _, _, _, false, rfl, .ty _, .base (.bl q), kit_ty (by decide +kernel), false, rfl, iteF ?_⟩
    refine ⟨_, rfl, _, _, _, _, true, rfl, .ty _, .base (.bl p), kit_ty (by decide +kernel), true, rfl, iteT ?_⟩
    refine ⟨_, rfl, _, _, _, _, true, rfl, .ty _, .base (.bl p), kit_ty (by decide +kernel), _, rfl, _, _, _, _, true, rfl, .ty _, .base (.bl q), kit_ty (by decide +kernel), rfl, _, rfl, ?_⟩
    rw [decide_eq_true (show V.bl true = V.bl true from rfl)]
    refine iteT ⟨_, rfl, _, rfl, rfl, ?_⟩
    have e : decide (V.bl p = V.bl q) = decide (p = q) := by
      cases p <;> cases q <;> rfl
    show Q (.bl (decide (V.bl p = V.bl q))) _
    rw [e]
    exact hq _ s1
/-! ### _law_every -/
def extD (h : Nat) (d : List Int) : List (List Int) := (List.range h).map fun (x : Nat) => d ++ [(x : Int)]
theorem every_succ (h n : Nat) : every h (n + 1) = (every h n).flatMap (extD h) := rfl
theorem every_item {h : Nat} : ∀ {n : Nat} {d : List Int}, d ∈ every h n → d.length = n ∧ ∀ i ∈ d, 0 ≤ i ∧ i < (h : Int)
  | 0, d, hd => by
    rw [show every h 0 = [[]] from rfl, List.mem_singleton] at hd
    subst hd
    exact ⟨rfl, fun i hi => nomatch hi⟩
  | n + 1, d, hd => by
    rw [every_succ, List.mem_flatMap] at hd
    obtain ⟨e, he, hd⟩ := hd
    obtain ⟨x, hx, rfl⟩ := List.mem_map.mp hd
    obtain ⟨h1, h2⟩ := every_item he
    have := List.mem_range.mp hx
    refine ⟨by rw [List.length_append, List.length_singleton, h1], fun i hi => ?_⟩
    rcases List.mem_append.mp hi with hi | hi
    · exact h2 i hi
    · rw [List.mem_singleton.mp hi]
      omega
theorem flat_len {h : Nat} : ∀ (l : List (List Int)), (l.flatMap (extD h)).length = l.length * h
  | [] => by simp
  | d :: l => by
    rw [List.flatMap_cons, List.length_append, flat_len l]
    unfold extD
    rw [List.length_map, List.length_range, List.length_cons, Nat.succ_mul, Nat.add_comm]
theorem every_len {h : Nat} : ∀ n, (every h n).length = h ^ n
  | 0 => rfl
  | n + 1 => by rw [every_succ, flat_len, every_len n, Nat.pow_succ]
theorem pow_le {h n : Nat} (hh : h ≤ 4) (hn : n ≤ 3) : h ^ n ≤ 64 :=
  Nat.le_trans (Nat.pow_le_pow_left hh n) (Nat.le_trans (Nat.pow_le_pow_right (by decide) hn) (by decide))
def spEvery : Sp := fun vs H Q _ => ∃ (n h : Nat), vs = [.int (n : Int), .int (h : Int)] ∧ n ≤ 3 ∧ h ≤ 4 ∧
  ∀ H' a xs, Same H H' → H a = none → H' a = some (.lst xs) → TIs H' xs (every h n) → Q (.ref a) H'
theorem ok_every {f : Addr} {fd : FuncData} {k : Nat} (F : Fun K "_law_every" "_law_every" sEvery f fd) (B : Bt mg) : FnOk P w K mg base CX0 (k + 1) f fd ["_law_many", "_law_hours"] spEvery := by
  refine F.ok scEvery (fun vs H Q E h => ?_) (fun cdv A outer s H vs Q E hr h => ?_)
  · obtain ⟨n, h, rfl, _⟩ := h
    rfl
  · obtain ⟨n, h, rfl, n3, h4, q⟩ := h
    refine ⟨_, pss_cons (ps_set (i := 2) scEvery.nd rfl (.inl rfl) (pe_lst (pa_cons (pe_tup pa_nil) pa_nil)))
      (pss_cons (ps_for PassesOwn.never rfl (pi_range1 rfl B.range (pa_cons (pv 0) pa_nil)) (pg_name (i := 3) scEvery.nd rfl (.inl rfl))
        (pss_cons (ps_set (i := 4) scEvery.nd rfl (.inl rfl) (pe_lst pa_nil))
        (pss_cons (ps_for PassesOwn.never rfl (pi_list (pv 2)) (pg_name (i := 5) scEvery.nd rfl (.inr rfl))
          (pss_one (ps_set (i := 4) scEvery.nd rfl (.inl rfl) (pe_op op_cat (pv 4)
            (pe_lc (own := [("_law_hour", 6)]) (g := gName 6) (by rfl) scEvery.nd (pi_range1 rfl B.range (pa_cons (pv 1) pa_nil))
              (blkOk_by (N := ["_law_many", "_law_hours", "_law_found", "_law_k", "_law_more", "_law_one", "_law_hour"]) (sc := defScope sEvery) (by decide +kernel)) (fun _ _ _ _ _ => pg_name (i := 6) scEvery.nd rfl (Or.inl rfl))
              (fun _ _ _ _ _ => pts_nil) (fun _ _ _ _ _ => pe_op (show OpR _ _ (rCatA K) from op_catA) (pv 5) (pe_tup (pa_cons (pv 6) pa_nil))))))))
        (pss_one (ps_set (i := 2) scEvery.nd rfl (.inl rfl) (pv 4))))))
      (pss_one (ps_ret (pv 2)))), ?_⟩
    refine ⟨by show 0 ≤ sizeLine; decide, fun t0 nt => ⟨by show 1 ≤ sizeLine; decide, fun l0 nl => ?_⟩⟩
    have s0 : Same H (upd (upd H t0 (.tup [])) l0 (.lst [.ref t0])) := (same_upd nt).trans (same_upd nl)
    refine ⟨_, rfl, (n : Int), rfl, by omega, by omega, ?_⟩
    refine for_range (lo := 0) (n := n) (fun i σ H' => ∃ (lf : Addr) (xs : List V) (a3 a4 a5 : Option V), σ = [some (.int (n : Int)), some (.int (h : Int)), some (.ref lf), a3, a4, a5, none] ∧ Same H H' ∧ H lf = none ∧ H' lf = some (.lst xs) ∧ TIs H' xs (every h i))
      ⟨l0, [.ref t0], none, none, none, rfl, s0, (same_upd nt).free nl, upd_same, .cons ⟨t0, rfl, same_upd nl _ _ upd_same⟩ .nil⟩ ?_ ?_
    · rintro i σ H' hi ⟨lf, xs, a3, a4, a5, rfl, s1, nf, ef, tx⟩
      rw [show (0 : Int) + (i : Int) = (i : Int) from Int.zero_add _]
      have hle : (every h i).length ≤ 64 := by rw [every_len]; exact pow_le h4 (by omega)
      refine ⟨by show 0 ≤ sizeLine; decide, fun m0 nm => ?_⟩
      have s2 : Same H' (upd H' m0 (.lst [])) := same_upd nm
      refine ⟨_, rfl, lf, rfl, ⟨_, sqL_of (s2 _ _ ef)⟩, ?_⟩
      refine for_list (K := K) (a := lf) (xs := xs) (fun j σ' H'' => ∃ (lm : Addr) (ys : List V) (a5 : Option V), σ' = [some (.int (n : Int)), some (.int (h : Int)), some (.ref lf), some (.int (i : Int)), some (.ref lm), a5, none] ∧ Same H' H'' ∧ H' lm = none ∧ H'' lm = some (.lst ys) ∧ TIs H'' ys (((every h i).take j).flatMap (extD h)))
        ⟨m0, [], a5, rfl, s2, nm, upd_same, .nil⟩ (fun j σ' H'' _ ⟨_, _, _, _, s3, _⟩ => sqL_of (s3 _ _ ef)) ?_ ?_
      · rintro j y σ' H'' hy ⟨lm, ys, a5, rfl, s3, nm', em, tm⟩
        obtain ⟨d, hd, Td⟩ := tx.get hy
        have hdl := (every_item (List.mem_of_getElem? hd)).1
        have hj : j < (every h i).length := (List.getElem?_eq_some_iff.mp hd).1
        refine ⟨_, rfl, _, rfl, (h : Int), rfl, by omega, by omega, fun D hD => ?_⟩
        refine lc_range (lo := 0) (n := h) (fun m G => Same H'' G ∧ ∃ acc, G D = some (.lst acc) ∧ TIs G acc ((List.range m).map fun (x : Nat) => d ++ [(x : Int)]))
          ⟨same_upd hD, [], upd_same, .nil⟩ ?_ ?_
        · rintro m G hm ⟨s4, acc, eD, tD⟩
          rw [show (0 : Int) + (m : Int) = (m : Int) from Int.zero_add _]
          refine ⟨rfl, _, rfl, _, rfl, by show 1 ≤ sizeLine; decide, fun p hp => ?_⟩
          have s5 : Same G (upd G p (.tup [.int (m : Int)])) := same_upd hp
          refine cat_any (Td.same ((s3.trans s4).trans s5)) (ms := [(m : Int)]) ⟨p, rfl, upd_same⟩ (by rw [List.length_singleton]; omega) fun G2 y2 s6 t6 => ?_
          have s7 := s5.trans s6
          have eD2 := s7 _ _ eD
          refine ⟨acc, eD2, ?_, same_wr (s4.trans s7) hD, acc ++ [y2], upd_same, ?_⟩
          · rw [tD.length, List.length_map, List.length_range]
            exact sz_lt (by omega)
          · rw [List.range_succ, List.map_append]
            exact TIs.append (tD.kt ((kt_same s7).trans (kt_lst eD2))) (.cons (t6.kt (kt_lst eD2)) .nil)
        · rintro G ⟨s4, acc, eD, tD⟩
          have hys : ys.length ≤ 256 := by
            rw [tm.length, flat_len, List.length_take]
            have : min j (every h i).length ≤ 64 := Nat.le_trans (Nat.min_le_right _ _) hle
            exact Nat.le_trans (Nat.mul_le_mul this h4) (by decide)
          have hac : acc.length ≤ 4 := by
            rw [tD.length, List.length_map, List.length_range]
            exact h4
          refine ⟨lm, D, ys, acc, rfl, rfl, s4 _ _ em, eD, sz_le (by omega), fun p hp => ?_⟩
          have s5 : Same H' (upd G p (.lst (ys ++ acc))) := (s3.trans s4).trans (same_upd hp)
          refine ⟨p, ys ++ acc, _, rfl, s5, (s3.trans s4).free hp, upd_same, ?_⟩
          rw [take_snoc hd, List.flatMap_append]
          refine TIs.append (tm.kt ((kt_same s4).trans (kt_new hp))) ?_
          rw [List.flatMap_cons, List.flatMap_nil, List.append_nil]
          exact tD.kt (kt_new hp)
      · rintro σ' H'' ⟨lm, ys, a5, rfl, s3, nm', em, tm⟩
        rw [tx.length, List.take_length] at tm
        refine ⟨_, rfl, lm, ys, _, _, _, rfl, s1.trans s3, s1.free nm', em, tm⟩
    · rintro σ H' ⟨lf, xs, a3, a4, a5, rfl, s1, nf, ef, tx⟩
      exact ⟨_, rfl, q H' lf xs s1 nf ef tx⟩
end
end K42
set_option Elab.async false
set_option linter.all false
set_option maxRecDepth 100000
set_option maxHeartbeats 4000000
namespace K42
open PySem PySem.Spec PyProof.Rows L2
/-! ### dicts keyed by dials -/
def keyD (d : List Int) : List Key := d.map Sum.inl
theorem keyD_V (d : List Int) : (keyD d).map kV = d.map V.int := by
  unfold keyD
  rw [List.map_map]
  rfl
theorem keyD_inj : ∀ {a b : List Int}, keyD a = keyD b → a = b
  | [], [], _ => rfl
  | [], _ :: _, h => nomatch h
  | _ :: _, [], h => nomatch h
  | x :: a, y :: b, h => by
    unfold keyD at h
    rw [List.map_cons, List.map_cons] at h
    injection h with h1 h2
    rw [Sum.inl.inj h1, keyD_inj (a := a) (b := b) h2]
theorem any_key {κ : Type} [DecidableEq κ] (k : κ) : ∀ kvs : List (κ × V), (kvs.any fun kv => decide (kv.1 = k)) = true ↔ k ∈ kvs.map (·.1)
  | [] => by simp
  | p :: r => by
    rw [List.any_cons, Bool.or_eq_true, any_key k r, List.map_cons, List.mem_cons, decide_eq_true_eq]
    exact ⟨fun h => h.elim (fun a => .inl a.symm) .inr, fun h => h.elim (fun a => .inl a.symm) .inr⟩
theorem mem_keyD {d : List Int} {ks : List (List Int)} : keyD d ∈ ks.map keyD ↔ d ∈ ks := by
  constructor
  · intro h
    obtain ⟨e, he, q⟩ := List.mem_map.mp h
    rw [← keyD_inj q]
    exact he
  · exact fun h => List.mem_map.mpr ⟨d, h, rfl⟩
theorem val_some {kvs : List (List Key × V)} {ks : List (List Int)} (h : kvs.map (·.1) = ks.map keyD) (d : List Int) : (valV kvs (keyD d)).isSome = decide (d ∈ ks) := by
  rw [← valV_any, Bool.eq_iff_iff, any_key, h, decide_eq_true_eq]
  exact mem_keyD
theorem put_keys {kvs : List (List Key × V)} {ks : List (List Int)} (h : kvs.map (·.1) = ks.map keyD) (d : List Int) (v : V) : (putK kvs (keyD d) v).map (·.1) = (seeD ks d).map keyD := by
  unfold putK seeD
  by_cases hd : d ∈ ks
  · rw [if_pos ((any_key (keyD d) kvs).mpr (by rw [h]; exact mem_keyD.mpr hd)), if_pos hd, List.map_map, ← h]
    refine List.map_congr_left fun p _ => ?_
    show (if p.1 = keyD d then (p.1, v) else p).1 = p.1
    split <;> rfl
  · rw [if_neg (fun z => hd (by have := (any_key (keyD d) kvs).mp z; rw [h] at this; exact mem_keyD.mp this)), if_neg hd, List.map_append, List.map_append, h]
    rfl
/-! ### the mirror's run -/
theorem stepF_len (h : Int) (here : List Int) (st : List Dial × List Dial) (a : Arr) : st.1.length ≤ (stepF h here st a).1.length := by
  unfold stepF
  split
  · exact Nat.le_refl _
  · simp
theorem rowF_len (h : Int) (here : List Int) : ∀ (ar : List Arr) (st : List Dial × List Dial), st.1.length ≤ (ar.foldl (stepF h here) st).1.length
  | [], st => Nat.le_refl _
  | a :: ar, st => Nat.le_trans (stepF_len h here st a) (rowF_len h here ar _)
theorem rowsF_len (h : Int) (ar : List Arr) : ∀ (rows : List Dial) (st : List Dial × List Dial), st.1.length ≤ (rows.foldl (rowF h ar) st).1.length
  | [], st => Nat.le_refl _
  | r :: rows, st => Nat.le_trans (rowF_len h r ar st) (rowsF_len h ar rows _)
theorem stepF_more (h : Int) (here : List Int) {st : List Dial × List Dial} (a : Arr) (hs : st.2.length ≤ st.1.length) : (stepF h here st a).2.length ≤ (stepF h here st a).1.length := by
  unfold stepF
  split
  · exact hs
  · simp only [List.length_append, List.length_singleton]
    omega
theorem rowF_more (h : Int) (here : List Int) : ∀ (ar : List Arr) {st : List Dial × List Dial}, st.2.length ≤ st.1.length → (ar.foldl (stepF h here) st).2.length ≤ (ar.foldl (stepF h here) st).1.length
  | [], _, hs => hs
  | a :: ar, _, hs => rowF_more h here ar (stepF_more h here a hs)
theorem rowsF_more (h : Int) (ar : List Arr) : ∀ (rows : List Dial) {st : List Dial × List Dial}, st.2.length ≤ st.1.length → (rows.foldl (rowF h ar) st).2.length ≤ (rows.foldl (rowF h ar) st).1.length
  | [], _, hs => hs
  | r :: rows, _, hs => rowsF_more h ar rows (rowF_more h r ar hs)
theorem foldl_drop_len {α β : Type} (g : β → α → β) (f : β → Nat) (mono : ∀ (l : List α) (b : β), f b ≤ f (l.foldl g b)) (l : List α) (b : β) (i : Nat) : f ((l.take i).foldl g b) ≤ f (l.foldl g b) := by
  have e : l.foldl g b = (l.drop i).foldl g ((l.take i).foldl g b) := by
    rw [← List.foldl_append, List.take_append_drop]
  rw [e]
  exact mono _ _
theorem run_len {h : Int} {ar : List Arr} : ∀ (m : Nat) {ks rows fin : List Dial}, fromRun m h ar ks rows = some fin → ks.length ≤ fin.length
  | 0, _, _, _, e => nomatch e
  | m + 1, ks, [], fin, e => by
    cases e
    exact Nat.le_refl _
  | m + 1, ks, x :: r, fin, e => Nat.le_trans (rowsF_len h ar (x :: r) (ks, [])) (run_len m (e : fromRun m h ar _ _ = some fin))
theorem stepD_len (h : Int) (d : Dial) (a : Arr) : (stepD h d a).length = d.length := by
  unfold stepD
  rw [List.length_set]
section
variable {P : Program} {w : World} {K : PySem.W.Frag} {mg : Str → Option Value} {base : Heap}
/-- the arrows' clocks are clocks -/
def ArIn (n : Nat) (ar : List Arr) : Prop := ∀ a ∈ ar, 0 ≤ a.1 ∧ a.1 < (n : Int) ∧ 0 ≤ a.2 ∧ a.2 < (n : Int)
def spFrom : Sp := fun vs H Q _ => ∃ (x : Addr) (n h : Nat) (ar : List Arr) (xd : V) (d fin : List Int × List Dial), vs = [.ref x, .int (h : Int), xd] ∧ WebAt H x n ar ∧ ArIn n ar ∧ n ≤ 3 ∧ 1 ≤ h ∧ TI H xd d.1 ∧ d.1.length = n ∧ fromRun 64 h ar [d.1] [d.1] = some fin.2 ∧ fin.2.length < 64 ∧
  ∀ H' df kvs, Same H H' → H df = none → H' df = some (.dT kvs) → kvs.map (·.1) = fin.2.map keyD → (∀ e ∈ fin.2, e.length = n) → Q (.ref df) H'
theorem nil_enc : (PyData.list [] : PyData) = .list (([] : List (List Int)).map encT) := rfl
theorem ok_from {f : Addr} {fd : FuncData} {k : Nat} (F : Fun K "_law_from" "_law_from" sFrom f fd) (B : Bt mg) (cS : Ca P w K mg base k "_law_step" spStep) : FnOk P w K mg base CX0 (k + 1) f fd ["_law_web_here", "_law_hours", "_law_dial_here"] spFrom := by
  refine F.ok scFrom (fun vs H Q E h => ?_) (fun cdv A outer s H vs Q E hr h => ?_)
  · obtain ⟨x, n, h, ar, xd, d, fin, rfl, _⟩ := h
    rfl
  · obtain ⟨x, n, h, ar, xd, ⟨d, _⟩, ⟨_, fin⟩, rfl, ⟨t, xs, w1, w2, w3⟩, har, n3, h1, hd, hdl, hrun, hlen, q⟩ := h
    dsimp only at hd hdl hrun hlen q
    have hu : (cxOf CX0 P w K mg base ["_law_web_here", "_law_hours", "_law_dial_here", "_law_found", "_law_rows", "_law_more", "_law_here", "_law_arrow", "_law_there"] "_law_from" (defScope sFrom) f cdv A outer s H E).nox.A.units + 64 < cLine := hr.units
    have hu1 : (cxOf CX0 P w K mg base ["_law_web_here", "_law_hours", "_law_dial_here", "_law_found", "_law_rows", "_law_more", "_law_here", "_law_arrow", "_law_there"] "_law_from" (defScope sFrom) f cdv A outer s H E).nox.A.units + 1 < cLine := by omega
    refine ⟨_, pss_cons (ps_par (i := 3) (j := 4) (by rfl) scFrom.nd rfl rfl (by decide) rfl rfl (pa_cons (pe_dispT hu1 (pv 2) pe_int) (pa_cons (pe_lst (pa_cons (pv 2) pa_nil)) pa_nil)) (by rfl))
      (pss_cons (ps_while PassesOwn.never (pt_cmpR (op_neD hu) (pv 4) (pe_lst pa_nil) (nomark _))
        (pss_cons (ps_set (i := 5) scFrom.nd rfl (.inl rfl) (pe_lst pa_nil))
        (pss_cons (ps_for PassesOwn.never rfl (pi_list (pv 4)) (pg_name (i := 6) scFrom.nd rfl (.inl rfl))
          (pss_one (ps_for PassesOwn.never rfl (pi_tup (pe_ix ix_tup (pv 0) pe_int (fun _ _ => rfl))) (pg_name (i := 7) scFrom.nd rfl (.inl rfl))
            (pss_cons (ps_set (i := 8) scFrom.nd rfl (.inl rfl) (pe_ca cS hr (Nat.le_refl _) (by rfl) (pa_cons (pv 1) (pa_cons (pv 6) (pa_cons (pv 7) pa_nil)))))
            (pss_one (ps_if (pt_cmp (pc_dnotin hu1 (pv 8) (pv 3)))
              (pss_cons (ps_dput hu1 (pv 3) (pv 8) (pe_op op_add (pe_dget hu1 (pv 3) (pv 6) (fun _ _ => rfl)) pe_int) rfl)
              (pss_one (ps_expr (pe_bm PySem.F.plainAttrs_list PySem.F.slot_list_append PySem.F.type_list_append mt_append (pv 5) (pa_cons (pv 8) pa_nil))))) pss_nil))))))
        (pss_one (ps_set (i := 4) scFrom.nd rfl (.inl rfl) (pv 5))))))
      (pss_one (ps_ret (pv 3)))), ?_⟩
    obtain ⟨pd, rfl, ed⟩ := id hd
    -- found, rows = {dial: 0}, [dial]
    intro df ndf
    have s0 : Same H (upd H df (.dT [])) := same_upd ndf
    refine ⟨_, rfl, upd_same, pd, keyD d, rfl, by rw [keyD_V]; exact s0 _ _ ed, ?_⟩
    refine ⟨_, rfl, by show 1 ≤ sizeLine; decide, fun l0 nl0 => ⟨_, _, rfl, ?_⟩⟩
    have hl0d : l0 ≠ df := fun z => by rw [z, upd_same] at nl0; cases nl0
    have nl00 : H l0 = none := by
      rw [upd_ne hl0d, upd_ne hl0d] at nl0
      exact nl0
    have s1 : Same H (upd (upd (upd H df (.dT [])) df (.dT [(keyD d, .int 0)])) l0 (.lst [.ref pd])) := same_wr (same_wr s0 ndf) nl00
    have hlx : xs.length = ar.length := by rw [w3.length, List.length_map]
    -- the while
    refine ⟨fun m σ H' => ∃ (lr : Addr) (zs : List V) (ks rows : List Dial) (kvs : List (List Key × V)) (a5 a6 a7 a8 : Option V), σ = [some (.ref x), some (.int (h : Int)), some (.ref pd), some (.ref df), some (.ref lr), a5, a6, a7, a8] ∧ Same H H' ∧ H lr = none ∧
      H' df = some (.dT kvs) ∧ kvs.map (·.1) = ks.map keyD ∧ (∀ p ∈ kvs, ∃ i : Int, p.2 = .int i) ∧ H' lr = some (.lst zs) ∧ TIs H' zs rows ∧ fromRun m h ar ks rows = some fin ∧ (∀ e ∈ rows, e ∈ ks) ∧ ∀ e ∈ ks, e.length = n,
      ⟨64, l0, [.ref pd], [d], [d], [(keyD d, .int 0)], none, none, none, none, rfl, s1, nl00, ?_, rfl, ?_, upd_same, .cons ⟨pd, rfl, s1 _ _ ed⟩ .nil, hrun, fun e he => he, fun e he => by rw [List.mem_singleton.mp he]; exact hdl⟩, ?_⟩
    · rw [upd_ne hl0d.symm, upd_same]
    · intro p hp
      rw [List.mem_singleton.mp hp]
      exact ⟨0, rfl⟩
    rintro m σ H' ⟨lr, zs, ks, rows, kvs, a5, a6, a7, a8, rfl, sm, nlr, edf, hks, hvi, elr, tz, hrun', hin, hkl⟩
    refine ⟨_, rfl, by show 0 ≤ sizeLine; decide, fun e he => ?_⟩
    have s2 : Same H' (upd H' e (.lst [])) := same_upd he
    refine ⟨.list (rows.map encT), .list (([] : List (List Int)).map encT), .lst (sqL_of (s2 _ _ elr)) (dpAll_of (fun _ _ r => TI.dp r) (tz.kt (kt_same s2))), .lst (sqL_of upd_same) .nil, (sh_list (sh_map sh_T _)).shaped (by decide), (sh_list (sh_map sh_T _)).shaped (by decide), _, rfl, ?_⟩
    rw [eqv_lst eqv_T]
    have sm2 : Same H (upd H' e (.lst [])) := sm.trans s2
    have edf2 := s2 _ _ edf
    have elr2 := s2 _ _ elr
    have tz2 : TIs (upd H' e (.lst [])) zs rows := tz.kt (kt_same s2)
    generalize upd H' e (.lst []) = H1 at sm2 edf2 elr2 tz2 ⊢
    by_cases hr0 : rows = []
    · rw [decide_eq_true hr0]
      refine iteF ?_
      subst hr0
      have ef : ks = fin := by
        cases m with
        | zero => exact nomatch hrun'
        | succ m => exact Option.some.inj hrun'
      refine ⟨_, rfl, q H1 df kvs sm2 ndf edf2 ?_ ?_⟩
      · rw [← ef]
        exact hks
      · rw [← ef]
        exact hkl
    · rw [decide_eq_false hr0]
      refine iteT ?_
      cases m with
      | zero => exact nomatch hrun'
      | succ m =>
        have hrun2 : fromRun m h ar (rows.foldl (rowF h ar) (ks, [])).1 (rows.foldl (rowF h ar) (ks, [])).2 = some fin := by
          cases rows with
          | nil => exact absurd rfl hr0
          | cons r0 rr => exact hrun'
        have hfin : (rows.foldl (rowF h ar) (ks, [])).1.length < 64 := Nat.lt_of_le_of_lt (run_len m hrun2) hlen
        refine ⟨fun σ' H'' => ∃ (lr : Addr) (zs : List V) (ks rows : List Dial) (kvs : List (List Key × V)) (a5 a6 a7 a8 : Option V), σ' = [some (.ref x), some (.int (h : Int)), some (.ref pd), some (.ref df), some (.ref lr), a5, a6, a7, a8] ∧ Same H H'' ∧ H lr = none ∧
          H'' df = some (.dT kvs) ∧ kvs.map (·.1) = ks.map keyD ∧ (∀ p ∈ kvs, ∃ i : Int, p.2 = .int i) ∧ H'' lr = some (.lst zs) ∧ TIs H'' zs rows ∧ fromRun m h ar ks rows = some fin ∧ (∀ e ∈ rows, e ∈ ks) ∧ ∀ e ∈ ks, e.length = n,
          fun σ' H'' hN => ⟨m, Nat.lt_succ_self m, hN⟩, ?_⟩
        -- more = []
        refine ⟨by show 0 ≤ sizeLine; decide, fun lm nlm => ?_⟩
        have nlm0 : H lm = none := sm2.free nlm
        have hmr : lr ≠ lm := ne_of_none elr2 nlm
        have hmd : df ≠ lm := ne_of_none edf2 nlm
        have s3 : Same H1 (upd H1 lm (.lst [])) := same_upd nlm
        refine ⟨_, rfl, lr, rfl, ⟨_, sqL_of (s3 _ _ elr2)⟩, ?_⟩
        -- the state of both loops
        refine for_list (K := K) (a := lr) (xs := zs) (fun i σ' H'' => ∃ (ys : List V) (kvs : List (List Key × V)) (a6 a7 a8 : Option V), σ' = [some (.ref x), some (.int (h : Int)), some (.ref pd), some (.ref df), some (.ref lr), some (.ref lm), a6, a7, a8] ∧ Same H H'' ∧ KT H1 H'' ∧
          H'' lr = some (.lst zs) ∧ H'' df = some (.dT kvs) ∧ kvs.map (·.1) = ((rows.take i).foldl (rowF h ar) (ks, [])).1.map keyD ∧ (∀ p ∈ kvs, ∃ i : Int, p.2 = .int i) ∧ H'' lm = some (.lst ys) ∧ TIs H'' ys ((rows.take i).foldl (rowF h ar) (ks, [])).2 ∧
          (∀ e ∈ ((rows.take i).foldl (rowF h ar) (ks, [])).2, e ∈ ((rows.take i).foldl (rowF h ar) (ks, [])).1) ∧ (∀ e ∈ ks, e ∈ ((rows.take i).foldl (rowF h ar) (ks, [])).1) ∧ ∀ e ∈ ((rows.take i).foldl (rowF h ar) (ks, [])).1, e.length = n)
          ⟨[], kvs, a6, a7, a8, rfl, sm2.trans s3, kt_same s3, s3 _ _ elr2, s3 _ _ edf2, hks, hvi, upd_same, .nil, fun e z => (nomatch z), fun e z => z, hkl⟩ (fun i σ' H'' _ ⟨_, _, _, _, _, _, _, _, e, _⟩ => sqL_of e) ?_ ?_
        · rintro i y σ' H'' hy ⟨ys, kvs, a6, a7, a8, rfl, sH, kt1, elr3, edf3, hks3, hvi3, elm3, ty3, hin3, hsub3, hkl3⟩
          obtain ⟨here, hh, Th⟩ := tz2.get hy
          have hhk : here ∈ ks := hin here (List.mem_of_getElem? hh)
          have hhl := hkl here hhk
          have hsucc : (rows.take (i + 1)).foldl (rowF h ar) (ks, []) = ar.foldl (stepF h here) ((rows.take i).foldl (rowF h ar) (ks, [])) := by
            rw [foldl_take_succ _ _ hh]
            rfl
          have hlenst : (ar.foldl (stepF h here) ((rows.take i).foldl (rowF h ar) (ks, []))).1.length < 64 := by
            rw [← hsucc]
            exact Nat.lt_of_le_of_lt (foldl_drop_len (rowF h ar) (fun st : List Dial × List Dial => st.1.length) (rowsF_len h ar) rows (ks, []) (i + 1)) hfin
          have hmst := rowsF_more h ar (rows.take i) (st := (ks, [])) (Nat.zero_le _)
          generalize hst : (rows.take i).foldl (rowF h ar) (ks, []) = st at hmst hks3 ty3 hin3 hsub3 hkl3 hsucc hlenst
          -- for arrow in web[1]
          refine ⟨_, rfl, x, _, _, _, rfl, rfl, sqT_of (sH _ _ w1), atI_nat (j := 1) rfl, t, rfl, ⟨_, sqT_of (sH _ _ w2)⟩, ?_⟩
          refine for_tup (K := K) (a := t) (xs := xs) (fun j σ3 H3 => ∃ (ys : List V) (kvs : List (List Key × V)) (a7 a8 : Option V), σ3 = [some (.ref x), some (.int (h : Int)), some (.ref pd), some (.ref df), some (.ref lr), some (.ref lm), some y, a7, a8] ∧ Same H H3 ∧ KT H1 H3 ∧
            H3 lr = some (.lst zs) ∧ H3 df = some (.dT kvs) ∧ kvs.map (·.1) = ((ar.take j).foldl (stepF h here) st).1.map keyD ∧ (∀ p ∈ kvs, ∃ i : Int, p.2 = .int i) ∧ H3 lm = some (.lst ys) ∧ TIs H3 ys ((ar.take j).foldl (stepF h here) st).2 ∧
            (∀ e ∈ ((ar.take j).foldl (stepF h here) st).2, e ∈ ((ar.take j).foldl (stepF h here) st).1) ∧ (∀ e ∈ ks, e ∈ ((ar.take j).foldl (stepF h here) st).1) ∧ ∀ e ∈ ((ar.take j).foldl (stepF h here) st).1, e.length = n)
            ⟨ys, kvs, a7, a8, rfl, sH, kt1, elr3, edf3, hks3, hvi3, elm3, ty3, hin3, hsub3, hkl3⟩ (fun j σ3 H3 _ ⟨_, _, _, _, _, s4, _⟩ => sqT_of (s4 _ _ w2)) ?_ ?_
          · rintro j z σ3 H3 hz ⟨ys, kvs, a7, a8, rfl, sH3, kt3, elr4, edf4, hks4, hvi4, elm4, ty4, hin4, hsub4, hkl4⟩
            obtain ⟨na, hna, T0⟩ := w3.get hz
            rw [List.getElem?_map] at hna
            obtain ⟨a, ha, ea⟩ : ∃ a, ar[j]? = some a ∧ arV a = na := by
              cases e4 : ar[j]? with
              | none => rw [e4] at hna; cases hna
              | some a => rw [e4] at hna; exact ⟨a, rfl, Option.some.inj hna⟩
            subst ea
            obtain ⟨b1, b2, b3, b4⟩ := har a (List.mem_of_getElem? ha)
            have hlen5 : ((ar.take j).foldl (stepF h here) st).1.length < 64 := Nat.lt_of_le_of_lt (foldl_drop_len (stepF h here) (fun st : List Dial × List Dial => st.1.length) (fun l b => rowF_len h here l b) ar st j) hlenst
            have hsucc2 : (ar.take (j + 1)).foldl (stepF h here) st = stepF h here ((ar.take j).foldl (stepF h here) st) a := foldl_take_succ _ _ ha
            have hmsu := rowF_more h here (ar.take j) hmst
            generalize (ar.take j).foldl (stepF h here) st = su at hmsu hks4 ty4 hin4 hsub4 hkl4 hlen5 hsucc2
            -- there = step(..)
            refine ⟨_, rfl, _, rfl, _, rfl, (h : Int), a.1, a.2, y, z, here, rfl, Th.kt kt3, T0.kt (kt_same sH3), by omega, b1, by omega, b3, by omega, by omega, fun H4 yt s5 tt => ?_⟩
            have edf5 := s5 _ _ edf4
            have elm5 := s5 _ _ elm4
            obtain ⟨pt, rfl, ept⟩ := id tt
            have eta : ((a.1, a.2) : Arr) = a := rfl
            rw [eta] at ept tt
            have hstep : (stepD h here a).length = n := by rw [stepD_len]; exact hhl
            -- if there not in found
            refine ⟨_, rfl, _, rfl, df, _, rfl, DGet.t edf5 (k := keyD (stepD h here a)) (by rw [keyD_V]; exact ept), _, rfl, ?_⟩
            rw [val_some hks4]
            by_cases hm : stepD h here a ∈ su.1
            · rw [decide_eq_true hm]
              have e5 : stepF h here su a = su := by
                unfold stepF
                rw [if_pos hm]
              refine iteF ⟨ys, kvs, _, _, rfl, sH3.trans s5, kt3.trans (kt_same s5), s5 _ _ elr4, edf5, ?_, hvi4, elm5, ?_, ?_, ?_, ?_⟩
              · rw [hsucc2, e5]; exact hks4
              · rw [hsucc2, e5]; exact ty4.kt (kt_same s5)
              · rw [hsucc2, e5]; exact hin4
              · rw [hsucc2, e5]; exact hsub4
              · rw [hsucc2, e5]; exact hkl4
            · rw [decide_eq_false hm]
              have e5 : stepF h here su a = (su.1 ++ [stepD h here a], su.2 ++ [stepD h here a]) := by
                unfold stepF
                rw [if_neg hm]
              -- found[there] = found[here] + 1
              obtain ⟨ph, rfl, eph⟩ := (Th.kt kt3).kt (kt_same s5)
              have hsome : (valV kvs (keyD here)).isSome = true := by
                rw [val_some hks4]
                exact decide_eq_true (hsub4 here hhk)
              obtain ⟨v0, hv0⟩ := Option.isSome_iff_exists.mp hsome
              obtain ⟨i0, rfl⟩ : ∃ i0 : Int, v0 = .int i0 := by
                unfold valV at hv0
                cases hf : kvs.find? fun kv => decide (kv.1 = keyD here) with
                | none => rw [hf] at hv0; cases hv0
                | some p =>
                  rw [hf] at hv0
                  obtain ⟨i0, e⟩ := hvi4 p (List.mem_of_find?_eq_some hf)
                  exact ⟨i0, by rw [← Option.some.inj hv0]; exact e⟩
              have hnone : valV kvs (keyD (stepD h here a)) = none := by
                have := val_some hks4 (stepD h here a)
                rw [decide_eq_false hm] at this
                cases hv : valV kvs (keyD (stepD h here a)) with
                | none => rfl
                | some v => rw [hv] at this; cases this
              have hkv : kvs.length < 64 := by
                have := congrArg List.length hks4
                rw [List.length_map, List.length_map] at this
                omega
              refine iteT ⟨_, rfl, _, rfl, df, _, rfl, (by rw [← hv0]; exact DGet.t edf5 (k := keyD here) (by rw [keyD_V]; exact eph)), _, _, rfl, rfl, _, rfl, _, rfl, df, _, rfl, DPut.t edf5 (k := keyD (stepD h here a)) (by rw [keyD_V]; exact ept) (sz_lt (by omega)), ?_⟩
              rw [putK_new _ hnone]
              have elm6 : upd H4 df (.dT (kvs ++ [(keyD (stepD h here a), .int (i0 + 1))])) lm = some (.lst ys) := by
                rw [upd_ne hmd.symm]
                exact elm5
              refine ⟨_, rfl, .inl ⟨rfl, _, sqL_of elm6⟩, _, rfl, lm, _, _, rfl, rfl, elm6, ?_, ?_⟩
              · rw [ty4.length]
                exact sz_lt (by omega)
              have kt6 : KT H4 (upd (upd H4 df (.dT (kvs ++ [(keyD (stepD h here a), .int (i0 + 1))]))) lm (.lst (ys ++ [.ref pt]))) := (kt_dT edf5).trans (kt_lst elm6)
              refine ⟨ys ++ [.ref pt], kvs ++ [(keyD (stepD h here a), .int (i0 + 1))], _, _, rfl, same_wr (same_wr (sH3.trans s5) ndf) nlm0, (kt3.trans (kt_same s5)).trans kt6, ?_, ?_, ?_, ?_, upd_same, ?_, ?_, ?_, ?_⟩
              · rw [upd_ne hmr, upd_ne (ne_of (s5 _ _ elr4) edf5 (fun z => nomatch z))]
                exact s5 _ _ elr4
              · rw [upd_ne hmd, upd_same]
              · rw [hsucc2, e5, List.map_append, List.map_append, hks4]
                rfl
              · intro p hp
                rcases List.mem_append.mp hp with hp | hp
                · exact hvi4 p hp
                · rw [List.mem_singleton.mp hp]
                  exact ⟨i0 + 1, rfl⟩
              · rw [hsucc2, e5]
                exact TIs.append (ty4.kt ((kt_same s5).trans kt6)) (.cons (tt.kt kt6) .nil)
              · rw [hsucc2, e5]
                intro e he
                rcases List.mem_append.mp he with he | he
                · exact List.mem_append.mpr (.inl (hin4 e he))
                · exact List.mem_append.mpr (.inr he)
              · rw [hsucc2, e5]
                exact fun e he => List.mem_append.mpr (.inl (hsub4 e he))
              · rw [hsucc2, e5]
                intro e he
                rcases List.mem_append.mp he with he | he
                · exact hkl4 e he
                · rw [List.mem_singleton.mp he]
                  exact hstep
          · rintro σ3 H3 ⟨ys, kvs, a7, a8, rfl, sH3, kt3, elr4, edf4, hks4, hvi4, elm4, ty4, hin4, hsub4, hkl4⟩
            rw [hlx, List.take_length, ← hsucc] at hks4 ty4 hin4 hsub4 hkl4
            exact ⟨ys, kvs, _, a7, a8, rfl, sH3, kt3, elr4, edf4, hks4, hvi4, elm4, ty4, hin4, hsub4, hkl4⟩
        · rintro σ' H'' ⟨ys, kvs, a6, a7, a8, rfl, sH, kt1, elr3, edf3, hks3, hvi3, elm3, ty3, hin3, hsub3, hkl3⟩
          rw [tz2.length, List.take_length] at hks3 ty3 hin3 hsub3 hkl3
          exact ⟨_, rfl, lm, ys, _, _, kvs, _, a6, a7, a8, rfl, sH, nlm0, edf3, hks3, hvi3, elm3, ty3, hrun2, hin3, hkl3⟩
end
end K42
set_option Elab.async false
set_option linter.all false
set_option maxRecDepth 100000
set_option maxHeartbeats 4000000
namespace K42
open PySem PySem.Spec PyProof.Rows L2
/-! ### the order of sorted is the dials' order -/
theorem lex_lt : ∀ a b : List Int, lexLe a b = !decide (b < a)
  | [], b => by
    have : ¬ b < ([] : List Int) := List.not_lt_nil b
    rw [decide_eq_false this]
    cases b <;> rfl
  | x :: a, [] => by
    have : ([] : List Int) < x :: a := List.nil_lt_cons x a
    rw [decide_eq_true this]
    rfl
  | x :: a, y :: b => by
    unfold lexLe
    by_cases e : x = y
    · subst e
      rw [if_pos rfl, lex_lt a b]
      congr 1
      rw [decide_eq_decide, List.cons_lt_cons_iff]
      constructor
      · exact fun h => .inr ⟨rfl, h⟩
      · rintro (h | h)
        · omega
        · exact h.2
    · rw [if_neg e, Bool.eq_iff_iff, decide_eq_true_eq, Bool.not_eq_true', decide_eq_false_iff_not, List.cons_lt_cons_iff]
      constructor
      · rintro h (k | k)
        · omega
        · exact e k.1.symm
      · intro h
        have h1 : ¬ y < x := fun z => h (.inl z)
        omega
theorem le_T : (PySem.W.dataLe false encT) = lexLe := by
  funext a b
  rw [PySem.W.dataLe_eq]
  show (!PySem.W.dataLt (.tuple (b.map .int)) (.tuple (a.map .int))) = lexLe a b
  rw [PySem.W.dataLt_tuple]
  show (!PySem.W.rowLt (b.map .int) (a.map .int)) = lexLe a b
  rw [PySem.W.dataLt_ints, lex_lt]
theorem sort_T (ks : List (List Int)) : ks.mergeSort (PySem.W.dataLe false encT) = isortD ks := by
  rw [le_T]
  refine (isortD_one (List.mergeSort_perm ks lexLe) ?_).symm
  exact List.pairwise_mergeSort (fun a b c h1 h2 => lexLe_trans a b c h1 h2) (fun a b => by
    rcases lexLe_total a b with h | h
    · rw [h]; rfl
    · rw [h, Bool.or_true]) ks
section
variable {P : Program} {w : World} {K : PySem.W.Frag} {mg : Str → Option Value} {base : Heap}
/-- a class, a list of dials, stands at v, not at D -/
def CLx (D : Addr) (H : Hp) (v : V) (c : List Dial) : Prop := ∃ a ys, v = .ref a ∧ a ≠ D ∧ H a = some (.lst ys) ∧ TIs H ys c
theorem CLx.same {D : Addr} {H H' : Hp} {v : V} {c : List Dial} (h : CLx D H v c) (s : Same H H') : CLx D H' v c := by
  obtain ⟨a, ys, e, d, q, t⟩ := h
  exact ⟨a, ys, e, d, s _ _ q, t.kt (kt_same s)⟩
theorem CLx.app {D : Addr} {H : Hp} {o : HO} {xs : List V} {v : V} {c : List Dial} (h : CLx D H v c) (hD : H D = some (.lst xs)) : CLx D (upd H D o) v c := by
  obtain ⟨a, ys, e, d, q, t⟩ := h
  exact ⟨a, ys, e, d, by rw [upd_ne d]; exact q, t.kt (kt_lst hD)⟩
theorem CLx.dict {D p : Addr} {H : Hp} {o : HO} {kvs : List (List Key × V)} {v : V} {c : List Dial} (h : CLx D H v c) (hp : H p = some (.dT kvs)) : CLx D (upd H p o) v c := by
  obtain ⟨a, ys, e, d, q, t⟩ := h
  exact ⟨a, ys, e, d, by rw [upd_ne (ne_of q hp (fun z => nomatch z))]; exact q, t.kt (kt_dT hp)⟩
theorem seeD_len (seen : List Dial) (t : Dial) : (seeD seen t).length ≤ seen.length + 1 := by
  unfold seeD
  split
  · exact Nat.le_succ _
  · simp
theorem seeL_len : ∀ (l : List Dial) (seen : List Dial), (l.foldl seeD seen).length ≤ seen.length + l.length
  | [], _ => Nat.le_refl _
  | t :: l, seen => by
    have h1 := seeD_len seen t
    have h2 := seeL_len l (seeD seen t)
    simp only [List.foldl_cons, List.length_cons]
    omega
def spClasses : Sp := fun vs H Q _ => ∃ (x : Addr) (n h : Nat) (ar : List Arr), vs = [.ref x, .int (h : Int)] ∧ WebAt H x n ar ∧ ArIn n ar ∧ 1 ≤ n ∧ n ≤ 3 ∧ 1 ≤ h ∧ h ≤ 4 ∧ clsGood h ar (every h n) ([], []) ∧
  ∀ H' D refs, Same H H' → H D = none → H' D = some (.lst refs) → Paired (CLx D H') refs (classes n h ar) → Q (.ref D) H'
theorem ok_classes {f : Addr} {fd : FuncData} {k : Nat} (F : Fun K "_law_classes" "_law_classes" sClasses f fd) (B : Bt mg) (cE : Ca P w K mg base k "_law_every" spEvery) (cF : Ca P w K mg base k "_law_from" spFrom) : FnOk P w K mg base CX0 (k + 1) f fd ["_law_web_here", "_law_hours"] spClasses := by
  refine F.ok scClasses (fun vs H Q E h => ?_) (fun cdv A outer s H vs Q E hr h => ?_)
  · obtain ⟨x, n, h, ar, rfl, _⟩ := h
    rfl
  · obtain ⟨x, n, h, ar, rfl, W, har, n1, n3, h1, h4, hgood, q⟩ := h
    have hu : (cxOf CX0 P w K mg base ["_law_web_here", "_law_hours", "_law_seen", "_law_found", "_law_dial_here", "_law_some", "_law_there"] "_law_classes" (defScope sClasses) f cdv A outer s H E).nox.A.units + 64 < cLine := hr.units
    have hu1 : (cxOf CX0 P w K mg base ["_law_web_here", "_law_hours", "_law_seen", "_law_found", "_law_dial_here", "_law_some", "_law_there"] "_law_classes" (defScope sClasses) f cdv A outer s H E).nox.A.units + 1 < cLine := by omega
    refine ⟨_, pss_cons (ps_par (i := 2) (j := 3) (by rfl) scClasses.nd rfl rfl (by decide) rfl rfl (pa_cons pe_dnewT (pa_cons (pe_lst pa_nil) pa_nil)) (by rfl))
      (pss_cons (ps_for PassesOwn.never rfl (pi_list (pe_ca cE hr (Nat.le_refl _) (by rfl) (pa_cons (pe_ix ix_tup (pv 0) pe_int (fun _ _ => rfl)) (pa_cons (pv 1) pa_nil)))) (pg_name (i := 4) scClasses.nd rfl (.inl rfl))
        (pss_one (ps_if (pt_cmp (pc_dnotin hu1 (pv 4) (pv 2)))
          (pss_cons (ps_set (i := 5) scClasses.nd rfl (.inl rfl) (pe_callB (cr_sortK (by rfl) hu) (by rfl) B.sorted (by decide +kernel) (pa_cons
            (pe_bm0 PySem.F.plainAttrs_dict PySem.F.slot_dict_keys PySem.F.type_dict_keys mt_keysT (pe_ca cF hr (Nat.le_refl _) (by rfl) (pa_cons (pv 0) (pa_cons (pv 1) (pa_cons (pv 4) pa_nil))))) pa_nil)))
          (pss_cons (ps_for PassesOwn.never rfl (pi_list (pv 5)) (pg_name (i := 6) scClasses.nd rfl (.inl rfl))
            (pss_one (ps_dput hu1 (pv 2) (pv 6) pe_bl rfl)))
          (pss_one (ps_expr (pe_bm PySem.F.plainAttrs_list PySem.F.slot_list_append PySem.F.type_list_append mt_append (pv 3) (pa_cons (pv 5) pa_nil)))))) pss_nil)))
      (pss_one (ps_ret (pv 3)))), ?_⟩
    obtain ⟨t, xs, w1, w2, w3⟩ := id W
    intro ds nds
    have s0 : Same H (upd H ds (.dT [])) := same_upd nds
    refine ⟨by show 0 ≤ sizeLine; decide, fun D nD => ⟨_, _, rfl, ?_⟩⟩
    have nDs : D ≠ ds := fun z => by rw [z, upd_same] at nD; cases nD
    have nD0 : H D = none := s0.free nD
    have s1 : Same H (upd (upd H ds (.dT [])) D (.lst [])) := s0.trans (same_upd nD)
    have eds : upd (upd H ds (.dT [])) D (.lst []) ds = some (.dT []) := by rw [upd_ne nDs.symm, upd_same]
    have eD : upd (upd H ds (.dT [])) D (.lst []) D = some (.lst []) := upd_same
    generalize upd (upd H ds (.dT [])) D (.lst []) = H1 at s1 eds eD ⊢
    refine ⟨_, rfl, x, _, _, _, rfl, rfl, sqT_of (s1 _ _ w1), atI_nat (j := 0) rfl, _, rfl, n, h, rfl, n3, h4, fun H2 le zs s2 nle ele tz => ?_⟩
    refine ⟨le, rfl, ⟨_, sqL_of ele⟩, ?_⟩
    have hel : (every h n).length ≤ 64 := by rw [every_len]; exact pow_le h4 n3
    have hleD : le ≠ D := fun z => by rw [z, eD] at nle; cases nle
    have hles : le ≠ ds := fun z => by rw [z, eds] at nle; cases nle
    have nle0 : H le = none := s1.free nle
    refine for_list (K := K) (a := le) (xs := zs) (fun i σ H' => ∃ (kvs : List (List Key × V)) (refs : List V) (a4 a5 a6 : Option V), σ = [some (.ref x), some (.int (h : Int)), some (.ref ds), some (.ref D), a4, a5, a6] ∧ Same H H' ∧ KT H2 H' ∧ H' le = some (.lst zs) ∧
      H' ds = some (.dT kvs) ∧ kvs.map (·.1) = (((every h n).take i).foldl (clsIn h ar) ([], [])).1.map keyD ∧ H' D = some (.lst refs) ∧ Paired (CLx D H') refs (((every h n).take i).foldl (clsIn h ar) ([], [])).2 ∧
      clsGood h ar ((every h n).drop i) (((every h n).take i).foldl (clsIn h ar) ([], [])) ∧ (((every h n).take i).foldl (clsIn h ar) ([], [])).1.length ≤ 64 * i ∧ (((every h n).take i).foldl (clsIn h ar) ([], [])).2.length ≤ i)
      ⟨[], [], none, none, none, rfl, s1.trans s2, KT.refl _, ele, s2 _ _ eds, rfl, s2 _ _ eD, .nil, hgood, Nat.zero_le _, Nat.zero_le _⟩ (fun i σ H' _ ⟨_, _, _, _, _, _, _, _, e, _⟩ => sqL_of e) ?_ ?_
    · rintro i y σ H' hy ⟨kvs, refs, a4, a5, a6, rfl, sH, kt, ele', eds', hks, eD', pr, hg, hl1, hl2⟩
      obtain ⟨d, hd, Td⟩ := tz.get hy
      have hi : i < (every h n).length := (List.getElem?_eq_some_iff.mp hd).1
      have hdl := (every_item (List.mem_of_getElem? hd)).1
      have hsucc : ((every h n).take (i + 1)).foldl (clsIn h ar) ([], []) = clsIn h ar (((every h n).take i).foldl (clsIn h ar) ([], [])) d := foldl_take_succ _ _ hd
      have hdrop : (every h n).drop i = d :: (every h n).drop (i + 1) := by
        rw [List.drop_eq_getElem_cons hi]
        congr 1
        rw [List.getElem?_eq_getElem hi] at hd
        exact Option.some.inj hd
      rw [hdrop] at hg
      generalize ((every h n).take i).foldl (clsIn h ar) ([], []) = st at hks pr hg hl1 hl2 hsucc
      obtain ⟨hg1, hg2⟩ := hg
      obtain ⟨pd, rfl, epd⟩ := id (Td.kt kt)
      -- if dial not in seen
      refine ⟨_, rfl, _, rfl, ds, _, rfl, DGet.t eds' (k := keyD d) (by rw [keyD_V]; exact epd), _, rfl, ?_⟩
      rw [val_some hks]
      by_cases hm : d ∈ st.1
      · rw [decide_eq_true hm]
        have e5 : clsIn h ar st d = st := by
          unfold clsIn
          rw [if_pos hm]
        rw [e5] at hg2
        refine iteF ⟨kvs, refs, _, a5, a6, rfl, sH, kt, ele', eds', ?_, eD', ?_, ?_, ?_, ?_⟩
        · rw [hsucc, e5]; exact hks
        · rw [hsucc, e5]; exact pr
        · rw [hsucc, e5]; exact hg2
        · rw [hsucc, e5]; omega
        · rw [hsucc, e5]; omega
      · rw [decide_eq_false hm]
        obtain ⟨ks, hrun, hk64⟩ := hg1 hm
        have e5 : clsIn h ar st d = ((isortD ks).foldl seeD st.1, st.2 ++ [isortD ks]) := by
          have ef : fromM h ar d = ks := by
            unfold fromM
            rw [hrun]
            rfl
          unfold clsIn
          rw [if_neg hm, ef]
        rw [e5] at hg2
        have hsl : (isortD ks).length < 64 := by rw [(isortD_perm ks).length_eq]; exact hk64
        -- some = sorted(from(..).keys())
        refine iteT ⟨_, rfl, _, rfl, _, rfl, x, n, h, ar, _, (d, []), ([], ks), rfl, W.same sH, har, n3, h1, Td.kt kt, hdl, hrun, hk64, fun H3 df fvs s3 ndf edf hfk hfl => ?_⟩
        refine ⟨.inr (.inr (.inl ⟨rfl, .inr ⟨fvs, edf⟩⟩)), df, fvs, rfl, rfl, edf, fun pk npk => ?_⟩
        have s4 : Same H3 (upd H3 pk (keysO pk df)) := same_upd npk
        refine ⟨pk, df, fvs, ks, n - 1, rfl, upd_same, s4 _ _ edf, hfk, (fun e he => by rw [hfl e he]; omega), fun ys ls tys nls => ?_⟩
        rw [sort_T] at tys
        have s5 : Same H' (upd (upd H3 pk (keysO pk df)) ls (.lst ys)) := (s3.trans s4).trans (same_upd nls)
        have els : upd (upd H3 pk (keysO pk df)) ls (.lst ys) ls = some (.lst ys) := upd_same
        have tys' : TIs (upd (upd H3 pk (keysO pk df)) ls (.lst ys)) ys (isortD ks) := tys.kt (kt_new nls)
        have nls' : H' ls = none := (s3.trans s4).free nls
        have hlsD : ls ≠ D := fun z => by rw [z, eD'] at nls'; cases nls'
        generalize upd (upd H3 pk (keysO pk df)) ls (.lst ys) = H4 at s5 els tys' ⊢
        have sH4 : Same H H4 := sH.trans s5
        -- for there in some: seen[there] = True
        refine ⟨_, rfl, ls, rfl, ⟨_, sqL_of els⟩, ?_⟩
        refine for_list (K := K) (a := ls) (xs := ys) (fun j σ5 H5 => ∃ (kvs : List (List Key × V)) (a6 : Option V), σ5 = [some (.ref x), some (.int (h : Int)), some (.ref ds), some (.ref D), some (.ref pd), some (.ref ls), a6] ∧ Same H H5 ∧ KT H4 H5 ∧ H5 le = some (.lst zs) ∧ H5 ls = some (.lst ys) ∧
          H5 ds = some (.dT kvs) ∧ kvs.map (·.1) = (((isortD ks).take j).foldl seeD st.1).map keyD ∧ H5 D = some (.lst refs) ∧ Paired (CLx D H5) refs st.2)
          ⟨kvs, a6, rfl, sH4, KT.refl _, s5 _ _ ele', els, s5 _ _ eds', hks, s5 _ _ eD', Paired.mapP pr fun _ _ r => r.same s5⟩ (fun j σ5 H5 _ ⟨_, _, _, _, _, _, e, _⟩ => sqL_of e) ?_ ?_
        · rintro j z σ5 H5 hz ⟨kvs, a6, rfl, sH5, kt5, ele5, els5, eds5, hks5, eD5, pr5⟩
          obtain ⟨e, he, Te⟩ := tys'.get hz
          obtain ⟨pe, rfl, epe⟩ := Te.kt kt5
          have hkv : kvs.length ≤ 5000 := by
            have h1 := congrArg List.length hks5
            rw [List.length_map, List.length_map] at h1
            have h2 := seeL_len ((isortD ks).take j) st.1
            have h3 : ((isortD ks).take j).length ≤ 64 := by rw [List.length_take]; omega
            omega
          refine ⟨_, rfl, _, rfl, ds, _, rfl, DPut.t eds5 (k := keyD e) (by rw [keyD_V]; exact epe) (sz_lt (by omega)), ?_⟩
          have hdl5 : ∀ {b : Addr} {zs : List V}, H5 b = some (.lst zs) → b ≠ ds := fun hb => ne_of hb eds5 (fun z => nomatch z)
          refine ⟨_, _, rfl, same_wr sH5 nds, kt5.trans (kt_dT eds5), ?_, ?_, upd_same, ?_, ?_, ?_⟩
          · rw [upd_ne (hdl5 ele5)]; exact ele5
          · rw [upd_ne (hdl5 els5)]; exact els5
          · rw [put_keys hks5, foldl_take_succ _ _ he]
          · rw [upd_ne (hdl5 eD5)]; exact eD5
          · exact Paired.mapP pr5 fun _ _ r => r.dict eds5
        · rintro σ5 H5 ⟨kvs, a6, rfl, sH5, kt5, ele5, els5, eds5, hks5, eD5, pr5⟩
          rw [tys'.length, List.take_length] at hks5
          have hrl : refs.length ≤ 64 := by
            have := pr5.length
            omega
          -- found.append(some)
          refine ⟨_, rfl, .inl ⟨rfl, _, sqL_of eD5⟩, _, rfl, D, _, _, rfl, rfl, eD5, sz_lt (by omega), ?_⟩
          have e6 := kt_lst (o := .lst (refs ++ [.ref ls])) eD5
          refine ⟨kvs, refs ++ [.ref ls], _, _, a6, rfl, same_wr sH5 nD0, (((kt.trans (kt_same s5)).trans kt5).trans e6), ?_, ?_, ?_, upd_same, ?_, ?_, ?_, ?_⟩
          · rw [upd_ne hleD]; exact ele5
          · rw [upd_ne (ne_of eD5 eds5 (fun z => nomatch z)).symm]; exact eds5
          · rw [hsucc, e5]; exact hks5
          · rw [hsucc, e5]
            refine paired_app (Paired.mapP pr5 fun _ _ r => r.app eD5) (.cons ⟨ls, ys, rfl, hlsD, ?_, tys'.kt (kt5.trans e6)⟩ .nil)
            rw [upd_ne hlsD]
            exact els5
          · rw [hsucc, e5]; exact hg2
          · rw [hsucc, e5]
            have := seeL_len (isortD ks) st.1
            show ((isortD ks).foldl seeD st.1).length ≤ 64 * (i + 1)
            omega
          · rw [hsucc, e5]
            show (st.2 ++ [isortD ks]).length ≤ i + 1
            rw [List.length_append, List.length_singleton]
            omega
    · rintro σ H' ⟨kvs, refs, a4, a5, a6, rfl, sH, kt, ele', eds', hks, eD', pr, hg, hl1, hl2⟩
      rw [tz.length, List.take_length] at pr
      exact ⟨_, rfl, q H' D refs sH nD0 eD' pr⟩
end
end K42
set_option Elab.async false
set_option linter.all false
set_option maxRecDepth 100000
set_option maxHeartbeats 4000000
namespace K42
open PySem PySem.Spec PyProof.Rows L2
section
variable {P : Program} {w : World} {K : PySem.W.Frag} {mg : Str → Option Value} {base : Heap}
theorem WebAt.x {H H' : Hp} {x r a : Addr} {ns : List Int} {n : Nat} {ar : List Arr} (W : WebAt H x n ar) (s : SameX r H H') (R : RowAt K H r a ns) : WebAt H' x n ar := W.kt (s.kt R)
def spDial (K : PySem.W.Frag) : Sp := fun vs H Q _ => ∃ (r a x : Addr) (ns : List Int) (n h : Nat) (ar : List Arr), vs = [.ref r, .ref x, .int (h : Int)] ∧ RowAt K H r a ns ∧ WebAt H x n ar ∧ n ≤ 3 ∧ 2 ≤ h ∧ h ≤ 4 ∧
  ∀ H' d dl, SameX r H H' → RowAt K H' r a ns → DlAt H' d n h dl → Q (.ref d) H'
theorem ok_dial {f : Addr} {fd : FuncData} {k : Nat} (F : Fun K "_law_dial" "_law_dial" sDial f fd) (B : Bt mg) (cT : Ca P w K mg base k "_law_taken" (spTaken K)) (cP : Ca P w K mg base k "_law_pick" (spPick K)) : FnOk P w K mg base CX0 (k + 1) f fd ["_law_row", "_law_web_here", "_law_hours"] (spDial K) := by
  refine F.ok scDial (fun vs H Q E h => ?_) (fun cdv A outer s H vs Q E hr h => ?_)
  · obtain ⟨r, a, x, ns, n, h, ar, rfl, _⟩ := h
    rfl
  · obtain ⟨r, a, x, ns, n, h, ar, rfl, R, W, n3, h2, h4, q⟩ := h
    refine ⟨_, pss_cons (ps_set (i := 3) scDial.nd rfl (.inr rfl) (pe_ca cP hr (Nat.le_refl _) (by rfl) (pa_cons (pv 0) (pa_cons
          (pe_lc (own := [("_law_one", 4)]) (g := gName 4) (by rfl) scDial.nd (pi_range2 rfl B.range (pa_cons pe_int (pa_cons (pe_op op_add (pv 2) pe_int) pa_nil)))
            (blkOk_by (N := ["_law_row", "_law_web_here", "_law_hours", "_law_part", "_law_one", "_law_k"]) (sc := defScope sDial) (by decide +kernel)) (fun _ _ _ _ _ => pg_name (i := 4) scDial.nd rfl (Or.inl rfl))
            (fun _ _ _ _ _ => pts_one (pt_cmpR op_eq (pe_op op_mod (pe_callTy call_int1 (by rfl) B.int (by decide +kernel) (pa_cons (pv 2) pa_nil)) (pv 4)) pe_int (nomark _))) (fun _ _ _ _ _ => pv 4)) pa_nil))))
      (pss_cons (ps_set (i := 3) scDial.nd rfl (.inr rfl) (pe_ifExp (pt_cmpR op_eq (pe_ca cT hr (Nat.le_refl _) (by rfl) (pa_cons (pv 0) (pa_cons pe_int pa_nil))) pe_int (nomark _)) (pv 3) pe_int))
      (pss_one (ps_ret (pe_callTy call_tuple_of (by rfl) B.tuple (by decide +kernel) (pa_cons
        (pe_lc (own := [("_law_k", 5)]) (g := gName 5) (by rfl) scDial.nd (pi_range1 rfl B.range (pa_cons (pe_ix ix_tup (pv 1) pe_int (fun _ _ => rfl)) pa_nil))
          (blkOk_by (N := ["_law_row", "_law_web_here", "_law_hours", "_law_part", "_law_one", "_law_k"]) (sc := defScope sDial) (by decide +kernel)) (fun _ _ _ _ _ => pg_name (i := 5) scDial.nd rfl (Or.inl rfl))
          (fun _ _ _ _ _ => pts_nil) (fun _ _ _ _ _ => pe_op op_mod (pe_callTy call_int1 (by rfl) B.int (by decide +kernel) (pa_cons (pe_op op_mul (pv 3) (pe_ca cT hr (Nat.le_refl _) (by rfl) (pa_cons (pv 0) (pa_cons (pv 2) pa_nil)))) pa_nil)) (pv 2))) pa_nil))))), ?_⟩
    -- the divisors
    refine ⟨_, rfl, _, rfl, _, _, rfl, rfl, 1, (h : Int) + 1, rfl, ⟨by decide, by decide, by omega, by omega⟩, fun D hD => ?_⟩
    refine lc_range (lo := 1) (n := ((h : Int) + 1 - 1).toNat) (fun i H' => Same H H' ∧ ∃ acc : List Int, H' D = some (.lst (acc.map V.int)) ∧ (∀ z ∈ acc, 1 ≤ z ∧ z ≤ 4) ∧ acc.length ≤ i ∧ (1 ≤ i → 1 ≤ acc.length))
      ⟨same_upd hD, [], upd_same, (fun z hz => nomatch hz), Nat.le_refl _, fun hi => absurd hi (by decide)⟩ ?_ ?_
    · rintro i H' hi ⟨s1, acc, eD, hb, hl, hl1⟩
      refine ⟨rfl, _, rfl, .inl ⟨_, rfl, _, rfl, _, _, rfl, rfl, (by show (0 : Int) < 1 + (i : Int); omega), rfl, _, rfl, ?_⟩⟩
      by_cases hz : (h : Int) % (1 + (i : Int)) = 0
      · rw [decide_eq_true (show V.int ((h : Int) % (1 + (i : Int))) = V.int 0 by rw [hz])]
        refine iteT ⟨_, rfl, _, eD, ?_, same_wr s1 hD, acc ++ [1 + (i : Int)], ?_, ?_, ?_, ?_⟩
        · rw [List.length_map]
          exact sz_lt (by omega)
        · rw [upd_same, List.map_append]
          rfl
        · intro z hz'
          rcases List.mem_append.mp hz' with hz' | hz'
          · exact hb z hz'
          · rw [List.mem_singleton.mp hz']
            omega
        · rw [List.length_append, List.length_singleton]
          omega
        · intro _
          rw [List.length_append, List.length_singleton]
          omega
      · rw [decide_eq_false (show ¬ V.int ((h : Int) % (1 + (i : Int))) = V.int 0 from fun z => hz (V.int.inj z))]
        refine iteF ⟨s1, acc, eD, hb, by omega, fun _ => hl1 ?_⟩
        rcases Nat.eq_zero_or_pos i with e | e
        · subst e
          exact absurd (Int.emod_one (h : Int)) hz
        · exact e
    · rintro H1 ⟨s1, acc, eD, hb, hl, hl1⟩
      have R1 := R.same s1
      have hDr : D ≠ r := ne_row R hD
      refine ⟨r, a, D, ns, acc.map V.int, rfl, R1, .inl eD, hDr, ?_, ?_, fun H2 xp s2 R2 hxp => ?_⟩
      · rw [List.length_map]
        exact hl1 (by omega)
      · rw [List.length_map]
        omega
      obtain ⟨z, hz, rfl⟩ := List.mem_map.mp hxp
      obtain ⟨z1, z4⟩ := hb z hz
      have sx2 : SameX r H H2 := (same_x s1).trans s2
      -- part = part if taken(row, 2) == 0 else 1
      dsimp only [gName]
      refine seq_by (fun σ' H' => ∃ z : Int, 1 ≤ z ∧ z ≤ 4 ∧ σ' = [some (.ref r), some (.ref x), some (.int (h : Int)), some (.int z), none, none] ∧ SameX r H H' ∧ RowAt K H' r a ns) (fun N hN => ?_) ?_
      · refine ⟨_, rfl, r, a, ns, 2, rfl, R2, by decide, by decide, fun H3 b s3 R3 b0 b1 => ⟨rfl, _, rfl, ite2 (fun _ => ?_) (fun _ => ?_)⟩⟩
        · exact ⟨_, rfl, hN _ _ ⟨z, z1, z4, rfl, sx2.trans s3, R3⟩⟩
        · exact hN _ _ ⟨1, by decide, by decide, rfl, sx2.trans s3, R3⟩
      · rintro σ' H3 ⟨z, z1, z4, rfl, sx3, R3⟩
        obtain ⟨t, xs, w1, w2, w3⟩ := W.x sx3 R
        refine ⟨_, rfl, x, _, _, _, rfl, rfl, sqT_of w1, atI_nat (j := 0) rfl, (n : Int), rfl, by omega, by omega, fun G hG => ?_⟩
        have hGr : G ≠ r := ne_row R3 hG
        have hG0 : H G = none := sx3.free hG hGr
        refine lc_range (lo := 0) (n := n) (fun i H' => SameX r H H' ∧ RowAt K H' r a ns ∧ ∃ acc : List Int, H' G = some (.lst (acc.map V.int)) ∧ (∀ z ∈ acc, 0 ≤ z ∧ z < (h : Int)) ∧ acc.length = i)
          ⟨samex_new sx3 hG0, R3.same (same_upd hG), [], upd_same, (fun z hz => nomatch hz), rfl⟩ ?_ ?_
        · rintro i H' hi ⟨sx4, R4, acc, eG, hb4, hl4⟩
          refine ⟨rfl, _, rfl, _, rfl, _, rfl, r, a, ns, (h : Int), rfl, R4, by omega, by omega, fun H5 c s5 R5 c0 c1 => ?_⟩
          refine ⟨_, _, rfl, rfl, .inl ⟨by omega, by omega⟩, .inl ⟨_, rfl, _, rfl, _, _, rfl, rfl, (by show 0 < (h : Int); omega), ?_⟩⟩
          have eG5 := s5 _ _ eG hGr
          refine ⟨_, eG5, ?_, samex_new (sx4.trans s5) hG0, R5.other eG5 hGr, acc ++ [z * c % (h : Int)], ?_, ?_, ?_⟩
          · rw [List.length_map]
            exact sz_lt (by omega)
          · rw [upd_same, List.map_append]
            rfl
          · intro y hy
            rcases List.mem_append.mp hy with hy | hy
            · exact hb4 y hy
            · rw [List.mem_singleton.mp hy]
              exact ⟨Int.emod_nonneg _ (by omega), Int.emod_lt_of_pos _ (by omega)⟩
          · rw [List.length_append, List.length_singleton, hl4]
        · rintro H4 ⟨sx4, R4, acc, eG, hb4, hl4⟩
          refine ⟨G, _, rfl, .inl ⟨sqL_of eG, fun p hp => ?_⟩⟩
          exact q _ p acc (sx4.trans (same_x (same_upd hp))) (R4.same (same_upd hp)) ⟨upd_same, hl4, hb4⟩
end
end K42
set_option Elab.async false
set_option linter.all false
set_option maxRecDepth 100000
set_option maxHeartbeats 8000000
namespace K42
open PySem PySem.Spec PyProof.Rows L2
section
variable {X : Cx}
/-- sorted(xs), xs of data; what the items stand for is said in the reading -/
def rSortE {α : Type} (K : PySem.W.Frag) (enc : α → PyData) : List V → Hp → VK → Prop := fun vs H Q => ∃ R : V → α → Prop, rSortD K R enc vs H Q
theorem cr_sortE {α : Type} (enc : α → PyData) (hu : X.A.units + 64 < cLine) : CallR X (.builtin "sorted") (rSortE X.K enc) := by
  intro pins s σ H vs us Q I r h
  obtain ⟨R, h⟩ := h
  exact cr_sortD R enc hu pins s σ H vs us Q I r h
end
theorem alike_all : ∀ a b : List (List Int), PySem.W.alikeAll (a.map encT) (b.map encT) = true
  | [], [] => by rw [List.map_nil, PySem.W.alikeAll]
  | [], _ :: _ => by rw [List.map_nil, PySem.W.alikeAll]
  | _ :: _, [] => by rw [List.map_nil, List.map_cons, PySem.W.alikeAll]
  | x :: a, y :: b => by rw [List.map_cons, List.map_cons, PySem.W.alikeAll, alike_T, alike_all a b]; rfl
theorem alike_C (a b : List (List Int)) : PySem.W.alike (encC a) (encC b) = true := by
  show PySem.W.alike (.list _) (.list _) = true
  rw [PySem.W.alike]
  exact alike_all a b
theorem le_C {a b : List Dial} (h : HdLt a b) : PySem.W.dataLe false encC a b = true := by
  obtain ⟨x, a', y, b', rfl, rfl, hle, hne⟩ := h
  rw [PySem.W.dataLe_eq]
  show (!PySem.W.dataLt (.list ((y :: b').map encT)) (.list ((x :: a').map encT))) = true
  rw [PySem.W.dataLt_list, List.map_cons, List.map_cons, PySem.W.dataLt_cons alike_T, eqv_T, if_neg (by rw [decide_eq_true_eq]; exact fun z => hne z.symm)]
  show (!PySem.W.dataLt (.tuple (y.map .int)) (.tuple (x.map .int))) = true
  rw [PySem.W.dataLt_tuple]
  show (!PySem.W.rowLt (y.map .int) (x.map .int)) = true
  rw [PySem.W.dataLt_ints, ← lex_lt]
  exact hle
theorem sort_C {cs : List (List Dial)} (h : cs.Pairwise HdLt) : cs.mergeSort (PySem.W.dataLe false encC) = cs :=
  List.mergeSort_of_pairwise (h.imp fun h => le_C h)
section
variable {P : Program} {w : World} {K : PySem.W.Frag} {mg : Str → Option Value} {base : Heap}
theorem LIx.dp {D : Addr} {H : Hp} {x : V} {ns : List Int} (h : LIx D H x ns) : Dp K H x (encL ns) := by
  obtain ⟨a, rfl, _, q⟩ := h
  exact dp_L (sqL_of q)
theorem CLx.dp {D : Addr} {H : Hp} {v : V} {c : List Dial} (h : CLx D H v c) : Dp K H v (encC c) := by
  obtain ⟨a, ys, rfl, _, q, t⟩ := h
  exact .lst (sqL_of q) (dpAll_of (fun _ _ r => TI.dp r) t)
theorem WOk.arIn {n : Nat} {ar : List Arr} (W : WOk n ar) : ArIn n ar := fun a ha => by
  obtain ⟨⟨a1, a2, a3, a4, _⟩, _⟩ := W.arr ha
  exact ⟨a1, a2, a3, a4⟩
theorem wok_nil {n : Nat} (n1 : 1 ≤ n) (n3 : n ≤ 3) : WOk n [] := ⟨n1, n3, subs_of (allArr_asc n1 n3) .nil fun _ z => nomatch z⟩
def spLaw (K : PySem.W.Frag) : Sp := fun vs H Q _ => ∃ (a : Addr) (ns : List Int), vs = [.ref a] ∧ Scr K H a ns ∧ ns.length ≤ 63 ∧ ∀ H', Q (.bl true) H'
theorem ok_law {f : Addr} {fd : FuncData} {k : Nat} (F : Fun K "law" "law" sLaw f fd) (B : Bt mg) (cT : Ca P w K mg base k "_law_taken" (spTaken K)) (cP : Ca P w K mg base k "_law_pick" (spPick K)) (cW : Ca P w K mg base k "_law_web" (spWeb K))
    (cL : Ca P w K mg base k "_law_leads" spLeads) (cA : Ca P w K mg base k "_law_alike" spAlike) (cS : Ca P w K mg base k "same_classes" spSame) (cC : Ca P w K mg base k "_law_classes" spClasses) (cD : Ca P w K mg base k "_law_dial" (spDial K)) (cN : Ca P w K mg base k "can_come" spCan) :
    FnOk P w K mg base CX0 (k + 1) f fd ["_law_script"] (spLaw K) := by
  refine F.ok scLaw (fun vs H Q E h => ?_) (fun cdv A outer s H vs Q E hr h => ?_)
  · obtain ⟨a, ns, rfl, _⟩ := h
    rfl
  · obtain ⟨a, ns, rfl, hS, hlen, q⟩ := h
    have hu : (cxOf CX0 P w K mg base ["_law_script", "_law_row", "_law_web_here", "_law_other", "_law_turn", "_law_leads_here", "_law_arrow", "_law_ends", "_law_hours", "_law_same", "_law_dial_here", "_law_there", "_law_j"] "law" (defScope sLaw) f cdv A outer s H E).nox.A.units + 64 < cLine := hr.units
    refine ⟨_, pss_cons (ps_set (i := 1) scLaw.nd rfl (.inl rfl) (pe_lst (pa_cons (pv 0) (pa_cons pe_int (pa_cons pe_int (pa_cons pe_int pa_nil))))))
      (pss_cons (ps_set (i := 2) scLaw.nd rfl (.inl rfl) (pe_ca cW hr (Nat.le_refl _) (by rfl) (pa_cons (pv 1) (pa_cons pe_int pa_nil))))
      (pss_cons (ps_set (i := 3) scLaw.nd rfl (.inl rfl) (pe_ca cW hr (Nat.le_refl _) (by rfl) (pa_cons (pv 1) (pa_cons pe_int pa_nil))))
      (pss_cons (ps_for PassesOwn.never rfl (pi_range1 rfl B.range (pa_cons pe_int pa_nil)) (pg_name (i := 4) scLaw.nd rfl (.inl rfl))
        (pss_one (ps_set (i := 3) scLaw.nd rfl (.inl rfl) (pe_ifExp (pt_cmpR op_eq (pe_ix ix_tup (pv 3) pe_int (fun _ _ => rfl)) (pe_ix ix_tup (pv 2) pe_int (fun _ _ => rfl)) (nomark _)) (pv 3) (pe_ca cW hr (Nat.le_refl _) (by rfl) (pa_cons (pv 1) (pa_cons pe_int pa_nil)))))))
      (pss_cons (ps_if (pt_cmpR op_ne (pe_ix ix_tup (pv 3) pe_int (fun _ _ => rfl)) (pe_ix ix_tup (pv 2) pe_int (fun _ _ => rfl)) (nomark _))
        (pss_one (ps_set (i := 3) scLaw.nd rfl (.inl rfl) (pe_tup (pa_cons (pe_ix ix_tup (pv 2) pe_int (fun _ _ => rfl)) (pa_cons (pe_tup pa_nil) pa_nil))))) pss_nil)
      (pss_cons (ps_if (PW.pt (pw_and (pt_cmpR op_eq (pe_ca cT hr (Nat.le_refl _) (by rfl) (pa_cons (pv 1) (pa_cons pe_int pa_nil))) pe_int (nomark _)) (pw_and1 (pt_cmpR (op_neD hu) (pe_ix ix_tup (pv 2) pe_int (fun _ _ => rfl)) (pe_tup pa_nil) (nomark _)))))
        (pss_cons (ps_asg (pe_tup (pa_cons (pe_ca cL hr (Nat.le_refl _) (by rfl) (pa_cons (pv 2) pa_nil)) (pa_cons (pe_ca cP hr (Nat.le_refl _) (by rfl) (pa_cons (pv 1) (pa_cons (pe_ix ix_tup (pv 2) pe_int (fun _ _ => rfl)) pa_nil))) pa_nil)))
            (pg_tup rfl (pgs_cons (pg_name (i := 5) scLaw.nd rfl (.inr rfl)) (pgs_cons (pg_name (i := 6) scLaw.nd rfl (.inr rfl)) pgs_nil))))
        (pss_cons (ps_setLc (i := 7) (own := [("_law_j", 12)]) (g := gName 12) (by rfl) scLaw.nd rfl rfl (sw_true rfl rfl rfl (by decide +kernel)) (pi_range1 rfl B.range (pa_cons (pe_ix ix_tup (pv 2) pe_int (fun _ _ => rfl)) pa_nil))
            (blkOk_by (N := ["_law_script", "_law_row", "_law_web_here", "_law_other", "_law_turn", "_law_leads_here", "_law_arrow", "_law_ends", "_law_hours", "_law_same", "_law_dial_here", "_law_there", "_law_j"]) (sc := defScope sLaw) (by decide +kernel)) (fun _ _ _ _ _ => pg_name (i := 12) scLaw.nd rfl (Or.inl rfl))
            (fun _ _ _ _ _ => pts_one (PW.pt (pw_and (pt_cmpR (show OpR _ _ (rIn K false) from op_in_seq) (pv 12) (pe_ix (show IxR _ (rIxL K) from ix_list) (pv 5) (pe_ix (show IxR _ (rIxT K) from ix_tup) (pv 6) pe_int (fun _ _ => rfl)) (fun _ _ => rfl)) (by rfl))
              (pw_and1 (pt_cmpR op_ne (pv 12) (pe_ix (show IxR _ (rIxT K) from ix_tup) (pv 6) pe_int (fun _ _ => rfl)) (nomark _)))))) (fun _ _ _ _ _ => pv 12))
        (pss_one (ps_set (i := 3) scLaw.nd rfl (.inl rfl) (pe_tup (pa_cons (pe_ix ix_tup (pv 2) pe_int (fun _ _ => rfl)) (pa_cons (pe_callTy call_tuple_of (by rfl) B.tuple (by decide +kernel) (pa_cons
          (pe_callB (cr_sortedT (by rfl)) (by rfl) B.sorted (by decide +kernel) (pa_cons (pe_callTy (cr_setTT (by rfl) hu) (by rfl) B.set (by decide +kernel) (pa_cons
            (pe_op op_catA (pe_ix ix_tup (pv 2) pe_int (fun _ _ => rfl)) (pe_tup (pa_cons (pe_tup (pa_cons (pe_ix ix_tup (pv 6) pe_int (fun _ _ => rfl)) (pa_cons (pe_ca cP hr (Nat.le_refl _) (by rfl) (pa_cons (pv 1) (pa_cons (pv 7) pa_nil))) pa_nil))) pa_nil))) pa_nil)) pa_nil)) pa_nil)) pa_nil))))))) pss_nil)
      (pss_cons (ps_set (i := 8) scLaw.nd rfl (.inl rfl) (pe_op op_add pe_int (pe_ca cT hr (Nat.le_refl _) (by rfl) (pa_cons (pv 1) (pa_cons pe_int pa_nil)))))
      (pss_cons (ps_set (i := 9) scLaw.nd rfl (.inl rfl) (pe_cmpR (op_eqD hu) (pe_ca cL hr (Nat.le_refl _) (by rfl) (pa_cons (pv 2) pa_nil)) (pe_ca cL hr (Nat.le_refl _) (by rfl) (pa_cons (pv 3) pa_nil)) (nomark _)))
      (pss_cons (ps_if (pt_not (pt_val (pe_ca cA hr (Nat.le_refl _) (by rfl) (pa_cons (pe_ca cS hr (Nat.le_refl _) (by rfl) (pa_cons (pv 2) (pa_cons (pv 3) pa_nil))) (pa_cons (pv 9) pa_nil))))) pss_never pss_nil)
      (pss_cons (ps_if (pt_cmpR op_ne (pe_cmpR (op_eqD hu) (pe_callB (cr_sortE encC hu) (by rfl) B.sorted (by decide +kernel) (pa_cons (pe_ca cC hr (Nat.le_refl _) (by rfl) (pa_cons (pv 2) (pa_cons (pv 8) pa_nil))) pa_nil)) (pe_callB (cr_sortE encC hu) (by rfl) B.sorted (by decide +kernel) (pa_cons (pe_ca cC hr (Nat.le_refl _) (by rfl) (pa_cons (pv 3) (pa_cons (pv 8) pa_nil))) pa_nil)) (nomark _)) (pv 9) (nomark _)) pss_never pss_nil)
      (pss_cons (ps_par (i := 10) (j := 11) (by rfl) scLaw.nd rfl rfl (by decide) rfl rfl (pa_cons (pe_ca cD hr (Nat.le_refl _) (by rfl) (pa_cons (pv 1) (pa_cons (pv 2) (pa_cons (pv 8) pa_nil)))) (pa_cons (pe_ca cD hr (Nat.le_refl _) (by rfl) (pa_cons (pv 1) (pa_cons (pv 2) (pa_cons (pv 8) pa_nil)))) pa_nil)) (by rfl))
      (pss_one (ps_ret (pe_or (pe_not (pv 9)) (pe_one (pe_cmpR op_eq (pe_ca cN hr (Nat.le_refl _) (by rfl) (pa_cons (pv 2) (pa_cons (pv 8) (pa_cons (pv 10) (pa_cons (pv 11) pa_nil))))) (pe_ca cN hr (Nat.le_refl _) (by rfl) (pa_cons (pv 3) (pa_cons (pv 8) (pa_cons (pv 10) (pa_cons (pv 11) pa_nil))))) (nomark _)))))))))))))))), ?_⟩
    refine ⟨_, rfl, by show 4 ≤ sizeLine; decide, fun r nr => ?_⟩
    have hS' : Scr K (upd H r (.lst [.ref a, .int 0, .int 9942, .int 0])) a ns := by
      rcases hS with ⟨o, e⟩ | h
      · exact .inl ⟨o, same_upd nr _ _ e⟩
      · exact .inr h
    have R0 : RowAt K (upd H r (.lst [.ref a, .int 0, .int 9942, .int 0])) r a ns := ⟨⟨0, 9942, 0, upd_same, by decide⟩, hS', hlen⟩
    generalize upd H r (.lst [.ref a, .int 0, .int 9942, .int 0]) = H0 at R0 ⊢
    refine ⟨_, rfl, r, a, ns, rfl, R0, fun H1 x n ar s1 R1 W1 ok => ⟨_, rfl, r, a, ns, rfl, R1, fun H2 y2 m2 br2 s2 R2 Y2 oy2 => ?_⟩⟩
    have W2 := W1.x s2 R1
    dsimp only
    -- six turns
    refine seq_by (fun σ H' => ∃ (y : Addr) (m : Nat) (br : List Arr) (a4 : Option V), σ = [some (.ref a), some (.ref r), some (.ref x), some (.ref y), a4, none, none, none, none, none, none, none, none] ∧ RowAt K H' r a ns ∧ WebAt H' x n ar ∧ WebAt H' y m br ∧ WOk m br)
      (fun N hN => ?_) ?_
    · refine ⟨((6 : Nat) : Int), rfl, by decide, by decide, ?_⟩
      refine for_range (lo := 0) (n := 6) (fun i σ H' => ∃ (y : Addr) (m : Nat) (br : List Arr) (a4 : Option V), σ = [some (.ref a), some (.ref r), some (.ref x), some (.ref y), a4, none, none, none, none, none, none, none, none] ∧ RowAt K H' r a ns ∧ WebAt H' x n ar ∧ WebAt H' y m br ∧ WOk m br)
        ⟨y2, m2, br2, none, rfl, R2, W2, Y2, oy2⟩ ?_ ?_
      · rintro i σ H' hi ⟨y, m, br, a4, rfl, R, W, Y, oy⟩
        obtain ⟨tx, xs, w1, w2, w3⟩ := id W
        obtain ⟨ty, ys, y1, y2, y3⟩ := id Y
        refine ⟨_, rfl, y, _, _, _, rfl, rfl, sqT_of y1, atI_nat (j := 0) rfl, _, rfl, x, _, _, _, rfl, rfl, sqT_of w1, atI_nat (j := 0) rfl, rfl, _, rfl, ?_⟩
        refine ite2 (fun _ => ?_) (fun _ => ?_)
        · exact ⟨_, rfl, y, m, br, _, rfl, R, W, Y, oy⟩
        · exact ⟨_, rfl, r, a, ns, rfl, R, fun H3 z m' cr s3 R3 Z oz => ⟨z, m', cr, _, rfl, R3, W.x s3 R, Z, oz⟩⟩
      · rintro σ H' h
        exact hN _ _ h
    rintro σ H' ⟨y, m, br, a4, rfl, R, W, Y, oy⟩
    -- if other[0] != web_here[0]
    refine seq_by (fun σ H' => ∃ (y : Addr) (br : List Arr) (a4 : Option V), σ = [some (.ref a), some (.ref r), some (.ref x), some (.ref y), a4, none, none, none, none, none, none, none, none] ∧ RowAt K H' r a ns ∧ WebAt H' x n ar ∧ WebAt H' y n br ∧ WOk n br)
      (fun N hN => ?_) ?_
    · obtain ⟨tx, xs, w1, w2, w3⟩ := id W
      obtain ⟨ty, ys, y1, y2, y3⟩ := id Y
      refine ⟨_, rfl, y, _, _, _, rfl, rfl, sqT_of y1, atI_nat (j := 0) rfl, _, rfl, x, _, _, _, rfl, rfl, sqT_of w1, atI_nat (j := 0) rfl, rfl, _, rfl, ?_⟩
      refine ite2 (fun _ => ?_) (fun hmn => ?_)
      · refine ⟨_, rfl, x, _, _, _, rfl, rfl, sqT_of w1, atI_nat (j := 0) rfl, by show 0 ≤ sizeLine; decide, fun t ht => ⟨by show 2 ≤ sizeLine; decide, fun p hp => ?_⟩⟩
        have s3 := (same_upd (o := .tup []) ht).trans (same_upd (o := .tup [.int (n : Int), .ref t]) hp)
        exact hN _ _ ⟨p, [], a4, rfl, R.same s3, W.same s3, ⟨t, [], upd_same, same_upd hp _ _ upd_same, .nil⟩, wok_nil ok.n1 ok.n3⟩
      · have e : m = n := by
          by_cases h : (m : Int) = n
          · omega
          · exact absurd (by rw [decide_eq_false (fun z => h (V.int.inj z))]; rfl) hmn
        subst e
        exact hN _ _ ⟨y, br, a4, rfl, R, W, Y, oy⟩
    clear Y oy R W
    rintro σ H' ⟨y, br, a4, rfl, R, W, Y, oy⟩
    -- if taken(row, 2) == 0 and web_here[1] != ()
    refine seq_by (fun σ H' => ∃ (y : Addr) (br : List Arr) (a4 a5 a6 a7 : Option V), σ = [some (.ref a), some (.ref r), some (.ref x), some (.ref y), a4, a5, a6, a7, none, none, none, none, none] ∧ RowAt K H' r a ns ∧ WebAt H' x n ar ∧ WebAt H' y n br ∧ WOk n br)
      (fun N hN => ?_) ?_
    · refine ifS_by (fun b H2 => RowAt K H2 r a ns ∧ SameX r H' H2 ∧ (b = true → ar ≠ [])) (fun Qb hq => ?_) ?_ ?_
      · refine ⟨_, rfl, r, a, ns, 2, rfl, R, by decide, by decide, fun H3 i s3 R3 i0 i1 => ⟨rfl, _, rfl, ite2 (fun _ => ?_) (fun _ => hq _ _ ⟨R3, s3, fun h => nomatch h⟩)⟩⟩
        obtain ⟨tx, xs, w1, w2, w3⟩ := W.x s3 R
        refine ⟨_, rfl, x, _, _, _, rfl, rfl, sqT_of w1, atI_nat (j := 1) rfl, by show 0 ≤ sizeLine; decide, fun t ht => ?_⟩
        have s4 := same_upd (o := .tup []) ht
        refine ⟨.tuple ((ar.map arV).map encT), .tuple (([] : List (List Int)).map encT), .tup (sqT_of (s4 _ _ w2)) (dpAll_of (fun _ _ r => TI.dp r) (w3.kt (kt_same s4))), .tup (sqT_of upd_same) .nil, (sh_tup (sh_map sh_T _)).shaped (by decide), (sh_tup (sh_map sh_T _)).shaped (by decide), ?_⟩
        rw [eqv_tup eqv_T]
        refine ⟨_, rfl, hq _ _ ⟨R3.same s4, s3.trans (same_x s4), fun h e => ?_⟩⟩
        rw [e, decide_eq_true (show ([] : List Arr).map arV = [] from rfl)] at h
        exact nomatch h
      · rintro H2 ⟨R3, s3, hne⟩
        have hne := hne rfl
        have W3 := W.x s3 R
        have Y3 := Y.x s3 R
        refine ⟨_, rfl, x, n, ar, rfl, W3, ok.n1, ok.n3, ok.few, fun H4 D refs s4 nD eD pD => ?_⟩
        obtain ⟨tx, xs, w1, w2, w3⟩ := W3.same s4
        have R4 := R3.same s4
        rw [law_leads ok] at pD
        have hxl : xs.length = ar.length := by rw [w3.length, List.length_map]
        have hal : 1 ≤ ar.length := List.length_pos_iff.mpr hne
        have har6 := ok.few
        have hn3 := ok.n3
        have htr : tx ≠ r := by
          obtain ⟨zs, er⟩ := R4.lst
          exact ne_of w2 er (fun z => nomatch z)
        refine ⟨_, rfl, _, rfl, x, _, _, _, rfl, rfl, sqT_of w1, atI_nat (j := 1) rfl, r, a, tx, ns, xs, rfl, R4, .inr w2, htr, by omega, by omega, fun H5 v s5 R5 hv => ?_⟩
        obtain ⟨iv, hiv⟩ := List.mem_iff_getElem?.mp hv
        obtain ⟨na, hna, Tv⟩ := w3.get hiv
        rw [List.getElem?_map] at hna
        obtain ⟨u, hu4, eu⟩ : ∃ u, ar[iv]? = some u ∧ arV u = na := by
          cases e4 : ar[iv]? with
          | none => rw [e4] at hna; cases hna
          | some u => rw [e4] at hna; exact ⟨u, rfl, Option.some.inj hna⟩
        subst eu
        have huar : u ∈ ar := List.mem_of_getElem? hu4
        obtain ⟨⟨u1, u2, u3, u4, u5⟩, _⟩ := ok.arr huar
        have k5 : KT H4 H5 := s5.kt R4
        obtain ⟨pu, rfl, epu⟩ := Tv.kt k5
        have hDr : D ≠ r := ne_row R3 nD
        have eD5 : H5 D = some (.lst refs) := s5 _ _ eD hDr
        obtain ⟨lk, hlk, LK⟩ := paired_get (i := u.2.toNat) (b := led ar u.2.toNat) pD (by
          unfold K42.leds
          rw [List.getElem?_map, List.getElem?_range (by omega)]
          rfl)
        obtain ⟨al, rfl, _, eal⟩ := LK
        have halr : al ≠ r := by
          intro z
          obtain ⟨⟨p0, q0, r0, er, _⟩, _⟩ := R4
          rw [z, er] at eal
          have := HO.lst.inj (Option.some.inj eal)
          cases hl : led ar u.2.toNat with
          | nil => rw [hl] at this; exact nomatch this
          | cons b c => rw [hl] at this; injection this with h1 _; exact nomatch h1
        have eal5 := s5 _ _ eal halr
        obtain ⟨_, hrng, hself, _⟩ := ok.leds (k := u.2.toNat) (by omega)
        refine ⟨by show 2 ≤ sizeLine; decide, fun p hp => ?_⟩
        have s6 := same_upd (o := .tup [.ref D, .ref pu]) hp
        refine ⟨p, _, rfl, sqT_of upd_same, rfl, _, _, rfl, _, _, rfl, rfl, ?_⟩
        have R6 := R5.same s6
        have w1' := s6 _ _ (k5 _ _ w1)
        have w2' := s6 _ _ (k5 _ _ w2)
        have w3' := w3.kt (k5.trans (kt_same s6))
        have eD6 := s6 _ _ eD5
        have eal6 := s6 _ _ eal5
        have epu6 := s6 _ _ epu
        have Y6 := ((Y3.same s4).kt k5).same s6
        generalize upd H5 p (.tup [.ref D, .ref pu]) = H6 at R6 w1' w2' w3' eD6 eal6 epu6 Y6 ⊢
        -- ends
        refine ⟨_, rfl, x, _, _, _, rfl, rfl, sqT_of w1', atI_nat (j := 0) rfl, (n : Int), rfl, by omega, by omega, fun G hG => ?_⟩
        refine lc_range (lo := 0) (n := n) (fun i H' => Same H6 H' ∧ ∃ acc : List Int, H' G = some (.lst (acc.map V.int)) ∧ (∀ z ∈ acc, (u.1, z) ∈ allArr n) ∧ acc.length ≤ i ∧ (u.2 < (i : Int) → 1 ≤ acc.length))
          ⟨same_upd hG, [], upd_same, (fun z hz => nomatch hz), Nat.le_refl _, fun hi => absurd hi (by show ¬ u.2 < ((0 : Nat) : Int); omega)⟩ ?_ ?_
        · rintro i H' hi ⟨s7, acc, eG, hb, hl, hl1⟩
          rw [show (0 : Int) + (i : Int) = (i : Int) from Int.zero_add _]
          have epu7 := s7 _ _ epu6
          have eal7 := s7 _ _ eal6
          have eD7 := s7 _ _ eD6
          have hat : atI refs u.2 = some (.ref al) := at_of (j := u.2.toNat) (by omega) hlk
          refine ⟨rfl, _, rfl, _, rfl, _, rfl, pu, _, _, _, rfl, rfl, sqT_of epu7, atI_nat (j := 1) rfl, D, refs, u.2, _, rfl, rfl, sqL_of eD7, hat, al, _, rfl, .inl (sqL_of eal7), rfl, flat_ints _, _, rfl, ?_⟩
          show if inV (V.int (i : Int)) ((led ar u.2.toNat).map V.int) = true then _ else _
          rw [inV_ints]
          by_cases h1 : (i : Int) ∈ led ar u.2.toNat
          · rw [decide_eq_true h1]
            refine iteT ⟨_, rfl, _, rfl, pu, _, _, _, rfl, rfl, sqT_of epu7, atI_nat (j := 0) rfl, rfl, _, rfl, ?_⟩
            by_cases h5 : (i : Int) = u.1
            · have ed : (!decide (V.int (i : Int) = V.int u.1)) = false := by rw [decide_eq_true (by rw [h5])]; rfl
              rw [ed]
              exact iteF ⟨s7, acc, eG, hb, by omega, fun hu => hl1 (by omega)⟩
            · have ed : (!decide (V.int (i : Int) = V.int u.1)) = true := by rw [decide_eq_false (fun z => h5 (V.int.inj z))]; rfl
              rw [ed]
              refine iteT ⟨_, rfl, _, eG, ?_, same_wr s7 hG, acc ++ [(i : Int)], ?_, ?_, ?_, ?_⟩
              · rw [List.length_map]
                exact sz_lt (by omega)
              · rw [upd_same, List.map_append]
                rfl
              · intro z hz
                rcases List.mem_append.mp hz with hz | hz
                · exact hb z hz
                · rw [List.mem_singleton.mp hz]
                  exact mem_allArr u1 u2 (by omega) (by omega) (fun z => h5 z.symm)
              · rw [List.length_append, List.length_singleton]
                omega
              · intro _
                rw [List.length_append, List.length_singleton]
                omega
          · rw [decide_eq_false h1]
            refine iteF (iteF ⟨s7, acc, eG, hb, by omega, fun hu => hl1 ?_⟩)
            have : (i : Int) ≠ u.2 := fun z => h1 (by
              have e : ((u.2.toNat : Nat) : Int) = u.2 := Int.toNat_of_nonneg u3
              rw [z.trans e.symm]
              exact hself)
            omega
        · rintro H7 ⟨s7, acc, eG, hb, hl, hl1⟩
          have hl1 := hl1 u4
          have R7 := R6.same s7
          have hGr : G ≠ r := ne_row R6 hG
          have epu7 := s7 _ _ epu6
          have w17 := s7 _ _ w1'
          have w27 := s7 _ _ w2'
          refine ⟨_, rfl, x, _, _, _, rfl, rfl, sqT_of w17, atI_nat (j := 0) rfl, _, rfl, x, _, _, _, rfl, rfl, sqT_of w17, atI_nat (j := 1) rfl, _, rfl, pu, _, _, _, rfl, rfl, sqT_of epu7, atI_nat (j := 0) rfl,
            _, rfl, _, rfl, r, a, G, ns, acc.map V.int, rfl, R7, .inl eG, hGr, by rw [List.length_map]; omega, by rw [List.length_map]; omega, fun H8 vz s8 R8 hvz => ?_⟩
          obtain ⟨z, hz, rfl⟩ := List.mem_map.mp hvz
          have k8 : KT H6 H8 := (kt_same s7).trans (s8.kt R7)
          refine ⟨by show 2 ≤ sizeLine; decide, fun p1 hp1 => ⟨by show 1 ≤ sizeLine; decide, fun p2 hp2 => ?_⟩⟩
          have s9 := (same_upd (o := .tup [.int u.1, .int z]) hp1).trans (same_upd (o := .tup [.ref p1]) hp2)
          have e1 : upd (upd H8 p1 (.tup [.int u.1, .int z])) p2 (.tup [.ref p1]) p1 = some (.tup ([u.1, z].map V.int)) := same_upd hp2 _ _ upd_same
          have e2 : upd (upd H8 p1 (.tup [.int u.1, .int z])) p2 (.tup [.ref p1]) p2 = some (.tup [.ref p1]) := upd_same
          generalize upd (upd H8 p1 (.tup [.int u.1, .int z])) p2 (.tup [.ref p1]) = H9 at s9 e1 e2 ⊢
          have k9 := k8.trans (kt_same s9)
          have R9 := R8.same s9
          have w29 := k9 _ _ w2'
          refine ⟨tx, p2, xs, _, rfl, rfl, sqT_of w29, sqT_of e2, sz_le (by show xs.length + 1 ≤ _; omega), (fun e => absurd (congrArg List.length e) (by show ¬ xs.length = 0; omega)), (fun _ e => nomatch e), fun _ _ p3 hp3 => ?_⟩
          have s10 : Same H9 (upd H9 p3 (.tup (xs ++ [.ref p1]))) := same_upd hp3
          have e3 : upd H9 p3 (.tup (xs ++ [.ref p1])) p3 = some (.tup (xs ++ [.ref p1])) := upd_same
          generalize upd H9 p3 (.tup (xs ++ [.ref p1])) = H10 at s10 e3 ⊢
          have k10 := k9.trans (kt_same s10)
          have ta : TIs H10 (xs ++ [.ref p1]) ((ar ++ [(u.1, z)]).map arV) := by
            rw [List.map_append]
            exact TIs.append (w3'.kt k10) (.cons ⟨p1, rfl, s10 _ _ e1⟩ .nil)
          obtain ⟨ks, ex, ed, hk⟩ := ks_of ta
          have hkl : ks.length ≤ 9 := by
            have h9 := congrArg List.length ed
            rw [List.length_map, List.length_map, List.length_append, List.length_singleton] at h9
            omega
          have hka : ∀ p ∈ ks, ∃ b ∈ allArr n, p.2 = arV b := fun p hp => by
            have h9 : p.2 ∈ (ar ++ [(u.1, z)]).map arV := by rw [ed]; exact List.mem_map.mpr ⟨p, hp, rfl⟩
            obtain ⟨b, hb9, e⟩ := List.mem_map.mp h9
            refine ⟨b, ?_, e.symm⟩
            rcases List.mem_append.mp hb9 with hb9 | hb9
            · exact (ok.arr hb9).2
            · rw [List.mem_singleton.mp hb9]
              exact hb z hz
          refine ⟨p3, ks, rfl, by rw [← ex]; exact sqT_of e3, fun p hp => sqT_of (hk p hp), by omega, fun sa L nsa hL1 hL2 => ?_⟩
          have s11 : Same H10 (upd H10 sa (SetTO P w sa L)) := same_upd nsa
          have hLa : ∀ p ∈ L, ∃ b ∈ allArr n, p.2 = arV b := fun p hp => hka p (hL1 p hp)
          refine ⟨sa, L, 2, 64, rfl, upd_same, fun p hp => sqT_of (s11 _ _ (hk p (hL1 p hp))), by decide, fun p hp => ?_, fun L' sp pm nd lt pw nsp => ?_⟩
          · obtain ⟨b, hb9, e⟩ := hLa p hp
            obtain ⟨b1, b2, b3, b4, _⟩ := allArr_mem hb9
            rw [e]
            refine ⟨rfl, fun m hm => ?_⟩
            simp only [arV, List.mem_cons, List.not_mem_nil, or_false] at hm
            rcases hm with e | e <;> omega
          have hLa' : ∀ p ∈ L', ∃ b ∈ allArr n, p.2 = arV b := fun p hp => hLa p (pm.mem_iff.mp hp)
          obtain ⟨cr, hW, ecr, _⟩ := web_fin ok.n1 ok.n3 hLa' nd pw
          have s12 := s11.trans (same_upd (o := .lst (L'.map fun q => V.ref q.1)) nsp)
          refine ⟨sp, _, rfl, .inl ⟨sqL_of upd_same, fun tp ntp => ⟨by show 2 ≤ sizeLine; decide, fun x2 nx => ?_⟩⟩⟩
          have s13 := s12.trans (same_upd (o := .tup (L'.map fun q => V.ref q.1)) ntp)
          have s14 := s13.trans (same_upd (o := .tup [.int (n : Int), .ref tp]) nx)
          refine hN _ _ ⟨x2, cr, a4, _, _, _, rfl, R9.same (s10.trans s14), ⟨tx, xs, (k10.trans (kt_same s14)) _ _ w1', (k10.trans (kt_same s14)) _ _ w2', w3'.kt (k10.trans (kt_same s14))⟩, ⟨tp, L'.map fun q => V.ref q.1, upd_same, ?_, ?_⟩, hW⟩
          · exact same_upd nx _ _ upd_same
          · rw [← ecr]
            exact tis_of fun p hp => s14 _ _ (hk p (hL1 p (pm.mem_iff.mp hp)))
      · rintro H2 ⟨R3, s3, _⟩
        exact hN _ _ ⟨y, br, a4, none, none, none, rfl, R3, W.x s3 R, Y.x s3 R, oy⟩
    clear Y oy R W
    rintro σ H' ⟨y, br, a4, a5, a6, a7, rfl, R, W, Y, oy⟩
    have hn1 := ok.n1
    have hn3 := ok.n3
    refine ⟨_, rfl, r, a, ns, 3, rfl, R, by decide, by decide, fun H3 i0 s3 R3 b0 b1 => ⟨_, _, rfl, rfl, ?_⟩⟩
    obtain ⟨h, hh⟩ : ∃ h : Nat, 2 + i0 = (h : Int) := ⟨(2 + i0).toNat, by omega⟩
    have h2 : 2 ≤ h := by omega
    have h4 : h ≤ 4 := by omega
    show tSeq _ _ _ ([some (.ref a), some (.ref r), some (.ref x), some (.ref y), a4, a5, a6, a7, some (.int (2 + i0)), none, none, none, none] : L2.St) H3
    rw [hh]
    have W3 := W.x s3 R
    have Y3 := Y.x s3 R
    -- same
    refine ⟨_, rfl, x, n, ar, rfl, W3, ok.n1, ok.n3, ok.few, fun H4 D refs s4 nD eD pD => ⟨_, rfl, y, n, br, rfl, Y3.same s4, ok.n1, ok.n3, oy.few, fun H5 D' refs' s5 nD' eD' pD' => ?_⟩⟩
    refine ⟨.list ((lawLeads n ar).map encL), .list ((lawLeads n br).map encL), .lst (sqL_of (s5 _ _ eD)) (dpAll_of (fun _ _ r => LIx.dp r) (Paired.mapP pD fun _ _ r => r.same s5)), .lst (sqL_of eD') (dpAll_of (fun _ _ r => LIx.dp r) pD'), (sh_list (sh_map sh_L _)).shaped (by decide), (sh_list (sh_map sh_L _)).shaped (by decide), ?_⟩
    rw [eqv_lst eqv_L, law_leads ok, law_leads oy]
    have s35 := s4.trans s5
    have R5 := R3.same s35
    have W5 := W3.same s35
    have Y5 := Y3.same s35
    clear s35 s5 s4 s3 R3 W3 Y3 eD pD eD' pD' R W Y nD nD'
    dsimp only
    -- alike
    refine ⟨_, rfl, _, rfl, x, y, n, ar, br, rfl, W5, ok, Y5, oy, fun H6 s6 => ⟨_, rfl, _, _, rfl, fun H7 s7 => ?_⟩⟩
    have s57 := s6.trans s7
    have R7 := R5.same s57
    have W7 := W5.same s57
    have Y7 := Y5.same s57
    refine ⟨_, rfl, ?_⟩
    rw [decide_eq_true (show decide (closed n (leds n ar) = closed n (leds n br)) = decide (leds n ar = leds n br) from by rw [decide_eq_decide]; exact closed_iff ok oy)]
    refine iteF ?_
    -- classes
    obtain ⟨_, _, _, _, gA, _, pA⟩ := cls_main ok h2 h4
    obtain ⟨_, _, _, _, gB, _, pB⟩ := cls_main oy h2 h4
    refine ⟨_, rfl, _, rfl, x, n, h, ar, rfl, W7, ok.arIn, ok.n1, ok.n3, by omega, h4, gA, fun H8 D refs s8 nD eD pD => ?_⟩
    refine ⟨CLx D H8, D, refs, classes n h ar, rfl, sqL_of eD, pD, (fun x b r => CLx.dp r), PySem.W.AllAlike.of alike_C, PySem.W.Sortable.others (fun b => ⟨(fun z => nomatch z), fun xs z => nomatch z⟩), (fun b _ => Nat.le_trans (sh_C b).2 (by decide)), fun ys p hl pr np => ?_⟩
    rw [sort_C pA] at pr
    have s9 : Same H8 (upd H8 p (.lst ys)) := same_upd np
    have e9 : upd H8 p (.lst ys) p = some (.lst ys) := upd_same
    generalize upd H8 p (.lst ys) = H9 at s9 e9 ⊢
    have s79 := s8.trans s9
    refine ⟨_, rfl, _, rfl, y, n, h, br, rfl, Y7.same s79, oy.arIn, oy.n1, oy.n3, by omega, h4, gB, fun H10 D' refs' s10 nD' eD' pD' => ?_⟩
    refine ⟨CLx D' H10, D', refs', classes n h br, rfl, sqL_of eD', pD', (fun x b r => CLx.dp r), PySem.W.AllAlike.of alike_C, PySem.W.Sortable.others (fun b => ⟨(fun z => nomatch z), fun xs z => nomatch z⟩), (fun b _ => Nat.le_trans (sh_C b).2 (by decide)), fun ys' p' hl' pr' np' => ?_⟩
    rw [sort_C pB] at pr'
    have s11 : Same H10 (upd H10 p' (.lst ys')) := same_upd np'
    have s911 := s10.trans s11
    refine ⟨.list ((classes n h ar).map encC), .list ((classes n h br).map encC), .lst (sqL_of (s911 _ _ e9)) (dpAll_of (fun _ _ r => CLx.dp r) (Paired.mapP pr fun _ _ r => r.same (s9.trans s911))), .lst (sqL_of upd_same) (dpAll_of (fun _ _ r => CLx.dp r) (Paired.mapP pr' fun _ _ r => r.same s11)), (sh_list (sh_map sh_C _)).shaped (by decide), (sh_list (sh_map sh_C _)).shaped (by decide), ?_⟩
    rw [eqv_lst eqv_C]
    have s711 := s79.trans s911
    have R11 := R7.same s711
    have W11 := W7.same s711
    have Y11 := Y7.same s711
    generalize upd H10 p' (.lst ys') = H11 at R11 W11 Y11 ⊢
    clear s711 s911 s11 pr' np' s79 e9 s9 pr np s8 eD pD nD s10 eD' pD' nD' s57 s6 s7
    refine ⟨_, rfl, rfl, _, rfl, ?_⟩
    have ec : (!decide (V.bl (decide (classes n h ar = classes n h br)) = V.bl (decide (leds n ar = leds n br)))) = false := by
      rw [show decide (classes n h ar = classes n h br) = decide (leds n ar = leds n br) from by rw [decide_eq_decide]; exact cls_iff ok oy h2 h4, decide_eq_true rfl]
      rfl
    rw [ec]
    refine iteF ?_
    -- the dials
    refine ⟨_, rfl, _, rfl, _, rfl, r, a, x, ns, n, h, ar, rfl, R11, W11, ok.n3, h2, h4, fun H12 d dl s12 R12 D12 => ?_⟩
    have W12 := W11.x s12 R11
    have Y12 := Y11.x s12 R11
    refine ⟨_, rfl, _, rfl, _, rfl, r, a, x, ns, n, h, ar, rfl, R12, W12, ok.n3, h2, h4, fun H13 d' dl' s13 R13 D13 => ⟨_, _, rfl, ?_⟩⟩
    have W13 := W12.x s13 R12
    have Y13 := Y12.x s13 R12
    obtain ⟨g1, g2, g3⟩ := D12
    have D12' : DlAt H13 d n h dl := ⟨(s13.kt R12) _ _ g1, g2, g3⟩
    refine ⟨_, rfl, _, rfl, _, rfl, ?_⟩
    by_cases hle : leds n ar = leds n br
    · rw [decide_eq_true hle]
      refine iteF ?_
      refine ⟨_, rfl, _, rfl, _, rfl, _, rfl, x, d, d', n, h, ar, dl, dl', rfl, W13, ok, h2, by omega, D12', D13, fun H14 s14 => ?_⟩
      refine ⟨_, rfl, _, rfl, _, rfl, _, rfl, y, d, d', n, h, br, dl, dl', rfl, Y13.same s14, oy, h2, by omega, D12'.same s14, D13.same s14, fun H15 s15 => ?_⟩
      refine ⟨rfl, ?_⟩
      rw [← hle, decide_eq_true rfl]
      exact q _
    · rw [decide_eq_false hle]
      exact iteT (q _)
end
end K42
set_option Elab.async false
set_option linter.all false
set_option maxRecDepth 100000
set_option maxHeartbeats 8000000
namespace K42
open PySem PySem.Spec PyProof.Rows L2
section
variable {P : Program} {w : World} {K : PySem.W.Frag} {mg : Str → Option Value} {base : Heap}
theorem Ca.up {j k : Nat} {x : Str} {sp : Sp} (c : Ca P w K mg base j x sp) (h : j ≤ k) : Ca P w K mg base k x sp := by
  obtain ⟨f, fd, ps, F, r⟩ := c.ex
  exact ⟨f, fd, ps, F.mono h, r⟩
end
/-! ### what the top has written -/
theorem all_mk {l : PySem.W.OpenLaw} {w : World} {K : PySem.W.Frag} {h : Heap} {mg : Str → Option Value} {fa f1 f2 f3 f4 f5 f6 f7 f8 f9 f10 f11 f12 f13 f14 f15 f16 f17 f18 f19 f20 f21 f22 f23 f24 f25 f26 f27 : Addr} (X : K.In h) (G : h.Ns mainGlobals mg) (hfa : mg "law" = some (.ref fa))
    {od1 an1 od2 an2 od3 an3 od4 an4 od5 an5 od6 an6 od7 an7 od8 an8 od9 an9 od10 an10 od11 an11 od12 an12 od13 an13 od14 an14 od15 an15 od16 an16 od17 an17 od18 an18 od19 an19 od20 an20 od21 an21 od22 an22 od23 an23 od24 an24 od25 an25 od26 an26 od27 an27 : Option Addr} {sl1 sl2 sl3 sl4 sl5 sl6 sl7 sl8 sl9 sl10 sl11 sl12 sl13 sl14 sl15 sl16 sl17 sl18 sl19 sl20 sl21 sl22 sl23 sl24 sl25 sl26 sl27 : Array (Option Value)}
    {oc1 kV1 dc1 pm1 cd1 ct1 oc2 kV2 dc2 pm2 cd2 ct2 oc3 kV3 dc3 pm3 cd3 ct3 oc4 kV4 dc4 pm4 cd4 ct4 oc5 kV5 dc5 pm5 cd5 ct5 oc6 kV6 dc6 pm6 cd6 ct6 oc7 kV7 dc7 pm7 cd7 ct7 oc8 kV8 dc8 pm8 cd8 ct8 oc9 kV9 dc9 pm9 cd9 ct9 oc10 kV10 dc10 pm10 cd10 ct10 oc11 kV11 dc11 pm11 cd11 ct11 oc12 kV12 dc12 pm12 cd12 ct12 oc13 kV13 dc13 pm13 cd13 ct13 oc14 kV14 dc14 pm14 cd14 ct14 oc15 kV15 dc15 pm15 cd15 ct15 oc16 kV16 dc16 pm16 cd16 ct16 oc17 kV17 dc17 pm17 cd17 ct17 oc18 kV18 dc18 pm18 cd18 ct18 oc19 kV19 dc19 pm19 cd19 ct19 oc20 kV20 dc20 pm20 cd20 ct20 oc21 kV21 dc21 pm21 cd21 ct21 oc22 kV22 dc22 pm22 cd22 ct22 oc23 kV23 dc23 pm23 cd23 ct23 oc24 kV24 dc24 pm24 cd24 ct24 oc25 kV25 dc25 pm25 cd25 ct25 oc26 kV26 dc26 pm26 cd26 ct26 oc27 kV27 dc27 pm27 cd27 ct27 : Value} {t1 t2 t3 : Tok}
    (a1 : PySem.W.nsIn K mainGlobals "is_in" = some (some (.ref f1))) (l1 : K.lookup f1 = some ⟨oc1, od1, .func (PySem.W.fnOf "is_in" "is_in" (defArgs sIsIn) (defBody sIsIn) (defScope sIsIn) .none kV1 dc1 pm1 an1 cd1 ct1), sl1⟩) (c1 : PySem.W.codeIn K cd1 "is_in" = true) (k1 : PySem.W.keepIn K (.ref f1) = true)
    (a2 : PySem.W.nsIn K mainGlobals "gcd" = some (some (.ref f2))) (l2 : K.lookup f2 = some ⟨oc2, od2, .func (PySem.W.fnOf "gcd" "gcd" (defArgs sGcd) (defBody sGcd) (defScope sGcd) .none kV2 dc2 pm2 an2 cd2 ct2), sl2⟩) (c2 : PySem.W.codeIn K cd2 "gcd" = true) (k2 : PySem.W.keepIn K (.ref f2) = true)
    (a3 : PySem.W.nsIn K mainGlobals "is_arrow" = some (some (.ref f3))) (l3 : K.lookup f3 = some ⟨oc3, od3, .func (PySem.W.fnOf "is_arrow" "is_arrow" (defArgs sArrow) (defBody sArrow) (defScope sArrow) .none kV3 dc3 pm3 an3 cd3 ct3), sl3⟩) (c3 : PySem.W.codeIn K cd3 "is_arrow" = true) (k3 : PySem.W.keepIn K (.ref f3) = true)
    (a4 : PySem.W.nsIn K mainGlobals "need_web" = some (some (.ref f4))) (l4 : K.lookup f4 = some ⟨oc4, od4, .func (PySem.W.fnOf "need_web" "need_web" (defArgs sNeedWeb) (defBody sNeedWeb) (defScope sNeedWeb) .none kV4 dc4 pm4 an4 cd4 ct4), sl4⟩) (c4 : PySem.W.codeIn K cd4 "need_web" = true) (k4 : PySem.W.keepIn K (.ref f4) = true)
    (a5 : PySem.W.nsIn K mainGlobals "need_hours" = some (some (.ref f5))) (l5 : K.lookup f5 = some ⟨oc5, od5, .func (PySem.W.fnOf "need_hours" "need_hours" (defArgs sNeedHours) (defBody sNeedHours) (defScope sNeedHours) .none kV5 dc5 pm5 an5 cd5 ct5), sl5⟩) (c5 : PySem.W.codeIn K cd5 "need_hours" = true) (k5 : PySem.W.keepIn K (.ref f5) = true)
    (a6 : PySem.W.nsIn K mainGlobals "need_dial" = some (some (.ref f6))) (l6 : K.lookup f6 = some ⟨oc6, od6, .func (PySem.W.fnOf "need_dial" "need_dial" (defArgs sNeedDial) (defBody sNeedDial) (defScope sNeedDial) .none kV6 dc6 pm6 an6 cd6 ct6), sl6⟩) (c6 : PySem.W.codeIn K cd6 "need_dial" = true) (k6 : PySem.W.keepIn K (.ref f6) = true)
    (a7 : PySem.W.nsIn K mainGlobals "need_all" = some (some (.ref f7))) (l7 : K.lookup f7 = some ⟨oc7, od7, .func (PySem.W.fnOf "need_all" "need_all" (defArgs sNeedAll) (defBody sNeedAll) (defScope sNeedAll) .none kV7 dc7 pm7 an7 cd7 ct7), sl7⟩) (c7 : PySem.W.codeIn K cd7 "need_all" = true) (k7 : PySem.W.keepIn K (.ref f7) = true)
    (a8 : PySem.W.nsIn K mainGlobals "led_from" = some (some (.ref f8))) (l8 : K.lookup f8 = some ⟨oc8, od8, .func (PySem.W.fnOf "led_from" "led_from" (defArgs sLed) (defBody sLed) (defScope sLed) .none kV8 dc8 pm8 an8 cd8 ct8), sl8⟩) (c8 : PySem.W.codeIn K cd8 "led_from" = true) (k8 : PySem.W.keepIn K (.ref f8) = true)
    (a9 : PySem.W.nsIn K mainGlobals "parts_in" = some (some (.ref f9))) (l9 : K.lookup f9 = some ⟨oc9, od9, .func (PySem.W.fnOf "parts_in" "parts_in" (defArgs sParts) (defBody sParts) (defScope sParts) .none kV9 dc9 pm9 an9 cd9 ct9), sl9⟩) (c9 : PySem.W.codeIn K cd9 "parts_in" = true) (k9 : PySem.W.keepIn K (.ref f9) = true)
    (a10 : PySem.W.nsIn K mainGlobals "above_in" = some (some (.ref f10))) (l10 : K.lookup f10 = some ⟨oc10, od10, .func (PySem.W.fnOf "above_in" "above_in" (defArgs sAbove) (defBody sAbove) (defScope sAbove) .none kV10 dc10 pm10 an10 cd10 ct10), sl10⟩) (c10 : PySem.W.codeIn K cd10 "above_in" = true) (k10 : PySem.W.keepIn K (.ref f10) = true)
    (a11 : PySem.W.nsIn K mainGlobals "closed_in" = some (some (.ref f11))) (l11 : K.lookup f11 = some ⟨oc11, od11, .func (PySem.W.fnOf "closed_in" "closed_in" (defArgs sClosed) (defBody sClosed) (defScope sClosed) .none kV11 dc11 pm11 an11 cd11 ct11), sl11⟩) (c11 : PySem.W.codeIn K cd11 "closed_in" = true) (k11 : PySem.W.keepIn K (.ref f11) = true)
    (a12 : PySem.W.nsIn K mainGlobals "same_classes" = some (some (.ref f12))) (l12 : K.lookup f12 = some ⟨oc12, od12, .func (PySem.W.fnOf "same_classes" "same_classes" (defArgs sSame) (defBody sSame) (defScope sSame) .none kV12 dc12 pm12 an12 cd12 ct12), sl12⟩) (c12 : PySem.W.codeIn K cd12 "same_classes" = true) (k12 : PySem.W.keepIn K (.ref f12) = true)
    (a13 : PySem.W.nsIn K mainGlobals "flow_in" = some (some (.ref f13))) (l13 : K.lookup f13 = some ⟨oc13, od13, .func (PySem.W.fnOf "flow_in" "flow_in" (defArgs sFlow) (defBody sFlow) (defScope sFlow) .none kV13 dc13 pm13 an13 cd13 ct13), sl13⟩) (c13 : PySem.W.codeIn K cd13 "flow_in" = true) (k13 : PySem.W.keepIn K (.ref f13) = true)
    (a14 : PySem.W.nsIn K mainGlobals "mark_of" = some (some (.ref f14))) (l14 : K.lookup f14 = some ⟨oc14, od14, .func (PySem.W.fnOf "mark_of" "mark_of" (defArgs sMark) (defBody sMark) (defScope sMark) .none kV14 dc14 pm14 an14 cd14 ct14), sl14⟩) (c14 : PySem.W.codeIn K cd14 "mark_of" = true) (k14 : PySem.W.keepIn K (.ref f14) = true)
    (a15 : PySem.W.nsIn K mainGlobals "marks_in" = some (some (.ref f15))) (l15 : K.lookup f15 = some ⟨oc15, od15, .func (PySem.W.fnOf "marks_in" "marks_in" (defArgs sMarks) (defBody sMarks) (defScope sMarks) .none kV15 dc15 pm15 an15 cd15 ct15), sl15⟩) (c15 : PySem.W.codeIn K cd15 "marks_in" = true) (k15 : PySem.W.keepIn K (.ref f15) = true)
    (a16 : PySem.W.nsIn K mainGlobals "can_come" = some (some (.ref f16))) (l16 : K.lookup f16 = some ⟨oc16, od16, .func (PySem.W.fnOf "can_come" "can_come" (defArgs sCan) (defBody sCan) (defScope sCan) .none kV16 dc16 pm16 an16 cd16 ct16), sl16⟩) (c16 : PySem.W.codeIn K cd16 "can_come" = true) (k16 : PySem.W.keepIn K (.ref f16) = true)
    (a17 : PySem.W.nsIn K mainGlobals "_law_taken" = some (some (.ref f17))) (l17 : K.lookup f17 = some ⟨oc17, od17, .func (PySem.W.fnOf "_law_taken" "_law_taken" (defArgs sTaken) (defBody sTaken) (defScope sTaken) .none kV17 dc17 pm17 an17 cd17 ct17), sl17⟩) (c17 : PySem.W.codeIn K cd17 "_law_taken" = true) (k17 : PySem.W.keepIn K (.ref f17) = true)
    (a18 : PySem.W.nsIn K mainGlobals "_law_pick" = some (some (.ref f18))) (l18 : K.lookup f18 = some ⟨oc18, od18, .func (PySem.W.fnOf "_law_pick" "_law_pick" (defArgs sPick) (defBody sPick) (defScope sPick) .none kV18 dc18 pm18 an18 cd18 ct18), sl18⟩) (c18 : PySem.W.codeIn K cd18 "_law_pick" = true) (k18 : PySem.W.keepIn K (.ref f18) = true)
    (a19 : PySem.W.nsIn K mainGlobals "_law_web" = some (some (.ref f19))) (l19 : K.lookup f19 = some ⟨oc19, od19, .func (PySem.W.fnOf "_law_web" "_law_web" (defArgs sWeb) (defBody sWeb) (defScope sWeb) .none kV19 dc19 pm19 an19 cd19 ct19), sl19⟩) (c19 : PySem.W.codeIn K cd19 "_law_web" = true) (k19 : PySem.W.keepIn K (.ref f19) = true)
    (a20 : PySem.W.nsIn K mainGlobals "_law_leads" = some (some (.ref f20))) (l20 : K.lookup f20 = some ⟨oc20, od20, .func (PySem.W.fnOf "_law_leads" "_law_leads" (defArgs sLeads) (defBody sLeads) (defScope sLeads) .none kV20 dc20 pm20 an20 cd20 ct20), sl20⟩) (c20 : PySem.W.codeIn K cd20 "_law_leads" = true) (k20 : PySem.W.keepIn K (.ref f20) = true)
    (a21 : PySem.W.nsIn K mainGlobals "_law_alike" = some (some (.ref f21))) (l21 : K.lookup f21 = some ⟨oc21, od21, .func (PySem.W.fnOf "_law_alike" "_law_alike" (defArgs sAlike) (defBody sAlike) (defScope sAlike) .none kV21 dc21 pm21 an21 cd21 ct21), sl21⟩) (c21 : PySem.W.codeIn K cd21 "_law_alike" = true) (k21 : PySem.W.keepIn K (.ref f21) = true)
    (a22 : PySem.W.nsIn K mainGlobals "_law_every" = some (some (.ref f22))) (l22 : K.lookup f22 = some ⟨oc22, od22, .func (PySem.W.fnOf "_law_every" "_law_every" (defArgs sEvery) (defBody sEvery) (defScope sEvery) .none kV22 dc22 pm22 an22 cd22 ct22), sl22⟩) (c22 : PySem.W.codeIn K cd22 "_law_every" = true) (k22 : PySem.W.keepIn K (.ref f22) = true)
    (a23 : PySem.W.nsIn K mainGlobals "_law_step" = some (some (.ref f23))) (l23 : K.lookup f23 = some ⟨oc23, od23, .func (PySem.W.fnOf "_law_step" "_law_step" (defArgs sStep) (defBody sStep) (defScope sStep) .none kV23 dc23 pm23 an23 cd23 ct23), sl23⟩) (c23 : PySem.W.codeIn K cd23 "_law_step" = true) (k23 : PySem.W.keepIn K (.ref f23) = true)
    (a24 : PySem.W.nsIn K mainGlobals "_law_from" = some (some (.ref f24))) (l24 : K.lookup f24 = some ⟨oc24, od24, .func (PySem.W.fnOf "_law_from" "_law_from" (defArgs sFrom) (defBody sFrom) (defScope sFrom) .none kV24 dc24 pm24 an24 cd24 ct24), sl24⟩) (c24 : PySem.W.codeIn K cd24 "_law_from" = true) (k24 : PySem.W.keepIn K (.ref f24) = true)
    (a25 : PySem.W.nsIn K mainGlobals "_law_classes" = some (some (.ref f25))) (l25 : K.lookup f25 = some ⟨oc25, od25, .func (PySem.W.fnOf "_law_classes" "_law_classes" (defArgs sClasses) (defBody sClasses) (defScope sClasses) .none kV25 dc25 pm25 an25 cd25 ct25), sl25⟩) (c25 : PySem.W.codeIn K cd25 "_law_classes" = true) (k25 : PySem.W.keepIn K (.ref f25) = true)
    (a26 : PySem.W.nsIn K mainGlobals "_law_dial" = some (some (.ref f26))) (l26 : K.lookup f26 = some ⟨oc26, od26, .func (PySem.W.fnOf "_law_dial" "_law_dial" (defArgs sDial) (defBody sDial) (defScope sDial) .none kV26 dc26 pm26 an26 cd26 ct26), sl26⟩) (c26 : PySem.W.codeIn K cd26 "_law_dial" = true) (k26 : PySem.W.keepIn K (.ref f26) = true)
    (a27 : PySem.W.nsIn K mainGlobals "law" = some (some (.ref f27))) (l27 : K.lookup f27 = some ⟨oc27, od27, .func (PySem.W.fnOf "law" "law" (defArgs sLaw) (defBody sLaw) (defScope sLaw) .none kV27 dc27 pm27 an27 cd27 ct27), sl27⟩) (c27 : PySem.W.codeIn K cd27 "law" = true) (k27 : PySem.W.keepIn K (.ref f27) = true)
    (z1 : PySem.W.nsIn K mainGlobals "isinstance" = some none)
    (z2 : PySem.W.nsIn K mainGlobals "int" = some none)
    (z3 : PySem.W.nsIn K mainGlobals "bool" = some none)
    (z4 : PySem.W.nsIn K mainGlobals "tuple" = some none)
    (z5 : PySem.W.nsIn K mainGlobals "len" = some none)
    (z6 : PySem.W.nsIn K mainGlobals "enumerate" = some none)
    (z7 : PySem.W.nsIn K mainGlobals "sorted" = some none)
    (z8 : PySem.W.nsIn K mainGlobals "range" = some none)
    (z9 : PySem.W.nsIn K mainGlobals "abs" = some none)
    (z10 : PySem.W.nsIn K mainGlobals "set" = some none)
    (z11 : PySem.W.nsIn K mainGlobals "list" = some none)
    (z12 : PySem.W.nsIn K mainGlobals "str" = some none)
    (m1 : PySem.W.nsIn K mainGlobals "MOST_CLOCKS" = some (some (.int 7 t1)))
    (m2 : PySem.W.nsIn K mainGlobals "LEAST_HOURS" = some (some (.int 2 t2)))
    (m3 : PySem.W.nsIn K mainGlobals "MOST_HOURS" = some (some (.int 24 t3))) :
    ∃ fd : FuncData, (∀ (s : Shared) (v : Value), BindsTo s fd ⟨[v], []⟩ [("_law_script", v)]) ∧ ∀ base : Heap, K.In base → base.Ns mainGlobals mg → FnOk l.prog w K mg base CX0 7 fa fd ["_law_script"] (spLaw K) := by
  have e := hfa.symm.trans (PySem.W.mg_of X G a27)
  cases e
  have B : Bt mg := ⟨PySem.W.mg_none_of X G z1, PySem.W.mg_none_of X G z2, PySem.W.mg_none_of X G z3, PySem.W.mg_none_of X G z4, PySem.W.mg_none_of X G z5, PySem.W.mg_none_of X G z6, PySem.W.mg_none_of X G z7, PySem.W.mg_none_of X G z8, PySem.W.mg_none_of X G z9, PySem.W.mg_none_of X G z10, PySem.W.mg_none_of X G z11, PySem.W.mg_none_of X G z12⟩
  have C : Cn mg := ⟨⟨_, PySem.W.mg_of X G m1⟩, ⟨_, PySem.W.mg_of X G m2⟩, ⟨_, PySem.W.mg_of X G m3⟩⟩
  have F1 := fun_mk (st := sIsIn) l1 c1 k1
  have F2 := fun_mk (st := sGcd) l2 c2 k2
  have F3 := fun_mk (st := sArrow) l3 c3 k3
  have F4 := fun_mk (st := sNeedWeb) l4 c4 k4
  have F5 := fun_mk (st := sNeedHours) l5 c5 k5
  have F6 := fun_mk (st := sNeedDial) l6 c6 k6
  have F7 := fun_mk (st := sNeedAll) l7 c7 k7
  have F8 := fun_mk (st := sLed) l8 c8 k8
  have F9 := fun_mk (st := sParts) l9 c9 k9
  have F10 := fun_mk (st := sAbove) l10 c10 k10
  have F11 := fun_mk (st := sClosed) l11 c11 k11
  have F12 := fun_mk (st := sSame) l12 c12 k12
  have F13 := fun_mk (st := sFlow) l13 c13 k13
  have F14 := fun_mk (st := sMark) l14 c14 k14
  have F15 := fun_mk (st := sMarks) l15 c15 k15
  have F16 := fun_mk (st := sCan) l16 c16 k16
  have F17 := fun_mk (st := sTaken) l17 c17 k17
  have F18 := fun_mk (st := sPick) l18 c18 k18
  have F19 := fun_mk (st := sWeb) l19 c19 k19
  have F20 := fun_mk (st := sLeads) l20 c20 k20
  have F21 := fun_mk (st := sAlike) l21 c21 k21
  have F22 := fun_mk (st := sEvery) l22 c22 k22
  have F23 := fun_mk (st := sStep) l23 c23 k23
  have F24 := fun_mk (st := sFrom) l24 c24 k24
  have F25 := fun_mk (st := sClasses) l25 c25 k25
  have F26 := fun_mk (st := sDial) l26 c26 k26
  have F27 := fun_mk (st := sLaw) l27 c27 k27
  have b1 := F1.binds (ps := ["value", "least", "most"]) fun _ _ _ _ _ _ us hl => match us, hl with | [_, _, _], _ => rfl
  have b2 := F2.binds (ps := ["one", "other"]) fun _ _ _ _ _ _ us hl => match us, hl with | [_, _], _ => rfl
  have b3 := F3.binds (ps := ["value", "many"]) fun _ _ _ _ _ _ us hl => match us, hl with | [_, _], _ => rfl
  have b4 := F4.binds (ps := ["web"]) fun _ _ _ _ _ _ us hl => match us, hl with | [_], _ => rfl
  have b5 := F5.binds (ps := ["hours"]) fun _ _ _ _ _ _ us hl => match us, hl with | [_], _ => rfl
  have b6 := F6.binds (ps := ["web", "hours", "dial"]) fun _ _ _ _ _ _ us hl => match us, hl with | [_, _, _], _ => rfl
  have b7 := F7.binds (ps := ["web", "hours", "dial"]) fun _ _ _ _ _ _ us hl => match us, hl with | [_, _, _], _ => rfl
  have b8 := F8.binds (ps := ["web", "place"]) fun _ _ _ _ _ _ us hl => match us, hl with | [_, _], _ => rfl
  have b9 := F9.binds (ps := ["web"]) fun _ _ _ _ _ _ us hl => match us, hl with | [_], _ => rfl
  have b10 := F10.binds (ps := ["web", "place"]) fun _ _ _ _ _ _ us hl => match us, hl with | [_, _], _ => rfl
  have b11 := F11.binds (ps := ["web"]) fun _ _ _ _ _ _ us hl => match us, hl with | [_], _ => rfl
  have b12 := F12.binds (ps := ["web", "other"]) fun _ _ _ _ _ _ us hl => match us, hl with | [_, _], _ => rfl
  have b13 := F13.binds (ps := ["web", "hours", "dial", "place"]) fun _ _ _ _ _ _ us hl => match us, hl with | [_, _, _, _], _ => rfl
  have b14 := F14.binds (ps := ["web", "hours", "dial", "part"]) fun _ _ _ _ _ _ us hl => match us, hl with | [_, _, _, _], _ => rfl
  have b15 := F15.binds (ps := ["web", "hours", "dial"]) fun _ _ _ _ _ _ us hl => match us, hl with | [_, _, _], _ => rfl
  have b16 := F16.binds (ps := ["web", "hours", "one", "other"]) fun _ _ _ _ _ _ us hl => match us, hl with | [_, _, _, _], _ => rfl
  have b17 := F17.binds (ps := ["_law_row", "_law_many"]) fun _ _ _ _ _ _ us hl => match us, hl with | [_, _], _ => rfl
  have b18 := F18.binds (ps := ["_law_row", "_law_things"]) fun _ _ _ _ _ _ us hl => match us, hl with | [_, _], _ => rfl
  have b19 := F19.binds (ps := ["_law_row", "_law_most"]) fun _ _ _ _ _ _ us hl => match us, hl with | [_, _], _ => rfl
  have b20 := F20.binds (ps := ["_law_web_here"]) fun _ _ _ _ _ _ us hl => match us, hl with | [_], _ => rfl
  have b21 := F21.binds (ps := ["_law_found", "_law_due"]) fun _ _ _ _ _ _ us hl => match us, hl with | [_, _], _ => rfl
  have b22 := F22.binds (ps := ["_law_many", "_law_hours"]) fun _ _ _ _ _ _ us hl => match us, hl with | [_, _], _ => rfl
  have b23 := F23.binds (ps := ["_law_hours", "_law_dial_here", "_law_arrow"]) fun _ _ _ _ _ _ us hl => match us, hl with | [_, _, _], _ => rfl
  have b24 := F24.binds (ps := ["_law_web_here", "_law_hours", "_law_dial_here"]) fun _ _ _ _ _ _ us hl => match us, hl with | [_, _, _], _ => rfl
  have b25 := F25.binds (ps := ["_law_web_here", "_law_hours"]) fun _ _ _ _ _ _ us hl => match us, hl with | [_, _], _ => rfl
  have b26 := F26.binds (ps := ["_law_row", "_law_web_here", "_law_hours"]) fun _ _ _ _ _ _ us hl => match us, hl with | [_, _, _], _ => rfl
  refine ⟨PySem.W.fnOf "law" "law" (defArgs sLaw) (defBody sLaw) (defScope sLaw) .none kV27 dc27 pm27 an27 cd27 ct27, fun s v => .of_eq rfl, fun base _ _ => ?_⟩
  have C1 : Ca l.prog w K mg base 1 "is_in" spIsIn := ⟨_, _, _, ok_isIn (k := 0) F1 B, PySem.W.mg_of X G a1, k1, b1⟩
  have C2 : Ca l.prog w K mg base 1 "gcd" spGcd := ⟨_, _, _, ok_gcd (k := 0) F2 B, PySem.W.mg_of X G a2, k2, b2⟩
  have C3 : Ca l.prog w K mg base 2 "is_arrow" spArrow := ⟨_, _, _, ok_arrow (k := 1) F3 B (C1.up (by decide)), PySem.W.mg_of X G a3, k3, b3⟩
  have C4 : Ca l.prog w K mg base 3 "need_web" spNeedWeb := ⟨_, _, _, ok_needWeb (k := 2) F4 B C (C1.up (by decide)) (C3.up (by decide)), PySem.W.mg_of X G a4, k4, b4⟩
  have C5 : Ca l.prog w K mg base 2 "need_hours" spNeedHours := ⟨_, _, _, ok_needHours (k := 1) F5 C (C1.up (by decide)), PySem.W.mg_of X G a5, k5, b5⟩
  have C6 : Ca l.prog w K mg base 2 "need_dial" spNeedDial := ⟨_, _, _, ok_needDial (k := 1) F6 B (C1.up (by decide)), PySem.W.mg_of X G a6, k6, b6⟩
  have C7 : Ca l.prog w K mg base 4 "need_all" spNeedAll := ⟨_, _, _, ok_needAll (k := 3) F7 (C4.up (by decide)) (C5.up (by decide)) (C6.up (by decide)), PySem.W.mg_of X G a7, k7, b7⟩
  have C8 : Ca l.prog w K mg base 1 "led_from" spLed := ⟨_, _, _, ok_led (k := 0) F8 B, PySem.W.mg_of X G a8, k8, b8⟩
  have C9 : Ca l.prog w K mg base 2 "parts_in" spParts := ⟨_, _, _, ok_parts (k := 1) F9 B (C8.up (by decide)), PySem.W.mg_of X G a9, k9, b9⟩
  have C10 : Ca l.prog w K mg base 2 "above_in" spAbove := ⟨_, _, _, ok_above (k := 1) F10 B (C8.up (by decide)), PySem.W.mg_of X G a10, k10, b10⟩
  have C11 : Ca l.prog w K mg base 2 "closed_in" spClosed := ⟨_, _, _, ok_closed (k := 1) F11 B (C8.up (by decide)), PySem.W.mg_of X G a11, k11, b11⟩
  have C12 : Ca l.prog w K mg base 4 "same_classes" spSame := ⟨_, _, _, ok_same (k := 3) F12 (C4.up (by decide)) (C11.up (by decide)), PySem.W.mg_of X G a12, k12, b12⟩
  have C13 : Ca l.prog w K mg base 3 "flow_in" spFlow := ⟨_, _, _, ok_flow (k := 2) F13 (C10.up (by decide)) (C2.up (by decide)), PySem.W.mg_of X G a13, k13, b13⟩
  have C14 : Ca l.prog w K mg base 4 "mark_of" spMark := ⟨_, _, _, ok_mark (k := 3) F14 B (C13.up (by decide)) (C2.up (by decide)), PySem.W.mg_of X G a14, k14, b14⟩
  have C15 : Ca l.prog w K mg base 5 "marks_in" spMarks := ⟨_, _, _, ok_marks (k := 4) F15 (C9.up (by decide)) (C14.up (by decide)), PySem.W.mg_of X G a15, k15, b15⟩
  have C16 : Ca l.prog w K mg base 6 "can_come" spCan := ⟨_, _, _, ok_can (k := 5) F16 (C7.up (by decide)) (C6.up (by decide)) (C15.up (by decide)), PySem.W.mg_of X G a16, k16, b16⟩
  have C17 : Ca l.prog w K mg base 1 "_law_taken" (spTaken K) := ⟨_, _, _, ok_taken (k := 0) F17 B, PySem.W.mg_of X G a17, k17, b17⟩
  have C18 : Ca l.prog w K mg base 2 "_law_pick" (spPick K) := ⟨_, _, _, ok_pick (k := 1) F18 B (C17.up (by decide)), PySem.W.mg_of X G a18, k18, b18⟩
  have C19 : Ca l.prog w K mg base 3 "_law_web" (spWeb K) := ⟨_, _, _, ok_web (k := 2) F19 B (C17.up (by decide)) (C18.up (by decide)), PySem.W.mg_of X G a19, k19, b19⟩
  have C20 : Ca l.prog w K mg base 1 "_law_leads" spLeads := ⟨_, _, _, ok_leads (k := 0) F20 B, PySem.W.mg_of X G a20, k20, b20⟩
  have C21 : Ca l.prog w K mg base 1 "_law_alike" spAlike := ⟨_, _, _, ok_alike (k := 0) F21 B, PySem.W.mg_of X G a21, k21, b21⟩
  have C22 : Ca l.prog w K mg base 1 "_law_every" spEvery := ⟨_, _, _, ok_every (k := 0) F22 B, PySem.W.mg_of X G a22, k22, b22⟩
  have C23 : Ca l.prog w K mg base 1 "_law_step" spStep := ⟨_, _, _, ok_step (k := 0) F23 B, PySem.W.mg_of X G a23, k23, b23⟩
  have C24 : Ca l.prog w K mg base 2 "_law_from" spFrom := ⟨_, _, _, ok_from (k := 1) F24 B (C23.up (by decide)), PySem.W.mg_of X G a24, k24, b24⟩
  have C25 : Ca l.prog w K mg base 3 "_law_classes" spClasses := ⟨_, _, _, ok_classes (k := 2) F25 B (C22.up (by decide)) (C24.up (by decide)), PySem.W.mg_of X G a25, k25, b25⟩
  have C26 : Ca l.prog w K mg base 3 "_law_dial" (spDial K) := ⟨_, _, _, ok_dial (k := 2) F26 B (C17.up (by decide)) (C18.up (by decide)), PySem.W.mg_of X G a26, k26, b26⟩
  exact ok_law (k := 6) F27 B (C17.up (by decide)) (C18.up (by decide)) (C19.up (by decide)) (C20.up (by decide)) (C21.up (by decide)) (C12.up (by decide)) (C25.up (by decide)) (C26.up (by decide)) (C16.up (by decide))
end K42
open PySem PySem.W PyProof.Rows
set_option maxHeartbeats 0 in
theorem PySem.Challenge.cw_clockadds_k42_whole_webs_with_the_same_c_holds : PySem.Challenge.rw_clockadds_k42_whole_webs_with_the_same_c.Holds := by
  w_on; o_law; k_head; (case hw => w_witness2)
  k_fill
  refine L2.walk_of (l := PySem.Challenge.rw_clockadds_k42_whole_webs_with_the_same_c) (n := 63) (k := 7) (x := "_law_script") (CX := fun _ => L2.CX0) (sp := fun w => K42.spLaw _) rfl (by decide) rfl ⟨rfl, by decide, by decide⟩ (fun w h Y => PySem.W.kIn_of Y) ?F (fun _ _ a ns hl hO hS => ⟨a, ns, rfl, K42.scr_of hO hS, hl, fun _ => rfl⟩) (fun _ _ _ _ _ h => h)
  case F =>
    intro w mg fa h KX G hmg
    refine' K42.all_mk KX G hmg ?a1 ?l1 ?c1 ?k1 ?a2 ?l2 ?c2 ?k2 ?a3 ?l3 ?c3 ?k3 ?a4 ?l4 ?c4 ?k4 ?a5 ?l5 ?c5 ?k5 ?a6 ?l6 ?c6 ?k6 ?a7 ?l7 ?c7 ?k7 ?a8 ?l8 ?c8 ?k8 ?a9 ?l9 ?c9 ?k9 ?a10 ?l10 ?c10 ?k10 ?a11 ?l11 ?c11 ?k11 ?a12 ?l12 ?c12 ?k12 ?a13 ?l13 ?c13 ?k13 ?a14 ?l14 ?c14 ?k14 ?a15 ?l15 ?c15 ?k15 ?a16 ?l16 ?c16 ?k16 ?a17 ?l17 ?c17 ?k17 ?a18 ?l18 ?c18 ?k18 ?a19 ?l19 ?c19 ?k19 ?a20 ?l20 ?c20 ?k20 ?a21 ?l21 ?c21 ?k21 ?a22 ?l22 ?c22 ?k22 ?a23 ?l23 ?c23 ?k23 ?a24 ?l24 ?c24 ?k24 ?a25 ?l25 ?c25 ?k25 ?a26 ?l26 ?c26 ?k26 ?a27 ?l27 ?c27 ?k27 ?z1 ?z2 ?z3 ?z4 ?z5 ?z6 ?z7 ?z8 ?z9 ?z10 ?z11 ?z12 ?m1 ?m2 ?m3
    (case a1 => k_is)
    (case l1 => k_is)
    (case c1 => k_is)
    (case k1 => k_is)
    (case a2 => k_is)
    (case l2 => k_is)
    (case c2 => k_is)
    (case k2 => k_is)
    (case a3 => k_is)
    (case l3 => k_is)
    (case c3 => k_is)
    (case k3 => k_is)
    (case a4 => k_is)
    (case l4 => k_is)
    (case c4 => k_is)
    (case k4 => k_is)
    (case a5 => k_is)
    (case l5 => k_is)
    (case c5 => k_is)
    (case k5 => k_is)
    (case a6 => k_is)
    (case l6 => k_is)
    (case c6 => k_is)
    (case k6 => k_is)
    (case a7 => k_is)
    (case l7 => k_is)
    (case c7 => k_is)
    (case k7 => k_is)
    (case a8 => k_is)
    (case l8 => k_is)
    (case c8 => k_is)
    (case k8 => k_is)
    (case a9 => k_is)
    (case l9 => k_is)
    (case c9 => k_is)
    (case k9 => k_is)
    (case a10 => k_is)
    (case l10 => k_is)
    (case c10 => k_is)
    (case k10 => k_is)
    (case a11 => k_is)
    (case l11 => k_is)
    (case c11 => k_is)
    (case k11 => k_is)
    (case a12 => k_is)
    (case l12 => k_is)
    (case c12 => k_is)
    (case k12 => k_is)
    (case a13 => k_is)
    (case l13 => k_is)
    (case c13 => k_is)
    (case k13 => k_is)
    (case a14 => k_is)
    (case l14 => k_is)
    (case c14 => k_is)
    (case k14 => k_is)
    (case a15 => k_is)
    (case l15 => k_is)
    (case c15 => k_is)
    (case k15 => k_is)
    (case a16 => k_is)
    (case l16 => k_is)
    (case c16 => k_is)
    (case k16 => k_is)
    (case a17 => k_is)
    (case l17 => k_is)
    (case c17 => k_is)
    (case k17 => k_is)
    (case a18 => k_is)
    (case l18 => k_is)
    (case c18 => k_is)
    (case k18 => k_is)
    (case a19 => k_is)
    (case l19 => k_is)
    (case c19 => k_is)
    (case k19 => k_is)
    (case a20 => k_is)
    (case l20 => k_is)
    (case c20 => k_is)
    (case k20 => k_is)
    (case a21 => k_is)
    (case l21 => k_is)
    (case c21 => k_is)
    (case k21 => k_is)
    (case a22 => k_is)
    (case l22 => k_is)
    (case c22 => k_is)
    (case k22 => k_is)
    (case a23 => k_is)
    (case l23 => k_is)
    (case c23 => k_is)
    (case k23 => k_is)
    (case a24 => k_is)
    (case l24 => k_is)
    (case c24 => k_is)
    (case k24 => k_is)
    (case a25 => k_is)
    (case l25 => k_is)
    (case c25 => k_is)
    (case k25 => k_is)
    (case a26 => k_is)
    (case l26 => k_is)
    (case c26 => k_is)
    (case k26 => k_is)
    (case a27 => k_is)
    (case l27 => k_is)
    (case c27 => k_is)
    (case k27 => k_is)
    (case z1 => k_is)
    (case z2 => k_is)
    (case z3 => k_is)
    (case z4 => k_is)
    (case z5 => k_is)
    (case z6 => k_is)
    (case z7 => k_is)
    (case z8 => k_is)
    (case z9 => k_is)
    (case z10 => k_is)
    (case z11 => k_is)
    (case z12 => k_is)
    (case m1 => k_is)
    (case m2 => k_is)
    (case m3 => k_is)
