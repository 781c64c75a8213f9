import PyProof.Rows.All
import Wide.All
import OpenK.AllK
import Wide.FinOn
import Open.SpecLaws
import KE.OsGo
import KE.KAssignIn
import HandS.ForSpec
import HandS.Comp
import HandS.Iter
import HandS.Walk
import HandS.Text
import KE.KEqSeq
import PySem.Challenge.RW_tentries_s01_answers
set_option Elab.async false
set_option linter.all false
set_option maxRecDepth 100000
set_option maxHeartbeats 4000000
namespace TT
open Ks191 Ks191Neutral PyKs191
/-! ### 1. The mathematics: calls as they are asked, and what each comes to -/
/-- a call, as the program tells them apart -/
inductive Cmd where
  | name (n : Nat)
  | sealIt (y : Nat) (r : List Nat)
  | openIt (y : Nat)
  | begin (x : Nat) (r : List Nat)
  | tryOnce (x : Nat)
  | letGo (m : Nat)
  | putBox (m : Nat) (r : List Nat)
  | putCo (a b d : Nat) (r : List Nat)
  | look
namespace Cmd
def word : Cmd → Nat
  | name _ => 0 | sealIt _ _ => 1 | openIt _ => 2 | begin _ _ => 3 | tryOnce _ => 4 | letGo _ => 5 | putBox _ _ => 6 | putCo _ _ _ _ => 7 | look => 8
def nums : Cmd → List Nat
  | name n => [n] | sealIt y _ => [y] | openIt y => [y] | begin x _ => [x] | tryOnce x => [x] | letGo m => [m] | putBox m _ => [m] | putCo a b d _ => [a, b, d] | look => []
def row : Cmd → List Nat
  | sealIt _ r => r | begin _ r => r | putBox _ r => r | putCo _ _ _ r => r | _ => []
def hasRow : Cmd → Bool
  | sealIt _ _ => true | begin _ _ => true | putBox _ _ => true | putCo _ _ _ _ => true | _ => false
end Cmd
/-- what is known of a call that may be asked -/
def COk (s : S) : Cmd → Prop
  | .sealIt _ r => r.length = 64
  | .begin x r => if s.2.fit = true ∧ x < P ∧ s.2.state ≠ 1 then r.length = 11 else r = []
  | .putBox _ r => r.length = 64
  | .putCo _ _ _ r => r.length = 11
  | _ => True
def WF (s : S) : Prop := s.1.sealed_.length = 64 ∧ s.2.row.length = 11
/-- what a call with an asker comes to: the state behind it, what is found, how many things were asked, these -/
abbrev R := S × List Int × Nat × List Int
def mName (s : S) (n : Nat) : R := if 10000 ≤ n then (s, [-22], 0, []) else (s, [0, ((given.name n : Nat) : Int)], 1, [1, (n : Int)])
def mSeal (s : S) (y : Nat) (r : List Nat) : R := if P ≤ y then (s, [-22], 0, []) else ((⟨Ks191.xor r (given.pad y), given.mark y⟩, s.2), [0], 2, [2, (y : Int), 3, (y : Int)])
def mOpen (s : S) (y : Nat) : R := if P ≤ y then (s, [-22], 0, []) else if given.mark y ≠ s.1.mark then (s, [-13], 1, [3, (y : Int)])
  else (s, 0 :: ((given.pass y : Nat) : Int) :: Ks191Neutral.ints (Ks191.xor s.1.sealed_ (given.pad y)), 3, [3, (y : Int), 2, (y : Int), 4, (y : Int)])
def mBegin (s : S) (x : Nat) (r : List Nat) : R := if s.2.fit = false then (s, [-71], 0, []) else if P ≤ x then (s, [-22], 0, []) else if s.2.state = 1 then (s, [-1], 0, [])
  else ((s.1, ⟨r, given.pass (comes x r), 0, 1⟩), [0, ((comes x r : Nat) : Int)], r.length + 1, List.replicate r.length 5 ++ [4, ((comes x r : Nat) : Int)])
def mTry (s : S) (x : Nat) : R := if s.2.fit = false then (s, [-71], 0, []) else if P ≤ x then (s, [-22], 0, []) else if s.2.state = 0 then (s, [-2], 0, []) else if 10 ≤ s.2.tries then (s, [-28], 0, [])
  else ((s.1, { s.2 with tries := s.2.tries + 1 }), [((10 - s.2.tries - 1 : Nat) : Int), ((comes x s.2.row : Nat) : Int)], 0, [])
def mGo (s : S) (m : Nat) : R := if s.2.fit = false then (s, [-71], 0, []) else if s.2.state = 0 then (s, [-2], 0, []) else if 10 ≤ s.2.tries then (s, [-28], 0, [])
  else if m = s.2.pass then ((s.1, { s.2 with state := 2 }), [1], 0, []) else ((s.1, { s.2 with tries := s.2.tries + 1 }), [0], 0, [])
def mact (s : S) : Cmd → R
  | .name n => mName s n
  | .sealIt y r => mSeal s y r
  | .openIt y => mOpen s y
  | .begin x r => mBegin s x r
  | .tryOnce x => mTry s x
  | .letGo m => mGo s m
  | _ => (s, [], 0, [])
def lookOf (s : S) : List Int := 0 :: (s.1.mark : Int) :: Ks191Neutral.ints s.1.sealed_ ++ ((s.2.pass : Int) :: (s.2.tries : Int) :: (s.2.state : Int) :: Ks191Neutral.ints s.2.row)
/-- of any call: the state behind it, what is answered -/
def mstep (s : S) : Cmd → S × List Int
  | .putBox m r => ((⟨r, m⟩, s.2), [0])
  | .putCo a b d r => ((s.1, ⟨r, a, b, d⟩), [0])
  | .look => (s, lookOf s)
  | c => ((mact s c).1, (mact s c).2.1 ++ (((mact s c).2.2.1 : Nat) : Int) :: (mact s c).2.2.2)
/-- as the document's calls have it -/
def Cmd.call (c : Cmd) : List (List Int) := (((c.word : Nat) : Int) :: Ks191Neutral.ints c.nums) :: (if c.hasRow = true then [Ks191Neutral.ints c.row] else [])
theorem nats_ints (l : List Nat) : nats (Ks191Neutral.ints l) = l := by
  unfold nats Ks191Neutral.ints
  rw [List.map_map]
  exact (List.map_congr_left fun a _ => rfl).trans (List.map_id' l)
theorem ints_nats {l : List Int} (h : ∀ x ∈ l, 0 ≤ x) : Ks191Neutral.ints (nats l) = l := by
  unfold nats Ks191Neutral.ints
  rw [List.map_map]
  exact (List.map_congr_left fun a ha => by show ((a.toNat : Nat) : Int) = a; exact Int.toNat_of_nonneg (h a ha)).trans (List.map_id' l)
theorem step_is (s : S) (c : Cmd) : step s c.call = mstep s c := by
  cases c with
  | name n =>
    show step s [[0, (n : Int)]] = mstep s (.name n)
    have e : num [[0, (n : Int)]] 0 1 = n := rfl
    unfold step
    rw [show num [[0, (n : Int)]] 0 0 = 0 from rfl]
    simp only [e, Ks191.act, NUMBERS]
    by_cases h : 10000 ≤ n <;> simp [h, mstep, mact, mName, mSeal, mOpen, mBegin, mTry, mGo, say]
  | sealIt y r =>
    show step s [[1, (y : Int)], Ks191Neutral.ints r] = mstep s (.sealIt y r)
    have e : num [[1, (y : Int)], Ks191Neutral.ints r] 0 1 = y := rfl
    have e2 : Ks191Neutral.row [[1, (y : Int)], Ks191Neutral.ints r] 1 = r := nats_ints r
    unfold step
    rw [show num [[1, (y : Int)], Ks191Neutral.ints r] 0 0 = 1 from rfl]
    simp only [e, e2, Ks191.act]
    by_cases h : P ≤ y <;> simp [h, mstep, mact, mName, mSeal, mOpen, mBegin, mTry, mGo, say]
  | openIt y =>
    show step s [[2, (y : Int)]] = mstep s (.openIt y)
    have e : num [[2, (y : Int)]] 0 1 = y := rfl
    unfold step
    rw [show num [[2, (y : Int)]] 0 0 = 2 from rfl]
    simp only [e, Ks191.act]
    by_cases h : P ≤ y
    · simp [h, mstep, mact, mName, mSeal, mOpen, mBegin, mTry, mGo, say]
    · by_cases h2 : given.mark y = s.1.mark <;> simp [h, h2, mstep, mact, mName, mSeal, mOpen, mBegin, mTry, mGo, say]
  | begin x r =>
    show step s [[3, (x : Int)], Ks191Neutral.ints r] = mstep s (.begin x r)
    have e : num [[3, (x : Int)], Ks191Neutral.ints r] 0 1 = x := rfl
    have e2 : Ks191Neutral.row [[3, (x : Int)], Ks191Neutral.ints r] 1 = r := nats_ints r
    unfold step
    rw [show num [[3, (x : Int)], Ks191Neutral.ints r] 0 0 = 3 from rfl]
    simp only [e, e2, Ks191.act]
    have e3 : ∀ r : List Nat, List.flatMap (fun _ => [(5 : Int)]) r = List.replicate r.length 5 := fun r => by
      induction r with
      | nil => rfl
      | cons a r ih => rw [List.flatMap_cons, ih]; rfl
    by_cases h0 : s.2.fit = false
    · simp [h0, mstep, mact, mName, mSeal, mOpen, mBegin, mTry, mGo, say]
    · by_cases h : P ≤ x
      · simp [h0, h, mstep, mact, mName, mSeal, mOpen, mBegin, mTry, mGo, say]
      · by_cases h2 : s.2.state = 1
        · simp [h0, h, h2, mstep, mact, mName, mSeal, mOpen, mBegin, mTry, mGo, say]
        · simp [h0, h, h2, mstep, mact, mBegin, List.flatMap_append, List.flatMap_map, e3]
  | tryOnce x =>
    show step s [[4, (x : Int)]] = mstep s (.tryOnce x)
    have e : num [[4, (x : Int)]] 0 1 = x := rfl
    unfold step
    rw [show num [[4, (x : Int)]] 0 0 = 4 from rfl]
    simp only [e, Ks191.act, TRIES]
    by_cases h0 : s.2.fit = false
    · simp [h0, mstep, mact, mName, mSeal, mOpen, mBegin, mTry, mGo, say]
    · by_cases h : P ≤ x
      · simp [h0, h, mstep, mact, mName, mSeal, mOpen, mBegin, mTry, mGo, say]
      · by_cases h2 : s.2.state = 0
        · simp [h0, h, h2, mstep, mact, mName, mSeal, mOpen, mBegin, mTry, mGo, say]
        · by_cases h3 : 10 ≤ s.2.tries <;> simp [h0, h, h2, h3, mstep, mact, mName, mSeal, mOpen, mBegin, mTry, mGo, say]
  | letGo m =>
    show step s [[5, (m : Int)]] = mstep s (.letGo m)
    have e : num [[5, (m : Int)]] 0 1 = m := rfl
    unfold step
    rw [show num [[5, (m : Int)]] 0 0 = 5 from rfl]
    simp only [e, Ks191.act, TRIES]
    by_cases h0 : s.2.fit = false
    · simp [h0, mstep, mact, mName, mSeal, mOpen, mBegin, mTry, mGo, say]
    · by_cases h2 : s.2.state = 0
      · simp [h0, h2, mstep, mact, mName, mSeal, mOpen, mBegin, mTry, mGo, say]
      · by_cases h3 : 10 ≤ s.2.tries
        · simp [h0, h2, h3, mstep, mact, mName, mSeal, mOpen, mBegin, mTry, mGo, say]
        · by_cases h4 : m = s.2.pass <;> simp [h0, h2, h3, h4, mstep, mact, mGo]
  | putBox m r =>
    show step s [[6, (m : Int)], Ks191Neutral.ints r] = mstep s (.putBox m r)
    have e2 : Ks191Neutral.row [[6, (m : Int)], Ks191Neutral.ints r] 1 = r := nats_ints r
    unfold step
    rw [show num [[6, (m : Int)], Ks191Neutral.ints r] 0 0 = 6 from rfl]
    simp only [e2]
    rfl
  | putCo a b d r =>
    show step s [[7, (a : Int), (b : Int), (d : Int)], Ks191Neutral.ints r] = mstep s (.putCo a b d r)
    have e2 : Ks191Neutral.row [[7, (a : Int), (b : Int), (d : Int)], Ks191Neutral.ints r] 1 = r := nats_ints r
    unfold step
    rw [show num [[7, (a : Int), (b : Int), (d : Int)], Ks191Neutral.ints r] 0 0 = 7 from rfl]
    simp only [e2]
    rfl
  | look => rfl
/-! #### the state's form stays -/
theorem xor_len (a b : List Nat) : (Ks191.xor a b).length = min a.length b.length := by
  unfold Ks191.xor
  rw [List.length_zipWith]
theorem pad_len (y : Nat) : (given.pad y).length = 64 := by
  show ((List.range 64).map _).length = 64
  rw [List.length_map, List.length_range]
theorem wf_start : WF start := ⟨by show (List.replicate 64 0).length = 64; exact List.length_replicate, by show (List.replicate 11 0).length = 11; exact List.length_replicate⟩
theorem wf_step {s : S} {c : Cmd} (h : WF s) (k : COk s c) : WF (mstep s c).1 := by
  obtain ⟨h1, h2⟩ := h
  cases c with
  | name n =>
    show WF (mName s n).1
    unfold mName
    split <;> exact ⟨h1, h2⟩
  | sealIt y r =>
    show WF (mSeal s y r).1
    unfold mSeal
    split
    · exact ⟨h1, h2⟩
    · refine ⟨?_, h2⟩
      show (Ks191.xor r (given.pad y)).length = 64
      rw [xor_len, pad_len, (show r.length = 64 from k)]
      rfl
  | openIt y =>
    show WF (mOpen s y).1
    unfold mOpen
    split
    · exact ⟨h1, h2⟩
    · split <;> exact ⟨h1, h2⟩
  | begin x r =>
    show WF (mBegin s x r).1
    unfold mBegin
    split
    · exact ⟨h1, h2⟩
    · rename_i f
      split
      · exact ⟨h1, h2⟩
      · rename_i hp
        split
        · exact ⟨h1, h2⟩
        · rename_i hs
          refine ⟨h1, ?_⟩
          have q : s.2.fit = true ∧ x < P ∧ s.2.state ≠ 1 := ⟨by simpa using f, Nat.lt_of_not_le hp, hs⟩
          have k' : (if s.2.fit = true ∧ x < P ∧ s.2.state ≠ 1 then r.length = 11 else r = []) := k
          rw [if_pos q] at k'
          exact k'
  | tryOnce x =>
    show WF (mTry s x).1
    unfold mTry
    repeat (first | exact ⟨h1, h2⟩ | split)
  | letGo m =>
    show WF (mGo s m).1
    unfold mGo
    repeat (first | exact ⟨h1, h2⟩ | split)
  | putBox m r => exact ⟨k, h2⟩
  | putCo a b d r => exact ⟨h1, k⟩
  | look => exact ⟨h1, h2⟩
end TT
namespace TT
open Ks191 Ks191Neutral PyKs191
/-! ### 2. What is handed in: the calls one behind another, read from the left -/
theorem whole_is (c : List (List Int)) : whole c = c := by
  unfold whole
  split <;> rfl
theorem whole_all (cs : List (List (List Int))) : cs.map whole = cs := (List.map_congr_left fun c _ => whole_is c).trans (List.map_id' cs)
/-- the machine played, by the calls as the program tells them apart -/
def mplay : S → List Cmd → List (List Int)
  | _, [] => []
  | s, c :: r => (mstep s c).2 :: mplay (mstep s c).1 r
theorem play_is : ∀ (cs : List Cmd) (s : S), PyFlat.played step s (cs.map Cmd.call) = mplay s cs
  | [], _ => rfl
  | c :: r, s => by
    show (step s c.call).2 :: PyFlat.played step (step s c.call).1 (r.map Cmd.call) = (mstep s c).2 :: mplay (mstep s c).1 r
    rw [step_is, play_is r]
/-- calls that may come in this order -/
def MGoes : S → List Cmd → Prop
  | _, [] => True
  | s, c :: r => COk s c ∧ MGoes (mstep s c).1 r
theorem natural_nn {z : Int} {b : Nat} (h : natural z b = true) : 0 ≤ z := by
  unfold natural at h
  simp only [Bool.and_eq_true, decide_eq_true_eq] at h
  exact h.1
theorem all_nn {l : List Int} {b : Nat} (h : l.all (fun z => natural z b) = true) : ∀ x ∈ l, 0 ≤ x := fun x hx => natural_nn (List.all_eq_true.mp h x hx)
/-- one call that may be asked is one of the program's -/
theorem call_of {s : S} {c : List (List Int)} (h1 : asked1 c = true) (h2 : form c = true) (h3 : scripted s c = true) : ∃ k : Cmd, c = k.call ∧ COk s k := by
  unfold asked1 at h1
  split at h1
  · rename_i a
    exact ⟨.name a.toNat, by show _ = [[0, ((a.toNat : Nat) : Int)]]; rw [Int.toNat_of_nonneg (natural_nn h1)], trivial⟩
  · rename_i a b
    simp only [Bool.and_eq_true] at h1
    refine ⟨.sealIt a.toNat (nats b), ?_, ?_⟩
    · show _ = [[1, ((a.toNat : Nat) : Int)], Ks191Neutral.ints (nats b)]
      rw [Int.toNat_of_nonneg (natural_nn h1.1), ints_nats (all_nn h1.2)]
    · show (nats b).length = 64
      have e : (b.length == 64) = true := by
        have q : form [[1, a], b] = true := h2
        unfold form at q
        rw [show num [[1, a], b] 0 0 = 1 from rfl] at q
        simp [forms] at q
        simp [q]
      unfold nats
      rw [List.length_map]
      exact eq_of_beq e
  · rename_i a
    exact ⟨.openIt a.toNat, by show _ = [[2, ((a.toNat : Nat) : Int)]]; rw [Int.toNat_of_nonneg (natural_nn h1)], trivial⟩
  · rename_i a b
    simp only [Bool.and_eq_true] at h1
    refine ⟨.begin a.toNat (nats b), ?_, ?_⟩
    · show _ = [[3, ((a.toNat : Nat) : Int)], Ks191Neutral.ints (nats b)]
      rw [Int.toNat_of_nonneg (natural_nn h1.1), ints_nats (all_nn h1.2)]
    · show (if s.2.fit = true ∧ a.toNat < P ∧ s.2.state ≠ 1 then (nats b).length = 11 else nats b = [])
      unfold scripted at h3
      rw [show num [[3, a], b] 0 0 = 3 from rfl, show num [[3, a], b] 0 1 = a.toNat from rfl, show Ks191Neutral.row [[3, a], b] 1 = nats b from rfl] at h3
      by_cases c : s.2.fit = true ∧ a.toNat < P ∧ s.2.state ≠ 1
      · rw [if_pos c]
        obtain ⟨c1, c2, c3⟩ := c
        simp [c1, c2, c3] at h3
        exact h3.1
      · rw [if_neg c]
        have c' : ¬ (s.2.fit && decide (a.toNat < P) && s.2.state != 1) = true := fun q => c (by simpa [Bool.and_eq_true, and_assoc] using q)
        rw [if_pos rfl, if_neg c'] at h3
        exact eq_of_beq h3
  · rename_i a
    exact ⟨.tryOnce a.toNat, by show _ = [[4, ((a.toNat : Nat) : Int)]]; rw [Int.toNat_of_nonneg (natural_nn h1)], trivial⟩
  · rename_i a
    exact ⟨.letGo a.toNat, by show _ = [[5, ((a.toNat : Nat) : Int)]]; rw [Int.toNat_of_nonneg (natural_nn h1)], trivial⟩
  · rename_i a b
    simp only [Bool.and_eq_true] at h1
    refine ⟨.putBox a.toNat (nats b), ?_, ?_⟩
    · show _ = [[6, ((a.toNat : Nat) : Int)], Ks191Neutral.ints (nats b)]
      rw [Int.toNat_of_nonneg (natural_nn h1.1), ints_nats (all_nn h1.2)]
    · show (nats b).length = 64
      have e : (b.length == 64) = true := by
        have q : form [[6, a], b] = true := h2
        unfold form at q
        rw [show num [[6, a], b] 0 0 = 6 from rfl] at q
        simp [forms] at q
        simp [q]
      unfold nats
      rw [List.length_map]
      exact eq_of_beq e
  · rename_i a b d e
    simp only [Bool.and_eq_true] at h1
    refine ⟨.putCo a.toNat b.toNat d.toNat (nats e), ?_, ?_⟩
    · show _ = [[7, ((a.toNat : Nat) : Int), ((b.toNat : Nat) : Int), ((d.toNat : Nat) : Int)], Ks191Neutral.ints (nats e)]
      rw [Int.toNat_of_nonneg (natural_nn h1.1.1.1), Int.toNat_of_nonneg (natural_nn h1.1.1.2), Int.toNat_of_nonneg (natural_nn h1.1.2), ints_nats (all_nn h1.2)]
    · show (nats e).length = 11
      have e1 : (e.length == 11) = true := by
        have q : form [[7, a, b, d], e] = true := h2
        unfold form at q
        rw [show num [[7, a, b, d], e] 0 0 = 7 from rfl] at q
        simp [forms] at q
        simp [q]
      unfold nats
      rw [List.length_map]
      exact eq_of_beq e1
  · exact ⟨.look, rfl, trivial⟩
  · cases h1
theorem calls_of : ∀ (cs : List (List (List Int))) (s : S), cs.all asked1 = true → goes s cs = true → ∃ ks : List Cmd, cs = ks.map Cmd.call ∧ MGoes s ks
  | [], _, _, _ => ⟨[], rfl, trivial⟩
  | c :: r, s, h1, h2 => by
    rw [List.all_cons, Bool.and_eq_true] at h1
    have h2' : (form c && scripted s c && goes (step s c).1 r) = true := h2
    simp only [Bool.and_eq_true] at h2'
    obtain ⟨k, rfl, ok⟩ := call_of h1.1 h2'.1.1 h2'.1.2
    rw [step_is] at h2'
    obtain ⟨ks, rfl, g⟩ := calls_of r _ h1.2 h2'.2
    exact ⟨k :: ks, rfl, ok, g⟩
end TT
namespace TT
open Ks191 Ks191Neutral PyKs191
/-- a call's numbers as they stand in the list that is handed in -/
def Cmd.tail (c : Cmd) : List Int := if c.hasRow = true then ((c.row.length : Nat) : Int) :: Ks191Neutral.ints c.row else []
def Cmd.flat (c : Cmd) : List Int := ((c.word : Nat) : Int) :: (Ks191Neutral.ints c.nums ++ c.tail)
theorem row_of {r x t : List Int} (h : PyFlat.row r = some (x, t)) : r = ((x.length : Nat) : Int) :: (x ++ t) := by
  unfold PyFlat.row at h
  split at h
  · cases h
  · rename_i n q
    split at h
    · rename_i c
      cases h
      rw [List.take_append_drop, List.length_take, Nat.min_eq_left c.2, Int.toNat_of_nonneg c.1]
    · cases h
theorem rows_of : ∀ {n : Nat} {r : List Int} {xs : List (List Int)} {t : List Int}, PyFlat.rows n r = some (xs, t) → xs.length = n ∧ r = xs.flatMap (fun x => ((x.length : Nat) : Int) :: x) ++ t
  | 0, r, xs, t, h => by
    unfold PyFlat.rows at h
    cases h
    exact ⟨rfl, rfl⟩
  | k + 1, r, xs, t, h => by
    unfold PyFlat.rows at h
    split at h
    · cases h
    · rename_i x s e
      split at h
      · cases h
      · rename_i ys u e2
        cases h
        obtain ⟨h1, h2⟩ := rows_of e2
        refine ⟨by rw [List.length_cons, h1], ?_⟩
        rw [row_of e, h2, List.flatMap_cons]
        simp
theorem ints_len (l : List Nat) : (Ks191Neutral.ints l).length = l.length := by
  unfold Ks191Neutral.ints
  rw [List.length_map]
theorem flat_of {l t : List Int} {c : Cmd} (h : PyFlat.call shape l = some (c.call, t)) : l = c.flat ++ t := by
  unfold PyFlat.call at h
  split at h
  · cases h
  · rename_i p r
    split at h
    · cases h
    · rename_i n k sh
      split at h
      · cases h
      · rename_i hl
        split at h
        · cases h
        · rename_i xs u e
          obtain ⟨h1, h2⟩ := rows_of e
          have q := Option.some.inj h
          have q1 : (p :: r.take n) :: xs = c.call := congrArg Prod.fst q
          have q2 : u = t := congrArg Prod.snd q
          subst q2
          unfold Cmd.call at q1
          have a1 := (List.cons.inj q1).1
          have a2 := (List.cons.inj q1).2
          have b1 := (List.cons.inj a1).1
          have b2 := (List.cons.inj a1).2
          show p :: r = ((c.word : Nat) : Int) :: (Ks191Neutral.ints c.nums ++ c.tail) ++ u
          rw [b1, List.cons_append]
          refine congrArg _ ?_
          rw [← b2, List.append_assoc]
          conv => lhs; rw [← List.take_append_drop n r]
          refine congrArg _ ?_
          rw [h2, a2]
          refine congrArg (· ++ u) ?_
          unfold Cmd.tail
          split
          · rw [List.flatMap_cons, List.flatMap_nil, List.append_nil, ints_len]
          · rfl
theorem flats_of : ∀ {f : Nat} {l : List Int} {ks : List Cmd}, PyFlat.calls shape f l = some (ks.map Cmd.call) → l = ks.flatMap Cmd.flat
  | f, [], ks, h => by
    cases ks with
    | nil => rfl
    | cons k r =>
      unfold PyFlat.calls at h
      cases f <;> simp at h
  | 0, p :: r, ks, h => by
    unfold PyFlat.calls at h
    cases h
  | f + 1, p :: r, ks, h => by
    unfold PyFlat.calls at h
    split at h
    · cases h
    · rename_i c t e
      split at h
      · cases h
      · rename_i cs e2
        cases ks with
        | nil => simp at h
        | cons k ks =>
          have q := Option.some.inj h
          rw [List.map_cons] at q
          have q1 := (List.cons.inj q).1
          have q2 := (List.cons.inj q).2
          subst q1 q2
          rw [flat_of e, flats_of e2, List.flatMap_cons]
/-- **what is handed in**: calls of the program's, in an order that may be; and what is due of them -/
theorem given_is {l : List Int} (h : answers_asked l = true) : ∃ ks : List Cmd, l = ks.flatMap Cmd.flat ∧ MGoes start ks ∧ answers l = PyFlat.told (mplay start ks) ∧ (answers l).length ≤ 10000000 := by
  unfold answers_asked at h
  split at h
  · cases h
  · rename_i raw e
    simp only [Bool.and_eq_true] at h
    obtain ⟨⟨⟨_, _⟩, h3⟩, h4⟩ := h
    rw [whole_all] at h3
    unfold Ks191Neutral.asked at h3
    simp only [Bool.and_eq_true] at h3
    obtain ⟨ks, rfl, g⟩ := calls_of raw start h3.1.1.1.1 h3.1.2
    refine ⟨ks, flats_of e, g, ?_, by unfold PyFlat.short at h4; exact of_decide_eq_true h4⟩
    unfold answers calls
    rw [e]
    show PyFlat.told (PyFlat.played step start ((ks.map Cmd.call).map whole)) = PyFlat.told (mplay start ks)
    rw [whole_all, play_is]
end TT
namespace TT
open Ks191 Ks191Neutral PyKs191
/-! ### 3. Numbers: what the program reckons is what the document says -/
theorem pad_one (y i : Nat) : (((y : Int) / 2 ^ ((8 : Int) * ((i : Int) % 8)).toNat + (i : Int)) % 256) = (((y / 256 ^ (i % 8) + i) % 256 : Nat) : Int) := by
  have e1 : ((8 : Int) * ((i : Int) % 8)).toNat = 8 * (i % 8) := by omega
  rw [e1]
  have e2 : (2 : Int) ^ (8 * (i % 8)) = ((256 ^ (i % 8) : Nat) : Int) := by
    rw [Int.natCast_pow, Int.pow_mul]
    rfl
  rw [e2]
  simp only [Int.natCast_emod, Int.natCast_add, Int.natCast_ediv]
  rfl
theorem mark_one (y : Nat) : ((6364136223846793005 : Int) * (y : Int) + 1442695040888963407) % 18446744073709551616 = ((given.mark y : Nat) : Int) := by
  show _ = (((6364136223846793005 * y + 1442695040888963407) % 2 ^ 64 : Nat) : Int)
  omega
theorem pass_one (y : Nat) : ((2862933555777941757 : Int) * (y : Int) + 3037000493) % 18446744073709551616 = ((given.pass y : Nat) : Int) := by
  show _ = (((2862933555777941757 * y + 3037000493) % 2 ^ 64 : Nat) : Int)
  omega
theorem name_one (n : Nat) : (1000003 : Int) * (n : Int) + 12345 = ((given.name n : Nat) : Int) := by
  show _ = ((1000003 * n + 12345 : Nat) : Int)
  omega
theorem P_is : P = 2305843009213693951 := rfl
theorem comes_lt (x : Nat) : ∀ r : List Nat, comes x r < P
  | [] => by show 0 < P; rw [P_is]; omega
  | a :: r => Nat.mod_lt _ (by rw [P_is]; omega)
theorem comes_one (x a : Nat) (r : List Nat) : (((comes x r : Nat) : Int) * (x : Int) + (a : Int)) % 2305843009213693951 = ((comes x (a :: r) : Nat) : Int) := by
  show _ = (((a + x * comes x r) % P : Nat) : Int)
  rw [P_is, Int.natCast_emod, Int.natCast_add, Int.natCast_mul, Int.mul_comm, Int.add_comm]
  rfl
theorem pad_get {y i : Nat} (h : i < 64) : (given.pad y)[i]? = some ((y / 256 ^ (i % 8) + i) % 256) := by
  show ((List.range 64).map (fun i => (y / 256 ^ (i % 8) + i) % 256))[i]? = _
  rw [List.getElem?_map, List.getElem?_range h]
  rfl
theorem xor_get {a b : List Nat} {i x y : Nat} (h1 : a[i]? = some x) (h2 : b[i]? = some y) : (Ks191.xor a b)[i]? = some (x ^^^ y) := by
  unfold Ks191.xor
  rw [List.getElem?_zipWith, h1, h2]
theorem take_next {α : Type} {l : List α} {i : Nat} {x : α} (h : l[i]? = some x) : l.take (i + 1) = l.take i ++ [x] := by
  rw [List.take_add_one, h]
  rfl
theorem take_all {α : Type} {l : List α} {n : Nat} (h : l.length ≤ n) : l.take n = l := List.take_of_length_le h
/-- the row behind i turns from its end -/
theorem drop_back {α : Type} {l : List α} {i : Nat} {x : α} (hi : i < l.length) (h : l[l.length - 1 - i]? = some x) : l.drop (l.length - (i + 1)) = x :: l.drop (l.length - i) := by
  have e : l.length - (i + 1) = l.length - 1 - i := by omega
  rw [e]
  obtain ⟨hl, hx⟩ := List.getElem?_eq_some_iff.mp h
  rw [List.drop_eq_getElem_cons hl, hx]
  have e2 : l.length - 1 - i + 1 = l.length - i := by omega
  rw [e2]
theorem fit_iff (c : Co) : c.fit = (decide (c.state ≤ 2) && decide (c.tries ≤ 10) && c.row.all fun x => decide (x < P)) := rfl
theorem all_filter (r : List Nat) : (r.filter fun x => decide (P ≤ x)).isEmpty = r.all fun x => decide (x < P) := by
  induction r with
  | nil => rfl
  | cons a r ih =>
    rw [List.filter_cons, List.all_cons]
    by_cases h : P ≤ a
    · rw [if_pos (decide_eq_true h), decide_eq_false (Nat.not_lt.mpr h)]
      rfl
    · rw [if_neg (by simpa using h), decide_eq_true (Nat.lt_of_not_le h), ih]
      rfl
theorem fit_le {c : Co} (h : c.fit = true) : c.tries ≤ 10 := by
  unfold Co.fit at h
  simp only [Bool.and_eq_true, decide_eq_true_eq] at h
  exact h.1.2
theorem fit_row (c : Co) (h1 : c.state ≤ 2) (h2 : c.tries ≤ 10) : c.fit = (c.row.filter fun x => decide (P ≤ x)).isEmpty := by
  rw [all_filter, fit_iff, decide_eq_true h1, decide_eq_true h2]
  rfl
theorem fit_no {c : Co} (h : 2 < c.state ∨ 10 < c.tries) : c.fit = false := by
  rw [fit_iff]
  rcases h with h | h
  · rw [decide_eq_false (by omega)]; rfl
  · rw [decide_eq_false (p := c.tries ≤ 10) (by omega), Bool.and_false]; rfl
end TT
namespace TT
open PySem PySem.Spec PyProof.Rows L2
/-! ### 4. The text by places -/
def top (i : Nat) : Stmt := PySem.Challenge.pw_tentries_s01_answers.main.body.getD i (.Pass ⟨0, 0, 0, 0⟩)
abbrev sNameOf : Stmt := top 10
abbrev sPadOf : Stmt := top 11
abbrev sMarkOf : Stmt := top 12
abbrev sPassOf : Stmt := top 13
abbrev sComesTo : Stmt := top 14
abbrev sPadded : Stmt := top 15
abbrev sAInit : Stmt := inClass (top 22) 0
abbrev sANote : Stmt := inClass (top 22) 1
abbrev sAName : Stmt := inClass (top 22) 2
abbrev sAPad : Stmt := inClass (top 22) 3
abbrev sAMark : Stmt := inClass (top 22) 4
abbrev sAPass : Stmt := inClass (top 22) 5
abbrev sARow : Stmt := inClass (top 22) 6
abbrev sATold : Stmt := inClass (top 22) 7
abbrev sBInit : Stmt := inClass (top 36) 0
abbrev sBName : Stmt := inClass (top 36) 1
abbrev sBSeal : Stmt := inClass (top 36) 2
abbrev sBOpen : Stmt := inClass (top 36) 3
abbrev sBSpoilt : Stmt := inClass (top 36) 4
abbrev sBBegin : Stmt := inClass (top 36) 5
abbrev sBTry : Stmt := inClass (top 36) 6
abbrev sBGo : Stmt := inClass (top 36) 7
abbrev sBPutBox : Stmt := inClass (top 36) 8
abbrev sBPutCo : Stmt := inClass (top 36) 9
abbrev sBLook : Stmt := inClass (top 36) 10
abbrev sAsked : Stmt := top 40
abbrev sToldBy : Stmt := top 41
abbrev sAnswers : Stmt := top 42
/-! ### 5. Rules of my own: a constant of the module; a target that is an attribute -/
section
variable {X : Cx} {pos : Pos}
theorem pe_gi {x : Str} {i : Int} (hg : Gl X x) (hm : ∃ t, X.mg x = some (.int i t)) (hd : (x == ("__debug__" : Str)) = false := by decide) : PE X (.Name x pos) (tC (.int i)) := by
  obtain ⟨t, h⟩ := hm
  exact pe_glob hg h ⟨t, rfl⟩ hd
/-- o.f = a value that is at hand -/
def gFld (K : PySem.W.Frag) (ta : TE) (f : Str) : TG := fun v σ H Q => ta σ H fun x H1 => ∃ a C dx fs, x = .ref a ∧ H1 a = some (.ins C dx fs) ∧ Cls K C ∧ NoAttr K C f ∧ fs.length < 1000 ∧ Q σ (upd H1 a (.ins C dx (putF f v fs)))
theorem pg_fld {o : Expr} {f : Str} {ta : TE} (ha : PE X o ta) : PG X (.Attribute o f pos) (gFld X.K ta f) := by
  refine ⟨fun pins s σ H v u Q I r h => ?_⟩
  refine PySem.W.kas_attr (thn (ha.run pins s σ H _ I h) fun ov s1 ⟨x, H1, I1, rx, a, C, dx, fs, ex, ea, c, n, l, q⟩ => ?_)
  subst ex
  obtain rfl : ov = Value.ref a := rx
  exact setattr_ok I1 ea c n l r fun s2 I2 => ⟨σ, _, I2, q⟩
end
/-! ### 6. How the state lies in the heap -/
abbrev Sta := Ks191Neutral.S
abbrev iV (l : List Int) : List V := l.map V.int
def bF (ls : Addr) (mk : Int) (lr : Addr) (due tr st : Int) : List (Str × V) := [("sealed", .ref ls), ("mark", .int mk), ("row", .ref lr), ("due", .int due), ("tries", .int tr), ("state", .int st)]
def aF (n : Int) (la : Addr) : List (Str × V) := [("count", .int n), ("asked", .ref la)]
/-- the box and the counter at b; f is a list that is none of theirs -/
structure BoxIs (C f : Addr) (H : Hp) (b dx ls lr : Addr) (sd : List Nat) (mk : Nat) (ro : List Nat) (due tr st : Nat) : Prop where
  fl : ∃ xs, H f = some (.lst xs)
  lsf : ls ≠ f
  lrf : lr ≠ f
  ob : H b = some (.ins C dx (bF ls mk lr due tr st))
  sl : H ls = some (.lst (iV (Ks191Neutral.ints sd)))
  rw : H lr = some (.lst (iV (Ks191Neutral.ints ro)))
def BoxAt (C f : Addr) (H : Hp) (b : Addr) (s : Sta) : Prop := ∃ dx ls lr, BoxIs C f H b dx ls lr s.1.sealed_ s.1.mark s.2.row s.2.pass s.2.tries s.2.state
/-- an asker at a: n things were asked, these -/
structure AskIs (C : Addr) (H : Hp) (a dx la : Addr) (n : Nat) (l : List Int) : Prop where
  ob : H a = some (.ins C dx (aF n la))
  li : H la = some (.lst (iV l))
def AskAt (C : Addr) (H : Hp) (a : Addr) (n : Nat) (l : List Int) : Prop := ∃ dx la, AskIs C H a dx la n l
/-- all but what stands at a is as it was -/
def Off (a : Addr) (H H' : Hp) : Prop := ∀ q o, H q = some o → q ≠ a → H' q = some o
def Off2 (a b : Addr) (H H' : Hp) : Prop := ∀ q o, H q = some o → q ≠ a → q ≠ b → H' q = some o
theorem same_new {H : Hp} {p : Addr} {o : HO} (h : H p = none) : Same H (upd H p o) := fun b u e => by rw [upd_ne (ne_of_none e h)]; exact e
theorem Same.off {a : Addr} {H H' : Hp} (e : Same H H') : Off a H H' := fun q o h _ => e q o h
theorem off_upd {a : Addr} {H : Hp} {o : HO} : Off a H (upd H a o) := fun q u h n => by rw [upd_ne n]; exact h
theorem Off.trans {a : Addr} {H H1 H2 : Hp} (x : Off a H H1) (y : Off a H1 H2) : Off a H H2 := fun q o h n => y q o (x q o h n) n
theorem Off.to1 {a b : Addr} {H H' : Hp} (x : Off a H H') : Off2 a b H H' := fun q o h n _ => x q o h n
theorem Off.to2 {a b : Addr} {H H' : Hp} (x : Off b H H') : Off2 a b H H' := fun q o h _ n => x q o h n
theorem Off2.trans {a b : Addr} {H H1 H2 : Hp} (x : Off2 a b H H1) (y : Off2 a b H1 H2) : Off2 a b H H2 := fun q o h n m => y q o (x q o h n m) n m
theorem new_off {H H' : Hp} {a p q : Addr} {o : HO} (x : Off a H H') (h : H q = some o) (n : q ≠ a) (hp : H' p = none) : q ≠ p := ne_of_none (x q o h n) hp
theorem bF_len {ls lr : Addr} {mk due tr st : Int} : (bF ls mk lr due tr st).length = 6 := rfl
section
variable {C CA f b a dx dy ls lr la : Addr} {H H' : Hp} {s : Sta} {sd ro : List Nat} {mk due tr st : Nat} {n : Nat} {l : List Int}
theorem box_ne_ask (x : BoxIs C f H b dx ls lr sd mk ro due tr st) (y : AskIs CA H a dy la n l) : b ≠ a := ne_of x.ob y.ob fun e => by
  injection e with _ _ e
  have q := congrArg List.length e
  cases q
theorem BoxIs.bf (x : BoxIs C f H b dx ls lr sd mk ro due tr st) : b ≠ f := by
  obtain ⟨xs, e⟩ := x.fl
  exact ne_of x.ob e (by intro q; cases q)
theorem BoxIs.same (x : BoxIs C f H b dx ls lr sd mk ro due tr st) (e : Same H H') : BoxIs C f H' b dx ls lr sd mk ro due tr st := by
  obtain ⟨⟨xs, h0⟩, h1, h2, h3, h4, h5⟩ := x
  exact ⟨⟨xs, e _ _ h0⟩, h1, h2, e _ _ h3, e _ _ h4, e _ _ h5⟩
/-- what is done at an instance that is not the box -/
theorem BoxIs.off {D : Addr} {fs : List (Str × V)} (x : BoxIs C f H b dx ls lr sd mk ro due tr st) (e : Off a H H') (ha : H a = some (.ins D dy fs)) (hb : b ≠ a) : BoxIs C f H' b dx ls lr sd mk ro due tr st := by
  obtain ⟨⟨xs, h0⟩, h1, h2, h3, h4, h5⟩ := x
  exact ⟨⟨xs, e _ _ h0 (ne_of h0 ha (by intro q; cases q))⟩, h1, h2, e _ _ h3 hb, e _ _ h4 (ne_of h4 ha (by intro q; cases q)), e _ _ h5 (ne_of h5 ha (by intro q; cases q))⟩
theorem BoxIs.ask (x : BoxIs C f H b dx ls lr sd mk ro due tr st) (y : AskIs CA H a dy la n l) (e : Off a H H') : BoxIs C f H' b dx ls lr sd mk ro due tr st := x.off e y.ob (box_ne_ask x y)
theorem BoxAt.ask (x : BoxAt C f H b s) (y : AskAt CA H a n l) (e : Off a H H') : BoxAt C f H' b s := by
  obtain ⟨dx, ls, lr, x⟩ := x
  obtain ⟨dy, la, y⟩ := y
  exact ⟨dx, ls, lr, x.ask y e⟩
theorem AskIs.same (y : AskIs CA H a dy la n l) (e : Same H H') : AskIs CA H' a dy la n l := ⟨e _ _ y.ob, e _ _ y.li⟩
theorem AskIs.box (x : BoxIs C f H b dx ls lr sd mk ro due tr st) (y : AskIs CA H a dy la n l) (e : Off b H H') : AskIs CA H' a dy la n l :=
  ⟨e _ _ y.ob (box_ne_ask x y).symm, e _ _ y.li (ne_of y.li x.ob (by intro q; cases q))⟩
theorem BoxAt.same (x : BoxAt C f H b s) (e : Same H H') : BoxAt C f H' b s := by
  obtain ⟨dx, ls, lr, x⟩ := x
  exact ⟨dx, ls, lr, x.same e⟩
theorem AskAt.same (y : AskAt CA H a n l) (e : Same H H') : AskAt CA H' a n l := by
  obtain ⟨dy, la, y⟩ := y
  exact ⟨dy, la, y.same e⟩
theorem AskAt.box (x : BoxAt C f H b s) (y : AskAt CA H a n l) (e : Off b H H') : AskAt CA H' a n l := by
  obtain ⟨dx, ls, lr, x⟩ := x
  obtain ⟨dy, la, y⟩ := y
  exact ⟨dy, la, AskIs.box x y e⟩
end
/-! #### attributes -/
theorem lk1 {k : Str} {v : V} {r : List (Str × V)} : List.lookup k ((k, v) :: r) = some v := by
  rw [List.lookup_cons, beq_self_eq_true]
theorem lk0 {k g : Str} {v : V} {r : List (Str × V)} (h : (k == g) = false) : List.lookup k ((g, v) :: r) = List.lookup k r := by
  rw [List.lookup_cons, h]
theorem pt1 {f : Str} {v x : V} {r : List (Str × V)} : putF f v ((f, x) :: r) = (f, v) :: r := if_pos rfl
theorem pt0 {f g : Str} {v x : V} {r : List (Str × V)} (h : ¬ g = f) : putF f v ((g, x) :: r) = (g, x) :: putF f v r := if_neg h
section
variable {ls lr p : Addr} {mk due tr st z : Int}
theorem bF_sealed : (bF ls mk lr due tr st).lookup ("sealed" : Str) = some (.ref ls) := lk1
theorem bF_mark : (bF ls mk lr due tr st).lookup ("mark" : Str) = some (.int mk) := (lk0 (by decide +kernel)).trans lk1
theorem bF_row : (bF ls mk lr due tr st).lookup ("row" : Str) = some (.ref lr) := (lk0 (by decide +kernel)).trans ((lk0 (by decide +kernel)).trans lk1)
theorem bF_due : (bF ls mk lr due tr st).lookup ("due" : Str) = some (.int due) := (lk0 (by decide +kernel)).trans ((lk0 (by decide +kernel)).trans ((lk0 (by decide +kernel)).trans lk1))
theorem bF_tries : (bF ls mk lr due tr st).lookup ("tries" : Str) = some (.int tr) :=
  (lk0 (by decide +kernel)).trans ((lk0 (by decide +kernel)).trans ((lk0 (by decide +kernel)).trans ((lk0 (by decide +kernel)).trans lk1)))
theorem bF_state : (bF ls mk lr due tr st).lookup ("state" : Str) = some (.int st) :=
  (lk0 (by decide +kernel)).trans ((lk0 (by decide +kernel)).trans ((lk0 (by decide +kernel)).trans ((lk0 (by decide +kernel)).trans ((lk0 (by decide +kernel)).trans lk1))))
/-- a name that is no attribute -/
theorem bF_no {m : Str} (h : (m == "sealed" || m == "mark" || m == "row" || m == "due" || m == "tries" || m == "state") = false) : (bF ls mk lr due tr st).lookup m = none := by
  simp only [Bool.or_eq_false_iff] at h
  obtain ⟨⟨⟨⟨⟨h1, h2⟩, h3⟩, h4⟩, h5⟩, h6⟩ := h
  exact (lk0 h1).trans ((lk0 h2).trans ((lk0 h3).trans ((lk0 h4).trans ((lk0 h5).trans ((lk0 h6).trans rfl)))))
theorem bF_pSealed : putF "sealed" (.ref p) (bF ls mk lr due tr st) = bF p mk lr due tr st := pt1
theorem bF_pMark : putF "mark" (.int z) (bF ls mk lr due tr st) = bF ls z lr due tr st := (pt0 (by decide +kernel)).trans (congrArg _ pt1)
theorem bF_pRow : putF "row" (.ref p) (bF ls mk lr due tr st) = bF ls mk p due tr st := (pt0 (by decide +kernel)).trans (congrArg _ ((pt0 (by decide +kernel)).trans (congrArg _ pt1)))
theorem bF_pDue : putF "due" (.int z) (bF ls mk lr due tr st) = bF ls mk lr z tr st := (pt0 (by decide +kernel)).trans (congrArg _ ((pt0 (by decide +kernel)).trans (congrArg _ ((pt0 (by decide +kernel)).trans (congrArg _ pt1)))))
theorem bF_pTries : putF "tries" (.int z) (bF ls mk lr due tr st) = bF ls mk lr due z st :=
  (pt0 (by decide +kernel)).trans (congrArg _ ((pt0 (by decide +kernel)).trans (congrArg _ ((pt0 (by decide +kernel)).trans (congrArg _ ((pt0 (by decide +kernel)).trans (congrArg _ pt1)))))))
theorem bF_pState : putF "state" (.int z) (bF ls mk lr due tr st) = bF ls mk lr due tr z :=
  (pt0 (by decide +kernel)).trans (congrArg _ ((pt0 (by decide +kernel)).trans (congrArg _ ((pt0 (by decide +kernel)).trans (congrArg _ ((pt0 (by decide +kernel)).trans (congrArg _ ((pt0 (by decide +kernel)).trans (congrArg _ pt1)))))))))
theorem bF_new : putF "state" (.int st) (putF "tries" (.int tr) (putF "due" (.int due) (putF "row" (.ref lr) (putF "mark" (.int mk) (putF "sealed" (.ref ls) []))))) = bF ls mk lr due tr st := by
  have e1 : putF "mark" (.int mk) (putF "sealed" (.ref ls) []) = [(("sealed" : Str), V.ref ls), ("mark", V.int mk)] := (pt0 (by decide +kernel)).trans rfl
  have e2 : putF "row" (.ref lr) [(("sealed" : Str), V.ref ls), ("mark", V.int mk)] = [(("sealed" : Str), V.ref ls), ("mark", V.int mk), ("row", V.ref lr)] := (pt0 (by decide +kernel)).trans (congrArg _ ((pt0 (by decide +kernel)).trans rfl))
  have e3 : putF "due" (.int due) [(("sealed" : Str), V.ref ls), ("mark", V.int mk), ("row", V.ref lr)] = [(("sealed" : Str), V.ref ls), ("mark", V.int mk), ("row", V.ref lr), ("due", V.int due)] :=
    (pt0 (by decide +kernel)).trans (congrArg _ ((pt0 (by decide +kernel)).trans (congrArg _ ((pt0 (by decide +kernel)).trans rfl))))
  have e4 : putF "tries" (.int tr) [(("sealed" : Str), V.ref ls), ("mark", V.int mk), ("row", V.ref lr), ("due", V.int due)] = [(("sealed" : Str), V.ref ls), ("mark", V.int mk), ("row", V.ref lr), ("due", V.int due), ("tries", V.int tr)] :=
    (pt0 (by decide +kernel)).trans (congrArg _ ((pt0 (by decide +kernel)).trans (congrArg _ ((pt0 (by decide +kernel)).trans (congrArg _ ((pt0 (by decide +kernel)).trans rfl))))))
  have e5 : putF "state" (.int st) [(("sealed" : Str), V.ref ls), ("mark", V.int mk), ("row", V.ref lr), ("due", V.int due), ("tries", V.int tr)] = bF ls mk lr due tr st :=
    (pt0 (by decide +kernel)).trans (congrArg _ ((pt0 (by decide +kernel)).trans (congrArg _ ((pt0 (by decide +kernel)).trans (congrArg _ ((pt0 (by decide +kernel)).trans (congrArg _ ((pt0 (by decide +kernel)).trans rfl))))))))
  rw [e1, e2, e3, e4, e5]
variable {n : Int} {la : Addr}
theorem aF_count : (aF n la).lookup ("count" : Str) = some (.int n) := lk1
theorem aF_asked : (aF n la).lookup ("asked" : Str) = some (.ref la) := (lk0 (by decide +kernel)).trans lk1
theorem aF_no {m : Str} (h : (m == "count" || m == "asked") = false) : (aF n la).lookup m = none := by
  simp only [Bool.or_eq_false_iff] at h
  exact (lk0 h.1).trans ((lk0 h.2).trans rfl)
theorem aF_pCount : putF "count" (.int z) (aF n la) = aF z la := pt1
theorem aF_pAsked : putF "asked" (.ref p) (aF n la) = aF n p := (pt0 (by decide +kernel)).trans (congrArg _ pt1)
theorem aF_new : putF "asked" (.ref la) (putF "count" (.int n) []) = aF n la := (pt0 (by decide +kernel)).trans rfl
end
/-! ### 7. What the top has written -/
structure Txt (K : PySem.W.Frag) (mg : Str → Option Value) (C CA aN aW : Addr) : Prop where
  cB : Cls K C
  cA : Cls K CA
  nSealed : NoAttr K C "sealed"
  nMark : NoAttr K C "mark"
  nRow : NoAttr K C "row"
  nDue : NoAttr K C "due"
  nTries : NoAttr K C "tries"
  nState : NoAttr K C "state"
  nCount : NoAttr K CA "count"
  nAsked : NoAttr K CA "asked"
  gB : mg "Box" = some (.ref C)
  gA : mg "Asker" = some (.ref CA)
  gN : mg "NUMBERS" = some (.ref aN)
  gW : mg "WITH_ROW" = some (.ref aW)
  iN : ∀ H, SqT K H aN (iV [1, 1, 1, 1, 1, 1, 1, 3, 0])
  iW : ∀ H, SqT K H aW (iV [1, 3, 6, 7])
  bLen : mg "len" = none
  bRange : mg "range" = none
  bZip : mg "zip" = none
  bRev : mg "reversed" = none
  kPRIME : ∃ t, mg "PRIME" = some (.int 2305843009213693951 t)
  kWORDS : ∃ t, mg "WORDS" = some (.int 18446744073709551616 t)
  kPADs : ∃ t, mg "PAD_signs" = some (.int 64 t)
  kNT : ∃ t, mg "NAME_TIMES" = some (.int 1000003 t)
  kNM : ∃ t, mg "NAME_MORE" = some (.int 12345 t)
  kMT : ∃ t, mg "MARK_TIMES" = some (.int 6364136223846793005 t)
  kMM : ∃ t, mg "MARK_MORE" = some (.int 1442695040888963407 t)
  kPT : ∃ t, mg "PASS_TIMES" = some (.int 2862933555777941757 t)
  kPM : ∃ t, mg "PASS_MORE" = some (.int 3037000493 t)
  kNAME : ∃ t, mg "NAME" = some (.int 1 t)
  kPADa : ∃ t, mg "PAD_asking" = some (.int 2 t)
  kMARK : ∃ t, mg "MARK" = some (.int 3 t)
  kPASS : ∃ t, mg "PASS" = some (.int 4 t)
  kROW : ∃ t, mg "OF_ROW" = some (.int 5 t)
  kOUT : ∃ t, mg "OUT_OF_RANGE" = some (.int (-22) t)
  kNTH : ∃ t, mg "NOT_THERE" = some (.int (-2) t)
  kNTB : ∃ t, mg "NOT_THE_BOX" = some (.int (-13) t)
  kTHE : ∃ t, mg "THERE" = some (.int (-1) t)
  kNOT : ∃ t, mg "NO_TRIES" = some (.int (-28) t)
  kSPO : ∃ t, mg "SPOILT" = some (.int (-71) t)
  kLAST : ∃ t, mg "LAST_NUMBER" = some (.int 9999 t)
  kMOST : ∃ t, mg "MOST_TRIES" = some (.int 10 t)
  kMANY : ∃ t, mg "MANY" = some (.int 11 t)
  kNOB : ∃ t, mg "NOBODY" = some (.int 0 t)
  kSOM : ∃ t, mg "SOMEBODY" = some (.int 1 t)
  kLET : ∃ t, mg "LET_GO" = some (.int 2 t)
/-- a def of the module that keeps its promise, as its callers use it -/
def OkF (P : Program) (w : World) (K : PySem.W.Frag) (mg : Str → Option Value) (base : Heap) (k : Nat) (x : Str) (ps : List Str) (sp : Sp) : Prop :=
  ∃ f fd, FnOk P w K mg base CX0 k f fd ps sp ∧ mg x = some (.ref f) ∧ PySem.W.keepIn K (.ref f) = true ∧ Binds K fd ps []
/-- a method that keeps its promise -/
def OkM (P : Program) (w : World) (K : PySem.W.Frag) (mg : Str → Option Value) (base : Heap) (k : Nat) (C : Addr) (x : Str) (ps : List Str) (sp : Sp) : Prop :=
  ∃ f fd, FnOk P w K mg base CX0 k f fd ps sp ∧ Meth K C x f ∧ Binds K fd ps []
/-- an __init__ that keeps its promise -/
def OkI (P : Program) (w : World) (K : PySem.W.Frag) (mg : Str → Option Value) (base : Heap) (k : Nat) (C : Addr) (ps : List Str) (sp : Sp) : Prop :=
  ∃ f fd, FnOk P w K mg base CX0 k f fd ps sp ∧ Mk K C f ∧ Binds K fd ps []
/-- a def of the text as it stands behind the top -/
def HasF (K : PySem.W.Frag) (mg : Str → Option Value) (x : Str) (st : Stmt) (ps : List Str) : Prop := ∃ f fd, Fun K x x st f fd ∧ mg x = some (.ref f) ∧ PySem.W.keepIn K (.ref f) = true ∧ Binds K fd ps []
def HasM (K : PySem.W.Frag) (C : Addr) (x qual : Str) (st : Stmt) (ps : List Str) : Prop := ∃ f fd, Fun K x qual st f fd ∧ Meth K C x f ∧ Binds K fd ps []
def HasI (K : PySem.W.Frag) (C : Addr) (qual : Str) (st : Stmt) (ps : List Str) : Prop := ∃ f fd, Fun K "__init__" qual st f fd ∧ Mk K C f ∧ Binds K fd ps []
section
variable {P : Program} {w : World} {K : PySem.W.Frag} {mg : Str → Option Value} {base : Heap} {k : Nat} {C : Addr} {x qual : Str} {st : Stmt} {ps : List Str} {sp : Sp}
theorem HasF.ok (h : HasF K mg x st ps) (q : ∀ f fd, Fun K x x st f fd → FnOk P w K mg base CX0 k f fd ps sp) : OkF P w K mg base k x ps sp := by
  obtain ⟨f, fd, F, g, kp, b⟩ := h
  exact ⟨f, fd, q f fd F, g, kp, b⟩
theorem HasM.ok (h : HasM K C x qual st ps) (q : ∀ f fd, Fun K x qual st f fd → FnOk P w K mg base CX0 k f fd ps sp) : OkM P w K mg base k C x ps sp := by
  obtain ⟨f, fd, F, m, b⟩ := h
  exact ⟨f, fd, q f fd F, m, b⟩
theorem HasI.ok (h : HasI K C qual st ps) (q : ∀ f fd, Fun K "__init__" qual st f fd → FnOk P w K mg base CX0 k f fd ps sp) : OkI P w K mg base k C ps sp := by
  obtain ⟨f, fd, F, m, b⟩ := h
  exact ⟨f, fd, q f fd F, m, b⟩
end
end TT
namespace TT
open PySem PySem.Spec PyProof.Rows L2
/-! ### 8. Names, pads, marks, passes; what a row comes to -/
def spNameOf : Sp := fun vs H Q _ => ∃ n : Nat, vs = [.int (n : Int)] ∧ Q (.int ((Ks191Neutral.given.name n : Nat) : Int)) H
def spMarkOf : Sp := fun vs H Q _ => ∃ y : Nat, vs = [.int (y : Int)] ∧ Q (.int ((Ks191Neutral.given.mark y : Nat) : Int)) H
def spPassOf : Sp := fun vs H Q _ => ∃ y : Nat, vs = [.int (y : Int)] ∧ Q (.int ((Ks191Neutral.given.pass y : Nat) : Int)) H
def spPadOf : Sp := fun vs H Q _ => ∃ y : Nat, vs = [.int (y : Int)] ∧ ∀ p, H p = none → Q (.ref p) (upd H p (.lst (iV (Ks191Neutral.ints (Ks191Neutral.given.pad y)))))
section
variable {P : Program} {w : World} {K : PySem.W.Frag} {mg : Str → Option Value} {base : Heap} {C CA aN aW f : Addr} {fd : FuncData}
theorem sc_nameOf : FnScope ["number"] ["number"] (defScope sNameOf) := ⟨rfl, rfl, rfl, by decide +kernel, rfl, by decide +kernel, by decide +kernel⟩
theorem ok_nameOf (F : Fun K "name_of" "name_of" sNameOf f fd) (T : Txt K mg C CA aN aW) : FnOk P w K mg base CX0 1 f fd ["number"] spNameOf := by
  refine F.ok sc_nameOf (fun vs H Q E h => ?_) (fun cdv A outer s H vs Q E hr h => ?_)
  · obtain ⟨n, rfl, _⟩ := h
    rfl
  · obtain ⟨n, rfl, k⟩ := h
    refine ⟨_, pss_one (ps_ret (pe_op op_add (pe_op op_mul (pe_gi rfl T.kNT) (pv 0)) (pe_gi rfl T.kNM))), ?_⟩
    refine ⟨_, rfl, _, _, rfl, rfl, .inl ⟨by decide, by decide⟩, _, _, rfl, rfl, ?_⟩
    show Q (.int ((1000003 : Int) * (n : Int) + 12345)) H
    rw [name_one]
    exact k
theorem sc_markOf : FnScope ["y"] ["y"] (defScope sMarkOf) := ⟨rfl, rfl, rfl, by decide +kernel, rfl, by decide +kernel, by decide +kernel⟩
theorem ok_markOf (F : Fun K "mark_of" "mark_of" sMarkOf f fd) (T : Txt K mg C CA aN aW) : FnOk P w K mg base CX0 1 f fd ["y"] spMarkOf := by
  refine F.ok sc_markOf (fun vs H Q E h => ?_) (fun cdv A outer s H vs Q E hr h => ?_)
  · obtain ⟨n, rfl, _⟩ := h
    rfl
  · obtain ⟨n, rfl, k⟩ := h
    refine ⟨_, pss_one (ps_ret (pe_op op_mod (pe_op op_add (pe_op op_mul (pe_gi rfl T.kMT) (pv 0)) (pe_gi rfl T.kMM)) (pe_gi rfl T.kWORDS))), ?_⟩
    refine ⟨_, rfl, _, _, rfl, rfl, .inl ⟨by decide, by decide⟩, _, _, rfl, rfl, _, _, rfl, rfl, (by show (0 : Int) < 18446744073709551616; decide), ?_⟩
    show Q (.int (((6364136223846793005 : Int) * (n : Int) + 1442695040888963407) % 18446744073709551616)) H
    rw [mark_one]
    exact k
theorem sc_passOf : FnScope ["y"] ["y"] (defScope sPassOf) := ⟨rfl, rfl, rfl, by decide +kernel, rfl, by decide +kernel, by decide +kernel⟩
theorem ok_passOf (F : Fun K "pass_of" "pass_of" sPassOf f fd) (T : Txt K mg C CA aN aW) : FnOk P w K mg base CX0 1 f fd ["y"] spPassOf := by
  refine F.ok sc_passOf (fun vs H Q E h => ?_) (fun cdv A outer s H vs Q E hr h => ?_)
  · obtain ⟨n, rfl, _⟩ := h
    rfl
  · obtain ⟨n, rfl, k⟩ := h
    refine ⟨_, pss_one (ps_ret (pe_op op_mod (pe_op op_add (pe_op op_mul (pe_gi rfl T.kPT) (pv 0)) (pe_gi rfl T.kPM)) (pe_gi rfl T.kWORDS))), ?_⟩
    refine ⟨_, rfl, _, _, rfl, rfl, .inl ⟨by decide, by decide⟩, _, _, rfl, rfl, _, _, rfl, rfl, (by show (0 : Int) < 18446744073709551616; decide), ?_⟩
    show Q (.int (((2862933555777941757 : Int) * (n : Int) + 3037000493) % 18446744073709551616)) H
    rw [pass_one]
    exact k
theorem sc_padOf : FnScope ["y", "at"] ["y"] (defScope sPadOf) := ⟨rfl, rfl, rfl, by decide +kernel, rfl, by decide +kernel, by decide +kernel⟩
theorem iV_next {l : List Nat} {i x : Nat} (h : l[i]? = some x) : iV (Ks191Neutral.ints (l.take (i + 1))) = iV (Ks191Neutral.ints (l.take i)) ++ [.int (x : Int)] := by
  unfold Ks191Neutral.ints iV
  rw [take_next h, List.map_append, List.map_append]
  rfl
theorem iV_len (l : List Nat) : (iV (Ks191Neutral.ints l)).length = l.length := by
  unfold Ks191Neutral.ints iV
  rw [List.length_map, List.length_map]
theorem iV_get {l : List Nat} {i x : Nat} (h : l[i]? = some x) : (iV (Ks191Neutral.ints l))[i]? = some (.int (x : Int)) := by
  unfold Ks191Neutral.ints iV
  rw [List.getElem?_map, List.getElem?_map, h]
  rfl
theorem iV_at {l : List Nat} {i : Nat} {v : V} (h : (iV (Ks191Neutral.ints l))[i]? = some v) : ∃ x : Nat, l[i]? = some x ∧ v = .int (x : Int) := by
  unfold Ks191Neutral.ints iV at h
  rw [List.getElem?_map, List.getElem?_map] at h
  cases e : l[i]? with
  | none =>
    rw [e] at h
    cases h
  | some x =>
    rw [e] at h
    exact ⟨x, rfl, (Option.some.inj h).symm⟩
theorem small_line {n : Nat} (h : n ≤ 100000) : n < sizeLine := Nat.lt_of_le_of_lt h (by decide)
theorem ok_padOf (F : Fun K "pad_of" "pad_of" sPadOf f fd) (T : Txt K mg C CA aN aW) : FnOk P w K mg base CX0 1 f fd ["y"] spPadOf := by
  refine F.ok sc_padOf (fun vs H Q E h => ?_) (fun cdv A outer s H vs Q E hr h => ?_)
  · obtain ⟨n, rfl, _⟩ := h
    rfl
  · obtain ⟨y, rfl, k⟩ := h
    refine ⟨_, pss_one (ps_ret (pe_lc (own := [("at", 1)]) (g := gName 1) (tt := tYes) rfl sc_padOf.nd (pi_range1 rfl T.bRange (pa_cons (pe_gi rfl T.kPADs) pa_nil))
      (blkOk_by (own := [("at", 1)]) (N := ["y", "at"]) (sc := defScope sPadOf) (by decide +kernel)) (fun _ _ _ _ _ => pg_name (i := 1) sc_padOf.nd rfl (Or.inl rfl)) (fun _ _ _ _ _ => pts_nil)
      (fun _ _ _ _ _ => pe_op op_mod (pe_op op_add (pe_op op_shr (pv 0) (pe_op op_mul pe_int (pe_op op_mod (pv 1) pe_int))) (pv 1)) pe_int))), ?_⟩
    refine ⟨64, rfl, by decide, by decide, fun D hD => lc_range (lo := 0) (n := 64) (fun i H' => H' = upd H D (.lst (iV (Ks191Neutral.ints ((Ks191Neutral.given.pad y).take i))))) rfl ?_ ?_⟩
    · rintro i H' hi rfl
      rw [Int.zero_add]
      refine ⟨rfl, ?_⟩
      refine ⟨_, rfl, _, rfl, _, _, rfl, rfl, (by show (0 : Int) < 8; decide), _, _, rfl, rfl, .inl ⟨by decide, by decide⟩, _, _, rfl, rfl, ?_, _, rfl, _, _, rfl, rfl, _, _, rfl, rfl, (by show (0 : Int) < 256; decide), _, upd_same, ?_, ?_⟩
      · show (0 : Int) ≤ 8 * ((i : Int) % 8)
        omega
      · rw [iV_len, List.length_take, pad_len]
        exact small_line (by omega)
      · rw [upd_upd, iV_next (pad_get hi), ← pad_one]
    · rintro H' rfl
      rw [take_all (Nat.le_of_eq (pad_len y))]
      exact k D hD
/-! what a row comes to -/
def spComes : Sp := fun vs H Q _ => ∃ (a : Addr) (r : List Nat) (x : Nat), vs = [.ref a, .int (x : Int)] ∧ H a = some (.lst (iV (Ks191Neutral.ints r))) ∧ Q (.int ((Ks191.comes x r : Nat) : Int)) H
theorem sc_comes : FnScope ["row", "x", "found", "number"] ["row", "x"] (defScope sComesTo) := ⟨rfl, rfl, rfl, by decide +kernel, rfl, by decide +kernel, by decide +kernel⟩
theorem ok_comes (F : Fun K "comes_to" "comes_to" sComesTo f fd) (T : Txt K mg C CA aN aW) : FnOk P w K mg base CX0 1 f fd ["row", "x"] spComes := by
  refine F.ok sc_comes (fun vs H Q E h => ?_) (fun cdv A outer s H vs Q E hr h => ?_)
  · obtain ⟨a, r, x, rfl, _⟩ := h
    rfl
  · obtain ⟨a, r, x, rfl, ha, k⟩ := h
    refine ⟨_, pss_cons (ps_set (i := 2) sc_comes.nd rfl (Or.inl rfl) pe_int) (pss_cons (ps_for PassesOwn.never rfl (pi_reversed (by rfl) T.bRev (pa_cons (pv 0) pa_nil)) (pg_name (i := 3) sc_comes.nd rfl (Or.inl rfl))
      (pss_one (ps_set (i := 2) sc_comes.nd rfl (Or.inl rfl) (pe_op op_mod (pe_op op_add (pe_op op_mul (pv 2) (pv 1)) (pv 3)) (pe_gi rfl T.kPRIME)))))
      (pss_one (ps_ret (pv 2)))), ?_⟩
    refine ⟨_, rfl, a, _, rfl, SqL.of ha, for_it walk_rev (fun i σ H' => H' = H ∧ ∃ v : Option V, σ = [some (.ref a), some (.int (x : Int)), some (.int ((Ks191.comes x (r.drop (r.length - i)) : Nat) : Int)), v]) ?_ ?_ ?_ ?_⟩
    · refine ⟨rfl, none, ?_⟩
      rw [Nat.sub_zero, List.drop_length]
      rfl
    · rintro i σ H' _ ⟨rfl, _⟩
      exact SqL.of ha
    · rintro i y σ H' H2 hi ⟨rfl, v, rfl⟩ ⟨rfl, hy⟩
      rw [iV_len] at hi hy
      obtain ⟨z, hz, rfl⟩ := iV_at hy
      refine ⟨_, rfl, _, rfl, _, _, rfl, rfl, .inl ⟨?_, ?_⟩, _, rfl, _, _, rfl, rfl, _, _, rfl, rfl, (by show (0 : Int) < 2305843009213693951; decide), rfl, some (.int (z : Int)), ?_⟩
      · omega
      · have q := comes_lt x (r.drop (r.length - i))
        rw [P_is] at q
        omega
      · rw [drop_back hi hz, ← comes_one]
        rfl
    · rintro σ H' ⟨rfl, v, rfl⟩
      rw [iV_len, Nat.sub_self, List.drop_zero]
      exact ⟨_, rfl, k⟩
/-! bytes, each with that of a pad -/
def spPadded : Sp := fun vs H Q _ => ∃ (a b : Addr) (r d : List Nat), vs = [.ref a, .ref b] ∧ H a = some (.lst (iV (Ks191Neutral.ints r))) ∧ H b = some (.lst (iV (Ks191Neutral.ints d))) ∧ d.length = 64 ∧
  ∀ (H' : Hp) (p : Addr), Same H H' → H p = none → H' p = some (.lst (iV (Ks191Neutral.ints (Ks191.xor r d)))) → Q (.ref p) H'
theorem sc_padded : FnScope ["row", "pad", "one", "other"] ["row", "pad"] (defScope sPadded) := ⟨rfl, rfl, rfl, by decide +kernel, rfl, by decide +kernel, by decide +kernel⟩
theorem ok_padded (F : Fun K "padded" "padded" sPadded f fd) (T : Txt K mg C CA aN aW) : FnOk P w K mg base CX0 1 f fd ["row", "pad"] spPadded := by
  refine F.ok sc_padded (fun vs H Q E h => ?_) (fun cdv A outer s H vs Q E hr h => ?_)
  · obtain ⟨a, b, r, d, rfl, _⟩ := h
    rfl
  · obtain ⟨a, b, r, d, rfl, ha, hb, h64, k⟩ := h
    refine ⟨_, pss_one (ps_ret (pe_lc (own := [("one", 2), ("other", 3)]) (g := gTup K 2 (gCons (gName 2) (gCons (gName 3) gNil))) (tt := tYes) rfl sc_padded.nd (pi_zip (by rfl) T.bZip (pa_cons (pv 0) (pa_cons (pv 1) pa_nil)))
      (blkOk_by (own := [("one", 2), ("other", 3)]) (N := ["row", "pad", "one", "other"]) (sc := defScope sPadded) (by decide +kernel))
      (fun _ _ _ _ _ => pg_tup rfl (pgs_cons (pg_name (i := 2) sc_padded.nd rfl (Or.inl rfl)) (pgs_cons (pg_name (i := 3) sc_padded.nd rfl (Or.inl rfl)) pgs_nil))) (fun _ _ _ _ _ => pts_nil)
      (fun _ _ _ _ _ => pe_op op_xor (pv 2) (pv 3)))), ?_⟩
    have hl : (Ks191.xor r d).length = min (iV (Ks191Neutral.ints r)).length (iV (Ks191Neutral.ints d)).length := by rw [iV_len, iV_len, xor_len]
    refine ⟨_, rfl, _, rfl, a, b, _, _, rfl, SqL.of ha, SqL.of hb, fun D hD => lc_it (walk_zip hl) (fun i H' => Same H H' ∧ H' D = some (.lst (iV (Ks191Neutral.ints ((Ks191.xor r d).take i))))) ⟨same_new hD, upd_same⟩ ?_ ?_ ?_⟩
    · rintro i H' _ ⟨e, _⟩
      exact ⟨SqL.of (e _ _ ha), SqL.of (e _ _ hb)⟩
    · rintro i v H1 H2 hi ⟨e, h1⟩ ⟨t, x, y, rfl, ht, rfl, hx, hy⟩
      obtain ⟨n, hn, rfl⟩ := iV_at hx
      obtain ⟨m, hm, rfl⟩ := iV_at hy
      refine ⟨t, _, rfl, SqT.of upd_same, rfl, _, _, rfl, _, _, rfl, rfl, rfl, ?_⟩
      refine ⟨_, rfl, _, rfl, _, _, rfl, rfl, _, (upd_ne (ne_of_none h1 ht)).trans h1, ?_, ?_, ?_⟩
      · rw [iV_len, List.length_take]
        refine small_line ?_
        rw [xor_len]
        omega
      · intro q o hq
        have h2 := e _ _ hq
        rw [upd_ne (ne_of_none hq hD), upd_ne (ne_of_none h2 ht)]
        exact h2
      · rw [upd_same, iV_next (xor_get hn hm)]
        have q : Builtin.bitXor (n : Int) (m : Int) = ((n ^^^ m : Nat) : Int) := Bits.bitXor_pp (Int.natCast_nonneg n) (Int.natCast_nonneg m)
        rw [← q]
    · rintro H' ⟨e, h1⟩
      rw [take_all (Nat.le_refl _)] at h1
      exact k H' D e hD h1
end
end TT
namespace TT
open PySem PySem.Spec PyProof.Rows L2
/-! ### 9. What's asked -/
def spAInit (CA : Addr) : Sp := fun vs H Q _ => ∃ a dx, vs = [.ref a] ∧ H a = some (.ins CA dx []) ∧ ∀ H', AskAt CA H' a 0 [] → Off a H H' → Q .non H'
def spNote (CA : Addr) : Sp := fun vs H Q _ => ∃ (a t : Addr) (n : Nat) (l th : List Int), vs = [.ref a, .ref t] ∧ AskAt CA H a n l ∧ H t = some (.lst (iV th)) ∧ l.length + th.length ≤ 1000 ∧
  ∀ H', AskAt CA H' a (n + 1) (l ++ th) → Off a H H' → Q .non H'
/-- one thing of y is asked, its answer is a number -/
def spAInt (CA : Addr) (c : Int) (g : Nat → Nat) : Sp := fun vs H Q _ => ∃ (a : Addr) (y n : Nat) (l : List Int), vs = [.ref a, .int (y : Int)] ∧ AskAt CA H a n l ∧ l.length ≤ 900 ∧
  ∀ H', AskAt CA H' a (n + 1) (l ++ [c, (y : Int)]) → Off a H H' → Q (.int ((g y : Nat) : Int)) H'
def spAPad (CA : Addr) : Sp := fun vs H Q _ => ∃ (a : Addr) (y n : Nat) (l : List Int), vs = [.ref a, .int (y : Int)] ∧ AskAt CA H a n l ∧ l.length ≤ 900 ∧
  ∀ H' p, AskAt CA H' a (n + 1) (l ++ [2, (y : Int)]) → Off a H H' → H p = none → H' p = some (.lst (iV (Ks191Neutral.ints (Ks191Neutral.given.pad y)))) → Q (.ref p) H'
def spARow (CA : Addr) : Sp := fun vs H Q _ => ∃ (a t : Addr) (n : Nat) (l : List Int) (r : List Nat), vs = [.ref a, .ref t] ∧ AskAt CA H a n l ∧ l.length ≤ 800 ∧ H t = some (.lst (iV (Ks191Neutral.ints r))) ∧ r.length ≤ 64 ∧
  ∀ H', AskAt CA H' a (n + r.length) (l ++ List.replicate r.length 5) → Off a H H' → Q (.ref t) H'
def spATold (CA : Addr) : Sp := fun vs H Q _ => ∃ (a : Addr) (n : Nat) (l : List Int), vs = [.ref a] ∧ AskAt CA H a n l ∧ l.length ≤ 1000 ∧
  ∀ H' p, Same H H' → H p = none → H' p = some (.lst (iV ((n : Int) :: l))) → Q (.ref p) H'
theorem iV_app (a b : List Int) : iV (a ++ b) = iV a ++ iV b := List.map_append
theorem iV_length (a : List Int) : (iV a).length = a.length := List.length_map ..
section
variable {P : Program} {w : World} {K : PySem.W.Frag} {mg : Str → Option Value} {base : Heap} {C CA aN aW f : Addr} {fd : FuncData}
theorem sc_aInit : FnScope ["self"] ["self"] (defScope sAInit) := ⟨rfl, rfl, rfl, by decide +kernel, rfl, by decide +kernel, by decide +kernel⟩
theorem ok_aInit (F : Fun K "__init__" "Asker.__init__" sAInit f fd) (T : Txt K mg C CA aN aW) : FnOk P w K mg base CX0 1 f fd ["self"] (spAInit CA) := by
  refine F.ok sc_aInit (fun vs H Q E h => ?_) (fun cdv A outer s H vs Q E hr h => ?_)
  · obtain ⟨a, dx, rfl, _⟩ := h
    rfl
  · obtain ⟨a, dx, rfl, ha, k⟩ := h
    refine ⟨_, pss_cons (ps_fld (pv 0) pe_int rfl) (pss_one (ps_fld (pv 0) (pe_lst pa_nil) rfl)), ?_⟩
    refine ⟨_, rfl, a, CA, dx, _, rfl, ha, T.cA, T.nCount, (by show 0 < 1000; decide), Nat.zero_le _, fun p hp => ?_⟩
    have nap : a ≠ p := ne_of_none upd_same hp
    refine ⟨_, rfl, a, CA, dx, _, rfl, (upd_ne nap).trans upd_same, T.cA, T.nAsked, (by show 1 < 1000; decide), ?_⟩
    refine k _ ⟨dx, p, ?_, ?_⟩ (fun q o e n => ?_)
    · rw [upd_same, aF_new]
      rfl
    · rw [upd_ne nap.symm, upd_same]
      rfl
    · rw [upd_ne n, upd_ne (new_off off_upd e n hp), upd_ne n]
      exact e
theorem sc_aNote : FnScope ["self", "thing"] ["self", "thing"] (defScope sANote) := ⟨rfl, rfl, rfl, by decide +kernel, rfl, by decide +kernel, by decide +kernel⟩
theorem ok_aNote (F : Fun K "note" "Asker.note" sANote f fd) (T : Txt K mg C CA aN aW) : FnOk P w K mg base CX0 1 f fd ["self", "thing"] (spNote CA) := by
  refine F.ok sc_aNote (fun vs H Q E h => ?_) (fun cdv A outer s H vs Q E hr h => ?_)
  · obtain ⟨a, t, n, l, th, rfl, _⟩ := h
    rfl
  · obtain ⟨a, t, n, l, th, rfl, ⟨dx, la, h1, h2⟩, h3, hlen, k⟩ := h
    have nla : la ≠ a := ne_of h2 h1 (by intro q; cases q)
    have nta : t ≠ a := ne_of h3 h1 (by intro q; cases q)
    refine ⟨_, pss_cons (ps_fldaug (pv 0) pe_int in_add) (pss_one (ps_fld (pv 0) (pe_op op_cat (pe_fld (pv 0) rfl) (pv 1)) rfl)), ?_⟩
    refine ⟨_, rfl, a, CA, dx, _, _, rfl, h1, T.cA, T.nCount, aF_count, _, _, rfl, rfl, dx, _, h1, (by show 2 < 1000; decide), ?_⟩
    refine ⟨_, rfl, a, CA, dx, _, _, rfl, upd_same, T.cA, T.nAsked, (by rw [aF_pCount]; exact aF_asked), _, rfl, la, t, _, _, rfl, rfl, (upd_ne nla).trans h2, (upd_ne nta).trans h3, ?_, fun p hp => ?_⟩
    · rw [iV_length, iV_length]
      exact Nat.le_trans hlen (by decide)
    have nap : a ≠ p := ne_of_none upd_same hp
    refine ⟨_, rfl, a, CA, dx, _, rfl, (upd_ne nap).trans upd_same, T.cA, T.nAsked, (by rw [aF_pCount]; show 2 < 1000; decide), ?_⟩
    refine k _ ⟨dx, p, ?_, ?_⟩ (fun q o e n => ?_)
    · rw [upd_same, aF_pCount, aF_pAsked]
      rfl
    · rw [upd_ne nap.symm, upd_same, iV_app]
    · rw [upd_ne n, upd_ne (new_off off_upd e n hp), upd_ne n]
      exact e
theorem off_new {a p : Addr} {o : HO} {H H' : Hp} (h : Off a (upd H p o) H') (hp : H p = none) : Off a H H' := fun q u e m => h q u (same_new hp q u e) m
theorem len_two {l : List Int} {x y : Int} (h : l.length ≤ 900) : l.length + [x, y].length ≤ 1000 := by
  show l.length + 2 ≤ 1000
  omega
theorem sc_aName : FnScope ["self", "number"] ["self", "number"] (defScope sAName) := ⟨rfl, rfl, rfl, by decide +kernel, rfl, by decide +kernel, by decide +kernel⟩
theorem ok_aName (F : Fun K "name" "Asker.name" sAName f fd) (T : Txt K mg C CA aN aW) (N : OkM P w K mg base 1 CA "note" ["self", "thing"] (spNote CA)) (G : OkF P w K mg base 1 "name_of" ["number"] spNameOf) :
    FnOk P w K mg base CX0 2 f fd ["self", "number"] (spAInt CA 1 Ks191Neutral.given.name) := by
  obtain ⟨fN, fdN, N, mN, bN⟩ := N
  obtain ⟨fG, fdG, G, gG, kG, bG⟩ := G
  refine F.ok sc_aName (fun vs H Q E h => ?_) (fun cdv A outer s H vs Q E hr h => ?_)
  · obtain ⟨a, y, n, l, rfl, _⟩ := h
    rfl
  · obtain ⟨a, y, n, l, rfl, hA, hl, k⟩ := h
    obtain ⟨dx, la, h1, h2⟩ := id hA
    refine ⟨_, pss_cons (ps_expr (pe_meth (pv 0) T.cA mN N hr bN .nil pass0 (pa_cons (pe_lst (pa_cons (pe_gi rfl T.kNAME) (pa_cons (pv 1) pa_nil))) pa_nil))) (pss_one (ps_ret (pe_call G hr rfl gG kG bG .nil pass0 (pa_cons (pv 1) pa_nil)))), ?_⟩
    refine ⟨_, rfl, a, dx, _, rfl, h1, aF_no (by decide +kernel), _, rfl, (by show 2 ≤ sizeLine; decide), fun p hp => ?_⟩
    refine ⟨a, p, n, l, [1, (y : Int)], rfl, hA.same (same_new hp), upd_same, len_two hl, fun H' hA' hO1 => ?_⟩
    have hO := off_new hO1 hp
    exact ⟨_, rfl, y, rfl, k H' hA' hO⟩
theorem sc_aPad : FnScope ["self", "y"] ["self", "y"] (defScope sAPad) := ⟨rfl, rfl, rfl, by decide +kernel, rfl, by decide +kernel, by decide +kernel⟩
theorem ok_aPad (F : Fun K "pad" "Asker.pad" sAPad f fd) (T : Txt K mg C CA aN aW) (N : OkM P w K mg base 1 CA "note" ["self", "thing"] (spNote CA)) (G : OkF P w K mg base 1 "pad_of" ["y"] spPadOf) :
    FnOk P w K mg base CX0 2 f fd ["self", "y"] (spAPad CA) := by
  obtain ⟨fN, fdN, N, mN, bN⟩ := N
  obtain ⟨fG, fdG, G, gG, kG, bG⟩ := G
  refine F.ok sc_aPad (fun vs H Q E h => ?_) (fun cdv A outer s H vs Q E hr h => ?_)
  · obtain ⟨a, y, n, l, rfl, _⟩ := h
    rfl
  · obtain ⟨a, y, n, l, rfl, hA, hl, k⟩ := h
    obtain ⟨dx, la, h1, h2⟩ := id hA
    refine ⟨_, pss_cons (ps_expr (pe_meth (pv 0) T.cA mN N hr bN .nil pass0 (pa_cons (pe_lst (pa_cons (pe_gi rfl T.kPADa) (pa_cons (pv 1) pa_nil))) pa_nil))) (pss_one (ps_ret (pe_call G hr rfl gG kG bG .nil pass0 (pa_cons (pv 1) pa_nil)))), ?_⟩
    refine ⟨_, rfl, a, dx, _, rfl, h1, aF_no (by decide +kernel), _, rfl, (by show 2 ≤ sizeLine; decide), fun p hp => ?_⟩
    refine ⟨a, p, n, l, [2, (y : Int)], rfl, hA.same (same_new hp), upd_same, len_two hl, fun H' hA' hO1 => ?_⟩
    have hO := off_new hO1 hp
    refine ⟨_, rfl, y, rfl, fun q hq => k _ q (hA'.same (same_new hq)) (hO.trans (Same.off (same_new hq))) ?_ upd_same⟩
    by_cases e : q = a
    · obtain ⟨dy, lb, h3, _⟩ := hA'
      rw [e, h3] at hq
      cases hq
    · cases z : H q with
      | none => rfl
      | some o =>
        rw [hO q o z e] at hq
        cases hq
theorem sc_aMark : FnScope ["self", "y"] ["self", "y"] (defScope sAMark) := ⟨rfl, rfl, rfl, by decide +kernel, rfl, by decide +kernel, by decide +kernel⟩
theorem ok_aMark (F : Fun K "ask_mark" "Asker.ask_mark" sAMark f fd) (T : Txt K mg C CA aN aW) (N : OkM P w K mg base 1 CA "note" ["self", "thing"] (spNote CA)) (G : OkF P w K mg base 1 "mark_of" ["y"] spMarkOf) :
    FnOk P w K mg base CX0 2 f fd ["self", "y"] (spAInt CA 3 Ks191Neutral.given.mark) := by
  obtain ⟨fN, fdN, N, mN, bN⟩ := N
  obtain ⟨fG, fdG, G, gG, kG, bG⟩ := G
  refine F.ok sc_aMark (fun vs H Q E h => ?_) (fun cdv A outer s H vs Q E hr h => ?_)
  · obtain ⟨a, y, n, l, rfl, _⟩ := h
    rfl
  · obtain ⟨a, y, n, l, rfl, hA, hl, k⟩ := h
    obtain ⟨dx, la, h1, h2⟩ := id hA
    refine ⟨_, pss_cons (ps_expr (pe_meth (pv 0) T.cA mN N hr bN .nil pass0 (pa_cons (pe_lst (pa_cons (pe_gi rfl T.kMARK) (pa_cons (pv 1) pa_nil))) pa_nil))) (pss_one (ps_ret (pe_call G hr rfl gG kG bG .nil pass0 (pa_cons (pv 1) pa_nil)))), ?_⟩
    refine ⟨_, rfl, a, dx, _, rfl, h1, aF_no (by decide +kernel), _, rfl, (by show 2 ≤ sizeLine; decide), fun p hp => ?_⟩
    refine ⟨a, p, n, l, [3, (y : Int)], rfl, hA.same (same_new hp), upd_same, len_two hl, fun H' hA' hO1 => ?_⟩
    have hO := off_new hO1 hp
    exact ⟨_, rfl, y, rfl, k H' hA' hO⟩
theorem sc_aPass : FnScope ["self", "y"] ["self", "y"] (defScope sAPass) := ⟨rfl, rfl, rfl, by decide +kernel, rfl, by decide +kernel, by decide +kernel⟩
theorem ok_aPass (F : Fun K "pass_told" "Asker.pass_told" sAPass f fd) (T : Txt K mg C CA aN aW) (N : OkM P w K mg base 1 CA "note" ["self", "thing"] (spNote CA)) (G : OkF P w K mg base 1 "pass_of" ["y"] spPassOf) :
    FnOk P w K mg base CX0 2 f fd ["self", "y"] (spAInt CA 4 Ks191Neutral.given.pass) := by
  obtain ⟨fN, fdN, N, mN, bN⟩ := N
  obtain ⟨fG, fdG, G, gG, kG, bG⟩ := G
  refine F.ok sc_aPass (fun vs H Q E h => ?_) (fun cdv A outer s H vs Q E hr h => ?_)
  · obtain ⟨a, y, n, l, rfl, _⟩ := h
    rfl
  · obtain ⟨a, y, n, l, rfl, hA, hl, k⟩ := h
    obtain ⟨dx, la, h1, h2⟩ := id hA
    refine ⟨_, pss_cons (ps_expr (pe_meth (pv 0) T.cA mN N hr bN .nil pass0 (pa_cons (pe_lst (pa_cons (pe_gi rfl T.kPASS) (pa_cons (pv 1) pa_nil))) pa_nil))) (pss_one (ps_ret (pe_call G hr rfl gG kG bG .nil pass0 (pa_cons (pv 1) pa_nil)))), ?_⟩
    refine ⟨_, rfl, a, dx, _, rfl, h1, aF_no (by decide +kernel), _, rfl, (by show 2 ≤ sizeLine; decide), fun p hp => ?_⟩
    refine ⟨a, p, n, l, [4, (y : Int)], rfl, hA.same (same_new hp), upd_same, len_two hl, fun H' hA' hO1 => ?_⟩
    have hO := off_new hO1 hp
    exact ⟨_, rfl, y, rfl, k H' hA' hO⟩
theorem sc_aRow : FnScope ["self", "script", "number"] ["self", "script"] (defScope sARow) := ⟨rfl, rfl, rfl, by decide +kernel, rfl, by decide +kernel, by decide +kernel⟩
theorem rep_next (n : Nat) : List.replicate (n + 1) (5 : Int) = List.replicate n 5 ++ [5] := List.replicate_succ' ..
theorem ok_aRow (F : Fun K "new_row" "Asker.new_row" sARow f fd) (T : Txt K mg C CA aN aW) (N : OkM P w K mg base 1 CA "note" ["self", "thing"] (spNote CA)) :
    FnOk P w K mg base CX0 2 f fd ["self", "script"] (spARow CA) := by
  obtain ⟨fN, fdN, N, mN, bN⟩ := N
  refine F.ok sc_aRow (fun vs H Q E h => ?_) (fun cdv A outer s H vs Q E hr h => ?_)
  · obtain ⟨a, t, n, l, r, rfl, _⟩ := h
    rfl
  · obtain ⟨a, t, n, l, r, rfl, hA, hl, ht, hr64, k⟩ := h
    have nta : t ≠ a := by
      obtain ⟨dx, la, h1, _⟩ := hA
      exact ne_of ht h1 (by intro q; cases q)
    refine ⟨_, pss_cons (ps_for PassesOwn.never rfl (pi_list (pv 1)) (pg_name (i := 2) sc_aRow.nd rfl (Or.inl rfl))
      (pss_one (ps_expr (pe_meth (pv 0) T.cA mN N hr bN .nil pass0 (pa_cons (pe_lst (pa_cons (pe_gi rfl T.kROW) pa_nil)) pa_nil))))) (pss_one (ps_ret (pv 1))), ?_⟩
    refine ⟨_, rfl, t, rfl, ⟨_, SqL.of ht⟩, for_list (K := K) (a := t) (xs := iV (Ks191Neutral.ints r)) (fun i σ H' => ∃ v : Option V, σ = [some (.ref a), some (.ref t), v] ∧ AskAt CA H' a (n + i) (l ++ List.replicate i 5) ∧ Off a H H')
      ⟨none, rfl, ?_, fun q o e _ => e⟩ (fun i σ H' _ ⟨_, _, _, e⟩ => SqL.of (e _ _ ht nta)) ?_ ?_⟩
    · rw [List.replicate_zero, List.append_nil]
      exact hA
    · rintro i y σ H' hi ⟨v, rfl, hA', hO⟩
      have hi' : i < r.length := by
        have q := (List.getElem?_eq_some_iff.mp hi).1
        rw [iV_len] at q
        exact q
      obtain ⟨dx, la, h1, h2⟩ := id hA'
      refine ⟨_, rfl, a, dx, _, rfl, h1, aF_no (by decide +kernel), (by show 1 ≤ sizeLine; decide), fun p hp => ?_⟩
      refine ⟨a, p, n + i, l ++ List.replicate i 5, [5], rfl, hA'.same (same_new hp), upd_same, ?_, fun H2 hA2 hO2 => ?_⟩
      · rw [List.length_append, List.length_replicate]
        show l.length + i + 1 ≤ 1000
        omega
      · refine ⟨some y, rfl, ?_, fun q o e m => hO2 q o ?_ m⟩
        · rw [rep_next, ← List.append_assoc]
          exact hA2
        · have z := hO q o e m
          rw [upd_ne (ne_of_none z hp)]
          exact z
    · rintro σ H' ⟨v, rfl, hA', hO⟩
      rw [iV_len] at hA'
      exact ⟨_, rfl, k H' hA' hO⟩
theorem sc_aTold : FnScope ["self"] ["self"] (defScope sATold) := ⟨rfl, rfl, rfl, by decide +kernel, rfl, by decide +kernel, by decide +kernel⟩
theorem ok_aTold (F : Fun K "told" "Asker.told" sATold f fd) (T : Txt K mg C CA aN aW) : FnOk P w K mg base CX0 1 f fd ["self"] (spATold CA) := by
  refine F.ok sc_aTold (fun vs H Q E h => ?_) (fun cdv A outer s H vs Q E hr h => ?_)
  · obtain ⟨a, n, l, rfl, _⟩ := h
    rfl
  · obtain ⟨a, n, l, rfl, ⟨dx, la, h1, h2⟩, hl, k⟩ := h
    refine ⟨_, pss_one (ps_ret (pe_op op_cat (pe_lst (pa_cons (pe_fld (pv 0) rfl) pa_nil)) (pe_fld (pv 0) rfl))), ?_⟩
    refine ⟨_, rfl, a, CA, dx, _, _, rfl, h1, T.cA, T.nCount, aF_count, (by show 1 ≤ sizeLine; decide), fun p hp => ?_⟩
    refine ⟨_, rfl, a, CA, dx, _, _, rfl, same_new hp _ _ h1, T.cA, T.nAsked, aF_asked, p, la, _, _, rfl, rfl, upd_same, same_new hp _ _ h2, ?_, fun q hq => ?_⟩
    · rw [iV_length]
      show 1 + l.length ≤ sizeLine
      exact Nat.le_of_lt (small_line (by omega))
    · refine k _ q ((same_new hp).trans (same_new hq)) ((same_new hp).free hq) ?_
      rw [upd_same]
      rfl
end
end TT
namespace TT
open PySem PySem.Spec PyProof.Rows L2
/-! ### 10. The box and the counter -/
def spBInit (C : Addr) : Sp := fun vs H Q _ => ∃ b dx, vs = [.ref b] ∧ H b = some (.ins C dx []) ∧
  ∀ H' ls lr, H' b = some (.ins C dx (bF ls 0 lr 0 0 0)) → H' ls = some (.lst (iV (Ks191Neutral.ints (List.replicate 64 0)))) → H' lr = some (.lst (iV (Ks191Neutral.ints (List.replicate 11 0)))) → Off b H H' → Q .non H'
/-- what is done at the box alone -/
def ActB (C f : Addr) (H : Hp) (b : Addr) (R : R) (Q : VK) : Prop := ∀ H' p, BoxAt C f H' b R.1 → Off b H H' → H p = none → H' p = some (.lst (iV R.2.1)) → Q (.ref p) H'
/-- what is done at the box and by an asker that asked nothing before -/
def ActK (C CA f : Addr) (H : Hp) (b a : Addr) (R : R) (Q : VK) : Prop :=
  ∀ H' p, BoxAt C f H' b R.1 → AskAt CA H' a R.2.2.1 R.2.2.2 → Off2 b a H H' → H p = none → H' p = some (.lst (iV R.2.1)) → Q (.ref p) H'
theorem rep_flat (n : Nat) : (List.replicate n [V.int 0]).flatten = iV (Ks191Neutral.ints (List.replicate n 0)) := by
  induction n with
  | zero => rfl
  | succ n ih =>
    rw [List.replicate_succ, List.flatten_cons, ih]
    rfl
theorem free_off {a p : Addr} {H H' : Hp} {o : HO} (x : Off a H H') (ha : H' a = some o) (hp : H' p = none) : H p = none := by
  cases z : H p with
  | none => rfl
  | some u =>
    by_cases e : p = a
    · rw [e, ha] at hp
      cases hp
    · rw [x p u z e] at hp
      cases hp
theorem free_off2 {a b p : Addr} {H H' : Hp} {o u : HO} (x : Off2 a b H H') (ha : H' a = some o) (hb : H' b = some u) (hp : H' p = none) : H p = none := by
  cases z : H p with
  | none => rfl
  | some v =>
    by_cases e : p = a
    · rw [e, ha] at hp
      cases hp
    · by_cases e2 : p = b
      · rw [e2, hb] at hp
        cases hp
      · rw [x p v z e e2] at hp
        cases hp
section
variable {C CA f b a dx dy ls lr la : Addr} {H H' : Hp} {s : Sta} {n : Nat} {l : List Int} {sd ro : List Nat} {mk due tr st : Nat}
/-- the box's attributes are written -/
theorem BoxIs.put {fs : List (Str × V)} (x : BoxIs C f H b dx ls lr sd mk ro due tr st) {ls' lr' : Addr} {sd' ro' : List Nat} {mk' due' tr' st' : Nat} (n1 : ls' ≠ f) (n2 : lr' ≠ f) (h1 : H ls' = some (.lst (iV (Ks191Neutral.ints sd')))) (h2 : H lr' = some (.lst (iV (Ks191Neutral.ints ro'))))
    (e : fs = bF ls' mk' lr' due' tr' st') : Off b H (upd H b (.ins C dx fs)) ∧ BoxIs C f (upd H b (.ins C dx fs)) b dx ls' lr' sd' mk' ro' due' tr' st' := by
  obtain ⟨xs, h0⟩ := x.fl
  refine ⟨off_upd, ⟨xs, (upd_ne x.bf.symm).trans h0⟩, n1, n2, ?_, (upd_ne (ne_of h1 x.ob (by intro q; cases q))).trans h1, (upd_ne (ne_of h2 x.ob (by intro q; cases q))).trans h2⟩
  rw [upd_same, e]
/-- what the heap is behind self.f = v -/
abbrev atB (H : Hp) (C b dx ls lr : Addr) (mk due tr st : Nat) (g : Str) (v : V) : Hp := upd H b (.ins C dx (putF g v (bF ls mk lr due tr st)))
theorem BoxIs.pMark (x : BoxIs C f H b dx ls lr sd mk ro due tr st) (z : Nat) : Off b H (atB H C b dx ls lr mk due tr st "mark" (.int (z : Int))) ∧ BoxIs C f (atB H C b dx ls lr mk due tr st "mark" (.int (z : Int))) b dx ls lr sd z ro due tr st :=
  x.put x.lsf x.lrf x.sl x.rw bF_pMark
theorem BoxIs.pSealed (x : BoxIs C f H b dx ls lr sd mk ro due tr st) {u : Addr} {r : List Nat} (n : u ≠ f) (h : H u = some (.lst (iV (Ks191Neutral.ints r)))) :
    Off b H (atB H C b dx ls lr mk due tr st "sealed" (.ref u)) ∧ BoxIs C f (atB H C b dx ls lr mk due tr st "sealed" (.ref u)) b dx u lr r mk ro due tr st := x.put n x.lrf h x.rw bF_pSealed
theorem BoxIs.pRow (x : BoxIs C f H b dx ls lr sd mk ro due tr st) {u : Addr} {r : List Nat} (n : u ≠ f) (h : H u = some (.lst (iV (Ks191Neutral.ints r)))) :
    Off b H (atB H C b dx ls lr mk due tr st "row" (.ref u)) ∧ BoxIs C f (atB H C b dx ls lr mk due tr st "row" (.ref u)) b dx ls u sd mk r due tr st := x.put x.lsf n x.sl h bF_pRow
theorem BoxIs.pDue (x : BoxIs C f H b dx ls lr sd mk ro due tr st) (z : Nat) : Off b H (atB H C b dx ls lr mk due tr st "due" (.int (z : Int))) ∧ BoxIs C f (atB H C b dx ls lr mk due tr st "due" (.int (z : Int))) b dx ls lr sd mk ro z tr st :=
  x.put x.lsf x.lrf x.sl x.rw bF_pDue
theorem BoxIs.pTries (x : BoxIs C f H b dx ls lr sd mk ro due tr st) (z : Nat) : Off b H (atB H C b dx ls lr mk due tr st "tries" (.int (z : Int))) ∧ BoxIs C f (atB H C b dx ls lr mk due tr st "tries" (.int (z : Int))) b dx ls lr sd mk ro due z st :=
  x.put x.lsf x.lrf x.sl x.rw bF_pTries
theorem BoxIs.pState (x : BoxIs C f H b dx ls lr sd mk ro due tr st) (z : Nat) : Off b H (atB H C b dx ls lr mk due tr st "state" (.int (z : Int))) ∧ BoxIs C f (atB H C b dx ls lr mk due tr st "state" (.int (z : Int))) b dx ls lr sd mk ro due tr z :=
  x.put x.lsf x.lrf x.sl x.rw bF_pState
theorem ActB.no {R : R} {Q : VK} {p : Addr} {c : Int} {m : Nat × List Int} (k : ActB C f H b R Q) (e : R = (s, [c], m)) (hB : BoxAt C f H b s) (hp : H p = none) : Q (.ref p) (upd H p (.lst [.int c])) := by
  subst e
  exact k _ p (hB.same (same_new hp)) (Same.off (same_new hp)) hp upd_same
theorem ActK.no {R : R} {Q : VK} {p : Addr} {c : Int} (k : ActK C CA f H b a R Q) (e : R = (s, [c], 0, [])) (hB : BoxAt C f H b s) (hA : AskAt CA H a 0 []) (hp : H p = none) : Q (.ref p) (upd H p (.lst [.int c])) := by
  subst e
  exact k _ p (hB.same (same_new hp)) (hA.same (same_new hp)) (Off.to1 (Same.off (same_new hp))) hp upd_same
end
theorem one_line : 1 ≤ sizeLine := by decide
theorem two_line : 2 ≤ sizeLine := by decide
def spBName (C CA : Addr) : Sp := fun vs H Q _ => ∃ (b a f : Addr) (s : Sta) (n : Nat), vs = [.ref b, .ref a, .int (n : Int)] ∧ BoxAt C f H b s ∧ AskAt CA H a 0 [] ∧ ActK C CA f H b a (mName s n) Q
def spBSeal (C CA : Addr) : Sp := fun vs H Q _ => ∃ (b a f t : Addr) (s : Sta) (y : Nat) (r : List Nat), vs = [.ref b, .ref a, .int (y : Int), .ref t] ∧ BoxAt C f H b s ∧ AskAt CA H a 0 [] ∧ H t = some (.lst (iV (Ks191Neutral.ints r))) ∧
  ActK C CA f H b a (mSeal s y r) Q
def spBOpen (C CA : Addr) : Sp := fun vs H Q _ => ∃ (b a f : Addr) (s : Sta) (y : Nat), vs = [.ref b, .ref a, .int (y : Int)] ∧ BoxAt C f H b s ∧ AskAt CA H a 0 [] ∧ ActK C CA f H b a (mOpen s y) Q
section
variable {P : Program} {w : World} {K : PySem.W.Frag} {mg : Str → Option Value} {base : Heap} {C CA aN aW f fl : Addr} {fd : FuncData}
theorem sc_bInit : FnScope ["self"] ["self"] (defScope sBInit) := ⟨rfl, rfl, rfl, by decide +kernel, rfl, by decide +kernel, by decide +kernel⟩
theorem ok_bInit (F : Fun K "__init__" "Box.__init__" sBInit f fd) (T : Txt K mg C CA aN aW) : FnOk P w K mg base CX0 1 f fd ["self"] (spBInit C) := by
  refine F.ok sc_bInit (fun vs H Q E h => ?_) (fun cdv A outer s H vs Q E hr h => ?_)
  · obtain ⟨b, dx, rfl, _⟩ := h
    rfl
  · obtain ⟨b, dx, rfl, hb, k⟩ := h
    refine ⟨_, pss_cons (ps_fld (pv 0) (pe_op op_rep (pe_lst (pa_cons pe_int pa_nil)) (pe_gi rfl T.kPADs)) rfl) (pss_cons (ps_fld (pv 0) pe_int rfl)
      (pss_cons (ps_fld (pv 0) (pe_op op_rep (pe_lst (pa_cons pe_int pa_nil)) (pe_gi rfl T.kMANY)) rfl) (pss_cons (ps_fld (pv 0) pe_int rfl)
      (pss_cons (ps_fld (pv 0) pe_int rfl) (pss_one (ps_fld (pv 0) (pe_gi rfl T.kNOB) rfl)))))), ?_⟩
    refine ⟨(by show 1 ≤ sizeLine; decide), fun p hp => ⟨p, _, _, rfl, rfl, upd_same, by decide, by decide, (by show 1 * 64 ≤ sizeLine; decide), fun ls hls => ?_⟩⟩
    have nbp : b ≠ p := ne_of_none hb hp
    have nbl : b ≠ ls := ne_of_none ((upd_ne nbp).trans hb) hls
    refine ⟨_, rfl, b, C, dx, _, rfl, (upd_ne nbl).trans ((upd_ne nbp).trans hb), T.cB, T.nSealed, (by show 0 < 1000; decide), ?_⟩
    refine ⟨_, rfl, b, C, dx, _, rfl, upd_same, T.cB, T.nMark, (by show 1 < 1000; decide), ?_⟩
    refine ⟨(by show 1 ≤ sizeLine; decide), fun p2 hp2 => ⟨p2, _, _, rfl, rfl, upd_same, by decide, by decide, (by show 1 * 11 ≤ sizeLine; decide), fun lr hlr => ?_⟩⟩
    have nbp2 : b ≠ p2 := ne_of_none upd_same hp2
    have nbr : b ≠ lr := ne_of_none ((upd_ne nbp2).trans upd_same) hlr
    refine ⟨_, rfl, b, C, dx, _, rfl, (upd_ne nbr).trans ((upd_ne nbp2).trans upd_same), T.cB, T.nRow, (by show 2 < 1000; decide), ?_⟩
    refine ⟨_, rfl, b, C, dx, _, rfl, upd_same, T.cB, T.nDue, (by show 3 < 1000; decide), ?_⟩
    refine ⟨_, rfl, b, C, dx, _, rfl, upd_same, T.cB, T.nTries, (by show 4 < 1000; decide), ?_⟩
    refine ⟨_, rfl, b, C, dx, _, rfl, upd_same, T.cB, T.nState, (by show 5 < 1000; decide), ?_⟩
    have nl2 : ls ≠ p2 := ne_of_none ((upd_ne nbl.symm).trans ((upd_ne nbl.symm).trans upd_same)) hp2
    have nlr : ls ≠ lr := ne_of_none ((upd_ne nl2).trans ((upd_ne nbl.symm).trans ((upd_ne nbl.symm).trans upd_same))) hlr
    refine k _ ls lr ?_ ?_ ?_ (fun q o e n => ?_)
    · rw [upd_same, bF_new]
    · simp only [upd_upd]
      rw [upd_ne nbl.symm, upd_ne nlr, upd_ne nl2, upd_ne nbl.symm, upd_same, ← rep_flat]
      rfl
    · simp only [upd_upd]
      rw [upd_ne nbr.symm, upd_same, ← rep_flat]
      rfl
    · have n1 : q ≠ p := ne_of_none e hp
      have n2 : q ≠ ls := ne_of_none ((upd_ne n1).trans e) hls
      have n3 : q ≠ p2 := ne_of_none ((upd_ne n).trans ((upd_ne n).trans ((upd_ne n2).trans ((upd_ne n1).trans e)))) hp2
      have n4 : q ≠ lr := ne_of_none ((upd_ne n3).trans ((upd_ne n).trans ((upd_ne n).trans ((upd_ne n2).trans ((upd_ne n1).trans e))))) hlr
      simp only [upd_upd]
      rw [upd_ne n, upd_ne n4, upd_ne n3, upd_ne n, upd_ne n2, upd_ne n1]
      exact e
theorem sc_bName : FnScope ["self", "asker", "number"] ["self", "asker", "number"] (defScope sBName) := ⟨rfl, rfl, rfl, by decide +kernel, rfl, by decide +kernel, by decide +kernel⟩
theorem ok_bName (F : Fun K "name" "Box.name" sBName f fd) (T : Txt K mg C CA aN aW) (G : OkM P w K mg base 2 CA "name" ["self", "number"] (spAInt CA 1 Ks191Neutral.given.name)) :
    FnOk P w K mg base CX0 3 f fd ["self", "asker", "number"] (spBName C CA) := by
  obtain ⟨fG, fdG, G, mG, bG⟩ := G
  refine F.ok sc_bName (fun vs H Q E h => ?_) (fun cdv A outer s H vs Q E hr h => ?_)
  · obtain ⟨b, a, fl, s, n, rfl, _⟩ := h
    rfl
  · obtain ⟨b, a, fl, s, n, rfl, hB, hA, k⟩ := h
    refine ⟨_, pss_cons (ps_if (pt_cmpR op_gt (pv 2) (pe_gi rfl T.kLAST) (nomark _)) (pss_one (ps_ret (pe_lst (pa_cons (pe_gi rfl T.kOUT) pa_nil)))) pss_nil)
      (pss_one (ps_ret (pe_lst (pa_cons pe_int (pa_cons (pe_meth (pv 1) T.cA mG G hr bG .nil pass0 (pa_cons (pv 2) pa_nil)) pa_nil))))), ?_⟩
    refine ⟨_, rfl, _, _, rfl, rfl, _, rfl, ?_⟩
    refine ite2 (fun c => ?_) (fun c => ?_)
    · have c' : 10000 ≤ n := by
        have q := of_decide_eq_true c
        omega
      refine ⟨one_line, fun p hp => ?_⟩
      exact k.no (if_pos c') hB hA hp
    · have c' : ¬ 10000 ≤ n := fun z => c (decide_eq_true (by omega))
      have e : mName s n = (s, [0, ((Ks191Neutral.given.name n : Nat) : Int)], 1, [1, (n : Int)]) := if_neg c'
      rw [e] at k
      obtain ⟨dy, la, h1, _⟩ := id hA
      refine ⟨_, rfl, a, dy, _, rfl, h1, aF_no (by decide +kernel), _, rfl, a, n, 0, [], rfl, hA, Nat.zero_le _, fun H' hA' hO => ⟨two_line, fun p hp => ?_⟩⟩
      obtain ⟨dy', la', h1', _⟩ := id hA'
      exact k _ p ((hB.ask hA hO).same (same_new hp)) (hA'.same (same_new hp)) (Off.to2 (hO.trans (Same.off (same_new hp)))) (free_off hO h1' hp) upd_same
theorem sc_bSeal : FnScope ["self", "asker", "y", "secret"] ["self", "asker", "y", "secret"] (defScope sBSeal) := ⟨rfl, rfl, rfl, by decide +kernel, rfl, by decide +kernel, by decide +kernel⟩
theorem ok_bSeal (F : Fun K "seal" "Box.seal" sBSeal f fd) (T : Txt K mg C CA aN aW) (G : OkM P w K mg base 2 CA "pad" ["self", "y"] (spAPad CA)) (G2 : OkM P w K mg base 2 CA "ask_mark" ["self", "y"] (spAInt CA 3 Ks191Neutral.given.mark))
    (D : OkF P w K mg base 1 "padded" ["row", "pad"] spPadded) : FnOk P w K mg base CX0 3 f fd ["self", "asker", "y", "secret"] (spBSeal C CA) := by
  obtain ⟨fG, fdG, G, mG, bG⟩ := G
  obtain ⟨fG2, fdG2, G2, mG2, bG2⟩ := G2
  obtain ⟨fD, fdD, D, gD, kD, bD⟩ := D
  refine F.ok sc_bSeal (fun vs H Q E h => ?_) (fun cdv A outer s H vs Q E hr h => ?_)
  · obtain ⟨b, a, fl, t, s, y, r, rfl, _⟩ := h
    rfl
  · obtain ⟨b, a, fl, t, s, y, r, rfl, hB, hA, ht, k⟩ := h
    refine ⟨_, pss_cons (ps_if (pt_cmpR op_ge (pv 2) (pe_gi rfl T.kPRIME) (nomark _)) (pss_one (ps_ret (pe_lst (pa_cons (pe_gi rfl T.kOUT) pa_nil)))) pss_nil)
      (pss_cons (ps_fld (pv 0) (pe_call D (hr.mono (by decide)) rfl gD kD bD .nil pass0 (pa_cons (pv 3) (pa_cons (pe_meth (pv 1) T.cA mG G hr bG .nil pass0 (pa_cons (pv 2) pa_nil)) pa_nil))) rfl)
      (pss_cons (ps_fld (pv 0) (pe_meth (pv 1) T.cA mG2 G2 hr bG2 .nil pass0 (pa_cons (pv 2) pa_nil)) rfl)
      (pss_one (ps_ret (pe_lst (pa_cons pe_int pa_nil)))))), ?_⟩
    refine ⟨_, rfl, _, _, rfl, rfl, _, rfl, ?_⟩
    refine ite2 (fun c => ?_) (fun c => ?_)
    · have c' : Ks191.P ≤ y := by
        have q := of_decide_eq_true c
        rw [P_is]
        omega
      refine ⟨one_line, fun p hp => ?_⟩
      exact k.no (if_pos c') hB hA hp
    · have c' : ¬ Ks191.P ≤ y := fun z => c (decide_eq_true (by rw [P_is] at z; omega))
      have e : mSeal s y r = ((⟨Ks191.xor r (Ks191Neutral.given.pad y), Ks191Neutral.given.mark y⟩, s.2), [0], 2, [2, (y : Int), 3, (y : Int)]) := if_neg c'
      rw [e] at k
      obtain ⟨dx, ls, lr, hB⟩ := hB
      obtain ⟨dy, la, hA⟩ := hA
      have nta : t ≠ a := ne_of ht hA.ob (by intro q; cases q)
      refine ⟨_, rfl, _, rfl, a, dy, _, rfl, hA.ob, aF_no (by decide +kernel), _, rfl, a, y, 0, [], rfl, ⟨dy, la, hA⟩, Nat.zero_le _, fun H1 q1 hA1 hO1 hq1 hq1' => ?_⟩
      obtain ⟨dy1, la1, hA1⟩ := hA1
      have hB1 := hB.ask hA hO1
      refine ⟨t, q1, r, _, rfl, hO1 _ _ ht nta, hq1', pad_len y, fun H2 u e2 hu hu' => ?_⟩
      have hB2 := hB1.same e2
      have hA2 := hA1.same e2
      have nuf : u ≠ fl := by
        obtain ⟨xs, z⟩ := hB1.fl
        exact (ne_of_none z hu).symm
      refine ⟨_, rfl, b, C, dx, _, rfl, hB2.ob, T.cB, T.nSealed, (by show 6 < 1000; decide), ?_⟩
      obtain ⟨o3, hB3⟩ := hB2.pSealed nuf hu'
      have hA3 := AskIs.box hB2 hA2 o3
      refine ⟨_, rfl, a, dy1, _, rfl, hA3.ob, aF_no (by decide +kernel), _, rfl, a, y, 1, [2, (y : Int)], rfl, ⟨dy1, la1, hA3⟩, (by show 2 ≤ 900; decide), fun H4 hA4 hO4 => ?_⟩
      have hB4 := hB3.ask hA3 hO4
      refine ⟨_, rfl, b, C, dx, _, rfl, hB4.ob, T.cB, T.nMark, (by show 6 < 1000; decide), one_line, fun p hp => ?_⟩
      obtain ⟨o5, hB5⟩ := hB4.pMark (Ks191Neutral.given.mark y)
      obtain ⟨dy4, la4, hA4⟩ := hA4
      have hA5 := AskIs.box hB4 hA4 o5
      have hO := (Off.to2 hO1).trans ((Off.to1 (Same.off e2)).trans ((Off.to1 o3).trans ((Off.to2 hO4).trans (Off.to1 o5))))
      exact k _ p (BoxAt.same ⟨dx, u, lr, hB5⟩ (same_new hp)) (AskAt.same ⟨dy4, la4, hA5⟩ (same_new hp)) (hO.trans (Off.to1 (Same.off (same_new hp)))) (free_off2 hO hB5.ob hA5.ob hp) upd_same
theorem sc_bOpen : FnScope ["self", "asker", "y", "pad"] ["self", "asker", "y"] (defScope sBOpen) := ⟨rfl, rfl, rfl, by decide +kernel, rfl, by decide +kernel, by decide +kernel⟩
theorem ok_bOpen (F : Fun K "unseal" "Box.unseal" sBOpen f fd) (T : Txt K mg C CA aN aW) (G : OkM P w K mg base 2 CA "pad" ["self", "y"] (spAPad CA)) (G2 : OkM P w K mg base 2 CA "ask_mark" ["self", "y"] (spAInt CA 3 Ks191Neutral.given.mark))
    (G3 : OkM P w K mg base 2 CA "pass_told" ["self", "y"] (spAInt CA 4 Ks191Neutral.given.pass)) (D : OkF P w K mg base 1 "padded" ["row", "pad"] spPadded) : FnOk P w K mg base CX0 3 f fd ["self", "asker", "y"] (spBOpen C CA) := by
  obtain ⟨fG, fdG, G, mG, bG⟩ := G
  obtain ⟨fG2, fdG2, G2, mG2, bG2⟩ := G2
  obtain ⟨fG3, fdG3, G3, mG3, bG3⟩ := G3
  obtain ⟨fD, fdD, D, gD, kD, bD⟩ := D
  refine F.ok sc_bOpen (fun vs H Q E h => ?_) (fun cdv A outer s H vs Q E hr h => ?_)
  · obtain ⟨b, a, fl, s, y, rfl, _⟩ := h
    rfl
  · obtain ⟨b, a, fl, s, y, rfl, hB, hA, k⟩ := h
    refine ⟨_, pss_cons (ps_if (pt_cmpR op_ge (pv 2) (pe_gi rfl T.kPRIME) (nomark _)) (pss_one (ps_ret (pe_lst (pa_cons (pe_gi rfl T.kOUT) pa_nil)))) pss_nil)
      (pss_cons (ps_if (pt_cmpR op_ne (pe_meth (pv 1) T.cA mG2 G2 hr bG2 .nil pass0 (pa_cons (pv 2) pa_nil)) (pe_fld (pv 0) rfl) (nomark _)) (pss_one (ps_ret (pe_lst (pa_cons (pe_gi rfl T.kNTB) pa_nil)))) pss_nil)
      (pss_cons (ps_set (i := 3) sc_bOpen.nd rfl (Or.inl rfl) (pe_meth (pv 1) T.cA mG G hr bG .nil pass0 (pa_cons (pv 2) pa_nil)))
      (pss_one (ps_ret (pe_op op_cat (pe_lst (pa_cons pe_int (pa_cons (pe_meth (pv 1) T.cA mG3 G3 hr bG3 .nil pass0 (pa_cons (pv 2) pa_nil)) pa_nil)))
        (pe_call D (hr.mono (by decide)) rfl gD kD bD .nil pass0 (pa_cons (pe_fld (pv 0) rfl) (pa_cons (pv 3) pa_nil)))))))), ?_⟩
    refine ⟨_, rfl, _, _, rfl, rfl, _, rfl, ?_⟩
    refine ite2 (fun c => ?_) (fun c => ?_)
    · have c' : Ks191.P ≤ y := by
        have q := of_decide_eq_true c
        rw [P_is]
        omega
      refine ⟨one_line, fun p hp => ?_⟩
      exact k.no (if_pos c') hB hA hp
    · have c' : ¬ Ks191.P ≤ y := fun z => c (decide_eq_true (by rw [P_is] at z; omega))
      unfold mOpen at k
      rw [if_neg c'] at k
      obtain ⟨dx, ls, lr, hB⟩ := hB
      obtain ⟨dy, la, hA⟩ := hA
      refine ⟨_, rfl, a, dy, _, rfl, hA.ob, aF_no (by decide +kernel), _, rfl, a, y, 0, [], rfl, ⟨dy, la, hA⟩, Nat.zero_le _, fun H1 hA1 hO1 => ?_⟩
      have hB1 := hB.ask hA hO1
      obtain ⟨dy1, la1, hA1⟩ := hA1
      generalize Ks191Neutral.given.mark y = m at k ⊢
      refine ⟨_, rfl, b, C, dx, _, _, rfl, hB1.ob, T.cB, T.nMark, bF_mark, rfl, _, rfl, ?_⟩
      by_cases q : m = s.1.mark
      · rw [if_neg (fun z => z q)] at k
        refine iteNS (by rw [q]) ?_
        refine ⟨_, rfl, a, dy1, _, rfl, hA1.ob, aF_no (by decide +kernel), _, rfl, a, y, 1, [3, (y : Int)], rfl, ⟨dy1, la1, hA1⟩, (by show 2 ≤ 900; decide), fun H2 u hA2 hO2 hu hu' => ?_⟩
        have hB2 := hB1.ask hA1 hO2
        obtain ⟨dy2, la2, hA2⟩ := hA2
        refine ⟨_, rfl, a, dy2, _, rfl, hA2.ob, aF_no (by decide +kernel), _, rfl, a, y, 2, [3, (y : Int), 2, (y : Int)], rfl, ⟨dy2, la2, hA2⟩, (by show 4 ≤ 900; decide), fun H3 hA3 hO3 => ⟨two_line, fun p3 hp3 => ?_⟩⟩
        have hB3 := hB2.ask hA2 hO3
        have hB4 := hB3.same (same_new hp3 (o := .lst [.int 0, .int ((Ks191Neutral.given.pass y : Nat) : Int)]))
        have hu4 := same_new hp3 (o := .lst [.int 0, .int ((Ks191Neutral.given.pass y : Nat) : Int)]) _ _ (hO3 _ _ hu' (ne_of hu' hA2.ob (by intro q; cases q)))
        refine ⟨_, rfl, b, C, dx, _, _, rfl, hB4.ob, T.cB, T.nSealed, bF_sealed, _, rfl, ls, u, _, _, rfl, hB4.sl, hu4, pad_len y, fun H5 v e5 hv hv' => ?_⟩
        refine ⟨p3, v, _, _, rfl, rfl, e5 _ _ upd_same, hv', ?_, fun p hp => ?_⟩
        · rw [iV_len, xor_len, pad_len]
          refine Nat.le_of_lt (small_line ?_)
          show 2 + min s.1.sealed_.length 64 ≤ 100000
          omega
        have hB5 := hB4.same e5
        have hA5 := (hA3.same (same_new hp3 (o := .lst [.int 0, .int ((Ks191Neutral.given.pass y : Nat) : Int)]))).same e5
        have hO : Off a H H5 := hO1.trans (hO2.trans (hO3.trans ((Same.off (same_new hp3)).trans (Same.off e5))))
        obtain ⟨dy5, la5, hA5'⟩ := id hA5
        exact k _ p (BoxAt.same ⟨dx, ls, lr, hB5⟩ (same_new hp)) (hA5.same (same_new hp)) (Off.to2 (hO.trans (Same.off (same_new hp)))) (free_off hO hA5'.ob hp) upd_same
      · rw [if_pos q] at k
        have q' : ¬ V.int (m : Int) = V.int ((s.1.mark : Nat) : Int) := fun z => q (by
          have z1 := V.int.inj z
          omega)
        rw [decide_eq_false q']
        refine iteT ?_
        refine ⟨one_line, fun p hp => ?_⟩
        exact k _ p (BoxAt.same ⟨dx, ls, lr, hB1⟩ (same_new hp)) (AskAt.same ⟨dy1, la1, hA1⟩ (same_new hp)) (Off.to2 (hO1.trans (Same.off (same_new hp)))) (free_off hO1 hA1.ob hp) upd_same
end
end TT
namespace TT
open PySem PySem.Spec PyProof.Rows L2
def spSpoilt (C : Addr) : Sp := fun vs H Q _ => ∃ (b f : Addr) (s : Sta), vs = [.ref b] ∧ BoxAt C f H b s ∧ s.2.row.length = 11 ∧ ∀ H', Same H H' → Q (.bl (!s.2.fit)) H'
theorem dp_iV {K : PySem.W.Frag} {H : Hp} : ∀ l : List Int, DpAll K H (iV l) (l.map PyData.int)
  | [] => .nil
  | i :: l => .cons (.int i) (dp_iV l)
theorem eqv_none (l : List Int) : PyData.eqv (.list (l.map PyData.int)) (.list []) = l.isEmpty := by
  cases l with
  | nil => rfl
  | cons a l => rfl
def spBBegin (C CA : Addr) : Sp := fun vs H Q _ => ∃ (b a f t : Addr) (s : Sta) (x : Nat) (r : List Nat), vs = [.ref b, .ref a, .int (x : Int), .ref t] ∧ BoxAt C f H b s ∧ AskAt CA H a 0 [] ∧ s.2.row.length = 11 ∧ H t = some (.lst (iV (Ks191Neutral.ints r))) ∧ r.length ≤ 64 ∧ t ≠ f ∧
  ActK C CA f H b a (mBegin s x r) Q
def spBTry (C : Addr) : Sp := fun vs H Q _ => ∃ (b f : Addr) (s : Sta) (x : Nat), vs = [.ref b, .int (x : Int)] ∧ BoxAt C f H b s ∧ s.2.row.length = 11 ∧ ActB C f H b (mTry s x) Q
def spBGo (C : Addr) : Sp := fun vs H Q _ => ∃ (b f : Addr) (s : Sta) (m : Nat), vs = [.ref b, .int (m : Int)] ∧ BoxAt C f H b s ∧ s.2.row.length = 11 ∧ ActB C f H b (mGo s m) Q
theorem nf {c : Ks191.Co} (h : ¬ (!c.fit) = true) : c.fit = true := by
  cases q : c.fit with
  | true => rfl
  | false =>
    rw [q] at h
    exact absurd rfl h
theorem nf' {c : Ks191.Co} (h : (!c.fit) = true) : c.fit = false := by
  cases q : c.fit with
  | true =>
    rw [q] at h
    cases h
  | false => rfl
section
variable {P : Program} {w : World} {K : PySem.W.Frag} {mg : Str → Option Value} {base : Heap} {C CA aN aW f fl : Addr} {fd : FuncData}
theorem sc_bSpoilt : FnScope ["self", "number"] ["self"] (defScope sBSpoilt) := ⟨rfl, rfl, rfl, by decide +kernel, rfl, by decide +kernel, by decide +kernel⟩
theorem ok_bSpoilt (F : Fun K "is_spoilt" "Box.is_spoilt" sBSpoilt f fd) (T : Txt K mg C CA aN aW) : FnOk P w K mg base CX0 1 f fd ["self"] (spSpoilt C) := by
  refine F.ok sc_bSpoilt (fun vs H Q E h => ?_) (fun cdv A outer s H vs Q E hr h => ?_)
  · obtain ⟨b, fl, s, rfl, _⟩ := h
    rfl
  · obtain ⟨b, fl, s, rfl, ⟨dx, ls, lr, hB⟩, h11, k⟩ := h
    refine ⟨_, pss_cons (ps_if (PW.pt (pw_or (pt_cmpR op_gt (pe_fld (pv 0) rfl) (pe_gi rfl T.kLET) (nomark _)) (pw_or1 (pt_cmpR op_gt (pe_fld (pv 0) rfl) (pe_gi rfl T.kMOST) (nomark _))))) (pss_one (ps_ret pe_bl)) pss_nil)
      (pss_one (ps_ret (pe_cmpR (op_neD hr.units) (pe_lc (own := [("number", 1)]) (g := gName 1) (tt := tTest (tOp (rI0 fun i j => .bl (decide (j ≤ i))) (tVar 1) (tC (.int 2305843009213693951)))) rfl sc_bSpoilt.nd (pi_list (pe_fld (pv 0) rfl))
        (blkOk_by (own := [("number", 1)]) (N := ["self", "number"]) (sc := defScope sBSpoilt) (by decide +kernel)) (fun _ _ _ _ _ => pg_name (i := 1) sc_bSpoilt.nd rfl (Or.inl rfl))
        (fun _ _ _ _ _ => pts_one (pt_cmpR op_ge (pv 1) (pe_gi rfl T.kPRIME) (nomark _))) (fun _ _ _ _ _ => pv 1)) (pe_lst pa_nil) (nomark _)))), ?_⟩
    refine ⟨_, rfl, b, C, dx, _, _, rfl, hB.ob, T.cB, T.nState, bF_state, _, _, rfl, rfl, _, rfl, ?_⟩
    refine ite2 (fun c => ?_) (fun c => ?_)
    · have c' : 2 < s.2.state := by
        have q := of_decide_eq_true c
        omega
      have q := k H (Same.refl H)
      rw [fit_no (.inl c')] at q
      exact q
    · have c1 : s.2.state ≤ 2 := by
        refine Nat.le_of_not_lt fun z => c (decide_eq_true ?_)
        omega
      refine ⟨_, rfl, b, C, dx, _, _, rfl, hB.ob, T.cB, T.nTries, bF_tries, _, _, rfl, rfl, _, rfl, ?_⟩
      refine ite2 (fun c => ?_) (fun c => ?_)
      · have c' : 10 < s.2.tries := by
          have q := of_decide_eq_true c
          omega
        have q := k H (Same.refl H)
        rw [fit_no (.inr c')] at q
        exact q
      · have c2 : s.2.tries ≤ 10 := by
          refine Nat.le_of_not_lt fun z => c (decide_eq_true ?_)
          omega
        refine ⟨_, rfl, b, C, dx, _, _, rfl, hB.ob, T.cB, T.nRow, bF_row, lr, rfl, ⟨_, SqL.of hB.rw⟩, fun D hD => lc_list (K := K) (a := lr) (xs := iV (Ks191Neutral.ints s.2.row))
          (fun i H' => H' = upd H D (.lst (iV (Ks191Neutral.ints ((s.2.row.take i).filter fun x => decide (Ks191.P ≤ x)))))) rfl ?_ ?_ ?_⟩
        · rintro i H' _ rfl
          exact SqL.of (same_new hD _ _ hB.rw)
        · rintro i y H' hi rfl
          obtain ⟨z, hz, rfl⟩ := iV_at hi
          refine ⟨rfl, _, rfl, _, _, rfl, rfl, _, rfl, ?_⟩
          refine ite2 (fun c => ?_) (fun c => ?_)
          · have c' : Ks191.P ≤ z := by
              have q := of_decide_eq_true c
              rw [P_is]
              omega
            refine ⟨_, rfl, _, upd_same, ?_, ?_⟩
            · rw [iV_len]
              have q1 := List.length_filter_le (fun x => decide (Ks191.P ≤ x)) (s.2.row.take i)
              rw [List.length_take] at q1
              exact small_line (by omega)
            · rw [upd_upd, take_next hz, List.filter_append, List.filter_cons, if_pos (decide_eq_true c')]
              show upd H D (.lst (iV (Ks191Neutral.ints _) ++ iV (Ks191Neutral.ints [z]))) = _
              unfold Ks191Neutral.ints
              rw [List.filter_nil, List.map_append, iV_app]
          · have c' : ¬ Ks191.P ≤ z := fun q => c (decide_eq_true (by rw [P_is] at q; omega))
            show upd H D _ = upd H D _
            rw [take_next hz, List.filter_append, List.filter_cons, if_neg (by simpa using c'), List.filter_nil, List.append_nil]
        · rintro H' rfl
          rw [iV_len, take_all (Nat.le_refl _)]
          refine ⟨Nat.zero_le _, fun p hp => ?_⟩
          have h1 := (upd_ne (o := .lst []) (ne_of_none upd_same hp)).trans (upd_same (H := H) (a := D) (o := .lst (iV (Ks191Neutral.ints (s.2.row.filter fun x => decide (Ks191.P ≤ x))))))
          refine ⟨_, _, .lst (SqL.of h1) (dp_iV _), .lst (SqL.of upd_same) .nil, PySem.W.ke_shaped_ints _, by decide, ?_⟩
          rw [eqv_none]
          have q := k _ ((same_new hD).trans (same_new hp (o := .lst [])))
          rw [fit_row s.2 c1 c2] at q
          have e : (Ks191Neutral.ints (s.2.row.filter fun x => decide (Ks191.P ≤ x))).isEmpty = (s.2.row.filter fun x => decide (Ks191.P ≤ x)).isEmpty := by
            unfold Ks191Neutral.ints
            exact List.isEmpty_map
          rw [e]
          exact q
theorem sc_bBegin : FnScope ["self", "asker", "x", "script", "found"] ["self", "asker", "x", "script"] (defScope sBBegin) := ⟨rfl, rfl, rfl, by decide +kernel, rfl, by decide +kernel, by decide +kernel⟩
theorem ok_bBegin (F : Fun K "begin" "Box.begin" sBBegin f fd) (T : Txt K mg C CA aN aW) (Sp : OkM P w K mg base 1 C "is_spoilt" ["self"] (spSpoilt C)) (G : OkM P w K mg base 2 CA "new_row" ["self", "script"] (spARow CA))
    (G3 : OkM P w K mg base 2 CA "pass_told" ["self", "y"] (spAInt CA 4 Ks191Neutral.given.pass)) (D : OkF P w K mg base 1 "comes_to" ["row", "x"] spComes) : FnOk P w K mg base CX0 3 f fd ["self", "asker", "x", "script"] (spBBegin C CA) := by
  obtain ⟨fS, fdS, GS, mS, bS⟩ := Sp
  obtain ⟨fG, fdG, G, mG, bG⟩ := G
  obtain ⟨fG3, fdG3, G3, mG3, bG3⟩ := G3
  obtain ⟨fD, fdD, D, gD, kD, bD⟩ := D
  refine F.ok sc_bBegin (fun vs H Q E h => ?_) (fun cdv A outer s H vs Q E hr h => ?_)
  · obtain ⟨b, a, fl, t, s, x, r, rfl, _⟩ := h
    rfl
  · obtain ⟨b, a, fl, t, s, x, r, rfl, hB, hA, h11, ht, hr64, ntf, k⟩ := h
    refine ⟨_, pss_cons (ps_if (pt_val (pe_meth0 (pv 0) T.cB mS GS (hr.mono (by decide)) bS .nil pass0)) (pss_one (ps_ret (pe_lst (pa_cons (pe_gi rfl T.kSPO) pa_nil)))) pss_nil)
      (pss_cons (ps_if (pt_cmpR op_ge (pv 2) (pe_gi rfl T.kPRIME) (nomark _)) (pss_one (ps_ret (pe_lst (pa_cons (pe_gi rfl T.kOUT) pa_nil)))) pss_nil)
      (pss_cons (ps_if (pt_cmpR op_eq (pe_fld (pv 0) rfl) (pe_gi rfl T.kSOM) (nomark _)) (pss_one (ps_ret (pe_lst (pa_cons (pe_gi rfl T.kTHE) pa_nil)))) pss_nil)
      (pss_cons (ps_fld (pv 0) (pe_meth (pv 1) T.cA mG G hr bG .nil pass0 (pa_cons (pv 3) pa_nil)) rfl)
      (pss_cons (ps_set (i := 4) sc_bBegin.nd rfl (Or.inl rfl) (pe_call D (hr.mono (by decide)) rfl gD kD bD .nil pass0 (pa_cons (pe_fld (pv 0) rfl) (pa_cons (pv 2) pa_nil))))
      (pss_cons (ps_fld (pv 0) (pe_meth (pv 1) T.cA mG3 G3 hr bG3 .nil pass0 (pa_cons (pv 4) pa_nil)) rfl)
      (pss_cons (ps_fld (pv 0) pe_int rfl) (pss_cons (ps_fld (pv 0) (pe_gi rfl T.kSOM) rfl)
      (pss_one (ps_ret (pe_lst (pa_cons pe_int (pa_cons (pv 4) pa_nil)))))))))))), ?_⟩
    obtain ⟨dx, ls, lr, hB⟩ := hB
    obtain ⟨dy, la, hA⟩ := hA
    refine ⟨_, rfl, b, dx, _, rfl, hB.ob, bF_no (by decide +kernel), b, fl, s, rfl, ⟨dx, ls, lr, hB⟩, h11, fun H0 e0 => ⟨_, rfl, ?_⟩⟩
    have hB0 := hB.same e0
    have hA0 := hA.same e0
    have k0 : ActK C CA fl H0 b a (mBegin s x r) Q := fun H' p z1 z2 z3 z4 z5 => k H' p z1 z2 ((Off.to1 (Same.off e0)).trans z3) (e0.free z4) z5
    refine ite2 (fun c => ?_) (fun c => ?_)
    · refine ⟨one_line, fun p hp => ?_⟩
      exact k0.no (if_pos (nf' c)) ⟨dx, ls, lr, hB0⟩ ⟨dy, la, hA0⟩ hp
    have f1 := nf c
    have f1' : ¬ s.2.fit = false := by rw [f1]; exact Bool.noConfusion
    refine ⟨_, rfl, _, _, rfl, rfl, _, rfl, ?_⟩
    refine ite2 (fun c => ?_) (fun c => ?_)
    · have c' : Ks191.P ≤ x := by
        have q := of_decide_eq_true c
        rw [P_is]
        omega
      refine ⟨one_line, fun p hp => ?_⟩
      exact k0.no ((if_neg f1').trans (if_pos c')) ⟨dx, ls, lr, hB0⟩ ⟨dy, la, hA0⟩ hp
    have f2 : ¬ Ks191.P ≤ x := fun z => c (decide_eq_true (by rw [P_is] at z; omega))
    refine ⟨_, rfl, b, C, dx, _, _, rfl, hB0.ob, T.cB, T.nState, bF_state, rfl, _, rfl, ?_⟩
    refine ite2 (fun c => ?_) (fun c => ?_)
    · have c' : s.2.state = 1 := by
        have q := V.int.inj (of_decide_eq_true c)
        omega
      refine ⟨one_line, fun p hp => ?_⟩
      exact k0.no ((if_neg f1').trans ((if_neg f2).trans (if_pos c'))) ⟨dx, ls, lr, hB0⟩ ⟨dy, la, hA0⟩ hp
    have f3 : ¬ s.2.state = 1 := fun z => c (decide_eq_true (by rw [z]; rfl))
    have e : mBegin s x r = ((s.1, ⟨r, Ks191Neutral.given.pass (Ks191.comes x r), 0, 1⟩), [0, ((Ks191.comes x r : Nat) : Int)], r.length + 1, List.replicate r.length 5 ++ [4, ((Ks191.comes x r : Nat) : Int)]) :=
      (if_neg f1').trans ((if_neg f2).trans (if_neg f3))
    rw [e] at k0
    have nta : t ≠ a := ne_of ht hA.ob (by intro q; cases q)
    refine ⟨_, rfl, a, dy, _, rfl, hA0.ob, aF_no (by decide +kernel), _, rfl, a, t, 0, [], r, rfl, ⟨dy, la, hA0⟩, Nat.zero_le _, e0 _ _ ht, hr64, fun H1 hA1 hO1 => ?_⟩
    obtain ⟨dy1, la1, hA1⟩ := hA1
    have hB1 := hB0.ask hA0 hO1
    obtain ⟨o2, hB2⟩ := hB1.pRow ntf (hO1 _ _ (e0 _ _ ht) nta)
    have hA2 := AskIs.box hB1 hA1 o2
    refine ⟨_, rfl, b, C, dx, _, rfl, hB1.ob, T.cB, T.nRow, (by show 6 < 1000; decide), ?_⟩
    refine ⟨_, rfl, b, C, dx, _, _, rfl, hB2.ob, T.cB, T.nRow, bF_row, _, rfl, t, r, x, rfl, hB2.rw, ?_⟩
    refine ⟨_, rfl, a, dy1, _, rfl, hA2.ob, aF_no (by decide +kernel), _, rfl, a, Ks191.comes x r, 0 + r.length, [] ++ List.replicate r.length 5, rfl, ⟨dy1, la1, hA2⟩, ?_, fun H3 hA3 hO3 => ?_⟩
    · rw [List.nil_append, List.length_replicate]
      omega
    have hB3 := hB2.ask hA2 hO3
    obtain ⟨dy3, la3, hA3⟩ := hA3
    obtain ⟨o4, hB4⟩ := hB3.pDue (Ks191Neutral.given.pass (Ks191.comes x r))
    refine ⟨_, rfl, b, C, dx, _, rfl, hB3.ob, T.cB, T.nDue, (by show 6 < 1000; decide), ?_⟩
    obtain ⟨o5, hB5⟩ := hB4.pTries 0
    refine ⟨_, rfl, b, C, dx, _, rfl, hB4.ob, T.cB, T.nTries, (by show 6 < 1000; decide), ?_⟩
    obtain ⟨o6, hB6⟩ := hB5.pState 1
    refine ⟨_, rfl, b, C, dx, _, rfl, hB5.ob, T.cB, T.nState, (by show 6 < 1000; decide), _, rfl, two_line, fun p hp => ?_⟩
    have hA6 := AskIs.box hB5 (AskIs.box hB4 (AskIs.box hB3 hA3 o4) o5) o6
    rw [Nat.zero_add, List.nil_append] at hA6
    have hO := (Off.to2 hO1).trans ((Off.to1 o2).trans ((Off.to2 hO3).trans ((Off.to1 o4).trans ((Off.to1 o5).trans (Off.to1 o6)))))
    exact k0 _ p (BoxAt.same ⟨dx, ls, t, hB6⟩ (same_new hp)) (AskAt.same ⟨dy3, la3, hA6⟩ (same_new hp)) (hO.trans (Off.to1 (Same.off (same_new hp)))) (free_off2 hO hB6.ob hA6.ob hp) upd_same
theorem sc_bTry : FnScope ["self", "x"] ["self", "x"] (defScope sBTry) := ⟨rfl, rfl, rfl, by decide +kernel, rfl, by decide +kernel, by decide +kernel⟩
theorem ok_bTry (F : Fun K "try_once" "Box.try_once" sBTry f fd) (T : Txt K mg C CA aN aW) (Sp : OkM P w K mg base 1 C "is_spoilt" ["self"] (spSpoilt C)) (D : OkF P w K mg base 1 "comes_to" ["row", "x"] spComes) :
    FnOk P w K mg base CX0 2 f fd ["self", "x"] (spBTry C) := by
  obtain ⟨fS, fdS, GS, mS, bS⟩ := Sp
  obtain ⟨fD, fdD, D, gD, kD, bD⟩ := D
  refine F.ok sc_bTry (fun vs H Q E h => ?_) (fun cdv A outer s H vs Q E hr h => ?_)
  · obtain ⟨b, fl, s, x, rfl, _⟩ := h
    rfl
  · obtain ⟨b, fl, s, x, rfl, hB, h11, k⟩ := h
    refine ⟨_, pss_cons (ps_if (pt_val (pe_meth0 (pv 0) T.cB mS GS hr bS .nil pass0)) (pss_one (ps_ret (pe_lst (pa_cons (pe_gi rfl T.kSPO) pa_nil)))) pss_nil)
      (pss_cons (ps_if (pt_cmpR op_ge (pv 1) (pe_gi rfl T.kPRIME) (nomark _)) (pss_one (ps_ret (pe_lst (pa_cons (pe_gi rfl T.kOUT) pa_nil)))) pss_nil)
      (pss_cons (ps_if (pt_cmpR op_eq (pe_fld (pv 0) rfl) (pe_gi rfl T.kNOB) (nomark _)) (pss_one (ps_ret (pe_lst (pa_cons (pe_gi rfl T.kNTH) pa_nil)))) pss_nil)
      (pss_cons (ps_if (pt_cmpR op_eq (pe_fld (pv 0) rfl) (pe_gi rfl T.kMOST) (nomark _)) (pss_one (ps_ret (pe_lst (pa_cons (pe_gi rfl T.kNOT) pa_nil)))) pss_nil)
      (pss_cons (ps_fldaug (pv 0) pe_int in_add)
      (pss_one (ps_ret (pe_lst (pa_cons (pe_op op_sub (pe_gi rfl T.kMOST) (pe_fld (pv 0) rfl)) (pa_cons (pe_call D hr rfl gD kD bD .nil pass0 (pa_cons (pe_fld (pv 0) rfl) (pa_cons (pv 1) pa_nil))) pa_nil))))))))), ?_⟩
    obtain ⟨dx, ls, lr, hB⟩ := hB
    refine ⟨_, rfl, b, dx, _, rfl, hB.ob, bF_no (by decide +kernel), b, fl, s, rfl, ⟨dx, ls, lr, hB⟩, h11, fun H0 e0 => ⟨_, rfl, ?_⟩⟩
    have hB0 := hB.same e0
    have k0 : ActB C fl H0 b (mTry s x) Q := fun H' p z1 z3 z4 z5 => k H' p z1 ((Same.off e0).trans z3) (e0.free z4) z5
    refine ite2 (fun c => ?_) (fun c => ?_)
    · refine ⟨one_line, fun p hp => ?_⟩
      exact k0.no (if_pos (nf' c)) ⟨dx, ls, lr, hB0⟩ hp
    have f1 := nf c
    have f1' : ¬ s.2.fit = false := by rw [f1]; exact Bool.noConfusion
    refine ⟨_, rfl, _, _, rfl, rfl, _, rfl, ?_⟩
    refine ite2 (fun c => ?_) (fun c => ?_)
    · have c' : Ks191.P ≤ x := by
        have q := of_decide_eq_true c
        rw [P_is]
        omega
      refine ⟨one_line, fun p hp => ?_⟩
      exact k0.no ((if_neg f1').trans (if_pos c')) ⟨dx, ls, lr, hB0⟩ hp
    have f2 : ¬ Ks191.P ≤ x := fun z => c (decide_eq_true (by rw [P_is] at z; omega))
    refine ⟨_, rfl, b, C, dx, _, _, rfl, hB0.ob, T.cB, T.nState, bF_state, rfl, _, rfl, ?_⟩
    refine ite2 (fun c => ?_) (fun c => ?_)
    · have c' : s.2.state = 0 := by
        have q := V.int.inj (of_decide_eq_true c)
        omega
      refine ⟨one_line, fun p hp => ?_⟩
      exact k0.no ((if_neg f1').trans ((if_neg f2).trans (if_pos c'))) ⟨dx, ls, lr, hB0⟩ hp
    have f3 : ¬ s.2.state = 0 := fun z => c (decide_eq_true (by rw [z]; rfl))
    refine ⟨_, rfl, b, C, dx, _, _, rfl, hB0.ob, T.cB, T.nTries, bF_tries, rfl, _, rfl, ?_⟩
    refine ite2 (fun c => ?_) (fun c => ?_)
    · have c' : 10 ≤ s.2.tries := by
        have q := V.int.inj (of_decide_eq_true c)
        omega
      refine ⟨one_line, fun p hp => ?_⟩
      exact k0.no ((if_neg f1').trans ((if_neg f2).trans ((if_neg f3).trans (if_pos c')))) ⟨dx, ls, lr, hB0⟩ hp
    have f4 : ¬ 10 ≤ s.2.tries := fun z => c (decide_eq_true (by
      have q := fit_le f1
      have q2 : s.2.tries = 10 := by omega
      rw [q2]
      rfl))
    have e : mTry s x = ((s.1, { s.2 with tries := s.2.tries + 1 }), [((10 - s.2.tries - 1 : Nat) : Int), ((Ks191.comes x s.2.row : Nat) : Int)], 0, []) :=
      (if_neg f1').trans ((if_neg f2).trans ((if_neg f3).trans (if_neg f4)))
    rw [e] at k0
    obtain ⟨o1, hB1⟩ := hB0.pTries (s.2.tries + 1)
    refine ⟨_, rfl, b, C, dx, _, _, rfl, hB0.ob, T.cB, T.nTries, bF_tries, _, _, rfl, rfl, dx, _, hB0.ob, (by show 6 < 1000; decide), ?_⟩
    refine ⟨_, rfl, b, C, dx, _, _, rfl, hB1.ob, T.cB, T.nTries, bF_tries, _, _, rfl, rfl, _, rfl, b, C, dx, _, _, rfl, hB1.ob, T.cB, T.nRow, bF_row, _, rfl, lr, s.2.row, x, rfl, hB1.rw, two_line, fun p hp => ?_⟩
    have e2 : (10 : Int) - ((s.2.tries + 1 : Nat) : Int) = ((10 - s.2.tries - 1 : Nat) : Int) := by omega
    refine k0 _ p (BoxAt.same ⟨dx, ls, lr, hB1⟩ (same_new hp)) (o1.trans (Same.off (same_new hp))) (free_off o1 hB1.ob hp) (upd_same.trans ?_)
    show some (HO.lst [.int ((10 : Int) - ((s.2.tries + 1 : Nat) : Int)), .int ((Ks191.comes x s.2.row : Nat) : Int)]) = _
    rw [e2]
    rfl
theorem sc_bGo : FnScope ["self", "told"] ["self", "told"] (defScope sBGo) := ⟨rfl, rfl, rfl, by decide +kernel, rfl, by decide +kernel, by decide +kernel⟩
theorem ok_bGo (F : Fun K "let_go" "Box.let_go" sBGo f fd) (T : Txt K mg C CA aN aW) (Sp : OkM P w K mg base 1 C "is_spoilt" ["self"] (spSpoilt C)) : FnOk P w K mg base CX0 2 f fd ["self", "told"] (spBGo C) := by
  obtain ⟨fS, fdS, GS, mS, bS⟩ := Sp
  refine F.ok sc_bGo (fun vs H Q E h => ?_) (fun cdv A outer s H vs Q E hr h => ?_)
  · obtain ⟨b, fl, s, x, rfl, _⟩ := h
    rfl
  · obtain ⟨b, fl, s, m, rfl, hB, h11, k⟩ := h
    refine ⟨_, pss_cons (ps_if (pt_val (pe_meth0 (pv 0) T.cB mS GS hr bS .nil pass0)) (pss_one (ps_ret (pe_lst (pa_cons (pe_gi rfl T.kSPO) pa_nil)))) pss_nil)
      (pss_cons (ps_if (pt_cmpR op_eq (pe_fld (pv 0) rfl) (pe_gi rfl T.kNOB) (nomark _)) (pss_one (ps_ret (pe_lst (pa_cons (pe_gi rfl T.kNTH) pa_nil)))) pss_nil)
      (pss_cons (ps_if (pt_cmpR op_eq (pe_fld (pv 0) rfl) (pe_gi rfl T.kMOST) (nomark _)) (pss_one (ps_ret (pe_lst (pa_cons (pe_gi rfl T.kNOT) pa_nil)))) pss_nil)
      (pss_cons (ps_if (pt_cmpR op_eq (pv 1) (pe_fld (pv 0) rfl) (nomark _)) (pss_cons (ps_fld (pv 0) (pe_gi rfl T.kLET) rfl) (pss_one (ps_ret (pe_lst (pa_cons pe_int pa_nil))))) pss_nil)
      (pss_cons (ps_fldaug (pv 0) pe_int in_add)
      (pss_one (ps_ret (pe_lst (pa_cons pe_int pa_nil)))))))), ?_⟩
    obtain ⟨dx, ls, lr, hB⟩ := hB
    refine ⟨_, rfl, b, dx, _, rfl, hB.ob, bF_no (by decide +kernel), b, fl, s, rfl, ⟨dx, ls, lr, hB⟩, h11, fun H0 e0 => ⟨_, rfl, ?_⟩⟩
    have hB0 := hB.same e0
    have k0 : ActB C fl H0 b (mGo s m) Q := fun H' p z1 z3 z4 z5 => k H' p z1 ((Same.off e0).trans z3) (e0.free z4) z5
    refine ite2 (fun c => ?_) (fun c => ?_)
    · refine ⟨one_line, fun p hp => ?_⟩
      exact k0.no (if_pos (nf' c)) ⟨dx, ls, lr, hB0⟩ hp
    have f1 := nf c
    have f1' : ¬ s.2.fit = false := by rw [f1]; exact Bool.noConfusion
    refine ⟨_, rfl, b, C, dx, _, _, rfl, hB0.ob, T.cB, T.nState, bF_state, rfl, _, rfl, ?_⟩
    refine ite2 (fun c => ?_) (fun c => ?_)
    · have c' : s.2.state = 0 := by
        have q := V.int.inj (of_decide_eq_true c)
        omega
      refine ⟨one_line, fun p hp => ?_⟩
      exact k0.no ((if_neg f1').trans (if_pos c')) ⟨dx, ls, lr, hB0⟩ hp
    have f3 : ¬ s.2.state = 0 := fun z => c (decide_eq_true (by rw [z]; rfl))
    refine ⟨_, rfl, b, C, dx, _, _, rfl, hB0.ob, T.cB, T.nTries, bF_tries, rfl, _, rfl, ?_⟩
    refine ite2 (fun c => ?_) (fun c => ?_)
    · have c' : 10 ≤ s.2.tries := by
        have q := V.int.inj (of_decide_eq_true c)
        omega
      refine ⟨one_line, fun p hp => ?_⟩
      exact k0.no ((if_neg f1').trans ((if_neg f3).trans (if_pos c'))) ⟨dx, ls, lr, hB0⟩ hp
    have f4 : ¬ 10 ≤ s.2.tries := fun z => c (decide_eq_true (by
      have q := fit_le f1
      have q2 : s.2.tries = 10 := by omega
      rw [q2]
      rfl))
    have e0 : mGo s m = (if m = s.2.pass then ((s.1, { s.2 with state := 2 }), [1], 0, []) else ((s.1, { s.2 with tries := s.2.tries + 1 }), [0], 0, [])) :=
      (if_neg f1').trans ((if_neg f3).trans (if_neg f4))
    rw [e0] at k0
    refine ⟨_, rfl, _, rfl, b, C, dx, _, _, rfl, hB0.ob, T.cB, T.nDue, bF_due, rfl, _, rfl, ?_⟩
    refine ite2 (fun c => ?_) (fun c => ?_)
    · have c' : m = s.2.pass := by
        have q := V.int.inj (of_decide_eq_true c)
        omega
      rw [if_pos c'] at k0
      obtain ⟨o1, hB1⟩ := hB0.pState 2
      refine ⟨_, rfl, b, C, dx, _, rfl, hB0.ob, T.cB, T.nState, (by show 6 < 1000; decide), one_line, fun p hp => ?_⟩
      exact k0 _ p (BoxAt.same ⟨dx, ls, lr, hB1⟩ (same_new hp)) (o1.trans (Same.off (same_new hp))) (free_off o1 hB1.ob hp) upd_same
    · have c' : ¬ m = s.2.pass := fun z => c (decide_eq_true (by rw [z]))
      rw [if_neg c'] at k0
      obtain ⟨o1, hB1⟩ := hB0.pTries (s.2.tries + 1)
      refine ⟨_, rfl, b, C, dx, _, _, rfl, hB0.ob, T.cB, T.nTries, bF_tries, _, _, rfl, rfl, dx, _, hB0.ob, (by show 6 < 1000; decide), one_line, fun p hp => ?_⟩
      exact k0 _ p (BoxAt.same ⟨dx, ls, lr, hB1⟩ (same_new hp)) (o1.trans (Same.off (same_new hp))) (free_off o1 hB1.ob hp) upd_same
end
end TT
namespace TT
open PySem PySem.Spec PyProof.Rows L2
def spPutBox (C : Addr) : Sp := fun vs H Q _ => ∃ (b f t : Addr) (s : Sta) (m : Nat) (r : List Nat), vs = [.ref b, .int (m : Int), .ref t] ∧ BoxAt C f H b s ∧ H t = some (.lst (iV (Ks191Neutral.ints r))) ∧ t ≠ f ∧ ActB C f H b ((⟨r, m⟩, s.2), [0], 0, []) Q
def spPutCo (C : Addr) : Sp := fun vs H Q _ => ∃ (b f l t : Addr) (s : Sta) (x y z : Nat) (r : List Nat), vs = [.ref b, .ref l, .ref t] ∧ BoxAt C f H b s ∧ H l = some (.lst (iV (Ks191Neutral.ints [x, y, z]))) ∧
  H t = some (.lst (iV (Ks191Neutral.ints r))) ∧ t ≠ f ∧ ActB C f H b ((s.1, ⟨r, x, y, z⟩), [0], 0, []) Q
def spLook (C : Addr) : Sp := fun vs H Q _ => ∃ (b f : Addr) (s : Sta), vs = [.ref b] ∧ BoxAt C f H b s ∧ WF s ∧ ActB C f H b (s, lookOf s, 0, []) Q
section
variable {P : Program} {w : World} {K : PySem.W.Frag} {mg : Str → Option Value} {base : Heap} {C CA aN aW f fl : Addr} {fd : FuncData}
theorem sc_bPutBox : FnScope ["self", "mark", "sealed"] ["self", "mark", "sealed"] (defScope sBPutBox) := ⟨rfl, rfl, rfl, by decide +kernel, rfl, by decide +kernel, by decide +kernel⟩
theorem ok_bPutBox (F : Fun K "put_box" "Box.put_box" sBPutBox f fd) (T : Txt K mg C CA aN aW) : FnOk P w K mg base CX0 1 f fd ["self", "mark", "sealed"] (spPutBox C) := by
  refine F.ok sc_bPutBox (fun vs H Q E h => ?_) (fun cdv A outer s H vs Q E hr h => ?_)
  · obtain ⟨b, fl, t, s, m, r, rfl, _⟩ := h
    rfl
  · obtain ⟨b, fl, t, s, m, r, rfl, ⟨dx, ls, lr, hB⟩, ht, ntf, k⟩ := h
    refine ⟨_, pss_cons (ps_fld (pv 0) (pv 1) rfl) (pss_cons (ps_fld (pv 0) (pv 2) rfl) (pss_one (ps_ret (pe_lst (pa_cons pe_int pa_nil))))), ?_⟩
    obtain ⟨o1, hB1⟩ := hB.pMark m
    have ht1 := o1 _ _ ht (ne_of ht hB.ob (by intro q; cases q))
    obtain ⟨o2, hB2⟩ := hB1.pSealed ntf ht1
    refine ⟨_, rfl, _, rfl, b, C, dx, _, rfl, hB.ob, T.cB, T.nMark, (by show 6 < 1000; decide), ?_⟩
    refine ⟨_, rfl, _, rfl, b, C, dx, _, rfl, hB1.ob, T.cB, T.nSealed, (by show 6 < 1000; decide), one_line, fun p hp => ?_⟩
    exact k _ p (BoxAt.same ⟨dx, t, lr, hB2⟩ (same_new hp)) (o1.trans (o2.trans (Same.off (same_new hp)))) (free_off (o1.trans o2) hB2.ob hp) upd_same
theorem sc_bPutCo : FnScope ["self", "numbers", "row"] ["self", "numbers", "row"] (defScope sBPutCo) := ⟨rfl, rfl, rfl, by decide +kernel, rfl, by decide +kernel, by decide +kernel⟩
theorem ok_bPutCo (F : Fun K "put_counter" "Box.put_counter" sBPutCo f fd) (T : Txt K mg C CA aN aW) : FnOk P w K mg base CX0 1 f fd ["self", "numbers", "row"] (spPutCo C) := by
  refine F.ok sc_bPutCo (fun vs H Q E h => ?_) (fun cdv A outer s H vs Q E hr h => ?_)
  · obtain ⟨b, fl, l, t, s, x, y, z, r, rfl, _⟩ := h
    rfl
  · obtain ⟨b, fl, l, t, s, x, y, z, r, rfl, ⟨dx, ls, lr, hB⟩, hl, ht, ntf, k⟩ := h
    refine ⟨_, pss_cons (ps_asg (pv 1) (pg_lst rfl (pgs_cons (pg_fld (pv 0)) (pgs_cons (pg_fld (pv 0)) (pgs_cons (pg_fld (pv 0)) pgs_nil))))) (pss_cons (ps_fld (pv 0) (pv 2) rfl) (pss_one (ps_ret (pe_lst (pa_cons pe_int pa_nil))))), ?_⟩
    obtain ⟨o1, hB1⟩ := hB.pDue x
    obtain ⟨o2, hB2⟩ := hB1.pTries y
    obtain ⟨o3, hB3⟩ := hB2.pState z
    have o13 := o1.trans (o2.trans o3)
    have ht3 := o13 _ _ ht (ne_of ht hB.ob (by intro q; cases q))
    obtain ⟨o4, hB4⟩ := hB3.pRow ntf ht3
    refine ⟨_, rfl, l, _, rfl, SqL.of hl, rfl, _, _, rfl, _, rfl, b, C, dx, _, rfl, hB.ob, T.cB, T.nDue, (by show 6 < 1000; decide), ?_⟩
    refine ⟨_, _, rfl, _, rfl, b, C, dx, _, rfl, hB1.ob, T.cB, T.nTries, (by show 6 < 1000; decide), ?_⟩
    refine ⟨_, _, rfl, _, rfl, b, C, dx, _, rfl, hB2.ob, T.cB, T.nState, (by show 6 < 1000; decide), rfl, ?_⟩
    refine ⟨_, rfl, _, rfl, b, C, dx, _, rfl, hB3.ob, T.cB, T.nRow, (by show 6 < 1000; decide), one_line, fun p hp => ?_⟩
    exact k _ p (BoxAt.same ⟨dx, ls, t, hB4⟩ (same_new hp)) (o13.trans (o4.trans (Same.off (same_new hp)))) (free_off (o13.trans o4) hB4.ob hp) upd_same
theorem sc_bLook : FnScope ["self"] ["self"] (defScope sBLook) := ⟨rfl, rfl, rfl, by decide +kernel, rfl, by decide +kernel, by decide +kernel⟩
theorem look_iV (s : Sta) : ([V.int 0, V.int ((s.1.mark : Nat) : Int)] ++ iV (Ks191Neutral.ints s.1.sealed_) ++ [V.int ((s.2.pass : Nat) : Int), V.int ((s.2.tries : Nat) : Int), V.int ((s.2.state : Nat) : Int)] ++ iV (Ks191Neutral.ints s.2.row)) = iV (lookOf s) := by
  unfold lookOf iV
  simp
theorem ok_bLook (F : Fun K "look" "Box.look" sBLook f fd) (T : Txt K mg C CA aN aW) : FnOk P w K mg base CX0 1 f fd ["self"] (spLook C) := by
  refine F.ok sc_bLook (fun vs H Q E h => ?_) (fun cdv A outer s H vs Q E hr h => ?_)
  · obtain ⟨b, fl, s, rfl, _⟩ := h
    rfl
  · obtain ⟨b, fl, s, rfl, ⟨dx, ls, lr, hB⟩, ⟨h64, h11⟩, k⟩ := h
    refine ⟨_, pss_one (ps_ret (pe_op op_cat (pe_op op_cat (pe_op op_cat (pe_lst (pa_cons pe_int (pa_cons (pe_fld (pv 0) rfl) pa_nil))) (pe_fld (pv 0) rfl))
      (pe_lst (pa_cons (pe_fld (pv 0) rfl) (pa_cons (pe_fld (pv 0) rfl) (pa_cons (pe_fld (pv 0) rfl) pa_nil))))) (pe_fld (pv 0) rfl))), ?_⟩
    refine ⟨_, rfl, b, C, dx, _, _, rfl, hB.ob, T.cB, T.nMark, bF_mark, two_line, fun p1 hp1 => ?_⟩
    have hB1 := hB.same (same_new hp1 (o := .lst [.int 0, .int ((s.1.mark : Nat) : Int)]))
    refine ⟨_, rfl, b, C, dx, _, _, rfl, hB1.ob, T.cB, T.nSealed, bF_sealed, p1, ls, _, _, rfl, rfl, upd_same, hB1.sl, ?_, fun p2 hp2 => ?_⟩
    · rw [iV_len, h64]
      show 2 + 64 ≤ sizeLine
      decide
    have e2 := same_new hp2 (o := .lst ([.int 0, .int ((s.1.mark : Nat) : Int)] ++ iV (Ks191Neutral.ints s.1.sealed_)))
    have hB2 := hB1.same e2
    refine ⟨_, rfl, b, C, dx, _, _, rfl, hB2.ob, T.cB, T.nDue, bF_due, _, rfl, b, C, dx, _, _, rfl, hB2.ob, T.cB, T.nTries, bF_tries, _, rfl, b, C, dx, _, _, rfl, hB2.ob, T.cB, T.nState, bF_state, (by show 3 ≤ sizeLine; decide), fun p3 hp3 => ?_⟩
    have e3 := same_new hp3 (o := .lst [.int ((s.2.pass : Nat) : Int), .int ((s.2.tries : Nat) : Int), .int ((s.2.state : Nat) : Int)])
    have hB3 := hB2.same e3
    refine ⟨p2, p3, _, _, rfl, rfl, e3 _ _ upd_same, upd_same, ?_, fun p4 hp4 => ?_⟩
    · rw [List.length_append, iV_len, h64]
      show 2 + 64 + 3 ≤ sizeLine
      decide
    have e4 := same_new hp4 (o := .lst ([.int 0, .int ((s.1.mark : Nat) : Int)] ++ iV (Ks191Neutral.ints s.1.sealed_) ++ [.int ((s.2.pass : Nat) : Int), .int ((s.2.tries : Nat) : Int), .int ((s.2.state : Nat) : Int)]))
    have hB4 := hB3.same e4
    refine ⟨_, rfl, b, C, dx, _, _, rfl, hB4.ob, T.cB, T.nRow, bF_row, p4, lr, _, _, rfl, rfl, upd_same, hB4.rw, ?_, fun p hp => ?_⟩
    · rw [List.length_append, List.length_append, iV_len, iV_len, h64, h11]
      show 2 + 64 + 3 + 11 ≤ sizeLine
      decide
    have eA := (same_new hp1 (o := .lst [.int 0, .int ((s.1.mark : Nat) : Int)])).trans (e2.trans (e3.trans e4))
    refine k _ p (BoxAt.same ⟨dx, ls, lr, hB4⟩ (same_new hp)) (Same.off (eA.trans (same_new hp))) (eA.free hp) ?_
    rw [upd_same, look_iV]
end
end TT
namespace TT
open PySem PySem.Spec PyProof.Rows L2
/-! ### 11. The desk: one call -/
theorem ifD_t {p A B : Prop} [Decidable p] (h : p) (a : A) : if decide p = true then A else B := by
  rw [decide_eq_true h, if_pos rfl]
  exact a
theorem ifD_f {p A B : Prop} [Decidable p] (h : ¬ p) (b : B) : if decide p = true then A else B := by
  rw [decide_eq_false h, if_neg Bool.false_ne_true]
  exact b
theorem vne {i j : Int} (h : i ≠ j) : ¬ V.int i = V.int j := fun z => h (V.int.inj z)
theorem cok_row {s : Sta} {x : Nat} {r : List Nat} (h : COk s (.begin x r)) : r.length ≤ 11 := by
  have h' : (if s.2.fit = true ∧ x < Ks191.P ∧ s.2.state ≠ 1 then r.length = 11 else r = []) := h
  split at h'
  · omega
  · rw [h']
    exact Nat.zero_le _
theorem mact_len {s : Sta} {k : Cmd} (wf : WF s) (h : COk s k) : (mact s k).2.1.length ≤ 100 ∧ (mact s k).2.2.2.length ≤ 100 := by
  obtain ⟨h64, h11⟩ := wf
  cases k with
  | name n =>
    show (mName s n).2.1.length ≤ 100 ∧ (mName s n).2.2.2.length ≤ 100
    unfold mName
    split <;> exact ⟨by simp, by simp⟩
  | sealIt y r =>
    show (mSeal s y r).2.1.length ≤ 100 ∧ (mSeal s y r).2.2.2.length ≤ 100
    unfold mSeal
    split <;> exact ⟨by simp, by simp⟩
  | openIt y =>
    show (mOpen s y).2.1.length ≤ 100 ∧ (mOpen s y).2.2.2.length ≤ 100
    unfold mOpen
    split
    · exact ⟨by simp, by simp⟩
    · split
      · exact ⟨by simp, by simp⟩
      · refine ⟨?_, by simp⟩
        show (0 :: ((Ks191Neutral.given.pass y : Nat) : Int) :: Ks191Neutral.ints (Ks191.xor s.1.sealed_ (Ks191Neutral.given.pad y))).length ≤ 100
        rw [List.length_cons, List.length_cons, ints_len, xor_len, pad_len]
        omega
  | begin x r =>
    have hr := cok_row h
    show (mBegin s x r).2.1.length ≤ 100 ∧ (mBegin s x r).2.2.2.length ≤ 100
    unfold mBegin
    repeat' split
    all_goals exact ⟨by simp, by simp <;> omega⟩
  | tryOnce x =>
    show (mTry s x).2.1.length ≤ 100 ∧ (mTry s x).2.2.2.length ≤ 100
    unfold mTry
    repeat' split
    all_goals exact ⟨by simp, by simp⟩
  | letGo m =>
    show (mGo s m).2.1.length ≤ 100 ∧ (mGo s m).2.2.2.length ≤ 100
    unfold mGo
    repeat' split
    all_goals exact ⟨by simp, by simp⟩
  | putBox m r => exact ⟨Nat.zero_le _, Nat.zero_le _⟩
  | putCo a b d r => exact ⟨Nat.zero_le _, Nat.zero_le _⟩
  | look => exact ⟨Nat.zero_le _, Nat.zero_le _⟩
theorem mstep_ask {s : Sta} {k : Cmd} (h : k.word < 6) : mstep s k = ((mact s k).1, (mact s k).2.1 ++ (((mact s k).2.2.1 : Nat) : Int) :: (mact s k).2.2.2) := by
  cases k with
  | putBox m r => exact absurd h (by show ¬ 6 < 6; decide)
  | putCo a b d r => exact absurd h (by show ¬ 7 < 6; decide)
  | look => exact absurd h (by show ¬ 8 < 6; decide)
  | _ => rfl
def spAsked (C CA : Addr) : Sp := fun vs H Q _ => ∃ (b a f ln lw : Addr) (s : Sta) (k : Cmd) (w : Int), vs = [.ref b, .ref a, .int w, .ref ln, .ref lw] ∧ w = ((k.word : Nat) : Int) ∧ k.word < 6 ∧ BoxAt C f H b s ∧ AskAt CA H a 0 [] ∧ WF s ∧ COk s k ∧
  H ln = some (.lst (iV (Ks191Neutral.ints k.nums))) ∧ H lw = some (.lst (iV (Ks191Neutral.ints k.row))) ∧ lw ≠ f ∧ ActK C CA f H b a (mact s k) Q
def spTold (C : Addr) : Sp := fun vs H Q _ => ∃ (b f ln lw : Addr) (s : Sta) (k : Cmd) (w : Int), vs = [.ref b, .int w, .ref ln, .ref lw] ∧ w = ((k.word : Nat) : Int) ∧ BoxAt C f H b s ∧ WF s ∧ COk s k ∧
  H ln = some (.lst (iV (Ks191Neutral.ints k.nums))) ∧ H lw = some (.lst (iV (Ks191Neutral.ints k.row))) ∧ lw ≠ f ∧ ActB C f H b ((mstep s k).1, (mstep s k).2, 0, []) Q
/-- what the box alone does, the asker asked nothing -/
theorem ActK.quiet {C CA f b a : Addr} {H : Hp} {s : Sta} {R : R} {Q : VK} (k : ActK C CA f H b a R Q) (e : R.2.2 = (0, [])) (hB : BoxAt C f H b s) (hA : AskAt CA H a 0 []) : ActB C f H b R Q := by
  obtain ⟨r1, r2, r3⟩ := R
  have e' : r3 = (0, []) := e
  subst e'
  exact fun H' p z1 z2 z3 z4 => k H' p z1 (AskAt.box hB hA z2) (Off.to1 z2) z3 z4
theorem mTry_quiet (s : Sta) (x : Nat) : (mTry s x).2.2 = (0, []) := by
  unfold mTry
  repeat (first | rfl | split)
theorem mGo_quiet (s : Sta) (x : Nat) : (mGo s x).2.2 = (0, []) := by
  unfold mGo
  repeat (first | rfl | split)
section
variable {P : Program} {w : World} {K : PySem.W.Frag} {mg : Str → Option Value} {base : Heap} {C CA aN aW f fl : Addr} {fd : FuncData}
theorem sc_asked : FnScope ["box", "asker", "word", "numbers", "row"] ["box", "asker", "word", "numbers", "row"] (defScope sAsked) := ⟨rfl, rfl, rfl, by decide +kernel, rfl, by decide +kernel, by decide +kernel⟩
theorem ok_asked (F : Fun K "asked" "asked" sAsked f fd) (T : Txt K mg C CA aN aW) (G0 : OkM P w K mg base 3 C "name" ["self", "asker", "number"] (spBName C CA)) (G1 : OkM P w K mg base 3 C "seal" ["self", "asker", "y", "secret"] (spBSeal C CA))
    (G2 : OkM P w K mg base 3 C "unseal" ["self", "asker", "y"] (spBOpen C CA)) (G3 : OkM P w K mg base 3 C "begin" ["self", "asker", "x", "script"] (spBBegin C CA)) (G4 : OkM P w K mg base 2 C "try_once" ["self", "x"] (spBTry C))
    (G5 : OkM P w K mg base 2 C "let_go" ["self", "told"] (spBGo C)) : FnOk P w K mg base CX0 4 f fd ["box", "asker", "word", "numbers", "row"] (spAsked C CA) := by
  obtain ⟨f0, fd0, G0, m0, b0⟩ := G0
  obtain ⟨f1, fd1, G1, m1, b1⟩ := G1
  obtain ⟨f2, fd2, G2, m2, b2⟩ := G2
  obtain ⟨f3, fd3, G3, m3, b3⟩ := G3
  obtain ⟨f4, fd4, G4, m4, b4⟩ := G4
  obtain ⟨f5, fd5, G5, m5, b5⟩ := G5
  refine F.ok sc_asked (fun vs H Q E h => ?_) (fun cdv A outer s H vs Q E hr h => ?_)
  · obtain ⟨b, a, fl, ln, lw, s, k, z, rfl, _⟩ := h
    rfl
  · obtain ⟨b, a, fl, ln, lw, s, k, z, rfl, hz, h6, hB, hA, wf, ok, hln, hlw, nwf, kk⟩ := h
    have hr2 : Room 2 _ := hr.mono (by decide)
    refine ⟨_, pss_cons (ps_if (pt_cmpR op_eq (pv 2) pe_int (nomark _)) (pss_one (ps_ret (pe_meth (pv 0) T.cB m0 G0 hr b0 .nil pass0 (pa_cons (pv 1) (pa_cons (pe_ix ix_list (pv 3) pe_int (fun _ _ => rfl)) pa_nil))))) pss_nil)
      (pss_cons (ps_if (pt_cmpR op_eq (pv 2) pe_int (nomark _)) (pss_one (ps_ret (pe_meth (pv 0) T.cB m1 G1 hr b1 .nil pass0 (pa_cons (pv 1) (pa_cons (pe_ix ix_list (pv 3) pe_int (fun _ _ => rfl)) (pa_cons (pv 4) pa_nil)))))) pss_nil)
      (pss_cons (ps_if (pt_cmpR op_eq (pv 2) pe_int (nomark _)) (pss_one (ps_ret (pe_meth (pv 0) T.cB m2 G2 hr b2 .nil pass0 (pa_cons (pv 1) (pa_cons (pe_ix ix_list (pv 3) pe_int (fun _ _ => rfl)) pa_nil))))) pss_nil)
      (pss_cons (ps_if (pt_cmpR op_eq (pv 2) pe_int (nomark _)) (pss_one (ps_ret (pe_meth (pv 0) T.cB m3 G3 hr b3 .nil pass0 (pa_cons (pv 1) (pa_cons (pe_ix ix_list (pv 3) pe_int (fun _ _ => rfl)) (pa_cons (pv 4) pa_nil)))))) pss_nil)
      (pss_cons (ps_if (pt_cmpR op_eq (pv 2) pe_int (nomark _)) (pss_one (ps_ret (pe_meth (pv 0) T.cB m4 G4 hr2 b4 .nil pass0 (pa_cons (pe_ix ix_list (pv 3) pe_int (fun _ _ => rfl)) pa_nil)))) pss_nil)
      (pss_one (ps_ret (pe_meth (pv 0) T.cB m5 G5 hr2 b5 .nil pass0 (pa_cons (pe_ix ix_list (pv 3) pe_int (fun _ _ => rfl)) pa_nil)))))))), ?_⟩
    obtain ⟨dx, ls, lr, hBi⟩ := id hB
    cases k with
    | putBox m r => exact absurd h6 (by show ¬ 6 < 6; decide)
    | putCo a b d r => exact absurd h6 (by show ¬ 7 < 6; decide)
    | look => exact absurd h6 (by show ¬ 8 < 6; decide)
    | name n =>
      have hz' : z = 0 := hz
      subst hz'
      refine ⟨_, rfl, rfl, _, rfl, ?_⟩
      refine ifD_t rfl ?_
      exact ⟨_, rfl, b, dx, _, rfl, hBi.ob, bF_no (by decide +kernel), _, rfl, _, rfl, ln, _, 0, _, rfl, rfl, SqL.of hln, atI_nat (j := 0) rfl, b, a, fl, s, n, rfl, hB, hA, kk⟩
    | sealIt y r =>
      have hz' : z = 1 := hz
      subst hz'
      refine ⟨_, rfl, rfl, _, rfl, ?_⟩
      refine ifD_f (vne (by decide)) ?_
      refine ⟨_, rfl, rfl, _, rfl, ?_⟩
      refine ifD_t rfl ?_
      exact ⟨_, rfl, b, dx, _, rfl, hBi.ob, bF_no (by decide +kernel), _, rfl, _, rfl, ln, _, 0, _, rfl, rfl, SqL.of hln, atI_nat (j := 0) rfl, _, rfl, b, a, fl, lw, s, y, r, rfl, hB, hA, hlw, kk⟩
    | openIt y =>
      have hz' : z = 2 := hz
      subst hz'
      refine ⟨_, rfl, rfl, _, rfl, ?_⟩
      refine ifD_f (vne (by decide)) ?_
      refine ⟨_, rfl, rfl, _, rfl, ?_⟩
      refine ifD_f (vne (by decide)) ?_
      refine ⟨_, rfl, rfl, _, rfl, ?_⟩
      refine ifD_t rfl ?_
      exact ⟨_, rfl, b, dx, _, rfl, hBi.ob, bF_no (by decide +kernel), _, rfl, _, rfl, ln, _, 0, _, rfl, rfl, SqL.of hln, atI_nat (j := 0) rfl, b, a, fl, s, y, rfl, hB, hA, kk⟩
    | begin x r =>
      have hz' : z = 3 := hz
      subst hz'
      refine ⟨_, rfl, rfl, _, rfl, ?_⟩
      refine ifD_f (vne (by decide)) ?_
      refine ⟨_, rfl, rfl, _, rfl, ?_⟩
      refine ifD_f (vne (by decide)) ?_
      refine ⟨_, rfl, rfl, _, rfl, ?_⟩
      refine ifD_f (vne (by decide)) ?_
      refine ⟨_, rfl, rfl, _, rfl, ?_⟩
      refine ifD_t rfl ?_
      exact ⟨_, rfl, b, dx, _, rfl, hBi.ob, bF_no (by decide +kernel), _, rfl, _, rfl, ln, _, 0, _, rfl, rfl, SqL.of hln, atI_nat (j := 0) rfl, _, rfl, b, a, fl, lw, s, x, r, rfl, hB, hA, wf.2, hlw, Nat.le_trans (cok_row ok) (by decide), nwf, kk⟩
    | tryOnce x =>
      have hz' : z = 4 := hz
      subst hz'
      refine ⟨_, rfl, rfl, _, rfl, ?_⟩
      refine ifD_f (vne (by decide)) ?_
      refine ⟨_, rfl, rfl, _, rfl, ?_⟩
      refine ifD_f (vne (by decide)) ?_
      refine ⟨_, rfl, rfl, _, rfl, ?_⟩
      refine ifD_f (vne (by decide)) ?_
      refine ⟨_, rfl, rfl, _, rfl, ?_⟩
      refine ifD_f (vne (by decide)) ?_
      refine ⟨_, rfl, rfl, _, rfl, ?_⟩
      refine ifD_t rfl ?_
      exact ⟨_, rfl, b, dx, _, rfl, hBi.ob, bF_no (by decide +kernel), _, rfl, ln, _, 0, _, rfl, rfl, SqL.of hln, atI_nat (j := 0) rfl, b, fl, s, x, rfl, hB, wf.2, ActK.quiet kk (mTry_quiet s x) hB hA⟩
    | letGo m =>
      have hz' : z = 5 := hz
      subst hz'
      refine ⟨_, rfl, rfl, _, rfl, ?_⟩
      refine ifD_f (vne (by decide)) ?_
      refine ⟨_, rfl, rfl, _, rfl, ?_⟩
      refine ifD_f (vne (by decide)) ?_
      refine ⟨_, rfl, rfl, _, rfl, ?_⟩
      refine ifD_f (vne (by decide)) ?_
      refine ⟨_, rfl, rfl, _, rfl, ?_⟩
      refine ifD_f (vne (by decide)) ?_
      refine ⟨_, rfl, rfl, _, rfl, ?_⟩
      refine ifD_f (vne (by decide)) ?_
      exact ⟨_, rfl, b, dx, _, rfl, hBi.ob, bF_no (by decide +kernel), _, rfl, ln, _, 0, _, rfl, rfl, SqL.of hln, atI_nat (j := 0) rfl, b, fl, s, m, rfl, hB, wf.2, ActK.quiet kk (mGo_quiet s m) hB hA⟩
end
end TT
namespace TT
open PySem PySem.Spec PyProof.Rows L2
section
variable {P : Program} {w : World} {K : PySem.W.Frag} {mg : Str → Option Value} {base : Heap} {C CA aN aW f fl : Addr} {fd : FuncData}
theorem word_of {s : Sta} {k : Cmd} {z : Int} (h : z = ((k.word : Nat) : Int)) (h6 : z ≠ 6) (h7 : z ≠ 7) (h8 : z ≠ 8) : k.word < 6 := by
  cases k with
  | putBox m r => exact absurd h h6
  | putCo a b d r => exact absurd h h7
  | look => exact absurd h h8
  | name n => show 0 < 6; decide
  | sealIt y r => show 1 < 6; decide
  | openIt y => show 2 < 6; decide
  | begin x r => show 3 < 6; decide
  | tryOnce x => show 4 < 6; decide
  | letGo m => show 5 < 6; decide
theorem sc_told : FnScope ["box", "word", "numbers", "row", "asker", "found"] ["box", "word", "numbers", "row"] (defScope sToldBy) := ⟨rfl, rfl, rfl, by decide +kernel, rfl, by decide +kernel, by decide +kernel⟩
theorem ok_told (F : Fun K "told_by" "told_by" sToldBy f fd) (T : Txt K mg C CA aN aW) (G6 : OkM P w K mg base 1 C "put_box" ["self", "mark", "sealed"] (spPutBox C)) (G7 : OkM P w K mg base 1 C "put_counter" ["self", "numbers", "row"] (spPutCo C))
    (G8 : OkM P w K mg base 1 C "look" ["self"] (spLook C)) (GI : OkI P w K mg base 1 CA ["self"] (spAInit CA)) (GA : OkF P w K mg base 4 "asked" ["box", "asker", "word", "numbers", "row"] (spAsked C CA))
    (GT : OkM P w K mg base 1 CA "told" ["self"] (spATold CA)) : FnOk P w K mg base CX0 5 f fd ["box", "word", "numbers", "row"] (spTold C) := by
  obtain ⟨f6, fd6, G6, m6, b6⟩ := G6
  obtain ⟨f7, fd7, G7, m7, b7⟩ := G7
  obtain ⟨f8, fd8, G8, m8, b8⟩ := G8
  obtain ⟨fI, fdI, GI, mI, bI⟩ := GI
  obtain ⟨fA, fdA, GA, gA, kA, bA⟩ := GA
  obtain ⟨fT, fdT, GT, mT, bT⟩ := GT
  refine F.ok sc_told (fun vs H Q E h => ?_) (fun cdv A outer s H vs Q E hr h => ?_)
  · obtain ⟨b, fl, ln, lw, s, k, z, rfl, _⟩ := h
    rfl
  · obtain ⟨b, fl, ln, lw, s, k, z, rfl, hz, hB, wf, ok, hln, hlw, nwf, kk⟩ := h
    have hr1 : Room 1 _ := hr.mono (by decide)
    have hr2 : Room 2 _ := hr.mono (by decide)
    refine ⟨_, pss_cons (ps_if (pt_cmpR op_eq (pv 1) pe_int (nomark _)) (pss_one (ps_ret (pe_meth (pv 0) T.cB m6 G6 hr1 b6 .nil pass0 (pa_cons (pe_ix ix_list (pv 2) pe_int (fun _ _ => rfl)) (pa_cons (pv 3) pa_nil))))) pss_nil)
      (pss_cons (ps_if (pt_cmpR op_eq (pv 1) pe_int (nomark _)) (pss_one (ps_ret (pe_meth (pv 0) T.cB m7 G7 hr1 b7 .nil pass0 (pa_cons (pv 2) (pa_cons (pv 3) pa_nil))))) pss_nil)
      (pss_cons (ps_if (pt_cmpR op_eq (pv 1) pe_int (nomark _)) (pss_one (ps_ret (pe_meth0 (pv 0) T.cB m8 G8 hr1 b8 .nil pass0))) pss_nil)
      (pss_cons (ps_set (i := 4) sc_told.nd rfl (Or.inl rfl) (pe_make0 mI GI hr2 rfl T.gA bI .nil pass0))
      (pss_cons (ps_set (i := 5) sc_told.nd rfl (Or.inl rfl) (pe_call GA hr rfl gA kA bA .nil pass0 (pa_cons (pv 0) (pa_cons (pv 4) (pa_cons (pv 1) (pa_cons (pv 2) (pa_cons (pv 3) pa_nil)))))))
      (pss_one (ps_ret (pe_op op_cat (pv 5) (pe_meth0 (pv 4) T.cA mT GT hr1 bT .nil pass0)))))))), ?_⟩
    obtain ⟨dx, ls, lr, hBi⟩ := id hB
    rcases Classical.em (z = 6) with e6 | e6
    · subst e6
      cases k with
      | putBox m r =>
        refine ⟨_, rfl, rfl, _, rfl, ?_⟩
        refine ifD_t rfl ?_
        exact ⟨_, rfl, b, dx, _, rfl, hBi.ob, bF_no (by decide +kernel), _, rfl, ln, _, 0, _, rfl, rfl, SqL.of hln, atI_nat (j := 0) rfl, _, rfl, b, fl, lw, s, m, r, rfl, hB, hlw, nwf, kk⟩
      | name n => exact absurd hz (by show ¬ (6 : Int) = 0; decide)
      | sealIt y r => exact absurd hz (by show ¬ (6 : Int) = 1; decide)
      | openIt y => exact absurd hz (by show ¬ (6 : Int) = 2; decide)
      | begin x r => exact absurd hz (by show ¬ (6 : Int) = 3; decide)
      | tryOnce x => exact absurd hz (by show ¬ (6 : Int) = 4; decide)
      | letGo m => exact absurd hz (by show ¬ (6 : Int) = 5; decide)
      | putCo a b d r => exact absurd hz (by show ¬ (6 : Int) = 7; decide)
      | look => exact absurd hz (by show ¬ (6 : Int) = 8; decide)
    refine ⟨_, rfl, rfl, _, rfl, ?_⟩
    refine ifD_f (vne e6) ?_
    rcases Classical.em (z = 7) with e7 | e7
    · subst e7
      cases k with
      | putCo x1 x2 x3 r =>
        refine ⟨_, rfl, rfl, _, rfl, ?_⟩
        refine ifD_t rfl ?_
        exact ⟨_, rfl, b, dx, _, rfl, hBi.ob, bF_no (by decide +kernel), _, rfl, _, rfl, b, fl, ln, lw, s, x1, x2, x3, r, rfl, hB, hln, hlw, nwf, kk⟩
      | name n => exact absurd hz (by show ¬ (7 : Int) = 0; decide)
      | sealIt y r => exact absurd hz (by show ¬ (7 : Int) = 1; decide)
      | openIt y => exact absurd hz (by show ¬ (7 : Int) = 2; decide)
      | begin x r => exact absurd hz (by show ¬ (7 : Int) = 3; decide)
      | tryOnce x => exact absurd hz (by show ¬ (7 : Int) = 4; decide)
      | letGo m => exact absurd hz (by show ¬ (7 : Int) = 5; decide)
      | putBox m r => exact absurd hz (by show ¬ (7 : Int) = 6; decide)
      | look => exact absurd hz (by show ¬ (7 : Int) = 8; decide)
    refine ⟨_, rfl, rfl, _, rfl, ?_⟩
    refine ifD_f (vne e7) ?_
    rcases Classical.em (z = 8) with e8 | e8
    · subst e8
      cases k with
      | look =>
        refine ⟨_, rfl, rfl, _, rfl, ?_⟩
        refine ifD_t rfl ?_
        exact ⟨_, rfl, b, dx, _, rfl, hBi.ob, bF_no (by decide +kernel), b, fl, s, rfl, hB, wf, kk⟩
      | name n => exact absurd hz (by show ¬ (8 : Int) = 0; decide)
      | sealIt y r => exact absurd hz (by show ¬ (8 : Int) = 1; decide)
      | openIt y => exact absurd hz (by show ¬ (8 : Int) = 2; decide)
      | begin x r => exact absurd hz (by show ¬ (8 : Int) = 3; decide)
      | tryOnce x => exact absurd hz (by show ¬ (8 : Int) = 4; decide)
      | letGo m => exact absurd hz (by show ¬ (8 : Int) = 5; decide)
      | putBox m r => exact absurd hz (by show ¬ (8 : Int) = 6; decide)
      | putCo a b d r => exact absurd hz (by show ¬ (8 : Int) = 7; decide)
    refine ⟨_, rfl, rfl, _, rfl, ?_⟩
    refine ifD_f (vne e8) ?_
    have h6 := word_of (s := s) hz e6 e7 e8
    rw [mstep_ask h6] at kk
    -- asker = Asker()
    intro x dy nx ndy nex
    refine ⟨x, dy, rfl, upd_same, fun H1 hA1 hO1 => ⟨rfl, ?_⟩⟩
    have e1 : Same H H1 := Same.made nx ndy hO1
    have hB1 := hB.same e1
    obtain ⟨l1, l2⟩ := mact_len wf ok
    refine ⟨_, rfl, _, rfl, _, rfl, _, rfl, _, rfl, b, x, fl, ln, lw, s, k, z, rfl, hz, h6, hB1, hA1, wf, ok, e1 _ _ hln, e1 _ _ hlw, nwf, fun H2 p hB2 hA2 hO2 hp hp' => ?_⟩
    obtain ⟨dy2, la2, hA2⟩ := hA2
    refine ⟨_, rfl, _, rfl, x, dy2, _, rfl, hA2.ob, aF_no (by decide +kernel), x, _, _, rfl, ⟨dy2, la2, hA2⟩, Nat.le_trans l2 (by decide), fun H3 q e3 hq hq' => ?_⟩
    refine ⟨p, q, _, _, rfl, rfl, e3 _ _ hp', hq', ?_, fun r hr3 => ?_⟩
    · rw [iV_length, iV_length]
      show (mact s k).2.1.length + ((mact s k).2.2.2.length + 1) ≤ sizeLine
      exact Nat.le_of_lt (small_line (by omega))
    have hO : Off b H H3 := fun u o z1 z2 => e3 _ _ (hO2 _ _ (e1 _ _ z1) z2 (ne_of_none z1 nx))
    obtain ⟨dx2, ls2, lr2, hB2i⟩ := id hB2
    refine kk _ r ((hB2.same e3).same (same_new hr3)) (hO.trans (Same.off (same_new hr3))) (free_off hO (e3 _ _ hB2i.ob) hr3) ?_
    rw [upd_same]
    exact congrArg (fun z => some (HO.lst z)) (iV_app _ _).symm
end
end TT
namespace TT
open PySem PySem.Spec PyProof.Rows L2
/-! ### 12. The desk: all calls -/
theorem cut_mid {A B D : List V} {lo hi : Int} (h1 : lo = ((A.length : Nat) : Int)) (h2 : hi = ((A.length + B.length : Nat) : Int)) : cutV (A ++ (B ++ D)) (some lo) (some hi) = B := by
  subst h1 h2
  unfold cutV
  rw [HT.sIx_nat, HT.sIx_nat, List.length_append, List.length_append, Nat.min_eq_left (by omega), Nat.min_eq_left (by omega), List.drop_left, Nat.add_sub_cancel_left, List.take_left]
theorem at_mid {A D : List V} {v : V} {z : Int} (h : z = ((A.length : Nat) : Int)) : atI (A ++ (v :: D)) z = some v := by
  refine at_of h ?_
  rw [List.getElem?_append_right (Nat.le_refl _), Nat.sub_self]
  rfl
theorem num_at (k : Cmd) : atI (iV [1, 1, 1, 1, 1, 1, 1, 3, 0]) ((k.word : Nat) : Int) = some (.int ((k.nums.length : Nat) : Int)) := by
  cases k <;> exact atI_nat rfl
theorem in_row (k : Cmd) : inV (.int ((k.word : Nat) : Int)) (iV [1, 3, 6, 7]) = k.hasRow := by
  cases k <;> rfl
theorem no_row {k : Cmd} (h : k.hasRow = false) : k.row = [] := by
  cases k <;> first | rfl | cases h
/-- the call k stands in the list behind pre: its numbers and its row by the places -/
structure Lies (l pre : List Int) (k : Cmd) (post : List Int) : Prop where
  eq : l = pre ++ (k.flat ++ post)
section
variable {l pre post : List Int} {k : Cmd} {z : Int}
theorem Lies.word (h : Lies l pre k post) (hz : z = ((pre.length : Nat) : Int)) : atI (iV l) z = some (.int ((k.word : Nat) : Int)) := by
  have e : iV l = iV pre ++ (.int ((k.word : Nat) : Int) :: iV (Ks191Neutral.ints k.nums ++ k.tail ++ post)) := by
    rw [h.eq, iV_app]
    rfl
  rw [e]
  exact at_mid (by rw [iV_length]; exact hz)
theorem Lies.nums (h : Lies l pre k post) (hz : z = ((pre.length : Nat) : Int)) : cutV (iV l) (some (z + 1)) (some (z + 1 + ((k.nums.length : Nat) : Int))) = iV (Ks191Neutral.ints k.nums) := by
  have e : iV l = iV (pre ++ [((k.word : Nat) : Int)]) ++ (iV (Ks191Neutral.ints k.nums) ++ iV (k.tail ++ post)) := by
    rw [h.eq, ← iV_app, ← iV_app]
    unfold Cmd.flat
    simp
  rw [e]
  refine cut_mid ?_ ?_
  · rw [iV_length, List.length_append, hz]
    show ((pre.length : Nat) : Int) + 1 = ((pre.length + 1 : Nat) : Int)
    omega
  · rw [iV_length, List.length_append, iV_length, ints_len, hz]
    show ((pre.length : Nat) : Int) + 1 + ((k.nums.length : Nat) : Int) = ((pre.length + 1 + k.nums.length : Nat) : Int)
    omega
theorem Lies.count (h : Lies l pre k post) (hr : k.hasRow = true) (hz : z = ((pre.length + 1 + k.nums.length : Nat) : Int)) : atI (iV l) z = some (.int ((k.row.length : Nat) : Int)) := by
  have e : iV l = iV (pre ++ [((k.word : Nat) : Int)] ++ Ks191Neutral.ints k.nums) ++ (.int ((k.row.length : Nat) : Int) :: iV (Ks191Neutral.ints k.row ++ post)) := by
    rw [h.eq]
    unfold Cmd.flat Cmd.tail
    rw [if_pos hr]
    simp
  rw [e]
  refine at_mid ?_
  rw [iV_length, List.length_append, List.length_append, ints_len]
  exact hz
theorem Lies.row (h : Lies l pre k post) (hr : k.hasRow = true) (hz : z = ((pre.length + 1 + k.nums.length : Nat) : Int)) : cutV (iV l) (some (z + 1)) (some (z + 1 + ((k.row.length : Nat) : Int))) = iV (Ks191Neutral.ints k.row) := by
  have e : iV l = iV (pre ++ [((k.word : Nat) : Int)] ++ Ks191Neutral.ints k.nums ++ [((k.row.length : Nat) : Int)]) ++ (iV (Ks191Neutral.ints k.row) ++ iV post) := by
    rw [h.eq]
    unfold Cmd.flat Cmd.tail
    rw [if_pos hr]
    simp
  rw [e]
  refine cut_mid ?_ ?_
  · rw [iV_length, List.length_append, List.length_append, List.length_append, ints_len, hz]
    show ((pre.length + 1 + k.nums.length : Nat) : Int) + 1 = ((pre.length + 1 + k.nums.length + 1 : Nat) : Int)
    omega
  · rw [iV_length, List.length_append, List.length_append, List.length_append, ints_len, iV_length, ints_len, hz]
    show ((pre.length + 1 + k.nums.length : Nat) : Int) + 1 + ((k.row.length : Nat) : Int) = ((pre.length + 1 + k.nums.length + 1 + k.row.length : Nat) : Int)
    omega
theorem flat_len (k : Cmd) : k.flat.length = 1 + k.nums.length + (if k.hasRow = true then 1 + k.row.length else 0) := by
  unfold Cmd.flat Cmd.tail
  split
  · rw [List.length_cons, List.length_append, ints_len, List.length_cons, ints_len]
    omega
  · rw [List.length_cons, List.length_append, ints_len, List.length_nil]
    omega
end
theorem big_line {n : Nat} (h : n ≤ 10000000) : n < sizeLine := Nat.lt_of_le_of_lt h (by decide)
theorem BoxAt.found {C f b : Addr} {H : Hp} {s : Sta} {xs : List V} (x : BoxAt C f H b s) : BoxAt C f (upd H f (.lst xs)) b s := by
  obtain ⟨dx, ls, lr, h⟩ := x
  exact ⟨dx, ls, lr, ⟨⟨xs, upd_same⟩, h.lsf, h.lrf, (upd_ne h.bf).trans h.ob, (upd_ne h.lsf).trans h.sl, (upd_ne h.lrf).trans h.rw⟩⟩
/-- between two turns: rest are the calls still to come -/
structure Turn (C : Addr) (H0 : Hp) (l : List Int) (b fl : Addr) (rest : List Cmd) (z : Int) (fs : List Int) (s : Sta) (H : Hp) : Prop where
  same : Same H0 H
  box : BoxAt C fl H b s
  list : H fl = some (.lst (iV fs))
  wf : WF s
  goes : MGoes s rest
  at_ : ∃ pre, l = pre ++ rest.flatMap Cmd.flat ∧ z = ((pre.length : Nat) : Int)
  sum : fs ++ PyFlat.told (mplay s rest) = PyKs191.answers l
def spAns (K : PySem.W.Frag) : Sp := fun vs H Q _ => ∃ (a : Addr) (l : List Int), vs = [.ref a] ∧ SqL K H a (iV l) ∧ PyKs191.answers_asked l = true ∧ ∀ H' p, H' p = some (.lst (iV (PyKs191.answers l))) → Q (.ref p) H'
section
variable {P : Program} {w : World} {K : PySem.W.Frag} {mg : Str → Option Value} {base : Heap} {C CA aN aW f : Addr} {fd : FuncData}
theorem sc_ans : FnScope ["calls", "box", "found", "at", "word", "here", "numbers", "row", "told"] ["calls"] (defScope sAnswers) := ⟨rfl, rfl, rfl, by decide +kernel, rfl, by decide +kernel, by decide +kernel⟩
theorem ok_ans (F : Fun K "answers" "answers" sAnswers f fd) (T : Txt K mg C CA aN aW) (GB : OkI P w K mg base 1 C ["self"] (spBInit C)) (GT : OkF P w K mg base 5 "told_by" ["box", "word", "numbers", "row"] (spTold C)) :
    FnOk P w K mg base CX0 6 f fd ["calls"] (spAns K) := by
  obtain ⟨fB, fdB, GB, mB, bB⟩ := GB
  obtain ⟨fT, fdT, GT, gT, kT, bT⟩ := GT
  refine F.ok sc_ans (fun vs H Q E h => ?_) (fun cdv A outer s H vs Q E hr h => ?_)
  · obtain ⟨a, l, rfl, _⟩ := h
    rfl
  · obtain ⟨a, l, rfl, hL, hask, k⟩ := h
    have hr2 : Room 2 _ := hr.mono (by decide)
    refine ⟨_, pss_cons (ps_set (i := 1) sc_ans.nd rfl (Or.inl rfl) (pe_make0 mB GB hr2 rfl T.gB bB .nil pass0))
      (pss_cons (ps_set (i := 2) sc_ans.nd rfl (Or.inl rfl) (pe_lst pa_nil))
      (pss_cons (ps_set (i := 3) sc_ans.nd rfl (Or.inl rfl) pe_int)
      (pss_cons (ps_while PassesOwn.never (pt_cmpR op_lt (pv 3) (pe_callB call_len_seq (by rfl) T.bLen PySem.boot_len (pa_cons (pv 0) pa_nil)) (nomark _))
        (pss_cons (ps_set (i := 4) sc_ans.nd rfl (Or.inl rfl) (pe_ix ix_list (pv 0) (pv 3) (fun _ _ => rfl)))
        (pss_cons (ps_set (i := 5) sc_ans.nd rfl (Or.inl rfl) (pe_op op_add (pe_op op_add (pv 3) pe_int) (pe_ix ix_tup (pe_glob (v := .ref aN) rfl T.gN rfl) (pv 4) (fun _ _ => rfl))))
        (pss_cons (ps_set (i := 6) sc_ans.nd rfl (Or.inl rfl) (pe_slice sl_list (pv 0) (po_some (pe_op op_add (pv 3) pe_int)) (po_some (pv 5))))
        (pss_cons (ps_set (i := 3) sc_ans.nd rfl (Or.inl rfl) (pv 5))
        (pss_cons (ps_set (i := 7) sc_ans.nd rfl (Or.inl rfl) (pe_lst pa_nil))
        (pss_cons (ps_if (pt_cmpR op_in_seq (pv 4) (pe_glob (v := .ref aW) rfl T.gW rfl) (by rfl))
          (pss_cons (ps_set (i := 3) sc_ans.nd rfl (Or.inl rfl) (pe_op op_add (pe_op op_add (pv 5) pe_int) (pe_ix ix_list (pv 0) (pv 5) (fun _ _ => rfl))))
          (pss_one (ps_set (i := 7) sc_ans.nd rfl (Or.inl rfl) (pe_slice sl_list (pv 0) (po_some (pe_op op_add (pv 5) pe_int)) (po_some (pv 3)))))) pss_nil)
        (pss_cons (ps_set (i := 8) sc_ans.nd rfl (Or.inl rfl) (pe_call GT hr rfl gT kT bT .nil pass0 (pa_cons (pv 1) (pa_cons (pv 4) (pa_cons (pv 6) (pa_cons (pv 7) pa_nil))))))
        (pss_cons (ps_expr (pe_bm PySem.F.plainAttrs_list PySem.F.slot_list_append PySem.F.type_list_append mt_append (pv 2) (pa_cons (pe_callB call_len_seq (by rfl) T.bLen PySem.boot_len (pa_cons (pv 8) pa_nil)) pa_nil)))
        (pss_one (ps_expr (pe_bm PySem.F.plainAttrs_list PySem.F.slot_list_extend PySem.F.type_list_extend mt_extend (pv 2) (pa_cons (pv 8) pa_nil)))))))))))))
      (pss_one (ps_ret (pv 2)))))), ?_⟩
    obtain ⟨ks, el, goes, sum, big⟩ := given_is hask
    -- box = Box(); found = []; at = 0
    intro b dx nb ndx neb
    refine ⟨b, dx, rfl, upd_same, fun H1 ls lr h1 h2 h3 hO => ⟨rfl, Nat.zero_le _, fun fl hfl => ?_⟩⟩
    have e1 : Same H H1 := Same.made nb ndx hO
    have nf0 : H fl = none := e1.free hfl
    refine ⟨fun m σ H' => ∃ (rest : List Cmd) (z : Int) (fs : List Int) (s : Sta) (v4 v5 v6 v7 v8 : Option V), m = rest.length ∧ σ = [some (.ref a), some (.ref b), some (.ref fl), some (.int z), v4, v5, v6, v7, v8] ∧ Turn C H l b fl rest z fs s H', ⟨_, ks, 0, [], Ks191Neutral.start, none, none, none, none, none, rfl, rfl, ?_⟩, ?_⟩
    · refine ⟨e1.trans (same_new hfl), ⟨dx, ls, lr, ⟨⟨[], upd_same⟩, ne_of_none h2 hfl, ne_of_none h3 hfl, same_new hfl _ _ h1, same_new hfl _ _ h2, same_new hfl _ _ h3⟩⟩, upd_same, wf_start, goes, ⟨[], el, rfl⟩, ?_⟩
      rw [List.nil_append]
      exact sum.symm
    · rintro m σ H' ⟨rest, z, fs, s, v4, v5, v6, v7, v8, rfl, rfl, t⟩
      refine ⟨_, rfl, _, rfl, a, _, rfl, .inl (t.same.seq hL), _, _, rfl, rfl, _, rfl, ?_⟩
      obtain ⟨pre, ep, ez⟩ := t.at_
      cases rest with
      | nil =>
        refine ifD_f ?_ ?_
        · rw [iV_length]
          rw [ep, List.flatMap_nil, List.append_nil]
          omega
        · have q := t.sum
          have e0 : PyFlat.told (mplay s []) = [] := rfl
          rw [e0, List.append_nil] at q
          exact ⟨_, rfl, k H' fl (by rw [← q]; exact t.list)⟩
      | cons c rest =>
        have lies : Lies l pre c (rest.flatMap Cmd.flat) := ⟨by rw [ep, List.flatMap_cons]⟩
        have flen := flat_len c
        have total : l.length = pre.length + (c.flat.length + (rest.flatMap Cmd.flat).length) := by rw [lies.eq, List.length_append, List.length_append]
        refine ifD_t ?_ ?_
        · rw [iV_length, total]
          omega
        have ok := t.goes.1
        have sqL := t.same.seq hL
        have nbz : ∀ q o, H q = some o → q ≠ b := fun q o e => ne_of_none e nb
        refine ⟨fun σ' H' => ∃ (z : Int) (fs : List Int) (s : Sta) (v4 v5 v6 v7 v8 : Option V), σ' = [some (.ref a), some (.ref b), some (.ref fl), some (.int z), v4, v5, v6, v7, v8] ∧ Turn C H l b fl rest z fs s H', ?_, ?_⟩
        · rintro σ' H2 ⟨z2, fs2, s2, w4, w5, w6, w7, w8, e, t2⟩
          exact ⟨rest.length, Nat.lt_succ_self _, rest, z2, fs2, s2, w4, w5, w6, w7, w8, rfl, e, t2⟩
        -- word, here, numbers, at, row = []
        refine ⟨_, rfl, _, rfl, a, _, _, _, rfl, rfl, sqL, lies.word ez, ?_⟩
        refine ⟨_, rfl, _, _, rfl, rfl, _, rfl, aN, _, _, _, rfl, rfl, T.iN _, num_at c, _, _, rfl, rfl, ?_⟩
        refine ⟨_, rfl, _, rfl, _, _, rfl, rfl, _, rfl, _, rfl, _, rfl, a, _, rfl, sqL, fun p5 hp5 => ?_⟩
        rw [lies.nums ez]
        have e5 := same_new hp5 (o := .lst (iV (Ks191Neutral.ints c.nums)))
        refine ⟨_, rfl, Nat.zero_le _, fun p6 hp6 => ?_⟩
        have e6 := e5.trans (same_new hp6 (o := .lst []))
        have hn6 := same_new hp6 (o := .lst []) _ _ upd_same
        have hB5 := t.box.same e6
        have hf5 := e6 _ _ t.list
        have nfb : fl ≠ b := by
          obtain ⟨dx5, ls5, lr5, q⟩ := hB5
          exact q.bf.symm
        refine ⟨_, rfl, aW, _, rfl, .inr (T.iW _), rfl, rfl, _, rfl, ?_⟩
        refine ite2 (fun hc => ?_) (fun hc => ?_)
        · have hr' : c.hasRow = true := (in_row c).symm.trans hc
          have ez2 : z + 1 + ((c.nums.length : Nat) : Int) = ((pre.length + 1 + c.nums.length : Nat) : Int) := by omega
          refine ⟨_, rfl, _, _, rfl, rfl, _, rfl, _, rfl, a, _, _, _, rfl, rfl, e6.seq sqL, lies.count hr' ez2, _, _, rfl, rfl, ?_⟩
          refine ⟨_, rfl, _, rfl, _, _, rfl, rfl, _, rfl, _, rfl, _, rfl, a, _, rfl, e6.seq sqL, fun p7 hp7 => ?_⟩
          rw [lies.row hr' ez2]
          have e7 := same_new hp7 (o := .lst (iV (Ks191Neutral.ints c.row)))
          have HF := e7 _ _ hf5
          have HS : Same H _ := t.same.trans (e6.trans e7)
          refine ⟨_, rfl, _, rfl, _, rfl, _, rfl, b, fl, p5, p7, s, c, _, rfl, rfl, hB5.same e7, t.wf, ok, e7 _ _ hn6, upd_same, (ne_of_none hf5 hp7).symm, fun H6 p hB6 hO6 hp hp' => ?_⟩
          obtain ⟨dx6, ls6, lr6, hB6i⟩ := id hB6
          have hf6 : H6 fl = some (.lst (iV fs)) := hO6 _ _ HF nfb
          have npf : p ≠ fl := (ne_of_none HF hp).symm
          have hsum : fs ++ ((((mstep s c).2.length : Nat) : Int) :: (mstep s c).2 ++ PyFlat.told (mplay (mstep s c).1 rest)) = PyKs191.answers l := t.sum
          have hlen : fs.length + (1 + (mstep s c).2.length + (PyFlat.told (mplay (mstep s c).1 rest)).length) ≤ 10000000 := by
            have q := congrArg List.length hsum
            rw [List.length_append, List.length_append, List.length_cons] at q
            omega
          refine ⟨_, rfl, .inl ⟨rfl, _, SqL.of hf6⟩, _, rfl, p, _, rfl, .inl (SqL.of hp'), fl, _, _, rfl, rfl, hf6, ?_, ?_⟩
          · rw [iV_length]
            exact big_line (by omega)
          refine ⟨_, rfl, .inl ⟨rfl, _, SqL.of upd_same⟩, _, rfl, fl, p, _, _, rfl, rfl, upd_same, (upd_ne npf).trans hp', ?_, ?_⟩
          · rw [List.length_append, iV_length, iV_length]
            show fs.length + 1 + (mstep s c).2.length ≤ sizeLine
            exact Nat.le_of_lt (big_line (by omega))
          refine ⟨_, fs ++ (((mstep s c).2.length : Nat) : Int) :: (mstep s c).2, (mstep s c).1, _, _, _, _, _, rfl, ⟨fun q o e => ?_, hB6.found.found, ?_, wf_step t.wf ok, t.goes.2, ?_, ?_⟩⟩
          · rw [upd_ne (ne_of_none e nf0), upd_ne (ne_of_none e nf0)]
            exact hO6 _ _ (HS _ _ e) (nbz _ _ e)
          · rw [upd_same, iV_length]
            refine congrArg (fun z => some (HO.lst z)) ?_
            rw [iV_app, List.append_assoc]
            rfl
          · exact ⟨pre ++ c.flat, by rw [lies.eq, List.append_assoc], by rw [List.length_append, flen, if_pos hr']; omega⟩
          · rw [List.append_assoc]
            exact hsum
        · have hr' : c.hasRow = false := by
            cases q : c.hasRow with
            | false => rfl
            | true => exact absurd ((in_row c).trans q) hc
          have hw6 : (upd (upd H' p5 (.lst (iV (Ks191Neutral.ints c.nums)))) p6 (.lst [])) p6 = some (.lst (iV (Ks191Neutral.ints c.row))) := by
            rw [no_row hr', upd_same]
            rfl
          have HF := hf5
          have HS : Same H _ := t.same.trans e6
          refine ⟨_, rfl, _, rfl, _, rfl, _, rfl, b, fl, p5, p6, s, c, _, rfl, rfl, hB5, t.wf, ok, hn6, hw6, (ne_of_none (e5 _ _ t.list) hp6).symm, fun H6 p hB6 hO6 hp hp' => ?_⟩
          obtain ⟨dx6, ls6, lr6, hB6i⟩ := id hB6
          have hf6 : H6 fl = some (.lst (iV fs)) := hO6 _ _ HF nfb
          have npf : p ≠ fl := (ne_of_none HF hp).symm
          have hsum : fs ++ ((((mstep s c).2.length : Nat) : Int) :: (mstep s c).2 ++ PyFlat.told (mplay (mstep s c).1 rest)) = PyKs191.answers l := t.sum
          have hlen : fs.length + (1 + (mstep s c).2.length + (PyFlat.told (mplay (mstep s c).1 rest)).length) ≤ 10000000 := by
            have q := congrArg List.length hsum
            rw [List.length_append, List.length_append, List.length_cons] at q
            omega
          refine ⟨_, rfl, .inl ⟨rfl, _, SqL.of hf6⟩, _, rfl, p, _, rfl, .inl (SqL.of hp'), fl, _, _, rfl, rfl, hf6, ?_, ?_⟩
          · rw [iV_length]
            exact big_line (by omega)
          refine ⟨_, rfl, .inl ⟨rfl, _, SqL.of upd_same⟩, _, rfl, fl, p, _, _, rfl, rfl, upd_same, (upd_ne npf).trans hp', ?_, ?_⟩
          · rw [List.length_append, iV_length, iV_length]
            show fs.length + 1 + (mstep s c).2.length ≤ sizeLine
            exact Nat.le_of_lt (big_line (by omega))
          refine ⟨_, fs ++ (((mstep s c).2.length : Nat) : Int) :: (mstep s c).2, (mstep s c).1, _, _, _, _, _, rfl, ⟨fun q o e => ?_, hB6.found.found, ?_, wf_step t.wf ok, t.goes.2, ?_, ?_⟩⟩
          · rw [upd_ne (ne_of_none e nf0), upd_ne (ne_of_none e nf0)]
            exact hO6 _ _ (HS _ _ e) (nbz _ _ e)
          · rw [upd_same, iV_length]
            refine congrArg (fun z => some (HO.lst z)) ?_
            rw [iV_app, List.append_assoc]
            rfl
          · exact ⟨pre ++ c.flat, by rw [lies.eq, List.append_assoc], by rw [List.length_append, flen, if_neg (by rw [hr']; exact Bool.noConfusion)]; omega⟩
          · rw [List.append_assoc]
            exact hsum
end
end TT
namespace TT
open PySem PySem.Spec PyProof.Rows L2
/-! ### 13. What the top has written, gathered -/
section
variable {K : PySem.W.Frag} {h : Heap} {mg : Str → Option Value} {C f : Addr} {x qual : Str} {st : Stmt} {ps : List Str} {oc kV dc pm cd ct : Value} {od an : Option Addr} {sl : Array (Option Value)}
theorem hasF_mk (X : K.In h) (G : h.Ns mainGlobals mg) (a : PySem.W.nsIn K mainGlobals x = some (some (.ref f))) (l : K.lookup f = some ⟨oc, od, .func (PySem.W.fnOf x x (defArgs st) (defBody st) (defScope st) .none kV dc pm an cd ct), sl⟩)
    (c : PySem.W.codeIn K cd x = true) (k : PySem.W.keepIn K (.ref f) = true)
    (hb : ∀ (kV doc pm : Value) (an : Option Addr) (cdv ct : Value) (us : List Value), us.length = ps.length → bindArgs (PySem.W.fnOf x x (defArgs st) (defBody st) (defScope st) .none kV doc pm an cdv ct) ⟨us, []⟩ = pure (ps.zip us)) : HasF K mg x st ps := by
  have F := fun_mk (st := st) l c k
  exact ⟨f, _, F, PySem.W.mg_of X G a, k, F.binds hb⟩
theorem hasM_mk (a : PySem.W.findIn K (.ref C) x = some (some (.ref f))) (i : PySem.W.isFn K (.ref f) = true) (l : K.lookup f = some ⟨oc, od, .func (PySem.W.fnOf x qual (defArgs st) (defBody st) (defScope st) .none kV dc pm an cd ct), sl⟩)
    (c : PySem.W.codeIn K cd qual = true) (k : PySem.W.keepIn K (.ref f) = true)
    (hb : ∀ (kV doc pm : Value) (an : Option Addr) (cdv ct : Value) (us : List Value), us.length = ps.length → bindArgs (PySem.W.fnOf x qual (defArgs st) (defBody st) (defScope st) .none kV doc pm an cdv ct) ⟨us, []⟩ = pure (ps.zip us)) : HasM K C x qual st ps := by
  have F := fun_mk (st := st) l c k
  exact ⟨f, _, F, ⟨a, i, k⟩, F.binds hb⟩
theorem hasI_mk (m : PySem.W.makesIn K C = true) (kc : PySem.W.keepIn K (.ref C) = true) (a : PySem.W.findIn K (.ref C) "__init__" = some (some (.ref f))) (i : PySem.W.isFn K (.ref f) = true)
    (l : K.lookup f = some ⟨oc, od, .func (PySem.W.fnOf "__init__" qual (defArgs st) (defBody st) (defScope st) .none kV dc pm an cd ct), sl⟩) (c : PySem.W.codeIn K cd qual = true) (k : PySem.W.keepIn K (.ref f) = true)
    (hb : ∀ (kV doc pm : Value) (an : Option Addr) (cdv ct : Value) (us : List Value), us.length = ps.length → bindArgs (PySem.W.fnOf "__init__" qual (defArgs st) (defBody st) (defScope st) .none kV doc pm an cdv ct) ⟨us, []⟩ = pure (ps.zip us)) : HasI K C qual st ps := by
  have F := fun_mk (st := st) l c k
  exact ⟨f, _, F, ⟨m, a, i, kc⟩, F.binds hb⟩
theorem cls_mk (pg : PySem.W.plainGet K C Str.empty = true) (hd : PySem.W.hasDictIn K C = true) (po : PySem.W.plainOver K C = true) (sa : PySem.W.findIn K (.ref C) "__setattr__" = some (some (.builtin "object.__setattr__"))) : Cls K C := ⟨pg, hd, po, sa⟩
end
theorem txt_mk {K : PySem.W.Frag} {h : Heap} {mg : Str → Option Value} {C CA aN aW : Addr} (X : K.In h) (G : h.Ns mainGlobals mg)
    {odN odW : Option Addr} {slN slW : Array (Option Value)} {nN nW : Nat} {x0 x1 x2 x3 x4 x5 x6 x7 x8 y0 y1 y2 y3 t_kPRIME t_kWORDS t_kPADs t_kNT t_kNM t_kMT t_kMM t_kPT t_kPM t_kNAME t_kPADa t_kMARK t_kPASS t_kROW t_kOUT t_kNTH t_kNTB t_kTHE t_kNOT t_kSPO t_kLAST t_kMOST t_kMANY t_kNOB t_kSOM t_kLET : Tok}
    (aB : PySem.W.nsIn K mainGlobals "Box" = some (some (.ref C))) (aA : PySem.W.nsIn K mainGlobals "Asker" = some (some (.ref CA))) (cB : Cls K C) (cA : Cls K CA)
    (n_sealed : PySem.W.findIn K (.ref C) "sealed" = some none) (n_mark : PySem.W.findIn K (.ref C) "mark" = some none) (n_row : PySem.W.findIn K (.ref C) "row" = some none) (n_due : PySem.W.findIn K (.ref C) "due" = some none) (n_tries : PySem.W.findIn K (.ref C) "tries" = some none) (n_state : PySem.W.findIn K (.ref C) "state" = some none)
    (m_count : PySem.W.findIn K (.ref CA) "count" = some none) (m_asked : PySem.W.findIn K (.ref CA) "asked" = some none)
    (gN : PySem.W.nsIn K mainGlobals "NUMBERS" = some (some (.ref aN))) (lN : K.lookup aN = some ⟨.type "tuple", odN, .seq #[.int 1 x0, .int 1 x1, .int 1 x2, .int 1 x3, .int 1 x4, .int 1 x5, .int 1 x6, .int 3 x7, .int 0 x8] nN, slN⟩)
    (gW : PySem.W.nsIn K mainGlobals "WITH_ROW" = some (some (.ref aW))) (lW : K.lookup aW = some ⟨.type "tuple", odW, .seq #[.int 1 y0, .int 3 y1, .int 6 y2, .int 7 y3] nW, slW⟩)
    (bLen : PySem.W.nsIn K mainGlobals "len" = some none) (bRange : PySem.W.nsIn K mainGlobals "range" = some none) (bZip : PySem.W.nsIn K mainGlobals "zip" = some none) (bRev : PySem.W.nsIn K mainGlobals "reversed" = some none)
    (kPRIME : PySem.W.nsIn K mainGlobals "PRIME" = some (some (.int 2305843009213693951 t_kPRIME)))
    (kWORDS : PySem.W.nsIn K mainGlobals "WORDS" = some (some (.int 18446744073709551616 t_kWORDS)))
    (kPADs : PySem.W.nsIn K mainGlobals "PAD_signs" = some (some (.int 64 t_kPADs)))
    (kNT : PySem.W.nsIn K mainGlobals "NAME_TIMES" = some (some (.int 1000003 t_kNT)))
    (kNM : PySem.W.nsIn K mainGlobals "NAME_MORE" = some (some (.int 12345 t_kNM)))
    (kMT : PySem.W.nsIn K mainGlobals "MARK_TIMES" = some (some (.int 6364136223846793005 t_kMT)))
    (kMM : PySem.W.nsIn K mainGlobals "MARK_MORE" = some (some (.int 1442695040888963407 t_kMM)))
    (kPT : PySem.W.nsIn K mainGlobals "PASS_TIMES" = some (some (.int 2862933555777941757 t_kPT)))
    (kPM : PySem.W.nsIn K mainGlobals "PASS_MORE" = some (some (.int 3037000493 t_kPM)))
    (kNAME : PySem.W.nsIn K mainGlobals "NAME" = some (some (.int 1 t_kNAME)))
    (kPADa : PySem.W.nsIn K mainGlobals "PAD_asking" = some (some (.int 2 t_kPADa)))
    (kMARK : PySem.W.nsIn K mainGlobals "MARK" = some (some (.int 3 t_kMARK)))
    (kPASS : PySem.W.nsIn K mainGlobals "PASS" = some (some (.int 4 t_kPASS)))
    (kROW : PySem.W.nsIn K mainGlobals "OF_ROW" = some (some (.int 5 t_kROW)))
    (kOUT : PySem.W.nsIn K mainGlobals "OUT_OF_RANGE" = some (some (.int (-22) t_kOUT)))
    (kNTH : PySem.W.nsIn K mainGlobals "NOT_THERE" = some (some (.int (-2) t_kNTH)))
    (kNTB : PySem.W.nsIn K mainGlobals "NOT_THE_BOX" = some (some (.int (-13) t_kNTB)))
    (kTHE : PySem.W.nsIn K mainGlobals "THERE" = some (some (.int (-1) t_kTHE)))
    (kNOT : PySem.W.nsIn K mainGlobals "NO_TRIES" = some (some (.int (-28) t_kNOT)))
    (kSPO : PySem.W.nsIn K mainGlobals "SPOILT" = some (some (.int (-71) t_kSPO)))
    (kLAST : PySem.W.nsIn K mainGlobals "LAST_NUMBER" = some (some (.int 9999 t_kLAST)))
    (kMOST : PySem.W.nsIn K mainGlobals "MOST_TRIES" = some (some (.int 10 t_kMOST)))
    (kMANY : PySem.W.nsIn K mainGlobals "MANY" = some (some (.int 11 t_kMANY)))
    (kNOB : PySem.W.nsIn K mainGlobals "NOBODY" = some (some (.int 0 t_kNOB)))
    (kSOM : PySem.W.nsIn K mainGlobals "SOMEBODY" = some (some (.int 1 t_kSOM)))
    (kLET : PySem.W.nsIn K mainGlobals "LET_GO" = some (some (.int 2 t_kLET))) : Txt K mg C CA aN aW :=
  { cB := cB, cA := cA, nSealed := n_sealed, nMark := n_mark, nRow := n_row, nDue := n_due, nTries := n_tries, nState := n_state, nCount := m_count, nAsked := m_asked,
    gB := PySem.W.mg_of X G aB, gA := PySem.W.mg_of X G aA, gN := PySem.W.mg_of X G gN, gW := PySem.W.mg_of X G gW,
    iN := fun H => .inr ⟨_, _, _, lN, rfl, rfl, (by show 9 ≤ sizeLine; decide), .cons ⟨x0, rfl⟩ (.cons ⟨x1, rfl⟩ (.cons ⟨x2, rfl⟩ (.cons ⟨x3, rfl⟩ (.cons ⟨x4, rfl⟩ (.cons ⟨x5, rfl⟩ (.cons ⟨x6, rfl⟩ (.cons ⟨x7, rfl⟩ (.cons ⟨x8, rfl⟩ .nil))))))))⟩,
    iW := fun H => .inr ⟨_, _, _, lW, rfl, rfl, (by show 4 ≤ sizeLine; decide), .cons ⟨y0, rfl⟩ (.cons ⟨y1, rfl⟩ (.cons ⟨y2, rfl⟩ (.cons ⟨y3, rfl⟩ .nil)))⟩,
    bLen := PySem.W.mg_none_of X G bLen, bRange := PySem.W.mg_none_of X G bRange, bZip := PySem.W.mg_none_of X G bZip, bRev := PySem.W.mg_none_of X G bRev,
    kPRIME := ⟨_, PySem.W.mg_of X G kPRIME⟩, kWORDS := ⟨_, PySem.W.mg_of X G kWORDS⟩, kPADs := ⟨_, PySem.W.mg_of X G kPADs⟩, kNT := ⟨_, PySem.W.mg_of X G kNT⟩, kNM := ⟨_, PySem.W.mg_of X G kNM⟩, kMT := ⟨_, PySem.W.mg_of X G kMT⟩, kMM := ⟨_, PySem.W.mg_of X G kMM⟩, kPT := ⟨_, PySem.W.mg_of X G kPT⟩, kPM := ⟨_, PySem.W.mg_of X G kPM⟩, kNAME := ⟨_, PySem.W.mg_of X G kNAME⟩, kPADa := ⟨_, PySem.W.mg_of X G kPADa⟩, kMARK := ⟨_, PySem.W.mg_of X G kMARK⟩, kPASS := ⟨_, PySem.W.mg_of X G kPASS⟩, kROW := ⟨_, PySem.W.mg_of X G kROW⟩, kOUT := ⟨_, PySem.W.mg_of X G kOUT⟩, kNTH := ⟨_, PySem.W.mg_of X G kNTH⟩, kNTB := ⟨_, PySem.W.mg_of X G kNTB⟩, kTHE := ⟨_, PySem.W.mg_of X G kTHE⟩, kNOT := ⟨_, PySem.W.mg_of X G kNOT⟩, kSPO := ⟨_, PySem.W.mg_of X G kSPO⟩, kLAST := ⟨_, PySem.W.mg_of X G kLAST⟩, kMOST := ⟨_, PySem.W.mg_of X G kMOST⟩, kMANY := ⟨_, PySem.W.mg_of X G kMANY⟩, kNOB := ⟨_, PySem.W.mg_of X G kNOB⟩, kSOM := ⟨_, PySem.W.mg_of X G kSOM⟩, kLET := ⟨_, PySem.W.mg_of X G kLET⟩ }
/-- every def keeps its promise, from the texts alone -/
theorem all_ok {P : Program} {w : World} {K : PySem.W.Frag} {mg : Str → Option Value} {base : Heap} {C CA aN aW f : Addr} {fd : FuncData} (T : Txt K mg C CA aN aW)
    (h_nameOf : HasF K mg "name_of" sNameOf ["number"])
    (h_padOf : HasF K mg "pad_of" sPadOf ["y"])
    (h_markOf : HasF K mg "mark_of" sMarkOf ["y"])
    (h_passOf : HasF K mg "pass_of" sPassOf ["y"])
    (h_comes : HasF K mg "comes_to" sComesTo ["row", "x"])
    (h_padded : HasF K mg "padded" sPadded ["row", "pad"])
    (h_asked : HasF K mg "asked" sAsked ["box", "asker", "word", "numbers", "row"])
    (h_told : HasF K mg "told_by" sToldBy ["box", "word", "numbers", "row"])
    (h_aNote : HasM K CA "note" "Asker.note" sANote ["self", "thing"])
    (h_aName : HasM K CA "name" "Asker.name" sAName ["self", "number"])
    (h_aPad : HasM K CA "pad" "Asker.pad" sAPad ["self", "y"])
    (h_aMark : HasM K CA "ask_mark" "Asker.ask_mark" sAMark ["self", "y"])
    (h_aPass : HasM K CA "pass_told" "Asker.pass_told" sAPass ["self", "y"])
    (h_aRow : HasM K CA "new_row" "Asker.new_row" sARow ["self", "script"])
    (h_aTold : HasM K CA "told" "Asker.told" sATold ["self"])
    (h_bName : HasM K C "name" "Box.name" sBName ["self", "asker", "number"])
    (h_bSeal : HasM K C "seal" "Box.seal" sBSeal ["self", "asker", "y", "secret"])
    (h_bOpen : HasM K C "unseal" "Box.unseal" sBOpen ["self", "asker", "y"])
    (h_bSpoilt : HasM K C "is_spoilt" "Box.is_spoilt" sBSpoilt ["self"])
    (h_bBegin : HasM K C "begin" "Box.begin" sBBegin ["self", "asker", "x", "script"])
    (h_bTry : HasM K C "try_once" "Box.try_once" sBTry ["self", "x"])
    (h_bGo : HasM K C "let_go" "Box.let_go" sBGo ["self", "told"])
    (h_bPutBox : HasM K C "put_box" "Box.put_box" sBPutBox ["self", "mark", "sealed"])
    (h_bPutCo : HasM K C "put_counter" "Box.put_counter" sBPutCo ["self", "numbers", "row"])
    (h_bLook : HasM K C "look" "Box.look" sBLook ["self"])
    (h_aInit : HasI K CA "Asker.__init__" sAInit ["self"])
    (h_bInit : HasI K C "Box.__init__" sBInit ["self"])
    (Fm : Fun K "answers" "answers" sAnswers f fd) : FnOk P w K mg base CX0 6 f fd ["calls"] (spAns K) := by
  have o_nameOf : OkF P w K mg base 1 "name_of" ["number"] spNameOf := h_nameOf.ok fun _ _ F => ok_nameOf F T
  have o_padOf : OkF P w K mg base 1 "pad_of" ["y"] spPadOf := h_padOf.ok fun _ _ F => ok_padOf F T
  have o_markOf : OkF P w K mg base 1 "mark_of" ["y"] spMarkOf := h_markOf.ok fun _ _ F => ok_markOf F T
  have o_passOf : OkF P w K mg base 1 "pass_of" ["y"] spPassOf := h_passOf.ok fun _ _ F => ok_passOf F T
  have o_comes : OkF P w K mg base 1 "comes_to" ["row", "x"] spComes := h_comes.ok fun _ _ F => ok_comes F T
  have o_padded : OkF P w K mg base 1 "padded" ["row", "pad"] spPadded := h_padded.ok fun _ _ F => ok_padded F T
  have o_aInit : OkI P w K mg base 1 CA ["self"] (spAInit CA) := h_aInit.ok fun _ _ F => ok_aInit F T
  have o_aNote : OkM P w K mg base 1 CA "note" ["self", "thing"] (spNote CA) := h_aNote.ok fun _ _ F => ok_aNote F T
  have o_aName : OkM P w K mg base 2 CA "name" ["self", "number"] (spAInt CA 1 Ks191Neutral.given.name) := h_aName.ok fun _ _ F => ok_aName F T o_aNote o_nameOf
  have o_aPad : OkM P w K mg base 2 CA "pad" ["self", "y"] (spAPad CA) := h_aPad.ok fun _ _ F => ok_aPad F T o_aNote o_padOf
  have o_aMark : OkM P w K mg base 2 CA "ask_mark" ["self", "y"] (spAInt CA 3 Ks191Neutral.given.mark) := h_aMark.ok fun _ _ F => ok_aMark F T o_aNote o_markOf
  have o_aPass : OkM P w K mg base 2 CA "pass_told" ["self", "y"] (spAInt CA 4 Ks191Neutral.given.pass) := h_aPass.ok fun _ _ F => ok_aPass F T o_aNote o_passOf
  have o_aRow : OkM P w K mg base 2 CA "new_row" ["self", "script"] (spARow CA) := h_aRow.ok fun _ _ F => ok_aRow F T o_aNote
  have o_aTold : OkM P w K mg base 1 CA "told" ["self"] (spATold CA) := h_aTold.ok fun _ _ F => ok_aTold F T
  have o_bInit : OkI P w K mg base 1 C ["self"] (spBInit C) := h_bInit.ok fun _ _ F => ok_bInit F T
  have o_bName : OkM P w K mg base 3 C "name" ["self", "asker", "number"] (spBName C CA) := h_bName.ok fun _ _ F => ok_bName F T o_aName
  have o_bSeal : OkM P w K mg base 3 C "seal" ["self", "asker", "y", "secret"] (spBSeal C CA) := h_bSeal.ok fun _ _ F => ok_bSeal F T o_aPad o_aMark o_padded
  have o_bOpen : OkM P w K mg base 3 C "unseal" ["self", "asker", "y"] (spBOpen C CA) := h_bOpen.ok fun _ _ F => ok_bOpen F T o_aPad o_aMark o_aPass o_padded
  have o_bSpoilt : OkM P w K mg base 1 C "is_spoilt" ["self"] (spSpoilt C) := h_bSpoilt.ok fun _ _ F => ok_bSpoilt F T
  have o_bBegin : OkM P w K mg base 3 C "begin" ["self", "asker", "x", "script"] (spBBegin C CA) := h_bBegin.ok fun _ _ F => ok_bBegin F T o_bSpoilt o_aRow o_aPass o_comes
  have o_bTry : OkM P w K mg base 2 C "try_once" ["self", "x"] (spBTry C) := h_bTry.ok fun _ _ F => ok_bTry F T o_bSpoilt o_comes
  have o_bGo : OkM P w K mg base 2 C "let_go" ["self", "told"] (spBGo C) := h_bGo.ok fun _ _ F => ok_bGo F T o_bSpoilt
  have o_bPutBox : OkM P w K mg base 1 C "put_box" ["self", "mark", "sealed"] (spPutBox C) := h_bPutBox.ok fun _ _ F => ok_bPutBox F T
  have o_bPutCo : OkM P w K mg base 1 C "put_counter" ["self", "numbers", "row"] (spPutCo C) := h_bPutCo.ok fun _ _ F => ok_bPutCo F T
  have o_bLook : OkM P w K mg base 1 C "look" ["self"] (spLook C) := h_bLook.ok fun _ _ F => ok_bLook F T
  have o_asked : OkF P w K mg base 4 "asked" ["box", "asker", "word", "numbers", "row"] (spAsked C CA) := h_asked.ok fun _ _ F => ok_asked F T o_bName o_bSeal o_bOpen o_bBegin o_bTry o_bGo
  have o_told : OkF P w K mg base 5 "told_by" ["box", "word", "numbers", "row"] (spTold C) := h_told.ok fun _ _ F => ok_told F T o_bPutBox o_bPutCo o_bLook o_aInit o_asked o_aTold
  exact ok_ans Fm T o_bInit o_told
theorem end_mk {P : Program} {w : World} {K : PySem.W.Frag} {h : Heap} {mg : Str → Option Value} {fa C CA aN aW f : Addr} (X : K.In h) (G : h.Ns mainGlobals mg) (hfa : mg "answers" = some (.ref fa))
    {od an : Option Addr} {sl : Array (Option Value)} {oc kV dc pm cd ct : Value}
    (af : PySem.W.nsIn K mainGlobals "answers" = some (some (.ref f))) (lf : K.lookup f = some ⟨oc, od, .func (PySem.W.fnOf "answers" "answers" (defArgs sAnswers) (defBody sAnswers) (defScope sAnswers) .none kV dc pm an cd ct), sl⟩)
    (cf : PySem.W.codeIn K cd "answers" = true) (kf : PySem.W.keepIn K (.ref f) = true) (T : Txt K mg C CA aN aW)
    (h_nameOf : HasF K mg "name_of" sNameOf ["number"])
    (h_padOf : HasF K mg "pad_of" sPadOf ["y"])
    (h_markOf : HasF K mg "mark_of" sMarkOf ["y"])
    (h_passOf : HasF K mg "pass_of" sPassOf ["y"])
    (h_comes : HasF K mg "comes_to" sComesTo ["row", "x"])
    (h_padded : HasF K mg "padded" sPadded ["row", "pad"])
    (h_asked : HasF K mg "asked" sAsked ["box", "asker", "word", "numbers", "row"])
    (h_told : HasF K mg "told_by" sToldBy ["box", "word", "numbers", "row"])
    (h_aNote : HasM K CA "note" "Asker.note" sANote ["self", "thing"])
    (h_aName : HasM K CA "name" "Asker.name" sAName ["self", "number"])
    (h_aPad : HasM K CA "pad" "Asker.pad" sAPad ["self", "y"])
    (h_aMark : HasM K CA "ask_mark" "Asker.ask_mark" sAMark ["self", "y"])
    (h_aPass : HasM K CA "pass_told" "Asker.pass_told" sAPass ["self", "y"])
    (h_aRow : HasM K CA "new_row" "Asker.new_row" sARow ["self", "script"])
    (h_aTold : HasM K CA "told" "Asker.told" sATold ["self"])
    (h_bName : HasM K C "name" "Box.name" sBName ["self", "asker", "number"])
    (h_bSeal : HasM K C "seal" "Box.seal" sBSeal ["self", "asker", "y", "secret"])
    (h_bOpen : HasM K C "unseal" "Box.unseal" sBOpen ["self", "asker", "y"])
    (h_bSpoilt : HasM K C "is_spoilt" "Box.is_spoilt" sBSpoilt ["self"])
    (h_bBegin : HasM K C "begin" "Box.begin" sBBegin ["self", "asker", "x", "script"])
    (h_bTry : HasM K C "try_once" "Box.try_once" sBTry ["self", "x"])
    (h_bGo : HasM K C "let_go" "Box.let_go" sBGo ["self", "told"])
    (h_bPutBox : HasM K C "put_box" "Box.put_box" sBPutBox ["self", "mark", "sealed"])
    (h_bPutCo : HasM K C "put_counter" "Box.put_counter" sBPutCo ["self", "numbers", "row"])
    (h_bLook : HasM K C "look" "Box.look" sBLook ["self"])
    (h_aInit : HasI K CA "Asker.__init__" sAInit ["self"])
    (h_bInit : HasI K C "Box.__init__" sBInit ["self"]) :
    ∃ fd : FuncData, (∀ (s : Shared) (us : List Value), us.length = (["calls"] : List Str).length → BindsTo s fd ⟨us, []⟩ ((["calls"] : List Str).zip us)) ∧ ∀ base : Heap, K.In base → base.Ns mainGlobals mg → FnOk P w K mg base CX0 6 fa fd ["calls"] (spAns K) := by
  have e := hfa.symm.trans (PySem.W.mg_of X G af)
  cases e
  exact ⟨_, fun s us hu => match us, hu with | [_], _ => .of_eq rfl, fun base _ _ => all_ok T h_nameOf h_padOf h_markOf h_passOf h_comes h_padded h_asked h_told h_aNote h_aName h_aPad h_aMark h_aPass h_aRow h_aTold h_bName h_bSeal h_bOpen h_bSpoilt h_bBegin h_bTry h_bGo h_bPutBox h_bPutCo h_bLook h_aInit h_bInit (fun_mk (st := sAnswers) lf cf kf)⟩
end TT
open PySem PySem.W PyProof.Rows
set_option maxRecDepth 100000 in
set_option maxHeartbeats 8000000 in
theorem PySem.Challenge.cw_tentries_s01_answers_holds : PySem.Challenge.rw_tentries_s01_answers.Holds := by
  w_on; k_headS; (case hw => exact ⟨[.list [.int 8]], by decide +kernel, by decide +kernel⟩)
  k_fillS
  refine L2.walk_specK (r := PySem.Challenge.rw_tentries_s01_answers) (k := 6) (CX := L2.CX0) (ps := ["calls"]) (sp := TT.spAns) (by decide +kernel) rfl rfl ⟨rfl, by decide, by decide⟩ (fun w h Y => PySem.W.kIn_of Y) ?F ?S (fun _ _ _ _ z => z)
  case F =>
    intro w mg fa h Y KX G hmg
    refine' TT.end_mk KX G hmg ?af ?lf ?cf ?kf ?T ?h_nameOf ?h_padOf ?h_markOf ?h_passOf ?h_comes ?h_padded ?h_asked ?h_told ?h_aNote ?h_aName ?h_aPad ?h_aMark ?h_aPass ?h_aRow ?h_aTold ?h_bName ?h_bSeal ?h_bOpen ?h_bSpoilt ?h_bBegin ?h_bTry ?h_bGo ?h_bPutBox ?h_bPutCo ?h_bLook ?h_aInit ?h_bInit
    (case af => k_is); (case lf => k_is); (case cf => k_is); (case kf => k_is)
    case T =>
      refine' TT.txt_mk KX G ?aB ?aA ?cB ?cA ?n_sealed ?n_mark ?n_row ?n_due ?n_tries ?n_state ?m_count ?m_asked ?gN ?lN ?gW ?lW ?bLen ?bRange ?bZip ?bRev ?kPRIME ?kWORDS ?kPADs ?kNT ?kNM ?kMT ?kMM ?kPT ?kPM ?kNAME ?kPADa ?kMARK ?kPASS ?kROW ?kOUT ?kNTH ?kNTB ?kTHE ?kNOT ?kSPO ?kLAST ?kMOST ?kMANY ?kNOB ?kSOM ?kLET
      (case aB => k_is); (case aA => k_is)
      (case cB => refine' TT.cls_mk ?pg ?hd ?po ?sa; (case pg => k_is); (case hd => k_is); (case po => k_is); (case sa => k_is))
      (case cA => refine' TT.cls_mk ?pg ?hd ?po ?sa; (case pg => k_is); (case hd => k_is); (case po => k_is); (case sa => k_is))
      (case n_sealed => k_is); (case n_mark => k_is); (case n_row => k_is); (case n_due => k_is); (case n_tries => k_is); (case n_state => k_is); (case m_count => k_is); (case m_asked => k_is)
      (case gN => k_is); (case lN => k_is); (case gW => k_is); (case lW => k_is)
      (case bLen => k_is); (case bRange => k_is); (case bZip => k_is); (case bRev => k_is)
      (case kPRIME => k_is); (case kWORDS => k_is); (case kPADs => k_is); (case kNT => k_is); (case kNM => k_is); (case kMT => k_is); (case kMM => k_is); (case kPT => k_is); (case kPM => k_is); (case kNAME => k_is); (case kPADa => k_is); (case kMARK => k_is); (case kPASS => k_is); (case kROW => k_is); (case kOUT => k_is); (case kNTH => k_is); (case kNTB => k_is); (case kTHE => k_is); (case kNOT => k_is); (case kSPO => k_is); (case kLAST => k_is); (case kMOST => k_is); (case kMANY => k_is); (case kNOB => k_is); (case kSOM => k_is); (case kLET => k_is)
    (case h_nameOf => refine' TT.hasF_mk KX G ?a ?l ?c ?k (fun _ _ _ _ _ _ us hl => match us, hl with | [_], _ => rfl); (case a => k_is); (case l => k_is); (case c => k_is); (case k => k_is))
    (case h_padOf => refine' TT.hasF_mk KX G ?a ?l ?c ?k (fun _ _ _ _ _ _ us hl => match us, hl with | [_], _ => rfl); (case a => k_is); (case l => k_is); (case c => k_is); (case k => k_is))
    (case h_markOf => refine' TT.hasF_mk KX G ?a ?l ?c ?k (fun _ _ _ _ _ _ us hl => match us, hl with | [_], _ => rfl); (case a => k_is); (case l => k_is); (case c => k_is); (case k => k_is))
    (case h_passOf => refine' TT.hasF_mk KX G ?a ?l ?c ?k (fun _ _ _ _ _ _ us hl => match us, hl with | [_], _ => rfl); (case a => k_is); (case l => k_is); (case c => k_is); (case k => k_is))
    (case h_comes => refine' TT.hasF_mk KX G ?a ?l ?c ?k (fun _ _ _ _ _ _ us hl => match us, hl with | [_, _], _ => rfl); (case a => k_is); (case l => k_is); (case c => k_is); (case k => k_is))
    (case h_padded => refine' TT.hasF_mk KX G ?a ?l ?c ?k (fun _ _ _ _ _ _ us hl => match us, hl with | [_, _], _ => rfl); (case a => k_is); (case l => k_is); (case c => k_is); (case k => k_is))
    (case h_asked => refine' TT.hasF_mk KX G ?a ?l ?c ?k (fun _ _ _ _ _ _ us hl => match us, hl with | [_, _, _, _, _], _ => rfl); (case a => k_is); (case l => k_is); (case c => k_is); (case k => k_is))
    (case h_told => refine' TT.hasF_mk KX G ?a ?l ?c ?k (fun _ _ _ _ _ _ us hl => match us, hl with | [_, _, _, _], _ => rfl); (case a => k_is); (case l => k_is); (case c => k_is); (case k => k_is))
    (case h_aNote => refine' TT.hasM_mk ?a ?i ?l ?c ?k (fun _ _ _ _ _ _ us hl => match us, hl with | [_, _], _ => rfl); (case a => k_is); (case i => k_is); (case l => k_is); (case c => k_is); (case k => k_is))
    (case h_aName => refine' TT.hasM_mk ?a ?i ?l ?c ?k (fun _ _ _ _ _ _ us hl => match us, hl with | [_, _], _ => rfl); (case a => k_is); (case i => k_is); (case l => k_is); (case c => k_is); (case k => k_is))
    (case h_aPad => refine' TT.hasM_mk ?a ?i ?l ?c ?k (fun _ _ _ _ _ _ us hl => match us, hl with | [_, _], _ => rfl); (case a => k_is); (case i => k_is); (case l => k_is); (case c => k_is); (case k => k_is))
    (case h_aMark => refine' TT.hasM_mk ?a ?i ?l ?c ?k (fun _ _ _ _ _ _ us hl => match us, hl with | [_, _], _ => rfl); (case a => k_is); (case i => k_is); (case l => k_is); (case c => k_is); (case k => k_is))
    (case h_aPass => refine' TT.hasM_mk ?a ?i ?l ?c ?k (fun _ _ _ _ _ _ us hl => match us, hl with | [_, _], _ => rfl); (case a => k_is); (case i => k_is); (case l => k_is); (case c => k_is); (case k => k_is))
    (case h_aRow => refine' TT.hasM_mk ?a ?i ?l ?c ?k (fun _ _ _ _ _ _ us hl => match us, hl with | [_, _], _ => rfl); (case a => k_is); (case i => k_is); (case l => k_is); (case c => k_is); (case k => k_is))
    (case h_aTold => refine' TT.hasM_mk ?a ?i ?l ?c ?k (fun _ _ _ _ _ _ us hl => match us, hl with | [_], _ => rfl); (case a => k_is); (case i => k_is); (case l => k_is); (case c => k_is); (case k => k_is))
    (case h_bName => refine' TT.hasM_mk ?a ?i ?l ?c ?k (fun _ _ _ _ _ _ us hl => match us, hl with | [_, _, _], _ => rfl); (case a => k_is); (case i => k_is); (case l => k_is); (case c => k_is); (case k => k_is))
    (case h_bSeal => refine' TT.hasM_mk ?a ?i ?l ?c ?k (fun _ _ _ _ _ _ us hl => match us, hl with | [_, _, _, _], _ => rfl); (case a => k_is); (case i => k_is); (case l => k_is); (case c => k_is); (case k => k_is))
    (case h_bOpen => refine' TT.hasM_mk ?a ?i ?l ?c ?k (fun _ _ _ _ _ _ us hl => match us, hl with | [_, _, _], _ => rfl); (case a => k_is); (case i => k_is); (case l => k_is); (case c => k_is); (case k => k_is))
    (case h_bSpoilt => refine' TT.hasM_mk ?a ?i ?l ?c ?k (fun _ _ _ _ _ _ us hl => match us, hl with | [_], _ => rfl); (case a => k_is); (case i => k_is); (case l => k_is); (case c => k_is); (case k => k_is))
    (case h_bBegin => refine' TT.hasM_mk ?a ?i ?l ?c ?k (fun _ _ _ _ _ _ us hl => match us, hl with | [_, _, _, _], _ => rfl); (case a => k_is); (case i => k_is); (case l => k_is); (case c => k_is); (case k => k_is))
    (case h_bTry => refine' TT.hasM_mk ?a ?i ?l ?c ?k (fun _ _ _ _ _ _ us hl => match us, hl with | [_, _], _ => rfl); (case a => k_is); (case i => k_is); (case l => k_is); (case c => k_is); (case k => k_is))
    (case h_bGo => refine' TT.hasM_mk ?a ?i ?l ?c ?k (fun _ _ _ _ _ _ us hl => match us, hl with | [_, _], _ => rfl); (case a => k_is); (case i => k_is); (case l => k_is); (case c => k_is); (case k => k_is))
    (case h_bPutBox => refine' TT.hasM_mk ?a ?i ?l ?c ?k (fun _ _ _ _ _ _ us hl => match us, hl with | [_, _, _], _ => rfl); (case a => k_is); (case i => k_is); (case l => k_is); (case c => k_is); (case k => k_is))
    (case h_bPutCo => refine' TT.hasM_mk ?a ?i ?l ?c ?k (fun _ _ _ _ _ _ us hl => match us, hl with | [_, _, _], _ => rfl); (case a => k_is); (case i => k_is); (case l => k_is); (case c => k_is); (case k => k_is))
    (case h_bLook => refine' TT.hasM_mk ?a ?i ?l ?c ?k (fun _ _ _ _ _ _ us hl => match us, hl with | [_], _ => rfl); (case a => k_is); (case i => k_is); (case l => k_is); (case c => k_is); (case k => k_is))
    (case h_aInit => refine' TT.hasI_mk ?m ?kc ?a ?i ?l ?c ?k (fun _ _ _ _ _ _ us hl => match us, hl with | [_], _ => rfl); (case m => k_is); (case kc => k_is); (case a => k_is); (case i => k_is); (case l => k_is); (case c => k_is); (case k => k_is))
    (case h_bInit => refine' TT.hasI_mk ?m ?kc ?a ?i ?l ?c ?k (fun _ _ _ _ _ _ us hl => match us, hl with | [_], _ => rfl); (case m => k_is); (case kc => k_is); (case a => k_is); (case i => k_is); (case l => k_is); (case c => k_is); (case k => k_is))
  case S =>
    intro K H xs a hO hwi hask hx
    cases hx with
    | cons h1 h2 =>
      cases h2
      cases h1 with
      | lst hs ha =>
        have e := L2.ints_dw a.1 _ ha
        subst e
        exact ⟨_, a.1, rfl, hs, hask, fun H' p hp => .lst (L2.SqL.of hp) (L2.dw_ints _)⟩
#print axioms PySem.Challenge.cw_tentries_s01_answers_holds
