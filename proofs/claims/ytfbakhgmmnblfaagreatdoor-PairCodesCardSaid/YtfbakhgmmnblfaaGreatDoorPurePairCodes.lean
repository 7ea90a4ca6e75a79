/- For every number and all lists: what the walks of the law compute comes to true. -/
import Derived.Test.YtfbakhgmmnblfaaGreatDoorPPairCodesx7
namespace Go.Proofs.YtfbakhgmmnblfaaGreatDoor.Pure
open Go.RowKit Go.Proofs.YtfbakhgmmnblfaaGreatDoor.PPairCodes Go.Proofs.YtfbakhgmmnblfaaGreatDoorW.PrintWords Go.Proofs.YtfbakhgmmnblfaaGreatDoorW.PrintLast Go.Proofs.YtfbakhgmmnblfaaGreatDoorW.PrintMore

theorem inc {i m : Int} (h0 : 0 ≤ i) (h : i < m) (hm : m ≤ 17592186044416) : wrap64 (i + 1) = i + 1 := by unfold wrap64; omega

theorem word_loops (n : Int) (l : List Int) (hl : l.length ≤ 17592186044416) (d : Nat) : ∀ i : Int, 0 ≤ i → i ≤ l.length → (l.length : Int) - i = d →
    ∃ b, Ev (fun k => pair_isWord.l0 k n l l (l.length : Int) i) b ∧ Ev (fun k => cayleyref08_IsWord.l0 k n l i) b := by
  induction d with
  | zero =>
    intro i h0 h1 hd
    exact ⟨decide ((l.length : Int) ≤ 100000), Ev.step (fun k => by simp only [pair_isWord.l0]; rw [if_neg (by omega)]) (Ev.now _), Ev.step (fun k => by simp only [cayleyref08_IsWord.l0]; rw [if_neg (by omega)]) (Ev.now _)⟩
  | succ d ih =>
    intro i h0 h1 hd
    have hlt : i < (l.length : Int) := by omega
    by_cases a : rd l i < 0
    · exact ⟨false, Ev.step (fun k => by simp only [pair_isWord.l0]; rw [if_pos hlt, if_pos h0, if_pos hlt, if_pos a]) (Ev.now _), Ev.step (fun k => by simp only [cayleyref08_IsWord.l0]; rw [if_pos hlt, if_pos h0, if_pos a]) (Ev.now _)⟩
    by_cases b : rd l i ≥ n
    · exact ⟨false, Ev.step (fun k => by simp only [pair_isWord.l0]; rw [if_pos hlt, if_pos h0, if_pos hlt, if_neg a, if_pos b]) (Ev.now _), Ev.step (fun k => by simp only [cayleyref08_IsWord.l0]; rw [if_pos hlt, if_pos h0, if_neg a, if_pos b]) (Ev.now _)⟩
    obtain ⟨r, e1, e2⟩ := ih (i + 1) (by omega) (by omega) (by omega)
    exact ⟨r, Ev.step (fun k => by simp only [pair_isWord.l0]; rw [if_pos hlt, if_pos h0, if_pos hlt, if_neg a, if_neg b, inc h0 hlt (by omega)]) e1, Ev.step (fun k => by simp only [cayleyref08_IsWord.l0]; rw [if_pos hlt, if_pos h0, if_neg a, if_neg b, inc h0 hlt (by omega)]) e2⟩
theorem word (n : Int) (l : List Int) (hl : l.length ≤ 17592186044416) : ∃ b, Ev (fun k => pair_isWord.f k n l) b ∧ Ev (fun k => cayleyref08_IsWord.f k n l) b :=
  word_loops n l hl l.length 0 (by omega) (by omega) (by omega)

theorem at_some (n : Int) (l : List Int) {i : Int} (h0 : 0 ≤ i) : ∃ x, pair_at.f n l i = some x ∧ cayleyref08_at.f n l i = some x := by
  unfold pair_at.f cayleyref08_at.f
  split
  · first | exact ⟨_, rfl, rfl⟩ | (rw [if_pos h0]; exact ⟨_, rfl, rfl⟩)
  · exact ⟨_, rfl, rfl⟩

theorem code_loops (n : Int) (u v : List Int) (m : Int) (hu : (u.length : Int) ≤ m) (hv : (v.length : Int) ≤ m) (hm : m = u.length ∨ m = v.length) (hmm : m < 17592186044416) (d : Nat) : ∀ (i : Int) (out : List Int), 0 ≤ i → i ≤ m → m - i = d → (out.length : Int) = i →
    ∃ c, Ev (fun k => pair_Code.l0 k n u v out m i) (c, 0) ∧ Ev (fun k => cayleyref08_CodeOf.l0 k n u v out i) c ∧ (c.length : Int) = m := by
  induction d with
  | zero =>
    intro i out h0 h1 hd hout
    refine ⟨out, Ev.step (fun k => by simp only [pair_Code.l0]; rw [if_neg (by omega)]) (Ev.now _), Ev.step (fun k => by simp only [cayleyref08_CodeOf.l0]; rw [if_neg (by omega), decide_eq_false (by omega)]) (f := fun k => cayleyref08_CodeOf.j1 k n u v out i false) (Ev.step (fun k => by simp only [cayleyref08_CodeOf.j1]; rw [if_neg (by simp)]) (Ev.now _)), by omega⟩
  | succ d ih =>
    intro i out h0 h1 hd hout
    have h : i < m := by omega
    obtain ⟨x, x1, x2⟩ := at_some n u h0
    obtain ⟨y, y1, y2⟩ := at_some n v h0
    obtain ⟨c, e1, e2, e3⟩ := ih (i + 1) (out ++ [wrap64 ((wrap64 (x * (wrap64 (n + 1)))) + y)]) (by omega) (by omega) (by omega) (by simp; omega)
    refine ⟨c, Ev.step (fun k => ?_) e1, ?_, e3⟩
    · simp only [pair_Code.l0]
      rw [if_pos h, x1]
      simp only [Option.bind_some]
      rw [y1]
      simp only [Option.bind_some]
      rw [if_pos (by omega), inc h0 h (by omega)]
    · have j : Ev (fun k => cayleyref08_CodeOf.j1 k n u v out i true) c := Ev.step (fun k => by
        simp only [cayleyref08_CodeOf.j1]
        rw [if_pos trivial, x2]
        simp only [Option.bind_some]
        rw [y2]
        simp only [Option.bind_some]
        rw [if_pos (by omega), inc h0 h (by omega)]) e2
      by_cases a : i < (u.length : Int)
      · exact Ev.step (fun k => by simp only [cayleyref08_CodeOf.l0]; rw [if_pos a]) j
      · exact Ev.step (fun k => by simp only [cayleyref08_CodeOf.l0]; rw [if_neg a, decide_eq_true (by omega)]) j
theorem mx_facts (a b : Int) : a ≤ mx a b ∧ b ≤ mx a b ∧ (mx a b = a ∨ mx a b = b) := by
  unfold mx
  split <;> omega
theorem code_of (n : Int) (u v : List Int) (hu : u.length < 17592186044416) (hv : v.length < 17592186044416) : ∃ c, Ev (fun k => pair_Code.l0 k n u v [] (mx (u.length : Int) (v.length : Int)) 0) (c, 0) ∧ Ev (fun k => cayleyref08_CodeOf.f k n u v) c ∧ c.length < 17592186044416 := by
  obtain ⟨h1, h2, h3⟩ := mx_facts (u.length : Int) (v.length : Int)
  obtain ⟨c, e1, e2, e3⟩ := code_loops n u v _ h1 h2 h3 (by omega) (mx (u.length : Int) (v.length : Int)).toNat 0 [] (by omega) (by omega) (by omega) (by simp)
  exact ⟨c, e1, e2, by omega⟩

/-! ### what is checked first -/
theorem checked_bad (n : Int) (hn : n < 1 ∨ 16 < n) (ws : List (List Int)) : Ev (fun k => pair_checked.f k n true [] [] ws) 1 := by
  have j : Ev (fun k => pair_checked.j0 k n [] [] ws true) 1 := Ev.step (fun k => by simp only [pair_checked.j0]; rw [if_pos trivial]) (Ev.now _)
  by_cases a : n < 1
  · exact Ev.congr (fun k => by unfold pair_checked.f; rw [if_pos a]) j
  · exact Ev.congr (fun k => by unfold pair_checked.f; rw [if_neg a, if_pos (by omega)]) j
theorem checked_words (n : Int) (hn : 1 ≤ n) (hn' : n ≤ 16) (ws : List (List Int)) (r : Int) (h : Ev (fun k => pair_checked.l2 k n ws (ws.length : Int) 0) r) : Ev (fun k => pair_checked.f k n true [] [] ws) r := by
  have h1 : Ev (fun k => pair_checked.l1 k n ws [] 0 0) r := Ev.step (fun k => by simp only [pair_checked.l1]; rw [if_neg (by omega)]) h
  have h0 : Ev (fun k => pair_checked.l0 k n [] ws [] 0 0) r := Ev.step (fun k => by simp only [pair_checked.l0]; rw [if_neg (by omega)]; rfl) h1
  have j : Ev (fun k => pair_checked.j0 k n [] [] ws false) r := Ev.step (fun k => by simp only [pair_checked.j0]; rw [if_neg (by simp)]; rfl) h0
  exact Ev.congr (fun k => by unfold pair_checked.f; rw [if_neg (by omega), if_neg (by omega)]; rfl) j
theorem checked_none (n : Int) (hn : 1 ≤ n) (hn' : n ≤ 16) : Ev (fun k => pair_checked.f k n true [] [] []) 0 :=
  checked_words n hn hn' [] 0 (Ev.step (fun k => by simp only [pair_checked.l2]; rw [if_neg (by simp)]) (Ev.now _))
theorem checked_two (n : Int) (hn : 1 ≤ n) (hn' : n ≤ 16) (u v : List Int) {b c : Bool} (hb : Ev (fun k => pair_isWord.f k n u) b) (hc : Ev (fun k => pair_isWord.f k n v) c) :
    Ev (fun k => pair_checked.f k n true [] [] [u, v]) (if b = true then (if c = true then 0 else 1) else 1) := by
  refine checked_words n hn hn' [u, v] _ ?_
  have h2 : Ev (fun k => pair_checked.l2 k n [u, v] 2 2) 0 := Ev.step (fun k => by simp only [pair_checked.l2]; rw [if_neg (by omega)]) (Ev.now _)
  have h1 : Ev (fun k => pair_checked.l2 k n [u, v] 2 1) (if c = true then 0 else 1) := by
    refine Ev.step (f := fun k => (pair_isWord.f k n v).bind fun t => if t = true then pair_checked.l2 k n [u, v] 2 2 else some 1) (fun k => ?_) (Ev.bind hc ?_)
    · simp only [pair_checked.l2]
      rw [if_pos (by omega), if_pos (by omega), if_pos (by simp), show wrap64 (1 + 1) = 2 from (by unfold wrap64; omega)]
      rfl
    · cases c with
      | true => exact h2
      | false => exact Ev.now _
  refine Ev.step (f := fun k => (pair_isWord.f k n u).bind fun t => if t = true then pair_checked.l2 k n [u, v] 2 1 else some 1) (fun k => ?_) (Ev.bind hb ?_)
  · simp only [pair_checked.l2]
    rw [if_pos (by simp), if_pos (by omega), if_pos (by simp), show wrap64 (0 + 1) = 1 from (by unfold wrap64; omega)]
    rfl
  · cases b with
    | true => exact h1
    | false => exact Ev.now _

/-! ### Code -/
theorem code_bad (n : Int) (hn : n < 1 ∨ 16 < n) (u v : List Int) : Ev (fun k => pair_Code.f k n u v) ([], 1) ∧ Ev (fun k => cayleyref08_Code.f k n u v) ([], 1) := by
  refine ⟨Ev.bind (checked_bad n hn [u, v]) (Ev.now _), ?_⟩
  by_cases a : n < 1
  · exact Ev.congr (fun k => by unfold cayleyref08_Code.f; rw [if_pos a]) (Ev.now _)
  · exact Ev.congr (fun k => by unfold cayleyref08_Code.f; rw [if_neg a, if_pos (by omega)]) (Ev.now _)
theorem code_good (n : Int) (hn : 1 ≤ n) (hn' : n ≤ 16) (u v : List Int) (hu : u.length < 17592186044416) (hv : v.length < 17592186044416) : ∃ c e, Ev (fun k => pair_Code.f k n u v) (c, e) ∧ Ev (fun k => cayleyref08_Code.f k n u v) (c, e) ∧ c.length < 17592186044416 := by
  obtain ⟨b, b1, b2⟩ := word n u (by omega)
  obtain ⟨d, d1, d2⟩ := word n v (by omega)
  have hc := checked_two n hn hn' u v b1 d1
  have hr : ∀ {r : List Int × Int}, Ev (fun k => (cayleyref08_IsWord.f k n u).bind fun t140 => (if t140 = true then ((cayleyref08_IsWord.f k n v).bind fun t141 => (if t141 = true then ((cayleyref08_CodeOf.f k n u v).bind fun t142 => (some (t142, 0))) else (some (([] : List Int), 1)))) else (some (([] : List Int), 1)))) r → Ev (fun k => cayleyref08_Code.f k n u v) r := fun h =>
    Ev.congr (fun k => by unfold cayleyref08_Code.f; rw [if_neg (by omega), if_neg (by omega)]) h
  have bad : Ev (fun k => pair_checked.f k n true [] [] [u, v]) 1 → Ev (fun k => pair_Code.f k n u v) ([], 1) := fun h => Ev.bind h (Ev.now _)
  cases b with
  | false => exact ⟨[], 1, bad hc, hr (Ev.bind b2 (Ev.now _)), by simp⟩
  | true =>
    cases d with
    | false => exact ⟨[], 1, bad hc, hr (Ev.bind b2 (Ev.bind d2 (Ev.now _))), by simp⟩
    | true =>
      obtain ⟨c, c1, c2, c3⟩ := code_of n u v hu hv
      exact ⟨c, 0, Ev.bind hc c1, hr (Ev.bind b2 (Ev.bind d2 (Ev.bind c2 (Ev.now _)))), c3⟩

/-! ### Decode -/
theorem decode_bad (n : Int) (hn : n < 1 ∨ 16 < n) (s : List Int) : Ev (fun k => pair_Decode.f k n s) ([], [], 1) := Ev.bind (checked_bad n hn []) (Ev.now _)

/-- What both tell of a list: the same pair, or that there is none. -/
def Tells (s : List Int) (a : List Int × List Int × Int) (b : List Int × List Int × Bool) : Prop :=
  a.1.length < 17592186044416 ∧ a.2.1.length < 17592186044416 ∧ (s.length ≤ 100000 → (b.2.2 = true ∧ a.1 = b.1 ∧ a.2.1 = b.2.1 ∧ a.2.2 = 0) ∨ (b.2.2 = false ∧ a.1 = [] ∧ a.2.1 = [] ∧ a.2.2 = 80))

theorem decode_loops (n : Int) (hn : 1 ≤ n) (hn' : n ≤ 16) (s : List Int) (hs : s.length < 17592186044416) (d : Nat) : ∀ (i : Int) (u v : List Int), 0 ≤ i → i ≤ s.length → (s.length : Int) - i = d → (u.length : Int) ≤ i → (v.length : Int) ≤ i →
    ∃ a b, Ev (fun k => pair_Decode.l0 k n u v s (s.length : Int) i) a ∧ Ev (fun k => cayleyref08_Decoded.l0 k n s i u v false) b ∧ Tells s a b := by
  induction d with
  | zero =>
    intro i u v h0 h1 hd hu hv
    have r : Ev (fun k => cayleyref08_Decoded.l0 k n s i u v false) (u, v, true) := Ev.step (fun k => by simp only [cayleyref08_Decoded.l0]; rw [if_neg (by omega)]) (Ev.now _)
    by_cases a : (u.length : Int) > 100000
    · exact ⟨([], [], 80), _, Ev.step (fun k => by simp only [pair_Decode.l0]; rw [if_neg (by omega), if_pos a]) (Ev.now _), r, by simp, by simp, fun h => by omega⟩
    by_cases b : (v.length : Int) > 100000
    · exact ⟨([], [], 80), _, Ev.step (fun k => by simp only [pair_Decode.l0]; rw [if_neg (by omega), if_neg a, if_pos b]) (Ev.now _), r, by simp, by simp, fun h => by omega⟩
    exact ⟨(u, v, 0), _, Ev.step (fun k => by simp only [pair_Decode.l0]; rw [if_neg (by omega), if_neg a, if_neg b]) (Ev.now _), r, by simp only; omega, by simp only; omega, fun h => .inl ⟨rfl, rfl, rfl, rfl⟩⟩
  | succ d ih =>
    intro i u v h0 h1 hd hu hv
    have hlt : i < (s.length : Int) := by omega
    have hinc : wrap64 (i + 1) = i + 1 := inc h0 hlt (by omega)
    have fail : Tells s ([], [], 80) (u, v, false) := ⟨by simp, by simp, fun _ => .inr ⟨rfl, rfl, rfl, rfl⟩⟩
    have p1 : Ev (fun k => pair_Decode.j1 k n u v i (rd s i) s (s.length : Int) i true) ([], [], 80) := Ev.step (fun k => by simp only [pair_Decode.j1]; rw [if_pos trivial]) (Ev.now _)
    have r1 : Ev (fun k => cayleyref08_Decoded.j1 k n s i true u v false) (u, v, false) := Ev.step (fun k => by simp only [cayleyref08_Decoded.j1]; rw [if_pos trivial]) (Ev.now _)
    by_cases A : rd s i < 0
    · exact ⟨_, _, Ev.step (fun k => by simp only [pair_Decode.l0]; rw [if_pos hlt, if_pos h0, if_pos hlt, if_pos A]) p1, Ev.step (fun k => by simp only [cayleyref08_Decoded.l0]; rw [if_pos hlt, if_pos h0, if_pos A]) r1, fail⟩
    obtain ⟨t, t1, t2⟩ : ∃ t, pair_symbols.f n = some t ∧ cayleyref08_Symbols.f n = some t := ⟨_, rfl, rfl⟩
    suffices h : ∃ a b, Ev (fun k => pair_Decode.j1 k n u v i (rd s i) s (s.length : Int) i (decide (rd s i ≥ t))) a ∧ Ev (fun k => cayleyref08_Decoded.j1 k n s i (decide (rd s i ≥ t)) u v false) b ∧ Tells s a b by
      obtain ⟨a, b, e1, e2, e3⟩ := h
      exact ⟨a, b, Ev.step (fun k => by simp only [pair_Decode.l0]; rw [if_pos hlt, if_pos h0, if_pos hlt, if_neg A, t1]; rfl) e1, Ev.step (fun k => by simp only [cayleyref08_Decoded.l0]; rw [if_pos hlt, if_pos h0, if_neg A, t2]; rfl) e2, e3⟩
    by_cases B : rd s i ≥ t
    · rw [decide_eq_true B]
      exact ⟨_, _, p1, r1, fail⟩
    rw [decide_eq_false B]
    have hne : ¬ wrap64 (n + 1) = 0 := by unfold wrap64; omega
    generalize hX : wrap64 (Int.tdiv (rd s i) (wrap64 (n + 1))) = X
    generalize hY : Int.tmod (rd s i) (wrap64 (n + 1)) = Y
    have J : ∀ f : Bool, ∃ a b, Ev (fun k => pair_Decode.j2 k n u v X Y s (s.length : Int) i f) a ∧ Ev (fun k => cayleyref08_Decoded.j2 k n s i X Y f u v false) b ∧ Tells s a b := by
      intro f
      cases f with
      | true => exact ⟨_, _, Ev.step (fun k => by simp only [pair_Decode.j2]; rw [if_pos trivial]) (Ev.now _), Ev.step (fun k => by simp only [cayleyref08_Decoded.j2]; rw [if_pos trivial]) (Ev.now _), fail⟩
      | false =>
        by_cases x : X < n
        · by_cases y : Y < n
          · obtain ⟨a, b, e1, e2, e3⟩ := ih (i + 1) (u ++ [X]) (v ++ [Y]) (by omega) (by omega) (by omega) (by simp; omega) (by simp; omega)
            refine ⟨a, b, Ev.step (fun k => ?_) e1, Ev.step (fun k => ?_) e2, e3⟩
            · simp only [pair_Decode.j2]
              rw [if_neg (by simp), if_pos x, if_pos (by omega)]
              simp only [Option.bind_some]
              rw [if_pos y, if_pos (by omega), hinc]
            · simp only [cayleyref08_Decoded.j2]
              rw [if_neg (by simp), if_pos x, if_pos (by omega)]
              simp only [Option.bind_some]
              rw [if_pos y, if_pos (by omega), hinc]
          · obtain ⟨a, b, e1, e2, e3⟩ := ih (i + 1) (u ++ [X]) v (by omega) (by omega) (by omega) (by simp; omega) (by omega)
            refine ⟨a, b, Ev.step (fun k => ?_) e1, Ev.step (fun k => ?_) e2, e3⟩
            · simp only [pair_Decode.j2]
              rw [if_neg (by simp), if_pos x, if_pos (by omega)]
              simp only [Option.bind_some]
              rw [if_neg y, hinc]
            · simp only [cayleyref08_Decoded.j2]
              rw [if_neg (by simp), if_pos x, if_pos (by omega)]
              simp only [Option.bind_some]
              rw [if_neg y, hinc]
        · by_cases y : Y < n
          · obtain ⟨a, b, e1, e2, e3⟩ := ih (i + 1) u (v ++ [Y]) (by omega) (by omega) (by omega) (by omega) (by simp; omega)
            refine ⟨a, b, Ev.step (fun k => ?_) e1, Ev.step (fun k => ?_) e2, e3⟩
            · simp only [pair_Decode.j2]
              rw [if_neg (by simp), if_neg x, if_pos y, if_pos (by omega), hinc]
            · simp only [cayleyref08_Decoded.j2]
              rw [if_neg (by simp), if_neg x, if_pos y, if_pos (by omega), hinc]
          · obtain ⟨a, b, e1, e2, e3⟩ := ih (i + 1) u v (by omega) (by omega) (by omega) (by omega) (by omega)
            refine ⟨a, b, Ev.step (fun k => ?_) e1, Ev.step (fun k => ?_) e2, e3⟩
            · simp only [pair_Decode.j2]
              rw [if_neg (by simp), if_neg x, if_neg y, hinc]
            · simp only [cayleyref08_Decoded.j2]
              rw [if_neg (by simp), if_neg x, if_neg y, hinc]
    by_cases x : X < n
    · by_cases U : (u.length : Int) < i
      · obtain ⟨a, b, e1, e2, e3⟩ := J true
        refine ⟨a, b, Ev.step (fun k => ?_) e1, Ev.step (fun k => ?_) e2, e3⟩
        · simp only [pair_Decode.j1]
          rw [if_neg (by simp), if_neg hne, hX, hY, if_pos x, if_pos U]
        · simp only [cayleyref08_Decoded.j1]
          rw [if_neg (by simp), if_pos h0, if_pos hlt, if_neg hne, hX, hY, if_pos x, if_pos U]
      · by_cases y : Y < n
        · obtain ⟨a, b, e1, e2, e3⟩ := J (decide ((v.length : Int) < i))
          refine ⟨a, b, Ev.step (fun k => ?_) e1, Ev.step (fun k => ?_) e2, e3⟩
          · simp only [pair_Decode.j1]
            rw [if_neg (by simp), if_neg hne, hX, hY, if_pos x, if_neg U, if_pos y]
          · simp only [cayleyref08_Decoded.j1]
            rw [if_neg (by simp), if_pos h0, if_pos hlt, if_neg hne, hX, hY, if_pos x, if_neg U, if_pos y]
        · obtain ⟨a, b, e1, e2, e3⟩ := J false
          refine ⟨a, b, Ev.step (fun k => ?_) e1, Ev.step (fun k => ?_) e2, e3⟩
          · simp only [pair_Decode.j1]
            rw [if_neg (by simp), if_neg hne, hX, hY, if_pos x, if_neg U, if_neg y]
          · simp only [cayleyref08_Decoded.j1]
            rw [if_neg (by simp), if_pos h0, if_pos hlt, if_neg hne, hX, hY, if_pos x, if_neg U, if_neg y]
    · by_cases y : Y < n
      · obtain ⟨a, b, e1, e2, e3⟩ := J (decide ((v.length : Int) < i))
        refine ⟨a, b, Ev.step (fun k => ?_) e1, Ev.step (fun k => ?_) e2, e3⟩
        · simp only [pair_Decode.j1]
          rw [if_neg (by simp), if_neg hne, hX, hY, if_neg x, if_pos y]
        · simp only [cayleyref08_Decoded.j1]
          rw [if_neg (by simp), if_pos h0, if_pos hlt, if_neg hne, hX, hY, if_neg x, if_pos y]
      · obtain ⟨a, b, e1, e2, e3⟩ := J false
        refine ⟨a, b, Ev.step (fun k => ?_) e1, Ev.step (fun k => ?_) e2, e3⟩
        · simp only [pair_Decode.j1]
          rw [if_neg (by simp), if_neg hne, hX, hY, if_neg x, if_neg y]
        · simp only [cayleyref08_Decoded.j1]
          rw [if_neg (by simp), if_pos h0, if_pos hlt, if_neg hne, hX, hY, if_neg x, if_neg y]
theorem decode_good (n : Int) (hn : 1 ≤ n) (hn' : n ≤ 16) (s : List Int) (hs : s.length < 17592186044416) : ∃ a b, Ev (fun k => pair_Decode.f k n s) a ∧ Ev (fun k => cayleyref08_Decoded.f k n s) b ∧ Tells s a b := by
  obtain ⟨a, b, e1, e2, e3⟩ := decode_loops n hn hn' s hs s.length 0 [] [] (by omega) (by omega) (by omega) (by simp) (by simp)
  exact ⟨a, b, Ev.bind (checked_none n hn hn') e1, e2, e3⟩

/-! ### the lists are the same -/
theorem ints_loops (l : List Int) (hl : l.length < 17592186044416) (d : Nat) : ∀ i : Int, 0 ≤ i → i ≤ l.length → (l.length : Int) - i = d → Ev (fun k => cayleyref08_Ints.l0 k l l i) true := by
  induction d with
  | zero =>
    intro i h0 h1 hd
    exact Ev.step (fun k => by simp only [cayleyref08_Ints.l0]; rw [if_neg (by omega)]) (Ev.now _)
  | succ d ih =>
    intro i h0 h1 hd
    have hlt : i < (l.length : Int) := by omega
    exact Ev.step (fun k => by simp only [cayleyref08_Ints.l0]; rw [if_pos hlt, if_pos h0, if_pos hlt, if_pos trivial, inc h0 hlt (by omega)]) (ih (i + 1) (by omega) (by omega) (by omega))
theorem ints (l : List Int) (hl : l.length < 17592186044416) : Ev (fun k => cayleyref08_Ints.f k l l) true :=
  Ev.congr (fun k => by unfold cayleyref08_Ints.f; rw [if_pos rfl]) (ints_loops l hl l.length 0 (by omega) (by omega) (by omega))

theorem PairCodes : cayleylaw08_PairCodes.Pure := by
  intro n u v s hn0 hu1 hu hu2 hv1 hv hv2 hs1 hs hs2
  refine Ev.rounds (r := true) ?_
  by_cases bad : n < 1 ∨ 16 < n
  · obtain ⟨c1, c2⟩ := code_bad n bad u v
    refine Ev.bind c1 (Ev.bind c2 (Ev.bind (decode_bad n bad s) ?_))
    have j : Ev (fun k => cayleylaw08_PairCodes.j0 k n s [] 1 [] 1 [] [] 1 true) true := Ev.step (fun k => by simp only [cayleylaw08_PairCodes.j0]; rfl) (Ev.now _)
    by_cases a : n < 1
    · exact Ev.congr (fun k => by rw [if_pos a]) j
    · exact Ev.congr (fun k => by rw [if_neg a, decide_eq_true (by omega)]) j
  · obtain ⟨c, e, c1, c2, c3⟩ := code_good n (by omega) (by omega) u v (by omega) (by omega)
    obtain ⟨⟨x, y, f⟩, ⟨p, q, b⟩, d1, d2, d3, d4, d5⟩ := decode_good n (by omega) (by omega) s (by omega)
    refine Ev.bind c1 (Ev.bind c2 (Ev.bind d1 ?_))
    refine Ev.congr (f := fun k => cayleylaw08_PairCodes.j0 k n s c e c e x y f false) (fun k => by rw [if_neg (by omega), decide_eq_false (by omega)]) ?_
    refine Ev.step (fun k => by simp only [cayleylaw08_PairCodes.j0]; rw [if_neg (by simp)]) (Ev.bind d2 ?_)
    by_cases L : (s.length : Int) > 100000
    · exact Ev.congr (fun k => by rw [if_pos L]; rfl) (Ev.now true)
    rcases d5 (by omega) with ⟨rfl, rfl, rfl, rfl⟩ | ⟨rfl, rfl, rfl, rfl⟩
    · refine Ev.congr (f := fun k => (cayleyref08_Ints.f k c c).bind fun t212 => (if t212 = true then ((cayleyref08_Ints.f k x x).bind fun t213 => (if t213 = true then ((cayleyref08_Ints.f k y y).bind fun t214 => (some t214)) else (some false))) else (some false))) (fun k => ?_) ?_
      · rw [if_neg L, if_pos rfl]
        simp only [cayleylaw08_sane.f, Option.bind_some, if_true]
      · exact Ev.bind (ints c c3) (Ev.bind (ints x d3) (Ev.bind (ints y d4) (Ev.now _)))
    · refine Ev.congr (f := fun k => (cayleyref08_Ints.f k c c).bind fun t210 => (if t210 = true then some true else (some false))) (fun k => ?_) ?_
      · rw [if_neg L, if_neg (by simp)]
        simp only [cayleylaw08_sane.f, Option.bind_some, if_true]
        rfl
      · exact Ev.bind (ints c c3) (Ev.now _)
end Go.Proofs.YtfbakhgmmnblfaaGreatDoor.Pure
