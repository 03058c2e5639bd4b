import PyProof.Rows.All
import Wide.All
import OpenK.AllK
import Wide.FinOn
import HandS.ForMost
import HandS.Flow
import HandS.IsInst
import HandS.CallLocal
import HandS.TupAny
import HandS.Conv
import HandS.Zip
import HandS.WrittenGet
import PySem.Challenge.RW_thenbeside_k30_whole_any_grounds
import HandS.Head0
import HandS.Head1
import HandS.Head2
import HandS.HeadEnd
import HandS.HeadHook1
import HandS.HeadHook2
import HandS.HeadHook3
import HandS.Defaults
import Lean
import HandS.HeadHook4
import HandS.Walk
import HandS.Codes
set_option Elab.async false
set_option linter.all false
set_option maxRecDepth 100000
set_option maxHeartbeats 0
/-! Plain mathematics: relations allowed, ways by steps, grounds. No program here. -/
namespace Mt
inductive R3 where
  | bef | bes | aft
  deriving DecidableEq
namespace R3
def opp : R3 → R3
  | bef => aft
  | bes => bes
  | aft => bef
end R3
def all3 : List R3 := [.bef, .bes, .aft]
theorem mem_all3 (r : R3) : r ∈ all3 := by cases r <;> decide
/-- a rule: two tasks and what is allowed -/
structure Rl where
  a : Int
  ws : List R3
  b : Int
/-- the program's opposites of some relations, in order -/
def opps (ws : List R3) : List R3 := all3.filter fun r => decide (r ∈ ws.map R3.opp)
theorem mem_opps {ws : List R3} {r : R3} : r ∈ opps ws ↔ r.opp ∈ ws := by
  unfold opps
  rw [List.mem_filter]
  constructor
  · rintro ⟨_, h⟩
    have h := of_decide_eq_true h
    obtain ⟨q, hq, e⟩ := List.mem_map.mp h
    have : r.opp = q := by subst e; cases q <;> rfl
    rw [this]; exact hq
  · intro h
    refine ⟨mem_all3 r, decide_eq_true (List.mem_map.mpr ⟨r.opp, h, by cases r <;> rfl⟩)⟩
/-- one rule's turn in the program -/
def turnA (x y : Int) (f : List R3) (r : Rl) : List R3 :=
  let f1 := if r.a = x ∧ r.b = y then f.filter (fun q => decide (q ∈ r.ws)) else f
  if r.a = y ∧ r.b = x then f1.filter (fun q => decide (q ∈ opps r.ws)) else f1
def allowed (rs : List Rl) (x y : Int) : List R3 := rs.foldl (turnA x y) all3
/-- one rule's turn in the law -/
def turnL (x y : Int) (f : List R3) (r : Rl) : List R3 :=
  let f1 := if r.a = x ∧ r.b = y then f.filter (fun q => decide (q ∈ r.ws)) else f
  if r.a = y ∧ r.b = x then f1.filter (fun q => decide (q.opp ∈ r.ws)) else f1
def allowedL (rs : List Rl) (x y : Int) : List R3 := rs.foldl (turnL x y) all3
theorem turn_eq (x y : Int) : turnA x y = turnL x y := by
  funext f r
  unfold turnA turnL
  have e : (fun q => decide (q ∈ opps r.ws)) = fun q => decide (q.opp ∈ r.ws) := by
    funext q
    exact decide_eq_decide.mpr mem_opps
  rw [e]
theorem allowed_eq (rs : List Rl) (x y : Int) : allowedL rs x y = allowed rs x y := by
  unfold allowed allowedL
  rw [turn_eq]
def ties (rs : List Rl) (x y : Int) : Bool := !decide (R3.bes ∈ allowed rs x y)
def bars (rs : List Rl) (x y : Int) : Bool := !decide (R3.bef ∈ allowed rs x y)
def barred (rs : List Rl) (x y : Int) : Bool := bars rs y x
/-! ### ways by steps within a set -/
inductive Rch (R : Int → Int → Bool) (cs : List Int) (t : Int) : Int → Prop where
  | here : Rch R cs t t
  | step {x y : Int} : Rch R cs t x → y ∈ cs → R x y = true → Rch R cs t y
theorem Rch.mem {R : Int → Int → Bool} {cs : List Int} {t x : Int} (h : Rch R cs t x) (ht : t ∈ cs) : x ∈ cs := by
  cases h with
  | here => exact ht
  | step _ m _ => exact m
theorem Rch.trans {R : Int → Int → Bool} {cs : List Int} {t x y : Int} (h : Rch R cs t x) (g : Rch R cs x y) : Rch R cs t y := by
  induction g with
  | here => exact h
  | step _ m r ih => exact .step ih m r
theorem Rch.back {R : Int → Int → Bool} {cs : List Int} {t x : Int} (h : Rch R cs t x) (ht : t ∈ cs) : Rch (fun a b => R b a) cs x t := by
  induction h with
  | here => exact .here
  | @step x y g m r ih => exact Rch.trans (.step .here (g.mem ht) r) ih
/-- what holds t and all steps of what it holds holds all that is reached -/
theorem Rch.closed {R : Int → Int → Bool} {cs fs : List Int} {t : Int} (ht : t ∈ fs) (hc : ∀ x ∈ fs, ∀ y ∈ cs, R x y = true → y ∈ fs) : ∀ x, Rch R cs t x → x ∈ fs := by
  intro x h
  induction h with
  | here => exact ht
  | step _ m r ih => exact hc _ ih _ m r
/-! ### lists without repetition -/
theorem nodup_len_le {α : Type} [DecidableEq α] : ∀ {l m : List α}, l.Nodup → (∀ x ∈ l, x ∈ m) → l.length ≤ m.length
  | [], _, _, _ => Nat.zero_le _
  | a :: l, m, hn, hs => by
    have ha : a ∈ m := hs a List.mem_cons_self
    have hn' := List.nodup_cons.mp hn
    have h := nodup_len_le (l := l) (m := m.erase a) hn'.2 fun x hx => by
      have : x ≠ a := fun e => hn'.1 (e ▸ hx)
      exact (List.mem_erase_of_ne this).mpr (hs x (List.mem_cons_of_mem _ hx))
    rw [List.length_erase_of_mem ha] at h
    have : 0 < m.length := List.length_pos_of_mem ha
    simp only [List.length_cons]
    omega
theorem nodup_full {α : Type} [DecidableEq α] {l m : List α} (hl : l.Nodup) (hs : ∀ x ∈ l, x ∈ m) (hlen : m.length ≤ l.length) : ∀ x ∈ m, x ∈ l := by
  intro x hx
  apply Classical.byContradiction
  intro hn
  have h := nodup_len_le (l := x :: l) (m := m) (List.nodup_cons.mpr ⟨hn, hl⟩) fun y hy => by
    rcases List.mem_cons.mp hy with rfl | hy
    · exact hx
    · exact hs y hy
  simp only [List.length_cons] at h
  omega
theorem nodup_len_eq {α : Type} [DecidableEq α] {l m : List α} (hl : l.Nodup) (hm : m.Nodup) (hs : ∀ x, x ∈ l ↔ x ∈ m) : l.length = m.length :=
  Nat.le_antisymm (nodup_len_le hl fun x h => (hs x).mp h) (nodup_len_le hm fun x h => (hs x).mpr h)
/-- fewer than all are in l exactly if one is not -/
theorem short_iff {α : Type} [DecidableEq α] {l m : List α} (hl : l.Nodup) (hm : m.Nodup) (hs : ∀ x ∈ l, x ∈ m) : l.length < m.length ↔ ¬ ∀ x ∈ m, x ∈ l := by
  constructor
  · intro h hall
    have := nodup_len_le hm hall
    omega
  · intro h
    apply Classical.byContradiction
    intro hn
    exact h (nodup_full hl hs (by omega))
/-! ### stuck -/
def Stuck (rs : List Rl) (cs : List Int) (c0 : Int) : Prop := (∀ c ∈ cs, Rch (ties rs) cs c0 c) ∧ ∀ t ∈ cs, ∀ c ∈ cs, Rch (bars rs) cs t c
theorem Stuck.back {rs : List Rl} {cs : List Int} {c0 : Int} (h : Stuck rs cs c0) (h0 : c0 ∈ cs) : ∀ c ∈ cs, Rch (barred rs) cs c0 c := fun c hc => (h.2 c hc c0 h0).back hc
/-! ### pairs that meet all tasks -/
def meets (R : Int → Int → Bool) (cs : List Int) : List (Int × Int) → List Int → Bool
  | [], met => decide (met.length = cs.length)
  | (h, o) :: ps, met => if ¬ h ∈ met ∨ o ∈ met ∨ ¬ o ∈ cs ∨ R h o = false then false else meets R cs ps (met ++ [o])
theorem meets_all {R : Int → Int → Bool} {cs : List Int} {c0 : Int} (hcs : cs.Nodup) : ∀ (ps : List (Int × Int)) (met : List Int), met.Nodup → (∀ x ∈ met, x ∈ cs) → (∀ x ∈ met, Rch R cs c0 x) → meets R cs ps met = true → ∀ c ∈ cs, Rch R cs c0 c
  | [], met, hn, hs, hr, h => fun c hc => hr c (nodup_full hn hs (Nat.le_of_eq (of_decide_eq_true h).symm) c hc)
  | (a, o) :: ps, met, hn, hs, hr, h => by
    unfold meets at h
    by_cases hq : ¬ a ∈ met ∨ o ∈ met ∨ ¬ o ∈ cs ∨ R a o = false
    · rw [if_pos hq] at h; exact absurd h (by decide)
    · rw [if_neg hq] at h
      have h1 : a ∈ met := Classical.byContradiction fun z => hq (.inl z)
      have h2 : ¬ o ∈ met := fun z => hq (.inr (.inl z))
      have h3 : o ∈ cs := Classical.byContradiction fun z => hq (.inr (.inr (.inl z)))
      have h4 : R a o = true := by
        cases e : R a o
        · exact absurd (.inr (.inr (.inr e))) hq
        · rfl
      refine meets_all hcs ps (met ++ [o]) ?_ ?_ ?_ h
      · rw [List.nodup_append]
        exact ⟨hn, by simp, fun x hx y hy => by
          rw [List.mem_singleton] at hy
          subst hy
          exact fun e => h2 (e ▸ hx)⟩
      · intro x hx
        rcases List.mem_append.mp hx with hx | hx
        · exact hs x hx
        · rw [List.mem_singleton] at hx; subst hx; exact h3
      · intro x hx
        rcases List.mem_append.mp hx with hx | hx
        · exact hr x hx
        · rw [List.mem_singleton] at hx; subst hx; exact .step (hr a h1) h3 h4
/-- all pairs of what meets are within cs -/
theorem meets_in {R : Int → Int → Bool} {cs : List Int} : ∀ (ps : List (Int × Int)) (met : List Int), (∀ x ∈ met, x ∈ cs) → meets R cs ps met = true → ∀ p ∈ ps, p.1 ∈ cs ∧ p.2 ∈ cs
  | [], _, _, _ => fun _ h => absurd h List.not_mem_nil
  | (a, o) :: ps, met, hs, h => by
    unfold meets at h
    by_cases hq : ¬ a ∈ met ∨ o ∈ met ∨ ¬ o ∈ cs ∨ R a o = false
    · rw [if_pos hq] at h; exact absurd h (by decide)
    · rw [if_neg hq] at h
      have h1 : a ∈ met := Classical.byContradiction fun z => hq (.inl z)
      have h3 : o ∈ cs := Classical.byContradiction fun z => hq (.inr (.inr (.inl z)))
      intro p hp
      rcases List.mem_cons.mp hp with rfl | hp
      · exact ⟨hs _ h1, h3⟩
      · exact meets_in ps (met ++ [o]) (fun x hx => by
          rcases List.mem_append.mp hx with hx | hx
          · exact hs x hx
          · rw [List.mem_singleton] at hx; subst hx; exact h3) h p hp
end Mt
/-! Trees of values in the heap, what stays of them, and small helpers. -/
namespace Tb
open PySem PySem.Spec PyProof.Rows L2 Mt
/-- the program's word for a relation -/
def sOf : R3 → Str
  | .bef => "before"
  | .bes => "beside"
  | .aft => "after"
theorem sOf_inj {p q : R3} (h : sOf p = sOf q) : p = q := by
  cases p <;> cases q <;> first | rfl | (exact absurd h (by decide +kernel))
/-- a tree of values: tuples all the way down; of a list nothing but that it is one -/
inductive T where
  | non | bl (b : Bool) | int (i : Int) | str (x : Str) | lst | tup (ts : List T)
mutual
inductive At (H : Hp) : V → T → Prop
  | non : At H .non .non
  | bl (b : Bool) : At H (.bl b) (.bl b)
  | int (i : Int) : At H (.int i) (.int i)
  | str (x : Str) : At H (.str x) (.str x)
  | lst {a : Addr} {xs : List V} (h : H a = some (.lst xs)) : At H (.ref a) .lst
  | tup {a : Addr} {xs : List V} {ts : List T} (h : H a = some (.tup xs)) (k : Ats H xs ts) : At H (.ref a) (.tup ts)
inductive Ats (H : Hp) : List V → List T → Prop
  | nil : Ats H [] []
  | cons {v : V} {t : T} {vs : List V} {ts : List T} (h : At H v t) (k : Ats H vs ts) : Ats H (v :: vs) (t :: ts)
end
/-- tuples stay, lists stay lists -/
structure Kp (H H' : Hp) : Prop where
  tup : ∀ a xs, H a = some (.tup xs) → H' a = some (.tup xs)
  lst : ∀ a xs, H a = some (.lst xs) → ∃ ys, H' a = some (.lst ys)
theorem Kp.of {H H' : Hp} (s : Same H H') : Kp H H' := ⟨fun a xs h => s a _ h, fun a xs h => ⟨xs, s a _ h⟩⟩
theorem Kp.trans {H H1 H2 : Hp} (a : Kp H H1) (b : Kp H1 H2) : Kp H H2 :=
  ⟨fun c xs h => b.tup c xs (a.tup c xs h), fun c xs h => by
    obtain ⟨ys, h1⟩ := a.lst c xs h
    exact b.lst c ys h1⟩
mutual
theorem At.keep {H H' : Hp} (k : Kp H H') : ∀ {v : V} {t : T}, At H v t → At H' v t
  | _, _, .non => .non
  | _, _, .bl b => .bl b
  | _, _, .int i => .int i
  | _, _, .str x => .str x
  | _, _, .lst h => by
    obtain ⟨ys, h1⟩ := k.lst _ _ h
    exact .lst h1
  | _, _, .tup h r => .tup (k.tup _ _ h) (Ats.keep k r)
theorem Ats.keep {H H' : Hp} (k : Kp H H') : ∀ {vs : List V} {ts : List T}, Ats H vs ts → Ats H' vs ts
  | _, _, .nil => .nil
  | _, _, .cons h r => .cons (At.keep k h) (Ats.keep k r)
end
theorem At.same {H H' : Hp} {v : V} {t : T} (h : At H v t) (s : Same H H') : At H' v t := h.keep (Kp.of s)
theorem Ats.same {H H' : Hp} {vs : List V} {ts : List T} (h : Ats H vs ts) (s : Same H H') : Ats H' vs ts := h.keep (Kp.of s)
theorem At.tup_inv {H : Hp} {a : Addr} {ts : List T} (h : At H (.ref a) (.tup ts)) : ∃ xs, H a = some (.tup xs) ∧ Ats H xs ts := by
  cases h with
  | tup h k => exact ⟨_, h, k⟩
theorem At.tup_ref {H : Hp} {v : V} {ts : List T} (h : At H v (.tup ts)) : ∃ a xs, v = .ref a ∧ H a = some (.tup xs) ∧ Ats H xs ts := by
  cases h with
  | tup h k => exact ⟨_, _, rfl, h, k⟩
theorem At.int_inv {H : Hp} {v : V} {i : Int} (h : At H v (.int i)) : v = .int i := by
  cases h
  rfl
theorem At.str_inv {H : Hp} {v : V} {x : Str} (h : At H v (.str x)) : v = .str x := by
  cases h
  rfl
theorem Ats.length {H : Hp} : ∀ {vs : List V} {ts : List T}, Ats H vs ts → vs.length = ts.length
  | _, _, .nil => rfl
  | _, _, .cons _ r => congrArg (· + 1) r.length
theorem Ats.get {H : Hp} : ∀ {vs : List V} {ts : List T} {i : Nat} {v : V}, Ats H vs ts → vs[i]? = some v → ∃ t, ts[i]? = some t ∧ At H v t
  | _, _, _, _, .nil, e => by simp at e
  | _, _, 0, _, .cons h _, e => by
    have e : _ = _ := Option.some.inj e
    subst e
    exact ⟨_, rfl, h⟩
  | _, _, i + 1, _, .cons _ r, e => Ats.get (i := i) r e
theorem Ats.get' {H : Hp} : ∀ {vs : List V} {ts : List T} {i : Nat} {t : T}, Ats H vs ts → ts[i]? = some t → ∃ v, vs[i]? = some v ∧ At H v t
  | _, _, _, _, .nil, e => by simp at e
  | _, _, 0, _, .cons h _, e => by
    have e : _ = _ := Option.some.inj e
    subst e
    exact ⟨_, rfl, h⟩
  | _, _, i + 1, _, .cons _ r, e => Ats.get' (i := i) r e
theorem Ats.one {H : Hp} {vs : List V} {a : T} (h : Ats H vs [a]) : ∃ x, vs = [x] ∧ At H x a := by
  cases h with
  | cons h r =>
    cases r
    exact ⟨_, rfl, h⟩
theorem Ats.two {H : Hp} {vs : List V} {a b : T} (h : Ats H vs [a, b]) : ∃ x y, vs = [x, y] ∧ At H x a ∧ At H y b := by
  cases h with
  | cons h r =>
    obtain ⟨y, rfl, hy⟩ := r.one
    exact ⟨_, y, rfl, h, hy⟩
theorem Ats.three {H : Hp} {vs : List V} {a b c : T} (h : Ats H vs [a, b, c]) : ∃ x y z, vs = [x, y, z] ∧ At H x a ∧ At H y b ∧ At H z c := by
  cases h with
  | cons h r =>
    obtain ⟨y, z, rfl, hy, hz⟩ := r.two
    exact ⟨_, y, z, rfl, h, hy, hz⟩
theorem Ats.ints {H : Hp} : ∀ {vs : List V} {cs : List Int}, Ats H vs (cs.map T.int) → vs = cs.map V.int
  | _, [], .nil => rfl
  | _, c :: cs, .cons h r => by
    rw [h.int_inv, Ats.ints r]
    rfl
theorem Ats.of_ints {H : Hp} : ∀ (cs : List Int), Ats H (cs.map V.int) (cs.map T.int)
  | [] => .nil
  | c :: cs => .cons (.int c) (Ats.of_ints cs)
theorem Ats.words {H : Hp} : ∀ {vs : List V} {ws : List R3}, Ats H vs (ws.map fun q => T.str (sOf q)) → vs = ws.map fun q => V.str (sOf q)
  | _, [], .nil => rfl
  | _, c :: cs, .cons h r => by
    rw [h.str_inv, Ats.words r]
    rfl
theorem Ats.of_words {H : Hp} : ∀ (ws : List R3), Ats H (ws.map fun q => V.str (sOf q)) (ws.map fun q => T.str (sOf q))
  | [] => .nil
  | c :: cs => .cons (.str _) (Ats.of_words cs)
theorem Ats.append {H : Hp} : ∀ {vs ws : List V} {ts us : List T}, Ats H vs ts → Ats H ws us → Ats H (vs ++ ws) (ts ++ us)
  | _, _, _, _, .nil, k => k
  | _, _, _, _, .cons h r, k => .cons h (Ats.append r k)
theorem Ats.take {H : Hp} : ∀ {vs : List V} {ts : List T} (n : Nat), Ats H vs ts → Ats H (vs.take n) (ts.take n)
  | _, _, 0, _ => .nil
  | _, _, _ + 1, .nil => .nil
  | _, _, n + 1, .cons h r => .cons h (Ats.take n r)
theorem Ats.drop {H : Hp} : ∀ {vs : List V} {ts : List T} (n : Nat), Ats H vs ts → Ats H (vs.drop n) (ts.drop n)
  | _, _, 0, k => k
  | _, _, _ + 1, .nil => .nil
  | _, _, n + 1, .cons _ r => Ats.drop n r
theorem Ats.reverse {H : Hp} : ∀ {vs : List V} {ts : List T}, Ats H vs ts → Ats H vs.reverse ts.reverse
  | _, _, .nil => .nil
  | _, _, .cons h r => by
    rw [List.reverse_cons, List.reverse_cons]
    exact r.reverse.append (.cons h .nil)
/-! ### heaps that grow -/
theorem Same.put {H0 H : Hp} {D : Addr} {o : HO} (s : Same H0 H) (n : H0 D = none) : Same H0 (upd H D o) := fun b u e => by
  rw [upd_ne (ne_of_none e n)]
  exact s b u e
theorem Same.new {H : Hp} {D : Addr} {o : HO} (n : H D = none) : Same H (upd H D o) := Same.put (Same.refl H) n
/-- all but s is as it was -/
def Sb (s : Addr) (H H' : Hp) : Prop := ∀ b o, b ≠ s → H b = some o → H' b = some o
theorem Sb.refl (s : Addr) (H : Hp) : Sb s H H := fun _ _ _ e => e
theorem Sb.of {s : Addr} {H H' : Hp} (k : Same H H') : Sb s H H' := fun b o _ e => k b o e
theorem Sb.trans {s : Addr} {H H1 H2 : Hp} (a : Sb s H H1) (b : Sb s H1 H2) : Sb s H H2 := fun c o n h => b c o n (a c o n h)
theorem Sb.put {s : Addr} {H0 H : Hp} {D : Addr} {o : HO} (k : Sb s H0 H) (n : H0 D = none) : Sb s H0 (upd H D o) := fun b u h e => by
  rw [upd_ne (ne_of_none e n)]
  exact k b u h e
/-! ### membership in flat lists -/
theorem inV_int (x : Int) : ∀ (cs : List Int), inV (.int x) (cs.map V.int) = decide (x ∈ cs)
  | [] => by simp [inV]
  | c :: cs => by
    have ih := inV_int x cs
    unfold inV at ih ⊢
    rw [List.map_cons, List.any_cons, ih]
    show ((c == x) || decide (x ∈ cs)) = decide (x ∈ c :: cs)
    by_cases h : c = x
    · subst h
      simp
    · have h1 : (c == x) = false := by simpa using h
      have h2 : ¬ x = c := fun e => h e.symm
      rw [h1, Bool.false_or]
      exact decide_eq_decide.mpr ⟨fun m => List.mem_cons_of_mem _ m, fun m => by
        rcases List.mem_cons.mp m with e | m
        · exact absurd e h2
        · exact m⟩
theorem inV_word (q : R3) : ∀ (ws : List R3), inV (.str (sOf q)) (ws.map fun r => V.str (sOf r)) = decide (q ∈ ws)
  | [] => by simp [inV]
  | c :: cs => by
    have ih := inV_word q cs
    unfold inV at ih ⊢
    rw [List.map_cons, List.any_cons, ih]
    show ((sOf c == sOf q) || decide (q ∈ cs)) = decide (q ∈ c :: cs)
    by_cases h : c = q
    · subst h
      simp
    · have h1 : (sOf c == sOf q) = false := by
        rw [beq_eq_false_iff_ne]
        exact fun e => h (sOf_inj e)
      have h2 : ¬ q = c := fun e => h e.symm
      rw [h1, Bool.false_or]
      exact decide_eq_decide.mpr ⟨fun m => List.mem_cons_of_mem _ m, fun m => by
        rcases List.mem_cons.mp m with e | m
        · exact absurd e h2
        · exact m⟩
theorem flat_ints (cs : List Int) : (cs.map V.int).all flatV = true := by
  rw [List.all_eq_true]
  intro x hx
  obtain ⟨c, _, rfl⟩ := List.mem_map.mp hx
  rfl
theorem flat_words (ws : List R3) : (ws.map fun r => V.str (sOf r)).all flatV = true := by
  rw [List.all_eq_true]
  intro x hx
  obtain ⟨c, _, rfl⟩ := List.mem_map.mp hx
  rfl
theorem get_map {α β : Type} {f : α → β} {l : List α} {i : Nat} {y : β} (h : (l.map f)[i]? = some y) : ∃ x, l[i]? = some x ∧ y = f x := by
  rw [List.getElem?_map] at h
  cases e : l[i]? with
  | none =>
    rw [e] at h
    cases h
  | some x =>
    rw [e] at h
    exact ⟨x, rfl, (Option.some.inj h).symm⟩
theorem take_more {α : Type} {l : List α} {i : Nat} {x : α} (h : l[i]? = some x) : l.take (i + 1) = l.take i ++ [x] := by
  rw [List.take_succ, h]
  rfl
/-- an if whose test is known -/
theorem iteTof {c : Bool} {A B : Prop} (hc : c = true) (h : A) : if c = true then A else B := by
  rw [if_pos hc]
  exact h
theorem iteFof {c : Bool} {A B : Prop} (hc : c = false) (h : B) : if c = true then A else B := by
  rw [hc, if_neg Bool.false_ne_true]
  exact h
/-! ### what the program's data are -/
def pairT (p : Int × Int) : T := .tup [.int p.1, .int p.2]
def rowT (r : List (Int × Int)) : T := .tup (r.map pairT)
def ruleT (r : Rl) : T := .tup [.int r.a, .tup (r.ws.map fun q => T.str (sOf q)), .int r.b]
def probT (n : Int) (rs : List Rl) : T := .tup [.int n, .tup (rs.map ruleT)]
def setT (cs : List Int) : T := .tup (cs.map T.int)
structure RlOk (n : Int) (r : Rl) : Prop where
  a0 : 0 ≤ r.a
  an : r.a < n
  b0 : 0 ≤ r.b
  bn : r.b < n
  ne : r.a ≠ r.b
  ws : r.ws = all3.filter fun q => decide (q ∈ r.ws)
  nn : r.ws ≠ []
structure ProbOk (n : Int) (rs : List Rl) : Prop where
  lo : 1 ≤ n
  hi : n ≤ 7
  len : rs.length ≤ 20
  ok : ∀ r ∈ rs, RlOk n r
structure SetOk (n : Int) (cs : List Int) : Prop where
  ne : cs ≠ []
  up : cs.Pairwise (· < ·)
  lo : ∀ c ∈ cs, 0 ≤ c
  hi : ∀ c ∈ cs, c < n
  len : cs.length ≤ 7
theorem SetOk.nodup {n : Int} {cs : List Int} (h : SetOk n cs) : cs.Nodup := h.up.imp fun h e => by omega
theorem mem_lit {x : V} {xs : List V} {i : Nat} (h : xs[i]? = some x) : x ∈ xs := List.mem_of_getElem? h
end Tb
/-! The text by places; defs by name; a def's call. -/
namespace Tb
open PySem PySem.Spec PyProof.Rows L2 Mt
def top (i : Nat) : Stmt := PySem.Challenge.pw_thenbeside_k30_whole_any_grounds.main.body.getD i (.Pass ⟨0, 0, 0, 0⟩)
/-- the def st, named x in the text, stands at the module's name y -/
structure DefAt (K : PySem.W.Frag) (mg : Str → Option Value) (y x : Str) (st : Stmt) : Prop where
  ex : ∃ fd, FunD K x x (defArgs st) (defBody st) (defScope st) [] [] (He.ga K y) fd
  g : mg y = some (.ref (He.ga K y))
/-- a def's promise, by the name under which it is called -/
structure Df (P : Program) (w : World) (K : PySem.W.Frag) (mg : Str → Option Value) (base : Heap) (k : Nat) (y : Str) (sp : Sp) : Prop where
  held : Held P w K mg base k (He.ga K y) sp
  g : mg y = some (.ref (He.ga K y))
section
variable {P : Program} {w : World} {K : PySem.W.Frag} {mg : Str → Option Value} {base : Heap}
theorem DefAt.ok {y x : Str} {st : Stmt} {N ps : List Str} {k : Nat} {sp : Sp} (F : DefAt K mg y x st) (S : FnScope N ps (defScope st))
    (hbd : ∀ (kV doc pm : Value) (an : Option Addr) (cdv ct : Value) (us : List Value), us.length = ps.length → bindArgs (PySem.W.fnOf x x (defArgs st) (defBody st) (defScope st) .none kV doc pm an cdv ct) ⟨us, []⟩ = pure (ps.zip us))
    (len : ∀ vs H Q E, sp vs H Q E → vs.length = ps.length)
    (hbody : ∀ (f : Addr) (cdv : Value) (A : Around) (outer : List Env) (s : Shared) (H : Hp) (vs : List V) (Q : VK) (E : XK), Room k (A.deeper (envOfC x (defScope st) s.heap.objs.size f cdv)) → sp vs H Q E →
      ∃ t, PSs (cxOf CX0 P w K mg base N x (defScope st) f cdv A outer s H E).nox (defBody st) t ∧ t { nx := fun _ H' => Q .non H', rt := Q } (start N vs) H) : Df P w K mg base (k + 1) y sp := by
  obtain ⟨fd, FD⟩ := F.ex
  have G : FnOk P w K mg base CX0 (k + 1) (He.ga K y) fd ps sp := FD.ok S len fun cdv A outer s H vs Q E hr h => by
    obtain ⟨t, h1, h2⟩ := hbody _ cdv A outer s H vs Q E hr h
    exact ⟨t, h1.nox, h2⟩
  exact ⟨⟨fd, ps, G, FD.kp, FD.bindsN hbd⟩, F.g⟩
end
section
variable {X : Cx} {k : Nat} {y : Str} {sp : Sp} {p pos : Pos} {e : Expr} {es : List Expr} {t : TA}
theorem pe_df (D : Df X.prog X.w X.K X.mg X.base k y sp) (hr : Room k X.A) (ha : PA X (e :: es) t) (hg : Gl X y := by rfl) (hdb : (y == ("__debug__" : Str)) = false := by decide)
    (he : starEach (e :: es) X.env = (false, eval e X.env) :: starEach es X.env := by rfl) (hpl : (backTo pos (starEach es X.env)).any (·.1) = false := by rfl) : PE X (.Call (.Name y p) (e :: es) [] pos) (tCall sp [] E0 t) := by
  obtain ⟨fd, ps, F, hk, hb⟩ := D.held.ex
  exact pe_call F hr hg D.g hk hb .nil pass0 ha hdb he hpl
/-- the def as a value -/
theorem pe_dv (g : X.mg y = some (.ref (He.ga X.K y))) (hg : Gl X y := by rfl) (hdb : (y == ("__debug__" : Str)) = false := by decide) : PE X (.Name y pos) (tC (.ref (He.ga X.K y))) := pe_glob hg g rfl (hd := hdb)
/-- a slot's def, called -/
theorem pe_held {i : Nat} {f : Addr} (D : Held X.prog X.w X.K X.mg X.base k f sp) (hr : Room k X.A) (ha : PA X (e :: es) t) (hN : X.N[i]? = some y := by rfl) (hv : Vis X.env.scope y := by first | exact Or.inl rfl | exact Or.inr (Or.inl rfl)) (hdb : (y == ("__debug__" : Str)) = false := by decide) (hcd : (y == ("__classdict__" : Str)) = false := by decide)
    (he : starEach (e :: es) X.env = (false, eval e X.env) :: starEach es X.env := by rfl) (hpl : (backTo pos (starEach es X.env)).any (·.1) = false := by rfl) : PE X (.Call (.Name y p) (e :: es) [] pos) (tCallL i f sp [] E0 t) := by
  obtain ⟨fd, ps, F, hk, hb⟩ := D.ex
  exact pe_callL F hr hN hv hk hb .nil pass0 ha hdb hcd he hpl
end
end Tb
/-! The head: facts by names, the top's run. -/
namespace Tb
open PySem PySem.Spec PyProof.Rows L2 Mt
def dd (y x : Str) (i : Nat) : He.DefD := ⟨(y, none), x, x, defArgs (top i), defBody (top i), defScope (top i), [], []⟩
def fnA : List He.DefD := [dd "opposite" "opposite" 5, dd "is_integer" "is_integer" 10, dd "is_task_rules" "is_task" 11, dd "is_allowed" "is_allowed" 13, dd "is_rule" "is_rule" 14, dd "is_size" "is_size" 15, dd "is_problem" "is_problem" 16, dd "opposites" "opposites" 17, dd "allowed_of" "allowed_of" 18, dd "is_task_sticking" "is_task" 20, dd "is_set" "is_set" 22, dd "check_problem" "check_problem" 23, dd "check_chosen" "check_chosen" 24, dd "ties" "ties" 25, dd "bars" "bars" 26, dd "reach" "reach" 27, dd "told_split" "told_split" 28, dd "stuck" "stuck" 29, dd "split_of" "split_of" 30, dd "is_barred" "is_barred" 32, dd "walked" "walked" 33, dd "grounds_for" "grounds_for" 34]
def fnB : List He.DefD := [dd "are_pairs" "are_pairs" 35, dd "meets_all" "meets_all" 36, dd "are_grounds" "are_grounds" 37, dd "accepts_grounds" "accepts_grounds" 38, dd "_law_stream" "_law_stream" 40, dd "_law_next" "_law_next" 41, dd "_law_is_integer" "_law_is_integer" 42, dd "_law_equal" "_law_equal" 43, dd "_law_problem" "_law_problem" 44, dd "_law_allowed" "_law_allowed" 45, dd "_law_table" "_law_table" 46, dd "_law_chosen" "_law_chosen" 47, dd "_law_meets" "_law_meets" 48, dd "_law_are_grounds" "_law_are_grounds" 49, dd "_law_drawn" "_law_drawn" 50, dd "_law_turned" "_law_turned" 51, dd "law" "law" 52]
def faA : List He.Fa := [.glo "opposite", .glo "is_integer", .glo "is_task_rules", .glo "is_allowed", .glo "is_rule", .glo "is_size", .glo "is_problem", .glo "opposites", .glo "allowed_of", .glo "is_task_sticking", .glo "is_set", .glo "check_problem", .glo "check_chosen", .glo "ties", .glo "bars", .glo "reach", .glo "told_split", .glo "stuck", .glo "split_of", .glo "is_barred", .glo "walked", .glo "grounds_for"]
def faB : List He.Fa := [.glo "are_pairs", .glo "meets_all", .glo "are_grounds", .glo "accepts_grounds", .glo "_law_stream", .glo "_law_next", .glo "_law_is_integer", .glo "_law_equal", .glo "_law_problem", .glo "_law_allowed", .glo "_law_table", .glo "_law_chosen", .glo "_law_meets", .glo "_law_are_grounds", .glo "_law_drawn", .glo "_law_turned", .glo "law"]
def faC : List He.Fa := [.free "isinstance", .free "int", .free "bool", .free "str", .free "tuple", .free "list", .free "len", .free "all", .free "zip", .free "range", .free "sorted", .free "abs", .int "MOST_TASKS" 7, .int "MOST_RULES" 20, .glo "RELATIONS", .glo "OPPOSITES"]
def looseA : List PySem.Str := ["PlanError", "BadValue", "OPPOSITES", "opposite", "MOST_TASKS", "MOST_RULES", "RELATIONS", "is_integer", "is_task", "is_task_rules", "is_allowed", "is_rule", "is_size", "is_problem", "opposites", "allowed_of", "is_task_sticking", "is_set", "check_problem", "check_chosen", "ties", "bars", "reach", "told_split"]
def looseB : List PySem.Str := ["stuck", "split_of", "is_barred", "walked", "grounds_for", "are_pairs", "meets_all", "are_grounds", "accepts_grounds", "_law_stream", "_law_next", "_law_is_integer", "_law_equal", "_law_problem", "_law_allowed", "_law_table", "_law_chosen", "_law_meets", "_law_are_grounds", "_law_drawn", "_law_turned"]
def fn : List He.DefD := fnA ++ fnB
def fa : List He.Fa := faA ++ (faB ++ faC)
def ts : List He.Tab := [(fun K => He.ga K "OPPOSITES", ["before", "beside", "after", "same"])]
def ex (K : PySem.W.Frag) : Bool := He.tupB K "RELATIONS" [.str "before", .str "beside", .str "after"] && He.valsB K (He.ga K "OPPOSITES") [("before", .str "after"), ("beside", .str "beside"), ("after", .str "before")]
abbrev R : PySem.W.OpenRow := PySem.W.OpenLaw.row PySem.Challenge.rw_thenbeside_k30_whole_any_grounds
abbrev hk : PySem.W.Hook := He.hookX 4 fa fn ts [] ex
def ob (s : PySem.W.SharedT) : He.AlX := He.obsX 4 fa fn ts [] ex (HandSHeadRun.getT s)
theorem ob_eq (s : PySem.W.SharedT) : ob s = hk.obs s.abs := He.obsX_eq (HandSHeadRun.getT_eq s)
def RE (w : World) : Prop := HandSHeadRun.RunEq R (PySem.W.view R.prog [52]) hk ob 2400 (looseA ++ looseB) w
theorem runF (w : World) : RE (w.withFollow "special-get-raises" false) := by
  intro os
  kernel_rfl
theorem runT (w : World) : RE (w.withFollow "special-get-raises" true) := by
  intro os
  kernel_rfl
theorem run (w : World) : RE w := PySem.W.byRow2 "special-get-raises" (P := RE) runF runT w
end Tb
/-! What the top has written besides the defs; the smallest defs. -/
namespace Tb
open PySem PySem.Spec PyProof.Rows L2 Mt
structure Txt (w : World) (K : PySem.W.Frag) (mg : Str → Option Value) : Prop where
  isi : mg "isinstance" = none
  int : mg "int" = none
  bool : mg "bool" = none
  str : mg "str" = none
  tuple : mg "tuple" = none
  list : mg "list" = none
  len : mg "len" = none
  all : mg "all" = none
  zip : mg "zip" = none
  range : mg "range" = none
  sorted : mg "sorted" = none
  abs : mg "abs" = none
  mt : ∃ t, mg "MOST_TASKS" = some (.int 7 t)
  mr : ∃ t, mg "MOST_RULES" = some (.int 20 t)
  rel : mg "RELATIONS" = some (.ref (He.ga K "RELATIONS"))
  relT : ∀ H : Hp, SqT K H (He.ga K "RELATIONS") (all3.map fun q => V.str (sOf q))
  opp : mg "OPPOSITES" = some (.ref (He.ga K "OPPOSITES"))
  oppD : ∀ q : R3, KDct K w (He.ga K "OPPOSITES") (sOf q) (.str (sOf q.opp))
/-- the name of a tree's type -/
def tyN : T → String
  | .non => "NoneType"
  | .bl _ => "bool"
  | .int _ => "int"
  | .str _ => "str"
  | .lst => "list"
  | .tup _ => "tuple"
theorem At.ty {K : PySem.W.Frag} {H : Hp} {v : V} {t : T} (h : At H v t) : TyX K H v (.type (tyN t)) := by
  cases h with
  | non => exact .base .non
  | bl b => exact .base (.bl b)
  | int i => exact .base (.int i)
  | str x => exact .base (.str x)
  | lst h => exact .base (.lst h)
  | tup h _ => exact .base (.tup h)
def isIntN (s : String) : Bool := s = "int" || s = "bool"
def tInt : T → Bool
  | .int _ => true
  | .bl _ => true
  | _ => false
def tBool : T → Bool
  | .bl _ => true
  | _ => false
def tTup : T → Bool
  | .tup _ => true
  | _ => false
def tStr : T → Bool
  | .str _ => true
  | _ => false
def tLst : T → Bool
  | .lst => true
  | _ => false
theorem kit_int {K : PySem.W.Frag} (t : T) : PySem.W.kitOne K (.type (tyN t)) (.type "int") = some (tInt t) := by
  cases t <;> (refine kit_ty ?_; simp only [tyN, tInt]; decide +kernel)
theorem kit_bool {K : PySem.W.Frag} (t : T) : PySem.W.kitOne K (.type (tyN t)) (.type "bool") = some (tBool t) := by
  cases t <;> (refine kit_ty ?_; simp only [tyN, tBool]; decide +kernel)
theorem kit_tup {K : PySem.W.Frag} (t : T) : PySem.W.kitOne K (.type (tyN t)) (.type "tuple") = some (tTup t) := by
  cases t <;> (refine kit_ty ?_; simp only [tyN, tTup]; decide +kernel)
theorem kit_str {K : PySem.W.Frag} (t : T) : PySem.W.kitOne K (.type (tyN t)) (.type "str") = some (tStr t) := by
  cases t <;> (refine kit_ty ?_; simp only [tyN, tStr]; decide +kernel)
/-- isinstance(e, C), C a built-in class -/
def tIsi (K : PySem.W.Frag) (n : String) (te : TE) : TE := tCB (rIsi K) (tCons te (tCons (tC (.ty n)) tNil))
section
variable {X : Cx} {e : Expr} {te : TE} {p p2 pos : Pos}
theorem pe_isi {x : Str} {n : String} (hm : X.mg "isinstance" = none) (hx : X.mg x = none) (he : PE X e te) (hg : Gl X "isinstance" := by rfl) (hgx : Gl X x := by rfl) (hv : bootBuiltins x = some (.type n) := by decide +kernel)
    (hn : x ≠ "__name__" := by decide) (hd : (x == ("__debug__" : Str)) = false := by decide)
    (hq : starEach [e, .Name x p2] X.env = (false, eval e X.env) :: starEach [.Name x p2] X.env := by rfl) (hq2 : starEach [.Name x p2] X.env = (false, eval (.Name x p2) X.env) :: starEach [] X.env := by rfl)
    (hpl : (backTo pos (starEach [.Name x p2] X.env)).any (·.1) = false := by rfl) :
    PE X (.Call (.Name "isinstance" p) [e, .Name x p2] [] pos) (tIsi X.K n te) :=
  pe_callB call_isi hg hm (by decide +kernel) (pa_cons he (pa_cons (pe_bltn hgx hx hv rfl (hn := hn) (hd := hd)) pa_nil (hs := hq2)) (hs := hq)) (he := hq) (hpl := hpl)
end
/-- how its reading is answered -/
theorem isi_ok {K : PySem.W.Frag} {n : String} {te : TE} {σ : L2.St} {H : Hp} {Q : VK} {b : T → Bool} (kit : ∀ t, PySem.W.kitOne K (.type (tyN t)) (.type n) = some (b t)) (h : te σ H fun v H1 => ∃ t, At H1 v t ∧ Q (.bl (b t)) H1)
    (mono : ∀ (Q Q' : VK), (∀ v H1, Q v H1 → Q' v H1) → te σ H Q → te σ H Q') : tIsi K n te σ H Q :=
  mono _ _ (fun v H1 ⟨t, ha, q⟩ => ⟨v, .ty n, .type (tyN t), .type n, b t, rfl, .ty n, ha.ty, kit t, q⟩) h
end Tb
/-! is_integer, is_task (twice), is_size, _law_is_integer. -/
namespace Tb
open PySem PySem.Spec PyProof.Rows L2 Mt
theorem isi_var {K : PySem.W.Frag} {n : String} {i : Nat} {σ : L2.St} {H : Hp} {Q : VK} {v : V} {t : T} {b : Bool} (hs : σ[i]? = some (some v)) (ha : At H v t) (kit : PySem.W.kitOne K (.type (tyN t)) (.type n) = some b) (h : Q (.bl b) H) : tIsi K n (tVar i) σ H Q :=
  ⟨v, hs, v, .ty n, _, _, b, rfl, .ty n, ha.ty, kit, h⟩
def isInt : T → Bool
  | .int _ => true
  | _ => false
def isTask (n : Int) : T → Bool
  | .int i => decide (0 ≤ i) && decide (i < n)
  | _ => false
def spInt : Sp := fun vs H Q _ => ∃ v t, vs = [v] ∧ At H v t ∧ Q (.bl (isInt t)) H
def spTask : Sp := fun vs H Q _ => ∃ v t n, vs = [v, .int n] ∧ At H v t ∧ Q (.bl (isTask n t)) H
def spSize : Sp := fun vs H Q _ => ∃ n, vs = [.int n] ∧ 1 ≤ n ∧ n ≤ 7 ∧ Q (.bl true) H
section
variable {P : Program} {w : World} {K : PySem.W.Frag} {mg : Str → Option Value} {base : Heap}
theorem sc_int : FnScope ["value"] ["value"] (defScope (top 10)) := ⟨rfl, rfl, rfl, by decide +kernel, rfl, by decide +kernel, by decide +kernel⟩
/-- isinstance(value, int) and not isinstance(value, bool): the reading -/
theorem int_read {K : PySem.W.Frag} {σ : L2.St} {H : Hp} {Q : VK} {v : V} {t : T} (hs : σ[0]? = some (some v)) (ha : At H v t) (h : Q (.bl (isInt t)) H) : tAndV (tIsi K "int" (tVar 0)) (tNotV (tIsi K "bool" (tVar 0))) σ H Q := by
  refine isi_var hs ha (kit_int t) ⟨_, rfl, ?_⟩
  cases t with
  | int i =>
    refine iteT ?_
    exact isi_var hs ha (kit_bool _) ⟨_, rfl, h⟩
  | bl b =>
    refine iteT ?_
    exact isi_var hs ha (kit_bool _) ⟨_, rfl, h⟩
  | non => exact iteF h
  | str x => exact iteF h
  | lst => exact iteF h
  | tup ts => exact iteF h
theorem ok_int (T : Txt w K mg) (F : DefAt K mg "is_integer" "is_integer" (top 10)) : Df P w K mg base 1 "is_integer" spInt := by
  refine F.ok sc_int (fun _ _ _ _ _ _ us hl => match us, hl with | [_], _ => rfl) (fun vs H Q E h => ?_) (fun f cdv A outer s H vs Q E hr h => ?_)
  · obtain ⟨v, t, rfl, _⟩ := h
    rfl
  · obtain ⟨v, t, rfl, ha, k⟩ := h
    refine ⟨_, pss_one (ps_ret (pe_and (pe_isi (n := "int") T.isi T.int (pv 0)) (pe_one (pe_not (pe_isi (n := "bool") T.isi T.bool (pv 0)))))), ?_⟩
    exact int_read rfl ha k
theorem sc_lint : FnScope ["_law_actual"] ["_law_actual"] (defScope (top 42)) := ⟨rfl, rfl, rfl, by decide +kernel, rfl, by decide +kernel, by decide +kernel⟩
theorem ok_lint (T : Txt w K mg) (F : DefAt K mg "_law_is_integer" "_law_is_integer" (top 42)) : Df P w K mg base 1 "_law_is_integer" spInt := by
  refine F.ok sc_lint (fun _ _ _ _ _ _ us hl => match us, hl with | [_], _ => rfl) (fun vs H Q E h => ?_) (fun f cdv A outer s H vs Q E hr h => ?_)
  · obtain ⟨v, t, rfl, _⟩ := h
    rfl
  · obtain ⟨v, t, rfl, ha, k⟩ := h
    refine ⟨_, pss_one (ps_ret (pe_and (pe_isi (n := "int") T.isi T.int (pv 0)) (pe_one (pe_not (pe_isi (n := "bool") T.isi T.bool (pv 0)))))), ?_⟩
    exact int_read rfl ha k
theorem sc_task1 : FnScope ["value", "size"] ["value", "size"] (defScope (top 11)) := ⟨rfl, rfl, rfl, by decide +kernel, rfl, by decide +kernel, by decide +kernel⟩
theorem ok_task1 (F : DefAt K mg "is_task_rules" "is_task" (top 11)) (D : Df P w K mg base 1 "is_integer" spInt) : Df P w K mg base 2 "is_task_rules" spTask := by
  refine F.ok sc_task1 (fun _ _ _ _ _ _ us hl => match us, hl with | [_, _], _ => rfl) (fun vs H Q E h => ?_) (fun f cdv A outer s H vs Q E hr h => ?_)
  · obtain ⟨v, t, n, rfl, _⟩ := h
    rfl
  · obtain ⟨v, t, n, rfl, ha, k⟩ := h
    refine ⟨_, pss_one (ps_ret (pe_and (pe_df D hr (pa_cons (pv 0) pa_nil)) (pe_one (pe_chain op_le op_lt pe_int (pv 0) (pv 1))))), ?_⟩
    refine ⟨_, rfl, v, t, rfl, ha, _, rfl, ?_⟩
    cases t with
    | int i =>
      obtain rfl := ha.int_inv
      refine iteT ?_
      refine ⟨_, rfl, _, _, rfl, rfl, _, rfl, ?_⟩
      by_cases c : 0 ≤ i
      · refine iteTof (decide_eq_true c) ?_
        refine ⟨_, rfl, _, _, rfl, rfl, ?_⟩
        have e : isTask n (.int i) = decide (i < n) := by
          show (decide (0 ≤ i) && decide (i < n)) = _
          rw [decide_eq_true c, Bool.true_and]
        rw [e] at k
        exact k
      · refine iteFof (decide_eq_false c) ?_
        have e : isTask n (.int i) = false := by
          show (decide (0 ≤ i) && decide (i < n)) = _
          rw [decide_eq_false c, Bool.false_and]
        rw [e] at k
        exact k
    | bl b => exact iteF k
    | non => exact iteF k
    | str x => exact iteF k
    | lst => exact iteF k
    | tup ts => exact iteF k
theorem sc_task2 : FnScope ["value", "size"] ["value", "size"] (defScope (top 20)) := ⟨rfl, rfl, rfl, by decide +kernel, rfl, by decide +kernel, by decide +kernel⟩
theorem ok_task2 (T : Txt w K mg) (F : DefAt K mg "is_task_sticking" "is_task" (top 20)) : Df P w K mg base 1 "is_task_sticking" spTask := by
  refine F.ok sc_task2 (fun _ _ _ _ _ _ us hl => match us, hl with | [_, _], _ => rfl) (fun vs H Q E h => ?_) (fun f cdv A outer s H vs Q E hr h => ?_)
  · obtain ⟨v, t, n, rfl, _⟩ := h
    rfl
  · obtain ⟨v, t, n, rfl, ha, k⟩ := h
    refine ⟨_, pss_one (ps_ret (pe_and (pe_isi (n := "int") T.isi T.int (pv 0)) (pe_and (pe_not (pe_isi (n := "bool") T.isi T.bool (pv 0))) (pe_one (pe_chain op_le op_lt pe_int (pv 0) (pv 1)))))), ?_⟩
    refine isi_var rfl ha (kit_int t) ⟨_, rfl, ?_⟩
    cases t with
    | int i =>
      obtain rfl := ha.int_inv
      refine iteT ?_
      refine isi_var rfl ha (kit_bool _) ⟨_, rfl, _, rfl, ?_⟩
      refine iteT ?_
      refine ⟨_, rfl, _, _, rfl, rfl, _, rfl, ?_⟩
      by_cases c : 0 ≤ i
      · refine iteTof (decide_eq_true c) ?_
        refine ⟨_, rfl, _, _, rfl, rfl, ?_⟩
        have e : isTask n (.int i) = decide (i < n) := by
          show (decide (0 ≤ i) && decide (i < n)) = _
          rw [decide_eq_true c, Bool.true_and]
        rw [e] at k
        exact k
      · refine iteFof (decide_eq_false c) ?_
        have e : isTask n (.int i) = false := by
          show (decide (0 ≤ i) && decide (i < n)) = _
          rw [decide_eq_false c, Bool.false_and]
        rw [e] at k
        exact k
    | bl b =>
      refine iteT ?_
      refine isi_var rfl ha (kit_bool _) ⟨_, rfl, _, rfl, ?_⟩
      exact iteF k
    | non => exact iteF k
    | str x => exact iteF k
    | lst => exact iteF k
    | tup ts => exact iteF k
theorem sc_size : FnScope ["value"] ["value"] (defScope (top 15)) := ⟨rfl, rfl, rfl, by decide +kernel, rfl, by decide +kernel, by decide +kernel⟩
theorem ok_size (T : Txt w K mg) (F : DefAt K mg "is_size" "is_size" (top 15)) (D : Df P w K mg base 1 "is_integer" spInt) : Df P w K mg base 2 "is_size" spSize := by
  obtain ⟨tk, mt⟩ := T.mt
  refine F.ok sc_size (fun _ _ _ _ _ _ us hl => match us, hl with | [_], _ => rfl) (fun vs H Q E h => ?_) (fun f cdv A outer s H vs Q E hr h => ?_)
  · obtain ⟨n, rfl, _⟩ := h
    rfl
  · obtain ⟨n, rfl, h1, h2, k⟩ := h
    refine ⟨_, pss_one (ps_ret (pe_and (pe_df D hr (pa_cons (pv 0) pa_nil)) (pe_one (pe_chain op_le op_le pe_int (pv 0) (pe_glob (v := .int 7) rfl mt ⟨tk, rfl⟩))))), ?_⟩
    refine ⟨_, rfl, _, _, rfl, .int n, _, rfl, ?_⟩
    refine iteT ?_
    refine ⟨_, rfl, _, _, rfl, rfl, _, rfl, ?_⟩
    refine iteTof (decide_eq_true h1) ?_
    refine ⟨_, _, rfl, rfl, ?_⟩
    have e : decide (n ≤ 7) = true := decide_eq_true h2
    show Q (.bl (decide (n ≤ 7))) H
    rw [e]
    exact k
end
end Tb
/-! Comprehensions whose parts leave what stood; opposite, opposites, is_allowed, is_rule, is_problem. -/
namespace Tb
open PySem PySem.Spec PyProof.Rows L2 Mt
theorem Kp.putL {H0 H : Hp} {D : Addr} {xs ys : List V} (k : Kp H0 H) (h : H D = some (.lst xs)) : Kp H0 (upd H D (.lst ys)) :=
  ⟨fun a zs e => by
    have e1 := k.tup a zs e
    have : a ≠ D := fun z => by
      subst z
      rw [h] at e1
      cases e1
    rw [upd_ne this]
    exact e1, fun a zs e => by
    by_cases z : a = D
    · subst z
      exact ⟨ys, upd_same⟩
    · rw [upd_ne z]
      exact k.lst a zs e⟩
theorem Kp.refl (H : Hp) : Kp H H := Kp.of (Same.refl H)
theorem Ats.snoc {H : Hp} {vs : List V} {ts : List T} {v : V} {t : T} (h : Ats H vs ts) (k : At H v t) : Ats H (vs ++ [v]) (ts ++ [t]) := h.append (.cons k .nil)
/-- a comprehension over a source that stands: what it makes is told by trees -/
theorem lcG {J : It} {G : Hp → Prop} {α : Type} {xs : List V} {l : List α} {g : TG} {tt : TT} {te : TE} {vs : List Nat} {σ : L2.St} {H : Hp} {Qd : Hp → Prop} {D : Addr} (hD : H D = none) (w : Walk J xs.length G (YAt xs)) (hl : l.length = xs.length) (p : α → Bool) (f : α → T) (hz : xs.length < sizeLine) (hG : ∀ H', Same H H' → G H')
    (step : ∀ (j : Nat) (x : V) (a : α) (H' : Hp) (N1 : V → Hp → Prop) (N0 : Hp → Prop), xs[j]? = some x → l[j]? = some a → Same H H' → (p a = true → ∀ y H'', Same H' H'' → At H'' y (f a) → N1 y H'') → (p a = false → ∀ H'', Same H' H'' → N0 H'') →
      g x (wipe σ vs) H' fun σ2 H2 => wipe σ2 vs = wipe σ vs ∧ tt σ2 H2 fun b H3 => if b = true then te σ2 H3 N1 else N0 H3)
    (fin : ∀ (H' : Hp) (ys : List V), Same H H' → H' D = some (.lst ys) → Ats H' ys ((l.filter p).map f) → Qd H') :
    ∃ W : Nat → Nat → Hp → Prop, (∃ m, W 0 m (upd H D (.lst []))) ∧ ∀ i m H, W i m H →
      (J.stop i H ∧ Qd H) ∨ (J.go i H ∧ ∃ Nx : Hp → Prop, (∀ H', Nx H' → ∃ m', m' < m ∧ W (i + 1) m' H') ∧ ∀ x H', J.yld i H x H' → g x (wipe σ vs) H' fun σ2 H2 => wipe σ2 vs = wipe σ vs ∧ tt σ2 H2 fun b H3 =>
        if b = true then te σ2 H3 fun y H4 => ∃ acc, H4 D = some (.lst acc) ∧ acc.length < sizeLine ∧ Nx (upd H4 D (.lst (acc ++ [y]))) else Nx H3) := by
  refine lc_it w (fun i H' => Same H H' ∧ ∃ ys, H' D = some (.lst ys) ∧ ys.length ≤ i ∧ Ats H' ys (((l.take i).filter p).map f)) ⟨Same.new hD, [], upd_same, Nat.le_refl _, .nil⟩ (fun i H' _ h => hG H' h.1) ?_ ?_
  · rintro i x H1 H2 hi ⟨sm, ys, hys, hlen, ha⟩ ⟨rfl, hx⟩
    obtain ⟨a, hla⟩ : ∃ a, l[i]? = some a := ⟨l[i]'(by omega), List.getElem?_eq_getElem (by omega)⟩
    have tk : l.take (i + 1) = l.take i ++ [a] := take_more hla
    refine step i x a H2 _ _ hx hla sm (fun hp y H3 s3 hy => ?_) (fun hp H3 s3 => ?_)
    · refine ⟨ys, s3 _ _ hys, Nat.lt_of_le_of_lt hlen (Nat.lt_trans hi hz), Same.put (sm.trans s3) hD, ys ++ [y], upd_same, by rw [List.length_append] <;> exact Nat.succ_le_succ hlen, ?_⟩
      rw [tk, List.filter_append, List.map_append]
      have e : [a].filter p = [a] := by rw [List.filter_cons, if_pos hp] <;> rfl
      rw [e]
      have k : Kp H3 (upd H3 D (.lst (ys ++ [y]))) := (Kp.refl H3).putL (s3 _ _ hys)
      exact ((ha.same s3).keep k).snoc (hy.keep k)
    · refine ⟨sm.trans s3, ys, s3 _ _ hys, Nat.le_succ_of_le hlen, ?_⟩
      rw [tk, List.filter_append, List.map_append]
      have e : [a].filter p = [] := by rw [List.filter_cons, if_neg (by rw [hp]; exact Bool.false_ne_true)] <;> rfl
      rw [e]
      show Ats H3 ys (_ ++ [])
      rw [List.append_nil]
      exact ha.same s3
  · rintro H' ⟨sm, ys, hys, _, ha⟩
    rw [← hl, List.take_length] at ha
    exact fin H' ys sm hys ha
theorem Ats.bls {H : Hp} : ∀ {vs : List V} {bs : List Bool}, Ats H vs (bs.map T.bl) → vs = bs.map V.bl
  | _, [], .nil => rfl
  | _, c :: cs, .cons h r => by
    rw [Ats.bls r]
    cases h
    rfl
theorem filter_yes {α : Type} : ∀ (l : List α), l.filter (fun _ => true) = l
  | [] => rfl
  | a :: l => by rw [List.filter_cons, if_pos rfl, filter_yes l]
/-- the words of relations -/
abbrev wds (ws : List R3) : List V := ws.map fun q => V.str (sOf q)
def wT (ws : List R3) : T := .tup (ws.map fun q => T.str (sOf q))
theorem sqT {K : PySem.W.Frag} {H H' : Hp} {a : Addr} {xs : List V} (e : Same H H') (h : SqT K H a xs) : SqT K H' a xs := by
  rcases h with (h | ⟨o, h⟩) | h
  · exact .inl (.inl (e _ _ h))
  · exact .inl (.inr ⟨o, e _ _ h⟩)
  · exact .inr h
/-- reading it -/
theorem in_words {K : PySem.W.Frag} {i j : Nat} {σ : L2.St} {H : Hp} {Q : Bool → Hp → Prop} {q : R3} {a : Addr} {ws : List R3} (hi : σ[i]? = some (some (.str (sOf q)))) (hj : σ[j]? = some (some (.ref a))) (h : SqL K H a (wds ws) ∨ SqT K H a (wds ws)) (k : Q (decide (q ∈ ws)) H) : tTest (tOp (rIn K false) (tVar i) (tVar j)) σ H Q :=
  ⟨_, hi, _, hj, a, wds ws, rfl, h, rfl, flat_words ws, _, rfl, by
    show Q (inV (.str (sOf q)) (wds ws)) H
    rw [inV_word]
    exact k⟩
theorem lc_yes {te : TE} {σ : L2.St} {H : Hp} {N1 : V → Hp → Prop} {N0 : Hp → Prop} (h : te σ H N1) : tYes σ H fun b H3 => if b = true then te σ H3 N1 else N0 H3 := by
  show if true = true then te σ H N1 else N0 H
  exact iteT h
/-- slot i is in the flat tuple or list of slot j -/
def tIn (K : PySem.W.Frag) (i j : Nat) : TT := tTest (tOp (rIn K false) (tVar i) (tVar j))
section
variable {P : Program} {w : World} {K : PySem.W.Frag} {mg : Str → Option Value} {base : Heap}
def spOpp : Sp := fun vs H Q _ => ∃ q : R3, vs = [.str (sOf q)] ∧ Q (.str (sOf q.opp)) H
theorem sc_opp : FnScope ["relation"] ["relation"] (defScope (top 5)) := ⟨rfl, rfl, rfl, by decide +kernel, rfl, by decide +kernel, by decide +kernel⟩
theorem ok_opp (T : Txt w K mg) (F : DefAt K mg "opposite" "opposite" (top 5)) : Df P w K mg base 1 "opposite" spOpp := by
  refine F.ok sc_opp (fun _ _ _ _ _ _ us hl => match us, hl with | [_], _ => rfl) (fun vs H Q E h => ?_) (fun f cdv A outer s H vs Q E hr h => ?_)
  · obtain ⟨q, rfl, _⟩ := h
    rfl
  · obtain ⟨q, rfl, k⟩ := h
    refine ⟨_, pss_one (ps_ret (pe_ix ix_kdict (pe_dv T.opp) (pv 0) (fun _ _ => rfl))), ?_⟩
    exact ⟨_, rfl, _, _, _, rfl, rfl, T.oppD q, k⟩
def spOpps (K : PySem.W.Frag) : Sp := fun vs H Q _ => ∃ (a : Addr) (ws : List R3), vs = [.ref a] ∧ SqT K H a (wds ws) ∧ ws.length ≤ 3 ∧ ∀ (p : Addr) (H' : Hp), Same H H' → H' p = some (.tup (wds (opps ws))) → Q (.ref p) H'
abbrev nOpps : List Str := ["relations", "found", "one"]
theorem sc_opps : FnScope nOpps ["relations"] (defScope (top 17)) := ⟨rfl, rfl, rfl, by decide +kernel, rfl, by decide +kernel, by decide +kernel⟩
theorem ok_opps (T : Txt w K mg) (F : DefAt K mg "opposites" "opposites" (top 17)) (D : Df P w K mg base 1 "opposite" spOpp) : Df P w K mg base 2 "opposites" (spOpps K) := by
  refine F.ok sc_opps (fun _ _ _ _ _ _ us hl => match us, hl with | [_], _ => rfl) (fun vs H Q E h => ?_) (fun f cdv A outer s H vs Q E hr h => ?_)
  · obtain ⟨a, ws, rfl, _⟩ := h
    rfl
  · obtain ⟨a, ws, rfl, hS, h3, k⟩ := h
    refine ⟨_, pss_cons (ps_set (i := 1) sc_opps.nd rfl (Or.inr rfl)
        (pe_lc (own := [("one", 2)]) (g := gName 2) (tt := tYes) rfl sc_opps.nd (pi_tup (pv 0)) (blkOk_by (N := nOpps) (sc := defScope (top 17)) (by decide +kernel)) (fun _ _ _ _ _ => pg_name (i := 2) sc_opps.nd rfl (Or.inl rfl)) (fun _ _ _ _ _ => pts_nil) (fun _ _ _ _ _ => pe_df D hr (pa_cons (pv 2) pa_nil))))
      (pss_one (ps_ret (pe_callTy call_tuple_of rfl T.tuple (by decide +kernel) (pa_cons
        (pe_lc (own := [("one", 2)]) (g := gName 2) (tt := tIn K 2 1) rfl sc_opps.nd (pi_tup (pe_dv T.rel)) (blkOk_by (N := nOpps) (sc := defScope (top 17)) (by decide +kernel)) (fun _ _ _ _ _ => pg_name (i := 2) sc_opps.nd rfl (Or.inl rfl)) (fun _ _ _ _ _ => pts_one (pt_cmpR op_in_seq (pv 2) (pv 1) rfl)) (fun _ _ _ _ _ => pv 2)) pa_nil)))), ?_⟩
    refine ⟨_, rfl, a, rfl, ⟨_, hS⟩, fun D1 hD => lcG hD (walk_tup (K := K) (a := a) (xs := wds ws)) (l := ws) (by rw [List.length_map]) (fun _ => true) (fun q => Tb.T.str (sOf q.opp)) (by rw [List.length_map]; exact small1000 (by omega)) (fun H' s => sqT s hS) (fun j x q H' N1 N0 hx hq s n1 n0 => ?_) (fun H1 ys s1 hy ha => ?_)⟩
    · obtain ⟨q', hq', rfl⟩ := get_map hx
      rw [hq] at hq'
      obtain rfl := Option.some.inj hq'
      refine ⟨rfl, lc_yes ?_⟩
      exact ⟨_, rfl, q, rfl, n1 rfl _ _ (Same.refl _) (.str _)⟩
    · have ey : ys = wds (ws.map R3.opp) := by
        rw [filter_yes] at ha
        refine Ats.words (H := H1) ?_
        rw [List.map_map]
        exact ha
      subst ey
      refine ⟨_, rfl, ⟨_, T.relT _⟩, fun D2 hD2 => lcG hD2 (walk_tup (K := K) (xs := wds all3)) (l := all3) rfl (fun q => decide (q ∈ ws.map R3.opp)) (fun q => Tb.T.str (sOf q)) (small1000 (by decide)) (fun H' s => T.relT H') (fun j x q H' N1 N0 hx hq s n1 n0 => ?_) (fun H2 ys s2 hy2 ha2 => ?_)⟩
      · obtain ⟨q', hq', rfl⟩ := get_map hx
        rw [hq] at hq'
        obtain rfl := Option.some.inj hq'
        refine ⟨rfl, in_words (q := q) rfl rfl (.inl (SqL.of (s _ _ hy))) ?_⟩
        by_cases c : q ∈ ws.map R3.opp
        · exact iteTof (decide_eq_true c) ⟨_, rfl, n1 (decide_eq_true c) _ _ (Same.refl _) (.str _)⟩
        · exact iteFof (decide_eq_false c) (n0 (decide_eq_false c) _ (Same.refl _))
      · have ey : ys = wds (opps ws) := Ats.words (H := H2) ha2
        subst ey
        refine ⟨D2, _, rfl, .inl ⟨SqL.of hy2, fun l hl => ?_⟩⟩
        exact k l _ ((s1.trans s2).trans (Same.new hl)) upd_same
end
end Tb
/-! is_allowed, is_rule, is_problem. -/
namespace Tb
open PySem PySem.Spec PyProof.Rows L2 Mt
theorem ws_cases {ws : List R3} (h : ws = all3.filter fun q => decide (q ∈ ws)) : ws = [] ∨ ws = [.bef] ∨ ws = [.bes] ∨ ws = [.aft] ∨ ws = [.bef, .bes] ∨ ws = [.bef, .aft] ∨ ws = [.bes, .aft] ∨ ws = [.bef, .bes, .aft] := by
  by_cases h1 : R3.bef ∈ ws <;> by_cases h2 : R3.bes ∈ ws <;> by_cases h3 : R3.aft ∈ ws <;>
    (have e := h
     simp [all3, List.filter, h1, h2, h3] at e
     simp [e])
theorem ws_len {ws : List R3} (h : ws = all3.filter fun q => decide (q ∈ ws)) : ws.length ≤ 3 := by
  rcases ws_cases h with e | e | e | e | e | e | e | e <;> (rw [e]; decide)
def wD (ws : List R3) : PyData := .tuple (ws.map fun q => PyData.str (sOf q))
theorem dp_words {K : PySem.W.Frag} {H : Hp} : ∀ (ws : List R3), DpAll K H (wds ws) (ws.map fun q => PyData.str (sOf q))
  | [] => .nil
  | q :: ws => .cons (.str _) (dp_words ws)
theorem wD_ok {ws : List R3} (h : ws = all3.filter fun q => decide (q ∈ ws)) : SeqAt.shaped (wD ws) = true ∧ PyData.eqv (wD ws) (wD ws) = true := by
  rcases ws_cases h with e | e | e | e | e | e | e | e <;> (rw [e]; decide +kernel)
theorem At.words {H : Hp} {v : V} {ws : List R3} (h : At H v (wT ws)) : ∃ a, v = .ref a ∧ H a = some (.tup (wds ws)) := by
  obtain ⟨a, xs, rfl, h, k⟩ := h.tup_ref
  rw [k.words] at h
  exact ⟨a, rfl, h⟩
theorem At.of_words {H : Hp} {a : Addr} {ws : List R3} (h : H a = some (.tup (wds ws))) : At H (.ref a) (wT ws) := .tup h (Ats.of_words ws)
/-- all(the list made) -/
theorem all_ok {K : PySem.W.Frag} {D : Addr} {H : Hp} {Q : VK} {bs : List Bool} (h : H D = some (.lst (bs.map V.bl))) (k : Q (.bl (bs.all id)) H) : rAll K [.ref D] H Q := ⟨D, bs, rfl, SqL.of h, k⟩
theorem all_true : ∀ (bs : List Bool), (∀ b ∈ bs, b = true) → bs.all id = true := fun bs h => List.all_eq_true.mpr h
section
variable {P : Program} {w : World} {K : PySem.W.Frag} {mg : Str → Option Value} {base : Heap}
def spAllowed : Sp := fun vs H Q _ => ∃ (v : V) (ws : List R3), vs = [v] ∧ At H v (wT ws) ∧ (ws = all3.filter fun q => decide (q ∈ ws)) ∧ ws ≠ [] ∧ ∀ H', Same H H' → Q (.bl true) H'
abbrev nAll : List Str := ["value", "one"]
theorem sc_allowed : FnScope nAll ["value"] (defScope (top 13)) := ⟨rfl, rfl, rfl, by decide +kernel, rfl, by decide +kernel, by decide +kernel⟩
theorem ok_allowed (T : Txt w K mg) (F : DefAt K mg "is_allowed" "is_allowed" (top 13)) : Df P w K mg base 1 "is_allowed" spAllowed := by
  refine F.ok sc_allowed (fun _ _ _ _ _ _ us hl => match us, hl with | [_], _ => rfl) (fun vs H Q E h => ?_) (fun f cdv A outer s H vs Q E hr h => ?_)
  · obtain ⟨v, ws, rfl, _⟩ := h
    rfl
  · obtain ⟨v, ws, rfl, ha, hw, hn, k⟩ := h
    obtain ⟨a, rfl, hp⟩ := ha.words
    refine ⟨_, pss_cons (ps_if (PW.pt (pw_or (pt_not (pt_val (pe_isi (n := "tuple") T.isi T.tuple (pv 0)))) (pw_or (pt_not (pt_truth (pv 0) (by intro _; rfl))) (pw_or1 (pt_not (pt_val
        (pe_callB (cr_all rfl) rfl T.all (by decide +kernel) (pa_cons (pe_lc (own := [("one", 1)]) (g := gName 1) (tt := tYes) (te := tIsi K "str" (tVar 1)) rfl sc_allowed.nd (pi_tup (pv 0)) (blkOk_by (N := nAll) (sc := defScope (top 13)) (by decide +kernel))
          (fun _ _ _ _ _ => pg_name (i := 1) sc_allowed.nd rfl (Or.inl rfl)) (fun _ _ _ _ _ => pts_nil) (fun _ _ _ _ _ => pe_isi (n := "str") T.isi T.str (pv 1))) pa_nil))))))))
        (pss_one (ps_ret pe_bl)) pss_nil)
      (pss_one (ps_ret (pe_cmpR (op_eqD hr.units) (pv 0) (pe_callTy call_tuple_of rfl T.tuple (by decide +kernel) (pa_cons
        (pe_lc (own := [("one", 1)]) (g := gName 1) (tt := tIn K 1 0) rfl sc_allowed.nd (pi_tup (pe_dv T.rel)) (blkOk_by (N := nAll) (sc := defScope (top 13)) (by decide +kernel)) (fun _ _ _ _ _ => pg_name (i := 1) sc_allowed.nd rfl (Or.inl rfl)) (fun _ _ _ _ _ => pts_one (pt_cmpR op_in_seq (pv 1) (pv 0) rfl)) (fun _ _ _ _ _ => pv 1)) pa_nil)) (nomark _)))), ?_⟩
    refine isi_var rfl ha (kit_tup _) ⟨_, rfl, ?_⟩
    refine iteFof rfl ?_
    have hne : (!(wds ws).isEmpty) = true := by
      cases ws with
      | nil => exact absurd rfl hn
      | cons q r => rfl
    refine ⟨_, rfl, true, .inr (.inl ⟨_, SqT.of hp, hne.symm⟩), ?_⟩
    refine iteFof rfl ?_
    have hl := ws_len hw
    refine ⟨_, rfl, a, rfl, ⟨_, SqT.of hp⟩, fun D1 hD => lcG hD (walk_tup (K := K) (a := a) (xs := wds ws)) (l := ws) (by rw [List.length_map]) (fun _ => true) (fun _ => Tb.T.bl true) (by rw [List.length_map]; exact small1000 (by omega)) (fun H' s => sqT s (SqT.of hp)) (fun j x q H' N1 N0 hx hq s n1 n0 => ?_) (fun H1 ys s1 hy hys => ?_)⟩
    · obtain ⟨q', hq', rfl⟩ := get_map hx
      exact ⟨rfl, lc_yes (isi_var rfl (.str _) (kit_str _) (n1 rfl _ _ (Same.refl _) (.bl true)))⟩
    · have ey : ys = (ws.map fun _ => true).map V.bl := by
        rw [filter_yes] at hys
        refine Ats.bls (H := H1) ?_
        rw [List.map_map]
        exact hys
      subst ey
      refine ⟨D1, ws.map fun _ => true, rfl, SqL.of hy, _, rfl, ?_⟩
      have e : (ws.map fun _ => true).all id = true := all_true _ fun b hb => by
        obtain ⟨_, _, rfl⟩ := List.mem_map.mp hb
        rfl
      rw [e]
      refine iteFof rfl ?_
      refine ⟨_, rfl, _, rfl, ⟨_, T.relT _⟩, fun D2 hD2 => lcG hD2 (walk_tup (K := K) (xs := wds all3)) (l := all3) rfl (fun q => decide (q ∈ ws)) (fun q => Tb.T.str (sOf q)) (small1000 (by decide)) (fun H' s => T.relT H') (fun j x q H' N1 N0 hx hq s n1 n0 => ?_) (fun H2 ys s2 hy2 ha2 => ?_)⟩
      · obtain ⟨q', hq', rfl⟩ := get_map hx
        rw [hq] at hq'
        obtain rfl := Option.some.inj hq'
        refine ⟨rfl, in_words (q := q) rfl rfl (.inr (SqT.of (s _ _ (s1 _ _ hp)))) ?_⟩
        by_cases c : q ∈ ws
        · exact iteTof (decide_eq_true c) ⟨_, rfl, n1 (decide_eq_true c) _ _ (Same.refl _) (.str _)⟩
        · exact iteFof (decide_eq_false c) (n0 (decide_eq_false c) _ (Same.refl _))
      · have ey : ys = wds ws := by
          rw [← hw] at ha2
          exact Ats.words (H := H2) ha2
        subst ey
        have s12 := s1.trans s2
        refine ⟨D2, _, rfl, .inl ⟨SqL.of hy2, fun l hl => ?_⟩⟩
        obtain ⟨e1, e2⟩ := wD_ok hw
        refine ⟨wD ws, wD ws, .tup (SqT.of (by rw [upd_ne (ne_of_none (s12 _ _ hp) hl)]; exact s12 _ _ hp)) (dp_words ws), .tup (SqT.of upd_same) (dp_words ws), e1, e1, ?_⟩
        rw [e2]
        exact k _ (s12.trans (Same.new hl))
end
end Tb
/-! is_rule, is_problem. -/
namespace Tb
open PySem PySem.Spec PyProof.Rows L2 Mt
theorem At.rule {H : Hp} {v : V} {r : Rl} (h : At H v (ruleT r)) : ∃ (a : Addr) (x : V), v = .ref a ∧ H a = some (.tup [.int r.a, x, .int r.b]) ∧ At H x (wT r.ws) := by
  obtain ⟨a, xs, rfl, h, k⟩ := h.tup_ref
  obtain ⟨x, y, z, rfl, h1, h2, h3⟩ := k.three
  obtain rfl := h1.int_inv
  obtain rfl := h3.int_inv
  exact ⟨a, y, rfl, h, h2⟩
theorem At.prob {H : Hp} {v : V} {n : Int} {rs : List Rl} (h : At H v (probT n rs)) : ∃ (a b : Addr) (xs : List V), v = .ref a ∧ H a = some (.tup [.int n, .ref b]) ∧ H b = some (.tup xs) ∧ Ats H xs (rs.map ruleT) := by
  obtain ⟨a, xs, rfl, h, k⟩ := h.tup_ref
  obtain ⟨x, y, rfl, h1, h2⟩ := k.two
  obtain rfl := h1.int_inv
  obtain ⟨b, ys, rfl, h3, h4⟩ := h2.tup_ref
  exact ⟨a, b, ys, rfl, h, h3, h4⟩
theorem isTask_yes {n i : Int} (h0 : 0 ≤ i) (h1 : i < n) : isTask n (.int i) = true := by
  show (decide (0 ≤ i) && decide (i < n)) = true
  rw [decide_eq_true h0, decide_eq_true h1]
  rfl
section
variable {X : Cx}
theorem ixT (K : PySem.W.Frag) (h : X.K = K := by rfl) : IxR X (rIxT K) := h ▸ ix_tup
theorem ixL (K : PySem.W.Frag) (h : X.K = K := by rfl) : IxR X (rIxL K) := h ▸ ix_list
theorem opIn (K : PySem.W.Frag) (h : X.K = K := by rfl) : OpR X (compareOp .In) (rIn K false) := h ▸ op_in_seq
theorem opNotIn (K : PySem.W.Frag) (h : X.K = K := by rfl) : OpR X (compareOp .NotIn) (rIn K true) := h ▸ op_notIn_seq
end
section
variable {P : Program} {w : World} {K : PySem.W.Frag} {mg : Str → Option Value} {base : Heap}
def spRule : Sp := fun vs H Q _ => ∃ (v : V) (r : Rl) (n : Int), vs = [v, .int n] ∧ At H v (ruleT r) ∧ RlOk n r ∧ ∀ H', Same H H' → Q (.bl true) H'
theorem sc_rule : FnScope ["value", "size"] ["value", "size"] (defScope (top 14)) := ⟨rfl, rfl, rfl, by decide +kernel, rfl, by decide +kernel, by decide +kernel⟩
theorem ok_rule (T : Txt w K mg) (F : DefAt K mg "is_rule" "is_rule" (top 14)) (D1 : Df P w K mg base 2 "is_task_rules" spTask) (D2 : Df P w K mg base 1 "is_allowed" spAllowed) : Df P w K mg base 3 "is_rule" spRule := by
  refine F.ok sc_rule (fun _ _ _ _ _ _ us hl => match us, hl with | [_, _], _ => rfl) (fun vs H Q E h => ?_) (fun f cdv A outer s H vs Q E hr h => ?_)
  · obtain ⟨v, r, n, rfl, _⟩ := h
    rfl
  · obtain ⟨v, r, n, rfl, ha, hk, k⟩ := h
    obtain ⟨a, x, rfl, hp, hx⟩ := ha.rule
    have hr1 : Room 1 _ := hr.mono (by decide)
    refine ⟨_, pss_cons (ps_if (PW.pt (pw_or (pt_not (pt_val (pe_isi (n := "tuple") T.isi T.tuple (pv 0)))) (pw_or (pt_cmpR op_ne (pe_callB call_len_seq rfl T.len PySem.boot_len (pa_cons (pv 0) pa_nil)) pe_int (nomark _))
        (pw_or (pt_not (pt_val (pe_df D1 hr (pa_cons (pe_ix ix_tup (pv 0) pe_int (fun _ _ => rfl)) (pa_cons (pv 1) pa_nil))))) (pw_or1 (pt_not (pt_val (pe_df D1 hr (pa_cons (pe_ix ix_tup (pv 0) pe_int (fun _ _ => rfl)) (pa_cons (pv 1) pa_nil))))))))))
        (pss_one (ps_ret pe_bl)) pss_nil)
      (pss_one (ps_ret (pe_and (pe_cmpR op_ne (pe_ix ix_tup (pv 0) pe_int (fun _ _ => rfl)) (pe_ix ix_tup (pv 0) pe_int (fun _ _ => rfl)) (nomark _)) (pe_one (pe_df D2 hr1 (pa_cons (pe_ix ix_tup (pv 0) pe_int (fun _ _ => rfl)) pa_nil)))))), ?_⟩
    refine isi_var rfl ha (kit_tup _) ⟨_, rfl, ?_⟩
    refine iteFof rfl ?_
    refine ⟨_, rfl, a, _, rfl, .inr (SqT.of hp), rfl, _, rfl, ?_⟩
    refine iteFof rfl ?_
    refine ⟨_, rfl, a, _, _, .int r.a, rfl, rfl, SqT.of hp, rfl, _, rfl, _, _, _, rfl, .int r.a, _, rfl, ?_⟩
    refine iteFof (by rw [isTask_yes hk.a0 hk.an]; rfl) ?_
    refine ⟨_, rfl, a, _, _, .int r.b, rfl, rfl, SqT.of hp, rfl, _, rfl, _, _, _, rfl, .int r.b, _, rfl, ?_⟩
    refine iteFof (by rw [isTask_yes hk.b0 hk.bn]; rfl) ?_
    refine ⟨_, rfl, a, _, _, .int r.a, rfl, rfl, SqT.of hp, rfl, _, rfl, a, _, _, .int r.b, rfl, rfl, SqT.of hp, rfl, rfl, _, rfl, ?_⟩
    refine iteTof (by rw [decide_eq_false (fun e => hk.ne (V.int.inj e))]; rfl) ?_
    exact ⟨_, rfl, a, _, _, x, rfl, rfl, SqT.of hp, rfl, x, r.ws, rfl, hx, hk.ws, hk.nn, k⟩
def spProb : Sp := fun vs H Q _ => ∃ (v : V) (n : Int) (rs : List Rl), vs = [v] ∧ At H v (probT n rs) ∧ ProbOk n rs ∧ ∀ H', Same H H' → Q (.bl true) H'
abbrev nProb : List Str := ["value", "rule"]
theorem sc_prob : FnScope nProb ["value"] (defScope (top 16)) := ⟨rfl, rfl, rfl, by decide +kernel, rfl, by decide +kernel, by decide +kernel⟩
theorem ok_prob (T : Txt w K mg) (F : DefAt K mg "is_problem" "is_problem" (top 16)) (D1 : Df P w K mg base 2 "is_size" spSize) (D2 : Df P w K mg base 3 "is_rule" spRule) : Df P w K mg base 4 "is_problem" spProb := by
  obtain ⟨tk, mr⟩ := T.mr
  refine F.ok sc_prob (fun _ _ _ _ _ _ us hl => match us, hl with | [_], _ => rfl) (fun vs H Q E h => ?_) (fun f cdv A outer s H vs Q E hr h => ?_)
  · obtain ⟨v, n, rs, rfl, _⟩ := h
    rfl
  · obtain ⟨v, n, rs, rfl, ha, hk, k⟩ := h
    obtain ⟨a, b, xs, rfl, hp, hb, hxs⟩ := ha.prob
    have hr2 : Room 2 _ := hr.mono (by decide)
    refine ⟨_, pss_cons (ps_if (PW.pt (pw_or (pt_not (pt_val (pe_isi (n := "tuple") T.isi T.tuple (pv 0)))) (pw_or (pt_cmpR op_ne (pe_callB call_len_seq rfl T.len PySem.boot_len (pa_cons (pv 0) pa_nil)) pe_int (nomark _))
        (pw_or (pt_not (pt_val (pe_df D1 hr2 (pa_cons (pe_ix ix_tup (pv 0) pe_int (fun _ _ => rfl)) pa_nil)))) (pw_or1 (pt_not (pt_val (pe_isi (n := "tuple") T.isi T.tuple (pe_ix ix_tup (pv 0) pe_int (fun _ _ => rfl))))))))))
        (pss_one (ps_ret pe_bl)) pss_nil)
      (pss_one (ps_ret (pe_and (pe_cmpR op_le (pe_callB call_len_seq rfl T.len PySem.boot_len (pa_cons (pe_ix ix_tup (pv 0) pe_int (fun _ _ => rfl)) pa_nil)) (pe_glob (v := .int 20) rfl mr ⟨tk, rfl⟩) (nomark _))
        (pe_one (pe_callB (cr_all rfl) rfl T.all (by decide +kernel) (pa_cons (pe_lc (own := [("rule", 1)]) (g := gName 1) (tt := tYes) rfl sc_prob.nd (pi_tup (pe_ix ix_tup (pv 0) pe_int (fun _ _ => rfl))) (blkOk_by (N := nProb) (sc := defScope (top 16)) (by decide +kernel))
          (fun _ _ _ _ _ => pg_name (i := 1) sc_prob.nd rfl (Or.inl rfl)) (fun _ _ _ _ _ => pts_nil) (fun _ _ _ _ _ => pe_df D2 hr (pa_cons (pv 1) (pa_cons (pe_ix (ixT K) (pv 0) pe_int (fun _ _ => rfl)) pa_nil)))) pa_nil)))))), ?_⟩
    refine isi_var rfl ha (kit_tup _) ⟨_, rfl, ?_⟩
    refine iteFof rfl ?_
    refine ⟨_, rfl, a, _, rfl, .inr (SqT.of hp), rfl, _, rfl, ?_⟩
    refine iteFof rfl ?_
    refine ⟨_, rfl, a, _, _, .int n, rfl, rfl, SqT.of hp, rfl, n, rfl, hk.lo, hk.hi, _, rfl, ?_⟩
    refine iteFof rfl ?_
    refine ⟨_, rfl, a, _, _, .ref b, rfl, rfl, SqT.of hp, rfl, _, .ty "tuple", _, _, _, rfl, .ty "tuple", (At.tup hb hxs).ty, kit_tup _, _, rfl, ?_⟩
    refine iteFof rfl ?_
    have hlen : xs.length = rs.length := by rw [hxs.length, List.length_map]
    refine ⟨_, rfl, a, _, _, .ref b, rfl, rfl, SqT.of hp, rfl, b, _, rfl, .inr (SqT.of hb), _, _, rfl, rfl, _, rfl, ?_⟩
    refine iteTof (decide_eq_true (by have := hk.len; omega)) ?_
    refine ⟨_, rfl, a, _, _, .ref b, rfl, rfl, SqT.of hp, rfl, b, rfl, ⟨_, SqT.of hb⟩, fun D hD => lcG hD (walk_tup (K := K) (a := b) (xs := xs)) (l := rs) hlen.symm (fun _ => true) (fun _ => Tb.T.bl true) (small1000 (by have := hk.len; omega)) (fun H' s => sqT s (SqT.of hb)) (fun j x r H' N1 N0 hx hq s n1 n0 => ?_) (fun H1 ys s1 hy hys => ?_)⟩
    · obtain ⟨t, ht, hx2⟩ := hxs.get hx
      obtain ⟨r', hr', rfl⟩ := get_map ht
      rw [hq] at hr'
      obtain rfl := Option.some.inj hr'
      refine ⟨rfl, lc_yes ?_⟩
      exact ⟨_, rfl, _, rfl, a, _, _, .int n, rfl, rfl, SqT.of (s _ _ hp), rfl, x, r, n, rfl, hx2.same s, hk.ok r (List.mem_of_getElem? hq), fun H2 s2 => n1 rfl _ _ s2 (.bl true)⟩
    · have ey : ys = (rs.map fun _ => true).map V.bl := by
        rw [filter_yes] at hys
        refine Ats.bls (H := H1) ?_
        rw [List.map_map]
        exact hys
      subst ey
      refine ⟨D, rs.map fun _ => true, rfl, SqL.of hy, ?_⟩
      have e : (rs.map fun _ => true).all id = true := all_true _ fun b hb => by
        obtain ⟨_, _, rfl⟩ := List.mem_map.mp hb
        rfl
      rw [e]
      exact k _ s1
end
end Tb
/-! allowed_of, ties, bars, is_barred. -/
namespace Tb
open PySem PySem.Spec PyProof.Rows L2 Mt
theorem turnA_len (x y : Int) (f : List R3) (r : Rl) : (turnA x y f r).length ≤ f.length := by
  unfold turnA
  have h1 : ∀ (p : R3 → Bool) (l : List R3), (l.filter p).length ≤ l.length := fun p l => List.length_filter_le p l
  dsimp only
  split
  · split
    · exact Nat.le_trans (h1 _ _) (h1 _ _)
    · exact h1 _ _
  · split
    · exact h1 _ _
    · exact Nat.le_refl _
theorem fold_len (x y : Int) : ∀ (rs : List Rl) (f : List R3), (rs.foldl (turnA x y) f).length ≤ f.length
  | [], f => Nat.le_refl _
  | r :: rs, f => Nat.le_trans (fold_len x y rs _) (turnA_len x y f r)
theorem fold_more {x y : Int} {rs : List Rl} {i : Nat} {r : Rl} (h : rs[i]? = some r) : (rs.take (i + 1)).foldl (turnA x y) all3 = turnA x y ((rs.take i).foldl (turnA x y) all3) r := by
  rw [take_more h, List.foldl_append]
  rfl
theorem filter_words {p : R3 → Bool} (f : List R3) {H : Hp} {ys : List V} (h : Ats H ys ((f.filter p).map fun q => T.str (sOf q))) : ys = wds (f.filter p) := Ats.words h
section
variable {P : Program} {w : World} {K : PySem.W.Frag} {mg : Str → Option Value} {base : Heap}
def spAllowedOf (K : PySem.W.Frag) : Sp := fun vs H Q _ => ∃ (v : V) (n : Int) (rs : List Rl) (x y : Int), vs = [v, .int x, .int y] ∧ At H v (probT n rs) ∧ ProbOk n rs ∧
  ∀ (p : Addr) (H' : Hp), Same H H' → SqT K H' p (wds (allowed rs x y)) → Q (.ref p) H'
abbrev nAof : List Str := ["problem", "first", "second", "found", "rule", "one"]
theorem sc_aof : FnScope nAof ["problem", "first", "second"] (defScope (top 18)) := ⟨rfl, rfl, rfl, by decide +kernel, rfl, by decide +kernel, by decide +kernel⟩
theorem ok_aof (T : Txt w K mg) (F : DefAt K mg "allowed_of" "allowed_of" (top 18)) (D : Df P w K mg base 2 "opposites" (spOpps K)) : Df P w K mg base 3 "allowed_of" (spAllowedOf K) := by
  refine F.ok sc_aof (fun _ _ _ _ _ _ us hl => match us, hl with | [_, _, _], _ => rfl) (fun vs H Q E h => ?_) (fun f cdv A outer s H vs Q E hr h => ?_)
  · obtain ⟨v, n, rs, x, y, rfl, _⟩ := h
    rfl
  · obtain ⟨v, n, rs, x, y, rfl, ha, hk, k⟩ := h
    obtain ⟨a, b, xs, rfl, hp, hb, hxs⟩ := ha.prob
    have hlen : xs.length = rs.length := by rw [hxs.length, List.length_map]
    refine ⟨_, pss_cons (ps_set (i := 3) sc_aof.nd rfl (Or.inl rfl) (pe_dv T.rel))
      (pss_cons (ps_for PassesOwn.never rfl (pi_tup (pe_ix ix_tup (pv 0) pe_int (fun _ _ => rfl))) (pg_name (i := 4) sc_aof.nd rfl (Or.inr rfl))
        (C8.pss_cut (ps_if (PW.pt (pw_and (pt_cmpR op_eq (pe_ix ix_tup (pv 4) pe_int (fun _ _ => rfl)) (pv 1) (nomark _)) (pw_and1 (pt_cmpR op_eq (pe_ix ix_tup (pv 4) pe_int (fun _ _ => rfl)) (pv 2) (nomark _)))))
          (pss_one (ps_set (i := 3) sc_aof.nd rfl (Or.inl rfl) (pe_callTy call_tuple_of rfl T.tuple (by decide +kernel) (pa_cons
            (pe_lc (own := [("one", 5)]) (g := gName 5) rfl sc_aof.nd (pi_tup (pv 3)) (blkOk_by (N := nAof) (sc := defScope (top 18)) (by decide +kernel)) (fun _ _ _ _ _ => pg_name (i := 5) sc_aof.nd rfl (Or.inl rfl))
              (fun _ _ _ _ _ => pts_one (pt_cmpR (opIn K) (pv 5) (pe_ix (ixT K) (pv 4) pe_int (fun _ _ => rfl)) rfl)) (fun _ _ _ _ _ => pv 5)) pa_nil)))) pss_nil)
        (pss_one (ps_if (PW.pt (pw_and (pt_cmpR op_eq (pe_ix ix_tup (pv 4) pe_int (fun _ _ => rfl)) (pv 2) (nomark _)) (pw_and1 (pt_cmpR op_eq (pe_ix ix_tup (pv 4) pe_int (fun _ _ => rfl)) (pv 1) (nomark _)))))
          (pss_one (ps_set (i := 3) sc_aof.nd rfl (Or.inl rfl) (pe_callTy call_tuple_of rfl T.tuple (by decide +kernel) (pa_cons
            (pe_lc (own := [("one", 5)]) (g := gName 5) rfl sc_aof.nd (pi_tup (pv 3)) (blkOk_by (N := nAof) (sc := defScope (top 18)) (by decide +kernel)) (fun _ _ _ _ _ => pg_name (i := 5) sc_aof.nd rfl (Or.inl rfl))
              (fun _ _ _ _ _ => pts_one (pt_cmpR (opIn K) (pv 5) (pe_df D hr (pa_cons (pe_ix (ixT K) (pv 4) pe_int (fun _ _ => rfl)) pa_nil)) rfl)) (fun _ _ _ _ _ => pv 5)) pa_nil)))) pss_nil))))
      (pss_one (ps_ret (pv 3)))), ?_⟩
    refine ⟨_, rfl, a, _, _, .ref b, rfl, rfl, SqT.of hp, rfl, b, rfl, ⟨_, SqT.of hb⟩, for_tup (K := K) (a := b) (xs := xs) (fun i σ H1 => ∃ (p : Addr) (ov : Option V), σ = [some (.ref a), some (.int x), some (.int y), some (.ref p), ov, none] ∧ Same H H1 ∧ SqT K H1 p (wds ((rs.take i).foldl (turnA x y) all3)))
      ⟨_, none, rfl, Same.refl H, T.relT H⟩ (fun i σ H1 _ ⟨_, _, _, s1, _⟩ => sqT s1 (SqT.of hb)) ?_ ?_⟩
    · rintro i u σ H1 hi ⟨p, ov, rfl, s1, hS⟩
      obtain ⟨t, ht, hu⟩ := hxs.get hi
      obtain ⟨r, hri, rfl⟩ := get_map ht
      obtain ⟨ra, rx, rfl, hra, hrx⟩ := (hu.same s1).rule
      obtain ⟨wa, rfl, hwa⟩ := hrx.words
      rw [fold_more hri]
      have hl3 : ((rs.take i).foldl (turnA x y) all3).length ≤ 3 := fold_len x y _ all3
      have hrk := hk.ok r (List.mem_of_getElem? hri)
      have hw3 := ws_len hrk.ws
      generalize hf : (rs.take i).foldl (turnA x y) all3 = f0 at hS hl3 ⊢
      -- after the first if
      refine ⟨fun σ' H2 => ∃ (p1 : Addr) (f1 : List R3), σ' = [some (.ref a), some (.int x), some (.int y), some (.ref p1), some (.ref ra), none] ∧ Same H H2 ∧ H2 ra = some (.tup [.int r.a, .ref wa, .int r.b]) ∧ H2 wa = some (.tup (wds r.ws)) ∧
        SqT K H2 p1 (wds f1) ∧ f1.length ≤ 3 ∧ f1 = (if r.a = x ∧ r.b = y then f0.filter (fun q => decide (q ∈ r.ws)) else f0), ?_, ?_⟩
      · refine ⟨_, rfl, ra, _, _, .int r.a, rfl, rfl, SqT.of hra, rfl, _, rfl, rfl, _, rfl, ?_⟩
        refine ite2 (fun c1 => ?_) (fun c1 => ?_)
        · have c1 : r.a = x := V.int.inj (of_decide_eq_true c1)
          refine ⟨_, rfl, ra, _, _, .int r.b, rfl, rfl, SqT.of hra, rfl, _, rfl, rfl, _, rfl, ?_⟩
          refine ite2 (fun c2 => ?_) (fun c2 => ?_)
          · have c2 : r.b = y := V.int.inj (of_decide_eq_true c2)
            refine ⟨_, rfl, p, rfl, ⟨_, hS⟩, fun D1 hD => lcG hD (walk_tup (K := K) (a := p) (xs := wds f0)) (l := f0) (by rw [List.length_map]) (fun q => decide (q ∈ r.ws)) (fun q => Tb.T.str (sOf q)) (by rw [List.length_map]; exact small1000 (by omega)) (fun H' s => sqT s hS) (fun j z q H' N1 N0 hx hq s n1 n0 => ?_) (fun H2 ys s2 hy2 ha2 => ?_)⟩
            · obtain ⟨q', hq', rfl⟩ := get_map hx
              rw [hq] at hq'
              obtain rfl := Option.some.inj hq'
              refine ⟨rfl, ⟨_, rfl, _, rfl, ra, _, _, .ref wa, rfl, rfl, SqT.of (s _ _ hra), rfl, wa, wds r.ws, rfl, .inr (SqT.of (s _ _ hwa)), rfl, flat_words _, _, rfl, ?_⟩⟩
              by_cases c : q ∈ r.ws
              · exact iteTof ((inV_word q r.ws).trans (decide_eq_true c)) ⟨_, rfl, n1 (decide_eq_true c) _ _ (Same.refl _) (.str _)⟩
              · exact iteFof ((inV_word q r.ws).trans (decide_eq_false c)) (n0 (decide_eq_false c) _ (Same.refl _))
            · obtain rfl := filter_words f0 ha2
              refine ⟨D1, _, rfl, .inl ⟨SqL.of hy2, fun l hl => ?_⟩⟩
              have s3 := s2.trans (Same.new (o := .tup (wds (f0.filter fun q => decide (q ∈ r.ws)))) hl)
              refine ⟨l, _, rfl, s1.trans s3, s3 _ _ hra, s3 _ _ hwa, SqT.of upd_same, Nat.le_trans (List.length_filter_le _ _) hl3, ?_⟩
              rw [if_pos ⟨c1, c2⟩]
          · refine ⟨p, f0, rfl, s1, hra, hwa, hS, hl3, ?_⟩
            rw [if_neg (fun z => c2 (decide_eq_true (congrArg V.int z.2)))]
        · refine iteFof rfl ?_
          refine ⟨p, f0, rfl, s1, hra, hwa, hS, hl3, ?_⟩
          rw [if_neg (fun z => c1 (decide_eq_true (congrArg V.int z.1)))]
      · rintro σ' H2 ⟨p1, f1, rfl, s2, hra, hwa, hS, hl3, hf1⟩
        have et : turnA x y f0 r = if r.a = y ∧ r.b = x then f1.filter (fun q => decide (q ∈ opps r.ws)) else f1 := by
          unfold turnA
          rw [← hf1]
        refine ⟨_, rfl, ra, _, _, .int r.a, rfl, rfl, SqT.of hra, rfl, _, rfl, rfl, _, rfl, ?_⟩
        refine ite2 (fun c1 => ?_) (fun c1 => ?_)
        · have c1 : r.a = y := V.int.inj (of_decide_eq_true c1)
          refine ⟨_, rfl, ra, _, _, .int r.b, rfl, rfl, SqT.of hra, rfl, _, rfl, rfl, _, rfl, ?_⟩
          refine ite2 (fun c2 => ?_) (fun c2 => ?_)
          · have c2 : r.b = x := V.int.inj (of_decide_eq_true c2)
            refine ⟨_, rfl, p1, rfl, ⟨_, hS⟩, fun D1 hD => lcG hD (walk_tup (K := K) (a := p1) (xs := wds f1)) (l := f1) (by rw [List.length_map]) (fun q => decide (q ∈ opps r.ws)) (fun q => Tb.T.str (sOf q)) (by rw [List.length_map]; exact small1000 (by omega)) (fun H' s => sqT s hS) (fun j z q H' N1 N0 hx hq s n1 n0 => ?_) (fun H3 ys s3 hy3 ha3 => ?_)⟩
            · obtain ⟨q', hq', rfl⟩ := get_map hx
              rw [hq] at hq'
              obtain rfl := Option.some.inj hq'
              refine ⟨rfl, ⟨_, rfl, _, rfl, ra, _, _, .ref wa, rfl, rfl, SqT.of (s _ _ hra), rfl, wa, r.ws, rfl, SqT.of (s _ _ hwa), hw3, fun po H4 s4 hpo => ?_⟩⟩
              refine ⟨po, wds (opps r.ws), rfl, .inr (SqT.of hpo), rfl, flat_words _, _, rfl, ?_⟩
              by_cases c : q ∈ opps r.ws
              · exact iteTof ((inV_word q _).trans (decide_eq_true c)) ⟨_, rfl, n1 (decide_eq_true c) _ _ s4 (.str _)⟩
              · exact iteFof ((inV_word q _).trans (decide_eq_false c)) (n0 (decide_eq_false c) _ s4)
            · obtain rfl := filter_words f1 ha3
              refine ⟨D1, _, rfl, .inl ⟨SqL.of hy3, fun l hl => ?_⟩⟩
              refine ⟨l, _, rfl, (s2.trans s3).trans (Same.new hl), ?_⟩
              rw [et, if_pos ⟨c1, c2⟩]
              exact SqT.of upd_same
          · refine ⟨p1, _, rfl, s2, ?_⟩
            rw [et, if_neg (fun z => c2 (decide_eq_true (congrArg V.int z.2)))]
            exact hS
        · refine iteFof rfl ?_
          refine ⟨p1, _, rfl, s2, ?_⟩
          rw [et, if_neg (fun z => c1 (decide_eq_true (congrArg V.int z.1)))]
          exact hS
    · rintro σ H1 ⟨p, ov, rfl, s1, hS⟩
      rw [hlen, List.take_length] at hS
      exact ⟨_, rfl, k p H1 s1 hS⟩
end
end Tb
/-! ties, bars, is_barred; is_set, check_problem, check_chosen. -/
namespace Tb
open PySem PySem.Spec PyProof.Rows L2 Mt
theorem walk_zipT {K : PySem.W.Frag} {a b : Addr} {xs ys : List V} {n : Nat} (hn : n = min xs.length ys.length) : Walk (RZ.ItzT K a b) n (fun H => SqT K H a xs ∧ SqT K H b ys) (YPair (fun i => xs[i]?) (fun i => ys[i]?)) := by
  subst hn
  refine ⟨fun i _ hi q => ?_, fun _ q => ⟨xs, ys, q.1, q.2, by omega⟩, fun i H v H' _ q y => ?_⟩
  · have h1 : i < xs.length := by omega
    have h2 : i < ys.length := by omega
    exact ⟨xs, ys, xs[i], ys[i], q.1, q.2, by simp [h1], by simp [h2]⟩
  · obtain ⟨t, x, z, h1, h2, h3, h4, h5⟩ := y
    exact ⟨t, x, z, h1, h2, h3, h4 xs q.1, h5 ys q.2⟩
theorem cut_one {xs : List V} (h : xs ≠ []) : ¬ (HT.sIx xs.length 0 (some 1) = 0 ∧ HT.sIx xs.length xs.length none = xs.length) ∧ cutV xs (some 1) none = xs.drop 1 := by
  have hp : 0 < xs.length := List.length_pos_iff.mpr h
  have e : HT.sIx xs.length 0 (some 1) = 1 := by
    have := HT.sIx_nat xs.length 0 1
    rw [show ((1 : Nat) : Int) = 1 from rfl] at this
    rw [this]
    omega
  refine ⟨fun z => by rw [e] at z; exact absurd z.1 (by decide), ?_⟩
  unfold cutV
  rw [e, HT.sIx_none]
  exact List.take_of_length_le (by rw [List.length_drop]; omega)
theorem At.set {H : Hp} {v : V} {cs : List Int} (h : At H v (setT cs)) : ∃ a, v = .ref a ∧ H a = some (.tup (cs.map V.int)) := by
  obtain ⟨a, xs, rfl, h, k⟩ := h.tup_ref
  rw [k.ints] at h
  exact ⟨a, rfl, h⟩
theorem At.of_set {H : Hp} {a : Addr} {cs : List Int} (h : H a = some (.tup (cs.map V.int))) : At H (.ref a) (setT cs) := .tup h (Ats.of_ints cs)
theorem up_at : ∀ {cs : List Int} {i : Nat} {x y : Int}, cs.Pairwise (· < ·) → cs[i]? = some x → cs[i + 1]? = some y → x < y
  | [], _, _, _, _, h, _ => by simp at h
  | c :: r, 0, x, y, hu, h1, h2 => by
    have e : c = x := Option.some.inj h1
    subst e
    exact (List.pairwise_cons.mp hu).1 y (List.mem_of_getElem? (show r[0]? = some y from h2))
  | c :: r, i + 1, x, y, hu, h1, h2 => up_at (cs := r) (i := i) (List.pairwise_cons.mp hu).2 h1 h2
section
variable {P : Program} {w : World} {K : PySem.W.Frag} {mg : Str → Option Value} {base : Heap}
def spLead (R : List Rl → Int → Int → Bool) : Sp := fun vs H Q _ => ∃ (v : V) (n : Int) (rs : List Rl) (x y : Int), vs = [v, .int x, .int y] ∧ At H v (probT n rs) ∧ ProbOk n rs ∧ ∀ H', Same H H' → Q (.bl (R rs x y)) H'
abbrev n3 : List Str := ["problem", "first", "second"]
theorem sc_ties : FnScope n3 n3 (defScope (top 25)) := ⟨rfl, rfl, rfl, by decide +kernel, rfl, by decide +kernel, by decide +kernel⟩
theorem sc_bars : FnScope n3 n3 (defScope (top 26)) := ⟨rfl, rfl, rfl, by decide +kernel, rfl, by decide +kernel, by decide +kernel⟩
theorem sc_barred : FnScope n3 n3 (defScope (top 32)) := ⟨rfl, rfl, rfl, by decide +kernel, rfl, by decide +kernel, by decide +kernel⟩
theorem ok_ties (F : DefAt K mg "ties" "ties" (top 25)) (D : Df P w K mg base 3 "allowed_of" (spAllowedOf K)) : Df P w K mg base 4 "ties" (spLead ties) := by
  refine F.ok sc_ties (fun _ _ _ _ _ _ us hl => match us, hl with | [_, _, _], _ => rfl) (fun vs H Q E h => ?_) (fun f cdv A outer s H vs Q E hr h => ?_)
  · obtain ⟨v, n, rs, x, y, rfl, _⟩ := h
    rfl
  · obtain ⟨v, n, rs, x, y, rfl, ha, hk, k⟩ := h
    refine ⟨_, pss_one (ps_ret (pe_cmpR op_notIn_seq pe_str (pe_df D hr (pa_cons (pv 0) (pa_cons (pv 1) (pa_cons (pv 2) pa_nil)))) rfl)), ?_⟩
    refine ⟨_, rfl, _, rfl, _, rfl, v, n, rs, x, y, rfl, ha, hk, fun p H' s hS => ?_⟩
    refine ⟨p, wds (allowed rs x y), rfl, .inr hS, rfl, flat_words _, ?_⟩
    show Q (.bl (!inV (.str (sOf .bes)) (wds (allowed rs x y)))) H'
    rw [inV_word]
    exact k H' s
theorem ok_bars (F : DefAt K mg "bars" "bars" (top 26)) (D : Df P w K mg base 3 "allowed_of" (spAllowedOf K)) : Df P w K mg base 4 "bars" (spLead bars) := by
  refine F.ok sc_bars (fun _ _ _ _ _ _ us hl => match us, hl with | [_, _, _], _ => rfl) (fun vs H Q E h => ?_) (fun f cdv A outer s H vs Q E hr h => ?_)
  · obtain ⟨v, n, rs, x, y, rfl, _⟩ := h
    rfl
  · obtain ⟨v, n, rs, x, y, rfl, ha, hk, k⟩ := h
    refine ⟨_, pss_one (ps_ret (pe_cmpR op_notIn_seq pe_str (pe_df D hr (pa_cons (pv 0) (pa_cons (pv 1) (pa_cons (pv 2) pa_nil)))) rfl)), ?_⟩
    refine ⟨_, rfl, _, rfl, _, rfl, v, n, rs, x, y, rfl, ha, hk, fun p H' s hS => ?_⟩
    refine ⟨p, wds (allowed rs x y), rfl, .inr hS, rfl, flat_words _, ?_⟩
    show Q (.bl (!inV (.str (sOf .bef)) (wds (allowed rs x y)))) H'
    rw [inV_word]
    exact k H' s
theorem ok_barred (F : DefAt K mg "is_barred" "is_barred" (top 32)) (D : Df P w K mg base 4 "bars" (spLead bars)) : Df P w K mg base 5 "is_barred" (spLead barred) := by
  refine F.ok sc_barred (fun _ _ _ _ _ _ us hl => match us, hl with | [_, _, _], _ => rfl) (fun vs H Q E h => ?_) (fun f cdv A outer s H vs Q E hr h => ?_)
  · obtain ⟨v, n, rs, x, y, rfl, _⟩ := h
    rfl
  · obtain ⟨v, n, rs, x, y, rfl, ha, hk, k⟩ := h
    refine ⟨_, pss_one (ps_ret (pe_df D hr (pa_cons (pv 0) (pa_cons (pv 2) (pa_cons (pv 1) pa_nil))))), ?_⟩
    exact ⟨_, rfl, _, rfl, _, rfl, v, n, rs, y, x, rfl, ha, hk, k⟩
def spSet : Sp := fun vs H Q _ => ∃ (v : V) (cs : List Int) (n : Int), vs = [v, .int n] ∧ At H v (setT cs) ∧ SetOk n cs ∧ ∀ H', Same H H' → Q (.bl true) H'
abbrev nSet : List Str := ["value", "size", "task", "one", "other"]
theorem sc_set : FnScope nSet ["value", "size"] (defScope (top 22)) := ⟨rfl, rfl, rfl, by decide +kernel, rfl, by decide +kernel, by decide +kernel⟩
theorem ok_set (T : Txt w K mg) (F : DefAt K mg "is_set" "is_set" (top 22)) (D : Df P w K mg base 1 "is_task_sticking" spTask) : Df P w K mg base 2 "is_set" spSet := by
  refine F.ok sc_set (fun _ _ _ _ _ _ us hl => match us, hl with | [_, _], _ => rfl) (fun vs H Q E h => ?_) (fun f cdv A outer s H vs Q E hr h => ?_)
  · obtain ⟨v, cs, n, rfl, _⟩ := h
    rfl
  · obtain ⟨v, cs, n, rfl, ha, hk, k⟩ := h
    obtain ⟨a, rfl, hp⟩ := ha.set
    have hlen : (cs.map V.int).length = cs.length := List.length_map _
    have hl7 := hk.len
    refine ⟨_, pss_cons (ps_if (PW.pt (pw_or (pt_not (pt_val (pe_isi (n := "tuple") T.isi T.tuple (pv 0)))) (pw_or1 (pt_not (pt_val
        (pe_callB (cr_all rfl) rfl T.all (by decide +kernel) (pa_cons (pe_lc (own := [("task", 2)]) (g := gName 2) (tt := tYes) rfl sc_set.nd (pi_tup (pv 0)) (blkOk_by (N := nSet) (sc := defScope (top 22)) (by decide +kernel))
          (fun _ _ _ _ _ => pg_name (i := 2) sc_set.nd rfl (Or.inl rfl)) (fun _ _ _ _ _ => pts_nil) (fun _ _ _ _ _ => pe_df D hr (pa_cons (pv 2) (pa_cons (pv 1) pa_nil)))) pa_nil)))))))
        (pss_one (ps_ret pe_bl)) pss_nil)
      (pss_one (ps_ret (pe_callB (cr_all rfl) rfl T.all (by decide +kernel) (pa_cons (pe_lc (own := [("one", 3), ("other", 4)]) (g := gTup K 2 (gCons (gName 3) (gCons (gName 4) gNil))) (tt := tYes) rfl sc_set.nd
        (RZ.pi_zipA rfl T.zip (pa_cons (pv 0) (pa_cons (pe_slice sl_tup (pv 0) (po_some pe_int) po_none) pa_nil))) (blkOk_by (N := nSet) (sc := defScope (top 22)) (by decide +kernel))
          (fun _ _ _ _ _ => pg_tup rfl (pgs_cons (pg_name (i := 3) sc_set.nd rfl (Or.inl rfl)) (pgs_cons (pg_name (i := 4) sc_set.nd rfl (Or.inl rfl)) pgs_nil))) (fun _ _ _ _ _ => pts_nil) (fun _ _ _ _ _ => pe_cmpR op_lt (pv 3) (pv 4) (nomark _))) pa_nil)))), ?_⟩
    refine isi_var rfl ha (kit_tup _) ⟨_, rfl, ?_⟩
    refine iteFof rfl ?_
    refine ⟨_, rfl, a, rfl, ⟨_, SqT.of hp⟩, fun D1 hD => lcG hD (walk_tup (K := K) (a := a) (xs := cs.map V.int)) (l := cs) hlen.symm (fun _ => true) (fun _ => Tb.T.bl true) (small1000 (by omega)) (fun H' s => sqT s (SqT.of hp)) (fun j x c H' N1 N0 hx hq s n1 n0 => ?_) (fun H1 ys s1 hy hys => ?_)⟩
    · obtain ⟨c', hc', rfl⟩ := get_map hx
      rw [hq] at hc'
      obtain rfl := Option.some.inj hc'
      have hm := List.mem_of_getElem? hq
      refine ⟨rfl, lc_yes ?_⟩
      refine ⟨_, rfl, _, rfl, _, _, n, rfl, .int c, ?_⟩
      rw [isTask_yes (hk.lo c hm) (hk.hi c hm)]
      exact n1 rfl _ _ (Same.refl _) (.bl true)
    · have ey : ys = (cs.map fun _ => true).map V.bl := by
        rw [filter_yes] at hys
        refine Ats.bls (H := H1) ?_
        rw [List.map_map]
        exact hys
      subst ey
      refine ⟨D1, cs.map fun _ => true, rfl, SqL.of hy, _, rfl, ?_⟩
      have e : (cs.map fun _ => true).all id = true := all_true _ fun b hb => by
        obtain ⟨_, _, rfl⟩ := List.mem_map.mp hb
        rfl
      rw [e]
      refine iteFof rfl ?_
      have hne : cs.map V.int ≠ [] := fun z => hk.ne (List.map_eq_nil_iff.mp z)
      obtain ⟨hc1, hc2⟩ := cut_one hne
      have hp1 := s1 _ _ hp
      refine ⟨_, rfl, _, rfl, _, rfl, a, _, rfl, SqT.of hp1, hc1, fun b hb => ?_⟩
      rw [hc2]
      have s2 := s1.trans (Same.new (o := .tup ((cs.map V.int).drop 1)) hb)
      refine ⟨a, b, cs.map V.int, (cs.map V.int).drop 1, rfl, .inr ⟨SqT.of (s2 _ _ hp), SqT.of upd_same, fun D2 hD2 => ?_⟩⟩
      have hnn : cs.length - 1 = min (cs.map V.int).length ((cs.map V.int).drop 1).length := by rw [List.length_drop, hlen]; omega
      refine lc_it (walk_zipT (K := K) (a := a) (b := b) (xs := cs.map V.int) (ys := (cs.map V.int).drop 1) hnn)
        (fun i H2 => Same (upd H1 b (.tup ((cs.map V.int).drop 1))) H2 ∧ ∃ bs : List Bool, H2 D2 = some (.lst (bs.map V.bl)) ∧ bs.length = i ∧ ∀ z ∈ bs, z = true)
        ⟨Same.new hD2, [], upd_same, rfl, fun _ h => absurd h List.not_mem_nil⟩ (fun i H2 _ h => ⟨SqT.of (h.1 _ _ (s2 _ _ hp)), SqT.of (h.1 _ _ upd_same)⟩) ?_ ?_
      · rintro i x H2 H3 hi ⟨s3, bs, hbs, hbl, hall⟩ ⟨t, u, v, rfl, ht, rfl, hu, hv⟩
        obtain ⟨c, hc, rfl⟩ := get_map hu
        have hv : (cs.map V.int)[i + 1]? = some v := by
          have hv : ((cs.map V.int).drop 1)[i]? = some v := hv
          rw [List.getElem?_drop] at hv
          rw [Nat.add_comm]
          exact hv
        obtain ⟨d, hd, rfl⟩ := get_map hv
        have hlt := up_at hk.up hc hd
        refine ⟨t, _, rfl, SqT.of upd_same, rfl, _, _, rfl, _, _, rfl, rfl, rfl, lc_yes ?_⟩
        refine ⟨_, rfl, _, rfl, _, _, rfl, rfl, ?_⟩
        have s4 : Same H2 (upd H2 t (.tup [.int c, .int d])) := Same.new ht
        refine ⟨bs.map V.bl, s4 _ _ hbs, by rw [List.length_map]; exact small1000 (by omega), Same.put (s3.trans s4) hD2, bs ++ [decide (c < d)], ?_, by rw [List.length_append, hbl]; rfl, fun z hz => ?_⟩
        · rw [upd_same, List.map_append]
          rfl
        · rcases List.mem_append.mp hz with hz | hz
          · exact hall z hz
          · rw [List.mem_singleton] at hz
            rw [hz]
            exact decide_eq_true hlt
      · rintro H2 ⟨s3, bs, hbs, _, hall⟩
        refine ⟨D2, bs, rfl, SqL.of hbs, ?_⟩
        rw [all_true bs hall]
        exact k H2 (s2.trans s3)
def spChkP : Sp := fun vs H Q _ => ∃ (v : V) (n : Int) (rs : List Rl), vs = [v] ∧ At H v (probT n rs) ∧ ProbOk n rs ∧ ∀ H', Same H H' → Q .non H'
theorem sc_chkP : FnScope ["value"] ["value"] (defScope (top 23)) := ⟨rfl, rfl, rfl, by decide +kernel, rfl, by decide +kernel, by decide +kernel⟩
theorem ok_chkP (F : DefAt K mg "check_problem" "check_problem" (top 23)) (D : Df P w K mg base 4 "is_problem" spProb) : Df P w K mg base 5 "check_problem" spChkP := by
  refine F.ok sc_chkP (fun _ _ _ _ _ _ us hl => match us, hl with | [_], _ => rfl) (fun vs H Q E h => ?_) (fun f cdv A outer s H vs Q E hr h => ?_)
  · obtain ⟨v, n, rs, rfl, _⟩ := h
    rfl
  · obtain ⟨v, n, rs, rfl, ha, hk, k⟩ := h
    refine ⟨_, pss_one (ps_if (pt_not (pt_val (pe_df D hr (pa_cons (pv 0) pa_nil)))) (pss_one ps_never) pss_nil), ?_⟩
    refine ⟨_, rfl, v, n, rs, rfl, ha, hk, fun H' s => ⟨_, rfl, ?_⟩⟩
    refine iteFof rfl ?_
    exact k H' s
def spChkC : Sp := fun vs H Q _ => ∃ (v u : V) (n : Int) (rs : List Rl) (cs : List Int), vs = [v, u] ∧ At H v (probT n rs) ∧ ProbOk n rs ∧ At H u (setT cs) ∧ SetOk n cs ∧ ∀ H', Same H H' → Q .non H'
abbrev nPC : List Str := ["problem", "chosen"]
theorem sc_chkC : FnScope nPC nPC (defScope (top 24)) := ⟨rfl, rfl, rfl, by decide +kernel, rfl, by decide +kernel, by decide +kernel⟩
theorem ok_chkC (T : Txt w K mg) (F : DefAt K mg "check_chosen" "check_chosen" (top 24)) (D1 : Df P w K mg base 5 "check_problem" spChkP) (D2 : Df P w K mg base 2 "is_set" spSet) : Df P w K mg base 6 "check_chosen" spChkC := by
  refine F.ok sc_chkC (fun _ _ _ _ _ _ us hl => match us, hl with | [_, _], _ => rfl) (fun vs H Q E h => ?_) (fun f cdv A outer s H vs Q E hr h => ?_)
  · obtain ⟨v, u, n, rs, cs, rfl, _⟩ := h
    rfl
  · obtain ⟨v, u, n, rs, cs, rfl, ha, hk, hu, hc, k⟩ := h
    have hr2 : Room 2 _ := hr.mono (by decide)
    refine ⟨_, pss_cons (ps_expr (pe_df D1 hr (pa_cons (pv 0) pa_nil)))
      (pss_one (ps_if (PW.pt (pw_or (pt_not (pt_val (pe_df D2 hr2 (pa_cons (pv 1) (pa_cons (pe_ix ix_tup (pv 0) pe_int (fun _ _ => rfl)) pa_nil))))) (pw_or1 (pt_cmpR op_eq (pe_callB call_len_seq rfl T.len PySem.boot_len (pa_cons (pv 1) pa_nil)) pe_int (nomark _)))))
        (pss_one ps_never) pss_nil)), ?_⟩
    refine ⟨_, rfl, v, n, rs, rfl, ha, hk, fun H1 s1 => ?_⟩
    obtain ⟨a, b, xs, rfl, hp, hb, hxs⟩ := (ha.same s1).prob
    refine ⟨_, rfl, _, rfl, a, _, _, .int n, rfl, rfl, SqT.of hp, rfl, u, cs, n, rfl, hu.same s1, hc, fun H2 s2 => ⟨_, rfl, ?_⟩⟩
    refine iteFof rfl ?_
    obtain ⟨c, rfl, hcp⟩ := (hu.same (s1.trans s2)).set
    refine ⟨_, rfl, c, _, rfl, .inr (SqT.of hcp), rfl, _, rfl, ?_⟩
    have hne : (cs.map V.int).length ≠ 0 := fun z => hc.ne (by
      rw [List.length_map] at z
      exact List.length_eq_zero_iff.mp z)
    refine iteFof (decide_eq_false fun z => hne (by have := V.int.inj z; omega)) ?_
    exact k H2 (s1.trans s2)
end
end Tb
/-! Searches: what holds between their turns (plain); reach, walked. -/
namespace Mt
theorem not_mem_snoc {x y : Int} {l : List Int} : ¬ x ∈ l ++ [y] ↔ ¬ x ∈ l ∧ x ≠ y := by
  rw [List.mem_append, List.mem_singleton]
  exact ⟨fun h => ⟨fun z => h (.inl z), fun z => h (.inr z)⟩, fun h z => z.elim h.1 h.2⟩
theorem nodup_snoc {y : Int} {l : List Int} (h : l.Nodup) (hy : ¬ y ∈ l) : (l ++ [y]).Nodup := by
  rw [List.nodup_append]
  exact ⟨h, by simp, fun a ha b hb => by
    rw [List.mem_singleton] at hb
    subst hb
    exact fun e => hy (e ▸ ha)⟩
theorem mem_take_more {l : List Int} {i : Nat} {x y : Int} (h : l[i]? = some y) : x ∈ l.take (i + 1) ↔ x ∈ l.take i ∨ x = y := by
  rw [List.take_succ, h, List.mem_append]
  simp
/-- a search's word between two turns of its while: fs found, ws waiting -/
structure RI (R : Int → Int → Bool) (cs : List Int) (t : Int) (fs ws : List Int) : Prop where
  nd : fs.Nodup
  ht : t ∈ fs
  sub : ∀ x ∈ fs, x ∈ cs
  rch : ∀ x ∈ fs, Rch R cs t x
  ww : ∀ x ∈ ws, x ∈ fs
  cl : ∀ x ∈ fs, ¬ x ∈ ws → ∀ y ∈ cs, R x y = true → y ∈ fs
/-- within: h is looked at, ahead of the i-th of cs -/
structure RJ (R : Int → Int → Bool) (cs : List Int) (t h : Int) (i : Nat) (fs ws : List Int) : Prop where
  nd : fs.Nodup
  ht : t ∈ fs
  hh : h ∈ fs
  sub : ∀ x ∈ fs, x ∈ cs
  rch : ∀ x ∈ fs, Rch R cs t x
  ww : ∀ x ∈ ws, x ∈ fs
  cl : ∀ x ∈ fs, x ≠ h → ¬ x ∈ ws → ∀ y ∈ cs, R x y = true → y ∈ fs
  clh : ∀ y ∈ cs.take i, R h y = true → y ∈ fs
section
variable {R : Int → Int → Bool} {cs : List Int} {t h y : Int} {i : Nat} {fs ws : List Int}
theorem RI.start (ht : t ∈ cs) : RI R cs t [t] [t] :=
  ⟨by simp, by simp, fun x hx => by rw [List.mem_singleton] at hx; subst hx; exact ht, fun x hx => by rw [List.mem_singleton] at hx; subst hx; exact .here, fun x hx => hx, fun x hx hn => absurd hx hn⟩
theorem RI.pop (I : RI R cs t fs (ws ++ [h])) : RJ R cs t h 0 fs ws :=
  ⟨I.nd, I.ht, I.ww h (by simp), I.sub, I.rch, fun x hx => I.ww x (by simp [hx]), fun x hx hn hw => I.cl x hx (not_mem_snoc.mpr ⟨hw, hn⟩), fun y hy => by simp at hy⟩
theorem RJ.skip (I : RJ R cs t h i fs ws) (hy : cs[i]? = some y) (hn : y ∈ fs ∨ R h y = false) : RJ R cs t h (i + 1) fs ws :=
  ⟨I.nd, I.ht, I.hh, I.sub, I.rch, I.ww, I.cl, fun z hz hr => by
    rcases (mem_take_more hy).mp hz with hz | rfl
    · exact I.clh z hz hr
    · rcases hn with hn | hn
      · exact hn
      · rw [hr] at hn
        cases hn⟩
theorem RJ.add (I : RJ R cs t h i fs ws) (hy : cs[i]? = some y) (hn : ¬ y ∈ fs) (hr : R h y = true) : RJ R cs t h (i + 1) (fs ++ [y]) (ws ++ [y]) := by
  have hm : y ∈ cs := List.mem_of_getElem? hy
  have up : ∀ {x}, x ∈ fs → x ∈ fs ++ [y] := fun hx => List.mem_append_left _ hx
  refine ⟨nodup_snoc I.nd hn, up I.ht, up I.hh, fun x hx => ?_, fun x hx => ?_, fun x hx => ?_, fun x hx hxh hw z hz hxz => ?_, fun z hz hhz => ?_⟩
  · rcases List.mem_append.mp hx with hx | hx
    · exact I.sub x hx
    · rw [List.mem_singleton] at hx
      subst hx
      exact hm
  · rcases List.mem_append.mp hx with hx | hx
    · exact I.rch x hx
    · rw [List.mem_singleton] at hx
      subst hx
      exact .step (I.rch h I.hh) hm hr
  · rcases List.mem_append.mp hx with hx | hx
    · exact up (I.ww x hx)
    · exact List.mem_append_right _ hx
  · obtain ⟨hw1, hw2⟩ := not_mem_snoc.mp hw
    rcases List.mem_append.mp hx with hx | hx
    · exact up (I.cl x hx hxh hw1 z hz hxz)
    · rw [List.mem_singleton] at hx
      exact absurd hx hw2
  · rcases (mem_take_more hy).mp hz with hz | rfl
    · exact up (I.clh z hz hhz)
    · exact List.mem_append_right _ (by simp)
theorem RJ.fin (I : RJ R cs t h i fs ws) (hi : i = cs.length) : RI R cs t fs ws :=
  ⟨I.nd, I.ht, I.sub, I.rch, I.ww, fun x hx hw => by
    by_cases e : x = h
    · subst e
      intro y hy hr
      refine I.clh y ?_ hr
      rw [hi, List.take_length]
      exact hy
    · exact I.cl x hx e hw⟩
theorem RI.all (I : RI R cs t fs []) : ∀ x, x ∈ fs ↔ Rch R cs t x := fun x =>
  ⟨I.rch x, Rch.closed I.ht (fun x hx y hy hr => I.cl x hx List.not_mem_nil y hy hr) x⟩
theorem RJ.len (I : RJ R cs t h i fs ws) : fs.length ≤ cs.length := nodup_len_le I.nd I.sub
end
/-- walked's word: met, of which the first at are looked at -/
structure WI (R : Int → Int → Bool) (cs : List Int) (c0 : Int) (at_ : Nat) (met : List Int) : Prop where
  nd : met.Nodup
  h0 : c0 ∈ met
  sub : ∀ x ∈ met, x ∈ cs
  cl : ∀ k, k < at_ → ∀ x, met[k]? = some x → ∀ y ∈ cs, R x y = true → y ∈ met
  le : at_ ≤ met.length
structure WJ (R : Int → Int → Bool) (cs : List Int) (c0 : Int) (at_ : Nat) (h : Int) (i : Nat) (met : List Int) : Prop where
  nd : met.Nodup
  h0 : c0 ∈ met
  sub : ∀ x ∈ met, x ∈ cs
  hh : met[at_]? = some h
  cl : ∀ k, k < at_ → ∀ x, met[k]? = some x → ∀ y ∈ cs, R x y = true → y ∈ met
  clh : ∀ y ∈ cs.take i, R h y = true → y ∈ met
section
variable {R : Int → Int → Bool} {cs : List Int} {c0 h y : Int} {at_ i : Nat} {met : List Int}
theorem WI.start (h0 : c0 ∈ cs) : WI R cs c0 0 [c0] :=
  ⟨by simp, by simp, fun x hx => by rw [List.mem_singleton] at hx; subst hx; exact h0, fun k hk => absurd hk (Nat.not_lt_zero _), Nat.zero_le _⟩
theorem WI.look (I : WI R cs c0 at_ met) (hh : met[at_]? = some h) : WJ R cs c0 at_ h 0 met := ⟨I.nd, I.h0, I.sub, hh, I.cl, fun y hy => by simp at hy⟩
theorem WJ.skip (I : WJ R cs c0 at_ h i met) (hy : cs[i]? = some y) (hn : y ∈ met ∨ R h y = false) : WJ R cs c0 at_ h (i + 1) met :=
  ⟨I.nd, I.h0, I.sub, I.hh, I.cl, fun z hz hr => by
    rcases (mem_take_more hy).mp hz with hz | rfl
    · exact I.clh z hz hr
    · rcases hn with hn | hn
      · exact hn
      · rw [hr] at hn
        cases hn⟩
theorem WJ.add (I : WJ R cs c0 at_ h i met) (hy : cs[i]? = some y) (hn : ¬ y ∈ met) : WJ R cs c0 at_ h (i + 1) (met ++ [y]) := by
  have up : ∀ {x}, x ∈ met → x ∈ met ++ [y] := fun hx => List.mem_append_left _ hx
  have hlt : at_ < met.length := (List.getElem?_eq_some_iff.mp I.hh).1
  refine ⟨nodup_snoc I.nd hn, up I.h0, fun x hx => ?_, ?_, fun k hk x hx z hz hr => ?_, fun z hz hr => ?_⟩
  · rcases List.mem_append.mp hx with hx | hx
    · exact I.sub x hx
    · rw [List.mem_singleton] at hx
      subst hx
      exact List.mem_of_getElem? hy
  · rw [List.getElem?_append_left hlt]
    exact I.hh
  · rw [List.getElem?_append_left (Nat.lt_trans hk hlt)] at hx
    exact up (I.cl k hk x hx z hz hr)
  · rcases (mem_take_more hy).mp hz with hz | rfl
    · exact up (I.clh z hz hr)
    · exact List.mem_append_right _ (by simp)
theorem WJ.fin (I : WJ R cs c0 at_ h i met) (hi : i = cs.length) : WI R cs c0 (at_ + 1) met := by
  have hlt : at_ < met.length := (List.getElem?_eq_some_iff.mp I.hh).1
  refine ⟨I.nd, I.h0, I.sub, fun k hk x hx y hy hr => ?_, hlt⟩
  by_cases e : k = at_
  · subst e
    rw [I.hh] at hx
    obtain rfl := Option.some.inj hx
    refine I.clh y ?_ hr
    rw [hi, List.take_length]
    exact hy
  · exact I.cl k (by omega) x hx y hy hr
theorem WI.len (I : WI R cs c0 at_ met) : met.length ≤ cs.length := nodup_len_le I.nd I.sub
/-- where all are reached, all are met -/
theorem WI.full (I : WI R cs c0 at_ met) (he : at_ = met.length) (hcs : cs.Nodup) (hr : ∀ c ∈ cs, Rch R cs c0 c) : met.length = cs.length := by
  refine Nat.le_antisymm I.len (nodup_len_le hcs fun c hc => ?_)
  refine Rch.closed I.h0 (fun x hx y hy hxy => ?_) c (hr c hc)
  obtain ⟨k, hk, e⟩ := List.mem_iff_getElem.mp hx
  exact I.cl k (by omega) x (by rw [List.getElem?_eq_getElem hk, e]) y hy hxy
end
end Mt
/-! reach. -/
namespace Tb
open PySem PySem.Spec PyProof.Rows L2 Mt
def kvs (fs : List Int) : List (Key × V) := fs.map fun z => ((Sum.inl z : Key), V.bl true)
theorem valV_kvs (z : Int) : ∀ fs : List Int, (valV (kvs fs) (Sum.inl z : Key)).isSome = decide (z ∈ fs)
  | [] => by simp [kvs, valV]
  | c :: fs => by
    have ih := valV_kvs z fs
    unfold kvs at ih ⊢
    rw [List.map_cons]
    by_cases e : c = z
    · subst e
      rw [valV_pos rfl]
      simp
    · rw [valV_neg (by intro q; exact e (Sum.inl.inj q)), ih]
      have h2 : ¬ z = c := fun q => e q.symm
      exact decide_eq_decide.mpr ⟨fun m => List.mem_cons_of_mem _ m, fun m => by
        rcases List.mem_cons.mp m with e | m
        · exact absurd e h2
        · exact m⟩
theorem put_kvs {z : Int} {fs : List Int} (h : ¬ z ∈ fs) : putK (kvs fs) (Sum.inl z : Key) (V.bl true) = kvs (fs ++ [z]) := by
  have e := valV_kvs z fs
  rw [decide_eq_false h] at e
  rw [putK_new _ (Option.isNone_iff_eq_none.mp (by rw [← Option.not_isSome, e]; rfl))]
  unfold kvs
  rw [List.map_append]
  rfl
theorem Held.mono {P : Program} {w : World} {K : PySem.W.Frag} {mg : Str → Option Value} {base : Heap} {j k : Nat} {f : Addr} {sp : Sp} (h : Held P w K mg base j f sp) (hjk : j ≤ k) : Held P w K mg base k f sp := by
  obtain ⟨fd, ps, F, h1, h2⟩ := h.ex
  exact ⟨fd, ps, F.mono hjk, h1, h2⟩
theorem snoc_of {α : Type} {l : List α} (h : l ≠ []) : ∃ m x, l = m ++ [x] := ⟨l.dropLast, l.getLast h, (List.dropLast_concat_getLast h).symm⟩
section
variable {P : Program} {w : World} {K : PySem.W.Frag} {mg : Str → Option Value} {base : Heap}
def spReach (P : Program) (w : World) (K : PySem.W.Frag) (mg : Str → Option Value) (base : Heap) : Sp := fun vs H Q _ => ∃ (v u : V) (f : Addr) (n : Int) (rs : List Rl) (cs : List Int) (t : Int) (R : List Rl → Int → Int → Bool),
  vs = [v, u, .int t, .ref f] ∧ At H v (probT n rs) ∧ ProbOk n rs ∧ At H u (setT cs) ∧ SetOk n cs ∧ t ∈ cs ∧ Held P w K mg base 5 f (spLead R) ∧
  ∀ (p : Addr) (ys : List Int) (H' : Hp), Same H H' → H' p = some (.tup (ys.map V.int)) → ys.Nodup → (∀ x, x ∈ ys ↔ Rch (R rs) cs t x) → Q (.ref p) H'
abbrev nReach : List Str := ["problem", "chosen", "task", "leads", "found", "waiting", "here", "other"]
theorem sc_reach : FnScope nReach ["problem", "chosen", "task", "leads"] (defScope (top 27)) := ⟨rfl, rfl, rfl, by decide +kernel, rfl, by decide +kernel, by decide +kernel⟩
theorem ok_reach (T : Txt w K mg) (F : DefAt K mg "reach" "reach" (top 27)) : Df P w K mg base 6 "reach" (spReach P w K mg base) := by
  refine F.ok sc_reach (fun _ _ _ _ _ _ us hl => match us, hl with | [_, _, _, _], _ => rfl) (fun vs H Q E h => ?_) (fun f cdv A outer s H vs Q E hr h => ?_)
  · obtain ⟨v, u, g, n, rs, cs, t, R, rfl, _⟩ := h
    rfl
  · obtain ⟨v, u, g, n, rs, cs, t, R, rfl, hv, hk, hu, hc, ht, hg, k⟩ := h
    have hun := hu_of hr
    obtain ⟨c, rfl, hcp⟩ := hu.set
    have hclen : (cs.map V.int).length = cs.length := List.length_map _
    have hl7 := hc.len
    refine ⟨_, pss_cons (ps_set (i := 4) sc_reach.nd rfl (Or.inl rfl) (pe_disp (pps_cons (pv 2) pe_bl pps_nil) (by rfl) (by rfl) (fun z => by cases z) (by decide)))
      (pss_cons (ps_set (i := 5) sc_reach.nd rfl (Or.inl rfl) (pe_lst (pa_cons (pv 2) pa_nil)))
      (pss_cons (ps_while PassesOwn.never (pt_truth (pv 5) (by intro _; rfl))
        (pss_cons (ps_set (i := 6) sc_reach.nd rfl (Or.inl rfl) (pe_bm0 PySem.F.plainAttrs_list PySem.F.slot_list_pop PySem.F.type_list_pop mt_pop (pv 5)))
        (pss_one (ps_for PassesOwn.never rfl (pi_tup (pv 1)) (pg_name (i := 7) sc_reach.nd rfl (Or.inl rfl))
          (pss_one (ps_if (PW.pt (pw_and (pt_cmp (pc_dnotin hun (pv 7) (pv 4))) (pw_and1 (pt_val (pe_held (i := 3) hg hr (pa_cons (pv 0) (pa_cons (pv 6) (pa_cons (pv 7) pa_nil))))))))
            (pss_cons (ps_dput hun (pv 4) (pv 7) pe_bl rfl)
            (pss_one (ps_expr (pe_bm PySem.F.plainAttrs_list PySem.F.slot_list_append PySem.F.type_list_append mt_append (pv 5) (pa_cons (pv 7) pa_nil)))))
            pss_nil))))))
      (pss_one (ps_ret (pe_callTy call_tuple_of rfl T.tuple (by decide +kernel) (pa_cons (pe_callB (call_sortedDI rfl) rfl T.sorted (by decide +kernel) (pa_cons (pv 4) pa_nil)) pa_nil)))))), ?_⟩
    intro d hd
    refine ⟨_, rfl, ?_⟩
    refine ⟨upd_same, [((Sum.inl t : Key), V.bl true)], rfl, Nat.le_add_left 1 14, ?_⟩
    have hd2 : (upd (upd H d (.dK [])) d (.dK (mergeK [] [((Sum.inl t : Key), V.bl true)]))) = upd H d (.dK (kvs [t])) := by
      rw [upd_upd]
      rfl
    rw [hd2]
    refine ⟨_, rfl, small1000 (by decide), fun l hl => ?_⟩
    have hld : l ≠ d := fun e => by
      subst e
      rw [upd_same] at hl
      cases hl
    have hl0 : H l = none := by
      rw [upd_ne hld] at hl
      exact hl
    have sm0 : Same H (upd (upd H d (.dK (kvs [t]))) l (.lst [.int t])) := Same.put (Same.new hd) hl0
    refine ⟨fun m σ H1 => ∃ (fs ws : List Int) (ho oo : Option V), σ = [some v, some (.ref c), some (.int t), some (.ref g), some (.ref d), some (.ref l), ho, oo] ∧ Same H H1 ∧ H1 d = some (.dK (kvs fs)) ∧ H1 l = some (.lst (ws.map V.int)) ∧ RI (R rs) cs t fs ws ∧ m = 2 * (cs.length - fs.length) + ws.length ∧ m ≤ 20,
      ⟨_, [t], [t], none, none, rfl, sm0, by rw [upd_ne hld.symm, upd_same], upd_same, RI.start ht, rfl, by show 2 * (cs.length - 1) + 1 ≤ 20; omega⟩, ?_⟩
    rintro m σ H1 ⟨fs, ws, ho, oo, rfl, s1, h1d, h1l, I, hm, hm20⟩
    refine ⟨_, rfl, !(ws.map V.int).isEmpty, .inl ⟨_, SqL.of h1l, rfl⟩, ?_⟩
    by_cases hw : ws = []
    · -- nothing waits
      subst hw
      refine iteFof rfl ?_
      have hks : (kvs fs).map (·.1) = fs.map Sum.inl := by
        unfold kvs
        rw [List.map_map]
        rfl
      have hfl : fs.length < 64 := by
        have := nodup_len_le I.nd I.sub
        omega
      refine ⟨_, rfl, d, kvs fs, fs, rfl, Rd.of h1d, hks, hfl, fun ys p hperm hsort hp => ?_⟩
      refine ⟨p, _, rfl, .inl ⟨SqL.of upd_same, fun q hq => ?_⟩⟩
      refine k q ys _ ((s1.trans (Same.new hp)).trans (Same.new hq)) upd_same (hperm.nodup_iff.mpr I.nd) fun x => ?_
      rw [hperm.mem_iff]
      exact I.all x
    · obtain ⟨ws0, h, rfl⟩ := snoc_of hw
      have hne : (!((ws0 ++ [h]).map V.int).isEmpty) = true := by
        rw [List.map_append]
        simp
      refine iteTof hne ?_
      refine ⟨fun σ' H' => ∃ m', m' < m ∧ ∃ (fs ws : List Int) (ho oo : Option V), σ' = [some v, some (.ref c), some (.int t), some (.ref g), some (.ref d), some (.ref l), ho, oo] ∧ Same H H' ∧ H' d = some (.dK (kvs fs)) ∧ H' l = some (.lst (ws.map V.int)) ∧ RI (R rs) cs t fs ws ∧ m' = 2 * (cs.length - fs.length) + ws.length ∧ m' ≤ 20, fun σ' H' z => z, ?_⟩
      have hpop : ((ws0 ++ [h]).map V.int)[((ws0 ++ [h]).map V.int).length - 1]? = some (.int h) := by
        rw [List.map_append]
        simp
      have hdrop : ((ws0 ++ [h]).map V.int).dropLast = ws0.map V.int := by
        rw [List.map_append]
        simp
      refine ⟨_, rfl, .inl ⟨rfl, _, SqL.of h1l⟩, l, _, .int h, rfl, rfl, h1l, hpop, ?_⟩
      rw [hdrop]
      have hcp1 := s1 _ _ hcp
      have s1' : Same H (upd H1 l (.lst (ws0.map V.int))) := Same.put s1 hl0
      refine ⟨_, rfl, c, rfl, ⟨_, SqT.of (s1' _ _ hcp)⟩, for_tup (K := K) (a := c) (xs := cs.map V.int)
        (fun i σ H2 => ∃ (fs' ws' : List Int) (oo : Option V), σ = [some v, some (.ref c), some (.int t), some (.ref g), some (.ref d), some (.ref l), some (.int h), oo] ∧ Same H H2 ∧ H2 d = some (.dK (kvs fs')) ∧ H2 l = some (.lst (ws'.map V.int)) ∧
          RJ (R rs) cs t h i fs' ws' ∧ 2 * (cs.length - fs'.length) + ws'.length < m)
        ⟨fs, ws0, oo, rfl, s1', by rw [upd_ne hld.symm]; exact h1d, upd_same, I.pop, by rw [hm, List.length_append]; exact Nat.lt_succ_self _⟩ (fun i σ H2 _ ⟨_, _, _, _, s2, _⟩ => SqT.of (s2 _ _ hcp)) ?_ ?_⟩
      · rintro i x σ H2 hi ⟨fs', ws', oo, rfl, s2, h2d, h2l, J, hJ⟩
        obtain ⟨y, hy, rfl⟩ := get_map hi
        have hfl := J.len
        refine ⟨_, rfl, _, rfl, d, _, rfl, DGet.k (k := Sum.inl y) h2d, _, rfl, ?_⟩
        rw [valV_kvs]
        by_cases hin : y ∈ fs'
        · refine iteFof (by rw [decide_eq_true hin]; rfl) ?_
          refine iteFof rfl ?_
          exact ⟨fs', ws', _, rfl, s2, h2d, h2l, J.skip hy (.inl hin), hJ⟩
        · refine iteTof (by rw [decide_eq_false hin]; rfl) ?_
          refine ⟨rfl, _, rfl, _, rfl, _, rfl, v, n, rs, h, y, rfl, hv.same s2, hk, fun H3 s3 => ⟨_, rfl, ?_⟩⟩
          have h3d := s3 _ _ h2d
          have h3l := s3 _ _ h2l
          by_cases hR : R rs h y = true
          · refine iteTof hR ?_
            have J' := J.add hy hin hR
            have hJl := J'.len
            rw [List.length_append] at hJl
            refine ⟨_, rfl, _, rfl, d, _, rfl, DPut.k (k := Sum.inl y) h3d (by unfold kvs; rw [List.length_map]; exact small1000 (by omega)), ?_⟩
            rw [put_kvs hin]
            have h4l : (upd H3 d (.dK (kvs (fs' ++ [y])))) l = some (.lst (ws'.map V.int)) := by
              rw [upd_ne hld]
              exact h3l
            have hsz : (ws'.map V.int).length < sizeLine := by
              rw [List.length_map]
              exact small1000 (by omega)
            refine ⟨_, rfl, .inl ⟨rfl, _, SqL.of h4l⟩, _, rfl, l, _, _, rfl, rfl, h4l, hsz, ?_⟩
            refine ⟨fs' ++ [y], ws' ++ [y], _, rfl, Same.put (Same.put (s2.trans s3) hd) hl0, by rw [upd_ne hld.symm, upd_same], by rw [upd_same, List.map_append]; rfl, J', ?_⟩
            rw [List.length_append, List.length_append]
            show 2 * (cs.length - (fs'.length + 1)) + (ws'.length + 1) < m
            have : fs'.length + 1 ≤ cs.length := hJl
            omega
          · refine iteFof (by simpa using hR) ?_
            exact ⟨fs', ws', _, rfl, s2.trans s3, h3d, h3l, J.skip hy (.inr (by simpa using hR)), hJ⟩
      · rintro σ H2 ⟨fs', ws', oo, rfl, s2, h2d, h2l, J, hJ⟩
        exact ⟨_, hJ, fs', ws', _, oo, rfl, s2, h2d, h2l, J.fin hclen, rfl, by omega⟩
end
end Tb
/-! told_split, stuck, split_of. -/
namespace Tb
open PySem PySem.Spec PyProof.Rows L2 Mt
theorem inV_ints_not {K : PySem.W.Frag} {i j : Nat} {σ : L2.St} {H : Hp} {Q : Bool → Hp → Prop} {x : Int} {a : Addr} {cs : List Int} (hi : σ[i]? = some (some (.int x))) (hj : σ[j]? = some (some (.ref a))) (h : SqL K H a (cs.map V.int) ∨ SqT K H a (cs.map V.int)) (k : Q (!decide (x ∈ cs)) H) : tTest (tOp (rIn K true) (tVar i) (tVar j)) σ H Q :=
  ⟨_, hi, _, hj, a, cs.map V.int, rfl, h, rfl, flat_ints cs, _, rfl, by
    show Q (!inV (.int x) (cs.map V.int)) H
    rw [inV_int]
    exact k⟩
theorem inV_ints_in {K : PySem.W.Frag} {i j : Nat} {σ : L2.St} {H : Hp} {Q : Bool → Hp → Prop} {x : Int} {a : Addr} {cs : List Int} (hi : σ[i]? = some (some (.int x))) (hj : σ[j]? = some (some (.ref a))) (h : SqL K H a (cs.map V.int) ∨ SqT K H a (cs.map V.int)) (k : Q (decide (x ∈ cs)) H) : tTest (tOp (rIn K false) (tVar i) (tVar j)) σ H Q :=
  ⟨_, hi, _, hj, a, cs.map V.int, rfl, h, rfl, flat_ints cs, _, rfl, by
    show Q (inV (.int x) (cs.map V.int)) H
    rw [inV_int]
    exact k⟩
section
variable {P : Program} {w : World} {K : PySem.W.Frag} {mg : Str → Option Value} {base : Heap}
def spTold : Sp := fun vs H Q _ => ∃ (v u : V) (n : Int) (rs : List Rl) (cs : List Int) (c0 : Int), vs = [v, u] ∧ At H v (probT n rs) ∧ ProbOk n rs ∧ At H u (setT cs) ∧ SetOk n cs ∧ cs[0]? = some c0 ∧
  (Stuck rs cs c0 → ∀ H', Same H H' → Q .non H') ∧ (¬ Stuck rs cs c0 → ∀ (p : Addr) (H' : Hp), Same H H' → Q (.ref p) H')
abbrev nTold : List Str := ["problem", "chosen", "part", "task", "other"]
theorem sc_told : FnScope nTold nPC (defScope (top 28)) := ⟨rfl, rfl, rfl, by decide +kernel, rfl, by decide +kernel, by decide +kernel⟩
theorem ok_told (T : Txt w K mg) (F : DefAt K mg "told_split" "told_split" (top 28)) (DR : Df P w K mg base 6 "reach" (spReach P w K mg base)) (DT : Df P w K mg base 4 "ties" (spLead ties)) (DB : Df P w K mg base 4 "bars" (spLead bars)) :
    Df P w K mg base 7 "told_split" spTold := by
  refine F.ok sc_told (fun _ _ _ _ _ _ us hl => match us, hl with | [_, _], _ => rfl) (fun vs H Q E h => ?_) (fun f cdv A outer s H vs Q E hr h => ?_)
  · obtain ⟨v, u, n, rs, cs, c0, rfl, _⟩ := h
    rfl
  · obtain ⟨v, u, n, rs, cs, c0, rfl, hv, hk, hu, hc, h0, kS, kN⟩ := h
    obtain ⟨c, rfl, hcp⟩ := hu.set
    have hclen : (cs.map V.int).length = cs.length := List.length_map _
    have hl7 := hc.len
    have hT5 := Held.mono (k := 5) DT.held (by decide)
    have hB5 := Held.mono (k := 5) DB.held (by decide)
    have hm0 : c0 ∈ cs := List.mem_of_getElem? h0
    refine ⟨_, pss_cons (ps_set (i := 2) sc_told.nd rfl (Or.inr rfl) (pe_df DR hr (pa_cons (pv 0) (pa_cons (pv 1) (pa_cons (pe_ix ix_tup (pv 1) pe_int (fun _ _ => rfl)) (pa_cons (pe_dv DT.g) pa_nil))))))
      (pss_cons (ps_if (pt_cmpR op_lt (pe_callB call_len_seq rfl T.len PySem.boot_len (pa_cons (pv 2) pa_nil)) (pe_callB call_len_seq rfl T.len PySem.boot_len (pa_cons (pv 1) pa_nil)) (nomark _))
        (pss_one (ps_ret (pe_tup (pa_cons pe_str (pa_cons (pv 2) (pa_cons (pe_callTy call_tuple_of rfl T.tuple (by decide +kernel) (pa_cons
          (pe_lc (own := [("task", 3)]) (g := gName 3) rfl sc_told.nd (pi_tup (pv 1)) (blkOk_by (N := nTold) (sc := defScope (top 28)) (by decide +kernel)) (fun _ _ _ _ _ => pg_name (i := 3) sc_told.nd rfl (Or.inl rfl))
            (fun _ _ _ _ _ => pts_one (pt_cmpR (opNotIn K) (pv 3) (pv 2) rfl)) (fun _ _ _ _ _ => pv 3)) pa_nil)) pa_nil)))))) pss_nil)
      (pss_cons (ps_for PassesOwn.never rfl (pi_tup (pv 1)) (pg_name (i := 3) sc_told.nd rfl (Or.inl rfl))
        (pss_cons (ps_set (i := 2) sc_told.nd rfl (Or.inr rfl) (pe_df DR hr (pa_cons (pv 0) (pa_cons (pv 1) (pa_cons (pv 3) (pa_cons (pe_dv DB.g) pa_nil))))))
        (pss_one (ps_if (pt_cmpR op_lt (pe_callB call_len_seq rfl T.len PySem.boot_len (pa_cons (pv 2) pa_nil)) (pe_callB call_len_seq rfl T.len PySem.boot_len (pa_cons (pv 1) pa_nil)) (nomark _))
          (pss_one (ps_ret (pe_tup (pa_cons pe_str (pa_cons (pv 2) (pa_cons (pe_callTy call_tuple_of rfl T.tuple (by decide +kernel) (pa_cons
            (pe_lc (own := [("other", 4)]) (g := gName 4) rfl sc_told.nd (pi_tup (pv 1)) (blkOk_by (N := nTold) (sc := defScope (top 28)) (by decide +kernel)) (fun _ _ _ _ _ => pg_name (i := 4) sc_told.nd rfl (Or.inl rfl))
              (fun _ _ _ _ _ => pts_one (pt_cmpR (opNotIn K) (pv 4) (pv 2) rfl)) (fun _ _ _ _ _ => pv 4)) pa_nil)) pa_nil)))))) pss_nil))))
      (pss_one (ps_ret pe_non)))), ?_⟩
    refine ⟨_, rfl, _, rfl, _, rfl, c, _, _, .int c0, rfl, rfl, SqT.of hcp, ?_, v, .ref c, _, n, rs, cs, c0, ties, rfl, hv, hk, hu, hc, hm0, hT5, fun p ys H1 s1 hp hnd hin => ?_⟩
    · exact at_of (j := 0) rfl (by rw [List.getElem?_map, h0]; rfl)
    have hsub : ∀ x ∈ ys, x ∈ cs := fun x hx => ((hin x).mp hx).mem hm0
    have hcp1 := s1 _ _ hcp
    refine ⟨_, rfl, p, _, rfl, .inr (SqT.of hp), _, rfl, c, _, rfl, .inr (SqT.of hcp1), _, _, rfl, rfl, _, rfl, ?_⟩
    refine ite2 (fun hlt => ?_) (fun hlt => ?_)
    · have hlt : ys.length < cs.length := by
        have := of_decide_eq_true hlt
        rw [List.length_map, List.length_map] at this
        omega
      have hns : ¬ Stuck rs cs c0 := fun z => (short_iff hnd hc.nodup hsub).mp hlt fun x hx => (hin x).mpr (z.1 x hx)
      refine ⟨_, rfl, _, rfl, c, rfl, ⟨_, SqT.of hcp1⟩, fun D1 hD => lcG hD (walk_tup (K := K) (a := c) (xs := cs.map V.int)) (l := cs) hclen.symm (fun x => !decide (x ∈ ys)) (fun x => Tb.T.int x) (small1000 (by omega)) (fun H' s => sqT s (SqT.of hcp1)) (fun j x q H' N1 N0 hx hq s n1 n0 => ?_) (fun H2 zs s2 hy2 ha2 => ?_)⟩
      · obtain ⟨q', hq', rfl⟩ := get_map hx
        rw [hq] at hq'
        obtain rfl := Option.some.inj hq'
        refine ⟨rfl, inV_ints_not (x := q) (cs := ys) rfl rfl (.inr (SqT.of (s _ _ hp))) ?_⟩
        by_cases c : (!decide (q ∈ ys)) = true
        · exact iteTof c ⟨_, rfl, n1 c _ _ (Same.refl _) (.int _)⟩
        · have c : (!decide (q ∈ ys)) = false := by simpa using c
          exact iteFof c (n0 c _ (Same.refl _))
      · refine ⟨D1, _, rfl, .inl ⟨SqL.of hy2, fun l hl => ?_⟩⟩
        refine ⟨(by show 3 ≤ sizeLine; decide), fun q hq => ?_⟩
        exact kN hns q _ (((s1.trans s2).trans (Same.new hl)).trans (Same.new hq))
    · have hall : ∀ x ∈ cs, Rch (ties rs) cs c0 x := fun x hx => (hin x).mp (nodup_full hnd hsub (by
        have : ¬ ((ys.map V.int).length : Int) < ((cs.map V.int).length : Int) := fun z => hlt (decide_eq_true z)
        rw [List.length_map, List.length_map] at this
        omega) x hx)
      refine ⟨_, rfl, c, rfl, ⟨_, SqT.of hcp1⟩, for_tup (K := K) (a := c) (xs := cs.map V.int)
        (fun i σ H2 => ∃ (po to : Option V), σ = [some v, some (.ref c), po, to, none] ∧ Same H H2 ∧ ∀ t ∈ cs.take i, ∀ x ∈ cs, Rch (bars rs) cs t x)
        ⟨_, _, rfl, s1, fun t ht => by simp at ht⟩ (fun i σ H2 _ ⟨_, _, _, s2, _⟩ => SqT.of (s2 _ _ hcp)) ?_ ?_⟩
      · rintro i x σ H2 hi ⟨po, to, rfl, s2, hI⟩
        obtain ⟨t, ht, rfl⟩ := get_map hi
        have hmt : t ∈ cs := List.mem_of_getElem? ht
        refine ⟨_, rfl, _, rfl, _, rfl, v, .ref c, _, n, rs, cs, t, bars, rfl, hv.same s2, hk, hu.same s2, hc, hmt, hB5, fun p2 zs H3 s3 hp2 hnd2 hin2 => ?_⟩
        have hsub2 : ∀ x ∈ zs, x ∈ cs := fun x hx => ((hin2 x).mp hx).mem hmt
        have s23 := s2.trans s3
        have hcp3 := s23 _ _ hcp
        refine ⟨_, rfl, p2, _, rfl, .inr (SqT.of hp2), _, rfl, c, _, rfl, .inr (SqT.of hcp3), _, _, rfl, rfl, _, rfl, ?_⟩
        refine ite2 (fun hlt2 => ?_) (fun hlt2 => ?_)
        · have hlt2 : zs.length < cs.length := by
            have := of_decide_eq_true hlt2
            rw [List.length_map, List.length_map] at this
            omega
          have hns : ¬ Stuck rs cs c0 := fun z => (short_iff hnd2 hc.nodup hsub2).mp hlt2 fun x hx => (hin2 x).mpr (z.2 t hmt x hx)
          refine ⟨_, rfl, _, rfl, c, rfl, ⟨_, SqT.of hcp3⟩, fun D1 hD => lcG hD (walk_tup (K := K) (a := c) (xs := cs.map V.int)) (l := cs) hclen.symm (fun x => !decide (x ∈ zs)) (fun x => Tb.T.int x) (small1000 (by omega)) (fun H' s => sqT s (SqT.of hcp3)) (fun j x q H' N1 N0 hx hq s n1 n0 => ?_) (fun H4 ws s4 hy4 ha4 => ?_)⟩
          · obtain ⟨q', hq', rfl⟩ := get_map hx
            rw [hq] at hq'
            obtain rfl := Option.some.inj hq'
            refine ⟨rfl, inV_ints_not (x := q) (cs := zs) rfl rfl (.inr (SqT.of (s _ _ hp2))) ?_⟩
            by_cases c : (!decide (q ∈ zs)) = true
            · exact iteTof c ⟨_, rfl, n1 c _ _ (Same.refl _) (.int _)⟩
            · have c : (!decide (q ∈ zs)) = false := by simpa using c
              exact iteFof c (n0 c _ (Same.refl _))
          · refine ⟨D1, _, rfl, .inl ⟨SqL.of hy4, fun l hl => ?_⟩⟩
            refine ⟨(by show 3 ≤ sizeLine; decide), fun q hq => ?_⟩
            exact kN hns q _ (((s23.trans s4).trans (Same.new hl)).trans (Same.new hq))
        · refine ⟨_, _, rfl, s23, fun t' ht' x hx => ?_⟩
          rcases (mem_take_more ht).mp ht' with ht' | rfl
          · exact hI t' ht' x hx
          · exact (hin2 x).mp (nodup_full hnd2 hsub2 (by
              have : ¬ ((zs.map V.int).length : Int) < ((cs.map V.int).length : Int) := fun z => hlt2 (decide_eq_true z)
              rw [List.length_map, List.length_map] at this
              omega) x hx)
      · rintro σ H2 ⟨po, to, rfl, s2, hI⟩
        rw [hclen, List.take_length] at hI
        exact kS ⟨hall, hI⟩ H2 s2
def spStuck : Sp := fun vs H Q _ => ∃ (v u : V) (n : Int) (rs : List Rl) (cs : List Int) (c0 : Int), vs = [v, u] ∧ At H v (probT n rs) ∧ ProbOk n rs ∧ At H u (setT cs) ∧ SetOk n cs ∧ cs[0]? = some c0 ∧ 2 ≤ cs.length ∧
  (Stuck rs cs c0 → ∀ H', Same H H' → Q (.bl true) H') ∧ (¬ Stuck rs cs c0 → ∀ H', Same H H' → Q (.bl false) H')
theorem sc_stuck : FnScope nPC nPC (defScope (top 29)) := ⟨rfl, rfl, rfl, by decide +kernel, rfl, by decide +kernel, by decide +kernel⟩
theorem ok_stuck (T : Txt w K mg) (F : DefAt K mg "stuck" "stuck" (top 29)) (D : Df P w K mg base 7 "told_split" spTold) : Df P w K mg base 8 "stuck" spStuck := by
  refine F.ok sc_stuck (fun _ _ _ _ _ _ us hl => match us, hl with | [_, _], _ => rfl) (fun vs H Q E h => ?_) (fun f cdv A outer s H vs Q E hr h => ?_)
  · obtain ⟨v, u, n, rs, cs, c0, rfl, _⟩ := h
    rfl
  · obtain ⟨v, u, n, rs, cs, c0, rfl, hv, hk, hu, hc, h0, h2, kS, kN⟩ := h
    obtain ⟨c, rfl, hcp⟩ := hu.set
    refine ⟨_, pss_one (ps_ret (pe_and (pe_cmpR op_gt (pe_callB call_len_seq rfl T.len PySem.boot_len (pa_cons (pv 1) pa_nil)) pe_int (nomark _)) (pe_one (pe_cmp (pc_isN (pe_df D hr (pa_cons (pv 0) (pa_cons (pv 1) pa_nil)))) rfl)))), ?_⟩
    refine ⟨_, rfl, c, _, rfl, .inr (SqT.of hcp), _, _, rfl, rfl, _, rfl, ?_⟩
    refine iteTof (decide_eq_true (by rw [List.length_map]; omega)) ?_
    exact ⟨_, rfl, _, rfl, v, .ref c, n, rs, cs, c0, rfl, hv, hk, hu, hc, h0, fun z H' s => kS z H' s, fun z p H' s => kN z H' s⟩
theorem sc_split : FnScope nPC nPC (defScope (top 30)) := ⟨rfl, rfl, rfl, by decide +kernel, rfl, by decide +kernel, by decide +kernel⟩
theorem ok_split (F : DefAt K mg "split_of" "split_of" (top 30)) (DC : Df P w K mg base 6 "check_chosen" spChkC) (D : Df P w K mg base 7 "told_split" spTold) : Df P w K mg base 8 "split_of" spTold := by
  refine F.ok sc_split (fun _ _ _ _ _ _ us hl => match us, hl with | [_, _], _ => rfl) (fun vs H Q E h => ?_) (fun f cdv A outer s H vs Q E hr h => ?_)
  · obtain ⟨v, u, n, rs, cs, c0, rfl, _⟩ := h
    rfl
  · obtain ⟨v, u, n, rs, cs, c0, rfl, hv, hk, hu, hc, h0, kS, kN⟩ := h
    have hr6 : Room 6 _ := hr.mono (by decide)
    refine ⟨_, pss_cons (ps_expr (pe_df DC hr6 (pa_cons (pv 0) (pa_cons (pv 1) pa_nil)))) (pss_one (ps_ret (pe_df D hr (pa_cons (pv 0) (pa_cons (pv 1) pa_nil))))), ?_⟩
    refine ⟨_, rfl, _, rfl, v, u, n, rs, cs, rfl, hv, hk, hu, hc, fun H1 s1 => ?_⟩
    exact ⟨_, rfl, _, rfl, v, u, n, rs, cs, c0, rfl, hv.same s1, hk, hu.same s1, hc, h0, fun z H' s => kS z H' (s1.trans s), fun z p H' s => kN z p H' (s1.trans s)⟩
end
end Tb
/-! walked, grounds_for. -/
namespace Tb
open PySem PySem.Spec PyProof.Rows L2 Mt
/-- a list at p whose items are pairs -/
def LstAt (H : Hp) (p : Addr) (ps : List (Int × Int)) : Prop := ∃ xs, H p = some (.lst xs) ∧ Ats H xs (ps.map pairT)
theorem LstAt.same {H H' : Hp} {p : Addr} {ps : List (Int × Int)} (h : LstAt H p ps) (s : Same H H') : LstAt H' p ps := by
  obtain ⟨xs, h1, h2⟩ := h
  exact ⟨xs, s _ _ h1, h2.same s⟩
/-- a tuple of its items is a row -/
theorem LstAt.row {H : Hp} {ps : List (Int × Int)} {xs : List V} {l : Addr} (h : Ats H xs (ps.map pairT)) (hl : H l = none) : At (upd H l (.tup xs)) (.ref l) (rowT ps) := .tup upd_same (h.same (Same.new hl))
def gT (a b c : List (Int × Int)) : T := .tup [rowT a, rowT b, rowT c]
section
variable {P : Program} {w : World} {K : PySem.W.Frag} {mg : Str → Option Value} {base : Heap}
def spWalked (P : Program) (w : World) (K : PySem.W.Frag) (mg : Str → Option Value) (base : Heap) : Sp := fun vs H Q _ => ∃ (v u : V) (f : Addr) (n : Int) (rs : List Rl) (cs : List Int) (c0 : Int) (R : List Rl → Int → Int → Bool),
  vs = [v, u, .ref f] ∧ At H v (probT n rs) ∧ ProbOk n rs ∧ At H u (setT cs) ∧ SetOk n cs ∧ cs[0]? = some c0 ∧ Held P w K mg base 5 f (spLead R) ∧ (∀ c ∈ cs, Rch (R rs) cs c0 c) ∧
  ∀ (p : Addr) (ps : List (Int × Int)) (H' : Hp), Same H H' → LstAt H' p ps → ps.length + 1 = cs.length → Q (.ref p) H'
abbrev nWalk : List Str := ["problem", "chosen", "leads", "met", "found", "at", "other"]
theorem sc_walked : FnScope nWalk ["problem", "chosen", "leads"] (defScope (top 33)) := ⟨rfl, rfl, rfl, by decide +kernel, rfl, by decide +kernel, by decide +kernel⟩
theorem ok_walked (T : Txt w K mg) (F : DefAt K mg "walked" "walked" (top 33)) : Df P w K mg base 6 "walked" (spWalked P w K mg base) := by
  refine F.ok sc_walked (fun _ _ _ _ _ _ us hl => match us, hl with | [_, _, _], _ => rfl) (fun vs H Q E h => ?_) (fun f cdv A outer s H vs Q E hr h => ?_)
  · obtain ⟨v, u, g, n, rs, cs, c0, R, rfl, _⟩ := h
    rfl
  · obtain ⟨v, u, g, n, rs, cs, c0, R, rfl, hv, hk, hu, hc, h0, hg, hall, k⟩ := h
    obtain ⟨c, rfl, hcp⟩ := hu.set
    have hclen : (cs.map V.int).length = cs.length := List.length_map _
    have hl7 := hc.len
    have hm0 : c0 ∈ cs := List.mem_of_getElem? h0
    refine ⟨_, pss_cons (ps_set (i := 3) sc_walked.nd rfl (Or.inl rfl) (pe_lst (pa_cons (pe_ix ix_tup (pv 1) pe_int (fun _ _ => rfl)) pa_nil)))
      (pss_cons (ps_set (i := 4) sc_walked.nd rfl (Or.inl rfl) (pe_lst pa_nil))
      (pss_cons (ps_set (i := 5) sc_walked.nd rfl (Or.inl rfl) pe_int)
      (pss_cons (ps_while PassesOwn.never (pt_cmpR op_lt (pv 5) (pe_callB call_len_seq rfl T.len PySem.boot_len (pa_cons (pv 3) pa_nil)) (nomark _))
        (pss_cons (ps_for PassesOwn.never rfl (pi_tup (pv 1)) (pg_name (i := 6) sc_walked.nd rfl (Or.inl rfl))
          (pss_one (ps_if (PW.pt (pw_and (pt_cmpR op_notIn_seq (pv 6) (pv 3) rfl) (pw_and1 (pt_val (pe_held (i := 2) hg hr (pa_cons (pv 0) (pa_cons (pe_ix ix_list (pv 3) (pv 5) (fun _ _ => rfl)) (pa_cons (pv 6) pa_nil))))))))
            (pss_cons (ps_expr (pe_bm PySem.F.plainAttrs_list PySem.F.slot_list_append PySem.F.type_list_append mt_append (pv 4) (pa_cons (pe_tup (pa_cons (pe_ix ix_list (pv 3) (pv 5) (fun _ _ => rfl)) (pa_cons (pv 6) pa_nil))) pa_nil)))
            (pss_one (ps_expr (pe_bm PySem.F.plainAttrs_list PySem.F.slot_list_append PySem.F.type_list_append mt_append (pv 3) (pa_cons (pv 6) pa_nil)))))
            pss_nil)))
        (pss_one (ps_set (i := 5) sc_walked.nd rfl (Or.inl rfl) (pe_op op_add (pv 5) pe_int)))))
      (pss_one (ps_ret (pe_ifExp (pt_cmpR op_eq (pe_callB call_len_seq rfl T.len PySem.boot_len (pa_cons (pv 3) pa_nil)) (pe_callB call_len_seq rfl T.len PySem.boot_len (pa_cons (pv 1) pa_nil)) (nomark _)) (pv 4) pe_non)))))), ?_⟩
    refine ⟨_, rfl, c, _, _, .int c0, rfl, rfl, SqT.of hcp, at_of (j := 0) rfl (by rw [List.getElem?_map, h0]; rfl), small1000 (by decide), fun l hl => ?_⟩
    have hl0 : Same H (upd H l (.lst [.int c0])) := Same.new hl
    refine ⟨Nat.zero_le _, fun e he => ?_⟩
    have hle : l ≠ e := ne_of_none (o := .lst [.int c0]) upd_same he
    have he0 : H e = none := hl0.free he
    have s0 : Same H (upd (upd H l (.lst [.int c0])) e (.lst [])) := Same.put hl0 he0
    refine ⟨fun m σ H1 => ∃ (at_ : Nat) (met : List Int) (ps : List (Int × Int)) (xs : List V) (oo : Option V), σ = [some v, some (.ref c), some (.ref g), some (.ref l), some (.ref e), some (.int at_), oo] ∧ Same H H1 ∧ H1 l = some (.lst (met.map V.int)) ∧ H1 e = some (.lst xs) ∧
      Ats H1 xs (ps.map pairT) ∧ ps.length + 1 = met.length ∧ WI (R rs) cs c0 at_ met ∧ m = cs.length - at_,
      ⟨_, 0, [c0], [], [], none, rfl, s0, by rw [upd_ne hle, upd_same]; rfl, upd_same, .nil, rfl, WI.start hm0, rfl⟩, ?_⟩
    rintro m σ H1 ⟨at_, met, ps, xs, oo, rfl, s1, h1l, h1e, hxs, hps, I, hm⟩
    have hml : (met.map V.int).length = met.length := List.length_map _
    have hmc := I.len
    refine ⟨_, rfl, _, rfl, l, _, rfl, .inl (SqL.of h1l), _, _, rfl, rfl, _, rfl, ?_⟩
    by_cases hlt : at_ < met.length
    · refine iteTof (decide_eq_true (by omega)) ?_
      obtain ⟨h, hh⟩ : ∃ h, met[at_]? = some h := ⟨met[at_], List.getElem?_eq_getElem hlt⟩
      refine ⟨fun σ' H' => ∃ m', m' < m ∧ ∃ (at_ : Nat) (met : List Int) (ps : List (Int × Int)) (xs : List V) (oo : Option V), σ' = [some v, some (.ref c), some (.ref g), some (.ref l), some (.ref e), some (.int at_), oo] ∧ Same H H' ∧ H' l = some (.lst (met.map V.int)) ∧ H' e = some (.lst xs) ∧
        Ats H' xs (ps.map pairT) ∧ ps.length + 1 = met.length ∧ WI (R rs) cs c0 at_ met ∧ m' = cs.length - at_, fun σ' H' z => z, ?_⟩
      refine ⟨_, rfl, c, rfl, ⟨_, SqT.of (s1 _ _ hcp)⟩, for_tup (K := K) (a := c) (xs := cs.map V.int)
        (fun i σ H2 => ∃ (met : List Int) (ps : List (Int × Int)) (xs : List V) (oo : Option V), σ = [some v, some (.ref c), some (.ref g), some (.ref l), some (.ref e), some (.int at_), oo] ∧ Same H H2 ∧ H2 l = some (.lst (met.map V.int)) ∧ H2 e = some (.lst xs) ∧
          Ats H2 xs (ps.map pairT) ∧ ps.length + 1 = met.length ∧ WJ (R rs) cs c0 at_ h i met)
        ⟨met, ps, xs, oo, rfl, s1, h1l, h1e, hxs, hps, I.look hh⟩ (fun i σ H2 _ ⟨_, _, _, _, _, s2, _⟩ => SqT.of (s2 _ _ hcp)) ?_ ?_⟩
      · rintro i x σ H2 hi ⟨met, ps, xs, oo, rfl, s2, h2l, h2e, hxs, hps, J⟩
        obtain ⟨y, hy, rfl⟩ := get_map hi
        have hJc : met.length ≤ cs.length := nodup_len_le J.nd J.sub
        refine ⟨_, rfl, _, rfl, l, met.map V.int, rfl, .inl (SqL.of h2l), rfl, flat_ints met, _, rfl, ?_⟩
        by_cases hin : y ∈ met
        · refine iteFof (by show (!inV (.int y) (met.map V.int)) = false; rw [inV_int, decide_eq_true hin]; rfl) ?_
          refine iteFof rfl ?_
          exact ⟨met, ps, xs, _, rfl, s2, h2l, h2e, hxs, hps, J.skip hy (.inl hin)⟩
        · refine iteTof (by show (!inV (.int y) (met.map V.int)) = true; rw [inV_int, decide_eq_false hin]; rfl) ?_
          have hat : atI (met.map V.int) (at_ : Int) = some (.int h) := at_of (j := at_) rfl (by rw [List.getElem?_map, J.hh]; rfl)
          refine ⟨rfl, _, rfl, _, rfl, _, rfl, l, _, _, .int h, rfl, rfl, SqL.of h2l, hat, _, rfl, v, n, rs, h, y, rfl, hv.same s2, hk, fun H3 s3 => ⟨_, rfl, ?_⟩⟩
          have h3l := s3 _ _ h2l
          have h3e := s3 _ _ h2e
          by_cases hR : R rs h y = true
          · refine iteTof hR ?_
            refine ⟨_, rfl, .inl ⟨rfl, _, SqL.of h3e⟩, _, rfl, _, rfl, l, _, _, .int h, rfl, rfl, SqL.of h3l, hat, _, rfl, (by show 2 ≤ sizeLine; decide), fun q hq => ?_⟩
            have hqe : e ≠ q := ne_of_none h3e hq
            have hql : l ≠ q := ne_of_none h3l hq
            have s4 : Same H3 (upd H3 q (.tup [.int h, .int y])) := Same.new hq
            have hsz : xs.length < sizeLine := small1000 (by have := hxs.length; rw [List.length_map] at this; omega)
            refine ⟨e, xs, .ref q, rfl, rfl, s4 _ _ h3e, hsz, ?_⟩
            have k5 : Kp (upd H3 q (.tup [.int h, .int y])) (upd (upd H3 q (.tup [.int h, .int y])) e (.lst (xs ++ [.ref q]))) := (Kp.refl _).putL (s4 _ _ h3e)
            have h5l : (upd (upd H3 q (.tup [.int h, .int y])) e (.lst (xs ++ [.ref q]))) l = some (.lst (met.map V.int)) := by
              rw [upd_ne hle]
              exact s4 _ _ h3l
            refine ⟨_, rfl, .inl ⟨rfl, _, SqL.of h5l⟩, _, rfl, l, _, _, rfl, rfl, h5l, (by rw [List.length_map]; exact small1000 (by omega)), ?_⟩
            have k6 : Kp (upd (upd H3 q (.tup [.int h, .int y])) e (.lst (xs ++ [.ref q]))) (upd (upd (upd H3 q (.tup [.int h, .int y])) e (.lst (xs ++ [.ref q]))) l (.lst (met.map V.int ++ [.int y]))) := (Kp.refl _).putL h5l
            have a1 : Ats (upd H3 q (.tup [.int h, .int y])) (xs ++ [.ref q]) ((ps ++ [(h, y)]).map pairT) := by
              rw [List.map_append]
              exact ((hxs.same s3).same s4).snoc (.tup upd_same (.cons (.int h) (.cons (.int y) .nil)))
            refine ⟨met ++ [y], ps ++ [(h, y)], xs ++ [.ref q], _, rfl, Same.put (Same.put ((s2.trans s3).trans s4) he0) hl, by rw [upd_same, List.map_append]; rfl, by rw [upd_ne hle.symm, upd_same], (a1.keep k5).keep k6, by rw [List.length_append, List.length_append]; exact congrArg (· + 1) hps, J.add hy hin⟩
          · have hR : R rs h y = false := by simpa using hR
            refine iteFof hR ?_
            exact ⟨met, ps, xs, _, rfl, s2.trans s3, h3l, h3e, hxs.same s3, hps, J.skip hy (.inr hR)⟩
      · rintro σ H2 ⟨met, ps, xs, oo, rfl, s2, h2l, h2e, hxs, hps, J⟩
        refine ⟨_, rfl, _, _, rfl, rfl, ?_⟩
        have J' := J.fin hclen
        exact ⟨cs.length - (at_ + 1), by omega, at_ + 1, met, ps, xs, oo, rfl, s2, h2l, h2e, hxs, hps, J', rfl⟩
    · refine iteFof (decide_eq_false (by omega)) ?_
      have hfull := I.full (by have := I.le; omega) hc.nodup hall
      refine ⟨_, rfl, l, _, rfl, .inl (SqL.of h1l), _, rfl, c, _, rfl, .inr (SqT.of (s1 _ _ hcp)), rfl, _, rfl, ?_⟩
      refine iteTof (decide_eq_true (by rw [List.length_map, List.length_map, hfull])) ?_
      exact ⟨_, rfl, k e ps H1 s1 ⟨xs, h1e, hxs⟩ (by omega)⟩
end
end Tb
/-! grounds_for; are_pairs. -/
namespace Tb
open PySem PySem.Spec PyProof.Rows L2 Mt
theorem At.pair {H : Hp} {v : V} {p : Int × Int} (h : At H v (pairT p)) : ∃ a, v = .ref a ∧ H a = some (.tup [.int p.1, .int p.2]) := by
  obtain ⟨a, xs, rfl, h, k⟩ := h.tup_ref
  obtain ⟨x, y, rfl, h1, h2⟩ := k.two
  rw [h1.int_inv, h2.int_inv] at h
  exact ⟨a, rfl, h⟩
def swp (p : Int × Int) : Int × Int := (p.2, p.1)
section
variable {P : Program} {w : World} {K : PySem.W.Frag} {mg : Str → Option Value} {base : Heap}
def spGrounds : Sp := fun vs H Q _ => ∃ (v u : V) (n : Int) (rs : List Rl) (cs : List Int) (c0 : Int), vs = [v, u] ∧ At H v (probT n rs) ∧ ProbOk n rs ∧ At H u (setT cs) ∧ SetOk n cs ∧ cs[0]? = some c0 ∧ 2 ≤ cs.length ∧
  (∀ H', Same H H' → Q .non H') ∧
  (∀ (p : Addr) (H' : Hp) (r0 r1 r2 : List (Int × Int)), Same H H' → At H' (.ref p) (gT r0 r1 r2) → r0.length + 1 = cs.length → r1.length + 1 = cs.length → r2.length + 1 = cs.length → Q (.ref p) H')
abbrev nGf : List Str := ["problem", "chosen", "back", "here", "other"]
theorem sc_gf : FnScope nGf nPC (defScope (top 34)) := ⟨rfl, rfl, rfl, by decide +kernel, rfl, by decide +kernel, by decide +kernel⟩
theorem ok_gf (T : Txt w K mg) (F : DefAt K mg "grounds_for" "grounds_for" (top 34)) (DC : Df P w K mg base 6 "check_chosen" spChkC) (DS : Df P w K mg base 8 "stuck" spStuck) (DW : Df P w K mg base 6 "walked" (spWalked P w K mg base))
    (DT : Df P w K mg base 4 "ties" (spLead ties)) (DB : Df P w K mg base 4 "bars" (spLead bars)) (DD : Df P w K mg base 5 "is_barred" (spLead barred)) : Df P w K mg base 9 "grounds_for" spGrounds := by
  refine F.ok sc_gf (fun _ _ _ _ _ _ us hl => match us, hl with | [_, _], _ => rfl) (fun vs H Q E h => ?_) (fun f cdv A outer s H vs Q E hr h => ?_)
  · obtain ⟨v, u, n, rs, cs, c0, rfl, _⟩ := h
    rfl
  · obtain ⟨v, u, n, rs, cs, c0, rfl, hv, hk, hu, hc, h0, h2, kN, kG⟩ := h
    have hr6 : Room 6 _ := hr.mono (by decide)
    have hT5 := Held.mono (k := 5) DT.held (by decide)
    have hB5 := Held.mono (k := 5) DB.held (by decide)
    have hm0 : c0 ∈ cs := List.mem_of_getElem? h0
    have hl7 := hc.len
    refine ⟨_, pss_cons (ps_expr (pe_df DC hr6 (pa_cons (pv 0) (pa_cons (pv 1) pa_nil))))
      (pss_cons (ps_if (pt_not (pt_val (pe_df DS hr (pa_cons (pv 0) (pa_cons (pv 1) pa_nil))))) (pss_one (ps_ret pe_non)) pss_nil)
      (pss_cons (ps_setLc (i := 2) (own := [("here", 3), ("other", 4)]) (g := gTup K 2 (gCons (gName 3) (gCons (gName 4) gNil))) (tt := tYes) rfl sc_gf.nd rfl rfl (sw_true rfl rfl rfl (by decide +kernel))
        (pi_list (pe_df DW hr6 (pa_cons (pv 0) (pa_cons (pv 1) (pa_cons (pe_dv DD.g) pa_nil))))) (blkOk_by (N := nGf) (sc := defScope (top 34)) (by decide +kernel))
        (fun _ _ _ _ _ => pg_tup rfl (pgs_cons (pg_name (i := 3) sc_gf.nd rfl (Or.inl rfl)) (pgs_cons (pg_name (i := 4) sc_gf.nd rfl (Or.inl rfl)) pgs_nil))) (fun _ _ _ _ _ => pts_nil) (fun _ _ _ _ _ => pe_tup (pa_cons (pv 4) (pa_cons (pv 3) pa_nil))))
      (pss_one (ps_ret (pe_tup (pa_cons (pe_callTy call_tuple_of rfl T.tuple (by decide +kernel) (pa_cons (pe_df DW hr6 (pa_cons (pv 0) (pa_cons (pv 1) (pa_cons (pe_dv DT.g) pa_nil)))) pa_nil))
        (pa_cons (pe_callTy call_tuple_of rfl T.tuple (by decide +kernel) (pa_cons (pe_df DW hr6 (pa_cons (pv 0) (pa_cons (pv 1) (pa_cons (pe_dv DB.g) pa_nil)))) pa_nil))
        (pa_cons (pe_callTy call_tuple_of rfl T.tuple (by decide +kernel) (pa_cons (pv 2) pa_nil)) pa_nil)))))))), ?_⟩
    refine ⟨_, rfl, _, rfl, v, u, n, rs, cs, rfl, hv, hk, hu, hc, fun H1 s1 => ?_⟩
    have hv1 := hv.same s1
    have hu1 := hu.same s1
    by_cases hst : Stuck rs cs c0
    · refine ⟨_, rfl, _, rfl, v, u, n, rs, cs, c0, rfl, hv1, hk, hu1, hc, h0, h2, fun _ H2 s2 => ⟨_, rfl, ?_⟩, fun z => absurd hst z⟩
      refine iteFof rfl ?_
      have s12 := s1.trans s2
      have hbk : ∀ t ∈ cs, Rch (bars rs) cs t c0 := fun t ht => hst.2 t ht c0 hm0
      refine ⟨_, rfl, _, rfl, v, u, _, n, rs, cs, c0, barred, rfl, hv.same s12, hk, hu.same s12, hc, h0, DD.held, hst.back hm0, fun lp pb H3 s3 hpb hlb => ?_⟩
      obtain ⟨xs, hlp, hxs⟩ := hpb
      have s13 := s12.trans s3
      have hxl : xs.length = pb.length := by rw [hxs.length, List.length_map]
      refine ⟨lp, rfl, ⟨_, SqL.of hlp⟩, fun D hD => lcG hD (walk_list (K := K) (a := lp) (xs := xs)) (l := pb) hxl.symm (fun _ => true) (fun p => pairT (swp p)) (small1000 (by omega)) (fun H' s => s.seq (SqL.of hlp)) (fun j x p H' N1 N0 hx hp s n1 n0 => ?_) (fun H4 ys s4 hy4 ha4 => ?_)⟩
      · obtain ⟨t, ht, hxt⟩ := hxs.get hx
        obtain ⟨p', hp', rfl⟩ := get_map ht
        rw [hp] at hp'
        obtain rfl := Option.some.inj hp'
        obtain ⟨a, rfl, ha⟩ := (hxt.same s).pair
        refine ⟨a, _, rfl, SqT.of ha, rfl, _, _, rfl, _, _, rfl, rfl, rfl, lc_yes ?_⟩
        refine ⟨_, rfl, _, rfl, (by show 2 ≤ sizeLine; decide), fun q hq => ?_⟩
        exact n1 rfl _ _ (Same.new hq) (.tup upd_same (.cons (.int _) (.cons (.int _) .nil)))
      · rw [filter_yes] at ha4
        have ha4 : Ats H4 ys ((pb.map swp).map pairT) := by
          rw [List.map_map]
          exact ha4
        have s14 := s13.trans s4
        refine ⟨_, rfl, _, rfl, v, u, _, n, rs, cs, c0, ties, rfl, hv.same s14, hk, hu.same s14, hc, h0, hT5, hst.1, fun l0 p0 H5 s5 hp0 hl0 => ?_⟩
        obtain ⟨x0, hl0', hx0⟩ := hp0
        refine ⟨l0, x0, rfl, .inl ⟨SqL.of hl0', fun t0 ht0 => ?_⟩⟩
        have a0 := LstAt.row hx0 ht0
        have s15 := (s14.trans s5).trans (Same.new (o := .tup x0) ht0)
        have s45 := s5.trans (Same.new (o := .tup x0) ht0)
        refine ⟨_, rfl, _, rfl, v, u, _, n, rs, cs, c0, bars, rfl, hv.same s15, hk, hu.same s15, hc, h0, hB5, fun c hcc => hst.2 c0 hm0 c hcc, fun l1 p1 H6 s6 hp1 hl1 => ?_⟩
        obtain ⟨x1, hl1', hx1⟩ := hp1
        refine ⟨l1, x1, rfl, .inl ⟨SqL.of hl1', fun t1 ht1 => ?_⟩⟩
        have a1 := LstAt.row hx1 ht1
        have s56 := s6.trans (Same.new (o := .tup x1) ht1)
        have s46 := s45.trans s56
        refine ⟨_, rfl, D, ys, rfl, .inl ⟨SqL.of (s46 _ _ hy4), fun t2 ht2 => ?_⟩⟩
        have a2 := LstAt.row (ha4.same s46) ht2
        have s6e := Same.new (o := .tup ys) ht2
        refine ⟨(by show 3 ≤ sizeLine; decide), fun q hq => ?_⟩
        have sq := Same.new (o := .tup [.ref t0, .ref t1, .ref t2]) hq
        refine kG q _ p0 p1 (pb.map swp) (((s15.trans s56).trans s6e).trans sq) (.tup upd_same (.cons ?_ (.cons ?_ (.cons ?_ .nil)))) hl0 hl1 (by rw [List.length_map]; exact hlb)
        · exact ((a0.same s56).same s6e).same sq
        · exact (a1.same s6e).same sq
        · exact a2.same sq
    · refine ⟨_, rfl, _, rfl, v, u, n, rs, cs, c0, rfl, hv1, hk, hu1, hc, h0, h2, fun z => absurd z hst, fun _ H2 s2 => ⟨_, rfl, ?_⟩⟩
      refine iteTof rfl ?_
      exact kN H2 (s1.trans s2)
end
end Tb
/-! are_pairs, meets_all (over a tuple, over a list). -/
namespace Tb
open PySem PySem.Spec PyProof.Rows L2 Mt
def isPair (n : Int) : T → Bool
  | .tup [a, b] => isTask n a && isTask n b
  | _ => false
def arePairs (n : Int) : T → Bool
  | .tup ts => ts.all (isPair n)
  | _ => false
theorem isPair_not {n : Int} {ts : List T} (h : ts.length ≠ 2) : isPair n (.tup ts) = false := by
  match ts, h with
  | [], _ => rfl
  | [_], _ => rfl
  | [_, _], h => exact absurd rfl h
  | _ :: _ :: _ :: _, _ => rfl
theorem all_not {n : Int} {ts : List T} {t : T} (h : t ∈ ts) (hn : isPair n t = false) : arePairs n (.tup ts) = false := by
  show ts.all (isPair n) = false
  cases e : ts.all (isPair n) with
  | false => rfl
  | true =>
    have := List.all_eq_true.mp e t h
    rw [hn] at this
    cases this
theorem meets_no {R : Int → Int → Bool} {cs : List Int} {h o : Int} {ps : List (Int × Int)} {met : List Int} (c : ¬ h ∈ met ∨ o ∈ met ∨ ¬ o ∈ cs ∨ R h o = false) : meets R cs ((h, o) :: ps) met = false := by
  unfold meets
  exact if_pos c
theorem meets_yes {R : Int → Int → Bool} {cs : List Int} {h o : Int} {ps : List (Int × Int)} {met : List Int} (c : ¬ (¬ h ∈ met ∨ o ∈ met ∨ ¬ o ∈ cs ∨ R h o = false)) : meets R cs ((h, o) :: ps) met = meets R cs ps (met ++ [o]) := by
  rw [meets]
  exact if_neg c
theorem drop_at {α : Type} {l : List α} {i : Nat} {x : α} (h : l[i]? = some x) : l.drop i = x :: l.drop (i + 1) := by
  obtain ⟨hi, e⟩ := List.getElem?_eq_some_iff.mp h
  rw [List.drop_eq_getElem_cons hi, e]
section
variable {P : Program} {w : World} {K : PySem.W.Frag} {mg : Str → Option Value} {base : Heap}
def spPairs : Sp := fun vs H Q _ => ∃ (v : V) (t : T) (n : Int), vs = [v, .int n] ∧ At H v t ∧ Q (.bl (arePairs n t)) H
theorem sc_pairs : FnScope ["value", "size", "pair"] ["value", "size"] (defScope (top 35)) := ⟨rfl, rfl, rfl, by decide +kernel, rfl, by decide +kernel, by decide +kernel⟩
theorem ok_pairs (T : Txt w K mg) (F : DefAt K mg "are_pairs" "are_pairs" (top 35)) (D : Df P w K mg base 1 "is_task_sticking" spTask) : Df P w K mg base 2 "are_pairs" spPairs := by
  refine F.ok sc_pairs (fun _ _ _ _ _ _ us hl => match us, hl with | [_, _], _ => rfl) (fun vs H Q E h => ?_) (fun f cdv A outer s H vs Q E hr h => ?_)
  · obtain ⟨v, t, n, rfl, _⟩ := h
    rfl
  · obtain ⟨v, t, n, rfl, ha, k⟩ := h
    refine ⟨_, pss_cons (ps_if (pt_not (pt_val (pe_isi (n := "tuple") T.isi T.tuple (pv 0)))) (pss_one (ps_ret pe_bl)) pss_nil)
      (pss_cons (ps_for PassesOwn.never rfl (pi_tup (pv 0)) (pg_name (i := 2) sc_pairs.nd rfl (Or.inl rfl))
        (pss_one (ps_if (PW.pt (pw_or (pt_not (pt_val (pe_isi (n := "tuple") T.isi T.tuple (pv 2)))) (pw_or (pt_cmpR op_ne (pe_callB call_len_seq rfl T.len PySem.boot_len (pa_cons (pv 2) pa_nil)) pe_int (nomark _))
          (pw_or (pt_not (pt_val (pe_df D hr (pa_cons (pe_ix ix_tup (pv 2) pe_int (fun _ _ => rfl)) (pa_cons (pv 1) pa_nil))))) (pw_or1 (pt_not (pt_val (pe_df D hr (pa_cons (pe_ix ix_tup (pv 2) pe_int (fun _ _ => rfl)) (pa_cons (pv 1) pa_nil))))))))))
          (pss_one (ps_ret pe_bl)) pss_nil)))
      (pss_one (ps_ret pe_bl))), ?_⟩
    refine isi_var rfl ha (kit_tup t) ⟨_, rfl, ?_⟩
    cases t with
    | non => exact iteTof rfl k
    | bl b => exact iteTof rfl k
    | int i => exact iteTof rfl k
    | str x => exact iteTof rfl k
    | lst => exact iteTof rfl k
    | tup ts =>
      refine iteFof rfl ?_
      obtain ⟨a, xs, rfl, hp, hxs⟩ := ha.tup_ref
      have hlen := hxs.length
      refine ⟨_, rfl, a, rfl, ⟨_, SqT.of hp⟩, for_tup (K := K) (a := a) (xs := xs) (fun i σ H1 => ∃ po : Option V, σ = [some (.ref a), some (.int n), po] ∧ H1 = H ∧ ∀ t ∈ ts.take i, isPair n t = true)
        ⟨none, rfl, rfl, fun t ht => by simp at ht⟩ (fun i σ H1 _ ⟨_, _, e, _⟩ => by subst e; exact SqT.of hp) ?_ ?_⟩
      · rintro i x σ H1 hi ⟨po, rfl, rfl, hI⟩
        obtain ⟨t, ht, hx⟩ := hxs.get hi
        have hm : t ∈ ts := List.mem_of_getElem? ht
        refine isi_var (v := x) rfl hx (kit_tup t) ⟨_, rfl, ?_⟩
        have bad : isPair n t = false → Q (.bl false) H1 := fun z => by
          have e := all_not hm z
          rw [e] at k
          exact k
        cases t with
        | non => exact iteTof rfl (bad rfl)
        | bl b => exact iteTof rfl (bad rfl)
        | int i => exact iteTof rfl (bad rfl)
        | str x => exact iteTof rfl (bad rfl)
        | lst => exact iteTof rfl (bad rfl)
        | tup us =>
          refine iteFof rfl ?_
          obtain ⟨b, ys, rfl, hb, hys⟩ := hx.tup_ref
          have hl2 := hys.length
          refine ⟨_, rfl, b, _, rfl, .inr (SqT.of hb), rfl, _, rfl, ?_⟩
          by_cases h2 : us.length = 2
          · refine iteFof (by rw [hl2, h2]; rfl) ?_
            obtain ⟨p, q, rfl⟩ : ∃ p q, us = [p, q] := by
              match us, h2 with
              | [p, q], _ => exact ⟨p, q, rfl⟩
            obtain ⟨x, y, rfl, hx1, hy1⟩ := hys.two
            refine ⟨_, rfl, b, _, _, x, rfl, rfl, SqT.of hb, rfl, _, rfl, x, p, n, rfl, hx1, _, rfl, ?_⟩
            by_cases hp1 : isTask n p = true
            · refine iteFof (by rw [hp1]; rfl) ?_
              refine ⟨_, rfl, b, _, _, y, rfl, rfl, SqT.of hb, rfl, _, rfl, y, q, n, rfl, hy1, _, rfl, ?_⟩
              by_cases hq1 : isTask n q = true
              · refine iteFof (by rw [hq1]; rfl) ?_
                refine ⟨_, rfl, rfl, fun z hz => ?_⟩
                rw [take_more ht] at hz
                rcases List.mem_append.mp hz with hz | hz
                · exact hI z hz
                · rw [List.mem_singleton] at hz
                  subst hz
                  show (isTask n p && isTask n q) = true
                  rw [hp1, hq1]
                  rfl
              · have hq1 : isTask n q = false := by simpa using hq1
                refine iteTof (by rw [hq1]; rfl) (bad ?_)
                show (isTask n p && isTask n q) = false
                rw [hq1, Bool.and_false]
            · have hp1 : isTask n p = false := by simpa using hp1
              refine iteTof (by rw [hp1]; rfl) (bad ?_)
              show (isTask n p && isTask n q) = false
              rw [hp1, Bool.false_and]
          · refine iteTof (by rw [decide_eq_false (fun z => h2 (by have := V.int.inj z; omega))]; rfl) (bad (isPair_not h2))
      · rintro σ H1 ⟨po, rfl, rfl, hI⟩
        have e : arePairs n (.tup ts) = true := by
          rw [hlen, List.take_length] at hI
          exact List.all_eq_true.mpr hI
        rw [e] at k
        exact k
abbrev nMeets : List Str := ["problem", "chosen", "pairs", "leads", "met", "here", "other"]
theorem sc_meets : FnScope nMeets ["problem", "chosen", "pairs", "leads"] (defScope (top 36)) := ⟨rfl, rfl, rfl, by decide +kernel, rfl, by decide +kernel, by decide +kernel⟩
def spMeetsT (P : Program) (w : World) (K : PySem.W.Frag) (mg : Str → Option Value) (base : Heap) : Sp := fun vs H Q _ => ∃ (v u : V) (a f : Addr) (n : Int) (rs : List Rl) (cs : List Int) (c0 : Int) (ps : List (Int × Int)) (R : List Rl → Int → Int → Bool),
  vs = [v, u, .ref a, .ref f] ∧ At H v (probT n rs) ∧ ProbOk n rs ∧ At H u (setT cs) ∧ SetOk n cs ∧ cs[0]? = some c0 ∧ Held P w K mg base 5 f (spLead R) ∧ (∃ xs, H a = some (.tup xs) ∧ Ats H xs (ps.map pairT)) ∧
  ∀ H', Same H H' → Q (.bl (meets (R rs) cs ps [c0])) H'
theorem ok_meetsT (T : Txt w K mg) (F : DefAt K mg "meets_all" "meets_all" (top 36)) : Df P w K mg base 6 "meets_all" (spMeetsT P w K mg base) := by
  refine F.ok sc_meets (fun _ _ _ _ _ _ us hl => match us, hl with | [_, _, _, _], _ => rfl) (fun vs H Q E h => ?_) (fun f cdv A outer s H vs Q E hr h => ?_)
  · obtain ⟨v, u, a, g, n, rs, cs, c0, ps, R, rfl, _⟩ := h
    rfl
  · obtain ⟨v, u, a, g, n, rs, cs, c0, ps, R, rfl, hv, hk, hu, hc, h0, hg, ⟨xs, ha, hxs⟩, k⟩ := h
    obtain ⟨c, rfl, hcp⟩ := hu.set
    have hl7 := hc.len
    have hm0 : c0 ∈ cs := List.mem_of_getElem? h0
    have hlen : xs.length = ps.length := by rw [hxs.length, List.length_map]
    refine ⟨_, pss_cons (ps_set (i := 4) sc_meets.nd rfl (Or.inl rfl) (pe_lst (pa_cons (pe_ix ix_tup (pv 1) pe_int (fun _ _ => rfl)) pa_nil)))
      (pss_cons (ps_for PassesOwn.never rfl (pi_tup (pv 2)) (pg_tup rfl (pgs_cons (pg_name (i := 5) sc_meets.nd rfl (Or.inl rfl)) (pgs_cons (pg_name (i := 6) sc_meets.nd rfl (Or.inl rfl)) pgs_nil)))
        (pss_cons (ps_if (PW.pt (pw_or (pt_cmpR op_notIn_seq (pv 5) (pv 4) rfl) (pw_or (pt_cmpR op_in_seq (pv 6) (pv 4) rfl) (pw_or (pt_cmpR op_notIn_seq (pv 6) (pv 1) rfl)
            (pw_or1 (pt_not (pt_val (pe_held (i := 3) hg hr (pa_cons (pv 0) (pa_cons (pv 5) (pa_cons (pv 6) pa_nil)))))))))))
          (pss_one (ps_ret pe_bl)) pss_nil)
        (pss_one (ps_expr (pe_bm PySem.F.plainAttrs_list PySem.F.slot_list_append PySem.F.type_list_append mt_append (pv 4) (pa_cons (pv 6) pa_nil))))))
      (pss_one (ps_ret (pe_cmpR op_eq (pe_callB call_len_seq rfl T.len PySem.boot_len (pa_cons (pv 4) pa_nil)) (pe_callB call_len_seq rfl T.len PySem.boot_len (pa_cons (pv 1) pa_nil)) (nomark _))))), ?_⟩
    refine ⟨_, rfl, c, _, _, .int c0, rfl, rfl, SqT.of hcp, at_of (j := 0) rfl (by rw [List.getElem?_map, h0]; rfl), small1000 (by decide), fun l hl => ?_⟩
    have s0 : Same H (upd H l (.lst [.int c0])) := Same.new hl
    refine ⟨_, rfl, a, rfl, ⟨_, SqT.of (s0 _ _ ha)⟩, for_tup (K := K) (a := a) (xs := xs)
      (fun i σ H1 => ∃ (met : List Int) (ho oo : Option V), σ = [some v, some (.ref c), some (.ref a), some (.ref g), some (.ref l), ho, oo] ∧ Same H H1 ∧ H1 l = some (.lst (met.map V.int)) ∧ met.Nodup ∧ (∀ x ∈ met, x ∈ cs) ∧ meets (R rs) cs ps [c0] = meets (R rs) cs (ps.drop i) met)
      ⟨[c0], none, none, rfl, s0, by rw [upd_same]; rfl, by simp, fun x hx => by rw [List.mem_singleton] at hx; subst hx; exact hm0, rfl⟩ (fun i σ H1 _ ⟨_, _, _, _, s1, _⟩ => SqT.of (s1 _ _ ha)) ?_ ?_⟩
    · rintro i x σ H1 hi ⟨met, ho, oo, rfl, s1, h1l, hnd, hsub, hme⟩
      obtain ⟨t, ht, hx⟩ := hxs.get hi
      obtain ⟨⟨h, o⟩, hpi, rfl⟩ := get_map ht
      obtain ⟨b, rfl, hb⟩ := (hx.same s1).pair
      have hmc : met.length ≤ cs.length := nodup_len_le hnd hsub
      rw [drop_at hpi] at hme
      refine ⟨b, _, rfl, SqT.of hb, rfl, _, _, rfl, _, _, rfl, rfl, ?_⟩
      refine ⟨_, rfl, _, rfl, l, met.map V.int, rfl, .inl (SqL.of h1l), rfl, flat_ints met, _, rfl, ?_⟩
      have bad : (¬ h ∈ met ∨ o ∈ met ∨ ¬ o ∈ cs ∨ R rs h o = false) → ∀ H', Same H H' → Q (.bl false) H' := fun z H' s => by
        have e := k H' s
        rw [hme, meets_no z] at e
        exact e
      by_cases c1 : h ∈ met
      · refine iteFof (by show (!inV (.int h) (met.map V.int)) = false; rw [inV_int, decide_eq_true c1]; rfl) ?_
        refine ⟨_, rfl, _, rfl, l, met.map V.int, rfl, .inl (SqL.of h1l), rfl, flat_ints met, _, rfl, ?_⟩
        by_cases c2 : o ∈ met
        · refine iteTof (by show inV (.int o) (met.map V.int) = true; rw [inV_int, decide_eq_true c2]) ?_
          exact iteTof rfl (bad (.inr (.inl c2)) H1 s1)
        · refine iteFof (by show inV (.int o) (met.map V.int) = false; rw [inV_int, decide_eq_false c2]) ?_
          refine ⟨_, rfl, _, rfl, c, cs.map V.int, rfl, .inr (SqT.of (s1 _ _ hcp)), rfl, flat_ints cs, _, rfl, ?_⟩
          by_cases c3 : o ∈ cs
          · refine iteFof (by show (!inV (.int o) (cs.map V.int)) = false; rw [inV_int, decide_eq_true c3]; rfl) ?_
            refine ⟨rfl, _, rfl, _, rfl, _, rfl, v, n, rs, h, o, rfl, hv.same s1, hk, fun H2 s2 => ⟨_, rfl, ?_⟩⟩
            by_cases c4 : R rs h o = true
            · refine iteFof (by rw [c4]; rfl) ?_
              have h2l := s2 _ _ h1l
              refine ⟨_, rfl, .inl ⟨rfl, _, SqL.of h2l⟩, _, rfl, l, _, _, rfl, rfl, h2l, (by rw [List.length_map]; exact small1000 (by omega)), ?_⟩
              refine ⟨met ++ [o], _, _, rfl, Same.put (s1.trans s2) hl, by rw [upd_same, List.map_append]; rfl, nodup_snoc hnd c2, fun z hz => ?_, ?_⟩
              · rcases List.mem_append.mp hz with hz | hz
                · exact hsub z hz
                · rw [List.mem_singleton] at hz
                  subst hz
                  exact c3
              · rw [hme, meets_yes]
                rintro (z | z | z | z)
                · exact z c1
                · exact c2 z
                · exact z c3
                · rw [c4] at z
                  cases z
            · have c4 : R rs h o = false := by simpa using c4
              exact iteTof (by rw [c4]; rfl) (bad (.inr (.inr (.inr c4))) H2 (s1.trans s2))
          · refine iteTof (by show (!inV (.int o) (cs.map V.int)) = true; rw [inV_int, decide_eq_false c3]; rfl) ?_
            exact iteTof rfl (bad (.inr (.inr (.inl c3))) H1 s1)
      · refine iteTof (by show (!inV (.int h) (met.map V.int)) = true; rw [inV_int, decide_eq_false c1]; rfl) ?_
        exact iteTof rfl (bad (.inl c1) H1 s1)
    · rintro σ H1 ⟨met, ho, oo, rfl, s1, h1l, hnd, hsub, hme⟩
      rw [hlen, List.drop_length] at hme
      refine ⟨_, rfl, l, _, rfl, .inl (SqL.of h1l), _, rfl, c, _, rfl, .inr (SqT.of (s1 _ _ hcp)), rfl, ?_⟩
      have e := k H1 s1
      rw [hme] at e
      have e2 : decide (V.int ((met.map V.int).length : Int) = V.int ((cs.map V.int).length : Int)) = decide (met.length = cs.length) := by
        rw [List.length_map, List.length_map]
        exact decide_eq_decide.mpr ⟨fun z => by have := V.int.inj z; omega, fun z => by rw [z]⟩
      show Q (.bl (decide (V.int ((met.map V.int).length : Int) = V.int ((cs.map V.int).length : Int)))) H1
      rw [e2]
      exact e
def spMeetsL (P : Program) (w : World) (K : PySem.W.Frag) (mg : Str → Option Value) (base : Heap) : Sp := fun vs H Q _ => ∃ (v u : V) (a f : Addr) (n : Int) (rs : List Rl) (cs : List Int) (c0 : Int) (ps : List (Int × Int)) (R : List Rl → Int → Int → Bool),
  vs = [v, u, .ref a, .ref f] ∧ At H v (probT n rs) ∧ ProbOk n rs ∧ At H u (setT cs) ∧ SetOk n cs ∧ cs[0]? = some c0 ∧ Held P w K mg base 5 f (spLead R) ∧ (∃ xs, H a = some (.lst xs) ∧ Ats H xs (ps.map pairT)) ∧
  ∀ H', Same H H' → Q (.bl (meets (R rs) cs ps [c0])) H'
theorem ok_meetsL (T : Txt w K mg) (F : DefAt K mg "meets_all" "meets_all" (top 36)) : Df P w K mg base 6 "meets_all" (spMeetsL P w K mg base) := by
  refine F.ok sc_meets (fun _ _ _ _ _ _ us hl => match us, hl with | [_, _, _, _], _ => rfl) (fun vs H Q E h => ?_) (fun f cdv A outer s H vs Q E hr h => ?_)
  · obtain ⟨v, u, a, g, n, rs, cs, c0, ps, R, rfl, _⟩ := h
    rfl
  · obtain ⟨v, u, a, g, n, rs, cs, c0, ps, R, rfl, hv, hk, hu, hc, h0, hg, ⟨xs, ha, hxs⟩, k⟩ := h
    obtain ⟨c, rfl, hcp⟩ := hu.set
    have hl7 := hc.len
    have hm0 : c0 ∈ cs := List.mem_of_getElem? h0
    have hlen : xs.length = ps.length := by rw [hxs.length, List.length_map]
    refine ⟨_, pss_cons (ps_set (i := 4) sc_meets.nd rfl (Or.inl rfl) (pe_lst (pa_cons (pe_ix ix_tup (pv 1) pe_int (fun _ _ => rfl)) pa_nil)))
      (pss_cons (ps_for PassesOwn.never rfl (pi_list (pv 2)) (pg_tup rfl (pgs_cons (pg_name (i := 5) sc_meets.nd rfl (Or.inl rfl)) (pgs_cons (pg_name (i := 6) sc_meets.nd rfl (Or.inl rfl)) pgs_nil)))
        (pss_cons (ps_if (PW.pt (pw_or (pt_cmpR op_notIn_seq (pv 5) (pv 4) rfl) (pw_or (pt_cmpR op_in_seq (pv 6) (pv 4) rfl) (pw_or (pt_cmpR op_notIn_seq (pv 6) (pv 1) rfl)
            (pw_or1 (pt_not (pt_val (pe_held (i := 3) hg hr (pa_cons (pv 0) (pa_cons (pv 5) (pa_cons (pv 6) pa_nil)))))))))))
          (pss_one (ps_ret pe_bl)) pss_nil)
        (pss_one (ps_expr (pe_bm PySem.F.plainAttrs_list PySem.F.slot_list_append PySem.F.type_list_append mt_append (pv 4) (pa_cons (pv 6) pa_nil))))))
      (pss_one (ps_ret (pe_cmpR op_eq (pe_callB call_len_seq rfl T.len PySem.boot_len (pa_cons (pv 4) pa_nil)) (pe_callB call_len_seq rfl T.len PySem.boot_len (pa_cons (pv 1) pa_nil)) (nomark _))))), ?_⟩
    refine ⟨_, rfl, c, _, _, .int c0, rfl, rfl, SqT.of hcp, at_of (j := 0) rfl (by rw [List.getElem?_map, h0]; rfl), small1000 (by decide), fun l hl => ?_⟩
    have s0 : Same H (upd H l (.lst [.int c0])) := Same.new hl
    refine ⟨_, rfl, a, rfl, ⟨_, SqL.of (s0 _ _ ha)⟩, for_list (K := K) (a := a) (xs := xs)
      (fun i σ H1 => ∃ (met : List Int) (ho oo : Option V), σ = [some v, some (.ref c), some (.ref a), some (.ref g), some (.ref l), ho, oo] ∧ Same H H1 ∧ H1 l = some (.lst (met.map V.int)) ∧ met.Nodup ∧ (∀ x ∈ met, x ∈ cs) ∧ meets (R rs) cs ps [c0] = meets (R rs) cs (ps.drop i) met)
      ⟨[c0], none, none, rfl, s0, by rw [upd_same]; rfl, by simp, fun x hx => by rw [List.mem_singleton] at hx; subst hx; exact hm0, rfl⟩ (fun i σ H1 _ ⟨_, _, _, _, s1, _⟩ => SqL.of (s1 _ _ ha)) ?_ ?_⟩
    · rintro i x σ H1 hi ⟨met, ho, oo, rfl, s1, h1l, hnd, hsub, hme⟩
      obtain ⟨t, ht, hx⟩ := hxs.get hi
      obtain ⟨⟨h, o⟩, hpi, rfl⟩ := get_map ht
      obtain ⟨b, rfl, hb⟩ := (hx.same s1).pair
      have hmc : met.length ≤ cs.length := nodup_len_le hnd hsub
      rw [drop_at hpi] at hme
      refine ⟨b, _, rfl, SqT.of hb, rfl, _, _, rfl, _, _, rfl, rfl, ?_⟩
      refine ⟨_, rfl, _, rfl, l, met.map V.int, rfl, .inl (SqL.of h1l), rfl, flat_ints met, _, rfl, ?_⟩
      have bad : (¬ h ∈ met ∨ o ∈ met ∨ ¬ o ∈ cs ∨ R rs h o = false) → ∀ H', Same H H' → Q (.bl false) H' := fun z H' s => by
        have e := k H' s
        rw [hme, meets_no z] at e
        exact e
      by_cases c1 : h ∈ met
      · refine iteFof (by show (!inV (.int h) (met.map V.int)) = false; rw [inV_int, decide_eq_true c1]; rfl) ?_
        refine ⟨_, rfl, _, rfl, l, met.map V.int, rfl, .inl (SqL.of h1l), rfl, flat_ints met, _, rfl, ?_⟩
        by_cases c2 : o ∈ met
        · refine iteTof (by show inV (.int o) (met.map V.int) = true; rw [inV_int, decide_eq_true c2]) ?_
          exact iteTof rfl (bad (.inr (.inl c2)) H1 s1)
        · refine iteFof (by show inV (.int o) (met.map V.int) = false; rw [inV_int, decide_eq_false c2]) ?_
          refine ⟨_, rfl, _, rfl, c, cs.map V.int, rfl, .inr (SqT.of (s1 _ _ hcp)), rfl, flat_ints cs, _, rfl, ?_⟩
          by_cases c3 : o ∈ cs
          · refine iteFof (by show (!inV (.int o) (cs.map V.int)) = false; rw [inV_int, decide_eq_true c3]; rfl) ?_
            refine ⟨rfl, _, rfl, _, rfl, _, rfl, v, n, rs, h, o, rfl, hv.same s1, hk, fun H2 s2 => ⟨_, rfl, ?_⟩⟩
            by_cases c4 : R rs h o = true
            · refine iteFof (by rw [c4]; rfl) ?_
              have h2l := s2 _ _ h1l
              refine ⟨_, rfl, .inl ⟨rfl, _, SqL.of h2l⟩, _, rfl, l, _, _, rfl, rfl, h2l, (by rw [List.length_map]; exact small1000 (by omega)), ?_⟩
              refine ⟨met ++ [o], _, _, rfl, Same.put (s1.trans s2) hl, by rw [upd_same, List.map_append]; rfl, nodup_snoc hnd c2, fun z hz => ?_, ?_⟩
              · rcases List.mem_append.mp hz with hz | hz
                · exact hsub z hz
                · rw [List.mem_singleton] at hz
                  subst hz
                  exact c3
              · rw [hme, meets_yes]
                rintro (z | z | z | z)
                · exact z c1
                · exact c2 z
                · exact z c3
                · rw [c4] at z
                  cases z
            · have c4 : R rs h o = false := by simpa using c4
              exact iteTof (by rw [c4]; rfl) (bad (.inr (.inr (.inr c4))) H2 (s1.trans s2))
          · refine iteTof (by show (!inV (.int o) (cs.map V.int)) = true; rw [inV_int, decide_eq_false c3]; rfl) ?_
            exact iteTof rfl (bad (.inr (.inr (.inl c3))) H1 s1)
      · refine iteTof (by show (!inV (.int h) (met.map V.int)) = true; rw [inV_int, decide_eq_false c1]; rfl) ?_
        exact iteTof rfl (bad (.inl c1) H1 s1)
    · rintro σ H1 ⟨met, ho, oo, rfl, s1, h1l, hnd, hsub, hme⟩
      rw [hlen, List.drop_length] at hme
      refine ⟨_, rfl, l, _, rfl, .inl (SqL.of h1l), _, rfl, c, _, rfl, .inr (SqT.of (s1 _ _ hcp)), rfl, ?_⟩
      have e := k H1 s1
      rw [hme] at e
      have e2 : decide (V.int ((met.map V.int).length : Int) = V.int ((cs.map V.int).length : Int)) = decide (met.length = cs.length) := by
        rw [List.length_map, List.length_map]
        exact decide_eq_decide.mpr ⟨fun z => by have := V.int.inj z; omega, fun z => by rw [z]⟩
      show Q (.bl (decide (V.int ((met.map V.int).length : Int) = V.int ((cs.map V.int).length : Int)))) H1
      rw [e2]
      exact e
end
end Tb
/-! are_grounds, accepts_grounds. -/
namespace Tb
open PySem PySem.Spec PyProof.Rows L2 Mt
def prT : T → Int × Int
  | .tup [.int a, .int b] => (a, b)
  | _ => (0, 0)
def prs : T → List (Int × Int)
  | .tup ts => ts.map prT
  | _ => []
theorem isPair_is {n : Int} {t : T} (h : isPair n t = true) : t = pairT (prT t) := by
  cases t with
  | tup ts =>
    match ts, h with
    | [a, b], h =>
      have h : (isTask n a && isTask n b) = true := h
      obtain ⟨h1, h2⟩ := Bool.and_eq_true_iff.mp h
      cases a with
      | int a =>
        cases b with
        | int b => rfl
        | _ => cases h2
      | _ => cases h1
  | _ => cases h
theorem arePairs_is {n : Int} {t : T} (h : arePairs n t = true) : t = rowT (prs t) := by
  cases t with
  | tup ts =>
    have h : ts.all (isPair n) = true := h
    have h := List.all_eq_true.mp h
    show T.tup ts = T.tup ((ts.map prT).map pairT)
    rw [List.map_map]
    have e : ts.map (pairT ∘ prT) = ts := by
      rw [show ts = ts.map id from (List.map_id ts).symm]
      rw [List.map_map]
      exact List.map_congr_left fun x hx => (isPair_is (h x hx)).symm
    rw [e]
  | _ => cases h
def areG (n : Int) (rs : List Rl) (cs : List Int) (c0 : Int) : T → Bool
  | .tup [a, b, c] => (arePairs n a && (arePairs n b && arePairs n c)) && (meets (ties rs) cs (prs a) [c0] && (meets (bars rs) cs (prs b) [c0] && meets (barred rs) cs ((prs c).map swp) [c0]))
  | _ => false
theorem areG_not {n : Int} {rs : List Rl} {cs : List Int} {c0 : Int} {ts : List T} (h : ts.length ≠ 3) : areG n rs cs c0 (.tup ts) = false := by
  match ts, h with
  | [], _ => rfl
  | [_], _ => rfl
  | [_, _], _ => rfl
  | [_, _, _], h => exact absurd rfl h
  | _ :: _ :: _ :: _ :: _, _ => rfl
/-- the third row is not too long -/
def Short : T → Prop
  | .tup [_, _, .tup ts] => ts.length ≤ 1000
  | _ => True
section
variable {P : Program} {w : World} {K : PySem.W.Frag} {mg : Str → Option Value} {base : Heap}
def spAre : Sp := fun vs H Q _ => ∃ (v u x : V) (n : Int) (rs : List Rl) (cs : List Int) (c0 : Int) (t : T), vs = [v, u, x] ∧ At H v (probT n rs) ∧ ProbOk n rs ∧ At H u (setT cs) ∧ SetOk n cs ∧ cs[0]? = some c0 ∧ 2 ≤ cs.length ∧ At H x t ∧ Short t ∧
  ∀ H', Same H H' → Q (.bl (areG n rs cs c0 t)) H'
abbrev nAre : List Str := ["problem", "chosen", "value", "tied", "there", "back", "turned", "part", "here", "other"]
theorem sc_are : FnScope nAre ["problem", "chosen", "value"] (defScope (top 37)) := ⟨rfl, rfl, rfl, by decide +kernel, rfl, by decide +kernel, by decide +kernel⟩
theorem ok_are (T : Txt w K mg) (F : DefAt K mg "are_grounds" "are_grounds" (top 37)) (DP : Df P w K mg base 2 "are_pairs" spPairs) (DMT : Df P w K mg base 6 "meets_all" (spMeetsT P w K mg base)) (DML : Df P w K mg base 6 "meets_all" (spMeetsL P w K mg base))
    (DT : Df P w K mg base 4 "ties" (spLead ties)) (DB : Df P w K mg base 4 "bars" (spLead bars)) (DD : Df P w K mg base 5 "is_barred" (spLead barred)) : Df P w K mg base 7 "are_grounds" spAre := by
  refine F.ok sc_are (fun _ _ _ _ _ _ us hl => match us, hl with | [_, _, _], _ => rfl) (fun vs H Q E h => ?_) (fun f cdv A outer s H vs Q E hr h => ?_)
  · obtain ⟨v, u, x, n, rs, cs, c0, t, rfl, _⟩ := h
    rfl
  · obtain ⟨v, u, x, n, rs, cs, c0, t, rfl, hv, hk, hu, hc, h0, h2, hx, hsh, k⟩ := h
    obtain ⟨c, rfl, hcp⟩ := hu.set
    have hr2 : Room 2 _ := hr.mono (by decide)
    have hT5 := Held.mono (k := 5) DT.held (by decide)
    have hB5 := Held.mono (k := 5) DB.held (by decide)
    refine ⟨_, pss_cons (ps_if (PW.pt (pw_or (pt_cmpR op_lt (pe_callB call_len_seq rfl T.len PySem.boot_len (pa_cons (pv 1) pa_nil)) pe_int (nomark _)) (pw_or (pt_not (pt_val (pe_isi (n := "tuple") T.isi T.tuple (pv 2))))
        (pw_or1 (pt_cmpR op_ne (pe_callB call_len_seq rfl T.len PySem.boot_len (pa_cons (pv 2) pa_nil)) pe_int (nomark _)))))) (pss_one (ps_ret pe_bl)) pss_nil)
      (pss_cons (ps_if (pt_not (pt_val (pe_callB (cr_all rfl) rfl T.all (by decide +kernel) (pa_cons (pe_lc (own := [("part", 7)]) (g := gName 7) (tt := tYes) rfl sc_are.nd (pi_tup (pv 2)) (blkOk_by (N := nAre) (sc := defScope (top 37)) (by decide +kernel))
          (fun _ _ _ _ _ => pg_name (i := 7) sc_are.nd rfl (Or.inl rfl)) (fun _ _ _ _ _ => pts_nil) (fun _ _ _ _ _ => pe_df DP hr2 (pa_cons (pv 7) (pa_cons (pe_ix (ixT K) (pv 0) pe_int (fun _ _ => rfl)) pa_nil)))) pa_nil)))) (pss_one (ps_ret pe_bl)) pss_nil)
      (pss_cons (ps_asg (pv 2) (pg_tup rfl (pgs_cons (pg_name (i := 3) sc_are.nd rfl (Or.inl rfl)) (pgs_cons (pg_name (i := 4) sc_are.nd rfl (Or.inl rfl)) (pgs_cons (pg_name (i := 5) sc_are.nd rfl (Or.inl rfl)) pgs_nil)))))
      (pss_cons (ps_setLc (i := 6) (own := [("here", 8), ("other", 9)]) (g := gTup K 2 (gCons (gName 8) (gCons (gName 9) gNil))) (tt := tYes) rfl sc_are.nd rfl rfl (sw_true rfl rfl rfl (by decide +kernel))
        (pi_tup (pv 5)) (blkOk_by (N := nAre) (sc := defScope (top 37)) (by decide +kernel))
        (fun _ _ _ _ _ => pg_tup rfl (pgs_cons (pg_name (i := 8) sc_are.nd rfl (Or.inl rfl)) (pgs_cons (pg_name (i := 9) sc_are.nd rfl (Or.inl rfl)) pgs_nil))) (fun _ _ _ _ _ => pts_nil) (fun _ _ _ _ _ => pe_tup (pa_cons (pv 9) (pa_cons (pv 8) pa_nil))))
      (pss_one (ps_ret (pe_and (pe_df DMT hr (pa_cons (pv 0) (pa_cons (pv 1) (pa_cons (pv 3) (pa_cons (pe_dv DT.g) pa_nil)))))
        (pe_and (pe_df DMT hr (pa_cons (pv 0) (pa_cons (pv 1) (pa_cons (pv 4) (pa_cons (pe_dv DB.g) pa_nil)))))
        (pe_one (pe_df DML hr (pa_cons (pv 0) (pa_cons (pv 1) (pa_cons (pv 6) (pa_cons (pe_dv DD.g) pa_nil))))))))))))), ?_⟩
    refine ⟨_, rfl, c, _, rfl, .inr (SqT.of hcp), _, _, rfl, rfl, _, rfl, ?_⟩
    refine iteFof (decide_eq_false (by rw [List.length_map]; omega)) ?_
    refine isi_var rfl hx (kit_tup t) ⟨_, rfl, ?_⟩
    have k0 := k H (Same.refl H)
    cases t with
    | non => exact iteTof rfl (iteTof rfl k0)
    | bl b => exact iteTof rfl (iteTof rfl k0)
    | int i => exact iteTof rfl (iteTof rfl k0)
    | str x => exact iteTof rfl (iteTof rfl k0)
    | lst => exact iteTof rfl (iteTof rfl k0)
    | tup ts =>
      refine iteFof rfl ?_
      obtain ⟨a, xs, rfl, hp, hxs⟩ := hx.tup_ref
      have hlen := hxs.length
      refine ⟨_, rfl, a, _, rfl, .inr (SqT.of hp), rfl, _, rfl, ?_⟩
      by_cases h3 : ts.length = 3
      · refine iteFof (by rw [hlen, h3]; rfl) ?_
        obtain ⟨t0, t1, t2, rfl⟩ : ∃ t0 t1 t2, ts = [t0, t1, t2] := by
          match ts, h3 with
          | [p, q, r], _ => exact ⟨p, q, r, rfl⟩
        obtain ⟨x0, x1, x2, rfl, hx0, hx1, hx2⟩ := hxs.three
        obtain ⟨pa, pb, pxs, rfl, hpp, _, _⟩ := hv.prob
        refine ⟨_, rfl, a, rfl, ⟨_, SqT.of hp⟩, fun D hD => lcG hD (walk_tup (K := K) (a := a) (xs := [x0, x1, x2])) (l := [t0, t1, t2]) rfl (fun _ => true) (fun t => Tb.T.bl (arePairs n t)) (small1000 (Nat.le_add_left 3 997)) (fun H' s => sqT s (SqT.of hp)) (fun j x t H' N1 N0 hx hq s n1 n0 => ?_) (fun H1 ys s1 hy hys => ?_)⟩
        · obtain ⟨t', ht', hxt⟩ := hxs.get hx
          rw [hq] at ht'
          obtain rfl := Option.some.inj ht'
          refine ⟨rfl, lc_yes ?_⟩
          exact ⟨_, rfl, _, rfl, pa, _, _, .int n, rfl, rfl, SqT.of (s _ _ hpp), rfl, x, t, n, rfl, hxt.same s, n1 rfl _ _ (Same.refl _) (.bl _)⟩
        · have ey : ys = [arePairs n t0, arePairs n t1, arePairs n t2].map V.bl := Ats.bls (H := H1) hys
          subst ey
          refine ⟨D, [arePairs n t0, arePairs n t1, arePairs n t2], rfl, SqL.of hy, _, rfl, ?_⟩
          have e : [arePairs n t0, arePairs n t1, arePairs n t2].all id = (arePairs n t0 && (arePairs n t1 && arePairs n t2)) := by
            show (arePairs n t0 && (arePairs n t1 && (arePairs n t2 && true))) = _
            rw [Bool.and_true]
          rw [e]
          have kA : areG n rs cs c0 (.tup [t0, t1, t2]) = ((arePairs n t0 && (arePairs n t1 && arePairs n t2)) && (meets (ties rs) cs (prs t0) [c0] && (meets (bars rs) cs (prs t1) [c0] && meets (barred rs) cs ((prs t2).map swp) [c0]))) := rfl
          rw [kA] at k
          by_cases hall : (arePairs n t0 && (arePairs n t1 && arePairs n t2)) = true
          · refine iteFof (by rw [hall]; rfl) ?_
            rw [hall, Bool.true_and] at k
            obtain ⟨e0, hall⟩ := Bool.and_eq_true_iff.mp hall
            obtain ⟨e1, e2⟩ := Bool.and_eq_true_iff.mp hall
            rw [arePairs_is e0] at hx0
            rw [arePairs_is e1] at hx1
            have hsh2 : (prs t2).length ≤ 1000 := by
              rw [arePairs_is e2] at hsh
              have : ((prs t2).map pairT).length ≤ 1000 := hsh
              rw [List.length_map] at this
              exact this
            rw [arePairs_is e2] at hx2
            obtain ⟨a0, y0, rfl, hp0, hy0⟩ := (hx0.same s1).tup_ref
            obtain ⟨a1, y1, rfl, hp1, hy1⟩ := (hx1.same s1).tup_ref
            obtain ⟨a2, y2, rfl, hp2, hy2⟩ := (hx2.same s1).tup_ref
            have hl2 : y2.length = (prs t2).length := by rw [hy2.length, List.length_map]
            refine ⟨_, rfl, a, _, rfl, SqT.of (s1 _ _ hp), rfl, _, _, rfl, _, _, rfl, _, _, rfl, rfl, ?_⟩
            refine ⟨_, rfl, a2, rfl, ⟨_, SqT.of hp2⟩, fun D2 hD2 => lcG hD2 (walk_tup (K := K) (a := a2) (xs := y2)) (l := prs t2) hl2.symm (fun _ => true) (fun p => pairT (swp p)) (small1000 (by omega)) (fun H' s => sqT s (SqT.of hp2)) (fun j x p H' N1 N0 hx hq s n1 n0 => ?_) (fun H2 zs s2 hz2 ha2 => ?_)⟩
            · obtain ⟨t, ht, hxt⟩ := hy2.get hx
              obtain ⟨p', hp', rfl⟩ := get_map ht
              rw [hq] at hp'
              obtain rfl := Option.some.inj hp'
              obtain ⟨b, rfl, hb⟩ := (hxt.same s).pair
              refine ⟨b, _, rfl, SqT.of hb, rfl, _, _, rfl, _, _, rfl, rfl, rfl, lc_yes ?_⟩
              refine ⟨_, rfl, _, rfl, (by show 2 ≤ sizeLine; decide), fun q hq => ?_⟩
              exact n1 rfl _ _ (Same.new hq) (.tup upd_same (.cons (.int _) (.cons (.int _) .nil)))
            · rw [filter_yes] at ha2
              have ha2 : Ats H2 zs (((prs t2).map swp).map pairT) := by
                rw [List.map_map]
                exact ha2
              have s12 := s1.trans s2
              refine ⟨_, rfl, _, rfl, _, rfl, .ref pa, .ref c, a0, _, n, rs, cs, c0, prs t0, ties, rfl, hv.same s12, hk, hu.same s12, hc, h0, hT5, ⟨y0, s2 _ _ hp0, hy0.same s2⟩, fun H3 s3 => ?_⟩
              refine ⟨_, rfl, ?_⟩
              have s13 := s12.trans s3
              by_cases m0 : meets (ties rs) cs (prs t0) [c0] = true
              · refine iteTof m0 ?_
                rw [m0, Bool.true_and] at k
                refine ⟨_, rfl, _, rfl, _, rfl, .ref pa, .ref c, a1, _, n, rs, cs, c0, prs t1, bars, rfl, hv.same s13, hk, hu.same s13, hc, h0, hB5, ⟨y1, s3 _ _ (s2 _ _ hp1), (hy1.same s2).same s3⟩, fun H4 s4 => ?_⟩
                refine ⟨_, rfl, ?_⟩
                have s14 := s13.trans s4
                by_cases m1 : meets (bars rs) cs (prs t1) [c0] = true
                · refine iteTof m1 ?_
                  rw [m1, Bool.true_and] at k
                  exact ⟨_, rfl, _, rfl, _, rfl, .ref pa, .ref c, D2, _, n, rs, cs, c0, (prs t2).map swp, barred, rfl, hv.same s14, hk, hu.same s14, hc, h0, DD.held, ⟨zs, s4 _ _ (s3 _ _ hz2), (ha2.same s3).same s4⟩, fun H5 s5 => k H5 (s14.trans s5)⟩
                · have m1 : meets (bars rs) cs (prs t1) [c0] = false := by simpa using m1
                  refine iteFof m1 ?_
                  rw [m1, Bool.false_and] at k
                  exact k H4 s14
              · have m0 : meets (ties rs) cs (prs t0) [c0] = false := by simpa using m0
                refine iteFof m0 ?_
                rw [m0, Bool.false_and] at k
                exact k H3 s13
          · have hall : (arePairs n t0 && (arePairs n t1 && arePairs n t2)) = false := by simpa using hall
            refine iteTof (by rw [hall]; rfl) ?_
            rw [hall, Bool.false_and] at k
            exact k H1 s1
      · refine iteTof (by rw [decide_eq_false (fun z => h3 (by have := V.int.inj z; omega))]; rfl) ?_
        rw [areG_not h3] at k0
        exact k0
theorem sc_acc : FnScope ["problem", "chosen", "value"] ["problem", "chosen", "value"] (defScope (top 38)) := ⟨rfl, rfl, rfl, by decide +kernel, rfl, by decide +kernel, by decide +kernel⟩
theorem ok_acc (F : DefAt K mg "accepts_grounds" "accepts_grounds" (top 38)) (DC : Df P w K mg base 6 "check_chosen" spChkC) (D : Df P w K mg base 7 "are_grounds" spAre) : Df P w K mg base 8 "accepts_grounds" spAre := by
  refine F.ok sc_acc (fun _ _ _ _ _ _ us hl => match us, hl with | [_, _, _], _ => rfl) (fun vs H Q E h => ?_) (fun f cdv A outer s H vs Q E hr h => ?_)
  · obtain ⟨v, u, x, n, rs, cs, c0, t, rfl, _⟩ := h
    rfl
  · obtain ⟨v, u, x, n, rs, cs, c0, t, rfl, hv, hk, hu, hc, h0, h2, hx, hsh, k⟩ := h
    have hr6 : Room 6 _ := hr.mono (by decide)
    refine ⟨_, pss_cons (ps_expr (pe_df DC hr6 (pa_cons (pv 0) (pa_cons (pv 1) pa_nil)))) (pss_one (ps_ret (pe_df D hr (pa_cons (pv 0) (pa_cons (pv 1) (pa_cons (pv 2) pa_nil)))))), ?_⟩
    refine ⟨_, rfl, _, rfl, v, u, n, rs, cs, rfl, hv, hk, hu, hc, fun H1 s1 => ?_⟩
    exact ⟨_, rfl, _, rfl, _, rfl, v, u, x, n, rs, cs, c0, t, rfl, hv.same s1, hk, hu.same s1, hc, h0, h2, hx.same s1, hsh, fun H' s => k H' (s1.trans s)⟩
end
end Tb
/-! The law's stream: _law_stream, _law_next; _law_equal with a truth value. -/
namespace Tb
open PySem PySem.Spec PyProof.Rows L2 Mt
/-- the stream stands at s, its script's list at l -/
def Stm (H : Hp) (s l : Addr) : Prop := ∃ (ns : List Int) (c k : Int), H s = some (.lst [.ref l, .int c, .int k]) ∧ H l = some (.lst (ns.map V.int)) ∧ 0 ≤ c ∧ 0 ≤ k ∧ l ≠ s
theorem Stm.same {H H' : Hp} {s l : Addr} (h : Stm H s l) (e : Same H H') : Stm H' s l := by
  obtain ⟨ns, c, k, h1, h2, h3⟩ := h
  exact ⟨ns, c, k, e _ _ h1, e _ _ h2, h3⟩
theorem Stm.is {H : Hp} {s l : Addr} (h : Stm H s l) : ∃ xs, H s = some (.lst xs) := by
  obtain ⟨ns, c, k, h1, _⟩ := h
  exact ⟨_, h1⟩
theorem Stm.isL {H : Hp} {s l : Addr} (h : Stm H s l) : ∃ xs, H l = some (.lst xs) := by
  obtain ⟨ns, c, k, _, h1, _⟩ := h
  exact ⟨_, h1⟩
theorem Stm.ne {H : Hp} {s l r : Addr} (h : Stm H s l) (n : H r = none) : s ≠ r ∧ l ≠ r := by
  obtain ⟨xs, hx⟩ := h.is
  obtain ⟨ys, hy⟩ := h.isL
  exact ⟨ne_of_none hx n, ne_of_none hy n⟩
theorem Stm.put {H : Hp} {s l r : Addr} {o : HO} (h : Stm H s l) (n : s ≠ r ∧ l ≠ r) : Stm (upd H r o) s l := by
  obtain ⟨ns, c, k, h1, h2, h3⟩ := h
  exact ⟨ns, c, k, by rw [upd_ne n.1]; exact h1, by rw [upd_ne n.2]; exact h2, h3⟩
/-- what stands but at s, where a list stands before and behind -/
theorem Sb.kp {s l l' : Addr} {H H' : Hp} (e : Sb s H H') (h : Stm H s l) (h' : Stm H' s l') : Kp H H' := by
  obtain ⟨xs, hx⟩ := h.is
  obtain ⟨ys, hy⟩ := h'.is
  refine ⟨fun a zs ha => e a _ (fun z => ?_) ha, fun a zs ha => ?_⟩
  · subst z
    rw [hx] at ha
    cases ha
  · by_cases z : a = s
    · subst z
      exact ⟨ys, hy⟩
    · exact ⟨zs, e a _ z ha⟩
section
variable {P : Program} {w : World} {K : PySem.W.Frag} {mg : Str → Option Value} {base : Heap}
def spStream (K : PySem.W.Frag) : Sp := fun vs H Q _ => ∃ (a : Addr) (ns : List Int), vs = [.ref a] ∧ SqL K H a (ns.map V.int) ∧ ∀ (s l : Addr) (H' : Hp), H s = none → Stm H' s l → Same H H' → Q (.ref s) H'
theorem sc_stream : FnScope ["_law_script"] ["_law_script"] (defScope (top 40)) := ⟨rfl, rfl, rfl, by decide +kernel, rfl, by decide +kernel, by decide +kernel⟩
theorem ok_stream (T : Txt w K mg) (F : DefAt K mg "_law_stream" "_law_stream" (top 40)) : Df P w K mg base 1 "_law_stream" (spStream K) := by
  refine F.ok sc_stream (fun _ _ _ _ _ _ us hl => match us, hl with | [_], _ => rfl) (fun vs H Q E h => ?_) (fun f cdv A outer s H vs Q E hr h => ?_)
  · obtain ⟨a, ns, rfl, _⟩ := h
    rfl
  · obtain ⟨a, ns, rfl, hS, k⟩ := h
    refine ⟨_, pss_one (ps_ret (pe_lst (pa_cons (pe_callTy call_list_of rfl T.list (by decide +kernel) (pa_cons (pv 0) pa_nil)) (pa_cons pe_int (pa_cons pe_int pa_nil))))), ?_⟩
    refine ⟨_, rfl, a, _, rfl, .inl hS, fun l hl => ?_⟩
    refine ⟨(by show 3 ≤ sizeLine; decide), fun s hs => ?_⟩
    have hls : l ≠ s := ne_of_none (o := .lst (ns.map V.int)) upd_same hs
    have s1 : Same H (upd H l (.lst (ns.map V.int))) := Same.new hl
    refine k s l _ (s1.free hs) ⟨ns, 0, 0, upd_same, by rw [upd_ne hls, upd_same], Int.le_refl _, Int.le_refl _, hls⟩ (Same.put s1 (s1.free hs))
def spNext : Sp := fun vs H Q _ => ∃ (s l : Addr) (m : Int), vs = [.ref s, .int m] ∧ Stm H s l ∧ 0 < m ∧ m < 1073741824 ∧ ∀ (d : Int) (H' : Hp), 0 ≤ d → d < m → Stm H' s l → Sb s H H' → Q (.int d) H'
abbrev nNext : List Str := ["_law_stream_here", "_law_many", "_law_k", "_law_cell", "_law_digit"]
theorem sc_next : FnScope nNext ["_law_stream_here", "_law_many"] (defScope (top 41)) := ⟨rfl, rfl, rfl, by decide +kernel, rfl, by decide +kernel, by decide +kernel⟩
theorem ok_next (T : Txt w K mg) (F : DefAt K mg "_law_next" "_law_next" (top 41)) : Df P w K mg base 1 "_law_next" spNext := by
  refine F.ok sc_next (fun _ _ _ _ _ _ us hl => match us, hl with | [_, _], _ => rfl) (fun vs H Q E h => ?_) (fun f cdv A outer s H vs Q E hr h => ?_)
  · obtain ⟨s, l, m, rfl, _⟩ := h
    rfl
  · obtain ⟨q, l, m, rfl, ⟨ns, c, kk, hs, hl, hc0, hk0, hne⟩, hm0, hm1, k⟩ := h
    have nd := sc_next.nd
    refine ⟨_, C8.pss_cut (ps_if (pt_cmpR op_eq (pe_ix ix_list (pv 0) pe_int (fun _ _ => rfl)) pe_int (nomark _))
        (pss_cons (ps_set (i := 2) nd rfl (Or.inl rfl) (pe_ix ix_list (pv 0) pe_int (fun _ _ => rfl)))
        (pss_cons (ps_set (i := 3) nd rfl (Or.inl rfl) (pe_op op_add pe_int (pv 2)))
        (C8.pss_cut (ps_if (pt_cmpR op_lt (pv 2) (pe_callB call_len_seq rfl T.len PySem.boot_len (pa_cons (pe_ix ix_list (pv 0) pe_int (fun _ _ => rfl)) pa_nil)) (nomark _))
          (pss_one (ps_set (i := 3) nd rfl (Or.inl rfl) (pe_callB call_abs rfl T.abs (by decide +kernel) (pa_cons (pe_ix ix_list (pe_ix ix_list (pv 0) pe_int (fun _ _ => rfl)) (pv 2) (fun _ _ => rfl)) pa_nil)))) pss_nil)
        (C8.pss_cut (ps_if (pt_cmpR op_lt (pv 3) (pe_op op_pow pe_int pe_int) (nomark _))
          (pss_cons (ps_set (i := 3) nd rfl (Or.inl rfl) (pe_op op_mod (pe_callTy call_int1 rfl T.int (by decide +kernel) (pa_cons (pe_op op_add (pe_op op_add (pe_op op_mul (pv 3) pe_int) (pe_op op_mul (pv 2) pe_int)) pe_int) pa_nil)) pe_int))
          (pss_one (ps_set (i := 3) nd rfl (Or.inl rfl) (pe_op op_add (pe_op op_mul (pe_op op_mod (pe_callTy call_int1 rfl T.int (by decide +kernel) (pa_cons (pe_op op_add (pe_op op_mul (pv 3) pe_int) pe_int) pa_nil)) pe_int) pe_int) (pv 3))))) pss_nil)
        (pss_cons (ps_asg (pv 3) (pg_sub (pv 0) pe_int set_list))
        (pss_one (ps_asg (pe_op op_add (pv 2) pe_int) (pg_sub (pv 0) pe_int set_list)))))))) pss_nil)
      (pss_cons (ps_set (i := 4) nd rfl (Or.inl rfl) (pe_op op_mod (pe_callTy call_int1 rfl T.int (by decide +kernel) (pa_cons (pe_ix ix_list (pv 0) pe_int (fun _ _ => rfl)) pa_nil)) (pv 1)))
      (pss_cons (ps_asg (pe_op op_fdiv (pe_ix ix_list (pv 0) pe_int (fun _ _ => rfl)) (pv 1)) (pg_sub (pv 0) pe_int set_list))
      (pss_one (ps_ret (pv 4))))), ?_⟩
    refine ⟨fun σ' H2 => ∃ (c2 k2 : Int) (o1 o2 : Option V), σ' = [some (.ref q), some (.int m), o1, o2, none] ∧ H2 q = some (.lst [.ref l, .int c2, .int k2]) ∧ Sb q H H2 ∧ 0 ≤ c2 ∧ 0 ≤ k2, ?_, ?_⟩
    · refine ⟨_, rfl, q, _, _, .int c, rfl, rfl, SqL.of hs, rfl, rfl, _, rfl, ?_⟩
      refine ite2 (fun hz => ?_) (fun hz => ?_)
      · refine ⟨_, rfl, q, _, _, .int kk, rfl, rfl, SqL.of hs, rfl, ?_⟩
        refine ⟨_, rfl, _, _, rfl, rfl, ?_⟩
        refine ⟨fun σ' H2 => ∃ cell : Int, σ' = [some (.ref q), some (.int m), some (.int kk), some (.int cell), none] ∧ H2 = H ∧ 0 ≤ cell, ?_, ?_⟩
        · refine ⟨_, rfl, _, rfl, q, _, _, .ref l, rfl, rfl, SqL.of hs, rfl, l, _, rfl, .inl (SqL.of hl), _, _, rfl, rfl, _, rfl, ?_⟩
          refine ite2 (fun hlt => ?_) (fun hlt => ?_)
          · have hlt : kk < (ns.length : Int) := by
              have := of_decide_eq_true hlt
              rw [List.length_map] at this
              exact this
            obtain ⟨z, hz⟩ : ∃ z, ns[kk.toNat]? = some z := ⟨ns[kk.toNat]'(by omega), List.getElem?_eq_getElem (by omega)⟩
            refine ⟨_, rfl, q, _, _, .ref l, rfl, rfl, SqL.of hs, rfl, _, rfl, l, _, _, .int z, rfl, rfl, SqL.of hl, at_of (j := kk.toNat) (by omega) (by rw [List.getElem?_map, hz]; rfl), z, rfl, ?_⟩
            refine ⟨if z < 0 then -z else z, rfl, rfl, ?_⟩
            by_cases h0 : z < 0
            · rw [if_pos h0]; omega
            · rw [if_neg h0]; omega
          · exact ⟨7 + kk, rfl, rfl, by omega⟩
        · rintro σ' H2 ⟨cell, rfl, rfl, hcell⟩
          refine ⟨fun σ' H3 => ∃ cell : Int, σ' = [some (.ref q), some (.int m), some (.int kk), some (.int cell), none] ∧ H3 = H2 ∧ 0 ≤ cell, ?_, ?_⟩
          · refine ⟨_, rfl, _, _, rfl, rfl, ⟨by decide, by decide, by decide⟩, _, _, rfl, rfl, _, rfl, ?_⟩
            refine ite2 (fun _ => ?_) (fun _ => ?_)
            · refine ⟨_, rfl, _, _, rfl, rfl, .inr ⟨by decide, by decide⟩, _, rfl, _, _, rfl, rfl, .inr ⟨by decide, by decide⟩, _, _, rfl, rfl, _, _, rfl, rfl, .inl ⟨_, rfl, ?_⟩⟩
              refine ⟨_, _, rfl, rfl, (by show (0 : Int) < 2147483647; decide), ?_⟩
              refine ⟨_, rfl, _, _, rfl, rfl, .inr ⟨by decide, by decide⟩, _, _, rfl, rfl, .inl ⟨_, rfl, ?_⟩⟩
              refine ⟨_, _, rfl, rfl, (by show (0 : Int) < 2147483647; decide), _, _, rfl, rfl, .inr ⟨by decide, by decide⟩, _, rfl, _, _, rfl, rfl, ?_⟩
              refine ⟨_, rfl, rfl, ?_⟩
              have h1 : ∀ z : Int, 0 ≤ z % 2147483647 := fun z => Int.emod_nonneg z (by decide)
              have h2 := h1 (cell * 48271 + kk * 69621 + 11)
              have h3 := h1 ((cell * 48271 + kk * 69621 + 11) % 2147483647 * 16807 + 13)
              exact Int.add_nonneg (Int.mul_nonneg h3 (by decide)) h2
            · exact ⟨cell, rfl, rfl, hcell⟩
          · rintro σ' H3 ⟨cell, rfl, rfl, hcell⟩
            refine ⟨_, rfl, _, rfl, q, _, _, 1, rfl, rfl, hs, rfl, ?_⟩
            refine ⟨_, rfl, _, _, rfl, rfl, _, rfl, q, _, _, 2, rfl, rfl, upd_same, rfl, ?_⟩
            refine ⟨cell, kk + 1, _, _, rfl, upd_same, fun b o hb e => ?_, hcell, by omega⟩
            rw [upd_ne hb, upd_ne hb]
            exact e
      · exact ⟨c, kk, none, none, rfl, hs, Sb.refl _ _, hc0, hk0⟩
    · rintro σ' H2 ⟨c2, k2, o1, o2, rfl, h2s, h2b, hc2, hk2⟩
      have h2l := h2b _ _ hne hl
      refine ⟨_, rfl, q, _, _, .int c2, rfl, rfl, SqL.of h2s, rfl, .inl ⟨_, rfl, ?_⟩⟩
      refine ⟨_, rfl, _, _, rfl, rfl, hm0, ?_⟩
      refine ⟨_, rfl, q, _, _, .int c2, rfl, rfl, SqL.of h2s, rfl, _, rfl, _, _, rfl, rfl, ⟨hm0, hm1⟩, _, rfl, q, _, _, 1, rfl, rfl, h2s, rfl, ?_⟩
      refine ⟨_, rfl, ?_⟩
      refine k (c2 % m) _ (Int.emod_nonneg _ (by omega)) (Int.emod_lt_of_pos _ hm0) ⟨ns, c2 / m, k2, upd_same, by rw [upd_ne hne]; exact h2l, Int.ediv_nonneg hc2 (by omega), hk2, hne⟩ fun b o hb e => ?_
      rw [upd_ne hb]
      exact h2b b o hb e
end
end Tb
/-! _law_equal; _law_problem. -/
namespace Mt
def wt : R3 → Int
  | .bef => 1
  | .bes => 2
  | .aft => 4
def bit (m : Int) (q : R3) : Bool := decide (m / wt q % 2 = 1)
theorem bits_ws (m : Int) : all3.filter (bit m) = all3.filter fun q => decide (q ∈ all3.filter (bit m)) := by
  refine List.filter_congr fun q hq => ?_
  cases h : bit m q with
  | true => exact (decide_eq_true (List.mem_filter.mpr ⟨hq, h⟩)).symm
  | false => exact (decide_eq_false fun z => by
      rw [(List.mem_filter.mp z).2] at h
      cases h).symm
theorem bits_some {m : Int} (h1 : 1 ≤ m) (h7 : m ≤ 7) : all3.filter (bit m) ≠ [] := by
  have h : m = 1 ∨ m = 2 ∨ m = 3 ∨ m = 4 ∨ m = 5 ∨ m = 6 ∨ m = 7 := by omega
  rcases h with rfl | rfl | rfl | rfl | rfl | rfl | rfl <;> decide
theorem turn_ne {n a d : Int} (hn : 2 ≤ n) (hn7 : n ≤ 7) (ha : 0 ≤ a) (han : a < n) (hd : 0 ≤ d) (hdn : d < n - 1) : a ≠ (a + 1 + d) % n := by
  have h : n = 2 ∨ n = 3 ∨ n = 4 ∨ n = 5 ∨ n = 6 ∨ n = 7 := by omega
  rcases h with rfl | rfl | rfl | rfl | rfl | rfl <;> omega
end Mt
namespace Tb
open PySem PySem.Spec PyProof.Rows L2 Mt
theorem At.sb {s : Addr} {H H' : Hp} {v : V} {t : T} (h : At H v t) (e : Sb s H H') {l l' : Addr} (a : Stm H s l) (b : Stm H' s l') : At H' v t := h.keep (e.kp a b)
theorem Ats.sb {s : Addr} {H H' : Hp} {v : List V} {t : List T} (h : Ats H v t) (e : Sb s H H') {l l' : Addr} (a : Stm H s l) (b : Stm H' s l') : Ats H' v t := h.keep (e.kp a b)
def rng (n : Nat) : List V := (List.range n).map fun (i : Nat) => V.int (i : Int)
theorem rng_len (n : Nat) : (rng n).length = n := by
  unfold rng
  rw [List.length_map, List.length_range]
theorem rng_at {n i : Nat} {x : V} (h : (rng n)[i]? = some x) : x = .int (i : Int) := by
  unfold rng at h
  obtain ⟨j, hj, rfl⟩ := get_map h
  have hlt : i < n := by
    have := (List.getElem?_eq_some_iff.mp hj).1
    rw [List.length_range] at this
    exact this
  rw [List.getElem?_range hlt] at hj
  rw [Option.some.inj hj]
theorem walk_rng (n : Nat) : Walk (Itr 0 n) (rng n).length (fun _ => True) (YAt (rng n)) := by
  rw [rng_len]
  refine ⟨fun _ _ hi _ => hi, fun _ _ => Nat.le_refl _, fun i H x H' hi _ y => ?_⟩
  obtain ⟨e1, e2⟩ := y
  refine ⟨e1, ?_⟩
  unfold rng
  rw [List.getElem?_map, List.getElem?_range hi, e2]
  show some (V.int (i : Int)) = some (V.int (0 + (i : Int)))
  rw [Int.zero_add]
section
variable {P : Program} {w : World} {K : PySem.W.Frag} {mg : Str → Option Value} {base : Heap}
def spEqual : Sp := fun vs H Q _ => ∃ a b : Bool, vs = [.bl a, .bl b] ∧ Q (.bl (decide (a = b))) H
abbrev nEqual : List Str := ["_law_actual", "_law_due"]
theorem sc_equal : FnScope nEqual nEqual (defScope (top 43)) := ⟨rfl, rfl, rfl, by decide +kernel, rfl, by decide +kernel, by decide +kernel⟩
theorem ok_equal (T : Txt w K mg) (F : DefAt K mg "_law_equal" "_law_equal" (top 43)) : Df P w K mg base 1 "_law_equal" spEqual := by
  refine F.ok sc_equal (fun _ _ _ _ _ _ us hl => match us, hl with | [_, _], _ => rfl) (fun vs H Q E h => ?_) (fun f cdv A outer s H vs Q E hr h => ?_)
  · obtain ⟨a, b, rfl, _⟩ := h
    rfl
  · obtain ⟨a, b, rfl, k⟩ := h
    refine ⟨_, pss_cons (ps_if (pt_cmp (pc_isN (pv 1))) (pss_one ps_never) pss_nil)
      (pss_cons (ps_if (pt_val (pe_isi (n := "bool") T.isi T.bool (pv 1))) (pss_one (ps_ret (pe_and (pe_isi (n := "bool") T.isi T.bool (pv 0)) (pe_one (pe_cmpR op_eq (pv 0) (pv 1) (nomark _)))))) pss_nil)
      (pss_cons ps_never (pss_cons ps_never (pss_cons ps_never (pss_cons ps_never (pss_cons ps_never (pss_one ps_never))))))), ?_⟩
    refine ⟨_, rfl, _, rfl, ?_⟩
    refine iteFof rfl ?_
    refine isi_var rfl (.bl b) (kit_bool _) ⟨_, rfl, ?_⟩
    refine iteTof rfl ?_
    refine isi_var rfl (.bl a) (kit_bool _) ⟨_, rfl, ?_⟩
    refine iteTof rfl ?_
    refine ⟨_, rfl, _, rfl, rfl, ?_⟩
    have e : decide (V.bl a = V.bl b) = decide (a = b) := decide_eq_decide.mpr ⟨fun z => V.bl.inj z, fun z => by rw [z]⟩
    show Q (.bl (decide (V.bl a = V.bl b))) H
    rw [e]
    exact k
def spProblem : Sp := fun vs H Q _ => ∃ s l : Addr, vs = [.ref s, .int 2, .int 7, .int 20] ∧ Stm H s l ∧ ∀ (p : Addr) (n : Int) (rs : List Rl) (H' : Hp), At H' (.ref p) (probT n rs) → ProbOk n rs → 2 ≤ n → Stm H' s l → Sb s H H' → Q (.ref p) H'
abbrev nProblem : List Str := ["_law_stream_here", "_law_least", "_law_most", "_law_rules", "_law_size", "_law_row", "_law_turn", "_law_first", "_law_second", "_law_many", "_law_words", "_law_allowed_here", "_law_k"]
theorem sc_problem : FnScope nProblem ["_law_stream_here", "_law_least", "_law_most", "_law_rules"] (defScope (top 44)) := ⟨rfl, rfl, rfl, by decide +kernel, rfl, by decide +kernel, by decide +kernel⟩
theorem ok_problem (T : Txt w K mg) (F : DefAt K mg "_law_problem" "_law_problem" (top 44)) (D : Df P w K mg base 1 "_law_next" spNext) : Df P w K mg base 2 "_law_problem" spProblem := by
  refine F.ok sc_problem (fun _ _ _ _ _ _ us hl => match us, hl with | [_, _, _, _], _ => rfl) (fun vs H Q E h => ?_) (fun f cdv A outer s H vs Q E hr h => ?_)
  · obtain ⟨s, l, rfl, _⟩ := h
    rfl
  · obtain ⟨q, lq, rfl, hst, k⟩ := h
    have nd := sc_problem.nd
    refine ⟨_, pss_cons (ps_set (i := 4) nd rfl (Or.inl rfl) (pe_op op_add (pv 1) (pe_df D hr (pa_cons (pv 0) (pa_cons (pe_op op_add (pe_op op_sub (pv 2) (pv 1)) pe_int) pa_nil)))))
      (pss_cons (ps_set (i := 5) nd rfl (Or.inl rfl) (pe_lst pa_nil))
      (C8.pss_cut (ps_if (pt_cmpR op_gt (pv 4) pe_int (nomark _))
        (pss_one (ps_for PassesOwn.never rfl (pi_range1 rfl T.range (pa_cons (pe_df D hr (pa_cons (pv 0) (pa_cons (pe_op op_add (pv 3) pe_int) pa_nil))) pa_nil)) (pg_name (i := 6) nd rfl (Or.inl rfl))
          (pss_cons (ps_set (i := 7) nd rfl (Or.inl rfl) (pe_df D hr (pa_cons (pv 0) (pa_cons (pv 4) pa_nil))))
          (pss_cons (ps_set (i := 8) nd rfl (Or.inl rfl) (pe_op op_mod (pe_op op_add (pe_op op_add (pv 7) pe_int) (pe_df D hr (pa_cons (pv 0) (pa_cons (pe_op op_sub (pv 4) pe_int) pa_nil)))) (pv 4)))
          (pss_cons (ps_set (i := 9) nd rfl (Or.inr rfl) (pe_op op_add pe_int (pe_df D hr (pa_cons (pv 0) (pa_cons pe_int pa_nil)))))
          (pss_cons (ps_set (i := 10) nd rfl (Or.inr rfl) (pe_lst (pa_cons pe_str (pa_cons pe_str (pa_cons pe_str pa_nil)))))
          (pss_cons (ps_set (i := 11) nd rfl (Or.inl rfl) (pe_callTy call_tuple_of rfl T.tuple (by decide +kernel) (pa_cons
            (pe_lc (own := [("_law_k", 12)]) (g := gName 12) rfl nd (pi_range1 rfl T.range (pa_cons pe_int pa_nil)) (blkOk_by (N := nProblem) (sc := defScope (top 44)) (by decide +kernel)) (fun _ _ _ _ _ => pg_name (i := 12) nd rfl (Or.inl rfl))
              (fun _ _ _ _ _ => pts_one (pt_cmpR op_eq (pe_op op_mod (pe_op op_fdiv (pv 9) (pe_ix (ixL K) (pe_lst (pa_cons pe_int (pa_cons pe_int (pa_cons pe_int pa_nil)))) (pv 12) (fun _ _ => rfl))) pe_int) pe_int (nomark _)))
              (fun _ _ _ _ _ => pe_ix (ixL K) (pv 10) (pv 12) (fun _ _ => rfl))) pa_nil)))
          (pss_one (ps_expr (pe_bm PySem.F.plainAttrs_list PySem.F.slot_list_append PySem.F.type_list_append mt_append (pv 5) (pa_cons (pe_tup (pa_cons (pv 7) (pa_cons (pv 11) (pa_cons (pv 8) pa_nil)))) pa_nil)))))))))))
        pss_nil)
      (pss_one (ps_ret (pe_tup (pa_cons (pv 4) (pa_cons (pe_callTy call_tuple_of rfl T.tuple (by decide +kernel) (pa_cons (pv 5) pa_nil)) pa_nil))))))), ?_⟩
    refine ⟨_, rfl, _, rfl, _, rfl, _, rfl, _, _, rfl, rfl, _, _, rfl, rfl, q, lq, _, rfl, hst, by decide, by decide, fun d H1 hd0 hd6 hst1 sb1 => ?_⟩
    refine ⟨_, _, rfl, rfl, ?_⟩
    have hd6 : d < 6 := hd6
    refine ⟨Nat.zero_le _, fun r hrn => ?_⟩
    have hsr : q ≠ r := (hst1.ne hrn).1
    have hlr : lq ≠ r := (hst1.ne hrn).2
    have hr0 : H r = none := by
      cases e : H r with
      | none => rfl
      | some o =>
        rw [sb1 r o (Ne.symm hsr) e] at hrn
        cases hrn
    have hn2 : 2 ≤ 2 + d := by omega
    have hn7 : 2 + d ≤ 7 := by omega
    refine ⟨fun σ' H2 => ∃ (o6 o7 o8 o9 o10 o11 : Option V) (rs : List Rl) (xs : List V), σ' = [some (.ref q), some (.int 2), some (.int 7), some (.int 20), some (.int (2 + d)), some (.ref r), o6, o7, o8, o9, o10, o11, none] ∧ Stm H2 q lq ∧ Sb q H H2 ∧ H2 r = some (.lst xs) ∧ Ats H2 xs (rs.map ruleT) ∧ rs.length ≤ 20 ∧ ∀ z ∈ rs, RlOk (2 + d) z, ?_, ?_⟩
    · refine ⟨_, rfl, _, _, rfl, rfl, _, rfl, ?_⟩
      refine iteTof (decide_eq_true (by show (1 : Int) < 2 + d; omega)) ?_
      have hst2 : Stm (upd H1 r (.lst [])) q lq := hst1.same (Same.new hrn)
      refine ⟨_, rfl, _, rfl, _, _, rfl, rfl, q, lq, _, rfl, hst2, by decide, by decide, fun m H2 hm0 hm1 hst3 sb2 => ?_⟩
      have hm1 : m < 21 := hm1
      refine ⟨m, rfl, by omega, by omega, for_range (n := m.toNat) (fun i σ H3 => ∃ (o6 o7 o8 o9 o10 o11 : Option V) (rs : List Rl) (xs : List V), σ = [some (.ref q), some (.int 2), some (.int 7), some (.int 20), some (.int (2 + d)), some (.ref r), o6, o7, o8, o9, o10, o11, none] ∧ Stm H3 q lq ∧ Sb q H H3 ∧ H3 r = some (.lst xs) ∧ Ats H3 xs (rs.map ruleT) ∧ rs.length = i ∧ ∀ z ∈ rs, RlOk (2 + d) z)
        ⟨none, none, none, none, none, none, [], [], rfl, hst3, (sb1.trans (Sb.of (Same.new hrn))).trans sb2, sb2 _ _ (Ne.symm hsr) upd_same, .nil, rfl, fun z hz => absurd hz List.not_mem_nil⟩ ?_ ?_⟩
      · rintro i σ H3 hi ⟨o6, o7, o8, o9, o10, o11, rs, xs, rfl, hst3, sb3, h3r, hxs, hlen, hall⟩
        have hi20 : i < 20 := by omega
        refine ⟨_, rfl, _, rfl, q, lq, (2 + d), rfl, hst3, by omega, by omega, fun a H4 ha0 han hst4 sb4 => ?_⟩
        refine ⟨_, rfl, _, _, rfl, rfl, _, rfl, _, rfl, _, _, rfl, rfl, q, lq, (2 + d) - 1, rfl, hst4, by omega, by omega, fun b H5 hb0 hbn hst5 sb5 => ?_⟩
        refine ⟨_, _, rfl, rfl, _, rfl, _, _, rfl, rfl, by omega, ?_⟩
        refine ⟨_, rfl, q, lq, _, rfl, hst5, by decide, by decide, fun c H6 hc0 hc7 hst6 sb6 => ?_⟩
        have hc7 : c < 7 := hc7
        refine ⟨_, _, rfl, rfl, (by show 3 ≤ sizeLine; decide), fun ww hww => ?_⟩
        have sb36 := (sb4.trans sb5).trans sb6
        have h6r := sb36 _ _ (Ne.symm hsr) h3r
        have hx6 := hxs.sb sb36 hst3 hst6
        have s7 : Same H6 (upd H6 ww (.lst (wds all3))) := Same.new hww
        refine ⟨3, rfl, by decide, by decide, fun D hD => lcG hD (walk_rng 3) (l := all3) rfl (bit (1 + c)) (fun q => Tb.T.str (sOf q)) (small1000 (by decide)) (fun _ _ => trivial) (fun j x z H' N1 N0 hx hz s n1 n0 => ?_) (fun H8 ys s8 hy8 ha8 => ?_)⟩
        · obtain rfl := rng_at hx
          refine ⟨rfl, ?_⟩
          refine ⟨_, rfl, (by show 3 ≤ sizeLine; decide), fun tt htt => ?_⟩
          have hwt : (all3.map fun z => V.int (wt z))[j]? = some (.int (wt z)) := by rw [List.getElem?_map, hz]; rfl
          have hwd : (wds all3)[j]? = some (.str (sOf z)) := by rw [List.getElem?_map, hz]; rfl
          have hpos : 0 < wt z ∧ wt z < 1073741824 := by cases z <;> decide
          have st := s.trans (Same.new (o := .lst (all3.map fun z => V.int (wt z))) htt)
          refine ⟨_, rfl, tt, _, _, .int (wt z), rfl, rfl, SqL.of (xs := all3.map fun z => V.int (wt z)) upd_same, at_of (j := j) rfl hwt, _, _, rfl, rfl, hpos, _, _, rfl, rfl, (by show (0 : Int) < 2; decide), rfl, _, rfl, ?_⟩
          by_cases hb : bit (1 + c) z = true
          · refine iteTof (decide_eq_true (congrArg V.int (of_decide_eq_true hb))) ?_
            exact ⟨_, rfl, _, rfl, ww, _, _, .str (sOf z), rfl, rfl, SqL.of (xs := wds all3) (st _ _ upd_same), at_of (j := j) rfl hwd, n1 hb _ _ (Same.new htt) (.str _)⟩
          · have hb : bit (1 + c) z = false := by simpa using hb
            refine iteFof (decide_eq_false fun e => ?_) (n0 hb _ (Same.new htt))
            have e := V.int.inj e
            rw [show bit (1 + c) z = true from decide_eq_true e] at hb
            cases hb
        · obtain rfl := filter_words all3 ha8
          refine ⟨D, _, rfl, .inl ⟨SqL.of hy8, fun l hl => ?_⟩⟩
          have s9 : Same H6 (upd H8 l (.tup (wds (all3.filter (bit (1 + c)))))) := (s7.trans s8).trans (Same.new hl)
          have h9r := s9 _ _ h6r
          refine ⟨_, rfl, .inl ⟨rfl, _, SqL.of h9r⟩, _, rfl, _, rfl, _, rfl, (by show 3 ≤ sizeLine; decide), fun t ht => ?_⟩
          have s10 := Same.new (o := .tup [.int a, .ref l, .int ((a + 1 + b) % (2 + d))]) ht
          have s610 := s9.trans s10
          have h10r := s10 _ _ h9r
          have hst10 := hst6.same s610
          have hxl : xs.length < sizeLine := small1000 (by have := hxs.length; rw [List.length_map] at this; omega)
          refine ⟨r, xs, .ref t, rfl, rfl, h10r, hxl, ?_⟩
          have kp := (Kp.refl (upd (upd H8 l (.tup (wds (all3.filter (bit (1 + c)))))) t (.tup [.int a, .ref l, .int ((a + 1 + b) % (2 + d))]))).putL (ys := xs ++ [.ref t]) h10r
          have a1 : Ats (upd (upd H8 l (.tup (wds (all3.filter (bit (1 + c)))))) t (.tup [.int a, .ref l, .int ((a + 1 + b) % (2 + d))])) (xs ++ [.ref t]) ((rs ++ [(⟨a, all3.filter (bit (1 + c)), (a + 1 + b) % (2 + d)⟩ : Rl)]).map ruleT) := by
            rw [List.map_append]
            refine (hx6.same s610).snoc (.tup upd_same (.cons (.int _) (.cons (At.of_words (s10 _ _ upd_same)) (.cons (.int _) .nil))))
          refine ⟨_, _, _, _, _, _, rs ++ [(⟨a, all3.filter (bit (1 + c)), (a + 1 + b) % (2 + d)⟩ : Rl)], xs ++ [.ref t], rfl, ?_, ?_, upd_same, a1.keep kp, by rw [List.length_append, hlen]; rfl, fun z hz => ?_⟩
          · exact hst10.put ⟨hsr, hlr⟩
          · exact Sb.put ((sb3.trans sb36).trans (Sb.of s610)) hr0
          · rcases List.mem_append.mp hz with hz | hz
            · exact hall z hz
            · rw [List.mem_singleton] at hz
              subst hz
              exact ⟨ha0, han, Int.emod_nonneg _ (by omega), Int.emod_lt_of_pos _ (by omega), turn_ne hn2 hn7 ha0 han hb0 hbn, bits_ws _, bits_some (by omega) (by omega)⟩
      · rintro σ H3 ⟨o6, o7, o8, o9, o10, o11, rs, xs, rfl, hst3, sb3, h3r, hxs, hlen, hall⟩
        exact ⟨_, _, _, _, _, _, rs, xs, rfl, hst3, sb3, h3r, hxs, by omega, hall⟩
    · rintro σ' H2 ⟨o6, o7, o8, o9, o10, o11, rs, xs, rfl, hst2, sb2, h2r, hxs, hlen, hall⟩
      refine ⟨_, rfl, _, rfl, r, xs, rfl, .inl ⟨SqL.of h2r, fun t ht => ?_⟩⟩
      refine ⟨(by show 2 ≤ sizeLine; decide), fun p hp => ?_⟩
      have s1 := Same.new (o := .tup xs) ht
      have s2 := Same.new (o := .tup [.int (2 + d), .ref t]) hp
      refine k p (2 + d) rs _ (.tup upd_same (.cons (.int (2 + d)) (.cons (.tup (s2 _ _ upd_same) ((hxs.same s1).same s2)) .nil))) ⟨by omega, hn7, hlen, hall⟩ hn2 (hst2.same (s1.trans s2)) (sb2.trans (Sb.of (s1.trans s2)))
end
end Tb
/-! _law_allowed, _law_table, _law_chosen. -/
namespace Tb
open PySem PySem.Spec PyProof.Rows L2 Mt
def pD (x y : Int) : PyData := .tuple [.int x, .int y]
theorem pD_eqv (a b x y : Int) : PyData.eqv (pD a b) (pD x y) = decide (a = x ∧ b = y) := by
  show (a == x && (b == y && true)) = _
  rw [Bool.and_true]
  by_cases h1 : a = x
  · subst h1
    by_cases h2 : b = y
    · subst h2
      simp
    · simp [h2]
  · simp [h1]
theorem pD_shaped (a b : Int) : SeqAt.shaped (pD a b) = true := by rfl
theorem fold_moreL {x y : Int} {rs : List Rl} {i : Nat} {r : Rl} (h : rs[i]? = some r) : (rs.take (i + 1)).foldl (turnL x y) all3 = turnL x y ((rs.take i).foldl (turnL x y) all3) r := by
  rw [take_more h, List.foldl_append]
  rfl
theorem fold_lenL (x y : Int) (rs : List Rl) (f : List R3) : (rs.foldl (turnL x y) f).length ≤ f.length := by
  rw [← turn_eq]
  exact fold_len x y rs f
def oppKv : List (Key × V) := [((Sum.inr "before" : Key), V.str "after"), (Sum.inr "beside", V.str "beside"), (Sum.inr "after", V.str "before")]
theorem oppKv_get (q : R3) : valV oppKv (Sum.inr (sOf q) : Key) = some (V.str (sOf q.opp)) := by
  cases q <;> decide +kernel
theorem oppKv_merge : mergeK [] oppKv = oppKv := by decide +kernel
section
variable {P : Program} {w : World} {K : PySem.W.Frag} {mg : Str → Option Value} {base : Heap}
def spLAllow : Sp := fun vs H Q _ => ∃ (v : V) (n : Int) (rs : List Rl) (x y : Int), vs = [v, .int x, .int y] ∧ At H v (probT n rs) ∧ ProbOk n rs ∧
  ∀ (p : Addr) (H' : Hp), Same H H' → H p = none → H' p = some (.lst (wds (allowed rs x y))) → Q (.ref p) H'
abbrev nLA : List Str := ["_law_problem_here", "_law_first", "_law_second", "_law_opposite", "_law_found", "_law_one", "_law_allowed_here", "_law_other", "_law_word"]
theorem sc_la : FnScope nLA ["_law_problem_here", "_law_first", "_law_second"] (defScope (top 45)) := ⟨rfl, rfl, rfl, by decide +kernel, rfl, by decide +kernel, by decide +kernel⟩
theorem ok_la (T : Txt w K mg) (F : DefAt K mg "_law_allowed" "_law_allowed" (top 45)) : Df P w K mg base 1 "_law_allowed" spLAllow := by
  refine F.ok sc_la (fun _ _ _ _ _ _ us hl => match us, hl with | [_, _, _], _ => rfl) (fun vs H Q E h => ?_) (fun f cdv A outer s H vs Q E hr h => ?_)
  · obtain ⟨v, n, rs, x, y, rfl, _⟩ := h
    rfl
  · obtain ⟨v, n, rs, x, y, rfl, ha, hk, k⟩ := h
    have hun := hu_of hr
    have nd := sc_la.nd
    obtain ⟨a, b, xs, rfl, hp, hb, hxs⟩ := ha.prob
    have hlen : xs.length = rs.length := by rw [hxs.length, List.length_map]
    refine ⟨_, pss_cons (ps_set (i := 3) nd rfl (Or.inr rfl) (pe_disp (pps_cons pe_str pe_str (pps_cons pe_str pe_str (pps_cons pe_str pe_str pps_nil))) (by rfl) (by rfl) (fun z => by cases z) (by decide)))
      (pss_cons (ps_set (i := 4) nd rfl (Or.inl rfl) (pe_lst (pa_cons pe_str (pa_cons pe_str (pa_cons pe_str pa_nil)))))
      (pss_cons (ps_for PassesOwn.never rfl (pi_tup (pe_ix ix_tup (pv 0) pe_int (fun _ _ => rfl))) (pg_tup rfl (pgs_cons (pg_name (i := 5) nd rfl (Or.inl rfl)) (pgs_cons (pg_name (i := 6) nd rfl (Or.inr rfl)) (pgs_cons (pg_name (i := 7) nd rfl (Or.inl rfl)) pgs_nil))))
        (C8.pss_cut (ps_if (pt_cmpR (op_eqD hr.units) (pe_tup (pa_cons (pv 5) (pa_cons (pv 7) pa_nil))) (pe_tup (pa_cons (pv 1) (pa_cons (pv 2) pa_nil))) (nomark _))
          (pss_one (ps_setLc (i := 4) (own := [("_law_word", 8)]) (g := gName 8) rfl nd rfl rfl (sw_true rfl rfl rfl (by decide +kernel)) (pi_list (pv 4)) (blkOk_by (N := nLA) (sc := defScope (top 45)) (by decide +kernel)) (fun _ _ _ _ _ => pg_name (i := 8) nd rfl (Or.inl rfl))
            (fun _ _ _ _ _ => pts_one (pt_cmpR (opIn K) (pv 8) (pv 6) rfl)) (fun _ _ _ _ _ => pv 8))) pss_nil)
        (pss_one (ps_if (pt_cmpR (op_eqD hr.units) (pe_tup (pa_cons (pv 5) (pa_cons (pv 7) pa_nil))) (pe_tup (pa_cons (pv 2) (pa_cons (pv 1) pa_nil))) (nomark _))
          (pss_one (ps_setLc (i := 4) (own := [("_law_word", 8)]) (g := gName 8) rfl nd rfl rfl (sw_true rfl rfl rfl (by decide +kernel)) (pi_list (pv 4)) (blkOk_by (N := nLA) (sc := defScope (top 45)) (by decide +kernel)) (fun _ _ _ _ _ => pg_name (i := 8) nd rfl (Or.inl rfl))
            (fun _ _ _ _ _ => pts_one (pt_cmpR (opIn K) (pe_dget hun (pv 3) (pv 8) (fun _ _ => rfl)) (pv 6) rfl)) (fun _ _ _ _ _ => pv 8))) pss_nil))))
      (pss_one (ps_ret (pv 4))))), ?_⟩
    intro d hd
    refine ⟨upd_same, oppKv, rfl, by decide, ?_⟩
    rw [upd_upd, oppKv_merge]
    refine ⟨(by show 3 ≤ sizeLine; decide), fun l0 hl0 => ?_⟩
    have s0 : Same H (upd H d (.dK oppKv)) := Same.new hd
    have s1 := s0.trans (Same.new (o := .lst (wds all3)) hl0)
    have hd1 := (Same.new (o := .lst (wds all3)) hl0) _ _ (upd_same (H := H) (a := d) (o := .dK oppKv))
    have hlr0 : H l0 = none := s0.free hl0
    have base0 : ∃ l0' : Addr, H l0' = none := ⟨l0, hlr0⟩
    refine ⟨_, rfl, a, _, _, .ref b, rfl, rfl, SqT.of (s1 _ _ hp), rfl, b, rfl, ⟨_, SqT.of (s1 _ _ hb)⟩, for_tup (K := K) (a := b) (xs := xs)
      (fun i σ H1 => ∃ (l : Addr) (o5 o6 o7 : Option V), σ = [some (.ref a), some (.int x), some (.int y), some (.ref d), some (.ref l), o5, o6, o7, none] ∧ Same H H1 ∧ H1 d = some (.dK oppKv) ∧ H l = none ∧ H1 l = some (.lst (wds ((rs.take i).foldl (turnL x y) all3))))
      ⟨l0, none, none, none, rfl, s1, hd1, hlr0, upd_same⟩ (fun i σ H1 _ ⟨_, _, _, _, _, s, _⟩ => SqT.of (s _ _ hb)) ?_ ?_⟩
    · rintro i u σ H1 hi ⟨l, o5, o6, o7, rfl, s1, hd1, hln, hl1⟩
      obtain ⟨t, ht, hu⟩ := hxs.get hi
      obtain ⟨r, hri, rfl⟩ := get_map ht
      obtain ⟨ra, rx, rfl, hra, hrx⟩ := (hu.same s1).rule
      obtain ⟨wa, rfl, hwa⟩ := hrx.words
      rw [fold_moreL hri]
      have hl3 : ((rs.take i).foldl (turnL x y) all3).length ≤ 3 := fold_lenL x y _ all3
      have hrk := hk.ok r (List.mem_of_getElem? hri)
      generalize hf : (rs.take i).foldl (turnL x y) all3 = f0 at hl1 hl3 ⊢
      refine ⟨ra, _, rfl, SqT.of hra, rfl, _, _, rfl, _, _, rfl, _, _, rfl, rfl, ?_⟩
      refine ⟨fun σ' H2 => ∃ (l1 : Addr) (f1 : List R3), σ' = [some (.ref a), some (.int x), some (.int y), some (.ref d), some (.ref l1), some (.int r.a), some (.ref wa), some (.int r.b), none] ∧ Same H1 H2 ∧ H l1 = none ∧ H2 l1 = some (.lst (wds f1)) ∧ f1.length ≤ 3 ∧
        f1 = (if r.a = x ∧ r.b = y then f0.filter (fun q => decide (q ∈ r.ws)) else f0), ?_, ?_⟩
      · refine ⟨_, rfl, _, rfl, (by show 2 ≤ sizeLine; decide), fun p hp => ?_⟩
        refine ⟨_, rfl, _, rfl, (by show 2 ≤ sizeLine; decide), fun q hq => ?_⟩
        have sp := Same.new (o := .tup [.int r.a, .int r.b]) hp
        have sq := Same.new (o := .tup [.int x, .int y]) hq
        have spq := sp.trans sq
        refine ⟨pD r.a r.b, pD x y, .tup (SqT.of (sq _ _ upd_same)) (.cons (.int _) (.cons (.int _) .nil)), .tup (SqT.of upd_same) (.cons (.int _) (.cons (.int _) .nil)), pD_shaped _ _, pD_shaped _ _, _, rfl, ?_⟩
        rw [pD_eqv]
        refine ite2 (fun c1 => ?_) (fun c1 => ?_)
        · have c1 := of_decide_eq_true c1
          refine ⟨_, rfl, l, rfl, ⟨_, SqL.of (spq _ _ hl1)⟩, fun D1 hD => lcG hD (walk_list (K := K) (a := l) (xs := wds f0)) (l := f0) (by rw [List.length_map]) (fun q => decide (q ∈ r.ws)) (fun q => Tb.T.str (sOf q)) (by rw [List.length_map]; exact small1000 (by omega)) (fun H' s => s.seq (SqL.of (spq _ _ hl1))) (fun j z q' H' N1 N0 hx hq' s n1 n0 => ?_) (fun H2 ys s2 hy2 ha2 => ?_)⟩
          · obtain ⟨q2, hq2, rfl⟩ := get_map hx
            rw [hq'] at hq2
            obtain rfl := Option.some.inj hq2
            refine ⟨rfl, in_words (q := q') rfl rfl (.inr (SqT.of (s _ _ (spq _ _ hwa)))) ?_⟩
            by_cases c : q' ∈ r.ws
            · exact iteTof (decide_eq_true c) ⟨_, rfl, n1 (decide_eq_true c) _ _ (Same.refl _) (.str _)⟩
            · exact iteFof (decide_eq_false c) (n0 (decide_eq_false c) _ (Same.refl _))
          · obtain rfl := filter_words f0 ha2
            refine ⟨D1, _, rfl, spq.trans s2, (s1.trans spq).free hD, hy2, Nat.le_trans (List.length_filter_le _ _) hl3, ?_⟩
            rw [if_pos c1]
        · refine ⟨l, f0, rfl, spq, hln, spq _ _ hl1, hl3, ?_⟩
          rw [if_neg (fun z => c1 (decide_eq_true z))]
      · rintro σ' H2 ⟨l1, f1, rfl, s12, hln1, hl1', hl31, hf1⟩
        have et : turnL x y f0 r = if r.a = y ∧ r.b = x then f1.filter (fun q => decide (q.opp ∈ r.ws)) else f1 := by
          unfold turnL
          rw [← hf1]
        have s2 := s1.trans s12
        refine ⟨_, rfl, _, rfl, (by show 2 ≤ sizeLine; decide), fun p hp => ?_⟩
        refine ⟨_, rfl, _, rfl, (by show 2 ≤ sizeLine; decide), fun q hq => ?_⟩
        have sp := Same.new (o := .tup [.int r.a, .int r.b]) hp
        have sq := Same.new (o := .tup [.int y, .int x]) hq
        have spq := sp.trans sq
        have s1q := s12.trans spq
        refine ⟨pD r.a r.b, pD y x, .tup (SqT.of (sq _ _ upd_same)) (.cons (.int _) (.cons (.int _) .nil)), .tup (SqT.of upd_same) (.cons (.int _) (.cons (.int _) .nil)), pD_shaped _ _, pD_shaped _ _, _, rfl, ?_⟩
        rw [pD_eqv]
        refine ite2 (fun c1 => ?_) (fun c1 => ?_)
        · have c1 := of_decide_eq_true c1
          refine ⟨_, rfl, l1, rfl, ⟨_, SqL.of (spq _ _ hl1')⟩, fun D1 hD => lcG hD (walk_list (K := K) (a := l1) (xs := wds f1)) (l := f1) (by rw [List.length_map]) (fun q => decide (q.opp ∈ r.ws)) (fun q => Tb.T.str (sOf q)) (by rw [List.length_map]; exact small1000 (by omega)) (fun H' s => s.seq (SqL.of (spq _ _ hl1'))) (fun j z q' H' N1 N0 hx hq' s n1 n0 => ?_) (fun H3 ys s3 hy3 ha3 => ?_)⟩
          · obtain ⟨q2, hq2, rfl⟩ := get_map hx
            rw [hq'] at hq2
            obtain rfl := Option.some.inj hq2
            have hg := DGet.k (k := (Sum.inr (sOf q') : Key)) (s _ _ (s1q _ _ hd1))
            rw [oppKv_get] at hg
            refine ⟨rfl, _, rfl, _, rfl, d, _, rfl, hg, _, rfl, wa, wds r.ws, rfl, .inr (SqT.of (s _ _ (s1q _ _ hwa))), rfl, flat_words _, _, rfl, ?_⟩
            by_cases c : q'.opp ∈ r.ws
            · exact iteTof ((inV_word q'.opp r.ws).trans (decide_eq_true c)) ⟨_, rfl, n1 (decide_eq_true c) _ _ (Same.refl _) (.str _)⟩
            · exact iteFof ((inV_word q'.opp r.ws).trans (decide_eq_false c)) (n0 (decide_eq_false c) _ (Same.refl _))
          · obtain rfl := filter_words f1 ha3
            refine ⟨D1, _, _, _, rfl, (s2.trans spq).trans s3, s3 _ _ (s1q _ _ hd1), (s2.trans spq).free hD, ?_⟩
            rw [et, if_pos c1]
            exact hy3
        · refine ⟨l1, _, _, _, rfl, s2.trans spq, s1q _ _ hd1, hln1, ?_⟩
          rw [et, if_neg (fun z => c1 (decide_eq_true z))]
          exact spq _ _ hl1'
    · rintro σ H1 ⟨l, o5, o6, o7, rfl, s1, hd1, hln, hl1⟩
      rw [hlen, List.take_length] at hl1
      refine ⟨_, rfl, k l H1 s1 hln ?_⟩
      rw [← allowed_eq]
      exact hl1
end
end Tb
/-! _law_table, _law_chosen. -/
namespace Tb
open PySem PySem.Spec PyProof.Rows L2 Mt
abbrev ky (x y : Int) : List Key := [Sum.inl x, Sum.inl y]
/-- the table's pairs that C tells -/
def TabI (H : Hp) (t : Addr) (kvs : List (List Key × V)) (rs : List Rl) (C : Int → Int → Prop) : Prop := H t = some (.dT kvs) ∧ ∀ x y, C x y → ∃ p, valV kvs (ky x y) = some (.ref p) ∧ H p = some (.lst (wds (allowed rs x y)))
def InT (n x y : Int) : Prop := 0 ≤ x ∧ x < n ∧ 0 ≤ y ∧ y < n ∧ x ≠ y
def TabAt (H : Hp) (t : Addr) (n : Int) (rs : List Rl) : Prop := ∃ kvs, TabI H t kvs rs (InT n)
theorem TabI.same {H H' : Hp} {t : Addr} {kvs : List (List Key × V)} {rs : List Rl} {C : Int → Int → Prop} (h : TabI H t kvs rs C) (s : Same H H') : TabI H' t kvs rs C :=
  ⟨s _ _ h.1, fun x y c => by
    obtain ⟨p, h1, h2⟩ := h.2 x y c
    exact ⟨p, h1, s _ _ h2⟩⟩
theorem TabAt.same {H H' : Hp} {t : Addr} {n : Int} {rs : List Rl} (h : TabAt H t n rs) (s : Same H H') : TabAt H' t n rs := by
  obtain ⟨kvs, h⟩ := h
  exact ⟨kvs, h.same s⟩
theorem wds_not {ws : List R3} {l : Addr} {c k : Int} : (HO.lst (wds ws)) ≠ .lst [.ref l, .int c, .int k] := fun e => by
  have e := HO.lst.inj e
  cases ws with
  | nil => cases e
  | cons q r => cases e
theorem TabAt.sb {H H' : Hp} {t s l : Addr} {n : Int} {rs : List Rl} (h : TabAt H t n rs) (e : Sb s H H') (hs : Stm H s l) : TabAt H' t n rs := by
  obtain ⟨kvs, h1, h2⟩ := h
  obtain ⟨ns, c, k, e1, _⟩ := hs
  refine ⟨kvs, e _ _ (ne_of h1 e1 (by intro z; cases z)) h1, fun x y cc => ?_⟩
  obtain ⟨p, h3, h4⟩ := h2 x y cc
  exact ⟨p, h3, e _ _ (ne_of h4 e1 wds_not) h4⟩
theorem putK_len {κ : Type} [DecidableEq κ] (kvs : List (κ × V)) (k : κ) (v : V) : (putK kvs k v).length ≤ kvs.length + 1 := by
  unfold putK
  split
  · rw [List.length_map]
    exact Nat.le_succ _
  · rw [List.length_append]
    exact Nat.le_refl _
theorem ky_inj {x y a b : Int} (h : ky x y = ky a b) : x = a ∧ y = b := by
  injection h with h1 h2
  injection h2 with h2 _
  exact ⟨Sum.inl.inj h1, Sum.inl.inj h2⟩
section
variable {P : Program} {w : World} {K : PySem.W.Frag} {mg : Str → Option Value} {base : Heap}
def spTable : Sp := fun vs H Q _ => ∃ (v : V) (n : Int) (rs : List Rl), vs = [v] ∧ At H v (probT n rs) ∧ ProbOk n rs ∧ ∀ (t : Addr) (H' : Hp), Same H H' → TabAt H' t n rs → Q (.ref t) H'
abbrev nTab : List Str := ["_law_problem_here", "_law_table_here", "_law_first", "_law_second"]
theorem sc_tab : FnScope nTab ["_law_problem_here"] (defScope (top 46)) := ⟨rfl, rfl, rfl, by decide +kernel, rfl, by decide +kernel, by decide +kernel⟩
theorem ok_tab (T : Txt w K mg) (F : DefAt K mg "_law_table" "_law_table" (top 46)) (D : Df P w K mg base 1 "_law_allowed" spLAllow) : Df P w K mg base 2 "_law_table" spTable := by
  refine F.ok sc_tab (fun _ _ _ _ _ _ us hl => match us, hl with | [_], _ => rfl) (fun vs H Q E h => ?_) (fun f cdv A outer s H vs Q E hr h => ?_)
  · obtain ⟨v, n, rs, rfl, _⟩ := h
    rfl
  · obtain ⟨v, n, rs, rfl, ha, hk, k⟩ := h
    have hun := hu_of hr
    have nd := sc_tab.nd
    obtain ⟨a, b, xs, rfl, hp, hb, hxs⟩ := ha.prob
    have hn1 := hk.lo
    have hn7 := hk.hi
    refine ⟨_, pss_cons (ps_set (i := 1) nd rfl (Or.inl rfl) pe_dnewT)
      (pss_cons (ps_for PassesOwn.never rfl (pi_range1 rfl T.range (pa_cons (pe_ix ix_tup (pv 0) pe_int (fun _ _ => rfl)) pa_nil)) (pg_name (i := 2) nd rfl (Or.inl rfl))
        (pss_one (ps_for PassesOwn.never rfl (pi_range1 rfl T.range (pa_cons (pe_ix ix_tup (pv 0) pe_int (fun _ _ => rfl)) pa_nil)) (pg_name (i := 3) nd rfl (Or.inl rfl))
          (pss_one (ps_if (pt_cmpR op_ne (pv 2) (pv 3) (nomark _))
            (pss_one (ps_dput hun (pv 1) (pe_tup (pa_cons (pv 2) (pa_cons (pv 3) pa_nil))) (pe_df D hr (pa_cons (pv 0) (pa_cons (pv 2) (pa_cons (pv 3) pa_nil)))) rfl)) pss_nil)))))
      (pss_one (ps_ret (pv 1)))), ?_⟩
    intro t ht
    have s0 : Same H (upd H t (.dT [])) := Same.new ht
    refine ⟨_, rfl, a, _, _, .int n, rfl, rfl, SqT.of (s0 _ _ hp), rfl, n, rfl, by omega, by omega, for_range (n := n.toNat)
      (fun i σ H1 => ∃ (o2 o3 : Option V) (kvs : List (List Key × V)), σ = [some (.ref a), some (.ref t), o2, o3] ∧ Same H H1 ∧ kvs.length ≤ 7 * i ∧ TabI H1 t kvs rs (fun x y => InT n x y ∧ x < i))
      ⟨none, none, [], rfl, s0, Nat.le_refl _, upd_same, fun x y c => by obtain ⟨⟨h1, _⟩, h2⟩ := c; exfalso; have : x < 0 := h2; omega⟩ ?_ ?_⟩
    · rintro i σ H1 hi ⟨o2, o3, kvs, rfl, s1, hlen, hT⟩
      refine ⟨_, rfl, a, _, _, .int n, rfl, rfl, SqT.of (s1 _ _ hp), rfl, n, rfl, by omega, by omega, for_range (n := n.toNat)
        (fun j σ H2 => ∃ (o3 : Option V) (kvs : List (List Key × V)), σ = [some (.ref a), some (.ref t), some (.int (0 + (i : Int))), o3] ∧ Same H H2 ∧ kvs.length ≤ 7 * i + j ∧ TabI H2 t kvs rs (fun x y => InT n x y ∧ (x < i ∨ (x = i ∧ y < j))))
        ⟨o3, kvs, rfl, s1, hlen, hT.1, fun x y c => hT.2 x y ⟨c.1, by rcases c.2 with z | z; exact z; exfalso; have h1 := c.1.2.2.1; have h2 : y < 0 := z.2; omega⟩⟩ ?_ ?_⟩
      · rintro j σ H2 hj ⟨o3, kvs, rfl, s2, hlen, hT⟩
        refine ⟨_, rfl, _, rfl, rfl, _, rfl, ?_⟩
        by_cases hij : (i : Int) = j
        · refine iteFof (by rw [hij]; simp) ?_
          refine ⟨_, kvs, rfl, s2, Nat.le_succ_of_le hlen, hT.1, fun x y c => hT.2 x y ⟨c.1, ?_⟩⟩
          obtain ⟨⟨_, _, _, _, hne⟩, hc⟩ := c
          rcases hc with z | ⟨z1, z2⟩
          · exact .inl z
          · refine .inr ⟨z1, ?_⟩
            have z2 : y < (j : Int) + 1 := z2
            omega
        · refine iteTof (by rw [decide_eq_false (fun e => hij (by have := V.int.inj e; omega))]; rfl) ?_
          refine ⟨_, rfl, _, rfl, _, rfl, .ref a, n, rs, 0 + (i : Int), 0 + (j : Int), rfl, ha.same s2, hk, fun p H3 s3 hpn hp3 => ?_⟩
          refine ⟨_, rfl, _, rfl, _, rfl, (by show 2 ≤ sizeLine; decide), fun q hq => ?_⟩
          have hT3 := (hT.same s3).same (Same.new (o := .tup [.int (0 + (i : Int)), .int (0 + (j : Int))]) hq)
          have s4 := Same.new (o := .tup [.int (0 + (i : Int)), .int (0 + (j : Int))]) hq
          refine ⟨t, _, rfl, DPut.t (k := ky (0 + (i : Int)) (0 + (j : Int))) hT3.1 upd_same (small1000 (by omega)), ?_⟩
          have hpt : p ≠ t := ne_of (s4 _ _ hp3) hT3.1 (by intro z; cases z)
          refine ⟨_, putK kvs (ky (0 + (i : Int)) (0 + (j : Int))) (.ref p), rfl, Same.put (s2.trans (s3.trans s4)) ht, Nat.le_trans (putK_len _ _ _) (Nat.succ_le_succ hlen), upd_same, fun x y c => ?_⟩
          rw [valV_put]
          by_cases e : ky x y = ky (0 + (i : Int)) (0 + (j : Int))
          · rw [if_pos e]
            obtain ⟨e1, e2⟩ := ky_inj e
            refine ⟨p, rfl, ?_⟩
            rw [upd_ne hpt, e1, e2]
            exact s4 _ _ hp3
          · rw [if_neg e]
            have hold : InT n x y ∧ (x < i ∨ (x = i ∧ y < j)) := ⟨c.1, by
              rcases c.2 with z | ⟨z1, z2⟩
              · exact .inl z
              · refine .inr ⟨z1, ?_⟩
                have z2 : y < (j : Int) + 1 := z2
                have : y ≠ j := fun ey => e (by rw [z1, ey, Int.zero_add, Int.zero_add])
                omega⟩
            obtain ⟨p', h1, h2⟩ := hT3.2 x y hold
            refine ⟨p', h1, ?_⟩
            rw [upd_ne (ne_of h2 hT3.1 (by intro z; cases z))]
            exact h2
      · rintro σ H2 ⟨o3, kvs, rfl, s2, hlen, hT⟩
        refine ⟨_, _, kvs, rfl, s2, by omega, hT.1, fun x y c => hT.2 x y ⟨c.1, ?_⟩⟩
        obtain ⟨⟨_, _, _, hy, _⟩, hc⟩ := c
        have hc : x < (i : Int) + 1 := hc
        by_cases e : x = i
        · exact .inr ⟨e, by omega⟩
        · exact .inl (by omega)
    · rintro σ H1 ⟨o2, o3, kvs, rfl, s1, hlen, hT⟩
      exact ⟨_, rfl, k t H1 s1 ⟨kvs, hT.1, fun x y c => hT.2 x y ⟨c, by have := c.2.1; omega⟩⟩⟩
def spChosen : Sp := fun vs H Q _ => ∃ (s l : Addr) (n : Int), vs = [.ref s, .int n, .int 2] ∧ Stm H s l ∧ 2 ≤ n ∧ n ≤ 7 ∧ ∀ (p : Addr) (cs : List Int) (H' : Hp), At H' (.ref p) (setT cs) → SetOk n cs → 2 ≤ cs.length → Stm H' s l → Sb s H H' → Q (.ref p) H'
abbrev nCho : List Str := ["_law_stream_here", "_law_size", "_law_least", "_law_chosen_here", "_law_task"]
theorem sc_cho : FnScope nCho ["_law_stream_here", "_law_size", "_law_least"] (defScope (top 47)) := ⟨rfl, rfl, rfl, by decide +kernel, rfl, by decide +kernel, by decide +kernel⟩
theorem up_len : ∀ {cs : List Int} {n : Nat} {a : Int}, cs.Pairwise (· < ·) → (∀ c ∈ cs, a ≤ c) → (∀ c ∈ cs, c < a + n) → cs.length ≤ n
  | [], _, _, _, _, _ => Nat.zero_le _
  | c :: cs, 0, a, _, h1, h2 => by
    have := h1 c List.mem_cons_self
    have := h2 c List.mem_cons_self
    omega
  | c :: cs, n + 1, a, hp, h1, h2 => by
    obtain ⟨hc, hp⟩ := List.pairwise_cons.mp hp
    have ha := h1 c List.mem_cons_self
    have := up_len (cs := cs) (n := n) (a := a + 1) hp (fun z hz => by have := hc z hz; omega) (fun z hz => by have := h2 z (List.mem_cons_of_mem _ hz); omega)
    exact Nat.succ_le_succ this
theorem SetOk.mk' {n : Int} {cs : List Int} (hn : n ≤ 7) (h0 : cs ≠ []) (up : cs.Pairwise (· < ·)) (lo : ∀ c ∈ cs, 0 ≤ c) (hi : ∀ c ∈ cs, c < n) : SetOk n cs :=
  ⟨h0, up, lo, hi, up_len (n := 7) (a := 0) up lo fun c hc => by have := hi c hc; omega⟩
theorem rgV_is (n : Nat) : rgV 0 (n : Int) = ((List.range n).map fun (i : Nat) => (i : Int)).map V.int := by
  unfold rgV
  rw [List.map_map, show ((n : Int) - 0).toNat = n by omega]
  refine List.map_congr_left fun i _ => ?_
  show V.int (0 + (i : Int)) = V.int (i : Int)
  rw [Int.zero_add]
theorem range_up (n : Nat) : ((List.range n).map fun (i : Nat) => (i : Int)).Pairwise (· < ·) := by
  rw [List.pairwise_map]
  exact List.pairwise_lt_range.imp fun h => by omega
theorem ok_cho (T : Txt w K mg) (F : DefAt K mg "_law_chosen" "_law_chosen" (top 47)) (D : Df P w K mg base 1 "_law_next" spNext) : Df P w K mg base 2 "_law_chosen" spChosen := by
  refine F.ok sc_cho (fun _ _ _ _ _ _ us hl => match us, hl with | [_, _, _], _ => rfl) (fun vs H Q E h => ?_) (fun f cdv A outer s H vs Q E hr h => ?_)
  · obtain ⟨s, l, n, rfl, _⟩ := h
    rfl
  · obtain ⟨q, lq, n, rfl, hst, hn2, hn7, k⟩ := h
    have nd := sc_cho.nd
    refine ⟨_, pss_cons (ps_set (i := 3) nd rfl (Or.inl rfl) (pe_callTy call_tuple_of rfl T.tuple (by decide +kernel) (pa_cons
        (pe_lc (own := [("_law_task", 4)]) (g := gName 4) rfl nd (pi_range1 rfl T.range (pa_cons (pv 1) pa_nil)) (blkOk_by (N := nCho) (sc := defScope (top 47)) (by decide +kernel)) (fun _ _ _ _ _ => pg_name (i := 4) nd rfl (Or.inl rfl))
          (fun _ _ _ _ _ => pts_one (pt_cmpR op_gt (pe_df D hr (pa_cons (pv 0) (pa_cons pe_int pa_nil))) pe_int (nomark _))) (fun _ _ _ _ _ => pv 4)) pa_nil)))
      (pss_cons (ps_if (pt_cmpR op_lt (pe_callB call_len_seq rfl T.len PySem.boot_len (pa_cons (pv 3) pa_nil)) (pv 2) (nomark _))
        (pss_one (ps_set (i := 3) nd rfl (Or.inl rfl) (pe_tupRg rfl rfl T.tuple (prg_1 rfl T.range (pv 1))))) pss_nil)
      (pss_one (ps_ret (pv 3)))), ?_⟩
    refine ⟨_, rfl, n, rfl, by omega, by omega, fun D1 hD => lc_range (lo := 0) (n := n.toNat)
      (fun i H1 => ∃ cs : List Int, Stm H1 q lq ∧ Sb q H H1 ∧ H1 D1 = some (.lst (cs.map V.int)) ∧ cs.length ≤ i ∧ cs.Pairwise (· < ·) ∧ ∀ c ∈ cs, 0 ≤ c ∧ c < i)
      ⟨[], hst.same (Same.new hD), Sb.of (Same.new hD), upd_same, Nat.le_refl _, .nil, fun c hc => absurd hc List.not_mem_nil⟩ ?_ ?_⟩
    · rintro i H1 hi ⟨cs, hst1, sb1, hD1, hlen, hup, hcs⟩
      have hqD := hst.ne hD
      refine ⟨rfl, _, rfl, q, lq, 4, rfl, hst1, by decide, by decide, fun d H2 hd0 hd4 hst2 sb2 => ?_⟩
      refine ⟨_, _, rfl, rfl, _, rfl, ?_⟩
      have h2D := sb2 _ _ (Ne.symm hqD.1) hD1
      refine ite2 (fun _ => ?_) (fun _ => ?_)
      · refine ⟨_, rfl, cs.map V.int, h2D, by rw [List.length_map]; exact small1000 (by omega), cs ++ [0 + (i : Int)], hst2.put hqD, Sb.put (sb1.trans sb2) hD, by rw [upd_same, List.map_append]; rfl, by rw [List.length_append]; exact Nat.succ_le_succ hlen, ?_, fun c hc => ?_⟩
        · rw [List.pairwise_append]
          refine ⟨hup, List.pairwise_singleton _ _, fun c hc z hz => ?_⟩
          rw [List.mem_singleton] at hz
          subst hz
          have := (hcs c hc).2
          omega
        · rcases List.mem_append.mp hc with hc | hc
          · have := hcs c hc
            exact ⟨this.1, by have := this.2; omega⟩
          · rw [List.mem_singleton] at hc
            subst hc
            omega
      · exact ⟨cs, hst2, sb1.trans sb2, h2D, Nat.le_succ_of_le hlen, hup, fun c hc => ⟨(hcs c hc).1, by have := (hcs c hc).2; omega⟩⟩
    · rintro H1 ⟨cs, hst1, sb1, hD1, hlen, hup, hcs⟩
      refine ⟨D1, _, rfl, .inl ⟨SqL.of hD1, fun t ht => ?_⟩⟩
      have st := Same.new (o := .tup (cs.map V.int)) ht
      refine ⟨_, rfl, t, _, rfl, .inr (SqT.of upd_same), _, rfl, _, _, rfl, rfl, _, rfl, ?_⟩
      refine ite2 (fun hlt => ?_) (fun hlt => ?_)
      · refine ⟨_, rfl, n, rfl, RgOk.of_le (by decide) (by omega) (by decide) (by omega), fun u hu => ?_⟩
        obtain ⟨m, rfl⟩ : ∃ m : Nat, n = (m : Int) := ⟨n.toNat, by omega⟩
        refine ⟨_, rfl, ?_⟩
        have su := Same.new (o := .tup (rgV 0 (m : Int))) hu
        refine k u ((List.range m).map fun (i : Nat) => (i : Int)) _ (At.of_set (by rw [upd_same, rgV_is])) (SetOk.mk' hn7 (fun z => ?_) (range_up m) (fun c hc => ?_) (fun c hc => ?_)) (by rw [List.length_map, List.length_range]; omega) ((hst1.same st).same su) (sb1.trans (Sb.of (st.trans su)))
        · have := congrArg List.length z
          rw [List.length_map, List.length_range] at this
          simp at this
          omega
        · obtain ⟨i, _, rfl⟩ := List.mem_map.mp hc
          omega
        · obtain ⟨i, hi, rfl⟩ := List.mem_map.mp hc
          have := List.mem_range.mp hi
          omega
      · have hge : 2 ≤ cs.length := by
          have : ¬ ((cs.map V.int).length : Int) < 2 := fun z => hlt (decide_eq_true z)
          rw [List.length_map] at this
          omega
        refine ⟨_, rfl, k t cs _ (At.of_set upd_same) (SetOk.mk' hn7 (fun z => by rw [z] at hge; simp at hge) hup (fun c hc => (hcs c hc).1) (fun c hc => by have := (hcs c hc).2; omega)) hge (hst1.same st) (sb1.trans (Sb.of st))⟩
end
end Tb
/-! t[::-1] of a tuple; slices and sums of tuples told by what they hold. -/
namespace Tb
open PySem PySem.Spec PyProof.Rows L2 Mt HT
theorem fm_congr {α β : Type} {f g : α → Option β} : ∀ {l : List α}, (∀ x ∈ l, f x = g x) → l.filterMap f = l.filterMap g
  | [], _ => rfl
  | a :: l, h => by
    rw [List.filterMap_cons, List.filterMap_cons, h a List.mem_cons_self, fm_congr (l := l) fun x hx => h x (List.mem_cons_of_mem _ hx)]
theorem rev_pick (xs : Array Value) : ((List.range xs.size).filterMap fun (k : Nat) => xs[(((xs.size : Int) - 1) + (k : Int) * (-1)).toNat]?) = xs.toList.reverse := by
  have e : ((List.range xs.size).filterMap fun (k : Nat) => xs[(((xs.size : Int) - 1) + (k : Int) * (-1)).toNat]?) = ((List.range xs.size).map fun k => xs.size - 1 - k).filterMap (xs[·]?) := by
    rw [List.filterMap_map]
    refine fm_congr fun k hk => ?_
    have := List.mem_range.mp hk
    show xs[_]? = xs[xs.size - 1 - k]?
    rw [show (((xs.size : Int) - 1) + (k : Int) * (-1)).toNat = xs.size - 1 - k by omega]
  rw [e, PySem.W.krv_range, List.filterMap_reverse, PySem.W.krv_all]
theorem rev_places (n : Nat) : Builtin.Slice.slicePlaces ((n : Int) - 1) (-1) (-1) = n := by
  unfold Builtin.Slice.slicePlaces
  rw [if_neg (by decide), show (-(-1) : Int) = 1 by decide, Int.ediv_one]
  split <;> omega
section
variable {prog : Program} {w : World} {A : Around} {E : Value → Shared → Prop} {s : Shared}
theorem applied_rev {sl : Addr} {u : Tok} {n : Nat} {Q : Int × Int × Nat → Shared → Prop} (hs : s.heap.IsSliceOf sl .none .none (.int (-1) u)) (h : Q ((n : Int) - 1, -1, n) s) :
    wpAny (model prog w) A (Builtin.Slice.sliceApplied (.ref sl) (pure (n : Int))) Q E s := by
  obtain ⟨os, ho, hc, hd⟩ := id hs
  unfold Builtin.Slice.sliceApplied
  unfold Builtin.Slice.sliceFields
  refine wpAny_bind (wpAny_bind (wpAny_field ho hd (x := .none) rfl (wpAny_bind (wpAny_field ho hd (x := .none) rfl
    (wpAny_bind (wpAny_field ho hd (x := .int (-1) u) rfl (wpAny_pure ?_)))))))
  refine wpAny_bind (slicePart_int ?_)
  show wpAny _ _ (if ((-1 : Int) == 0) = true then _ else _) _ _ s
  rw [if_neg (by decide)]
  refine wpAny_bind (slicePart_none (wpAny_bind (slicePart_none (wpAny_bind (wpAny_pure ?_)))))
  show wpAny _ _ (pure ((n : Int) - 1, (-1 : Int), Builtin.Slice.slicePlaces ((n : Int) - 1) (-1) (-1))) _ _ s
  rw [rev_places]
  exact wpAny_pure h
theorem item_rev {t sl : Addr} {items : Array Value} {u : Tok} {Q : Value → Shared → Prop} (ht : IsTup s.heap t items) (hs : s.heap.IsSliceOf sl .none .none (.int (-1) u)) (hz : items.size ≤ sizeLine)
    (h : Q (.ref s.heap.objs.size) { s with heap := s.heap.push { cls := .type "tuple", data := .seq items.toList.reverse.toArray } }) : wpAny (model prog w) A (getItem (.ref t) (.ref sl)) Q E s := by
  have hok : sizeOk (.seq items.toList.reverse.toArray) := by
    show items.toList.reverse.toArray.size ≤ sizeLine
    rw [List.size_toArray, List.length_reverse, Array.length_toList]
    exact hz
  obtain ⟨os, ho, hc, hd⟩ := id hs
  have hT : s.TypeIs (.ref sl) "slice" := ⟨os, ho, hc⟩
  unfold getItem
  try with_reducible refine wpAny_holding ?_
  first | refine wpAny_bind (wpAny_pure ?_) | skip
  refine wpAny_bind
    (wpAny_sequenceKey ht.typeIs (by decide) ?_)
  refine wpAny_bind (wpAny_callSpecial?_slot (name := Str.ofString "__getitem__") ht.typeIs
    PyProof.Rows.slot_tuple_getitem (wpAny_call_entry PyProof.Rows.slot_tuple_getitem ht.typeIs
      entry_tuple_getitem ?_ (args_tuple_getitem _ _)))
  show wpAny _ _ (Builtin.Tuple.tupleItemsOf (.ref t) >>= _)
    _ _ s
  refine wpAny_bind
    (tupleItemsOf_ ht ?_)
  refine wpAny_bind (wpAny_typeOf hT ?_)
  rw [if_pos (by decide)]
  refine wpAny_bind (applied_rev hs ?_)
  show wpAny _ _ (if ((((items.size : Int) - 1) == 0 && (-1 : Int) == 1) && items.size == items.size) = true then _ else _) _ _ s
  have hno : ¬ (((((items.size : Int) - 1) == 0 && (-1 : Int) == 1) && items.size == items.size) = true) := by
    rw [show ((-1 : Int) == 1) = false from rfl, Bool.and_false, Bool.false_and]
    exact Bool.false_ne_true
  rw [if_neg hno, rev_pick]
  first
    | exact wpAny_bind (m := Builtin.Tuple.tupleExact _)
        (wpAny_newObj_type (wpAny_pure ⟨_, rfl, wpAny_pure h⟩) hok)
    | exact wpAny_bind (wpAny_bind (m := Builtin.Tuple.tupleExact _)
        (wpAny_newObj_type (wpAny_pure (wpAny_pure ⟨_, rfl, wpAny_pure h⟩)) hok))
    | exact wpAny_bind (wpAny_bind (m := Builtin.Tuple.tupleExact _)
        (wpAny_newObj_type (wpAny_pure ⟨_, rfl, wpAny_pure h⟩) hok))
    | exact wpAny_bind (m := Builtin.Tuple.tupleExact _)
        (wpAny_newObj_type (wpAny_bind (wpAny_pure (wpAny_pure ⟨_, rfl, wpAny_pure h⟩))) hok)
end
/-- t[::-1] -/
def tRevT (K : PySem.W.Frag) (te : TE) : TE := fun σ H Q => te σ H fun x H1 => ∃ a xs, x = .ref a ∧ SqT K H1 a xs ∧ ∀ p, H1 p = none → Q (.ref p) (upd H1 p (.tup xs.reverse))
section
variable {X : Cx}
theorem pe_revT {e : Expr} {te : TE} {k : Nat} {p1 p2 p3 pos : Pos} (he : PE X e te) :
    PE X (.Subscript e (.Slice none none (some (.UnaryOp .USub (.Constant (.int 1) k p1) p2)) p3) pos) (tRevT X.K te) := by
  refine ⟨fun pins s σ H Q I h => ?_⟩
  refine Subscript_ (thn (he.run pins s σ H _ I h)
    fun v s1 ⟨x, H1, I1, r1, a, xs, ex, hx, q⟩ => ?_)
  subst ex
  cases r1
  have hst : PO X (some (.UnaryOp .USub (.Constant (.int 1) k p1) p2))
      (tPart (tUn (rU fun i => .int (-i)) (tC (.int 1)))) := po_some (pe_un un_neg pe_int)
  refine wpAny_Slice (thn (po_none.run pins s1 σ H1
    (fun o H2 => o = none ∧ H2 = H1) I1 ⟨rfl, rfl⟩) fun vl s2 ⟨l, H2, I2, pl, el, e2⟩ => ?_)
  subst el e2
  refine thn (po_none.run pins s2 σ H2
    (fun o H3 => o = none ∧ H3 = H2) I2 ⟨rfl, rfl⟩) fun vu s3 ⟨u, H3, I3, pu, eu, e3⟩ => ?_
  subst eu e3
  refine thn (hst.run pins s3 σ H3
    (fun o H4 => o = some (-1) ∧ H4 = H3) I3 ⟨1, rfl, -1, rfl, rfl, rfl⟩) fun vs s4 ⟨o, H4, I4, ps, eo, e4⟩ => ?_
  subst eo e4
  cases pl
  cases pu
  cases ps with
  | int i tk =>
    have I5 : Inv X pins σ H4 { s4 with heap := s4.heap.push { cls := .type "slice", data := .fields #[.none, .none, .int (-1) tk] } } :=
      I4.kept (t' := s4.toks) fun b ob q => Heap.get?_push_of_some _ q
    obtain ⟨its, r, ht, hz⟩ := I5.tuple hx
    have hlen := r.length
    show wpAny (model X.prog X.w) X.A (subscriptTail e (.Slice none none (some (.UnaryOp .USub (.Constant (.int 1) k p1) p2)) p3)
      (.ref a) (.ref s4.heap.objs.size)) (EP X pins σ Q) X.xe { s4 with heap := s4.heap.push { cls := .type "slice", data := .fields #[.none, .none, .int (-1) tk] } }
    refine tail_any (ops := [.ref a, .ref s4.heap.objs.size]) ht.typeIs
      (PyProof.Rows.slot_tuple_getitem.lookup) ?_ (by with_unfolding_all rfl)
    refine item_rev ht (Heap.IsSliceOf.new _ .none .none (.int (-1) tk)) (by rw [List.size_toArray]; omega) ?_
    refine ⟨.ref _, _, I5.laid (t' := s4.toks) (o := .tup xs.reverse)
      (fun b ob q => Heap.get?_push_of_some _ q) (Nat.le_refl _) ?_, rfl, q _ (I5.hok.fresh (Nat.le_refl _))⟩
    exact ⟨by rw [List.length_reverse]; exact hz, its.reverse, r.reverse, IsTup.new _ _⟩
end
/-- a slice of a tuple, by what it holds -/
theorem slA_ok {K : PySem.W.Frag} {a : Addr} {xs : List V} {lo hi : Option Int} {H : Hp} {Q : VK} (hx : H a = some (.tup xs)) (h : ∀ (p : Addr) (H' : Hp), Same H H' → H' p = some (.tup (cutV xs lo hi)) → Q (.ref p) H') : rSlA K (.ref a) lo hi H Q := by
  refine ⟨a, xs, rfl, SqT.of hx, fun z => ?_, fun _ p hp => h p _ (Same.new hp) upd_same⟩
  have e : cutV xs lo hi = xs := by
    unfold cutV
    rw [z.1, z.2]
    simp
  exact h a H (Same.refl H) (by rw [e]; exact hx)
/-- t + u, by what it holds -/
theorem catA_ok {K : PySem.W.Frag} {a b : Addr} {xs ys : List V} {H : Hp} {Q : VK} (hx : H a = some (.tup xs)) (hy : H b = some (.tup ys)) (hz : xs.length + ys.length ≤ sizeLine)
    (h : ∀ (p : Addr) (H' : Hp), Same H H' → H' p = some (.tup (xs ++ ys)) → Q (.ref p) H') : rCatA K (.ref a) (.ref b) H Q := by
  refine ⟨a, b, xs, ys, rfl, rfl, SqT.of hx, SqT.of hy, hz, fun e => ?_, fun _ e => ?_, fun _ _ p hp => h p _ (Same.new hp) upd_same⟩
  · subst e
    exact h b H (Same.refl H) hy
  · subst e
    exact h a H (Same.refl H) (by rw [List.append_nil]; exact hx)
theorem cut_to {xs : List V} {k : Nat} (h : k ≤ xs.length) : cutV xs none (some (k : Int)) = xs.take k := by
  unfold cutV
  rw [HT.sIx_none, HT.sIx_nat, Nat.min_eq_left h]
  simp
theorem cut_from {xs : List V} {k : Nat} (h : k ≤ xs.length) : cutV xs (some (k : Int)) none = xs.drop k := by
  unfold cutV
  rw [HT.sIx_none, HT.sIx_nat, Nat.min_eq_left h]
  exact List.take_of_length_le (by rw [List.length_drop]; exact Nat.le_refl _)
theorem cut_at {xs : List V} {k : Nat} (h : k + 1 ≤ xs.length) : cutV xs (some (k : Int)) (some ((k : Int) + 1)) = (xs.drop k).take 1 := by
  unfold cutV
  rw [show ((k : Int) + 1) = ((k + 1 : Nat) : Int) by omega, HT.sIx_nat, HT.sIx_nat, Nat.min_eq_left h, Nat.min_eq_left (by omega), show k + 1 - k = 1 by omega]
end Tb
/-! _law_meets, _law_are_grounds. -/
namespace Tb
open PySem PySem.Spec PyProof.Rows L2 Mt
/-- what a pair leads by, in the law -/
def ldT (rs : List Rl) (q : R3) (bk : Bool) (h o : Int) : Bool := !decide (q ∈ (if bk = true then allowed rs o h else allowed rs h o))
def trn (bk : Bool) (p : Int × Int) : Int × Int := if bk = true then swp p else p
section
variable {P : Program} {w : World} {K : PySem.W.Frag} {mg : Str → Option Value} {base : Heap}
def spLM : Sp := fun vs H Q _ => ∃ (t : Addr) (u : V) (a : Addr) (wq : R3) (bk : Bool) (n : Int) (rs : List Rl) (cs : List Int) (c0 : Int) (ps : List (Int × Int)),
  vs = [.ref t, u, .ref a, .str (sOf wq), .bl bk] ∧ TabAt H t n rs ∧ At H u (setT cs) ∧ SetOk n cs ∧ cs[0]? = some c0 ∧ At H (.ref a) (rowT ps) ∧
  ∀ H', Same H H' → Q (.bl (meets (ldT rs wq bk) cs (ps.map (trn bk)) [c0])) H'
abbrev nLM : List Str := ["_law_table_here", "_law_chosen_here", "_law_pairs", "_law_word", "_law_back", "_law_met", "_law_x", "_law_y", "_law_here", "_law_other"]
theorem sc_lm : FnScope nLM ["_law_table_here", "_law_chosen_here", "_law_pairs", "_law_word", "_law_back"] (defScope (top 48)) := ⟨rfl, rfl, rfl, by decide +kernel, rfl, by decide +kernel, by decide +kernel⟩
theorem ok_lm (T : Txt w K mg) (F : DefAt K mg "_law_meets" "_law_meets" (top 48)) : Df P w K mg base 1 "_law_meets" spLM := by
  refine F.ok sc_lm (fun _ _ _ _ _ _ us hl => match us, hl with | [_, _, _, _, _], _ => rfl) (fun vs H Q E h => ?_) (fun f cdv A outer s H vs Q E hr h => ?_)
  · obtain ⟨t, u, a, wq, bk, n, rs, cs, c0, ps, rfl, _⟩ := h
    rfl
  · obtain ⟨t, u, a, wq, bk, n, rs, cs, c0, ps, rfl, hT, hu, hc, h0, hA, k⟩ := h
    have hun := hu_of hr
    have nd := sc_lm.nd
    obtain ⟨c, rfl, hcp⟩ := hu.set
    obtain ⟨xs, ha, hxs⟩ := hA.tup_inv
    have hl7 := hc.len
    have hm0 : c0 ∈ cs := List.mem_of_getElem? h0
    have hlen : xs.length = ps.length := by rw [hxs.length, List.length_map]
    refine ⟨_, pss_cons (ps_set (i := 5) nd rfl (Or.inl rfl) (pe_lst (pa_cons (pe_ix ix_tup (pv 1) pe_int (fun _ _ => rfl)) pa_nil)))
      (pss_cons (ps_for PassesOwn.never rfl (pi_tup (pv 2)) (pg_tup rfl (pgs_cons (pg_name (i := 6) nd rfl (Or.inl rfl)) (pgs_cons (pg_name (i := 7) nd rfl (Or.inl rfl)) pgs_nil)))
        (C8.pss_cut (ps_asg (pe_ifExp (pt_val (pv 4)) (pe_tup (pa_cons (pv 7) (pa_cons (pv 6) pa_nil))) (pe_tup (pa_cons (pv 6) (pa_cons (pv 7) pa_nil)))) (pg_tup rfl (pgs_cons (pg_name (i := 8) nd rfl (Or.inl rfl)) (pgs_cons (pg_name (i := 9) nd rfl (Or.inl rfl)) pgs_nil))))
        (pss_cons (ps_if (PW.pt (pw_or (pt_cmpR op_notIn_seq (pv 8) (pv 5) rfl) (pw_or (pt_cmpR op_in_seq (pv 9) (pv 5) rfl) (pw_or (pt_cmpR op_notIn_seq (pv 9) (pv 1) rfl)
            (pw_or1 (pt_cmpR op_in_seq (pv 3) (pe_dget hun (pv 0) (pe_tup (pa_cons (pv 6) (pa_cons (pv 7) pa_nil))) (fun _ _ => rfl)) rfl))))))
          (pss_one (ps_ret pe_bl)) pss_nil)
        (pss_one (ps_expr (pe_bm PySem.F.plainAttrs_list PySem.F.slot_list_append PySem.F.type_list_append mt_append (pv 5) (pa_cons (pv 9) pa_nil)))))))
      (pss_one (ps_ret (pe_cmpR op_eq (pe_callB call_len_seq rfl T.len PySem.boot_len (pa_cons (pv 5) pa_nil)) (pe_callB call_len_seq rfl T.len PySem.boot_len (pa_cons (pv 1) pa_nil)) (nomark _))))), ?_⟩
    refine ⟨_, rfl, c, _, _, .int c0, rfl, rfl, SqT.of hcp, at_of (j := 0) rfl (by rw [List.getElem?_map, h0]; rfl), small1000 (by decide), fun l hl => ?_⟩
    have s0 : Same H (upd H l (.lst [.int c0])) := Same.new hl
    refine ⟨_, rfl, a, rfl, ⟨_, SqT.of (s0 _ _ ha)⟩, for_tup (K := K) (a := a) (xs := xs)
      (fun i σ H1 => ∃ (met : List Int) (o6 o7 o8 o9 : Option V), σ = [some (.ref t), some (.ref c), some (.ref a), some (.str (sOf wq)), some (.bl bk), some (.ref l), o6, o7, o8, o9] ∧ Same H H1 ∧ H1 l = some (.lst (met.map V.int)) ∧ met.Nodup ∧ (∀ x ∈ met, x ∈ cs) ∧
        meets (ldT rs wq bk) cs (ps.map (trn bk)) [c0] = meets (ldT rs wq bk) cs ((ps.drop i).map (trn bk)) met)
      ⟨[c0], none, none, none, none, rfl, s0, by rw [upd_same]; rfl, by simp, fun x hx => by rw [List.mem_singleton] at hx; subst hx; exact hm0, rfl⟩ (fun i σ H1 _ ⟨_, _, _, _, _, _, s1, _⟩ => SqT.of (s1 _ _ ha)) ?_ ?_⟩
    · rintro i x σ H1 hi ⟨met, o6, o7, o8, o9, rfl, s1, h1l, hnd, hsub, hme⟩
      obtain ⟨tt, ht, hx⟩ := hxs.get hi
      obtain ⟨⟨px, py⟩, hpi, rfl⟩ := get_map ht
      obtain ⟨b, rfl, hb⟩ := (hx.same s1).pair
      have hmc : met.length ≤ cs.length := nodup_len_le hnd hsub
      rw [drop_at hpi, List.map_cons] at hme
      refine ⟨b, _, rfl, SqT.of hb, rfl, _, _, rfl, _, _, rfl, rfl, ?_⟩
      obtain ⟨h, o, hho⟩ : ∃ h o, trn bk (px, py) = (h, o) := ⟨_, _, rfl⟩
      rw [hho] at hme
      have hld : ldT rs wq bk h o = !decide (wq ∈ allowed rs px py) := by
        unfold ldT
        unfold trn at hho
        cases bk with
        | true =>
          have e : (py, px) = (h, o) := hho
          injection e with e1 e2
          subst e1 e2
          rfl
        | false =>
          have e : (px, py) = (h, o) := hho
          injection e with e1 e2
          subst e1 e2
          rfl
      refine ⟨fun σ' H2 => σ' = [some (.ref t), some (.ref c), some (.ref a), some (.str (sOf wq)), some (.bl bk), some (.ref l), some (.int px), some (.int py), some (.int h), some (.int o)] ∧ Same H1 H2, ?_, ?_⟩
      · refine ⟨_, rfl, bk, rfl, ?_⟩
        cases bk with
        | true =>
          have e : (py, px) = (h, o) := hho
          injection e with e1 e2
          subst e1 e2
          refine iteT ?_
          refine ⟨_, rfl, _, rfl, (by show 2 ≤ sizeLine; decide), fun q hq => ?_⟩
          exact ⟨q, _, rfl, SqT.of upd_same, rfl, _, _, rfl, _, _, rfl, rfl, rfl, Same.new hq⟩
        | false =>
          have e : (px, py) = (h, o) := hho
          injection e with e1 e2
          subst e1 e2
          refine iteF ?_
          refine ⟨_, rfl, _, rfl, (by show 2 ≤ sizeLine; decide), fun q hq => ?_⟩
          exact ⟨q, _, rfl, SqT.of upd_same, rfl, _, _, rfl, _, _, rfl, rfl, rfl, Same.new hq⟩
      · rintro σ' H2 ⟨rfl, s2⟩
        have h2l := s2 _ _ h1l
        have s12 := s1.trans s2
        refine ⟨_, rfl, _, rfl, l, met.map V.int, rfl, .inl (SqL.of h2l), rfl, flat_ints met, _, rfl, ?_⟩
        have bad : (¬ h ∈ met ∨ o ∈ met ∨ ¬ o ∈ cs ∨ ldT rs wq bk h o = false) → ∀ H', Same H H' → Q (.bl false) H' := fun z H' s => by
          have e := k H' s
          rw [hme, meets_no z] at e
          exact e
        by_cases c1 : h ∈ met
        · refine iteFof (by show (!inV (.int h) (met.map V.int)) = false; rw [inV_int, decide_eq_true c1]; rfl) ?_
          refine ⟨_, rfl, _, rfl, l, met.map V.int, rfl, .inl (SqL.of h2l), rfl, flat_ints met, _, rfl, ?_⟩
          by_cases c2 : o ∈ met
          · refine iteTof (by show inV (.int o) (met.map V.int) = true; rw [inV_int, decide_eq_true c2]) ?_
            exact iteTof rfl (bad (.inr (.inl c2)) H2 s12)
          · refine iteFof (by show inV (.int o) (met.map V.int) = false; rw [inV_int, decide_eq_false c2]) ?_
            refine ⟨_, rfl, _, rfl, c, cs.map V.int, rfl, .inr (SqT.of (s12 _ _ hcp)), rfl, flat_ints cs, _, rfl, ?_⟩
            by_cases c3 : o ∈ cs
            · refine iteFof (by show (!inV (.int o) (cs.map V.int)) = false; rw [inV_int, decide_eq_true c3]; rfl) ?_
              have hin : InT n px py := by
                have hh := hsub h c1
                have hne : h ≠ o := fun e => c2 (e ▸ c1)
                have b1 := hc.lo h hh
                have b2 := hc.hi h hh
                have b3 := hc.lo o c3
                have b4 := hc.hi o c3
                unfold trn at hho
                cases bk with
                | true =>
                  have e : (py, px) = (h, o) := hho
                  injection e with e1 e2
                  subst e1 e2
                  exact ⟨b3, b4, b1, b2, Ne.symm hne⟩
                | false =>
                  have e : (px, py) = (h, o) := hho
                  injection e with e1 e2
                  subst e1 e2
                  exact ⟨b1, b2, b3, b4, hne⟩
              refine ⟨_, rfl, _, rfl, _, rfl, _, rfl, (by show 2 ≤ sizeLine; decide), fun q hq => ?_⟩
              have sq := Same.new (o := .tup [.int px, .int py]) hq
              have s1q := s12.trans sq
              obtain ⟨kvs, hkv⟩ := hT.same s1q
              obtain ⟨p, hv, hp⟩ := hkv.2 px py hin
              have hg := DGet.t (k := ky px py) hkv.1 (show (upd H2 q (.tup [.int px, .int py])) q = some (.tup ((ky px py).map kV)) from upd_same)
              rw [hv] at hg
              refine ⟨t, _, rfl, hg, p, wds (allowed rs px py), rfl, .inl (SqL.of hp), rfl, flat_words _, _, rfl, ?_⟩
              by_cases c4 : wq ∈ allowed rs px py
              · refine iteTof ((inV_word wq _).trans (decide_eq_true c4)) ?_
                exact bad (.inr (.inr (.inr (by rw [hld, decide_eq_true c4]; rfl)))) _ s1q
              · refine iteFof ((inV_word wq _).trans (decide_eq_false c4)) ?_
                have h3l := sq _ _ h2l
                refine ⟨_, rfl, .inl ⟨rfl, _, SqL.of h3l⟩, _, rfl, l, _, _, rfl, rfl, h3l, (by rw [List.length_map]; exact small1000 (by omega)), ?_⟩
                refine ⟨met ++ [o], _, _, _, _, rfl, Same.put s1q hl, by rw [upd_same, List.map_append]; rfl, nodup_snoc hnd c2, fun z hz => ?_, ?_⟩
                · rcases List.mem_append.mp hz with hz | hz
                  · exact hsub z hz
                  · rw [List.mem_singleton] at hz
                    subst hz
                    exact c3
                · rw [hme, meets_yes]
                  rintro (z | z | z | z)
                  · exact z c1
                  · exact c2 z
                  · exact z c3
                  · rw [hld, decide_eq_false c4] at z
                    cases z
            · refine iteTof (by show (!inV (.int o) (cs.map V.int)) = true; rw [inV_int, decide_eq_false c3]; rfl) ?_
              exact iteTof rfl (bad (.inr (.inr (.inl c3))) H2 s12)
        · refine iteTof (by show (!inV (.int h) (met.map V.int)) = true; rw [inV_int, decide_eq_false c1]; rfl) ?_
          exact iteTof rfl (bad (.inl c1) H2 s12)
    · rintro σ H1 ⟨met, o6, o7, o8, o9, rfl, s1, h1l, hnd, hsub, hme⟩
      rw [hlen, List.drop_length] at hme
      refine ⟨_, rfl, l, _, rfl, .inl (SqL.of h1l), _, rfl, c, _, rfl, .inr (SqT.of (s1 _ _ hcp)), rfl, ?_⟩
      have e := k H1 s1
      rw [hme] at e
      have e2 : decide (V.int ((met.map V.int).length : Int) = V.int ((cs.map V.int).length : Int)) = decide (met.length = cs.length) := by
        rw [List.length_map, List.length_map]
        exact decide_eq_decide.mpr ⟨fun z => by have := V.int.inj z; omega, fun z => by rw [z]⟩
      show Q (.bl (decide (V.int ((met.map V.int).length : Int) = V.int ((cs.map V.int).length : Int)))) H1
      rw [e2]
      exact e
/-- the law's own judgement -/
def lawG (rs : List Rl) (cs : List Int) (c0 : Int) (r0 r1 r2 : List (Int × Int)) : Bool := meets (ties rs) cs r0 [c0] && (meets (bars rs) cs r1 [c0] && meets (barred rs) cs (r2.map swp) [c0])
theorem ld_ties (rs : List Rl) : ldT rs .bes false = ties rs := rfl
theorem ld_bars (rs : List Rl) : ldT rs .bef false = bars rs := rfl
theorem ld_barred (rs : List Rl) : ldT rs .bef true = barred rs := rfl
theorem trn_no (ps : List (Int × Int)) : ps.map (trn false) = ps := by
  rw [show trn false = id from funext fun _ => rfl, List.map_id]
theorem trn_yes (ps : List (Int × Int)) : ps.map (trn true) = ps.map swp := by
  rw [show trn true = swp from funext fun _ => rfl]
def spLG : Sp := fun vs H Q _ => ∃ (t : Addr) (u x : V) (n : Int) (rs : List Rl) (cs : List Int) (c0 : Int) (r0 r1 r2 : List (Int × Int)), vs = [.ref t, u, x] ∧ TabAt H t n rs ∧ At H u (setT cs) ∧ SetOk n cs ∧ cs[0]? = some c0 ∧ 2 ≤ cs.length ∧ At H x (gT r0 r1 r2) ∧
  ∀ H', Same H H' → Q (.bl (lawG rs cs c0 r0 r1 r2)) H'
abbrev nLG : List Str := ["_law_table_here", "_law_chosen_here", "_law_value", "_law_row", "_law_pair", "_law_task"]
theorem sc_lg : FnScope nLG ["_law_table_here", "_law_chosen_here", "_law_value"] (defScope (top 49)) := ⟨rfl, rfl, rfl, by decide +kernel, rfl, by decide +kernel, by decide +kernel⟩
theorem ok_lg (T : Txt w K mg) (F : DefAt K mg "_law_are_grounds" "_law_are_grounds" (top 49)) (DI : Df P w K mg base 1 "_law_is_integer" spInt) (DM : Df P w K mg base 1 "_law_meets" spLM) : Df P w K mg base 2 "_law_are_grounds" spLG := by
  refine F.ok sc_lg (fun _ _ _ _ _ _ us hl => match us, hl with | [_, _, _], _ => rfl) (fun vs H Q E h => ?_) (fun f cdv A outer s H vs Q E hr h => ?_)
  · obtain ⟨t, u, x, n, rs, cs, c0, r0, r1, r2, rfl, _⟩ := h
    rfl
  · obtain ⟨t, u, x, n, rs, cs, c0, r0, r1, r2, rfl, hT, hu, hc, h0, h2, hx, k⟩ := h
    have nd := sc_lg.nd
    obtain ⟨c, rfl, hcp⟩ := hu.set
    obtain ⟨a, xs, rfl, hp, hxs⟩ := hx.tup_ref
    obtain ⟨x0, x1, x2, rfl, hx0, hx1, hx2⟩ := hxs.three
    obtain ⟨a0, y0, rfl, hp0, hy0⟩ := hx0.tup_ref
    obtain ⟨a1, y1, rfl, hp1, hy1⟩ := hx1.tup_ref
    obtain ⟨a2, y2, rfl, hp2, hy2⟩ := hx2.tup_ref
    refine ⟨_, pss_cons (ps_if (PW.pt (pw_or (pt_not (pt_val (pe_isi (n := "tuple") T.isi T.tuple (pv 2)))) (pw_or (pt_cmpR op_ne (pe_callB call_len_seq rfl T.len PySem.boot_len (pa_cons (pv 2) pa_nil)) pe_int (nomark _))
        (pw_or1 (pt_cmpR op_lt (pe_callB call_len_seq rfl T.len PySem.boot_len (pa_cons (pv 1) pa_nil)) pe_int (nomark _)))))) (pss_one (ps_ret pe_bl)) pss_nil)
      (pss_cons (ps_for PassesOwn.never rfl (pi_tup (pv 2)) (pg_name (i := 3) nd rfl (Or.inl rfl))
        (pss_cons (ps_if (pt_not (pt_val (pe_isi (n := "tuple") T.isi T.tuple (pv 3)))) (pss_one (ps_ret pe_bl)) pss_nil)
        (pss_one (ps_for PassesOwn.never rfl (pi_tup (pv 3)) (pg_name (i := 4) nd rfl (Or.inl rfl))
          (pss_one (ps_if (PW.pt (pw_or (pt_not (pt_val (pe_isi (n := "tuple") T.isi T.tuple (pv 4)))) (pw_or (pt_cmpR op_ne (pe_callB call_len_seq rfl T.len PySem.boot_len (pa_cons (pv 4) pa_nil)) pe_int (nomark _))
            (pw_or1 (pt_not (pt_val (pe_callB (cr_all rfl) rfl T.all (by decide +kernel) (pa_cons (pe_lc (own := [("_law_task", 5)]) (g := gName 5) (tt := tYes) rfl nd (pi_tup (pv 4)) (blkOk_by (N := nLG) (sc := defScope (top 49)) (by decide +kernel))
              (fun _ _ _ _ _ => pg_name (i := 5) nd rfl (Or.inl rfl)) (fun _ _ _ _ _ => pts_nil) (fun _ _ _ _ _ => pe_df DI hr (pa_cons (pv 5) pa_nil))) pa_nil))))))))
            (pss_one (ps_ret pe_bl)) pss_nil))))))
      (pss_cons (ps_if (pt_not (pt_val (pe_df DM hr (pa_cons (pv 0) (pa_cons (pv 1) (pa_cons (pe_ix ix_tup (pv 2) pe_int (fun _ _ => rfl)) (pa_cons pe_str (pa_cons pe_bl pa_nil)))))))) (pss_one (ps_ret pe_bl)) pss_nil)
      (pss_cons (ps_if (pt_not (pt_val (pe_df DM hr (pa_cons (pv 0) (pa_cons (pv 1) (pa_cons (pe_ix ix_tup (pv 2) pe_int (fun _ _ => rfl)) (pa_cons pe_str (pa_cons pe_bl pa_nil)))))))) (pss_one (ps_ret pe_bl)) pss_nil)
      (pss_one (ps_ret (pe_df DM hr (pa_cons (pv 0) (pa_cons (pv 1) (pa_cons (pe_ix ix_tup (pv 2) pe_int (fun _ _ => rfl)) (pa_cons pe_str (pa_cons pe_bl pa_nil))))))))))), ?_⟩
    refine isi_var rfl hx (kit_tup _) ⟨_, rfl, ?_⟩
    refine iteFof rfl ?_
    refine ⟨_, rfl, a, _, rfl, .inr (SqT.of hp), rfl, _, rfl, ?_⟩
    refine iteFof rfl ?_
    refine ⟨_, rfl, c, _, rfl, .inr (SqT.of hcp), _, _, rfl, rfl, _, rfl, ?_⟩
    refine iteFof (decide_eq_false (by rw [List.length_map]; omega)) ?_
    refine ⟨_, rfl, a, rfl, ⟨_, SqT.of hp⟩, for_tup (K := K) (a := a) (xs := [.ref a0, .ref a1, .ref a2])
      (fun i σ H1 => ∃ o3 o4 : Option V, σ = [some (.ref t), some (.ref c), some (.ref a), o3, o4, none] ∧ Same H H1) ⟨none, none, rfl, Same.refl H⟩ (fun i σ H1 _ ⟨_, _, _, s1⟩ => SqT.of (s1 _ _ hp)) ?_ ?_⟩
    · rintro i x σ H1 hi ⟨o3, o4, rfl, s1⟩
      obtain ⟨ps, hxr⟩ : ∃ ps, At H1 x (rowT ps) := by
        obtain ⟨tr, htr, hxr⟩ := (hxs.same s1).get hi
        match i, htr with
        | 0, e => exact ⟨r0, by rw [← Option.some.inj e] at hxr; exact hxr⟩
        | 1, e => exact ⟨r1, by rw [← Option.some.inj e] at hxr; exact hxr⟩
        | 2, e => exact ⟨r2, by rw [← Option.some.inj e] at hxr; exact hxr⟩
      obtain ⟨b, ys, rfl, hb, hys⟩ := hxr.tup_ref
      refine isi_var (v := .ref b) rfl hxr (kit_tup _) ⟨_, rfl, ?_⟩
      refine iteFof rfl ?_
      refine ⟨_, rfl, b, rfl, ⟨_, SqT.of hb⟩, for_tup (K := K) (a := b) (xs := ys)
        (fun j σ H2 => ∃ o4 : Option V, σ = [some (.ref t), some (.ref c), some (.ref a), some (.ref b), o4, none] ∧ Same H1 H2) ⟨o4, rfl, Same.refl H1⟩ (fun j σ H2 _ ⟨_, _, s2⟩ => SqT.of (s2 _ _ hb)) ?_ ?_⟩
      · rintro j y σ H2 hj ⟨o4, rfl, s2⟩
        obtain ⟨tp, htp, hyp⟩ := (hys.same s2).get hj
        obtain ⟨p, hpp, rfl⟩ := get_map htp
        obtain ⟨e, rfl, he⟩ := hyp.pair
        refine isi_var (v := .ref e) rfl hyp (kit_tup _) ⟨_, rfl, ?_⟩
        refine iteFof rfl ?_
        refine ⟨_, rfl, e, _, rfl, .inr (SqT.of he), rfl, _, rfl, ?_⟩
        refine iteFof rfl ?_
        refine ⟨_, rfl, e, rfl, ⟨_, SqT.of he⟩, fun D hD => lcG hD (walk_tup (K := K) (a := e) (xs := [.int p.1, .int p.2])) (l := [p.1, p.2]) rfl (fun _ => true) (fun _ => Tb.T.bl true) (small1000 (Nat.le_add_left 2 998)) (fun H' s => sqT s (SqT.of he)) (fun m z zi H' N1 N0 hx hq s n1 n0 => ?_) (fun H3 zs s3 hz3 ha3 => ?_)⟩
        · have ez : z = .int zi := by
            match m, hx, hq with
            | 0, e1, e2 => rw [← Option.some.inj e1, ← Option.some.inj e2]
            | 1, e1, e2 => rw [← Option.some.inj e1, ← Option.some.inj e2]
          subst ez
          refine ⟨rfl, lc_yes ?_⟩
          exact ⟨_, rfl, .int zi, .int zi, rfl, .int zi, n1 rfl _ _ (Same.refl _) (.bl true)⟩
        · have ey : zs = [true, true].map V.bl := Ats.bls (H := H3) ha3
          subst ey
          refine ⟨D, [true, true], rfl, SqL.of hz3, _, rfl, ?_⟩
          refine iteFof rfl ?_
          exact ⟨_, rfl, s2.trans s3⟩
      · rintro σ H2 ⟨o4, rfl, s2⟩
        exact ⟨_, o4, rfl, s1.trans s2⟩
    · rintro σ H1 ⟨o3, o4, rfl, s1⟩
      refine ⟨_, rfl, _, rfl, _, rfl, a, _, _, .ref a0, rfl, rfl, SqT.of (s1 _ _ hp), rfl, t, .ref c, a0, .bes, false, n, rs, cs, c0, r0, rfl, hT.same s1, hu.same s1, hc, h0, hx0.same s1, fun H2 s2 => ⟨_, rfl, ?_⟩⟩
      rw [trn_no, ld_ties]
      have s12 := s1.trans s2
      have kG : lawG rs cs c0 r0 r1 r2 = (meets (ties rs) cs r0 [c0] && (meets (bars rs) cs r1 [c0] && meets (barred rs) cs (r2.map swp) [c0])) := rfl
      rw [kG] at k
      by_cases m0 : meets (ties rs) cs r0 [c0] = true
      · refine iteFof (by rw [m0]; rfl) ?_
        rw [m0, Bool.true_and] at k
        refine ⟨_, rfl, _, rfl, _, rfl, a, _, _, .ref a1, rfl, rfl, SqT.of (s12 _ _ hp), rfl, t, .ref c, a1, .bef, false, n, rs, cs, c0, r1, rfl, hT.same s12, hu.same s12, hc, h0, hx1.same s12, fun H3 s3 => ⟨_, rfl, ?_⟩⟩
        rw [trn_no, ld_bars]
        have s13 := s12.trans s3
        by_cases m1 : meets (bars rs) cs r1 [c0] = true
        · refine iteFof (by rw [m1]; rfl) ?_
          rw [m1, Bool.true_and] at k
          refine ⟨_, rfl, _, rfl, _, rfl, a, _, _, .ref a2, rfl, rfl, SqT.of (s13 _ _ hp), rfl, t, .ref c, a2, .bef, true, n, rs, cs, c0, r2, rfl, hT.same s13, hu.same s13, hc, h0, hx2.same s13, fun H4 s4 => ?_⟩
          rw [trn_yes, ld_barred]
          exact k H4 (s13.trans s4)
        · have m1 : meets (bars rs) cs r1 [c0] = false := by simpa using m1
          refine iteTof (by rw [m1]; rfl) ?_
          rw [m1, Bool.false_and] at k
          exact k H3 s13
      · have m0 : meets (ties rs) cs r0 [c0] = false := by simpa using m0
        refine iteTof (by rw [m0]; rfl) ?_
        rw [m0, Bool.false_and] at k
        exact k H2 s12
end
end Tb
/-! _law_drawn. -/
namespace Tb
open PySem PySem.Spec PyProof.Rows L2 Mt
theorem Sb.free {s r : Addr} {H H' : Hp} (e : Sb s H H') (n : H' r = none) (h : r ≠ s) : H r = none := by
  cases q : H r with
  | none => rfl
  | some o =>
    rw [e r o h q] at n
    cases n
theorem drop_get {α : Type} {l : List α} {i : Nat} {x : α} (h : (l.drop 1)[i]? = some x) : l[i + 1]? = some x := by
  rw [List.getElem?_drop] at h
  rw [Nat.add_comm]
  exact h
section
variable {P : Program} {w : World} {K : PySem.W.Frag} {mg : Str → Option Value} {base : Heap}
def spDrawn : Sp := fun vs H Q _ => ∃ (s l : Addr) (u : V) (n : Int) (cs : List Int) (c0 : Int), vs = [.ref s, u] ∧ Stm H s l ∧ At H u (setT cs) ∧ SetOk n cs ∧ cs[0]? = some c0 ∧ 2 ≤ cs.length ∧
  ∀ (p : Addr) (r0 r1 r2 : List (Int × Int)) (H' : Hp), At H' (.ref p) (gT r0 r1 r2) → r0.length + 1 = cs.length → r1.length + 1 = cs.length → r2.length + 1 = cs.length → Stm H' s l → Sb s H H' → Q (.ref p) H'
abbrev nDr : List Str := ["_law_stream_here", "_law_chosen_here", "_law_rows", "_law_k", "_law_met", "_law_row", "_law_task", "_law_pair"]
theorem sc_dr : FnScope nDr ["_law_stream_here", "_law_chosen_here"] (defScope (top 50)) := ⟨rfl, rfl, rfl, by decide +kernel, rfl, by decide +kernel, by decide +kernel⟩
theorem ok_dr (T : Txt w K mg) (F : DefAt K mg "_law_drawn" "_law_drawn" (top 50)) (D : Df P w K mg base 1 "_law_next" spNext) : Df P w K mg base 2 "_law_drawn" spDrawn := by
  refine F.ok sc_dr (fun _ _ _ _ _ _ us hl => match us, hl with | [_, _], _ => rfl) (fun vs H Q E h => ?_) (fun f cdv A outer s H vs Q E hr h => ?_)
  · obtain ⟨s, l, u, n, cs, c0, rfl, _⟩ := h
    rfl
  · obtain ⟨q, lq, u, n, cs, c0, rfl, hst, hu, hc, h0, h2, k⟩ := h
    have nd := sc_dr.nd
    obtain ⟨c, rfl, hcp⟩ := hu.set
    have hclen : (cs.map V.int).length = cs.length := List.length_map _
    have hl7 := hc.len
    refine ⟨_, pss_cons (ps_set (i := 2) nd rfl (Or.inl rfl) (pe_lst pa_nil))
      (pss_cons (ps_for PassesOwn.never rfl (pi_range1 rfl T.range (pa_cons pe_int pa_nil)) (pg_name (i := 3) nd rfl (Or.inl rfl))
        (pss_cons (ps_set (i := 4) nd rfl (Or.inl rfl) (pe_lst (pa_cons (pe_ix ix_tup (pv 1) pe_int (fun _ _ => rfl)) pa_nil)))
        (pss_cons (ps_set (i := 5) nd rfl (Or.inl rfl) (pe_lst pa_nil))
        (pss_cons (ps_for PassesOwn.never rfl (pi_tup (pe_slice sl_tup (pv 1) (po_some pe_int) po_none)) (pg_name (i := 6) nd rfl (Or.inl rfl))
          (pss_cons (ps_set (i := 7) nd rfl (Or.inl rfl) (pe_tup (pa_cons (pe_ix ix_list (pv 4) (pe_df D hr (pa_cons (pv 0) (pa_cons (pe_callB call_len_seq rfl T.len PySem.boot_len (pa_cons (pv 4) pa_nil)) pa_nil))) (fun _ _ => rfl)) (pa_cons (pv 6) pa_nil))))
          (C8.pss_cut (ps_if (pt_cmpR op_eq (pv 3) pe_int (nomark _)) (pss_one (ps_set (i := 7) nd rfl (Or.inl rfl) (pe_tup (pa_cons (pe_ix ix_tup (pv 7) pe_int (fun _ _ => rfl)) (pa_cons (pe_ix ix_tup (pv 7) pe_int (fun _ _ => rfl)) pa_nil))))) pss_nil)
          (pss_cons (ps_expr (pe_bm PySem.F.plainAttrs_list PySem.F.slot_list_append PySem.F.type_list_append mt_append (pv 5) (pa_cons (pv 7) pa_nil)))
          (pss_one (ps_expr (pe_bm PySem.F.plainAttrs_list PySem.F.slot_list_append PySem.F.type_list_append mt_append (pv 4) (pa_cons (pv 6) pa_nil))))))))
        (pss_one (ps_expr (pe_bm PySem.F.plainAttrs_list PySem.F.slot_list_append PySem.F.type_list_append mt_append (pv 2) (pa_cons (pe_callTy call_tuple_of rfl T.tuple (by decide +kernel) (pa_cons (pv 5) pa_nil)) pa_nil))))))))
      (pss_one (ps_ret (pe_callTy call_tuple_of rfl T.tuple (by decide +kernel) (pa_cons (pv 2) pa_nil))))), ?_⟩
    refine ⟨Nat.zero_le _, fun R hR => ?_⟩
    have hnR := hst.ne hR
    have sR := Same.new (o := .lst []) hR
    refine ⟨3, rfl, by decide, by decide, for_range (lo := 0) (n := 3)
      (fun i σ H1 => ∃ (o3 o4 o5 o6 o7 : Option V) (rows : List (List (Int × Int))) (xs : List V), σ = [some (.ref q), some (.ref c), some (.ref R), o3, o4, o5, o6, o7] ∧ Stm H1 q lq ∧ Sb q H H1 ∧ H1 R = some (.lst xs) ∧ Ats H1 xs (rows.map rowT) ∧ rows.length = i ∧ ∀ r ∈ rows, r.length + 1 = cs.length)
      ⟨none, none, none, none, none, [], [], rfl, hst.same sR, Sb.of sR, upd_same, .nil, rfl, fun r hr => absurd hr List.not_mem_nil⟩ ?_ ?_⟩
    · rintro i σ H1 hi ⟨o3, o4, o5, o6, o7, rows, xs, rfl, hst1, sb1, h1R, hxs, hrl, hrs⟩
      have hcq : c ≠ q := by
        obtain ⟨zs, hz⟩ := hst.is
        exact ne_of hcp hz (by intro z; cases z)
      have hcp1 := sb1 _ _ hcq hcp
      refine ⟨_, rfl, c, _, _, .int c0, rfl, rfl, SqT.of hcp1, at_of (j := 0) rfl (by rw [List.getElem?_map, h0]; rfl), small1000 (by decide), fun M hM => ?_⟩
      have sM := Same.new (o := .lst [.int c0]) hM
      refine ⟨Nat.zero_le _, fun W hW => ?_⟩
      have sW := Same.new (o := .lst []) hW
      have hMW : M ≠ W := ne_of_none (o := .lst [.int c0]) upd_same hW
      have hRM : R ≠ M := ne_of_none h1R hM
      have hRW : R ≠ W := ne_of_none (sM _ _ h1R) hW
      have hnM := hst1.ne hM
      have hnW := (hst1.same sM).ne hW
      have s2 := sM.trans sW
      have hMn : H M = none := sb1.free hM hnM.1.symm
      have hWn : H W = none := (sb1.trans (Sb.of sM)).free hW hnW.1.symm
      have hne : cs.map V.int ≠ [] := fun z => hc.ne (List.map_eq_nil_iff.mp z)
      obtain ⟨hc1, hc2⟩ := cut_one hne
      refine ⟨_, rfl, _, rfl, c, _, rfl, SqT.of (s2 _ _ hcp1), hc1, fun B hB => ?_⟩
      rw [hc2]
      have sB := Same.new (o := .tup ((cs.map V.int).drop 1)) hB
      have s3 := s2.trans sB
      have hlen1 : ((cs.map V.int).drop 1).length = cs.length - 1 := by rw [List.length_drop, hclen]
      have hBq : B ≠ q := ((hst1.same s2).ne hB).1.symm
      refine ⟨B, rfl, ⟨_, SqT.of upd_same⟩, for_tup (K := K) (a := B) (xs := (cs.map V.int).drop 1)
        (fun j σ H2 => ∃ (o6 o7 : Option V) (ms : List Int) (ps : List (Int × Int)) (ys : List V), σ = [some (.ref q), some (.ref c), some (.ref R), some (.int (0 + (i : Int))), some (.ref M), some (.ref W), o6, o7] ∧ Stm H2 q lq ∧ Sb q H1 H2 ∧ H2 B = some (.tup ((cs.map V.int).drop 1)) ∧
          H2 M = some (.lst (ms.map V.int)) ∧ ms.length = j + 1 ∧ H2 W = some (.lst ys) ∧ Ats H2 ys (ps.map pairT) ∧ ps.length = j)
        ⟨o6, o7, [c0], [], [], rfl, hst1.same s3, Sb.of s3, upd_same, by rw [upd_ne (ne_of_none (o := .lst [.int c0]) (sW _ _ upd_same) hB), upd_ne hMW, upd_same]; rfl, rfl, by rw [upd_ne (ne_of_none (o := .lst []) upd_same hB), upd_same], .nil, rfl⟩
        (fun j σ H2 _ ⟨_, _, _, _, _, _, _, _, hb, _⟩ => SqT.of hb) ?_ ?_⟩
      · rintro j x σ H2 hj ⟨o6, o7, ms, ps, ys, rfl, hst2, sb2, hB2, hM2, hml, hW2, hys, hpl⟩
        obtain ⟨z, hz, rfl⟩ := get_map (drop_get hj)
        have hj7 : j < 7 := by
          have := (List.getElem?_eq_some_iff.mp hj).1
          rw [hlen1] at this
          omega
        have hmm : ((ms.map V.int).length : Int) = (j : Int) + 1 := by rw [List.length_map, hml]; rfl
        refine ⟨_, rfl, _, rfl, _, rfl, M, _, rfl, .inl (SqL.of hM2), q, lq, _, rfl, hst2, by omega, by omega, fun d H3 hd0 hd1 hst3 sb3 => ?_⟩
        have hM3 := sb3 _ _ hnM.1.symm hM2
        have hW3 := sb3 _ _ hnW.1.symm hW2
        obtain ⟨y, hy⟩ : ∃ y, ms[d.toNat]? = some y := ⟨ms[d.toNat]'(by omega), List.getElem?_eq_getElem (by omega)⟩
        refine ⟨M, _, _, .int y, rfl, rfl, SqL.of hM3, at_of (j := d.toNat) (by omega) (by rw [List.getElem?_map, hy]; rfl), _, rfl, (by show 2 ≤ sizeLine; decide), fun p hp => ?_⟩
        have sp := Same.new (o := .tup [.int y, .int z]) hp
        refine ⟨fun σ' H4 => ∃ (pr : Addr) (pq : Int × Int), σ' = [some (.ref q), some (.ref c), some (.ref R), some (.int (0 + (i : Int))), some (.ref M), some (.ref W), some (.int z), some (.ref pr)] ∧ Same (upd H3 p (.tup [.int y, .int z])) H4 ∧ At H4 (.ref pr) (pairT pq), ?_, ?_⟩
        · refine ⟨_, rfl, rfl, _, rfl, ?_⟩
          refine ite2 (fun _ => ?_) (fun _ => ?_)
          · refine ⟨_, rfl, p, _, _, .int z, rfl, rfl, SqT.of upd_same, rfl, _, rfl, p, _, _, .int y, rfl, rfl, SqT.of upd_same, rfl, (by show 2 ≤ sizeLine; decide), fun p2 hp2 => ?_⟩
            exact ⟨p2, (z, y), rfl, Same.new hp2, .tup upd_same (.cons (.int _) (.cons (.int _) .nil))⟩
          · exact ⟨p, (y, z), rfl, Same.refl _, .tup upd_same (.cons (.int _) (.cons (.int _) .nil))⟩
        · rintro σ' H4 ⟨pr, pq, rfl, s4, hpr⟩
          have s34 := sp.trans s4
          have hst4 := hst3.same s34
          have hM4 := s34 _ _ hM3
          have hW4 := s34 _ _ hW3
          have hB4 := s34 _ _ (sb3 _ _ hBq hB2)
          have hy4 := (hys.sb sb3 hst2 hst3).same s34
          have sb24 := sb3.trans (Sb.of s34)
          have hyl : ys.length = j := by rw [hys.length, List.length_map, hpl]
          refine ⟨_, rfl, .inl ⟨rfl, _, SqL.of hW4⟩, _, rfl, W, ys, .ref pr, rfl, rfl, hW4, small1000 (by omega), ?_⟩
          have kW := (Kp.refl H4).putL (ys := ys ++ [.ref pr]) hW4
          have hM5 : (upd H4 W (.lst (ys ++ [.ref pr]))) M = some (.lst (ms.map V.int)) := by
            rw [upd_ne hMW]
            exact hM4
          have hst5 := hst4.put (o := .lst (ys ++ [.ref pr])) hnW
          refine ⟨_, rfl, .inl ⟨rfl, _, SqL.of hM5⟩, _, rfl, M, _, _, rfl, rfl, hM5, (by rw [List.length_map]; exact small1000 (by omega)), ?_⟩
          have kM := (Kp.refl (upd H4 W (.lst (ys ++ [.ref pr])))).putL (ys := ms.map V.int ++ [.int z]) hM5
          have hMn1 : H1 M = none := hM
          have hWn1 : H1 W = none := sM.free hW
          refine ⟨_, _, ms ++ [z], ps ++ [pq], ys ++ [.ref pr], rfl, hst5.put hnM, Sb.put (Sb.put (sb2.trans sb24) hWn1) hMn1, kM.tup _ _ (kW.tup _ _ hB4), by rw [upd_same, List.map_append]; rfl, by rw [List.length_append, hml]; rfl, by rw [upd_ne hMW.symm, upd_same], ?_, by rw [List.length_append, hpl]; rfl⟩
          rw [List.map_append]
          exact ((hy4.snoc hpr).keep kW).keep kM
      · rintro σ H2 ⟨o6, o7, ms, ps, ys, rfl, hst2, sb2, hB2, hM2, hml, hW2, hys, hpl⟩
        rw [hlen1] at hpl
        have hR2 := sb2 _ _ hnR.1.symm h1R
        refine ⟨_, rfl, .inl ⟨rfl, _, SqL.of hR2⟩, _, rfl, W, ys, rfl, .inl ⟨SqL.of hW2, fun t ht => ?_⟩⟩
        have st := Same.new (o := .tup ys) ht
        have hR3 := st _ _ hR2
        have hxl : xs.length = i := by rw [hxs.length, List.length_map, hrl]
        refine ⟨R, xs, .ref t, rfl, rfl, hR3, small1000 (by omega), ?_⟩
        have kR := (Kp.refl (upd H2 t (.tup ys))).putL (ys := xs ++ [.ref t]) hR3
        refine ⟨_, _, _, _, _, rows ++ [ps], xs ++ [.ref t], rfl, (hst2.same st).put hnR, Sb.put ((sb1.trans sb2).trans (Sb.of st)) hR, upd_same, ?_, by rw [List.length_append, hrl]; rfl, fun r hr => ?_⟩
        · rw [List.map_append]
          exact (((hxs.sb sb2 hst1 hst2).same st).snoc (LstAt.row hys ht)).keep kR
        · rcases List.mem_append.mp hr with hr | hr
          · exact hrs r hr
          · rw [List.mem_singleton] at hr
            subst hr
            omega
    · rintro σ H1 ⟨o3, o4, o5, o6, o7, rows, xs, rfl, hst1, sb1, h1R, hxs, hrl, hrs⟩
      obtain ⟨r0, r1, r2, rfl⟩ : ∃ r0 r1 r2, rows = [r0, r1, r2] := by
        match rows, hrl with
        | [a, b, c], _ => exact ⟨a, b, c, rfl⟩
      refine ⟨_, rfl, R, xs, rfl, .inl ⟨SqL.of h1R, fun t ht => ?_⟩⟩
      have st := Same.new (o := .tup xs) ht
      exact k t r0 r1 r2 _ (.tup upd_same (hxs.same st)) (hrs _ (by simp)) (hrs _ (by simp)) (hrs _ (by simp)) (hst1.same st) (sb1.trans (Sb.of st))
end
end Tb
/-! _law_turned. -/
namespace Tb
open PySem PySem.Spec PyProof.Rows L2 Mt
theorem cut_from1 {xs : List V} {k : Nat} (h : k + 1 ≤ xs.length) : cutV xs (some ((k : Int) + 1)) none = xs.drop (k + 1) := cut_from (k := k + 1) h
theorem slA_no {K : PySem.W.Frag} {a : Addr} {xs : List V} {lo : Option Int} {σ : L2.St} {H : Hp} {Q : VK} (hx : H a = some (.tup xs)) (h : ∀ (p : Addr) (H' : Hp), Same H H' → H' p = some (.tup (cutV xs lo none)) → Q (.ref p) H') :
    tNoPart σ H fun u H3 => rSlA K (.ref a) lo u H3 Q := slA_ok (hi := none) hx h
theorem gT_is (a b c : List (Int × Int)) : gT a b c = .tup ([a, b, c].map rowT) := rfl
/-- a tuple whose items are rows or pairs: H t = the tuple, its items' trees -/
structure TupIs (H : Hp) (t : Addr) (xs : List V) (ts : List T) : Prop where
  at_ : H t = some (.tup xs)
  its : Ats H xs ts
theorem TupIs.same {H H' : Hp} {t : Addr} {xs : List V} {ts : List T} (h : TupIs H t xs ts) (s : Same H H') : TupIs H' t xs ts := ⟨s _ _ h.at_, h.its.same s⟩
theorem TupIs.sb {H H' : Hp} {t s l l' : Addr} {xs : List V} {ts : List T} (h : TupIs H t xs ts) (e : Sb s H H') (a : Stm H s l) (b : Stm H' s l') : TupIs H' t xs ts :=
  ⟨(e.kp a b).tup _ _ h.at_, h.its.sb e a b⟩
theorem TupIs.row {H : Hp} {t : Addr} {xs : List V} {ps : List (Int × Int)} (h : TupIs H t xs (ps.map pairT)) : At H (.ref t) (rowT ps) := .tup h.at_ h.its
section
variable {P : Program} {w : World} {K : PySem.W.Frag} {mg : Str → Option Value} {base : Heap}
def spTurned : Sp := fun vs H Q _ => ∃ (s l : Addr) (n : Int) (x : V) (r0 r1 r2 : List (Int × Int)), vs = [.ref s, .int n, x] ∧ Stm H s l ∧ 1 ≤ n ∧ n ≤ 7 ∧ At H x (gT r0 r1 r2) ∧ (∀ r ∈ [r0, r1, r2], 1 ≤ r.length ∧ r.length ≤ 10) ∧
  ∀ (p : Addr) (q0 q1 q2 : List (Int × Int)) (H' : Hp), At H' (.ref p) (gT q0 q1 q2) → (∀ r ∈ [q0, q1, q2], r.length ≤ 20) → Stm H' s l → Sb s H H' → Q (.ref p) H'
abbrev nTu : List Str := ["_law_stream_here", "_law_size", "_law_value", "_law_k", "_law_row", "_law_at", "_law_pick"]
theorem sc_tu : FnScope nTu ["_law_stream_here", "_law_size", "_law_value"] (defScope (top 51)) := ⟨rfl, rfl, rfl, by decide +kernel, rfl, by decide +kernel, by decide +kernel⟩
theorem ok_tu (T : Txt w K mg) (F : DefAt K mg "_law_turned" "_law_turned" (top 51)) (D : Df P w K mg base 1 "_law_next" spNext) : Df P w K mg base 2 "_law_turned" spTurned := by
  refine F.ok sc_tu (fun _ _ _ _ _ _ us hl => match us, hl with | [_, _, _], _ => rfl) (fun vs H Q E h => ?_) (fun f cdv A outer s H vs Q E hr h => ?_)
  · obtain ⟨s, l, n, x, r0, r1, r2, rfl, _⟩ := h
    rfl
  · obtain ⟨q, lq, n, x, r0, r1, r2, rfl, hst, hn1, hn7, hx, hrs, k⟩ := h
    have nd := sc_tu.nd
    rw [gT_is] at hx
    generalize hR : [r0, r1, r2] = rs at hx hrs
    have hR3 : rs.length = 3 := by rw [← hR]; rfl
    obtain ⟨a, xs, rfl, hp, hxs⟩ := hx.tup_ref
    have hx3 : xs.length = 3 := by rw [hxs.length, List.length_map, hR3]
    have hfin : ∀ (p : Addr) (zs : List V) (qs : List (List (Int × Int))) (H' : Hp), TupIs H' p zs (qs.map rowT) → qs.length = 3 → (∀ r ∈ qs, r.length ≤ 20) → Stm H' q lq → Sb q H H' → Q (.ref p) H' := fun p zs qs H' ht hq hl hs hb => by
      obtain ⟨q0, q1, q2, rfl⟩ : ∃ q0 q1 q2, qs = [q0, q1, q2] := by
        match qs, hq with
        | [a, b, c], _ => exact ⟨a, b, c, rfl⟩
      exact k p q0 q1 q2 H' (.tup ht.at_ ht.its) hl hs hb
    refine ⟨_, pss_cons (ps_set (i := 3) nd rfl (Or.inl rfl) (pe_df D hr (pa_cons (pv 0) (pa_cons pe_int pa_nil))))
      (pss_cons (ps_set (i := 4) nd rfl (Or.inl rfl) (pe_ix ix_tup (pv 2) (pv 3) (fun _ _ => rfl)))
      (pss_cons (ps_set (i := 5) nd rfl (Or.inl rfl) (pe_df D hr (pa_cons (pv 0) (pa_cons (pe_callB call_len_seq rfl T.len PySem.boot_len (pa_cons (pv 4) pa_nil)) pa_nil))))
      (pss_cons (ps_set (i := 6) nd rfl (Or.inl rfl) (pe_df D hr (pa_cons (pv 0) (pa_cons pe_int pa_nil))))
      (C8.pss_cut (ps_if (pt_cmpR op_eq (pv 6) pe_int (nomark _))
          (pss_one (ps_set (i := 4) nd rfl (Or.inl rfl) (pe_op op_catA (pe_slice sl_tupA (pv 4) po_none (po_some (pv 5))) (pe_slice sl_tupA (pv 4) (po_some (pe_op op_add (pv 5) pe_int)) po_none))))
        (pss_one (ps_if (pt_cmpR op_eq (pv 6) pe_int (nomark _))
          (pss_one (ps_set (i := 4) nd rfl (Or.inl rfl) (pe_op op_catA (pe_op op_catA (pe_slice sl_tupA (pv 4) po_none (po_some (pv 5)))
            (pe_tup (pa_cons (pe_tup (pa_cons (pe_ix ix_tup (pe_ix ix_tup (pv 4) (pv 5) (fun _ _ => rfl)) pe_int (fun _ _ => rfl)) (pa_cons (pe_ix ix_tup (pe_ix ix_tup (pv 4) (pv 5) (fun _ _ => rfl)) pe_int (fun _ _ => rfl)) pa_nil))) pa_nil)))
            (pe_slice sl_tupA (pv 4) (po_some (pe_op op_add (pv 5) pe_int)) po_none))))
        (pss_one (ps_if (pt_cmpR op_eq (pv 6) pe_int (nomark _))
          (pss_one (ps_set (i := 4) nd rfl (Or.inl rfl) (pe_op op_catA (pe_slice sl_tupA (pv 4) (po_some (pv 5)) po_none) (pe_slice sl_tupA (pv 4) po_none (po_some (pv 5))))))
        (pss_one (ps_if (pt_cmpR op_eq (pv 6) pe_int (nomark _))
          (pss_one (ps_set (i := 4) nd rfl (Or.inl rfl) (pe_op op_catA (pe_op op_catA (pe_slice sl_tupA (pv 4) po_none (po_some (pv 5)))
            (pe_tup (pa_cons (pe_tup (pa_cons (pe_df D hr (pa_cons (pv 0) (pa_cons (pv 1) pa_nil))) (pa_cons (pe_ix ix_tup (pe_ix ix_tup (pv 4) (pv 5) (fun _ _ => rfl)) pe_int (fun _ _ => rfl)) pa_nil))) pa_nil)))
            (pe_slice sl_tupA (pv 4) (po_some (pe_op op_add (pv 5) pe_int)) po_none))))
        (pss_one (ps_if (pt_cmpR op_eq (pv 6) pe_int (nomark _))
          (pss_one (ps_set (i := 4) nd rfl (Or.inl rfl) (pe_op op_catA (pv 4) (pe_slice sl_tupA (pv 4) (po_some (pv 5)) (po_some (pe_op op_add (pv 5) pe_int))))))
        (pss_one (ps_if (pt_cmpR op_eq (pv 6) pe_int (nomark _))
          (pss_one (ps_ret (pe_op op_catA (pe_slice sl_tupA (pv 2) (po_some pe_int) po_none) (pe_slice sl_tupA (pv 2) po_none (po_some pe_int)))))
          (pss_one (ps_set (i := 4) nd rfl (Or.inl rfl) (pe_revT (pv 4)))))))))))))))
      (pss_one (ps_ret (pe_op op_catA (pe_op op_catA (pe_slice sl_tupA (pv 2) po_none (po_some (pv 3))) (pe_tup (pa_cons (pv 4) pa_nil))) (pe_slice sl_tupA (pv 2) (po_some (pe_op op_add (pv 3) pe_int)) po_none)))))))), ?_⟩
    refine ⟨_, rfl, q, lq, 3, rfl, hst, by decide, by decide, fun d0 H1 hd0 hd1 hst1 sb1 => ?_⟩
    obtain ⟨kk, rfl⟩ : ∃ kk : Nat, d0 = (kk : Int) := ⟨d0.toNat, by omega⟩
    have hk3 : kk < 3 := by omega
    have hV1 : TupIs H1 a xs (rs.map rowT) := ⟨(sb1.kp hst hst1).tup _ _ hp, hxs.sb sb1 hst hst1⟩
    obtain ⟨rv, hrv⟩ : ∃ rv, xs[kk]? = some rv := ⟨xs[kk]'(by omega), List.getElem?_eq_getElem (by omega)⟩
    obtain ⟨tr, htr, hrvA⟩ := hV1.its.get hrv
    obtain ⟨ps, hps, rfl⟩ := get_map htr
    obtain ⟨ra, ys, rfl, hra, hys⟩ := hrvA.tup_ref
    obtain ⟨hl1, hl10⟩ := hrs ps (List.mem_of_getElem? hps)
    have hyl : ys.length = ps.length := by rw [hys.length, List.length_map]
    refine ⟨_, rfl, _, rfl, a, xs, _, .ref ra, rfl, rfl, SqT.of hV1.at_, at_of (j := kk) rfl hrv, ?_⟩
    refine ⟨_, rfl, _, rfl, ra, ys, rfl, .inr (SqT.of hra), q, lq, _, rfl, hst1, by omega, by omega, fun d1 H2 hd2 hd3 hst2 sb2 => ?_⟩
    obtain ⟨j, rfl⟩ : ∃ j : Nat, d1 = (j : Int) := ⟨d1.toNat, by omega⟩
    have hj : j < ys.length := by omega
    refine ⟨_, rfl, q, lq, 7, rfl, hst2, by decide, by decide, fun pk H3 hp0 hp7 hst3 sb3 => ?_⟩
    have sb23 := sb2.trans sb3
    have sb13 := sb1.trans sb23
    have hV3 : TupIs H3 a xs (rs.map rowT) := hV1.sb sb23 hst1 hst3
    have hW3 : TupIs H3 ra ys (ps.map pairT) := TupIs.sb ⟨hra, hys⟩ sb23 hst1 hst3
    obtain ⟨pv0, hpv⟩ : ∃ v, ys[j]? = some v := ⟨ys[j], List.getElem?_eq_getElem hj⟩
    obtain ⟨tp, htp, hpA⟩ := hW3.its.get hpv
    obtain ⟨pp, hpp, rfl⟩ := get_map htp
    obtain ⟨pb, rfl, hpb⟩ := hpA.pair
    have hat : atI ys (j : Int) = some (.ref pb) := at_of (j := j) rfl hpv
    have zl : ∀ m : Nat, m ≤ 1000 → m ≤ sizeLine := fun m h => Nat.le_of_lt (small1000 h)
    have mt : (ys.take j).length ≤ 10 := by rw [List.length_take]; omega
    have md : (ys.drop (j + 1)).length ≤ 10 := by rw [List.length_drop]; omega
    have md0 : (ys.drop j).length ≤ 10 := by rw [List.length_drop]; omega
    have tk : ∀ {H' : Hp}, Ats H' ys (ps.map pairT) → Ats H' (ys.take j) ((ps.take j).map pairT) := fun h => by rw [List.map_take]; exact h.take j
    have dk : ∀ {H' : Hp} (m : Nat), Ats H' ys (ps.map pairT) → Ats H' (ys.drop m) ((ps.drop m).map pairT) := fun m h => by rw [List.map_drop]; exact h.drop m
    refine ⟨fun σ' H4 => ∃ (rw_ : Addr) (zs : List V) (ps' : List (Int × Int)), σ' = [some (.ref q), some (.int n), some (.ref a), some (.int kk), some (.ref rw_), some (.int j), some (.int pk)] ∧ Stm H4 q lq ∧ Sb q H3 H4 ∧ TupIs H4 rw_ zs (ps'.map pairT) ∧ ps'.length ≤ 20, ?_, ?_⟩
    · refine ⟨_, rfl, rfl, _, rfl, ?_⟩
      refine ite2 (fun _ => ?_) (fun _ => ?_)
      · -- a pair is left out
        refine ⟨_, rfl, _, rfl, _, rfl, slA_ok hW3.at_ fun p1 H4 s4 h4 => ?_⟩
        rw [cut_to (by omega)] at h4
        refine ⟨_, rfl, _, rfl, _, _, rfl, rfl, _, rfl, slA_no (hW3.same s4).at_ fun p2 H5 s5 h5 => ?_⟩
        rw [cut_from1 (by omega)] at h5
        refine catA_ok (s5 _ _ h4) h5 (zl _ (by omega)) fun p3 H6 s6 h6 => ?_
        have s36 := (s4.trans s5).trans s6
        have hy6 := (hW3.same s36).its
        refine ⟨p3, _, ps.take j ++ ps.drop (j + 1), rfl, hst3.same s36, Sb.of s36, ⟨h6, ?_⟩, ?_⟩
        · rw [List.map_append]
          exact (tk hy6).append (dk _ hy6)
        · rw [List.length_append, List.length_take, List.length_drop]
          omega
      refine ⟨_, rfl, rfl, _, rfl, ?_⟩
      refine ite2 (fun _ => ?_) (fun _ => ?_)
      · -- turned
        refine ⟨_, rfl, _, rfl, _, rfl, slA_ok hW3.at_ fun p1 H4 s4 h4 => ?_⟩
        rw [cut_to (by omega)] at h4
        refine ⟨_, rfl, _, rfl, ra, _, _, .ref pb, rfl, rfl, SqT.of (s4 _ _ hW3.at_), hat, pb, _, _, .int pp.2, rfl, rfl, SqT.of (s4 _ _ hpb), rfl,
          _, rfl, _, rfl, ra, _, _, .ref pb, rfl, rfl, SqT.of (s4 _ _ hW3.at_), hat, pb, _, _, .int pp.1, rfl, rfl, SqT.of (s4 _ _ hpb), rfl, (by show 2 ≤ sizeLine; decide), fun u hu => ?_⟩
        have su := Same.new (o := .tup [.int pp.2, .int pp.1]) hu
        refine ⟨(by show 1 ≤ sizeLine; decide), fun u2 hu2 => ?_⟩
        have su2 := Same.new (o := .tup [.ref u]) hu2
        have s45 := su.trans su2
        refine catA_ok (s45 _ _ h4) upd_same (zl _ (by simp only [List.length_cons, List.length_nil]; omega)) fun p3 H6 s6 h6 => ?_
        have s46 := s45.trans s6
        have s36 := s4.trans s46
        refine ⟨_, rfl, _, rfl, _, _, rfl, rfl, _, rfl, slA_no (hW3.same s36).at_ fun p4 H7 s7 h7 => ?_⟩
        rw [cut_from1 (by omega)] at h7
        refine catA_ok (s7 _ _ h6) h7 (zl _ (by rw [List.length_append]; simp only [List.length_cons, List.length_nil]; omega)) fun p5 H8 s8 h8 => ?_
        have s68 := s7.trans s8
        have s38 := s36.trans s68
        have hy8 := (hW3.same s38).its
        have hu8 : At H8 (.ref u) (pairT (swp pp)) := .tup (((su2.trans s6).trans s68) _ _ upd_same) (.cons (.int _) (.cons (.int _) .nil))
        refine ⟨p5, _, (ps.take j ++ [swp pp]) ++ ps.drop (j + 1), rfl, hst3.same s38, Sb.of s38, ⟨h8, ?_⟩, ?_⟩
        · rw [List.map_append, List.map_append]
          exact ((tk hy8).snoc hu8).append (dk _ hy8)
        · rw [List.length_append, List.length_append, List.length_take, List.length_drop]
          simp only [List.length_cons, List.length_nil]
          omega
      refine ⟨_, rfl, rfl, _, rfl, ?_⟩
      refine ite2 (fun _ => ?_) (fun _ => ?_)
      · -- turned round at a place
        refine ⟨_, rfl, _, rfl, _, rfl, slA_no hW3.at_ fun p1 H4 s4 h4 => ?_⟩
        rw [cut_from (by omega)] at h4
        refine ⟨_, rfl, _, rfl, _, rfl, slA_ok (hW3.same s4).at_ fun p2 H5 s5 h5 => ?_⟩
        rw [cut_to (by omega)] at h5
        refine catA_ok (s5 _ _ h4) h5 (zl _ (by omega)) fun p3 H6 s6 h6 => ?_
        have s36 := (s4.trans s5).trans s6
        have hy6 := (hW3.same s36).its
        refine ⟨p3, _, ps.drop j ++ ps.take j, rfl, hst3.same s36, Sb.of s36, ⟨h6, ?_⟩, ?_⟩
        · rw [List.map_append]
          exact (dk _ hy6).append (tk hy6)
        · rw [List.length_append, List.length_take, List.length_drop]
          omega
      refine ⟨_, rfl, rfl, _, rfl, ?_⟩
      refine ite2 (fun _ => ?_) (fun _ => ?_)
      · -- another first task
        refine ⟨_, rfl, _, rfl, _, rfl, slA_ok hW3.at_ fun p1 H4 s4 h4 => ?_⟩
        rw [cut_to (by omega)] at h4
        refine ⟨_, rfl, _, rfl, q, lq, n, rfl, hst3.same s4, by omega, by omega, fun dd H5 _ _ hst5 sb5 => ?_⟩
        have sb35 := (Sb.of s4).trans sb5
        have hW5 := hW3.sb sb35 hst3 hst5
        have k35 := Sb.kp sb35 hst3 hst5
        have h5 := (Sb.kp sb5 (hst3.same s4) hst5).tup _ _ h4
        have hpb5 := k35.tup _ _ hpb
        refine ⟨_, rfl, _, rfl, ra, _, _, .ref pb, rfl, rfl, SqT.of hW5.at_, hat, pb, _, _, .int pp.2, rfl, rfl, SqT.of hpb5, rfl, (by show 2 ≤ sizeLine; decide), fun u hu => ?_⟩
        have su := Same.new (o := .tup [.int dd, .int pp.2]) hu
        refine ⟨(by show 1 ≤ sizeLine; decide), fun u2 hu2 => ?_⟩
        have su2 := Same.new (o := .tup [.ref u]) hu2
        have s56 := su.trans su2
        refine catA_ok (s56 _ _ h5) upd_same (zl _ (by simp only [List.length_cons, List.length_nil]; omega)) fun p3 H6 s6 h6 => ?_
        have s5' := s56.trans s6
        refine ⟨_, rfl, _, rfl, _, _, rfl, rfl, _, rfl, slA_no (hW5.same s5').at_ fun p4 H7 s7 h7 => ?_⟩
        rw [cut_from1 (by omega)] at h7
        refine catA_ok (s7 _ _ h6) h7 (zl _ (by rw [List.length_append]; simp only [List.length_cons, List.length_nil]; omega)) fun p5 H8 s8 h8 => ?_
        have s68 := s7.trans s8
        have s58 := s5'.trans s68
        have hy8 := (hW5.same s58).its
        have hu8 : At H8 (.ref u) (pairT (dd, pp.2)) := .tup (((su2.trans s6).trans s68) _ _ upd_same) (.cons (.int _) (.cons (.int _) .nil))
        refine ⟨p5, _, (ps.take j ++ [(dd, pp.2)]) ++ ps.drop (j + 1), rfl, hst5.same s58, sb35.trans (Sb.of s58), ⟨h8, ?_⟩, ?_⟩
        · rw [List.map_append, List.map_append]
          exact ((tk hy8).snoc hu8).append (dk _ hy8)
        · rw [List.length_append, List.length_append, List.length_take, List.length_drop]
          simp only [List.length_cons, List.length_nil]
          omega
      refine ⟨_, rfl, rfl, _, rfl, ?_⟩
      refine ite2 (fun _ => ?_) (fun _ => ?_)
      · -- a pair twice
        refine ⟨_, rfl, _, rfl, _, rfl, _, rfl, _, rfl, _, _, rfl, rfl, _, rfl, slA_ok hW3.at_ fun p1 H4 s4 h4 => ?_⟩
        rw [cut_at (by omega)] at h4
        refine catA_ok (hW3.same s4).at_ h4 (zl _ (by rw [List.length_take]; omega)) fun p3 H6 s6 h6 => ?_
        have s36 := s4.trans s6
        have hy6 := (hW3.same s36).its
        refine ⟨p3, _, ps ++ (ps.drop j).take 1, rfl, hst3.same s36, Sb.of s36, ⟨h6, ?_⟩, ?_⟩
        · rw [List.map_append, List.map_take]
          exact hy6.append ((dk _ hy6).take 1)
        · rw [List.length_append, List.length_take]
          omega
      refine ⟨_, rfl, rfl, _, rfl, ?_⟩
      refine ite2 (fun _ => ?_) (fun _ => ?_)
      · -- the rows exchanged
        refine ⟨_, rfl, _, rfl, slA_no hV3.at_ fun p1 H4 s4 h4 => ?_⟩
        rw [show (some (1 : Int)) = some ((1 : Nat) : Int) from rfl, cut_from (by omega)] at h4
        refine ⟨_, rfl, _, rfl, slA_ok (hV3.same s4).at_ fun p2 H5 s5 h5 => ?_⟩
        rw [show (some (1 : Int)) = some ((1 : Nat) : Int) from rfl, cut_to (by omega)] at h5
        refine catA_ok (s5 _ _ h4) h5 (zl _ (by rw [List.length_drop, List.length_take]; omega)) fun p3 H6 s6 h6 => ?_
        have s36 := (s4.trans s5).trans s6
        have hy6 := (hV3.same s36).its
        refine hfin p3 _ (rs.drop 1 ++ rs.take 1) H6 ⟨h6, ?_⟩ ?_ (fun r hr => ?_) (hst3.same s36) (sb13.trans (Sb.of s36))
        · rw [List.map_append, List.map_drop, List.map_take]
          exact (hy6.drop 1).append (hy6.take 1)
        · rw [List.length_append, List.length_drop, List.length_take]
          omega
        · have hm : r ∈ rs := by
            rcases List.mem_append.mp hr with hr | hr
            · exact List.mem_of_mem_drop hr
            · exact List.mem_of_mem_take hr
          have := (hrs r hm).2
          omega
      · -- back to front
        refine ⟨_, rfl, ra, ys, rfl, SqT.of hW3.at_, fun p1 hp1 => ?_⟩
        have s4 := Same.new (o := .tup ys.reverse) hp1
        refine ⟨p1, _, ps.reverse, rfl, hst3.same s4, Sb.of s4, ⟨upd_same, ?_⟩, ?_⟩
        · rw [List.map_reverse]
          exact ((hW3.same s4).its).reverse
        · rw [List.length_reverse]
          omega
    · rintro σ' H4 ⟨rw_, zs, ps', rfl, hst4, sb4, hZ4, hl'⟩
      have hV4 := hV3.sb sb4 hst3 hst4
      have hrow4 := hZ4.row
      refine ⟨_, rfl, _, rfl, _, rfl, slA_ok hV4.at_ fun p1 H5 s5 h5 => ?_⟩
      rw [cut_to (by omega)] at h5
      refine ⟨_, rfl, (by show 1 ≤ sizeLine; decide), fun u hu => ?_⟩
      have su := Same.new (o := .tup [.ref rw_]) hu
      refine catA_ok (su _ _ h5) upd_same (zl _ (by rw [List.length_take]; simp only [List.length_cons, List.length_nil]; omega)) fun p3 H6 s6 h6 => ?_
      have s46 := (s5.trans su).trans s6
      refine ⟨_, rfl, _, rfl, _, _, rfl, rfl, _, rfl, slA_no (hV4.same s46).at_ fun p4 H7 s7 h7 => ?_⟩
      rw [cut_from1 (by omega)] at h7
      refine catA_ok (s7 _ _ h6) h7 (zl _ (by rw [List.length_append, List.length_take, List.length_drop]; simp only [List.length_cons, List.length_nil]; omega)) fun p5 H8 s8 h8 => ?_
      have s48 := s46.trans (s7.trans s8)
      have hy8 := (hV4.same s48).its
      refine hfin p5 _ ((rs.take kk ++ [ps']) ++ rs.drop (kk + 1)) H8 ⟨h8, ?_⟩ ?_ (fun r hr => ?_) (hst4.same s48) ((sb13.trans sb4).trans (Sb.of s48))
      · rw [List.map_append, List.map_append, List.map_take, List.map_drop]
        exact ((hy8.take kk).snoc (hrow4.same s48)).append (hy8.drop (kk + 1))
      · rw [List.length_append, List.length_append, List.length_take, List.length_drop]
        simp only [List.length_cons, List.length_nil]
        omega
      · rcases List.mem_append.mp hr with hr | hr
        · rcases List.mem_append.mp hr with hr | hr
          · have := (hrs r (List.mem_of_mem_take hr)).2
            omega
          · rw [List.mem_singleton] at hr
            subst hr
            exact hl'
        · have := (hrs r (List.mem_of_mem_drop hr)).2
          omega
end
end Tb
/-! The law's two judgements agree; what is judged good is stuck; expressions that make trees. -/
namespace Tb
open PySem PySem.Spec PyProof.Rows L2 Mt
theorem prT_pair (p : Int × Int) : prT (pairT p) = p := rfl
theorem prs_row (r : List (Int × Int)) : prs (rowT r) = r := by
  show (r.map pairT).map prT = r
  rw [List.map_map]
  have e : r.map (prT ∘ pairT) = r.map id := List.map_congr_left fun _ _ => rfl
  rw [e, List.map_id]
theorem pairs_row {n : Int} {cs : List Int} (hc : SetOk n cs) {r : List (Int × Int)} (h : ∀ p ∈ r, p.1 ∈ cs ∧ p.2 ∈ cs) : arePairs n (rowT r) = true := by
  show (r.map pairT).all (isPair n) = true
  rw [List.all_eq_true]
  intro t ht
  obtain ⟨p, hp, rfl⟩ := List.mem_map.mp ht
  obtain ⟨h1, h2⟩ := h p hp
  show (isTask n (.int p.1) && isTask n (.int p.2)) = true
  rw [isTask_yes (hc.lo _ h1) (hc.hi _ h1), isTask_yes (hc.lo _ h2) (hc.hi _ h2)]
  rfl
theorem meets_row {n : Int} {cs : List Int} {c0 : Int} (hc : SetOk n cs) (h0 : c0 ∈ cs) {R : Int → Int → Bool} {r : List (Int × Int)} (h : meets R cs r [c0] = true) : ∀ p ∈ r, p.1 ∈ cs ∧ p.2 ∈ cs :=
  meets_in r [c0] (fun x hx => by rw [List.mem_singleton] at hx; subst hx; exact h0) h
/-- the program's judge and the law's say the same -/
theorem areG_law {n : Int} {rs : List Rl} {cs : List Int} {c0 : Int} (hc : SetOk n cs) (h0 : c0 ∈ cs) (r0 r1 r2 : List (Int × Int)) : areG n rs cs c0 (gT r0 r1 r2) = lawG rs cs c0 r0 r1 r2 := by
  show ((arePairs n (rowT r0) && (arePairs n (rowT r1) && arePairs n (rowT r2))) && (meets (ties rs) cs (prs (rowT r0)) [c0] && (meets (bars rs) cs (prs (rowT r1)) [c0] && meets (barred rs) cs ((prs (rowT r2)).map swp) [c0]))) =
    (meets (ties rs) cs r0 [c0] && (meets (bars rs) cs r1 [c0] && meets (barred rs) cs (r2.map swp) [c0]))
  rw [prs_row, prs_row, prs_row]
  cases e : (meets (ties rs) cs r0 [c0] && (meets (bars rs) cs r1 [c0] && meets (barred rs) cs (r2.map swp) [c0])) with
  | false => rw [Bool.and_false]
  | true =>
    obtain ⟨e0, e⟩ := Bool.and_eq_true_iff.mp e
    obtain ⟨e1, e2⟩ := Bool.and_eq_true_iff.mp e
    rw [pairs_row hc (meets_row hc h0 e0), pairs_row hc (meets_row hc h0 e1)]
    rw [pairs_row hc fun p hp => by
      have := meets_row hc h0 e2 (swp p) (List.mem_map.mpr ⟨p, hp, rfl⟩)
      exact ⟨this.2, this.1⟩]
    rfl
/-- what is judged good is stuck -/
theorem law_stuck {n : Int} {rs : List Rl} {cs : List Int} {c0 : Int} (hc : SetOk n cs) (h0 : c0 ∈ cs) {r0 r1 r2 : List (Int × Int)} (h : lawG rs cs c0 r0 r1 r2 = true) : Stuck rs cs c0 := by
  obtain ⟨e0, e⟩ := Bool.and_eq_true_iff.mp h
  obtain ⟨e1, e2⟩ := Bool.and_eq_true_iff.mp e
  have one : ∀ {R : Int → Int → Bool} {r : List (Int × Int)}, meets R cs r [c0] = true → ∀ c ∈ cs, Rch R cs c0 c := fun e =>
    meets_all hc.nodup _ [c0] (by simp) (fun x hx => by rw [List.mem_singleton] at hx; subst hx; exact h0) (fun x hx => by rw [List.mem_singleton] at hx; subst hx; exact .here) e
  refine ⟨one e0, fun t ht c hcc => ?_⟩
  exact Rch.trans ((one e2 t ht).back h0) (one e1 c hcc)
/-! ### expressions that make trees and leave what stood -/
def EvT (te : TE) (σ : L2.St) (H0 : Hp) (t : T) : Prop := ∀ (H : Hp) (Q : VK), Same H0 H → (∀ v H', Same H H' → At H' v t → Q v H') → te σ H Q
def EvA (ta : TA) (σ : L2.St) (H0 : Hp) (ts : List T) : Prop := ∀ (H : Hp) (Q : List V → Hp → Prop), Same H0 H → (∀ vs H', Same H H' → Ats H' vs ts → Q vs H') → ta σ H Q
section
variable {σ : L2.St} {H0 : Hp} {te : TE} {ta : TA} {t : T} {ts : List T}
theorem ev_int (i : Int) : EvT (tC (.int i)) σ H0 (.int i) := fun H Q _ k => k _ H (Same.refl H) (.int i)
theorem ev_str (x : Str) : EvT (tC (.str x)) σ H0 (.str x) := fun H Q _ k => k _ H (Same.refl H) (.str x)
theorem ev_bl (b : Bool) : EvT (tC (.bl b)) σ H0 (.bl b) := fun H Q _ k => k _ H (Same.refl H) (.bl b)
theorem ev_non : EvT (tC .non) σ H0 .non := fun H Q _ k => k _ H (Same.refl H) .non
theorem ev_nil : EvA tNil σ H0 [] := fun H Q _ k => k [] H (Same.refl H) .nil
theorem ev_cons (h : EvT te σ H0 t) (g : EvA ta σ H0 ts) : EvA (tCons te ta) σ H0 (t :: ts) := fun H Q s k =>
  h H _ s fun v H1 s1 a1 => g H1 _ (s.trans s1) fun vs H2 s2 a2 => k (v :: vs) H2 (s1.trans s2) (.cons (a1.same s2) a2)
theorem ev_tup (h : EvA ta σ H0 ts) (hz : ts.length ≤ 1000) : EvT (L2.tTup ta) σ H0 (.tup ts) := fun H Q s k =>
  h H _ s fun vs H1 s1 a1 => ⟨Nat.le_of_lt (small1000 (by rw [a1.length]; exact hz)), fun p hp => k _ _ (s1.trans (Same.new hp)) (.tup upd_same (a1.same (Same.new hp)))⟩
theorem ev_lst (h : EvA ta σ H0 ts) (hz : ts.length ≤ 1000) : EvT (L2.tLst ta) σ H0 .lst := fun H Q s k =>
  h H _ s fun vs H1 s1 a1 => ⟨Nat.le_of_lt (small1000 (by rw [a1.length]; exact hz)), fun p hp => k _ _ (s1.trans (Same.new hp)) (.lst upd_same)⟩
/-- a new list whose items are told -/
theorem new_list {H : Hp} {Q : VK} (h : EvA ta σ H0 ts) (hz : ts.length ≤ 1000) (s : Same H0 H) (k : ∀ (p : Addr) (vs : List V) (H' : Hp), Same H H' → H p = none → H' p = some (.lst vs) → Ats H' vs ts → Q (.ref p) H') : L2.tLst ta σ H Q :=
  h H _ s fun vs H1 s1 a1 => ⟨Nat.le_of_lt (small1000 (by rw [a1.length]; exact hz)), fun p hp => k p vs _ (s1.trans (Same.new hp)) (s1.free hp) upd_same (a1.same (Same.new hp))⟩
variable {K : PySem.W.Frag} {i : Nat} {g : Addr} {xs : List V}
/-- an item of the tuple in slot i -/
theorem ev_item {j : Nat} (hi : σ[i]? = some (some (.ref g))) (hg : H0 g = some (.tup xs)) (ha : Ats H0 xs ts) (ht : ts[j]? = some t) : EvT (tOp (rIxT K) (tVar i) (tC (.int (j : Int)))) σ H0 t := fun H Q s k => by
  obtain ⟨v, hv, a⟩ := ha.get' ht
  exact ⟨_, hi, g, xs, _, v, rfl, rfl, SqT.of (s _ _ hg), at_of (j := j) rfl hv, k v H (Same.refl H) (a.same s)⟩
/-- the first j items of the tuple in slot i -/
theorem ev_to {j : Nat} (hi : σ[i]? = some (some (.ref g))) (hg : H0 g = some (.tup xs)) (ha : Ats H0 xs ts) (hj : j ≤ xs.length) : EvT (tSl (rSlA K) (tVar i) tNoPart (tPart (tC (.int (j : Int))))) σ H0 (.tup (ts.take j)) := fun H Q s k =>
  ⟨_, hi, _, rfl, slA_ok (s _ _ hg) fun p H' s' h' => by
    rw [cut_to hj] at h'
    exact k _ H' s' (.tup h' ((ha.same (s.trans s')).take j))⟩
/-- list(the tuple in slot i) -/
theorem ev_list (hi : σ[i]? = some (some (.ref g))) (hg : H0 g = some (.tup xs)) :
    EvT (tCB (fun xs H Q => ∃ p ys, xs = [.ref p] ∧ (SqL K H p ys ∨ SqT K H p ys) ∧ ∀ l, H l = none → Q (.ref l) (upd H l (.lst ys))) (tCons (tVar i) tNil)) σ H0 .lst := fun H Q s k =>
  ⟨_, hi, g, xs, rfl, .inr (SqT.of (s _ _ hg)), fun l hl => k _ _ (Same.new hl) (.lst upd_same)⟩
/-- the tuple in slot i and another one -/
theorem ev_cat {us : List T} (hi : σ[i]? = some (some (.ref g))) (hg : H0 g = some (.tup xs)) (ha : Ats H0 xs ts) (hx : xs.length ≤ 100) (h : EvA ta σ H0 us) (hu : us.length ≤ 100) : EvT (tOp (rCatA K) (tVar i) (L2.tTup ta)) σ H0 (.tup (ts ++ us)) := fun H Q s k => by
  refine ⟨_, hi, h H _ s fun vs H1 s1 a1 => ⟨Nat.le_of_lt (small1000 (by rw [a1.length]; omega)), fun p hp => ?_⟩⟩
  have sp := Same.new (o := .tup vs) hp
  have s2 := (s.trans s1).trans sp
  refine catA_ok (s2 _ _ hg) upd_same (Nat.le_of_lt (small1000 (by rw [a1.length]; omega))) fun p' H' s' h' => ?_
  exact k _ H' ((s1.trans sp).trans s') (.tup h' ((ha.same (s2.trans s')).append ((a1.same sp).same s')))
end
/-! ### the law's odd values -/
def rs2 : List Rl := [⟨0, [.bef], 1⟩, ⟨0, [.aft], 1⟩]
def g0T : T := .tup [.tup [.int 0, .int 1]]
def g2T : T := .tup [.tup [.int 1, .int 0]]
def goodT : T := .tup [g0T, g0T, g2T]
def oddA : List T := [.non, .tup [g0T, g0T], .lst, .tup [g0T, g0T, .lst], .tup [g0T, g0T, .tup [.lst]], .tup [g0T, .tup [.tup [.int 0, .bl true]], g2T], .tup [g0T, g0T, g2T, .tup []]]
def oddB : List T := [.tup [.tup [.tup [.int 0, .int 1, .int 1]], g0T, g2T], .tup [g0T, g0T, .tup []], .tup [.tup [.tup [.int 0, .str "1"]], g0T, g2T], .tup [.tup [.tup [.int 0, .int 7]], g0T, g2T]]
def shortB : T → Bool
  | .tup [_, _, .tup ts] => decide (ts.length ≤ 1000)
  | _ => true
theorem short_of {t : T} (h : shortB t = true) : Short t := by
  unfold Short
  split
  · rename_i ts
    have h : decide (ts.length ≤ 1000) = true := h
    exact of_decide_eq_true h
  · trivial
theorem odd_short : ∀ t ∈ oddA ++ oddB, Short t := fun t ht => by
  have h : (oddA ++ oddB).all shortB = true := by decide +kernel
  exact short_of (List.all_eq_true.mp h t ht)
theorem odd_no {n : Int} (h2 : 2 ≤ n) (h7 : n ≤ 7) : ∀ t ∈ oddA ++ oddB, areG n rs2 [0, 1] 0 t = false := fun t ht => by
  have h : (oddA ++ oddB).all (fun t => !areG n rs2 [0, 1] 0 t) = true := by
    have hn : n = 2 ∨ n = 3 ∨ n = 4 ∨ n = 5 ∨ n = 6 ∨ n = 7 := by omega
    rcases hn with rfl | rfl | rfl | rfl | rfl | rfl <;> decide +kernel
  have := List.all_eq_true.mp h t ht
  simpa using this
theorem good_yes {n : Int} (h2 : 2 ≤ n) (h7 : n ≤ 7) : areG n rs2 [0, 1] 0 goodT = true := by
  have hn : n = 2 ∨ n = 3 ∨ n = 4 ∨ n = 5 ∨ n = 6 ∨ n = 7 := by omega
  rcases hn with rfl | rfl | rfl | rfl | rfl | rfl <;> decide +kernel
theorem two_prob {n : Int} (h2 : 2 ≤ n) (h7 : n ≤ 7) : ProbOk n rs2 := by
  refine ⟨by omega, h7, by decide, fun r hr => ?_⟩
  unfold rs2 at hr
  rcases List.mem_cons.mp hr with rfl | hr
  · exact ⟨Int.le_refl _, by show (0 : Int) < n; omega, by decide, by show (1 : Int) < n; omega, by decide, by decide, by decide⟩
  · rw [List.mem_singleton] at hr
    subst hr
    exact ⟨Int.le_refl _, by show (0 : Int) < n; omega, by decide, by show (1 : Int) < n; omega, by decide, by decide, by decide⟩
theorem two_set {n : Int} (h2 : 2 ≤ n) (h7 : n ≤ 7) : SetOk n [0, 1] := by
  refine ⟨by simp, by simp, fun c hc => ?_, fun c hc => ?_, by decide⟩
  · rcases List.mem_cons.mp hc with rfl | hc
    · decide
    · rw [List.mem_singleton] at hc
      subst hc
      decide
  · rcases List.mem_cons.mp hc with rfl | hc
    · omega
    · rw [List.mem_singleton] at hc
      subst hc
      omega
end Tb
/-! The law. -/
namespace Tb
open PySem PySem.Spec PyProof.Rows L2 Mt
abbrev G3 : Type := List (Int × Int) × List (Int × Int) × List (Int × Int)
def gF (g : G3) : T := gT g.1 g.2.1 g.2.2
theorem new_tup {σ : L2.St} {H0 H : Hp} {ta : TA} {ts : List T} {Q : VK} (h : EvA ta σ H0 ts) (hz : ts.length ≤ 1000) (s : Same H0 H) (k : ∀ (v : V) (H' : Hp), Same H H' → At H' v (.tup ts) → Q v H') : L2.tTup ta σ H Q :=
  ev_tup h hz H Q s k
def noneT : List T := [.tup [.int 0, .tup [.str "before"], .int 1], .tup [.int 0, .tup [.str "after"], .int 1]]
theorem noneT_eq : noneT = rs2.map ruleT := rfl
theorem seq_tup {σ : L2.St} {H0 H : Hp} {ta : TA} {ts : List T} {g : TG} {u : TS} {D : Ends} (h : EvA ta σ H0 ts) (hz : ts.length ≤ 1000) (s : Same H0 H) (k : ∀ (v : V) (H' : Hp), Same H H' → At H' v (.tup ts) → g v σ H' (u D)) : tSeq (tAsg (L2.tTup ta) g) u D σ H :=
  ev_tup h hz H _ s k
theorem seq_lst {σ : L2.St} {H0 H : Hp} {ta : TA} {ts : List T} {g : TG} {u : TS} {D : Ends} (h : EvA ta σ H0 ts) (hz : ts.length ≤ 1000) (s : Same H0 H) (k : ∀ (p : Addr) (vs : List V) (H' : Hp), Same H H' → H p = none → H' p = some (.lst vs) → Ats H' vs ts → g (.ref p) σ H' (u D)) : tSeq (tAsg (L2.tLst ta) g) u D σ H :=
  new_list (Q := fun x H1 => g x σ H1 (u D)) h hz s k
theorem seq_cat {σ : L2.St} {H0 H : Hp} {ta : TA} {ts : List T} {g : TG} {u : TS} {D : Ends} {i : Nat} {a : Addr} {xs : List V} (hi : σ[i]? = some (some (.ref a))) (ha : H a = some (.lst xs)) (h : EvA ta σ H0 ts) (hz : xs.length + ts.length ≤ 1000) (s : Same H0 H)
    (k : ∀ (p : Addr) (vs : List V) (H' : Hp), Same H H' → H p = none → H' p = some (.lst (xs ++ vs)) → Ats H' vs ts → g (.ref p) σ H' (u D)) : tSeq (tAsg (tOp rCat (tVar i) (L2.tLst ta)) g) u D σ H :=
  ⟨_, hi, new_list h (by omega) s fun p vs H' s' hn hp hv => ⟨a, p, xs, vs, rfl, rfl, s' _ _ ha, hp, Nat.le_of_lt (small1000 (by rw [hv.length]; exact hz)), fun q hq =>
    k q vs _ (s'.trans (Same.new hq)) (s'.free hq) upd_same (hv.same (Same.new hq))⟩⟩
theorem gT_short {a b c : List (Int × Int)} (h : c.length ≤ 1000) : Short (gT a b c) := by
  show (c.map pairT).length ≤ 1000
  rw [List.length_map]
  exact h
section
variable {P : Program} {w : World} {K : PySem.W.Frag} {mg : Str → Option Value} {base : Heap}
def spLaw (K : PySem.W.Frag) : Sp := fun vs H Q _ => ∃ (a : Addr) (ns : List Int), vs = [.ref a] ∧ SqL K H a (ns.map V.int) ∧ ∀ H', Q (.bl true) H'
abbrev nLaw : List Str := ["_law_script", "_law_stream_here", "_law_problem_here", "_law_table_here", "_law_chosen_here", "_law_told", "_law_values", "_law_value", "_law_due", "_law_none", "_law_two", "_law_good", "_law_odd"]
theorem sc_law : FnScope nLaw ["_law_script"] (defScope (top 52)) := ⟨rfl, rfl, rfl, by decide +kernel, rfl, by decide +kernel, by decide +kernel⟩
/-- what the law calls -/
structure Calls (P : Program) (w : World) (K : PySem.W.Frag) (mg : Str → Option Value) (base : Heap) : Prop where
  st : Df P w K mg base 1 "_law_stream" (spStream K)
  nx : Df P w K mg base 1 "_law_next" spNext
  pr : Df P w K mg base 2 "_law_problem" spProblem
  tb : Df P w K mg base 2 "_law_table" spTable
  ch : Df P w K mg base 2 "_law_chosen" spChosen
  gf : Df P w K mg base 9 "grounds_for" spGrounds
  dr : Df P w K mg base 2 "_law_drawn" spDrawn
  tu : Df P w K mg base 2 "_law_turned" spTurned
  lg : Df P w K mg base 2 "_law_are_grounds" spLG
  eq : Df P w K mg base 1 "_law_equal" spEqual
  ac : Df P w K mg base 8 "accepts_grounds" spAre
  sp : Df P w K mg base 8 "split_of" spTold
/-- a def's promise, the function object named -/
theorem okF {fd : FuncData} {y x : Str} {st : Stmt} {N ps : List Str} {k : Nat} {sp : Sp} (F : FunD K x x (defArgs st) (defBody st) (defScope st) [] [] (He.ga K y) fd) (S : FnScope N ps (defScope st)) (len : ∀ vs H Q E, sp vs H Q E → vs.length = ps.length)
    (hbody : ∀ (f : Addr) (cdv : Value) (A : Around) (outer : List Env) (s : Shared) (H : Hp) (vs : List V) (Q : VK) (E : XK), Room k (A.deeper (envOfC x (defScope st) s.heap.objs.size f cdv)) → sp vs H Q E →
      ∃ t, PSs (cxOf CX0 P w K mg base N x (defScope st) f cdv A outer s H E).nox (defBody st) t ∧ t { nx := fun _ H' => Q .non H', rt := Q } (start N vs) H) : FnOk P w K mg base CX0 (k + 1) (He.ga K y) fd ps sp :=
  F.ok S len fun cdv A outer s H vs Q E hr h => by
    obtain ⟨t, h1, h2⟩ := hbody _ cdv A outer s H vs Q E hr h
    exact ⟨t, h1.nox, h2⟩
theorem ok_law (T : Txt w K mg) {fd : FuncData} (F : FunD K "law" "law" (defArgs (top 52)) (defBody (top 52)) (defScope (top 52)) [] [] (He.ga K "law") fd) (C : Calls P w K mg base) : FnOk P w K mg base CX0 10 (He.ga K "law") fd ["_law_script"] (spLaw K) := by
  obtain ⟨DSt, DN, DPr, DTb, DCh, DGf, DDr, DTu, DLG, DE, DAc, DSp⟩ := C
  refine okF F sc_law (fun vs H Q E h => ?_) (fun f cdv A outer s H vs Q E hr h => ?_)
  · obtain ⟨a, ns, rfl, _⟩ := h
    rfl
  · obtain ⟨a, ns, rfl, hS, k⟩ := h
    have nd := sc_law.nd
    have hr1 : Room 1 _ := hr.mono (by decide)
    have hr2 : Room 2 _ := hr.mono (by decide)
    have hr8 : Room 8 _ := hr.mono (by decide)
    refine ⟨_, pss_cons (ps_set (i := 1) nd rfl (Or.inl rfl) (pe_df DSt hr1 (pa_cons (pv 0) pa_nil)))
      (pss_cons (ps_set (i := 2) nd rfl (Or.inl rfl) (pe_df DPr hr2 (pa_cons (pv 1) (pa_cons pe_int (pa_cons pe_int (pa_cons pe_int pa_nil))))))
      (pss_cons (ps_set (i := 3) nd rfl (Or.inl rfl) (pe_df DTb hr2 (pa_cons (pv 2) pa_nil)))
      (pss_cons (ps_set (i := 4) nd rfl (Or.inl rfl) (pe_df DCh hr2 (pa_cons (pv 1) (pa_cons (pe_ix ix_tup (pv 2) pe_int (fun _ _ => rfl)) (pa_cons pe_int pa_nil)))))
      (C8.pss_cut (ps_set (i := 5) nd rfl (Or.inl rfl) (pe_df DGf hr (pa_cons (pv 2) (pa_cons (pv 4) pa_nil))))
      (pss_cons (ps_set (i := 6) nd rfl (Or.inl rfl) (pe_lst (pa_cons (pe_df DDr hr2 (pa_cons (pv 1) (pa_cons (pv 4) pa_nil))) pa_nil)))
      (C8.pss_cut (ps_if (pt_cmp (pc_notN (pv 5))) (pss_one (ps_set (i := 6) nd rfl (Or.inl rfl) (pe_op op_cat (pv 6) (pe_lst (pa_cons (pv 5) (pa_cons (pe_df DTu hr2 (pa_cons (pv 1) (pa_cons (pe_ix ix_tup (pv 2) pe_int (fun _ _ => rfl)) (pa_cons (pv 5) pa_nil)))) (pa_cons (pe_df DTu hr2 (pa_cons (pv 1) (pa_cons (pe_ix ix_tup (pv 2) pe_int (fun _ _ => rfl)) (pa_cons (pv 5) pa_nil)))) pa_nil))))))) pss_nil)
      (pss_cons (ps_expr (pe_bm PySem.F.plainAttrs_list PySem.F.slot_list_append PySem.F.type_list_append mt_append (pv 6) (pa_cons (pe_df DTu hr2 (pa_cons (pv 1) (pa_cons (pe_ix ix_tup (pv 2) pe_int (fun _ _ => rfl)) (pa_cons (pe_ix ix_list (pv 6) pe_int (fun _ _ => rfl)) pa_nil)))) pa_nil)))
      (C8.pss_cut (ps_for PassesOwn.never rfl (pi_list (pv 6)) (pg_name (i := 7) nd rfl (Or.inl rfl))
        (pss_cons (ps_set (i := 8) nd rfl (Or.inl rfl) (pe_df DLG hr2 (pa_cons (pv 3) (pa_cons (pv 4) (pa_cons (pv 7) pa_nil)))))
        (pss_cons (ps_if (pt_not (pt_val (pe_df DE hr1 (pa_cons (pe_df DAc hr8 (pa_cons (pv 2) (pa_cons (pv 4) (pa_cons (pv 7) pa_nil)))) (pa_cons (pv 8) pa_nil))))) (pss_one (ps_ret pe_bl)) pss_nil)
        (pss_one (ps_if (PW.pt (pw_and (pt_val (pv 8)) (pw_and1 (pt_cmp (pc_notN (pe_df DSp hr8 (pa_cons (pv 2) (pa_cons (pv 4) pa_nil)))))))) (pss_one (ps_ret pe_bl)) pss_nil)))))
      (pss_cons (ps_set (i := 9) nd rfl (Or.inl rfl) (pe_tup (pa_cons (pe_tup (pa_cons pe_int (pa_cons (pe_tup (pa_cons pe_str pa_nil)) (pa_cons pe_int pa_nil)))) (pa_cons (pe_tup (pa_cons pe_int (pa_cons (pe_tup (pa_cons pe_str pa_nil)) (pa_cons pe_int pa_nil)))) pa_nil))))
      (pss_cons (ps_set (i := 10) nd rfl (Or.inl rfl) (pe_tup (pa_cons (pe_ix ix_tup (pv 2) pe_int (fun _ _ => rfl)) (pa_cons (pv 9) pa_nil))))
      (pss_cons (ps_set (i := 11) nd rfl (Or.inl rfl) (pe_tup (pa_cons (pe_tup (pa_cons (pe_tup (pa_cons pe_int (pa_cons pe_int pa_nil))) pa_nil)) (pa_cons (pe_tup (pa_cons (pe_tup (pa_cons pe_int (pa_cons pe_int pa_nil))) pa_nil)) (pa_cons (pe_tup (pa_cons (pe_tup (pa_cons pe_int (pa_cons pe_int pa_nil))) pa_nil)) pa_nil)))))
      (pss_cons (ps_set (i := 12) nd rfl (Or.inl rfl) (pe_lst (pa_cons pe_non (pa_cons (pe_slice sl_tupA (pv 11) po_none (po_some pe_int)) (pa_cons (pe_callTy call_list_of rfl T.list (by decide +kernel) (pa_cons (pv 11) pa_nil)) (pa_cons (pe_tup (pa_cons (pe_ix ix_tup (pv 11) pe_int (fun _ _ => rfl)) (pa_cons (pe_ix ix_tup (pv 11) pe_int (fun _ _ => rfl)) (pa_cons (pe_lst (pa_cons (pe_tup (pa_cons pe_int (pa_cons pe_int pa_nil))) pa_nil)) pa_nil)))) (pa_cons (pe_tup (pa_cons (pe_ix ix_tup (pv 11) pe_int (fun _ _ => rfl)) (pa_cons (pe_ix ix_tup (pv 11) pe_int (fun _ _ => rfl)) (pa_cons (pe_tup (pa_cons (pe_lst (pa_cons pe_int (pa_cons pe_int pa_nil))) pa_nil)) pa_nil)))) (pa_cons (pe_tup (pa_cons (pe_ix ix_tup (pv 11) pe_int (fun _ _ => rfl)) (pa_cons (pe_tup (pa_cons (pe_tup (pa_cons pe_int (pa_cons pe_bl pa_nil))) pa_nil)) (pa_cons (pe_ix ix_tup (pv 11) pe_int (fun _ _ => rfl)) pa_nil)))) (pa_cons (pe_op op_catA (pv 11) (pe_tup (pa_cons (pe_tup pa_nil) pa_nil))) pa_nil)))))))))
      (pss_cons (ps_set (i := 12) nd rfl (Or.inl rfl) (pe_op op_cat (pv 12) (pe_lst (pa_cons (pe_tup (pa_cons (pe_tup (pa_cons (pe_tup (pa_cons pe_int (pa_cons pe_int (pa_cons pe_int pa_nil)))) pa_nil)) (pa_cons (pe_ix ix_tup (pv 11) pe_int (fun _ _ => rfl)) (pa_cons (pe_ix ix_tup (pv 11) pe_int (fun _ _ => rfl)) pa_nil)))) (pa_cons (pe_tup (pa_cons (pe_ix ix_tup (pv 11) pe_int (fun _ _ => rfl)) (pa_cons (pe_ix ix_tup (pv 11) pe_int (fun _ _ => rfl)) (pa_cons (pe_tup pa_nil) pa_nil)))) (pa_cons (pe_tup (pa_cons (pe_tup (pa_cons (pe_tup (pa_cons pe_int (pa_cons pe_str pa_nil))) pa_nil)) (pa_cons (pe_ix ix_tup (pv 11) pe_int (fun _ _ => rfl)) (pa_cons (pe_ix ix_tup (pv 11) pe_int (fun _ _ => rfl)) pa_nil)))) (pa_cons (pe_tup (pa_cons (pe_tup (pa_cons (pe_tup (pa_cons pe_int (pa_cons pe_int pa_nil))) pa_nil)) (pa_cons (pe_ix ix_tup (pv 11) pe_int (fun _ _ => rfl)) (pa_cons (pe_ix ix_tup (pv 11) pe_int (fun _ _ => rfl)) pa_nil)))) pa_nil)))))))
      (pss_cons (ps_if (pt_not (pt_val (pe_df DE hr1 (pa_cons (pe_df DAc hr8 (pa_cons (pv 10) (pa_cons (pe_tup (pa_cons pe_int (pa_cons pe_int pa_nil))) (pa_cons (pe_ix ix_list (pv 12) (pe_df DN hr1 (pa_cons (pv 1) (pa_cons pe_int pa_nil))) (fun _ _ => rfl)) pa_nil)))) (pa_cons pe_bl pa_nil))))) (pss_one (ps_ret pe_bl)) pss_nil)
      (pss_one (ps_ret (pe_df DE hr1 (pa_cons (pe_df DAc hr8 (pa_cons (pv 10) (pa_cons (pe_tup (pa_cons pe_int (pa_cons pe_int pa_nil))) (pa_cons (pv 11) pa_nil)))) (pa_cons pe_bl pa_nil))))))))))))))))))), ?_⟩
    -- the stream, the problem, the table, the set
    refine ⟨_, rfl, a, ns, rfl, hS, fun q lq H1 hq hst1 s01 => ?_⟩
    refine ⟨_, rfl, q, lq, rfl, hst1, fun pp n rs H2 hP2 hk hn2 hst2 sb12 => ?_⟩
    have hn7 := hk.hi
    refine ⟨_, rfl, .ref pp, n, rs, rfl, hP2, hk, fun tt H3 s23 hT3 => ?_⟩
    have hst3 := hst2.same s23
    have hP3 := hP2.same s23
    obtain ⟨pa_, pb, pxs, epp, hpp3, _, _⟩ := hP3.prob
    obtain rfl := V.ref.inj epp
    refine ⟨_, rfl, _, rfl, pp, _, _, .int n, rfl, rfl, SqT.of hpp3, rfl, q, lq, n, rfl, hst3, hn2, hn7, fun cc cs H4 hC4 hc hc2 hst4 sb34 => ?_⟩
    have hP4 := hP3.sb sb34 hst3 hst4
    have hT4 := hT3.sb sb34 hst3
    obtain ⟨c0, h0⟩ : ∃ c0, cs[0]? = some c0 := ⟨cs[0]'(by omega), List.getElem?_eq_getElem (by omega)⟩
    have hm0 : c0 ∈ cs := List.mem_of_getElem? h0
    have hl7 := hc.len
    -- told grounds
    refine ⟨fun σ' H5 => ∃ tv : V, σ' = [some (.ref a), some (.ref q), some (.ref pp), some (.ref tt), some (.ref cc), some tv, none, none, none, none, none, none, none] ∧ Same H4 H5 ∧
      (tv = .non ∨ ∃ (tg : Addr) (r0 r1 r2 : List (Int × Int)), tv = .ref tg ∧ At H5 tv (gT r0 r1 r2) ∧ r0.length + 1 = cs.length ∧ r1.length + 1 = cs.length ∧ r2.length + 1 = cs.length), ?_, ?_⟩
    · refine ⟨_, rfl, _, rfl, .ref pp, .ref cc, n, rs, cs, c0, rfl, hP4, hk, hC4, hc, h0, hc2, fun H5 s45 => ⟨.non, rfl, s45, .inl rfl⟩, fun tg H5 r0 r1 r2 s45 ha l0 l1 l2 => ⟨.ref tg, rfl, s45, .inr ⟨tg, r0, r1, r2, rfl, ha, l0, l1, l2⟩⟩⟩
    rintro σ' H5 ⟨tv, rfl, s45, htv⟩
    have hst5 := hst4.same s45
    refine ⟨_, rfl, _, rfl, q, lq, .ref cc, n, cs, c0, rfl, hst5, hC4.same s45, hc, h0, hc2, fun gd d0 d1 d2 H6 hD6 e0 e1 e2 hst6 sb56 => ?_⟩
    refine ⟨(by show 1 ≤ sizeLine; decide), fun vl hvl => ?_⟩
    have s67 := Same.new (o := .lst [.ref gd]) hvl
    have hst7 := hst6.same s67
    have hnV := hst6.ne hvl
    have sb47 := ((Sb.of s45).trans sb56).trans (Sb.of (s := q) s67)
    -- the values so far
    refine ⟨fun σ' H8 => ∃ (vl : Addr) (gs : List G3) (xs : List V), σ' = [some (.ref a), some (.ref q), some (.ref pp), some (.ref tt), some (.ref cc), some tv, some (.ref vl), none, none, none, none, none, none] ∧ Stm H8 q lq ∧ Sb q H4 H8 ∧ q ≠ vl ∧ lq ≠ vl ∧ H8 vl = some (.lst xs) ∧ Ats H8 xs (gs.map gF) ∧
      gs[0]? = some (d0, d1, d2) ∧ gs.length ≤ 10 ∧ ∀ g ∈ gs, g.2.2.length ≤ 20, ?_, ?_⟩
    · refine ⟨_, rfl, _, rfl, ?_⟩
      have hA7 : Ats (upd H6 vl (.lst [.ref gd])) [.ref gd] ([((d0, d1, d2) : G3)].map gF) := .cons (hD6.same s67) .nil
      rcases htv with rfl | ⟨tg, r0, r1, r2, rfl, hG5, l0, l1, l2⟩
      · refine iteFof rfl ?_
        refine ⟨vl, [(d0, d1, d2)], _, rfl, hst7, sb47, hnV.1, hnV.2, upd_same, hA7, rfl, by show 1 ≤ 10; decide, fun g hg => ?_⟩
        rw [List.mem_singleton] at hg
        subst hg
        show d2.length ≤ 20
        omega
      · refine iteTof rfl ?_
        have hG7 := (hG5.sb sb56 hst5 hst6).same s67
        have hP7 := hP4.sb sb47 hst4 hst7
        obtain ⟨pa1, pb1, pxs1, epp1, hpp7, _, _⟩ := hP7.prob
        obtain rfl := V.ref.inj epp1
        have hlen : ∀ r ∈ [r0, r1, r2], 1 ≤ r.length ∧ r.length ≤ 10 := fun r hr => by
          rcases List.mem_cons.mp hr with rfl | hr
          · omega
          rcases List.mem_cons.mp hr with rfl | hr
          · omega
          rw [List.mem_singleton] at hr
          subst hr
          omega
        refine ⟨_, rfl, _, rfl, _, rfl, _, rfl, pp, _, _, .int n, rfl, rfl, SqT.of hpp7, rfl, _, rfl, q, lq, n, .ref tg, r0, r1, r2, rfl, hst7, by omega, hn7, hG7, hlen, fun u1 a0 a1 a2 H8 hU8 hl8 hst8 sb78 => ?_⟩
        have hG8 := hG7.sb sb78 hst7 hst8
        have hpp8 := (Sb.kp sb78 hst7 hst8).tup _ _ hpp7
        refine ⟨_, rfl, _, rfl, pp, _, _, .int n, rfl, rfl, SqT.of hpp8, rfl, _, rfl, q, lq, n, .ref tg, r0, r1, r2, rfl, hst8, by omega, hn7, hG8, hlen, fun u2 b0 b1 b2 H9 hV9 hl9 hst9 sb89 => ?_⟩
        refine ⟨(by show 3 ≤ sizeLine; decide), fun m hm => ?_⟩
        have s9 := Same.new (o := .lst [.ref tg, .ref u1, .ref u2]) hm
        have sb79 := sb78.trans sb89
        have hv9 := sb79 _ _ (Ne.symm hnV.1) upd_same
        refine ⟨vl, m, _, _, rfl, rfl, s9 _ _ hv9, upd_same, (by show 4 ≤ sizeLine; decide), fun z hz => ?_⟩
        have s9' := Same.new (o := .lst ([.ref gd] ++ [.ref tg, .ref u1, .ref u2])) hz
        have s99 := s9.trans s9'
        have hst10 := hst9.same s99
        have hnz := (hst9.same s9).ne hz
        refine ⟨z, [(d0, d1, d2), (r0, r1, r2), (a0, a1, a2), (b0, b1, b2)], [.ref gd] ++ [.ref tg, .ref u1, .ref u2], rfl, hst10, (sb47.trans sb79).trans (Sb.of s99), hnz.1, hnz.2, upd_same, ?_, rfl, by show 4 ≤ 10; decide, fun g hg => ?_⟩
        · have hA10 := (hA7.sb sb79 hst7 hst9).same s99
          cases hA10 with
          | cons hd10 _ => exact .cons hd10 (.cons ((hG8.sb sb89 hst8 hst9).same s99) (.cons ((hU8.sb sb89 hst8 hst9).same s99) (.cons (hV9.same s99) .nil)))
        · rcases List.mem_cons.mp hg with rfl | hg
          · show d2.length ≤ 20
            omega
          rcases List.mem_cons.mp hg with rfl | hg
          · show r2.length ≤ 20
            omega
          rcases List.mem_cons.mp hg with rfl | hg
          · exact hl8 _ (by simp)
          rw [List.mem_singleton] at hg
          subst hg
          exact hl9 _ (by simp)
    clear hvl s67 hst7 hnV sb47
    rintro σ' H8 ⟨vl, gs, xs, rfl, hst8, sb48, hqv, hlv, hv8, hxs, hg0, hgl, hgs⟩
    have hP8 := hP4.sb sb48 hst4 hst8
    obtain ⟨pa1, pb1, pxs1, epp1, hpp8, _, _⟩ := hP8.prob
    obtain rfl := V.ref.inj epp1
    have hxl : xs.length = gs.length := by rw [hxs.length, List.length_map]
    obtain ⟨x0, hx0, hA0⟩ := hxs.get' (i := 0) (t := gF (d0, d1, d2)) (by rw [List.getElem?_map, hg0]; rfl)
    refine ⟨_, rfl, .inl ⟨rfl, _, SqL.of hv8⟩, _, rfl, _, rfl, pp, _, _, .int n, rfl, rfl, SqT.of hpp8, rfl, _, rfl, vl, _, _, x0, rfl, rfl, SqL.of hv8, at_of (j := 0) rfl hx0, q, lq, n, x0, d0, d1, d2, rfl, hst8, by omega, hn7, hA0, fun r hr => ?_, fun u a0 a1 a2 H9 hU9 hl9 hst9 sb89 => ?_⟩
    · rcases List.mem_cons.mp hr with rfl | hr
      · omega
      rcases List.mem_cons.mp hr with rfl | hr
      · omega
      rw [List.mem_singleton] at hr
      subst hr
      omega
    have hv9 := sb89 _ _ (Ne.symm hqv) hv8
    refine ⟨vl, xs, .ref u, rfl, rfl, hv9, small1000 (by omega), ?_⟩
    have k9 := (Kp.refl H9).putL (ys := xs ++ [.ref u]) hv9
    have hx10 : Ats (upd H9 vl (.lst (xs ++ [.ref u]))) (xs ++ [.ref u]) ((gs ++ [((a0, a1, a2) : G3)]).map gF) := by
      rw [List.map_append]
      exact (((hxs.sb sb89 hst8 hst9).snoc hU9).keep k9)
    have hgs' : ∀ g ∈ gs ++ [((a0, a1, a2) : G3)], g.2.2.length ≤ 20 := fun g hg => by
      rcases List.mem_append.mp hg with hg | hg
      · exact hgs g hg
      · rw [List.mem_singleton] at hg
        subst hg
        exact hl9 _ (by simp)
    have hst10 := hst9.put (o := .lst (xs ++ [.ref u])) ⟨hqv, hlv⟩
    have hP10 := (hP8.sb sb89 hst8 hst9).keep k9
    have hC10 := ((hC4.sb sb48 hst4 hst8).sb sb89 hst8 hst9).keep k9
    have hT10 : TabAt (upd H9 vl (.lst (xs ++ [.ref u]))) tt n rs := by
      obtain ⟨kvs, t1, t2⟩ := (hT4.sb sb48 hst4).sb sb89 hst8
      refine ⟨kvs, by rw [upd_ne (ne_of t1 hv9 (by intro z; cases z))]; exact t1, fun x y c => ?_⟩
      obtain ⟨p, t3, t4⟩ := t2 x y c
      refine ⟨p, t3, ?_⟩
      by_cases e : p = vl
      · exfalso
        subst e
        rw [hv9] at t4
        have t4 := HO.lst.inj (Option.some.inj t4)
        rw [t4] at hx0
        have hA0' := hA0
        obtain ⟨ga, gxs, eg, _, _⟩ := hA0'.tup_ref
        rw [eg] at hx0
        obtain ⟨qq, _, e2⟩ := get_map hx0
        cases e2
      · rw [upd_ne e]
        exact t4
    generalize hH10 : upd H9 vl (.lst (xs ++ [.ref u])) = H10 at hx10 hst10 hP10 hC10 hT10
    have hv10 : H10 vl = some (.lst (xs ++ [.ref u])) := by rw [← hH10]; exact upd_same
    clear hH10 k9 hv9
    -- each value
    refine ⟨fun σ H11 => ∃ o7 o8 : Option V, σ = [some (.ref a), some (.ref q), some (.ref pp), some (.ref tt), some (.ref cc), some tv, some (.ref vl), o7, o8, none, none, none, none] ∧ Same H10 H11, ⟨_, rfl, vl, rfl, ⟨_, SqL.of hv10⟩, for_list (K := K) (a := vl) (xs := xs ++ [.ref u])
      (fun i σ H11 => ∃ o7 o8 : Option V, σ = [some (.ref a), some (.ref q), some (.ref pp), some (.ref tt), some (.ref cc), some tv, some (.ref vl), o7, o8, none, none, none, none] ∧ Same H10 H11) ⟨none, none, rfl, Same.refl H10⟩ (fun i σ H11 _ ⟨_, _, _, s⟩ => SqL.of (s _ _ hv10)) ?_ (fun σ H11 z => z)⟩, ?_⟩
    · rintro i x σ H11 hi ⟨o7, o8, rfl, s11⟩
      obtain ⟨tx, htx, hxA⟩ := hx10.get hi
      obtain ⟨⟨r0, r1, r2⟩, hgi, rfl⟩ := get_map htx
      have hr2 : r2.length ≤ 20 := hgs' _ (List.mem_of_getElem? hgi)
      have hxA : At H10 x (gT r0 r1 r2) := hxA
      refine ⟨_, rfl, _, rfl, _, rfl, tt, .ref cc, x, n, rs, cs, c0, r0, r1, r2, rfl, hT10.same s11, hC10.same s11, hc, h0, hc2, hxA.same s11, fun H12 s12 => ?_⟩
      have s1012 := s11.trans s12
      refine ⟨_, rfl, _, rfl, _, rfl, .ref pp, .ref cc, x, n, rs, cs, c0, gT r0 r1 r2, rfl, hP10.same s1012, hk, hC10.same s1012, hc, h0, hc2, hxA.same s1012, gT_short (by omega), fun H13 s13 => ?_⟩
      refine ⟨_, rfl, _, _, rfl, _, rfl, ?_⟩
      rw [areG_law hc hm0]
      refine iteFof (by simp) ?_
      have s1013 := s1012.trans s13
      refine ⟨_, rfl, _, rfl, ?_⟩
      cases hG : lawG rs cs c0 r0 r1 r2 with
      | false =>
        refine iteF ?_
        refine iteF ?_
        exact ⟨_, _, rfl, s1013⟩
      | true =>
        refine iteT ?_
        refine ⟨_, rfl, _, rfl, .ref pp, .ref cc, n, rs, cs, c0, rfl, hP10.same s1013, hk, hC10.same s1013, hc, h0, fun _ H14 s14 => ?_, fun z => absurd (law_stuck hc hm0 hG) z⟩
        refine ⟨_, rfl, ?_⟩
        refine iteFof rfl ?_
        exact ⟨_, _, rfl, s1013.trans s14⟩
    rintro σ H11 ⟨o7, o8, rfl, s11⟩
    have hP11 := hP10.same s11
    obtain ⟨pa2, pb2, pxs2, epp2, hpp11, _, _⟩ := hP11.prob
    obtain rfl := V.ref.inj epp2
    have hst11 := hst10.same s11
    -- the two rules, the good grounds
    refine seq_tup (H0 := H11) (ts := noneT) (ev_cons (ev_tup (ev_cons (ev_int 0) (ev_cons (ev_tup (ev_cons (ev_str _) ev_nil) (by decide)) (ev_cons (ev_int 1) ev_nil))) (by decide)) (ev_cons (ev_tup (ev_cons (ev_int 0) (ev_cons (ev_tup (ev_cons (ev_str _) ev_nil) (by decide)) (ev_cons (ev_int 1) ev_nil))) (by decide)) ev_nil)) (by decide) (Same.refl _) fun nv H12 s12 hN12 => ?_
    rw [noneT_eq] at hN12
    refine ⟨_, rfl, pp, _, _, .int n, rfl, rfl, SqT.of (s12 _ _ hpp11), rfl, _, rfl, (by show 2 ≤ sizeLine; decide), fun tw htw => ?_⟩
    have stw := Same.new (o := .tup [.int n, nv]) htw
    have hTW : At (upd H12 tw (.tup [.int n, nv])) (.ref tw) (probT n rs2) := .tup upd_same (.cons (.int n) (.cons (hN12.same stw) .nil))
    dsimp only [gName]
    generalize upd H12 tw (.tup [.int n, nv]) = H13 at stw hTW ⊢
    refine seq_tup (H0 := H13) (ts := [g0T, g0T, g2T]) (ev_cons (ev_tup (ev_cons (ev_tup (ev_cons (ev_int 0) (ev_cons (ev_int 1) ev_nil)) (by decide)) ev_nil) (by decide)) (ev_cons (ev_tup (ev_cons (ev_tup (ev_cons (ev_int 0) (ev_cons (ev_int 1) ev_nil)) (by decide)) ev_nil) (by decide)) (ev_cons (ev_tup (ev_cons (ev_tup (ev_cons (ev_int 1) (ev_cons (ev_int 0) ev_nil)) (by decide)) ev_nil) (by decide)) ev_nil))) (by decide) (Same.refl _) fun gv H14 s14 hG14 => ?_
    obtain ⟨ga, gxs, rfl, hg11, hgx⟩ := hG14.tup_ref
    have hgl : gxs.length = 3 := hgx.length
    have s1114 := (s12.trans stw).trans s14
    have hst14 := hst11.same s1114
    -- the odd ones
    refine seq_lst (H0 := H14) (ts := oddA) (ev_cons ev_non (ev_cons (ev_to (j := 2) rfl hg11 hgx (by rw [hgl]; decide)) (ev_cons (ev_list rfl hg11) (ev_cons (ev_tup (ev_cons (ev_item (j := 0) rfl hg11 hgx rfl) (ev_cons (ev_item (j := 1) rfl hg11 hgx rfl) (ev_cons (ev_lst (ev_cons (ev_tup (ev_cons (ev_int 1) (ev_cons (ev_int 0) ev_nil)) (by decide)) ev_nil) (by decide)) ev_nil))) (by decide)) (ev_cons (ev_tup (ev_cons (ev_item (j := 0) rfl hg11 hgx rfl) (ev_cons (ev_item (j := 1) rfl hg11 hgx rfl) (ev_cons (ev_tup (ev_cons (ev_lst (ev_cons (ev_int 1) (ev_cons (ev_int 0) ev_nil)) (by decide)) ev_nil) (by decide)) ev_nil))) (by decide)) (ev_cons (ev_tup (ev_cons (ev_item (j := 0) rfl hg11 hgx rfl) (ev_cons (ev_tup (ev_cons (ev_tup (ev_cons (ev_int 0) (ev_cons (ev_bl true) ev_nil)) (by decide)) ev_nil) (by decide)) (ev_cons (ev_item (j := 2) rfl hg11 hgx rfl) ev_nil))) (by decide)) (ev_cons (ev_cat rfl hg11 hgx (by rw [hgl]; decide) (ev_cons (ev_tup ev_nil (by decide)) ev_nil) (by decide)) ev_nil))))))) (by decide) (Same.refl _) fun oa oxs H15 s15 hoa0 hoa hoxs => ?_
    have hl1 : oxs.length = 7 := hoxs.length
    refine seq_cat (H0 := H14) (ts := oddB) rfl hoa (ev_cons (ev_tup (ev_cons (ev_tup (ev_cons (ev_tup (ev_cons (ev_int 0) (ev_cons (ev_int 1) (ev_cons (ev_int 1) ev_nil))) (by decide)) ev_nil) (by decide)) (ev_cons (ev_item (j := 1) rfl hg11 hgx rfl) (ev_cons (ev_item (j := 2) rfl hg11 hgx rfl) ev_nil))) (by decide)) (ev_cons (ev_tup (ev_cons (ev_item (j := 0) rfl hg11 hgx rfl) (ev_cons (ev_item (j := 1) rfl hg11 hgx rfl) (ev_cons (ev_tup ev_nil (by decide)) ev_nil))) (by decide)) (ev_cons (ev_tup (ev_cons (ev_tup (ev_cons (ev_tup (ev_cons (ev_int 0) (ev_cons (ev_str _) ev_nil)) (by decide)) ev_nil) (by decide)) (ev_cons (ev_item (j := 1) rfl hg11 hgx rfl) (ev_cons (ev_item (j := 2) rfl hg11 hgx rfl) ev_nil))) (by decide)) (ev_cons (ev_tup (ev_cons (ev_tup (ev_cons (ev_tup (ev_cons (ev_int 0) (ev_cons (ev_int 7) ev_nil)) (by decide)) ev_nil) (by decide)) (ev_cons (ev_item (j := 1) rfl hg11 hgx rfl) (ev_cons (ev_item (j := 2) rfl hg11 hgx rfl) ev_nil))) (by decide)) ev_nil)))) (by rw [hl1]; decide) s15 fun od oys H17 s17 hod0 hod17 hoys => ?_
    have hl2 : oys.length = 4 := hoys.length
    have s1417 := s15.trans s17
    have hst17 := hst14.same s1417
    have hnO := (hst14.same s15).ne hod0
    have hO17 : Ats H17 (oxs ++ oys) (oddA ++ oddB) := (hoxs.same s17).append hoys
    have hTW17 := (hTW.same s14).same s1417
    have hG17 := hG14.same s1417
    clear s1417 s17
    refine ⟨_, rfl, (by show 2 ≤ sizeLine; decide), fun z1 hz1 => ?_⟩
    have sz := Same.new (o := .tup [.int 0, .int 1]) hz1
    have hZ18 : At (upd H17 z1 (.tup [.int 0, .int 1])) (.ref z1) (setT [0, 1]) := At.of_set (cs := [0, 1]) upd_same
    have hst18 := hst17.same sz
    refine ⟨_, rfl, _, rfl, q, lq, 11, rfl, hst18, by decide, by decide, fun d H19 hd0 hd11 hst19 sb19 => ?_⟩
    obtain ⟨dj, rfl⟩ : ∃ dj : Nat, d = (dj : Int) := ⟨d.toNat, by omega⟩
    have hdj : dj < 11 := by omega
    obtain ⟨ov, hov⟩ : ∃ ov, (oxs ++ oys)[dj]? = some ov := ⟨(oxs ++ oys)[dj]'(by rw [List.length_append]; omega), List.getElem?_eq_getElem (by rw [List.length_append]; omega)⟩
    have hO19 := (hO17.same sz).sb sb19 hst18 hst19
    obtain ⟨ot, hot, hoA⟩ := hO19.get hov
    have hom := List.mem_of_getElem? hot
    have hod19 := sb19 _ _ (Ne.symm hnO.1) (sz _ _ hod17)
    have hTW19 := (hTW17.same sz).sb sb19 hst18 hst19
    have hZ19 := hZ18.sb sb19 hst18 hst19
    have hG19 := (hG17.same sz).sb sb19 hst18 hst19
    refine ⟨od, _, _, ov, rfl, rfl, SqL.of hod19, at_of (j := dj) rfl hov, .ref tw, .ref z1, ov, n, rs2, [0, 1], 0, ot, rfl, hTW19, two_prob hn2 hn7, hZ19, two_set hn2 hn7, rfl, by decide, hoA, odd_short ot hom, fun H20 s20 => ?_⟩
    rw [odd_no hn2 hn7 ot hom]
    refine ⟨_, _, rfl, _, rfl, ?_⟩
    refine iteFof rfl ?_
    refine ⟨_, rfl, (by show 2 ≤ sizeLine; decide), fun z2 hz2 => ?_⟩
    have sz2 := Same.new (o := .tup [.int 0, .int 1]) hz2
    refine ⟨_, rfl, .ref tw, .ref z2, .ref ga, n, rs2, [0, 1], 0, goodT, rfl, (hTW19.same s20).same sz2, two_prob hn2 hn7, At.of_set (cs := [0, 1]) upd_same, two_set hn2 hn7, rfl, by decide, (hG19.same s20).same sz2, short_of (by decide +kernel), fun H21 s21 => ?_⟩
    rw [good_yes hn2 hn7]
    exact ⟨true, true, rfl, k H21⟩
end
end Tb
/-! The head's facts joined with the walk. -/
namespace Tb
open PySem PySem.Spec PyProof.Rows L2 Mt
section
variable {w : World} {K : PySem.W.Frag} {h : Heap} {mg : Str → Option Value}
theorem mkD (X : K.In h) (G : h.Ns mainGlobals mg) (c : He.SaysD fa fn K) (i : Nat) {y x : Str} {j : Nat} (hf : fn[i]? = some (dd y x j) := by rfl) (hg : fa[i]? = some (.glo y) := by rfl) : DefAt K mg y x (top j) :=
  ⟨c.def_ i (d := dd y x j) hf, He.glo_ok X G (c.fact i (f := .glo y) hg)⟩
theorem ex_rel (e : ex K = true) (H : Hp) : SqT K H (He.ga K "RELATIONS") (all3.map fun q => V.str (sOf q)) := He.tupB_ok (He.ba e).1 H
theorem ex_opp (e : ex K = true) (t : He.SaysT fa fn ts w K) (q : R3) : KDct K w (He.ga K "OPPOSITES") (sOf q) (.str (sOf q.opp)) := by
  obtain ⟨es, n, D⟩ := t.tab 0 (t := (fun K => He.ga K "OPPOSITES", ["before", "beside", "after", "same"])) rfl
  have hq : ∃ u, PySem.W.nsIn K (He.ga K "OPPOSITES") (sOf q) = some (some u) ∧ RelV (.str (sOf q.opp)) u := by
    cases q with
    | bef => exact He.valsB_ok (He.ba e).2 (q := ("before", .str "after")) (by simp)
    | bes => exact He.valsB_ok (He.ba e).2 (q := ("beside", .str "beside")) (by simp)
    | aft => exact He.valsB_ok (He.ba e).2 (q := ("after", .str "before")) (by simp)
  obtain ⟨u, h1, h2⟩ := hq
  exact ⟨es, n, u, D.at_, D.lit, h1, h2⟩
theorem mkT (X : K.In h) (G : h.Ns mainGlobals mg) (c : He.SaysX fa fn ts [] ex w h K) : Txt w K mg where
  isi := He.free_ok X G (c.t.d.fact 39 (f := .free "isinstance") rfl)
  int := He.free_ok X G (c.t.d.fact 40 (f := .free "int") rfl)
  bool := He.free_ok X G (c.t.d.fact 41 (f := .free "bool") rfl)
  str := He.free_ok X G (c.t.d.fact 42 (f := .free "str") rfl)
  tuple := He.free_ok X G (c.t.d.fact 43 (f := .free "tuple") rfl)
  list := He.free_ok X G (c.t.d.fact 44 (f := .free "list") rfl)
  len := He.free_ok X G (c.t.d.fact 45 (f := .free "len") rfl)
  all := He.free_ok X G (c.t.d.fact 46 (f := .free "all") rfl)
  zip := He.free_ok X G (c.t.d.fact 47 (f := .free "zip") rfl)
  range := He.free_ok X G (c.t.d.fact 48 (f := .free "range") rfl)
  sorted := He.free_ok X G (c.t.d.fact 49 (f := .free "sorted") rfl)
  abs := He.free_ok X G (c.t.d.fact 50 (f := .free "abs") rfl)
  mt := He.int_ok X G (c.t.d.fact 51 (f := .int "MOST_TASKS" 7) rfl)
  mr := He.int_ok X G (c.t.d.fact 52 (f := .int "MOST_RULES" 20) rfl)
  rel := He.glo_ok X G (c.t.d.fact 53 (f := .glo "RELATIONS") rfl)
  relT := ex_rel c.more
  opp := He.glo_ok X G (c.t.d.fact 54 (f := .glo "OPPOSITES") rfl)
  oppD := ex_opp c.more c.t
end
section
variable {P : Program} {w : World} {K : PySem.W.Frag} {mg : Str → Option Value} {base h : Heap}
theorem mkC (X : K.In h) (G : h.Ns mainGlobals mg) (T : Txt w K mg) (c : He.SaysD fa fn K) : Calls P w K mg base := by
  have dInt : Df P w K mg base 1 "is_integer" spInt := ok_int T (mkD X G c 1)
  have dLint : Df P w K mg base 1 "_law_is_integer" spInt := ok_lint T (mkD X G c 28)
  have dTask1 : Df P w K mg base 2 "is_task_rules" spTask := ok_task1 (mkD X G c 2) dInt
  have dTask2 : Df P w K mg base 1 "is_task_sticking" spTask := ok_task2 T (mkD X G c 9)
  have dSize : Df P w K mg base 2 "is_size" spSize := ok_size T (mkD X G c 5) dInt
  have dOpp : Df P w K mg base 1 "opposite" spOpp := ok_opp T (mkD X G c 0)
  have dOpps : Df P w K mg base 2 "opposites" (spOpps K) := ok_opps T (mkD X G c 7) dOpp
  have dAllowed : Df P w K mg base 1 "is_allowed" spAllowed := ok_allowed T (mkD X G c 3)
  have dRule : Df P w K mg base 3 "is_rule" spRule := ok_rule T (mkD X G c 4) dTask1 dAllowed
  have dProb : Df P w K mg base 4 "is_problem" spProb := ok_prob T (mkD X G c 6) dSize dRule
  have dAof : Df P w K mg base 3 "allowed_of" (spAllowedOf K) := ok_aof T (mkD X G c 8) dOpps
  have dTies : Df P w K mg base 4 "ties" (spLead ties) := ok_ties (mkD X G c 13) dAof
  have dBars : Df P w K mg base 4 "bars" (spLead bars) := ok_bars (mkD X G c 14) dAof
  have dBarred : Df P w K mg base 5 "is_barred" (spLead barred) := ok_barred (mkD X G c 19) dBars
  have dSet : Df P w K mg base 2 "is_set" spSet := ok_set T (mkD X G c 10) dTask2
  have dChkP : Df P w K mg base 5 "check_problem" spChkP := ok_chkP (mkD X G c 11) dProb
  have dChkC : Df P w K mg base 6 "check_chosen" spChkC := ok_chkC T (mkD X G c 12) dChkP dSet
  have dReach : Df P w K mg base 6 "reach" (spReach P w K mg base) := ok_reach T (mkD X G c 15)
  have dTold : Df P w K mg base 7 "told_split" spTold := ok_told T (mkD X G c 16) dReach dTies dBars
  have dStuck : Df P w K mg base 8 "stuck" spStuck := ok_stuck T (mkD X G c 17) dTold
  have dSplit : Df P w K mg base 8 "split_of" spTold := ok_split (mkD X G c 18) dChkC dTold
  have dWalked : Df P w K mg base 6 "walked" (spWalked P w K mg base) := ok_walked T (mkD X G c 20)
  have dGf : Df P w K mg base 9 "grounds_for" spGrounds := ok_gf T (mkD X G c 21) dChkC dStuck dWalked dTies dBars dBarred
  have dPairs : Df P w K mg base 2 "are_pairs" spPairs := ok_pairs T (mkD X G c 22) dTask2
  have dMeetsT : Df P w K mg base 6 "meets_all" (spMeetsT P w K mg base) := ok_meetsT T (mkD X G c 23)
  have dMeetsL : Df P w K mg base 6 "meets_all" (spMeetsL P w K mg base) := ok_meetsL T (mkD X G c 23)
  have dAre : Df P w K mg base 7 "are_grounds" spAre := ok_are T (mkD X G c 24) dPairs dMeetsT dMeetsL dTies dBars dBarred
  have dAcc : Df P w K mg base 8 "accepts_grounds" spAre := ok_acc (mkD X G c 25) dChkC dAre
  have dStream : Df P w K mg base 1 "_law_stream" (spStream K) := ok_stream T (mkD X G c 26)
  have dNext : Df P w K mg base 1 "_law_next" spNext := ok_next T (mkD X G c 27)
  have dEq : Df P w K mg base 1 "_law_equal" spEqual := ok_equal T (mkD X G c 29)
  have dPr : Df P w K mg base 2 "_law_problem" spProblem := ok_problem T (mkD X G c 30) dNext
  have dLa : Df P w K mg base 1 "_law_allowed" spLAllow := ok_la T (mkD X G c 31)
  have dTab : Df P w K mg base 2 "_law_table" spTable := ok_tab T (mkD X G c 32) dLa
  have dCho : Df P w K mg base 2 "_law_chosen" spChosen := ok_cho T (mkD X G c 33) dNext
  have dLm : Df P w K mg base 1 "_law_meets" spLM := ok_lm T (mkD X G c 34)
  have dLg : Df P w K mg base 2 "_law_are_grounds" spLG := ok_lg T (mkD X G c 35) dLint dLm
  have dDr : Df P w K mg base 2 "_law_drawn" spDrawn := ok_dr T (mkD X G c 36) dNext
  have dTu : Df P w K mg base 2 "_law_turned" spTurned := ok_tu T (mkD X G c 37) dNext
  exact ⟨dStream, dNext, dPr, dTab, dCho, dGf, dDr, dTu, dLg, dEq, dAcc, dSplit⟩
theorem lawFacts (X : K.In h) (G : h.Ns mainGlobals mg) {f : Addr} (hf : mg ("law" : Str) = some (.ref f)) (c : He.SaysX fa fn ts [] ex w h K) :
    ∃ fd : FuncData, (∀ (s : Shared) (v : Value), BindsTo s fd ⟨[v], []⟩ [("_law_script", v)]) ∧ ∀ base : Heap, K.In base → base.Ns mainGlobals mg → FnOk P w K mg base CX0 10 f fd ["_law_script"] (spLaw K) := by
  have d := c.t.d
  obtain ⟨fd, F⟩ := d.def_ 38 (d := dd "law" "law" 52) rfl
  have F2 : FunD K "law" "law" (defArgs (top 52)) (defBody (top 52)) (defScope (top 52)) [] [] (He.ga K "law") fd := F
  have e := hf.symm.trans (He.glo_ok X G (d.fact 38 (f := .glo "law") rfl))
  cases e
  have b := FunD.bindsA (ps := ["_law_script"]) F2 fun _ _ _ _ _ _ us hl => match us, hl with | [_], _ => rfl
  exact ⟨fd, fun s v => b s [v] rfl, fun base _ _ => ok_law (mkT X G c) F2 (mkC X G (mkT X G c) d)⟩
end
end Tb
open PySem PySem.W PySem.Calls PyProof.Rows
theorem PySem.Challenge.cw_thenbeside_k30_whole_any_grounds_holds : PySem.Challenge.rw_thenbeside_k30_whole_any_grounds.Holds := by
  w_on; o_law
  refine HandSHeadRun.head_any (r := OpenLaw.row PySem.Challenge.rw_thenbeside_k30_whole_any_grounds) (q := view (OpenLaw.row PySem.Challenge.rw_thenbeside_k30_whole_any_grounds).prog [52]) (H := Tb.hk) (ob := Tb.ob) (M := 2400) (loose := Tb.looseA ++ Tb.looseB) (d := HandSHeadRun.topDef (OpenLaw.row PySem.Challenge.rw_thenbeside_k30_whole_any_grounds).prog 52) (kwd := []) Tb.ob_eq
    (by kernel_rfl) (fun s => by kernel_rfl) Tb.run (by kernel_rfl) (by kernel_rfl) (by kernel_rfl) (by rfl) (by first | assumption | decide +kernel) (by decide +kernel) ⟨rfl, rfl, rfl, rfl, rfl, by decide +kernel⟩ ?hw ?hc
  case hw => w_witness2
  case hc =>
    refine L2.walk_ofE (l := PySem.Challenge.rw_thenbeside_k30_whole_any_grounds) (n := 63) (k := 10) (x := "_law_script") (CX := L2.CX0) rfl (by decide) (by kernel_rfl) ⟨rfl, by decide, by decide⟩ ?F (fun _ _ _ _ z => z)
    intro w mg fa h Y G hmg0
    obtain ⟨K, KX, c⟩ := Y
    have hmg : mg ("law" : PySem.Str) = some (.ref fa) := by
      have e : (HandSHeadRun.topDef (OpenLaw.row PySem.Challenge.rw_thenbeside_k30_whole_any_grounds).prog 52).name = ("law" : PySem.Str) := by kernel_rfl
      rw [← e]
      exact hmg0
    obtain ⟨fd, hb, hF⟩ := Tb.lawFacts (P := (PySem.Challenge.rw_thenbeside_k30_whole_any_grounds).prog) (w := w) KX G hmg c
    exact ⟨K, fd, Tb.spLaw K, KX, hb, fun H a ns hl _ hS => ⟨a, ns, rfl, hS, fun _ => rfl⟩, hF⟩
