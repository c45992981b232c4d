import PyProof.Rows.All
import Wide.All
import OpenK.AllK
import Wide.FinOn
import HandS.ForMost
import HandS.Exc
import HandS.Codes
import HandS.Defaults
import HandS.MakeKwOnly
import HandS.IsInst
import HandS.Star
import HandS.Zip
import HandS.Walk
import HandS.Style
import HandS.NoneIn
import HandS.Wide
import HandS.Evl
import HandS.Lambda
import HandS.Nested
import HandS.EndTab
import HandS.HeadHook1
import HandS.HeadHook2
import HandS.HeadHook3
import HandS.HeadHook4
import HandS.HeadWalk
import HandS.TupAny
import HandS.Conv
import KE.KDictKeyed
import KE.KeyNested
import KE.SortKeyHeap
import HandS.Head0
import HandS.Head1
import HandS.Head2
import HandS.TupLen
import KE.KDictCopyH
import KE.KDictWalk
import KE.KDictPairs
import KE.KDictDisplayH
import KE.KDictList
import HandS.Deep
import KE.GoesMore
import KE.GoesEnum
import KE.KItemsList
import HandS.DictTup
import HandS.Strs
import HandS.SortKw
import HandS.TupSets
import KE.SortData
import PySem.Challenge.RW_lapnumbers_k09_whole_hangs_together
set_option Elab.async false
/-! The mirror of the program (wheels of size 4) in plain Lean, and its mathematics. -/
set_option linter.all false
namespace Lap

inductive Deed where
  | tick | write | strike | opn | close | pass
  deriving DecidableEq
def DEEDS : List Deed := [.tick, .write, .strike, .opn, .close, .pass]
inductive Wish where
  | early | ghost | gone | stands
  deriving DecidableEq
def WISHES : List Wish := [.early, .ghost, .gone, .stands]

/-- the four rules of a wheel of size 4 -/
structure Wh where
  freeze : Int
  stop : Option Int
  hold : Bool
  cut : Option Int
  deriving DecidableEq

abbrev Row := Option (Option Int × Option Int)
abbrev Rdr := Option (Int × Bool)
structure St where
  row : Row
  rd : Rdr
  tb : Int
  deriving DecidableEq
def START : St := ⟨none, none, 0⟩

def before (a p : Int) : Bool := decide (2 * ((a - p) % 4) < 4)
def sees : Row → Int → Bool
  | none, _ => false
  | some (a, b), p => (match a with | none => true | some i => before i p) && (match b with | none => true | some i => !before i p)
def isThere : Row → Bool
  | some (_, none) => true
  | _ => false
def older : Option Int → Option Int
  | none => none
  | some a => some ((a + 1) % 4)
def isStopped (w : Wh) (s : St) : Bool :=
  match w.stop with
  | none => false
  | some k => decide (k ≤ s.tb)
def cutRd (w : Wh) : Rdr → Rdr
  | none => none
  | some (a, b) => match w.cut with
    | none => some ((a + 1) % 4, b)
    | some c => if c ≤ (a + 1) % 4 then none else some ((a + 1) % 4, b)
def oldRow : Row → Row
  | none => none
  | some (a, b) => some (older a, older b)
def numbered (w : Wh) (s : St) : St := ⟨oldRow s.row, cutRd w s.rd, min (s.tb + 1) 4⟩
def isHeld (w : Wh) (s : St) : Bool := s.rd.isSome && w.hold
def isRipe (w : Wh) (s : St) : Option Int → Bool
  | none => false
  | some a => before a 0 && (match s.rd with
    | none => true
    | some (p, _) => !w.hold || before a p)
def passRow (w : Wh) (s : St) : Row :=
  match s.row with
  | none => none
  | some (a, b) => if isRipe w s b then none else
    match a with
    | none => some (none, b)
    | some i => if isRipe w s (some i) && decide (w.freeze ≤ i) then some (none, b) else some (some i, b)
def most (w : Wh) (s : St) : Int :=
  match s.rd with
  | none => w.freeze
  | some (p, _) => if w.hold then max w.freeze p else w.freeze
def passed (w : Wh) (s : St) : St := ⟨passRow w s, s.rd, min s.tb (most w s)⟩
def can (w : Wh) (s : St) : Deed → Bool
  | .tick => !isStopped w s
  | .write => !isStopped w s && s.row.isNone
  | .strike => !isStopped w s && isThere s.row
  | .opn => s.rd.isNone
  | .close => s.rd.isSome
  | .pass => true
def deedsIn (w : Wh) (s : St) : List Deed := DEEDS.filter (can w s)
def struckRow : Row → Row
  | none => none
  | some (a, _) => some (a, some 0)
def done (w : Wh) (s : St) : Deed → St
  | .pass => passed w s
  | .opn => ⟨s.row, some (0, isThere s.row), s.tb⟩
  | .close => ⟨s.row, none, s.tb⟩
  | .tick => numbered w s
  | .write => ⟨some (some 0, none), cutRd w s.rd, min (s.tb + 1) 4⟩
  | .strike => ⟨struckRow (oldRow s.row), cutRd w s.rd, min (s.tb + 1) 4⟩
def somebody (s : St) : List (Bool × Int) :=
  (isThere s.row, 0) :: (match s.rd with | none => [] | some (p, b) => [(b, p)])
def standsBroken (w : Wh) (s : St) : Wish → Bool
  | .stands => isStopped w s && isStopped w (passed w s)
  | .ghost => ((somebody s).map fun q => (q.1, sees s.row q.2)).contains (false, true)
  | .gone => ((somebody s).map fun q => (q.1, sees s.row q.2)).contains (true, false)
  | .early => false
def views (r : Row) (s : St) : List Bool := (somebody s).map fun q => sees r q.2
def goesWrong (w : Wh) (s : St) (d : Deed) (k : Wish) : Bool :=
  decide (k = .early) && decide (d = .pass) && !decide (views s.row s = views (passed w s).row s)
def isBad (w : Wh) (k : Wish) (s : St) : Bool := standsBroken w s k || goesWrong w s .pass k

/-! ### valid states -/
def AgeOk (a : Int) : Prop := 0 ≤ a ∧ a ≤ 3
def OptOk : Option Int → Prop
  | none => True
  | some a => AgeOk a
def RowOk : Row → Prop
  | none => True
  | some (a, b) => OptOk a ∧ OptOk b
def RdOk : Rdr → Prop
  | none => True
  | some (a, _) => AgeOk a
structure SOk (s : St) : Prop where
  row : RowOk s.row
  rd : RdOk s.rd
  tb : 0 ≤ s.tb ∧ s.tb ≤ 4
def LimOk : Option Int → Prop
  | none => True
  | some a => 1 ≤ a ∧ a ≤ 4
structure WOk (w : Wh) : Prop where
  fr : 0 ≤ w.freeze ∧ w.freeze ≤ 2
  st : LimOk w.stop
  ct : LimOk w.cut

theorem ageOk_mod (a : Int) : AgeOk (a % 4) := by unfold AgeOk; omega
theorem optOk_older (a : Option Int) : OptOk (older a) := by
  cases a with
  | none => trivial
  | some a => exact ageOk_mod _
theorem rowOk_old (r : Row) : RowOk (oldRow r) := by
  cases r with
  | none => trivial
  | some p => exact ⟨optOk_older _, optOk_older _⟩
theorem rdOk_cut (w : Wh) (r : Rdr) : RdOk (cutRd w r) := by
  cases r with
  | none => trivial
  | some p =>
    obtain ⟨a, b⟩ := p
    unfold cutRd
    cases w.cut with
    | none => exact ageOk_mod _
    | some c =>
      dsimp only
      split
      · trivial
      · exact ageOk_mod _
theorem tbOk_next {t : Int} (h : 0 ≤ t ∧ t ≤ 4) : 0 ≤ min (t + 1) 4 ∧ min (t + 1) 4 ≤ 4 := by omega
theorem rowOk_pass (w : Wh) (s : St) (h : RowOk s.row) : RowOk (passRow w s) := by
  unfold passRow
  cases hr : s.row with
  | none => trivial
  | some p =>
    obtain ⟨a, b⟩ := p
    rw [hr] at h
    dsimp only
    split
    · trivial
    · cases a with
      | none => exact ⟨trivial, h.2⟩
      | some i =>
        dsimp only
        split
        · exact ⟨trivial, h.2⟩
        · exact h
theorem sok_done {w : Wh} {s : St} (hw : WOk w) (h : SOk s) (d : Deed) : SOk (done w s d) := by
  cases d with
  | pass =>
    refine ⟨rowOk_pass w s h.row, h.rd, ?_⟩
    show 0 ≤ min s.tb (most w s) ∧ min s.tb (most w s) ≤ 4
    have h1 := h.tb
    have h2 := hw.fr
    have h3 := h.rd
    unfold most
    cases hr : s.rd with
    | none => dsimp only; omega
    | some p =>
      obtain ⟨p, b⟩ := p
      rw [hr] at h3
      have h3 : 0 ≤ p ∧ p ≤ 3 := h3
      dsimp only
      split <;> omega
  | opn => exact ⟨h.row, ⟨by decide, by decide⟩, h.tb⟩
  | close => exact ⟨h.row, trivial, h.tb⟩
  | tick => exact ⟨rowOk_old _, rdOk_cut _ _, tbOk_next h.tb⟩
  | write => exact ⟨⟨⟨by decide, by decide⟩, trivial⟩, rdOk_cut _ _, tbOk_next h.tb⟩
  | strike =>
    refine ⟨?_, rdOk_cut _ _, tbOk_next h.tb⟩
    show RowOk (struckRow (oldRow s.row))
    cases hr : s.row with
    | none => trivial
    | some p => exact ⟨optOk_older _, by decide, by decide⟩
theorem sok_start : SOk START := ⟨trivial, trivial, by decide, by decide⟩

/-! ### the search -/
structure En where
  st : St
  par : Option (St × Deed)
  path : List Deed
  deriving DecidableEq
abbrev Ways := List En
def e0 : En := ⟨START, none, []⟩
def has (ws : Ways) (s : St) : Bool := ws.any fun e => decide (e.st = s)
def stepD (w : Wh) (e : En) (acc : Ways × Ways) (d : Deed) : Ways × Ways :=
  if has acc.1 (done w e.st d) then acc
  else (acc.1 ++ [⟨done w e.st d, some (e.st, d), e.path ++ [d]⟩], acc.2 ++ [⟨done w e.st d, some (e.st, d), e.path ++ [d]⟩])
def stepS (w : Wh) (acc : Ways × Ways) (e : En) : Ways × Ways := (deedsIn w e.st).foldl (stepD w e) acc
def level (w : Wh) (ws wt : Ways) : Ways × Ways := wt.foldl (stepS w) (ws, [])
def bfs (w : Wh) : Nat → Ways → Ways → Ways
  | 0, ws, _ => ws
  | n + 1, ws, wt => if wt = [] then ws else bfs w n (level w ws wt).1 (level w ws wt).2
def fuel : Nat := 1171
def ways (w : Wh) : Ways := bfs w fuel [e0] [e0]

theorem has_iff {ws : Ways} {s : St} : has ws s = true ↔ ∃ e ∈ ws, e.st = s := by
  unfold has
  simp [List.any_eq_true]
theorem has_mono {ws more : Ways} {s : St} (h : has ws s = true) : has (ws ++ more) s = true := by
  obtain ⟨e, he, h⟩ := has_iff.mp h
  exact has_iff.mpr ⟨e, List.mem_append_left _ he, h⟩

/-! ### how many states -/
def optCode : Option Int → Nat
  | none => 0
  | some a => a.toNat + 1
def code (s : St) : Nat :=
  (match s.row with | none => 0 | some (a, b) => optCode a * 5 + optCode b + 1) * 45 + (match s.rd with | none => 0 | some (a, b) => a.toNat * 2 + b.toNat + 1) * 5 + s.tb.toNat
theorem optCode_lt {a : Option Int} (h : OptOk a) : optCode a < 5 := by
  cases a with
  | none => decide
  | some a => have h : 0 ≤ a ∧ a ≤ 3 := h; show a.toNat + 1 < 5; omega
theorem optCode_inj {a b : Option Int} (ha : OptOk a) (hb : OptOk b) (e : optCode a = optCode b) : a = b := by
  cases a with
  | none => cases b with
    | none => rfl
    | some b => exact absurd e (by show ¬ 0 = b.toNat + 1; omega)
  | some a =>
    have ha : 0 ≤ a ∧ a ≤ 3 := ha
    cases b with
    | none => exact absurd e (by show ¬ a.toNat + 1 = 0; omega)
    | some b =>
      have hb : 0 ≤ b ∧ b ≤ 3 := hb
      have e : a.toNat + 1 = b.toNat + 1 := e
      rw [show a = b by omega]
def rowCode : Row → Nat
  | none => 0
  | some (a, b) => optCode a * 5 + optCode b + 1
def rdCode : Rdr → Nat
  | none => 0
  | some (a, b) => a.toNat * 2 + b.toNat + 1
theorem code_eq (s : St) : code s = rowCode s.row * 45 + rdCode s.rd * 5 + s.tb.toNat := by
  obtain ⟨r, d, t⟩ := s
  cases r <;> cases d <;> rfl
theorem rowCode_lt {r : Row} (h : RowOk r) : rowCode r < 26 := by
  cases r with
  | none => decide
  | some p =>
    obtain ⟨a, b⟩ := p
    have h1 := optCode_lt h.1
    have h2 := optCode_lt h.2
    show optCode a * 5 + optCode b + 1 < 26
    omega
theorem rdCode_lt {r : Rdr} (h : RdOk r) : rdCode r < 9 := by
  cases r with
  | none => decide
  | some p =>
    obtain ⟨a, b⟩ := p
    have h : 0 ≤ a ∧ a ≤ 3 := h
    have hb : b.toNat ≤ 1 := by cases b <;> decide
    show a.toNat * 2 + b.toNat + 1 < 9
    omega
theorem rowCode_inj {r q : Row} (hr : RowOk r) (hq : RowOk q) (e : rowCode r = rowCode q) : r = q := by
  cases r with
  | none => cases q with
    | none => rfl
    | some p => exact absurd e (by show ¬ 0 = optCode p.1 * 5 + optCode p.2 + 1; omega)
  | some p =>
    obtain ⟨a, b⟩ := p
    cases q with
    | none => exact absurd e (by show ¬ optCode a * 5 + optCode b + 1 = 0; omega)
    | some q =>
      obtain ⟨c, d⟩ := q
      have e : optCode a * 5 + optCode b + 1 = optCode c * 5 + optCode d + 1 := e
      have h1 := optCode_lt hr.2
      have h2 := optCode_lt hq.2
      rw [optCode_inj hr.1 hq.1 (by omega), optCode_inj hr.2 hq.2 (by omega)]
theorem rdCode_inj {r q : Rdr} (hr : RdOk r) (hq : RdOk q) (e : rdCode r = rdCode q) : r = q := by
  cases r with
  | none => cases q with
    | none => rfl
    | some p => exact absurd e (by show ¬ 0 = p.1.toNat * 2 + p.2.toNat + 1; omega)
  | some p =>
    obtain ⟨a, b⟩ := p
    cases q with
    | none => exact absurd e (by show ¬ a.toNat * 2 + b.toNat + 1 = 0; omega)
    | some q =>
      obtain ⟨c, d⟩ := q
      have e : a.toNat * 2 + b.toNat + 1 = c.toNat * 2 + d.toNat + 1 := e
      have h1 : 0 ≤ a ∧ a ≤ 3 := hr
      have h2 : 0 ≤ c ∧ c ≤ 3 := hq
      have h3 : b.toNat ≤ 1 := by cases b <;> decide
      have h4 : d.toNat ≤ 1 := by cases d <;> decide
      have h5 : b.toNat = d.toNat := by omega
      have h6 : b = d := by
        cases b <;> cases d <;> first | rfl | exact absurd h5 (by decide)
      rw [h6, show a = c by omega]
theorem code_lt {s : St} (h : SOk s) : code s < 1170 := by
  rw [code_eq]
  have h1 := rowCode_lt h.row
  have h2 := rdCode_lt h.rd
  have h3 := h.tb
  omega
theorem code_inj {s q : St} (hs : SOk s) (hq : SOk q) (e : code s = code q) : s = q := by
  rw [code_eq, code_eq] at e
  have h1 := rowCode_lt hs.row
  have h2 := rdCode_lt hs.rd
  have h3 := hs.tb
  have g1 := rowCode_lt hq.row
  have g2 := rdCode_lt hq.rd
  have g3 := hq.tb
  have a1 := rowCode_inj hs.row hq.row (by omega)
  have a2 := rdCode_inj hs.rd hq.rd (by omega)
  have a3 : s.tb = q.tb := by omega
  cases s; cases q
  dsimp only at a1 a2 a3
  rw [a1, a2, a3]

theorem nodup_bound : ∀ (n : Nat) (l : List Nat), l.Nodup → (∀ x ∈ l, x < n) → l.length ≤ n
  | 0, l, _, h => by
    cases l with
    | nil => exact Nat.le_refl _
    | cons a r => exact absurd (h a List.mem_cons_self) (Nat.not_lt_zero _)
  | n + 1, l, hn, h => by
    by_cases hm : n ∈ l
    · have h1 : (l.erase n).length ≤ n := nodup_bound n (l.erase n) (hn.erase n) fun x hx => by
        have hx2 : x ≠ n ∧ x ∈ l := (hn.mem_erase_iff).mp hx
        have := h x hx2.2
        omega
      have h2 := List.length_erase_of_mem hm
      omega
    · have h1 : l.length ≤ n := nodup_bound n l hn fun x hx => by
        have := h x hx
        have : x ≠ n := fun e => hm (e ▸ hx)
        omega
      omega
theorem states_bound {l : List St} (hn : l.Nodup) (h : ∀ s ∈ l, SOk s) : l.length ≤ 1170 := by
  have h1 : (l.map code).Nodup := by
    induction l with
    | nil => exact List.nodup_nil
    | cons a r ih =>
      obtain ⟨n1, n2⟩ := List.nodup_cons.mp hn
      refine List.nodup_cons.mpr ⟨fun hm => ?_, ih n2 fun s hs => h s (List.mem_cons_of_mem _ hs)⟩
      obtain ⟨b, hb, e⟩ := List.mem_map.mp hm
      exact n1 (code_inj (h b (List.mem_cons_of_mem _ hb)) (h a List.mem_cons_self) e ▸ hb)
  have h2 := nodup_bound 1170 (l.map code) h1 fun x hx => by
    obtain ⟨b, hb, e⟩ := List.mem_map.mp hx
    rw [← e]
    exact code_lt (h b hb)
  rwa [List.length_map] at h2
end Lap
set_option linter.all false
namespace Lap

/-! ### the search: what holds of it -/
/-- e came from an entry of ws by a deed -/
def Came (w : Wh) (ws : Ways) (e : En) : Prop :=
  e = e0 ∨ ∃ p ∈ ws, ∃ d ∈ deedsIn w p.st, e = ⟨done w p.st d, some (p.st, d), p.path ++ [d]⟩
/-- the successors of e are there, at most one deed farther -/
def Clo (w : Wh) (ws : Ways) (e : En) (ds : List Deed) : Prop :=
  ∀ d ∈ ds, ∃ f ∈ ws, f.st = done w e.st d ∧ f.path.length ≤ e.path.length + 1
structure Base (w : Wh) (ws : Ways) : Prop where
  nd : (ws.map (·.st)).Nodup
  ok : ∀ e ∈ ws, SOk e.st
  first : ∃ r, ws = e0 :: r
  srt : ws.Pairwise fun a b => a.path.length ≤ b.path.length
  came : ∀ e ∈ ws, Came w ws e
theorem Base.len {w : Wh} {ws : Ways} (b : Base w ws) : ws.length ≤ 1170 := by
  have h := states_bound b.nd fun s hs => by
    obtain ⟨e, he, rfl⟩ := List.mem_map.mp hs
    exact b.ok e he
  rwa [List.length_map] at h
theorem Came.mono {w : Wh} {ws more : Ways} {e : En} (h : Came w ws e) : Came w (ws ++ more) e := by
  rcases h with h | ⟨p, hp, h⟩
  · exact .inl h
  · exact .inr ⟨p, List.mem_append_left _ hp, h⟩
theorem Clo.mono {w : Wh} {ws more : Ways} {e : En} {ds : List Deed} (h : Clo w ws e ds) : Clo w (ws ++ more) e ds := fun d hd => by
  obtain ⟨f, hf, h⟩ := h d hd
  exact ⟨f, List.mem_append_left _ hf, h⟩

/-- within a level: all of ws lie at most n + 1 far, later is what was added -/
structure Mid (w : Wh) (n : Nat) (ws0 : Ways) (acc : Ways × Ways) : Prop where
  base : Base w acc.1
  app : acc.1 = ws0 ++ acc.2
  far : ∀ e ∈ acc.1, e.path.length ≤ n + 1
  last : ∀ e ∈ acc.2, e.path.length = n + 1
theorem mid_stepD {w : Wh} {n : Nat} {ws0 : Ways} {acc : Ways × Ways} {e : En} {d : Deed} (hw : WOk w) (m : Mid w n ws0 acc) (he : e ∈ acc.1) (hl : e.path.length = n) (hd : d ∈ deedsIn w e.st) :
    Mid w n ws0 (stepD w e acc d) ∧ (∃ more, (stepD w e acc d).1 = acc.1 ++ more) ∧ Clo w (stepD w e acc d).1 e [d] := by
  unfold stepD
  by_cases hh : has acc.1 (done w e.st d) = true
  · rw [if_pos hh]
    refine ⟨m, ⟨[], by simp⟩, fun d' hd' => ?_⟩
    obtain ⟨f, hf, hs⟩ := has_iff.mp hh
    have e1 : d' = d := by simpa using hd'
    rw [e1]
    exact ⟨f, hf, hs, by rw [hl]; exact m.far f hf⟩
  · rw [if_neg hh]
    have hno : ∀ f ∈ acc.1, f.st ≠ done w e.st d := fun f hf e1 => hh (has_iff.mpr ⟨f, hf, e1⟩)
    have hlen : (e.path ++ [d]).length = n + 1 := by rw [List.length_append, hl]; rfl
    refine ⟨⟨⟨?_, ?_, ?_, ?_, ?_⟩, ?_, ?_, ?_⟩, ⟨_, rfl⟩, ?_⟩
    · dsimp only
      rw [List.map_append]
      refine List.nodup_append.mpr ⟨m.base.nd, by simp, fun a ha b hb => ?_⟩
      obtain ⟨f, hf, rfl⟩ := List.mem_map.mp ha
      have e1 : b = done w e.st d := by simpa using hb
      rw [e1]
      exact hno f hf
    · intro f hf
      rcases List.mem_append.mp hf with hf | hf
      · exact m.base.ok f hf
      · have e1 := List.mem_singleton.mp hf
        rw [e1]
        exact sok_done hw (m.base.ok e he) d
    · obtain ⟨r, hr⟩ := m.base.first
      exact ⟨r ++ [_], by dsimp only; rw [hr]; rfl⟩
    · refine List.pairwise_append.mpr ⟨m.base.srt, by simp, fun a ha b hb => ?_⟩
      have e1 := List.mem_singleton.mp hb
      rw [e1]
      show a.path.length ≤ (e.path ++ [d]).length
      rw [hlen]
      exact m.far a ha
    · intro f hf
      rcases List.mem_append.mp hf with hf | hf
      · exact (m.base.came f hf).mono
      · have e1 := List.mem_singleton.mp hf
        rw [e1]
        exact .inr ⟨e, List.mem_append_left _ he, d, hd, rfl⟩
    · dsimp only
      rw [m.app, List.append_assoc]
    · intro f hf
      rcases List.mem_append.mp hf with hf | hf
      · exact m.far f hf
      · have e1 := List.mem_singleton.mp hf
        rw [e1]
        exact Nat.le_of_eq hlen
    · intro f hf
      rcases List.mem_append.mp hf with hf | hf
      · exact m.last f hf
      · have e1 := List.mem_singleton.mp hf
        rw [e1]
        exact hlen
    · intro d' hd'
      have e1 : d' = d := by simpa using hd'
      rw [e1]
      exact ⟨_, List.mem_append_right _ (List.mem_singleton.mpr rfl), rfl, by dsimp only; rw [hlen, hl]; exact Nat.le_refl _⟩
theorem mid_deeds {w : Wh} {n : Nat} {ws0 : Ways} {e : En} (hw : WOk w) (hl : e.path.length = n) : ∀ (ds : List Deed) (acc : Ways × Ways), Mid w n ws0 acc → e ∈ acc.1 → (∀ d ∈ ds, d ∈ deedsIn w e.st) →
    Mid w n ws0 (ds.foldl (stepD w e) acc) ∧ (∃ more, (ds.foldl (stepD w e) acc).1 = acc.1 ++ more) ∧ Clo w (ds.foldl (stepD w e) acc).1 e ds
  | [], acc, m, _, _ => ⟨m, ⟨[], by simp⟩, fun _ h => absurd h (by simp)⟩
  | d :: ds, acc, m, he, hd => by
    obtain ⟨m1, ⟨x1, a1⟩, c1⟩ := mid_stepD hw m he hl (hd d List.mem_cons_self)
    obtain ⟨m2, ⟨x2, a2⟩, c2⟩ := mid_deeds hw hl ds (stepD w e acc d) m1 (by rw [a1]; exact List.mem_append_left _ he) fun d' h => hd d' (List.mem_cons_of_mem _ h)
    refine ⟨m2, ⟨x1 ++ x2, ?_⟩, fun d' h => ?_⟩
    · show (ds.foldl (stepD w e) (stepD w e acc d)).1 = _
      rw [a2, a1, List.append_assoc]
    · show ∃ f ∈ (ds.foldl (stepD w e) (stepD w e acc d)).1, _
      rcases List.mem_cons.mp h with h | h
      · rw [h, a2]
        exact Clo.mono c1 d (by simp)
      · exact c2 d' h
theorem mid_states {w : Wh} {n : Nat} {ws0 : Ways} (hw : WOk w) : ∀ (wt : Ways) (acc : Ways × Ways), Mid w n ws0 acc → (∀ e ∈ wt, e ∈ acc.1 ∧ e.path.length = n) →
    Mid w n ws0 (wt.foldl (stepS w) acc) ∧ (∃ more, (wt.foldl (stepS w) acc).1 = acc.1 ++ more) ∧ ∀ e ∈ wt, Clo w (wt.foldl (stepS w) acc).1 e (deedsIn w e.st)
  | [], acc, m, _ => ⟨m, ⟨[], by simp⟩, fun _ h => absurd h (by simp)⟩
  | e :: wt, acc, m, he => by
    obtain ⟨m1, ⟨x1, a1⟩, c1⟩ := mid_deeds hw (he e List.mem_cons_self).2 (deedsIn w e.st) acc m (he e List.mem_cons_self).1 fun _ h => h
    obtain ⟨m2, ⟨x2, a2⟩, c2⟩ := mid_states hw wt (stepS w acc e) m1 fun f hf => ⟨by
      show f ∈ ((deedsIn w e.st).foldl (stepD w e) acc).1
      rw [a1]
      exact List.mem_append_left _ (he f (List.mem_cons_of_mem _ hf)).1, (he f (List.mem_cons_of_mem _ hf)).2⟩
    have a2 : (wt.foldl (stepS w) (stepS w acc e)).1 = ((deedsIn w e.st).foldl (stepD w e) acc).1 ++ x2 := a2
    refine ⟨m2, ⟨x1 ++ x2, ?_⟩, fun f hf => ?_⟩
    · show (wt.foldl (stepS w) (stepS w acc e)).1 = _
      rw [a2, a1, List.append_assoc]
    · show Clo w (wt.foldl (stepS w) (stepS w acc e)).1 f _
      rcases List.mem_cons.mp hf with hf | hf
      · rw [hf, a2]
        exact c1.mono
      · exact c2 f hf

/-- between two levels -/
structure Lev (w : Wh) (ws wt : Ways) : Prop where
  base : Base w ws
  split : ∃ old n, ws = old ++ wt ∧ (∀ e ∈ wt, e.path.length = n) ∧ (∀ e ∈ ws, e.path.length ≤ n) ∧ ∀ e ∈ old, Clo w ws e (deedsIn w e.st)
theorem lev_start (w : Wh) : Lev w [e0] [e0] := by
  refine ⟨⟨by simp, fun e h => ?_, ⟨[], rfl⟩, by simp, fun e h => ?_⟩, [], 0, rfl, fun e h => ?_, fun e h => ?_, fun e h => absurd h (by simp)⟩
  all_goals (have e1 : e = e0 := by simpa using h)
  · rw [e1]; exact sok_start
  · exact .inl e1
  · rw [e1]; rfl
  · rw [e1]; exact Nat.le_refl _
theorem lev_next {w : Wh} {ws wt : Ways} (hw : WOk w) (h : Lev w ws wt) :
    Lev w (level w ws wt).1 (level w ws wt).2 ∧ ∃ n, Mid w n ws (level w ws wt) ∧ ∀ e ∈ wt, e.path.length = n := by
  obtain ⟨b, old, n, e1, h1, h2, h3⟩ := h
  have m0 : Mid w n ws (ws, []) := ⟨b, by simp, fun e he => Nat.le_succ_of_le (h2 e he), fun e he => absurd he (by simp)⟩
  obtain ⟨m, ⟨more, a⟩, c⟩ := mid_states hw wt (ws, []) m0 fun e he => ⟨by rw [e1]; exact List.mem_append_right _ he, h1 e he⟩
  refine ⟨⟨m.base, ws, n + 1, m.app, m.last, m.far, fun e he => ?_⟩, n, m, h1⟩
  rw [e1] at he
  rcases List.mem_append.mp he with he | he
  · have a' : (level w ws wt).1 = ws ++ more := a
    rw [a']
    exact (h3 e he).mono
  · exact c e he
/-- closed -/
structure Good (w : Wh) (ws : Ways) : Prop where
  base : Base w ws
  clo : ∀ e ∈ ws, Clo w ws e (deedsIn w e.st)
theorem lev_end {w : Wh} {ws : Ways} (h : Lev w ws []) : Good w ws := by
  obtain ⟨b, old, n, e1, h1, h2, h3⟩ := h
  refine ⟨b, fun e he => h3 e ?_⟩
  rw [e1] at he
  simpa using he
/-- how much is left -/
def left (ws wt : Ways) : Nat := (1170 - ws.length) + (if wt = [] then 0 else 1)
theorem left_next {w : Wh} {ws wt : Ways} (hw : WOk w) (h : Lev w ws wt) (hn : wt ≠ []) : left (level w ws wt).1 (level w ws wt).2 < left ws wt := by
  obtain ⟨h', n, m, _⟩ := lev_next hw h
  have l1 := h'.base.len
  have l2 : (level w ws wt).1.length = ws.length + (level w ws wt).2.length := by rw [m.app, List.length_append]
  unfold left
  rw [if_neg hn]
  by_cases e : (level w ws wt).2 = []
  · rw [if_pos e]
    rw [e] at l2
    simp at l2
    omega
  · rw [if_neg e]
    have : 0 < (level w ws wt).2.length := List.length_pos_iff.mpr e
    omega
theorem bfs_good {w : Wh} (hw : WOk w) : ∀ (n : Nat) (ws wt : Ways), Lev w ws wt → left ws wt ≤ n → Good w (bfs w n ws wt)
  | 0, ws, wt, h, hl => by
    have e : wt = [] := by
      unfold left at hl
      by_cases e : wt = []
      · exact e
      · rw [if_neg e] at hl
        omega
    rw [e] at h
    exact lev_end h
  | n + 1, ws, wt, h, hl => by
    unfold bfs
    by_cases e : wt = []
    · rw [if_pos e]
      rw [e] at h
      exact lev_end h
    · rw [if_neg e]
      have h1 := left_next hw h e
      exact bfs_good hw n _ _ (lev_next hw h).1 (by omega)
theorem left_start : left [e0] [e0] ≤ fuel := by decide
theorem ways_good {w : Wh} (hw : WOk w) : Good w (ways w) := bfs_good hw fuel _ _ (lev_start w) left_start

/-! ### histories -/
def walk (w : Wh) : St → List Deed → List St
  | _, [] => []
  | s, d :: r => done w s d :: walk w (done w s d) r
def doable (w : Wh) : St → List Deed → Prop
  | _, [] => True
  | s, d :: r => d ∈ deedsIn w s ∧ doable w (done w s d) r
def endOf (w : Wh) : St → List Deed → St
  | s, [] => s
  | s, d :: r => endOf w (done w s d) r
theorem walk_len (w : Wh) : ∀ (s : St) (h : List Deed), (walk w s h).length = h.length
  | _, [] => rfl
  | s, d :: r => by show (walk w (done w s d) r).length + 1 = r.length + 1; rw [walk_len]
theorem walk_app (w : Wh) : ∀ (s : St) (h k : List Deed), walk w s (h ++ k) = walk w s h ++ walk w (endOf w s h) k
  | _, [], _ => rfl
  | s, d :: r, k => by
    show done w s d :: walk w (done w s d) (r ++ k) = done w s d :: (walk w (done w s d) r ++ walk w (endOf w (done w s d) r) k)
    rw [walk_app]
theorem doable_app (w : Wh) : ∀ (s : St) (h k : List Deed), doable w s (h ++ k) ↔ doable w s h ∧ doable w (endOf w s h) k
  | _, [], k => by simp [doable, endOf]
  | s, d :: r, k => by
    show (d ∈ deedsIn w s ∧ doable w (done w s d) (r ++ k)) ↔ (d ∈ deedsIn w s ∧ doable w (done w s d) r) ∧ doable w (endOf w (done w s d) r) k
    rw [doable_app, and_assoc]
theorem endOf_app (w : Wh) : ∀ (s : St) (h k : List Deed), endOf w s (h ++ k) = endOf w (endOf w s h) k
  | _, [], _ => rfl
  | s, d :: r, k => endOf_app w (done w s d) r k
theorem walk_ok {w : Wh} (hw : WOk w) : ∀ (s : St) (h : List Deed), SOk s → ∀ q ∈ walk w s h, SOk q
  | _, [], _, q, hq => absurd hq (by simp [walk])
  | s, d :: r, hs, q, hq => by
    have h1 := sok_done hw hs d
    rcases List.mem_cons.mp hq with e | hq
    · rw [e]; exact h1
    · exact walk_ok hw _ r h1 q hq
/-- an entry's path leads to it -/
theorem path_doable {w : Wh} {ws : Ways} (b : Base w ws) : ∀ (n : Nat) (e : En), e ∈ ws → e.path.length = n → doable w START e.path ∧ endOf w START e.path = e.st
  | 0, e, he, hn => by
    have e1 : e.path = [] := List.length_eq_zero_iff.mp hn
    rcases b.came e he with h | ⟨p, hp, d, hd, h⟩
    · rw [h]; exact ⟨trivial, rfl⟩
    · rw [h] at e1
      simp at e1
  | n + 1, e, he, hn => by
    rcases b.came e he with h | ⟨p, hp, d, hd, h⟩
    · rw [h] at hn; exact absurd hn (by show ¬ 0 = n + 1; omega)
    · have hp1 : p.path.length = n := by
        rw [h] at hn
        dsimp only at hn
        rw [List.length_append] at hn
        simpa using hn
      obtain ⟨h1, h2⟩ := path_doable b n p hp hp1
      rw [h]
      dsimp only
      refine ⟨(doable_app _ _ _ _).mpr ⟨h1, ?_⟩, ?_⟩
      · rw [h2]; exact ⟨hd, trivial⟩
      · rw [endOf_app, h2]; rfl
/-- what can be done is there, no farther -/
theorem good_reach {w : Wh} {ws : Ways} (g : Good w ws) : ∀ (h : List Deed) (e : En), e ∈ ws → doable w e.st h → ∃ f ∈ ws, f.st = endOf w e.st h ∧ f.path.length ≤ e.path.length + h.length
  | [], e, he, _ => ⟨e, he, rfl, Nat.le_refl _⟩
  | d :: r, e, he, hd => by
    obtain ⟨f, hf, h1, h2⟩ := g.clo e he d hd.1
    obtain ⟨f', hf', h3, h4⟩ := good_reach g r f hf (by rw [h1]; exact hd.2)
    refine ⟨f', hf', by rw [h3, h1]; rfl, ?_⟩
    show f'.path.length ≤ e.path.length + (r.length + 1)
    omega
theorem e0_mem {w : Wh} {ws : Ways} (b : Base w ws) : e0 ∈ ws := by
  obtain ⟨r, h⟩ := b.first
  rw [h]
  exact List.mem_cons_self
theorem good_start {w : Wh} {ws : Ways} (g : Good w ws) {h : List Deed} (hd : doable w START h) : ∃ f ∈ ws, f.st = endOf w START h ∧ f.path.length ≤ h.length := by
  obtain ⟨f, hf, h1, h2⟩ := good_reach g h e0 (e0_mem g.base) hd
  exact ⟨f, hf, h1, by simpa [e0] using h2⟩
/-- the states that come about -/
def Reach (w : Wh) (s : St) : Prop := ∃ h, doable w START h ∧ endOf w START h = s
theorem mem_ways {w : Wh} (hw : WOk w) (s : St) : s ∈ (ways w).map (·.st) ↔ Reach w s := by
  have g := ways_good hw
  constructor
  · intro h
    obtain ⟨e, he, rfl⟩ := List.mem_map.mp h
    exact ⟨e.path, path_doable g.base _ e he rfl⟩
  · rintro ⟨h, hd, rfl⟩
    obtain ⟨f, hf, h1, _⟩ := good_start g hd
    exact List.mem_map.mpr ⟨f, hf, h1⟩
end Lap
set_option linter.all false
namespace Lap

/-! ### what is judged -/
def firstBad (w : Wh) (k : Wish) : Option En := (ways w).find? fun e => isBad w k e.st
def brkOf (w : Wh) (k : Wish) (e : En) : List Deed := if standsBroken w e.st k then e.path else e.path ++ [.pass]
def brk (w : Wh) (k : Wish) : Option (List Deed) := (firstBad w k).map (brkOf w k)
def safe (w : Wh) (k : Wish) : Bool := (brk w k).isNone
def soon (w : Wh) (k : Wish) : Option Nat := (brk w k).map List.length
def statesOf (w : Wh) : List St := (ways w).map (·.st)
def sights (s : St) : Option Bool × Bool := (match s.rd with | none => none | some (p, _) => some (sees s.row p), sees s.row 0)
def badAt (w : Wh) (s : St) (d : Deed) : List Wish := WISHES.filter fun k => standsBroken w (done w s d) k || goesWrong w s d k
def byList (w : Wh) : St → List Deed → List (List Wish)
  | _, [] => []
  | s, d :: r => badAt w s d :: byList w (done w s d) r

theorem mem_WISHES (k : Wish) : k ∈ WISHES := by cases k <;> decide
theorem mem_badAt {w : Wh} {s : St} {d : Deed} {k : Wish} : k ∈ badAt w s d ↔ standsBroken w (done w s d) k = true ∨ goesWrong w s d k = true := by
  unfold badAt
  rw [List.mem_filter, Bool.or_eq_true]
  exact ⟨fun h => h.2, fun h => ⟨mem_WISHES k, h⟩⟩
theorem byList_app (w : Wh) : ∀ (s : St) (h k : List Deed), byList w s (h ++ k) = byList w s h ++ byList w (endOf w s h) k
  | _, [], _ => rfl
  | s, d :: r, k => by
    show badAt w s d :: byList w (done w s d) (r ++ k) = badAt w s d :: (byList w (done w s d) r ++ byList w (endOf w (done w s d) r) k)
    rw [byList_app]
theorem byList_len (w : Wh) : ∀ (s : St) (h : List Deed), (byList w s h).length = h.length
  | _, [] => rfl
  | s, d :: r => by show (byList w (done w s d) r).length + 1 = r.length + 1; rw [byList_len]
theorem walk_last (w : Wh) (s : St) (h : List Deed) (d : Deed) : walk w s (h ++ [d]) = walk w s h ++ [done w (endOf w s h) d] := walk_app w s h [d]
theorem not_goesWrong {w : Wh} {s : St} {d : Deed} {k : Wish} (h : goesWrong w s .pass k = false) : goesWrong w s d k = false := by
  unfold goesWrong at *
  cases d <;> simp_all

theorem find_before {α : Type} {p : α → Bool} : ∀ {l : List α} {a : α}, l.find? p = some a → p a = true ∧ a ∈ l ∧ ∃ as bs, l = as ++ a :: bs ∧ ∀ x ∈ as, p x = false
  | [], _, h => by simp at h
  | b :: l, a, h => by
    by_cases hb : p b = true
    · rw [List.find?_cons_of_pos hb] at h
      cases h
      exact ⟨hb, List.mem_cons_self, [], l, rfl, fun x hx => absurd hx (by simp)⟩
    · rw [List.find?_cons_of_neg hb] at h
      obtain ⟨h1, h2, as, bs, h3, h4⟩ := find_before h
      refine ⟨h1, List.mem_cons_of_mem _ h2, b :: as, bs, by rw [h3]; rfl, fun x hx => ?_⟩
      rcases List.mem_cons.mp hx with e | hx
      · rw [e]
        cases q : p b with
        | false => rfl
        | true => exact absurd q hb
      · exact h4 x hx
/-- an entry that is nearer than the first bad one is not bad -/
theorem nearer_good {w : Wh} (hw : WOk w) {k : Wish} {e f : En} (h : firstBad w k = some e) (hf : f ∈ ways w) (hl : f.path.length < e.path.length) : isBad w k f.st = false := by
  obtain ⟨_, _, as, bs, h3, h4⟩ := find_before h
  have g := ways_good hw
  have hs := g.base.srt
  rw [h3] at hf hs
  rcases List.mem_append.mp hf with hf | hf
  · exact h4 f hf
  · have h5 := (List.pairwise_append.mp hs).2.1
    rcases List.mem_cons.mp hf with e1 | hf
    · rw [e1] at hl; exact absurd hl (Nat.lt_irrefl _)
    · have := (List.pairwise_cons.mp h5).1 f hf
      omega
/-- .. the first bad one is nearest -/
theorem first_near {w : Wh} (hw : WOk w) {k : Wish} {f : En} (hf : f ∈ ways w) (hb : isBad w k f.st = true) : ∃ e, firstBad w k = some e ∧ e.path.length ≤ f.path.length := by
  cases h : firstBad w k with
  | none =>
    have := List.find?_eq_none.mp h f hf
    exact absurd hb this
  | some e =>
    refine ⟨e, rfl, ?_⟩
    by_cases hl : f.path.length < e.path.length
    · rw [nearer_good hw h hf hl] at hb
      cases hb
    · omega
/-- nothing on the way to an entry at most as far as the first bad one breaks the wish, but for its own state -/
theorem path_clean {w : Wh} (hw : WOk w) {k : Wish} {e : En} (h : firstBad w k = some e) : ∀ (n : Nat) (f : En), f ∈ ways w → f.path.length = n → f.path.length < e.path.length → ∀ x ∈ byList w START f.path, k ∉ x
  | 0, f, hf, hn, _, x, hx => by
    rw [List.length_eq_zero_iff.mp hn] at hx
    exact absurd hx (by simp [byList])
  | n + 1, f, hf, hn, hl, x, hx => by
    have g := ways_good hw
    rcases g.base.came f hf with q | ⟨p, hp, d, hd, q⟩
    · rw [q] at hn; exact absurd hn (by show ¬ 0 = n + 1; omega)
    · have hp1 : p.path.length = n := by
        rw [q] at hn
        dsimp only at hn
        rw [List.length_append] at hn
        simpa using hn
      rw [q] at hx
      dsimp only at hx
      rw [byList_app, (path_doable g.base _ p hp rfl).2] at hx
      rcases List.mem_append.mp hx with hx | hx
      · exact path_clean hw h n p hp hp1 (by omega) x hx
      · have e1 : x = badAt w p.st d := by simpa [byList] using hx
        rw [e1, mem_badAt]
        have b1 := nearer_good hw h hf hl
        have b2 := nearer_good hw h hp (by omega)
        unfold isBad at b1 b2
        rw [Bool.or_eq_false_iff] at b1 b2
        rintro (z | z)
        · have e2 : f.st = done w p.st d := by rw [q]
          rw [e2] at b1
          rw [z] at b1
          exact absurd b1.1 (by decide)
        · rw [not_goesWrong b2.2] at z
          cases z
theorem start_not_stands (w : Wh) (hw : WOk w) (k : Wish) : standsBroken w START k = false := by
  cases k with
  | early => rfl
  | ghost => rfl
  | gone => rfl
  | stands =>
    have h : isStopped w START = false := by
      unfold isStopped
      cases hs : w.stop with
      | none => rfl
      | some c =>
        have h1 := hw.st
        rw [hs] at h1
        have h1 : 1 ≤ c ∧ c ≤ 4 := h1
        show decide (c ≤ 0) = false
        exact decide_eq_false (by omega)
    show (isStopped w START && isStopped w (passed w START)) = false
    rw [h]; rfl
/-- what is told of a history that breaks -/
structure Told (w : Wh) (k : Wish) (h : List Deed) : Prop where
  can : doable w START h
  split : ∃ (ini : List (List Wish)) (x : List Wish), byList w START h = ini ++ [x] ∧ k ∈ x ∧ ∀ y ∈ ini, k ∉ y
  early : k = .early → ∃ p : List Deed, h = p ++ [.pass] ∧ sights (done w (endOf w START p) .pass) ≠ sights (endOf w START p)
theorem views_sights {r q : Row} {s : St} (h : views r s ≠ views q s) : sights ⟨r, s.rd, s.tb⟩ ≠ sights ⟨q, s.rd, s.tb⟩ := by
  intro e
  apply h
  unfold views somebody
  unfold sights at e
  dsimp only at e
  cases hr : s.rd with
  | none =>
    rw [hr] at e
    dsimp only at e ⊢
    simp only [Prod.mk.injEq] at e
    simp [e.2]
  | some p =>
    rw [hr] at e
    dsimp only at e ⊢
    simp only [Prod.mk.injEq, Option.some.injEq] at e
    simp [e.1, e.2]
theorem told_of {w : Wh} (hw : WOk w) {k : Wish} {h : List Deed} (hb : brk w k = some h) : Told w k h := by
  unfold brk at hb
  obtain ⟨e, he, hh⟩ := Option.map_eq_some_iff.mp hb
  have g := ways_good hw
  obtain ⟨bad, mem, _⟩ := find_before he
  obtain ⟨pd, pe⟩ := path_doable g.base _ e mem rfl
  by_cases hs : standsBroken w e.st k = true
  · have e1 : h = e.path := by rw [← hh]; unfold brkOf; rw [if_pos hs]
    subst e1
    rcases g.base.came e mem with q | ⟨p, hp, d, hd, q⟩
    · rw [q] at hs
      rw [show e0.st = START from rfl, start_not_stands w hw k] at hs
      cases hs
    · have e2 : e.path = p.path ++ [d] := by rw [q]
      have hl : p.path.length < e.path.length := by rw [e2, List.length_append]; simp
      obtain ⟨_, pe2⟩ := path_doable g.base _ p hp rfl
      refine ⟨pd, ⟨byList w START p.path, badAt w p.st d, ?_, ?_, path_clean hw he _ p hp rfl hl⟩, fun hk => ?_⟩
      · rw [e2, byList_app, pe2]; rfl
      · rw [mem_badAt]
        left
        have e3 : e.st = done w p.st d := by rw [q]
        rw [← e3]
        exact hs
      · rw [hk] at hs
        cases hs
  · have e1 : h = e.path ++ [.pass] := by rw [← hh]; unfold brkOf; rw [if_neg hs]
    have gw : goesWrong w e.st .pass k = true := by
      have bad : (standsBroken w e.st k || goesWrong w e.st .pass k) = true := bad
      rw [Bool.or_eq_true] at bad
      rcases bad with z | z
      · exact absurd z hs
      · exact z
    subst e1
    refine ⟨(doable_app _ _ _ _).mpr ⟨pd, ?_⟩, ⟨byList w START e.path, badAt w e.st .pass, ?_, ?_, ?_⟩, fun hk => ⟨e.path, rfl, ?_⟩⟩
    · exact ⟨List.mem_filter.mpr ⟨by decide, rfl⟩, trivial⟩
    · rw [byList_app, pe]; rfl
    · rw [mem_badAt]; exact .inr gw
    · intro x hx
      rcases g.base.came e mem with q | ⟨p, hp, d, hd, q⟩
      · rw [q] at hx
        exact absurd hx (by simp [byList, e0])
      · have e2 : e.path = p.path ++ [d] := by rw [q]
        have hl : p.path.length < e.path.length := by rw [e2, List.length_append]; simp
        obtain ⟨_, pe2⟩ := path_doable g.base _ p hp rfl
        rw [e2, byList_app, pe2] at hx
        rcases List.mem_append.mp hx with hx | hx
        · exact path_clean hw he _ p hp rfl hl x hx
        · have e1 : x = badAt w p.st d := by simpa [byList] using hx
          rw [e1, mem_badAt]
          have b2 := nearer_good hw he hp hl
          unfold isBad at b2
          rw [Bool.or_eq_false_iff] at b2
          have e3 : e.st = done w p.st d := by rw [q]
          rintro (z | z)
          · rw [← e3] at z; exact hs z
          · rw [not_goesWrong b2.2] at z
            cases z
    · rw [pe]
      unfold goesWrong at gw
      rw [Bool.and_eq_true, Bool.and_eq_true] at gw
      have hv : ¬ views e.st.row e.st = views (passed w e.st).row e.st := by
        intro z
        rw [decide_eq_true z] at gw
        exact absurd gw.2 (by decide)
      intro z
      have := views_sights (s := e.st) hv
      apply this
      have a : sights (passed w e.st) = sights ⟨(passed w e.st).row, e.st.rd, e.st.tb⟩ := rfl
      have b : sights e.st = sights ⟨e.st.row, e.st.rd, e.st.tb⟩ := rfl
      rw [← a, ← b]
      exact z.symm

/-! ### lesser stops and cuts -/
def LimLe : Option Int → Option Int → Prop
  | _, none => True
  | some a, some b => a ≤ b
  | none, some _ => False
def withStop (w : Wh) (x : Option Int) : Wh := { w with stop := x }
def withCut (w : Wh) (x : Option Int) : Wh := { w with cut := x }
theorem stop_done (w : Wh) (a b : Option Int) (s : St) (d : Deed) : done (withStop w a) s d = done (withStop w b) s d := by
  cases d <;> rfl
theorem stop_stopped {w : Wh} {a b : Option Int} (h : LimLe a b) (s : St) (hs : isStopped (withStop w a) s = false) : isStopped (withStop w b) s = false := by
  unfold isStopped withStop at *
  cases b with
  | none => rfl
  | some b =>
    cases a with
    | none => exact h.elim
    | some a =>
      have h : a ≤ b := h
      dsimp only at *
      have hs := of_decide_eq_false hs
      exact decide_eq_false (by omega)
theorem stop_deeds {w : Wh} {a b : Option Int} (h : LimLe a b) (s : St) (d : Deed) (hd : d ∈ deedsIn (withStop w a) s) : d ∈ deedsIn (withStop w b) s := by
  obtain ⟨h1, h2⟩ := List.mem_filter.mp hd
  refine List.mem_filter.mpr ⟨h1, ?_⟩
  have st : ∀ x : Bool, (!isStopped (withStop w a) s && x) = true → (!isStopped (withStop w b) s && x) = true := fun x hx => by
    rw [Bool.and_eq_true, Bool.not_eq_true'] at hx ⊢
    exact ⟨stop_stopped h s hx.1, hx.2⟩
  cases d with
  | tick =>
    have q := st true (by rw [Bool.and_true]; exact h2)
    rw [Bool.and_true] at q
    exact q
  | write => exact st _ h2
  | strike => exact st _ h2
  | opn => exact h2
  | close => exact h2
  | pass => exact h2
theorem stop_doable {w : Wh} {a b : Option Int} (h : LimLe a b) : ∀ (l : List Deed) (s : St), doable (withStop w a) s l → doable (withStop w b) s l ∧ endOf (withStop w b) s l = endOf (withStop w a) s l
  | [], _, _ => ⟨trivial, rfl⟩
  | d :: r, s, hd => by
    have q := stop_doable h r (done (withStop w a) s d) hd.2
    show (d ∈ deedsIn (withStop w b) s ∧ doable (withStop w b) (done (withStop w b) s d) r) ∧ endOf (withStop w b) (done (withStop w b) s d) r = endOf (withStop w a) (done (withStop w a) s d) r
    rw [stop_done w b a]
    exact ⟨⟨stop_deeds h s d hd.1, q.1⟩, q.2⟩
theorem reach_stop {w : Wh} {a b : Option Int} (h : LimLe a b) {s : St} (r : Reach (withStop w a) s) : Reach (withStop w b) s := by
  obtain ⟨l, h1, h2⟩ := r
  have q := stop_doable h l START h1
  exact ⟨l, q.1, q.2.trans h2⟩
theorem reach_step {w : Wh} {s : St} {d : Deed} (r : Reach w s) (hd : d ∈ deedsIn w s) : Reach w (done w s d) := by
  obtain ⟨l, h1, h2⟩ := r
  refine ⟨l ++ [d], (doable_app _ _ _ _).mpr ⟨h1, ?_⟩, ?_⟩
  · rw [h2]; exact ⟨hd, trivial⟩
  · rw [endOf_app, h2]; rfl
theorem cut_deeds (w : Wh) (a b : Option Int) (s : St) : deedsIn (withCut w a) s = deedsIn (withCut w b) s := rfl
theorem cut_rd {w : Wh} {a b : Option Int} (h : LimLe a b) (r : Rdr) : cutRd (withCut w a) r = cutRd (withCut w b) r ∨ (cutRd (withCut w a) r = none ∧ (cutRd (withCut w b) r).isSome = true) := by
  cases r with
  | none => exact .inl rfl
  | some p =>
    obtain ⟨x, y⟩ := p
    unfold cutRd withCut
    dsimp only
    cases a with
    | none =>
      cases b with
      | none => exact .inl rfl
      | some b => exact h.elim
    | some a =>
      dsimp only
      by_cases ha : a ≤ (x + 1) % 4
      · rw [if_pos ha]
        cases b with
        | none => exact .inr ⟨rfl, rfl⟩
        | some b =>
          dsimp only
          by_cases hb : b ≤ (x + 1) % 4
          · rw [if_pos hb]; exact .inl rfl
          · rw [if_neg hb]; exact .inr ⟨rfl, rfl⟩
      · rw [if_neg ha]
        cases b with
        | none => exact .inl rfl
        | some b =>
          have h : a ≤ b := h
          dsimp only
          rw [if_neg (by omega)]
          exact .inl rfl
theorem cut_done {w : Wh} {a b : Option Int} (h : LimLe a b) {s : St} {d : Deed} (r : Reach (withCut w b) s) (hd : d ∈ deedsIn (withCut w b) s) : Reach (withCut w b) (done (withCut w a) s d) := by
  have r1 := reach_step r hd
  have fin : ∀ (row : Row) (t : Int), Reach (withCut w b) ⟨row, cutRd (withCut w b) s.rd, t⟩ → Reach (withCut w b) ⟨row, cutRd (withCut w a) s.rd, t⟩ := by
    intro row t q
    rcases cut_rd (w := w) h s.rd with e | ⟨e1, e2⟩
    · rw [e]; exact q
    · rw [e1]
      have hc : Deed.close ∈ deedsIn (withCut w b) ⟨row, cutRd (withCut w b) s.rd, t⟩ := List.mem_filter.mpr ⟨by decide, e2⟩
      exact reach_step q hc
  cases d with
  | pass => exact r1
  | opn => exact r1
  | close => exact r1
  | tick => exact fin _ _ r1
  | write => exact fin _ _ r1
  | strike => exact fin _ _ r1
theorem reach_cut_go {w : Wh} {a b : Option Int} (h : LimLe a b) : ∀ (l : List Deed) (s : St), Reach (withCut w b) s → doable (withCut w a) s l → Reach (withCut w b) (endOf (withCut w a) s l)
  | [], _, r, _ => r
  | d :: l, s, r, hd => reach_cut_go h l _ (cut_done h r (by rw [cut_deeds w b a]; exact hd.1)) hd.2
theorem reach_cut {w : Wh} {a b : Option Int} (h : LimLe a b) {s : St} (r : Reach (withCut w a) s) : Reach (withCut w b) s := by
  obtain ⟨l, h1, h2⟩ := r
  rw [← h2]
  exact reach_cut_go h l START ⟨[], trivial, rfl⟩ h1

/-! ### ghost and gone: the state alone breaks them -/
def Plain (k : Wish) : Prop := k = .ghost ∨ k = .gone
theorem plain_bad {k : Wish} (hk : Plain k) (w v : Wh) (s : St) : isBad w k s = isBad v k s := by
  rcases hk with rfl | rfl <;> rfl
theorem plain_brk {k : Wish} (hk : Plain k) {w : Wh} {e : En} (hb : isBad w k e.st = true) : brkOf w k e = e.path := by
  unfold brkOf
  rw [if_pos]
  rcases hk with rfl | rfl
  · unfold isBad goesWrong at hb; simpa using hb
  · unfold isBad goesWrong at hb; simpa using hb
theorem safe_iff {w : Wh} (hw : WOk w) (k : Wish) : safe w k = true ↔ ∀ s, Reach w s → isBad w k s = false := by
  unfold safe brk
  rw [Option.isNone_iff_eq_none, Option.map_eq_none_iff]
  unfold firstBad
  rw [List.find?_eq_none]
  constructor
  · intro h s hs
    obtain ⟨e, he, rfl⟩ := List.mem_map.mp ((mem_ways hw s).mpr hs)
    cases q : isBad w k e.st with
    | false => rfl
    | true => exact absurd q (h e he)
  · intro h e he
    rw [h e.st ((mem_ways hw _).mp (List.mem_map.mpr ⟨e, he, rfl⟩))]
    decide
theorem safe_less {k : Wish} (hk : Plain k) {w v : Wh} (hw : WOk w) (hv : WOk v) (hr : ∀ s, Reach w s → Reach v s) (h : safe v k = true) : safe w k = true := by
  rw [safe_iff hw]
  intro s hs
  rw [plain_bad hk w v]
  exact (safe_iff hv k).mp h s (hr s hs)
/-- not more: None is more than any -/
def NotMore : Option Nat → Option Nat → Prop
  | _, none => True
  | some a, some b => a ≤ b
  | none, some _ => False
theorem soon_stop {k : Wish} (hk : Plain k) {w : Wh} {a b : Option Int} (ha : WOk (withStop w a)) (hb : WOk (withStop w b)) (h : LimLe a b) : NotMore (soon (withStop w b) k) (soon (withStop w a) k) := by
  unfold soon brk
  cases q : firstBad (withStop w a) k with
  | none => trivial
  | some e =>
    obtain ⟨bad, mem, _⟩ := find_before q
    have g := ways_good ha
    obtain ⟨pd, pe⟩ := path_doable g.base _ e mem rfl
    obtain ⟨d1, d2⟩ := stop_doable h e.path START pd
    obtain ⟨f, hf, f1, f2⟩ := good_start (ways_good hb) d1
    have hfb : isBad (withStop w b) k f.st = true := by
      rw [f1, d2, pe, plain_bad hk _ (withStop w a)]
      exact bad
    obtain ⟨f0, q0, l0⟩ := first_near hb hf hfb
    rw [q0]
    obtain ⟨bad0, _, _⟩ := find_before q0
    show (brkOf (withStop w b) k f0).length ≤ (brkOf (withStop w a) k e).length
    rw [plain_brk hk bad0, plain_brk hk bad]
    omega

/-! ### what is always safe -/
theorem hold_views {w : Wh} (hh : w.hold = true) (s : St) : views (passRow w s) s = views s.row s := by
  unfold views
  refine List.map_congr_left fun q hq => ?_
  unfold passRow
  cases hr : s.row with
  | none => rfl
  | some p =>
    obtain ⟨a, b⟩ := p
    dsimp only
    have ripe : ∀ i, isRipe w s (some i) = true → before i q.2 = true := by
      intro i hi
      unfold isRipe at hi
      dsimp only at hi
      rw [Bool.and_eq_true] at hi
      unfold somebody at hq
      rcases List.mem_cons.mp hq with e | hq
      · rw [e]; exact hi.1
      · cases hd : s.rd with
        | none => rw [hd] at hq; exact absurd hq (by simp)
        | some r =>
          obtain ⟨x, y⟩ := r
          rw [hd] at hq hi
          have e : q = (y, x) := by simpa using hq
          rw [e]
          have := hi.2
          dsimp only at this
          rw [hh] at this
          simpa using this
    by_cases h1 : isRipe w s b = true
    · rw [if_pos h1]
      cases b with
      | none => cases h1
      | some j =>
        have := ripe j h1
        unfold sees
        dsimp only
        rw [this]
        simp
    · rw [if_neg h1]
      cases a with
      | none => rfl
      | some i =>
        dsimp only
        by_cases h2 : (isRipe w s (some i) && decide (w.freeze ≤ i)) = true
        · rw [if_pos h2]
          rw [Bool.and_eq_true] at h2
          have := ripe i h2.1
          unfold sees
          dsimp only
          rw [this]
        · rw [if_neg h2]
theorem safe_early {w : Wh} (hw : WOk w) (hh : w.hold = true) : safe w .early = true := by
  rw [safe_iff hw]
  intro s _
  show (false || goesWrong w s .pass .early) = false
  unfold goesWrong
  have : views (passed w s).row s = views s.row s := hold_views hh s
  rw [this]
  simp
theorem safe_stands {w : Wh} (hw : WOk w) (hs : w.stop = none) : safe w .stands = true := by
  rw [safe_iff hw]
  intro s _
  have h : isStopped w s = false := by unfold isStopped; rw [hs]
  show ((isStopped w s && _) || goesWrong w s .pass .stands) = false
  rw [h]
  rfl

/-! ### the greatest one -/
def greatestN (f : Int → Bool) : Int := if !f 1 then 0 else if !f 2 then 1 else if !f 3 then 2 else if !f 4 then 3 else 4
theorem greatest_row {f : Int → Bool} (h1 : f 2 = true → f 1 = true) (h2 : f 3 = true → f 2 = true) (h3 : f 4 = true → f 3 = true) :
    [f 1, f 2, f 3, f 4] = [decide (1 ≤ greatestN f), decide (2 ≤ greatestN f), decide (3 ≤ greatestN f), decide (4 ≤ greatestN f)] := by
  unfold greatestN
  cases a : f 1 <;> cases b : f 2 <;> cases c : f 3 <;> cases d : f 4 <;> simp_all
end Lap
set_option linter.all false
namespace Lap
/-! ### paths are short -/
def Sh (k : Nat) (ws : Ways) : Prop := ∀ e ∈ ws, e.path.length ≤ k
theorem Sh.app {k : Nat} {a b : Ways} (h : Sh k a) (g : Sh k b) : Sh k (a ++ b) := fun e he => (List.mem_append.mp he).elim (h e) (g e)
theorem sh_stepD {w : Wh} {k : Nat} {e : En} {acc : Ways × Ways} {d : Deed} (he : e.path.length ≤ k) (h : Sh (k + 1) acc.1 ∧ Sh (k + 1) acc.2) : Sh (k + 1) (stepD w e acc d).1 ∧ Sh (k + 1) (stepD w e acc d).2 := by
  unfold stepD
  split
  · exact h
  · have one : Sh (k + 1) [⟨done w e.st d, some (e.st, d), e.path ++ [d]⟩] := fun f hf => by
      have e1 : f = _ := List.mem_singleton.mp hf
      rw [e1]
      show (e.path ++ [d]).length ≤ k + 1
      rw [List.length_append]
      exact Nat.add_le_add_right he 1
    exact ⟨h.1.app one, h.2.app one⟩
theorem sh_foldD {w : Wh} {k : Nat} {e : En} (he : e.path.length ≤ k) : ∀ (ds : List Deed) (acc : Ways × Ways), Sh (k + 1) acc.1 ∧ Sh (k + 1) acc.2 → Sh (k + 1) (ds.foldl (stepD w e) acc).1 ∧ Sh (k + 1) (ds.foldl (stepD w e) acc).2
  | [], _, h => h
  | d :: ds, _, h => sh_foldD he ds _ (sh_stepD he h)
theorem sh_foldS {w : Wh} {k : Nat} : ∀ (es : Ways) (acc : Ways × Ways), Sh k es → Sh (k + 1) acc.1 ∧ Sh (k + 1) acc.2 → Sh (k + 1) (es.foldl (stepS w) acc).1 ∧ Sh (k + 1) (es.foldl (stepS w) acc).2
  | [], _, _, h => h
  | e :: es, _, he, h => sh_foldS es _ (fun f hf => he f (List.mem_cons_of_mem _ hf)) (sh_foldD (he e List.mem_cons_self) _ _ h)
theorem sh_bfs {w : Wh} : ∀ (n k : Nat) (ws wt : Ways), Sh k ws → Sh k wt → Sh (k + n) (bfs w n ws wt)
  | 0, _, _, _, h, _ => h
  | n + 1, k, ws, wt, h, g => by
    unfold bfs
    split
    · exact fun e he => Nat.le_trans (h e he) (by omega)
    · have q := sh_foldS (w := w) wt (ws, []) g ⟨fun e he => Nat.le_trans (h e he) (by omega), fun e he => by cases he⟩
      have r := sh_bfs (w := w) n (k + 1) _ _ q.1 q.2
      rw [show k + (n + 1) = k + 1 + n by omega]
      exact r
theorem path_short {w : Wh} {e : En} (he : e ∈ ways w) : e.path.length ≤ 1171 := by
  have h0 : Sh 0 [e0] := fun e he => by rw [List.mem_singleton.mp he]; exact Nat.le_refl _
  have h := sh_bfs (w := w) fuel 0 _ _ h0 h0 e he
  simpa [fuel] using h
theorem brk_short {w : Wh} {k : Wish} {h : List Deed} (q : brk w k = some h) : h.length ≤ 1172 := by
  unfold brk at q
  obtain ⟨e, he, rfl⟩ := Option.map_eq_some_iff.mp q
  have h1 := path_short (List.mem_of_find?_eq_some he)
  unfold brkOf
  split
  · omega
  · rw [List.length_append]
    show e.path.length + 1 ≤ 1172
    omega
theorem sok_end {w : Wh} (hw : WOk w) : ∀ (s : St) (h : List Deed), SOk s → SOk (endOf w s h)
  | _, [], hs => hs
  | s, d :: r, hs => sok_end hw _ r (sok_done hw hs d)
theorem strike_row {w : Wh} {s : St} {d : Deed} (h : d ∈ deedsIn w s) (e : d = .strike) : s.row.isSome = true := by
  subst e
  have := (List.mem_filter.mp h).2
  unfold can at this
  rw [Bool.and_eq_true] at this
  cases hr : s.row with
  | none => rw [hr] at this; exact absurd this.2 (by decide)
  | some p => rfl
end Lap
set_option Elab.async false
set_option linter.all false
set_option maxRecDepth 100000
set_option maxHeartbeats 4000000
/-! The text by places; what the top has left, as a structure of facts. -/
namespace LapW
open PySem PySem.Spec PyProof.Rows L2
def top (i : Nat) : Stmt := PySem.Challenge.pw_lapnumbers_k09_whole_hangs_together.main.body.getD i (.Pass ⟨0, 0, 0, 0⟩)
structure Tx (K : PySem.W.Frag) (mg : Str → Option Value) : Prop where
  g_is_whole : mg "is_whole" = some (.ref (He.ga K "is_whole"))
  f_is_whole : ∃ fd, FunD K "is_whole" "is_whole" (defArgs (top 13)) (defBody (top 13)) (defScope (top 13)) [] [] (He.ga K "is_whole") fd
  g_all_for : mg "all_for" = some (.ref (He.ga K "all_for"))
  f_all_for : ∃ fd, FunD K "all_for" "all_for" (defArgs (top 14)) (defBody (top 14)) (defScope (top 14)) [] [] (He.ga K "all_for") fd
  g_can_be : mg "can_be" = some (.ref (He.ga K "can_be"))
  f_can_be : ∃ fd, FunD K "can_be" "can_be" (defArgs (top 15)) (defBody (top 15)) (defScope (top 15)) [] [] (He.ga K "can_be") fd
  g_made : mg "made" = some (.ref (He.ga K "made"))
  f_made : ∃ fd, FunD K "made" "made" (defArgs (top 17)) (defBody (top 17)) (defScope (top 17)) [] [] (He.ga K "made") fd
  g_check_wheel : mg "check_wheel" = some (.ref (He.ga K "check_wheel"))
  f_check_wheel : ∃ fd, FunD K "check_wheel" "check_wheel" (defArgs (top 18)) (defBody (top 18)) (defScope (top 18)) [] [] (He.ga K "check_wheel") fd
  g_before : mg "before" = some (.ref (He.ga K "before"))
  f_before : ∃ fd, FunD K "before" "before" (defArgs (top 19)) (defBody (top 19)) (defScope (top 19)) [] [] (He.ga K "before") fd
  g_is_age : mg "is_age" = some (.ref (He.ga K "is_age"))
  f_is_age : ∃ fd, FunD K "is_age" "is_age" (defArgs (top 20)) (defBody (top 20)) (defScope (top 20)) [] [] (He.ga K "is_age") fd
  g_is_age_or_none : mg "is_age_or_none" = some (.ref (He.ga K "is_age_or_none"))
  f_is_age_or_none : ∃ fd, FunD K "is_age_or_none" "is_age_or_none" (defArgs (top 25)) (defBody (top 25)) (defScope (top 25)) [] [] (He.ga K "is_age_or_none") fd
  g_is_row : mg "is_row" = some (.ref (He.ga K "is_row"))
  f_is_row : ∃ fd, FunD K "is_row" "is_row" (defArgs (top 26)) (defBody (top 26)) (defScope (top 26)) [] [] (He.ga K "is_row") fd
  g_is_reader : mg "is_reader" = some (.ref (He.ga K "is_reader"))
  f_is_reader : ∃ fd, FunD K "is_reader" "is_reader" (defArgs (top 27)) (defBody (top 27)) (defScope (top 27)) [] [] (He.ga K "is_reader") fd
  g_is_state : mg "is_state" = some (.ref (He.ga K "is_state"))
  f_is_state : ∃ fd, FunD K "is_state" "is_state" (defArgs (top 28)) (defBody (top 28)) (defScope (top 28)) [] [] (He.ga K "is_state") fd
  g_check_state : mg "check_state" = some (.ref (He.ga K "check_state"))
  f_check_state : ∃ fd, FunD K "check_state" "check_state" (defArgs (top 29)) (defBody (top 29)) (defScope (top 29)) [] [] (He.ga K "check_state") fd
  g_is_stopped : mg "is_stopped" = some (.ref (He.ga K "is_stopped"))
  f_is_stopped : ∃ fd, FunD K "is_stopped" "is_stopped" (defArgs (top 30)) (defBody (top 30)) (defScope (top 30)) [] [] (He.ga K "is_stopped") fd
  g_sees : mg "sees" = some (.ref (He.ga K "sees"))
  f_sees : ∃ fd, FunD K "sees" "sees" (defArgs (top 31)) (defBody (top 31)) (defScope (top 31)) [] [] (He.ga K "sees") fd
  g_is_there : mg "is_there" = some (.ref (He.ga K "is_there"))
  f_is_there : ∃ fd, FunD K "is_there" "is_there" (defArgs (top 32)) (defBody (top 32)) (defScope (top 32)) [] [] (He.ga K "is_there") fd
  g_older : mg "older" = some (.ref (He.ga K "older"))
  f_older : ∃ fd, FunD K "older" "older" (defArgs (top 33)) (defBody (top 33)) (defScope (top 33)) [] [] (He.ga K "older") fd
  g_numbered : mg "numbered" = some (.ref (He.ga K "numbered"))
  f_numbered : ∃ fd, FunD K "numbered" "numbered" (defArgs (top 34)) (defBody (top 34)) (defScope (top 34)) [] [] (He.ga K "numbered") fd
  g_is_held : mg "is_held" = some (.ref (He.ga K "is_held"))
  f_is_held : ∃ fd, FunD K "is_held" "is_held" (defArgs (top 35)) (defBody (top 35)) (defScope (top 35)) [] [] (He.ga K "is_held") fd
  g_is_ripe : mg "is_ripe" = some (.ref (He.ga K "is_ripe"))
  f_is_ripe : ∃ fd, FunD K "is_ripe" "is_ripe" (defArgs (top 36)) (defBody (top 36)) (defScope (top 36)) [] [] (He.ga K "is_ripe") fd
  g_passed : mg "passed" = some (.ref (He.ga K "passed"))
  f_passed : ∃ fd, FunD K "passed" "passed" (defArgs (top 37)) (defBody (top 37)) (defScope (top 37)) [] [] (He.ga K "passed") fd
  g_deeds_in : mg "deeds_in" = some (.ref (He.ga K "deeds_in"))
  f_deeds_in : ∃ fd, FunD K "deeds_in" "deeds_in" (defArgs (top 38)) (defBody (top 38)) (defScope (top 38)) [] [] (He.ga K "deeds_in") fd
  g_done : mg "done" = some (.ref (He.ga K "done"))
  f_done : ∃ fd, FunD K "done" "done" (defArgs (top 39)) (defBody (top 39)) (defScope (top 39)) [] [] (He.ga K "done") fd
  g_is_deed : mg "is_deed" = some (.ref (He.ga K "is_deed"))
  f_is_deed : ∃ fd, FunD K "is_deed" "is_deed" (defArgs (top 40)) (defBody (top 40)) (defScope (top 40)) [] [] (He.ga K "is_deed") fd
  g_walked : mg "walked" = some (.ref (He.ga K "walked"))
  f_walked : ∃ fd, FunD K "walked" "walked" (defArgs (top 41)) (defBody (top 41)) (defScope (top 41)) [] [] (He.ga K "walked") fd
  g_check_history : mg "check_history" = some (.ref (He.ga K "check_history"))
  f_check_history : ∃ fd, FunD K "check_history" "check_history" (defArgs (top 42)) (defBody (top 42)) (defScope (top 42)) [] [] (He.ga K "check_history") fd
  g_explore : mg "explore" = some (.ref (He.ga K "explore"))
  f_explore : ∃ fd, FunD K "explore" "explore" (defArgs (top 43)) (defBody (top 43)) (defScope (top 43)) [] [] (He.ga K "explore") fd
  g_way_to : mg "way_to" = some (.ref (He.ga K "way_to"))
  f_way_to : ∃ fd, FunD K "way_to" "way_to" (defArgs (top 44)) (defBody (top 44)) (defScope (top 44)) [] [] (He.ga K "way_to") fd
  g_sights : mg "sights" = some (.ref (He.ga K "sights"))
  f_sights : ∃ fd, FunD K "sights" "sights" (defArgs (top 45)) (defBody (top 45)) (defScope (top 45)) [] [] (He.ga K "sights") fd
  g_told : mg "told" = some (.ref (He.ga K "told"))
  f_told : ∃ fd, FunD K "told" "told" (defArgs (top 46)) (defBody (top 46)) (defScope (top 46)) [] [] (He.ga K "told") fd
  g_all_states : mg "all_states" = some (.ref (He.ga K "all_states"))
  f_all_states : ∃ fd, FunD K "all_states" "all_states" (defArgs (top 47)) (defBody (top 47)) (defScope (top 47)) [] [] (He.ga K "all_states") fd
  g_check_wish : mg "check_wish" = some (.ref (He.ga K "check_wish"))
  f_check_wish : ∃ fd, FunD K "check_wish" "check_wish" (defArgs (top 52)) (defBody (top 52)) (defScope (top 52)) [] [] (He.ga K "check_wish") fd
  g_somebody : mg "somebody" = some (.ref (He.ga K "somebody"))
  f_somebody : ∃ fd, FunD K "somebody" "somebody" (defArgs (top 53)) (defBody (top 53)) (defScope (top 53)) [] [] (He.ga K "somebody") fd
  g_stands_broken : mg "stands_broken" = some (.ref (He.ga K "stands_broken"))
  f_stands_broken : ∃ fd, FunD K "stands_broken" "stands_broken" (defArgs (top 54)) (defBody (top 54)) (defScope (top 54)) [] [] (He.ga K "stands_broken") fd
  g_views : mg "views" = some (.ref (He.ga K "views"))
  f_views : ∃ fd, FunD K "views" "views" (defArgs (top 55)) (defBody (top 55)) (defScope (top 55)) [] [] (He.ga K "views") fd
  g_goes_wrong : mg "goes_wrong" = some (.ref (He.ga K "goes_wrong"))
  f_goes_wrong : ∃ fd, FunD K "goes_wrong" "goes_wrong" (defArgs (top 56)) (defBody (top 56)) (defScope (top 56)) [] [] (He.ga K "goes_wrong") fd
  g_judged : mg "judged" = some (.ref (He.ga K "judged"))
  f_judged : ∃ fd, FunD K "judged" "judged" (defArgs (top 57)) (defBody (top 57)) (defScope (top 57)) [] [] (He.ga K "judged") fd
  g_judge : mg "judge" = some (.ref (He.ga K "judge"))
  f_judge : ∃ fd, FunD K "judge" "judge" (defArgs (top 58)) (defBody (top 58)) (defScope (top 58)) [] [] (He.ga K "judge") fd
  g_is_safe : mg "is_safe" = some (.ref (He.ga K "is_safe"))
  f_is_safe : ∃ fd, FunD K "is_safe" "is_safe" (defArgs (top 59)) (defBody (top 59)) (defScope (top 59)) [] [] (He.ga K "is_safe") fd
  g_soonest : mg "soonest" = some (.ref (He.ga K "soonest"))
  f_soonest : ∃ fd, FunD K "soonest" "soonest" (defArgs (top 60)) (defBody (top 60)) (defScope (top 60)) [] [] (He.ga K "soonest") fd
  g_broken_by : mg "broken_by" = some (.ref (He.ga K "broken_by"))
  f_broken_by : ∃ fd, FunD K "broken_by" "broken_by" (defArgs (top 61)) (defBody (top 61)) (defScope (top 61)) [] [] (He.ga K "broken_by") fd
  g_check_prices : mg "check_prices" = some (.ref (He.ga K "check_prices"))
  f_check_prices : ∃ fd, FunD K "check_prices" "check_prices" (defArgs (top 67)) (defBody (top 67)) (defScope (top 67)) [] [] (He.ga K "check_prices") fd
  g_check_all : mg "check_all_choosing" = some (.ref (He.ga K "check_all_choosing"))
  f_check_all : ∃ fd, FunD K "check_all" "check_all" (defArgs (top 68)) (defBody (top 68)) (defScope (top 68)) [] [] (He.ga K "check_all_choosing") fd
  g_cost_of : mg "cost_of" = some (.ref (He.ga K "cost_of"))
  f_cost_of : ∃ fd, FunD K "cost_of" "cost_of" (defArgs (top 70)) (defBody (top 70)) (defScope (top 70)) [] [] (He.ga K "cost_of") fd
  g_places_of : mg "places_of" = some (.ref (He.ga K "places_of"))
  f_places_of : ∃ fd, FunD K "places_of" "places_of" (defArgs (top 71)) (defBody (top 71)) (defScope (top 71)) [] [] (He.ga K "places_of") fd
  g_all_choices : mg "all_choices" = some (.ref (He.ga K "all_choices"))
  f_all_choices : ∃ fd, FunD K "all_choices" "all_choices" (defArgs (top 72)) (defBody (top 72)) (defScope (top 72)) [] [] (He.ga K "all_choices") fd
  g_answer_for : mg "answer_for" = some (.ref (He.ga K "answer_for"))
  f_answer_for : ∃ fd, FunD K "answer_for" "answer_for" (defArgs (top 73)) (defBody (top 73)) (defScope (top 73)) [] [] (He.ga K "answer_for") fd
  g_choices : mg "choices" = some (.ref (He.ga K "choices"))
  f_choices : ∃ fd, FunD K "choices" "choices" (defArgs (top 74)) (defBody (top 74)) (defScope (top 74)) [] [] (He.ga K "choices") fd
  g_cheapest : mg "cheapest" = some (.ref (He.ga K "cheapest"))
  f_cheapest : ∃ fd, FunD K "cheapest" "cheapest" (defArgs (top 75)) (defBody (top 75)) (defScope (top 75)) [] [] (He.ga K "cheapest") fd
  g_least_cost : mg "least_cost" = some (.ref (He.ga K "least_cost"))
  f_least_cost : ∃ fd, FunD K "least_cost" "least_cost" (defArgs (top 76)) (defBody (top 76)) (defScope (top 76)) [] [] (He.ga K "least_cost") fd
  g_check_all2 : mg "check_all_greatest" = some (.ref (He.ga K "check_all_greatest"))
  f_check_all2 : ∃ fd, FunD K "check_all" "check_all" (defArgs (top 80)) (defBody (top 80)) (defScope (top 80)) [] [] (He.ga K "check_all_greatest") fd
  g_greatest : mg "greatest" = some (.ref (He.ga K "greatest"))
  f_greatest : ∃ fd, FunD K "greatest" "greatest" (defArgs (top 82)) (defBody (top 82)) (defScope (top 82)) [] [] (He.ga K "greatest") fd
  g_greatest_number : mg "greatest_number" = some (.ref (He.ga K "greatest_number"))
  f_greatest_number : ∃ fd, FunD K "greatest_number" "greatest_number" (defArgs (top 83)) (defBody (top 83)) (defScope (top 83)) [] [] (He.ga K "greatest_number") fd
  g__law_number : mg "_law_number" = some (.ref (He.ga K "_law_number"))
  f__law_number : ∃ fd, FunD K "_law_number" "_law_number" (defArgs (top 85)) (defBody (top 85)) (defScope (top 85)) [] [] (He.ga K "_law_number") fd
  g__law_small : mg "_law_small" = some (.ref (He.ga K "_law_small"))
  f__law_small : ∃ fd, FunD K "_law_small" "_law_small" (defArgs (top 86)) (defBody (top 86)) (defScope (top 86)) [] [] (He.ga K "_law_small") fd
  g__law_made : mg "_law_made" = some (.ref (He.ga K "_law_made"))
  f__law_made : ∃ fd, FunD K "_law_made" "_law_made" (defArgs (top 87)) (defBody (top 87)) (defScope (top 87)) [] [] (He.ga K "_law_made") fd
  g__law_not_more : mg "_law_not_more" = some (.ref (He.ga K "_law_not_more"))
  f__law_not_more : ∃ fd, FunD K "_law_not_more" "_law_not_more" (defArgs (top 88)) (defBody (top 88)) (defScope (top 88)) [] [] (He.ga K "_law_not_more") fd
  g__law_rules_right : mg "_law_rules_right" = some (.ref (He.ga K "_law_rules_right"))
  f__law_rules_right : ∃ fd, FunD K "_law_rules_right" "_law_rules_right" (defArgs (top 89)) (defBody (top 89)) (defScope (top 89)) [] [] (He.ga K "_law_rules_right") fd
  g__law_history_right : mg "_law_history_right" = some (.ref (He.ga K "_law_history_right"))
  f__law_history_right : ∃ fd, FunD K "_law_history_right" "_law_history_right" (defArgs (top 90)) (defBody (top 90)) (defScope (top 90)) [] [] (He.ga K "_law_history_right") fd
  g__law_costs_right : mg "_law_costs_right" = some (.ref (He.ga K "_law_costs_right"))
  f__law_costs_right : ∃ fd, FunD K "_law_costs_right" "_law_costs_right" (defArgs (top 91)) (defBody (top 91)) (defScope (top 91)) [] [] (He.ga K "_law_costs_right") fd
  g_law : mg "law" = some (.ref (He.ga K "law"))
  f_law : ∃ fd, FunD K "law" "law" (defArgs (top 92)) (defBody (top 92)) (defScope (top 92)) [] [] (He.ga K "law") fd
  m_but : Meth K (He.ga K "Wheel") "but" (He.ma K (He.ga K "Wheel") "but")
  f_but : ∃ fd, FunD K "but" "Wheel.but" (defArgs (inClass (top 16) 5)) (defBody (inClass (top 16) 5)) (defScope (inClass (top 16) 5)) [] [] (He.ma K (He.ga K "Wheel") "but") fd
  m_rules : Meth K (He.ga K "Wheel") "rules" (He.ma K (He.ga K "Wheel") "rules")
  f_rules : ∃ fd, FunD K "rules" "Wheel.rules" (defArgs (inClass (top 16) 4)) (defBody (inClass (top 16) 4)) (defScope (inClass (top 16) 4)) [] [] (He.ma K (He.ga K "Wheel") "rules") fd
  c_Wheel : ∃ u, mg "Wheel" = some u ∧ RelV (.ref (He.ga K "Wheel")) u
  g_Wheel : mg "Wheel" = some (.ref (He.ga K "Wheel"))
  mk_Wheel : Mk K (He.ga K "Wheel") (He.ma K (He.ga K "Wheel") "__init__")
  f_Wheel : ∃ fd, FunD K "__init__" "Wheel.__init__" (defArgs (inClass (top 16) 0)) (defBody (inClass (top 16) 0)) (defScope (inClass (top 16) 0)) [] [("freeze", .int 1), ("stop", .non), ("hold", .str "yes"), ("cut", .non)] (He.ma K (He.ga K "Wheel") "__init__") fd
  cl_Wheel : Cls K (He.ga K "Wheel")
  ins_Wheel : ∀ {H : Hp} {a dx : Addr} {fs : List (Str × V)}, H a = some (.ins (He.ga K "Wheel") dx fs) → TyX K H (.ref a) (.ref (He.ga K "Wheel"))
  n_Wheel_size : NoAttr K (He.ga K "Wheel") "size"
  n_Wheel_freeze : NoAttr K (He.ga K "Wheel") "freeze"
  n_Wheel_stop : NoAttr K (He.ga K "Wheel") "stop"
  n_Wheel_hold : NoAttr K (He.ga K "Wheel") "hold"
  n_Wheel_cut : NoAttr K (He.ga K "Wheel") "cut"
  c_Safe : ∃ u, mg "Safe" = some u ∧ RelV (.ref (He.ga K "Safe")) u
  g_Safe : mg "Safe" = some (.ref (He.ga K "Safe"))
  mk_Safe : Mk K (He.ga K "Safe") (He.ma K (He.ga K "Safe") "__init__")
  f_Safe : ∃ fd, FunD K "__init__" "Safe.__init__" (defArgs (inClass (top 50) 0)) (defBody (inClass (top 50) 0)) (defScope (inClass (top 50) 0)) [] [] (He.ma K (He.ga K "Safe") "__init__") fd
  cl_Safe : Cls K (He.ga K "Safe")
  ins_Safe : ∀ {H : Hp} {a dx : Addr} {fs : List (Str × V)}, H a = some (.ins (He.ga K "Safe") dx fs) → TyX K H (.ref a) (.ref (He.ga K "Safe"))
  n_Safe_states : NoAttr K (He.ga K "Safe") "states"
  c_Broken : ∃ u, mg "Broken" = some u ∧ RelV (.ref (He.ga K "Broken")) u
  g_Broken : mg "Broken" = some (.ref (He.ga K "Broken"))
  mk_Broken : Mk K (He.ga K "Broken") (He.ma K (He.ga K "Broken") "__init__")
  f_Broken : ∃ fd, FunD K "__init__" "Broken.__init__" (defArgs (inClass (top 51) 0)) (defBody (inClass (top 51) 0)) (defScope (inClass (top 51) 0)) [] [] (He.ma K (He.ga K "Broken") "__init__") fd
  cl_Broken : Cls K (He.ga K "Broken")
  ins_Broken : ∀ {H : Hp} {a dx : Addr} {fs : List (Str × V)}, H a = some (.ins (He.ga K "Broken") dx fs) → TyX K H (.ref a) (.ref (He.ga K "Broken"))
  n_Broken_history : NoAttr K (He.ga K "Broken") "history"
  c_Cheapest : ∃ u, mg "Cheapest" = some u ∧ RelV (.ref (He.ga K "Cheapest")) u
  g_Cheapest : mg "Cheapest" = some (.ref (He.ga K "Cheapest"))
  mk_Cheapest : Mk K (He.ga K "Cheapest") (He.ma K (He.ga K "Cheapest") "__init__")
  f_Cheapest : ∃ fd, FunD K "__init__" "Cheapest.__init__" (defArgs (inClass (top 65) 0)) (defBody (inClass (top 65) 0)) (defScope (inClass (top 65) 0)) [] [] (He.ma K (He.ga K "Cheapest") "__init__") fd
  cl_Cheapest : Cls K (He.ga K "Cheapest")
  ins_Cheapest : ∀ {H : Hp} {a dx : Addr} {fs : List (Str × V)}, H a = some (.ins (He.ga K "Cheapest") dx fs) → TyX K H (.ref a) (.ref (He.ga K "Cheapest"))
  n_Cheapest_choice : NoAttr K (He.ga K "Cheapest") "choice"
  n_Cheapest_states : NoAttr K (He.ga K "Cheapest") "states"
  n_Cheapest_against : NoAttr K (He.ga K "Cheapest") "against"
  c_NoRules : ∃ u, mg "NoRules" = some u ∧ RelV (.ref (He.ga K "NoRules")) u
  g_NoRules : mg "NoRules" = some (.ref (He.ga K "NoRules"))
  mk_NoRules : Mk K (He.ga K "NoRules") (He.ma K (He.ga K "NoRules") "__init__")
  f_NoRules : ∃ fd, FunD K "__init__" "NoRules.__init__" (defArgs (inClass (top 66) 0)) (defBody (inClass (top 66) 0)) (defScope (inClass (top 66) 0)) [] [] (He.ma K (He.ga K "NoRules") "__init__") fd
  cl_NoRules : Cls K (He.ga K "NoRules")
  ins_NoRules : ∀ {H : Hp} {a dx : Addr} {fs : List (Str × V)}, H a = some (.ins (He.ga K "NoRules") dx fs) → TyX K H (.ref a) (.ref (He.ga K "NoRules"))
  n_NoRules_against : NoAttr K (He.ga K "NoRules") "against"
  c_Greatest : ∃ u, mg "Greatest" = some u ∧ RelV (.ref (He.ga K "Greatest")) u
  g_Greatest : mg "Greatest" = some (.ref (He.ga K "Greatest"))
  mk_Greatest : Mk K (He.ga K "Greatest") (He.ma K (He.ga K "Greatest") "__init__")
  f_Greatest : ∃ fd, FunD K "__init__" "Greatest.__init__" (defArgs (inClass (top 79) 0)) (defBody (inClass (top 79) 0)) (defScope (inClass (top 79) 0)) [] [] (He.ma K (He.ga K "Greatest") "__init__") fd
  cl_Greatest : Cls K (He.ga K "Greatest")
  ins_Greatest : ∀ {H : Hp} {a dx : Addr} {fs : List (Str × V)}, H a = some (.ins (He.ga K "Greatest") dx fs) → TyX K H (.ref a) (.ref (He.ga K "Greatest"))
  n_Greatest_number : NoAttr K (He.ga K "Greatest") "number"
  n_Greatest_states : NoAttr K (He.ga K "Greatest") "states"
  n_Greatest_history : NoAttr K (He.ga K "Greatest") "history"
  k_Wheel_Wheel : PySem.W.kitOne K (.ref (He.ga K "Wheel")) (.ref (He.ga K "Wheel")) = some true
  k_Safe_Safe : PySem.W.kitOne K (.ref (He.ga K "Safe")) (.ref (He.ga K "Safe")) = some true
  k_Broken_Safe : PySem.W.kitOne K (.ref (He.ga K "Broken")) (.ref (He.ga K "Safe")) = some false
  k_Safe_Broken : PySem.W.kitOne K (.ref (He.ga K "Safe")) (.ref (He.ga K "Broken")) = some false
  k_Broken_Broken : PySem.W.kitOne K (.ref (He.ga K "Broken")) (.ref (He.ga K "Broken")) = some true
  k_Cheapest_Cheapest : PySem.W.kitOne K (.ref (He.ga K "Cheapest")) (.ref (He.ga K "Cheapest")) = some true
  k_NoRules_Cheapest : PySem.W.kitOne K (.ref (He.ga K "NoRules")) (.ref (He.ga K "Cheapest")) = some false
  c_SIZES : ∃ u, mg "SIZES" = some u ∧ RelV (.ref (He.ga K "SIZES")) u
  t_SIZES : ∀ H, SqT K H (He.ga K "SIZES") [.int 4, .int 6, .int 8]
  c_RULES : ∃ u, mg "RULES" = some u ∧ RelV (.ref (He.ga K "RULES")) u
  t_RULES : ∀ H, SqT K H (He.ga K "RULES") [.str "freeze", .str "stop", .str "hold", .str "cut"]
  c_DEEDS : ∃ u, mg "DEEDS" = some u ∧ RelV (.ref (He.ga K "DEEDS")) u
  t_DEEDS : ∀ H, SqT K H (He.ga K "DEEDS") [.str "tick", .str "write", .str "strike", .str "open", .str "close", .str "pass"]
  c_START : ∃ u, mg "START" = some u ∧ RelV (.ref (He.ga K "START")) u
  t_START : ∀ H, SqT K H (He.ga K "START") [.non, .non, .int 0]
  c_WISHES : ∃ u, mg "WISHES" = some u ∧ RelV (.ref (He.ga K "WISHES")) u
  t_WISHES : ∀ H, SqT K H (He.ga K "WISHES") [.str "early", .str "ghost", .str "gone", .str "stands"]
  c_NAMES : ∃ u, mg "NAMES" = some u ∧ RelV (.ref (He.ga K "NAMES")) u
  t_NAMES : ∀ H, SqT K H (He.ga K "NAMES") [.str "cut", .str "stop"]
  d_RULES : ∃ o, K.lookup (He.ga K "RULES") = some o ∧ o.cls = .type "tuple" ∧ o.dict = none
  c_LIMIT : ∃ u, mg "LIMIT" = some u ∧ RelV (.int 2500) u
  c_MOST_PRICED : ∃ u, mg "MOST_PRICED" = some u ∧ RelV (.int 2) u
  c_MOST_HOPES : ∃ u, mg "MOST_HOPES" = some u ∧ RelV (.int 3) u
  n_isinstance : mg "isinstance" = none
  n_int : mg "int" = none
  n_bool : mg "bool" = none
  n_str : mg "str" = none
  n_tuple : mg "tuple" = none
  n_list : mg "list" = none
  n_dict : mg "dict" = none
  n_len : mg "len" = none
  n_min : mg "min" = none
  n_max : mg "max" = none
  n_all : mg "all" = none
  n_any : mg "any" = none
  n_sum : mg "sum" = none
  n_sorted : mg "sorted" = none
  n_set : mg "set" = none
  n_zip : mg "zip" = none
  n_range : mg "range" = none
end LapW
set_option Elab.async false
set_option linter.all false
set_option maxRecDepth 100000
set_option maxHeartbeats 0
/-! The head: the top's run, what it leaves. -/
namespace LapW
open PySem PySem.Spec PyProof.Rows L2
def tfL : List He.Defn := [("all_choices", none)]
def faL0 : List He.Fa := [.glo "is_whole",
  .glo "all_for",
  .glo "can_be",
  .glo "made",
  .glo "check_wheel",
  .glo "before",
  .glo "is_age",
  .glo "is_age_or_none",
  .glo "is_row",
  .glo "is_reader",
  .glo "is_state",
  .glo "check_state",
  .glo "is_stopped",
  .glo "sees",
  .glo "is_there",
  .glo "older",
  .glo "numbered",
  .glo "is_held",
  .glo "is_ripe",
  .glo "passed",
  .glo "deeds_in",
  .glo "done",
  .glo "is_deed",
  .glo "walked",
  .glo "check_history",
  .glo "explore",
  .glo "way_to",
  .glo "sights",
  .glo "told",
  .glo "all_states"]
def faL1 : List He.Fa := [.glo "check_wish",
  .glo "somebody",
  .glo "stands_broken",
  .glo "views",
  .glo "goes_wrong",
  .glo "judged",
  .glo "judge",
  .glo "is_safe",
  .glo "soonest",
  .glo "broken_by",
  .glo "check_prices",
  .glo "check_all_choosing",
  .glo "cost_of",
  .glo "places_of",
  .glo "all_choices",
  .glo "answer_for",
  .glo "choices",
  .glo "cheapest",
  .glo "least_cost",
  .glo "check_all_greatest",
  .glo "greatest",
  .glo "greatest_number",
  .glo "_law_number",
  .glo "_law_small",
  .glo "_law_made",
  .glo "_law_not_more",
  .glo "_law_rules_right",
  .glo "_law_history_right",
  .glo "_law_costs_right",
  .glo "law"]
def faL2 : List He.Fa := [.meth "Wheel" "but",
  .meth "Wheel" "rules",
  .glo "Wheel",
  .mkr "Wheel",
  .cls "Wheel",
  .noat "Wheel" "size",
  .noat "Wheel" "freeze",
  .noat "Wheel" "stop",
  .noat "Wheel" "hold",
  .noat "Wheel" "cut",
  .glo "Safe",
  .mkr "Safe",
  .cls "Safe",
  .noat "Safe" "states",
  .glo "Broken",
  .mkr "Broken",
  .cls "Broken",
  .noat "Broken" "history",
  .glo "Cheapest",
  .mkr "Cheapest",
  .cls "Cheapest",
  .noat "Cheapest" "choice",
  .noat "Cheapest" "states",
  .noat "Cheapest" "against",
  .glo "NoRules",
  .mkr "NoRules",
  .cls "NoRules",
  .noat "NoRules" "against",
  .glo "Greatest",
  .mkr "Greatest"]
def faL3 : List He.Fa := [.cls "Greatest",
  .noat "Greatest" "number",
  .noat "Greatest" "states",
  .noat "Greatest" "history",
  .glo "SIZES",
  .glo "RULES",
  .glo "DEEDS",
  .glo "START",
  .glo "WISHES",
  .glo "NAMES",
  .int "LIMIT" 2500,
  .int "MOST_PRICED" 2,
  .int "MOST_HOPES" 3,
  .free "isinstance",
  .free "int",
  .free "bool",
  .free "str",
  .free "tuple",
  .free "list",
  .free "dict",
  .free "len",
  .free "min",
  .free "max",
  .free "all",
  .free "any",
  .free "sum",
  .free "sorted",
  .free "set",
  .free "zip",
  .free "range"]
def faL : List He.Fa := faL0 ++ faL1 ++ faL2 ++ faL3
def fnL0 : List He.DefD := [⟨("is_whole", none), "is_whole", "is_whole", defArgs (top 13), defBody (top 13), defScope (top 13), [], []⟩,
  ⟨("all_for", none), "all_for", "all_for", defArgs (top 14), defBody (top 14), defScope (top 14), [], []⟩,
  ⟨("can_be", none), "can_be", "can_be", defArgs (top 15), defBody (top 15), defScope (top 15), [], []⟩,
  ⟨("made", none), "made", "made", defArgs (top 17), defBody (top 17), defScope (top 17), [], []⟩,
  ⟨("check_wheel", none), "check_wheel", "check_wheel", defArgs (top 18), defBody (top 18), defScope (top 18), [], []⟩,
  ⟨("before", none), "before", "before", defArgs (top 19), defBody (top 19), defScope (top 19), [], []⟩,
  ⟨("is_age", none), "is_age", "is_age", defArgs (top 20), defBody (top 20), defScope (top 20), [], []⟩,
  ⟨("is_age_or_none", none), "is_age_or_none", "is_age_or_none", defArgs (top 25), defBody (top 25), defScope (top 25), [], []⟩,
  ⟨("is_row", none), "is_row", "is_row", defArgs (top 26), defBody (top 26), defScope (top 26), [], []⟩,
  ⟨("is_reader", none), "is_reader", "is_reader", defArgs (top 27), defBody (top 27), defScope (top 27), [], []⟩,
  ⟨("is_state", none), "is_state", "is_state", defArgs (top 28), defBody (top 28), defScope (top 28), [], []⟩,
  ⟨("check_state", none), "check_state", "check_state", defArgs (top 29), defBody (top 29), defScope (top 29), [], []⟩,
  ⟨("is_stopped", none), "is_stopped", "is_stopped", defArgs (top 30), defBody (top 30), defScope (top 30), [], []⟩,
  ⟨("sees", none), "sees", "sees", defArgs (top 31), defBody (top 31), defScope (top 31), [], []⟩,
  ⟨("is_there", none), "is_there", "is_there", defArgs (top 32), defBody (top 32), defScope (top 32), [], []⟩,
  ⟨("older", none), "older", "older", defArgs (top 33), defBody (top 33), defScope (top 33), [], []⟩,
  ⟨("numbered", none), "numbered", "numbered", defArgs (top 34), defBody (top 34), defScope (top 34), [], []⟩,
  ⟨("is_held", none), "is_held", "is_held", defArgs (top 35), defBody (top 35), defScope (top 35), [], []⟩,
  ⟨("is_ripe", none), "is_ripe", "is_ripe", defArgs (top 36), defBody (top 36), defScope (top 36), [], []⟩,
  ⟨("passed", none), "passed", "passed", defArgs (top 37), defBody (top 37), defScope (top 37), [], []⟩,
  ⟨("deeds_in", none), "deeds_in", "deeds_in", defArgs (top 38), defBody (top 38), defScope (top 38), [], []⟩,
  ⟨("done", none), "done", "done", defArgs (top 39), defBody (top 39), defScope (top 39), [], []⟩,
  ⟨("is_deed", none), "is_deed", "is_deed", defArgs (top 40), defBody (top 40), defScope (top 40), [], []⟩,
  ⟨("walked", none), "walked", "walked", defArgs (top 41), defBody (top 41), defScope (top 41), [], []⟩,
  ⟨("check_history", none), "check_history", "check_history", defArgs (top 42), defBody (top 42), defScope (top 42), [], []⟩,
  ⟨("explore", none), "explore", "explore", defArgs (top 43), defBody (top 43), defScope (top 43), [], []⟩,
  ⟨("way_to", none), "way_to", "way_to", defArgs (top 44), defBody (top 44), defScope (top 44), [], []⟩,
  ⟨("sights", none), "sights", "sights", defArgs (top 45), defBody (top 45), defScope (top 45), [], []⟩,
  ⟨("told", none), "told", "told", defArgs (top 46), defBody (top 46), defScope (top 46), [], []⟩,
  ⟨("all_states", none), "all_states", "all_states", defArgs (top 47), defBody (top 47), defScope (top 47), [], []⟩]
def fnL1 : List He.DefD := [⟨("check_wish", none), "check_wish", "check_wish", defArgs (top 52), defBody (top 52), defScope (top 52), [], []⟩,
  ⟨("somebody", none), "somebody", "somebody", defArgs (top 53), defBody (top 53), defScope (top 53), [], []⟩,
  ⟨("stands_broken", none), "stands_broken", "stands_broken", defArgs (top 54), defBody (top 54), defScope (top 54), [], []⟩,
  ⟨("views", none), "views", "views", defArgs (top 55), defBody (top 55), defScope (top 55), [], []⟩,
  ⟨("goes_wrong", none), "goes_wrong", "goes_wrong", defArgs (top 56), defBody (top 56), defScope (top 56), [], []⟩,
  ⟨("judged", none), "judged", "judged", defArgs (top 57), defBody (top 57), defScope (top 57), [], []⟩,
  ⟨("judge", none), "judge", "judge", defArgs (top 58), defBody (top 58), defScope (top 58), [], []⟩,
  ⟨("is_safe", none), "is_safe", "is_safe", defArgs (top 59), defBody (top 59), defScope (top 59), [], []⟩,
  ⟨("soonest", none), "soonest", "soonest", defArgs (top 60), defBody (top 60), defScope (top 60), [], []⟩,
  ⟨("broken_by", none), "broken_by", "broken_by", defArgs (top 61), defBody (top 61), defScope (top 61), [], []⟩,
  ⟨("check_prices", none), "check_prices", "check_prices", defArgs (top 67), defBody (top 67), defScope (top 67), [], []⟩,
  ⟨("check_all_choosing", none), "check_all", "check_all", defArgs (top 68), defBody (top 68), defScope (top 68), [], []⟩,
  ⟨("cost_of", none), "cost_of", "cost_of", defArgs (top 70), defBody (top 70), defScope (top 70), [], []⟩,
  ⟨("places_of", none), "places_of", "places_of", defArgs (top 71), defBody (top 71), defScope (top 71), [], []⟩,
  ⟨("all_choices", none), "all_choices", "all_choices", defArgs (top 72), defBody (top 72), defScope (top 72), [], []⟩,
  ⟨("answer_for", none), "answer_for", "answer_for", defArgs (top 73), defBody (top 73), defScope (top 73), [], []⟩,
  ⟨("choices", none), "choices", "choices", defArgs (top 74), defBody (top 74), defScope (top 74), [], []⟩,
  ⟨("cheapest", none), "cheapest", "cheapest", defArgs (top 75), defBody (top 75), defScope (top 75), [], []⟩,
  ⟨("least_cost", none), "least_cost", "least_cost", defArgs (top 76), defBody (top 76), defScope (top 76), [], []⟩,
  ⟨("check_all_greatest", none), "check_all", "check_all", defArgs (top 80), defBody (top 80), defScope (top 80), [], []⟩,
  ⟨("greatest", none), "greatest", "greatest", defArgs (top 82), defBody (top 82), defScope (top 82), [], []⟩,
  ⟨("greatest_number", none), "greatest_number", "greatest_number", defArgs (top 83), defBody (top 83), defScope (top 83), [], []⟩,
  ⟨("_law_number", none), "_law_number", "_law_number", defArgs (top 85), defBody (top 85), defScope (top 85), [], []⟩,
  ⟨("_law_small", none), "_law_small", "_law_small", defArgs (top 86), defBody (top 86), defScope (top 86), [], []⟩,
  ⟨("_law_made", none), "_law_made", "_law_made", defArgs (top 87), defBody (top 87), defScope (top 87), [], []⟩,
  ⟨("_law_not_more", none), "_law_not_more", "_law_not_more", defArgs (top 88), defBody (top 88), defScope (top 88), [], []⟩,
  ⟨("_law_rules_right", none), "_law_rules_right", "_law_rules_right", defArgs (top 89), defBody (top 89), defScope (top 89), [], []⟩,
  ⟨("_law_history_right", none), "_law_history_right", "_law_history_right", defArgs (top 90), defBody (top 90), defScope (top 90), [], []⟩,
  ⟨("_law_costs_right", none), "_law_costs_right", "_law_costs_right", defArgs (top 91), defBody (top 91), defScope (top 91), [], []⟩,
  ⟨("law", none), "law", "law", defArgs (top 92), defBody (top 92), defScope (top 92), [], []⟩]
def fnL2 : List He.DefD := [⟨("Wheel", some "but"), "but", "Wheel.but", defArgs (inClass (top 16) 5), defBody (inClass (top 16) 5), defScope (inClass (top 16) 5), [], []⟩,
  ⟨("Wheel", some "rules"), "rules", "Wheel.rules", defArgs (inClass (top 16) 4), defBody (inClass (top 16) 4), defScope (inClass (top 16) 4), [], []⟩,
  ⟨("Wheel", some "__init__"), "__init__", "Wheel.__init__", defArgs (inClass (top 16) 0), defBody (inClass (top 16) 0), defScope (inClass (top 16) 0), [], [("freeze", .int 1), ("stop", .non), ("hold", .str "yes"), ("cut", .non)]⟩,
  ⟨("Safe", some "__init__"), "__init__", "Safe.__init__", defArgs (inClass (top 50) 0), defBody (inClass (top 50) 0), defScope (inClass (top 50) 0), [], []⟩,
  ⟨("Broken", some "__init__"), "__init__", "Broken.__init__", defArgs (inClass (top 51) 0), defBody (inClass (top 51) 0), defScope (inClass (top 51) 0), [], []⟩,
  ⟨("Cheapest", some "__init__"), "__init__", "Cheapest.__init__", defArgs (inClass (top 65) 0), defBody (inClass (top 65) 0), defScope (inClass (top 65) 0), [], []⟩,
  ⟨("NoRules", some "__init__"), "__init__", "NoRules.__init__", defArgs (inClass (top 66) 0), defBody (inClass (top 66) 0), defScope (inClass (top 66) 0), [], []⟩,
  ⟨("Greatest", some "__init__"), "__init__", "Greatest.__init__", defArgs (inClass (top 79) 0), defBody (inClass (top 79) 0), defScope (inClass (top 79) 0), [], []⟩]
def fnL : List He.DefD := fnL0 ++ fnL1 ++ fnL2
def loose0 : List Str := ["_wall", "__name__", "LapError", "BadWheel", "BadState", "BadHistory", "BadWish", "TooLarge", "BadName", "BadPrices", "SIZES", "RULES", "is_whole", "all_for", "can_be", "Wheel", "made", "check_wheel", "before", "is_age", "LIMIT", "DEEDS", "START", "is_age_or_none", "is_row", "is_reader", "is_state", "check_state", "is_stopped", "sees"]
def loose1 : List Str := ["is_there", "older", "numbered", "is_held", "is_ripe", "passed", "deeds_in", "done", "is_deed", "walked", "check_history", "explore", "way_to", "sights", "told", "all_states", "WISHES", "Safe", "Broken", "check_wish", "somebody", "stands_broken", "views", "goes_wrong", "judged", "judge", "is_safe", "soonest", "broken_by", "MOST_PRICED"]
def loose2 : List Str := ["MOST_HOPES", "Cheapest", "NoRules", "check_prices", "check_all", "check_all_choosing", "cost_of", "places_of", "all_choices", "answer_for", "choices", "cheapest", "least_cost", "NAMES", "Greatest", "check_all_greatest", "greatest", "greatest_number", "_law_number", "_law_small", "_law_made", "_law_not_more", "_law_rules_right", "_law_history_right", "_law_costs_right"]
def looseL : List Str := loose0 ++ loose1 ++ loose2
def insB (K : PySem.W.Frag) (x : Str) : Bool := He.eqO (PySem.W.findIn K (.ref (He.ga K x)) "__class__") (some (some (.builtin "object.__class__"))) && decide (PySem.W.mroIn K (He.ga K x) (.type "object") = some true)
def noD (K : PySem.W.Frag) (x : Str) : Bool := match K.lookup (He.ga K x) with
  | some ⟨.type c, none, _, _⟩ => decide (c = "tuple")
  | _ => false
theorem noD_ok {K : PySem.W.Frag} {x : Str} (h : noD K x = true) : ∃ o, K.lookup (He.ga K x) = some o ∧ o.cls = .type "tuple" ∧ o.dict = none := by
  unfold noD at h
  split at h
  · rename_i c d s e
    exact ⟨_, e, congrArg Value.type (of_decide_eq_true h), rfl⟩
  · cases h
def exL (K : PySem.W.Frag) : Bool :=
  [He.eqO (PySem.W.specialIn K (.builtin "object.__class__") "__get__") (some (some (.builtin "getset_descriptor.__get__"))),
   decide (PySem.W.takesIn K (.builtin "object.__class__") = some true),
   insB K "Wheel",
   insB K "Safe",
   insB K "Broken",
   insB K "Cheapest",
   insB K "NoRules",
   insB K "Greatest",
   decide (PySem.W.kitOne K (.ref (He.ga K "Wheel")) (.ref (He.ga K "Wheel")) = some true),
   decide (PySem.W.kitOne K (.ref (He.ga K "Safe")) (.ref (He.ga K "Safe")) = some true),
   decide (PySem.W.kitOne K (.ref (He.ga K "Broken")) (.ref (He.ga K "Safe")) = some false),
   decide (PySem.W.kitOne K (.ref (He.ga K "Safe")) (.ref (He.ga K "Broken")) = some false),
   decide (PySem.W.kitOne K (.ref (He.ga K "Broken")) (.ref (He.ga K "Broken")) = some true),
   decide (PySem.W.kitOne K (.ref (He.ga K "Cheapest")) (.ref (He.ga K "Cheapest")) = some true),
   decide (PySem.W.kitOne K (.ref (He.ga K "NoRules")) (.ref (He.ga K "Cheapest")) = some false),
   He.tupB K "SIZES" [.int 4, .int 6, .int 8],
   He.tupB K "RULES" [.str "freeze", .str "stop", .str "hold", .str "cut"],
   He.tupB K "DEEDS" [.str "tick", .str "write", .str "strike", .str "open", .str "close", .str "pass"],
   He.tupB K "START" [.non, .non, .int 0],
   He.tupB K "WISHES" [.str "early", .str "ghost", .str "gone", .str "stands"],
   He.tupB K "NAMES" [.str "cut", .str "stop"],
   noD K "RULES"].all id
theorem exL_at {K : PySem.W.Frag} (h : exL K = true) (i : Nat) {b : Bool} (e : [He.eqO (PySem.W.specialIn K (.builtin "object.__class__") "__get__") (some (some (.builtin "getset_descriptor.__get__"))),
   decide (PySem.W.takesIn K (.builtin "object.__class__") = some true),
   insB K "Wheel",
   insB K "Safe",
   insB K "Broken",
   insB K "Cheapest",
   insB K "NoRules",
   insB K "Greatest",
   decide (PySem.W.kitOne K (.ref (He.ga K "Wheel")) (.ref (He.ga K "Wheel")) = some true),
   decide (PySem.W.kitOne K (.ref (He.ga K "Safe")) (.ref (He.ga K "Safe")) = some true),
   decide (PySem.W.kitOne K (.ref (He.ga K "Broken")) (.ref (He.ga K "Safe")) = some false),
   decide (PySem.W.kitOne K (.ref (He.ga K "Safe")) (.ref (He.ga K "Broken")) = some false),
   decide (PySem.W.kitOne K (.ref (He.ga K "Broken")) (.ref (He.ga K "Broken")) = some true),
   decide (PySem.W.kitOne K (.ref (He.ga K "Cheapest")) (.ref (He.ga K "Cheapest")) = some true),
   decide (PySem.W.kitOne K (.ref (He.ga K "NoRules")) (.ref (He.ga K "Cheapest")) = some false),
   He.tupB K "SIZES" [.int 4, .int 6, .int 8],
   He.tupB K "RULES" [.str "freeze", .str "stop", .str "hold", .str "cut"],
   He.tupB K "DEEDS" [.str "tick", .str "write", .str "strike", .str "open", .str "close", .str "pass"],
   He.tupB K "START" [.non, .non, .int 0],
   He.tupB K "WISHES" [.str "early", .str "ghost", .str "gone", .str "stands"],
   He.tupB K "NAMES" [.str "cut", .str "stop"],
   noD K "RULES"][i]? = some b) : b = true := List.all_eq_true.mp h b (List.mem_of_getElem? e)
theorem tx_of {K : PySem.W.Frag} {h : Heap} {mg : Str → Option Value} {w : World} (X : K.In h) (G : h.Ns mainGlobals mg) (c : He.SaysX faL fnL [] tfL exL w h K) : Tx K mg :=
  have e := c.more
  have hn := He.eqO_ok (exL_at e 0 rfl)
  have tk := of_decide_eq_true (exL_at e 1 rfl)
  { g_is_whole := He.glo_ok X G (c.t.d.fact 0 rfl),
    f_is_whole := c.t.d.def_ 0 rfl,
    g_all_for := He.glo_ok X G (c.t.d.fact 1 rfl),
    f_all_for := c.t.d.def_ 1 rfl,
    g_can_be := He.glo_ok X G (c.t.d.fact 2 rfl),
    f_can_be := c.t.d.def_ 2 rfl,
    g_made := He.glo_ok X G (c.t.d.fact 3 rfl),
    f_made := c.t.d.def_ 3 rfl,
    g_check_wheel := He.glo_ok X G (c.t.d.fact 4 rfl),
    f_check_wheel := c.t.d.def_ 4 rfl,
    g_before := He.glo_ok X G (c.t.d.fact 5 rfl),
    f_before := c.t.d.def_ 5 rfl,
    g_is_age := He.glo_ok X G (c.t.d.fact 6 rfl),
    f_is_age := c.t.d.def_ 6 rfl,
    g_is_age_or_none := He.glo_ok X G (c.t.d.fact 7 rfl),
    f_is_age_or_none := c.t.d.def_ 7 rfl,
    g_is_row := He.glo_ok X G (c.t.d.fact 8 rfl),
    f_is_row := c.t.d.def_ 8 rfl,
    g_is_reader := He.glo_ok X G (c.t.d.fact 9 rfl),
    f_is_reader := c.t.d.def_ 9 rfl,
    g_is_state := He.glo_ok X G (c.t.d.fact 10 rfl),
    f_is_state := c.t.d.def_ 10 rfl,
    g_check_state := He.glo_ok X G (c.t.d.fact 11 rfl),
    f_check_state := c.t.d.def_ 11 rfl,
    g_is_stopped := He.glo_ok X G (c.t.d.fact 12 rfl),
    f_is_stopped := c.t.d.def_ 12 rfl,
    g_sees := He.glo_ok X G (c.t.d.fact 13 rfl),
    f_sees := c.t.d.def_ 13 rfl,
    g_is_there := He.glo_ok X G (c.t.d.fact 14 rfl),
    f_is_there := c.t.d.def_ 14 rfl,
    g_older := He.glo_ok X G (c.t.d.fact 15 rfl),
    f_older := c.t.d.def_ 15 rfl,
    g_numbered := He.glo_ok X G (c.t.d.fact 16 rfl),
    f_numbered := c.t.d.def_ 16 rfl,
    g_is_held := He.glo_ok X G (c.t.d.fact 17 rfl),
    f_is_held := c.t.d.def_ 17 rfl,
    g_is_ripe := He.glo_ok X G (c.t.d.fact 18 rfl),
    f_is_ripe := c.t.d.def_ 18 rfl,
    g_passed := He.glo_ok X G (c.t.d.fact 19 rfl),
    f_passed := c.t.d.def_ 19 rfl,
    g_deeds_in := He.glo_ok X G (c.t.d.fact 20 rfl),
    f_deeds_in := c.t.d.def_ 20 rfl,
    g_done := He.glo_ok X G (c.t.d.fact 21 rfl),
    f_done := c.t.d.def_ 21 rfl,
    g_is_deed := He.glo_ok X G (c.t.d.fact 22 rfl),
    f_is_deed := c.t.d.def_ 22 rfl,
    g_walked := He.glo_ok X G (c.t.d.fact 23 rfl),
    f_walked := c.t.d.def_ 23 rfl,
    g_check_history := He.glo_ok X G (c.t.d.fact 24 rfl),
    f_check_history := c.t.d.def_ 24 rfl,
    g_explore := He.glo_ok X G (c.t.d.fact 25 rfl),
    f_explore := c.t.d.def_ 25 rfl,
    g_way_to := He.glo_ok X G (c.t.d.fact 26 rfl),
    f_way_to := c.t.d.def_ 26 rfl,
    g_sights := He.glo_ok X G (c.t.d.fact 27 rfl),
    f_sights := c.t.d.def_ 27 rfl,
    g_told := He.glo_ok X G (c.t.d.fact 28 rfl),
    f_told := c.t.d.def_ 28 rfl,
    g_all_states := He.glo_ok X G (c.t.d.fact 29 rfl),
    f_all_states := c.t.d.def_ 29 rfl,
    g_check_wish := He.glo_ok X G (c.t.d.fact 30 rfl),
    f_check_wish := c.t.d.def_ 30 rfl,
    g_somebody := He.glo_ok X G (c.t.d.fact 31 rfl),
    f_somebody := c.t.d.def_ 31 rfl,
    g_stands_broken := He.glo_ok X G (c.t.d.fact 32 rfl),
    f_stands_broken := c.t.d.def_ 32 rfl,
    g_views := He.glo_ok X G (c.t.d.fact 33 rfl),
    f_views := c.t.d.def_ 33 rfl,
    g_goes_wrong := He.glo_ok X G (c.t.d.fact 34 rfl),
    f_goes_wrong := c.t.d.def_ 34 rfl,
    g_judged := He.glo_ok X G (c.t.d.fact 35 rfl),
    f_judged := c.t.d.def_ 35 rfl,
    g_judge := He.glo_ok X G (c.t.d.fact 36 rfl),
    f_judge := c.t.d.def_ 36 rfl,
    g_is_safe := He.glo_ok X G (c.t.d.fact 37 rfl),
    f_is_safe := c.t.d.def_ 37 rfl,
    g_soonest := He.glo_ok X G (c.t.d.fact 38 rfl),
    f_soonest := c.t.d.def_ 38 rfl,
    g_broken_by := He.glo_ok X G (c.t.d.fact 39 rfl),
    f_broken_by := c.t.d.def_ 39 rfl,
    g_check_prices := He.glo_ok X G (c.t.d.fact 40 rfl),
    f_check_prices := c.t.d.def_ 40 rfl,
    g_check_all := He.glo_ok X G (c.t.d.fact 41 rfl),
    f_check_all := c.t.d.def_ 41 rfl,
    g_cost_of := He.glo_ok X G (c.t.d.fact 42 rfl),
    f_cost_of := c.t.d.def_ 42 rfl,
    g_places_of := He.glo_ok X G (c.t.d.fact 43 rfl),
    f_places_of := c.t.d.def_ 43 rfl,
    g_all_choices := He.glo_ok X G (c.t.d.fact 44 rfl),
    f_all_choices := c.t.d.def_ 44 rfl,
    g_answer_for := He.glo_ok X G (c.t.d.fact 45 rfl),
    f_answer_for := c.t.d.def_ 45 rfl,
    g_choices := He.glo_ok X G (c.t.d.fact 46 rfl),
    f_choices := c.t.d.def_ 46 rfl,
    g_cheapest := He.glo_ok X G (c.t.d.fact 47 rfl),
    f_cheapest := c.t.d.def_ 47 rfl,
    g_least_cost := He.glo_ok X G (c.t.d.fact 48 rfl),
    f_least_cost := c.t.d.def_ 48 rfl,
    g_check_all2 := He.glo_ok X G (c.t.d.fact 49 rfl),
    f_check_all2 := c.t.d.def_ 49 rfl,
    g_greatest := He.glo_ok X G (c.t.d.fact 50 rfl),
    f_greatest := c.t.d.def_ 50 rfl,
    g_greatest_number := He.glo_ok X G (c.t.d.fact 51 rfl),
    f_greatest_number := c.t.d.def_ 51 rfl,
    g__law_number := He.glo_ok X G (c.t.d.fact 52 rfl),
    f__law_number := c.t.d.def_ 52 rfl,
    g__law_small := He.glo_ok X G (c.t.d.fact 53 rfl),
    f__law_small := c.t.d.def_ 53 rfl,
    g__law_made := He.glo_ok X G (c.t.d.fact 54 rfl),
    f__law_made := c.t.d.def_ 54 rfl,
    g__law_not_more := He.glo_ok X G (c.t.d.fact 55 rfl),
    f__law_not_more := c.t.d.def_ 55 rfl,
    g__law_rules_right := He.glo_ok X G (c.t.d.fact 56 rfl),
    f__law_rules_right := c.t.d.def_ 56 rfl,
    g__law_history_right := He.glo_ok X G (c.t.d.fact 57 rfl),
    f__law_history_right := c.t.d.def_ 57 rfl,
    g__law_costs_right := He.glo_ok X G (c.t.d.fact 58 rfl),
    f__law_costs_right := c.t.d.def_ 58 rfl,
    g_law := He.glo_ok X G (c.t.d.fact 59 rfl),
    f_law := c.t.d.def_ 59 rfl,
    m_but := He.meth_ok (c.t.d.fact 60 rfl),
    f_but := c.t.d.def_ 60 rfl,
    m_rules := He.meth_ok (c.t.d.fact 61 rfl),
    f_rules := c.t.d.def_ 61 rfl,
    c_Wheel := ⟨_, He.glo_ok X G (c.t.d.fact 62 rfl), rfl⟩,
    g_Wheel := He.glo_ok X G (c.t.d.fact 62 rfl),
    mk_Wheel := He.mkr_ok (c.t.d.fact 63 rfl),
    f_Wheel := c.t.d.def_ 62 rfl,
    cl_Wheel := He.cls_ok (c.t.d.fact 64 rfl),
    ins_Wheel := fun ea => .base (.ins ea (He.cls_ok (c.t.d.fact 64 rfl)) (He.eqO_ok (He.ba (exL_at e 2 rfl)).1) hn tk (of_decide_eq_true (He.ba (exL_at e 2 rfl)).2)),
    n_Wheel_size := He.noat_ok (c.t.d.fact 65 rfl),
    n_Wheel_freeze := He.noat_ok (c.t.d.fact 66 rfl),
    n_Wheel_stop := He.noat_ok (c.t.d.fact 67 rfl),
    n_Wheel_hold := He.noat_ok (c.t.d.fact 68 rfl),
    n_Wheel_cut := He.noat_ok (c.t.d.fact 69 rfl),
    c_Safe := ⟨_, He.glo_ok X G (c.t.d.fact 70 rfl), rfl⟩,
    g_Safe := He.glo_ok X G (c.t.d.fact 70 rfl),
    mk_Safe := He.mkr_ok (c.t.d.fact 71 rfl),
    f_Safe := c.t.d.def_ 63 rfl,
    cl_Safe := He.cls_ok (c.t.d.fact 72 rfl),
    ins_Safe := fun ea => .base (.ins ea (He.cls_ok (c.t.d.fact 72 rfl)) (He.eqO_ok (He.ba (exL_at e 3 rfl)).1) hn tk (of_decide_eq_true (He.ba (exL_at e 3 rfl)).2)),
    n_Safe_states := He.noat_ok (c.t.d.fact 73 rfl),
    c_Broken := ⟨_, He.glo_ok X G (c.t.d.fact 74 rfl), rfl⟩,
    g_Broken := He.glo_ok X G (c.t.d.fact 74 rfl),
    mk_Broken := He.mkr_ok (c.t.d.fact 75 rfl),
    f_Broken := c.t.d.def_ 64 rfl,
    cl_Broken := He.cls_ok (c.t.d.fact 76 rfl),
    ins_Broken := fun ea => .base (.ins ea (He.cls_ok (c.t.d.fact 76 rfl)) (He.eqO_ok (He.ba (exL_at e 4 rfl)).1) hn tk (of_decide_eq_true (He.ba (exL_at e 4 rfl)).2)),
    n_Broken_history := He.noat_ok (c.t.d.fact 77 rfl),
    c_Cheapest := ⟨_, He.glo_ok X G (c.t.d.fact 78 rfl), rfl⟩,
    g_Cheapest := He.glo_ok X G (c.t.d.fact 78 rfl),
    mk_Cheapest := He.mkr_ok (c.t.d.fact 79 rfl),
    f_Cheapest := c.t.d.def_ 65 rfl,
    cl_Cheapest := He.cls_ok (c.t.d.fact 80 rfl),
    ins_Cheapest := fun ea => .base (.ins ea (He.cls_ok (c.t.d.fact 80 rfl)) (He.eqO_ok (He.ba (exL_at e 5 rfl)).1) hn tk (of_decide_eq_true (He.ba (exL_at e 5 rfl)).2)),
    n_Cheapest_choice := He.noat_ok (c.t.d.fact 81 rfl),
    n_Cheapest_states := He.noat_ok (c.t.d.fact 82 rfl),
    n_Cheapest_against := He.noat_ok (c.t.d.fact 83 rfl),
    c_NoRules := ⟨_, He.glo_ok X G (c.t.d.fact 84 rfl), rfl⟩,
    g_NoRules := He.glo_ok X G (c.t.d.fact 84 rfl),
    mk_NoRules := He.mkr_ok (c.t.d.fact 85 rfl),
    f_NoRules := c.t.d.def_ 66 rfl,
    cl_NoRules := He.cls_ok (c.t.d.fact 86 rfl),
    ins_NoRules := fun ea => .base (.ins ea (He.cls_ok (c.t.d.fact 86 rfl)) (He.eqO_ok (He.ba (exL_at e 6 rfl)).1) hn tk (of_decide_eq_true (He.ba (exL_at e 6 rfl)).2)),
    n_NoRules_against := He.noat_ok (c.t.d.fact 87 rfl),
    c_Greatest := ⟨_, He.glo_ok X G (c.t.d.fact 88 rfl), rfl⟩,
    g_Greatest := He.glo_ok X G (c.t.d.fact 88 rfl),
    mk_Greatest := He.mkr_ok (c.t.d.fact 89 rfl),
    f_Greatest := c.t.d.def_ 67 rfl,
    cl_Greatest := He.cls_ok (c.t.d.fact 90 rfl),
    ins_Greatest := fun ea => .base (.ins ea (He.cls_ok (c.t.d.fact 90 rfl)) (He.eqO_ok (He.ba (exL_at e 7 rfl)).1) hn tk (of_decide_eq_true (He.ba (exL_at e 7 rfl)).2)),
    n_Greatest_number := He.noat_ok (c.t.d.fact 91 rfl),
    n_Greatest_states := He.noat_ok (c.t.d.fact 92 rfl),
    n_Greatest_history := He.noat_ok (c.t.d.fact 93 rfl),
    k_Wheel_Wheel := of_decide_eq_true (exL_at e 8 rfl),
    k_Safe_Safe := of_decide_eq_true (exL_at e 9 rfl),
    k_Broken_Safe := of_decide_eq_true (exL_at e 10 rfl),
    k_Safe_Broken := of_decide_eq_true (exL_at e 11 rfl),
    k_Broken_Broken := of_decide_eq_true (exL_at e 12 rfl),
    k_Cheapest_Cheapest := of_decide_eq_true (exL_at e 13 rfl),
    k_NoRules_Cheapest := of_decide_eq_true (exL_at e 14 rfl),
    c_SIZES := ⟨_, He.glo_ok X G (c.t.d.fact 94 rfl), rfl⟩,
    t_SIZES := fun H => He.tupB_ok (exL_at e 15 rfl) H,
    c_RULES := ⟨_, He.glo_ok X G (c.t.d.fact 95 rfl), rfl⟩,
    t_RULES := fun H => He.tupB_ok (exL_at e 16 rfl) H,
    c_DEEDS := ⟨_, He.glo_ok X G (c.t.d.fact 96 rfl), rfl⟩,
    t_DEEDS := fun H => He.tupB_ok (exL_at e 17 rfl) H,
    c_START := ⟨_, He.glo_ok X G (c.t.d.fact 97 rfl), rfl⟩,
    t_START := fun H => He.tupB_ok (exL_at e 18 rfl) H,
    c_WISHES := ⟨_, He.glo_ok X G (c.t.d.fact 98 rfl), rfl⟩,
    t_WISHES := fun H => He.tupB_ok (exL_at e 19 rfl) H,
    c_NAMES := ⟨_, He.glo_ok X G (c.t.d.fact 99 rfl), rfl⟩,
    t_NAMES := fun H => He.tupB_ok (exL_at e 20 rfl) H,
    d_RULES := noD_ok (exL_at e 21 rfl),
    c_LIMIT := let ⟨t, h⟩ := He.int_ok X G (c.t.d.fact 100 rfl); ⟨_, h, ⟨t, rfl⟩⟩,
    c_MOST_PRICED := let ⟨t, h⟩ := He.int_ok X G (c.t.d.fact 101 rfl); ⟨_, h, ⟨t, rfl⟩⟩,
    c_MOST_HOPES := let ⟨t, h⟩ := He.int_ok X G (c.t.d.fact 102 rfl); ⟨_, h, ⟨t, rfl⟩⟩,
    n_isinstance := He.free_ok X G (c.t.d.fact 103 rfl),
    n_int := He.free_ok X G (c.t.d.fact 104 rfl),
    n_bool := He.free_ok X G (c.t.d.fact 105 rfl),
    n_str := He.free_ok X G (c.t.d.fact 106 rfl),
    n_tuple := He.free_ok X G (c.t.d.fact 107 rfl),
    n_list := He.free_ok X G (c.t.d.fact 108 rfl),
    n_dict := He.free_ok X G (c.t.d.fact 109 rfl),
    n_len := He.free_ok X G (c.t.d.fact 110 rfl),
    n_min := He.free_ok X G (c.t.d.fact 111 rfl),
    n_max := He.free_ok X G (c.t.d.fact 112 rfl),
    n_all := He.free_ok X G (c.t.d.fact 113 rfl),
    n_any := He.free_ok X G (c.t.d.fact 114 rfl),
    n_sum := He.free_ok X G (c.t.d.fact 115 rfl),
    n_sorted := He.free_ok X G (c.t.d.fact 116 rfl),
    n_set := He.free_ok X G (c.t.d.fact 117 rfl),
    n_zip := He.free_ok X G (c.t.d.fact 118 rfl),
    n_range := He.free_ok X G (c.t.d.fact 119 rfl) }
abbrev RwL : PySem.W.OpenRow := PySem.W.OpenLaw.row PySem.Challenge.rw_lapnumbers_k09_whole_hangs_together
def asNL : List Addr := List.range 781
def KyL (g : Addr → Option Obj) : PySem.W.Frag := He.frT g asNL
def obYL (g : Addr → Option Obj) : He.AlX := (He.obsT faL fnL [] (KyL g), exL (KyL g) && He.tabsB g tfL (KyL g))
theorem saysYL {w : World} {h : Heap} (e : obYL h.get? = He.valX fnL [] w) : He.SaysX faL fnL [] tfL exL w h (KyL h.get?) := by
  have e2 : (exL (KyL h.get?) && He.tabsB h.get? tfL (KyL h.get?)) = true := congrArg Prod.snd e
  have key : ∀ p ∈ tfL, PySem.W.codeHdIn (KyL h.get?) (He.cT (KyL h.get?) p).1 (He.cT (KyL h.get?) p).2 = true ∧ ∃ o, h.get? (He.cT (KyL h.get?) p).2 = some o ∧ He.emptyTab o = true := by
    intro p hp
    have b := He.ba (List.all_eq_true.mp (He.ba e2).2 p hp)
    refine ⟨b.1, ?_⟩
    have b2 := b.2
    split at b2
    · exact ⟨_, ‹_›, b2⟩
    · cases b2
  refine { t := congrArg Prod.fst e, more := (He.ba e2).1, hd := fun p hp => (key p hp).1, out := fun p hp => ?_, empty := fun p hp => ?_ }
  · obtain ⟨_, _, q, z⟩ := key p hp
    exact He.frT_none q z
  · obtain ⟨_, _, q, z⟩ := key p hp
    rw [q, He.emptyTab_eq z]
/-- what is looked at: all of the heap -/
def hkL : PySem.W.Hook where
  α := He.AlX
  obs := fun s => obYL s.heap.get?
  val := fun w => He.valX fnL [] w
  says := fun w h => ∃ K : PySem.W.Frag, K.In h ∧ He.SaysX faL fnL [] tfL exL w h K
  of := fun _ _ e => ⟨_, He.frT_in, saysYL e⟩
  keeps := (He.hookX 0 faL fnL [] tfL exL).keeps
def obL (s : PySem.W.SharedT) : He.AlX := obYL (HandSHeadRun.getT s)
theorem obL_eq (s : PySem.W.SharedT) : obL s = hkL.obs s.abs := congrArg obYL (funext (HandSHeadRun.getT_eq s))
theorem look3 {α β γ δ : Type} {o : Option α} {f : α → β} {g : α → γ} {h : α → δ} {a : β} {b : γ} {c : δ} (hf : o.map (fun s => (f s, g s)) = some (a, b)) (hh : o.map h = some c) : o.map (fun s => (f s, g s, h s)) = some (a, b, c) := by
  cases o with
  | none => cases hh
  | some x =>
    have h1 : (f x, g x) = (a, b) := Option.some.inj hf
    have h2 : h x = c := Option.some.inj hh
    show some (f x, g x, h x) = some (a, b, c)
    rw [← h2, ← (Prod.mk.inj h1).1, ← (Prod.mk.inj h1).2]
section
open HandSHeadRun PySem.W
variable (w : World)
noncomputable abbrev endL (w : World) (os : OsState) : Option SharedT := endF (stepQ (denQ tabQ) RwL.prog w) 6000 RwL.prog w os
theorem runA (os : OsState) : (endL w os).map (fun s => (looksF RwL.prog (boot_heap w.params) s.abs, seenQ (view RwL.prog [92]) looseL (importedModules RwL.prog.main.body) (fun s => xlAt (view RwL.prog [92]) [] s && recOk RwL.toRowW.records s) s.abs)) = some (true, openGood (view RwL.prog [92]) looseL) := by
  kernel_rfl
theorem runB (os : OsState) : (endL w os).map (fun s => (faL.all fun f => f.ok (KyL (getT s)), exL (KyL (getT s)) && He.tabsB (getT s) tfL (KyL (getT s)))) = some (true, true) := by
  kernel_rfl
theorem runC (os : OsState) : (endL w os).map (fun s => (fnL.all fun d => d.ok (KyL (getT s)), fnL.map fun d => He.fnW (KyL (getT s)) d.at_)) = some (true, fnL.map He.DefD.val) := by
  kernel_rfl
theorem lookAll {o : Option SharedT} {a b c : SharedT → Bool} {d : SharedT → List He.FnW} {v : List He.FnW} (h1 : o.map (fun s => (a s, b s)) = some (true, true)) (h2 : o.map (fun s => (c s, d s)) = some (true, v)) : o.map (fun s => (((a s && c s, d s), ([] : List (Option (List (Option (Str × Int)))))), b s)) = some (((true, v), []), true) := by
  cases o with
  | none => cases h1
  | some x =>
    have e1 : (a x, b x) = (true, true) := Option.some.inj h1
    have e2 : (c x, d x) = (true, v) := Option.some.inj h2
    show some (((a x && c x, d x), _), b x) = _
    rw [(Prod.mk.inj e1).1, (Prod.mk.inj e1).2, (Prod.mk.inj e2).1, (Prod.mk.inj e2).2] <;> rfl
theorem runL : RunEq RwL (view RwL.prog [92]) hkL obL 6000 looseL w := fun os => by
  have o : (endL w os).map obL = some (hkL.val w) := lookAll (runB w os) (runC w os)
  exact look3 (runA w os) o
end
end LapW
set_option Elab.async false
set_option linter.all false
set_option maxRecDepth 100000
set_option maxHeartbeats 4000000
/-! Data over the abstract heap: wheels, states; what a longer heap keeps. -/
namespace LapW
open PySem PySem.Spec PyProof.Rows L2 Lap

abbrev Ex := Evl.Ex
theorem Ex.rfl' (H : Hp) : Ex H H := fun _ _ h => h
theorem Ex.tr {H H1 H2 : Hp} (a : Ex H H1) (b : Ex H1 H2) : Ex H H2 := fun x o h => b x o (a x o h)
theorem Ex.nw {H : Hp} {p : Addr} {o : HO} (h : H p = none) : Ex H (upd H p o) := Evl.Ex.new h
/-- one more new object -/
theorem Ex.nx {H H1 : Hp} {p : Addr} {o : HO} (e : Ex H H1) (h : H1 p = none) : Ex H (upd H1 p o) := e.tr (Ex.nw h)
theorem Ex.l {K : PySem.W.Frag} {H H' : Hp} {a : Addr} {xs : List V} (e : Ex H H') (h : SqL K H a xs) : SqL K H' a xs := Evl.ex_l e h
theorem Ex.t {K : PySem.W.Frag} {H H' : Hp} {a : Addr} {xs : List V} (e : Ex H H') (h : SqT K H a xs) : SqT K H' a xs := Evl.ex_t e h
theorem sqt_new {K : PySem.W.Frag} {H : Hp} {a : Addr} {xs : List V} : SqT K (upd H a (.tup xs)) a xs := .inl (.inl upd_same)
theorem sql_new {K : PySem.W.Frag} {H : Hp} {a : Addr} {xs : List V} : SqL K (upd H a (.lst xs)) a xs := .inl (.inl upd_same)
/-! data: nothing but scalars and tuples -/
mutual
inductive Dt (K : PySem.W.Frag) (H : Hp) : V → PyData → Prop
  | non : Dt K H .non .none
  | bl (b : Bool) : Dt K H (.bl b) (.bool b)
  | int (i : Int) : Dt K H (.int i) (.int i)
  | str (x : Str) : Dt K H (.str x) (.str x)
  | tup {a : Addr} {xs : List V} {ds : List PyData} : SqT K H a xs → DtAll K H xs ds → Dt K H (.ref a) (.tuple ds)
inductive DtAll (K : PySem.W.Frag) (H : Hp) : List V → List PyData → Prop
  | nil : DtAll K H [] []
  | cons {v : V} {vs : List V} {d : PyData} {ds : List PyData} : Dt K H v d → DtAll K H vs ds → DtAll K H (v :: vs) (d :: ds)
end
mutual
theorem Dt.dp {K : PySem.W.Frag} {H : Hp} : ∀ (d : PyData) (v : V), Dt K H v d → Dp K H v d
  | .none, _, h => by cases h; exact .non
  | .bool b, _, h => by cases h; exact .bl b
  | .int i, _, h => by cases h; exact .int i
  | .str x, _, h => by cases h; exact .str x
  | .list ds, _, h => by cases h
  | .tuple ds, _, h => by
    cases h with
    | tup a b => exact .tup a (DtAll.dp ds _ b)
  | .dict _, _, h => by cases h
theorem DtAll.dp {K : PySem.W.Frag} {H : Hp} : ∀ (ds : List PyData) (vs : List V), DtAll K H vs ds → DpAll K H vs ds
  | [], _, h => by cases h; exact .nil
  | d :: ds, _, h => by
    cases h with
    | cons a b => exact .cons (Dt.dp d _ a) (DtAll.dp ds _ b)
end
/-- tuples stay -/
def Tp (H H' : Hp) : Prop := ∀ a xs, Rd H a (.tup xs) → Rd H' a (.tup xs)
theorem Tp.t {K : PySem.W.Frag} {H H' : Hp} {a : Addr} {xs : List V} (e : Tp H H') (h : SqT K H a xs) : SqT K H' a xs := by
  rcases h with h | h
  · exact .inl (e a xs h)
  · exact .inr h
mutual
theorem Tp.dt {K : PySem.W.Frag} {H H' : Hp} (e : Tp H H') : ∀ (d : PyData) (v : V), Dt K H v d → Dt K H' v d
  | .none, _, h => by cases h; exact .non
  | .bool b, _, h => by cases h; exact .bl b
  | .int i, _, h => by cases h; exact .int i
  | .str x, _, h => by cases h; exact .str x
  | .list ds, _, h => by cases h
  | .tuple ds, _, h => by
    cases h with
    | tup a b => exact .tup (e.t a) (e.dta ds _ b)
  | .dict _, _, h => by cases h
theorem Tp.dta {K : PySem.W.Frag} {H H' : Hp} (e : Tp H H') : ∀ (ds : List PyData) (vs : List V), DtAll K H vs ds → DtAll K H' vs ds
  | [], _, h => by cases h; exact .nil
  | d :: ds, _, h => by
    cases h with
    | cons a b => exact .cons (e.dt d _ a) (e.dta ds _ b)
end
theorem Tp.d {K : PySem.W.Frag} {H H' : Hp} {v : V} {d : PyData} (e : Tp H H') (h : Dt K H v d) : Dt K H' v d := e.dt d v h
theorem Tp.da {K : PySem.W.Frag} {H H' : Hp} {vs : List V} {ds : List PyData} (e : Tp H H') (h : DtAll K H vs ds) : DtAll K H' vs ds := e.dta ds vs h
theorem Ex.tp {H H' : Hp} (e : Ex H H') : Tp H H' := fun _ _ h => Evl.ex_rd e h
theorem Ex.d {K : PySem.W.Frag} {H H' : Hp} {v : V} {d : PyData} (e : Ex H H') (h : Dt K H v d) : Dt K H' v d := e.tp.d h
theorem Ex.da {K : PySem.W.Frag} {H H' : Hp} {vs : List V} {ds : List PyData} (e : Ex H H') (h : DtAll K H vs ds) : DtAll K H' vs ds := e.tp.da h
/-- something that is no tuple is written -/
def NoTup (o : Option HO) : Prop := ∀ xs, o ≠ some (.tup xs) ∧ ∀ ob, o ≠ some (.frz ob (.tup xs))
theorem Tp.w {H : Hp} {a : Addr} {o : HO} (h : NoTup (H a)) : Tp H (upd H a o) := fun b xs r => by
  have hb : b ≠ a := by
    intro e
    subst e
    rcases r with r | ⟨ob, r⟩
    · exact (h xs).1 r
    · exact (h xs).2 ob r
  rcases r with r | ⟨ob, r⟩
  · exact .inl (by rw [upd_ne hb]; exact r)
  · exact .inr ⟨ob, by rw [upd_ne hb]; exact r⟩
theorem NoTup.l {H : Hp} {a : Addr} {xs : List V} (h : H a = some (.lst xs)) : NoTup (H a) := fun ys => by
  rw [h]
  exact ⟨(fun e => by cases e), (fun ob e => by cases e)⟩
theorem Tp.tr {H H1 H2 : Hp} (a : Tp H H1) (b : Tp H1 H2) : Tp H H2 := fun x xs h => b x xs (a x xs h)

/-! ### data -/
def optV : Option Int → V
  | none => .non
  | some i => .int i
def optD : Option Int → PyData
  | none => .none
  | some i => .int i
def rowD : Lap.Row → PyData
  | none => .none
  | some (a, b) => .tuple [optD a, optD b]
def rdD : Lap.Rdr → PyData
  | none => .none
  | some (a, b) => .tuple [.int a, .bool b]
def stD (s : Lap.St) : PyData := .tuple [rowD s.row, rdD s.rd, .int s.tb]
def deedS : Deed → Str
  | .tick => "tick" | .write => "write" | .strike => "strike" | .opn => "open" | .close => "close" | .pass => "pass"
def wishS : Wish → Str
  | .early => "early" | .ghost => "ghost" | .gone => "gone" | .stands => "stands"
section
variable {K : PySem.W.Frag} {H : Hp} {v : V}
theorem dp_opt {o : Option Int} (h : Dt K H v (optD o)) : v = optV o := by
  cases o <;> (cases h; rfl)
theorem opt_dp (o : Option Int) : Dt K H (optV o) (optD o) := by
  cases o with
  | none => exact .non
  | some i => exact .int i
theorem dp_int {i : Int} (h : Dt K H v (.int i)) : v = .int i := by cases h; rfl
theorem dp_bl {b : Bool} (h : Dt K H v (.bool b)) : v = .bl b := by cases h; rfl
theorem dp_str {x : Str} (h : Dt K H v (.str x)) : v = .str x := by cases h; rfl
theorem dp_non (h : Dt K H v .none) : v = .non := by cases h; rfl
theorem dp_two {a b : PyData} (h : Dt K H v (.tuple [a, b])) : ∃ t x y, v = .ref t ∧ SqT K H t [x, y] ∧ Dt K H x a ∧ Dt K H y b := by
  cases h with
  | tup hs ha =>
    cases ha with
    | cons h1 ha =>
      cases ha with
      | cons h2 ha =>
        cases ha
        exact ⟨_, _, _, rfl, hs, h1, h2⟩
theorem dp_three {a b c : PyData} (h : Dt K H v (.tuple [a, b, c])) : ∃ t x y z, v = .ref t ∧ SqT K H t [x, y, z] ∧ Dt K H x a ∧ Dt K H y b ∧ Dt K H z c := by
  cases h with
  | tup hs ha =>
    cases ha with
    | cons h1 ha =>
      cases ha with
      | cons h2 ha =>
        cases ha with
        | cons h3 ha =>
          cases ha
          exact ⟨_, _, _, _, rfl, hs, h1, h2, h3⟩
theorem two_dp {t : Addr} {x y : V} {a b : PyData} (hs : SqT K H t [x, y]) (h1 : Dt K H x a) (h2 : Dt K H y b) : Dt K H (.ref t) (.tuple [a, b]) := .tup hs (.cons h1 (.cons h2 .nil))
theorem three_dp {t : Addr} {x y z : V} {a b c : PyData} (hs : SqT K H t [x, y, z]) (h1 : Dt K H x a) (h2 : Dt K H y b) (h3 : Dt K H z c) : Dt K H (.ref t) (.tuple [a, b, c]) := .tup hs (.cons h1 (.cons h2 (.cons h3 .nil)))
theorem dp_row {a b : Option Int} (h : Dt K H v (rowD (some (a, b)))) : ∃ t, v = .ref t ∧ SqT K H t [optV a, optV b] := by
  obtain ⟨t, x, y, rfl, hs, h1, h2⟩ := dp_two h
  rw [dp_opt h1, dp_opt h2] at hs
  exact ⟨t, rfl, hs⟩
theorem row_dp {t : Addr} {a b : Option Int} (hs : SqT K H t [optV a, optV b]) : Dt K H (.ref t) (rowD (some (a, b))) := two_dp hs (opt_dp a) (opt_dp b)
theorem dp_rd {a : Int} {b : Bool} (h : Dt K H v (rdD (some (a, b)))) : ∃ t, v = .ref t ∧ SqT K H t [.int a, .bl b] := by
  obtain ⟨t, x, y, rfl, hs, h1, h2⟩ := dp_two h
  rw [dp_int h1, dp_bl h2] at hs
  exact ⟨t, rfl, hs⟩
theorem rd_dp {t : Addr} {a : Int} {b : Bool} (hs : SqT K H t [.int a, .bl b]) : Dt K H (.ref t) (rdD (some (a, b))) := two_dp hs (.int a) (.bl b)
theorem dp_st {s : Lap.St} (h : Dt K H v (stD s)) : ∃ t x y, v = .ref t ∧ SqT K H t [x, y, .int s.tb] ∧ Dt K H x (rowD s.row) ∧ Dt K H y (rdD s.rd) := by
  obtain ⟨t, x, y, z, rfl, hs, h1, h2, h3⟩ := dp_three h
  rw [dp_int h3] at hs
  exact ⟨t, x, y, rfl, hs, h1, h2⟩
theorem st_dp {t : Addr} {x y : V} {r : Lap.Row} {d : Rdr} {b : Int} (hs : SqT K H t [x, y, .int b]) (h1 : Dt K H x (rowD r)) (h2 : Dt K H y (rdD d)) : Dt K H (.ref t) (stD ⟨r, d, b⟩) := three_dp hs h1 h2 (.int b)
/-- what is None -/
theorem dp_isN {r : Lap.Row} (h : Dt K H v (rowD r)) : decide (v = .non) = r.isNone := by
  cases r with
  | none => cases h; rfl
  | some p =>
    obtain ⟨a, b⟩ := p
    obtain ⟨t, rfl, _⟩ := dp_row h
    rfl
theorem dp_rdN {r : Rdr} (h : Dt K H v (rdD r)) : decide (v = .non) = r.isNone := by
  cases r with
  | none => cases h; rfl
  | some p =>
    obtain ⟨a, b⟩ := p
    obtain ⟨t, rfl, _⟩ := dp_rd h
    rfl
end
theorem sqt_ty {K : PySem.W.Frag} {H : Hp} {a : Addr} {xs : List V} (h : SqT K H a xs) : TyX K H (.ref a) (.type "tuple") := by
  rcases h with (h | ⟨o, h⟩) | ⟨o, its, n, h, hc, _⟩
  · exact .base (.tup h)
  · exact .fTuple h
  · exact .kTuple h hc

/-! ### wheels -/
def holdS (b : Bool) : Str := if b then "yes" else "no"
def whF (w : Wh) : List (Str × V) := [("size", .int 4), ("freeze", .int w.freeze), ("stop", optV w.stop), ("hold", .str (holdS w.hold)), ("cut", optV w.cut)]
def WhAt (K : PySem.W.Frag) (H : Hp) (v : V) (w : Wh) : Prop := ∃ a dx, v = .ref a ∧ H a = some (.ins (He.ga K "Wheel") dx (whF w))
theorem Ex.wh {K : PySem.W.Frag} {H H' : Hp} {v : V} {w : Wh} (e : Ex H H') (h : WhAt K H v w) : WhAt K H' v w := by
  obtain ⟨a, dx, rfl, h⟩ := h
  exact ⟨a, dx, rfl, e _ _ h⟩
/-- a wheel's field: f of the wheel -/
def tWF (K : PySem.W.Frag) (ta : TE) (f : Wh → V) : TE := fun σ H Q => ta σ H fun x H1 => ∃ u : Wh, WhAt K H1 x u ∧ Q (f u) H1
/-- a field of an instance of C -/
def tOF (C : Addr) (f : Str) (ta : TE) : TE := fun σ H Q => ta σ H fun x H1 => ∃ a dx fs v, x = .ref a ∧ H1 a = some (.ins C dx fs) ∧ fs.lookup f = some v ∧ Q v H1
section
variable {X : Cx} {e : Expr} {ta : TE} {pos : Pos}
theorem pe_of {C : Addr} {f : Str} (c : Cls X.K C) (n : NoAttr X.K C f) (he : PE X e ta) (hb : attributeBase e f X.env (eval e X.env) = eval e X.env := by rfl) : PE X (.Attribute e f pos) (tOF C f ta) := by
  refine ⟨fun pins s σ H Q I h => ?_⟩
  refine attr_of hb (thn (he.run pins s σ H _ I h) fun u s1 ⟨x, H1, I1, rx, a, dx, fs, v, ex, ea, l, q⟩ => ?_)
  subst ex
  obtain rfl : u = Value.ref a := rx
  exact getattr_ok I1 ea c n l fun u' s2 I2 ru => ⟨v, H1, I2, ru, q⟩
theorem pe_wf {f : Str} {g : Wh → V} (c : Cls X.K (He.ga X.K "Wheel")) (n : NoAttr X.K (He.ga X.K "Wheel") f) (hg : ∀ u, (whF u).lookup f = some (g u)) (he : PE X e ta) (hb : attributeBase e f X.env (eval e X.env) = eval e X.env) : PE X (.Attribute e f pos) (tWF X.K ta g) := by
  refine ⟨fun pins s σ H Q I h => ?_⟩
  refine attr_of hb (thn (he.run pins s σ H _ I h) fun u s1 ⟨x, H1, I1, rx, w, ⟨a, dx, ex, ea⟩, q⟩ => ?_)
  subst ex
  obtain rfl : u = Value.ref a := rx
  exact getattr_ok I1 ea c n (hg w) fun u' s2 I2 ru => ⟨g w, H1, I2, ru, q⟩
theorem pe_size (T : Tx X.K X.mg) (he : PE X e ta) (hb : attributeBase e "size" X.env (eval e X.env) = eval e X.env := by rfl) : PE X (.Attribute e "size" pos) (tWF X.K ta fun _ => .int 4) := pe_wf T.cl_Wheel T.n_Wheel_size (fun _ => rfl) he hb
theorem pe_freeze (T : Tx X.K X.mg) (he : PE X e ta) (hb : attributeBase e "freeze" X.env (eval e X.env) = eval e X.env := by rfl) : PE X (.Attribute e "freeze" pos) (tWF X.K ta fun u => .int u.freeze) := pe_wf T.cl_Wheel T.n_Wheel_freeze (fun _ => rfl) he hb
theorem pe_stop (T : Tx X.K X.mg) (he : PE X e ta) (hb : attributeBase e "stop" X.env (eval e X.env) = eval e X.env := by rfl) : PE X (.Attribute e "stop" pos) (tWF X.K ta fun u => optV u.stop) := pe_wf T.cl_Wheel T.n_Wheel_stop (fun _ => rfl) he hb
theorem pe_hold (T : Tx X.K X.mg) (he : PE X e ta) (hb : attributeBase e "hold" X.env (eval e X.env) = eval e X.env := by rfl) : PE X (.Attribute e "hold" pos) (tWF X.K ta fun u => .str (holdS u.hold)) := pe_wf T.cl_Wheel T.n_Wheel_hold (fun _ => rfl) he hb
theorem pe_cut (T : Tx X.K X.mg) (he : PE X e ta) (hb : attributeBase e "cut" X.env (eval e X.env) = eval e X.env := by rfl) : PE X (.Attribute e "cut" pos) (tWF X.K ta fun u => optV u.cut) := pe_wf T.cl_Wheel T.n_Wheel_cut (fun _ => rfl) he hb
end

/-! ### a def of the top and its promise -/
section
variable {P : Program} {w : World} {K : PySem.W.Frag} {mg : Str → Option Value} {base : Heap}
theorem cal_of {x qual : Str} {st : Stmt} {f : Addr} {N ps : List Str} {k : Nat} {sp : Sp} (g : mg x = some (.ref f)) (d : ∃ fd, FunD K qual qual (defArgs st) (defBody st) (defScope st) [] [] f fd) (S : FnScope N ps (defScope st)) (len : ∀ vs H Q E, sp vs H Q E → vs.length = ps.length)
    (h : ∀ (kV doc pm : Value) (an : Option Addr) (cdv ct : Value) (us : List Value), us.length = ps.length → bindArgs (PySem.W.fnOf qual qual (defArgs st) (defBody st) (defScope st) .none kV doc pm an cdv ct) ⟨us, []⟩ = pure (ps.zip us))
    (hbody : ∀ (cdv : Value) (A : Around) (outer : List Env) (s : Shared) (H : Hp) (vs : List V) (Q : VK) (E : XK), Room k (A.deeper (envOfC qual (defScope st) s.heap.objs.size f cdv)) → sp vs H Q E →
      ∃ t, PSs (cxOf C8.CX0 P w K mg base N qual (defScope st) f cdv A outer s H E).nox (defBody st) t ∧ t { nx := fun _ H' => Q .non H', rt := Q } (start N vs) H) : C8.Cal P w K mg base (k + 1) x sp [] := by
  obtain ⟨fd, F⟩ := d
  refine ⟨f, fd, ps, [], F.ok S len fun cdv A outer s H vs Q E hr hs => ?_, g, F.kp, F.bindsN h, .nil⟩
  obtain ⟨t, ht, q⟩ := hbody cdv A outer s H vs Q E hr hs
  exact ⟨t, ht.nox, q⟩
end
/-- an int, an int -/
theorem ii {i j : Int} {P : Int → Int → Prop} (h : P i j) : ∃ a b : Int, V.int i = .int a ∧ V.int j = .int b ∧ P a b := ⟨i, j, rfl, rfl, h⟩
theorem qb {Q : VK} {H : Hp} {b c : Bool} (e : b = c) (h : Q (.bl c) H) : Q (.bl b) H := by
  subst e
  exact h
theorem bE {b c : Bool} (e : b = c) : V.bl b = V.bl c := congrArg V.bl e
end LapW
set_option Elab.async false
set_option linter.all false
set_option maxRecDepth 100000
set_option maxHeartbeats 4000000
/-! Comprehensions and returned data. -/
namespace LapW
open PySem PySem.Spec PyProof.Rows L2 Lap
def RetD (K : PySem.W.Frag) (d : PyData) (H : Hp) (Q : VK) : Prop := ∀ v H', Ex H H' → Dt K H' v d → Q v H'
def RetB (b : Bool) (H : Hp) (Q : VK) : Prop := ∀ H', Ex H H' → Q (.bl b) H'
def RetN (H : Hp) (Q : VK) : Prop := ∀ H', Ex H H' → Q .non H'
def RetL (xs : List V) (H : Hp) (Q : VK) : Prop := ∀ p H', H p = none → Ex H H' → H' p = some (.lst xs) → Q (.ref p) H'
/-- a new list of data -/
def RetLD (K : PySem.W.Frag) (ds : List PyData) (H : Hp) (Q : VK) : Prop := ∀ p xs H', H p = none → Ex H H' → H' p = some (.lst xs) → DtAll K H' xs ds → Q (.ref p) H'
theorem RetD.up {K : PySem.W.Frag} {d : PyData} {H H1 : Hp} {Q : VK} (h : RetD K d H Q) (e : Ex H H1) : RetD K d H1 Q := fun v H' a b => h v H' (e.tr a) b
theorem dpa_app {K : PySem.W.Frag} {H : Hp} : ∀ {vs us : List V} {ds es : List PyData}, DtAll K H vs ds → DtAll K H us es → DtAll K H (vs ++ us) (ds ++ es)
  | [], _, _, _, a, b => by cases a; exact b
  | v :: vs, _, _, _, a, b => by
    cases a with
    | cons h t => exact .cons h (dpa_app t b)
theorem dpa_len {K : PySem.W.Frag} {H : Hp} : ∀ {vs : List V} {ds : List PyData}, DtAll K H vs ds → vs.length = ds.length
  | [], _, a => by cases a; rfl
  | v :: vs, _, a => by
    cases a with
    | cons h t => show vs.length + 1 = _ + 1; rw [dpa_len t]
theorem dpa_get {K : PySem.W.Frag} {H : Hp} : ∀ {vs : List V} {ds : List PyData} {i : Nat} {v : V}, DtAll K H vs ds → vs[i]? = some v → ∃ d, ds[i]? = some d ∧ Dt K H v d
  | [], _, _, _, _, h => by simp at h
  | x :: vs, _, 0, v, a, h => by
    cases a with
    | cons p t =>
      have e : x = v := by simpa using h
      subst e
      exact ⟨_, rfl, p⟩
  | x :: vs, _, i + 1, v, a, h => by
    cases a with
    | cons p t =>
      obtain ⟨d, h1, h2⟩ := dpa_get (i := i) t (by simpa using h)
      exact ⟨d, by simpa using h1, h2⟩
theorem dpa_at {K : PySem.W.Frag} {H : Hp} {vs : List V} {ds : List PyData} {i : Nat} {d : PyData} (a : DtAll K H vs ds) (h : ds[i]? = some d) : ∃ v, vs[i]? = some v ∧ Dt K H v d := by
  have h1 := (List.getElem?_eq_some_iff.mp h).1
  have h2 := dpa_len a
  have h3 : i < vs.length := by omega
  obtain ⟨d', e, q⟩ := dpa_get a (List.getElem?_eq_getElem h3)
  rw [h] at e
  cases e
  exact ⟨_, List.getElem?_eq_getElem h3, q⟩
theorem take_filter {α : Type} {items : List α} {p : α → Bool} {m : α → PyData} {i : Nat} {q : α} (h : items[i]? = some q) :
    ((items.take (i + 1)).filter p).map m = ((items.take i).filter p).map m ++ (if p q = true then [m q] else []) := by
  rw [List.take_add_one, h, Option.toList_some, List.filter_append, List.map_append]
  congr 1
  by_cases hq : p q = true
  · rw [if_pos hq]; simp [hq]
  · rw [if_neg hq]; simp [hq]
section
variable {α : Type} {K : PySem.W.Frag} {a : Addr} {xs : List V} {items : List α} {p : α → Bool} {m : α → PyData} {g : TG} {tt : TT} {te : TE} {vs : List Nat} {σ : L2.St} {H1 : Hp} {D : Addr} {Qd : Hp → Prop}
/-- one turn of a comprehension over data -/
def LcTurn (K : PySem.W.Frag) (xs : List V) (items : List α) (p : α → Bool) (m : α → PyData) (g : TG) (tt : TT) (te : TE) (vs : List Nat) (σ : L2.St) (H1 : Hp) : Prop :=
  ∀ (i : Nat) (x : V) (q : α) (H' : Hp), xs[i]? = some x → items[i]? = some q → Ex H1 H' → ∀ (Qn : Hp → Prop) (Qy : VK), (p q = false → ∀ H'', Ex H' H'' → Qn H'') → (p q = true → RetD K (m q) H' Qy) →
    g x (wipe σ vs) H' fun σ2 H2 => wipe σ2 vs = wipe σ vs ∧ tt σ2 H2 fun b H3 => if b = true then te σ2 H3 Qy else Qn H3
def LcP (K : PySem.W.Frag) (H1 : Hp) (D : Addr) (ds : List PyData) (n : Nat) (H' : Hp) : Prop := Ex H1 H' ∧ ∃ ys, H' D = some (.lst ys) ∧ DtAll K H' ys ds ∧ ys.length ≤ n
theorem lcP_turn {i : Nat} {q : α} {x : V} {H' : Hp} (hz : i < 100000) (hD : H1 D = none) (hb : LcTurn K xs items p m g tt te vs σ H1) (hx : xs[i]? = some x) (hq : items[i]? = some q) (P : LcP K H1 D (((items.take i).filter p).map m) i H') :
    g x (wipe σ vs) H' fun σ2 H2 => wipe σ2 vs = wipe σ vs ∧ tt σ2 H2 fun b H3 => if b = true then te σ2 H3 fun y H4 => ∃ acc, H4 D = some (.lst acc) ∧ acc.length < sizeLine ∧ LcP K H1 D (((items.take (i + 1)).filter p).map m) (i + 1) (upd H4 D (.lst (acc ++ [y])))
      else LcP K H1 D (((items.take (i + 1)).filter p).map m) (i + 1) H3 := by
  obtain ⟨e, ys, h1, h2, h3⟩ := P
  refine hb i x q H' hx hq e (fun H3 => LcP K H1 D (((items.take (i + 1)).filter p).map m) (i + 1) H3) (fun y H4 => ∃ acc, H4 D = some (.lst acc) ∧ acc.length < sizeLine ∧ LcP K H1 D (((items.take (i + 1)).filter p).map m) (i + 1) (upd H4 D (.lst (acc ++ [y])))) (fun hp H3 e3 => ?_) fun hp y H4 e4 hy => ?_
  · rw [take_filter hq, hp]
    refine ⟨e.tr e3, ys, e3 _ _ h1, ?_, by omega⟩
    have := Ex.da e3 h2
    simpa using this
  · refine ⟨ys, e4 _ _ h1, Evl.sz_lt (by omega), ?_⟩
    rw [take_filter hq, hp]
    have eE : Ex H1 (upd H4 D (.lst (ys ++ [y]))) := Evl.Ex.mut (e.tr e4) hD
    have tp : Tp H4 (upd H4 D (.lst (ys ++ [y]))) := Tp.w (NoTup.l (e4 _ _ h1))
    exact ⟨eE, ys ++ [y], upd_same, dpa_app (tp.da (Ex.da e4 h2)) (.cons (tp.d hy) .nil), by rw [List.length_append]; exact Nat.add_le_add_right h3 1⟩
theorem take_all {items : List α} {n : Nat} (h : n = items.length) : items.take n = items := by rw [h, List.take_length]
/-- [.. for .. in a tuple | a list]: what is behind it -/
theorem lc_tupD (hx : SqT K H1 a xs) (hl : xs.length = items.length) (hz : xs.length < 100000) (hD : H1 D = none) (hb : LcTurn K xs items p m g tt te vs σ H1)
    (hd : ∀ H' ys, Ex H1 H' → H' D = some (.lst ys) → DtAll K H' ys ((items.filter p).map m) → Qd H') :
    ∃ W : Nat → Nat → Hp → Prop, (∃ m, W 0 m (upd H1 D (.lst []))) ∧ ∀ i m H, W i m H →
      ((Itt K a).stop i H ∧ Qd H) ∨ ((Itt K a).go i H ∧ ∃ Nx : Hp → Prop, (∀ H', Nx H' → ∃ m', m' < m ∧ W (i + 1) m' H') ∧ ∀ x H', (Itt K a).yld i H x H' → g x (wipe σ vs) H' fun σ2 H2 => wipe σ2 vs = wipe σ vs ∧ tt σ2 H2 fun b H3 =>
        if b = true then te σ2 H3 fun y H4 => ∃ acc, H4 D = some (.lst acc) ∧ acc.length < sizeLine ∧ Nx (upd H4 D (.lst (acc ++ [y]))) else Nx H3) :=
  lc_tup (xs := xs) (fun i => LcP K H1 D (((items.take i).filter p).map m) i) ⟨Ex.nw hD, [], upd_same, .nil, Nat.zero_le _⟩ (fun i H' _ P => P.1.t hx)
    (fun i x H' hi P => by
      have h1 : i < items.length := by rw [← hl]; exact (List.getElem?_eq_some_iff.mp hi).1
      exact lcP_turn (by omega) hD hb hi (List.getElem?_eq_getElem h1) P)
    fun H' ⟨e, ys, h1, h2, _⟩ => by
      rw [take_all hl] at h2
      exact hd H' ys e h1 h2
theorem lc_listD (hx : SqL K H1 a xs) (hl : xs.length = items.length) (hz : xs.length < 100000) (hD : H1 D = none) (hb : LcTurn K xs items p m g tt te vs σ H1)
    (hd : ∀ H' ys, Ex H1 H' → H' D = some (.lst ys) → DtAll K H' ys ((items.filter p).map m) → Qd H') :
    ∃ W : Nat → Nat → Hp → Prop, (∃ m, W 0 m (upd H1 D (.lst []))) ∧ ∀ i m H, W i m H →
      ((Itl K a).stop i H ∧ Qd H) ∨ ((Itl K a).go i H ∧ ∃ Nx : Hp → Prop, (∀ H', Nx H' → ∃ m', m' < m ∧ W (i + 1) m' H') ∧ ∀ x H', (Itl K a).yld i H x H' → g x (wipe σ vs) H' fun σ2 H2 => wipe σ2 vs = wipe σ vs ∧ tt σ2 H2 fun b H3 =>
        if b = true then te σ2 H3 fun y H4 => ∃ acc, H4 D = some (.lst acc) ∧ acc.length < sizeLine ∧ Nx (upd H4 D (.lst (acc ++ [y]))) else Nx H3) :=
  lc_list (xs := xs) (fun i => LcP K H1 D (((items.take i).filter p).map m) i) ⟨Ex.nw hD, [], upd_same, .nil, Nat.zero_le _⟩ (fun i H' _ P => P.1.l hx)
    (fun i x H' hi P => by
      have h1 : i < items.length := by rw [← hl]; exact (List.getElem?_eq_some_iff.mp hi).1
      exact lcP_turn (by omega) hD hb hi (List.getElem?_eq_getElem h1) P)
    fun H' ⟨e, ys, h1, h2, _⟩ => by
      rw [take_all hl] at h2
      exact hd H' ys e h1 h2
end
end LapW
set_option Elab.async false
set_option linter.all false
set_option maxRecDepth 100000
set_option maxHeartbeats 4000000
namespace LapW
open PySem PySem.Spec PyProof.Rows L2 Lap
section
variable {P : Program} {w : World} {K : PySem.W.Frag} {mg : Str → Option Value} {base : Heap}

/-! ### is_whole -/
abbrev s_is_whole : Stmt := top 13
abbrev N_is_whole : List Str := ["value", "low", "high"]
theorem sc_is_whole : FnScope N_is_whole ["value", "low", "high"] (defScope s_is_whole) := ⟨rfl, rfl, rfl, by decide +kernel, rfl, by decide +kernel, by decide +kernel⟩
def spIsWhole : Sp := fun vs H Q _ => ∃ i lo hi : Int, vs = [.int i, .int lo, .int hi] ∧ (lo ≤ i ∧ i ≤ hi) ∧ Q (.bl true) H
theorem cal_is_whole (T : Tx K mg) : C8.Cal P w K mg base 1 "is_whole" spIsWhole [] := by
  refine cal_of T.g_is_whole T.f_is_whole sc_is_whole (fun vs H Q E h => ?_) (fun _ _ _ _ _ _ us hl => match us, hl with | [_, _, _], _ => rfl) fun cdv A outer s H vs Q E hr h => ?_
  · obtain ⟨i, lo, hi, rfl, _⟩ := h
    rfl
  · obtain ⟨i, lo, hi, rfl, ⟨h1, h2⟩, hq⟩ := h
    refine ⟨_, (pss_one (ps_ret (pe_and (pe_callB call_isi rfl T.n_isinstance (by decide +kernel) (pa_cons (pv 0) (pa_cons (pe_bltn (v := .ty "int") rfl T.n_int (by decide +kernel) rfl) pa_nil))) (pe_and (pe_not (pe_callB call_isi rfl T.n_isinstance (by decide +kernel) (pa_cons (pv 0) (pa_cons (pe_bltn (v := .ty "bool") rfl T.n_bool (by decide +kernel) rfl) pa_nil)))) (pe_one (pe_chain op_le op_le (pv 1) (pv 0) (pv 2))))))), ?_⟩
    refine ⟨_, rfl, _, _, _, _, true, rfl, .ty "int", .base (.int i), kit_ty (by decide +kernel), true, rfl, ?_⟩
    refine iteT ⟨_, rfl, _, _, _, _, false, rfl, .ty "bool", .base (.int i), kit_ty (by decide +kernel), false, rfl, true, rfl, ?_⟩
    refine iteT ⟨_, rfl, _, rfl, _, _, rfl, rfl, true, bE (decide_eq_true h1), ?_⟩
    exact iteT ⟨_, rfl, _, _, rfl, rfl, qb (decide_eq_true h2) hq⟩

/-! ### before -/
abbrev s_before : Stmt := top 19
abbrev N_before : List Str := ["wheel", "age", "picture"]
theorem sc_before : FnScope N_before ["wheel", "age", "picture"] (defScope s_before) := ⟨rfl, rfl, rfl, by decide +kernel, rfl, by decide +kernel, by decide +kernel⟩
def spBefore (K : PySem.W.Frag) : Sp := fun vs H Q _ => ∃ (v : V) (u : Wh) (a p : Int), vs = [v, .int a, .int p] ∧ WhAt K H v u ∧ Q (.bl (before a p)) H
theorem cal_before (T : Tx K mg) : C8.Cal P w K mg base 1 "before" (spBefore K) [] := by
  refine cal_of T.g_before T.f_before sc_before (fun vs H Q E h => ?_) (fun _ _ _ _ _ _ us hl => match us, hl with | [_, _, _], _ => rfl) fun cdv A outer s H vs Q E hr h => ?_
  · obtain ⟨v, u, a, p, rfl, _⟩ := h
    rfl
  · obtain ⟨v, u, a, p, rfl, hx, hq⟩ := h
    refine ⟨_, pss_one (ps_ret (pe_cmpR op_lt (pe_op op_mul pe_int (pe_op op_mod (pe_op op_sub (pv 1) (pv 2)) (pe_size T (pv 0)))) (pe_size T (pv 0)) (nomark _))), ?_⟩
    exact ⟨_, rfl, _, rfl, _, _, rfl, rfl, _, rfl, u, hx, _, _, rfl, rfl, (show (0:Int) < 4 by decide), _, _, rfl, rfl, .inl (by decide), _, rfl, u, hx, _, _, rfl, rfl, hq⟩

/-! ### check_wheel -/
abbrev s_check_wheel : Stmt := top 18
abbrev N_check_wheel : List Str := ["value"]
theorem sc_check_wheel : FnScope N_check_wheel ["value"] (defScope s_check_wheel) := ⟨rfl, rfl, rfl, by decide +kernel, rfl, by decide +kernel, by decide +kernel⟩
def spCheckWheel (K : PySem.W.Frag) : Sp := fun vs H Q _ => ∃ (v : V) (u : Wh), vs = [v] ∧ WhAt K H v u ∧ Q .non H
theorem cal_check_wheel (T : Tx K mg) : C8.Cal P w K mg base 1 "check_wheel" (spCheckWheel K) [] := by
  refine cal_of T.g_check_wheel T.f_check_wheel sc_check_wheel (fun vs H Q E h => ?_) (fun _ _ _ _ _ _ us hl => match us, hl with | [_], _ => rfl) fun cdv A outer s H vs Q E hr h => ?_
  · obtain ⟨v, u, rfl, _⟩ := h
    rfl
  · obtain ⟨v, u, rfl, ⟨a, dx, rfl, hx⟩, hq⟩ := h
    refine ⟨_, (pss_one (ps_if (pt_not (pt_val (pe_callB call_isi rfl T.n_isinstance (by decide +kernel) (pa_cons (pv 0) (pa_cons (C8.pe_gc rfl T.c_Wheel) pa_nil))))) (pss_one ps_never) pss_nil)), ?_⟩
    exact ⟨_, rfl, _, _, _, _, true, rfl, .own _, T.ins_Wheel hx, T.k_Wheel_Wheel, true, rfl, iteF hq⟩

/-! ### is_age -/
abbrev s_is_age : Stmt := top 20
abbrev N_is_age : List Str := ["wheel", "value"]
theorem sc_is_age : FnScope N_is_age ["wheel", "value"] (defScope s_is_age) := ⟨rfl, rfl, rfl, by decide +kernel, rfl, by decide +kernel, by decide +kernel⟩
def spIsAge (K : PySem.W.Frag) : Sp := fun vs H Q _ => ∃ (v : V) (u : Wh) (a : Int), vs = [v, .int a] ∧ WhAt K H v u ∧ AgeOk a ∧ Q (.bl true) H
theorem cal_is_age (T : Tx K mg) : C8.Cal P w K mg base 2 "is_age" (spIsAge K) [] := by
  refine cal_of T.g_is_age T.f_is_age sc_is_age (fun vs H Q E h => ?_) (fun _ _ _ _ _ _ us hl => match us, hl with | [_, _], _ => rfl) fun cdv A outer s H vs Q E hr h => ?_
  · obtain ⟨v, u, a, rfl, _⟩ := h
    rfl
  · obtain ⟨v, u, a, rfl, hx, ha, hq⟩ := h
    refine ⟨_, (pss_one (ps_ret (C8.pe_c (cal_is_whole T) hr (by decide) rfl (pa_cons (pv 1) (pa_cons pe_int (pa_cons (pe_op op_sub (pe_size T (pv 0)) pe_int) pa_nil)))))), ?_⟩
    exact ⟨_, rfl, _, rfl, u, hx, _, _, rfl, rfl, _, _, _, rfl, ha, hq⟩

/-! ### is_age_or_none -/
abbrev s_is_age_or_none : Stmt := top 25
abbrev N_is_age_or_none : List Str := ["wheel", "value"]
theorem sc_is_age_or_none : FnScope N_is_age_or_none ["wheel", "value"] (defScope s_is_age_or_none) := ⟨rfl, rfl, rfl, by decide +kernel, rfl, by decide +kernel, by decide +kernel⟩
def spIsAgeOrNone (K : PySem.W.Frag) : Sp := fun vs H Q _ => ∃ (v : V) (u : Wh) (a : Option Int), vs = [v, optV a] ∧ WhAt K H v u ∧ OptOk a ∧ Q (.bl true) H
theorem cal_is_age_or_none (T : Tx K mg) : C8.Cal P w K mg base 3 "is_age_or_none" (spIsAgeOrNone K) [] := by
  refine cal_of T.g_is_age_or_none T.f_is_age_or_none sc_is_age_or_none (fun vs H Q E h => ?_) (fun _ _ _ _ _ _ us hl => match us, hl with | [_, _], _ => rfl) fun cdv A outer s H vs Q E hr h => ?_
  · obtain ⟨v, u, a, rfl, _⟩ := h
    rfl
  · obtain ⟨v, u, a, rfl, hx, ha, hq⟩ := h
    refine ⟨_, (pss_one (ps_ret (pe_or (pe_cmp (pc_isN (pv 1))) (pe_one (C8.pe_c (cal_is_age T) hr (by decide) rfl (pa_cons (pv 0) (pa_cons (pv 1) pa_nil))))))), ?_⟩
    refine ⟨_, rfl, ?_⟩
    cases a with
    | none => exact ⟨true, rfl, iteT hq⟩
    | some i => exact ⟨false, rfl, iteF ⟨_, rfl, _, rfl, _, _, _, rfl, hx, ha, hq⟩⟩

/-! ### is_stopped -/
abbrev s_is_stopped : Stmt := top 30
abbrev N_is_stopped : List Str := ["wheel", "state"]
theorem sc_is_stopped : FnScope N_is_stopped ["wheel", "state"] (defScope s_is_stopped) := ⟨rfl, rfl, rfl, by decide +kernel, rfl, by decide +kernel, by decide +kernel⟩
def spIsStopped (K : PySem.W.Frag) : Sp := fun vs H Q _ => ∃ (v x : V) (u : Wh) (s : Lap.St), vs = [v, x] ∧ WhAt K H v u ∧ Dt K H x (stD s) ∧ Q (.bl (isStopped u s)) H
theorem cal_is_stopped (T : Tx K mg) : C8.Cal P w K mg base 1 "is_stopped" (spIsStopped K) [] := by
  refine cal_of T.g_is_stopped T.f_is_stopped sc_is_stopped (fun vs H Q E h => ?_) (fun _ _ _ _ _ _ us hl => match us, hl with | [_, _], _ => rfl) fun cdv A outer s H vs Q E hr h => ?_
  · obtain ⟨v, x, u, s, rfl, _⟩ := h
    rfl
  · obtain ⟨v, x, u, s, rfl, hx, hs, hq⟩ := h
    obtain ⟨t, a, b, rfl, ht, _, _⟩ := dp_st hs
    refine ⟨_, (pss_one (ps_ret (pe_and (pe_cmp (pc_notN (pe_stop T (pv 0)))) (pe_one (pe_cmpR op_ge (pe_ix ix_tup (pv 1) pe_int (fun _ _ => rfl)) (pe_stop T (pv 0)) (nomark _)))))), ?_⟩
    obtain ⟨fr, st, ho, ct⟩ := u
    refine ⟨_, rfl, _, hx, ?_⟩
    cases st with
    | none => exact ⟨false, rfl, iteF hq⟩
    | some k => exact ⟨true, rfl, iteT ⟨_, rfl, t, _, 2, _, rfl, rfl, ht, rfl, _, rfl, _, hx, _, _, rfl, rfl, hq⟩⟩

/-! ### sees -/
abbrev s_sees : Stmt := top 31
abbrev N_sees : List Str := ["wheel", "row", "picture", "written", "struck"]
theorem sc_sees : FnScope N_sees ["wheel", "row", "picture"] (defScope s_sees) := ⟨rfl, rfl, rfl, by decide +kernel, rfl, by decide +kernel, by decide +kernel⟩
def spSees (K : PySem.W.Frag) : Sp := fun vs H Q _ => ∃ (v x : V) (u : Wh) (r : Lap.Row) (p : Int), vs = [v, x, .int p] ∧ WhAt K H v u ∧ Dt K H x (rowD r) ∧ Q (.bl (sees r p)) H
theorem cal_sees (T : Tx K mg) : C8.Cal P w K mg base 2 "sees" (spSees K) [] := by
  refine cal_of T.g_sees T.f_sees sc_sees (fun vs H Q E h => ?_) (fun _ _ _ _ _ _ us hl => match us, hl with | [_, _, _], _ => rfl) fun cdv A outer s H vs Q E hr h => ?_
  · obtain ⟨v, x, u, r, p, rfl, _⟩ := h
    rfl
  · obtain ⟨v, x, u, r, p, rfl, hx, hr', hq⟩ := h
    refine ⟨_, (pss_cons (ps_if (pt_cmp (pc_isN (pv 1))) (pss_one (ps_ret pe_bl)) pss_nil)
      (pss_cons (ps_asg (pv 1) (pg_tup rfl (pgs_cons (pg_name (i := 3) sc_sees.nd rfl (Or.inl rfl)) (pgs_cons (pg_name (i := 4) sc_sees.nd rfl (Or.inl rfl)) pgs_nil))))
      (pss_cons (ps_if (PW.pt (pw_and (pt_cmp (pc_notN (pv 3))) (pw_and1 (pt_not (pt_val (C8.pe_c (cal_before T) hr (by decide) rfl (pa_cons (pv 0) (pa_cons (pv 3) (pa_cons (pv 2) pa_nil))))))))) (pss_one (ps_ret pe_bl)) pss_nil)
      (pss_one (ps_ret (pe_or (pe_cmp (pc_isN (pv 4))) (pe_one (pe_not (C8.pe_c (cal_before T) hr (by decide) rfl (pa_cons (pv 0) (pa_cons (pv 4) (pa_cons (pv 2) pa_nil)))))))))))), ?_⟩
    refine ⟨_, rfl, ?_⟩
    cases r with
    | none =>
      cases hr'
      exact ⟨true, rfl, iteT hq⟩
    | some ab =>
      obtain ⟨a, b⟩ := ab
      obtain ⟨t, rfl, ht⟩ := dp_row hr'
      refine ⟨false, rfl, iteF ⟨_, rfl, t, _, rfl, ht, rfl, _, _, rfl, _, _, rfl, rfl, _, rfl, ?_⟩⟩
      cases a with
      | none =>
        refine ⟨false, rfl, iteF (iteF ⟨_, rfl, ?_⟩)⟩
        cases b with
        | none => exact ⟨true, rfl, iteT hq⟩
        | some j => exact ⟨false, rfl, iteF ⟨_, rfl, _, rfl, _, rfl, _, _, _, _, rfl, hx, _, rfl, hq⟩⟩
      | some i =>
        refine ⟨true, rfl, iteT ⟨_, rfl, _, rfl, _, rfl, _, _, _, _, rfl, hx, _, rfl, ?_⟩⟩
        have e : sees (some (some i, b)) p = (before i p && sees (some (none, b)) p) := by simp [sees]
        cases hb : before i p with
        | true =>
          refine iteF ⟨_, rfl, ?_⟩
          rw [hb, Bool.true_and] at e
          rw [e] at hq
          cases b with
          | none => exact ⟨true, rfl, iteT hq⟩
          | some j => exact ⟨false, rfl, iteF ⟨_, rfl, _, rfl, _, rfl, _, _, _, _, rfl, hx, _, rfl, hq⟩⟩
        | false =>
          rw [hb, Bool.false_and] at e
          rw [e] at hq
          exact iteT hq
end
end LapW
set_option Elab.async false
set_option linter.all false
set_option maxRecDepth 100000
set_option maxHeartbeats 4000000
namespace LapW
open PySem PySem.Spec PyProof.Rows L2 Lap
section
variable {P : Program} {w : World} {K : PySem.W.Frag} {mg : Str → Option Value} {base : Heap}
theorem map_at {α β : Type} {f : α → β} {l : List α} {i : Nat} {x : β} {q : α} (h : (l.map f)[i]? = some x) (h2 : l[i]? = some q) : x = f q := by
  rw [List.getElem?_map, h2] at h
  exact (Option.some.inj h).symm
theorem hold_yes (b : Bool) : decide (V.str (holdS b) = V.str "yes") = b := by cases b <;> decide +kernel
theorem dta_bl {K : PySem.W.Frag} {H : Hp} : ∀ {ys : List V} {bs : List Bool}, DtAll K H ys (bs.map PyData.bool) → ys = bs.map V.bl
  | [], [], _ => rfl
  | [], _ :: _, h => by cases h
  | _ :: _, [], h => by cases h
  | y :: ys, b :: bs, h => by
    cases h with
    | cons h1 h2 =>
      cases h1
      rw [dta_bl h2]
      rfl
/-! ### is_row -/
abbrev s_is_row : Stmt := top 26
abbrev N_is_row : List Str := ["wheel", "value", "one"]
theorem sc_is_row : FnScope N_is_row ["wheel", "value"] (defScope s_is_row) := ⟨rfl, rfl, rfl, by decide +kernel, rfl, by decide +kernel, by decide +kernel⟩
def spIsRow (K : PySem.W.Frag) : Sp := fun vs H Q _ => ∃ (v x : V) (u : Wh) (r : Lap.Row), vs = [v, x] ∧ WhAt K H v u ∧ Dt K H x (rowD r) ∧ RowOk r ∧ RetB true H Q
theorem cal_is_row (T : Tx K mg) : C8.Cal P w K mg base 4 "is_row" (spIsRow K) [] := by
  refine cal_of T.g_is_row T.f_is_row sc_is_row (fun vs H Q E h => ?_) (fun _ _ _ _ _ _ us hl => match us, hl with | [_, _], _ => rfl) fun cdv A outer s H vs Q E hr h => ?_
  · obtain ⟨v, x, u, r, rfl, _⟩ := h
    rfl
  · obtain ⟨v, x, u, r, rfl, hx, hro, ok, hq⟩ := h
    refine ⟨_, (pss_cons (ps_if (pt_cmp (pc_isN (pv 1))) (pss_one (ps_ret pe_bl)) pss_nil)
      (pss_cons (ps_if (PW.pt (pw_or (pt_not (pt_val (pe_callB call_isi rfl T.n_isinstance (by decide +kernel) (pa_cons (pv 1) (pa_cons (pe_bltn (v := .ty "tuple") rfl T.n_tuple (by decide +kernel) rfl) pa_nil))))) (pw_or1 (pt_cmpR op_ne (pe_callB call_len_seq rfl T.n_len (by decide +kernel) (pa_cons (pv 1) pa_nil)) pe_int (nomark _))))) (pss_one (ps_ret pe_bl)) pss_nil)
      (pss_one (ps_ret (pe_callB (cr_all rfl) rfl T.n_all (by decide +kernel) (pa_cons (pe_lc (own := [("one", 2)]) (g := (gName 2)) (tt := tYes) rfl sc_is_row.nd (pi_tup (pv 1)) (blkOk_by (N := N_is_row) (sc := defScope s_is_row) (by decide +kernel)) (fun _ _ _ _ _ => (pg_name (i := 2) sc_is_row.nd rfl (Or.inl rfl))) (fun _ _ _ _ _ => pts_nil) (fun _ _ _ _ _ => (C8.pe_c (cal_is_age_or_none T) hr (by decide) rfl (pa_cons (pv 0) (pa_cons (pv 2) pa_nil))))) pa_nil)))))), ?_⟩
    refine ⟨_, rfl, ?_⟩
    cases r with
    | none =>
      cases hro
      exact ⟨true, rfl, iteT (hq _ (Ex.rfl' _))⟩
    | some ab =>
      obtain ⟨a, b⟩ := ab
      obtain ⟨t, rfl, ht⟩ := dp_row hro
      refine ⟨false, rfl, iteF ⟨_, rfl, _, _, _, _, true, rfl, .ty "tuple", sqt_ty ht, kit_ty (by decide +kernel), true, rfl, iteF ⟨_, rfl, t, _, rfl, .inr ht, rfl, false, rfl, iteF ?_⟩⟩⟩
      refine ⟨_, rfl, t, rfl, ⟨_, ht⟩, fun D hD => lc_tupD (items := [a, b]) (p := fun _ => true) (m := fun _ => .bool true) ht rfl (by show 2 < 100000; decide) hD (fun i x q H' hi hq' e Qn Qy h1 h2 => ?_) fun H' ys e hD' hy => ?_⟩
      · have ex := map_at (f := optV) hi hq'
        subst ex
        refine ⟨rfl, iteT (B := True) ⟨_, rfl, _, rfl, _, _, q, rfl, e.wh hx, ?_, h2 rfl _ _ (Ex.rfl' _) (.bl true)⟩⟩
        obtain ⟨ok1, ok2⟩ := ok
        match i, hq' with
        | 0, hq' => cases hq'; exact ok1
        | 1, hq' => cases hq'; exact ok2
      · have ey := dta_bl (bs := [true, true]) hy
        subst ey
        exact ⟨_, _, rfl, SqL.of hD', hq H' e⟩

/-! ### is_reader -/
abbrev s_is_reader : Stmt := top 27
abbrev N_is_reader : List Str := ["wheel", "value"]
theorem sc_is_reader : FnScope N_is_reader ["wheel", "value"] (defScope s_is_reader) := ⟨rfl, rfl, rfl, by decide +kernel, rfl, by decide +kernel, by decide +kernel⟩
def spIsReader (K : PySem.W.Frag) : Sp := fun vs H Q _ => ∃ (v x : V) (u : Wh) (r : Lap.Rdr), vs = [v, x] ∧ WhAt K H v u ∧ Dt K H x (rdD r) ∧ RdOk r ∧ Q (.bl true) H
theorem cal_is_reader (T : Tx K mg) : C8.Cal P w K mg base 3 "is_reader" (spIsReader K) [] := by
  refine cal_of T.g_is_reader T.f_is_reader sc_is_reader (fun vs H Q E h => ?_) (fun _ _ _ _ _ _ us hl => match us, hl with | [_, _], _ => rfl) fun cdv A outer s H vs Q E hr h => ?_
  · obtain ⟨v, x, u, r, rfl, _⟩ := h
    rfl
  · obtain ⟨v, x, u, r, rfl, hx, hro, ok, hq⟩ := h
    refine ⟨_, (pss_cons (ps_if (pt_cmp (pc_isN (pv 1))) (pss_one (ps_ret pe_bl)) pss_nil)
      (pss_cons (ps_if (PW.pt (pw_or (pt_not (pt_val (pe_callB call_isi rfl T.n_isinstance (by decide +kernel) (pa_cons (pv 1) (pa_cons (pe_bltn (v := .ty "tuple") rfl T.n_tuple (by decide +kernel) rfl) pa_nil))))) (pw_or1 (pt_cmpR op_ne (pe_callB call_len_seq rfl T.n_len (by decide +kernel) (pa_cons (pv 1) pa_nil)) pe_int (nomark _))))) (pss_one (ps_ret pe_bl)) pss_nil)
      (pss_one (ps_ret (pe_and (C8.pe_c (cal_is_age T) hr (by decide) rfl (pa_cons (pv 0) (pa_cons (pe_ix ix_tup (pv 1) pe_int (fun _ _ => rfl)) pa_nil))) (pe_one (pe_callB call_isi rfl T.n_isinstance (by decide +kernel) (pa_cons (pe_ix ix_tup (pv 1) pe_int (fun _ _ => rfl)) (pa_cons (pe_bltn (v := .ty "bool") rfl T.n_bool (by decide +kernel) rfl) pa_nil))))))))), ?_⟩
    refine ⟨_, rfl, ?_⟩
    cases r with
    | none =>
      cases hro
      exact ⟨true, rfl, iteT hq⟩
    | some ab =>
      obtain ⟨a, b⟩ := ab
      obtain ⟨t, rfl, ht⟩ := dp_rd hro
      refine ⟨false, rfl, iteF ⟨_, rfl, _, _, _, _, true, rfl, .ty "tuple", sqt_ty ht, kit_ty (by decide +kernel), true, rfl, iteF ⟨_, rfl, t, _, rfl, .inr ht, rfl, false, rfl, iteF ?_⟩⟩⟩
      refine ⟨_, rfl, _, rfl, t, _, 0, _, rfl, rfl, ht, rfl, _, _, _, rfl, hx, ok, true, rfl, iteT ?_⟩
      exact ⟨_, rfl, t, _, 1, _, rfl, rfl, ht, rfl, _, _, _, _, true, rfl, .ty "bool", .base (.bl b), kit_ty (by decide +kernel), hq⟩

/-! ### is_state -/
abbrev s_is_state : Stmt := top 28
abbrev N_is_state : List Str := ["wheel", "value"]
theorem sc_is_state : FnScope N_is_state ["wheel", "value"] (defScope s_is_state) := ⟨rfl, rfl, rfl, by decide +kernel, rfl, by decide +kernel, by decide +kernel⟩
def spIsState (K : PySem.W.Frag) : Sp := fun vs H Q _ => ∃ (v x : V) (u : Wh) (s : Lap.St), vs = [v, x] ∧ WhAt K H v u ∧ Dt K H x (stD s) ∧ SOk s ∧ RetB true H Q
theorem cal_is_state (T : Tx K mg) : C8.Cal P w K mg base 5 "is_state" (spIsState K) [] := by
  refine cal_of T.g_is_state T.f_is_state sc_is_state (fun vs H Q E h => ?_) (fun _ _ _ _ _ _ us hl => match us, hl with | [_, _], _ => rfl) fun cdv A outer s H vs Q E hr h => ?_
  · obtain ⟨v, x, u, s, rfl, _⟩ := h
    rfl
  · obtain ⟨v, x, u, s, rfl, hx, hs, ok, hq⟩ := h
    refine ⟨_, (pss_cons (ps_if (PW.pt (pw_or (pt_not (pt_val (pe_callB call_isi rfl T.n_isinstance (by decide +kernel) (pa_cons (pv 1) (pa_cons (pe_bltn (v := .ty "tuple") rfl T.n_tuple (by decide +kernel) rfl) pa_nil))))) (pw_or1 (pt_cmpR op_ne (pe_callB call_len_seq rfl T.n_len (by decide +kernel) (pa_cons (pv 1) pa_nil)) pe_int (nomark _))))) (pss_one (ps_ret pe_bl)) pss_nil)
      (pss_one (ps_ret (pe_and (C8.pe_c (cal_is_row T) hr (by decide) rfl (pa_cons (pv 0) (pa_cons (pe_ix ix_tup (pv 1) pe_int (fun _ _ => rfl)) pa_nil))) (pe_and (C8.pe_c (cal_is_reader T) hr (by decide) rfl (pa_cons (pv 0) (pa_cons (pe_ix ix_tup (pv 1) pe_int (fun _ _ => rfl)) pa_nil))) (pe_one (C8.pe_c (cal_is_whole T) hr (by decide) rfl (pa_cons (pe_ix ix_tup (pv 1) pe_int (fun _ _ => rfl)) (pa_cons pe_int (pa_cons (pe_size T (pv 0)) pa_nil)))))))))), ?_⟩
    obtain ⟨t, a, b, rfl, ht, h1, h2⟩ := dp_st hs
    refine ⟨_, rfl, _, _, _, _, true, rfl, .ty "tuple", sqt_ty ht, kit_ty (by decide +kernel), true, rfl, iteF ⟨_, rfl, t, _, rfl, .inr ht, rfl, false, rfl, iteF ?_⟩⟩
    refine ⟨_, rfl, _, rfl, t, _, 0, _, rfl, rfl, ht, rfl, _, _, _, _, rfl, hx, h1, ok.row, fun H1 e1 => ⟨true, rfl, iteT ?_⟩⟩
    refine ⟨_, rfl, _, rfl, t, _, 1, _, rfl, rfl, e1.t ht, rfl, _, _, _, _, rfl, e1.wh hx, e1.d h2, ok.rd, true, rfl, iteT ?_⟩
    exact ⟨_, rfl, t, _, 2, _, rfl, rfl, e1.t ht, rfl, _, rfl, u, e1.wh hx, _, _, _, rfl, ok.tb, hq H1 e1⟩

/-! ### check_state -/
abbrev s_check_state : Stmt := top 29
abbrev N_check_state : List Str := ["wheel", "state"]
theorem sc_check_state : FnScope N_check_state ["wheel", "state"] (defScope s_check_state) := ⟨rfl, rfl, rfl, by decide +kernel, rfl, by decide +kernel, by decide +kernel⟩
def spCheckState (K : PySem.W.Frag) : Sp := fun vs H Q _ => ∃ (v x : V) (u : Wh) (s : Lap.St), vs = [v, x] ∧ WhAt K H v u ∧ Dt K H x (stD s) ∧ SOk s ∧ RetN H Q
theorem cal_check_state (T : Tx K mg) : C8.Cal P w K mg base 6 "check_state" (spCheckState K) [] := by
  refine cal_of T.g_check_state T.f_check_state sc_check_state (fun vs H Q E h => ?_) (fun _ _ _ _ _ _ us hl => match us, hl with | [_, _], _ => rfl) fun cdv A outer s H vs Q E hr h => ?_
  · obtain ⟨v, x, u, s, rfl, _⟩ := h
    rfl
  · obtain ⟨v, x, u, s, rfl, hx, hs, ok, hq⟩ := h
    refine ⟨_, (pss_cons (ps_expr (C8.pe_c (cal_check_wheel T) hr (by decide) rfl (pa_cons (pv 0) pa_nil)))
      (pss_one (ps_if (pt_not (pt_val (C8.pe_c (cal_is_state T) hr (by decide) rfl (pa_cons (pv 0) (pa_cons (pv 1) pa_nil))))) (pss_one ps_never) pss_nil))), ?_⟩
    refine ⟨_, rfl, _, _, rfl, hx, ?_⟩
    exact ⟨_, rfl, _, rfl, _, _, _, _, rfl, hx, hs, ok, fun H1 e1 => ⟨true, rfl, iteF (hq H1 e1)⟩⟩

/-! ### is_there -/
abbrev s_is_there : Stmt := top 32
abbrev N_is_there : List Str := ["row"]
theorem sc_is_there : FnScope N_is_there ["row"] (defScope s_is_there) := ⟨rfl, rfl, rfl, by decide +kernel, rfl, by decide +kernel, by decide +kernel⟩
def spIsThere (K : PySem.W.Frag) : Sp := fun vs H Q _ => ∃ (x : V) (r : Lap.Row), vs = [x] ∧ Dt K H x (rowD r) ∧ Q (.bl (isThere r)) H
theorem cal_is_there (T : Tx K mg) : C8.Cal P w K mg base 1 "is_there" (spIsThere K) [] := by
  refine cal_of T.g_is_there T.f_is_there sc_is_there (fun vs H Q E h => ?_) (fun _ _ _ _ _ _ us hl => match us, hl with | [_], _ => rfl) fun cdv A outer s H vs Q E hr h => ?_
  · obtain ⟨x, r, rfl, _⟩ := h
    rfl
  · obtain ⟨x, r, rfl, hro, hq⟩ := h
    refine ⟨_, (pss_one (ps_ret (pe_and (pe_cmp (pc_notN (pv 0))) (pe_one (pe_cmp (pc_isN (pe_ix ix_tup (pv 0) pe_int (fun _ _ => rfl)))))))), ?_⟩
    refine ⟨_, rfl, ?_⟩
    cases r with
    | none =>
      cases hro
      exact ⟨false, rfl, iteF hq⟩
    | some ab =>
      obtain ⟨a, b⟩ := ab
      obtain ⟨t, rfl, ht⟩ := dp_row hro
      refine ⟨true, rfl, iteT ⟨_, rfl, t, _, 1, _, rfl, rfl, ht, rfl, ?_⟩⟩
      cases b <;> exact hq

/-! ### older -/
abbrev s_older : Stmt := top 33
abbrev N_older : List Str := ["wheel", "age"]
theorem sc_older : FnScope N_older ["wheel", "age"] (defScope s_older) := ⟨rfl, rfl, rfl, by decide +kernel, rfl, by decide +kernel, by decide +kernel⟩
def spOlder (K : PySem.W.Frag) : Sp := fun vs H Q _ => ∃ (v : V) (u : Wh) (a : Option Int), vs = [v, optV a] ∧ WhAt K H v u ∧ Q (optV (older a)) H
theorem cal_older (T : Tx K mg) : C8.Cal P w K mg base 1 "older" (spOlder K) [] := by
  refine cal_of T.g_older T.f_older sc_older (fun vs H Q E h => ?_) (fun _ _ _ _ _ _ us hl => match us, hl with | [_, _], _ => rfl) fun cdv A outer s H vs Q E hr h => ?_
  · obtain ⟨v, u, a, rfl, _⟩ := h
    rfl
  · obtain ⟨v, u, a, rfl, hx, hq⟩ := h
    refine ⟨_, (pss_one (ps_ret (pe_ifExp (pt_cmp (pc_isN (pv 1))) pe_non (pe_op op_mod (pe_op op_add (pv 1) pe_int) (pe_size T (pv 0)))))), ?_⟩
    refine ⟨_, rfl, ?_⟩
    cases a with
    | none => exact ⟨true, rfl, iteT hq⟩
    | some i => exact ⟨false, rfl, iteF ⟨_, rfl, _, _, rfl, rfl, _, rfl, u, hx, _, _, rfl, rfl, (show (0:Int) < 4 by decide), hq⟩⟩

/-! ### is_held -/
abbrev s_is_held : Stmt := top 35
abbrev N_is_held : List Str := ["wheel", "state"]
theorem sc_is_held : FnScope N_is_held ["wheel", "state"] (defScope s_is_held) := ⟨rfl, rfl, rfl, by decide +kernel, rfl, by decide +kernel, by decide +kernel⟩
def spIsHeld (K : PySem.W.Frag) : Sp := fun vs H Q _ => ∃ (v x : V) (u : Wh) (s : Lap.St), vs = [v, x] ∧ WhAt K H v u ∧ Dt K H x (stD s) ∧ Q (.bl (isHeld u s)) H
theorem cal_is_held (T : Tx K mg) : C8.Cal P w K mg base 1 "is_held" (spIsHeld K) [] := by
  refine cal_of T.g_is_held T.f_is_held sc_is_held (fun vs H Q E h => ?_) (fun _ _ _ _ _ _ us hl => match us, hl with | [_, _], _ => rfl) fun cdv A outer s H vs Q E hr h => ?_
  · obtain ⟨v, x, u, s, rfl, _⟩ := h
    rfl
  · obtain ⟨v, x, u, s, rfl, hx, hs, hq⟩ := h
    refine ⟨_, (pss_one (ps_ret (pe_and (pe_cmp (pc_notN (pe_ix ix_tup (pv 1) pe_int (fun _ _ => rfl)))) (pe_one (pe_cmpR op_eq (pe_hold T (pv 0)) pe_str (nomark _)))))), ?_⟩
    obtain ⟨t, a, b, rfl, ht, h1, h2⟩ := dp_st hs
    refine ⟨_, rfl, t, _, 1, _, rfl, rfl, ht, rfl, ?_⟩
    obtain ⟨r, d, tb⟩ := s
    cases d with
    | none =>
      cases h2
      exact ⟨false, rfl, iteF hq⟩
    | some p =>
      obtain ⟨p, q⟩ := p
      obtain ⟨t2, rfl, ht2⟩ := dp_rd h2
      refine ⟨true, rfl, iteT ⟨_, rfl, u, hx, rfl, ?_⟩⟩
      obtain ⟨fr, st, ho, ct⟩ := u
      exact qb (hold_yes ho) hq

/-! ### is_ripe -/
abbrev s_is_ripe : Stmt := top 36
abbrev N_is_ripe : List Str := ["wheel", "state", "age"]
theorem sc_is_ripe : FnScope N_is_ripe ["wheel", "state", "age"] (defScope s_is_ripe) := ⟨rfl, rfl, rfl, by decide +kernel, rfl, by decide +kernel, by decide +kernel⟩
def spIsRipe (K : PySem.W.Frag) : Sp := fun vs H Q _ => ∃ (v x : V) (u : Wh) (s : Lap.St) (a : Option Int), vs = [v, x, optV a] ∧ WhAt K H v u ∧ Dt K H x (stD s) ∧ Q (.bl (isRipe u s a)) H
theorem cal_is_ripe (T : Tx K mg) : C8.Cal P w K mg base 2 "is_ripe" (spIsRipe K) [] := by
  refine cal_of T.g_is_ripe T.f_is_ripe sc_is_ripe (fun vs H Q E h => ?_) (fun _ _ _ _ _ _ us hl => match us, hl with | [_, _, _], _ => rfl) fun cdv A outer s H vs Q E hr h => ?_
  · obtain ⟨v, x, u, s, a, rfl, _⟩ := h
    rfl
  · obtain ⟨v, x, u, s, a, rfl, hx, hs, hq⟩ := h
    refine ⟨_, (pss_cons (ps_if (PW.pt (pw_or (pt_cmp (pc_isN (pv 2))) (pw_or1 (pt_not (pt_val (C8.pe_c (cal_before T) hr (by decide) rfl (pa_cons (pv 0) (pa_cons (pv 2) (pa_cons pe_int pa_nil))))))))) (pss_one (ps_ret pe_bl)) pss_nil)
      (pss_one (ps_ret (pe_or (pe_not (C8.pe_c (cal_is_held T) hr (by decide) rfl (pa_cons (pv 0) (pa_cons (pv 1) pa_nil)))) (pe_one (C8.pe_c (cal_before T) hr (by decide) rfl (pa_cons (pv 0) (pa_cons (pv 2) (pa_cons (pe_ix ix_tup (pe_ix ix_tup (pv 1) pe_int (fun _ _ => rfl)) pe_int (fun _ _ => rfl)) pa_nil))))))))), ?_⟩
    obtain ⟨t, y, z, rfl, ht, h1, h2⟩ := dp_st hs
    refine ⟨_, rfl, ?_⟩
    cases a with
    | none => exact ⟨true, rfl, iteT (iteT hq)⟩
    | some i =>
      refine ⟨false, rfl, iteF ⟨_, rfl, _, rfl, _, _, _, _, rfl, hx, _, rfl, ?_⟩⟩
      cases hb : before i 0 with
      | false =>
        refine iteT ?_
        have e : isRipe u s (some i) = false := by unfold isRipe; dsimp only; rw [hb, Bool.false_and]
        rw [e] at hq
        exact hq
      | true =>
        refine iteF ⟨_, rfl, _, rfl, _, _, _, _, rfl, hx, hs, _, rfl, ?_⟩
        obtain ⟨r, d, tb⟩ := s
        cases d with
        | none =>
          have e : isRipe u ⟨r, none, tb⟩ (some i) = true := by unfold isRipe; dsimp only; rw [hb, Bool.true_and]
          rw [e] at hq
          exact ⟨true, rfl, iteT hq⟩
        | some p =>
          obtain ⟨p, q⟩ := p
          obtain ⟨t2, rfl, ht2⟩ := dp_rd h2
          have e : isRipe u ⟨r, some (p, q), tb⟩ (some i) = (!u.hold || before i p) := by unfold isRipe; dsimp only; rw [hb, Bool.true_and]
          rw [e] at hq
          have e2 : isHeld u ⟨r, some (p, q), tb⟩ = u.hold := rfl
          rw [e2]
          cases hh : u.hold with
          | false =>
            rw [hh] at hq
            exact ⟨true, rfl, iteT hq⟩
          | true =>
            rw [hh] at hq
            exact ⟨false, rfl, iteF ⟨_, rfl, _, rfl, _, rfl, t, _, 1, _, rfl, rfl, ht, rfl, t2, _, 0, _, rfl, rfl, ht2, rfl, _, _, _, _, rfl, hx, hq⟩⟩
end
end LapW
set_option Elab.async false
set_option linter.all false
set_option maxRecDepth 100000
set_option maxHeartbeats 4000000
/-! Dicts whose keys are nested tuples, over the abstract heap. -/
namespace LapW
open PySem PySem.Spec PyProof.Rows L2 Lap
theorem hu_65 {A : Around} {k : Nat} (hr : Room k A) : A.units + 65 < cLine := by have := hr.un; omega
/-! ### keys -/
mutual
def nk : PyData → NestedKey
  | .none => .none
  | .bool b => .num (if b = true then 1 else 0)
  | .int i => .num i
  | .str x => .text x
  | .tuple ds => .tup (nks ds)
  | .list _ => .none
  | .dict _ => .none
def nks : List PyData → List NestedKey
  | [] => []
  | d :: ds => nk d :: nks ds
end
section
variable {X : Cx} {pins : List (Addr × Obj)} {σ : L2.St} {H : Hp} {s : Shared}
mutual
theorem nk_is (I : Inv X pins σ H s) : ∀ (d : PyData) (v : V) (u : Value), Dt X.K H v d → RelV v u → NestedIs s.heap (nk d) u
  | .none, _, u, h, r => by
    cases h
    obtain rfl : u = Value.none := r
    exact .none
  | .bool b, _, u, h, r => by
    cases h
    obtain rfl : u = Value.bool b := r
    exact .bool rfl
  | .int i, _, u, h, r => by
    cases h
    obtain ⟨t, rfl⟩ := (show ∃ t, u = Value.int i t from r)
    exact .int _ _
  | .str x, _, u, h, r => by
    cases h
    obtain ⟨t, rfl⟩ := (show ∃ t, u = Value.str x t from r)
    exact .text _ _
  | .list ds, _, _, h, _ => by cases h
  | .tuple ds, _, u, h, r => by
    cases h with
    | @tup a xs _ hs ha =>
      obtain rfl : u = Value.ref a := r
      obtain ⟨its, rv, ⟨o, ho, hc, n, hd⟩, _⟩ := I.tuple hs
      exact .tup ho hc hd (nks_is I ds xs its ha rv)
  | .dict _, _, _, h, _ => by cases h
theorem nks_is (I : Inv X pins σ H s) : ∀ (ds : List PyData) (vs : List V) (us : List Value), DtAll X.K H vs ds → Vals vs us → NestedAll s.heap (nks ds) us
  | [], _, _, h, r => by
    cases h
    cases r
    exact .nil
  | d :: ds, _, _, h, r => by
    cases h with
    | cons h1 h2 =>
      cases r with
      | cons r1 r2 => exact .cons (nk_is I d _ _ h1 r1) (nks_is I ds _ _ h2 r2)
end
end
/-! ### the dict -/
abbrev NE := NestedKey × Addr × V
abbrev NV : List NE → List (NestedKey × Addr × Value) → Prop := Paired fun p q => p.1 = q.1 ∧ p.2.1 = q.2.1 ∧ RelV p.2.2 q.2.2
def rawN (P : Program) (w : World) (d : Addr) (kvs : List NE) (ep : Nat) (h : Heap) : Prop :=
  kvs.length ≤ sizeLine ∧ (d == sysModules) = false ∧ (kvs.map (·.1)).Nodup ∧ ∃ ys, NV kvs ys ∧ ∃ es, h.DictRaw d es ep ∧ es.toList = ys.map (entryOfKey (nestedKind P w))
def dN (P : Program) (w : World) (d : Addr) (kvs : List NE) (ep : Nat) : HO := .ext (rawN P w d kvs ep)
theorem NV.keys {a : List NE} {b : List (NestedKey × Addr × Value)} (h : NV a b) : a.map (·.1) = b.map (·.1) := by
  unfold NV at h
  induction h with
  | nil => rfl
  | cons h t ih => rw [List.map_cons, List.map_cons, ih, h.1]
theorem rawN_ok {P : Program} {w : World} {H : Hp} {h : Heap} {d : Addr} {kvs : List NE} {ep : Nat} (x : rawN P w d kvs ep h) : ObjOk P w H h d (dN P w d kvs ep) := by
  obtain ⟨a, b, n, ys, r, es, hr, he⟩ := id x
  obtain ⟨o, ho, _⟩ := id hr
  refine ⟨x, ⟨o, ho⟩, fun h1 h2 y k => ?_⟩
  obtain ⟨a, b, n, ys, r, es, hr, he⟩ := y
  exact ⟨a, b, n, ys, r, es, hr.at k, he⟩
/-- the entries are those data -/
abbrev Ents (K : PySem.W.Frag) (H : Hp) : List NE → List (PyData × PyData) → Prop := Paired fun e q => e.1 = nk q.1 ∧ (nk q.1).depth ≤ 8 ∧ Dt K H (.ref e.2.1) q.1 ∧ Dt K H e.2.2 q.2
def DN (P : Program) (w : World) (K : PySem.W.Frag) (H : Hp) (a : Addr) (items : List (PyData × PyData)) : Prop := ∃ kvs ep, H a = some (dN P w a kvs ep) ∧ Ents K H kvs items
theorem Ents.tp {K : PySem.W.Frag} {H H' : Hp} {kvs : List NE} {items : List (PyData × PyData)} (t : Tp H H') (h : Ents K H kvs items) : Ents K H' kvs items := by
  unfold Ents at h ⊢
  induction h with
  | nil => exact .nil
  | cons h _ ih => exact .cons ⟨h.1, h.2.1, t.d h.2.2.1, t.d h.2.2.2⟩ ih
theorem DN.ex {P : Program} {w : World} {K : PySem.W.Frag} {H H' : Hp} {a : Addr} {items : List (PyData × PyData)} (e : Ex H H') (h : DN P w K H a items) : DN P w K H' a items := by
  obtain ⟨kvs, ep, ha, he⟩ := h
  exact ⟨kvs, ep, e _ _ ha, Ents.tp e.tp he⟩
theorem DN.not {P : Program} {w : World} {K : PySem.W.Frag} {H : Hp} {a : Addr} {items : List (PyData × PyData)} (h : DN P w K H a items) : NoTup (H a) := fun xs => by
  obtain ⟨kvs, ep, ha, he⟩ := h
  rw [ha]
  exact ⟨(fun e => by cases e), (fun ob e => by cases e)⟩
theorem Ents.len {K : PySem.W.Frag} {H : Hp} {kvs : List NE} {items : List (PyData × PyData)} (h : Ents K H kvs items) : kvs.length = items.length := Paired.length h
theorem Ents.keys {K : PySem.W.Frag} {H : Hp} {kvs : List NE} {items : List (PyData × PyData)} (h : Ents K H kvs items) : kvs.map (·.1) = items.map fun q => nk q.1 := by
  unfold Ents at h
  induction h with
  | nil => rfl
  | cons h t ih => rw [List.map_cons, List.map_cons, ih, h.1]
theorem Ents.get {K : PySem.W.Frag} {H : Hp} {kvs : List NE} {items : List (PyData × PyData)} (h : Ents K H kvs items) {i : Nat} {e : NE} (hi : kvs[i]? = some e) : ∃ q, items[i]? = some q ∧ e.1 = nk q.1 ∧ (nk q.1).depth ≤ 8 ∧ Dt K H (.ref e.2.1) q.1 ∧ Dt K H e.2.2 q.2 := by
  unfold Ents at h
  induction h generalizing i with
  | nil => simp at hi
  | @cons a b l1 l2 h t ih =>
    cases i with
    | zero =>
      have e1 : a = e := by simpa using hi
      subst e1
      exact ⟨b, rfl, h⟩
    | succ i =>
      obtain ⟨q, h1, h2⟩ := ih (i := i) (by simpa using hi)
      exact ⟨q, by simpa using h1, h2⟩
theorem Ents.snoc {K : PySem.W.Frag} {H : Hp} {kvs : List NE} {items : List (PyData × PyData)} (h : Ents K H kvs items) {e : NE} {q : PyData × PyData} (he : e.1 = nk q.1 ∧ (nk q.1).depth ≤ 8 ∧ Dt K H (.ref e.2.1) q.1 ∧ Dt K H e.2.2 q.2) : Ents K H (kvs ++ [e]) (items ++ [q]) := Paired.snoc h he

section
variable {X : Cx} {pins : List (Addr × Obj)} {σ : L2.St} {H : Hp} {s : Shared} {d : Addr} {kvs : List NE} {items : List (PyData × PyData)} {ep : Nat}
theorem dn_raw (I : Inv X pins σ H s) (h : H d = some (dN X.prog X.w d kvs ep)) : rawN X.prog X.w d kvs ep s.heap := (show ObjOk X.prog X.w H s.heap d (dN X.prog X.w d kvs ep) from I.hok d _ h).1
theorem dn_is (I : Inv X pins σ H s) (he : Ents X.K H kvs items) : ∀ {ys : List (NestedKey × Addr × Value)}, NV kvs ys → ∀ y ∈ ys, (nestedKind X.prog X.w).is s.heap y.1 y.2.1 := by
  unfold Ents at he
  induction he with
  | nil => intro ys r y hy; cases r; cases hy
  | @cons a b l1 l2 h t ih =>
    intro ys r y hy
    cases r with
    | cons r1 r2 =>
      rcases List.mem_cons.mp hy with e | hy
      · subst e
        obtain ⟨e1, e2, _⟩ := r1
        rw [← e1, ← e2, h.1]
        exact ⟨nk_is I _ _ _ h.2.2.1 rfl, h.2.1⟩
      · exact ih r2 y hy
theorem dn_of (I : Inv X pins σ H s) (h : H d = some (dN X.prog X.w d kvs ep)) (he : Ents X.K H kvs items) : kvs.length ≤ sizeLine ∧ (d == sysModules) = false ∧ ∃ ys, NV kvs ys ∧ s.heap.DictOfH (nestedKind X.prog X.w) d ys := by
  obtain ⟨a, b, n, ys, r, es, ⟨o, ho, hx, hd⟩, hes⟩ := dn_raw I h
  exact ⟨a, b, ys, r, o, es, ep, ho, hx, hd, hes, dn_is I he r, by rw [← r.keys]; exact n⟩
theorem nv_at : ∀ {kvs : List NE} {ys : List (NestedKey × Addr × Value)}, NV kvs ys → ∀ (k : NestedKey), (atKey ys k).isSome = (kvs.any fun e => decide (e.1 = k))
  | [], _, r, k => by cases r; rfl
  | a :: kvs, _, r, k => by
    cases r with
    | @cons _ b _ l2 r1 r2 =>
      by_cases e : b.1 = k
      · have h1 : atKey (b :: l2) k = some b.2 := by simp [atKey, List.find?_cons, e]
        rw [h1, List.any_cons, decide_eq_true (r1.1.trans e)]
        rfl
      · have h1 : atKey (b :: l2) k = atKey l2 k := by simp [atKey, List.find?_cons, e]
        rw [h1, List.any_cons, decide_eq_false (fun z => e (r1.1.symm.trans z)), Bool.false_or]
        exact nv_at r2 k
theorem any_keys {kvs : List NE} {items : List (PyData × PyData)} {K : PySem.W.Frag} {H : Hp} (he : Ents K H kvs items) (k : NestedKey) : (kvs.any fun e => decide (e.1 = k)) = items.any fun q => decide (nk q.1 = k) := by
  unfold Ents at he
  induction he with
  | nil => rfl
  | cons h t ih => rw [List.any_cons, List.any_cons, ih, h.1]
theorem nv_get {K : PySem.W.Frag} {H : Hp} : ∀ {kvs : List NE} {items : List (PyData × PyData)} {ys : List (NestedKey × Addr × Value)}, Ents K H kvs items → NV kvs ys → (kvs.map (·.1)).Nodup → ∀ q ∈ items, ∃ p v, atKey ys (nk q.1) = some p ∧ RelV v p.2 ∧ Dt K H v q.2
  | [], _, _, he, _, _, q, hq => by cases he; cases hq
  | a :: kvs, _, _, he, r, n, q, hq => by
    cases he with
    | @cons _ b _ l2 h1 h2 =>
      cases r with
      | @cons _ c _ l3 r1 r2 =>
        obtain ⟨n1, n2⟩ := List.nodup_cons.mp n
        rcases List.mem_cons.mp hq with e | hq
        · subst e
          have e1 : c.1 = nk q.1 := r1.1.symm.trans h1.1
          exact ⟨c.2, a.2.2, by simp [atKey, List.find?_cons, e1], r1.2.2, h1.2.2.2⟩
        · have hn : ¬ c.1 = nk q.1 := fun z => by
            apply n1
            have : a.1 = nk q.1 := r1.1.trans z
            show a.1 ∈ _
            rw [this, Ents.keys h2]
            exact List.mem_map.mpr ⟨q, hq, rfl⟩
          obtain ⟨p, v, z1, z2⟩ := nv_get h2 r2 n2 q hq
          exact ⟨p, v, by rw [← z1]; simp [atKey, List.find?_cons, hn], z2⟩
end
/-! ### the rules -/
/-- x in d -/
def rInN (P : Program) (w : World) (K : PySem.W.Frag) (neg : Bool) : R2 := fun x y H Q => ∃ d k items, y = .ref d ∧ DN P w K H d items ∧ Dt K H x (.tuple k) ∧ (nk (.tuple k)).depth ≤ 8 ∧
  Q (.bl (if neg then !(items.any fun q => decide (nk q.1 = nk (.tuple k))) else items.any fun q => decide (nk q.1 = nk (.tuple k)))) H
section
variable {X : Cx}
theorem room_n {A : Around} (hu : A.units + 64 < cLine) : (nestedKind X.prog X.w).room A.in1 := by
  show A.units + 1 + 8 < cLine
  omega
theorem room_n0 {A : Around} (hu : A.units + 64 < cLine) : (nestedKind X.prog X.w).room A := by
  show A.units + 8 < cLine
  omega
theorem dt_ref {K : PySem.W.Frag} {H : Hp} {x : V} {k : List PyData} (h : Dt K H x (.tuple k)) : ∃ a, x = .ref a := by
  cases h
  exact ⟨_, rfl⟩
theorem op_inN (hu : X.A.units + 64 < cLine) : OpR X (compareOp .In) (rInN X.prog X.w X.K false) := by
  intro pins s σ H x y v u Q I rx ry h
  obtain ⟨d, k, items, rfl, ⟨kvs, ep, hd, he⟩, hk, hz, q⟩ := h
  cases ry
  obtain ⟨a, rfl⟩ := dt_ref hk
  obtain rfl : v = Value.ref a := rx
  obtain ⟨z, hs, ys, r, dd⟩ := dn_of I hd he
  refine wpAny_in_heap (room_n hu) ⟨nk_is I _ _ _ hk rfl, hz⟩ hs dd ⟨.bl _, H, I.tok _, rfl, ?_⟩
  rw [nv_at r, any_keys he]
  exact q
theorem op_notInN (hu : X.A.units + 64 < cLine) : OpR X (compareOp .NotIn) (rInN X.prog X.w X.K true) := by
  intro pins s σ H x y v u Q I rx ry h
  obtain ⟨d, k, items, rfl, ⟨kvs, ep, hd, he⟩, hk, hz, q⟩ := h
  cases ry
  obtain ⟨a, rfl⟩ := dt_ref hk
  obtain rfl : v = Value.ref a := rx
  obtain ⟨z, hs, ys, r, dd⟩ := dn_of I hd he
  refine notIn_keyed (knd := nestedKind X.prog X.w) (kvs := pairsH ys) (room_n hu) ⟨nk_is I _ _ _ hk rfl, hz⟩ hs ⟨ys, dd, rfl⟩ ⟨.bl _, H, I.tok _, rfl, ?_⟩
  rw [valueAt_pairsH, Option.isSome_map, nv_at r, any_keys he]
  exact q
/-- d[k] -/
def tNGet (P : Program) (w : World) (K : PySem.W.Frag) (td ty : TE) : TE := fun σ H Q => td σ H fun x H1 => ty σ H1 fun y H2 => ∃ d items k q, x = .ref d ∧ DN P w K H2 d items ∧ Dt K H2 y (.tuple k) ∧ (nk (.tuple k)).depth ≤ 8 ∧ q ∈ items ∧ nk q.1 = nk (.tuple k) ∧
  ∀ v, Dt K H2 v q.2 → Q v H2
theorem pe_nget {o i : Expr} {td ty : TE} {pos : Pos} (hu : X.A.units + 64 < cLine) (ho : PE X o td) (hi : PE X i ty) (hs : NoSl i := by exact fun _ _ => rfl) : PE X (.Subscript o i pos) (tNGet X.prog X.w X.K td ty) := by
  refine ⟨fun pins s σ H Q I h => ?_⟩
  refine subD_of PySem.F.slot_dict_getitem.lookup hs (thn (ho.run pins s σ H _ I h) fun u s1 ⟨x, H1, I1, rx, q1⟩ => thn (hi.run pins s1 σ H1 _ I1 q1) fun iv s2 ⟨y, H2, I2, ry, d, items, k, q, ex, ⟨kvs, ep, hd, he⟩, hk, hz, hq, hn, q2⟩ => ?_)
  subst ex
  obtain rfl : u = Value.ref d := rx
  obtain ⟨a, rfl⟩ := dt_ref hk
  obtain rfl : iv = Value.ref a := ry
  obtain ⟨z, hs, ys, r, dd⟩ := dn_of I2 hd he
  obtain ⟨_, _, n, _⟩ := dn_raw I2 hd
  obtain ⟨p, v, h1, h2, h3⟩ := nv_get he r n q hq
  rw [hn] at h1
  exact ⟨dd.typeIs, wpAny_getItem_heap (room_n hu) ⟨nk_is I2 _ _ _ hk rfl, hz⟩ dd h1 ⟨v, H2, I2.tok _, h2, q2 v h3⟩⟩
/-- a new entry -/
theorem nv_put {k : NestedKey} {a : Addr} {v : V} {u : Value} {kvs : List NE} {ys : List (NestedKey × Addr × Value)} (r : NV kvs ys) (rv : RelV v u) (hn : (atKey ys k).isSome = false) : NV (kvs ++ [(k, a, v)]) (storedH ys k a u) := by
  unfold storedH
  rw [hn, if_neg Bool.false_ne_true]
  exact Paired.snoc r ⟨rfl, rfl, rv⟩
def NPut (P : Program) (w : World) (K : PySem.W.Frag) (H : Hp) (d : Addr) (y v : V) (Q : Hp → Prop) : Prop := ∃ items k vd, DN P w K H d items ∧ Dt K H y (.tuple k) ∧ (nk (.tuple k)).depth ≤ 8 ∧ Dt K H v vd ∧ (items.any fun q => decide (nk q.1 = nk (.tuple k))) = false ∧ items.length < 100000 ∧
  ∀ o, Tp H (upd H d o) → DN P w K (upd H d o) d (items ++ [(.tuple k, vd)]) → Q (upd H d o)
theorem n_setItem {pins : List (Addr × Obj)} {σ : L2.St} {H : Hp} {s : Shared} {d : Addr} {y v : V} {u r : Value} {A : Around} {E : Value → Shared → Prop} {Qa : Unit → Shared → Prop} {Q : Hp → Prop} (hu : A.units + 64 < cLine) (I : Inv X pins σ H s) (g : NPut X.prog X.w X.K H d y v Q) (ry : RelV y u) (rv : RelV v r)
    (h : ∀ H' s', Inv X pins σ H' s' → Q H' → Qa () s') : wpAny (model X.prog X.w) A (setItem (.ref d) u r) Qa E s := by
  obtain ⟨items, k, vd, dn, hk, hz, hv, hn, hl, q⟩ := g
  obtain ⟨kvs, ep, hd, he⟩ := id dn
  obtain ⟨a, rfl⟩ := dt_ref hk
  obtain rfl : u = Value.ref a := ry
  obtain ⟨z, hs, ys, rl, dd⟩ := dn_of I hd he
  have hz2 : ys.length ≤ sizeLine := by rw [← Paired.length rl]; exact z
  have hl2 : kvs.length < 100000 := by rw [Ents.len he]; exact hl
  have hn2 : (atKey ys (nk (.tuple k))).isSome = false := by rw [nv_at rl, any_keys he]; exact hn
  refine wpAny_setItem_heap (hsz := hz2) (room_n hu) ⟨nk_is I _ _ _ hk rfl, hz⟩ dd fun h' dd' hs' => ?_
  obtain ⟨q', es, ep', hq', h2, h3, h4, h5, h6⟩ := dd'
  have rl2 : NV (kvs ++ [(nk (.tuple k), a, v)]) (storedH ys (nk (.tuple k)) a r) := nv_put rl rv hn2
  have raw : rawN X.prog X.w d (kvs ++ [(nk (.tuple k), a, v)]) ep' h' := ⟨by rw [List.length_append, sizeLine_eq]; show kvs.length + 1 ≤ _; omega, hs, by rw [rl2.keys]; exact h6, _, rl2, es, ⟨q', hq', h2, h3⟩, h4⟩
  have t : Tp H (upd H d (dN X.prog X.w d (kvs ++ [(nk (.tuple k), a, v)]) ep')) := Tp.w dn.not
  refine h _ _ (I.write (x := d) (e := d) (t' := s.toks + (nestedKind X.prog X.w).draws (nk (.tuple k))) (by rw [hd]; exact True.intro) (.inl rfl) (fun b ob hb e => (hs'.2 b hb).trans e) ⟨_, hq'⟩ (rawN_ok raw)) (q _ t ⟨_, ep', upd_same, ?_⟩)
  exact Ents.snoc (Ents.tp t he) ⟨rfl, hz, t.d hk, t.d hv⟩
/-- d[k] = v, a new key -/
def sNPut (P : Program) (w : World) (K : PySem.W.Frag) (td ty tv : TE) : TS := fun D σ H => tv σ H fun v H1 => td σ H1 fun x H2 => ty σ H2 fun y H3 => ∃ d, x = .ref d ∧ NPut P w K H3 d y v (D.nx σ)
theorem ps_nput {o i value : Expr} {pos pos' : Pos} {td ty tv : TE} (hu : X.A.units + 64 < cLine) (ho : PE X o td) (hi : PE X i ty) (hv : PE X value tv) (hs : swapsWith value (some (.Subscript o i pos')) pos.line X.env = pure false := by rfl) :
    PS X (.Assign [.Subscript o i pos'] value pos) (sNPut X.prog X.w X.K td ty tv) := by
  refine ⟨fun pins s σ H D I h => ?_⟩
  refine wpAny_Assign_Subscript (thn (hv.run pins s σ H _ I h) fun r s1 ⟨v, H1, I1, rv, q1⟩ => thn (ho.run pins s1 σ H1 _ I1 q1) fun u s2 ⟨x, H2, I2, rx, q2⟩ => thn (hi.run pins s2 σ H2 _ I2 q2) fun iv s3 ⟨y, H3, I3, ry, d, ex, g⟩ => ?_) hs
  subst ex
  obtain rfl : u = Value.ref d := rx
  exact n_setItem hu I3 g ry rv fun H4 s4 I4 q => ⟨σ, H4, I4, q⟩
/-- len(d) -/
theorem call_lenN : CallR X (.builtin "len") (fun xs H Q => ∃ d items, xs = [.ref d] ∧ DN X.prog X.w X.K H d items ∧ Q (.int (items.length : Nat)) H) := by
  intro pins s σ H xs us Q I r h
  obtain ⟨d, items, rfl, ⟨kvs, ep, hd, he⟩, q⟩ := h
  obtain ⟨u, rfl, rx⟩ := vals1 r
  cases rx
  obtain ⟨z, hs, ys, r, dd⟩ := dn_of I hd he
  have hl : ys.length = items.length := (Paired.length r).symm.trans (Ents.len he)
  have hl2 : ys.length = kvs.length := (Paired.length r).symm
  refine call_len_dictH hs dd (by rw [hl2]; rw [sizeLine_eq] at z; omega) ⟨.int (items.length : Nat), H, I.tok _, ⟨_, by rw [hl]⟩, q⟩
theorem nv_refs : ∀ {kvs : List NE} {ys : List (NestedKey × Addr × Value)}, NV kvs ys → Vals (kvs.map fun e => V.ref e.2.1) (ys.map fun y => Value.ref y.2.1)
  | [], _, r => by cases r; exact .nil
  | a :: kvs, _, r => by
    cases r with
    | cons r1 r2 => exact .cons (show Value.ref _ = Value.ref _ by rw [r1.2.1]) (nv_refs r2)
theorem es_key {ys : List (NestedKey × Addr × Value)} {es : Array DictEntry} {P : Program} {w : World} (hes : es.toList = ys.map (entryOfKey (nestedKind P w))) {i : Nat} (hi : i < es.size) : ∃ y, ys[i]? = some y ∧ es[i].key = .ref y.2.1 := by
  have h1 : es.toList[i]? = some es[i] := by rw [Array.getElem?_toList]; exact Array.getElem?_eq_getElem hi
  rw [hes, List.getElem?_map] at h1
  obtain ⟨y, hy, e⟩ := Option.map_eq_some_iff.mp h1
  exact ⟨y, hy, by rw [← e]; rfl⟩
theorem ents_keys {K : PySem.W.Frag} {H : Hp} : ∀ {kvs : List NE} {items : List (PyData × PyData)}, Ents K H kvs items → DtAll K H (kvs.map fun e => V.ref e.2.1) (items.map (·.1))
  | [], _, r => by cases r; exact .nil
  | a :: kvs, _, r => by
    cases r with
    | cons r1 r2 => exact .cons r1.2.2.1 (ents_keys r2)
/-- list(d) -/
theorem call_listN (hh : X.A.handled = none) : CallR X (.type "list") (fun xs H Q => ∃ d items, xs = [.ref d] ∧ DN X.prog X.w X.K H d items ∧ ∀ p ys, H p = none → DtAll X.K H ys (items.map (·.1)) → Q (.ref p) (upd H p (.lst ys))) := by
  intro pins s σ H xs us Q I r h
  obtain ⟨d, items, rfl, ⟨kvs, ep, hd, he⟩, q⟩ := h
  obtain ⟨u, rfl, rx⟩ := vals1 r
  cases rx
  obtain ⟨z, hs, nd, ys, rl, es, hr, hes⟩ := dn_raw I hd
  have l1 : kvs.length = ys.length := Paired.length rl
  have l2 : es.size = ys.length := by rw [← Array.length_toList, hes, List.length_map]
  refine PySem.W.kdl_call (KdlSrc.rawDict hs) hh hr (by rw [l2, ← l1]; exact z) fun h' tk acc' c' kp hob its => ?_
  have e1 : acc'.toList = ys.map fun y => Value.ref y.2.1 := by
    apply List.ext_getElem?
    intro i
    rw [Array.getElem?_toList, List.getElem?_map]
    cases ha : acc'[i]? with
    | none =>
      have : acc'.size ≤ i := by simpa using ha
      rw [its.1] at this
      have h2 : ys[i]? = none := List.getElem?_eq_none (by omega)
      rw [h2]
      rfl
    | some v =>
      obtain ⟨hi, ev⟩ := its.2 i v ha
      obtain ⟨y, hy, ek⟩ := es_key hes hi
      rw [hy, ev, ek]
      rfl
  have rv : Vals (kvs.map fun e => V.ref e.2.1) acc'.toList := by rw [e1]; exact nv_refs rl
  exact ⟨.ref s.heap.objs.size, _, I.laid (t' := tk) kp (Nat.le_refl _) (show ObjOk X.prog X.w _ h' _ (.lst (kvs.map fun e => V.ref e.2.1)) from ⟨by rw [List.length_map]; exact z, acc'.toList, c', rv, hob⟩), rfl, q _ _ (I.hok.fresh (Nat.le_refl _)) (ents_keys he)⟩
/-- for k in d -/
def Itn (P : Program) (w : World) (d : Addr) (kvs : List NE) (ep : Nat) : It :=
  ⟨fun i H => H d = some (dN P w d kvs ep) ∧ i < kvs.length, fun i H x H' => H' = H ∧ ∃ e, kvs[i]? = some e ∧ x = .ref e.2.1, fun i H => H d = some (dN P w d kvs ep) ∧ kvs.length ≤ i⟩
theorem turn_n {P : Program} {w : World} {K : PySem.W.Frag} {tg : Expr} {d : Addr} {kvs : List NE} {ep : Nat} (it : Addr) : Turn P w K tg (Itn P w d kvs ep) [it] it (fun i h => h.IsKeyIter it d i kvs.length ep) where
  mem := by simp
  obj := fun i h st b hb => by
    have e : b = it := by simpa using hb
    subst e
    obtain ⟨oi, e, c, dd⟩ := st
    exact ⟨oi, e, fun v z => by rw [dd] at z; cases z⟩
  keep := fun i h h' st k => st.at fun oi e => k it (by simp) oi e
  item := by
    intro X hP hw hK hc i pins s σ H E I hf st hg
    subst hP hw hK
    obtain ⟨hd, hi⟩ := hg
    obtain ⟨f0, f1, f2, f3, f4, f5⟩ := hf it (by simp)
    obtain ⟨z, hs, nd, ys, rl, es, hr, hes⟩ := dn_raw I hd
    have l1 : kvs.length = ys.length := Paired.length rl
    have l2 : es.size = ys.length := by rw [← Array.length_toList, hes, List.length_map]
    have l3 : kvs.length = es.size := l1.trans l2.symm
    rw [l3] at st hi
    obtain ⟨y, hy, ek⟩ := es_key hes hi
    have h1 := nv_refs rl
    have hk : i < kvs.length := by rw [l3]; exact hi
    have hx : (kvs.map fun e => V.ref e.2.1)[i]? = some (V.ref kvs[i].2.1) := by rw [List.getElem?_map, List.getElem?_eq_getElem hk]; rfl
    obtain ⟨u, hu, ru⟩ := h1.get hx
    rw [List.getElem?_map, hy] at hu
    have hu : Value.ref y.2.1 = u := by simpa using hu
    rw [← ek] at hu
    refine wpAny_pyNext_keys_item_raw st hr hi fun h' st' sb => ?_
    have I1 : Inv X pins σ H { s with heap := h' } := I.turned (t' := s.toks) (fun b ob hb e => (sb.2 b hb).trans e) f0 f1 f3 f4 f5
    obtain ⟨oi, e, c, dd⟩ := id st'
    refine ⟨es[i].key, rfl, go_of (s := { s with heap := h' }) e c dd (by decide) ⟨.ref kvs[i].2.1, H, I1, by rw [hu]; exact ru, ⟨rfl, kvs[i], List.getElem?_eq_getElem hk, rfl⟩, ?_, fun b hb => (hf b hb).1⟩⟩
    show h'.IsKeyIter it d (i + 1) kvs.length _
    rw [l3]
    exact st'
  done := by
    intro X hP hw hK hc i pins s σ H E I hf st hg
    subst hP hw hK
    obtain ⟨hd, hi⟩ := hg
    obtain ⟨f0, f1, f2, f3, f4, f5⟩ := hf it (by simp)
    obtain ⟨z, hs, nd, ys, rl, es, hr, hes⟩ := dn_raw I hd
    have l1 : kvs.length = ys.length := Paired.length rl
    have l2 : es.size = ys.length := by rw [← Array.length_toList, hes, List.length_map]
    have l3 : kvs.length = es.size := l1.trans l2.symm
    rw [l3] at st hi
    exact wpAny_pyNext_keys_end_raw (I.ok.hd hc) st hr hi fun h' eb => ⟨rfl, I.turned (t' := s.toks) (fun b ob hb e => eb b ob hb e) f0 f1 f3 f4 f5⟩
  self := fun A i s Q E st h => wpAny_pyIter_keyiter st h
def iNKeys (P : Program) (w : World) (td : TE) : TI := fun σ H R => td σ H fun x H1 => ∃ d kvs ep, x = .ref d ∧ H1 d = some (dN P w d kvs ep) ∧ R (Itn P w d kvs ep) H1
theorem pi_nkeys {tg e : Expr} {td : TE} (he : PE X e td) : PI X tg e (iNKeys X.prog X.w td) := by
  refine ⟨fun pins s σ H R I h => ?_⟩
  refine thn (he.run pins s σ H _ I h) fun u s1 ⟨x, H1, I1, rx, d, kvs, ep, ex, hd, q⟩ => ?_
  subst ex
  obtain rfl : u = Value.ref d := rx
  obtain ⟨z, hs, nd, ys, rl, es, hr, hes⟩ := dn_raw I1 hd
  have l1 : kvs.length = ys.length := Paired.length rl
  have l2 : es.size = ys.length := by rw [← Array.length_toList, hes, List.length_map]
  refine wpAny_pyIter_dict_raw hs hr (pi_one (tk := s1.toks) I1 _ (turn_n _) ⟨_, Heap.get?_push_size _ rfl, rfl, ?_⟩ q)
  rw [show kvs.length = es.size from l1.trans l2.symm] <;> rfl
theorem walk_n {P : Program} {w : World} {d : Addr} {kvs : List NE} {ep : Nat} : Walk (Itn P w d kvs ep) (kvs.map fun e => V.ref e.2.1).length (fun H => H d = some (dN P w d kvs ep)) (YAt (kvs.map fun e => V.ref e.2.1)) :=
  ⟨fun i H hi q => ⟨q, by simpa using hi⟩, fun H q => ⟨q, by simp⟩, fun i H x H' _ q y => ⟨y.1, by obtain ⟨_, e, he, ex⟩ := y; rw [List.getElem?_map, he, ex]; rfl⟩⟩
end
/-! ### comprehensions over any walk -/
section
variable {α : Type} {K : PySem.W.Frag} {J : It} {G : Hp → Prop} {xs : List V} {items : List α} {p : α → Bool} {m : α → PyData} {g : TG} {tt : TT} {te : TE} {vs : List Nat} {σ : L2.St} {H1 : Hp} {D : Addr} {Qd : Hp → Prop}
theorem lc_D (wk : Walk J xs.length G (YAt xs)) (hG : ∀ H', Ex H1 H' → G H') (hl : xs.length = items.length) (hz : xs.length < 100000) (hD : H1 D = none) (hb : LcTurn K xs items p m g tt te vs σ H1)
    (hd : ∀ H' ys, Ex H1 H' → H' D = some (.lst ys) → DtAll K H' ys ((items.filter p).map m) → Qd H') :
    ∃ W : Nat → Nat → Hp → Prop, (∃ m, W 0 m (upd H1 D (.lst []))) ∧ ∀ i m H, W i m H →
      (J.stop i H ∧ Qd H) ∨ (J.go i H ∧ ∃ Nx : Hp → Prop, (∀ H', Nx H' → ∃ m', m' < m ∧ W (i + 1) m' H') ∧ ∀ x H', J.yld i H x H' → g x (wipe σ vs) H' fun σ2 H2 => wipe σ2 vs = wipe σ vs ∧ tt σ2 H2 fun b H3 =>
        if b = true then te σ2 H3 fun y H4 => ∃ acc, H4 D = some (.lst acc) ∧ acc.length < sizeLine ∧ Nx (upd H4 D (.lst (acc ++ [y]))) else Nx H3) :=
  lc_it wk (fun i => LcP K H1 D (((items.take i).filter p).map m) i) ⟨Ex.nw hD, [], upd_same, .nil, Nat.zero_le _⟩ (fun i H' _ P => hG H' P.1)
    (fun i x H' H'' hi P y => by
      obtain ⟨rfl, hx⟩ := y
      have h1 : i < items.length := by rw [← hl]; exact hi
      exact lcP_turn (by omega) hD hb hx (List.getElem?_eq_getElem h1) P)
    fun H' ⟨e, ys, h1, h2, _⟩ => by
      rw [take_all hl] at h2
      exact hd H' ys e h1 h2
end
/-! ### displays, dict(pairs) -/
section
variable {X : Cx}
theorem rawN_new {P : Program} {w : World} (h : Heap) (hb : sysModules < h.objs.size) : rawN P w h.objs.size [] 0 (h.push { cls := .type "dict", data := .dict #[] }) :=
  ⟨Nat.zero_le _, beq_eq_false_iff_ne.mpr (Ne.symm (Nat.ne_of_lt hb)), List.nodup_nil, [], .nil, #[], ⟨_, Heap.get?_push_size _ rfl, ⟨rfl, rfl, rfl⟩, rfl⟩, rfl⟩
/-- {} -/
def tNNew (P : Program) (w : World) (K : PySem.W.Frag) : TE := fun _ H Q => ∀ p o, H p = none → DN P w K (upd H p o) p [] → Q (.ref p) (upd H p o)
theorem pe_nnew {pos : Pos} : PE X (.Dict [] [] pos) (tNNew X.prog X.w X.K) := ⟨fun pins s σ H Q I h =>
  wpAny_Dict_empty ⟨.ref s.heap.objs.size, _, I.laid (a := s.heap.objs.size) (o := dN X.prog X.w s.heap.objs.size [] 0) (t' := s.toks) (fun _ _ q => Heap.get?_push_of_some _ q) (Nat.le_refl _) (rawN_ok (rawN_new s.heap I.big)), rfl, h _ _ (I.hok.fresh (Nat.le_refl _)) ⟨[], 0, upd_same, .nil⟩⟩⟩
/-- {k: v} -/
def tNOne (P : Program) (w : World) (K : PySem.W.Frag) (tk tv : TE) : TE := fun σ H Q => ∀ p o, H p = none → DN P w K (upd H p o) p [] → tk σ (upd H p o) fun x H1 => tv σ H1 fun y H2 => H2 = upd H p o ∧ ∃ k vd, Dt K H2 x (.tuple k) ∧ (nk (.tuple k)).depth ≤ 8 ∧ Dt K H2 y vd ∧
  ∀ o', Ex H (upd H p o') → DN P w K (upd H p o') p [(.tuple k, vd)] → Q (.ref p) (upd H p o')
theorem upd_upd' {H : Hp} {p : Addr} {a b : HO} : upd (upd H p a) p b = upd H p b := by
  funext x
  unfold upd
  split <;> rfl
theorem pe_none1 {k v : Expr} {pos : Pos} {tk tv : TE} (hu : X.A.units + 64 < cLine) (hk : PE X k tk) (hv : PE X v tv) : PE X (.Dict [some k] [v] pos) (tNOne X.prog X.w X.K tk tv) := by
  refine ⟨fun pins s σ H Q I q => ?_⟩
  have hn := I.hok.fresh (Nat.le_refl s.heap.objs.size)
  have I1 := I.laid (a := s.heap.objs.size) (o := dN X.prog X.w s.heap.objs.size [] 0) (h' := s.heap.push { cls := .type "dict", data := .dict #[] }) (t' := s.toks) (fun _ _ q => Heap.get?_push_of_some _ q) (Nat.le_refl _) (rawN_ok (rawN_new s.heap I.big))
  rw [arm_eval_Dict, show (evalEachOpt [some k] X.env).zip ((evalEach [v] X.env).map fun v => do let x ← v; standAt pos; pure x) = (pairTrees [some k] [v] X.env pos).map (fun p => (some p.1, p.2)) from zip_pairTrees _ _ _ _ rfl rfl, dictDisplay_pairs _ (by rw [pairTrees]; exact List.cons_ne_nil _ _) (by show 1 < _; omega)]
  refine wpAny_bind (wpAny_standAt (wpAny_bind (wpAny_subDictH (knd := nestedKind X.prog X.w) (Q := fun d s' => wpAny (model X.prog X.w) X.A (pure (Value.ref d)) (EP X pins σ Q) X.xe s') (room_n0 hu) (by show 1 ≤ 15; decide) ?_)))
  refine pairTrees_cons_walk (thn (hk.run pins _ σ _ _ I1 (q _ _ hn ⟨[], 0, upd_same, .nil⟩)) fun u s1 ⟨x, H1, I1, rx, q1⟩ => thn (hv.run pins s1 σ H1 _ I1 q1) fun w2 s2 ⟨y, H2, I2, ry, eH, kd, vd, hk2, hz, hv2, q2⟩ => pairTrees_nil_walk ?_)
  subst eH
  obtain ⟨a, rfl⟩ := dt_ref hk2
  obtain rfl : u = Value.ref a := rx
  obtain ⟨z, hs, ys, r, dd⟩ := dn_of (X := X) (kvs := []) (items := []) (ep := 0) I2 upd_same .nil
  cases r
  refine ⟨[(nk (.tuple kd), a, w2)], ⟨rfl, rfl, ⟨nk_is I2 _ _ _ hk2 rfl, hz⟩, trivial⟩, dd, fun h' tk dd' hs' => wpAny_pure ?_⟩
  obtain ⟨q', es, ep', hq', h2, h3, h4, h5, h6⟩ := dd'
  have raw : rawN X.prog X.w s.heap.objs.size [(nk (.tuple kd), a, y)] ep' h' := ⟨by rw [sizeLine_eq]; show 1 ≤ _; omega, hs, List.nodup_cons.mpr ⟨List.not_mem_nil, List.nodup_nil⟩, [(nk (.tuple kd), a, w2)], .cons ⟨rfl, rfl, ry⟩ .nil, es, ⟨q', hq', h2, h3⟩, h4⟩
  have I3 := I2.write (x := s.heap.objs.size) (e := s.heap.objs.size) (t' := tk) (h' := h') (o := dN X.prog X.w s.heap.objs.size [(nk (.tuple kd), a, y)] ep') (by rw [upd_same]; exact True.intro) (.inl rfl) (fun b ob hb e => (hs'.2 b hb).trans e) ⟨_, hq'⟩ (rawN_ok raw)
  have t : Tp (upd H s.heap.objs.size (dN X.prog X.w s.heap.objs.size [] 0)) (upd (upd H s.heap.objs.size (dN X.prog X.w s.heap.objs.size [] 0)) s.heap.objs.size (dN X.prog X.w s.heap.objs.size [(nk (.tuple kd), a, y)] ep')) := Tp.w (DN.not (P := X.prog) (w := X.w) (K := X.K) ⟨[], 0, upd_same, .nil⟩)
  rw [upd_upd'] at I3 t
  exact ⟨.ref s.heap.objs.size, _, I3, rfl, q2 _ (Ex.nw hn) ⟨_, ep', upd_same, .cons ⟨rfl, hz, t.d hk2, t.d hv2⟩ .nil⟩⟩
/-! ### dict(pairs) -/
theorem pairs_at {pins : List (Addr × Obj)} {σ : L2.St} {H : Hp} {s : Shared} (I : Inv X pins σ H s) : ∀ (items : List (PyData × PyData)) (xs : List V) (its : List Value), DtAll X.K H xs (items.map fun q => .tuple [q.1, q.2]) → Vals xs its → (∀ q ∈ items, (∃ k, q.1 = .tuple k) ∧ (nk q.1).depth ≤ 8) →
    ∃ (kvs : List NE) (ys : List (NestedKey × Addr × Value)), NV kvs ys ∧ Ents X.K H kvs items ∧ Paired (fun (u : Value) (y : NestedKey × Addr × Value) => ∃ t, u = .ref t ∧ PairAt s.heap t (.ref y.2.1) y.2.2) its ys
  | [], _, _, h, r, _ => by
    cases h
    cases r
    exact ⟨[], [], .nil, .nil, .nil⟩
  | q :: items, _, _, h, r, hk => by
    cases h with
    | cons h1 h2 =>
      cases r with
      | cons r1 r2 =>
        obtain ⟨kvs, ys, a1, a2, a3⟩ := pairs_at I items _ _ h2 r2 fun p hp => hk p (List.mem_cons_of_mem _ hp)
        obtain ⟨t, x, y, rfl, hs, h3, h4⟩ := dp_two h1
        obtain ⟨⟨k, ek⟩, hz⟩ := hk q List.mem_cons_self
        rw [ek] at h3 hz
        obtain ⟨b, rfl⟩ := dt_ref h3
        obtain ⟨its2, rv2, ⟨o, ho, hc, n, hd⟩, _⟩ := I.tuple hs
        cases rv2 with
        | cons v1 v2 =>
          cases v2 with
          | cons v2 v3 =>
            cases v3
            cases v1
            cases r1
            refine ⟨(nk q.1, b, y) :: kvs, (nk q.1, b, _) :: ys, .cons ⟨rfl, rfl, v2⟩ a1, .cons ⟨rfl, by rw [ek]; exact hz, by rw [ek]; exact h3, h4⟩ a2, .cons ⟨t, rfl, .inl ⟨o, ho, hc, n, hd⟩⟩ a3⟩
theorem stored_nodup {K : Type} [DecidableEq K] : ∀ (ps acc : List (K × Addr × Value)), ((acc ++ ps).map (·.1)).Nodup → storedAllH acc ps = acc ++ ps
  | [], acc, _ => by rw [List.append_nil]; rfl
  | p :: ps, acc, h => by
    have e : atKey acc p.1 = none := by
      unfold atKey
      rw [Option.map_eq_none_iff, List.find?_eq_none]
      intro x hx
      rw [List.map_append, List.nodup_append] at h
      have := h.2.2 x.1 (List.mem_map.mpr ⟨x, hx, rfl⟩) p.1 (List.mem_map.mpr ⟨p, List.mem_cons_self, rfl⟩)
      simpa using this
    show storedAllH (storedH acc p.1 p.2.1 p.2.2) ps = _
    have e2 : storedH acc p.1 p.2.1 p.2.2 = acc ++ [p] := by
      unfold storedH
      rw [e]
      rfl
    rw [e2, stored_nodup ps (acc ++ [p]) (by rw [List.append_assoc]; exact h), List.append_assoc]
    rfl
def tsOf (its : List Value) (j : Nat) : Addr := match its[j]? with
  | some (.ref t) => t
  | _ => 0
theorem paired_at {α β : Type} {F : α → β → Prop} : ∀ {l : List α} {m : List β}, Paired F l m → ∀ {j : Nat} {y : β}, m[j]? = some y → ∃ x, l[j]? = some x ∧ F x y
  | _, _, .nil, j, y, h => by simp at h
  | _, _, .cons a b, 0, y, h => by
    have e := Option.some.inj h
    subst e
    exact ⟨_, rfl, a⟩
  | _, _, .cons a b, j + 1, y, h => paired_at b (j := j) h
/-- dict(list of pairs), keys apart -/
theorem call_dictN (hh : X.A.handled = none) (hu : X.A.units + 64 < cLine) : CallR X (.type "dict") (fun xs H Q => ∃ a vs items, xs = [.ref a] ∧ SqL X.K H a vs ∧ DtAll X.K H vs (items.map fun q => .tuple [q.1, q.2]) ∧ (∀ q ∈ items, (∃ k, q.1 = .tuple k) ∧ (nk q.1).depth ≤ 8) ∧ (items.map fun q => nk q.1).Nodup ∧
    ∀ p o, H p = none → DN X.prog X.w X.K (upd H p o) p items → Q (.ref p) (upd H p o)) := by
  intro pins s σ H xs us Q I r h
  obtain ⟨a, vs, items, rfl, hl, hv, hk, nd, q⟩ := h
  obtain ⟨u, rfl, rx⟩ := vals1 r
  cases rx
  obtain ⟨its, rv, ⟨ol, nl, hol, hcl, hdl, hdat⟩, hz⟩ := I.list hl
  obtain ⟨kvs, ys, a1, a2, a3⟩ := pairs_at I items vs its hv rv hk
  have lenv : vs.length = its.length := rv.length
  have lenp : its.length = ys.length := Paired.length a3
  have nd2 : (ys.map (·.1)).Nodup := by rw [← a1.keys, a2.keys]; exact nd
  have lps : (ys.map fun y => (Value.ref y.2.1, y.2.2)).length = ys.length := List.length_map _
  refine call_dict_pairsH (knd := nestedKind X.prog X.w) (ps := ys) (PairArg.list a its.toArray (tsOf its) (ys.map fun y => (.ref y.2.1, y.2.2))) hh (by show X.A.units + 1 + 1 + 8 < cLine; omega) ⟨⟨ol, nl, hol, hcl, hdl, hdat⟩, ?_, ?_⟩ ⟨lps.symm, ?_⟩ ?_ ?_ ?_
  · rw [lps]
    simpa using lenp
  · intro j k v hj
    rw [List.getElem?_map] at hj
    obtain ⟨y, hy, e⟩ := Option.map_eq_some_iff.mp hj
    obtain ⟨x, hx, t, ex, hp⟩ := paired_at a3 hy
    cases e
    subst ex
    have et : tsOf its j = t := by unfold tsOf; rw [hx]
    rw [et]
    exact ⟨by simpa using hx, hp⟩
  · intro i key v hr
    have hr : (ys.map fun y => (Value.ref y.2.1, y.2.2))[i]? = some (key, v) := hr
    rw [List.getElem?_map] at hr
    obtain ⟨y, hy, e⟩ := Option.map_eq_some_iff.mp hr
    cases e
    exact ⟨y.1, y.2.1, hy, rfl⟩
  · intro h' hk' x hx
    exact nestedKind_stays.stays (fun b o vs n e _ => hk' b o (Nat.ne_of_lt (Heap.lt_size e)) (fun z => nomatch z) e) (dn_is I a2 a1 x hx)
  · rw [lps, ← lenp, ← lenv]
    exact hz
  · intro h' tk dd' kp
    rw [stored_nodup _ _ (by simpa using nd2)] at dd'
    obtain ⟨q', es, ep', hq', h2, h3, h4, h5, h6⟩ := dd'
    have lk : kvs.length = ys.length := Paired.length a1
    have hb : (s.heap.objs.size == sysModules) = false := beq_eq_false_iff_ne.mpr (Ne.symm (Nat.ne_of_lt I.big))
    have raw : rawN X.prog X.w s.heap.objs.size kvs ep' h' := ⟨by rw [lk, ← lenp, ← lenv]; exact hz, hb, by rw [a1.keys]; exact nd2, ys, a1, es, ⟨q', hq', h2, h3⟩, by simpa using h4⟩
    have hn := I.hok.fresh (Nat.le_refl s.heap.objs.size)
    exact ⟨.ref s.heap.objs.size, _, I.laid (t' := tk) (fun b o e => kp b o (fun z => nomatch z) e) (Nat.le_refl _) (rawN_ok raw), rfl, q _ _ hn ⟨kvs, ep', upd_same, Ents.tp (Ex.tp (Ex.nw hn)) a2⟩⟩
end
end LapW
set_option Elab.async false
set_option linter.all false
set_option maxRecDepth 100000
set_option maxHeartbeats 4000000
namespace LapW
open PySem PySem.Spec PyProof.Rows L2 Lap
theorem seq_cut {t u : TS} {D : Ends} {σ : L2.St} {H : Hp} (P : L2.St → Hp → Prop) (h : ∀ σ' H', P σ' H' → u D σ' H') (k : (∀ σ' H', P σ' H' → u D σ' H') → t { D with nx := u D } σ H) : tSeq t u D σ H := k h
theorem nx_cut {t u : TS} {D : Ends} {rt : VK} {ct bk : L2.St → Hp → Prop} {σ : L2.St} {H : Hp} (P : L2.St → Hp → Prop) (h : ∀ σ' H', P σ' H' → u D σ' H') (k : (∀ σ' H', P σ' H' → u D σ' H') → t { D with nx := u D } σ H) : ({ nx := tSeq t u D, rt := rt, ct := ct, bk := bk } : Ends).nx σ H := k h
theorem if_min (a b : Int) : (if b < a then b else a) = min a b := by split <;> omega
theorem if_max (a b : Int) : (if a < b then b else a) = max a b := by split <;> omega
theorem if_max2 (a b : Int) : (if b > a then b else a) = max a b := by split <;> omega
theorem dne {d e : Deed} (h : ¬ d = e) : V.bl (decide (V.str (deedS d) = V.str (deedS e))) = V.bl false := by
  cases d <;> cases e <;> first | exact absurd rfl h | decide +kernel
section
variable {P : Program} {w : World} {K : PySem.W.Frag} {mg : Str → Option Value} {base : Heap}
/-! ### numbered -/
abbrev s_numbered : Stmt := top 34
abbrev N_numbered : List Str := ["wheel", "state", "row", "reader", "table"]
theorem sc_numbered : FnScope N_numbered ["wheel", "state"] (defScope s_numbered) := ⟨rfl, rfl, rfl, by decide +kernel, rfl, by decide +kernel, by decide +kernel⟩
def spNumbered (K : PySem.W.Frag) : Sp := fun vs H Q _ => ∃ (v x : V) (u : Wh) (s : Lap.St), vs = [v, x] ∧ WhAt K H v u ∧ Dt K H x (stD s) ∧ RetD K (stD (numbered u s)) H Q
theorem cal_numbered (T : Tx K mg) : C8.Cal P w K mg base 2 "numbered" (spNumbered K) [] := by
  refine cal_of T.g_numbered T.f_numbered sc_numbered (fun vs H Q E h => ?_) (fun _ _ _ _ _ _ us hl => match us, hl with | [_, _], _ => rfl) fun cdv A outer s H vs Q E hr h => ?_
  · obtain ⟨v, x, u, s, rfl, _⟩ := h
    rfl
  · obtain ⟨v, x, u, s, rfl, hx, hs, hq⟩ := h
    refine ⟨_, (pss_cons (ps_asg (pv 1) (pg_tup rfl (pgs_cons (pg_name (i := 2) sc_numbered.nd rfl (Or.inl rfl)) (pgs_cons (pg_name (i := 3) sc_numbered.nd rfl (Or.inl rfl)) (pgs_cons (pg_name (i := 4) sc_numbered.nd rfl (Or.inl rfl)) pgs_nil)))))
      (pss_cons (ps_if (pt_cmp (pc_notN (pv 2))) (pss_one (ps_set (i := 2) sc_numbered.nd rfl (Or.inl rfl) (pe_tup (pa_cons (C8.pe_c (cal_older T) hr (by decide) rfl (pa_cons (pv 0) (pa_cons (pe_ix ix_tup (pv 2) pe_int (fun _ _ => rfl)) pa_nil))) (pa_cons (C8.pe_c (cal_older T) hr (by decide) rfl (pa_cons (pv 0) (pa_cons (pe_ix ix_tup (pv 2) pe_int (fun _ _ => rfl)) pa_nil))) pa_nil))))) pss_nil)
      (pss_cons (ps_if (pt_cmp (pc_notN (pv 3))) (pss_cons (ps_set (i := 3) sc_numbered.nd rfl (Or.inl rfl) (pe_tup (pa_cons (C8.pe_c (cal_older T) hr (by decide) rfl (pa_cons (pv 0) (pa_cons (pe_ix ix_tup (pv 3) pe_int (fun _ _ => rfl)) pa_nil))) (pa_cons (pe_ix ix_tup (pv 3) pe_int (fun _ _ => rfl)) pa_nil))))
        (pss_one (ps_if (PW.pt (pw_and (pt_cmp (pc_notN (pe_cut T (pv 0)))) (pw_and1 (pt_cmpR op_ge (pe_ix ix_tup (pv 3) pe_int (fun _ _ => rfl)) (pe_cut T (pv 0)) (nomark _))))) (pss_one (ps_set (i := 3) sc_numbered.nd rfl (Or.inl rfl) pe_non)) pss_nil))) pss_nil)
      (pss_one (ps_ret (pe_tup (pa_cons (pv 2) (pa_cons (pv 3) (pa_cons (pe_callB (call_min2 rfl) rfl T.n_min (by decide +kernel) (pa_cons (pe_op op_add (pv 4) pe_int) (pa_cons (pe_size T (pv 0)) pa_nil))) pa_nil))))))))), ?_⟩
    obtain ⟨fr, st, ho, ct⟩ := u
    obtain ⟨t, a, b, rfl, ht, h1, h2⟩ := dp_st hs
    refine ⟨_, rfl, t, _, rfl, ht, rfl, _, _, rfl, _, _, rfl, _, _, rfl, rfl, ?_⟩
    refine nx_cut (fun σ' H' => ∃ x', σ' = [some v, some (V.ref t), some x', some b, some (.int s.tb)] ∧ Ex H H' ∧ Dt K H' x' (rowD (oldRow s.row))) ?_ fun hn => ?_
    · rintro σ' H' ⟨x', rfl, e, hx'⟩
      refine seq_cut (fun σ' H'' => ∃ y', σ' = [some v, some (V.ref t), some x', some y', some (.int s.tb)] ∧ Ex H' H'' ∧ Dt K H'' y' (rdD (cutRd ⟨fr, st, ho, ct⟩ s.rd))) ?_ fun hn => ?_
      · rintro σ' H'' ⟨y', rfl, e', hy'⟩
        refine ⟨_, rfl, _, rfl, _, rfl, _, _, rfl, rfl, _, rfl, _, e'.wh (e.wh hx), _, _, rfl, ⟨by show 3 ≤ sizeLine; decide, fun p hp => ?_⟩⟩
        rw [if_min]
        refine hq _ _ ((e.tr e').nx hp) (st_dp sqt_new ?_ ?_)
        · exact (Ex.nw hp).d (e'.d hx')
        · exact (Ex.nw hp).d hy'
      · refine ⟨_, rfl, ?_⟩
        have h2 := e.d h2
        cases hd : s.rd with
        | none =>
          rw [hd] at h2
          cases h2
          exact ⟨false, rfl, iteF (hn _ _ ⟨_, rfl, Ex.rfl' _, by rw [hd]; exact .non⟩)⟩
        | some p =>
          obtain ⟨p, q⟩ := p
          rw [hd] at h2
          obtain ⟨t2, rfl, ht2⟩ := dp_rd h2
          refine ⟨true, rfl, iteT ⟨_, rfl, _, rfl, t2, _, 0, _, rfl, rfl, ht2, rfl, v, _, some p, rfl, e.wh hx, ?_⟩⟩
          refine ⟨_, rfl, t2, _, 1, _, rfl, rfl, ht2, rfl, by show 2 ≤ sizeLine; decide, fun p' hp => ⟨_, rfl, _, (Ex.nw hp).wh (e.wh hx), ?_⟩⟩
          cases ct with
          | none =>
            refine ⟨false, rfl, iteF (iteF (hn _ _ ⟨_, rfl, Ex.nw hp, ?_⟩))⟩
            rw [hd]
            exact rd_dp sqt_new
          | some c =>
            refine ⟨true, rfl, iteT ⟨_, rfl, p', _, 0, _, rfl, rfl, sqt_new, rfl, _, rfl, _, (Ex.nw hp).wh (e.wh hx), _, c, rfl, rfl, _, rfl, ?_⟩⟩
            by_cases hlt : c ≤ (p + 1) % 4
            · rw [decide_eq_true hlt]
              refine iteT (hn _ _ ⟨_, rfl, Ex.nw hp, ?_⟩)
              rw [hd, show cutRd ⟨fr, st, ho, some c⟩ (some (p, q)) = none from if_pos hlt]
              exact .non
            · rw [decide_eq_false hlt]
              refine iteF (hn _ _ ⟨_, rfl, Ex.nw hp, ?_⟩)
              rw [hd, show cutRd ⟨fr, st, ho, some c⟩ (some (p, q)) = some ((p + 1) % 4, q) from if_neg hlt]
              exact rd_dp sqt_new
    · refine ⟨_, rfl, ?_⟩
      cases hr : s.row with
      | none =>
        rw [hr] at h1
        cases h1
        exact ⟨false, rfl, iteF (hn _ _ ⟨_, rfl, Ex.rfl' _, by rw [hr]; exact .non⟩)⟩
      | some p =>
        obtain ⟨p, q⟩ := p
        rw [hr] at h1
        obtain ⟨t2, rfl, ht2⟩ := dp_row h1
        refine ⟨true, rfl, iteT ⟨_, rfl, _, rfl, t2, _, 0, _, rfl, rfl, ht2, rfl, v, _, p, rfl, hx, ?_⟩⟩
        refine ⟨_, rfl, _, rfl, t2, _, 1, _, rfl, rfl, ht2, rfl, v, _, q, rfl, hx, by show 2 ≤ sizeLine; decide, fun p' hp => hn _ _ ⟨_, rfl, Ex.nw hp, ?_⟩⟩
        rw [hr]
        exact row_dp sqt_new

/-! ### passed -/
abbrev s_passed : Stmt := top 37
abbrev N_passed : List Str := ["wheel", "state", "row", "reader", "table", "most", "late"]
theorem sc_passed : FnScope N_passed ["wheel", "state"] (defScope s_passed) := ⟨rfl, rfl, rfl, by decide +kernel, rfl, by decide +kernel, by decide +kernel⟩
def spPassed (K : PySem.W.Frag) : Sp := fun vs H Q _ => ∃ (v x : V) (u : Wh) (s : Lap.St), vs = [v, x] ∧ WhAt K H v u ∧ Dt K H x (stD s) ∧ RetD K (stD (passed u s)) H Q
theorem cal_passed (T : Tx K mg) : C8.Cal P w K mg base 3 "passed" (spPassed K) [] := by
  refine cal_of T.g_passed T.f_passed sc_passed (fun vs H Q E h => ?_) (fun _ _ _ _ _ _ us hl => match us, hl with | [_, _], _ => rfl) fun cdv A outer s H vs Q E hr h => ?_
  · obtain ⟨v, x, u, s, rfl, _⟩ := h
    rfl
  · obtain ⟨v, x, u, s, rfl, hx, hs, hq⟩ := h
    refine ⟨_, (pss_cons (ps_asg (pv 1) (pg_tup rfl (pgs_cons (pg_name (i := 2) sc_passed.nd rfl (Or.inl rfl)) (pgs_cons (pg_name (i := 3) sc_passed.nd rfl (Or.inl rfl)) (pgs_cons (pg_name (i := 4) sc_passed.nd rfl (Or.inl rfl)) pgs_nil)))))
      (pss_cons (ps_set (i := 5) sc_passed.nd rfl (Or.inl rfl) (pe_ifExp (pt_val (C8.pe_c (cal_is_held T) hr (by decide) rfl (pa_cons (pv 0) (pa_cons (pv 1) pa_nil)))) (pe_callB (call_max2 rfl) rfl T.n_max (by decide +kernel) (pa_cons (pe_freeze T (pv 0)) (pa_cons (pe_ix ix_tup (pv 3) pe_int (fun _ _ => rfl)) pa_nil))) (pe_freeze T (pv 0))))
      (pss_cons (ps_set (i := 6) sc_passed.nd rfl (Or.inl rfl) (pv 2))
      (pss_cons (ps_if (pt_cmp (pc_notN (pv 2))) (pss_one (ps_if (pt_val (C8.pe_c (cal_is_ripe T) hr (by decide) rfl (pa_cons (pv 0) (pa_cons (pv 1) (pa_cons (pe_ix ix_tup (pv 2) pe_int (fun _ _ => rfl)) pa_nil))))) (pss_one (ps_set (i := 6) sc_passed.nd rfl (Or.inl rfl) pe_non)) (pss_one (ps_if (PW.pt (pw_and (pt_val (C8.pe_c (cal_is_ripe T) hr (by decide) rfl (pa_cons (pv 0) (pa_cons (pv 1) (pa_cons (pe_ix ix_tup (pv 2) pe_int (fun _ _ => rfl)) pa_nil))))) (pw_and1 (pt_cmpR op_ge (pe_ix ix_tup (pv 2) pe_int (fun _ _ => rfl)) (pe_freeze T (pv 0)) (nomark _))))) (pss_one (ps_set (i := 6) sc_passed.nd rfl (Or.inl rfl) (pe_tup (pa_cons pe_non (pa_cons (pe_ix ix_tup (pv 2) pe_int (fun _ _ => rfl)) pa_nil))))) pss_nil)))) pss_nil)
      (pss_one (ps_ret (pe_tup (pa_cons (pv 6) (pa_cons (pv 3) (pa_cons (pe_callB (call_min2 rfl) rfl T.n_min (by decide +kernel) (pa_cons (pv 4) (pa_cons (pv 5) pa_nil))) pa_nil)))))))))), ?_⟩
    obtain ⟨t, a, b, rfl, ht, h1, h2⟩ := dp_st hs
    refine ⟨_, rfl, t, _, rfl, ht, rfl, _, _, rfl, _, _, rfl, _, _, rfl, rfl, ?_⟩
    refine nx_cut (fun σ' H' => σ' = [some v, some (V.ref t), some a, some b, some (.int s.tb), some (.int (most u s)), none] ∧ H' = H) ?_ fun hn => ?_
    · rintro σ' H' ⟨rfl, rfl⟩
      refine ⟨_, rfl, ?_⟩
      refine nx_cut (fun σ' H'' => ∃ x', σ' = [some v, some (V.ref t), some a, some b, some (.int s.tb), some (.int (most u s)), some x'] ∧ Ex H' H'' ∧ Dt K H'' x' (rowD (passRow u s))) ?_ fun hn => ?_
      · rintro σ' H'' ⟨y', rfl, e', hy'⟩
        refine ⟨_, rfl, _, rfl, _, rfl, _, rfl, _, _, rfl, ⟨by show 3 ≤ sizeLine; decide, fun p hp => ?_⟩⟩
        rw [if_min]
        refine hq _ _ (e'.nx hp) (st_dp sqt_new ?_ ?_)
        · exact (Ex.nw hp).d hy'
        · exact (Ex.nw hp).d (e'.d h2)
      · refine ⟨_, rfl, ?_⟩
        cases hr : s.row with
        | none =>
          rw [hr] at h1
          cases h1
          refine ⟨false, rfl, iteF (hn _ _ ⟨_, rfl, Ex.rfl' _, ?_⟩)⟩
          rw [show passRow u s = none by unfold passRow; rw [hr]]
          exact .non
        | some p =>
          obtain ⟨p, q⟩ := p
          rw [hr] at h1
          obtain ⟨t2, rfl, ht2⟩ := dp_row h1
          refine ⟨true, rfl, iteT ⟨_, rfl, _, rfl, _, rfl, t2, _, 1, _, rfl, rfl, ht2, rfl, v, _, u, s, q, rfl, hx, hs, _, rfl, ?_⟩⟩
          cases r1 : isRipe u s q with
          | true =>
            refine iteT (hn _ _ ⟨_, rfl, Ex.rfl' _, ?_⟩)
            rw [show passRow u s = none by unfold passRow; rw [hr]; dsimp only; rw [if_pos r1]]
            exact .non
          | false =>
            refine iteF ⟨_, rfl, _, rfl, _, rfl, t2, _, 0, _, rfl, rfl, ht2, rfl, v, _, u, s, p, rfl, hx, hs, _, rfl, ?_⟩
            have n1 : ¬ isRipe u s q = true := by rw [r1]; decide
            cases p with
            | none =>
              refine iteF (iteF (hn _ _ ⟨_, rfl, Ex.rfl' _, ?_⟩))
              rw [show passRow u s = some (none, q) by unfold passRow; rw [hr]; dsimp only; rw [if_neg n1]]
              exact h1
            | some i =>
              cases r2 : isRipe u s (some i) with
              | false =>
                refine iteF (iteF (hn _ _ ⟨_, rfl, Ex.rfl' _, ?_⟩))
                rw [show passRow u s = some (some i, q) by unfold passRow; rw [hr]; dsimp only; rw [if_neg n1, r2, Bool.false_and, if_neg Bool.false_ne_true]]
                exact h1
              | true =>
                refine iteT ⟨_, rfl, t2, _, 0, _, rfl, rfl, ht2, rfl, _, rfl, u, hx, _, _, rfl, rfl, _, rfl, ?_⟩
                by_cases hlt : u.freeze ≤ i
                · rw [decide_eq_true hlt]
                  refine iteT ⟨_, rfl, t2, _, 1, _, rfl, rfl, ht2, rfl, by show 2 ≤ sizeLine; decide, fun p' hp => hn _ _ ⟨_, rfl, Ex.nw hp, ?_⟩⟩
                  rw [show passRow u s = some (none, q) by unfold passRow; rw [hr]; dsimp only; rw [if_neg n1, r2, Bool.true_and, decide_eq_true hlt, if_pos rfl]]
                  exact row_dp sqt_new
                · rw [decide_eq_false hlt]
                  refine iteF (hn _ _ ⟨_, rfl, Ex.rfl' _, ?_⟩)
                  rw [show passRow u s = some (some i, q) by unfold passRow; rw [hr]; dsimp only; rw [if_neg n1, r2, Bool.true_and, decide_eq_false hlt, if_neg Bool.false_ne_true]]
                  exact h1
    · refine ⟨_, rfl, _, rfl, v, _, u, s, rfl, hx, hs, _, rfl, ?_⟩
      cases hd : s.rd with
      | none =>
        have e1 : isHeld u s = false := by unfold isHeld; rw [hd]; rfl
        have e2 : most u s = u.freeze := by unfold most; rw [hd]
        rw [e1]
        rw [e2] at hn
        exact iteF ⟨_, rfl, u, hx, hn _ _ ⟨rfl, rfl⟩⟩
      | some p =>
        obtain ⟨p, q⟩ := p
        have e1 : isHeld u s = u.hold := by unfold isHeld; rw [hd]; rfl
        rw [hd] at h2
        obtain ⟨t2, rfl, ht2⟩ := dp_rd h2
        rw [e1]
        cases hh : u.hold with
        | false =>
          have e2 : most u s = u.freeze := by unfold most; rw [hd]; dsimp only; rw [hh, if_neg Bool.false_ne_true]
          rw [e2] at hn
          exact iteF ⟨_, rfl, u, hx, hn _ _ ⟨rfl, rfl⟩⟩
        | true =>
          have e2 : most u s = max u.freeze p := by unfold most; rw [hd]; dsimp only; rw [hh, if_pos rfl]
          rw [e2] at hn
          refine iteT ⟨_, rfl, u, hx, _, rfl, t2, _, 0, _, rfl, rfl, ht2, rfl, _, _, rfl, ?_⟩
          rw [if_max2]
          exact hn _ _ ⟨rfl, rfl⟩

/-! ### done -/
abbrev s_done : Stmt := top 39
abbrev N_done : List Str := ["wheel", "state", "deed", "row", "reader", "table"]
theorem sc_done : FnScope N_done ["wheel", "state", "deed"] (defScope s_done) := ⟨rfl, rfl, rfl, by decide +kernel, rfl, by decide +kernel, by decide +kernel⟩
def spDone (K : PySem.W.Frag) : Sp := fun vs H Q _ => ∃ (v x : V) (u : Wh) (s : Lap.St) (d : Deed), vs = [v, x, .str (deedS d)] ∧ WhAt K H v u ∧ Dt K H x (stD s) ∧ (d = .strike → s.row.isSome = true) ∧ RetD K (stD (done u s d)) H Q
theorem cal_done (T : Tx K mg) : C8.Cal P w K mg base 4 "done" (spDone K) [] := by
  refine cal_of T.g_done T.f_done sc_done (fun vs H Q E h => ?_) (fun _ _ _ _ _ _ us hl => match us, hl with | [_, _, _], _ => rfl) fun cdv A outer s H vs Q E hr h => ?_
  · obtain ⟨v, x, u, s, d, rfl, _⟩ := h
    rfl
  · obtain ⟨v, x, u, s, d, rfl, hx, hs, hst, hq⟩ := h
    refine ⟨_, (pss_cons (ps_if (pt_cmpR op_eq (pv 2) pe_str (nomark _)) (pss_one (ps_ret (C8.pe_c (cal_passed T) hr (by decide) rfl (pa_cons (pv 0) (pa_cons (pv 1) pa_nil))))) pss_nil)
      (pss_cons (ps_if (pt_cmpR op_eq (pv 2) pe_str (nomark _)) (pss_one (ps_ret (pe_tup (pa_cons (pe_ix ix_tup (pv 1) pe_int (fun _ _ => rfl)) (pa_cons (pe_tup (pa_cons pe_int (pa_cons (C8.pe_c (cal_is_there T) hr (by decide) rfl (pa_cons (pe_ix ix_tup (pv 1) pe_int (fun _ _ => rfl)) pa_nil)) pa_nil))) (pa_cons (pe_ix ix_tup (pv 1) pe_int (fun _ _ => rfl)) pa_nil)))))) pss_nil)
      (pss_cons (ps_if (pt_cmpR op_eq (pv 2) pe_str (nomark _)) (pss_one (ps_ret (pe_tup (pa_cons (pe_ix ix_tup (pv 1) pe_int (fun _ _ => rfl)) (pa_cons pe_non (pa_cons (pe_ix ix_tup (pv 1) pe_int (fun _ _ => rfl)) pa_nil)))))) pss_nil)
      (pss_cons (ps_asg (C8.pe_c (cal_numbered T) hr (by decide) rfl (pa_cons (pv 0) (pa_cons (pv 1) pa_nil))) (pg_tup rfl (pgs_cons (pg_name (i := 3) sc_done.nd rfl (Or.inl rfl)) (pgs_cons (pg_name (i := 4) sc_done.nd rfl (Or.inl rfl)) (pgs_cons (pg_name (i := 5) sc_done.nd rfl (Or.inl rfl)) pgs_nil)))))
      (pss_cons (ps_if (pt_cmpR op_eq (pv 2) pe_str (nomark _)) (pss_one (ps_set (i := 3) sc_done.nd rfl (Or.inl rfl) (pe_tup (pa_cons pe_int (pa_cons pe_non pa_nil))))) (pss_one (ps_if (pt_cmpR op_eq (pv 2) pe_str (nomark _)) (pss_one (ps_set (i := 3) sc_done.nd rfl (Or.inl rfl) (pe_tup (pa_cons (pe_ix ix_tup (pv 3) pe_int (fun _ _ => rfl)) (pa_cons pe_int pa_nil))))) pss_nil)))
      (pss_one (ps_ret (pe_tup (pa_cons (pv 3) (pa_cons (pv 4) (pa_cons (pv 5) pa_nil))))))))))), ?_⟩
    obtain ⟨t, a, b, rfl, ht, h1, h2⟩ := dp_st hs
    by_cases d1 : d = .pass
    · subst d1
      exact ⟨_, rfl, rfl, true, rfl, iteT ⟨_, rfl, _, rfl, v, _, u, s, rfl, hx, hs, hq⟩⟩
    refine ⟨_, rfl, rfl, false, dne d1, iteF ?_⟩
    by_cases d2 : d = .opn
    · subst d2
      refine ⟨_, rfl, rfl, true, rfl, iteT ⟨_, rfl, t, _, 0, _, rfl, rfl, ht, rfl, _, rfl, t, _, 0, _, rfl, rfl, ht, rfl, _, s.row, rfl, h1, ?_⟩⟩
      refine ⟨by show 2 ≤ sizeLine; decide, fun p hp => ⟨_, rfl, t, _, 2, _, rfl, rfl, (Ex.nw hp).t ht, rfl, by show 3 ≤ sizeLine; decide, fun p' hp' => hq _ _ ((Ex.nw hp).nx hp') ?_⟩⟩
      exact st_dp (d := some (0, isThere s.row)) sqt_new ((Ex.nw hp').d ((Ex.nw hp).d h1)) ((Ex.nw hp').d (rd_dp sqt_new))
    refine ⟨_, rfl, rfl, false, dne d2, iteF ?_⟩
    by_cases d3 : d = .close
    · subst d3
      refine ⟨_, rfl, rfl, true, rfl, iteT ⟨_, rfl, t, _, 0, _, rfl, rfl, ht, rfl, _, rfl, t, _, 2, _, rfl, rfl, ht, rfl, by show 3 ≤ sizeLine; decide, fun p' hp' => hq _ _ (Ex.nw hp') ?_⟩⟩
      exact st_dp (d := none) sqt_new ((Ex.nw hp').d h1) .non
    refine ⟨_, rfl, rfl, false, dne d3, iteF ⟨_, rfl, _, rfl, v, _, u, s, rfl, hx, hs, fun w' H1 e1 hn => ?_⟩⟩
    obtain ⟨t', a', b', rfl, ht', h1', h2'⟩ := dp_st hn
    refine ⟨t', _, rfl, ht', rfl, _, _, rfl, _, _, rfl, _, _, rfl, rfl, ?_⟩
    by_cases d4 : d = .write
    · subst d4
      refine ⟨_, rfl, rfl, true, rfl, iteT ⟨by show 2 ≤ sizeLine; decide, fun p hp => ⟨_, rfl, _, rfl, _, rfl, by show 3 ≤ sizeLine; decide, fun p' hp' => hq _ _ ((e1.nx hp).nx hp') ?_⟩⟩⟩
      exact st_dp (r := some (some 0, none)) sqt_new ((Ex.nw hp').d (row_dp sqt_new)) ((Ex.nw hp').d ((Ex.nw hp).d h2'))
    refine ⟨_, rfl, rfl, false, dne d4, iteF ?_⟩
    by_cases d5 : d = .strike
    · subst d5
      refine ⟨_, rfl, rfl, true, rfl, iteT ?_⟩
      cases hr : s.row with
      | none =>
        have := hst rfl
        rw [hr] at this
        cases this
      | some p =>
        obtain ⟨p, q⟩ := p
        rw [show (numbered u s).row = some (older p, older q) by show oldRow s.row = _; rw [hr]; rfl] at h1'
        obtain ⟨t2, rfl, ht2⟩ := dp_row h1'
        refine ⟨_, rfl, t2, _, 0, _, rfl, rfl, ht2, rfl, by show 2 ≤ sizeLine; decide, fun p' hp => ⟨_, rfl, _, rfl, _, rfl, by show 3 ≤ sizeLine; decide, fun p'' hp' => hq _ _ ((e1.nx hp).nx hp') ?_⟩⟩
        rw [show stD (done u s .strike) = stD ⟨some (older p, some 0), cutRd u s.rd, min (s.tb + 1) 4⟩ by show stD ⟨struckRow (oldRow s.row), _, _⟩ = _; rw [hr]; rfl]
        exact st_dp sqt_new ((Ex.nw hp').d (row_dp (b := some 0) sqt_new)) ((Ex.nw hp').d ((Ex.nw hp).d h2'))
    refine ⟨_, rfl, rfl, false, dne d5, iteF ⟨_, rfl, _, rfl, _, rfl, by show 3 ≤ sizeLine; decide, fun p'' hp' => hq _ _ (e1.nx hp') ?_⟩⟩
    have d6 : d = .tick := by
      cases d
      · rfl
      · exact absurd rfl d4
      · exact absurd rfl d5
      · exact absurd rfl d2
      · exact absurd rfl d3
      · exact absurd rfl d1
    subst d6
    exact st_dp sqt_new ((Ex.nw hp').d h1') ((Ex.nw hp').d h2')
end
end LapW
set_option Elab.async false
set_option linter.all false
set_option maxRecDepth 100000
set_option maxHeartbeats 4000000
namespace LapW
open PySem PySem.Spec PyProof.Rows L2 Lap

abbrev kS (x : Str) : Key := Sum.inr x
def canL (a b c : V) : List (Key × V) := [(kS "tick", a), (kS "write", b), (kS "strike", c)]
def canF (a b c d e : V) : List (Key × V) := [(kS "tick", a), (kS "write", b), (kS "strike", c), (kS "open", d), (kS "close", e), (kS "pass", .bl true)]
theorem can_dict (a b c : V) : mergeK [] (canL a b c) = canL a b c := by rfl
theorem can_full (a b c d e : V) : putK (putK (putK (canL a b c) (kS "open") d) (kS "close") e) (kS "pass") (.bl true) = canF a b c d e := by rfl
theorem can_at (a b c d e : V) (x : Deed) : valV (canF a b c d e) (kS (deedS x)) = some (match x with | .tick => a | .write => b | .strike => c | .opn => d | .close => e | .pass => .bl true) := by cases x <;> rfl
theorem Ex.none {H H' : Hp} (e : Ex H H') {p : Addr} (h : H' p = none) : H p = none := by
  cases q : H p with
  | none => rfl
  | some o =>
    rw [e _ _ q] at h
    cases h
theorem dta_str {α : Type} {f : α → Str} {K : PySem.W.Frag} {H : Hp} : ∀ {ys : List V} {bs : List α}, DtAll K H ys (bs.map fun b => .str (f b)) → ys = bs.map fun b => V.str (f b)
  | [], [], _ => rfl
  | [], _ :: _, h => by cases h
  | _ :: _, [], h => by cases h
  | y :: ys, b :: bs, h => by
    cases h with
    | cons h1 h2 =>
      cases h1
      rw [dta_str h2]
      rfl
theorem deeds_at {i : Nat} {x : V} {d : Deed} (h : ([V.str "tick", V.str "write", V.str "strike", V.str "open", V.str "close", V.str "pass"] : List V)[i]? = some x) (h2 : DEEDS[i]? = some d) : x = V.str (deedS d) := map_at (f := fun d => V.str (deedS d)) (l := DEEDS) h h2
theorem flat_deeds (l : List Deed) : (l.map fun d => V.str (deedS d)).all flatV = true := by
  rw [List.all_eq_true]
  intro x hx
  obtain ⟨d, _, rfl⟩ := List.mem_map.mp hx
  rfl
theorem deedS_inj {d e : Deed} (h : V.str (deedS d) = V.str (deedS e)) : d = e := by
  by_cases q : d = e
  · exact q
  · have := dne q
    rw [decide_eq_true h] at this
    cases this
theorem in_strs {α : Type} [DecidableEq α] {f : α → Str} (hf : ∀ a b, f a = f b → a = b) (d : α) : ∀ l : List α, inV (V.str (f d)) (l.map fun e => V.str (f e)) = decide (d ∈ l)
  | [] => rfl
  | a :: l => by
    show ((f a == f d) || inV (V.str (f d)) (l.map fun e => V.str (f e))) = _
    rw [in_strs hf d l]
    by_cases h : a = d
    · subst h
      simp
    · have h1 : (f a == f d) = false := beq_eq_false_iff_ne.mpr (fun z => h (hf _ _ z))
      have h2 : ¬ d = a := fun z => h z.symm
      rw [h1]
      simp [h2]
theorem in_deeds (d : Deed) (l : List Deed) : inV (V.str (deedS d)) (l.map fun e => V.str (deedS e)) = decide (d ∈ l) := in_strs (fun a b h => deedS_inj (congrArg V.str h)) d l
section
variable {P : Program} {w : World} {K : PySem.W.Frag} {mg : Str → Option Value} {base : Heap}
/-! ### deeds_in -/
abbrev s_deeds_in : Stmt := top 38
abbrev N_deeds_in : List Str := ["wheel", "state", "row", "reader", "table", "is_free", "can", "deed"]
theorem sc_deeds_in : FnScope N_deeds_in ["wheel", "state"] (defScope s_deeds_in) := ⟨rfl, rfl, rfl, by decide +kernel, rfl, by decide +kernel, by decide +kernel⟩
def spDeedsIn (K : PySem.W.Frag) : Sp := fun vs H Q _ => ∃ (v x : V) (u : Wh) (s : Lap.St), vs = [v, x] ∧ WhAt K H v u ∧ Dt K H x (stD s) ∧ RetL ((deedsIn u s).map fun d => V.str (deedS d)) H Q
theorem cal_deeds_in (T : Tx K mg) : C8.Cal P w K mg base 2 "deeds_in" (spDeedsIn K) [] := by
  refine cal_of T.g_deeds_in T.f_deeds_in sc_deeds_in (fun vs H Q E h => ?_) (fun _ _ _ _ _ _ us hl => match us, hl with | [_, _], _ => rfl) fun cdv A outer s H vs Q E hr h => ?_
  · obtain ⟨v, x, u, s, rfl, _⟩ := h
    rfl
  · obtain ⟨v, x, u, s, rfl, hx, hs, hq⟩ := h
    have hu := hu_of hr
    have hu64 := Room.units hr
    refine ⟨_, (pss_cons (ps_asg (pv 1) (pg_tup rfl (pgs_cons (pg_name (i := 2) sc_deeds_in.nd rfl (Or.inl rfl)) (pgs_cons (pg_name (i := 3) sc_deeds_in.nd rfl (Or.inl rfl)) (pgs_cons (pg_name (i := 4) sc_deeds_in.nd rfl (Or.inl rfl)) pgs_nil)))))
      (pss_cons (ps_set (i := 5) sc_deeds_in.nd rfl (Or.inl rfl) (pe_not (C8.pe_c (cal_is_stopped T) hr (by decide) rfl (pa_cons (pv 0) (pa_cons (pv 1) pa_nil)))))
      (pss_cons (ps_set (i := 6) sc_deeds_in.nd rfl (Or.inr rfl) (pe_disp (pps_cons pe_str (pv 5) (pps_cons pe_str (pe_and (pv 5) (pe_one (pe_cmp (pc_isN (pv 2))))) (pps_cons pe_str (pe_and (pv 5) (pe_one (C8.pe_c (cal_is_there T) hr (by decide) rfl (pa_cons (pv 2) pa_nil)))) pps_nil))) rfl rfl (List.cons_ne_nil _ _) (by show 3 ≤ 15; decide)))
      (pss_cons (ps_dput hu (pv 6) pe_str (pe_cmp (pc_isN (pv 3))) rfl)
      (pss_cons (ps_dput hu (pv 6) pe_str (pe_cmp (pc_notN (pv 3))) rfl)
      (pss_cons (ps_dput hu (pv 6) pe_str pe_bl rfl)
      (pss_one (ps_ret (pe_lc (own := [("deed", 7)]) (g := (gName 7)) rfl sc_deeds_in.nd (pi_tup (C8.pe_gc rfl T.c_DEEDS)) (blkOk_by (N := N_deeds_in) (sc := defScope s_deeds_in) (by decide +kernel)) (fun _ _ _ _ _ => (pg_name (i := 7) sc_deeds_in.nd rfl (Or.inl rfl))) (fun _ _ _ _ _ => (pts_one (pt_val (pe_dget hu (pv 6) (pv 7) (fun _ _ => rfl))))) (fun _ _ _ _ _ => (pv 7))))))))))), ?_⟩
    obtain ⟨t, a, b, rfl, ht, h1, h2⟩ := dp_st hs
    refine ⟨_, rfl, t, _, rfl, ht, rfl, _, _, rfl, _, _, rfl, _, _, rfl, rfl, ?_⟩
    refine ⟨_, rfl, _, rfl, v, _, u, s, rfl, hx, hs, _, rfl, ?_⟩
    have hfree : ∀ x y : Bool, (if x = true then V.bl y else V.bl false) = V.bl (x && y) := fun x y => by cases x <;> rfl
    generalize hf : (!isStopped u s) = f
    refine nx_cut (fun σ' H' => ∃ p, σ' = [some v, some (V.ref t), some a, some b, some (.int s.tb), some (.bl f), some (.ref p), none] ∧ Ex H H' ∧ H p = none ∧ H' p = some (.dK (canL (.bl f) (.bl (f && s.row.isNone)) (.bl (f && isThere s.row))))) ?_ fun hn => ?_
    · rintro σ' H' ⟨p, rfl, e, hp, hd⟩
      refine ⟨_, rfl, _, rfl, p, _, rfl, DPut.k (k := .inr "open") hd (by show 3 < sizeLine; decide), ?_⟩
      refine ⟨_, rfl, _, rfl, p, _, rfl, DPut.k (k := .inr "close") upd_same (by show 4 < sizeLine; decide), ?_⟩
      refine ⟨_, rfl, p, _, rfl, DPut.k (k := .inr "pass") upd_same (by show 5 < sizeLine; decide), ?_⟩
      rw [dp_rdN (e.d h2)]
      have e3 : Ex H (upd (upd (upd H' p (.dK (putK (canL (.bl f) (.bl (f && s.row.isNone)) (.bl (f && isThere s.row))) (.inr "open") (.bl s.rd.isNone)))) p (.dK (putK (putK (canL (.bl f) (.bl (f && s.row.isNone)) (.bl (f && isThere s.row))) (.inr "open") (.bl s.rd.isNone)) (.inr "close") (.bl !s.rd.isNone)))) p (.dK (canF (.bl f) (.bl (f && s.row.isNone)) (.bl (f && isThere s.row)) (.bl s.rd.isNone) (.bl !s.rd.isNone)))) := Evl.Ex.mut (Evl.Ex.mut (Evl.Ex.mut e hp) hp) hp
      have hc : ∀ d, valV (canF (.bl f) (.bl (f && s.row.isNone)) (.bl (f && isThere s.row)) (.bl s.rd.isNone) (.bl !s.rd.isNone)) (kS (deedS d)) = some (.bl (can u s d)) := fun d => by
        rw [can_at]
        subst hf
        cases d <;> simp [can]
      refine ⟨_, rfl, ⟨_, T.t_DEEDS _⟩, fun D hD => lc_tupD (items := DEEDS) (p := can u s) (m := fun d => .str (deedS d)) (T.t_DEEDS _) rfl (by show 6 < 100000; decide) hD (fun i x d H1 hi hq' e1 Qn Qy n1 n2 => ?_) fun H1 ys e1 hD' hy => ?_⟩
      · have ex : x = V.str (deedS d) := deeds_at hi hq'
        subst ex
        have hg := DGet.k (k := kS (deedS d)) (e1 _ _ upd_same)
        rw [can_full, hc d] at hg
        refine ⟨rfl, _, rfl, _, rfl, p, _, rfl, hg, can u s d, rfl, ?_⟩
        cases hcd : can u s d with
        | true => exact iteT ⟨_, rfl, n2 hcd _ _ (Ex.rfl' _) (.str _)⟩
        | false => exact iteF (n1 hcd _ (Ex.rfl' _))
      · have ey := dta_str (f := deedS) hy
        subst ey
        exact hq D H1 (e3.none hD) (e3.tr e1) hD'
    · refine fun p hp => ⟨_, rfl, _, rfl, ?_⟩
      cases f with
      | false =>
        refine ⟨false, rfl, iteF ⟨_, rfl, false, rfl, iteF ⟨upd_same, canL (.bl false) (.bl false) (.bl false), rfl, by show 3 ≤ 15; decide, hn _ _ ⟨p, rfl, Evl.Ex.mut (Ex.nw hp) hp, hp, ?_⟩⟩⟩⟩
        rw [can_dict]
        exact upd_same
      | true =>
        refine ⟨true, rfl, iteT ⟨_, rfl, _, rfl, true, rfl, iteT ⟨_, rfl, _, s.row, rfl, (Ex.nw hp).d h1, upd_same, canL (.bl true) (.bl s.row.isNone) (.bl (isThere s.row)), ?_, by show 3 ≤ 15; decide, hn _ _ ⟨p, rfl, Evl.Ex.mut (Ex.nw hp) hp, hp, ?_⟩⟩⟩⟩
        · rw [dp_isN h1]
          rfl
        · rw [can_dict]
          exact upd_same

/-! ### is_deed -/
abbrev s_is_deed : Stmt := top 40
abbrev N_is_deed : List Str := ["wheel", "state", "value"]
theorem sc_is_deed : FnScope N_is_deed ["wheel", "state", "value"] (defScope s_is_deed) := ⟨rfl, rfl, rfl, by decide +kernel, rfl, by decide +kernel, by decide +kernel⟩
def spIsDeed (K : PySem.W.Frag) : Sp := fun vs H Q _ => ∃ (v x : V) (u : Wh) (s : Lap.St) (d : Deed), vs = [v, x, .str (deedS d)] ∧ WhAt K H v u ∧ Dt K H x (stD s) ∧ RetB (decide (d ∈ deedsIn u s)) H Q
theorem cal_is_deed (T : Tx K mg) : C8.Cal P w K mg base 3 "is_deed" (spIsDeed K) [] := by
  refine cal_of T.g_is_deed T.f_is_deed sc_is_deed (fun vs H Q E h => ?_) (fun _ _ _ _ _ _ us hl => match us, hl with | [_, _, _], _ => rfl) fun cdv A outer s H vs Q E hr h => ?_
  · obtain ⟨v, x, u, s, d, rfl, _⟩ := h
    rfl
  · obtain ⟨v, x, u, s, d, rfl, hx, hs, hq⟩ := h
    refine ⟨_, (pss_one (ps_ret (pe_and (pe_callB call_isi rfl T.n_isinstance (by decide +kernel) (pa_cons (pv 2) (pa_cons (pe_bltn (v := .ty "str") rfl T.n_str (by decide +kernel) rfl) pa_nil))) (pe_one (pe_cmpR op_in_seq (pv 2) (C8.pe_c (cal_deeds_in T) hr (by decide) rfl (pa_cons (pv 0) (pa_cons (pv 1) pa_nil))) rfl))))), ?_⟩
    refine ⟨_, rfl, _, _, _, _, true, rfl, .ty "str", .base (.str _), kit_ty (by decide +kernel), true, rfl, iteT ?_⟩
    refine ⟨_, rfl, _, rfl, _, rfl, v, _, u, s, rfl, hx, hs, fun p H1 hp e1 hl => ⟨p, _, rfl, .inl (SqL.of hl), rfl, flat_deeds _, ?_⟩⟩
    rw [in_deeds]
    exact hq H1 e1
end
end LapW
set_option Elab.async false
set_option linter.all false
set_option maxRecDepth 100000
set_option maxHeartbeats 4000000
namespace LapW
open PySem PySem.Spec PyProof.Rows L2 Lap

theorem dt_start {K : PySem.W.Frag} {mg : Str → Option Value} (T : Tx K mg) (H : Hp) : Dt K H (.ref (He.ga K "START")) (stD START) := st_dp (r := none) (d := none) (T.t_START H) .non .non
theorem at_split {α : Type} {f : α → V} {h pre suf : List α} {i : Nat} {x : V} (hi : (h.map f)[i]? = some x) (eh : h = pre ++ suf) (el : pre.length = i) : ∃ d suf', suf = d :: suf' ∧ x = f d := by
  subst eh el
  rw [List.map_append, List.getElem?_append_right (by rw [List.length_map]; exact Nat.le_refl _), List.length_map, Nat.sub_self] at hi
  cases suf with
  | nil => simp at hi
  | cons d s => exact ⟨d, s, rfl, by simpa using hi.symm⟩
theorem at_end {α : Type} {f : α → V} {h pre suf : List α} (eh : h = pre ++ suf) (el : pre.length = (h.map f).length) : suf = [] := by
  have := congrArg List.length eh
  rw [List.length_append] at this
  rw [List.length_map] at el
  exact List.length_eq_zero_iff.mp (by omega)
theorem kit_lt {K : PySem.W.Frag} : PySem.W.kitAny K (.type "tuple") [.type "list", .type "tuple"] = some true := by
  unfold PySem.W.kitAny
  rw [kit_ty (r := false) (by decide +kernel)]
  unfold PySem.W.kitAny
  rw [kit_ty (r := true) (by decide +kernel)]
section
variable {P : Program} {w : World} {K : PySem.W.Frag} {mg : Str → Option Value} {base : Heap}
/-! ### walked -/
abbrev s_walked : Stmt := top 41
abbrev N_walked : List Str := ["wheel", "history", "state", "found", "deed"]
theorem sc_walked : FnScope N_walked ["wheel", "history"] (defScope s_walked) := ⟨rfl, rfl, rfl, by decide +kernel, rfl, by decide +kernel, by decide +kernel⟩
def spWalked (K : PySem.W.Frag) : Sp := fun vs H Q _ => ∃ (v : V) (t : Addr) (u : Wh) (h : List Deed), vs = [v, .ref t] ∧ WhAt K H v u ∧ SqT K H t (h.map fun d => V.str (deedS d)) ∧ WOk u ∧ doable u START h ∧ h.length < 90000 ∧ RetLD K ((walk u START h).map stD) H Q
def PvWalk (K : PySem.W.Frag) (v : V) (t : Addr) (u : Wh) (h : List Deed) (p : Addr) (H : Hp) (i : Nat) (σ : L2.St) (H' : Hp) : Prop :=
  ∃ pre suf x ys o, h = pre ++ suf ∧ pre.length = i ∧ σ = [some v, some (.ref t), some x, some (.ref p), o] ∧ Ex H H' ∧ H' p = some (.lst ys) ∧ DtAll K H' ys ((walk u START pre).map stD) ∧ Dt K H' x (stD (endOf u START pre))
theorem cal_walked (T : Tx K mg) : C8.Cal P w K mg base 5 "walked" (spWalked K) [] := by
  refine cal_of T.g_walked T.f_walked sc_walked (fun vs H Q E h => ?_) (fun _ _ _ _ _ _ us hl => match us, hl with | [_, _], _ => rfl) fun cdv A outer s H vs Q E hr h => ?_
  · obtain ⟨v, t, u, h, rfl, _⟩ := h
    rfl
  · obtain ⟨v, t, u, h, rfl, hx, ht, ok, can, len, hq⟩ := h
    refine ⟨_, (pss_cons (ps_par (i := 2) (j := 3) rfl sc_walked.nd rfl rfl (by decide) rfl rfl (pa_cons (C8.pe_gc rfl T.c_START) (pa_cons (pe_lst pa_nil) pa_nil)) rfl)
      (pss_cons (ps_for PassesOwn.never rfl (pi_tup (pv 1)) (pg_name (i := 4) sc_walked.nd rfl (Or.inl rfl))
        (pss_cons (ps_if (pt_not (pt_val (C8.pe_c (cal_is_deed T) hr (by decide) rfl (pa_cons (pv 0) (pa_cons (pv 2) (pa_cons (pv 4) pa_nil)))))) (pss_one (ps_ret (pv 3))) pss_nil)
        (pss_cons (ps_set (i := 2) sc_walked.nd rfl (Or.inl rfl) (C8.pe_c (cal_done T) hr (by decide) rfl (pa_cons (pv 0) (pa_cons (pv 2) (pa_cons (pv 4) pa_nil)))))
        (pss_one (ps_expr (pe_bm PySem.F.plainAttrs_list PySem.F.slot_list_append PySem.F.type_list_append mt_append (pv 3) (pa_cons (pv 2) pa_nil)))))))
      (pss_one (ps_ret (pv 3))))), ?_⟩
    refine ⟨Nat.zero_le _, fun p hp => ⟨_, _, rfl, _, rfl, t, rfl, ⟨_, (Ex.nw hp).t ht⟩, ?_⟩⟩
    refine for_tup (xs := h.map fun d => V.str (deedS d)) (PvWalk K v t u h p H) ⟨[], h, _, [], _, rfl, rfl, rfl, Ex.nw hp, upd_same, .nil, dt_start T _⟩ ?_ ?_ ?_
    · rintro i σ' H' hi ⟨pre, suf, x, ys, o, _, _, _, e, _⟩
      exact e.t ht
    · rintro i z σ' H' hi ⟨pre, suf, x, ys, o, eh, el, rfl, e, hy, dy, dx⟩
      obtain ⟨d, suf', es, ez⟩ := at_split hi eh el
      subst ez es
      have can' := can
      rw [eh, doable_app] at can'
      have cd := can'.2.1
      refine ⟨_, rfl, _, rfl, _, rfl, v, x, u, _, d, rfl, e.wh hx, dx, fun H1 e1 => ⟨true, by rw [decide_eq_true cd], iteF ?_⟩⟩
      refine ⟨_, rfl, _, rfl, _, rfl, v, x, u, _, d, rfl, e1.wh (e.wh hx), e1.d dx, strike_row cd, fun x' H2 e2 hx' => ?_⟩
      have hl : ys.length < sizeLine := by
        have h1 := dpa_len dy
        rw [List.length_map, walk_len] at h1
        have h2 := congrArg List.length eh
        rw [List.length_append] at h2
        rw [h1, sizeLine_eq]
        omega
      have hp2 : H2 p = some (.lst ys) := e2 _ _ (e1 _ _ hy)
      refine ⟨_, rfl, .inl ⟨rfl, ys, SqL.of hp2⟩, _, rfl, p, ys, x', rfl, rfl, hp2, hl, ?_⟩
      have tp : Tp H2 (upd H2 p (.lst (ys ++ [x']))) := Tp.w (NoTup.l hp2)
      refine ⟨pre ++ [d], suf', x', ys ++ [x'], _, by rw [eh, List.append_assoc]; rfl, by rw [List.length_append, el]; rfl, rfl, Evl.Ex.mut ((e.tr e1).tr e2) hp, upd_same, ?_, ?_⟩
      · rw [walk_last, List.map_append]
        exact dpa_app (tp.da ((e1.tr e2).da dy)) (.cons (tp.d hx') .nil)
      · rw [endOf_app]
        exact tp.d hx'
    · rintro σ' H' ⟨pre, suf, x, ys, o, eh, el, rfl, e, hy, dy, dx⟩
      have es := at_end eh el
      subst es
      rw [List.append_nil] at eh
      subst eh
      exact ⟨_, rfl, hq p ys H' hp e hy dy⟩

/-! ### check_history -/
abbrev s_check_history : Stmt := top 42
abbrev N_check_history : List Str := ["wheel", "history", "found"]
theorem sc_check_history : FnScope N_check_history ["wheel", "history"] (defScope s_check_history) := ⟨rfl, rfl, rfl, by decide +kernel, rfl, by decide +kernel, by decide +kernel⟩
theorem cal_check_history (T : Tx K mg) : C8.Cal P w K mg base 6 "check_history" (spWalked K) [] := by
  refine cal_of T.g_check_history T.f_check_history sc_check_history (fun vs H Q E h => ?_) (fun _ _ _ _ _ _ us hl => match us, hl with | [_, _], _ => rfl) fun cdv A outer s H vs Q E hr h => ?_
  · obtain ⟨v, t, u, h, rfl, _⟩ := h
    rfl
  · obtain ⟨v, t, u, h, rfl, hx, ht, ok, can, len, hq⟩ := h
    refine ⟨_, (pss_cons (ps_expr (C8.pe_c (cal_check_wheel T) hr (by decide) rfl (pa_cons (pv 0) pa_nil)))
      (pss_cons (ps_if (pt_not (pt_val (pe_callB call_isiT rfl T.n_isinstance (by decide +kernel) (pa_cons (pv 1) (pa_cons (pe_tup (pa_cons (pe_bltn (v := .ty "list") rfl T.n_list (by decide +kernel) rfl) (pa_cons (pe_bltn (v := .ty "tuple") rfl T.n_tuple (by decide +kernel) rfl) pa_nil))) pa_nil))))) (pss_one ps_never) pss_nil)
      (pss_cons (ps_set (i := 2) sc_check_history.nd rfl (Or.inl rfl) (C8.pe_c (cal_walked T) hr (by decide) rfl (pa_cons (pv 0) (pa_cons (pv 1) pa_nil))))
      (pss_cons (ps_if (pt_cmpR op_lt (pe_callB call_len_seq rfl T.n_len (by decide +kernel) (pa_cons (pv 2) pa_nil)) (pe_callB call_len_seq rfl T.n_len (by decide +kernel) (pa_cons (pv 1) pa_nil)) (nomark _)) (pss_one ps_never) pss_nil)
      (pss_one (ps_ret (pv 2))))))), ?_⟩
    refine ⟨_, rfl, _, _, rfl, hx, ?_⟩
    refine ⟨_, rfl, by show 2 ≤ sizeLine; decide, fun tp htp => ⟨_, tp, _, _, _, true, rfl, upd_same, .cons (.ty "list") (.cons (.ty "tuple") .nil), sqt_ty ((Ex.nw htp).t ht), kit_lt, true, rfl, iteF ?_⟩⟩
    refine ⟨_, rfl, _, rfl, v, t, u, h, rfl, (Ex.nw htp).wh hx, (Ex.nw htp).t ht, ok, can, len, fun p ys H1 hp e1 hl dl => ?_⟩
    have l1 : ys.length = h.length := by rw [dpa_len dl, List.length_map, walk_len]
    refine ⟨_, rfl, p, ys, rfl, .inl (SqL.of hl), _, rfl, t, _, rfl, .inr (e1.t ((Ex.nw htp).t ht)), _, _, rfl, rfl, false, ?_, iteF ⟨_, rfl, hq p ys H1 ((Ex.nw htp).none hp) ((Ex.nw htp).tr e1) hl dl⟩⟩
    rw [List.length_map, l1]
    exact bE (decide_eq_false (Int.lt_irrefl _))

/-! ### way_to -/
abbrev s_way_to : Stmt := top 44
abbrev N_way_to : List Str := ["ways", "state", "found", "deed"]
theorem sc_way_to : FnScope N_way_to ["ways", "state"] (defScope s_way_to) := ⟨rfl, rfl, rfl, by decide +kernel, rfl, by decide +kernel, by decide +kernel⟩
def parD : Option (Lap.St × Deed) → PyData
  | none => .none
  | some (s, d) => .tuple [stD s, .str (deedS d)]
def waysD (ws : Ways) : List (PyData × PyData) := ws.map fun e => (stD e.st, parD e.par)
theorem depth_st (s : Lap.St) : (nk (stD s)).depth ≤ 8 := by
  obtain ⟨r, d, t⟩ := s
  rcases r with _ | ⟨_ | a, _ | b⟩ <;> rcases d with _ | ⟨c, e⟩ <;> exact Nat.le_of_ble_eq_true rfl
def spWayTo (P : Program) (w : World) (K : PySem.W.Frag) : Sp := fun vs H Q _ => ∃ (a : Addr) (x : V) (ws : Ways) (u : Wh) (e : En), vs = [.ref a, x] ∧ DN P w K H a (waysD ws) ∧ Dt K H x (stD e.st) ∧ Base u ws ∧ e ∈ ws ∧ e.path.length < 90000 ∧ RetL (e.path.map fun d => V.str (deedS d)) H Q
def PvWay (P : Program) (w : World) (K : PySem.W.Frag) (u : Wh) (a : Addr) (ws : Ways) (p : Addr) (H : Hp) (e : En) (m : Nat) (σ : L2.St) (H' : Hp) : Prop :=
  ∃ (f : En) (x : V) (ys : List Deed) (o : Option V), σ = [some (.ref a), some x, some (.ref p), o] ∧ f ∈ ws ∧ f.path.length = m ∧ e.path = f.path ++ ys.reverse ∧ Ex H H' ∧ H' p = some (.lst (ys.map fun d => V.str (deedS d))) ∧ ys.length + m = e.path.length ∧ Dt K H' x (stD f.st)
theorem cal_way_to (T : Tx K mg) : C8.Cal P w K mg base 1 "way_to" (spWayTo P w K) [] := by
  refine cal_of T.g_way_to T.f_way_to sc_way_to (fun vs H Q E h => ?_) (fun _ _ _ _ _ _ us hl => match us, hl with | [_, _], _ => rfl) fun cdv A outer s H vs Q E hr h => ?_
  · obtain ⟨a, x, ws, u, e, rfl, _⟩ := h
    rfl
  · obtain ⟨a, x, ws, u, e, rfl, hd, hx, ok, he, he2, hq⟩ := h
    have hu := hu_of hr
    have hu64 := Room.units hr
    refine ⟨_, (pss_cons (ps_set (i := 2) sc_way_to.nd rfl (Or.inl rfl) (pe_lst pa_nil))
      (pss_cons (ps_while PassesOwn.never (pt_cmp (pc_notN (pe_nget hu64 (pv 0) (pv 1))))
        (pss_cons (ps_asg (pe_nget hu64 (pv 0) (pv 1)) (pg_tup rfl (pgs_cons (pg_name (i := 1) sc_way_to.nd rfl (Or.inl rfl)) (pgs_cons (pg_name (i := 3) sc_way_to.nd rfl (Or.inl rfl)) pgs_nil))))
        (pss_one (ps_expr (pe_bm PySem.F.plainAttrs_list PySem.F.slot_list_append PySem.F.type_list_append mt_append (pv 2) (pa_cons (pv 3) pa_nil))))))
      (pss_one (ps_ret (pe_revL (pv 2)))))), ?_⟩
    refine ⟨Nat.zero_le _, fun p hp => ⟨fun m σ' H' => PvWay P w K u a ws p H e m σ' H', ⟨e.path.length, e, _, [], _, rfl, he, rfl, by simp, Ex.nw hp, upd_same, by simp, (Ex.nw hp).d hx⟩, ?_⟩⟩
    rintro m σ' H' ⟨f, x', ys, o, rfl, hf, rfl, hpth, e', hy, hlen, dx⟩
    refine ⟨_, rfl, _, rfl, a, waysD ws, _, (stD f.st, parD f.par), rfl, DN.ex e' hd, dx, depth_st f.st, List.mem_map.mpr ⟨f, hf, rfl⟩, rfl, fun z hz => ?_⟩
    rcases ok.came f hf with q | ⟨g, hg, d, hd', q⟩
    · subst q
      cases hz
      refine ⟨false, rfl, iteF ⟨_, rfl, p, _, rfl, SqL.of hy, fun p' hp' => ?_⟩⟩
      rw [← List.map_reverse, show ys.reverse = e.path from hpth.symm]
      exact hq p' _ (e'.none hp') (e'.nx hp') upd_same
    · subst q
      obtain ⟨t, z1, z2, rfl, ht, dz1, dz2⟩ := dp_two hz
      cases dz2
      have hpth : e.path = g.path ++ (ys ++ [d]).reverse := by rw [hpth, List.reverse_append, List.append_assoc]; rfl
      have hm2 : (g.path ++ [d]).length = g.path.length + 1 := by rw [List.length_append]; rfl
      refine ⟨true, rfl, iteT ⟨fun σ2 H2 => PvWay P w K u a ws p H e g.path.length σ2 H2, fun σ2 H2 h2 => ⟨g.path.length, by show _ < (g.path ++ [d]).length; omega, h2⟩, ?_⟩⟩
      refine ⟨_, rfl, _, rfl, a, waysD ws, _, (_, _), rfl, DN.ex e' hd, dx, depth_st _, List.mem_map.mpr ⟨_, hf, rfl⟩, rfl, fun z hz => ?_⟩
      obtain ⟨t, z1, z2, rfl, ht, dz1, dz2⟩ := dp_two hz
      cases dz2
      refine ⟨t, _, rfl, ht, rfl, _, _, rfl, _, _, rfl, rfl, ?_⟩
      have hl : (ys.map fun d => V.str (deedS d)).length < sizeLine := by
        rw [List.length_map, sizeLine_eq]
        omega
      refine ⟨_, rfl, .inl ⟨rfl, _, SqL.of hy⟩, _, rfl, p, _, _, rfl, rfl, hy, hl, ?_⟩
      have tp : Tp H' (upd H' p (.lst ((ys.map fun d => V.str (deedS d)) ++ [V.str (deedS d)]))) := Tp.w (NoTup.l hy)
      refine ⟨g, z1, ys ++ [d], _, rfl, hg, rfl, hpth, Evl.Ex.mut e' hp, by rw [List.map_append]; exact upd_same, ?_, tp.d dz1⟩
      rw [List.length_append]
      show ys.length + 1 + _ = _
      have hlen : ys.length + (g.path ++ [d]).length = e.path.length := hlen
      omega
end
end LapW
set_option Elab.async false
set_option linter.all false
set_option maxRecDepth 100000
set_option maxHeartbeats 4000000
namespace LapW
open PySem PySem.Spec PyProof.Rows L2 Lap

theorem canAll {α : Type} {f : α → PyData} : ∀ {l : List α}, (∀ a ∈ l, (f a).canLay0 = true) → PyData.canLayAll0 (l.map f) = true
  | [], _ => rfl
  | a :: l, h => by
    show ((f a).canLay0 && PyData.canLayAll0 (l.map f)) = true
    rw [h a List.mem_cons_self, canAll fun b hb => h b (List.mem_cons_of_mem _ hb)]
    rfl
theorem depAll {α : Type} {f : α → PyData} {k : Nat} : ∀ {l : List α}, (∀ a ∈ l, (f a).depth ≤ k) → PyData.depthAll (l.map f) ≤ k
  | [], _ => Nat.zero_le _
  | a :: l, h => by
    show max (f a).depth (PyData.depthAll (l.map f)) ≤ k
    have h1 := h a List.mem_cons_self
    have h2 := depAll fun b hb => h b (List.mem_cons_of_mem _ hb)
    omega
theorem shaped_list {α : Type} {f : α → PyData} {l : List α} (h1 : ∀ a ∈ l, (f a).canLay0 = true) (h2 : ∀ a ∈ l, (f a).depth ≤ 60) : SeqAt.shaped (.list (l.map f)) = true := by
  unfold SeqAt.shaped
  have h3 := depAll h2
  rw [show (PyData.list (l.map f)).canLay0 = true from canAll h1, Bool.true_and]
  refine decide_eq_true ?_
  show PyData.depthAll (l.map f) + 1 ≤ 64
  omega
theorem can_st (s : Lap.St) : (stD s).canLay0 = true ∧ (stD s).depth ≤ 60 := by
  obtain ⟨r, d, t⟩ := s
  rcases r with _ | ⟨_ | a, _ | b⟩ <;> rcases d with _ | ⟨c, e⟩ <;> exact ⟨rfl, Nat.le_of_ble_eq_true rfl⟩
theorem shaped_sts (l : Ways) : SeqAt.shaped (.list (l.map fun e => stD e.st)) = true := shaped_list (fun e _ => (can_st e.st).1) fun e _ => (can_st e.st).2
theorem nk_opt {a b : Option Int} (h : nk (optD a) = nk (optD b)) : a = b := by
  cases a <;> cases b <;> first | rfl | (cases h <;> rfl)
theorem nk_row {a b : Lap.Row} (h : nk (rowD a) = nk (rowD b)) : a = b := by
  rcases a with _ | ⟨a1, a2⟩ <;> rcases b with _ | ⟨b1, b2⟩
  · rfl
  · cases h
  · cases h
  · have h : NestedKey.tup [nk (optD a1), nk (optD a2)] = NestedKey.tup [nk (optD b1), nk (optD b2)] := h
    simp only [NestedKey.tup.injEq, List.cons.injEq, and_true] at h
    rw [nk_opt h.1, nk_opt h.2]
theorem nk_rd {a b : Rdr} (h : nk (rdD a) = nk (rdD b)) : a = b := by
  rcases a with _ | ⟨a1, a2⟩ <;> rcases b with _ | ⟨b1, b2⟩
  · rfl
  · cases h
  · cases h
  · have h : NestedKey.tup [.num a1, .num (if a2 = true then 1 else 0)] = NestedKey.tup [.num b1, .num (if b2 = true then 1 else 0)] := h
    simp only [NestedKey.tup.injEq, List.cons.injEq, and_true, NestedKey.num.injEq] at h
    obtain ⟨h1, h2⟩ := h
    subst h1
    cases a2 <;> cases b2 <;> first | rfl | exact absurd h2 (by decide)
theorem nk_st {a b : Lap.St} (h : nk (stD a) = nk (stD b)) : a = b := by
  obtain ⟨r, d, t⟩ := a
  obtain ⟨r2, d2, t2⟩ := b
  have h : NestedKey.tup [nk (rowD r), nk (rdD d), .num t] = NestedKey.tup [nk (rowD r2), nk (rdD d2), .num t2] := h
  simp only [NestedKey.tup.injEq, List.cons.injEq, and_true, NestedKey.num.injEq] at h
  obtain ⟨h1, h2, h3⟩ := h
  rw [nk_row h1, nk_rd h2, h3]
theorem any_st (ws : Ways) (s : Lap.St) : ((waysD ws).any fun q => decide (nk q.1 = nk (stD s))) = has ws s := by
  unfold waysD has
  rw [List.any_map]
  congr 1
  funext e
  show decide (nk (stD e.st) = nk (stD s)) = decide (e.st = s)
  exact decide_eq_decide.mpr ⟨nk_st, fun h => by rw [h]⟩
theorem at_splitG {α β : Type} {f : α → β} {h pre suf : List α} {i : Nat} {x : β} (hi : (h.map f)[i]? = some x) (eh : h = pre ++ suf) (el : pre.length = i) : ∃ d suf', suf = d :: suf' ∧ x = f d := by
  subst eh el
  rw [List.map_append, List.getElem?_append_right (by rw [List.length_map]; exact Nat.le_refl _), List.length_map, Nat.sub_self] at hi
  cases suf with
  | nil => simp at hi
  | cons d s => exact ⟨d, s, rfl, by simpa using hi.symm⟩
theorem mid_at {u : Wh} {ws wt pre suf : Ways} {f : En} {dp ds : List Deed} (ok : WOk u) (lev : Lev u ws wt) (ew : wt = pre ++ f :: suf) (ed : deedsIn u f.st = dp ++ ds) : ∃ n, Mid u n ws (dp.foldl (stepD u f) (pre.foldl (stepS u) (ws, []))) := by
  obtain ⟨b, old, n, e1, h1, h2, h3⟩ := lev
  have m0 : Mid u n ws (ws, []) := ⟨b, by simp, fun e he => Nat.le_succ_of_le (h2 e he), fun e he => absurd he (by simp)⟩
  have hin : ∀ e ∈ wt, e ∈ ws := fun e he => by rw [e1]; exact List.mem_append_right _ he
  obtain ⟨m, ⟨more, a⟩, _⟩ := mid_states ok pre (ws, []) m0 fun e he => ⟨hin e (by rw [ew]; exact List.mem_append_left _ he), h1 e (by rw [ew]; exact List.mem_append_left _ he)⟩
  have hf : f ∈ wt := by rw [ew]; exact List.mem_append_right _ List.mem_cons_self
  exact ⟨n, (mid_deeds ok (h1 f hf) dp _ m (by rw [a]; exact List.mem_append_left _ (hin f hf)) fun d hd => by rw [ed]; exact List.mem_append_left _ hd).1⟩
theorem lev_base {u : Wh} {ws wt pre suf : Ways} {f : En} {dp ds : List Deed} (ok : WOk u) (lev : Lev u ws wt) (ew : wt = pre ++ f :: suf) (ed : deedsIn u f.st = dp ++ ds) : Base u (dp.foldl (stepD u f) (pre.foldl (stepS u) (ws, []))).1 :=
  (mid_at ok lev ew ed).elim fun _ m => m.base
theorem level_len {u : Wh} {ws wt pre suf : Ways} {f : En} {dp ds : List Deed} (ok : WOk u) (lev : Lev u ws wt) (ew : wt = pre ++ f :: suf) (ed : deedsIn u f.st = dp ++ ds) : (dp.foldl (stepD u f) (pre.foldl (stepS u) (ws, []))).2.length ≤ 1170 := by
  obtain ⟨n, m⟩ := mid_at ok lev ew ed
  have h1 := m.base.len
  have h2 := congrArg List.length m.app
  rw [List.length_append] at h2
  omega
theorem DN.put {P : Program} {w : World} {K : PySem.W.Frag} {H : Hp} {a b : Addr} {o : HO} {items : List (PyData × PyData)} (h : DN P w K H a items) (n : a ≠ b) (t : Tp H (upd H b o)) : DN P w K (upd H b o) a items := by
  obtain ⟨kvs, ep, ha, he⟩ := h
  exact ⟨kvs, ep, by rw [upd_ne n]; exact ha, Ents.tp t he⟩
section
variable {P : Program} {w : World} {K : PySem.W.Frag} {mg : Str → Option Value} {base : Heap}
/-! ### explore -/
abbrev s_explore : Stmt := top 43
abbrev N_explore : List Str := ["wheel", "ways", "waiting", "later", "state", "deed", "late"]
theorem sc_explore : FnScope N_explore ["wheel"] (defScope s_explore) := ⟨rfl, rfl, rfl, by decide +kernel, rfl, by decide +kernel, by decide +kernel⟩
def spExplore (P : Program) (w : World) (K : PySem.W.Frag) : Sp := fun vs H Q _ => ∃ (v : V) (u : Wh), vs = [v] ∧ WhAt K H v u ∧ WOk u ∧ ∀ a H', H a = none → Ex H H' → DN P w K H' a (waysD (ways u)) → Q (.ref a) H'
def PvExp (P : Program) (w : World) (K : PySem.W.Frag) (u : Wh) (v : V) (a : Addr) (H : Hp) (m : Nat) (σ : L2.St) (H' : Hp) : Prop :=
  ∃ (ws wt : Ways) (pw : Addr) (o1 o2 o3 o4 : Option V) (xs : List V) (n : Nat), σ = [some v, some (.ref a), some (.ref pw), o1, o2, o3, o4] ∧ m = left ws wt ∧ Lev u ws wt ∧ left ws wt ≤ n ∧ bfs u n ws wt = ways u ∧ Ex H H' ∧ H a = none ∧ pw ≠ a ∧ H pw = none ∧
    DN P w K H' a (waysD ws) ∧ H' pw = some (.lst xs) ∧ DtAll K H' xs (wt.map fun e => stD e.st)
def Bag (P : Program) (w : World) (K : PySem.W.Frag) (a pl pw : Addr) (H : Hp) (xs : List V) (wt : Ways) (acc : Ways × Ways) (H2 : Hp) : Prop :=
  Ex H H2 ∧ DN P w K H2 a (waysD acc.1) ∧ H2 pw = some (.lst xs) ∧ DtAll K H2 xs (wt.map fun e => stD e.st) ∧ ∃ ys, H2 pl = some (.lst ys) ∧ DtAll K H2 ys (acc.2.map fun e => stD e.st)
theorem Bag.up {P : Program} {w : World} {K : PySem.W.Frag} {a pl pw : Addr} {H H2 H3 : Hp} {xs : List V} {wt : Ways} {acc : Ways × Ways} (b : Bag P w K a pl pw H xs wt acc H2) (e : Ex H2 H3) : Bag P w K a pl pw H xs wt acc H3 := by
  obtain ⟨b1, b2, b3, b4, ys, b5, b6⟩ := b
  exact ⟨b1.tr e, DN.ex e b2, e _ _ b3, e.da b4, ys, e _ _ b5, e.da b6⟩
def PvOut (P : Program) (w : World) (K : PySem.W.Frag) (u : Wh) (v : V) (a pl pw : Addr) (H : Hp) (xs : List V) (ws wt : Ways) (i : Nat) (σ : L2.St) (H2 : Hp) : Prop :=
  ∃ (pre suf : Ways) (acc : Ways × Ways) (o2 o3 o4 : Option V), wt = pre ++ suf ∧ pre.length = i ∧ σ = [some v, some (.ref a), some (.ref pw), some (.ref pl), o2, o3, o4] ∧ acc = pre.foldl (stepS u) (ws, []) ∧ Bag P w K a pl pw H xs wt acc H2
def PvIn (P : Program) (w : World) (K : PySem.W.Frag) (u : Wh) (v x : V) (a pl pw pd : Addr) (H : Hp) (xs : List V) (wt : Ways) (e : En) (acc0 : Ways × Ways) (i : Nat) (σ : L2.St) (H2 : Hp) : Prop :=
  ∃ (dp ds : List Deed) (acc : Ways × Ways) (o3 o4 : Option V), deedsIn u e.st = dp ++ ds ∧ dp.length = i ∧ σ = [some v, some (.ref a), some (.ref pw), some (.ref pl), some x, o3, o4] ∧ acc = dp.foldl (stepD u e) acc0 ∧ Bag P w K a pl pw H xs wt acc H2 ∧
    Dt K H2 x (stD e.st) ∧ H2 pd = some (.lst ((deedsIn u e.st).map fun d => V.str (deedS d)))
theorem cal_explore (T : Tx K mg) : C8.Cal P w K mg base 5 "explore" (spExplore P w K) [] := by
  refine cal_of T.g_explore T.f_explore sc_explore (fun vs H Q E h => ?_) (fun _ _ _ _ _ _ us hl => match us, hl with | [_], _ => rfl) fun cdv A outer s H vs Q E hr h => ?_
  · obtain ⟨v, u, rfl, _⟩ := h
    rfl
  · obtain ⟨v, u, rfl, hx, ok, hq⟩ := h
    have hu := hu_of hr
    have hu64 := Room.units hr
    refine ⟨_, (pss_cons (ps_par (i := 1) (j := 2) rfl sc_explore.nd rfl rfl (by decide) rfl rfl (pa_cons (pe_none1 hu64 (C8.pe_gc rfl T.c_START) pe_non) (pa_cons (pe_lst (pa_cons (C8.pe_gc rfl T.c_START) pa_nil)) pa_nil)) rfl)
      (pss_cons (ps_while PassesOwn.never (pt_cmpR (op_neD hu64) (pv 2) (pe_lst pa_nil) (nomark _))
        (pss_cons (ps_set (i := 3) sc_explore.nd rfl (Or.inl rfl) (pe_lst pa_nil))
        (pss_cons (ps_for PassesOwn.never rfl (pi_list (pv 2)) (pg_name (i := 4) sc_explore.nd rfl (Or.inl rfl))
          (pss_one (ps_for PassesOwn.never rfl (pi_list (C8.pe_c (cal_deeds_in T) hr (by decide) rfl (pa_cons (pv 0) (pa_cons (pv 4) pa_nil)))) (pg_name (i := 5) sc_explore.nd rfl (Or.inl rfl))
            (pss_cons (ps_set (i := 6) sc_explore.nd rfl (Or.inl rfl) (C8.pe_c (cal_done T) hr (by decide) rfl (pa_cons (pv 0) (pa_cons (pv 4) (pa_cons (pv 5) pa_nil)))))
            (pss_one (ps_if (pt_cmpR (op_notInN hu64) (pv 6) (pv 1) rfl) (pss_cons (ps_nput hu64 (pv 1) (pv 6) (pe_tup (pa_cons (pv 4) (pa_cons (pv 5) pa_nil))))
              (pss_one (ps_expr (pe_bm PySem.F.plainAttrs_list PySem.F.slot_list_append PySem.F.type_list_append mt_append (pv 3) (pa_cons (pv 6) pa_nil))))) pss_nil))))))
        (pss_cons (ps_if (pt_cmpR op_gt (pe_callB call_lenN rfl T.n_len (by decide +kernel) (pa_cons (pv 1) pa_nil)) (C8.pe_gc rfl T.c_LIMIT) (nomark _)) (pss_one ps_never) pss_nil)
        (pss_one (ps_set (i := 2) sc_explore.nd rfl (Or.inl rfl) (pv 3)))))))
      (pss_one (ps_ret (pv 1))))), ?_⟩
    refine fun a o ha hd0 => ⟨rfl, [.none, .none, .int 0], .none, .tup (T.t_START _) (.cons .non (.cons .non (.cons (.int 0) .nil))), depth_st START, .non, fun o' eo hd => ?_⟩
    refine ⟨by show 1 ≤ sizeLine; decide, fun pw hpw => ⟨_, _, rfl, ?_⟩⟩
    have hne : pw ≠ a := fun z => by rw [z, upd_same] at hpw; cases hpw
    have hpwn : H pw = none := by rw [upd_ne hne] at hpw; exact hpw
    refine ⟨fun m σ' H' => PvExp P w K u v a H m σ' H', ⟨left [e0] [e0], [e0], [e0], pw, _, _, _, _, _, fuel, rfl, rfl, lev_start u, left_start, rfl, eo.nx hpw, ha, hne, hpwn, DN.ex (Ex.nw hpw) hd, upd_same, .cons (dt_start T _) .nil⟩, ?_⟩
    rintro m σ' H' ⟨ws, wt, pw, o1, o2, o3, o4, xs, n, rfl, rfl, lev, hn, hb, e, ha, hne, hpwn, hd, hw, dw⟩
    refine ⟨_, rfl, Nat.zero_le _, fun q hq1 => ⟨.list (wt.map fun f : En => stD f.st), .list [], .lst (SqL.of ((Ex.nw hq1) _ _ hw)) (((Ex.nw hq1).da dw).dp), .lst (SqL.of upd_same) .nil, shaped_sts _, rfl, ?_⟩⟩
    cases wt with
    | nil =>
      refine ⟨false, rfl, iteF ?_⟩
      have hws : ws = ways u := by
        rw [← hb]
        cases n with
        | zero => rfl
        | succ n => unfold bfs; rw [if_pos rfl]
      subst hws
      exact ⟨_, rfl, hq a _ ha (e.nx hq1) (DN.ex (Ex.nw hq1) hd)⟩
    | cons e1 wt1 =>
      generalize hwt : e1 :: wt1 = wt at *
      have hwn : wt ≠ [] := by rw [← hwt]; exact List.cons_ne_nil _ _
      obtain ⟨n, rfl⟩ : ∃ k, n = k + 1 := by
        cases n with
        | zero => unfold left at hn; rw [if_neg hwn] at hn; omega
        | succ k => exact ⟨k, rfl⟩
      have hb2 : bfs u n (level u ws wt).1 (level u ws wt).2 = ways u := by
        rw [← hb]
        show _ = if wt = [] then ws else bfs u n (level u ws wt).1 (level u ws wt).2
        rw [if_neg hwn]
      have hlt := left_next ok lev hwn
      have lev2 := (lev_next ok lev).1
      refine ⟨true, by rw [← hwt]; rfl, iteT ⟨fun σ2 H2 => PvExp P w K u v a H (left (level u ws wt).1 (level u ws wt).2) σ2 H2, fun σ2 H2 h2 => ⟨_, hlt, h2⟩, ?_⟩⟩
      refine ⟨Nat.zero_le _, fun pl hpl => ?_⟩
      have e2 : Ex H' (upd (upd H' q (.lst [])) pl (.lst [])) := (Ex.nw hq1).nx hpl
      have hpl' : H' pl = none := (Ex.nw hq1).none hpl
      have hpa : pl ≠ a := fun z => by
        obtain ⟨_, _, z2, _⟩ := hd
        rw [z, z2] at hpl'
        cases hpl'
      have hpp : pw ≠ pl := fun z => by rw [← z, hw] at hpl'; cases hpl'
      refine ⟨_, rfl, pw, rfl, ⟨xs, SqL.of (e2 _ _ hw)⟩, ?_⟩
      refine for_list (xs := xs) (PvOut P w K u v a pl pw H xs ws wt) ⟨[], wt, (ws, []), _, _, _, rfl, rfl, rfl, rfl, e.tr e2, DN.ex e2 hd, e2 _ _ hw, e2.da dw, [], upd_same, .nil⟩ ?_ ?_ ?_
      · rintro i σ2 H2 hi ⟨pre, suf, acc, p2, p3, p4, _, _, _, _, bag⟩
        exact SqL.of bag.2.2.1
      · rintro i x σ2 H2 hi ⟨pre, suf, acc, p2, p3, p4, ew, el, rfl, eacc, bag⟩
        obtain ⟨dd, hdd, dx⟩ := dpa_get bag.2.2.2.1 hi
        obtain ⟨f, suf', es, ed⟩ := at_splitG hdd ew el
        subst es ed
        refine ⟨_, rfl, _, rfl, v, x, u, f.st, rfl, bag.1.wh hx, dx, fun pd H3 hpd e3 hld => ⟨pd, rfl, ⟨_, SqL.of hld⟩, ?_⟩⟩
        have hda : pd ≠ a := fun z => by
          obtain ⟨_, _, z2, _⟩ := bag.2.1
          rw [z, z2] at hpd
          cases hpd
        have hdl : pd ≠ pl := fun z => by
          obtain ⟨_, z2, _⟩ := bag.2.2.2.2
          rw [z, z2] at hpd
          cases hpd
        refine for_list (xs := (deedsIn u f.st).map fun d => V.str (deedS d)) (PvIn P w K u v x a pl pw pd H xs wt f acc) ⟨[], _, acc, _, _, rfl, rfl, rfl, rfl, bag.up e3, e3.d dx, hld⟩ ?_ ?_ ?_
        · rintro j σ3 H4 hj ⟨dp, ds, acc2, q3, q4, _, _, _, _, _, _, hld⟩
          exact SqL.of hld
        · rintro j z σ3 H4 hj ⟨dp, ds, acc2, q3, q4, ed, el2, rfl, eacc2, bag2, dx2, hld2⟩
          obtain ⟨d, ds', es, ez⟩ := at_split hj ed el2
          subst es ez
          have cd : d ∈ deedsIn u f.st := by rw [ed]; exact List.mem_append_right _ List.mem_cons_self
          have hbase : Base u acc2.1 := by rw [eacc2, eacc]; exact lev_base ok lev ew ed
          refine ⟨_, rfl, _, rfl, _, rfl, v, x, u, f.st, d, rfl, bag2.1.wh hx, dx2, strike_row cd, fun x' H5 e5 dx' => ?_⟩
          have bag5 := bag2.up e5
          cases hh : has acc2.1 (done u f.st d) with
          | true =>
            refine ⟨_, rfl, _, rfl, a, _, _, rfl, bag5.2.1, dx', depth_st (done u f.st d), false, by rw [if_pos rfl, show ((waysD acc2.1).any fun q => decide (nk q.1 = nk (.tuple [rowD (done u f.st d).row, rdD (done u f.st d).rd, .int (done u f.st d).tb]))) = true from (any_st _ _).trans hh]; rfl, iteF ?_⟩
            refine ⟨dp ++ [d], ds', acc2, _, _, by rw [ed, List.append_assoc]; rfl, by rw [List.length_append, el2]; rfl, rfl, ?_, bag5, e5.d dx2, e5 _ _ hld2⟩
            rw [List.foldl_append, ← eacc2]
            show acc2 = stepD u f acc2 d
            unfold stepD
            rw [if_pos hh]
          | false =>
            refine ⟨_, rfl, _, rfl, a, _, _, rfl, bag5.2.1, dx', depth_st (done u f.st d), true, by rw [if_pos rfl, show ((waysD acc2.1).any fun q => decide (nk q.1 = nk (.tuple [rowD (done u f.st d).row, rdD (done u f.st d).rd, .int (done u f.st d).tb]))) = false from (any_st _ _).trans hh]; rfl, iteT ?_⟩
            refine ⟨_, rfl, _, rfl, by show 2 ≤ sizeLine; decide, fun p hp => ⟨_, rfl, _, rfl, a, rfl, waysD acc2.1, _, parD (some (f.st, d)), DN.ex (Ex.nw hp) bag5.2.1, (Ex.nw hp).d dx', depth_st (done u f.st d), two_dp sqt_new ((Ex.nw hp).d (e5.d dx2)) (.str _), (any_st _ _).trans hh, ?_, fun o tp dn => ?_⟩⟩
            · unfold waysD
              rw [List.length_map]
              have := hbase.len
              omega
            obtain ⟨b1, b2, b3, b4, ys, b5, b6⟩ := bag5
            have hpd5 := e5 _ _ hld2
            have npl : p ≠ pl := fun z => by rw [z, b5] at hp; cases hp
            have npw : p ≠ pw := fun z => by rw [z, b3] at hp; cases hp
            have npd : p ≠ pd := fun z => by rw [z, hpd5] at hp; cases hp
            have h6l : (upd (upd H5 p (.tup [x, .str (deedS d)])) a o) pl = some (.lst ys) := by rw [upd_ne hpa, upd_ne (Ne.symm npl)]; exact b5
            have hly : ys.length < sizeLine := by
              have h1 := dpa_len b6
              rw [List.length_map] at h1
              have h2 := level_len ok lev ew ed
              rw [← eacc, ← eacc2] at h2
              rw [h1, sizeLine_eq]
              omega
            refine ⟨_, rfl, .inl ⟨rfl, _, SqL.of h6l⟩, _, rfl, pl, ys, x', rfl, rfl, h6l, hly, ?_⟩
            have t1 : Tp H5 (upd (upd H5 p (.tup [x, .str (deedS d)])) a o) := (Ex.nw hp).tp.tr tp
            have t2 : Tp (upd (upd H5 p (.tup [x, .str (deedS d)])) a o) (upd (upd (upd H5 p (.tup [x, .str (deedS d)])) a o) pl (.lst (ys ++ [x']))) := Tp.w (NoTup.l h6l)
            have t3 := t1.tr t2
            have eacc3 : (acc2.1 ++ [⟨done u f.st d, some (f.st, d), f.path ++ [d]⟩], acc2.2 ++ [⟨done u f.st d, some (f.st, d), f.path ++ [d]⟩]) = stepD u f acc2 d := by
              unfold stepD
              rw [hh, if_neg Bool.false_ne_true]
            refine ⟨dp ++ [d], ds', (acc2.1 ++ [⟨done u f.st d, some (f.st, d), f.path ++ [d]⟩], acc2.2 ++ [⟨done u f.st d, some (f.st, d), f.path ++ [d]⟩]), _, _, by rw [ed, List.append_assoc]; rfl, by rw [List.length_append, el2]; rfl, rfl, ?_, ⟨Evl.Ex.mut (Evl.Ex.mut (b1.nx hp) ha) (e.none hpl'), ?_, ?_, t3.da b4, ys ++ [x'], upd_same, ?_⟩, t3.d (e5.d dx2), ?_⟩
            · rw [List.foldl_append, ← eacc2]
              exact eacc3
            · have dn2 := DN.put (b := pl) (o := .lst (ys ++ [x'])) dn (Ne.symm hpa) t2
              unfold waysD at dn2 ⊢
              rw [List.map_append]
              exact dn2
            · rw [upd_ne hpp, upd_ne hne, upd_ne (Ne.symm npw)]
              exact b3
            · rw [List.map_append]
              exact dpa_app (t3.da b6) (.cons (t3.d dx') .nil)
            · rw [upd_ne hdl, upd_ne hda, upd_ne (Ne.symm npd)]
              exact hpd5
        · rintro σ3 H4 ⟨dp, ds, acc2, q3, q4, ed, el2, rfl, eacc2, bag2, dx2, hld2⟩
          have es := at_end ed el2
          subst es
          rw [List.append_nil] at ed
          subst ed
          refine ⟨pre ++ [f], suf', acc2, _, _, _, by rw [ew, List.append_assoc]; rfl, by rw [List.length_append, el]; rfl, rfl, ?_, bag2⟩
          rw [List.foldl_append, ← eacc]
          exact eacc2
      · rintro σ2 H2 ⟨pre, suf, acc, p2, p3, p4, ew, el, rfl, eacc, bag⟩
        have es : suf = [] := by
          have h1 := dpa_len dw
          have h2 := congrArg List.length ew
          rw [List.length_append] at h2
          rw [List.length_map] at h1
          exact List.length_eq_zero_iff.mp (by omega)
        subst es
        rw [List.append_nil] at ew
        subst ew
        have ea : acc = level u ws wt := eacc
        subst ea
        obtain ⟨b1, b2, b3, b4, ys, b5, b6⟩ := bag
        have hl := lev2.base.len
        refine ⟨_, rfl, a, _, rfl, b2, _, _, rfl, rfl, false, ?_, iteF ⟨_, rfl, ?_⟩⟩
        · unfold waysD
          rw [List.length_map]
          exact bE (decide_eq_false (by omega))
        · exact ⟨(level u ws wt).1, (level u ws wt).2, pl, _, _, _, _, ys, n, rfl, rfl, lev2, by omega, hb2, b1, ha, hpa, e.none hpl', b2, b5, b6⟩
end
end LapW
set_option Elab.async false
set_option linter.all false
set_option maxRecDepth 100000
set_option maxHeartbeats 4000000
namespace LapW
open PySem PySem.Spec PyProof.Rows L2 Lap

theorem waysD_keys (ws : Ways) : (waysD ws).map (·.1) = (ws.map (·.st)).map stD := by
  unfold waysD
  rw [List.map_map, List.map_map]
  rfl
theorem ix_tupK {X : Cx} {K : PySem.W.Frag} (h : X.K = K) : IxR X (rIxT K) := h ▸ ix_tup
theorem ix_listK {X : Cx} {K : PySem.W.Frag} (h : X.K = K) : IxR X (rIxL K) := h ▸ ix_list
section
variable {P : Program} {w : World} {K : PySem.W.Frag} {mg : Str → Option Value} {base : Heap}
/-! ### sights -/
abbrev s_sights : Stmt := top 45
abbrev N_sights : List Str := ["wheel", "state", "row", "reader", "table"]
theorem sc_sights : FnScope N_sights ["wheel", "state"] (defScope s_sights) := ⟨rfl, rfl, rfl, by decide +kernel, rfl, by decide +kernel, by decide +kernel⟩
def sightD : Option Bool × Bool → PyData
  | (none, b) => .tuple [.none, .bool b]
  | (some a, b) => .tuple [.bool a, .bool b]
def spSights (K : PySem.W.Frag) : Sp := fun vs H Q _ => ∃ (v x : V) (u : Wh) (s : Lap.St), vs = [v, x] ∧ WhAt K H v u ∧ Dt K H x (stD s) ∧ SOk s ∧ RetD K (sightD (Lap.sights s)) H Q
theorem cal_sights (T : Tx K mg) : C8.Cal P w K mg base 7 "sights" (spSights K) [] := by
  refine cal_of T.g_sights T.f_sights sc_sights (fun vs H Q E h => ?_) (fun _ _ _ _ _ _ us hl => match us, hl with | [_, _], _ => rfl) fun cdv A outer s H vs Q E hr h => ?_
  · obtain ⟨v, x, u, s, rfl, _⟩ := h
    rfl
  · obtain ⟨v, x, u, s, rfl, hx, hs, ok, hq⟩ := h
    refine ⟨_, (pss_cons (ps_expr (C8.pe_c (cal_check_state T) hr (by decide) rfl (pa_cons (pv 0) (pa_cons (pv 1) pa_nil))))
      (pss_cons (ps_asg (pv 1) (pg_tup rfl (pgs_cons (pg_name (i := 2) sc_sights.nd rfl (Or.inl rfl)) (pgs_cons (pg_name (i := 3) sc_sights.nd rfl (Or.inl rfl)) (pgs_cons (pg_name (i := 4) sc_sights.nd rfl (Or.inl rfl)) pgs_nil)))))
      (pss_one (ps_ret (pe_tup (pa_cons (pe_ifExp (pt_cmp (pc_isN (pv 3))) pe_non (C8.pe_c (cal_sees T) hr (by decide) rfl (pa_cons (pv 0) (pa_cons (pv 2) (pa_cons (pe_ix ix_tup (pv 3) pe_int (fun _ _ => rfl)) pa_nil))))) (pa_cons (C8.pe_c (cal_sees T) hr (by decide) rfl (pa_cons (pv 0) (pa_cons (pv 2) (pa_cons pe_int pa_nil)))) pa_nil))))))), ?_⟩
    refine ⟨_, rfl, _, rfl, v, x, u, s, rfl, hx, hs, ok, fun H1 e1 => ?_⟩
    obtain ⟨t, a, b, rfl, ht, h1, h2⟩ := dp_st (e1.d hs)
    refine ⟨_, rfl, t, _, rfl, ht, rfl, _, _, rfl, _, _, rfl, _, _, rfl, rfl, ?_⟩
    refine ⟨_, rfl, ?_⟩
    cases hd : s.rd with
    | none =>
      rw [hd] at h2
      cases h2
      refine ⟨true, rfl, iteT ⟨_, rfl, _, rfl, v, a, u, s.row, 0, rfl, e1.wh hx, h1, by show 2 ≤ sizeLine; decide, fun p hp => hq _ _ (e1.nx hp) ?_⟩⟩
      rw [show sightD (Lap.sights s) = .tuple [.none, .bool (sees s.row 0)] by unfold Lap.sights; rw [hd]; rfl]
      exact two_dp sqt_new .non (.bl _)
    | some p =>
      obtain ⟨p, q⟩ := p
      rw [hd] at h2
      obtain ⟨t2, rfl, ht2⟩ := dp_rd h2
      refine ⟨false, rfl, iteF ⟨_, rfl, _, rfl, _, rfl, t2, _, 0, _, rfl, rfl, ht2, rfl, v, a, u, s.row, p, rfl, e1.wh hx, h1, ?_⟩⟩
      refine ⟨_, rfl, _, rfl, v, a, u, s.row, 0, rfl, e1.wh hx, h1, by show 2 ≤ sizeLine; decide, fun p' hp => hq _ _ (e1.nx hp) ?_⟩
      rw [show sightD (Lap.sights s) = .tuple [.bool (sees s.row p), .bool (sees s.row 0)] by unfold Lap.sights; rw [hd]; rfl]
      exact two_dp sqt_new (.bl _) (.bl _)

/-! ### told -/
abbrev s_told : Stmt := top 46
abbrev N_told : List Str := ["wheel", "history"]
theorem sc_told : FnScope N_told ["wheel", "history"] (defScope s_told) := ⟨rfl, rfl, rfl, by decide +kernel, rfl, by decide +kernel, by decide +kernel⟩
theorem cal_told (T : Tx K mg) : C8.Cal P w K mg base 7 "told" (spWalked K) [] := by
  refine cal_of T.g_told T.f_told sc_told (fun vs H Q E h => ?_) (fun _ _ _ _ _ _ us hl => match us, hl with | [_, _], _ => rfl) fun cdv A outer s H vs Q E hr h => ?_
  · obtain ⟨v, t, u, h, rfl, _⟩ := h
    rfl
  · obtain ⟨v, t, u, h, rfl, hx, ht, ok, can, len, hq⟩ := h
    refine ⟨_, (pss_one (ps_ret (C8.pe_c (cal_check_history T) hr (by decide) rfl (pa_cons (pv 0) (pa_cons (pv 1) pa_nil))))), ?_⟩
    exact ⟨_, rfl, _, rfl, v, t, u, h, rfl, hx, ht, ok, can, len, hq⟩

/-! ### all_states -/
abbrev s_all_states : Stmt := top 47
abbrev N_all_states : List Str := ["wheel"]
theorem sc_all_states : FnScope N_all_states ["wheel"] (defScope s_all_states) := ⟨rfl, rfl, rfl, by decide +kernel, rfl, by decide +kernel, by decide +kernel⟩
def spAllStates (K : PySem.W.Frag) : Sp := fun vs H Q _ => ∃ (v : V) (u : Wh), vs = [v] ∧ WhAt K H v u ∧ WOk u ∧ RetLD K ((statesOf u).map stD) H Q
theorem cal_all_states (T : Tx K mg) : C8.Cal P w K mg base 6 "all_states" (spAllStates K) [] := by
  refine cal_of T.g_all_states T.f_all_states sc_all_states (fun vs H Q E h => ?_) (fun _ _ _ _ _ _ us hl => match us, hl with | [_], _ => rfl) fun cdv A outer s H vs Q E hr h => ?_
  · obtain ⟨v, u, rfl, _⟩ := h
    rfl
  · obtain ⟨v, u, rfl, hx, ok, hq⟩ := h
    refine ⟨_, (pss_cons (ps_expr (C8.pe_c (cal_check_wheel T) hr (by decide) rfl (pa_cons (pv 0) pa_nil)))
      (pss_one (ps_ret (pe_callTy (call_listN hr.hd) rfl T.n_list (by decide +kernel) (pa_cons (C8.pe_c (cal_explore T) hr (by decide) rfl (pa_cons (pv 0) pa_nil)) pa_nil))))), ?_⟩
    refine ⟨_, rfl, _, _, rfl, hx, _, rfl, v, u, rfl, hx, ok, fun a H1 ha e1 hd => ⟨a, _, rfl, hd, fun p ys hp dy => ?_⟩⟩
    refine hq p ys _ (e1.none hp) (e1.nx hp) upd_same ?_
    rw [waysD_keys] at dy
    exact (Ex.nw hp).da dy

/-! ### check_wish -/
abbrev s_check_wish : Stmt := top 52
abbrev N_check_wish : List Str := ["wheel", "wish"]
theorem sc_check_wish : FnScope N_check_wish ["wheel", "wish"] (defScope s_check_wish) := ⟨rfl, rfl, rfl, by decide +kernel, rfl, by decide +kernel, by decide +kernel⟩
theorem wish_in (k : Wish) : V.bl (if true = true then !inV (V.str (wishS k)) [.str "early", .str "ghost", .str "gone", .str "stands"] else inV (V.str (wishS k)) [.str "early", .str "ghost", .str "gone", .str "stands"]) = V.bl false := by cases k <;> decide +kernel
def spCheckWish (K : PySem.W.Frag) : Sp := fun vs H Q _ => ∃ (v : V) (u : Wh) (k : Wish), vs = [v, .str (wishS k)] ∧ WhAt K H v u ∧ Q .non H
theorem cal_check_wish (T : Tx K mg) : C8.Cal P w K mg base 2 "check_wish" (spCheckWish K) [] := by
  refine cal_of T.g_check_wish T.f_check_wish sc_check_wish (fun vs H Q E h => ?_) (fun _ _ _ _ _ _ us hl => match us, hl with | [_, _], _ => rfl) fun cdv A outer s H vs Q E hr h => ?_
  · obtain ⟨v, u, k, rfl, _⟩ := h
    rfl
  · obtain ⟨v, u, k, rfl, hx, hq⟩ := h
    refine ⟨_, (pss_cons (ps_expr (C8.pe_c (cal_check_wheel T) hr (by decide) rfl (pa_cons (pv 0) pa_nil)))
      (pss_one (ps_if (PW.pt (pw_or (pt_not (pt_val (pe_callB call_isi rfl T.n_isinstance (by decide +kernel) (pa_cons (pv 1) (pa_cons (pe_bltn (v := .ty "str") rfl T.n_str (by decide +kernel) rfl) pa_nil))))) (pw_or1 (pt_cmpR op_notIn_seq (pv 1) (C8.pe_gc rfl T.c_WISHES) rfl)))) (pss_one ps_never) pss_nil))), ?_⟩
    refine ⟨_, rfl, _, _, rfl, hx, _, rfl, _, _, _, _, true, rfl, .ty "str", .base (.str _), kit_ty (by decide +kernel), true, rfl, iteF ?_⟩
    exact ⟨_, rfl, _, _, rfl, .inr (T.t_WISHES _), rfl, rfl, false, wish_in k, iteF hq⟩

/-! ### somebody -/
abbrev s_somebody : Stmt := top 53
abbrev N_somebody : List Str := ["state", "row", "reader", "table", "found"]
theorem sc_somebody : FnScope N_somebody ["state"] (defScope s_somebody) := ⟨rfl, rfl, rfl, by decide +kernel, rfl, by decide +kernel, by decide +kernel⟩
def pairD (q : Bool × Int) : PyData := .tuple [.bool q.1, .int q.2]
def spSomebody (K : PySem.W.Frag) : Sp := fun vs H Q _ => ∃ (x : V) (s : Lap.St), vs = [x] ∧ Dt K H x (stD s) ∧ RetLD K ((Lap.somebody s).map pairD) H Q
theorem cal_somebody (T : Tx K mg) : C8.Cal P w K mg base 2 "somebody" (spSomebody K) [] := by
  refine cal_of T.g_somebody T.f_somebody sc_somebody (fun vs H Q E h => ?_) (fun _ _ _ _ _ _ us hl => match us, hl with | [_], _ => rfl) fun cdv A outer s H vs Q E hr h => ?_
  · obtain ⟨x, s, rfl, _⟩ := h
    rfl
  · obtain ⟨x, s, rfl, hs, hq⟩ := h
    refine ⟨_, (pss_cons (ps_asg (pv 0) (pg_tup rfl (pgs_cons (pg_name (i := 1) sc_somebody.nd rfl (Or.inl rfl)) (pgs_cons (pg_name (i := 2) sc_somebody.nd rfl (Or.inl rfl)) (pgs_cons (pg_name (i := 3) sc_somebody.nd rfl (Or.inl rfl)) pgs_nil)))))
      (pss_cons (ps_set (i := 4) sc_somebody.nd rfl (Or.inl rfl) (pe_lst (pa_cons (pe_tup (pa_cons (C8.pe_c (cal_is_there T) hr (by decide) rfl (pa_cons (pv 1) pa_nil)) (pa_cons pe_int pa_nil))) pa_nil)))
      (pss_one (ps_ret (pe_ifExp (pt_cmp (pc_isN (pv 2))) (pv 4) (pe_op op_cat (pv 4) (pe_lst (pa_cons (pe_tup (pa_cons (pe_ix ix_tup (pv 2) pe_int (fun _ _ => rfl)) (pa_cons (pe_ix ix_tup (pv 2) pe_int (fun _ _ => rfl)) pa_nil))) pa_nil)))))))), ?_⟩
    obtain ⟨t, a, b, rfl, ht, h1, h2⟩ := dp_st hs
    refine ⟨_, rfl, t, _, rfl, ht, rfl, _, _, rfl, _, _, rfl, _, _, rfl, rfl, ?_⟩
    refine ⟨_, rfl, _, s.row, rfl, h1, by show 2 ≤ sizeLine; decide, fun p hp => ⟨by show 1 ≤ sizeLine; decide, fun l hl => ⟨_, rfl, ?_⟩⟩⟩
    have e1 := (Ex.nw hp).nx (o := .lst [.ref p]) hl
    have hpd : Dt K (upd (upd H p (.tup [.bl (isThere s.row), .int 0])) l (.lst [.ref p])) (.ref p) (pairD (isThere s.row, 0)) := (Ex.nw hl).d (two_dp sqt_new (.bl _) (.int _))
    cases hd : s.rd with
    | none =>
      rw [hd] at h2
      cases h2
      refine ⟨true, rfl, iteT ⟨_, rfl, hq l _ _ ((Ex.nw hp).none hl) e1 upd_same ?_⟩⟩
      rw [show Lap.somebody s = [(isThere s.row, 0)] by unfold Lap.somebody; rw [hd]]
      exact .cons hpd .nil
    | some q =>
      obtain ⟨q, c⟩ := q
      rw [hd] at h2
      obtain ⟨t2, rfl, ht2⟩ := dp_rd h2
      refine ⟨false, rfl, iteF ⟨_, rfl, _, rfl, t2, _, 1, _, rfl, rfl, e1.t ht2, rfl, _, rfl, t2, _, 0, _, rfl, rfl, e1.t ht2, rfl, by show 2 ≤ sizeLine; decide, fun p2 hp2 => ⟨by show 1 ≤ sizeLine; decide, fun l2 hl2 => ?_⟩⟩⟩
      have e2 := (Ex.nw hp2).nx (o := .lst [.ref p2]) hl2
      refine ⟨l, l2, _, _, rfl, rfl, e2 _ _ upd_same, upd_same, by show 2 ≤ sizeLine; decide, fun l3 hl3 => ?_⟩
      refine hq l3 _ _ (e1.none (e2.none hl3)) ((e1.tr e2).nx hl3) upd_same ?_
      rw [show Lap.somebody s = [(isThere s.row, 0), (c, q)] by unfold Lap.somebody; rw [hd]]
      exact .cons ((e2.nx hl3).d hpd) (.cons ((Ex.nw hl3).d ((Ex.nw hl2).d (two_dp sqt_new (.bl _) (.int _)))) .nil)

/-! ### stands_broken -/
abbrev s_stands_broken : Stmt := top 54
abbrev N_stands_broken : List Str := ["wheel", "state", "wish", "rows", "is_due", "picture"]
theorem sc_stands_broken : FnScope N_stands_broken ["wheel", "state", "wish"] (defScope s_stands_broken) := ⟨rfl, rfl, rfl, by decide +kernel, rfl, by decide +kernel, by decide +kernel⟩
theorem wne {d e : Wish} (h : ¬ d = e) : V.bl (decide (V.str (wishS d) = V.str (wishS e))) = V.bl false := by
  cases d <;> cases e <;> first | exact absurd rfl h | decide +kernel
theorem dpa_map {α : Type} {K : PySem.W.Frag} {H : Hp} {xs : List V} {items : List α} {f : α → PyData} {i : Nat} {x : V} {q : α} (h : DtAll K H xs (items.map f)) (hi : xs[i]? = some x) (hq : items[i]? = some q) : Dt K H x (f q) := by
  obtain ⟨d, hd, r⟩ := dpa_get h hi
  rw [List.getElem?_map, hq] at hd
  cases hd
  exact r
theorem shaped_two {α : Type} (a b : α → Bool) (l : List α) : SeqAt.shaped (.list (l.map fun q => .tuple [.bool (a q), .bool (b q)])) = true := shaped_list (fun _ _ => rfl) fun _ _ => Nat.le_of_ble_eq_true rfl
theorem any_two {α : Type} (a b : α → Bool) (x y : Bool) (l : List α) : ((l.map fun q => (.tuple [.bool (a q), .bool (b q)] : PyData)).any fun z => PyData.eqv z (.tuple [.bool x, .bool y])) = (l.map fun q => (a q, b q)).contains (x, y) := by
  induction l with
  | nil => rfl
  | cons q l ih =>
    rw [List.map_cons, List.any_cons, ih, List.map_cons, List.contains_cons]
    congr 1
    show (a q == x && (b q == y && true)) = ((x, y) == (a q, b q))
    cases a q <;> cases b q <;> cases x <;> cases y <;> rfl
def spStandsBroken (K : PySem.W.Frag) : Sp := fun vs H Q _ => ∃ (v x : V) (u : Wh) (s : Lap.St) (k : Wish), vs = [v, x, .str (wishS k)] ∧ WhAt K H v u ∧ Dt K H x (stD s) ∧ RetB (standsBroken u s k) H Q
theorem cal_stands_broken (T : Tx K mg) : C8.Cal P w K mg base 4 "stands_broken" (spStandsBroken K) [] := by
  refine cal_of T.g_stands_broken T.f_stands_broken sc_stands_broken (fun vs H Q E h => ?_) (fun _ _ _ _ _ _ us hl => match us, hl with | [_, _, _], _ => rfl) fun cdv A outer s H vs Q E hr h => ?_
  · obtain ⟨v, x, u, s, k, rfl, _⟩ := h
    rfl
  · obtain ⟨v, x, u, s, k, rfl, hx, hs, hq⟩ := h
    have hu := hu_of hr
    have hu64 := Room.units hr
    refine ⟨_, (pss_cons (ps_if (pt_cmpR op_eq (pv 2) pe_str (nomark _)) (pss_one (ps_ret (pe_and (C8.pe_c (cal_is_stopped T) hr (by decide) rfl (pa_cons (pv 0) (pa_cons (pv 1) pa_nil))) (pe_one (C8.pe_c (cal_is_stopped T) hr (by decide) rfl (pa_cons (pv 0) (pa_cons (C8.pe_c (cal_passed T) hr (by decide) rfl (pa_cons (pv 0) (pa_cons (pv 1) pa_nil))) pa_nil))))))) pss_nil)
      (pss_cons (ps_setLc (i := 3) (own := [("is_due", 4), ("picture", 5)]) (g := (gTup K 2 (gCons (gName 4) (gCons (gName 5) gNil)))) (tt := tYes) rfl sc_stands_broken.nd rfl rfl (sw_true rfl rfl rfl (by decide +kernel)) (pi_list (C8.pe_c (cal_somebody T) hr (by decide) rfl (pa_cons (pv 1) pa_nil))) (blkOk_by (N := N_stands_broken) (sc := defScope s_stands_broken) (by decide +kernel)) (fun _ _ _ _ _ => (pg_tup rfl (pgs_cons (pg_name (i := 4) sc_stands_broken.nd rfl (Or.inl rfl)) (pgs_cons (pg_name (i := 5) sc_stands_broken.nd rfl (Or.inl rfl)) pgs_nil)))) (fun _ _ _ _ _ => pts_nil) (fun _ _ _ _ _ => (pe_tup (pa_cons (pv 4) (pa_cons (C8.pe_c (cal_sees T) hr (by decide) rfl (pa_cons (pv 0) (pa_cons (pe_ix (ix_tupK (K := K) rfl) (pv 1) pe_int (fun _ _ => rfl)) (pa_cons (pv 5) pa_nil)))) pa_nil)))))
      (pss_cons (ps_if (pt_cmpR op_eq (pv 2) pe_str (nomark _)) (pss_one (ps_ret (pe_cmpR (op_inD (hu_65 hr)) (pe_tup (pa_cons pe_bl (pa_cons pe_bl pa_nil))) (pv 3) rfl))) pss_nil)
      (pss_one (ps_ret (pe_and (pe_cmpR op_eq (pv 2) pe_str (nomark _)) (pe_one (pe_cmpR (op_inD (hu_65 hr)) (pe_tup (pa_cons pe_bl (pa_cons pe_bl pa_nil))) (pv 3) rfl)))))))), ?_⟩
    by_cases hk : k = .stands
    · subst hk
      refine ⟨_, rfl, rfl, true, rfl, iteT ⟨_, rfl, _, rfl, v, x, u, s, rfl, hx, hs, ?_⟩⟩
      cases h1 : isStopped u s with
      | false =>
        refine ⟨false, rfl, iteF ?_⟩
        have := hq _ (Ex.rfl' _)
        rw [show standsBroken u s .stands = false by show (isStopped u s && _) = false; rw [h1]; rfl] at this
        exact this
      | true =>
        refine ⟨true, rfl, iteT ⟨_, rfl, _, rfl, _, rfl, v, x, u, s, rfl, hx, hs, fun y H1 e1 hy => ⟨v, y, u, passed u s, rfl, e1.wh hx, hy, ?_⟩⟩⟩
        have := hq _ e1
        rw [show standsBroken u s .stands = isStopped u (passed u s) by show (isStopped u s && _) = _; rw [h1]; rfl] at this
        exact this
    refine ⟨_, rfl, rfl, false, wne hk, iteF ?_⟩
    obtain ⟨t, a, b, rfl, ht, h1, h2⟩ := dp_st hs
    refine ⟨_, rfl, _, s, rfl, hs, fun l xs H1 hl e1 hll dl => ⟨l, rfl, ⟨xs, SqL.of hll⟩, fun D hD => ?_⟩⟩
    have hlen : xs.length = (Lap.somebody s).length := by rw [dpa_len dl, List.length_map]
    have hsm : (Lap.somebody s).length ≤ 2 := by
      unfold Lap.somebody
      cases s.rd <;> simp
    refine lc_listD (items := Lap.somebody s) (p := fun _ => true) (m := fun q => .tuple [.bool q.1, .bool (sees s.row q.2)]) (SqL.of hll) hlen (by omega) hD (fun i y q H2 hi hq' e2 Qn Qy n1 n2 => ?_) fun H2 ys e2 hD2 dy => ?_
    · have dyq := dpa_map dl hi hq'
      obtain ⟨t2, z1, z2, rfl, ht2, dz1, dz2⟩ := dp_two dyq
      cases dz1
      cases dz2
      refine ⟨t2, _, rfl, e2.t ht2, rfl, _, _, rfl, _, _, rfl, rfl, rfl, ?_⟩
      refine iteT (B := True) ⟨_, rfl, _, rfl, _, rfl, t, _, 0, _, rfl, rfl, e2.t (e1.t ht), rfl, _, rfl, v, a, u, s.row, q.2, rfl, e2.wh (e1.wh hx), e2.d (e1.d h1), by show 2 ≤ sizeLine; decide, fun p hp => n2 rfl _ _ (Ex.nw hp) (two_dp sqt_new (.bl _) (.bl _))⟩
    · have e3 := e1.tr e2
      have hf : (Lap.somebody s).filter (fun _ => true) = Lap.somebody s := List.filter_eq_self.mpr fun _ _ => rfl
      rw [hf] at dy
      by_cases hk2 : k = .ghost
      · subst hk2
        refine ⟨_, rfl, rfl, true, rfl, iteT ⟨by show 2 ≤ sizeLine; decide, fun p hp => ⟨_, rfl, .tuple [.bool false, .bool true], _, .tup sqt_new (.cons (.bl _) (.cons (.bl _) .nil)), .lst (SqL.of ((Ex.nw hp) _ _ hD2)) (((Ex.nw hp).da dy).dp), rfl, shaped_two _ _ _, ?_⟩⟩⟩
        rw [any_two]
        exact hq _ (e3.nx hp)
      refine ⟨_, rfl, rfl, false, wne hk2, iteF ?_⟩
      by_cases hk3 : k = .gone
      · subst hk3
        refine ⟨_, rfl, rfl, true, rfl, iteT ⟨by show 2 ≤ sizeLine; decide, fun p hp => ⟨_, rfl, .tuple [.bool true, .bool false], _, .tup sqt_new (.cons (.bl _) (.cons (.bl _) .nil)), .lst (SqL.of ((Ex.nw hp) _ _ hD2)) (((Ex.nw hp).da dy).dp), rfl, shaped_two _ _ _, ?_⟩⟩⟩
        rw [any_two]
        exact hq _ (e3.nx hp)
      refine ⟨_, rfl, rfl, false, wne hk3, iteF ?_⟩
      have hk4 : k = .early := by
        cases k
        · rfl
        · exact absurd rfl hk2
        · exact absurd rfl hk3
        · exact absurd rfl hk
      subst hk4
      exact hq _ e3
end
end LapW
set_option Elab.async false
set_option linter.all false
set_option maxRecDepth 100000
set_option maxHeartbeats 4000000
namespace LapW
open PySem PySem.Spec PyProof.Rows L2 Lap

section
variable {P : Program} {w : World} {K : PySem.W.Frag} {mg : Str → Option Value} {base : Heap}
/-! ### views -/
abbrev s_views : Stmt := top 55
abbrev N_views : List Str := ["wheel", "row", "state", "is_due", "picture"]
theorem sc_views : FnScope N_views ["wheel", "row", "state"] (defScope s_views) := ⟨rfl, rfl, rfl, by decide +kernel, rfl, by decide +kernel, by decide +kernel⟩
def spViews (K : PySem.W.Frag) : Sp := fun vs H Q _ => ∃ (v y x : V) (u : Wh) (r : Lap.Row) (s : Lap.St), vs = [v, y, x] ∧ WhAt K H v u ∧ Dt K H y (rowD r) ∧ Dt K H x (stD s) ∧ RetLD K ((Lap.views r s).map PyData.bool) H Q
theorem cal_views (T : Tx K mg) : C8.Cal P w K mg base 3 "views" (spViews K) [] := by
  refine cal_of T.g_views T.f_views sc_views (fun vs H Q E h => ?_) (fun _ _ _ _ _ _ us hl => match us, hl with | [_, _, _], _ => rfl) fun cdv A outer s H vs Q E hr h => ?_
  · obtain ⟨v, y, x, u, r, s, rfl, _⟩ := h
    rfl
  · obtain ⟨v, y, x, u, r, s, rfl, hx, hr2, hs, hq⟩ := h
    refine ⟨_, (pss_one (ps_ret (pe_lc (own := [("is_due", 3), ("picture", 4)]) (g := (gTup K 2 (gCons (gName 3) (gCons (gName 4) gNil)))) (tt := tYes) rfl sc_views.nd (pi_list (C8.pe_c (cal_somebody T) hr (by decide) rfl (pa_cons (pv 2) pa_nil))) (blkOk_by (N := N_views) (sc := defScope s_views) (by decide +kernel)) (fun _ _ _ _ _ => (pg_tup rfl (pgs_cons (pg_name (i := 3) sc_views.nd rfl (Or.inl rfl)) (pgs_cons (pg_name (i := 4) sc_views.nd rfl (Or.inl rfl)) pgs_nil)))) (fun _ _ _ _ _ => pts_nil) (fun _ _ _ _ _ => (C8.pe_c (cal_sees T) hr (by decide) rfl (pa_cons (pv 0) (pa_cons (pv 1) (pa_cons (pv 4) pa_nil)))))))), ?_⟩
    refine ⟨_, rfl, _, s, rfl, hs, fun l xs H1 hl e1 hll dl => ⟨l, rfl, ⟨xs, SqL.of hll⟩, fun D hD => ?_⟩⟩
    have hlen : xs.length = (Lap.somebody s).length := by rw [dpa_len dl, List.length_map]
    have hsm : (Lap.somebody s).length ≤ 2 := by
      unfold Lap.somebody
      cases s.rd <;> simp
    refine lc_listD (items := Lap.somebody s) (p := fun _ => true) (m := fun q => .bool (sees r q.2)) (SqL.of hll) hlen (by omega) hD (fun i y' q H2 hi hq' e2 Qn Qy n1 n2 => ?_) fun H2 ys e2 hD2 dy => ?_
    · have dyq := dpa_map dl hi hq'
      obtain ⟨t2, z1, z2, rfl, ht2, dz1, dz2⟩ := dp_two dyq
      cases dz1
      cases dz2
      refine ⟨t2, _, rfl, e2.t ht2, rfl, _, _, rfl, _, _, rfl, rfl, rfl, ?_⟩
      exact iteT (B := True) ⟨_, rfl, _, rfl, _, rfl, v, y, u, r, q.2, rfl, e2.wh (e1.wh hx), e2.d (e1.d hr2), n2 rfl _ _ (Ex.rfl' _) (.bl _)⟩
    · have hf : (Lap.somebody s).filter (fun _ => true) = Lap.somebody s := List.filter_eq_self.mpr fun _ _ => rfl
      rw [hf] at dy
      refine hq D ys H2 (e1.none hD) (e1.tr e2) hD2 ?_
      unfold Lap.views
      rw [List.map_map]
      exact dy

/-! ### goes_wrong -/
abbrev s_goes_wrong : Stmt := top 56
abbrev N_goes_wrong : List Str := ["wheel", "state", "deed", "wish"]
theorem sc_goes_wrong : FnScope N_goes_wrong ["wheel", "state", "deed", "wish"] (defScope s_goes_wrong) := ⟨rfl, rfl, rfl, by decide +kernel, rfl, by decide +kernel, by decide +kernel⟩
theorem shaped_bools (l : List Bool) : SeqAt.shaped (.list (l.map PyData.bool)) = true := shaped_list (fun _ _ => rfl) fun _ _ => Nat.le_of_ble_eq_true rfl
theorem eqv_bools : ∀ (l m : List Bool), PyData.eqv (.list (l.map PyData.bool)) (.list (m.map PyData.bool)) = decide (l = m)
  | [], [] => rfl
  | [], _ :: _ => rfl
  | _ :: _, [] => rfl
  | a :: l, b :: m => by
    show (a == b && PyData.eqv (.list (l.map PyData.bool)) (.list (m.map PyData.bool))) = _
    rw [eqv_bools l m]
    cases a <;> cases b <;> simp
theorem dne2 {d e : Deed} (h : ¬ d = e) : V.bl (!decide (V.str (deedS d) = V.str (deedS e))) = V.bl true := by
  have := dne h
  injection this with this
  rw [this]
  rfl
theorem wne2 {d e : Wish} (h : ¬ d = e) : V.bl (!decide (V.str (wishS d) = V.str (wishS e))) = V.bl true := by
  have := wne h
  injection this with this
  rw [this]
  rfl
def spGoesWrong (K : PySem.W.Frag) : Sp := fun vs H Q _ => ∃ (v x : V) (u : Wh) (s : Lap.St) (d : Deed) (k : Wish), vs = [v, x, .str (deedS d), .str (wishS k)] ∧ WhAt K H v u ∧ Dt K H x (stD s) ∧ RetB (goesWrong u s d k) H Q
theorem cal_goes_wrong (T : Tx K mg) : C8.Cal P w K mg base 4 "goes_wrong" (spGoesWrong K) [] := by
  refine cal_of T.g_goes_wrong T.f_goes_wrong sc_goes_wrong (fun vs H Q E h => ?_) (fun _ _ _ _ _ _ us hl => match us, hl with | [_, _, _, _], _ => rfl) fun cdv A outer s H vs Q E hr h => ?_
  · obtain ⟨v, x, u, s, d, k, rfl, _⟩ := h
    rfl
  · obtain ⟨v, x, u, s, d, k, rfl, hx, hs, hq⟩ := h
    have hu := hu_of hr
    have hu64 := Room.units hr
    refine ⟨_, (pss_cons (ps_if (PW.pt (pw_or (pt_cmpR op_ne (pv 3) pe_str (nomark _)) (pw_or1 (pt_cmpR op_ne (pv 2) pe_str (nomark _))))) (pss_one (ps_ret pe_bl)) pss_nil)
      (pss_one (ps_ret (pe_cmpR (op_neD hu64) (C8.pe_c (cal_views T) hr (by decide) rfl (pa_cons (pv 0) (pa_cons (pe_ix ix_tup (pv 1) pe_int (fun _ _ => rfl)) (pa_cons (pv 1) pa_nil)))) (C8.pe_c (cal_views T) hr (by decide) rfl (pa_cons (pv 0) (pa_cons (pe_ix ix_tup (C8.pe_c (cal_passed T) hr (by decide) rfl (pa_cons (pv 0) (pa_cons (pv 1) pa_nil))) pe_int (fun _ _ => rfl)) (pa_cons (pv 1) pa_nil)))) (nomark _))))), ?_⟩
    by_cases hk : k = .early
    · subst hk
      refine ⟨_, rfl, rfl, false, rfl, iteF ?_⟩
      by_cases hd : d = .pass
      · subst hd
        obtain ⟨t, a, b, rfl, ht, h1, h2⟩ := dp_st hs
        refine ⟨_, rfl, rfl, false, rfl, iteF ⟨_, rfl, _, rfl, t, _, 0, _, rfl, rfl, ht, rfl, _, rfl, v, a, _, u, s.row, s, rfl, hx, h1, hs, fun p ys H1 hp e1 hl dl => ?_⟩⟩
        refine ⟨_, rfl, _, rfl, _, rfl, v, _, u, s, rfl, e1.wh hx, e1.d hs, fun z H2 e2 hz => ?_⟩
        obtain ⟨t2, a2, b2, rfl, ht2, h12, h22⟩ := dp_st hz
        refine ⟨t2, _, 0, _, rfl, rfl, ht2, rfl, _, rfl, v, a2, _, u, (passed u s).row, s, rfl, e2.wh (e1.wh hx), h12, e2.d (e1.d hs), fun p2 ys2 H3 hp2 e3 hl2 dl2 => ?_⟩
        refine ⟨_, _, .lst (SqL.of (e3 _ _ (e2 _ _ hl))) ((e3.da (e2.da dl)).dp), .lst (SqL.of hl2) dl2.dp, shaped_bools _, shaped_bools _, ?_⟩
        rw [eqv_bools]
        exact hq H3 ((e1.tr e2).tr e3)
      · refine ⟨_, rfl, rfl, true, dne2 hd, iteT ?_⟩
        have := hq _ (Ex.rfl' _)
        rw [show goesWrong u s d .early = false by unfold goesWrong; rw [decide_eq_false hd, Bool.and_false]; rfl] at this
        exact this
    · refine ⟨_, rfl, rfl, true, wne2 hk, iteT (iteT ?_)⟩
      have := hq _ (Ex.rfl' _)
      rw [show goesWrong u s d k = false by unfold goesWrong; rw [decide_eq_false hk, Bool.false_and]; rfl] at this
      exact this
end
end LapW
set_option Elab.async false
set_option linter.all false
set_option maxRecDepth 100000
set_option maxHeartbeats 4000000
namespace LapW
open PySem PySem.Spec PyProof.Rows L2 Lap

section
variable {P : Program} {w : World} {K : PySem.W.Frag} {mg : Str → Option Value} {base : Heap}
theorem mak_of {x qual : Str} {C : Addr} {st : Stmt} {f : Addr} {N ps : List Str} {k : Nat} {sp : Sp} (M : Mk K C f) (g : mg x = some (.ref C)) (d : ∃ fd, FunD K "__init__" qual (defArgs st) (defBody st) (defScope st) [] [] f fd) (S : FnScope N ps (defScope st)) (len : ∀ vs H Q E, sp vs H Q E → vs.length = ps.length)
    (h : ∀ (kV doc pm : Value) (an : Option Addr) (cdv ct : Value) (us : List Value), us.length = ps.length → bindArgs (PySem.W.fnOf "__init__" qual (defArgs st) (defBody st) (defScope st) .none kV doc pm an cdv ct) ⟨us, []⟩ = pure (ps.zip us))
    (hbody : ∀ (cdv : Value) (A : Around) (outer : List Env) (s : Shared) (H : Hp) (vs : List V) (Q : VK) (E : XK), Room k (A.deeper (envOfC qual (defScope st) s.heap.objs.size f cdv)) → sp vs H Q E →
      ∃ t, PSs (cxOf C8.CX0 P w K mg base N qual (defScope st) f cdv A outer s H E).nox (defBody st) t ∧ t { nx := fun _ H' => Q .non H', rt := Q } (start N vs) H) : C8.Mak P w K mg base (k + 1) x C sp [] := by
  obtain ⟨fd, F⟩ := d
  refine ⟨f, fd, ps, [], M, F.ok S len fun cdv A outer s H vs Q E hr hs => ?_, g, F.bindsN h, .nil⟩
  obtain ⟨t, ht, q⟩ := hbody cdv A outer s H vs Q E hr hs
  exact ⟨t, ht.nox, q⟩
theorem met_of {m qual : Str} {C : Addr} {st : Stmt} {f : Addr} {N ps : List Str} {k : Nat} {sp : Sp} (c : Cls K C) (me : Meth K C m f) (d : ∃ fd, FunD K m qual (defArgs st) (defBody st) (defScope st) [] [] f fd) (S : FnScope N ps (defScope st)) (len : ∀ vs H Q E, sp vs H Q E → vs.length = ps.length)
    (h : ∀ (kV doc pm : Value) (an : Option Addr) (cdv ct : Value) (us : List Value), us.length = ps.length → bindArgs (PySem.W.fnOf m qual (defArgs st) (defBody st) (defScope st) .none kV doc pm an cdv ct) ⟨us, []⟩ = pure (ps.zip us))
    (hbody : ∀ (cdv : Value) (A : Around) (outer : List Env) (s : Shared) (H : Hp) (vs : List V) (Q : VK) (E : XK), Room k (A.deeper (envOfC qual (defScope st) s.heap.objs.size f cdv)) → sp vs H Q E →
      ∃ t, PSs (cxOf C8.CX0 P w K mg base N qual (defScope st) f cdv A outer s H E).nox (defBody st) t ∧ t { nx := fun _ H' => Q .non H', rt := Q } (start N vs) H) : C8.Met P w K mg base (k + 1) C m sp [] := by
  obtain ⟨fd, F⟩ := d
  refine ⟨f, fd, ps, [], c, me, F.ok S len fun cdv A outer s H vs Q E hr hs => ?_, F.bindsN h, .nil⟩
  obtain ⟨t, ht, q⟩ := hbody cdv A outer s H vs Q E hr hs
  exact ⟨t, ht.nox, q⟩
theorem ne_of_none {H : Hp} {a l : Addr} {o : HO} (h : H a = some o) (hl : H l = none) : a ≠ l := fun e => by rw [e, hl] at h; cases h
/-- the heap behind the making of an instance -/
theorem ex_make {H : Hp} {x dx : Addr} {C : Addr} (hx : H x = none) (hdx : H dx = none) (hne : dx ≠ x) : Ex H (upd (upd H dx (.own x)) x (.ins C dx [])) := (Ex.nw hdx).nx (by rw [upd_ne (Ne.symm hne)]; exact hx)
/-! ### Safe.__init__ -/
abbrev s_Safe___init__ : Stmt := inClass (top 50) 0
abbrev N_Safe___init__ : List Str := ["self", "states"]
theorem sc_Safe___init__ : FnScope N_Safe___init__ ["self", "states"] (defScope s_Safe___init__) := ⟨rfl, rfl, rfl, by decide +kernel, rfl, by decide +kernel, by decide +kernel⟩
def spSafeI (K : PySem.W.Frag) : Sp := fun vs H Q _ => ∃ (a dx p : Addr) (ys : List V), vs = [.ref a, .ref p] ∧ H a = some (.ins (He.ga K "Safe") dx []) ∧ SqL K H p ys ∧ ∀ l, H l = none → Q .non (upd (upd H l (.lst ys)) a (.ins (He.ga K "Safe") dx [("states", .ref l)]))
theorem mak_Safe (T : Tx K mg) : C8.Mak P w K mg base 1 "Safe" (He.ga K "Safe") (spSafeI K) [] := by
  refine mak_of T.mk_Safe T.g_Safe T.f_Safe sc_Safe___init__ (fun vs H Q E h => ?_) (fun _ _ _ _ _ _ us hl => match us, hl with | [_, _], _ => rfl) fun cdv A outer s H vs Q E hr h => ?_
  · obtain ⟨a, dx, p, ys, rfl, _⟩ := h
    rfl
  · obtain ⟨a, dx, p, ys, rfl, ha, hp, hq⟩ := h
    refine ⟨_, (pss_one (ps_fld (pv 0) (pe_callTy call_list_of rfl T.n_list (by decide +kernel) (pa_cons (pv 1) pa_nil)) rfl)), ?_⟩
    exact ⟨_, rfl, p, ys, rfl, .inl hp, fun l hl => ⟨_, rfl, a, _, dx, [], rfl, by rw [upd_ne (ne_of_none ha hl)]; exact ha, T.cl_Safe, T.n_Safe_states, by show 0 < 1000; decide, hq l hl⟩⟩

/-! ### Broken.__init__ -/
abbrev s_Broken___init__ : Stmt := inClass (top 51) 0
abbrev N_Broken___init__ : List Str := ["self", "history"]
theorem sc_Broken___init__ : FnScope N_Broken___init__ ["self", "history"] (defScope s_Broken___init__) := ⟨rfl, rfl, rfl, by decide +kernel, rfl, by decide +kernel, by decide +kernel⟩
def spBrokenI (K : PySem.W.Frag) : Sp := fun vs H Q _ => ∃ (a dx p : Addr) (ys : List V), vs = [.ref a, .ref p] ∧ H a = some (.ins (He.ga K "Broken") dx []) ∧ SqL K H p ys ∧ ∀ l, H l = none → Q .non (upd (upd H l (.tup ys)) a (.ins (He.ga K "Broken") dx [("history", .ref l)]))
theorem mak_Broken (T : Tx K mg) : C8.Mak P w K mg base 1 "Broken" (He.ga K "Broken") (spBrokenI K) [] := by
  refine mak_of T.mk_Broken T.g_Broken T.f_Broken sc_Broken___init__ (fun vs H Q E h => ?_) (fun _ _ _ _ _ _ us hl => match us, hl with | [_, _], _ => rfl) fun cdv A outer s H vs Q E hr h => ?_
  · obtain ⟨a, dx, p, ys, rfl, _⟩ := h
    rfl
  · obtain ⟨a, dx, p, ys, rfl, ha, hp, hq⟩ := h
    refine ⟨_, (pss_one (ps_fld (pv 0) (pe_callTy call_tuple_of rfl T.n_tuple (by decide +kernel) (pa_cons (pv 1) pa_nil)) rfl)), ?_⟩
    exact ⟨_, rfl, p, ys, rfl, .inl ⟨hp, fun l hl => ⟨_, rfl, a, _, dx, [], rfl, by rw [upd_ne (ne_of_none ha hl)]; exact ha, T.cl_Broken, T.n_Broken_history, by show 0 < 1000; decide, hq l hl⟩⟩⟩

/-! ### judged -/
abbrev s_judged : Stmt := top 57
abbrev N_judged : List Str := ["wheel", "wish", "ways", "state"]
theorem sc_judged : FnScope N_judged ["wheel", "wish"] (defScope s_judged) := ⟨rfl, rfl, rfl, by decide +kernel, rfl, by decide +kernel, by decide +kernel⟩
def SafeAt (K : PySem.W.Frag) (H : Hp) (x : V) (sts : List Lap.St) : Prop := ∃ a dx l ys, x = .ref a ∧ H a = some (.ins (He.ga K "Safe") dx [("states", .ref l)]) ∧ H l = some (.lst ys) ∧ DtAll K H ys (sts.map stD)
def BrokenAt (K : PySem.W.Frag) (H : Hp) (x : V) (h : List Deed) : Prop := ∃ a dx t, x = .ref a ∧ H a = some (.ins (He.ga K "Broken") dx [("history", .ref t)]) ∧ SqT K H t (h.map fun d => V.str (deedS d))
def RetJ (K : PySem.W.Frag) (u : Wh) (k : Wish) (H : Hp) (Q : VK) : Prop := (brk u k = none → ∀ x H', Ex H H' → SafeAt K H' x (statesOf u) → Q x H') ∧ ∀ h, brk u k = some h → ∀ x H', Ex H H' → BrokenAt K H' x h → Q x H'
theorem find_mid {α : Type} {p : α → Bool} {e : α} : ∀ {pre suf : List α}, (∀ x ∈ pre, p x = false) → p e = true → (pre ++ e :: suf).find? p = some e
  | [], _, _, h => by rw [List.nil_append, List.find?_cons_of_pos h]
  | a :: pre, suf, hp, h => by
    rw [List.cons_append, List.find?_cons_of_neg (by rw [hp a List.mem_cons_self]; decide)]
    exact find_mid (fun x hx => hp x (List.mem_cons_of_mem _ hx)) h
theorem ne_made {H : Hp} {x dx l : Addr} {C : Addr} (hl : upd (upd H dx (.own x)) x (.ins C dx []) l = none) : l ≠ x := fun z => by
  rw [z, upd_same] at hl
  cases hl
theorem ex_made {H : Hp} {x dx l : Addr} {C : Addr} {o : HO} {fs : List (Str × V)} (hx : H x = none) (hdx : H dx = none) (hne : dx ≠ x) (hl : upd (upd H dx (.own x)) x (.ins C dx []) l = none) : Ex H (upd (upd (upd (upd H dx (.own x)) x (.ins C dx [])) l o) x (.ins C dx fs)) := Evl.Ex.mut ((ex_make hx hdx hne).nx hl) hx
theorem brokenAt_made {K : PySem.W.Frag} {H : Hp} {x dx l : Addr} {h : List Deed} (hl : upd (upd H dx (.own x)) x (.ins (He.ga K "Broken") dx []) l = none) :
    BrokenAt K (upd (upd (upd (upd H dx (.own x)) x (.ins (He.ga K "Broken") dx [])) l (.tup (h.map fun d => V.str (deedS d)))) x (.ins (He.ga K "Broken") dx [("history", .ref l)])) (.ref x) h :=
  ⟨x, dx, l, rfl, upd_same, .inl (.inl (by rw [upd_ne (ne_made hl)]; exact upd_same))⟩
def spJudged (K : PySem.W.Frag) : Sp := fun vs H Q _ => ∃ (v : V) (u : Wh) (k : Wish), vs = [v, .str (wishS k)] ∧ WhAt K H v u ∧ WOk u ∧ RetJ K u k H Q
theorem cal_judged (T : Tx K mg) : C8.Cal P w K mg base 6 "judged" (spJudged K) [] := by
  refine cal_of T.g_judged T.f_judged sc_judged (fun vs H Q E h => ?_) (fun _ _ _ _ _ _ us hl => match us, hl with | [_, _], _ => rfl) fun cdv A outer s H vs Q E hr h => ?_
  · obtain ⟨v, u, k, rfl, _⟩ := h
    rfl
  · obtain ⟨v, u, k, rfl, hx, ok, hq⟩ := h
    refine ⟨_, (pss_cons (ps_set (i := 2) sc_judged.nd rfl (Or.inl rfl) (C8.pe_c (cal_explore T) hr (by decide) rfl (pa_cons (pv 0) pa_nil)))
      (pss_cons (ps_for PassesOwn.never rfl (pi_nkeys (pv 2)) (pg_name (i := 3) sc_judged.nd rfl (Or.inl rfl))
        (pss_cons (ps_if (pt_val (C8.pe_c (cal_stands_broken T) hr (by decide) rfl (pa_cons (pv 0) (pa_cons (pv 3) (pa_cons (pv 1) pa_nil))))) (pss_one (ps_ret (C8.pe_mk (mak_Broken T) hr (by decide) rfl (pa_cons (C8.pe_c (cal_way_to T) hr (by decide) rfl (pa_cons (pv 2) (pa_cons (pv 3) pa_nil))) pa_nil)))) pss_nil)
        (pss_one (ps_if (pt_val (C8.pe_c (cal_goes_wrong T) hr (by decide) rfl (pa_cons (pv 0) (pa_cons (pv 3) (pa_cons pe_str (pa_cons (pv 1) pa_nil)))))) (pss_one (ps_ret (C8.pe_mk (mak_Broken T) hr (by decide) rfl (pa_cons (pe_op op_cat (C8.pe_c (cal_way_to T) hr (by decide) rfl (pa_cons (pv 2) (pa_cons (pv 3) pa_nil))) (pe_lst (pa_cons pe_str pa_nil))) pa_nil)))) pss_nil))))
      (pss_one (ps_ret (C8.pe_mk (mak_Safe T) hr (by decide) rfl (pa_cons (pe_callTy (call_listN hr.hd) rfl T.n_list (by decide +kernel) (pa_cons (pv 2) pa_nil)) pa_nil)))))), ?_⟩
    refine ⟨_, rfl, v, u, rfl, hx, ok, fun a H1 ha e1 hd => ?_⟩
    obtain ⟨kvs, ep, hda, hen⟩ := id hd
    refine ⟨_, rfl, a, kvs, ep, rfl, hda, ?_⟩
    have g := ways_good ok
    have hlen : kvs.length = (ways u).length := by rw [Ents.len hen]; exact List.length_map _
    refine for_it walk_n (fun i σ' H' => ∃ o pre suf, σ' = [some v, some (.str (wishS k)), some (.ref a), o] ∧ ways u = pre ++ suf ∧ pre.length = i ∧ (∀ e ∈ pre, isBad u k e.st = false) ∧ Ex H1 H') ⟨_, [], ways u, rfl, rfl, rfl, fun _ h => absurd h List.not_mem_nil, Ex.rfl' _⟩ ?_ ?_ ?_
    · rintro i σ' H' _ ⟨o, pre, suf, _, _, _, _, e2⟩
      exact e2 _ _ hda
    · rintro i x σ' H' H'' hi ⟨o, pre, suf, rfl, ew, el, good, e2⟩ ⟨rfl, hxi⟩
      have dks := ents_keys hen
      rw [waysD_keys] at dks
      obtain ⟨dd, hdd, dx0⟩ := dpa_get dks hxi
      rw [List.map_map] at hdd
      obtain ⟨e, suf', es, ed⟩ := at_splitG hdd ew el
      subst es ed
      have dx : Dt K H'' x (stD e.st) := e2.d dx0
      have mem : e ∈ ways u := by rw [ew]; exact List.mem_append_right _ List.mem_cons_self
      have short := path_short mem
      have wh := e2.wh (e1.wh hx)
      refine ⟨_, rfl, _, rfl, _, rfl, v, x, u, e.st, k, rfl, wh, dx, fun H3 e3 => ?_⟩
      cases hsb : standsBroken u e.st k with
      | true =>
        have hbad : isBad u k e.st = true := by unfold isBad; rw [hsb, Bool.true_or]
        have hb : brk u k = some e.path := by
          unfold brk firstBad
          rw [ew, find_mid good hbad]
          show some (brkOf u k e) = _
          unfold brkOf
          rw [if_pos hsb]
        refine ⟨true, rfl, iteT ⟨_, rfl, _, rfl, a, x, ways u, u, e, rfl, DN.ex e3 (DN.ex e2 hd), e3.d dx, g.base, mem, by omega, fun p H4 hp e4 hl x2 dx2 h1 h2 hne => ?_⟩⟩
        refine ⟨x2, dx2, p, _, rfl, upd_same, SqL.of ((ex_make h1 h2 hne) _ _ hl), fun l hl2 => ⟨rfl, hq.2 _ hb _ _ ?_ ?_⟩⟩
        · exact (((e1.tr e2).tr e3).tr e4).tr (ex_made h1 h2 hne hl2)
        · exact brokenAt_made hl2
      | false =>
        refine ⟨false, rfl, iteF ⟨_, rfl, _, rfl, _, rfl, v, x, u, e.st, .pass, k, rfl, e3.wh wh, e3.d dx, fun H4 e4 => ?_⟩⟩
        cases hgw : goesWrong u e.st .pass k with
        | true =>
          have hbad : isBad u k e.st = true := by unfold isBad; rw [hgw, Bool.or_true]
          have hb : brk u k = some (e.path ++ [.pass]) := by
            unfold brk firstBad
            rw [ew, find_mid good hbad]
            show some (brkOf u k e) = _
            unfold brkOf
            rw [if_neg (by rw [hsb]; decide)]
          refine ⟨true, rfl, iteT ⟨_, rfl, _, rfl, a, x, ways u, u, e, rfl, DN.ex e4 (DN.ex e3 (DN.ex e2 hd)), e4.d (e3.d dx), g.base, mem, by omega, fun p H5 hp e5 hl => ⟨by show 1 ≤ sizeLine; decide, fun p2 hp2 => ?_⟩⟩⟩
          refine ⟨p, p2, _, _, rfl, rfl, (Ex.nw hp2) _ _ hl, upd_same, ?_, fun p3 hp3 x2 dx2 h1 h2 hne => ?_⟩
          · rw [List.length_map, sizeLine_eq]
            show _ + 1 ≤ _
            omega
          refine ⟨x2, dx2, p3, _, rfl, upd_same, SqL.of ((ex_make h1 h2 hne) _ _ upd_same), fun l hl2 => ⟨rfl, hq.2 _ hb _ _ ?_ ?_⟩⟩
          · exact (((((e1.tr e2).tr e3).tr e4).tr e5).tr ((Ex.nw hp2).nx hp3)).tr (ex_made h1 h2 hne hl2)
          · have := brokenAt_made (K := K) (x := x2) (dx := dx2) (h := e.path ++ [.pass]) hl2
            rw [List.map_append] at this
            exact this
        | false =>
          refine ⟨false, rfl, iteF ⟨_, pre ++ [e], suf', rfl, by rw [ew, List.append_assoc]; rfl, by rw [List.length_append, el]; rfl, fun f hf => ?_, (e2.tr e3).tr e4⟩⟩
          rcases List.mem_append.mp hf with hf | hf
          · exact good f hf
          · rw [List.mem_singleton.mp hf]
            unfold isBad
            rw [hsb, hgw]
            rfl
    · rintro σ' H' ⟨o, pre, suf, rfl, ew, el, good, e2⟩
      have es : suf = [] := by
        have h2 := congrArg List.length ew
        rw [List.length_append] at h2
        rw [List.length_map] at el
        exact List.length_eq_zero_iff.mp (by omega)
      subst es
      rw [List.append_nil] at ew
      subst ew
      have hb : brk u k = none := by
        unfold brk firstBad
        rw [Option.map_eq_none_iff, List.find?_eq_none]
        intro e he
        rw [good e he]
        decide
      refine ⟨_, rfl, a, _, rfl, DN.ex e2 hd, fun p ys hp dy x2 dx2 h1 h2 hne => ?_⟩
      refine ⟨x2, dx2, p, ys, rfl, upd_same, SqL.of ((ex_make h1 h2 hne) _ _ upd_same), fun l hl2 => ⟨rfl, hq.1 hb _ _ ?_ ⟨x2, dx2, l, ys, rfl, upd_same, ?_, ?_⟩⟩⟩
      · exact ((e1.tr e2).nx hp).tr (ex_made h1 h2 hne hl2)
      · rw [upd_ne (ne_made hl2)]
        exact upd_same
      · rw [waysD_keys] at dy
        exact (ex_made h1 h2 hne hl2).da ((Ex.nw hp).da dy)
end
end LapW
set_option Elab.async false
set_option linter.all false
set_option maxRecDepth 100000
set_option maxHeartbeats 4000000
namespace LapW
open PySem PySem.Spec PyProof.Rows L2 Lap

section
variable {P : Program} {w : World} {K : PySem.W.Frag} {mg : Str → Option Value} {base : Heap}
/-! ### judge -/
abbrev s_judge : Stmt := top 58
abbrev N_judge : List Str := ["wheel", "wish"]
theorem sc_judge : FnScope N_judge ["wheel", "wish"] (defScope s_judge) := ⟨rfl, rfl, rfl, by decide +kernel, rfl, by decide +kernel, by decide +kernel⟩
theorem cal_judge (T : Tx K mg) : C8.Cal P w K mg base 7 "judge" (spJudged K) [] := by
  refine cal_of T.g_judge T.f_judge sc_judge (fun vs H Q E h => ?_) (fun _ _ _ _ _ _ us hl => match us, hl with | [_, _], _ => rfl) fun cdv A outer s H vs Q E hr h => ?_
  · obtain ⟨v, u, k, rfl, _⟩ := h
    rfl
  · obtain ⟨v, u, k, rfl, hx, ok, hq⟩ := h
    refine ⟨_, (pss_cons (ps_expr (C8.pe_c (cal_check_wish T) hr (by decide) rfl (pa_cons (pv 0) (pa_cons (pv 1) pa_nil))))
      (pss_one (ps_ret (C8.pe_c (cal_judged T) hr (by decide) rfl (pa_cons (pv 0) (pa_cons (pv 1) pa_nil)))))), ?_⟩
    exact ⟨_, rfl, _, rfl, _, _, _, rfl, hx, _, rfl, _, rfl, _, _, _, rfl, hx, ok, hq⟩

/-! ### is_safe -/
abbrev s_is_safe : Stmt := top 59
abbrev N_is_safe : List Str := ["wheel", "wish"]
theorem sc_is_safe : FnScope N_is_safe ["wheel", "wish"] (defScope s_is_safe) := ⟨rfl, rfl, rfl, by decide +kernel, rfl, by decide +kernel, by decide +kernel⟩
def spIsSafe (K : PySem.W.Frag) : Sp := fun vs H Q _ => ∃ (v : V) (u : Wh) (k : Wish), vs = [v, .str (wishS k)] ∧ WhAt K H v u ∧ WOk u ∧ RetB (safe u k) H Q
theorem cal_is_safe (T : Tx K mg) : C8.Cal P w K mg base 8 "is_safe" (spIsSafe K) [] := by
  refine cal_of T.g_is_safe T.f_is_safe sc_is_safe (fun vs H Q E h => ?_) (fun _ _ _ _ _ _ us hl => match us, hl with | [_, _], _ => rfl) fun cdv A outer s H vs Q E hr h => ?_
  · obtain ⟨v, u, k, rfl, _⟩ := h
    rfl
  · obtain ⟨v, u, k, rfl, hx, ok, hq⟩ := h
    refine ⟨_, (pss_one (ps_ret (pe_callB call_isi rfl T.n_isinstance (by decide +kernel) (pa_cons (C8.pe_c (cal_judge T) hr (by decide) rfl (pa_cons (pv 0) (pa_cons (pv 1) pa_nil))) (pa_cons (C8.pe_gc rfl T.c_Safe) pa_nil))))), ?_⟩
    refine ⟨_, rfl, _, rfl, v, u, k, rfl, hx, ok, fun hb x H1 e1 hs => ?_, fun h hb x H1 e1 hs => ?_⟩
    · obtain ⟨a, dx, l, ys, rfl, ha, _⟩ := hs
      refine ⟨_, _, _, _, true, rfl, .own _, T.ins_Safe ha, T.k_Safe_Safe, ?_⟩
      have := hq _ e1
      rw [show safe u k = true by unfold safe; rw [hb]; rfl] at this
      exact this
    · obtain ⟨a, dx, t, rfl, ha, _⟩ := hs
      refine ⟨_, _, _, _, false, rfl, .own _, T.ins_Broken ha, T.k_Broken_Safe, ?_⟩
      have := hq _ e1
      rw [show safe u k = false by unfold safe; rw [hb]; rfl] at this
      exact this

/-! ### soonest -/
abbrev s_soonest : Stmt := top 60
abbrev N_soonest : List Str := ["wheel", "wish", "found"]
theorem sc_soonest : FnScope N_soonest ["wheel", "wish"] (defScope s_soonest) := ⟨rfl, rfl, rfl, by decide +kernel, rfl, by decide +kernel, by decide +kernel⟩
def natV : Option Nat → V
  | none => .non
  | some n => .int (n : Nat)
def spSoonest (K : PySem.W.Frag) : Sp := fun vs H Q _ => ∃ (v : V) (u : Wh) (k : Wish), vs = [v, .str (wishS k)] ∧ WhAt K H v u ∧ WOk u ∧ ∀ H', Ex H H' → Q (natV (soon u k)) H'
theorem cal_soonest (T : Tx K mg) : C8.Cal P w K mg base 8 "soonest" (spSoonest K) [] := by
  refine cal_of T.g_soonest T.f_soonest sc_soonest (fun vs H Q E h => ?_) (fun _ _ _ _ _ _ us hl => match us, hl with | [_, _], _ => rfl) fun cdv A outer s H vs Q E hr h => ?_
  · obtain ⟨v, u, k, rfl, _⟩ := h
    rfl
  · obtain ⟨v, u, k, rfl, hx, ok, hq⟩ := h
    refine ⟨_, (pss_cons (ps_set (i := 2) sc_soonest.nd rfl (Or.inl rfl) (C8.pe_c (cal_judge T) hr (by decide) rfl (pa_cons (pv 0) (pa_cons (pv 1) pa_nil))))
      (pss_one (ps_ret (pe_ifExp (pt_val (pe_callB call_isi rfl T.n_isinstance (by decide +kernel) (pa_cons (pv 2) (pa_cons (C8.pe_gc rfl T.c_Broken) pa_nil)))) (pe_callB call_len_seq rfl T.n_len (by decide +kernel) (pa_cons (pe_of T.cl_Broken T.n_Broken_history (pv 2)) pa_nil)) pe_non)))), ?_⟩
    refine ⟨_, rfl, _, rfl, v, u, k, rfl, hx, ok, fun hb x H1 e1 hs => ?_, fun h hb x H1 e1 hs => ?_⟩
    · obtain ⟨a, dx, l, ys, rfl, ha, _⟩ := hs
      refine ⟨_, rfl, _, _, _, _, false, rfl, .own _, T.ins_Safe ha, T.k_Safe_Broken, false, rfl, iteF ?_⟩
      have := hq _ e1
      rw [show soon u k = none by unfold soon; rw [hb]; rfl] at this
      exact this
    · obtain ⟨a, dx, t, rfl, ha, ht⟩ := hs
      refine ⟨_, rfl, _, _, _, _, true, rfl, .own _, T.ins_Broken ha, T.k_Broken_Broken, true, rfl, iteT ⟨_, rfl, a, dx, _, _, rfl, ha, rfl, t, _, rfl, .inr ht, ?_⟩⟩
      have := hq _ e1
      rw [show soon u k = some h.length by unfold soon; rw [hb]; rfl] at this
      rw [List.length_map]
      exact this
end
end LapW
set_option Elab.async false
set_option linter.all false
set_option maxRecDepth 100000
set_option maxHeartbeats 4000000
/-! zip of a tuple and a list; a list made of zip of three tuples. -/
namespace LapW
open PySem PySem.Spec PyProof.Rows L2 Lap
/-- zip of the tuple at a and the list at b, of one length -/
def Itm (K : PySem.W.Frag) (a b : Addr) : It :=
  ⟨fun i H => ∃ (xs ys : List V), SqT K H a xs ∧ SqL K H b ys ∧ i < xs.length ∧ i < ys.length,
    fun i H v H' => ∃ T x y, v = .ref T ∧ H T = none ∧ H' = upd H T (.tup [x, y]) ∧ (∀ xs, SqT K H a xs → xs[i]? = some x) ∧ ∀ ys, SqL K H b ys → ys[i]? = some y,
    fun i H => ∃ xs ys : List V, SqT K H a xs ∧ SqL K H b ys ∧ xs.length = i ∧ ys.length = i⟩
theorem turn_zipM {P : Program} {w : World} {K : PySem.W.Frag} {elts : List Expr} {kk : Nat} {tpos : Pos} {a b N : Addr} (ha : a < N) (hb : b < N) :
    Turn P w K (.Tuple elts kk tpos) (Itm K a b) [N + 4, N + 2, N + 3, N, N + 1] (N + 4) (fun i h => IsZip h (N + 4) (N + 2) (N + 3) .none ∧ IsTupOf2 h (N + 2) (.ref N) (.ref (N + 1)) ∧ (∃ x y, IsTupOf2 h (N + 3) x y) ∧ h.IsTupleIter N a i ∧ h.IsListIter (N + 1) b i) where
  mem := by simp
  obj := fun i h st c hc => by
    obtain ⟨hz, hTI, ⟨x, y, hTO⟩, ⟨o1, e1, _, d1⟩, ⟨o2, e2, _, d2⟩⟩ := st
    have e' : c = N + 4 ∨ c = N + 2 ∨ c = N + 3 ∨ c = N ∨ c = N + 1 := by simpa using hc
    rcases e' with q | q | q | q | q
    · rw [q]; exact ⟨_, hz, fun v q => nomatch q⟩
    · rw [q]; exact ⟨_, hTI, fun v q => nomatch q⟩
    · rw [q]; exact ⟨_, hTO, fun v q => nomatch q⟩
    · rw [q]; exact ⟨o1, e1, fun v q => by rw [d1] at q; cases q⟩
    · rw [q]; exact ⟨o2, e2, fun v q => by rw [d2] at q; cases q⟩
  keep := fun i h h' st k => by
    obtain ⟨hz, hTI, ⟨x, y, hTO⟩, h1, h2⟩ := st
    exact ⟨k (N + 4) (by simp) _ hz, k (N + 2) (by simp) _ hTI, ⟨x, y, k (N + 3) (by simp) _ hTO⟩, h1.at fun o q => k N (by simp) o q, h2.at fun o q => k (N + 1) (by simp) o q⟩
  item := by
    intro X hP hw hK hc i pins s σ H E I hf st hg
    subst hP hw hK
    obtain ⟨hz, hTI, ⟨x0, y0, hTO⟩, h1, h2⟩ := st
    obtain ⟨xs, ys, hqx, hqy, hx, hy⟩ := hg
    obtain ⟨its, rv, p, _⟩ := I.tuple hqx
    obtain ⟨its2, rv2, p2, _⟩ := I.list hqy
    have l1 : xs.length = its.length := rv.length
    have l2 : ys.length = its2.length := rv2.length
    have S := zip_sep2 (N := N) (fp1 := [a]) (fp2 := [b]) (fun c hc => by rw [List.mem_singleton.mp hc]; exact ha) (fun c hc => by rw [List.mem_singleton.mp hc]; exact hb)
    have hh : X.A.in1.handled = none := I.ok.hd hc
    have D1 := Draws.tuple (prog := X.prog) (w := X.w) hh N a (Nat.ne_of_lt ha) its.toArray
    have D2 := Draws.list (prog := X.prog) (w := X.w) hh (N + 1) b (Nat.ne_of_lt (Nat.lt_succ_of_lt hb)) its2.toArray
    have hzl : N + 4 < s.heap.objs.size := Heap.lt_size hz
    refine wpAny_pyNext_zipD2_item S D1 D2 hz hTI hTO ⟨h1, p⟩ ⟨h2, p2.isList⟩ (by simp; omega) (by simp; omega) fun u u2 h' tk hu hu2 z' TO' s1 s2 hT hsz hk => ?_
    refine ⟨_, rfl, wpAny_letOwnedTupleGo_zip (s := { s with heap := h', toks := tk }) z' fun h'' z'' sb => ?_⟩
    obtain ⟨x, hxx⟩ : ∃ x, xs[i]? = some x := ⟨xs[i], List.getElem?_eq_getElem hx⟩
    obtain ⟨y, hyy⟩ : ∃ x, ys[i]? = some x := ⟨ys[i], List.getElem?_eq_getElem hy⟩
    obtain ⟨v1, hv1, ru⟩ := rv.get hxx
    obtain ⟨v2, hv2, ru2⟩ := rv2.get hyy
    have e1 : v1 = u := by
      have : its.toArray[i]? = some u := hu
      rw [List.getElem?_toArray, hv1] at this
      exact Option.some.inj this
    have e2 : v2 = u2 := by
      have : its2.toArray[i]? = some u2 := hu2
      rw [List.getElem?_toArray, hv2] at this
      exact Option.some.inj this
    rw [e1] at ru
    rw [e2] at ru2
    have hT2 : h''.get? s.heap.objs.size = some { cls := .type "tuple", data := .seq #[u, u2] } := (sb.2 _ (Nat.ne_of_gt hzl)).trans hT
    have new : ObjOk X.prog X.w (upd H s.heap.objs.size (.tup [x, y])) h'' s.heap.objs.size (.tup [x, y]) :=
      ⟨by show 2 ≤ sizeLine; decide, [u, u2], .cons ru (.cons ru2 .nil), ⟨_, hT2, rfl, _, rfl⟩⟩
    have I1 : Inv X pins σ (upd H s.heap.objs.size (.tup [x, y])) { s with heap := h'', toks := tk } :=
      I.turnedNew (t' := tk) (ch := [N + 4, N + 2, N + 3, N, N + 1]) (fun c o hb q => (sb.2 c (fun q' => hb (by simp [q']))).trans (hk c o (fun q' => hb (by simp [q'])) (fun q' => hb (by simp [q'])) (fun q' => hb (by simp [q'])) (fun q' => hb (by simp [q'])) q)) hf (Nat.le_refl _) new
    refine ⟨.ref s.heap.objs.size, _, I1, rfl, ⟨_, x, y, rfl, I.hok.fresh (Nat.le_refl _), rfl, fun l hl => by rw [I.tuple_inj hl hqx]; exact hxx, fun l hl => by rw [I.list_inj hl hqy]; exact hyy⟩, ⟨z'', ?_, ⟨u, u2, ?_⟩, ?_, ?_⟩, fun c hcm => ?_⟩
    · exact (sb.2 _ S.TIz).trans (hk _ _ S.TIz S.TITO S.TIi1 S.TIi2 hTI)
    · exact (sb.2 _ S.TOz).trans TO'
    · exact s1.1.at fun o q => (sb.2 _ (Ne.symm S.zi1)).trans q
    · exact s2.1.at fun o q => (sb.2 _ (Ne.symm S.zi2)).trans q
    · have hlt : c < s.heap.objs.size := by
        have e' : c = N + 4 ∨ c = N + 2 ∨ c = N + 3 ∨ c = N ∨ c = N + 1 := by simpa using hcm
        rcases e' with q | q | q | q | q
        · rw [q]; exact hzl
        · rw [q]; exact Nat.lt_of_le_of_lt (Nat.add_le_add_left (by decide) N) hzl
        · rw [q]; exact Nat.lt_of_le_of_lt (Nat.add_le_add_left (by decide) N) hzl
        · rw [q]; exact Nat.lt_of_le_of_lt (Nat.le_add_right N 4) hzl
        · rw [q]; exact Nat.lt_of_le_of_lt (Nat.add_le_add_left (by decide) N) hzl
      rw [upd_ne (Nat.ne_of_lt hlt)]
      exact (hf c hcm).1
  done := by
    intro X hP hw hK hc i pins s σ H E I hf st hg
    subst hP hw hK
    obtain ⟨hz, hTI, ⟨x0, y0, hTO⟩, h1, h2⟩ := st
    obtain ⟨xs, ys, hqx, hqy, e1, e2⟩ := hg
    obtain ⟨its, rv, p, _⟩ := I.tuple hqx
    obtain ⟨its2, rv2, p2, _⟩ := I.list hqy
    have l1 : xs.length = its.length := rv.length
    have l2 : ys.length = its2.length := rv2.length
    have S := zip_sep2 (N := N) (fp1 := [a]) (fp2 := [b]) (fun c hc => by rw [List.mem_singleton.mp hc]; exact ha) (fun c hc => by rw [List.mem_singleton.mp hc]; exact hb)
    have hh : X.A.in1.handled = none := I.ok.hd hc
    have D1 := Draws.tuple (prog := X.prog) (w := X.w) hh N a (Nat.ne_of_lt ha) its.toArray
    have D2 := Draws.list (prog := X.prog) (w := X.w) hh (N + 1) b (Nat.ne_of_lt (Nat.lt_succ_of_lt hb)) its2.toArray
    exact wpAny_pyNext_zipD2_end S D1 D2 hz hTI hTO ⟨h1, p⟩ ⟨h2, p2.isList⟩ (by simp; omega) (by simp; omega) (by simp; omega) fun h' tk hk => ⟨rfl, I.turnedL (t' := tk) (ch := [N + 4, N + 2, N + 3, N, N + 1]) (fun c o hb q =>
      hk c o (fun q' => hb (by simp [q'])) (fun q' => hb (by simp [q'])) (fun q' => hb (by simp [q'])) (fun q' => hb (by simp [q'])) q) hf⟩
  self := fun A i s Q E st h => wpAny_pyIter_zip st.1 h
def iZipM (K : PySem.W.Frag) (ta : TA) : TI := fun σ H R => ta σ H fun vs H1 => ∃ a b xs ys, vs = [.ref a, .ref b] ∧ SqT K H1 a xs ∧ SqL K H1 b ys ∧ R (Itm K a b) H1
theorem pi_zipM {X : Cx} {e e2 : Expr} {ta : TA} {p pos tpos : Pos} {elts : List Expr} {kk : Nat} (hg : Gl X "zip") (hm : X.mg "zip" = none) (ha : PA X [e, e2] ta)
    (hs : starEach [e, e2] X.env = (false, eval e X.env) :: starEach [e2] X.env := by rfl) (hpl : (backTo pos (starEach [e2] X.env)).any (·.1) = false := by rfl) :
    PI X (.Tuple elts kk tpos) (.Call (.Name "zip" p) [e, e2] [] pos) (iZipM X.K ta) := by
  refine ⟨fun pins s σ H R I h => ?_⟩
  refine Call_ (ld_blt I hg hm PyProof.Rows.boot_zip (PyProof.Rows.callWith_type1 (thn (ha.run pos pins s σ H _ I h) fun us s1 ⟨vs, H1, I1, r1, q1⟩ => ?_) hs hpl))
  obtain ⟨a, b, xs, ys, ex, hqx, hqy, q⟩ := q1
  subst ex
  cases r1 with
  | cons r rr =>
    cases rr with
    | cons r' rr =>
      cases rr
      cases r
      cases r'
      have fresh5 : ∀ c, c ∈ [s1.heap.objs.size + 4, s1.heap.objs.size + 2, s1.heap.objs.size + 3, s1.heap.objs.size, s1.heap.objs.size + 1] → FpOk X pins H1 c := fun c hcm => by
        have e' : c = s1.heap.objs.size + 4 ∨ c = s1.heap.objs.size + 2 ∨ c = s1.heap.objs.size + 3 ∨ c = s1.heap.objs.size ∨ c = s1.heap.objs.size + 1 := by simpa using hcm
        have hle : s1.heap.objs.size ≤ c := by omega
        exact I1.fpOk hle (I1.hok.fresh hle)
      obtain ⟨its, rv, p1, _⟩ := I1.tuple hqx
      obtain ⟨its2, rv2, p2, _⟩ := I1.list hqy
      obtain ⟨o1, ho1, _⟩ := id p1
      obtain ⟨o2, _, ho2, _⟩ := id p2
      refine zip_begins2 (begins_tuple a its.toArray) (begins_list b its2.toArray) p1 p2.isList fun h' hz hTI hTO h1 h2 hsz hk => wpAny_pyIter_zip hz ?_
      have I2 : Inv X pins σ H1 { s1 with heap := h' } := I1.kept (t' := s1.toks) hk
      exact ⟨s1.heap.objs.size + 4, [s1.heap.objs.size + 4, s1.heap.objs.size + 2, s1.heap.objs.size + 3, s1.heap.objs.size, s1.heap.objs.size + 1], _, _, H1, rfl, I2, turn_zipM (Heap.lt_size ho1) (Heap.lt_size ho2), ⟨hz, hTI, ⟨_, _, hTO⟩, ⟨_, h1, rfl, rfl⟩, ⟨_, h2, rfl, rfl⟩⟩, fresh5, q⟩
theorem walk_zipM {K : PySem.W.Frag} {a b : Addr} {xs ys : List V} (hl : xs.length = ys.length) : Walk (Itm K a b) xs.length (fun H => SqT K H a xs ∧ SqL K H b ys) (YPair (fun i => xs[i]?) (fun i => ys[i]?)) :=
  ⟨fun i H hi q => ⟨xs, ys, q.1, q.2, hi, by omega⟩, fun H q => ⟨xs, ys, q.1, q.2, rfl, hl.symm⟩, fun i H v H' _ q y => by
    obtain ⟨T, x, z, h1, h2, h3, h4, h5⟩ := y
    exact ⟨T, x, z, h1, h2, h3, h4 xs q.1, h5 ys q.2⟩⟩
end LapW
set_option Elab.async false
set_option linter.all false
set_option maxRecDepth 100000
set_option maxHeartbeats 4000000
namespace LapW
open PySem PySem.Spec PyProof.Rows L2 Lap PySem.W
abbrev ZO (h : Heap) (z TI TO T : Addr) (f : Bool) : Prop := h.get? z = some { cls := .type "zip", data := .fields #[rawInt T, .bool f, .bool false, .ref TI, .ref TO] }
section
variable {prog : Program} {w : World} {A : Around} {E : Value → Shared → Prop} {s : Shared} {z TI TO i1 i2 i3 T : Addr} {f : Bool} {fp1 fp2 fp3 : List Addr} {n1 n2 n3 i : Nat} {P1 P2 P3 : Nat → Value → Prop} {St1 St2 St3 : Nat → Heap → Prop}
theorem owned_out {Q : Bool → Shared → Prop} (hz : ZO s.heap z TI TO T f) (hal : ∃ o, s.heap.get? T = some o) (h : ∀ g0, ZO g0 z TI TO T true → Heap.SameBut z s.heap g0 → Q false { s with heap := g0 }) : wpAny (model prog w) A (Builtin.SmallTypes.ownedTupleIsFree (.ref z)) Q E s := by
  obtain ⟨oT, hoT⟩ := hal
  unfold Builtin.SmallTypes.ownedTupleIsFree
  refine wpAny_bind (wpAny_field hz rfl (x := rawInt T) rfl ?_)
  show wpAny _ _ (loadIfAlive ((T : Int).toNat) >>= _) _ _ _
  rw [Int.toNat_natCast]
  refine wpAny_bind (kdx_alive hoT ?_)
  simp only [Option.isNone_some, Bool.false_eq_true, if_false]
  refine wpAny_bind (wpAny_field hz rfl (x := .bool f) rfl ?_)
  cases f with
  | true =>
    rw [if_neg (show ¬ ((Value.bool true != Value.bool true) = true) from Bool.false_ne_true)]
    exact wpAny_pure (h s.heap hz (Heap.SameBut.refl _ _))
  | false =>
    rw [if_pos (show (Value.bool false != Value.bool true) = true from rfl)]
    exact wpAny_bind (wpAny_setField_rec hz (by simp) fun g0 hz0 hs0 => wpAny_pure (h g0 hz0 hs0))
/-- the next of a zip whose last tuple is held elsewhere -/
theorem zip3_out_item {Q : Value → Shared → Prop} (S : ZipSep3 z TI TO i1 i2 i3 fp1 fp2 fp3) (D1 : Draws prog w A i1 fp1 n1 P1 St1) (D2 : Draws prog w A i2 fp2 n2 P2 St2) (D3 : Draws prog w A i3 fp3 n3 P3 St3)
    (hz : ZO s.heap z TI TO T f) (hal : ∃ o, s.heap.get? T = some o) (hTI : IsTupOf3 s.heap TI (.ref i1) (.ref i2) (.ref i3)) (st1 : St1 i s.heap) (st2 : St2 i s.heap) (st3 : St3 i s.heap) (hlt1 : i < n1) (hlt2 : i < n2) (hlt3 : i < n3)
    (hQ : ∀ x1 x2 x3 h' tk, P1 i x1 → P2 i x2 → P3 i x3 → ZO h' z TI TO T true → St1 (i + 1) h' → St2 (i + 1) h' → St3 (i + 1) h' → IsTupOf3 h' s.heap.objs.size x1 x2 x3 → h'.objs.size = s.heap.objs.size + 1 →
      (∀ c o, c ≠ z → c ≠ i1 → c ≠ i2 → c ≠ i3 → s.heap.get? c = some o → h'.get? c = some o) → Q (.ref s.heap.objs.size) { s with heap := h', toks := tk }) :
    wpAny (model prog w) A (Builtin.«zip.__next__» ⟨[.ref z], []⟩) (fun fin s' => ∃ v, fin = .done (.ret v) ∧ Q v s') E s := by
  obtain ⟨hp, g, d, tk0, os⟩ := s
  show wpAny _ _ (field (.ref z) 2 >>= _) _ _ _
  refine wpAny_bind (wpAny_field hz rfl (x := .bool false) rfl ?_)
  show wpAny _ _ (field (.ref z) 3 >>= _) _ _ _
  refine wpAny_bind (wpAny_field hz rfl (x := .ref TI) rfl ?_)
  refine wpAny_bind (wpAny_seqItems hTI rfl ?_)
  show wpAny _ _ (Builtin.SmallTypes.ownedTupleIsFree (.ref z) >>= _) _ _ _
  refine wpAny_bind (owned_out (s := ⟨hp, g, d, tk0, os⟩) hz hal fun g0 hz0 hs0 => ?_)
  replace hs0 : Heap.SameBut z hp g0 := hs0
  simp only [Bool.false_eq_true, if_false]
  refine wpAny_bind ?_
  rw [← Array.forIn_toList]
  simp only [List.forIn_cons, List.forIn_nil]
  refine wpAny_bind (wpAny_bind (wpAny_holding ?_))
  show wpAny _ _ (Builtin.SmallTypes.nextOf (.ref i1) >>= _) _ _ ⟨g0, g, d, tk0, os⟩
  refine wpAny_bind (D1.item i _ _ _ hlt1 (D1.over st1 hs0 S.zf1) fun x1 p1 tk1 hx1 sn1 hp1 => wpAny_pure ?_)
  replace hp1 : Heap.SameBut i1 g0 p1 := hp1
  refine wpAny_pure ?_
  refine wpAny_bind (wpAny_bind (wpAny_holding ?_))
  show wpAny _ _ (Builtin.SmallTypes.nextOf (.ref i2) >>= _) _ _ ⟨p1, g, d, tk1, os⟩
  refine wpAny_bind (D2.item i _ _ _ hlt2 (D2.over (D2.over st2 hs0 S.zf2) hp1 S.sep1_2) fun x2 p2 tk2 hx2 sn2 hp2 => wpAny_pure ?_)
  replace hp2 : Heap.SameBut i2 p1 p2 := hp2
  refine wpAny_pure ?_
  refine wpAny_bind (wpAny_bind (wpAny_holding ?_))
  show wpAny _ _ (Builtin.SmallTypes.nextOf (.ref i3) >>= _) _ _ ⟨p2, g, d, tk2, os⟩
  refine wpAny_bind (D3.item i _ _ _ hlt3 (D3.over (D3.over (D3.over st3 hs0 S.zf3) hp1 S.sep1_3) hp2 S.sep2_3) fun x3 p3 tk3 hx3 sn3 hp3 => wpAny_pure ?_)
  replace hp3 : Heap.SameBut i3 p2 p3 := hp3
  refine wpAny_pure (wpAny_pure ?_)
  refine wpAny_bind (wpAny_newTuple (hsz := by show 3 ≤ sizeLine; decide) ?_)
  have hsz : p3.objs.size = hp.objs.size := by rw [hp3.1, hp2.1, hp1.1, hs0.1]
  have hzz : ZO p3 z TI TO T true := hp3.extBut _ _ S.zi3 (hp2.extBut _ _ S.zi2 (hp1.extBut _ _ S.zi1 hz0))
  have hkk : ∀ c o, c ≠ z → c ≠ i1 → c ≠ i2 → c ≠ i3 → hp.get? c = some o → p3.get? c = some o := fun c o cz c1 c2 c3 e =>
    hp3.extBut _ _ c3 (hp2.extBut _ _ c2 (hp1.extBut _ _ c1 (hs0.extBut _ _ cz e)))
  have hj1 : St1 (i + 1) p3 := D1.over (D1.over sn1 hp2 S.sep2_1) hp3 S.sep3_1
  have hj2 : St2 (i + 1) p3 := D2.over sn2 hp3 S.sep3_2
  have hT : IsTupOf3 (p3.push { cls := .type "tuple", data := .seq #[x1, x2, x3] }) p3.objs.size x1 x2 x3 := Heap.get?_push_size _ rfl
  have up : ∀ c o, p3.get? c = some o → (p3.push { cls := .type "tuple", data := .seq #[x1, x2, x3] }).get? c = some o := fun c o e => Heap.get?_push_of_some _ e
  refine wpAny_pure ⟨_, rfl, ?_⟩
  have q := hQ x1 x2 x3 (p3.push { cls := .type "tuple", data := .seq #[x1, x2, x3] }) tk3 hx1 hx2 hx3 (up _ _ hzz) (D1.frame _ _ _ hj1 fun b _ o e => up b o e) (D2.frame _ _ _ hj2 fun b _ o e => up b o e) (D3.frame _ _ _ sn3 fun b _ o e => up b o e) (by rw [← hsz]; exact hT) (by rw [Heap.size_push, hsz]) fun c o cz c1 c2 c3 e => up c o (hkk c o cz c1 c2 c3 e)
  have q' : Q (.ref p3.objs.size) ⟨p3.push { cls := .type "tuple", data := .seq #[x1, x2, x3] }, g, d, tk3, os⟩ := by rw [hsz]; exact q
  exact q'
theorem zip3_out_end {Q : Fin → Shared → Prop} (S : ZipSep3 z TI TO i1 i2 i3 fp1 fp2 fp3) (D1 : Draws prog w A i1 fp1 n1 P1 St1)
    (hz : ZO s.heap z TI TO T f) (hal : ∃ o, s.heap.get? T = some o) (hTI : IsTupOf3 s.heap TI (.ref i1) (.ref i2) (.ref i3)) (st1 : St1 n1 s.heap)
    (hE : ∀ h' e, (∀ c o, c ≠ z → c ≠ i1 → s.heap.get? c = some o → h'.get? c = some o) → (∃ o, h'.get? e = some o ∧ o.cls = .type "StopIteration") → E (.ref e) { s with heap := h' }) :
    wpAny (model prog w) A (Builtin.«zip.__next__» ⟨[.ref z], []⟩) Q E s := by
  obtain ⟨hp, g, d, tk0, os⟩ := s
  show wpAny _ _ (field (.ref z) 2 >>= _) _ _ _
  refine wpAny_bind (wpAny_field hz rfl (x := .bool false) rfl ?_)
  show wpAny _ _ (field (.ref z) 3 >>= _) _ _ _
  refine wpAny_bind (wpAny_field hz rfl (x := .ref TI) rfl ?_)
  refine wpAny_bind (wpAny_seqItems hTI rfl ?_)
  show wpAny _ _ (Builtin.SmallTypes.ownedTupleIsFree (.ref z) >>= _) _ _ _
  refine wpAny_bind (owned_out (s := ⟨hp, g, d, tk0, os⟩) hz hal fun g0 hz0 hs0 => ?_)
  replace hs0 : Heap.SameBut z hp g0 := hs0
  simp only [Bool.false_eq_true, if_false]
  refine wpAny_bind ?_
  rw [← Array.forIn_toList]
  simp only [List.forIn_cons, List.forIn_nil]
  refine wpAny_bind (wpAny_bind (wpAny_holding ?_))
  show wpAny _ _ (Builtin.SmallTypes.nextOf (.ref i1) >>= _) _ _ ⟨g0, g, d, tk0, os⟩
  refine wpAny_bind (D1.done ⟨g0, g, d, tk0, os⟩ _ _ (D1.over st1 hs0 S.zf1) fun q e hq he => ?_)
  replace hq : Heap.ExtBut i1 g0 q := hq
  exact hE q e (fun c o cz c1 x => hq _ _ c1 (hs0.extBut _ _ cz x)) he
theorem zip3_out_next {Q : Option Value → Shared → Prop} (S : ZipSep3 z TI TO i1 i2 i3 fp1 fp2 fp3) (D1 : Draws prog w A.in1 i1 fp1 n1 P1 St1) (D2 : Draws prog w A.in1 i2 fp2 n2 P2 St2) (D3 : Draws prog w A.in1 i3 fp3 n3 P3 St3)
    (hz : ZO s.heap z TI TO T f) (hal : ∃ o, s.heap.get? T = some o) (hTI : IsTupOf3 s.heap TI (.ref i1) (.ref i2) (.ref i3)) (st1 : St1 i s.heap) (st2 : St2 i s.heap) (st3 : St3 i s.heap) (hlt1 : i < n1) (hlt2 : i < n2) (hlt3 : i < n3)
    (hQ : ∀ x1 x2 x3 h' tk, P1 i x1 → P2 i x2 → P3 i x3 → ZO h' z TI TO T true → St1 (i + 1) h' → St2 (i + 1) h' → St3 (i + 1) h' → IsTupOf3 h' s.heap.objs.size x1 x2 x3 → h'.objs.size = s.heap.objs.size + 1 →
      (∀ c o, c ≠ z → c ≠ i1 → c ≠ i2 → c ≠ i3 → s.heap.get? c = some o → h'.get? c = some o) → Q (some (.ref s.heap.objs.size)) { s with heap := h', toks := tk }) :
    wpAny (model prog w) A (pyNext (.ref z)) Q E s := by
  have hT : s.TypeIs (.ref z) "zip" := ⟨_, hz, rfl⟩
  unfold pyNext
  exact wpAny_bind (wpAny_attempt (wpAny_callSpecial?_slot (name := Str.ofString "__next__") hT F.slot_zip_next
    (wpAny_call_entry F.slot_zip_next hT F.entry_zip_next
      (zip3_out_item S D1 D2 D3 hz hal hTI st1 st2 st3 hlt1 hlt2 hlt3 fun x1 x2 x3 h' tk y1 y2 y3 b1 d1 d2 d3 b5 b6 b7 => wpAny_pure (hQ x1 x2 x3 h' tk y1 y2 y3 b1 d1 d2 d3 b5 b6 b7)) (F.args_zip_next_1 _))))
theorem zip3_out_done {Q : Option Value → Shared → Prop} (S : ZipSep3 z TI TO i1 i2 i3 fp1 fp2 fp3) (D1 : Draws prog w A.in1 i1 fp1 n1 P1 St1)
    (hz : ZO s.heap z TI TO T f) (hal : ∃ o, s.heap.get? T = some o) (hTI : IsTupOf3 s.heap TI (.ref i1) (.ref i2) (.ref i3)) (st1 : St1 n1 s.heap)
    (hQ : ∀ h', (∀ c o, c ≠ z → c ≠ i1 → s.heap.get? c = some o → h'.get? c = some o) → Q none { s with heap := h' }) : wpAny (model prog w) A (pyNext (.ref z)) Q E s := by
  have hT : s.TypeIs (.ref z) "zip" := ⟨_, hz, rfl⟩
  unfold pyNext
  refine wpAny_bind (wpAny_attempt (wpAny_callSpecial?_slot (name := Str.ofString "__next__") hT F.slot_zip_next
    (wpAny_call_entry F.slot_zip_next hT F.entry_zip_next (zip3_out_end S D1 hz hal hTI st1 fun h' e hk he => ?_) (F.args_zip_next_1 _))))
  obtain ⟨o, ho, hc⟩ := he
  refine wpAny_bind (wpAny_isInstance (T := "StopIteration") (b := true) ⟨o, ho, hc⟩ isSubtype_stop ?_)
  exact wpAny_pure (hQ _ hk)
end
end LapW
set_option Elab.async false
set_option linter.all false
set_option maxRecDepth 100000
set_option maxHeartbeats 4000000
namespace LapW
open PySem PySem.Spec PyProof.Rows L2 Lap PySem.W
theorem zip_no_len : typeLookup (.type "zip") "__len__" = pure none := by rw [typeLookup_type, builtinLookup_eq_fast]; kernel_rfl
theorem zip_no_hint : typeLookup (.type "zip") "__length_hint__" = pure none := by rw [typeLookup_type, builtinLookup_eq_fast]; kernel_rfl
section
variable {prog : Program} {w : World} {A : Around} {E : Value → Shared → Prop} {s : Shared}
theorem zip_hint {r : Addr} (hT : s.TypeIs (.ref r) "zip") {Q : Bool → Shared → Prop} (h : Q true s) : wpAny (model prog w) A (Builtin.List.listLengthHint (.ref r)) Q E s := by
  unfold Builtin.List.listLengthHint
  refine wpAny_bind (wpAny_specialOf hT zip_no_len ?_)
  refine wpAny_bind (wpAny_specialOf hT zip_no_hint ?_)
  exact wpAny_pure h
/-- what has been made so far -/
structure ZG (a1 a2 a3 : Array Value) (M : Addr) (h : Heap) (as : List Addr) : Prop where
  rise : as.Pairwise (· < ·)
  above : ∀ a ∈ as, M < a
  trip : ∀ (j : Nat) (a : Addr), as[j]? = some a → ∃ x y u, a1[j]? = some x ∧ a2[j]? = some y ∧ a3[j]? = some u ∧ IsTupOf3 h a x y u
def ZS (h : Heap) (N M : Addr) : Prop := (IsZip h (N + 5) (N + 3) (N + 4) .none ∧ ∃ x y u, IsTupOf3 h (N + 4) x y u) ∨ ∃ T f, ZO h (N + 5) (N + 3) (N + 4) T f ∧ M < T ∧ ∃ o, h.get? T = some o
end
theorem low_ne {b N : Nat} (hb : b < N) : b ≠ N + 5 ∧ b ≠ N + 4 ∧ b ≠ N ∧ b ≠ N + 1 ∧ b ≠ N + 2 ∧ b ≠ N + 6 ∧ b ≠ N + 3 := by omega
theorem hi_ne {b N : Nat} (hb : N + 6 ≤ b) : b ≠ N + 5 ∧ b ≠ N + 4 ∧ b ≠ N ∧ b ≠ N + 1 ∧ b ≠ N + 2 ∧ b ≠ N + 3 := by omega
theorem mid_ne {N : Nat} : N + 3 ≠ N + 6 ∧ N ≠ N + 6 ∧ N + 1 ≠ N + 6 ∧ N + 2 ≠ N + 6 ∧ N + 5 ≠ N + 6 ∧ N + 4 ≠ N + 6 := by omega
section
variable {prog : Program} {w : World} {A : Around} {s : Shared} {R : Result → Shared → Prop} {a1 a2 a3 : Array Value} {t1 t2 t3 N : Addr}
theorem zl_loop (hh : A.handled = none) (h1 : t1 < N) (h2 : t2 < N) (h3 : t3 < N) (e2 : a2.size = a1.size) (e3 : a3.size = a1.size) (h0 : a1.size ≠ 0) (hn : a1.size ≤ sizeLine) (res : Value) {h₁ : Heap}
    (hR : ∀ h' tk acc c as, (∀ b o, b < N → h₁.get? b = some o → h'.get? b = some o) → h'.get? (N + 6) = some { cls := .type "list", dict := none, data := .seq acc c, slots := #[] } → as.length = a1.size → ZG a1 a2 a3 (N + 6) h' as →
      acc.toList = as.map Value.ref → R (.ok (.ret res)) { s with heap := h', toks := tk }) :
    ∀ (k i : Nat) (h : Heap) (tk c : Nat) (acc : Array Value) (as : List Addr), a1.size - i = k → i ≤ a1.size → (i ≠ 0 → ∃ T f, ZO h (N + 5) (N + 3) (N + 4) T f ∧ N + 6 < T ∧ ∃ o, h.get? T = some o) → ZS h N (N + 6) → IsTupOf3 h (N + 3) (.ref N) (.ref (N + 1)) (.ref (N + 2)) →
      (h.IsTupleIter N t1 i ∧ h.IsTuple t1 a1) → (h.IsTupleIter (N + 1) t2 i ∧ h.IsTuple t2 a2) → (h.IsTupleIter (N + 2) t3 i ∧ h.IsTuple t3 a3) → (∀ b o, b < N → h₁.get? b = some o → h.get? b = some o) →
      h.get? (N + 6) = some { cls := .type "list", dict := none, data := .seq acc c, slots := #[] } → acc.toList = as.map Value.ref → as.length = i → ZG a1 a2 a3 (N + 6) h as →
      codeAny (model prog w) A (.builtin "list.extend.loop" ⟨[.ref (N + 6), .ref (N + 5), res], []⟩) R { s with heap := h, toks := tk } := by
  have S := zip_sep3 (N := N) (fp1 := [t1]) (fp2 := [t2]) (fp3 := [t3]) (fun c hc => by rw [List.mem_singleton.mp hc]; exact h1) (fun c hc => by rw [List.mem_singleton.mp hc]; exact h2) (fun c hc => by rw [List.mem_singleton.mp hc]; exact h3)
  have D1 := Draws.tuple (prog := prog) (w := w) (A := A.in1.in1) hh N t1 (Nat.ne_of_lt h1) a1
  have D2 := Draws.tuple (prog := prog) (w := w) (A := A.in1.in1) hh (N + 1) t2 (Nat.ne_of_lt (Nat.lt_succ_of_lt h2)) a2
  have D3 := Draws.tuple (prog := prog) (w := w) (A := A.in1.in1) hh (N + 2) t3 (Nat.ne_of_lt (Nat.lt_succ_of_lt (Nat.lt_succ_of_lt h3))) a3
  have low := fun (b : Addr) (hb : b < N) => low_ne hb
  have hi := fun (b : Addr) (hb : N + 6 ≤ b) => hi_ne hb
  intro k
  induction k with
  | zero =>
    intro i h tk c acc as hk hi' hout hst hTI st1 st2 st3 hkeep hS hacc hal hG
    have hin : i = a1.size := by omega
    subst hin
    obtain ⟨T, f, hz, hT, al⟩ := hout h0
    refine codeAny_builtin PySem.F.entry_extend_loop ?_
    rw [Around.under_plainId PySem.F.plain_extend_loop _]
    show wpAny _ A.in1 (pyNext (.ref (N + 5)) >>= _) _ _ _
    refine wpAny_bind (zip3_out_done (s := { s with heap := h, toks := tk }) S D1 hz al hTI st1 fun h' he => ?_)
    refine wpAny_pure (hR h' tk acc c as (fun b o hb e => he b o (low b hb).1 (low b hb).2.2.1 (hkeep b o hb e)) (he _ _ (hi _ (Nat.le_refl _)).1 (hi _ (Nat.le_refl _)).2.2.1 hS) hal ⟨hG.rise, hG.above, fun j a hj => ?_⟩ hacc)
    obtain ⟨x, y, u, q1, q2, q3, q4⟩ := hG.trip j a hj
    have hab := Nat.le_of_lt (hG.above a (List.mem_of_getElem? hj))
    exact ⟨x, y, u, q1, q2, q3, he _ _ (hi _ hab).1 (hi _ hab).2.2.1 q4⟩
  | succ k ih =>
    intro i h tk c acc as hk hi' hout hst hTI st1 st2 st3 hkeep hS hacc hal hG
    have hlt : i < a1.size := by omega
    have hsz : acc.size = i := by rw [← Array.length_toList, hacc, List.length_map, hal]
    have hSl : N + 6 < h.objs.size := Heap.lt_size hS
    refine codeAny_builtin PySem.F.entry_extend_loop ?_
    rw [Around.under_plainId PySem.F.plain_extend_loop _]
    show wpAny _ A.in1 (pyNext (.ref (N + 5)) >>= _) _ _ _
    have fin : ∀ (x y u : Value) (h' : Heap) (tk' : Nat), a1[i]? = some x → a2[i]? = some y → a3[i]? = some u → (∃ T f, ZO h' (N + 5) (N + 3) (N + 4) T f ∧ N + 6 < T ∧ ∃ o, h'.get? T = some o) → (h'.IsTupleIter N t1 (i + 1) ∧ h'.IsTuple t1 a1) → (h'.IsTupleIter (N + 1) t2 (i + 1) ∧ h'.IsTuple t2 a2) → (h'.IsTupleIter (N + 2) t3 (i + 1) ∧ h'.IsTuple t3 a3) →
        IsTupOf3 h' h.objs.size x y u → (∀ c o, c ≠ N + 5 → c ≠ N + 4 → c ≠ N → c ≠ N + 1 → c ≠ N + 2 → h.get? c = some o → h'.get? c = some o) →
        wpAny (model prog w) A.in1 (updateSeq (N + 6) (·.push (Value.ref h.objs.size))) (fun _ s' => wpAny (model prog w) A.in1 (pure (Fin.again (.builtin "list.extend.loop" ⟨[.ref (N + 6), .ref (N + 5), res], []⟩)) : Sem Fin) (fun fin s' => match fin with | .done f => R (.ok f) s' | .again c' => c'.quiet = true ∧ codeAny (model prog w) A c' R s') (fun e s' => R (.error e) s') s') (fun e s' => R (.error e) s') { s with heap := h', toks := tk' } := by
      intro x y u h' tk' hx hy hu ho s1 s2 s3 hT hkp
      have hS' : h'.get? (N + 6) = some { cls := .type "list", dict := none, data := .seq acc c, slots := #[] } := hkp _ _ (hi _ (Nat.le_refl _)).1 (hi _ (Nat.le_refl _)).2.1 (hi _ (Nat.le_refl _)).2.2.1 (hi _ (Nat.le_refl _)).2.2.2.1 (hi _ (Nat.le_refl _)).2.2.2.2.1 hS
      have up : ∀ b o, b ≠ N + 6 → h'.get? b = some o → (h'.update (N + 6) (Obj.mapSeq (·.push (Value.ref h.objs.size)))).get? b = some o := fun b o hb e => (Heap.get?_update_other _ _ (Ne.symm hb)).trans e
      have hkl : ∀ b o, b < N → h.get? b = some o → h'.get? b = some o := fun b o hb e => hkp b o (low b hb).1 (low b hb).2.1 (low b hb).2.2.1 (low b hb).2.2.2.1 (low b hb).2.2.2.2.1 e
      have hTI' : IsTupOf3 h' (N + 3) (.ref N) (.ref (N + 1)) (.ref (N + 2)) := hkp _ _ S.TIz S.TITO S.TIi1 S.TIi2 S.TIi3 hTI
      obtain ⟨T, f, hz, hTl, oT, hoT⟩ := ho
      refine wpAny_updateSeq hS' rfl (wpAny_pure ⟨plainId_quiet PySem.F.plain_extend_loop _, ih (i + 1) _ tk' _ (acc.push (Value.ref h.objs.size)) (as ++ [h.objs.size]) (by omega) hlt (fun _ => ⟨T, f, up _ _ mid_ne.2.2.2.2.1 hz, hTl, ?_⟩) (.inr ⟨T, f, up _ _ mid_ne.2.2.2.2.1 hz, hTl, ?_⟩) (up _ _ mid_ne.1 hTI') ?_ ?_ ?_
        (fun b o hb e => up b o (low b hb).2.2.2.2.2.1 (hkl b o hb (hkeep b o hb e))) (Heap.get?_update_self _ hS' rfl) (by rw [Array.toList_push, hacc, List.map_append]; rfl) (by rw [List.length_append, hal]; rfl) ⟨?_, ?_, ?_⟩⟩) (by rw [hsz]; omega) (by rw [Array.size_push, hsz]; omega)
      · exact ⟨oT, up _ _ (Nat.ne_of_gt hTl) hoT⟩
      · exact ⟨oT, up _ _ (Nat.ne_of_gt hTl) hoT⟩
      · exact ⟨s1.1.at fun o e => up _ o mid_ne.2.1 e, s1.2.at fun o e => up _ o (low _ h1).2.2.2.2.2.1 e⟩
      · exact ⟨s2.1.at fun o e => up _ o mid_ne.2.2.1 e, s2.2.at fun o e => up _ o (low _ h2).2.2.2.2.2.1 e⟩
      · exact ⟨s3.1.at fun o e => up _ o mid_ne.2.2.2.1 e, s3.2.at fun o e => up _ o (low _ h3).2.2.2.2.2.1 e⟩
      · refine List.pairwise_append.mpr ⟨hG.rise, List.pairwise_singleton _ _, fun a ha b hb => ?_⟩
        rw [List.mem_singleton.mp hb]
        obtain ⟨j, hj⟩ := List.mem_iff_getElem?.mp ha
        obtain ⟨_, _, _, _, _, _, q⟩ := hG.trip j a hj
        exact Heap.lt_size q
      · intro a ha
        rcases List.mem_append.mp ha with ha | ha
        · exact hG.above a ha
        · rw [List.mem_singleton.mp ha]
          exact hSl
      · intro j b hj
        rcases Nat.lt_trichotomy j as.length with hl | hl | hl
        · rw [List.getElem?_append_left hl] at hj
          obtain ⟨x', y', u', q1, q2, q3, q4⟩ := hG.trip j b hj
          have hb := hG.above b (List.mem_of_getElem? hj)
          have hb2 := hi b (Nat.le_of_lt hb)
          exact ⟨x', y', u', q1, q2, q3, up _ _ (Nat.ne_of_gt hb) (hkp _ _ hb2.1 hb2.2.1 hb2.2.2.1 hb2.2.2.2.1 hb2.2.2.2.2.1 q4)⟩
        · subst hl
          have hb : h.objs.size = b := by simpa using hj
          subst hb
          rw [hal]
          exact ⟨x, y, u, hx, hy, hu, up _ _ (Nat.ne_of_gt hSl) hT⟩
        · have hnone : (as ++ [h.objs.size])[j]? = none := List.getElem?_eq_none (by rw [List.length_append, List.length_singleton]; omega)
          rw [hnone] at hj
          cases hj
    rcases hst with ⟨hz, x0, y0, u0, hTO⟩ | ⟨T, f, hz, hTl, al⟩
    · refine wpAny_bind (wpAny_pyNext_zipD3_item (s := { s with heap := h, toks := tk }) S D1 D2 D3 hz hTI hTO st1 st2 st3 hlt (by omega) (by omega) fun x y u h' tk' hx hy hu b1 b2 d1 d2 d3 b5 b6 b7 => ?_)
      exact wpAny_bind (fin x y u h' tk' hx hy hu ⟨h.objs.size, false, b1, hSl, ⟨_, b5⟩⟩ d1 d2 d3 b5 b7)
    · refine wpAny_bind (zip3_out_next (s := { s with heap := h, toks := tk }) S D1 D2 D3 hz al hTI st1 st2 st3 hlt (by omega) (by omega) fun x y u h' tk' hx hy hu b1 d1 d2 d3 b5 b6 b7 => ?_)
      obtain ⟨oT, hoT⟩ := al
      have hb2 := hi T (Nat.le_of_lt hTl)
      exact wpAny_bind (fin x y u h' tk' hx hy hu ⟨T, true, b1, hTl, ⟨oT, b7 _ _ hb2.1 hb2.2.2.1 hb2.2.2.2.1 hb2.2.2.2.2.1 hoT⟩⟩ d1 d2 d3 b5 fun c' o q1 _ q3 q4 q5 e => b7 c' o q1 q3 q4 q5 e)
/-- list(z), z a zip of three tuples just made -/
theorem zl_call {z : Addr} {Q : Value → Shared → Prop} {E : Value → Shared → Prop} (hh : A.handled = none) (h1 : t1 < N) (h2 : t2 < N) (h3 : t3 < N) (e2 : a2.size = a1.size) (e3 : a3.size = a1.size) (h0 : a1.size ≠ 0) (hn : a1.size ≤ sizeLine)
    (hsz : s.heap.objs.size = N + 6) (hz : IsZip s.heap (N + 5) (N + 3) (N + 4) .none) (hTO : IsTupOf3 s.heap (N + 4) .none .none .none) (hTI : IsTupOf3 s.heap (N + 3) (.ref N) (.ref (N + 1)) (.ref (N + 2)))
    (st1 : s.heap.IsTupleIter N t1 0 ∧ s.heap.IsTuple t1 a1) (st2 : s.heap.IsTupleIter (N + 1) t2 0 ∧ s.heap.IsTuple t2 a2) (st3 : s.heap.IsTupleIter (N + 2) t3 0 ∧ s.heap.IsTuple t3 a3)
    (hQ : ∀ h' tk acc c as, (∀ b o, b < N → s.heap.get? b = some o → h'.get? b = some o) → h'.get? (N + 6) = some { cls := .type "list", dict := none, data := .seq acc c, slots := #[] } → as.length = a1.size → ZG a1 a2 a3 (N + 6) h' as →
      acc.toList = as.map Value.ref → Q (.ref (N + 6)) { s with heap := h', toks := tk }) :
    wpAny (model prog w) A (call (.type "list") [.ref (N + 5)]) Q E s := by
  refine callType_codes (Q₁ := fun obj s₁ => obj = .ref (N + 6) ∧ s₁ = { s with heap := s.heap.push { cls := .type "list", data := .seq #[] } }) PySem.F.called_list (PySem.F.typeCall_list_1 _) PySem.F.entry_list_init
    (code_list_new _ ⟨by rw [hsz], rfl⟩) fun obj s₁ h₁ => ?_
  obtain ⟨rfl, rfl⟩ := h₁
  have hS : (s.heap.push { cls := .type "list", data := .seq #[] }).get? (N + 6) = some { cls := .type "list", data := .seq #[] } := by rw [← hsz]; exact Heap.get?_push_size _ rfl
  have up : ∀ b o, s.heap.get? b = some o → (s.heap.push { cls := .type "list", data := .seq #[] }).get? b = some o := fun b o e => Heap.get?_push_of_some _ e
  refine ⟨⟨_, hS, rfl⟩, PySem.F.args_list_init_2 _ _, ?_⟩
  generalize hH : s.heap.push { cls := .type "list", data := .seq #[] } = h0' at *
  show wpAny _ A.in1.in1 (do let old ← Builtin.List.listItems (.ref (N + 6)); Builtin.List.listUpdate (.ref (N + 6)) (fun _ => #[]); letGo old.toList.reverse; Builtin.List.listExtendWith (.ref (N + 6)) (.ref (N + 5)) .none) _ _ { s with heap := h0' }
  refine wpAny_bind ?_
  unfold Builtin.List.listItems
  refine wpAny_bind (wpAny_seqItems (s := { s with heap := h0' }) hS rfl (wpAny_pure ?_))
  show wpAny _ _ (updateSeq (N + 6) (fun _ => #[]) >>= fun _ => letGo (#[] : Array Value).toList.reverse >>= fun _ => Builtin.List.listExtendWith (.ref (N + 6)) (.ref (N + 5)) .none) _ _ { s with heap := h0' }
  refine wpAny_bind (wpAny_updateSeq (s := { s with heap := h0' }) hS rfl ?_)
  have hS₂ := Heap.get?_update_self (Obj.mapSeq (fun _ => (#[] : Array Value))) hS rfl
  have oth : ∀ b o, b ≠ N + 6 → h0'.get? b = some o → (h0'.update (N + 6) (Obj.mapSeq (fun _ => (#[] : Array Value)))).get? b = some o :=
    fun b o hb e => (Heap.get?_update_other _ _ (Ne.symm hb)).trans e
  refine wpAny_bind (wpAny_letGo ?_)
  generalize hH1 : h0'.update (N + 6) (Obj.mapSeq (fun _ => (#[] : Array Value))) = h1' at *
  have ne := @mid_ne N
  have keep0 : ∀ b o, b ≠ N + 6 → s.heap.get? b = some o → h1'.get? b = some o := fun b o hb e => oth b o hb (up b o e)
  have hz1 := keep0 _ _ ne.2.2.2.2.1 hz
  have hT : Shared.TypeIs { s with heap := h1' } (.ref (N + 5)) "zip" := ⟨_, hz1, rfl⟩
  have key : ∀ (h : Heap) (c₁ tk : Nat), (∀ b o, b ≠ N + 6 → h1'.get? b = some o → h.get? b = some o) → h.get? (N + 6) = some { cls := .type "list", data := .seq #[] c₁ } →
      codeAny (model prog w) A.in1 (.builtin "list.extend.loop" ⟨[.ref (N + 6), .ref (N + 5), .none], []⟩) (wants (fun r s₂ => r = Value.none ∧ Q (.ref (N + 6)) s₂) E) { s with heap := h, toks := tk } := by
    intro h c₁ tk hk hS₁
    have kk : ∀ b o, b ≠ N + 6 → s.heap.get? b = some o → h.get? b = some o := fun b o hb e => hk b o hb (keep0 b o hb e)
    refine zl_loop (A := A.in1) (s := s) (h₁ := s.heap) hh h1 h2 h3 e2 e3 h0 hn .none (fun h' tk' acc c as hk' hS' hl hG hacc => ⟨rfl, hQ h' tk' acc c as hk' hS' hl hG hacc⟩) a1.size 0 h tk c₁ #[] [] (Nat.sub_zero _) (Nat.zero_le _) (fun q => absurd rfl q) (.inl ⟨kk _ _ ne.2.2.2.2.1 hz, _, _, _, kk _ _ ne.2.2.2.2.2 hTO⟩) (kk _ _ ne.1 hTI)
      ⟨st1.1.at fun o e => kk _ o ne.2.1 e, st1.2.at fun o e => kk _ o (low_ne h1).2.2.2.2.2.1 e⟩ ⟨st2.1.at fun o e => kk _ o ne.2.2.1 e, st2.2.at fun o e => kk _ o (low_ne h2).2.2.2.2.2.1 e⟩ ⟨st3.1.at fun o e => kk _ o ne.2.2.2.1 e, st3.2.at fun o e => kk _ o (low_ne h3).2.2.2.2.2.1 e⟩
      (fun b o hb e => kk b o (low_ne hb).2.2.2.2.2.1 e) hS₁ rfl rfl ⟨List.Pairwise.nil, (fun _ ha => nomatch ha), (fun j a hj => by simp at hj)⟩
  unfold Builtin.List.listExtendWith
  refine wpAny_bind (wpAny_typeOf (T := "zip") hT ?_)
  have q1 : Builtin.List.listSameRef (.ref (N + 6)) (.ref (N + 5)) = false := by
    show (N + 6 == N + 5) = false
    exact beq_eq_false_iff_ne.mpr (Ne.symm ne.2.2.2.2.1)
  have q2 : (Value.type "zip" == Value.type "list") = false := by decide
  have q3 : (Value.type "zip" == Value.type "tuple") = false := by decide
  simp only [q1, q2, q3, Bool.or_false, Bool.false_eq_true, if_false]
  refine wpAny_bind (wpAny_pyIter_zip (s := { s with heap := h1' }) hz1 ?_)
  refine wpAny_bind (wpAny_holding (zip_hint (s := { s with heap := h1' }) hT ?_))
  refine wpAny_ite_split (fun _ => ?_) (fun _ => wpAny_pure ⟨plainId_quiet PySem.F.plain_extend_loop _, key _ _ _ (fun b o _ e => e) hS₂⟩)
  refine wpAny_bind (wpAny_rule ?_)
  refine wpAny_bind ?_
  show wpAny _ _ (updateSeq (N + 6) (·.push .none) >>= fun _ => updateSeq (N + 6) (·.pop)) _ _ _
  refine wpAny_bind (wpAny_updateSeq hS₂ rfl ?_)
  have hS₃ := Heap.get?_update_self (Obj.mapSeq (·.push Value.none)) hS₂ rfl
  refine wpAny_updateSeq (hz := by seq_fits) hS₃ rfl ?_
  have hS₄ := Heap.get?_update_self (Obj.mapSeq (·.pop)) hS₃ rfl
  refine wpAny_pure ⟨plainId_quiet PySem.F.plain_extend_loop _, key _ _ _ (fun b o hb e => ?_) hS₄⟩
  exact (Heap.get?_update_other _ _ (Ne.symm hb)).trans ((Heap.get?_update_other _ _ (Ne.symm hb)).trans e)
end
end LapW
set_option Elab.async false
set_option linter.all false
set_option maxRecDepth 100000
set_option maxHeartbeats 4000000
namespace LapW
open PySem PySem.Spec PyProof.Rows L2 Lap PySem.W
def tLZip3 (K : PySem.W.Frag) (ta : TA) : TE := fun σ H Q => ta σ H fun vs H1 => ∃ a b c xs ys zs, vs = [.ref a, .ref b, .ref c] ∧ SqT K H1 a xs ∧ SqT K H1 b ys ∧ SqT K H1 c zs ∧ ys.length = xs.length ∧ zs.length = xs.length ∧ xs ≠ [] ∧
  ∀ l H2 (ts : List Addr), H1 l = none → Ex H1 H2 → H2 l = some (.lst (ts.map V.ref)) → ts.length = xs.length → (∀ (j : Nat) (t : Addr), ts[j]? = some t → ∃ x y z, xs[j]? = some x ∧ ys[j]? = some y ∧ zs[j]? = some z ∧ H2 t = some (.tup [x, y, z])) → Q (.ref l) H2
theorem istup_kept {h h' : Heap} {a : Addr} {its : Array Value} (p : IsTup h a its) (hk : ∀ b o, h.get? b = some o → h'.get? b = some o) : IsTup h' a its := let ⟨o, ho, r⟩ := p; ⟨o, hk _ _ ho, r⟩
theorem vals_refs : ∀ as : List Addr, Vals (as.map V.ref) (as.map Value.ref)
  | [] => .nil
  | _ :: as => .cons rfl (vals_refs as)
theorem pe_lzip3 {X : Cx} {e1 e2 e3 : Expr} {ta : TA} {p p2 pos pos2 : Pos} (hc : X.calm = true) (hgl : Gl X "list") (hml : X.mg "list" = none) (hg : Gl X "zip") (hm : X.mg "zip" = none) (ha : PA X [e1, e2, e3] ta)
    (hs : starEach [e1, e2, e3] X.env = (false, eval e1 X.env) :: starEach [e2, e3] X.env := by rfl) (hpl : (backTo pos2 (starEach [e2, e3] X.env)).any (·.1) = false := by rfl)
    (na : starEach [Expr.Call (.Name "zip" p2) [e1, e2, e3] [] pos2] X.env = (false, eval (Expr.Call (.Name "zip" p2) [e1, e2, e3] [] pos2) X.env) :: starEach [] X.env := by rfl) :
    PE X (.Call (.Name "list" p) [.Call (.Name "zip" p2) [e1, e2, e3] [] pos2] [] pos) (tLZip3 X.K ta) := by
  refine ⟨fun pins s σ H Q I h => ?_⟩
  refine Call_ (ld_blt I hgl hml boot_list (PyProof.Rows.callWith_type1 (args_cons (Call_ (ld_blt (by exact I.tok _) hg hm PyProof.Rows.boot_zip (PyProof.Rows.callWith_type1 (thn (ha.run pos2 pins _ σ H _ (by exact I.tok _) h) fun us s1 ⟨vs, H1, I1, r1, q1⟩ => ?_) hs hpl))) na) na))
  obtain ⟨a, b, c, xs, ys, zs, ex, hqx, hqy, hqz, ly, lz, hne, q⟩ := q1
  subst ex
  cases r1 with
  | cons r rr =>
    cases rr with
    | cons r' rr =>
      cases rr with
      | cons r'' rr =>
        cases rr
        cases r
        cases r'
        cases r''
        obtain ⟨i1, rv1, p1, z1⟩ := I1.tuple hqx
        obtain ⟨i2, rv2, p2, _⟩ := I1.tuple hqy
        obtain ⟨i3, rv3, p3, _⟩ := I1.tuple hqz
        have l1 : xs.length = i1.length := rv1.length
        have l2 : ys.length = i2.length := rv2.length
        have l3 : zs.length = i3.length := rv3.length
        have x0 : xs.length ≠ 0 := fun z => hne (List.length_eq_zero_iff.mp z)
        obtain ⟨o1, ho1, _⟩ := id p1
        obtain ⟨o2, ho2, _⟩ := id p2
        obtain ⟨o3, ho3, _⟩ := id p3
        refine zip_begins3 (begins_tuple a i1.toArray) (begins_tuple b i2.toArray) (begins_tuple c i3.toArray) p1 p2 p3 fun h0 hz hTI hTO g1 g2 g3 hsz hk => args_nil ?_
        refine zl_call (N := s1.heap.objs.size) (a1 := i1.toArray) (a2 := i2.toArray) (a3 := i3.toArray) (z := 0) (I1.ok.hd hc) (Heap.lt_size ho1) (Heap.lt_size ho2) (Heap.lt_size ho3) (by rw [List.size_toArray, List.size_toArray]; omega) (by rw [List.size_toArray, List.size_toArray]; omega) (by rw [List.size_toArray]; omega) (by rw [List.size_toArray]; omega) hsz hz hTO hTI
          ⟨⟨_, g1, rfl, rfl⟩, istup_kept p1 hk⟩ ⟨⟨_, g2, rfl, rfl⟩, istup_kept p2 hk⟩ ⟨⟨_, g3, rfl, rfl⟩, istup_kept p3 hk⟩ fun h' tk acc cc as hk' hS hl hG hacc => ?_
        have kept : ∀ b o, s1.heap.get? b = some o → h'.get? b = some o := fun b o e => hk' b o (Heap.lt_size e) (hk b o e)
        have I2 : Inv X pins σ H1 { s1 with heap := h', toks := tk } := I1.kept kept
        have hle : s1.heap.objs.size ≤ s1.heap.objs.size + 6 := Nat.le_add_right _ _
        have hn1 : H1 (s1.heap.objs.size + 6) = none := I1.hok.fresh hle
        have lst : ∀ H2, ObjOk X.prog X.w H2 h' (s1.heap.objs.size + 6) (.lst (as.map V.ref)) := fun H2 => ⟨by rw [List.length_map, hl, List.size_toArray]; omega, acc.toList, cc, by rw [hacc]; exact vals_refs as, by rw [Array.toArray_toList]; exact hS⟩
        have I3 : Inv X pins σ (upd H1 (s1.heap.objs.size + 6) (.lst (as.map V.ref))) { s1 with heap := h', toks := tk } := I2.take (h' := h') (t' := tk) (fun b ob _ e => e) (I1.fpOk hle hn1) (lst _)
        have nd : as.Nodup := List.Pairwise.imp (fun h => Nat.ne_of_lt h) hG.rise
        obtain ⟨H2, I4, g, qq⟩ := L2.DX.takeT (P := fun t vs => ∃ (j : Nat) (x y z : V), as[j]? = some t ∧ xs[j]? = some x ∧ ys[j]? = some y ∧ zs[j]? = some z ∧ vs = [x, y, z]) I1 as _ I3 nd fun t ht => by
          obtain ⟨j, hj⟩ := List.mem_iff_getElem?.mp ht
          have hlt := hG.above t ht
          have hge : s1.heap.objs.size ≤ t := Nat.le_trans hle (Nat.le_of_lt hlt)
          obtain ⟨u1, u2, u3, w1, w2, w3, w4⟩ := hG.trip j t hj
          have hjl : j < xs.length := by
            have := (List.getElem?_eq_some_iff.mp hj).1
            rw [hl, List.size_toArray] at this
            omega
          obtain ⟨v1, hv1, rr1⟩ := rv1.get (List.getElem?_eq_getElem hjl)
          obtain ⟨v2, hv2, rr2⟩ := rv2.get (List.getElem?_eq_getElem (by omega : j < ys.length))
          obtain ⟨v3, hv3, rr3⟩ := rv3.get (List.getElem?_eq_getElem (by omega : j < zs.length))
          rw [List.getElem?_toArray] at w1 w2 w3
          rw [hv1] at w1
          rw [hv2] at w2
          rw [hv3] at w3
          cases w1
          cases w2
          cases w3
          refine ⟨hge, by rw [upd_ne (Nat.ne_of_gt hlt)]; exact I1.hok.fresh hge, [xs[j], ys[j], zs[j]], ⟨j, _, _, _, hj, List.getElem?_eq_getElem hjl, List.getElem?_eq_getElem _, List.getElem?_eq_getElem _, rfl⟩, fun H3 => ⟨by show 3 ≤ sizeLine; decide, [u1, u2, u3], .cons rr1 (.cons rr2 (.cons rr3 .nil)), ⟨_, w4, rfl, _, rfl⟩⟩⟩
        refine ⟨.ref (s1.heap.objs.size + 6), H2, I4, rfl, q _ H2 as hn1 (fun x o e => g _ _ (by rw [upd_ne (ne_of_none e hn1)]; exact e)) (g _ _ upd_same) (by rw [hl, List.size_toArray]; omega) fun j t hj => ?_⟩
        obtain ⟨vs, ⟨j', x, y, z, e1, e2, e3, e4, ev⟩, ht⟩ := qq t (List.mem_of_getElem? hj)
        have ej : j' = j := by
          exact (List.getElem?_inj (List.getElem?_eq_some_iff.mp e1).1 nd).mp (e1.trans hj.symm)
        subst ej
        subst ev
        exact ⟨x, y, z, e2, e3, e4, ht⟩
end LapW
set_option Elab.async false
set_option linter.all false
set_option maxRecDepth 100000
set_option maxHeartbeats 4000000
namespace LapW
open PySem PySem.Spec PyProof.Rows L2 Lap

section
variable {P : Program} {w : World} {K : PySem.W.Frag} {mg : Str → Option Value} {base : Heap}
/-! ### broken_by -/
abbrev s_broken_by : Stmt := top 61
abbrev N_broken_by : List Str := ["wheel", "history", "rows", "ahead", "found", "deed", "late", "bad", "wish"]
theorem sc_broken_by : FnScope N_broken_by ["wheel", "history"] (defScope s_broken_by) := ⟨rfl, rfl, rfl, by decide +kernel, rfl, by decide +kernel, by decide +kernel⟩
theorem paired_app {α β : Type} {F : α → β → Prop} : ∀ {a c : List α} {b d : List β}, Paired F a b → Paired F c d → Paired F (a ++ c) (b ++ d)
  | _, _, _, _, .nil, h => h
  | _, _, _, _, .cons h t, g => .cons h (paired_app t g)
theorem paired_mono {α β : Type} {F G : α → β → Prop} (h : ∀ a b, F a b → G a b) : ∀ {a : List α} {b : List β}, Paired F a b → Paired G a b
  | _, _, .nil => .nil
  | _, _, .cons x t => .cons (h _ _ x) (paired_mono h t)
def wishL (b : List Wish) : HO := .lst (b.map fun k => V.str (wishS k))
def PvBB (K : PySem.W.Frag) (v : V) (t : Addr) (u : Wh) (h : List Deed) (l p : Addr) (ys : List V) (H : Hp) (i : Nat) (σ : L2.St) (H' : Hp) : Prop :=
  ∃ (pre suf : List Deed) (x : V) (o5 o6 o7 : Option V) (ps : List Addr), h = pre ++ suf ∧ pre.length = i ∧ σ = [some v, some (.ref t), some (.ref l), some x, some (.ref p), o5, o6, o7, none] ∧ Ex H H' ∧ H' l = some (.lst ys) ∧ DtAll K H' ys ((walk u START h).map stD) ∧ Dt K H' x (stD (endOf u START pre)) ∧
    H' p = some (.lst (ps.map V.ref)) ∧ Paired (fun q b => H' q = some (wishL b) ∧ q ≠ p) ps (byList u START pre)
def spBrokenBy (K : PySem.W.Frag) : Sp := fun vs H Q _ => ∃ (v : V) (t : Addr) (u : Wh) (h : List Deed), vs = [v, .ref t] ∧ WhAt K H v u ∧ SqT K H t (h.map fun d => V.str (deedS d)) ∧ WOk u ∧ doable u START h ∧ h.length < 90000 ∧
  ∀ p ps H', H p = none → Ex H H' → H' p = some (.lst (ps.map V.ref)) → Paired (fun q b => H' q = some (wishL b)) ps (byList u START h) → Q (.ref p) H'
theorem cal_broken_by (T : Tx K mg) : C8.Cal P w K mg base 7 "broken_by" (spBrokenBy K) [] := by
  refine cal_of T.g_broken_by T.f_broken_by sc_broken_by (fun vs H Q E h => ?_) (fun _ _ _ _ _ _ us hl => match us, hl with | [_, _], _ => rfl) fun cdv A outer s H vs Q E hr h => ?_
  · obtain ⟨v, t, u, h, rfl, _⟩ := h
    rfl
  · obtain ⟨v, t, u, h, rfl, hx, ht, ok, can, len, hq⟩ := h
    refine ⟨_, (pss_cons (ps_asg (pe_tup (pa_cons (C8.pe_c (cal_check_history T) hr (by decide) rfl (pa_cons (pv 0) (pa_cons (pv 1) pa_nil))) (pa_cons (C8.pe_gc rfl T.c_START) (pa_cons (pe_lst pa_nil) pa_nil)))) (pg_tup rfl (pgs_cons (pg_name (i := 2) sc_broken_by.nd rfl (Or.inl rfl)) (pgs_cons (pg_name (i := 3) sc_broken_by.nd rfl (Or.inr rfl)) (pgs_cons (pg_name (i := 4) sc_broken_by.nd rfl (Or.inl rfl)) pgs_nil)))))
      (pss_cons (ps_for PassesOwn.never rfl (pi_zipM rfl T.n_zip (pa_cons (pv 1) (pa_cons (pv 2) pa_nil))) (pg_tup rfl (pgs_cons (pg_name (i := 5) sc_broken_by.nd rfl (Or.inr rfl)) (pgs_cons (pg_name (i := 6) sc_broken_by.nd rfl (Or.inr rfl)) pgs_nil)))
        (pss_cons (ps_setLc (i := 7) (own := [("wish", 8)]) (g := (gName 8)) rfl sc_broken_by.nd rfl rfl (sw_true rfl rfl rfl (by decide +kernel)) (pi_tup (C8.pe_gc rfl T.c_WISHES)) (blkOk_by (N := N_broken_by) (sc := defScope s_broken_by) (by decide +kernel)) (fun _ _ _ _ _ => (pg_name (i := 8) sc_broken_by.nd rfl (Or.inl rfl))) (fun _ _ _ _ _ => (pts_one (PW.pt (pw_or (pt_val (C8.pe_c (cal_stands_broken T) hr (by decide) rfl (pa_cons (pv 0) (pa_cons (pv 6) (pa_cons (pv 8) pa_nil))))) (pw_or1 (pt_val (C8.pe_c (cal_goes_wrong T) hr (by decide) rfl (pa_cons (pv 0) (pa_cons (pv 3) (pa_cons (pv 5) (pa_cons (pv 8) pa_nil))))))))))) (fun _ _ _ _ _ => (pv 8)))
        (pss_cons (ps_expr (pe_bm PySem.F.plainAttrs_list PySem.F.slot_list_append PySem.F.type_list_append mt_append (pv 4) (pa_cons (pv 7) pa_nil)))
        (pss_one (ps_set (i := 3) sc_broken_by.nd rfl (Or.inr rfl) (pv 6))))))
      (pss_one (ps_ret (pv 4))))), ?_⟩
    refine ⟨_, rfl, _, rfl, v, t, u, h, rfl, hx, ht, ok, can, len, fun l ys H1 hl e1 hl1 dl => ?_⟩
    refine ⟨Nat.zero_le _, fun p hp => ⟨by show 3 ≤ sizeLine; decide, fun tt htt => ?_⟩⟩
    have e2 : Ex H1 (upd (upd H1 p (.lst [])) tt (.tup [.ref l, .ref (He.ga K "START"), .ref p])) := (Ex.nw hp).nx htt
    refine ⟨tt, _, rfl, sqt_new, rfl, _, _, rfl, _, _, rfl, _, _, rfl, rfl, ?_⟩
    have hlen : (h.map fun d => V.str (deedS d)).length = ys.length := by rw [dpa_len dl, List.length_map, List.length_map, walk_len]
    have hpt : p ≠ tt := fun z => by rw [← z, upd_same] at htt; cases htt
    have hpl : p ≠ l := fun z => by rw [z, hl1] at hp; cases hp
    refine ⟨_, rfl, _, rfl, t, l, _, _, rfl, e2.t (e1.t ht), SqL.of (e2 _ _ hl1), ?_⟩
    refine for_it (walk_zipM hlen) (PvBB K v t u h l p ys H) ⟨[], h, _, _, _, _, [], rfl, rfl, rfl, e1.tr e2, e2 _ _ hl1, e2.da dl, dt_start T _, by rw [upd_ne hpt]; exact upd_same, .nil⟩ ?_ ?_ ?_
    · rintro i σ' H' _ ⟨pre, suf, x, o5, o6, o7, ps, _, _, _, e, hl', _⟩
      exact ⟨e.t ht, SqL.of hl'⟩
    · rintro i z σ' H' H'' hi ⟨pre, suf, x, o5, o6, o7, ps, eh, el, rfl, e, hl', dl', dx, hp', hps⟩ ⟨T2, y1, y2, rfl, hT2, rfl, hy1, hy2⟩
      obtain ⟨d, suf', es, ed⟩ := at_split hy1 eh el
      subst es ed
      have can' := can
      rw [eh, doable_app] at can'
      have dy2 : Dt K H' y2 (stD (done u (endOf u START pre) d)) := by
        obtain ⟨dd, hdd, r⟩ := dpa_get dl' hy2
        rw [eh, walk_app, List.map_append, List.getElem?_append_right (by rw [List.length_map, walk_len, el]; exact Nat.le_refl _), List.length_map, walk_len, el, Nat.sub_self] at hdd
        have hdd : some (stD (done u (endOf u START pre) d)) = some dd := hdd
        cases hdd
        exact r
      have eT := Ex.nw (o := .tup [V.str (deedS d), y2]) hT2
      refine ⟨T2, _, rfl, sqt_new, rfl, _, _, rfl, _, _, rfl, rfl, ?_⟩
      refine ⟨_, rfl, ⟨_, T.t_WISHES _⟩, fun D hD => lc_tupD (items := WISHES) (p := fun k => standsBroken u (done u (endOf u START pre) d) k || goesWrong u (endOf u START pre) d k) (m := fun k => .str (wishS k)) (T.t_WISHES _) rfl (by show 4 < 100000; decide) hD (fun i x' k H3 hi hq' e3 Qn Qy n1 n2 => ?_) fun H3 zs e3 hD' dz => ?_⟩
      · have ex : x' = V.str (wishS k) := map_at (f := fun d => V.str (wishS d)) (l := WISHES) hi hq'
        subst ex
        have wh3 := e3.wh (eT.wh (e.wh hx))
        refine ⟨rfl, _, rfl, _, rfl, _, rfl, v, y2, u, _, k, rfl, wh3, e3.d (eT.d dy2), fun H4 e4 => ?_⟩
        cases h1 : standsBroken u (done u (endOf u START pre) d) k with
        | true => exact ⟨true, rfl, iteT (iteT ⟨_, rfl, n2 (by dsimp only; rw [h1, Bool.true_or]) _ _ e4 (.str _)⟩)⟩
        | false =>
          refine ⟨false, rfl, iteF ⟨_, rfl, _, rfl, _, rfl, _, rfl, v, x, u, _, d, k, rfl, e4.wh wh3, e4.d (e3.d (eT.d dx)), fun H5 e5 => ?_⟩⟩
          cases h2 : goesWrong u (endOf u START pre) d k with
          | true => exact ⟨true, rfl, iteT ⟨_, rfl, n2 (by dsimp only; rw [h1, h2]; rfl) _ _ (e4.tr e5) (.str _)⟩⟩
          | false => exact ⟨false, rfl, iteF (n1 (by dsimp only; rw [h1, h2]; rfl) _ (e4.tr e5))⟩
      · have ey := dta_str (f := wishS) dz
        subst ey
        have hpe : H3 p = some (.lst (ps.map V.ref)) := e3 _ _ (eT _ _ hp')
        have hpn : H p = none := e1.none hp
        have hDp : D ≠ p := fun z => by
          rw [z] at hD
          rw [eT _ _ hp'] at hD
          cases hD
        have hpslen : ps.length < sizeLine := by
          have h1 := Paired.length hps
          rw [byList_len] at h1
          have h2 := congrArg List.length eh
          rw [List.length_append] at h2
          rw [h1, sizeLine_eq]
          omega
        refine ⟨_, rfl, .inl ⟨rfl, _, SqL.of hpe⟩, _, rfl, p, _, _, rfl, rfl, hpe, by rw [List.length_map]; exact hpslen, _, rfl, ?_⟩
        have tp : Tp H3 (upd H3 p (.lst (ps.map V.ref ++ [V.ref D]))) := Tp.w (NoTup.l hpe)
        have eo : Ex H' H3 := eT.tr e3
        refine ⟨pre ++ [d], suf', y2, _, _, _, ps ++ [D], by rw [eh, List.append_assoc]; rfl, by rw [List.length_append, el]; rfl, rfl, Evl.Ex.mut (e.tr eo) hpn, by rw [upd_ne (Ne.symm hpl)]; exact eo _ _ hl', tp.da (eo.da dl'), ?_, by rw [List.map_append]; exact upd_same, ?_⟩
        · rw [endOf_app]
          exact tp.d (eo.d dy2)
        · rw [byList_app]
          refine paired_app (paired_mono (fun a b q => ⟨?_, ?_⟩) hps) (.cons ⟨by rw [upd_ne hDp]; exact hD', hDp⟩ .nil)
          · rw [upd_ne q.2]
            exact eo _ _ q.1
          · exact q.2
    · rintro σ' H' ⟨pre, suf, x, o5, o6, o7, ps, eh, el, rfl, e, hl', dl', dx, hp', hps⟩
      have es := at_end eh el
      subst es
      rw [List.append_nil] at eh
      subst eh
      exact ⟨_, rfl, hq p ps H' (e1.none hp) e hp' (paired_mono (fun _ _ q => q.1) hps)⟩
end
end LapW
set_option Elab.async false
set_option linter.all false
set_option maxRecDepth 100000
set_option maxHeartbeats 4000000
namespace LapW
open PySem PySem.Spec PyProof.Rows L2 Lap

section
variable {X : Cx} {e : Expr} {es : List Expr} {te : L2.St → Hp → (Int → Int → Hp → Prop) → Prop} {t : TA} {p : Pos}
def tStarRg (te : L2.St → Hp → (Int → Int → Hp → Prop) → Prop) (t : TA) : TA := fun σ H Q => te σ H fun a b H1 => RgOk a b ∧ t σ H1 fun ys H2 => Q (rgV a b ++ ys) H2
theorem pa_starRg (hc : X.calm = true) (he : PRg X e te) (hr : PA X es t) (hs : starEach (.Starred e p :: es) X.env = (true, eval e X.env) :: starEach es X.env := by rfl) : PA X (.Starred e p :: es) (tStarRg te t) := by
  refine ⟨fun pos pins s σ H Q I h => ?_⟩
  refine PySem.W.items_star (thn (he pins s σ H _ I h) fun v s1 ⟨r, a, b, t1, t2, t3, H1, ex, hrg, I1, ok, q⟩ => ?_) hs
  subst ex
  obtain ⟨b1, b2, b3, b4, b5⟩ := ok
  have hT : s1.TypeIs (.ref r) "range" := ⟨_, hrg, rfl⟩
  unfold PySem.W.StarOf PySem.notIterableAtAll
  refine wpAny_bind (wpAny_specialOf hT PySem.F.slot_range_iter.lookup (wpAny_pure ⟨rfl, ?_⟩))
  refine collect_range (n := (b - a).toNat) (I1.ok.hd hc) hrg (small_one b1 b2 b3 b4) (rangeSize_nat a b) b5 fun h' tk acc hk hi => ?_
  have I2 : Inv X pins σ H1 { s1 with heap := h', toks := tk } := I1.kept hk
  exact thn (hr.run pos pins _ σ H1 _ I2 q) fun ws s3 ⟨vs, H3, I3, r3, q3⟩ => ⟨rgV a b ++ vs, H3, I3, (vals_rg hi).append r3, q3⟩
end
section
variable {P : Program} {w : World} {K : PySem.W.Frag} {mg : Str → Option Value} {base : Heap}
/-! ### all_for -/
abbrev s_all_for : Stmt := top 14
abbrev N_all_for : List Str := ["size", "name"]
theorem sc_all_for : FnScope N_all_for ["size", "name"] (defScope s_all_for) := ⟨rfl, rfl, rfl, by decide +kernel, rfl, by decide +kernel, by decide +kernel⟩
inductive Ru where
  | freeze | stop | hold | cut
  deriving DecidableEq
def ruS : Ru → Str
  | .freeze => "freeze" | .stop => "stop" | .hold => "hold" | .cut => "cut"
def allV : Ru → List V
  | .hold => [.str "no", .str "yes"]
  | .freeze => [.int 0, .int 1, .int 2]
  | .stop => [.non, .int 1, .int 2, .int 3, .int 4]
  | .cut => [.non, .int 1, .int 2, .int 3, .int 4]
def spAllFor : Sp := fun vs H Q _ => ∃ r, vs = [.int 4, .str (ruS r)] ∧ ∀ p H', H p = none → Ex H H' → H' p = some (.tup (allV r)) → Q (.ref p) H'
theorem cal_all_for (T : Tx K mg) : C8.Cal P w K mg base 1 "all_for" (spAllFor) [] := by
  refine cal_of T.g_all_for T.f_all_for sc_all_for (fun vs H Q E h => ?_) (fun _ _ _ _ _ _ us hl => match us, hl with | [_, _], _ => rfl) fun cdv A outer s H vs Q E hr h => ?_
  · obtain ⟨r, rfl, _⟩ := h
    rfl
  · obtain ⟨r, rfl, hq⟩ := h
    refine ⟨_, (pss_cons (ps_if (pt_cmpR op_eq (pv 1) pe_str (nomark _)) (pss_one (ps_ret (pe_tup (pa_cons pe_str (pa_cons pe_str pa_nil))))) pss_nil)
      (pss_cons (ps_if (pt_cmpR op_eq (pv 1) pe_str (nomark _)) (pss_one (ps_ret (pe_tupRg rfl rfl T.n_tuple (prg_1 rfl T.n_range (pe_op op_add (pe_op op_fdiv (pv 0) pe_int) pe_int))))) pss_nil)
      (pss_one (ps_ret (pe_tup (pa_cons pe_non (pa_starRg rfl (prg_2 rfl T.n_range pe_int (pe_op op_add (pv 0) pe_int)) pa_nil))))))), ?_⟩
    cases r with
    | hold => exact ⟨_, rfl, rfl, true, rfl, iteT ⟨by show 2 ≤ sizeLine; decide, fun p hp => hq p _ hp (Ex.nw hp) upd_same⟩⟩
    | freeze =>
      refine ⟨_, rfl, rfl, false, by decide +kernel, iteF ⟨_, rfl, rfl, true, rfl, iteT ⟨_, rfl, _, _, rfl, rfl, ⟨by decide, by decide⟩, _, _, rfl, rfl, _, rfl, ⟨by decide, by decide, by decide, by decide, by decide⟩, fun p hp => hq p _ hp (Ex.nw hp) ?_⟩⟩⟩
      exact upd_same
    | stop =>
      refine ⟨_, rfl, rfl, false, by decide +kernel, iteF ⟨_, rfl, rfl, false, by decide +kernel, iteF ⟨_, rfl, _, _, rfl, rfl, _, _, rfl, rfl, ⟨by decide, by decide, by decide, by decide, by decide⟩, by show 5 ≤ sizeLine; decide, fun p hp => hq p _ hp (Ex.nw hp) ?_⟩⟩⟩
      exact upd_same
    | cut =>
      refine ⟨_, rfl, rfl, false, by decide +kernel, iteF ⟨_, rfl, rfl, false, by decide +kernel, iteF ⟨_, rfl, _, _, rfl, rfl, _, _, rfl, rfl, ⟨by decide, by decide, by decide, by decide, by decide⟩, by show 5 ≤ sizeLine; decide, fun p hp => hq p _ hp (Ex.nw hp) ?_⟩⟩⟩
      exact upd_same

/-! ### can_be -/
abbrev s_can_be : Stmt := top 15
abbrev N_can_be : List Str := ["size", "name", "value"]
theorem sc_can_be : FnScope N_can_be ["size", "name", "value"] (defScope s_can_be) := ⟨rfl, rfl, rfl, by decide +kernel, rfl, by decide +kernel, by decide +kernel⟩
def RuOk : Ru → V → Prop
  | .hold, x => ∃ b, x = .str (holdS b)
  | .freeze, x => ∃ i : Int, x = .int i ∧ 0 ≤ i ∧ i ≤ 2
  | .stop, x => ∃ o, x = optV o ∧ LimOk o
  | .cut, x => ∃ o, x = optV o ∧ LimOk o
def spCanBe : Sp := fun vs H Q _ => ∃ r x, vs = [.int 4, .str (ruS r), x] ∧ RuOk r x ∧ RetB true H Q
theorem cal_can_be (T : Tx K mg) : C8.Cal P w K mg base 2 "can_be" (spCanBe) [] := by
  refine cal_of T.g_can_be T.f_can_be sc_can_be (fun vs H Q E h => ?_) (fun _ _ _ _ _ _ us hl => match us, hl with | [_, _, _], _ => rfl) fun cdv A outer s H vs Q E hr h => ?_
  · obtain ⟨r, x, rfl, _⟩ := h
    rfl
  · obtain ⟨r, x, rfl, ok, hq⟩ := h
    refine ⟨_, (pss_cons (ps_if (pt_cmpR op_eq (pv 1) pe_str (nomark _)) (pss_one (ps_ret (pe_and (pe_callB call_isi rfl T.n_isinstance (by decide +kernel) (pa_cons (pv 2) (pa_cons (pe_bltn (v := .ty "str") rfl T.n_str (by decide +kernel) rfl) pa_nil))) (pe_one (pe_cmpR op_in_seq (pv 2) (C8.pe_c (cal_all_for T) hr (by decide) rfl (pa_cons (pv 0) (pa_cons (pv 1) pa_nil))) rfl))))) pss_nil)
      (pss_cons (ps_if (pt_cmpR op_eq (pv 1) pe_str (nomark _)) (pss_one (ps_ret (C8.pe_c (cal_is_whole T) hr (by decide) rfl (pa_cons (pv 2) (pa_cons pe_int (pa_cons (pe_op op_fdiv (pv 0) pe_int) pa_nil)))))) pss_nil)
      (pss_one (ps_ret (pe_or (pe_cmp (pc_isN (pv 2))) (pe_one (C8.pe_c (cal_is_whole T) hr (by decide) rfl (pa_cons (pv 2) (pa_cons pe_int (pa_cons (pv 0) pa_nil)))))))))), ?_⟩
    cases r with
    | hold =>
      obtain ⟨b, rfl⟩ := ok
      refine ⟨_, rfl, rfl, true, rfl, iteT ⟨_, rfl, _, _, _, _, true, rfl, .ty "str", .base (.str _), kit_ty (by decide +kernel), true, rfl, iteT ?_⟩⟩
      refine ⟨_, rfl, _, rfl, _, rfl, .hold, rfl, fun p H1 hp e1 ht => ⟨p, _, rfl, .inr (.inl (.inl ht)), rfl, rfl, ?_⟩⟩
      cases b <;> exact hq _ e1
    | freeze =>
      obtain ⟨i, rfl, h1, h2⟩ := ok
      exact ⟨_, rfl, rfl, false, by decide +kernel, iteF ⟨_, rfl, rfl, true, rfl, iteT ⟨_, rfl, _, rfl, _, _, rfl, rfl, ⟨by decide, by decide⟩, _, _, _, rfl, ⟨h1, h2⟩, hq _ (Ex.rfl' _)⟩⟩⟩
    | stop =>
      obtain ⟨o, rfl, h1⟩ := ok
      refine ⟨_, rfl, rfl, false, by decide +kernel, iteF ⟨_, rfl, rfl, false, by decide +kernel, iteF ⟨_, rfl, ?_⟩⟩⟩
      cases o with
      | none => exact ⟨true, rfl, iteT (hq _ (Ex.rfl' _))⟩
      | some i => exact ⟨false, rfl, iteF ⟨_, rfl, _, rfl, _, _, _, rfl, h1, hq _ (Ex.rfl' _)⟩⟩
    | cut =>
      obtain ⟨o, rfl, h1⟩ := ok
      refine ⟨_, rfl, rfl, false, by decide +kernel, iteF ⟨_, rfl, rfl, false, by decide +kernel, iteF ⟨_, rfl, ?_⟩⟩⟩
      cases o with
      | none => exact ⟨true, rfl, iteT (hq _ (Ex.rfl' _))⟩
      | some i => exact ⟨false, rfl, iteF ⟨_, rfl, _, rfl, _, _, _, rfl, h1, hq _ (Ex.rfl' _)⟩⟩


/-! ### Wheel -/
abbrev s_Wheel___init__ : Stmt := inClass (top 16) 0
abbrev N_Wheel___init__ : List Str := ["self", "size", "freeze", "stop", "hold", "cut", "name", "value"]
theorem sc_Wheel___init__ : FnScope N_Wheel___init__ ["self", "size", "freeze", "stop", "hold", "cut"] (defScope s_Wheel___init__) := ⟨rfl, rfl, rfl, by decide +kernel, rfl, by decide +kernel, by decide +kernel⟩
def rulesV (u : Wh) : List V := [.int u.freeze, optV u.stop, .str (holdS u.hold), optV u.cut]
def RUS : List Ru := [.freeze, .stop, .hold, .cut]
theorem rus_ok {u : Wh} (ok : WOk u) {i : Nat} {x y : V} (hi : ([V.str "freeze", V.str "stop", V.str "hold", V.str "cut"] : List V)[i]? = some x) (hy : (rulesV u)[i]? = some y) : ∃ r, x = .str (ruS r) ∧ RuOk r y := by
  match i, hi, hy with
  | 0, hi, hy => cases hi; cases hy; exact ⟨.freeze, rfl, _, rfl, ok.fr⟩
  | 1, hi, hy => cases hi; cases hy; exact ⟨.stop, rfl, _, rfl, ok.st⟩
  | 2, hi, hy => cases hi; cases hy; exact ⟨.hold, rfl, _, rfl⟩
  | 3, hi, hy => cases hi; cases hy; exact ⟨.cut, rfl, _, rfl, ok.ct⟩
def spWheelI (K : PySem.W.Frag) : Sp := fun vs H Q _ => ∃ (a dx : Addr) (u : Wh), vs = V.ref a :: V.int 4 :: rulesV u ∧ H a = some (.ins (He.ga K "Wheel") dx []) ∧ WOk u ∧ ∀ H', Ex H H' → Q .non (upd H' a (.ins (He.ga K "Wheel") dx (whF u)))
theorem fn_Wheel (T : Tx K mg) {fd : FuncData} (F : FunD K "__init__" "Wheel.__init__" (defArgs (inClass (top 16) 0)) (defBody (inClass (top 16) 0)) (defScope (inClass (top 16) 0)) [] [("freeze", .int 1), ("stop", .non), ("hold", .str "yes"), ("cut", .non)] (He.ma K (He.ga K "Wheel") "__init__") fd) :
    FnOk P w K mg base C8.CX0 3 (He.ma K (He.ga K "Wheel") "__init__") fd ["self", "size", "freeze", "stop", "hold", "cut"] (spWheelI K) := by
  refine F.ok sc_Wheel___init__ (fun vs H Q E h => ?_) fun cdv A outer s H vs Q E hr h => ?_
  · obtain ⟨a, dx, u, rfl, _⟩ := h
    rfl
  · obtain ⟨a, dx, u, rfl, ha, ok, hq⟩ := h
    suffices h : ∃ t, PSs (cxOf C8.CX0 P w K mg base N_Wheel___init__ "Wheel.__init__" (defScope s_Wheel___init__) (He.ma K (He.ga K "Wheel") "__init__") cdv A outer s H E).nox (defBody s_Wheel___init__) t ∧ t { nx := fun _ H' => Q .non H', rt := Q } (start N_Wheel___init__ (V.ref a :: V.int 4 :: rulesV u)) H from by
      obtain ⟨t, ht, q⟩ := h
      exact ⟨t, ht.nox, q⟩
    refine ⟨_, (pss_cons (ps_if (PW.pt (pw_or (pt_not (pt_val (C8.pe_c (cal_is_whole T) hr (by decide) rfl (pa_cons (pv 1) (pa_cons pe_int (pa_cons pe_int pa_nil)))))) (pw_or1 (pt_cmpR op_notIn_seq (pv 1) (C8.pe_gc rfl T.c_SIZES) rfl)))) (pss_one ps_never) pss_nil)
      (pss_cons (ps_for PassesOwn.never rfl (RZ.pi_zipA rfl T.n_zip (pa_cons (C8.pe_gc rfl T.c_RULES) (pa_cons (pe_tup (pa_cons (pv 2) (pa_cons (pv 3) (pa_cons (pv 4) (pa_cons (pv 5) pa_nil))))) pa_nil))) (pg_tup rfl (pgs_cons (pg_name (i := 6) sc_Wheel___init__.nd rfl (Or.inl rfl)) (pgs_cons (pg_name (i := 7) sc_Wheel___init__.nd rfl (Or.inl rfl)) pgs_nil)))
        (pss_one (ps_if (pt_not (pt_val (C8.pe_c (cal_can_be T) hr (by decide) rfl (pa_cons (pv 1) (pa_cons (pv 6) (pa_cons (pv 7) pa_nil)))))) (pss_one ps_never) pss_nil)))
      (pss_cons (ps_fld (pv 0) (pv 1) rfl)
      (pss_cons (ps_fld (pv 0) (pv 2) rfl)
      (pss_cons (ps_fld (pv 0) (pv 3) rfl)
      (pss_cons (ps_fld (pv 0) (pv 4) rfl)
      (pss_one (ps_fld (pv 0) (pv 5) rfl)))))))), ?_⟩
    refine ⟨_, rfl, _, _, _, rfl, ⟨by decide, by decide⟩, true, rfl, iteF ?_⟩
    refine ⟨_, rfl, _, _, rfl, .inr (T.t_SIZES _), rfl, rfl, false, by decide +kernel, iteF ?_⟩
    refine ⟨_, rfl, _, rfl, _, rfl, _, rfl, by show 4 ≤ sizeLine; decide, fun tt htt => ⟨_, tt, _, _, rfl, .inr ⟨T.t_RULES _, sqt_new, ?_⟩⟩⟩
    have e0 : Ex H (upd H tt (.tup (rulesV u))) := Ex.nw htt
    refine RZ.for_zipT (xs := [V.str "freeze", V.str "stop", V.str "hold", V.str "cut"]) (ys := rulesV u) rfl (fun _ σ' H' => ∃ o1 o2, σ' = [some (V.ref a), some (.int 4), some (.int u.freeze), some (optV u.stop), some (.str (holdS u.hold)), some (optV u.cut), o1, o2] ∧ Ex (upd H tt (.tup (rulesV u))) H') ⟨_, _, rfl, Ex.rfl' _⟩ (fun i σ' H' h => ?_) ?_ ?_
    · obtain ⟨_, _, _, e⟩ := h
      exact ⟨T.t_RULES _, e.t sqt_new⟩
    · rintro i y z T2 σ' H' hy hz ⟨o1, o2, rfl, e⟩ hT2
      obtain ⟨r, rfl, hr2⟩ := rus_ok ok hy hz
      refine ⟨T2, _, rfl, sqt_new, rfl, _, _, rfl, _, _, rfl, rfl, ?_⟩
      exact ⟨_, rfl, _, rfl, _, rfl, r, z, rfl, hr2, fun H2 e2 => ⟨true, rfl, iteF ⟨_, _, rfl, (e.nx hT2).tr e2⟩⟩⟩
    · rintro σ' H' ⟨o1, o2, rfl, e⟩
      have ha' := e _ _ (e0 _ _ ha)
      refine ⟨_, rfl, _, rfl, a, _, dx, [], rfl, ha', T.cl_Wheel, T.n_Wheel_size, by show 0 < 1000; decide, ?_⟩
      refine ⟨_, rfl, _, rfl, a, _, dx, _, rfl, upd_same, T.cl_Wheel, T.n_Wheel_freeze, by show 1 < 1000; decide, ?_⟩
      refine ⟨_, rfl, _, rfl, a, _, dx, _, rfl, upd_same, T.cl_Wheel, T.n_Wheel_stop, by show 2 < 1000; decide, ?_⟩
      refine ⟨_, rfl, _, rfl, a, _, dx, _, rfl, upd_same, T.cl_Wheel, T.n_Wheel_hold, by show 3 < 1000; decide, ?_⟩
      refine ⟨_, rfl, _, rfl, a, _, dx, _, rfl, upd_same, T.cl_Wheel, T.n_Wheel_cut, by show 4 < 1000; decide, ?_⟩
      rw [upd_upd', upd_upd', upd_upd', upd_upd']
      exact hq _ (e0.tr e)


theorem pe_wheel {X : Cx} {j : Nat} {e : Expr} {kws : List Keyword} {p pos : Pos} {t tk : TA} (hP : X.prog = P) (hw : X.w = w) (hK : X.K = K) (hmg : X.mg = mg) (hb : X.base = base) (T : Tx K mg) (hr : Room j X.A) (hk : 4 ≤ j) (hg : Gl X "Wheel") (ha : PA X [e] t) (hkw : PK X kws tk)
    (hall : (backToKw pos (keywordEach kws X.env)).all (·.1.isSome) = true := by rfl) (hks : (backToKw pos (keywordEach kws X.env)).filterMap (·.1) = (["freeze", "stop", "hold", "cut"] : List Str) := by rfl)
    (he : starEach [e] X.env = (false, eval e X.env) :: starEach [] X.env := by rfl) (hpl : ((backTo pos (starEach [e] X.env)).any (·.1) || (backToKw pos (keywordEach kws X.env)).any (·.1.isNone)) = false := by rfl) :
    PE X (.Call (.Name "Wheel" p) [e] kws pos) (tMakeK (He.ga K "Wheel") 1 4 (spWheelI K) (fun vs zs => vs ++ zs) C8.E0 t tk) := by
  subst hP hw hK hmg hb
  obtain ⟨fd, F⟩ := T.f_Wheel
  have fn := fn_Wheel (P := X.prog) (w := X.w) (base := X.base) T F
  obtain ⟨mv, hbn⟩ := F.kbinds0 (ps := ["self", "size", "freeze", "stop", "hold", "cut"]) 2 ["freeze", "stop", "hold", "cut"] [] (fun us _ ws => us ++ ws) (fun z => nomatch z) (fun _ hq => nomatch hq) (fun r1 _ r2 => r1.append r2) (fun D doc pm an cdv ct us mv ws l1 l2 l3 => by
    match us, l1, mv, l2, ws, l3 with
    | [_, _], _, [], _, [_, _, _, _], _ => rfl)
  exact pe_makeK (n := 1) T.mk_Wheel fn (hr.mono hk) hg T.g_Wheel hbn C8.pass0 ha hkw hall hks (by decide) he hpl

/-! ### made -/
abbrev s_made : Stmt := top 17
abbrev N_made : List Str := ["size", "row"]
theorem sc_made : FnScope N_made ["size", "row"] (defScope s_made) := ⟨rfl, rfl, rfl, by decide +kernel, rfl, by decide +kernel, by decide +kernel⟩
def RetW (K : PySem.W.Frag) (u : Wh) (H : Hp) (Q : VK) : Prop := ∀ x H', Ex H H' → WhAt K H' x u → Q x H'
def spMade (K : PySem.W.Frag) : Sp := fun vs H Q _ => ∃ (t : Addr) (u : Wh), vs = [.int 4, .ref t] ∧ SqT K H t (rulesV u) ∧ WOk u ∧ RetW K u H Q
theorem cal_made (T : Tx K mg) : C8.Cal P w K mg base 5 "made" (spMade K) [] := by
  refine cal_of T.g_made T.f_made sc_made (fun vs H Q E h => ?_) (fun _ _ _ _ _ _ us hl => match us, hl with | [_, _], _ => rfl) fun cdv A outer s H vs Q E hr h => ?_
  · obtain ⟨t, u, rfl, _⟩ := h
    rfl
  · obtain ⟨t, u, rfl, ht, ok, hq⟩ := h
    refine ⟨_, (pss_one (ps_ret (pe_wheel (P := P) (w := w) (K := K) (mg := mg) (base := base) rfl rfl rfl rfl rfl T hr (by decide) rfl (pa_cons (pv 0) pa_nil) (pk_cons (pe_ix ix_tup (pv 1) pe_int (fun _ _ => rfl)) (pk_cons (pe_ix ix_tup (pv 1) pe_int (fun _ _ => rfl)) (pk_cons (pe_ix ix_tup (pv 1) pe_int (fun _ _ => rfl)) (pk_cons (pe_ix ix_tup (pv 1) pe_int (fun _ _ => rfl)) pk_nil))))))), ?_⟩
    refine ⟨_, rfl, _, rfl, t, _, 0, _, rfl, rfl, ht, rfl, _, rfl, t, _, 1, _, rfl, rfl, ht, rfl, _, rfl, t, _, 2, _, rfl, rfl, ht, rfl, _, rfl, t, _, 3, _, rfl, rfl, ht, rfl, rfl, rfl, fun x dx h1 h2 hne => ?_⟩
    refine ⟨x, dx, u, rfl, upd_same, ok, fun H1 e1 => ⟨rfl, hq _ _ ?_ ⟨x, dx, rfl, upd_same⟩⟩⟩
    exact Evl.Ex.mut ((ex_make h1 h2 hne).tr e1) h1

/-! ### Wheel.rules -/
abbrev s_Wheel_rules : Stmt := inClass (top 16) 4
abbrev N_Wheel_rules : List Str := ["self"]
theorem sc_Wheel_rules : FnScope N_Wheel_rules ["self"] (defScope s_Wheel_rules) := ⟨rfl, rfl, rfl, by decide +kernel, rfl, by decide +kernel, by decide +kernel⟩
def spRules (K : PySem.W.Frag) : Sp := fun vs H Q _ => ∃ (v : V) (u : Wh), vs = [v] ∧ WhAt K H v u ∧ ∀ p H', H p = none → Ex H H' → H' p = some (.tup (rulesV u)) → Q (.ref p) H'
theorem met_rules (T : Tx K mg) : C8.Met P w K mg base 1 (He.ga K "Wheel") "rules" (spRules K) [] := by
  refine met_of T.cl_Wheel T.m_rules T.f_rules sc_Wheel_rules (fun vs H Q E h => ?_) (fun _ _ _ _ _ _ us hl => match us, hl with | [_], _ => rfl) fun cdv A outer s H vs Q E hr h => ?_
  · obtain ⟨v, u, rfl, _⟩ := h
    rfl
  · obtain ⟨v, u, rfl, hx, hq⟩ := h
    refine ⟨_, (pss_one (ps_ret (pe_tup (pa_cons (pe_freeze T (pv 0)) (pa_cons (pe_stop T (pv 0)) (pa_cons (pe_hold T (pv 0)) (pa_cons (pe_cut T (pv 0)) pa_nil))))))), ?_⟩
    exact ⟨_, rfl, u, hx, _, rfl, u, hx, _, rfl, u, hx, _, rfl, u, hx, by show 4 ≤ sizeLine; decide, fun p hp => hq p _ hp (Ex.nw hp) upd_same⟩
end
end LapW
set_option Elab.async false
set_option linter.all false
set_option maxRecDepth 100000
set_option maxHeartbeats 4000000
namespace LapW
open PySem PySem.Spec PyProof.Rows L2 Lap

section
variable {P : Program} {w : World} {K : PySem.W.Frag} {mg : Str → Option Value} {base : Heap}
/-! ### Wheel.but -/
abbrev s_Wheel_but : Stmt := inClass (top 16) 5
abbrev N_Wheel_but : List Str := ["self", "name", "thing", "place", "row"]
theorem sc_Wheel_but : FnScope N_Wheel_but ["self", "name", "thing"] (defScope s_Wheel_but) := ⟨rfl, rfl, rfl, by decide +kernel, rfl, by decide +kernel, by decide +kernel⟩
theorem no_before (j : Nat) (ys : List Str) (z : Str) (h : ((ys.take j).contains z) = false) : ∀ m, m < j → ys[m]? ≠ some z := fun m hm e => by
  have h1 : (ys.take j)[m]? = some z := by rw [List.getElem?_take_of_lt hm]; exact e
  have h2 := List.mem_of_getElem? h1
  rw [List.contains_eq_mem, decide_eq_true h2] at h
  cases h
def withRu (u : Wh) : Ru → V → Wh → Prop
  | .stop, x, u' => ∃ o, x = optV o ∧ u' = withStop u o
  | .cut, x, u' => ∃ o, x = optV o ∧ u' = withCut u o
  | .hold, x, u' => ∃ b, x = .str (holdS b) ∧ u' = { u with hold := b }
  | .freeze, _, _ => False
def spBut (K : PySem.W.Frag) : Sp := fun vs H Q _ => ∃ (v : V) (u : Wh) (r : Ru) (x : V), vs = [v, .str (ruS r), x] ∧ WhAt K H v u ∧ WOk u ∧ r ≠ .freeze ∧ ∃ u', withRu u r x u' ∧ WOk u' ∧ RetW K u' H Q
theorem met_but (T : Tx K mg) : C8.Met P w K mg base 6 (He.ga K "Wheel") "but" (spBut K) [] := by
  refine met_of T.cl_Wheel T.m_but T.f_but sc_Wheel_but (fun vs H Q E h => ?_) (fun _ _ _ _ _ _ us hl => match us, hl with | [_, _, _], _ => rfl) fun cdv A outer s H vs Q E hr h => ?_
  · obtain ⟨v, u, r, x, rfl, _⟩ := h
    rfl
  · obtain ⟨v, u, r, x, rfl, hx, ok, hr2, hq⟩ := h
    refine ⟨_, (pss_cons (ps_if (PW.pt (pw_or (pt_not (pt_val (pe_callB call_isi rfl T.n_isinstance (by decide +kernel) (pa_cons (pv 1) (pa_cons (pe_bltn (v := .ty "str") rfl T.n_str (by decide +kernel) rfl) pa_nil))))) (pw_or1 (pt_cmpR op_notIn_seq (pv 1) (C8.pe_gc rfl T.c_RULES) rfl)))) (pss_one ps_never) pss_nil)
      (pss_cons (ps_set (i := 3) sc_Wheel_but.nd rfl (Or.inl rfl) (pe_bm PySem.F.plainAttrs_tuple PySem.F.slot_tuple_index PySem.F.type_tuple_index mt_tup_index (C8.pe_gc rfl T.c_RULES) (pa_cons (pv 1) pa_nil)))
      (pss_cons (ps_set (i := 4) sc_Wheel_but.nd rfl (Or.inl rfl) (C8.pe_mt0 (met_rules T) hr (by decide) (pv 0)))
      (pss_one (ps_ret (C8.pe_c (cal_made T) hr (by decide) rfl (pa_cons (pe_size T (pv 0)) (pa_cons (pe_tup (StX.pa_star (pe_slice sl_tup (pv 4) po_none (po_some (pv 3))) (pa_cons (pv 2) (StX.pa_star (pe_slice sl_tup (pv 4) (po_some (pe_op op_add (pv 3) pe_int)) po_none) pa_nil)))) pa_nil)))))))), ?_⟩
    obtain ⟨dd, hdl, hdc, hdn⟩ := T.d_RULES
    refine ⟨_, rfl, _, _, _, _, true, rfl, .ty "str", .base (.str _), kit_ty (by decide +kernel), true, rfl, iteF ?_⟩
    have hru : V.bl (if true = true then !inV (V.str (ruS r)) [.str "freeze", .str "stop", .str "hold", .str "cut"] else inV (V.str (ruS r)) [.str "freeze", .str "stop", .str "hold", .str "cut"]) = V.bl false := by cases r <;> decide +kernel
    refine ⟨_, rfl, _, _, rfl, .inr (T.t_RULES _), rfl, rfl, false, hru, iteF ?_⟩
    have tv : tyV K "tuple" (V.ref (He.ga K "RULES")) H := .inr (.inl ⟨rfl, dd, hdl, hdc, hdn⟩)
    cases r with
    | freeze => exact absurd rfl hr2
    | stop =>
      obtain ⟨u', hw, ok', hq⟩ := hq
      obtain ⟨o, rfl, rfl⟩ := hw
      refine ⟨tv, _, rfl, _, ["freeze", "stop", "hold", "cut"], "stop", 1, rfl, rfl, T.t_RULES _, rfl, no_before 1 _ _ (by decide +kernel), ?_⟩
      obtain ⟨a, dx, rfl, ha⟩ := hx
      refine ⟨_, rfl, a, dx, _, rfl, ha, rfl, _, u, rfl, ⟨a, dx, rfl, ha⟩, fun p H1 hp e1 ht => ?_⟩
      have ht : SqT K H1 p (rulesV u) := .inl (.inl ht)
      refine ⟨_, rfl, u, e1.wh ⟨a, dx, rfl, ha⟩, _, rfl, _, rfl, _, rfl, p, _, rfl, ht, by show ¬(HT.sIx 4 0 none = 0 ∧ HT.sIx 4 4 (some 1) = 4); decide, fun p1 hp1 => ⟨p1, _, rfl, .inl sqt_new, _, rfl, _, rfl, _, rfl, _, _, rfl, rfl, _, rfl, p, _, rfl, (Ex.nw hp1).t ht, by show ¬(HT.sIx 4 0 (some 2) = 0 ∧ HT.sIx 4 4 none = 4); decide, fun p2 hp2 => ⟨p2, _, rfl, .inl sqt_new, by show 4 ≤ sizeLine; decide, fun p3 hp3 => ?_⟩⟩⟩
      exact ⟨p3, _, rfl, sqt_new, ok', fun x H2 e2 hx2 => hq x H2 (((e1.nx hp1).nx hp2).nx hp3 |>.tr e2) hx2⟩
    | hold =>
      obtain ⟨u', hw, ok', hq⟩ := hq
      obtain ⟨b, rfl, rfl⟩ := hw
      refine ⟨tv, _, rfl, _, ["freeze", "stop", "hold", "cut"], "hold", 2, rfl, rfl, T.t_RULES _, rfl, no_before 2 _ _ (by decide +kernel), ?_⟩
      obtain ⟨a, dx, rfl, ha⟩ := hx
      refine ⟨_, rfl, a, dx, _, rfl, ha, rfl, _, u, rfl, ⟨a, dx, rfl, ha⟩, fun p H1 hp e1 ht => ?_⟩
      have ht : SqT K H1 p (rulesV u) := .inl (.inl ht)
      refine ⟨_, rfl, u, e1.wh ⟨a, dx, rfl, ha⟩, _, rfl, _, rfl, _, rfl, p, _, rfl, ht, by show ¬(HT.sIx 4 0 none = 0 ∧ HT.sIx 4 4 (some 2) = 4); decide, fun p1 hp1 => ⟨p1, _, rfl, .inl sqt_new, _, rfl, _, rfl, _, rfl, _, _, rfl, rfl, _, rfl, p, _, rfl, (Ex.nw hp1).t ht, by show ¬(HT.sIx 4 0 (some 3) = 0 ∧ HT.sIx 4 4 none = 4); decide, fun p2 hp2 => ⟨p2, _, rfl, .inl sqt_new, by show 4 ≤ sizeLine; decide, fun p3 hp3 => ?_⟩⟩⟩
      exact ⟨p3, _, rfl, sqt_new, ok', fun x H2 e2 hx2 => hq x H2 (((e1.nx hp1).nx hp2).nx hp3 |>.tr e2) hx2⟩
    | cut =>
      obtain ⟨u', hw, ok', hq⟩ := hq
      obtain ⟨o, rfl, rfl⟩ := hw
      refine ⟨tv, _, rfl, _, ["freeze", "stop", "hold", "cut"], "cut", 3, rfl, rfl, T.t_RULES _, rfl, no_before 3 _ _ (by decide +kernel), ?_⟩
      obtain ⟨a, dx, rfl, ha⟩ := hx
      refine ⟨_, rfl, a, dx, _, rfl, ha, rfl, _, u, rfl, ⟨a, dx, rfl, ha⟩, fun p H1 hp e1 ht => ?_⟩
      have ht : SqT K H1 p (rulesV u) := .inl (.inl ht)
      refine ⟨_, rfl, u, e1.wh ⟨a, dx, rfl, ha⟩, _, rfl, _, rfl, _, rfl, p, _, rfl, ht, by show ¬(HT.sIx 4 0 none = 0 ∧ HT.sIx 4 4 (some 3) = 4); decide, fun p1 hp1 => ⟨p1, _, rfl, .inl sqt_new, _, rfl, _, rfl, _, rfl, _, _, rfl, rfl, _, rfl, p, _, rfl, (Ex.nw hp1).t ht, by show ¬(HT.sIx 4 0 (some 4) = 0 ∧ HT.sIx 4 4 none = 4); decide, fun p2 hp2 => ⟨p2, _, rfl, .inl sqt_new, by show 4 ≤ sizeLine; decide, fun p3 hp3 => ?_⟩⟩⟩
      exact ⟨p3, _, rfl, sqt_new, ok', fun x H2 e2 hx2 => hq x H2 (((e1.nx hp1).nx hp2).nx hp3 |>.tr e2) hx2⟩

/-! ### check_all2 -/
abbrev s_check_all2 : Stmt := top 80
abbrev N_check_all2 : List Str := ["wheel", "name", "wish"]
theorem sc_check_all2 : FnScope N_check_all2 ["wheel", "name", "wish"] (defScope s_check_all2) := ⟨rfl, rfl, rfl, by decide +kernel, rfl, by decide +kernel, by decide +kernel⟩
def spCheckG (K : PySem.W.Frag) : Sp := fun vs H Q _ => ∃ (v : V) (u : Wh) (r : Ru) (k : Wish), vs = [v, .str (ruS r), .str (wishS k)] ∧ WhAt K H v u ∧ (r = .stop ∨ r = .cut) ∧ ¬ k = .stands ∧ Q .non H
theorem cal_check_all2 (T : Tx K mg) : C8.Cal P w K mg base 3 "check_all_greatest" (spCheckG K) [] := by
  refine cal_of T.g_check_all2 T.f_check_all2 sc_check_all2 (fun vs H Q E h => ?_) (fun _ _ _ _ _ _ us hl => match us, hl with | [_, _, _], _ => rfl) fun cdv A outer s H vs Q E hr h => ?_
  · obtain ⟨v, u, r, k, rfl, _⟩ := h
    rfl
  · obtain ⟨v, u, r, k, rfl, hx, hr2, hk, hq⟩ := h
    refine ⟨_, (pss_cons (ps_expr (C8.pe_c (cal_check_wheel T) hr (by decide) rfl (pa_cons (pv 0) pa_nil)))
      (pss_cons (ps_if (PW.pt (pw_or (pt_not (pt_val (pe_callB call_isi rfl T.n_isinstance (by decide +kernel) (pa_cons (pv 1) (pa_cons (pe_bltn (v := .ty "str") rfl T.n_str (by decide +kernel) rfl) pa_nil))))) (pw_or1 (pt_cmpR op_notIn_seq (pv 1) (C8.pe_gc rfl T.c_NAMES) rfl)))) (pss_one ps_never) pss_nil)
      (pss_cons (ps_expr (C8.pe_c (cal_check_wish T) hr (by decide) rfl (pa_cons (pv 0) (pa_cons (pv 2) pa_nil))))
      (pss_one (ps_if (pt_cmpR op_eq (pv 2) pe_str (nomark _)) (pss_one ps_never) pss_nil))))), ?_⟩
    refine ⟨_, rfl, _, _, rfl, hx, _, rfl, _, _, _, _, true, rfl, .ty "str", .base (.str _), kit_ty (by decide +kernel), true, rfl, iteF ?_⟩
    have hna : V.bl (if true = true then !inV (V.str (ruS r)) [.str "cut", .str "stop"] else inV (V.str (ruS r)) [.str "cut", .str "stop"]) = V.bl false := by rcases hr2 with rfl | rfl <;> decide +kernel
    refine ⟨_, rfl, _, _, rfl, .inr (T.t_NAMES _), rfl, rfl, false, hna, iteF ?_⟩
    refine ⟨_, rfl, _, rfl, v, u, k, rfl, hx, ?_⟩
    exact ⟨_, rfl, rfl, false, wne hk, iteF hq⟩

/-! ### Greatest.__init__ -/
abbrev s_Greatest___init__ : Stmt := inClass (top 79) 0
abbrev N_Greatest___init__ : List Str := ["self", "number", "states", "history"]
theorem sc_Greatest___init__ : FnScope N_Greatest___init__ ["self", "number", "states", "history"] (defScope s_Greatest___init__) := ⟨rfl, rfl, rfl, by decide +kernel, rfl, by decide +kernel, by decide +kernel⟩
theorem sql_upd {K : PySem.W.Frag} {H : Hp} {a p C dx : Addr} {fs : List (Str × V)} {o : HO} {ys : List V} (ha : H a = some (.ins C dx fs)) (h : SqL K H p ys) : SqL K (upd H a o) p ys := by
  rcases h with h | h
  · have hne : p ≠ a := fun z => by
      subst z
      rcases h with h | ⟨ob, h⟩ <;> (rw [ha] at h; cases h)
    rcases h with h | ⟨ob, h⟩
    · exact .inl (.inl (by rw [upd_ne hne]; exact h))
    · exact .inl (.inr ⟨ob, by rw [upd_ne hne]; exact h⟩)
  · exact .inr h
theorem notup_ins {H : Hp} {a C dx : Addr} {fs : List (Str × V)} (ha : H a = some (.ins C dx fs)) : NoTup (H a) := fun xs => by
  rw [ha]
  exact ⟨(fun e => by cases e), (fun ob e => by cases e)⟩
def spGreatestI (K : PySem.W.Frag) : Sp := fun vs H Q _ => ∃ (a dx : Addr) (i : Int) (p : Addr) (ys : List V) (t : Addr) (zs : List V), vs = [.ref a, .int i, .ref p, .ref t] ∧ H a = some (.ins (He.ga K "Greatest") dx []) ∧ SqL K H p ys ∧ SqT K H t zs ∧
  ∀ H' fs, (∀ x o, x ≠ a → H x = some o → H' x = some o) → Q .non (upd H' a (.ins (He.ga K "Greatest") dx (("number", .int i) :: fs)))
theorem mak_Greatest (T : Tx K mg) : C8.Mak P w K mg base 1 "Greatest" (He.ga K "Greatest") (spGreatestI K) [] := by
  refine mak_of T.mk_Greatest T.g_Greatest T.f_Greatest sc_Greatest___init__ (fun vs H Q E h => ?_) (fun _ _ _ _ _ _ us hl => match us, hl with | [_, _, _, _], _ => rfl) fun cdv A outer s H vs Q E hr h => ?_
  · obtain ⟨a, dx, i, p, ys, t, zs, rfl, _⟩ := h
    rfl
  · obtain ⟨a, dx, i, p, ys, t, zs, rfl, ha, hp, ht, hq⟩ := h
    refine ⟨_, (pss_cons (ps_fld (pv 0) (pv 1) rfl)
      (pss_cons (ps_fld (pv 0) (pe_callTy call_list_of rfl T.n_list (by decide +kernel) (pa_cons (pv 2) pa_nil)) rfl)
      (pss_one (ps_fld (pv 0) (pe_callTy call_tuple_of rfl T.n_tuple (by decide +kernel) (pa_cons (pv 3) pa_nil)) rfl)))), ?_⟩
    refine ⟨_, rfl, _, rfl, a, _, dx, [], rfl, ha, T.cl_Greatest, T.n_Greatest_number, by show 0 < 1000; decide, ?_⟩
    refine ⟨_, rfl, p, ys, rfl, .inl (sql_upd ha hp), fun l hl => ⟨_, rfl, a, _, dx, _, rfl, by rw [upd_ne (ne_of_none upd_same hl)]; exact upd_same, T.cl_Greatest, T.n_Greatest_states, by show 1 < 1000; decide, ?_⟩⟩
    have t1 : Tp H (upd (upd H a (.ins (He.ga K "Greatest") dx [("number", .int i)])) l (.lst ys)) := (Tp.w (notup_ins ha)).tr (Ex.nw hl).tp
    refine ⟨_, rfl, t, zs, rfl, .inr ⟨(t1.tr (Tp.w (notup_ins (by rw [upd_ne (ne_of_none upd_same hl)]; exact upd_same)))).t ht, _, rfl, a, _, dx, _, rfl, upd_same, T.cl_Greatest, T.n_Greatest_history, by show 2 < 1000; decide, ?_⟩⟩
    rw [upd_upd']
    refine hq _ [("states", .ref l), ("history", .ref t)] fun x o hx ho => ?_
    have h1 : upd H a (.ins (He.ga K "Greatest") dx [("number", .int i)]) x = some o := by rw [upd_ne hx]; exact ho
    rw [upd_ne (ne_of_none h1 hl)]
    exact h1

/-! ### greatest -/
abbrev s_greatest : Stmt := top 82
abbrev N_greatest : List Str := ["wheel", "name", "wish", "states", "number", "found"]
theorem sc_greatest : FnScope N_greatest ["wheel", "name", "wish"] (defScope s_greatest) := ⟨rfl, rfl, rfl, by decide +kernel, rfl, by decide +kernel, by decide +kernel⟩
def withR (u : Wh) : Ru → Option Int → Wh
  | .stop, o => withStop u o
  | _, o => withCut u o
theorem wok_r {u : Wh} (ok : WOk u) {r : Ru} (hr : r = .stop ∨ r = .cut) {n : Int} (h1 : 1 ≤ n) (h2 : n ≤ 4) : WOk (withR u r (some n)) := by
  rcases hr with rfl | rfl
  · exact ⟨ok.fr, ⟨h1, h2⟩, ok.ct⟩
  · exact ⟨ok.fr, ok.st, ⟨h1, h2⟩⟩
theorem great_at {f : Int → Bool} {i : Nat} (hi : i < 4) (good : ∀ j : Nat, j < i → f (1 + (j : Nat)) = true) (bad : f (1 + (i : Nat)) = false) : greatestN f = (i : Nat) := by
  unfold greatestN
  match i, hi, good, bad with
  | 0, _, _, bad =>
    have b : f 1 = false := bad
    rw [b]
    rfl
  | 1, _, good, bad =>
    have g0 : f 1 = true := good 0 (by decide)
    have b : f 2 = false := bad
    rw [g0, b]
    rfl
  | 2, _, good, bad =>
    have g0 : f 1 = true := good 0 (by decide)
    have g1 : f 2 = true := good 1 (by decide)
    have b : f 3 = false := bad
    rw [g0, g1, b]
    rfl
  | 3, _, good, bad =>
    have g0 : f 1 = true := good 0 (by decide)
    have g1 : f 2 = true := good 1 (by decide)
    have g2 : f 3 = true := good 2 (by decide)
    have b : f 4 = false := bad
    rw [g0, g1, g2, b]
    rfl
theorem great_all {f : Int → Bool} (good : ∀ j : Nat, j < 4 → f (1 + (j : Nat)) = true) : greatestN f = (4 : Nat) := by
  unfold greatestN
  have g0 : f 1 = true := good 0 (by decide)
  have g1 : f 2 = true := good 1 (by decide)
  have g2 : f 3 = true := good 2 (by decide)
  have g3 : f 4 = true := good 3 (by decide)
  rw [g0, g1, g2, g3]
  rfl
def spGreatest (K : PySem.W.Frag) : Sp := fun vs H Q _ => ∃ (v : V) (u : Wh) (r : Ru) (k : Wish), vs = [v, .str (ruS r), .str (wishS k)] ∧ WhAt K H v u ∧ WOk u ∧ (r = .stop ∨ r = .cut) ∧ ¬ k = .stands ∧
  ∀ a H' dx fs, Ex H H' → H' a = some (.ins (He.ga K "Greatest") dx (("number", .int (greatestN fun i => safe (withR u r (some i)) k)) :: fs)) → Q (.ref a) H'
theorem cal_greatest (T : Tx K mg) : C8.Cal P w K mg base 7 "greatest" (spGreatest K) [] := by
  refine cal_of T.g_greatest T.f_greatest sc_greatest (fun vs H Q E h => ?_) (fun _ _ _ _ _ _ us hl => match us, hl with | [_, _, _], _ => rfl) fun cdv A outer s H vs Q E hr h => ?_
  · obtain ⟨v, u, r, k, rfl, _⟩ := h
    rfl
  · obtain ⟨v, u, r, k, rfl, hx, ok, hr2, hk, hq⟩ := h
    refine ⟨_, (pss_cons (ps_expr (C8.pe_c (cal_check_all2 T) hr (by decide) rfl (pa_cons (pv 0) (pa_cons (pv 1) (pa_cons (pv 2) pa_nil)))))
      (pss_cons (ps_set (i := 3) sc_greatest.nd rfl (Or.inl rfl) (pe_lst pa_nil))
      (pss_cons (ps_for PassesOwn.never rfl (pi_range2 rfl T.n_range (pa_cons pe_int (pa_cons (pe_op op_add (pe_size T (pv 0)) pe_int) pa_nil))) (pg_name (i := 4) sc_greatest.nd rfl (Or.inl rfl))
        (pss_cons (ps_set (i := 5) sc_greatest.nd rfl (Or.inl rfl) (C8.pe_c (cal_judged T) hr (by decide) rfl (pa_cons (C8.pe_mt (met_but T) hr (by decide) (pv 0) (pa_cons (pv 1) (pa_cons (pv 4) pa_nil))) (pa_cons (pv 2) pa_nil))))
        (pss_cons (ps_if (pt_val (pe_callB call_isi rfl T.n_isinstance (by decide +kernel) (pa_cons (pv 5) (pa_cons (C8.pe_gc rfl T.c_Broken) pa_nil)))) (pss_one (ps_ret (C8.pe_mk (mak_Greatest T) hr (by decide) rfl (pa_cons (pe_op op_sub (pv 4) pe_int) (pa_cons (pv 3) (pa_cons (pe_of T.cl_Broken T.n_Broken_history (pv 5)) pa_nil)))))) pss_nil)
        (pss_one (ps_set (i := 3) sc_greatest.nd rfl (Or.inl rfl) (pe_of T.cl_Safe T.n_Safe_states (pv 5)))))))
      (pss_one (ps_ret (C8.pe_mk (mak_Greatest T) hr (by decide) rfl (pa_cons (pe_size T (pv 0)) (pa_cons (pv 3) (pa_cons (pe_tup pa_nil) pa_nil))))))))), ?_⟩
    refine ⟨_, rfl, _, rfl, _, rfl, v, u, r, k, rfl, hx, hr2, hk, ?_⟩
    refine ⟨Nat.zero_le _, fun p0 hp0 => ⟨_, rfl, u, (Ex.nw hp0).wh hx, _, _, rfl, rfl, _, _, rfl, ⟨by decide, by decide, by decide, by decide⟩, ?_⟩⟩
    have fin : ∀ (n : Int) (H1 : Hp) (p t : Addr) (ys zs : List V), Ex H H1 → SqL K H1 p ys → SqT K H1 t zs → n = greatestN (fun i => safe (withR u r (some i)) k) → ∀ x dx, H1 x = none → H1 dx = none → dx ≠ x → spGreatestI K [.ref x, .int n, .ref p, .ref t] (upd (upd H1 dx (.own x)) x (.ins (He.ga K "Greatest") dx [])) (fun v H3 => v = .non ∧ Q (.ref x) H3) C8.E0 := by
      intro n H1 p t ys zs e hp ht hn x dx h1 h2 hne
      have em := ex_make (C := He.ga K "Greatest") h1 h2 hne
      refine ⟨x, dx, n, p, ys, t, zs, rfl, upd_same, em.l hp, em.t ht, fun H' fs kp => ⟨rfl, hq x _ dx fs (fun y o ho => ?_) (by rw [← hn]; exact upd_same)⟩⟩
      have h3 := e _ _ ho
      have hyx : y ≠ x := fun z => by rw [z, h1] at h3; cases h3
      rw [upd_ne hyx]
      exact kp _ _ hyx (em _ _ h3)
    refine for_range (fun i σ' H' => ∃ p ys o4 o5, σ' = [some v, some (.str (ruS r)), some (.str (wishS k)), some (.ref p), o4, o5] ∧ Ex H H' ∧ SqL K H' p ys ∧ ∀ j : Nat, j < i → safe (withR u r (some (1 + (j : Nat)))) k = true) ⟨p0, [], _, _, rfl, Ex.nw hp0, SqL.of upd_same, fun j hj => absurd hj (Nat.not_lt_zero _)⟩ ?_ ?_
    · rintro i σ' H' hi ⟨p, ys, o4, o5, rfl, e, hp, good⟩
      have hi : i < 4 := hi
      have hx' := e.wh hx
      obtain ⟨a, dx, rfl, ha⟩ := id hx'
      have okr := wok_r ok hr2 (n := 1 + (i : Nat)) (by omega) (by omega)
      have hrf : r ≠ .freeze := by rcases hr2 with rfl | rfl <;> decide
      have hwr : withRu u r (.int (1 + (i : Nat))) (withR u r (some (1 + (i : Nat)))) := by rcases hr2 with rfl | rfl <;> exact ⟨_, rfl, rfl⟩
      refine ⟨_, rfl, a, dx, _, rfl, ha, rfl, _, rfl, _, rfl, _, u, r, _, rfl, hx', ok, hrf, _, hwr, okr, fun y H1 e1 hy => ?_⟩
      refine ⟨_, rfl, y, _, k, rfl, hy, okr, fun hb z H2 e2 hz => ?_, fun h hb z H2 e2 hz => ?_⟩
      · obtain ⟨b, dx2, l, zs, rfl, hb2, hl, _⟩ := hz
        refine ⟨_, rfl, _, _, _, _, false, rfl, .own _, T.ins_Safe hb2, T.k_Safe_Broken, false, rfl, iteF ?_⟩
        refine ⟨_, rfl, b, dx2, _, _, rfl, hb2, rfl, l, zs, _, _, rfl, (e.tr e1).tr e2, SqL.of hl, fun j hj => ?_⟩
        by_cases hj2 : j < i
        · exact good j hj2
        · have : j = i := by omega
          subst this
          unfold safe
          rw [hb]
          rfl
      · obtain ⟨b, dx2, t, rfl, hb2, ht⟩ := hz
        refine ⟨_, rfl, _, _, _, _, true, rfl, .own _, T.ins_Broken hb2, T.k_Broken_Broken, true, rfl, iteT ?_⟩
        refine ⟨_, rfl, _, _, rfl, rfl, _, rfl, _, rfl, b, dx2, _, _, rfl, hb2, rfl, fun x dx3 h1 h2 hne => ?_⟩
        have hn : (1 : Int) + (i : Nat) - 1 = greatestN (fun i => safe (withR u r (some i)) k) := by
          rw [show ((1 : Int) + (i : Nat) - 1) = (i : Nat) by omega]
          refine (great_at hi good ?_).symm
          show safe (withR u r (some (1 + (i : Nat)))) k = false
          unfold safe
          rw [hb]
          rfl
        exact fin _ H2 p t ys _ ((e.tr e1).tr e2) ((e1.tr e2).l hp) ht hn x dx3 h1 h2 hne
    · rintro σ' H' ⟨p, ys, o4, o5, rfl, e, hp, good⟩
      refine ⟨_, rfl, u, e.wh hx, _, rfl, Nat.zero_le _, fun t ht x dx h1 h2 hne => ?_⟩
      refine fin 4 _ p t ys [] (e.nx ht) ((Ex.nw ht).l hp) sqt_new ?_ x dx h1 h2 hne
      exact (great_all (f := fun i => safe (withR u r (some i)) k) good).symm

/-! ### greatest_number -/
abbrev s_greatest_number : Stmt := top 83
abbrev N_greatest_number : List Str := ["wheel", "name", "wish"]
theorem sc_greatest_number : FnScope N_greatest_number ["wheel", "name", "wish"] (defScope s_greatest_number) := ⟨rfl, rfl, rfl, by decide +kernel, rfl, by decide +kernel, by decide +kernel⟩
def spGreatestN (K : PySem.W.Frag) : Sp := fun vs H Q _ => ∃ (v : V) (u : Wh) (r : Ru) (k : Wish), vs = [v, .str (ruS r), .str (wishS k)] ∧ WhAt K H v u ∧ WOk u ∧ (r = .stop ∨ r = .cut) ∧ ¬ k = .stands ∧ ∀ H', Ex H H' → Q (.int (greatestN fun i => safe (withR u r (some i)) k)) H'
theorem cal_greatest_number (T : Tx K mg) : C8.Cal P w K mg base 8 "greatest_number" (spGreatestN K) [] := by
  refine cal_of T.g_greatest_number T.f_greatest_number sc_greatest_number (fun vs H Q E h => ?_) (fun _ _ _ _ _ _ us hl => match us, hl with | [_, _, _], _ => rfl) fun cdv A outer s H vs Q E hr h => ?_
  · obtain ⟨v, u, r, k, rfl, _⟩ := h
    rfl
  · obtain ⟨v, u, r, k, rfl, hx, ok, hr2, hk, hq⟩ := h
    refine ⟨_, (pss_one (ps_ret (pe_of T.cl_Greatest T.n_Greatest_number (C8.pe_c (cal_greatest T) hr (by decide) rfl (pa_cons (pv 0) (pa_cons (pv 1) (pa_cons (pv 2) pa_nil))))))), ?_⟩
    exact ⟨_, rfl, _, rfl, _, rfl, v, u, r, k, rfl, hx, ok, hr2, hk, fun a H1 dx fs e1 ha => ⟨a, dx, _, _, rfl, ha, rfl, hq H1 e1⟩⟩
end
end LapW
set_option Elab.async false
set_option linter.all false
set_option maxRecDepth 100000
set_option maxHeartbeats 4000000
namespace LapW
open PySem PySem.Spec PyProof.Rows L2 Lap

section
variable {X : Cx} {K : PySem.W.Frag}
theorem op_in_seqK (h : X.K = K) : OpR X (compareOp .In) (rIn K false) := h ▸ op_in_seq
theorem op_notIn_seqK (h : X.K = K) : OpR X (compareOp .NotIn) (rIn K true) := h ▸ op_notIn_seq
theorem call_isiK (h : X.K = K) : CallR X (.builtin "isinstance") (rIsi K) := h ▸ call_isi
theorem call_isiTK (h : X.K = K) : CallR X (.builtin "isinstance") (rIsiT K) := h ▸ call_isiT
theorem call_len_seqK (h : X.K = K) : CallR X (.builtin "len") (fun xs H Q => ∃ p ys, xs = [.ref p] ∧ (SqL K H p ys ∨ SqT K H p ys) ∧ Q (.int ys.length) H) := h ▸ call_len_seq
theorem call_tuple_ofK (h : X.K = K) : CallR X (.type "tuple") (fun xs H Q => ∃ p ys, xs = [.ref p] ∧ ((SqL K H p ys ∧ ∀ l, H l = none → Q (.ref l) (upd H l (.tup ys))) ∨ (SqT K H p ys ∧ Q (.ref p) H))) := h ▸ call_tuple_of
theorem op_eqDK (h : X.K = K) (hu : X.A.units + 64 < cLine) : OpR X (compareOp .Eq) (rEqD K) := h ▸ op_eqD hu
theorem op_neDK (h : X.K = K) (hu : X.A.units + 64 < cLine) : OpR X (compareOp .NotEq) (rNeD K) := h ▸ op_neD hu
theorem op_inNK {P : Program} {w : World} (h1 : X.prog = P) (h2 : X.w = w) (h : X.K = K) (hu : X.A.units + 64 < cLine) : OpR X (compareOp .In) (rInN P w K false) := h ▸ h1 ▸ h2 ▸ op_inN hu
theorem pe_ngetK {P : Program} {w : World} (h1 : X.prog = P) (h2 : X.w = w) (h : X.K = K) {o i : Expr} {td ty : TE} {pos : Pos} (hu : X.A.units + 64 < cLine) (ho : PE X o td) (hi : PE X i ty) (hs : NoSl i := by exact fun _ _ => rfl) : PE X (.Subscript o i pos) (tNGet P w K td ty) := h ▸ h1 ▸ h2 ▸ pe_nget hu ho hi hs
end

section
variable {P : Program} {w : World} {K : PySem.W.Frag} {mg : Str → Option Value} {base : Heap}
/-! ### check_prices -/
abbrev s_check_prices : Stmt := top 67
abbrev N_check_prices : List Str := ["wheel", "prices", "name"]
theorem sc_check_prices : FnScope N_check_prices ["wheel", "prices"] (defScope s_check_prices) := ⟨rfl, rfl, rfl, by decide +kernel, rfl, by decide +kernel, by decide +kernel⟩
theorem ex_unlock {H H' : Hp} {d : Addr} {u f : HO} (h : H d = some u) (e : Ex (upd H d f) H') : Ex H (upd H' d u) := fun b o hb => by
  by_cases z : b = d
  · rw [z, upd_same, ← h, ← z]
    exact hb
  · rw [upd_ne z]
    exact e _ _ (by rw [upd_ne z]; exact hb)
def spCheckPrices (K : PySem.W.Frag) : Sp := fun vs H Q _ => ∃ (v : V) (u : Wh) (pr : Addr) (r : Ru) (price : Int), vs = [v, .ref pr] ∧ WhAt K H v u ∧ H pr = some (.dK [(kS (ruS r), .int price)]) ∧ 1 ≤ price ∧ price ≤ 9 ∧ RetN H Q
theorem cal_check_prices (T : Tx K mg) : C8.Cal P w K mg base 2 "check_prices" (spCheckPrices K) [] := by
  refine cal_of T.g_check_prices T.f_check_prices sc_check_prices (fun vs H Q E h => ?_) (fun _ _ _ _ _ _ us hl => match us, hl with | [_, _], _ => rfl) fun cdv A outer s H vs Q E hr h => ?_
  · obtain ⟨v, u, pr, r, price, rfl, _⟩ := h
    rfl
  · obtain ⟨v, u, pr, r, price, rfl, hx, hpr, h1, h9, hq⟩ := h
    have hu := hu_of hr
    have hu64 := Room.units hr
    refine ⟨_, (pss_cons (ps_expr (C8.pe_c (cal_check_wheel T) hr (by decide) rfl (pa_cons (pv 0) pa_nil)))
      (pss_cons (ps_if (PW.pt (pw_or (pt_not (pt_val (pe_callB call_isi rfl T.n_isinstance (by decide +kernel) (pa_cons (pv 1) (pa_cons (pe_bltn (v := .ty "dict") rfl T.n_dict (by decide +kernel) rfl) pa_nil))))) (pw_or1 (pt_not (pt_chain op_le op_le pe_int (pe_callB call_lenD rfl T.n_len (by decide +kernel) (pa_cons (pv 1) pa_nil)) (C8.pe_gc rfl T.c_MOST_PRICED)))))) (pss_one ps_never) pss_nil)
      (pss_one (ps_lock (ps_if (pt_not (pt_val (pe_callB (cr_all rfl) rfl T.n_all (by decide +kernel) (pa_cons (pe_lc (own := [("name", 2)]) (g := (gName 2)) (tt := tYes) rfl sc_check_prices.nd (pi_keys (pv 1)) (blkOk_by (N := N_check_prices) (sc := defScope s_check_prices) (by decide +kernel)) (fun _ _ _ _ _ => (pg_name (i := 2) sc_check_prices.nd rfl (Or.inl rfl))) (fun _ _ _ _ _ => pts_nil) (fun _ _ _ _ _ => (pe_and (pe_callB (call_isiK (K := K) rfl) rfl T.n_isinstance (by decide +kernel) (pa_cons (pv 2) (pa_cons (pe_bltn (v := .ty "str") rfl T.n_str (by decide +kernel) rfl) pa_nil))) (pe_and (pe_cmpR (op_in_seqK (K := K) rfl) (pv 2) (C8.pe_gc rfl T.c_RULES) rfl) (pe_one (C8.pe_c (cal_is_whole T) hr (by decide) rfl (pa_cons (pe_dget hu (pv 1) (pv 2) (fun _ _ => rfl)) (pa_cons pe_int (pa_cons pe_int pa_nil))))))))) pa_nil)))) (pss_one ps_never) pss_nil))))), ?_⟩
    refine ⟨_, rfl, _, _, rfl, hx, _, rfl, _, _, _, _, true, rfl, .ty "dict", .base (.dK hpr), kit_ty (by decide +kernel), true, rfl, iteF ?_⟩
    refine ⟨_, rfl, pr, _, rfl, hpr, _, _, rfl, rfl, true, rfl, iteT ⟨_, _, rfl, rfl, true, rfl, iteF ?_⟩⟩
    refine ⟨pr, _, hpr, True.intro, fun od => ⟨_, rfl, pr, od, rfl, .inl ⟨_, upd_same, fun D hD => ?_⟩⟩⟩
    have wk : Walk (Itk pr od [(kS (ruS r), V.int price)]) ([V.str (ruS r)] : List V).length (fun H => H pr = some (.frz od (.dK [(kS (ruS r), V.int price)]))) (YAt [V.str (ruS r)]) := walk_keys.mono (fun _ h => h) fun i H x H' hi _ y => by
      obtain ⟨e, k, v, hk, ex⟩ := y
      have hi : i < 1 := hi
      have h0 : i = 0 := by omega
      subst h0
      cases hk
      exact ⟨e, by rw [ex]; rfl⟩
    refine lc_D (K := K) (items := [r]) (p := fun _ => true) (m := fun _ => .bool true) wk (fun H' e => e _ _ upd_same) rfl (by show 1 < 100000; decide) hD (fun i x q H' hi hq' e Qn Qy n1 n2 => ?_) fun H' ys e hD' dy => ?_
    · have ex := map_at (f := fun q => V.str (ruS q)) (l := [r]) hi hq'
      have hqr : q = r := by
        have := List.mem_of_getElem? hq'
        exact List.mem_singleton.mp this
      subst hqr ex
      refine ⟨rfl, iteT (B := True) ⟨_, rfl, _, _, _, _, true, rfl, .ty "str", .base (.str _), kit_ty (by decide +kernel), true, rfl, iteT ?_⟩⟩
      have hru : V.bl (if false = true then !inV (V.str (ruS q)) [.str "freeze", .str "stop", .str "hold", .str "cut"] else inV (V.str (ruS q)) [.str "freeze", .str "stop", .str "hold", .str "cut"]) = V.bl true := by cases q <;> decide +kernel
      refine ⟨_, rfl, _, _, rfl, .inr (T.t_RULES _), rfl, rfl, true, hru, iteT ?_⟩
      refine ⟨_, rfl, _, rfl, pr, .int price, rfl, .inl ⟨[(kS (ruS q), V.int price)], kS (ruS q), .inr ⟨od, e _ _ upd_same⟩, rfl, ?_⟩, _, _, _, rfl, ⟨h1, h9⟩, n2 rfl _ _ (Ex.rfl' _) (.bl _)⟩
      simp [valV]
    · have ey := dta_bl (bs := [true]) dy
      subst ey
      exact ⟨D, [true], rfl, SqL.of hD', true, rfl, iteF ⟨e _ _ upd_same, hq _ (ex_unlock hpr e)⟩⟩

/-! ### check_all -/
abbrev s_check_all : Stmt := top 68
abbrev N_check_all : List Str := ["wheel", "prices", "hopes", "wish"]
theorem sc_check_all : FnScope N_check_all ["wheel", "prices", "hopes"] (defScope s_check_all) := ⟨rfl, rfl, rfl, by decide +kernel, rfl, by decide +kernel, by decide +kernel⟩
theorem eqv_strs {α : Type} {f : α → Str} : ∀ l : List α, PyData.eqv (.list (l.map fun a => .str (f a))) (.list (l.map fun a => .str (f a))) = true
  | [] => rfl
  | a :: l => by
    show (f a == f a && PyData.eqv (.list (l.map fun a => .str (f a))) (.list (l.map fun a => .str (f a)))) = _
    rw [eqv_strs l, beq_self_eq_true]
    rfl
theorem shaped_strs (l : List Wish) : SeqAt.shaped (.list (l.map fun k => .str (wishS k))) = true := shaped_list (fun k _ => by cases k <;> decide +kernel) fun _ _ => Nat.le_of_ble_eq_true rfl
theorem strs_dp {K : PySem.W.Frag} {H : Hp} : ∀ ks : List Wish, DpAll K H (ks.map fun k => V.str (wishS k)) (ks.map fun k => .str (wishS k))
  | [] => .nil
  | k :: ks => .cons (.str _) (strs_dp ks)
theorem wishS_inj (a b : Wish) (h : wishS a = wishS b) : a = b := by revert h; cases a <;> cases b <;> decide +kernel
theorem in_wishes (d : Wish) (l : List Wish) : inV (V.str (wishS d)) (l.map fun e => V.str (wishS e)) = decide (d ∈ l) := in_strs wishS_inj d l
theorem all_true' {α : Type} (l : List α) : (l.map fun _ => true).all id = true := by rw [List.all_map]; exact List.all_eq_true.mpr fun _ _ => rfl
def HopesOk (ks : List Wish) : Prop := ks ≠ [] ∧ ks.length ≤ 3 ∧ Lap.WISHES.filter (fun k => decide (k ∈ ks)) = ks
def spCheckAll (K : PySem.W.Frag) : Sp := fun vs H Q _ => ∃ (v : V) (u : Wh) (pr : Addr) (r : Ru) (price : Int) (t : Addr) (ks : List Wish), vs = [v, .ref pr, .ref t] ∧ WhAt K H v u ∧ H pr = some (.dK [(kS (ruS r), .int price)]) ∧ 1 ≤ price ∧ price ≤ 9 ∧ SqT K H t (ks.map fun k => V.str (wishS k)) ∧ HopesOk ks ∧ RetN H Q
theorem cal_check_all (T : Tx K mg) : C8.Cal P w K mg base 3 "check_all_choosing" (spCheckAll K) [] := by
  refine cal_of T.g_check_all T.f_check_all sc_check_all (fun vs H Q E h => ?_) (fun _ _ _ _ _ _ us hl => match us, hl with | [_, _, _], _ => rfl) fun cdv A outer s H vs Q E hr h => ?_
  · obtain ⟨v, u, pr, r, price, t, ks, rfl, _⟩ := h
    rfl
  · obtain ⟨v, u, pr, r, price, t, ks, rfl, hx, hpr, h1, h9, ht, hk, hq⟩ := h
    have hu := hu_of hr
    have hu64 := Room.units hr
    refine ⟨_, (pss_cons (ps_expr (C8.pe_c (cal_check_prices T) hr (by decide) rfl (pa_cons (pv 0) (pa_cons (pv 1) pa_nil))))
      (pss_cons (ps_if (PW.pt (pw_or (pt_not (pt_val (pe_callB call_isi rfl T.n_isinstance (by decide +kernel) (pa_cons (pv 2) (pa_cons (pe_bltn (v := .ty "tuple") rfl T.n_tuple (by decide +kernel) rfl) pa_nil))))) (pw_or1 (pt_not (pt_chain op_le op_le pe_int (pe_callB call_len_seq rfl T.n_len (by decide +kernel) (pa_cons (pv 2) pa_nil)) (C8.pe_gc rfl T.c_MOST_HOPES)))))) (pss_one ps_never) pss_nil)
      (pss_one (ps_if (PW.pt (pw_or (pt_not (pt_val (pe_callB (cr_all rfl) rfl T.n_all (by decide +kernel) (pa_cons (pe_lc (own := [("wish", 3)]) (g := (gName 3)) (tt := tYes) rfl sc_check_all.nd (pi_tup (pv 2)) (blkOk_by (N := N_check_all) (sc := defScope s_check_all) (by decide +kernel)) (fun _ _ _ _ _ => (pg_name (i := 3) sc_check_all.nd rfl (Or.inl rfl))) (fun _ _ _ _ _ => pts_nil) (fun _ _ _ _ _ => (pe_callB (call_isiK (K := K) rfl) rfl T.n_isinstance (by decide +kernel) (pa_cons (pv 3) (pa_cons (pe_bltn (v := .ty "str") rfl T.n_str (by decide +kernel) rfl) pa_nil))))) pa_nil)))) (pw_or1 (pt_cmpR (op_neD hu64) (pe_callTy call_list_of rfl T.n_list (by decide +kernel) (pa_cons (pv 2) pa_nil)) (pe_lc (own := [("wish", 3)]) (g := (gName 3)) rfl sc_check_all.nd (pi_tup (C8.pe_gc rfl T.c_WISHES)) (blkOk_by (N := N_check_all) (sc := defScope s_check_all) (by decide +kernel)) (fun _ _ _ _ _ => (pg_name (i := 3) sc_check_all.nd rfl (Or.inl rfl))) (fun _ _ _ _ _ => (pts_one (pt_cmpR (op_in_seqK (K := K) rfl) (pv 3) (pv 2) rfl))) (fun _ _ _ _ _ => (pv 3))) (nomark _))))) (pss_one ps_never) pss_nil)))), ?_⟩
    have hl : (ks.map fun k => V.str (wishS k)).length = ks.length := List.length_map _
    have hk3 := hk.2.1
    refine ⟨_, rfl, _, rfl, v, u, pr, r, price, rfl, hx, hpr, h1, h9, fun H1 e1 => ?_⟩
    have ht1 := e1.t ht
    refine ⟨_, rfl, _, _, _, _, true, rfl, .ty "tuple", sqt_ty ht1, kit_ty (by decide +kernel), true, rfl, iteF ?_⟩
    refine ⟨_, rfl, t, _, rfl, .inr ht1, _, _, rfl, rfl, true, ?_, iteT ⟨_, _, rfl, rfl, true, ?_, iteF ?_⟩⟩
    · rw [hl]
      have : ks.length ≠ 0 := fun z => hk.1 (List.length_eq_zero_iff.mp z)
      exact congrArg V.bl (decide_eq_true (by omega))
    · rw [hl]
      exact congrArg V.bl (decide_eq_true (by omega))
    refine ⟨_, rfl, t, rfl, ⟨_, ht1⟩, fun D hD => ?_⟩
    refine lc_tupD (K := K) (items := ks) (p := fun _ => true) (m := fun _ => .bool true) ht1 hl (by rw [hl]; omega) hD (fun i x q H' hi hq' e Qn Qy n1 n2 => ?_) fun H' ys e hD' dy => ?_
    · have ex := map_at (f := fun k => V.str (wishS k)) (l := ks) hi hq'
      subst ex
      exact ⟨rfl, iteT (B := True) ⟨_, rfl, _, _, _, _, true, rfl, .ty "str", .base (.str _), kit_ty (by decide +kernel), n2 rfl _ _ (Ex.rfl' _) (.bl _)⟩⟩
    · have dyb : DtAll K H' ys (((ks.filter fun _ => true).map fun _ => true).map PyData.bool) := by rw [List.map_map]; exact dy
      have ey := dta_bl dyb
      subst ey
      refine ⟨D, _, rfl, SqL.of hD', true, by rw [all_true'], iteF ?_⟩
      refine ⟨_, rfl, t, _, rfl, .inr (e.t ht1), fun l hl2 => ⟨_, rfl, ⟨_, T.t_WISHES _⟩, fun D2 hD2 => ?_⟩⟩
      refine lc_tupD (K := K) (items := Lap.WISHES) (p := fun k => decide (k ∈ ks)) (m := fun k => .str (wishS k)) (T.t_WISHES _) rfl (by show 4 < 100000; decide) hD2 (fun i x q H2 hi hq' e2 Qn Qy n1 n2 => ?_) fun H2 ys2 e2 hD3 dy2 => ?_
      · have ex := map_at (f := fun k => V.str (wishS k)) (l := Lap.WISHES) hi hq'
        subst ex
        refine ⟨rfl, _, rfl, _, rfl, t, _, rfl, .inr (((e.nx hl2).tr e2).t ht1), rfl, by rw [List.all_map]; exact List.all_eq_true.mpr fun _ _ => rfl, decide (q ∈ ks), ?_, ?_⟩
        · show V.bl (inV _ _) = _
          rw [in_wishes]
        · cases hd : decide (q ∈ ks) with
          | true => exact iteT ⟨_, rfl, n2 hd _ _ (Ex.rfl' _) (.str _)⟩
          | false => exact iteF (n1 hd _ (Ex.rfl' _))
      · rw [hk.2.2] at dy2
        have hl3 : H2 l = some (.lst (ks.map fun k => V.str (wishS k))) := e2 _ _ upd_same
        refine ⟨.list (ks.map fun k => .str (wishS k)), .list (ks.map fun k => .str (wishS k)), .lst (SqL.of hl3) (strs_dp ks), .lst (SqL.of hD3) dy2.dp, shaped_strs _, shaped_strs _, false, ?_, iteF (hq _ ((e1.tr (e.nx hl2)).tr e2))⟩
        rw [eqv_strs]
        rfl
end
end LapW
set_option Elab.async false
set_option linter.all false
set_option maxRecDepth 100000
set_option maxHeartbeats 4000000
namespace LapW
open PySem PySem.Spec PyProof.Rows L2 Lap

section
variable {P : Program} {w : World} {K : PySem.W.Frag} {mg : Str → Option Value} {base : Heap}
/-! ### cost_of -/
abbrev s_cost_of : Stmt := top 70
abbrev N_cost_of : List Str := ["wheel", "prices", "choice", "rows", "name", "thing", "other"]
theorem sc_cost_of : FnScope N_cost_of ["wheel", "prices", "choice"] (defScope s_cost_of) := ⟨rfl, rfl, rfl, by decide +kernel, rfl, by decide +kernel, by decide +kernel⟩
def ruV (u : Wh) : Ru → V
  | .freeze => .int u.freeze | .stop => optV u.stop | .hold => .str (holdS u.hold) | .cut => optV u.cut
def ruD (u : Wh) : Ru → PyData
  | .freeze => .int u.freeze | .stop => optD u.stop | .hold => .str (holdS u.hold) | .cut => optD u.cut
def chD (c : Wh) : PyData := .tuple [.int c.freeze, optD c.stop, .str (holdS c.hold), optD c.cut]
theorem ch_at {K : PySem.W.Frag} {H : Hp} {x : V} {c : Wh} (h : Dt K H x (chD c)) : ∃ t, x = .ref t ∧ SqT K H t (rulesV c) := by
  cases h with
  | tup a b =>
    cases b with
    | cons b1 b =>
      cases b with
      | cons b2 b =>
        cases b with
        | cons b3 b =>
          cases b with
          | cons b4 b =>
            cases b
            cases b1
            cases b3
            rw [dp_opt b2, dp_opt b4] at a
            exact ⟨_, rfl, a⟩
theorem ch_mk {K : PySem.W.Frag} {H : Hp} {t : Addr} {c : Wh} (h : SqT K H t (rulesV c)) : Dt K H (.ref t) (chD c) := .tup h (.cons (.int _) (.cons (opt_dp _) (.cons (.str _) (.cons (opt_dp _) .nil))))
def VarAt (u : Wh) (r : Ru) (c : Wh) : Prop := ∀ q, q ≠ r → ruV u q = ruV c q
def costOf (u : Wh) (r : Ru) (price : Int) (c : Wh) : Int := if ruV u r = ruV c r then 0 else price
theorem scal_opt (a b : Option Int) : scal (optV a) (optV b) = true := by cases a <;> cases b <;> rfl
theorem scal_ru (u c : Wh) (q : Ru) : scal (ruV u q) (ruV c q) = true := by
  cases q
  · rfl
  · exact scal_opt _ _
  · rfl
  · exact scal_opt _ _
theorem dta_ints {α : Type} {f : α → Int} {K : PySem.W.Frag} {H : Hp} : ∀ {ys : List V} {l : List α}, DtAll K H ys (l.map fun a => .int (f a)) → ys = (l.map f).map V.int
  | [], [], _ => rfl
  | [], _ :: _, h => by cases h
  | _ :: _, [], h => by cases h
  | y :: ys, b :: bs, h => by
    cases h with
    | cons h1 h2 =>
      cases h1
      rw [dta_ints h2]
      rfl
theorem cost_sum {u c : Wh} {r : Ru} {price : Int} (va : VarAt u r c) : ((RUS.filter fun q => !decide (ruV u q = ruV c q)).map fun _ => price).sum = costOf u r price c := by
  unfold costOf RUS
  cases r
  · have h1 := va .stop (by decide); have h2 := va .hold (by decide); have h3 := va .cut (by decide)
    by_cases h : ruV u .freeze = ruV c .freeze <;> simp [h1, h2, h3, h]
  · have h1 := va .freeze (by decide); have h2 := va .hold (by decide); have h3 := va .cut (by decide)
    by_cases h : ruV u .stop = ruV c .stop <;> simp [h1, h2, h3, h]
  · have h1 := va .freeze (by decide); have h2 := va .stop (by decide); have h3 := va .cut (by decide)
    by_cases h : ruV u .hold = ruV c .hold <;> simp [h1, h2, h3, h]
  · have h1 := va .freeze (by decide); have h2 := va .stop (by decide); have h3 := va .hold (by decide)
    by_cases h : ruV u .cut = ruV c .cut <;> simp [h1, h2, h3, h]
def spCostOf (K : PySem.W.Frag) : Sp := fun vs H Q _ => ∃ (v : V) (u : Wh) (pr : Addr) (r : Ru) (price : Int) (x : V) (c : Wh), vs = [v, .ref pr, x] ∧ WhAt K H v u ∧ H pr = some (.dK [(kS (ruS r), .int price)]) ∧ Dt K H x (chD c) ∧ VarAt u r c ∧ ∀ H', Ex H H' → Q (.int (costOf u r price c)) H'
theorem cal_cost_of (T : Tx K mg) : C8.Cal P w K mg base 2 "cost_of" (spCostOf K) [] := by
  refine cal_of T.g_cost_of T.f_cost_of sc_cost_of (fun vs H Q E h => ?_) (fun _ _ _ _ _ _ us hl => match us, hl with | [_, _, _], _ => rfl) fun cdv A outer s H vs Q E hr h => ?_
  · obtain ⟨v, u, pr, r, price, x, c, rfl, _⟩ := h
    rfl
  · obtain ⟨v, u, pr, r, price, x, c, rfl, hx, hpr, hc, va, hq⟩ := h
    have hu := hu_of hr
    have hu64 := Room.units hr
    refine ⟨_, (pss_cons (ps_set (i := 3) sc_cost_of.nd rfl (Or.inl rfl) (pe_lzip3 rfl rfl T.n_list rfl T.n_zip (pa_cons (C8.pe_gc rfl T.c_RULES) (pa_cons (C8.pe_mt0 (met_rules T) hr (by decide) (pv 0)) (pa_cons (pv 2) pa_nil)))))
      (pss_one (ps_ret (pe_callB (cr_sum rfl) rfl T.n_sum (by decide +kernel) (pa_cons (pe_lc (own := [("name", 4), ("thing", 5), ("other", 6)]) (g := (gTup K 3 (gCons (gName 4) (gCons (gName 5) (gCons (gName 6) gNil))))) rfl sc_cost_of.nd (pi_list (pv 3)) (blkOk_by (N := N_cost_of) (sc := defScope s_cost_of) (by decide +kernel)) (fun _ _ _ _ _ => (pg_tup rfl (pgs_cons (pg_name (i := 4) sc_cost_of.nd rfl (Or.inl rfl)) (pgs_cons (pg_name (i := 5) sc_cost_of.nd rfl (Or.inl rfl)) (pgs_cons (pg_name (i := 6) sc_cost_of.nd rfl (Or.inl rfl)) pgs_nil))))) (fun _ _ _ _ _ => (pts_one (pt_cmpR op_ne (pv 5) (pv 6) (nomark _)))) (fun _ _ _ _ _ => (pe_dget hu (pv 1) (pv 4) (fun _ _ => rfl)))) pa_nil))))), ?_⟩
    obtain ⟨t, rfl, ht⟩ := ch_at hc
    obtain ⟨a0, dx0, rfl, ha0⟩ := hx
    refine ⟨_, rfl, a0, dx0, _, rfl, ha0, rfl, _, u, rfl, ⟨a0, dx0, rfl, ha0⟩, fun p H1 hp e1 h1 => ?_⟩
    refine ⟨_, rfl, _, _, t, _, _, _, rfl, T.t_RULES _, .inl (.inl h1), e1.t ht, rfl, rfl, List.cons_ne_nil _ _, fun l H2 ts hl e2 hl2 hlen hts => ?_⟩
    refine ⟨_, rfl, l, rfl, ⟨_, SqL.of hl2⟩, fun D hD => ?_⟩
    have hlen4 : ts.length = 4 := hlen
    refine lc_listD (K := K) (items := RUS) (p := fun q => !decide (ruV u q = ruV c q)) (m := fun _ => .int price) (SqL.of hl2) (by rw [List.length_map, hlen4]; rfl) (by rw [List.length_map, hlen4]; decide) hD (fun i x q H' hi hq' e Qn Qy n1 n2 => ?_) fun H' ys e hD' dy => ?_
    · rw [List.getElem?_map] at hi
      obtain ⟨t1, h4, rfl⟩ := Option.map_eq_some_iff.mp hi
      obtain ⟨a1, b, d, ha, hb, hd, h5⟩ := hts i t1 h4
      have ea := map_at (f := fun q => V.str (ruS q)) (l := RUS) ha hq'
      have eb := map_at (f := ruV u) (l := RUS) hb hq'
      have ed := map_at (f := ruV c) (l := RUS) hd hq'
      subst ea eb ed
      refine ⟨t1, _, rfl, .inl (.inl (e _ _ h5)), rfl, _, _, rfl, _, _, rfl, _, _, rfl, rfl, rfl, ?_⟩
      refine ⟨_, rfl, _, rfl, scal_ru u c q, !decide (ruV u q = ruV c q), rfl, ?_⟩
      cases hd : (!decide (ruV u q = ruV c q)) with
      | true =>
        have hqr : q = r := by
          by_cases z : q = r
          · exact z
          · rw [va q z, decide_eq_true rfl] at hd
            cases hd
        subst hqr
        refine iteT ⟨_, rfl, _, rfl, pr, .int price, rfl, .inl ⟨[(kS (ruS q), V.int price)], kS (ruS q), .inl (((e1.tr e2).tr e) _ _ hpr), rfl, ?_⟩, n2 hd _ _ (Ex.rfl' _) (.int _)⟩
        simp [valV]
      | false => exact iteF (n1 hd _ (Ex.rfl' _))
    · refine ⟨D, _, rfl, SqL.of (by rw [hD', dta_ints dy]), ?_⟩
      rw [cost_sum va]
      exact hq _ ((e1.tr e2).tr e)

/-! ### places_of -/
abbrev s_places_of : Stmt := top 71
abbrev N_places_of : List Str := ["choice", "thing"]
theorem sc_places_of : FnScope N_places_of ["choice"] (defScope s_places_of) := ⟨rfl, rfl, rfl, by decide +kernel, rfl, by decide +kernel, by decide +kernel⟩
def placeO : Option Int → PyData
  | none => .int 0
  | some i => .int (i + 1)
def placeD (c : Wh) : Ru → PyData
  | .freeze => .int (c.freeze + 1) | .stop => placeO c.stop | .hold => .str (holdS c.hold) | .cut => placeO c.cut
def placesD (c : Wh) : PyData := .tuple (RUS.map (placeD c))
def spPlacesOf (K : PySem.W.Frag) : Sp := fun vs H Q _ => ∃ (x : V) (c : Wh), vs = [x] ∧ Dt K H x (chD c) ∧ RetD K (placesD c) H Q
theorem cal_places_of (T : Tx K mg) : C8.Cal P w K mg base 1 "places_of" (spPlacesOf K) [] := by
  refine cal_of T.g_places_of T.f_places_of sc_places_of (fun vs H Q E h => ?_) (fun _ _ _ _ _ _ us hl => match us, hl with | [_], _ => rfl) fun cdv A outer s H vs Q E hr h => ?_
  · obtain ⟨x, c, rfl, _⟩ := h
    rfl
  · obtain ⟨x, c, rfl, hx, hq⟩ := h
    refine ⟨_, (pss_one (ps_ret (pe_callTy call_tuple_of rfl T.n_tuple (by decide +kernel) (pa_cons (pe_lc (own := [("thing", 1)]) (g := (gName 1)) (tt := tYes) rfl sc_places_of.nd (pi_tup (pv 0)) (blkOk_by (N := N_places_of) (sc := defScope s_places_of) (by decide +kernel)) (fun _ _ _ _ _ => (pg_name (i := 1) sc_places_of.nd rfl (Or.inl rfl))) (fun _ _ _ _ _ => pts_nil) (fun _ _ _ _ _ => (pe_ifExp (pt_cmp (pc_isN (pv 1))) pe_int (pe_ifExp (pt_val (pe_callB (call_isiK (K := K) rfl) rfl T.n_isinstance (by decide +kernel) (pa_cons (pv 1) (pa_cons (pe_bltn (v := .ty "int") rfl T.n_int (by decide +kernel) rfl) pa_nil)))) (pe_op op_add (pv 1) pe_int) (pv 1))))) pa_nil)))), ?_⟩
    obtain ⟨t, rfl, ht⟩ := ch_at hx
    refine ⟨_, rfl, t, rfl, ⟨_, ht⟩, fun D hD => ?_⟩
    refine lc_tupD (K := K) (items := RUS) (p := fun _ => true) (m := placeD c) ht rfl (by show 4 < 100000; decide) hD (fun i x q H' hi hq' e Qn Qy n1 n2 => ?_) fun H' ys e hD' dy => ?_
    · have ex := map_at (f := ruV c) (l := RUS) hi hq'
      subst ex
      refine ⟨rfl, iteT (B := True) ?_⟩
      cases q with
      | freeze => exact ⟨_, rfl, false, rfl, iteF ⟨_, rfl, _, _, _, _, true, rfl, .ty "int", .base (.int _), kit_ty (by decide +kernel), true, rfl, iteT ⟨_, rfl, _, _, rfl, rfl, n2 rfl _ _ (Ex.rfl' _) (.int _)⟩⟩⟩
      | hold => exact ⟨_, rfl, false, rfl, iteF ⟨_, rfl, _, _, _, _, false, rfl, .ty "int", .base (.str _), kit_ty (by decide +kernel), false, rfl, iteF ⟨_, rfl, n2 rfl _ _ (Ex.rfl' _) (.str _)⟩⟩⟩
      | stop =>
        have n3 := n2 rfl
        have hp : placeD c .stop = placeO c.stop := rfl
        rw [hp] at n3
        have hv : ruV c .stop = optV c.stop := rfl
        rw [hv]
        cases hs : c.stop with
        | none =>
          rw [hs] at n3
          exact ⟨_, rfl, true, rfl, iteT (n3 _ _ (Ex.rfl' _) (.int _))⟩
        | some i =>
          rw [hs] at n3
          exact ⟨_, rfl, false, rfl, iteF ⟨_, rfl, _, _, _, _, true, rfl, .ty "int", .base (.int _), kit_ty (by decide +kernel), true, rfl, iteT ⟨_, rfl, _, _, rfl, rfl, n3 _ _ (Ex.rfl' _) (.int _)⟩⟩⟩
      | cut =>
        have n3 := n2 rfl
        have hp : placeD c .cut = placeO c.cut := rfl
        rw [hp] at n3
        have hv : ruV c .cut = optV c.cut := rfl
        rw [hv]
        cases hs : c.cut with
        | none =>
          rw [hs] at n3
          exact ⟨_, rfl, true, rfl, iteT (n3 _ _ (Ex.rfl' _) (.int _))⟩
        | some i =>
          rw [hs] at n3
          exact ⟨_, rfl, false, rfl, iteF ⟨_, rfl, _, _, _, _, true, rfl, .ty "int", .base (.int _), kit_ty (by decide +kernel), true, rfl, iteT ⟨_, rfl, _, _, rfl, rfl, n3 _ _ (Ex.rfl' _) (.int _)⟩⟩⟩
    · refine ⟨D, ys, rfl, .inl ⟨SqL.of hD', fun l hl => hq _ _ (e.nx hl) (.tup sqt_new ((Ex.nw hl).da dy))⟩⟩
end
end LapW
set_option Elab.async false
set_option linter.all false
set_option maxRecDepth 100000
set_option maxHeartbeats 4000000
/-! sorted(xs, key=f), what f's calls keep told by an invariant. -/
namespace LapW
open PySem PySem.Calls PyProof.Rows PySem.W
section
variable {prog : Program} {w : World} {A : Around} {E : Value → Shared → Prop} {s : Shared} {a kS : Addr} {b : Bool} {vs : List Value} {e1 : Nat} {P : PySem.Fin → Shared → Prop} {kz : List PyData}
/-- W i kA s: the keys of the first i items are kA, they stand in the key store -/
structure KeyW (W : Nat → Array Value → Shared → Prop) (a kS : Addr) (e1 : Nat) (kz : List PyData) : Prop where
  at_ : ∀ i kA s, W i kA s → (∃ e, s.heap.get? kS = some (seqObj "list" kA e)) ∧ s.heap.get? a = some (seqObj "list" #[] e1) ∧ kA.size = i
  rd : ∀ kA s, W kz.length kA s → EachIs (fun v k => ∃ as, Reads s.heap v k as) kA.toList kz
theorem keyW_rest {f : Value} {W : Nat → Array Value → Shared → Prop} (KW : KeyW W a kS e1 kz) (w0 : W 0 #[] s) (hka : kS ≠ a) (hlen : kz.length = vs.length) (hZ : vs.length ≤ sizeLine) (hal : AllAlike kz) (hsk : Sortable kz) (hu : ∀ d, d ∈ kz → A.units + d.depth < cLine)
    (turn : ∀ (i : Nat) (v : Value) (kA : Array Value) (s' : Shared), vs[i]? = some v → W i kA s' →
      wpAny (model prog w) A (call f [v]) (fun u s2 => (∃ e, s2.heap.get? kS = some (seqObj "list" kA e)) ∧ ∀ tk, W (i + 1) (kA.push u) { s2 with heap := s2.heap.update kS (Obj.mapSeq (·.push u)), toks := tk }) (fun _ _ => False) s')
    (h : ∀ s' kA h' tk out c, W vs.length kA s' → (∀ b o, b ≠ a → b ≠ kS → s'.heap.get? b = some o → h'.get? b = some o) → h'.get? a = some (seqObj "list" (List.toArray out) c) → KeyedOut b kz vs out → P (.done (.ret .none)) { s' with heap := h', toks := tk }) :
    wpAny (model prog w) A (ksk_rest a f b vs.toArray e1 (.ref kS)) P E s := by
  unfold ksk_rest
  refine wpAny_bind (wpAny_rule ?_)
  first
    | rw [List.forIn_toArray]
    | (rw [← Array.forIn_toList]; simp only [List.toList_toArray])
    | rw [← Array.forIn_toList]
  refine wpAny_bind (ksk_fold (fun i s' => ∃ kA, W i kA s') vs 0 s ⟨#[], w0⟩ ?step ?done)
  case step =>
    rintro j x s' hx ⟨kA, hk⟩
    simp only [Nat.zero_add] at hk ⊢
    have hj : j < vs.length := (List.getElem?_eq_some_iff.mp hx).1
    obtain ⟨_, _, hz⟩ := KW.at_ _ _ _ hk
    refine wpAny_bind (wpAny_attempt (wpAny_mono (turn j x kA s' hx hk) (fun v s'' he => ?_) fun _ _ hF => hF.elim))
    obtain ⟨⟨e, nk2⟩, hw⟩ := he
    try dsimp only
    have hz2 : kA.size ≤ sizeLine := by omega
    refine wpAny_bind (listUpdate_at nk2 rfl ?_ hz2 (Nat.le_trans (Nat.le_of_eq (Array.size_push ..)) (Nat.succ_le_succ hz2)))
    exact wpAny_pure ⟨rfl, _, hw _⟩
  case done =>
    rintro s' ⟨kA, hk⟩
    simp only [Nat.zero_add] at hk
    obtain ⟨⟨e, nk'⟩, na', hsz⟩ := KW.at_ _ _ _ hk
    have hk' := KW.rd kA s' (by rw [hlen]; exact hk)
    try dsimp only
    refine wpAny_bind (listItems_at nk' rfl ?_)
    obtain ⟨G, g1, g2⟩ := L2.restrict s'.heap fun b => decide (b ≠ kS)
    have hG : ∀ b o, G.get? b = some o → b ≠ kS ∧ s'.heap.get? b = some o := fun b o q => by
      by_cases z : b = kS
      · rw [g2 b (by simp [z])] at q
        cases q
      · exact ⟨z, by rw [← g1 b (by simp [z])]; exact q⟩
    refine keyH_end (κ := dataKind s'.heap kz) (h₁ := G) (fun b o _ q => (hG b o q).2) (g2 kS (by simp)) nk' na' hka (SortsAt.data (s := s') hk' hal hsk hu) hsz hZ fun h3 tk3 c k3 n3 => ?_
    refine h s' kA h3 tk3 _ c hk (fun b o h1 h2 q => k3 b o h1 ?_) n3 ⟨s'.heap, kA.toList, hal, rfl, hk'⟩
    rw [g1 b (by simp [h2])]
    exact q
/-- sorted(xs, key=f) -/
theorem sorted_W {l : Addr} {f : Value} {kw : List (Str × Value)} {Q : Value → Shared → Prop} {W : Nat → Nat → Array Value → Shared → Prop} (hl : s.heap.IsList l vs.toArray) (hlen : kz.length = vs.length) (hZ : vs.length ≤ sizeLine) (hal : AllAlike kz) (hsk : Sortable kz)
    (hu : ∀ d, d ∈ kz → A.in1.in1.units + d.depth < cLine) (ha1 : argsOk "sorted" ⟨[.ref l], kw⟩) (ha2 : ∀ x, argsOk "list.sort" ⟨[.ref x], kw⟩) (ht : ∀ x, Builtin.«list.sort» ⟨[.ref x], kw⟩ = ksk_tree x f b)
    (KW : ∀ e1, KeyW (W e1) (s.heap.objs.size + 1) (s.heap.objs.size + 3) e1 kz)
    (w0 : ∀ e1 h' tk, (∀ b o, s.heap.get? b = some o → h'.get? b = some o) → h'.get? (s.heap.objs.size + 1) = some (seqObj "list" #[] e1) → h'.get? (s.heap.objs.size + 3) = some (seqObj "list" #[] 0) → W e1 0 #[] { s with heap := h', toks := tk })
    (turn : ∀ (e1 i : Nat) (v : Value) (kA : Array Value) (s' : Shared), vs[i]? = some v → W e1 i kA s' →
      wpAny (model prog w) A.in1.in1 (call f [v]) (fun u s2 => (∃ e, s2.heap.get? (s.heap.objs.size + 3) = some (seqObj "list" kA e)) ∧ ∀ tk, W e1 (i + 1) (kA.push u) { s2 with heap := s2.heap.update (s.heap.objs.size + 3) (Obj.mapSeq (·.push u)), toks := tk }) (fun _ _ => False) s')
    (h : ∀ e1 s' kA h' tk out c, W e1 vs.length kA s' → (∀ b o, b ≠ s.heap.objs.size + 1 → b ≠ s.heap.objs.size + 3 → s'.heap.get? b = some o → h'.get? b = some o) → h'.get? (s.heap.objs.size + 1) = some (seqObj "list" (List.toArray out) c) → KeyedOut b kz vs out →
      Q (.ref (s.heap.objs.size + 1)) { s' with heap := h', toks := tk }) :
    wpAny (model prog w) A (call (.builtin "sorted") [.ref l] kw) Q E s := by
  refine sorted_of_sort hl hZ ha1 ha2 fun E' => ?_
  rw [ht]
  have hsz : (copyHeap s.heap vs).objs.size = s.heap.objs.size + 2 := by
    unfold copyHeap
    simp [Heap.size_push, Heap.size_update]
  have ho := copyHeap_at s.heap vs
  obtain ⟨e2, ho1⟩ : ∃ e2, ((copyHeap s.heap vs).update (s.heap.objs.size + 1) (Obj.mapSeq fun _ => (#[] : Array Value))).get? (s.heap.objs.size + 1) = some (seqObj "list" #[] e2) := ⟨_, get?_update_seq ho fun _ => #[]⟩
  have hkS : (((copyHeap s.heap vs).update (s.heap.objs.size + 1) (Obj.mapSeq fun _ => (#[] : Array Value))).push (seqObj "tuple" vs.toArray 0)).objs.size = s.heap.objs.size + 3 := by rw [size_push', Heap.size_update, hsz]
  have old : ∀ b o, s.heap.get? b = some o → b ≠ s.heap.objs.size + 1 := fun b o q => Nat.ne_of_lt (Nat.lt_succ_of_lt (Heap.lt_size q))
  unfold ksk_tree
  refine wpAny_bind (listItems_at (s := { s with heap := copyHeap s.heap vs }) ho rfl ?_)
  refine wpAny_bind (listUpdate_at ho rfl ?_ (by rw [List.size_toArray]; exact hZ) (Nat.zero_le _))
  refine wpAny_bind (seqEpoch_at ho1 rfl ?_)
  refine wpAny_bind (wpAny_newTuple ?_ (by show vs.length ≤ _; exact hZ))
  refine wpAny_bind (wpAny_newList ?_ (Nat.zero_le _))
  refine wpAny_holding ?_
  show wpAny _ _ (ksk_rest _ _ _ _ _ (.ref ((((copyHeap s.heap vs).update (s.heap.objs.size + 1) (Obj.mapSeq fun _ => (#[] : Array Value))).push (seqObj "tuple" vs.toArray 0)).objs.size))) _ _ _
  rw [hkS]
  refine keyW_rest (kS := s.heap.objs.size + 3) (KW e2) (w0 e2 _ _ (fun b o q => ?_) ?_ ?_) (Nat.ne_of_gt (Nat.add_lt_add_left (by decide) _)) hlen hZ hal hsk hu (turn e2) fun s' kA h' tk out c h1 h2 h3 h4 => ⟨rfl, h e2 s' kA h' tk out c h1 h2 h3 h4⟩
  · refine Heap.get?_push_of_some _ (Heap.get?_push_of_some _ ?_)
    rw [Heap.get?_update_ne _ _ _ _ (old b o q)]
    exact copyHeap_old q
  · exact Heap.get?_push_of_some _ (Heap.get?_push_of_some _ ho1)
  · rw [← hkS]
    exact Heap.get?_push_size _ rfl
end
end LapW
set_option Elab.async false
set_option linter.all false
set_option maxRecDepth 100000
set_option maxHeartbeats 4000000
/-! sorted(xs, key=lambda row: ..): the lambda of one parameter. -/
namespace LapW
open PySem PySem.Spec PyProof.Rows L2 LamX
/-- one parameter a; the other names are captured or global -/
structure LamS1 (sc scope : Scope) (a : Str) : Prop where
  kind : scope.kind = .function
  co : scope.isCoroutine = false
  gen : scope.isGenerator = false
  par : scope.names.lookup a = some .local
  own : ∀ y ∈ scope.names, (y.2 = .local → y.1 = a) ∧ y.2 ≠ .cell
  free : ∀ y ∈ scope.names, y.2 = .free → sc.names.lookup y.1 = some .cell ∨ sc.names.lookup y.1 = some .free
def lamS1B (sc scope : Scope) (a : Str) : Bool :=
  decide (scope.kind = .function) && !scope.isCoroutine && !scope.isGenerator && decide (scope.names.lookup a = some .local) && scope.names.all fun y => (!decide (y.2 = .local) || decide (y.1 = a)) && !decide (y.2 = .cell) && (!decide (y.2 = .free) || decide (sc.names.lookup y.1 = some .cell) || decide (sc.names.lookup y.1 = some .free))
theorem lamS1_by {sc scope : Scope} {a : Str} (h : lamS1B sc scope a = true) : LamS1 sc scope a := by
  unfold lamS1B at h
  simp only [Bool.and_eq_true, Bool.or_eq_true, Bool.not_eq_true', decide_eq_true_eq, decide_eq_false_iff_not, List.all_eq_true] at h
  obtain ⟨⟨⟨⟨h1, h2⟩, h3⟩, hp⟩, h4⟩ := h
  refine ⟨h1, h2, h3, hp, fun y hy => ⟨fun e => ?_, (h4 y hy).1.2⟩, fun y hy e => ?_⟩
  · rcases (h4 y hy).1.1 with z | z
    · exact absurd e z
    · exact z
  · rcases (h4 y hy).2 with (z | z) | z
    · exact absurd e z
    · exact .inl z
    · exact .inr z
theorem LamS1.has {X : Cx} {scope : Scope} {a : Str} (L : LamS1 X.env.scope scope a) (ok : X.Ok) : ∀ y ∈ scope.names, y.2 = .free → ∃ c, X.env.cells.lookup y.1 = some c := fun y hy e => by
  rcases L.free y hy e with k | k
  · exact ok.has _ (.inl k)
  · exact ok.has _ (.inr k)
section
variable {X : Cx} {pins : List (Addr × Obj)} {σ : L2.St} {H : Hp} {s : Shared}
theorem lam_start1 {A : Around} {outer : List Env} {E : XK} {scope : Scope} {f c' : Addr} {h₁ : Heap} {tk i : Nat} {a : Str} {x : V} {u : Value} (I : Inv X pins σ H s) (L : LamS1 X.env.scope scope a) (hN : X.N[i]? = some a) (hnd : X.N.Nodup) (rx : RelV x u)
    (e0 : Env0 X.prog X.w X.K X.mg X.base A outer s H) (hd : A.handled = none)
    (hns : h₁.Ns s.heap.objs.size fun y => ([(a, u)] : List (Str × Value)).reverse.lookup y) (kp : ∀ b o, s.heap.get? b = some o → h₁.get? b = some o) :
    Inv (lamCx X A outer s H E scope f c') [] (σ.set i (some x)) H { s with heap := h₁, toks := tk } := by
  have hfree := L.has I.ok
  have cm : ∀ {y c}, (cloFrom X.env.cells scope.names []).lookup y = some c → X.env.cells.lookup y = some c := fun {y c} e => by
    rcases cloFrom_mem (PySem.mem_of_lookup e) with hm | ⟨h1, h2⟩
    · cases hm
    · obtain ⟨c1, hc⟩ := hfree _ h1 rfl
      have hc : X.env.cells.lookup y = some c1 := hc
      have e2 : c = c1 := by
        rw [h2, hc] <;> rfl
      rw [e2]
      exact hc
  have look : ∀ {y}, scope.names.lookup y = some .free → ∃ c, (cloFrom X.env.cells scope.names []).lookup y = some c := fun {y} hl => by
    have hy : (y, NameKind.free) ∈ scope.names := PySem.mem_of_lookup hl
    exact mem_lookup (cloFrom_has (cells := X.env.cells) (acc := []) hy)
  have cellK : ∀ {c : Addr} {v : Option Value}, s.heap.IsCell c v → h₁.IsCell c v := fun {c v} ⟨o, ho, hd⟩ => ⟨o, kp _ _ ho, hd⟩
  have noA : ∀ b : Addr, b ∉ (lamCx X A outer s H E scope f c').ex := fun b z => absurd (show b ∈ ([] : List Addr) from z) (by simp)
  refine ⟨⟨e0.mod, L.kind, rfl, rfl, Nat.le_refl _, fun y z c e1 e2 => I.ok.inj y z c (cm e1) (cm e2), fun y hy => ?_, fun y c z _ => ?_, fun _ => hd, Around.frames_deeper e0.frames, .inr ⟨rfl, rfl⟩, fun b z => absurd z (noA b), e0.bs, e0.bsz, fun b _ _ => noA b,
      fun b z => absurd z (noA b), e0.funs, e0.frf⟩,
    rfl, e0.bare, Un.kept kp, ⟨_, hns, fun j y v e1 e2 e3 => ?_⟩, fun y c e => ?_, e0.hok.fresh (Nat.le_refl _), fun y c e => ?_, fun q hq => absurd (show q ∈ ([] : List (Addr × Obj)) ++ [] from hq) (by simp), e0.hok.kept kp, by rw [List.length_set]; exact I.len⟩
  · have hy : scope.names.lookup y = some .cell ∨ scope.names.lookup y = some .free := hy
    rcases hy with hy | hy
    · exact absurd rfl (L.own _ (PySem.mem_of_lookup hy)).2
    · exact look hy
  · have z : false = true := z
    cases z
  · have e1 : X.N[j]? = some y := e1
    have e3 : Vis scope y := e3
    rcases e3 with k | k | k
    · have ey : y = a := (L.own _ (PySem.mem_of_lookup k)).1 rfl
      subst ey
      have hji : j = i := nodup_ix hnd e1 hN
      subst hji
      have hlt : j < σ.length := by rw [I.len]; exact (List.getElem?_eq_some_iff.mp hN).1
      rw [List.getElem?_set_self hlt] at e2
      have ev : x = v := Option.some.inj (Option.some.inj e2)
      subst ev
      exact ⟨u, rx, .inl ⟨k, by simp [List.lookup]⟩⟩
    · exact absurd rfl (L.own _ (PySem.mem_of_lookup k)).2
    · have hji : i ≠ j := fun z => by
        subst z
        have ea : y = a := Option.some.inj (e1.symm.trans hN)
        subst ea
        rw [L.par] at k
        cases k
      rw [List.getElem?_set_ne hji] at e2
      obtain ⟨m, hn, hl⟩ := I.loc
      have hvis : Vis X.env.scope y := (L.free _ (PySem.mem_of_lookup k) rfl).elim (fun k => .inr (.inl k)) (fun k => .inr (.inr k))
      obtain ⟨w', r, q⟩ := hl j y v e1 e2 hvis
      obtain ⟨c2, h2⟩ := look k
      refine ⟨w', r, .inr ⟨.inr k, c2, h2, ?_⟩⟩
      have c1 := cm h2
      rcases q with ⟨k', _⟩ | ⟨_, c3, e', z⟩
      · have k' : X.env.scope.names.lookup y = some .local := k'
        rcases L.free _ (PySem.mem_of_lookup k) rfl with k2 | k2 <;> rw [show X.env.scope.names.lookup y = _ from k2] at k' <;> cases k'
      · rw [c1] at e'
        cases e'
        exact cellK z
  · obtain ⟨w', z⟩ := I.cell y c (cm e)
    exact ⟨w', cellK z⟩
  · exact I.freeC y c (cm e)
/-- f(v), f the lambda -/
theorem call_lam {f c' : Addr} {pm ctv : Value} {params : Arguments} {body : Expr} {scope : Scope} {A : Around} {k i : Nat} {a : Str} {x : V} {v : Value} {tb : TE} {Q : VK}
    (I : Inv X pins σ H s) (L : LamS1 X.env.scope scope a) (hN : X.N[i]? = some a) (hnd : X.N.Nodup) (hf : s.heap.get? f = some (PySem.W.kla_obj "<lambda>" (X.env.qual ++ "<lambda>") params body scope (cloFrom X.env.cells scope.names []) pm c' ctv)) (hco : H c' = some (CodeO c' (X.env.qual ++ "<lambda>")))
    (hbind : bindArgs (PySem.W.kla_fn "<lambda>" (X.env.qual ++ "<lambda>") params body scope (cloFrom X.env.cells scope.names []) pm (.ref c') ctv) ⟨[v], []⟩ = pure [(a, v)])
    (hr : Room (k + 1) A) (ha : A.frames = some X.stack)
    (hbody : ∀ (A : Around) (outer : List Env) (s : Shared) (H : Hp), Room k (A.deeper (lamEnv X scope s.heap.objs.size f c')) → PE (lamCx X A outer s H C8.E0 scope f c') body tb)
    (rx : RelV x v) (ht : tb (σ.set i (some x)) H Q) :
    wpAny (model X.prog X.w) A (call (.ref f) [v]) (EP X pins σ Q) (fun _ _ => False) s := by
  obtain ⟨⟨oc, vs, t, hoc, hdc, hvc⟩, _, _⟩ := I.hok c' _ hco
  have e0 : Env0 X.prog X.w X.K X.mg X.base A X.stack s H := { I.env0 with frames := ha }
  have rc : codeAny (model X.prog X.w) A (.call (.ref f) ⟨[v], []⟩) (CR (L2.CX X.prog X.w) X.stack X.prog X.w H s Q C8.E0) s := by
    refine PySem.W.kla_callFunE hr.depth hf rfl L.co L.gen rfl ⟨c', oc, vs, t, rfl, hoc, hdc, hvc⟩ ?_
    rw [hbind]
    refine wpAny_pure (wpAny_newFunctionEnv (fun y hy => (L.own y hy).2) (fun y hy => ?_) (fun h₁ hns hsb => ⟨I.nolimit.fresh _ hsb, ?_⟩) L.kind)
    · rw [List.mem_singleton.mp hy]
      exact L.par
    show codeAny _ _ (.expr body (lamEnv X scope s.heap.objs.size f c')) _ _
    have kp : ∀ b o, s.heap.get? b = some o → h₁.get? b = some o := fun b o e => hsb.extBut b o (Nat.ne_of_lt (Heap.lt_size e)) (Heap.get?_push_of_some _ e)
    have J : Inv (lamCx X A X.stack s H C8.E0 scope f c') [] (σ.set i (some x)) H { s with heap := h₁, toks := s.toks + ([(a, v)] : List (Str × Value)).length } :=
      lam_start1 I L hN hnd rx e0 hr.hd hns kp
    refine PySem.W.kla_codeExpr (wpAny_mono ((hbody _ _ s H (hr.deeper _)).run [] _ _ H Q J ht) (fun v s' hq => ?_) fun e s' hq => hq)
    obtain ⟨w', H', J', rv, q⟩ := hq
    exact ⟨w', H', J'.os, J'.bare, J'.base, J'.hok, rv, q⟩
  refine wpAny_call (codeAny_mono rc fun r s' hq => ?_)
  cases r with
  | error e =>
    obtain ⟨_, _, _, _, _, _, _, _, _, _, _, _, z⟩ := hq
    exact z.elim
  | ok fl =>
    cases fl with
    | ret u => exact I.after hq
    | next => exact False.elim hq
    | brk => exact False.elim hq
    | cont => exact False.elim hq
end
end LapW
set_option Elab.async false
set_option linter.all false
set_option maxRecDepth 100000
set_option maxHeartbeats 4000000
/-! sorted(xs, key=lambda row: ..) as a rule. -/
namespace LapW
open PySem PySem.Spec PyProof.Rows L2 LamX
theorem extN_tp {H H' : Hp} (e : ExtN H H') : Tp H H' := fun a xs r => by
  rcases r with r | ⟨ob, r⟩
  · exact .inl (e _ _ r fun ps z => by cases z)
  · exact .inr ⟨ob, e _ _ r fun ps z => by cases z⟩
theorem extN_l {K : PySem.W.Frag} {H H' : Hp} {a : Addr} {xs : List V} (e : ExtN H H') (h : SqL K H a xs) : SqL K H' a xs := by
  rcases h with (r | ⟨ob, r⟩) | h
  · exact .inl (.inl (e _ _ r fun ps z => by cases z))
  · exact .inl (.inr ⟨ob, e _ _ r fun ps z => by cases z⟩)
  · exact .inr h
theorem each_reads {X : Cx} {pins : List (Addr × Obj)} {σ : L2.St} {H : Hp} {s : Shared} (I : Inv X pins σ H s) : ∀ {ks : List V} {us : List Value} {ds : List PyData}, DtAll X.K H ks ds → Vals ks us → PySem.W.EachIs (fun v k => ∃ as, Reads s.heap v k as) us ds
  | [], _, _, d, r => by
    cases d
    cases r
    exact .nil
  | k :: ks, _, _, d, r => by
    cases d with
    | cons d1 d2 =>
      cases r with
      | cons r1 r2 => exact .cons (Dp.reads I _ _ _ (Dt.dp _ _ d1) r1) (each_reads I d2 r2)
/-- the value u stands for c -/
def Is {α : Type} (K : PySem.W.Frag) (H : Hp) (d : α → PyData) (u : Value) (c : α) : Prop := ∃ y, RelV y u ∧ Dt K H y (d c)
theorem each_is {α : Type} {K : PySem.W.Frag} {H : Hp} {d : α → PyData} : ∀ {ks : List V} {us : List Value} {cs : List α}, DtAll K H ks (cs.map d) → Vals ks us → PySem.W.EachIs (Is K H d) us cs
  | [], _, [], _, r => by
    cases r
    exact .nil
  | [], _, _ :: _, h, _ => by cases h
  | _ :: _, _, [], h, _ => by cases h
  | k :: ks, _, c :: cs, h, r => by
    cases h with
    | cons d1 d2 =>
      cases r with
      | cons r1 r2 => exact .cons ⟨k, r1, d1⟩ (each_is d2 r2)
theorem of_each {α : Type} {K : PySem.W.Frag} {H : Hp} {d : α → PyData} : ∀ {us : List Value} {cs : List α}, PySem.W.EachIs (Is K H d) us cs → ∃ ks, Vals ks us ∧ DtAll K H ks (cs.map d)
  | _, _, .nil => ⟨[], .nil, .nil⟩
  | _, _, .cons ⟨y, r, h⟩ t => by
    obtain ⟨ks, r2, h2⟩ := of_each t
    exact ⟨y :: ks, .cons r r2, .cons h h2⟩
def SortBody (TT : List (Addr × Str)) (K : PySem.W.Frag) (i : Nat) (tb : TE) (σ : L2.St) (Q : VK) (vs : List V) (H1 : Hp) : Prop := Tabs TT H1 ∧ ∃ (a : Addr) (xs : List V) (α : Type) (cs : List α) (d key : α → PyData), vs = [.ref a] ∧ SqL K H1 a xs ∧ DtAll K H1 xs (cs.map d) ∧
  PySem.W.AllAlike (cs.map key) ∧ PySem.W.Sortable (cs.map key) ∧ (∀ c ∈ cs, (key c).depth ≤ 20) ∧
  (∀ H2 (y : V) (c : α), ExtN H1 H2 → c ∈ cs → Dt K H2 y (d c) → tb (σ.set i (some y)) H2 fun z H3 => Ex H2 H3 ∧ Dt K H3 z (key c)) ∧
  ∀ H2 p zs, ExtN H1 H2 → Tabs TT H2 → H2 p = some (.lst zs) → DtAll K H2 zs ((cs.mergeSort (PySem.W.dataLe false key)).map d) → Q (.ref p) H2
def tSortLam (TT : List (Addr × Str)) (K : PySem.W.Frag) (i : Nat) (tx : TA) (tb : TE) : TE := fun σ H Q => tx σ H (SortBody TT K i tb σ Q)
theorem Ex.extN {H H' : Hp} (e : Ex H H') : ExtN H H' := fun b o h _ => e b o h
section
variable {X : Cx}
theorem pe_sortLam {TT : List (Addr × Str)} {c P : Addr} {params : Arguments} {body : Expr} {scope : Scope} {i k : Nat} {a : Str} {e : Expr} {tx : TA} {tb : TE} {p pos lpos kpos : Pos} (hx : PA X [e] tx)
    (hg : Gl X "sorted") (hm : X.mg "sorted" = none) (TB : TabB X.base X.mg c P) (hcode : X.env.code = .ref c) (hmT : (P, X.env.qual ++ "<lambda>") ∈ TT) (hu : ∀ p ∈ TT, p.1 = P → p.2 = X.env.qual ++ "<lambda>")
    (hstk : ∀ b ∈ X.env.locals :: X.fs, b ∈ frs X.stack) (hr : Room (k + 3) X.A) (L : LamS1 X.env.scope scope a) (hN : X.N[i]? = some a) (hnd : X.N.Nodup) (hdef : defaultsOf params X.env = ([], []))
    (hbind : ∀ (cl : List (Str × Addr)) (pm cv ctv v : Value), bindArgs (PySem.W.kla_fn "<lambda>" (X.env.qual ++ "<lambda>") params body scope cl pm cv ctv) ⟨[v], []⟩ = pure [(a, v)])
    (hbody : ∀ (A : Around) (outer : List Env) (s : Shared) (H : Hp) (f c' : Addr), Room k (A.deeper (lamEnv X scope s.heap.objs.size f c')) → PE (lamCx X A outer s H C8.E0 scope f c') body tb)
    (he : backTo pos (starEach [e] X.env) = (false, eval e X.env) :: backTo pos (starEach [] X.env) := by rfl) (hpl : (backTo pos (starEach [e] X.env)).any (·.1) = false := by rfl) :
    PE X (.Call (.Name "sorted" p) [e] [⟨some "key", .Lambda params body scope lpos, kpos⟩] pos) (tSortLam TT X.K i tx tb) := by
  refine ⟨fun pins s σ H Q I h => ?_⟩
  refine wpAny_Call_Name_kw (ld_blt I hg hm PyProof.Rows.boot_sorted ?_)
  refine PyProof.Rows.callWith_kw (thn (hx.run pos pins s σ H (SortBody TT X.K i tb σ Q) I h) fun us s1 ⟨vs, H1, I1, r1, q1⟩ => ?_) he hpl
  obtain ⟨hT, l, xs, α, cs, d, key, ev, hl, hd, hal, hsk, hdp, hkey, fin⟩ := q1
  subst ev
  obtain rfl := Vals.ref1 r1
  show wpAny _ _ (evalAll ((do let v ← eval (.Lambda params body scope lpos) X.env; standAt pos; pure v) :: (backToKw pos (keywordEach [] X.env)).map (·.2))) _ _ s1
  refine wpAny_evalAll_cons (wpAny_bind (lam_make2 I1 TB hcode hmT hu hT hdef (L.has I1.ok) fun f c' pm ctv H2 s2 I2 eN T2 hf hfn hfr hco => wpAny_bind (wpAny_standAt (wpAny_pure (wpAny_evalAll_nil ?_)))))
  show wpAny _ _ (call (.builtin "sorted") [.ref l] [(Str.ofString "key", .ref f)]) _ _ s2
  obtain ⟨PN, ePN⟩ : ∃ PN, PN = pins ++ [(f, PySem.W.kla_obj "<lambda>" (X.env.qual ++ "<lambda>") params body scope (cloFrom X.env.cells scope.names []) pm c' ctv)] := ⟨_, rfl⟩
  have I2' : Inv X PN σ H2 s2 := I2.pins_of fun p hp => by
    rw [ePN] at hp
    rcases List.mem_append.mp hp with z | z
    · exact I2.pin p (List.mem_append_right _ z)
    · rw [List.mem_singleton.mp z]
      exact ⟨hf, hfn, fun z => hfr (hstk _ (by rw [show f = X.env.locals from z]; exact List.mem_cons_self)), fun z => hfr (hstk _ (List.mem_cons_of_mem _ z)), fun v z => by cases z⟩
  have hl2 := extN_l eN hl
  have hd2 := (extN_tp eN).da hd
  obtain ⟨its, rv, hpl2, hz⟩ := I2.list hl2
  have len1 : xs.length = cs.length := by rw [dpa_len hd, List.length_map]
  have len2 : its.length = cs.length := by rw [← rv.length, len1]
  have hsz1 : s2.heap.objs.size ≤ s2.heap.objs.size + 1 := Nat.le_succ _
  have hsz3 : s2.heap.objs.size ≤ s2.heap.objs.size + 3 := Nat.le_add_right _ _
  have hne : s2.heap.objs.size + 3 ≠ s2.heap.objs.size + 1 := Nat.ne_of_gt (Nat.add_lt_add_left (by decide) _)
  have fa : ∀ {H' : Hp}, H' (s2.heap.objs.size + 1) = none → FpOk X PN H' (s2.heap.objs.size + 1) := fun h => I2'.fpOk hsz1 h
  have fk : ∀ {H' : Hp}, H' (s2.heap.objs.size + 3) = none → FpOk X PN H' (s2.heap.objs.size + 3) := fun h => I2'.fpOk hsz3 h
  -- the two objects of the sort, pinned
  have pin2 : ∀ {H' : Hp} {s' : Shared} {e1 e : Nat} {kA : Array Value}, Inv X PN σ H' s' → s'.heap.get? (s2.heap.objs.size + 1) = some (PyProof.Rows.seqObj "list" #[] e1) → s'.heap.get? (s2.heap.objs.size + 3) = some (PyProof.Rows.seqObj "list" kA e) →
      H' (s2.heap.objs.size + 1) = none → H' (s2.heap.objs.size + 3) = none → Inv X (PN ++ [(s2.heap.objs.size + 1, PyProof.Rows.seqObj "list" #[] e1), (s2.heap.objs.size + 3, PyProof.Rows.seqObj "list" kA e)]) σ H' s' := fun {H' s' e1 e kA} J g1 g2 n1 n2 => J.pins_of fun p hp => by
    rcases List.mem_append.mp hp with z | z
    · exact J.pin p (List.mem_append_right _ z)
    · rcases List.mem_cons.mp z with z | z
      · obtain ⟨f0, f1, f2, _⟩ := fa n1
        rw [z]
        exact ⟨g1, f0, f1, f2, fun v z => by cases z⟩
      · obtain ⟨f0, f1, f2, _⟩ := fk n2
        rw [List.mem_singleton.mp z]
        exact ⟨g2, f0, f1, f2, fun v z => by cases z⟩
  have at2 : ∀ {H' : Hp} {s' : Shared} {e1 e : Nat} {kA : Array Value}, Inv X (PN ++ [(s2.heap.objs.size + 1, PyProof.Rows.seqObj "list" #[] e1), (s2.heap.objs.size + 3, PyProof.Rows.seqObj "list" kA e)]) σ H' s' →
      s'.heap.get? (s2.heap.objs.size + 1) = some (PyProof.Rows.seqObj "list" #[] e1) ∧ s'.heap.get? (s2.heap.objs.size + 3) = some (PyProof.Rows.seqObj "list" kA e) ∧ H' (s2.heap.objs.size + 1) = none ∧ H' (s2.heap.objs.size + 3) = none := fun {H' s' e1 e kA} J => by
    have p1 := J.pin (s2.heap.objs.size + 1, PyProof.Rows.seqObj "list" #[] e1) (List.mem_append_right _ (List.mem_append_right _ List.mem_cons_self))
    have p2 := J.pin (s2.heap.objs.size + 3, PyProof.Rows.seqObj "list" kA e) (List.mem_append_right _ (List.mem_append_right _ (List.mem_cons_of_mem _ List.mem_cons_self)))
    exact ⟨p1.1, p2.1, p1.2.1, p2.2.1⟩
  refine sorted_W (kz := cs.map key) (b := false) (W := fun e1 i kA s' => ∃ (e : Nat) (H' : Hp) (ks : List V), Inv X (PN ++ [(s2.heap.objs.size + 1, PyProof.Rows.seqObj "list" #[] e1), (s2.heap.objs.size + 3, PyProof.Rows.seqObj "list" kA e)]) σ H' s' ∧ Ex H2 H' ∧ Vals ks kA.toList ∧ DtAll X.K H' ks ((cs.map key).take i) ∧ i ≤ cs.length)
    hpl2.isList (by rw [List.length_map, len2]) (by rw [← rv.length]; exact hz) hal hsk (fun d hd => ?_) (PyProof.Rows.ksk_s1 _ _) (fun _ => PyProof.Rows.ksk_l1 _ _) (fun _ => PyProof.Rows.ksk_t1 _ _) (fun e1 => ⟨?_, ?_⟩) (fun e1 h' tk k0 g1 g2 => ?_) (fun e1 i0 v kA s' hv hw => ?_) fun e1 s' kA h' tk out c0 hw kp g ko => ?_
  · obtain ⟨c0, hc0, rfl⟩ := List.mem_map.mp hd
    have h1 := hdp c0 hc0
    have h2 := hr.un
    show X.A.units + 1 + 1 + _ < _
    omega
  · rintro i0 kA s' ⟨e, H', ks, J, eH, rk, dk, hi0⟩
    obtain ⟨g1, g2, _, _⟩ := at2 J
    refine ⟨⟨e, g2⟩, g1, ?_⟩
    have h1 : ks.length = i0 := by
      rw [dpa_len dk, List.length_take, List.length_map]
      omega
    rw [← Array.length_toList, ← Vals.length rk, h1]
  · rintro kA s' ⟨e, H', ks, J, eH, rk, dk, hi0⟩
    rw [List.take_length] at dk
    exact each_reads J dk rk
  · have J : Inv X PN σ H2 { s2 with heap := h', toks := tk } := I2'.kept k0
    exact ⟨0, H2, [], pin2 J g1 g2 (I2.hok.fresh hsz1) (I2.hok.fresh hsz3), Ex.rfl' _, .nil, .nil, Nat.zero_le _⟩
  · obtain ⟨e, H', ks, J, eH, rk, dk, hi0⟩ := hw
    have hlt : i0 < its.length := (List.getElem?_eq_some_iff.mp hv).1
    have hltc : i0 < cs.length := by omega
    obtain ⟨c0, hc0⟩ : ∃ c0, cs[i0]? = some c0 := ⟨_, List.getElem?_eq_getElem hltc⟩
    obtain ⟨y, hy, dy⟩ := dpa_at (d := d c0) hd2 (by rw [List.getElem?_map, hc0]; rfl)
    obtain ⟨v', hv', ry⟩ := rv.get hy
    have ev : v' = v := by
      rw [hv] at hv'
      exact (Option.some.inj hv').symm
    subst ev
    have hf' := (J.pin (f, PySem.W.kla_obj "<lambda>" (X.env.qual ++ "<lambda>") params body scope (cloFrom X.env.cells scope.names []) pm c' ctv) (List.mem_append_right _ (List.mem_append_left _ (by rw [ePN]; exact List.mem_append_right _ List.mem_cons_self)))).1
    refine wpAny_mono (call_lam (k := k) (A := X.A.in1.in1) J L hN hnd hf' (eH _ _ hco) (hbind _ _ _ _ _) (hr.in1.in1) (show X.A.frames = _ from I2.ok.frames) (fun A outer s H hr2 => hbody A outer s H f c' hr2) ry (hkey H' y c0 (eN.trans (Ex.extN eH)) (List.mem_of_getElem? hc0) (eH.d dy))) (fun u s3 hu => ?_) fun _ _ z => z
    obtain ⟨z, H3, J3, rz, e3, dz⟩ := hu
    obtain ⟨g1, g2, n1, n2⟩ := at2 J3
    refine ⟨⟨e, g2⟩, fun tk => ?_⟩
    have sb := Heap.SameBut.update s3.heap (s2.heap.objs.size + 3) (Obj.mapSeq (·.push u))
    have J4 : Inv X PN σ H3 { s3 with heap := s3.heap.update (s2.heap.objs.size + 3) (Obj.mapSeq (·.push u)), toks := tk } := (J3.unpinned).turnedL (ch := [s2.heap.objs.size + 3]) (fun b o hb q => (sb.2 b fun z => hb (by rw [z]; exact List.mem_cons_self)).trans q) fun b hb => by
      rw [List.mem_singleton.mp hb]
      exact fk n2
    obtain ⟨c2, hc2⟩ : ∃ c2, (s3.heap.update (s2.heap.objs.size + 3) (Obj.mapSeq (·.push u))).get? (s2.heap.objs.size + 3) = some (PyProof.Rows.seqObj "list" (kA.push u) c2) := ⟨_, PyProof.Rows.get?_update_seq g2 (·.push u)⟩
    refine ⟨c2, H3, ks ++ [z], pin2 J4 ((sb.2 _ hne.symm).trans g1) hc2 n1 n2, eH.tr e3, ?_, ?_, hltc⟩
    · rw [Array.toList_push]
      exact rk.append (.cons rz .nil)
    · rw [List.take_add_one, List.getElem?_map, hc0]
      exact dpa_app (e3.da dk) (.cons dz .nil)
  · obtain ⟨e, H', ks, J, eH, rk, dk, hi0⟩ := hw
    obtain ⟨g1, g2, n1, n2⟩ := at2 J
    have J4 : Inv X PN σ H' { s' with heap := h', toks := tk } := (J.unpinned).turnedL (ch := [s2.heap.objs.size + 1, s2.heap.objs.size + 3]) (fun b o hb q => kp b o (fun z => hb (by rw [z]; exact List.mem_cons_self)) (fun z => hb (by rw [z]; exact List.mem_cons_of_mem _ List.mem_cons_self)) q) fun b hb => by
      rcases List.mem_cons.mp hb with z | z
      · rw [z]
        exact fa n1
      · rw [List.mem_singleton.mp z]
        exact fk n2
    have hE := PySem.W.keyedOut_each key ko (each_is hd2 rv)
    obtain ⟨zs, rz, dz⟩ := of_each hE
    have hzs : zs.length ≤ sizeLine := by
      rw [dpa_len dz, List.length_map, List.length_mergeSort, ← len1]
      exact hz
    have J5 : Inv X PN σ (upd H' (s2.heap.objs.size + 1) (.lst zs)) { s' with heap := h', toks := tk } := J4.take (t' := tk) (fun _ _ _ q => q) (fa n1) ⟨hzs, out, c0, rz, g⟩
    have J6 : Inv X pins σ (upd H' (s2.heap.objs.size + 1) (.lst zs)) { s' with heap := h', toks := tk } := by
      rw [ePN] at J5
      exact J5.unpinned
    have eF : Ex H2 (upd H' (s2.heap.objs.size + 1) (.lst zs)) := eH.nx n1
    exact ⟨.ref (s2.heap.objs.size + 1), _, J6, rfl, fin _ _ zs (eN.trans (Ex.extN eF)) (T2.ext eF) upd_same (eF.da dz)⟩
end
end LapW
set_option Elab.async false
set_option linter.all false
set_option maxRecDepth 100000
set_option maxHeartbeats 4000000
/-! [(*row, one) for row in found for one in some] -/
namespace LapW
open PySem PySem.Spec PyProof.Rows L2 StX
def rowsD (os : List PyData) (rs : List (List PyData)) : List PyData := rs.flatMap fun r => os.map fun o => .tuple (r ++ [o])
theorem rowsD_take {os : List PyData} {rs : List (List PyData)} {i : Nat} {r : List PyData} (h : rs[i]? = some r) : rowsD os (rs.take (i + 1)) = rowsD os (rs.take i) ++ os.map fun o => .tuple (r ++ [o]) := by
  unfold rowsD
  rw [List.take_add_one, h, Option.toList_some, List.flatMap_append]
  simp
theorem lc2_D {K : PySem.W.Frag} {a b : Addr} {xs ys : List V} {rs : List (List PyData)} {os : List PyData} {s0 s1 s2 s3 s4 o6 o7 : Option V} {H1 : Hp} {D : Addr} {Qd : Hp → Prop}
    (hx : SqL K H1 a xs) (dx : DtAll K H1 xs (rs.map PyData.tuple)) (hy : SqT K H1 b ys) (dy : DtAll K H1 ys os) (hz : rs.length * os.length ≤ 100) (hr : ∀ r ∈ rs, r.length ≤ 10) (hD : H1 D = none)
    (hd : ∀ H' zs, Ex H1 H' → H' D = some (.lst zs) → DtAll K H' zs (rowsD os rs) → Qd H') :
    ∃ W : Nat → Nat → Hp → Prop, (∃ m, W 0 m (upd H1 D (.lst []))) ∧ ∀ i m H, W i m H →
      ((Itl K a).stop i H ∧ Qd H) ∨ ((Itl K a).go i H ∧ ∃ Nx : Hp → Prop, (∀ H', Nx H' → ∃ m', m' < m ∧ W (i + 1) m' H') ∧ ∀ x H', (Itl K a).yld i H x H' → gName 6 x (wipe [s0, s1, s2, s3, s4, some (.ref b), o6, o7] [6, 7]) H' fun σ2 H2 => wipe σ2 [6, 7] = wipe [s0, s1, s2, s3, s4, some (.ref b), o6, o7] [6, 7] ∧ tYes σ2 H2 fun b H3 =>
        if b = true then iTup K (tVar 5) σ2 H3 fun J1 H4 => ∃ W1 : Nat → Nat → Hp → Prop, (∃ m, W1 0 m H4) ∧ ∀ j k H, W1 j k H →
          (J1.stop j H ∧ Nx H) ∨ (J1.go j H ∧ ∃ Nx1 : Hp → Prop, (∀ H', Nx1 H' → ∃ k', k' < k ∧ W1 (j + 1) k' H') ∧ ∀ x H', J1.yld j H x H' → gName 7 x (wipe σ2 [7]) H' fun σ3 H5 => wipe σ3 [7] = wipe σ2 [7] ∧ tYes σ3 H5 fun b H6 =>
            if b = true then tTup (tStar K (tVar 6) (tCons (tVar 7) tNil)) σ3 H6 fun y H7 => ∃ acc, H7 D = some (.lst acc) ∧ acc.length < sizeLine ∧ Nx1 (upd H7 D (.lst (acc ++ [y]))) else Nx1 H6)
        else Nx H3) := by
  have lx : xs.length = rs.length := by rw [dpa_len dx, List.length_map]
  have ly : ys.length = os.length := dpa_len dy
  refine ⟨fun i m H => i ≤ rs.length ∧ m = rs.length - i ∧ ∃ zs, Ex H1 H ∧ H D = some (.lst zs) ∧ DtAll K H zs (rowsD os (rs.take i)) ∧ zs.length = i * os.length, ⟨_, Nat.zero_le _, rfl, [], Ex.nw hD, upd_same, .nil, by simp⟩, ?_⟩
  rintro i m H ⟨hi, rfl, zs, e, hDz, dz, lz⟩
  by_cases hin : i = rs.length
  · subst hin
    rw [List.take_length] at dz
    exact .inl ⟨⟨xs, e.l hx, by omega⟩, hd H zs e hDz dz⟩
  · have hlt : i < rs.length := by omega
    obtain ⟨r, hrr⟩ : ∃ r, rs[i]? = some r := ⟨_, List.getElem?_eq_getElem hlt⟩
    obtain ⟨x0, hx0, dx0⟩ := dpa_at (d := .tuple r) dx (by rw [List.getElem?_map, hrr]; rfl)
    refine .inr ⟨⟨xs, x0, e.l hx, hx0⟩, fun H' => ∃ zs, Ex H1 H' ∧ H' D = some (.lst zs) ∧ DtAll K H' zs (rowsD os (rs.take (i + 1))) ∧ zs.length = (i + 1) * os.length, fun H' h => ⟨_, by omega, hlt, rfl, h⟩, fun x H' hyl => ?_⟩
    obtain ⟨eH, ex⟩ := hyl
    subst eH
    have ex : x0 = x := Option.some.inj (hx0.symm.trans (ex xs (e.l hx)))
    subst ex
    refine ⟨rfl, iteT (B := True) ?_⟩
    refine ⟨_, rfl, b, rfl, ⟨ys, e.t hy⟩, fun j k H2 => j ≤ os.length ∧ k = os.length - j ∧ ∃ zs, Ex H1 H2 ∧ H2 D = some (.lst zs) ∧ DtAll K H2 zs (rowsD os (rs.take i) ++ (os.take j).map fun o => .tuple (r ++ [o])) ∧ zs.length = i * os.length + j, ⟨_, Nat.zero_le _, rfl, zs, e, hDz, by simpa using dz, lz⟩, ?_⟩
    rintro j k H2 ⟨hj, rfl, zs, e2, hDz, dz, lz⟩
    by_cases hjn : j = os.length
    · subst hjn
      rw [List.take_length] at dz
      refine .inl ⟨⟨ys, e2.t hy, by omega⟩, zs, e2, hDz, by rw [rowsD_take hrr]; exact dz, ?_⟩
      rw [lz, Nat.add_mul, Nat.one_mul]
    · have hlj : j < os.length := by omega
      obtain ⟨o, hoo⟩ : ∃ o, os[j]? = some o := ⟨_, List.getElem?_eq_getElem hlj⟩
      obtain ⟨y0, hy0, dy0⟩ := dpa_at (d := o) dy hoo
      refine .inr ⟨⟨ys, y0, e2.t hy, hy0⟩, fun H' => ∃ zs, Ex H1 H' ∧ H' D = some (.lst zs) ∧ DtAll K H' zs (rowsD os (rs.take i) ++ (os.take (j + 1)).map fun o => .tuple (r ++ [o])) ∧ zs.length = i * os.length + (j + 1), fun H' h => ⟨_, by omega, hlj, rfl, h⟩, fun x H' hyl => ?_⟩
      obtain ⟨eH, ey⟩ := hyl
      subst eH
      have ey : y0 = x := Option.some.inj (hy0.symm.trans (ey ys (e2.t hy)))
      subst ey
      refine ⟨rfl, iteT (B := True) ?_⟩
      have dr := e2.d dx0
      cases dr with
      | @tup t rxs _ ht dr =>
        have lr : rxs.length ≤ 10 := by rw [dpa_len dr]; exact hr r (List.mem_of_getElem? hrr)
        refine ⟨_, rfl, t, rxs, rfl, .inl ht, _, rfl, by rw [List.length_append, sizeLine_eq]; show rxs.length + 1 ≤ _; omega, fun p hp => ?_⟩
        have hDp : D ≠ p := ne_of_none hDz hp
        have hmul : (i + 1) * os.length ≤ rs.length * os.length := Nat.mul_le_mul_right _ hlt
        rw [Nat.add_mul, Nat.one_mul] at hmul
        refine ⟨zs, by rw [upd_ne hDp]; exact hDz, by rw [sizeLine_eq]; omega, zs ++ [.ref p], ?_, upd_same, ?_, by rw [List.length_append]; simp; omega⟩
        · exact Evl.Ex.mut (e2.nx hp) hD
        · have tp1 : Tp H' (upd H' p (.tup (rxs ++ [y0]))) := (Ex.nw hp).tp
          have tp2 : Tp (upd H' p (.tup (rxs ++ [y0]))) (upd (upd H' p (.tup (rxs ++ [y0]))) D (.lst (zs ++ [.ref p]))) := Tp.w (NoTup.l (by rw [upd_ne hDp]; exact hDz))
          rw [List.take_add_one, hoo, Option.toList_some, List.map_append, ← List.append_assoc]
          refine dpa_app ((tp1.tr tp2).da dz) (.cons ?_ .nil)
          exact .tup (tp2.t sqt_new) ((tp1.tr tp2).da (dpa_app dr (.cons (e2.d dy0) .nil)))
end LapW
set_option Elab.async false
set_option linter.all false
set_option maxRecDepth 100000
set_option maxHeartbeats 4000000
namespace LapW
open PySem PySem.Spec PyProof.Rows L2 Lap

section
variable {X : Cx} {K : PySem.W.Frag}
theorem pi_tupK (h : X.K = K) {tg l : Expr} {tl : TE} (hl : PE X l tl) : PI X tg l (iTup K tl) := h ▸ pi_tup hl
theorem pa_starK (h : X.K = K) {e : Expr} {es : List Expr} {te : TE} {t : TA} {p : Pos} (he : PE X e te) (hr : PA X es t) (hs : starEach (.Starred e p :: es) X.env = (true, eval e X.env) :: starEach es X.env := by rfl) : PA X (.Starred e p :: es) (StX.tStar K te t) := h ▸ StX.pa_star he hr hs
end
def acTT (K : PySem.W.Frag) : List (Addr × Str) := [((He.cT K ("all_choices", none)).2, ("all_choices" ++ ".<locals>.") ++ "<lambda>")]
section
variable {P : Program} {w : World} {K : PySem.W.Frag} {mg : Str → Option Value} {base : Heap}
theorem cal_ofC {x : Str} {st : Stmt} {N ps : List Str} {k : Nat} {sp : Sp} (g : mg x = some (.ref (He.ga K x))) (d : ∃ fd, FunD K x x (defArgs st) (defBody st) (defScope st) [] [] (He.ga K x) fd) (S : FnScope N ps (defScope st)) (len : ∀ vs H Q E, sp vs H Q E → vs.length = ps.length)
    (h : ∀ (kV doc pm : Value) (an : Option Addr) (cdv ct : Value) (us : List Value), us.length = ps.length → bindArgs (PySem.W.fnOf x x (defArgs st) (defBody st) (defScope st) .none kV doc pm an cdv ct) ⟨us, []⟩ = pure (ps.zip us))
    (hbody : ∀ (cdv : Value), cdv = .ref (He.cT K (x, none)).1 → ∀ (A : Around) (outer : List Env) (s : Shared) (H : Hp) (vs : List V) (Q : VK) (E : XK), Room k (A.deeper (envOfC x (defScope st) s.heap.objs.size (He.ga K x) cdv)) → sp vs H Q E →
      ∃ t, PSs (cxOf C8.CX0 P w K mg base N x (defScope st) (He.ga K x) cdv A outer s H E).nox (defBody st) t ∧ t { nx := fun _ H' => Q .non H', rt := Q } (start N vs) H) : C8.Cal P w K mg base (k + 1) x sp [] := by
  obtain ⟨fd, F⟩ := d
  refine ⟨He.ga K x, fd, ps, [], ?_, g, F.kp, F.bindsN h, .nil⟩
  obtain ⟨oc, od, dV, kV, doc, pm, an, cdv, ct, osl, rfl, lk, hcd, _, _⟩ := F.ex
  obtain ⟨c, ec⟩ := He.codeIn_ref hcd
  have e1 : cdv = .ref (He.cT K (x, none)).1 := by
    rw [ec]
    exact congrArg Value.ref (He.codeOf_eq (p := (x, none)) lk ec).symm
  refine fn_of lk hcd S len fun A outer s H vs Q E hr hs => ?_
  obtain ⟨t, ht, q⟩ := hbody cdv e1 A outer s H vs Q E hr hs
  exact ⟨t, ht.nox, q⟩
abbrev s_all_choices : Stmt := top 72
abbrev N_all_choices : List Str := ["wheel", "prices", "found", "name", "thing", "some", "row", "one"]
theorem sc_all_choices : FnScope N_all_choices ["wheel", "prices"] (defScope s_all_choices) := ⟨rfl, rfl, rfl, by decide +kernel, rfl, by decide +kernel, by decide +kernel⟩

def stepL (os : List PyData) (rs : List (List PyData)) : List (List PyData) := rs.flatMap fun r => os.map fun o => r ++ [o]
theorem rowsD_step (os : List PyData) (rs : List (List PyData)) : rowsD os rs = (stepL os rs).map PyData.tuple := by
  unfold rowsD stepL
  rw [List.map_flatMap]
  congr 1
  funext r
  rw [List.map_map]
  rfl
def ruAt : Nat → Ru
  | 0 => .freeze | 1 => .stop | 2 => .hold | _ => .cut
def allD : Ru → List PyData
  | .hold => [.str "no", .str "yes"]
  | .freeze => [.int 0, .int 1, .int 2]
  | .stop => [.none, .int 1, .int 2, .int 3, .int 4]
  | .cut => [.none, .int 1, .int 2, .int 3, .int 4]
def optsD (u : Wh) (r q : Ru) : List PyData := if q = r then allD q else [ruD u q]
def prodL (u : Wh) (r : Ru) : Nat → List (List PyData)
  | 0 => [[]]
  | i + 1 => stepL (optsD u r (ruAt i)) (prodL u r i)
def varsOf (u : Wh) : Ru → List Wh
  | .freeze => [0, 1, 2].map fun i => { u with freeze := i }
  | .stop => [none, some 1, some 2, some 3, some 4].map fun o => withStop u o
  | .hold => [false, true].map fun b => { u with hold := b }
  | .cut => [none, some 1, some 2, some 3, some 4].map fun o => withCut u o
def keyD (u : Wh) (r : Ru) (price : Int) (c : Wh) : PyData := .tuple [.int (costOf u r price c), placesD c]
def allCs (u : Wh) (r : Ru) (price : Int) : List Wh := (varsOf u r).mergeSort (PySem.W.dataLe false (keyD u r price))
theorem prod_last (u : Wh) (r : Ru) : (prodL u r 4).map PyData.tuple = (varsOf u r).map chD := by cases r <;> rfl
theorem prod_small (u : Wh) (r : Ru) {i : Nat} (hi : i < 4) : (prodL u r i).length * (optsD u r (ruAt i)).length ≤ 100 ∧ ∀ row ∈ prodL u r i, row.length ≤ 10 := by
  match i, hi with
  | 0, _ => cases r <;> simp [prodL, stepL, optsD, ruAt, allD]
  | 1, _ => cases r <;> simp [prodL, stepL, optsD, ruAt, allD]
  | 2, _ => cases r <;> simp [prodL, stepL, optsD, ruAt, allD]
  | 3, _ => cases r <;> simp [prodL, stepL, optsD, ruAt, allD]
theorem vars_at {u c : Wh} {r : Ru} (h : c ∈ varsOf u r) : VarAt u r c := by
  intro q hq
  cases r <;> (obtain ⟨_, _, rfl⟩ := List.mem_map.mp h) <;> cases q <;> first | rfl | exact absurd rfl hq
theorem all_da {K : PySem.W.Frag} {H : Hp} (q : Ru) : DtAll K H (allV q) (allD q) := by
  cases q
  · exact .cons (.int _) (.cons (.int _) (.cons (.int _) .nil))
  · exact .cons .non (.cons (.int _) (.cons (.int _) (.cons (.int _) (.cons (.int _) .nil))))
  · exact .cons (.str _) (.cons (.str _) .nil)
  · exact .cons .non (.cons (.int _) (.cons (.int _) (.cons (.int _) (.cons (.int _) .nil))))
theorem ru_dt {K : PySem.W.Frag} {H : Hp} (u : Wh) (q : Ru) : Dt K H (ruV u q) (ruD u q) := by
  cases q
  · exact .int _
  · exact opt_dp _
  · exact .str _
  · exact opt_dp _
theorem alike_places (a b : Wh) : PySem.W.alike (placesD a) (placesD b) = true := by
  unfold placesD RUS
  have ho : ∀ x y, PySem.W.alike (placeO x) (placeO y) = true := fun x y => by cases x <;> cases y <;> rfl
  show (PySem.W.alike (placeD a .freeze) (placeD b .freeze) && (PySem.W.alike (placeO a.stop) (placeO b.stop) && (PySem.W.alike (placeD a .hold) (placeD b .hold) && (PySem.W.alike (placeO a.cut) (placeO b.cut) && true)))) = true
  rw [ho, ho]
  rfl
theorem key_alike (u : Wh) (r : Ru) (price : Int) (l : List Wh) : PySem.W.AllAlike (l.map (keyD u r price)) := fun d hd e he => by
  obtain ⟨a, _, rfl⟩ := List.mem_map.mp hd
  obtain ⟨b, _, rfl⟩ := List.mem_map.mp he
  show (true && (PySem.W.alike (placesD a) (placesD b) && true)) = true
  rw [alike_places]
  rfl
theorem key_sortable (u : Wh) (r : Ru) (price : Int) (l : List Wh) : PySem.W.Sortable (l.map (keyD u r price)) := .inl fun d hd => by
  obtain ⟨a, _, rfl⟩ := List.mem_map.mp hd
  exact ⟨_, _, rfl⟩
theorem key_depth (u : Wh) (r : Ru) (price : Int) (c : Wh) : (keyD u r price c).depth ≤ 20 := by
  obtain ⟨f, s, h, k⟩ := c
  cases s <;> cases k <;> exact Nat.le_of_ble_eq_true rfl
theorem extN_wh {K : PySem.W.Frag} {H H' : Hp} {v : V} {u : Wh} (e : LamX.ExtN H H') (h : WhAt K H v u) : WhAt K H' v u := by
  obtain ⟨a, dx, rfl, ha⟩ := h
  exact ⟨a, dx, rfl, e _ _ ha fun ps z => by cases z⟩
theorem ruS_inj {a b : Ru} (h : ruS a = ruS b) : a = b := by revert h; cases a <;> cases b <;> decide +kernel
theorem kS_inj {a b : Str} (h : kS a = kS b) : a = b := by cases h; rfl
theorem some_in (q r : Ru) (price : Int) (h : q ≠ r) : valV [(kS (ruS r), V.int price)] (kS (ruS q)) = none := by
  unfold valV
  have : ¬ kS (ruS r) = kS (ruS q) := fun z => h (ruS_inj (kS_inj z)).symm
  simp [this]
def spAllChoices (K : PySem.W.Frag) : Sp := fun vs H Q _ => ∃ (v : V) (u : Wh) (pr : Addr) (r : Ru) (price : Int), vs = [v, .ref pr] ∧ LamX.Tabs (acTT K) H ∧ WhAt K H v u ∧ H pr = some (.dK [(kS (ruS r), .int price)]) ∧
  ∀ p xs H', LamX.ExtN H H' → LamX.Tabs (acTT K) H' → H' p = some (.lst xs) → DtAll K H' xs ((allCs u r price).map chD) → Q (.ref p) H'
theorem cal_all_choices (T : Tx K mg) (TB : LamX.TabB base mg (He.cT K ("all_choices", none)).1 (He.cT K ("all_choices", none)).2) : C8.Cal P w K mg base 6 "all_choices" (spAllChoices K) [] := by
  refine cal_ofC T.g_all_choices T.f_all_choices sc_all_choices (fun vs H Q E h => ?_) (fun _ _ _ _ _ _ us hl => match us, hl with | [_, _], _ => rfl) fun cdv hcd A outer s H vs Q E hr h => ?_
  · obtain ⟨v, u, pr, r, price, rfl, _⟩ := h
    rfl
  · obtain ⟨v, u, pr, r, price, rfl, hT, hx, hpr, hq⟩ := h
    have hu := hu_of hr
    have hu64 := Room.units hr
    refine ⟨_, (pss_cons (ps_set (i := 2) sc_all_choices.nd rfl (Or.inl rfl) (pe_lst (pa_cons (pe_tup pa_nil) pa_nil)))
      (pss_cons (ps_for PassesOwn.never rfl (RZ.pi_zipA rfl T.n_zip (pa_cons (C8.pe_gc rfl T.c_RULES) (pa_cons (C8.pe_mt0 (met_rules T) hr (by decide) (pv 0)) pa_nil))) (pg_tup rfl (pgs_cons (pg_name (i := 3) sc_all_choices.nd rfl (Or.inl rfl)) (pgs_cons (pg_name (i := 4) sc_all_choices.nd rfl (Or.inl rfl)) pgs_nil)))
        (pss_cons (ps_set (i := 5) sc_all_choices.nd rfl (Or.inr rfl) (pe_ifExp (pt_cmp (pc_din hu (pv 3) (pv 1))) (C8.pe_c (cal_all_for T) hr (by decide) rfl (pa_cons (pe_size T (pv 0)) (pa_cons (pv 3) pa_nil))) (pe_tup (pa_cons (pv 4) pa_nil))))
        (pss_one (ps_setLc2 (i := 2) (own := [("row", 6), ("one", 7)]) (vs1 := [7]) (g := gName 6) (g1 := gName 7) (tt := tYes) (tt1 := tYes) rfl sc_all_choices.nd rfl rfl (sw_true rfl rfl rfl (by decide +kernel)) (pi_list (pv 2)) (blkOk_by (N := N_all_choices) (sc := defScope s_all_choices) (by decide +kernel)) (by decide) (fun _ _ _ _ _ => (pg_name (i := 6) sc_all_choices.nd rfl (Or.inl rfl))) (fun _ _ _ _ _ => pts_nil) (fun _ _ _ _ _ => pi_tupK (K := K) rfl (pv 5)) (fun _ _ _ _ _ => (pg_name (i := 7) sc_all_choices.nd rfl (Or.inl rfl))) (fun _ _ _ _ _ => pts_nil) (fun _ _ _ _ _ => pe_tup (pa_starK (K := K) rfl (pv 6) (pa_cons (pv 7) pa_nil)))))))
      (pss_one (ps_ret (pe_sortLam (TT := acTT K) (c := (He.cT K ("all_choices", none)).1) (P := (He.cT K ("all_choices", none)).2) (i := 6) (k := 2) (a := "row") (pa_cons (pv 2) pa_nil) rfl T.n_sorted TB hcd (List.mem_singleton.mpr rfl) (fun p hp _ => by rw [List.mem_singleton.mp hp]; rfl) (fun _ h => h) hr (lamS1_by (sc := defScope s_all_choices) (by decide +kernel)) rfl sc_all_choices.nd rfl (fun _ _ _ _ _ => rfl)
        (fun A outer s H f c' hr2 => pe_tup (pa_cons (C8.pe_c (cal_cost_of T) hr2 (by decide) rfl (pa_cons (pv 0) (pa_cons (pv 1) (pa_cons (pv 6) pa_nil)))) (pa_cons (C8.pe_c (cal_places_of T) hr2 (by decide) rfl (pa_cons (pv 6) pa_nil)) pa_nil)))))))), ?_⟩
    refine ⟨Nat.zero_le _, fun t0 ht0 => ⟨by show 1 ≤ sizeLine; decide, fun f0 hf0 => ?_⟩⟩
    have e0 : Ex H (upd (upd H t0 (.tup [])) f0 (.lst [.ref t0])) := (Ex.nw ht0).nx hf0
    obtain ⟨a0, dx0, rfl, ha0⟩ := id hx
    refine ⟨_, rfl, a0, dx0, _, rfl, e0 _ _ ha0, rfl, _, u, rfl, ⟨a0, dx0, rfl, e0 _ _ ha0⟩, fun tr H1 htr e1 hr1 => ⟨_, tr, _, _, rfl, .inr ⟨T.t_RULES _, .inl (.inl hr1), ?_⟩⟩⟩
    have e01 := e0.tr e1
    refine RZ.for_zipT (xs := [V.str "freeze", V.str "stop", V.str "hold", V.str "cut"]) (ys := rulesV u) rfl (fun i σ' H' => ∃ fl xs o3 o4 o5, σ' = [some (V.ref a0), some (.ref pr), some (.ref fl), o3, o4, o5, none, none] ∧ Ex H1 H' ∧ SqL K H' fl xs ∧ DtAll K H' xs ((prodL u r i).map PyData.tuple)) ⟨f0, [.ref t0], _, _, _, rfl, Ex.rfl' _, e1.l (SqL.of upd_same), .cons (e1.d (.tup ((Ex.nw hf0).t sqt_new) .nil)) .nil⟩ (fun i σ' H' h => ?_) ?_ ?_
    · obtain ⟨_, _, _, _, _, _, e, _⟩ := h
      exact ⟨T.t_RULES _, e.t (.inl (.inl hr1))⟩
    · rintro i y z T2 σ' H' hy hz ⟨fl, xs, o3, o4, o5, rfl, e, hfl, dxs⟩ hT2
      have hi : i < 4 := (List.getElem?_eq_some_iff.mp hy).1
      have ey : y = .str (ruS (ruAt i)) ∧ z = ruV u (ruAt i) := by
        match i, hi, hy, hz with
        | 0, _, hy, hz => cases hy; cases hz; exact ⟨rfl, rfl⟩
        | 1, _, hy, hz => cases hy; cases hz; exact ⟨rfl, rfl⟩
        | 2, _, hy, hz => cases hy; cases hz; exact ⟨rfl, rfl⟩
        | 3, _, hy, hz => cases hy; cases hz; exact ⟨rfl, rfl⟩
      obtain ⟨rfl, rfl⟩ := ey
      obtain ⟨small, rows⟩ := prod_small u r hi
      refine ⟨T2, _, rfl, sqt_new, rfl, _, _, rfl, _, _, rfl, rfl, ?_⟩
      have eT : Ex H1 (upd H' T2 (.tup [.str (ruS (ruAt i)), ruV u (ruAt i)])) := e.nx hT2
      have hprT := (e01.tr eT) _ _ hpr
      have hwT := eT.wh (e01.wh ⟨a0, dx0, rfl, ha0⟩)
      have hflT := (Ex.nw (o := .tup [.str (ruS (ruAt i)), ruV u (ruAt i)]) hT2).l hfl
      have dxT := (Ex.nw (o := .tup [.str (ruS (ruAt i)), ruV u (ruAt i)]) hT2).da dxs
      by_cases hri : ruAt i = r
      · refine ⟨_, rfl, _, rfl, pr, some (.int price), rfl, .inl ⟨_, kS (ruS (ruAt i)), .inl hprT, rfl, by rw [hri]; simp [valV]⟩, true, rfl, iteT ⟨_, rfl, u, hwT, _, rfl, ruAt i, rfl, fun sm H2 hsm e2 hs2 => ?_⟩⟩
        refine ⟨_, rfl, fl, rfl, ⟨xs, e2.l hflT⟩, fun D hD => ?_⟩
        have hos : optsD u r (ruAt i) = allD (ruAt i) := if_pos hri
        refine lc2_D (rs := prodL u r i) (os := optsD u r (ruAt i)) (e2.l hflT) (e2.da dxT) (.inl (.inl hs2)) (by rw [hos]; exact all_da _) small rows hD fun H3 zs e3 hz3 dz3 => ?_
        rw [rowsD_step] at dz3
        exact ⟨D, zs, _, _, _, rfl, (eT.tr e2).tr e3, SqL.of hz3, dz3⟩
      · refine ⟨_, rfl, _, rfl, pr, none, rfl, .inl ⟨_, kS (ruS (ruAt i)), .inl hprT, rfl, (some_in _ _ _ hri).symm⟩, false, rfl, iteF ⟨_, rfl, by show 1 ≤ sizeLine; decide, fun sm hsm => ?_⟩⟩
        have e2 := Ex.nw (o := .tup [ruV u (ruAt i)]) hsm
        refine ⟨_, rfl, fl, rfl, ⟨xs, e2.l hflT⟩, fun D hD => ?_⟩
        have hos : optsD u r (ruAt i) = [ruD u (ruAt i)] := if_neg hri
        refine lc2_D (rs := prodL u r i) (os := optsD u r (ruAt i)) (e2.l hflT) (e2.da dxT) sqt_new (by rw [hos]; exact .cons (ru_dt _ _) .nil) small rows hD fun H3 zs e3 hz3 dz3 => ?_
        rw [rowsD_step] at dz3
        exact ⟨D, zs, _, _, _, rfl, (eT.tr e2).tr e3, SqL.of hz3, dz3⟩
    · rintro σ' H' ⟨fl, xs, o3, o4, o5, rfl, e, hfl, dxs⟩
      have dxs : DtAll K H' xs ((prodL u r 4).map PyData.tuple) := dxs
      rw [prod_last] at dxs
      have eA := e01.tr e
      refine ⟨_, rfl, hT.ext eA, fl, xs, Wh, varsOf u r, chD, keyD u r price, rfl, hfl, dxs, key_alike _ _ _ _, key_sortable _ _ _ _, fun c _ => key_depth _ _ _ _, fun H2 y c eN hc dy => ?_, fun H2 p zs eN hT2 hp dz => hq p zs H2 ((Ex.extN eA).trans eN) hT2 hp dz⟩
      have hw2 := extN_wh eN (eA.wh ⟨a0, dx0, rfl, ha0⟩)
      have hp2 := eN _ _ (eA _ _ hpr) fun ps z => by cases z
      refine ⟨_, rfl, _, rfl, _, rfl, _, u, pr, r, price, y, c, rfl, hw2, hp2, dy, vars_at hc, fun H3 e3 => ⟨_, rfl, y, c, rfl, e3.d dy, fun z H4 e4 dz => ⟨by show 2 ≤ sizeLine; decide, fun p hp => ⟨(e3.tr e4).nx hp, .tup sqt_new (.cons (.int _) (.cons ((Ex.nw hp).d dz) .nil))⟩⟩⟩⟩
end
end LapW
set_option Elab.async false
set_option linter.all false
set_option maxRecDepth 100000
set_option maxHeartbeats 4000000
namespace LapW
open PySem PySem.Spec PyProof.Rows L2 Lap

section
variable {P : Program} {w : World} {K : PySem.W.Frag} {mg : Str → Option Value} {base : Heap}
/-! ### answer_for -/
abbrev s_answer_for : Stmt := top 73
abbrev N_answer_for : List Str := ["wheel", "choice", "hopes", "states", "wish", "found"]
theorem sc_answer_for : FnScope N_answer_for ["wheel", "choice", "hopes"] (defScope s_answer_for) := ⟨rfl, rfl, rfl, by decide +kernel, rfl, by decide +kernel, by decide +kernel⟩
def ans (c : Wh) (ks : List Wish) : Option (Wish × List Deed) := ks.findSome? fun k => (brk c k).map fun h => (k, h)
def ansD (k : Wish) (h : List Deed) : PyData := .tuple [.str (wishS k), .tuple (h.map fun d => .str (deedS d))]
theorem ans_none {c : Wh} : ∀ {ks : List Wish}, (∀ k ∈ ks, brk c k = none) → ans c ks = none := fun {ks} h => by
  unfold ans
  rw [List.findSome?_eq_none_iff]
  intro k hk
  rw [h k hk]
  rfl
theorem ans_mid {c : Wh} {k : Wish} {h : List Deed} (hb : brk c k = some h) : ∀ {pre suf : List Wish}, (∀ k ∈ pre, brk c k = none) → ans c (pre ++ k :: suf) = some (k, h)
  | [], suf, _ => by
    unfold ans
    rw [List.nil_append, List.findSome?_cons, hb]
    rfl
  | a :: pre, suf, g => by
    unfold ans
    rw [List.cons_append, List.findSome?_cons, g a List.mem_cons_self]
    exact ans_mid hb fun q hq => g q (List.mem_cons_of_mem _ hq)
theorem deeds_da {K : PySem.W.Frag} {H : Hp} : ∀ h : List Deed, DtAll K H (h.map fun d => V.str (deedS d)) (h.map fun d => .str (deedS d))
  | [] => .nil
  | _ :: h => .cons (.str _) (deeds_da h)
def spAnswerFor (K : PySem.W.Frag) : Sp := fun vs H Q _ => ∃ (v x : V) (t : Addr) (u c : Wh) (ks : List Wish), vs = [v, x, .ref t] ∧ WhAt K H v u ∧ Dt K H x (chD c) ∧ WOk c ∧ SqT K H t (ks.map fun k => V.str (wishS k)) ∧
  (ans c ks = none → ∀ l ys H', Ex H H' → H' l = some (.lst ys) → Q (.ref l) H') ∧ ∀ k h, ans c ks = some (k, h) → RetD K (ansD k h) H Q
theorem cal_answer_for (T : Tx K mg) : C8.Cal P w K mg base 7 "answer_for" (spAnswerFor K) [] := by
  refine cal_of T.g_answer_for T.f_answer_for sc_answer_for (fun vs H Q E h => ?_) (fun _ _ _ _ _ _ us hl => match us, hl with | [_, _, _], _ => rfl) fun cdv A outer s H vs Q E hr h => ?_
  · obtain ⟨v, x, t, u, c, ks, rfl, _⟩ := h
    rfl
  · obtain ⟨v, x, t, u, c, ks, rfl, hx, hc, okc, ht, hq⟩ := h
    refine ⟨_, (pss_cons (ps_set (i := 3) sc_answer_for.nd rfl (Or.inl rfl) (pe_lst pa_nil))
      (pss_cons (ps_for PassesOwn.never rfl (pi_tup (pv 2)) (pg_name (i := 4) sc_answer_for.nd rfl (Or.inl rfl))
        (pss_cons (ps_set (i := 5) sc_answer_for.nd rfl (Or.inl rfl) (C8.pe_c (cal_judged T) hr (by decide) rfl (pa_cons (C8.pe_c (cal_made T) hr (by decide) rfl (pa_cons (pe_size T (pv 0)) (pa_cons (pv 1) pa_nil))) (pa_cons (pv 4) pa_nil))))
        (pss_cons (ps_if (pt_val (pe_callB call_isi rfl T.n_isinstance (by decide +kernel) (pa_cons (pv 5) (pa_cons (C8.pe_gc rfl T.c_Broken) pa_nil)))) (pss_one (ps_ret (pe_tup (pa_cons (pv 4) (pa_cons (pe_callTy call_tuple_of rfl T.n_tuple (by decide +kernel) (pa_cons (pe_of T.cl_Broken T.n_Broken_history (pv 5)) pa_nil)) pa_nil))))) pss_nil)
        (pss_one (ps_set (i := 3) sc_answer_for.nd rfl (Or.inl rfl) (pe_of T.cl_Safe T.n_Safe_states (pv 5)))))))
      (pss_one (ps_ret (pv 3))))), ?_⟩
    obtain ⟨tc, rfl, htc⟩ := ch_at hc
    refine ⟨Nat.zero_le _, fun l0 hl0 => ⟨_, rfl, t, rfl, ⟨_, (Ex.nw hl0).t ht⟩, ?_⟩⟩
    refine for_tup (xs := ks.map fun k => V.str (wishS k)) (fun i σ' H' => ∃ l ys o4 o5 pre suf, σ' = [some v, some (.ref tc), some (.ref t), some (.ref l), o4, o5] ∧ ks = pre ++ suf ∧ pre.length = i ∧ Ex H H' ∧ H' l = some (.lst ys) ∧ ∀ k ∈ pre, brk c k = none) ⟨l0, [], _, _, [], ks, rfl, rfl, rfl, Ex.nw hl0, upd_same, fun _ h => absurd h List.not_mem_nil⟩ ?_ ?_ ?_
    · rintro i σ' H' _ ⟨l, ys, o4, o5, pre, suf, _, _, _, e, _⟩
      exact e.t ht
    · rintro i y σ' H' hi ⟨l, ys, o4, o5, pre, suf, rfl, ew, el, e, hl, good⟩
      obtain ⟨k, suf', es, ey⟩ := at_split hi ew el
      subst es ey
      refine ⟨_, rfl, u, e.wh hx, _, rfl, tc, c, rfl, e.t htc, okc, fun z H1 e1 hz => ⟨_, rfl, z, c, k, rfl, hz, okc, fun hb w2 H2 e2 hw => ?_, fun h hb w2 H2 e2 hw => ?_⟩⟩
      · obtain ⟨b, dx2, l2, zs, rfl, hb2, hl2, _⟩ := hw
        refine ⟨_, rfl, _, _, _, _, false, rfl, .own _, T.ins_Safe hb2, T.k_Safe_Broken, false, rfl, iteF ?_⟩
        refine ⟨_, rfl, b, dx2, _, _, rfl, hb2, rfl, l2, zs, _, _, pre ++ [k], suf', rfl, by rw [ew, List.append_assoc]; rfl, by rw [List.length_append, el]; rfl, (e.tr e1).tr e2, hl2, fun q hq' => ?_⟩
        rcases List.mem_append.mp hq' with hq' | hq'
        · exact good q hq'
        · rw [List.mem_singleton.mp hq']
          exact hb
      · obtain ⟨b, dx2, t2, rfl, hb2, ht2⟩ := hw
        refine ⟨_, rfl, _, _, _, _, true, rfl, .own _, T.ins_Broken hb2, T.k_Broken_Broken, true, rfl, iteT ?_⟩
        have ha : ans c ks = some (k, h) := by
          rw [ew]
          exact ans_mid hb good
        refine ⟨_, rfl, _, rfl, b, dx2, _, _, rfl, hb2, rfl, t2, _, rfl, .inr ⟨ht2, by show 2 ≤ sizeLine; decide, fun p hp => hq.2 _ _ ha _ _ (((e.tr e1).tr e2).nx hp) ?_⟩⟩
        exact .tup sqt_new (.cons (.str _) (.cons (.tup ((Ex.nw hp).t ht2) (deeds_da h)) .nil))
    · rintro σ' H' ⟨l, ys, o4, o5, pre, suf, rfl, ew, el, e, hl, good⟩
      have es : suf = [] := by
        have h2 := congrArg List.length ew
        rw [List.length_append] at h2
        rw [List.length_map] at el
        exact List.length_eq_zero_iff.mp (by omega)
      subst es
      rw [List.append_nil] at ew
      subst ew
      exact ⟨_, rfl, hq.1 (ans_none good) l ys H' e hl⟩
end
end LapW
set_option Elab.async false
set_option linter.all false
set_option maxRecDepth 100000
set_option maxHeartbeats 4000000
namespace LapW
open PySem PySem.Spec PyProof.Rows L2 Lap

section
variable {P : Program} {w : World} {K : PySem.W.Frag} {mg : Str → Option Value} {base : Heap}
/-! ### Cheapest.__init__ -/
abbrev s_Cheapest___init__ : Stmt := inClass (top 65) 0
abbrev N_Cheapest___init__ : List Str := ["self", "choice", "states", "against", "one"]
theorem sc_Cheapest___init__ : FnScope N_Cheapest___init__ ["self", "choice", "states", "against"] (defScope s_Cheapest___init__) := ⟨rfl, rfl, rfl, by decide +kernel, rfl, by decide +kernel, by decide +kernel⟩
/-- keys that are tuples, entries that are (a text, a tuple) -/
def HitOk (items : List (PyData × PyData)) : Prop := ∀ q ∈ items, ∃ (ks : List PyData) (w : Str) (hs : List PyData), q.1 = .tuple ks ∧ q.2 = .tuple [.str w, .tuple hs]
theorem ents_depth {K : PySem.W.Frag} {H : Hp} {kvs : List NE} {items : List (PyData × PyData)} (h : Ents K H kvs items) {q : PyData × PyData} (hq : q ∈ items) : (nk q.1).depth ≤ 8 := by
  unfold Ents at h
  induction h with
  | nil => cases hq
  | cons h t ih =>
    rcases List.mem_cons.mp hq with z | z
    · rw [z]
      exact h.2.1
    · exact ih z
theorem hit2 {K : PySem.W.Frag} {H : Hp} {kvs : List NE} {items : List (PyData × PyData)} (hit : HitOk items) (h : Ents K H kvs items) : ∀ q ∈ items, (∃ k, q.1 = .tuple k) ∧ (nk q.1).depth ≤ 8 := fun q hq => by
  obtain ⟨ks, _, _, e, _⟩ := hit q hq
  exact ⟨⟨ks, e⟩, ents_depth h hq⟩
def spCheapestI (P : Program) (w : World) (K : PySem.W.Frag) : Sp := fun vs H Q _ => ∃ (a dx : Addr) (x : V) (l : Addr) (ys0 : List V) (d : Addr) (items : List (PyData × PyData)), vs = [.ref a, x, .ref l, .ref d] ∧ H a = some (.ins (He.ga K "Cheapest") dx []) ∧ SqL K H l ys0 ∧ DN P w K H d items ∧
  HitOk items ∧ (items.map fun q => nk q.1).Nodup ∧ items.length < 90000 ∧ ∀ H' fs, (∀ z o, z ≠ a → H z = some o → H' z = some o) → Q .non (upd H' a (.ins (He.ga K "Cheapest") dx (("choice", x) :: fs)))
theorem mak_Cheapest (T : Tx K mg) : C8.Mak P w K mg base 1 "Cheapest" (He.ga K "Cheapest") (spCheapestI P w K) [] := by
  refine mak_of T.mk_Cheapest T.g_Cheapest T.f_Cheapest sc_Cheapest___init__ (fun vs H Q E h => ?_) (fun _ _ _ _ _ _ us hl => match us, hl with | [_, _, _, _], _ => rfl) fun cdv A outer s H vs Q E hr h => ?_
  · obtain ⟨a, dx, x, l, ys0, d, items, rfl, _⟩ := h
    rfl
  · obtain ⟨a, dx, x, l, ys0, d, items, rfl, ha, hl, hdn0, hit, hnd, hn, hq⟩ := h
    have hu := hu_of hr
    have hu64 := Room.units hr
    refine ⟨_, (pss_cons (ps_fld (pv 0) (pv 1) rfl)
      (pss_cons (ps_fld (pv 0) (pe_callTy call_list_of rfl T.n_list (by decide +kernel) (pa_cons (pv 2) pa_nil)) rfl)
      (pss_one (ps_fld (pv 0) (pe_callTy (call_dictN hr.hd hu64) rfl T.n_dict (by decide +kernel) (pa_cons (pe_lc (own := [("one", 4)]) (g := (gName 4)) (tt := tYes) rfl sc_Cheapest___init__.nd (pi_nkeys (pv 3)) (blkOk_by (N := N_Cheapest___init__) (sc := defScope s_Cheapest___init__) (by decide +kernel)) (fun _ _ _ _ _ => (pg_name (i := 4) sc_Cheapest___init__.nd rfl (Or.inl rfl))) (fun _ _ _ _ _ => pts_nil) (fun _ _ _ _ _ => (pe_tup (pa_cons (pv 4) (pa_cons (pe_tup (pa_cons (pe_ix (ix_tupK (K := K) rfl) (pe_ngetK (P := P) (w := w) (K := K) rfl rfl rfl hu64 (pv 3) (pv 4)) pe_int (fun _ _ => rfl)) (pa_cons (pe_callTy (call_tuple_ofK (K := K) rfl) rfl T.n_tuple (by decide +kernel) (pa_cons (pe_ix (ix_tupK (K := K) rfl) (pe_ngetK (P := P) (w := w) (K := K) rfl rfl rfl hu64 (pv 3) (pv 4)) pe_int (fun _ _ => rfl)) pa_nil)) pa_nil))) pa_nil))))) pa_nil)) rfl)))), ?_⟩
    refine ⟨_, rfl, _, rfl, a, _, dx, [], rfl, ha, T.cl_Cheapest, T.n_Cheapest_choice, by show 0 < 1000; decide, ?_⟩
    refine ⟨_, rfl, l, ys0, rfl, .inl (sql_upd ha hl), fun l2 hl2 => ⟨_, rfl, a, _, dx, _, rfl, by rw [upd_ne (ne_of_none upd_same hl2)]; exact upd_same, T.cl_Cheapest, T.n_Cheapest_states, by show 1 < 1000; decide, ?_⟩⟩
    have hda : d ≠ a := fun z => by
      obtain ⟨kvs, ep, hdd, _⟩ := hdn0
      rw [z, ha] at hdd
      cases hdd
    have ex2 : Tp H (upd H a (.ins (He.ga K "Cheapest") dx [("choice", x)])) := Tp.w (notup_ins ha)
    have hdn1 := DN.put hdn0 hda ex2
    have hdn2 : DN P w K (upd (upd H a (.ins (He.ga K "Cheapest") dx [("choice", x)])) l2 (.lst ys0)) d items := DN.ex (Ex.nw hl2) hdn1
    have hdn := DN.put (o := .ins (He.ga K "Cheapest") dx [("choice", x), ("states", .ref l2)]) hdn2 hda (Tp.w (notup_ins (by rw [upd_ne (ne_of_none upd_same hl2)]; exact upd_same)))
    obtain ⟨kvs, ep, hdd, hen⟩ := id hdn
    refine ⟨_, rfl, d, kvs, ep, rfl, hdd, fun D hD => ?_⟩
    have hlen : kvs.length = items.length := Ents.len hen
    refine lc_D (K := K) (items := items) (p := fun _ => true) (m := fun q => .tuple [q.1, q.2]) walk_n (fun H' e => e _ _ hdd) (by rw [List.length_map]; exact hlen) (by rw [List.length_map, hlen]; omega) hD (fun i y q H' hi hq' e Qn Qy n1 n2 => ?_) fun H' ys e hD' dy => ?_
    · have dks := ents_keys hen
      obtain ⟨kd, hk1, hk2⟩ := dpa_get dks hi
      rw [List.getElem?_map, hq'] at hk1
      have hk1 : q.1 = kd := Option.some.inj hk1
      subst hk1
      have hm := List.mem_of_getElem? hq'
      obtain ⟨ks1, w1, hs1, ek, ev⟩ := hit q hm
      have dn2 : DN P w K H' d items := DN.ex e hdn
      have dk : Dt K H' y q.1 := e.d hk2
      rw [ek] at dk
      have hdep := ents_depth hen hm
      rw [ek] at hdep
      have look : ∀ v, Dt K H' v q.2 → ∃ p3 x3 t3 zs3, v = .ref p3 ∧ SqT K H' p3 [x3, .ref t3] ∧ x3 = .str w1 ∧ SqT K H' t3 zs3 ∧ DtAll K H' zs3 hs1 := fun v dv => by
        rw [ev] at dv
        obtain ⟨t2, z1, z2, rfl, ht2, dz1, dz2⟩ := dp_two dv
        cases dz1
        cases dz2 with
        | tup a b => exact ⟨t2, _, _, _, rfl, ht2, rfl, a, b⟩
      refine ⟨rfl, iteT (B := True) ⟨_, rfl, _, rfl, _, rfl, d, items, ks1, q, rfl, dn2, dk, hdep, hm, by rw [ek], fun v1 dv1 => ?_⟩⟩
      obtain ⟨p3, x3, t3, zs3, rfl, ht3, rfl, hz3, dz3⟩ := look v1 dv1
      refine ⟨p3, _, 0, _, rfl, rfl, ht3, rfl, _, rfl, _, rfl, d, items, ks1, q, rfl, dn2, dk, hdep, hm, by rw [ek], fun v2 dv2 => ?_⟩
      obtain ⟨p4, x4, t4, zs4, rfl, ht4, rfl, hz4, dz4⟩ := look v2 dv2
      refine ⟨p4, _, 1, _, rfl, rfl, ht4, rfl, t4, zs4, rfl, .inr ⟨hz4, by show 2 ≤ sizeLine; decide, fun p5 hp5 => ⟨by show 2 ≤ sizeLine; decide, fun p6 hp6 => n2 rfl _ _ ((Ex.nw hp5).nx hp6) ?_⟩⟩⟩
      refine .tup sqt_new (.cons ?_ (.cons ?_ .nil))
      · rw [ek]
        exact ((Ex.nw hp5).nx hp6).d dk
      · rw [ev]
        exact .tup ((Ex.nw hp6).t sqt_new) (.cons (.str _) (.cons (((Ex.nw hp5).nx hp6).d (.tup hz4 dz4)) .nil))
    · have hf : items.filter (fun _ => true) = items := List.filter_eq_self.mpr fun _ _ => rfl
      rw [hf] at dy
      refine ⟨D, ys, items, rfl, SqL.of hD', dy, hit2 hit hen, hnd, fun p3 o3 hp3 hdn3 => ⟨_, rfl, a, _, dx, [("choice", x), ("states", .ref l2)], rfl, ?_, T.cl_Cheapest, T.n_Cheapest_against, by show 2 < 1000; decide, ?_⟩⟩
      · exact (e.nx hp3) _ _ upd_same
      · refine hq _ [("states", .ref l2), ("against", .ref p3)] fun z o hz ho => ?_
        have h1 : upd H a (.ins (He.ga K "Cheapest") dx [("choice", x)]) z = some o := by rw [upd_ne hz]; exact ho
        refine (e.nx hp3) _ _ ?_
        rw [upd_ne hz, upd_ne (ne_of_none h1 hl2)]
        exact h1

/-! ### NoRules.__init__ -/
abbrev s_NoRules___init__ : Stmt := inClass (top 66) 0
abbrev N_NoRules___init__ : List Str := ["self", "against", "one"]
theorem sc_NoRules___init__ : FnScope N_NoRules___init__ ["self", "against"] (defScope s_NoRules___init__) := ⟨rfl, rfl, rfl, by decide +kernel, rfl, by decide +kernel, by decide +kernel⟩
def spNoRulesI (P : Program) (w : World) (K : PySem.W.Frag) : Sp := fun vs H Q _ => ∃ (a dx d : Addr) (items : List (PyData × PyData)), vs = [.ref a, .ref d] ∧ H a = some (.ins (He.ga K "NoRules") dx []) ∧ DN P w K H d items ∧
  HitOk items ∧ (items.map fun q => nk q.1).Nodup ∧ items.length < 90000 ∧ ∀ H' fs, (∀ z o, z ≠ a → H z = some o → H' z = some o) → Q .non (upd H' a (.ins (He.ga K "NoRules") dx fs))
theorem mak_NoRules (T : Tx K mg) : C8.Mak P w K mg base 1 "NoRules" (He.ga K "NoRules") (spNoRulesI P w K) [] := by
  refine mak_of T.mk_NoRules T.g_NoRules T.f_NoRules sc_NoRules___init__ (fun vs H Q E h => ?_) (fun _ _ _ _ _ _ us hl => match us, hl with | [_, _], _ => rfl) fun cdv A outer s H vs Q E hr h => ?_
  · obtain ⟨a, dx, d, items, rfl, _⟩ := h
    rfl
  · obtain ⟨a, dx, d, items, rfl, ha, hdn, hit, hnd, hn, hq⟩ := h
    have hu := hu_of hr
    have hu64 := Room.units hr
    refine ⟨_, (pss_one (ps_fld (pv 0) (pe_callTy (call_dictN hr.hd hu64) rfl T.n_dict (by decide +kernel) (pa_cons (pe_lc (own := [("one", 2)]) (g := (gName 2)) (tt := tYes) rfl sc_NoRules___init__.nd (pi_nkeys (pv 1)) (blkOk_by (N := N_NoRules___init__) (sc := defScope s_NoRules___init__) (by decide +kernel)) (fun _ _ _ _ _ => (pg_name (i := 2) sc_NoRules___init__.nd rfl (Or.inl rfl))) (fun _ _ _ _ _ => pts_nil) (fun _ _ _ _ _ => (pe_tup (pa_cons (pv 2) (pa_cons (pe_tup (pa_cons (pe_ix (ix_tupK (K := K) rfl) (pe_ngetK (P := P) (w := w) (K := K) rfl rfl rfl hu64 (pv 1) (pv 2)) pe_int (fun _ _ => rfl)) (pa_cons (pe_callTy (call_tuple_ofK (K := K) rfl) rfl T.n_tuple (by decide +kernel) (pa_cons (pe_ix (ix_tupK (K := K) rfl) (pe_ngetK (P := P) (w := w) (K := K) rfl rfl rfl hu64 (pv 1) (pv 2)) pe_int (fun _ _ => rfl)) pa_nil)) pa_nil))) pa_nil))))) pa_nil)) rfl)), ?_⟩
    obtain ⟨kvs, ep, hdd, hen⟩ := id hdn
    refine ⟨_, rfl, d, kvs, ep, rfl, hdd, fun D hD => ?_⟩
    have hlen : kvs.length = items.length := Ents.len hen
    refine lc_D (K := K) (items := items) (p := fun _ => true) (m := fun q => .tuple [q.1, q.2]) walk_n (fun H' e => e _ _ hdd) (by rw [List.length_map]; exact hlen) (by rw [List.length_map, hlen]; omega) hD (fun i y q H' hi hq' e Qn Qy n1 n2 => ?_) fun H' ys e hD' dy => ?_
    · have dks := ents_keys hen
      obtain ⟨kd, hk1, hk2⟩ := dpa_get dks hi
      rw [List.getElem?_map, hq'] at hk1
      have hk1 : q.1 = kd := Option.some.inj hk1
      subst hk1
      have hm := List.mem_of_getElem? hq'
      obtain ⟨ks1, w1, hs1, ek, ev⟩ := hit q hm
      have dn2 : DN P w K H' d items := DN.ex e hdn
      have dk : Dt K H' y q.1 := e.d hk2
      rw [ek] at dk
      have hdep := ents_depth hen hm
      rw [ek] at hdep
      have look : ∀ v, Dt K H' v q.2 → ∃ p3 x3 t3 zs3, v = .ref p3 ∧ SqT K H' p3 [x3, .ref t3] ∧ x3 = .str w1 ∧ SqT K H' t3 zs3 ∧ DtAll K H' zs3 hs1 := fun v dv => by
        rw [ev] at dv
        obtain ⟨t2, z1, z2, rfl, ht2, dz1, dz2⟩ := dp_two dv
        cases dz1
        cases dz2 with
        | tup a b => exact ⟨t2, _, _, _, rfl, ht2, rfl, a, b⟩
      refine ⟨rfl, iteT (B := True) ⟨_, rfl, _, rfl, _, rfl, d, items, ks1, q, rfl, dn2, dk, hdep, hm, by rw [ek], fun v1 dv1 => ?_⟩⟩
      obtain ⟨p3, x3, t3, zs3, rfl, ht3, rfl, hz3, dz3⟩ := look v1 dv1
      refine ⟨p3, _, 0, _, rfl, rfl, ht3, rfl, _, rfl, _, rfl, d, items, ks1, q, rfl, dn2, dk, hdep, hm, by rw [ek], fun v2 dv2 => ?_⟩
      obtain ⟨p4, x4, t4, zs4, rfl, ht4, rfl, hz4, dz4⟩ := look v2 dv2
      refine ⟨p4, _, 1, _, rfl, rfl, ht4, rfl, t4, zs4, rfl, .inr ⟨hz4, by show 2 ≤ sizeLine; decide, fun p5 hp5 => ⟨by show 2 ≤ sizeLine; decide, fun p6 hp6 => n2 rfl _ _ ((Ex.nw hp5).nx hp6) ?_⟩⟩⟩
      refine .tup sqt_new (.cons ?_ (.cons ?_ .nil))
      · rw [ek]
        exact ((Ex.nw hp5).nx hp6).d dk
      · rw [ev]
        exact .tup ((Ex.nw hp6).t sqt_new) (.cons (.str _) (.cons (((Ex.nw hp5).nx hp6).d (.tup hz4 dz4)) .nil))
    · have hf : items.filter (fun _ => true) = items := List.filter_eq_self.mpr fun _ _ => rfl
      rw [hf] at dy
      exact ⟨D, ys, items, rfl, SqL.of hD', dy, hit2 hit hen, hnd, fun p3 o3 hp3 hdn3 => ⟨_, rfl, a, _, dx, [], rfl, (e.nx hp3) _ _ ha, T.cl_NoRules, T.n_NoRules_against, by show 0 < 1000; decide, hq _ [("against", .ref p3)] fun z o hz ho => (e.nx hp3) _ _ ho⟩⟩
end
end LapW
set_option Elab.async false
set_option linter.all false
set_option maxRecDepth 100000
set_option maxHeartbeats 4000000
namespace LapW
open PySem PySem.Spec PyProof.Rows L2 Lap

section
variable {P : Program} {w : World} {K : PySem.W.Frag} {mg : Str → Option Value} {base : Heap}
/-! ### choices -/
abbrev s_choices : Stmt := top 74
abbrev N_choices : List Str := ["wheel", "prices"]
theorem sc_choices : FnScope N_choices ["wheel", "prices"] (defScope s_choices) := ⟨rfl, rfl, rfl, by decide +kernel, rfl, by decide +kernel, by decide +kernel⟩
abbrev TBx (base : Heap) (mg : Str → Option Value) (K : PySem.W.Frag) : Prop := LamX.TabB base mg (He.cT K ("all_choices", none)).1 (He.cT K ("all_choices", none)).2
def spChoices (K : PySem.W.Frag) : Sp := fun vs H Q _ => ∃ (v : V) (u : Wh) (pr : Addr) (r : Ru) (price : Int), vs = [v, .ref pr] ∧ LamX.Tabs (acTT K) H ∧ WhAt K H v u ∧ H pr = some (.dK [(kS (ruS r), .int price)]) ∧ 1 ≤ price ∧ price ≤ 9 ∧
  ∀ p xs H', LamX.ExtN H H' → LamX.Tabs (acTT K) H' → H' p = some (.lst xs) → DtAll K H' xs ((allCs u r price).map chD) → Q (.ref p) H'
theorem cal_choices (T : Tx K mg) (TB : TBx base mg K) : C8.Cal P w K mg base 7 "choices" (spChoices K) [] := by
  refine cal_of T.g_choices T.f_choices sc_choices (fun vs H Q E h => ?_) (fun _ _ _ _ _ _ us hl => match us, hl with | [_, _], _ => rfl) fun cdv A outer s H vs Q E hr h => ?_
  · obtain ⟨v, u, pr, r, price, rfl, _⟩ := h
    rfl
  · obtain ⟨v, u, pr, r, price, rfl, hT, hx, hpr, h1, h9, hq⟩ := h
    refine ⟨_, (pss_cons (ps_expr (C8.pe_c (cal_check_prices T) hr (by decide) rfl (pa_cons (pv 0) (pa_cons (pv 1) pa_nil))))
      (pss_one (ps_ret (C8.pe_c (cal_all_choices T TB) hr (by decide) rfl (pa_cons (pv 0) (pa_cons (pv 1) pa_nil)))))), ?_⟩
    refine ⟨_, rfl, _, rfl, v, u, pr, r, price, rfl, hx, hpr, h1, h9, fun H1 e1 => ⟨_, rfl, _, rfl, v, u, pr, r, price, rfl, hT.ext e1, e1.wh hx, e1 _ _ hpr, fun p xs H2 eN hT2 hp dx => hq p xs H2 ((Ex.extN e1).trans eN) hT2 hp dx⟩⟩

/-! ### cheapest -/
abbrev s_cheapest : Stmt := top 75
abbrev N_cheapest : List Str := ["wheel", "prices", "hopes", "against", "choice", "found", "cost", "rest", "one"]
theorem sc_cheapest : FnScope N_cheapest ["wheel", "prices", "hopes"] (defScope s_cheapest) := ⟨rfl, rfl, rfl, by decide +kernel, rfl, by decide +kernel, by decide +kernel⟩
def agD (ks : List Wish) (c : Wh) : PyData := match ans c ks with
  | some (k, h) => ansD k h
  | none => .none
theorem isNone_of {α : Type} {o : Option α} (h : o.isSome = true) : o.isNone = false := by
  cases o
  · cases h
  · rfl
theorem ch_depth (c : Wh) : (nk (chD c)).depth ≤ 8 := by
  obtain ⟨f, s, h, k⟩ := c
  cases s <;> cases k <;> exact Nat.le_of_ble_eq_true rfl
theorem holdS_inj {a b : Bool} (h : holdS a = holdS b) : a = b := by revert h; cases a <;> cases b <;> decide +kernel
theorem nk_ch {a b : Wh} (h : nk (chD a) = nk (chD b)) : a = b := by
  obtain ⟨f, s, x, k⟩ := a
  obtain ⟨f2, s2, x2, k2⟩ := b
  have h : NestedKey.tup [.num f, nk (optD s), .text (holdS x), nk (optD k)] = NestedKey.tup [.num f2, nk (optD s2), .text (holdS x2), nk (optD k2)] := h
  simp only [NestedKey.tup.injEq, List.cons.injEq, and_true, NestedKey.num.injEq, NestedKey.text.injEq] at h
  obtain ⟨h1, h2, h3, h4⟩ := h
  rw [h1, nk_opt h2, holdS_inj h3, nk_opt h4]
theorem nk_nodup {ks : List Wish} : ∀ {l : List Wh}, l.Nodup → ((l.map fun q => (chD q, agD ks q)).map fun q => nk q.1).Nodup := fun {l} h => by
  rw [List.map_map]
  unfold List.Nodup at h ⊢
  rw [List.pairwise_map]
  exact h.imp fun hab z => hab (nk_ch z)
theorem any_ch (ks : List Wish) {pre : List Wh} {c : Wh} (h : c ∉ pre) : ((pre.map fun q => (chD q, agD ks q)).any fun q => decide (nk q.1 = nk (chD c))) = false := by
  rw [List.any_map, List.any_eq_false]
  intro q hq z
  exact h (by rw [← nk_ch (of_decide_eq_true z)]; exact hq)
theorem hit_ag (ks : List Wish) (l : List Wh) (h : ∀ q ∈ l, (ans q ks).isSome = true) : HitOk (l.map fun q => (chD q, agD ks q)) := fun q hq => by
  obtain ⟨c, hc, rfl⟩ := List.mem_map.mp hq
  obtain ⟨⟨k, hh⟩, e⟩ := Option.isSome_iff_exists.mp (h c hc)
  exact ⟨_, wishS k, hh.map fun d => .str (deedS d), rfl, by show agD ks c = _; unfold agD; rw [e]; rfl⟩
theorem ag_ref {K : PySem.W.Frag} {H : Hp} {y : V} {k : Wish} {h : List Deed} (d : Dt K H y (ansD k h)) : ∃ t, y = .ref t ∧ ∃ xs, SqT K H t xs := by
  cases d with
  | tup a b => exact ⟨_, rfl, _, a⟩
theorem ex_fresh {H H1 H9 : Hp} {x : Addr} {o : HO} (hx : H x = none) (em : Ex H H1) (kp : ∀ z ob, z ≠ x → H1 z = some ob → H9 z = some ob) : Ex H (upd H9 x o) := fun b ob hb => by
  have hne : b ≠ x := fun z => by rw [z, hx] at hb; cases hb
  rw [upd_ne hne]
  exact kp _ _ hne (em _ _ hb)
theorem extN_put {H H' : Hp} {d : Addr} {o : HO} (e : LamX.ExtN H H') (h : H d = none) : LamX.ExtN H (upd H' d o) := fun b ob hb n => by
  have hne : b ≠ d := fun z => by rw [z, h] at hb; cases hb
  rw [upd_ne hne]
  exact e _ _ hb n
theorem DN.extN {P : Program} {w : World} {K : PySem.W.Frag} {H H' : Hp} {a : Addr} {items : List (PyData × PyData)} (e : LamX.ExtN H H') (h : DN P w K H a items) : DN P w K H' a items := by
  obtain ⟨kvs, ep, ha, he⟩ := h
  exact ⟨kvs, ep, e _ _ ha (fun ps z => by unfold dN at z; cases z), Ents.tp (extN_tp e) he⟩
theorem tabs_put {P : Program} {w : World} {TT : List (Addr × Str)} {H : Hp} {d : Addr} {o : HO} {kvs : List NE} {ep : Nat} (h : LamX.Tabs TT H) (hd : H d = some (dN P w d kvs ep)) (hco : ∀ q, H d ≠ some (LamX.CodeO d q)) : LamX.Tabs TT (upd H d o) := fun p hp => by
  obtain ⟨ps, h1, h2, h3⟩ := h p hp
  have hne : p.1 ≠ d := fun z => by
    rw [z, hd] at h1
    unfold dN at h1
    cases h1
  refine ⟨ps, by rw [upd_ne hne]; exact h1, h2, fun pos cv hc => ?_⟩
  obtain ⟨c, e1, e2⟩ := h3 pos cv hc
  have hcd : c ≠ d := fun z => by
    subst z
    exact hco _ e2
  exact ⟨c, e1, by rw [upd_ne hcd]; exact e2⟩
theorem vars_nodup (u : Wh) (r : Ru) : (varsOf u r).Nodup := by cases r <;> simp [varsOf, withStop, withCut]
theorem allCs_nodup (u : Wh) (r : Ru) (price : Int) : (allCs u r price).Nodup := (List.mergeSort_perm _ _).nodup_iff.mpr (vars_nodup u r)
theorem allCs_len (u : Wh) (r : Ru) (price : Int) : (allCs u r price).length ≤ 5 := by
  unfold allCs
  rw [List.length_mergeSort]
  cases r <;> exact Nat.le_of_ble_eq_true rfl
/-- d[k] = v, a new key; the dict is no code object -/
def NPut2 (P : Program) (w : World) (K : PySem.W.Frag) (H : Hp) (d : Addr) (y v : V) (Q : Hp → Prop) : Prop := ∃ items k vd, DN P w K H d items ∧ Dt K H y (.tuple k) ∧ (nk (.tuple k)).depth ≤ 8 ∧ Dt K H v vd ∧ (items.any fun q => decide (nk q.1 = nk (.tuple k))) = false ∧ items.length < 100000 ∧
  ∀ o, (∀ q, H d ≠ some (LamX.CodeO d q)) → Tp H (upd H d o) → DN P w K (upd H d o) d (items ++ [(.tuple k, vd)]) → Q (upd H d o)
def sNPut2 (P : Program) (w : World) (K : PySem.W.Frag) (td ty tv : TE) : TS := fun D σ H => tv σ H fun v H1 => td σ H1 fun x H2 => ty σ H2 fun y H3 => ∃ d, x = .ref d ∧ NPut2 P w K H3 d y v (D.nx σ)
theorem ps_nput2 {X : Cx} {o i value : Expr} {pos pos' : Pos} {td ty tv : TE} (hu : X.A.units + 64 < cLine) (ho : PE X o td) (hi : PE X i ty) (hv : PE X value tv) (hs : swapsWith value (some (.Subscript o i pos')) pos.line X.env = pure false := by rfl) :
    PS X (.Assign [.Subscript o i pos'] value pos) (sNPut2 X.prog X.w X.K td ty tv) := by
  refine ⟨fun pins s σ H D I h => ?_⟩
  refine wpAny_Assign_Subscript (thn (hv.run pins s σ H _ I h) fun r s1 ⟨v, H1, I1, rv, q1⟩ => thn (ho.run pins s1 σ H1 _ I1 q1) fun u s2 ⟨x, H2, I2, rx, q2⟩ => thn (hi.run pins s2 σ H2 _ I2 q2) fun iv s3 ⟨y, H3, I3, ry, d, ex, items, k, vd, dn, hk, hz, hvd, hn, hl, q⟩ => ?_) hs
  subst ex
  obtain rfl : u = Value.ref d := rx
  have hco : ∀ q, H3 d ≠ some (LamX.CodeO d q) := fun q e => by
    obtain ⟨kvs, ep, hd, _⟩ := id dn
    obtain ⟨_, _, _, ys, _, es, hr, _⟩ := dn_raw I3 hd
    obtain ⟨⟨oc, vs, t, h1, h2, _⟩, _, _⟩ := I3.hok d _ e
    obtain ⟨o2, h3, h4⟩ := hr
    rw [h1] at h3
    cases h3
    have h5 : oc.data = _ := h4.2
    rw [h2] at h5
    cases h5
  exact n_setItem hu I3 ⟨items, k, vd, dn, hk, hz, hvd, hn, hl, fun o tp dn' => q o hco tp dn'⟩ ry rv fun H4 s4 I4 q => ⟨σ, H4, I4, q⟩
def ChAt (K : PySem.W.Frag) (H : Hp) (x : V) (c : Wh) : Prop := ∃ a dx y fs, x = .ref a ∧ H a = some (.ins (He.ga K "Cheapest") dx (("choice", y) :: fs)) ∧ Dt K H y (chD c)
def NrAt (K : PySem.W.Frag) (H : Hp) (x : V) : Prop := ∃ a dx fs, x = .ref a ∧ H a = some (.ins (He.ga K "NoRules") dx fs)
def bestOf (u : Wh) (r : Ru) (price : Int) (ks : List Wish) : Option Wh := (allCs u r price).find? fun c => (ans c ks).isNone
def spCheapest (K : PySem.W.Frag) : Sp := fun vs H Q _ => ∃ (v : V) (u : Wh) (pr : Addr) (r : Ru) (price : Int) (t : Addr) (ks : List Wish), vs = [v, .ref pr, .ref t] ∧ LamX.Tabs (acTT K) H ∧ WhAt K H v u ∧ H pr = some (.dK [(kS (ruS r), .int price)]) ∧ 1 ≤ price ∧ price ≤ 9 ∧
  SqT K H t (ks.map fun k => V.str (wishS k)) ∧ HopesOk ks ∧ (∀ c ∈ varsOf u r, WOk c) ∧ (∀ c, bestOf u r price ks = some c → ∀ x H', LamX.ExtN H H' → LamX.Tabs (acTT K) H' → ChAt K H' x c → Q x H') ∧ (bestOf u r price ks = none → ∀ x H', LamX.ExtN H H' → LamX.Tabs (acTT K) H' → NrAt K H' x → Q x H')
theorem cal_cheapest (T : Tx K mg) (TB : TBx base mg K) : C8.Cal P w K mg base 8 "cheapest" (spCheapest K) [] := by
  refine cal_of T.g_cheapest T.f_cheapest sc_cheapest (fun vs H Q E h => ?_) (fun _ _ _ _ _ _ us hl => match us, hl with | [_, _, _], _ => rfl) fun cdv A outer s H vs Q E hr h => ?_
  · obtain ⟨v, u, pr, r, price, t, ks, rfl, _⟩ := h
    rfl
  · obtain ⟨v, u, pr, r, price, t, ks, rfl, hT, hx, hpr, h1, h9, ht, hk, hok, hq⟩ := h
    have hu := hu_of hr
    have hu64 := Room.units hr
    refine ⟨_, (pss_cons (ps_expr (C8.pe_c (cal_check_all T) hr (by decide) rfl (pa_cons (pv 0) (pa_cons (pv 1) (pa_cons (pv 2) pa_nil)))))
      (pss_cons (ps_set (i := 3) sc_cheapest.nd rfl (Or.inr rfl) pe_nnew)
      (pss_cons (ps_for PassesOwn.never rfl (pi_list (C8.pe_c (cal_all_choices T TB) hr (by decide) rfl (pa_cons (pv 0) (pa_cons (pv 1) pa_nil)))) (pg_name (i := 4) sc_cheapest.nd rfl (Or.inl rfl))
        (pss_cons (ps_set (i := 5) sc_cheapest.nd rfl (Or.inl rfl) (C8.pe_c (cal_answer_for T) hr (by decide) rfl (pa_cons (pv 0) (pa_cons (pv 4) (pa_cons (pv 2) pa_nil)))))
        (pss_cons (ps_if (pt_val (pe_callB call_isi rfl T.n_isinstance (by decide +kernel) (pa_cons (pv 5) (pa_cons (pe_bltn (v := .ty "list") rfl T.n_list (by decide +kernel) rfl) pa_nil)))) (pss_cons (ps_set (i := 6) sc_cheapest.nd rfl (Or.inr rfl) (C8.pe_c (cal_cost_of T) hr (by decide) rfl (pa_cons (pv 0) (pa_cons (pv 1) (pa_cons (pv 4) pa_nil)))))
          (pss_cons (ps_setLc (i := 7) (own := [("one", 8)]) (g := (gName 8)) rfl sc_cheapest.nd rfl rfl (sw_true rfl rfl rfl (by decide +kernel)) (pi_nkeys (pv 3)) (blkOk_by (N := N_cheapest) (sc := defScope s_cheapest) (by decide +kernel)) (fun _ _ _ _ _ => (pg_name (i := 8) sc_cheapest.nd rfl (Or.inl rfl))) (fun _ _ _ _ _ => (pts_one (pt_cmpR op_lt (C8.pe_c (cal_cost_of T) hr (by decide) rfl (pa_cons (pv 0) (pa_cons (pv 1) (pa_cons (pv 8) pa_nil)))) (pv 6) (nomark _)))) (fun _ _ _ _ _ => (pv 8)))
          (pss_one (ps_ret (C8.pe_mk (mak_Cheapest T) hr (by decide) rfl (pa_cons (pv 4) (pa_cons (pv 5) (pa_cons (pe_callTy (call_dictN hr.hd hu64) rfl T.n_dict (by decide +kernel) (pa_cons (pe_lc (own := [("one", 8)]) (g := (gName 8)) (tt := tYes) rfl sc_cheapest.nd (pi_list (pv 7)) (blkOk_by (N := N_cheapest) (sc := defScope s_cheapest) (by decide +kernel)) (fun _ _ _ _ _ => (pg_name (i := 8) sc_cheapest.nd rfl (Or.inl rfl))) (fun _ _ _ _ _ => pts_nil) (fun _ _ _ _ _ => (pe_tup (pa_cons (pv 8) (pa_cons (pe_ngetK (P := P) (w := w) (K := K) rfl rfl rfl hu64 (pv 3) (pv 8)) pa_nil))))) pa_nil)) pa_nil)))))))) pss_nil)
        (pss_one (ps_nput2 hu64 (pv 3) (pv 4) (pv 5))))))
      (pss_one (ps_ret (C8.pe_mk (mak_NoRules T) hr (by decide) rfl (pa_cons (pv 3) pa_nil))))))), ?_⟩
    refine ⟨_, rfl, _, rfl, _, rfl, v, u, pr, r, price, t, ks, rfl, hx, hpr, h1, h9, ht, hk, fun H1 e1 => ?_⟩
    intro d o hd dn0
    have e1d : Ex H (upd H1 d o) := e1.nx hd
    refine ⟨_, rfl, _, rfl, v, u, pr, r, price, rfl, hT.ext e1d, e1d.wh hx, e1d _ _ hpr, fun l xs H2 eN hT2 hl dxs => ⟨l, rfl, ⟨xs, SqL.of hl⟩, ?_⟩⟩
    have eN0 : LamX.ExtN H H2 := (Ex.extN e1d).trans eN
    have eN1 : LamX.ExtN H1 H2 := (Ex.extN (Ex.nw hd)).trans eN
    have dn2 : DN P w K H2 d [] := DN.extN eN dn0
    have nodup := allCs_nodup u r price
    have mem : ∀ c, c ∈ allCs u r price → c ∈ varsOf u r := fun c hc => (List.mergeSort_perm _ _).mem_iff.mp hc
    have small := allCs_len u r price
    have lenx : xs.length = (allCs u r price).length := by rw [dpa_len dxs, List.length_map]
    refine for_list (xs := xs) (fun i σ' H' => ∃ o4 o5 o6 o7 o8 pre suf, σ' = [some v, some (.ref pr), some (.ref t), some (.ref d), o4, o5, o6, o7, o8] ∧ allCs u r price = pre ++ suf ∧ pre.length = i ∧ (∀ c ∈ pre, (ans c ks).isSome = true) ∧ LamX.ExtN H1 H' ∧ LamX.Tabs (acTT K) H' ∧ H' l = some (.lst xs) ∧ DtAll K H' xs ((allCs u r price).map chD) ∧ DN P w K H' d (pre.map fun c => (chD c, agD ks c)))
      ⟨_, _, _, _, _, [], allCs u r price, rfl, rfl, rfl, fun _ h => absurd h List.not_mem_nil, eN1, hT2, hl, dxs, dn2⟩ ?_ ?_ ?_
    · rintro i σ' H' _ ⟨o4, o5, o6, o7, o8, pre, suf, _, _, _, _, _, _, hl', _⟩
      exact SqL.of hl'
    · rintro i x σ' H3 hi ⟨o4, o5, o6, o7, o8, pre, suf, rfl, ew, el, good, e3, hT3, hl3, dx3, dn3⟩
      obtain ⟨dd, hdd, dxc⟩ := dpa_get dx3 hi
      obtain ⟨c, suf', es, ed⟩ := at_splitG hdd ew el
      subst es ed
      have hcm : c ∈ allCs u r price := by rw [ew]; exact List.mem_append_right _ List.mem_cons_self
      have hcv := mem c hcm
      have hw3 : WhAt K H3 v u := extN_wh e3 (e1.wh hx)
      have hp3 : H3 pr = some (.dK [(kS (ruS r), .int price)]) := e3 _ _ (e1 _ _ hpr) fun ps z => by cases z
      have ht3 : SqT K H3 t (ks.map fun k => V.str (wishS k)) := (extN_tp e3).t (e1.t ht)
      have prem : ∀ q ∈ pre, q ∈ varsOf u r := fun q hq' => mem q (by rw [ew]; exact List.mem_append_left _ hq')
      have lenp : pre.length ≤ 100 := by
        have h2 := congrArg List.length ew
        rw [List.length_append] at h2
        omega
      refine ⟨_, rfl, _, rfl, _, rfl, v, x, t, u, c, ks, rfl, hw3, dxc, hok c hcv, ht3, fun hn l2 ys H4 e4 hl4 => ?_, fun k h ha y H4 e4 dy => ?_⟩
      · refine ⟨_, rfl, _, _, _, _, true, rfl, .ty "list", .base (.lst hl4), kit_ty (by decide +kernel), true, rfl, iteT ?_⟩
        refine ⟨_, rfl, _, rfl, _, rfl, v, u, pr, r, price, x, c, rfl, e4.wh hw3, e4 _ _ hp3, e4.d dxc, vars_at hcv, fun H5 e5 => ?_⟩
        have e45 := e4.tr e5
        have dn5 : DN P w K H5 d (pre.map fun c => (chD c, agD ks c)) := DN.ex e45 dn3
        obtain ⟨kvs, ep, hdd5, hen⟩ := id dn5
        have hlen : kvs.length = pre.length := by rw [Ents.len hen]; exact List.length_map _
        refine ⟨_, rfl, d, kvs, ep, rfl, hdd5, fun D hD => ?_⟩
        refine lc_D (K := K) (items := pre) (p := fun q => decide (costOf u r price q < costOf u r price c)) (m := chD) walk_n (fun H' e => e _ _ hdd5) (by rw [List.length_map]; exact hlen) (by rw [List.length_map, hlen]; omega) hD (fun i2 y q H' hi2 hq2 e Qn Qy n1 n2 => ?_) fun H6 rs e6 hD6 dr => ?_
        · have dks := ents_keys hen
          obtain ⟨kd, hk1, hk2⟩ := dpa_get dks hi2
          rw [List.getElem?_map, List.getElem?_map, hq2] at hk1
          have hk1 : chD q = kd := Option.some.inj hk1
          subst hk1
          refine ⟨rfl, _, rfl, _, rfl, _, rfl, v, u, pr, r, price, y, q, rfl, (e45.tr e).wh hw3, (e45.tr e) _ _ hp3, e.d hk2, vars_at (prem q (List.mem_of_getElem? hq2)), fun H7 e7 => ⟨_, rfl, _, _, rfl, rfl, decide (costOf u r price q < costOf u r price c), rfl, ?_⟩⟩
          cases hdc : decide (costOf u r price q < costOf u r price c) with
          | true => exact iteT ⟨_, rfl, n2 hdc _ _ e7 ((e.tr e7).d hk2)⟩
          | false => exact iteF (n1 hdc _ e7)
        · have e56 : Ex H3 H6 := (e45.tr e6)
          have dn6 : DN P w K H6 d (pre.map fun c => (chD c, agD ks c)) := DN.ex e6 dn5
          refine ⟨_, rfl, _, rfl, _, rfl, D, rfl, ⟨rs, SqL.of hD6⟩, fun D2 hD2 => ?_⟩
          have lenr : rs.length = (pre.filter fun q => decide (costOf u r price q < costOf u r price c)).length := by rw [dpa_len dr, List.length_map]
          have lenf : (pre.filter fun q => decide (costOf u r price q < costOf u r price c)).length ≤ 100 := Nat.le_trans (List.length_filter_le _ _) lenp
          refine lc_listD (K := K) (items := pre.filter fun q => decide (costOf u r price q < costOf u r price c)) (p := fun _ => true) (m := fun q => .tuple [chD q, agD ks q]) (SqL.of hD6) lenr (by omega) hD2 (fun i2 y q H' hi2 hq2 e Qn Qy n1 n2 => ?_) fun H7 zs e7 hD7 dz => ?_
          · have dyq := dpa_map dr hi2 hq2
            have hm : q ∈ pre := (List.mem_filter.mp (List.mem_of_getElem? hq2)).1
            refine ⟨rfl, iteT (B := True) ⟨_, rfl, _, rfl, _, rfl, d, _, _, (chD q, agD ks q), rfl, DN.ex e dn6, e.d dyq, ch_depth q, List.mem_map.mpr ⟨q, hm, rfl⟩, rfl, fun v1 dv1 => ⟨by show 2 ≤ sizeLine; decide, fun p hp => n2 rfl _ _ (Ex.nw hp) (.tup sqt_new (.cons ((Ex.nw hp).d (e.d dyq)) (.cons ((Ex.nw hp).d dv1) .nil)))⟩⟩⟩
          · have hf : (pre.filter fun q => decide (costOf u r price q < costOf u r price c)).filter (fun _ => true) = pre.filter fun q => decide (costOf u r price q < costOf u r price c) := List.filter_eq_self.mpr fun _ _ => rfl
            rw [hf] at dz
            have sub : (pre.filter fun q => decide (costOf u r price q < costOf u r price c)).Nodup := List.Nodup.sublist List.filter_sublist (by rw [ew] at nodup; exact (List.nodup_append.mp nodup).1)
            refine ⟨D2, zs, (pre.filter fun q => decide (costOf u r price q < costOf u r price c)).map fun q => (chD q, agD ks q), rfl, SqL.of hD7, by rw [List.map_map]; exact dz, fun q hq' => ?_, nk_nodup sub, fun p3 o3 hp3' dn8 x8 dx8 h81 h82 hne => ?_⟩
            · obtain ⟨q, _, rfl⟩ := List.mem_map.mp hq'
              exact ⟨⟨_, rfl⟩, ch_depth q⟩
            · have em := ex_make (C := He.ga K "Cheapest") h81 h82 hne
              have e37 : Ex H3 (upd H7 p3 o3) := (e56.tr e7).nx hp3'
              have e48 : Ex H4 (upd H7 p3 o3) := ((e5.tr e6).tr e7).nx hp3'
              refine ⟨x8, dx8, x, l2, ys, p3, _, rfl, upd_same, SqL.of (em _ _ (e48 _ _ hl4)), DN.ex em dn8, hit_ag ks _ (fun q hq' => good q (List.mem_filter.mp hq').1), nk_nodup sub, by rw [List.length_map]; omega, fun H9 fs kp => ⟨rfl, hq.1 c ?_ _ _ ?_ ?_ ⟨x8, dx8, x, fs, rfl, upd_same, ?_⟩⟩⟩
              · unfold bestOf
                rw [ew]
                exact find_mid (fun q hq' => isNone_of (good q hq')) (by rw [hn]; rfl)
              · exact (Ex.extN e1).trans (e3.trans (Ex.extN (e37.tr (ex_fresh h81 em kp))))
              · exact (hT3.ext e37).ext (ex_fresh h81 em kp)
              · exact (ex_fresh h81 em kp).d (e37.d dxc)
      · obtain ⟨ty, rfl, _, hty⟩ := ag_ref dy
        refine ⟨_, rfl, _, _, _, _, false, rfl, .ty "list", sqt_ty hty, kit_ty (by decide +kernel), false, rfl, iteF ?_⟩
        have hag : agD ks c = ansD k h := by unfold agD; rw [ha]
        refine ⟨_, rfl, _, rfl, _, rfl, d, rfl, _, _, ansD k h, DN.ex e4 dn3, e4.d dxc, ch_depth c, dy, ?_, by rw [List.length_map]; omega, fun o hco tp dn' => ?_⟩
        · rw [ew] at nodup
          exact any_ch ks fun z => (List.nodup_append.mp nodup).2.2 c z c List.mem_cons_self rfl
        · obtain ⟨kvs, ep, hdd4, _⟩ := DN.ex e4 dn3
          have hdl : l ≠ d := fun z => by
            have := e4 _ _ hl3
            rw [z, hdd4] at this
            cases this
          refine ⟨_, _, _, _, _, pre ++ [c], suf', rfl, by rw [ew, List.append_assoc]; rfl, by rw [List.length_append, el]; rfl, fun q hq' => ?_, extN_put (e3.trans (Ex.extN e4)) hd, tabs_put (hT3.ext e4) hdd4 hco, by rw [upd_ne hdl]; exact e4 _ _ hl3, tp.da (e4.da dx3), ?_⟩
          · rcases List.mem_append.mp hq' with z | z
            · exact good q z
            · rw [List.mem_singleton.mp z, ha]
              rfl
          · rw [List.map_append]
            show DN P w K _ d (_ ++ [(chD c, agD ks c)])
            rw [hag]
            exact dn'
    · rintro σ' H3 ⟨o4, o5, o6, o7, o8, pre, suf, rfl, ew, el, good, e3, hT3, hl3, dx3, dn3⟩
      have es : suf = [] := by
        have h2 := congrArg List.length ew
        rw [List.length_append] at h2
        exact List.length_eq_zero_iff.mp (by omega)
      subst es
      rw [List.append_nil] at ew
      refine ⟨_, rfl, fun x8 dx8 h81 h82 hne => ?_⟩
      have em := ex_make (C := He.ga K "NoRules") h81 h82 hne
      refine ⟨x8, dx8, d, _, rfl, upd_same, DN.ex em dn3, hit_ag ks _ good, nk_nodup (by rw [← ew]; exact nodup), by rw [List.length_map, ← ew]; omega, fun H9 fs kp => ⟨rfl, hq.2 ?_ _ _ ?_ ?_ ⟨x8, dx8, fs, rfl, upd_same⟩⟩⟩
      · unfold bestOf
        rw [List.find?_eq_none]
        intro q hq'
        rw [isNone_of (good q (by rw [← ew]; exact hq'))]
        decide
      · exact (Ex.extN e1).trans (e3.trans (Ex.extN (ex_fresh h81 em kp)))
      · exact hT3.ext (ex_fresh h81 em kp)
end
end LapW
set_option Elab.async false
set_option linter.all false
set_option maxRecDepth 100000
set_option maxHeartbeats 4000000
namespace LapW
open PySem PySem.Spec PyProof.Rows L2 Lap

section
variable {P : Program} {w : World} {K : PySem.W.Frag} {mg : Str → Option Value} {base : Heap}
/-! ### least_cost -/
abbrev s_least_cost : Stmt := top 76
abbrev N_least_cost : List Str := ["wheel", "prices", "hopes", "found"]
theorem sc_least_cost : FnScope N_least_cost ["wheel", "prices", "hopes"] (defScope s_least_cost) := ⟨rfl, rfl, rfl, by decide +kernel, rfl, by decide +kernel, by decide +kernel⟩
def lcO (u : Wh) (r : Ru) (price : Int) (ks : List Wish) : Option Int := (bestOf u r price ks).map (costOf u r price)
def lcV (u : Wh) (r : Ru) (price : Int) (ks : List Wish) : V := optV (lcO u r price ks)
def spLeastCost (K : PySem.W.Frag) : Sp := fun vs H Q _ => ∃ (v : V) (u : Wh) (pr : Addr) (r : Ru) (price : Int) (t : Addr) (ks : List Wish), vs = [v, .ref pr, .ref t] ∧ LamX.Tabs (acTT K) H ∧ WhAt K H v u ∧ H pr = some (.dK [(kS (ruS r), .int price)]) ∧ 1 ≤ price ∧ price ≤ 9 ∧
  SqT K H t (ks.map fun k => V.str (wishS k)) ∧ HopesOk ks ∧ (∀ c ∈ varsOf u r, WOk c) ∧ ∀ H', LamX.ExtN H H' → LamX.Tabs (acTT K) H' → Q (lcV u r price ks) H'
theorem cal_least_cost (T : Tx K mg) (TB : TBx base mg K) : C8.Cal P w K mg base 9 "least_cost" (spLeastCost K) [] := by
  refine cal_of T.g_least_cost T.f_least_cost sc_least_cost (fun vs H Q E h => ?_) (fun _ _ _ _ _ _ us hl => match us, hl with | [_, _, _], _ => rfl) fun cdv A outer s H vs Q E hr h => ?_
  · obtain ⟨v, u, pr, r, price, t, ks, rfl, _⟩ := h
    rfl
  · obtain ⟨v, u, pr, r, price, t, ks, rfl, hT, hx, hpr, h1, h9, ht, hk, hok, hq⟩ := h
    refine ⟨_, (pss_cons (ps_set (i := 3) sc_least_cost.nd rfl (Or.inl rfl) (C8.pe_c (cal_cheapest T TB) hr (by decide) rfl (pa_cons (pv 0) (pa_cons (pv 1) (pa_cons (pv 2) pa_nil)))))
      (pss_one (ps_ret (pe_ifExp (pt_val (pe_callB call_isi rfl T.n_isinstance (by decide +kernel) (pa_cons (pv 3) (pa_cons (C8.pe_gc rfl T.c_Cheapest) pa_nil)))) (C8.pe_c (cal_cost_of T) hr (by decide) rfl (pa_cons (pv 0) (pa_cons (pv 1) (pa_cons (pe_of T.cl_Cheapest T.n_Cheapest_choice (pv 3)) pa_nil)))) pe_non)))), ?_⟩
    refine ⟨_, rfl, _, rfl, _, rfl, v, u, pr, r, price, t, ks, rfl, hT, hx, hpr, h1, h9, ht, hk, hok, fun c hb x H1 eN hT1 hx1 => ?_, fun hb x H1 eN hT1 hx1 => ?_⟩
    · obtain ⟨a, dx, y, fs, rfl, ha, dy⟩ := hx1
      have hc : c ∈ varsOf u r := (List.mergeSort_perm _ _).mem_iff.mp (List.mem_of_find?_eq_some hb)
      refine ⟨_, rfl, _, _, _, _, true, rfl, .own _, T.ins_Cheapest ha, T.k_Cheapest_Cheapest, true, rfl, iteT ⟨_, rfl, _, rfl, _, rfl, a, dx, _, _, rfl, ha, rfl, v, u, pr, r, price, y, c, rfl, extN_wh eN hx, eN _ _ hpr (fun ps z => by cases z), dy, vars_at hc, fun H2 e2 => ?_⟩⟩
      have := hq H2 (eN.trans (Ex.extN e2)) (hT1.ext e2)
      unfold lcV lcO at this
      rw [hb] at this
      exact this
    · obtain ⟨a, dx, fs, rfl, ha⟩ := hx1
      refine ⟨_, rfl, _, _, _, _, false, rfl, .own _, T.ins_NoRules ha, T.k_NoRules_Cheapest, false, rfl, iteF ?_⟩
      have := hq H1 eN hT1
      unfold lcV lcO at this
      rw [hb] at this
      exact this
end
end LapW
set_option Elab.async false
set_option linter.all false
set_option maxRecDepth 100000
set_option maxHeartbeats 4000000
/-! what the least cost is. -/
namespace LapW
open PySem PySem.Spec PyProof.Rows L2 Lap
theorem optV_inj {a b : Option Int} (h : optV a = optV b) : a = b := by
  cases a <;> cases b
  · rfl
  · cases h
  · cases h
  · cases h; rfl
theorem var_self {u c : Wh} {r : Ru} (hc : c ∈ varsOf u r) (h : ruV u r = ruV c r) : c = u := by
  cases r with
  | freeze =>
    obtain ⟨i, _, rfl⟩ := List.mem_map.mp hc
    have h : V.int u.freeze = V.int i := h
    cases h
    rfl
  | stop =>
    obtain ⟨o, _, rfl⟩ := List.mem_map.mp hc
    have h : u.stop = o := optV_inj h
    subst h
    rfl
  | hold =>
    obtain ⟨b, _, rfl⟩ := List.mem_map.mp hc
    have h : V.str (holdS u.hold) = V.str (holdS b) := h
    have h : u.hold = b := holdS_inj (V.str.inj h)
    subst h
    rfl
  | cut =>
    obtain ⟨o, _, rfl⟩ := List.mem_map.mp hc
    have h : u.cut = o := optV_inj h
    subst h
    rfl
theorem lim_mem {o : Option Int} (h : LimOk o) : o ∈ ([none, some 1, some 2, some 3, some 4] : List (Option Int)) := by
  cases o with
  | none => exact List.mem_cons_self
  | some i =>
    have h : 1 ≤ i ∧ i ≤ 4 := h
    have : i = 1 ∨ i = 2 ∨ i = 3 ∨ i = 4 := by omega
    rcases this with rfl | rfl | rfl | rfl <;> simp
theorem self_mem {u : Wh} (ok : WOk u) (r : Ru) : u ∈ varsOf u r := by
  cases r with
  | freeze =>
    refine List.mem_map.mpr ⟨u.freeze, ?_, rfl⟩
    have h := ok.fr
    have : u.freeze = 0 ∨ u.freeze = 1 ∨ u.freeze = 2 := by omega
    rcases this with e | e | e <;> rw [e] <;> simp
  | stop => exact List.mem_map.mpr ⟨u.stop, lim_mem ok.st, rfl⟩
  | hold => exact List.mem_map.mpr ⟨u.hold, by cases u.hold <;> simp, rfl⟩
  | cut => exact List.mem_map.mpr ⟨u.cut, lim_mem ok.ct, rfl⟩
theorem var_ok {u c : Wh} (ok : WOk u) {r : Ru} (hc : c ∈ varsOf u r) : WOk c := by
  have lim : ∀ o ∈ ([none, some 1, some 2, some 3, some 4] : List (Option Int)), LimOk o := fun o ho => by
    simp at ho
    rcases ho with rfl | rfl | rfl | rfl | rfl
    · trivial
    all_goals exact ⟨by decide, by decide⟩
  cases r with
  | freeze =>
    obtain ⟨i, hi, rfl⟩ := List.mem_map.mp hc
    simp at hi
    refine ⟨?_, ok.st, ok.ct⟩
    show 0 ≤ i ∧ i ≤ 2
    omega
  | stop =>
    obtain ⟨o, ho, rfl⟩ := List.mem_map.mp hc
    exact ⟨ok.fr, lim o ho, ok.ct⟩
  | hold =>
    obtain ⟨b, _, rfl⟩ := List.mem_map.mp hc
    exact ⟨ok.fr, ok.st, ok.ct⟩
  | cut =>
    obtain ⟨o, ho, rfl⟩ := List.mem_map.mp hc
    exact ⟨ok.fr, ok.st, lim o ho⟩
theorem cost_self (u : Wh) (r : Ru) (p : Int) : costOf u r p u = 0 := if_pos rfl
theorem cost_other {u c : Wh} {r : Ru} (p : Int) (hc : c ∈ varsOf u r) (hne : c ≠ u) : costOf u r p c = p := if_neg fun z => hne (var_self hc z)
theorem all_mem {u c : Wh} {r : Ru} {p : Int} : c ∈ allCs u r p ↔ c ∈ varsOf u r := (List.mergeSort_perm _ _).mem_iff
theorem head_u {u : Wh} (ok : WOk u) (r : Ru) {p : Int} (hp : 1 ≤ p) : ∃ rest, allCs u r p = u :: rest := by
  have hu : u ∈ allCs u r p := all_mem.mpr (self_mem ok r)
  cases h : allCs u r p with
  | nil =>
    rw [h] at hu
    cases hu
  | cons c t =>
    by_cases hc : c = u
    · exact ⟨t, by rw [hc]⟩
    · exfalso
      have hpw : (allCs u r p).Pairwise (fun a b => PySem.W.dataLe false (keyD u r p) a b = true) := PySem.W.sort_pairwise (PySem.W.sortLe_total _ _ _) _
      rw [h] at hpw hu
      have hut : u ∈ t := by
        rcases List.mem_cons.mp hu with z | z
        · exact absurd z.symm hc
        · exact z
      have hle := (List.pairwise_cons.mp hpw).1 u hut
      have hcv : c ∈ varsOf u r := all_mem.mp (by rw [h]; exact List.mem_cons_self)
      rw [PySem.W.dataLe_eq] at hle
      have hle : (!PySem.W.dataLt (.tuple [.int (costOf u r p u), placesD u]) (.tuple [.int (costOf u r p c), placesD c])) = true := hle
      rw [PySem.W.dataLt_pair rfl (alike_places _ _), cost_self, cost_other p hcv hc, if_neg (show ¬ (PyData.int 0).eqv (PyData.int p) = true from fun z => by have z : ((0 : Int) == p) = true := z; rw [beq_iff_eq] at z; omega), PySem.W.dataLt_int, decide_eq_true (by omega)] at hle
      cases hle
theorem lc_val {u : Wh} (ok : WOk u) (r : Ru) {p : Int} (hp : 1 ≤ p) (ks : List Wish) :
    lcO u r p ks = if (ans u ks).isNone = true then some 0 else if ((varsOf u r).any fun c => (ans c ks).isNone) = true then some p else none := by
  obtain ⟨rest, hr⟩ := head_u ok r hp
  unfold lcO bestOf
  by_cases hu : (ans u ks).isNone = true
  · rw [if_pos hu, hr, List.find?_cons_of_pos (p := fun c => (ans c ks).isNone) hu]
    exact congrArg some (cost_self u r p)
  · rw [if_neg hu]
    cases hf : (allCs u r p).find? (fun c => (ans c ks).isNone) with
    | none =>
      rw [List.find?_eq_none] at hf
      rw [if_neg]
      · rfl
      · intro hany
        obtain ⟨c, hc, hcn⟩ := List.any_eq_true.mp hany
        exact hf c (all_mem.mpr hc) hcn
    | some c =>
      have hc := all_mem.mp (List.mem_of_find?_eq_some hf)
      have hcn := List.find?_some hf
      have hne : c ≠ u := fun z => hu (by rw [← z]; exact hcn)
      rw [if_pos (List.any_eq_true.mpr ⟨c, hc, hcn⟩)]
      exact congrArg some (cost_other p hc hne)
theorem ans_one (c : Wh) (k : Wish) : (ans c [k]).isNone = safe c k := by
  unfold ans safe
  rw [List.findSome?_cons]
  cases brk c k <;> rfl
theorem ans_sub {c : Wh} {ks ks' : List Wish} (h : ∀ k ∈ ks, k ∈ ks') (hn : (ans c ks').isNone = true) : (ans c ks).isNone = true := by
  rw [Option.isNone_iff_eq_none] at hn ⊢
  unfold ans at hn ⊢
  rw [List.findSome?_eq_none_iff] at hn ⊢
  exact fun k hk => hn k (h k hk)
theorem lc_zero {u : Wh} (ok : WOk u) (r : Ru) {p : Int} (hp : 1 ≤ p) (k : Wish) : decide (lcO u r p [k] = some 0) = safe u k := by
  rw [lc_val ok r hp, ans_one]
  cases safe u k with
  | true => rfl
  | false =>
    rw [if_neg Bool.false_ne_true]
    refine decide_eq_false ?_
    split
    · intro z
      have := Option.some.inj z
      omega
    · intro z
      cases z
theorem lc_in {u : Wh} (ok : WOk u) (r : Ru) {p : Int} (hp : 1 ≤ p) (ks : List Wish) : lcO u r p ks = none ∨ lcO u r p ks = some 0 ∨ lcO u r p ks = some p := by
  rw [lc_val ok r hp]
  split
  · exact .inr (.inl rfl)
  · split
    · exact .inr (.inr rfl)
    · exact .inl rfl
theorem lc_dbl {u : Wh} (ok : WOk u) (r : Ru) {p : Int} (hp : 1 ≤ p) (ks : List Wish) : lcO u r (2 * p) ks = (lcO u r p ks).map (2 * ·) := by
  rw [lc_val ok r hp, lc_val ok r (show 1 ≤ 2 * p by omega)]
  split
  · rfl
  · split <;> rfl
theorem lc_more {u : Wh} (ok : WOk u) (r : Ru) {p : Int} (hp : 1 ≤ p) {ks ks' : List Wish} (h : ∀ k ∈ ks, k ∈ ks') : lcO u r p ks' = none ∨ ∃ a b, lcO u r p ks = some a ∧ lcO u r p ks' = some b ∧ a ≤ b := by
  rw [lc_val ok r hp ks, lc_val ok r hp ks']
  by_cases h1 : (ans u ks').isNone = true
  · rw [if_pos h1, if_pos (ans_sub h h1)]
    exact .inr ⟨0, 0, rfl, rfl, Int.le_refl _⟩
  · rw [if_neg h1]
    by_cases h2 : ((varsOf u r).any fun c => (ans c ks').isNone) = true
    · rw [if_pos h2]
      obtain ⟨c, hc, hcn⟩ := List.any_eq_true.mp h2
      refine .inr ?_
      by_cases h3 : (ans u ks).isNone = true
      · rw [if_pos h3]
        exact ⟨0, p, rfl, rfl, by omega⟩
      · rw [if_neg h3, if_pos (List.any_eq_true.mpr ⟨c, hc, ans_sub h hcn⟩)]
        exact ⟨p, p, rfl, rfl, Int.le_refl _⟩
    · rw [if_neg h2]
      exact .inl rfl
end LapW
set_option Elab.async false
set_option linter.all false
set_option maxRecDepth 100000
set_option maxHeartbeats 4000000
namespace LapW
open PySem PySem.Spec PyProof.Rows L2 Lap

section
variable {P : Program} {w : World} {K : PySem.W.Frag} {mg : Str → Option Value} {base : Heap}
/-! ### _law_number -/
abbrev s__law_number : Stmt := top 85
abbrev N__law_number : List Str := ["_law_script", "_law_index", "_law_cells", "_law_cell", "_law_low", "_law_high", "_law_total", "_law_blend"]
theorem sc__law_number : FnScope N__law_number ["_law_script", "_law_index"] (defScope s__law_number) := ⟨rfl, rfl, rfl, by decide +kernel, rfl, by decide +kernel, by decide +kernel⟩
theorem ints_dp {K : PySem.W.Frag} {H : Hp} : ∀ ns : List Int, DpAll K H (ns.map V.int) (ns.map PyData.int)
  | [] => .nil
  | n :: ns => .cons (.int _) (ints_dp ns)
theorem shaped_ints (ns : List Int) : SeqAt.shaped (.list (ns.map PyData.int)) = true := shaped_list (fun _ _ => rfl) fun _ _ => Nat.le_of_ble_eq_true rfl
theorem cut63 (ns : List Int) : (ns.take 63).map V.int = cutV (ns.map V.int) none (some 63) := by
  unfold cutV
  rw [HT.sIx_none, show HT.sIx (ns.map V.int).length (ns.map V.int).length (some 63) = min 63 (ns.map V.int).length from HT.sIx_nat _ _ 63, List.drop_zero, Nat.sub_zero, List.length_map, List.map_take]
  rw [← List.length_map (f := V.int) (as := ns), ← List.take_eq_take_min]
def spLawNumber (K : PySem.W.Frag) : Sp := fun vs H Q _ => ∃ (a : Addr) (i : Int) (ns : List Int), vs = [.ref a, .int i] ∧ SqL K H a (ns.map V.int) ∧ 0 ≤ i ∧ i ≤ 100 ∧ ∀ n H', Ex H H' → Q (.int n) H'
theorem cal__law_number (T : Tx K mg) : C8.Cal P w K mg base 1 "_law_number" (spLawNumber K) [] := by
  refine cal_of T.g__law_number T.f__law_number sc__law_number (fun vs H Q E h => ?_) (fun _ _ _ _ _ _ us hl => match us, hl with | [_, _], _ => rfl) fun cdv A outer s H vs Q E hr h => ?_
  · obtain ⟨a, i, ns, rfl, _⟩ := h
    rfl
  · obtain ⟨a, i, ns, rfl, hs, h0, h1, hq⟩ := h
    have hu := hu_of hr
    have hu64 := Room.units hr
    refine ⟨_, (pss_cons (ps_set (i := 2) sc__law_number.nd rfl (Or.inl rfl) (pe_ifExp (pt_cmpR (op_neD hu64) (pv 0) (pe_lst pa_nil) (nomark _)) (pe_slice sl_list (pv 0) po_none (po_some pe_int)) (pe_lst (pa_cons pe_int pa_nil))))
      (pss_cons (ps_set (i := 3) sc__law_number.nd rfl (Or.inl rfl) (pe_op op_add (pe_ix ix_list (pv 2) (pe_op op_mod (pe_callTy call_int1 rfl T.n_int (by decide +kernel) (pa_cons (pv 1) pa_nil)) (pe_callB call_len_seq rfl T.n_len (by decide +kernel) (pa_cons (pv 2) pa_nil))) (fun _ _ => rfl)) (pe_op op_mul pe_int (pe_op op_fdiv (pv 1) (pe_callB call_len_seq rfl T.n_len (by decide +kernel) (pa_cons (pv 2) pa_nil))))))
      (pss_cons (ps_par (i := 4) (j := 5) rfl sc__law_number.nd rfl rfl (by decide) rfl rfl (pa_cons (pe_op op_mod (pe_callTy call_int1 rfl T.n_int (by decide +kernel) (pa_cons (pv 3) pa_nil)) pe_int) (pa_cons (pe_op op_mod (pe_callTy call_int1 rfl T.n_int (by decide +kernel) (pa_cons (pe_op op_fdiv (pv 3) pe_int) pa_nil)) pe_int) pa_nil)) rfl)
      (pss_cons (ps_set (i := 6) sc__law_number.nd rfl (Or.inl rfl) (pe_op op_mod (pe_callTy call_int1 rfl T.n_int (by decide +kernel) (pa_cons (pe_callB (cr_sum rfl) rfl T.n_sum (by decide +kernel) (pa_cons (pv 2) pa_nil)) pa_nil)) pe_int))
      (pss_cons (ps_set (i := 7) sc__law_number.nd rfl (Or.inl rfl) (pe_op op_mod (pe_callTy call_int1 rfl T.n_int (by decide +kernel) (pa_cons (pe_op op_add (pe_op op_add (pe_op op_mul (pe_op op_add (pv 4) (pe_op op_mul pe_int (pv 1))) pe_int) (pe_op op_mul pe_int (pv 5))) (pv 6)) pa_nil)) pe_int))
      (pss_one (ps_ret (pe_op op_add (pe_op op_mul (pe_op op_mod (pe_callTy call_int1 rfl T.n_int (by decide +kernel) (pa_cons (pe_op op_mul (pv 7) (pe_op op_add (pe_op op_add (pv 7) (pe_op op_mul pe_int (pv 1))) pe_int)) pa_nil)) pe_int) pe_int) (pv 5))))))))), ?_⟩
    refine seq_cut (fun σ' H' => ∃ c cs, σ' = [some (.ref a), some (.int i), some (.ref c), none, none, none, none, none] ∧ Ex H H' ∧ SqL K H' c (cs.map V.int) ∧ cs ≠ [] ∧ cs.length ≤ 63) ?_ fun hn => ?_
    · rintro σ' H' ⟨c, cs, rfl, e, hc, hne, hl63⟩
      have hlen : (cs.map V.int).length = cs.length := List.length_map _
      have hpos : 0 < cs.length := Nat.pos_of_ne_zero fun z => hne (List.length_eq_zero_iff.mp z)
      obtain ⟨x, hx⟩ : ∃ x, atI (cs.map V.int) (i % ((cs.map V.int).length : Int)) = some (.int x) := by
        rw [hlen]
        have hm := Int.emod_nonneg i (show (cs.length : Int) ≠ 0 by omega)
        have hm2 := Int.emod_lt_of_pos i (show (0 : Int) < cs.length by omega)
        obtain ⟨j, hj⟩ := Int.eq_ofNat_of_zero_le hm
        rw [hj]
        have hj2 : j < cs.length := by omega
        exact ⟨cs[j], atI_nat (by rw [List.getElem?_map, List.getElem?_eq_getElem hj2]; rfl)⟩
      have hlp : (0 : Int) < ((cs.map V.int).length : Int) := by rw [hlen]; omega
      have hlq : ((cs.map V.int).length : Int) < 1073741824 := by rw [hlen]; omega
      refine ⟨_, rfl, _, rfl, .inl ⟨_, rfl, _, rfl, c, _, rfl, .inl hc, _, _, rfl, rfl, hlp, c, _, _, _, rfl, rfl, hc, hx, ?_⟩⟩
      refine ⟨_, rfl, _, rfl, c, _, rfl, .inl hc, _, _, rfl, rfl, ⟨hlp, hlq⟩, _, _, rfl, rfl, .inl ⟨by decide, by decide⟩, _, _, rfl, rfl, ?_⟩
      refine ⟨_, rfl, .inl ⟨_, rfl, _, _, rfl, rfl, (by show (0 : Int) < _; decide), _, rfl, _, _, rfl, rfl, ⟨by decide, by decide⟩, .inl ⟨_, rfl, _, _, rfl, rfl, (by show (0 : Int) < _; decide), _, _, rfl, ?_⟩⟩⟩
      refine ⟨_, rfl, c, cs, rfl, hc, .inl ⟨_, rfl, _, _, rfl, rfl, (by show (0 : Int) < _; decide), ?_⟩⟩
      refine ⟨_, rfl, _, rfl, _, _, rfl, rfl, .inl ⟨by decide, by decide⟩, _, _, rfl, rfl, _, _, rfl, rfl, .inr ⟨by decide, by decide⟩, _, rfl, _, _, rfl, rfl, .inl ⟨by decide, by decide⟩, _, _, rfl, rfl, _, rfl, _, _, rfl, rfl, .inl ⟨_, rfl, _, _, rfl, rfl, (by show (0 : Int) < _; decide), ?_⟩⟩
      have hb0 := fun z : Int => Int.emod_nonneg z (show (2147483647 : Int) ≠ 0 by decide)
      have hb1 := fun z : Int => Int.emod_lt_of_pos z (show (0 : Int) < 2147483647 by decide)
      refine ⟨_, rfl, _, rfl, _, rfl, _, _, rfl, rfl, .inl ⟨by decide, by decide⟩, _, _, rfl, rfl, _, _, rfl, rfl, _, _, rfl, rfl, .inl ⟨?_, ?_⟩, .inl ⟨_, rfl, _, _, rfl, rfl, (by show (0 : Int) < _; decide), _, _, rfl, rfl, .inr ⟨by decide, by decide⟩, _, rfl, _, _, rfl, rfl, hq _ _ e⟩⟩
      · exact Int.lt_of_lt_of_le (by decide) (hb0 _)
      · exact Int.lt_trans (hb1 _) (by decide)
    · refine ⟨_, rfl, Nat.zero_le _, fun l0 hl0 => ?_⟩
      have hs0 := (Ex.nw (o := .lst []) hl0).l hs
      refine ⟨.list (ns.map PyData.int), .list [], .lst hs0 (ints_dp ns), .lst (SqL.of upd_same) .nil, shaped_ints ns, rfl, decide (ns ≠ []), ?_, ?_⟩
      · cases ns <;> rfl
      · by_cases hn0 : ns = []
        · rw [decide_eq_false (fun z => z hn0)]
          refine iteF ⟨by show 1 ≤ sizeLine; decide, fun c hc => hn _ _ ⟨c, [5], rfl, (Ex.nw hl0).nx hc, SqL.of upd_same, List.cons_ne_nil _ _, by decide⟩⟩
        · rw [decide_eq_true hn0]
          refine iteT ⟨_, rfl, _, rfl, a, _, rfl, hs0, fun c hc => hn _ _ ⟨c, ns.take 63, rfl, (Ex.nw hl0).nx hc, ?_, ?_, by rw [List.length_take]; omega⟩⟩
          · rw [cut63]
            exact SqL.of upd_same
          · intro z
            cases ns with
            | nil => exact hn0 rfl
            | cons x ns => cases z
end
end LapW
set_option Elab.async false
set_option linter.all false
set_option maxRecDepth 100000
set_option maxHeartbeats 4000000
namespace LapW
open PySem PySem.Spec PyProof.Rows L2 Lap

section
variable {P : Program} {w : World} {K : PySem.W.Frag} {mg : Str → Option Value} {base : Heap}
/-! ### _law_not_more -/
abbrev s__law_not_more : Stmt := top 88
abbrev N__law_not_more : List Str := ["_law_one", "_law_other"]
theorem sc__law_not_more : FnScope N__law_not_more ["_law_one", "_law_other"] (defScope s__law_not_more) := ⟨rfl, rfl, rfl, by decide +kernel, rfl, by decide +kernel, by decide +kernel⟩
def notMore : Option Int → Option Int → Bool
  | _, none => true
  | none, some _ => false
  | some i, some j => decide (i ≤ j)
def spNotMore : Sp := fun vs H Q _ => ∃ a b, vs = [optV a, optV b] ∧ RetB (notMore a b) H Q
theorem cal__law_not_more (T : Tx K mg) : C8.Cal P w K mg base 1 "_law_not_more" (spNotMore) [] := by
  refine cal_of T.g__law_not_more T.f__law_not_more sc__law_not_more (fun vs H Q E h => ?_) (fun _ _ _ _ _ _ us hl => match us, hl with | [_, _], _ => rfl) fun cdv A outer s H vs Q E hr h => ?_
  · obtain ⟨a, b, rfl, _⟩ := h
    rfl
  · obtain ⟨a, b, rfl, hq⟩ := h
    refine ⟨_, (pss_one (ps_ret (pe_or (pe_cmp (pc_isN (pv 1))) (pe_one (pe_and (pe_cmp (pc_notN (pv 0))) (pe_one (pe_cmpR op_le (pv 0) (pv 1) (nomark _)))))))), ?_⟩
    cases b with
    | none => exact ⟨_, rfl, true, rfl, iteT (hq _ (Ex.rfl' _))⟩
    | some j =>
      cases a with
      | none => exact ⟨_, rfl, false, rfl, iteF ⟨_, rfl, false, rfl, iteF (hq _ (Ex.rfl' _))⟩⟩
      | some i => exact ⟨_, rfl, false, rfl, iteF ⟨_, rfl, true, rfl, iteT ⟨_, rfl, _, rfl, _, _, rfl, rfl, hq _ (Ex.rfl' _)⟩⟩⟩

/-! ### _law_made -/
abbrev s__law_made : Stmt := top 87
abbrev N__law_made : List Str := ["_law_rules"]
theorem sc__law_made : FnScope N__law_made ["_law_rules"] (defScope s__law_made) := ⟨rfl, rfl, rfl, by decide +kernel, rfl, by decide +kernel, by decide +kernel⟩
def spLawMade (K : PySem.W.Frag) : Sp := fun vs H Q _ => ∃ (t : Addr) (u : Wh), vs = [.ref t] ∧ SqT K H t (.int 4 :: rulesV u) ∧ WOk u ∧ RetW K u H Q
theorem cal__law_made (T : Tx K mg) : C8.Cal P w K mg base 5 "_law_made" (spLawMade K) [] := by
  refine cal_of T.g__law_made T.f__law_made sc__law_made (fun vs H Q E h => ?_) (fun _ _ _ _ _ _ us hl => match us, hl with | [_], _ => rfl) fun cdv A outer s H vs Q E hr h => ?_
  · obtain ⟨t, u, rfl, _⟩ := h
    rfl
  · obtain ⟨t, u, rfl, ht, ok, hq⟩ := h
    refine ⟨_, (pss_one (ps_ret (pe_wheel (P := P) (w := w) (K := K) (mg := mg) (base := base) rfl rfl rfl rfl rfl T hr (by decide) rfl (pa_cons (pe_ix ix_tup (pv 0) pe_int (fun _ _ => rfl)) pa_nil) (pk_cons (pe_ix ix_tup (pv 0) pe_int (fun _ _ => rfl)) (pk_cons (pe_ix ix_tup (pv 0) pe_int (fun _ _ => rfl)) (pk_cons (pe_ix ix_tup (pv 0) pe_int (fun _ _ => rfl)) (pk_cons (pe_ix ix_tup (pv 0) pe_int (fun _ _ => rfl)) pk_nil))))))), ?_⟩
    refine ⟨_, rfl, t, _, 0, _, rfl, rfl, ht, rfl, _, rfl, t, _, 1, _, rfl, rfl, ht, rfl, _, rfl, t, _, 2, _, rfl, rfl, ht, rfl, _, rfl, t, _, 3, _, rfl, rfl, ht, rfl, _, rfl, t, _, 4, _, rfl, rfl, ht, rfl, rfl, rfl, fun x dx h1 h2 hne => ?_⟩
    refine ⟨x, dx, u, rfl, upd_same, ok, fun H1 e1 => ⟨rfl, hq _ _ ?_ ⟨x, dx, rfl, upd_same⟩⟩⟩
    exact Evl.Ex.mut ((ex_make h1 h2 hne).tr e1) h1

/-! ### _law_small -/
abbrev s__law_small : Stmt := top 86
abbrev N__law_small : List Str := ["_law_script", "_law_at", "_law_seed", "_law_limit", "_law_ripe", "_law_held"]
theorem sc__law_small : FnScope N__law_small ["_law_script", "_law_at"] (defScope s__law_small) := ⟨rfl, rfl, rfl, by decide +kernel, rfl, by decide +kernel, by decide +kernel⟩
theorem atI_mod (l : List V) (n : Int) (hn : (l.length : Int) = n) (h0 : 0 < n) (s : Int) : ∃ v, atI l (s % n) = some v ∧ v ∈ l := by
  have hm := Int.emod_nonneg s (show n ≠ 0 by omega)
  have hm2 := Int.emod_lt_of_pos s h0
  obtain ⟨j, hj⟩ := Int.eq_ofNat_of_zero_le hm
  rw [hj]
  have hj2 : j < l.length := by omega
  exact ⟨l[j], atI_nat (List.getElem?_eq_getElem hj2), List.getElem_mem hj2⟩
def spLawSmall (K : PySem.W.Frag) : Sp := fun vs H Q _ => ∃ (a : Addr) (i : Int) (ns : List Int), vs = [.ref a, .int i] ∧ SqL K H a (ns.map V.int) ∧ 0 ≤ i ∧ i ≤ 100 ∧ ∀ p u H', Ex H H' → WOk u → H' p = some (.tup (.int 4 :: rulesV u)) → Q (.ref p) H'
theorem cal__law_small (T : Tx K mg) : C8.Cal P w K mg base 2 "_law_small" (spLawSmall K) [] := by
  refine cal_of T.g__law_small T.f__law_small sc__law_small (fun vs H Q E h => ?_) (fun _ _ _ _ _ _ us hl => match us, hl with | [_, _], _ => rfl) fun cdv A outer s H vs Q E hr h => ?_
  · obtain ⟨a, i, ns, rfl, _⟩ := h
    rfl
  · obtain ⟨a, i, ns, rfl, hs, h0, h1, hq⟩ := h
    refine ⟨_, (pss_cons (ps_set (i := 2) sc__law_small.nd rfl (Or.inl rfl) (pe_callTy call_int1 rfl T.n_int (by decide +kernel) (pa_cons (C8.pe_c (cal__law_number T) hr (by decide) rfl (pa_cons (pv 0) (pa_cons (pv 1) pa_nil))) pa_nil)))
      (pss_cons (ps_set (i := 3) sc__law_small.nd rfl (Or.inl rfl) (pe_ix ix_tup (pe_tup (pa_cons pe_int (pa_cons pe_int (pa_cons pe_int (pa_cons pe_non (pa_cons pe_int pa_nil)))))) (pe_op op_mod (pe_callTy call_int1 rfl T.n_int (by decide +kernel) (pa_cons (pv 2) pa_nil)) pe_int) (fun _ _ => rfl)))
      (pss_cons (ps_par (i := 4) (j := 5) rfl sc__law_small.nd rfl rfl (by decide) rfl rfl (pa_cons (pe_ix ix_tup (pe_tup (pa_cons pe_int (pa_cons pe_int (pa_cons pe_int (pa_cons pe_int pa_nil))))) (pe_op op_mod (pe_callTy call_int1 rfl T.n_int (by decide +kernel) (pa_cons (pe_op op_fdiv (pv 2) pe_int) pa_nil)) pe_int) (fun _ _ => rfl)) (pa_cons (pe_ix ix_tup (pe_tup (pa_cons pe_str (pa_cons pe_str pa_nil))) (pe_op op_mod (pe_callTy call_int1 rfl T.n_int (by decide +kernel) (pa_cons (pe_op op_fdiv (pv 2) pe_int) pa_nil)) pe_int) (fun _ _ => rfl)) pa_nil)) rfl)
      (pss_one (ps_ret (pe_tup (pa_cons pe_int (pa_cons (pv 4) (pa_cons (pv 3) (pa_cons (pv 5) (pa_cons (pe_ix ix_tup (pe_tup (pa_cons pe_non (pa_cons pe_int (pa_cons pe_int (pa_cons pe_int (pa_cons pe_int pa_nil)))))) (pe_op op_mod (pe_callTy call_int1 rfl T.n_int (by decide +kernel) (pa_cons (pe_op op_fdiv (pv 2) pe_int) pa_nil)) pe_int) (fun _ _ => rfl)) pa_nil))))))))))), ?_⟩
    refine ⟨_, rfl, _, rfl, a, i, ns, rfl, hs, h0, h1, fun n H1 e1 => .inl ⟨n, rfl, ?_⟩⟩
    obtain ⟨v1, hv1, m1⟩ := atI_mod [V.int 2, V.int 1, V.int 3, V.non, V.int 4] 5 rfl (by decide) n
    refine ⟨by show 5 ≤ sizeLine; decide, fun p1 hp1 => ⟨_, rfl, .inl ⟨_, rfl, _, _, rfl, rfl, (by show (0 : Int) < _; decide), p1, _, _, v1, rfl, rfl, sqt_new, hv1, ?_⟩⟩⟩
    obtain ⟨v2, hv2, m2⟩ := atI_mod [V.int 1, V.int 0, V.int 2, V.int 1] 4 rfl (by decide) (n / 5)
    refine ⟨by show 4 ≤ sizeLine; decide, fun p2 hp2 => ⟨_, rfl, _, _, rfl, rfl, ⟨by decide, by decide⟩, .inl ⟨_, rfl, _, _, rfl, rfl, (by show (0 : Int) < _; decide), p2, _, _, v2, rfl, rfl, sqt_new, hv2, ?_⟩⟩⟩
    obtain ⟨v3, hv3, m3⟩ := atI_mod [V.str "yes", V.str "no"] 2 rfl (by decide) (n / 20)
    refine ⟨by show 2 ≤ sizeLine; decide, fun p3 hp3 => ⟨_, rfl, _, _, rfl, rfl, ⟨by decide, by decide⟩, .inl ⟨_, rfl, _, _, rfl, rfl, (by show (0 : Int) < _; decide), p3, _, _, v3, rfl, rfl, sqt_new, hv3, _, _, rfl, ?_⟩⟩⟩
    obtain ⟨v4, hv4, m4⟩ := atI_mod [V.non, V.int 1, V.int 2, V.int 3, V.int 4] 5 rfl (by decide) (n / 40)
    refine ⟨_, rfl, _, rfl, _, rfl, by show 5 ≤ sizeLine; decide, fun p4 hp4 => ⟨_, rfl, _, _, rfl, rfl, ⟨by decide, by decide⟩, .inl ⟨_, rfl, _, _, rfl, rfl, (by show (0 : Int) < _; decide), p4, _, _, v4, rfl, rfl, sqt_new, hv4, by show 5 ≤ sizeLine; decide, fun p5 hp5 => ?_⟩⟩⟩
    obtain ⟨o1, e1', k1⟩ : ∃ o, v1 = optV o ∧ LimOk o := by
      simp at m1
      rcases m1 with rfl | rfl | rfl | rfl | rfl
      · exact ⟨some 2, rfl, by decide, by decide⟩
      · exact ⟨some 1, rfl, by decide, by decide⟩
      · exact ⟨some 3, rfl, by decide, by decide⟩
      · exact ⟨none, rfl, trivial⟩
      · exact ⟨some 4, rfl, by decide, by decide⟩
    obtain ⟨o4, e4', k4⟩ : ∃ o, v4 = optV o ∧ LimOk o := by
      simp at m4
      rcases m4 with rfl | rfl | rfl | rfl | rfl
      · exact ⟨none, rfl, trivial⟩
      · exact ⟨some 1, rfl, by decide, by decide⟩
      · exact ⟨some 2, rfl, by decide, by decide⟩
      · exact ⟨some 3, rfl, by decide, by decide⟩
      · exact ⟨some 4, rfl, by decide, by decide⟩
    obtain ⟨f, e2', k2⟩ : ∃ f : Int, v2 = .int f ∧ 0 ≤ f ∧ f ≤ 2 := by
      simp at m2
      rcases m2 with rfl | rfl | rfl | rfl
      · exact ⟨1, rfl, by decide, by decide⟩
      · exact ⟨0, rfl, by decide, by decide⟩
      · exact ⟨2, rfl, by decide, by decide⟩
      · exact ⟨1, rfl, by decide, by decide⟩
    obtain ⟨b, e3'⟩ : ∃ b : Bool, v3 = .str (holdS b) := by
      simp at m3
      rcases m3 with rfl | rfl
      · exact ⟨true, rfl⟩
      · exact ⟨false, rfl⟩
    subst e1' e2' e3' e4'
    exact hq p5 ⟨f, o1, b, o4⟩ _ (((((e1.nx hp1).nx hp2).nx hp3).nx hp4).nx hp5) ⟨k2, k1, k4⟩ upd_same
end
end LapW
set_option Elab.async false
set_option linter.all false
set_option maxRecDepth 100000
set_option maxHeartbeats 4000000
namespace LapW
open PySem PySem.Spec PyProof.Rows L2 Lap

section
variable {P : Program} {w : World} {K : PySem.W.Frag} {mg : Str → Option Value} {base : Heap}
/-! ### _law_history_right -/
abbrev s__law_history_right : Stmt := top 90
abbrev N__law_history_right : List Str := ["_law_wheel", "_law_wish", "_law_found", "_law_rows", "_law_some", "_law_one"]
theorem sc__law_history_right : FnScope N__law_history_right ["_law_wheel"] (defScope s__law_history_right) := ⟨rfl, rfl, rfl, by decide +kernel, rfl, by decide +kernel, by decide +kernel⟩
theorem paired_last {α β : Type} {R : α → β → Prop} {x : β} : ∀ {ps : List α} {ini : List β}, Paired R ps (ini ++ [x]) → ∃ ps0 q, ps = ps0 ++ [q] ∧ Paired R ps0 ini ∧ R q x
  | [], ini, h => by
    have := Paired.length h
    rw [List.length_append] at this
    cases this
  | q :: ps, [], h => by
    cases h with
    | cons h t =>
      cases t
      exact ⟨[], q, rfl, .nil, h⟩
  | p :: ps, y :: ini, h => by
    cases h with
    | cons h t =>
      obtain ⟨ps0, q, e, h1, h2⟩ := paired_last t
      exact ⟨p :: ps0, q, by rw [e]; rfl, .cons h h1, h2⟩
theorem paired_at2 {α β : Type} {R : α → β → Prop} : ∀ {as : List α} {bs : List β} {i : Nat} {a : α} {b : β}, Paired R as bs → as[i]? = some a → bs[i]? = some b → R a b
  | _, _, 0, _, _, .cons h _, h1, h2 => by cases h1; cases h2; exact h
  | _, _, i + 1, _, _, .cons _ t, h1, h2 => paired_at2 t h1 h2
  | _, _, _, _, _, .nil, h1, _ => by cases h1
theorem dta_last {K : PySem.W.Frag} {H : Hp} {d : PyData} : ∀ {xs : List V} {ds : List PyData}, DtAll K H xs (ds ++ [d]) → ∃ xs0 y, xs = xs0 ++ [y] ∧ DtAll K H xs0 ds ∧ Dt K H y d
  | [], ds, h => by
    have := dpa_len h
    rw [List.length_append] at this
    cases this
  | x :: xs, [], h => by
    cases h with
    | cons h t =>
      cases t
      exact ⟨[], x, rfl, .nil, h⟩
  | x :: xs, _ :: ds, h => by
    cases h with
    | cons h t =>
      obtain ⟨xs0, y, e, h1, h2⟩ := dta_last t
      exact ⟨x :: xs0, y, by rw [e]; rfl, .cons h h1, h2⟩
theorem cut_init (ps : List Addr) (q : Addr) : cutV (ps.map V.ref ++ [V.ref q]) none (some (-1)) = ps.map V.ref := by
  unfold cutV
  rw [HT.sIx_none, List.drop_zero, Nat.sub_zero, show HT.sIx (ps.map V.ref ++ [V.ref q]).length (ps.map V.ref ++ [V.ref q]).length (some (-1)) = (ps.map V.ref).length from ?_, List.take_left]
  rw [List.length_append]
  show (if (-1 : Int) < 0 then ((-1 : Int) + (((ps.map V.ref).length + 1 : Nat) : Int)).toNat else min (-1 : Int).toNat ((ps.map V.ref).length + 1)) = _
  rw [if_pos (by decide)]
  omega
theorem cut_two (xs : List V) (a b : V) : cutV (xs ++ [a, b]) (some (-2)) none = [a, b] := by
  unfold cutV
  have h : HT.sIx (xs ++ [a, b]).length 0 (some (-2)) = xs.length := by
    rw [List.length_append]
    show (if (-2 : Int) < 0 then ((-2 : Int) + ((xs.length + 2 : Nat) : Int)).toNat else min (-2 : Int).toNat (xs.length + 2)) = _
    rw [if_pos (by decide)]
    omega
  rw [h, HT.sIx_none, List.drop_left, List.length_append]
  exact List.take_of_length_le (by show 2 ≤ xs.length + 2 - xs.length; omega)
theorem eqv_sight (a b : Option Bool × Bool) : PyData.eqv (sightD a) (sightD b) = decide (a = b) := by
  rcases a with ⟨_ | a1, a2⟩ <;> rcases b with ⟨_ | b1, b2⟩
  · cases a2 <;> cases b2 <;> rfl
  · cases a2 <;> cases b2 <;> cases b1 <;> rfl
  · cases a2 <;> cases b2 <;> cases a1 <;> rfl
  · cases a2 <;> cases b2 <;> cases a1 <;> cases b1 <;> rfl
theorem shaped_sight (a : Option Bool × Bool) : SeqAt.shaped (sightD a) = true := by
  rcases a with ⟨_ | a1, a2⟩ <;> rfl
/-- the last row, and the one ahead of it (or itself, where it is the only one) -/
theorem early_rows {K : PySem.W.Frag} {H : Hp} {u : Wh} {xs : List V} {h p : List Deed} (ok : WOk u) (hh : h = p ++ [.pass]) (hne : Lap.sights (done u (endOf u START p) .pass) ≠ Lap.sights (endOf u START p)) (dl : DtAll K H xs ((walk u START h).map stD)) :
    ∃ (y : V) (s0 : Lap.St) (v0 : V), atI xs (-1) = some y ∧ SOk (endOf u START h) ∧ SOk s0 ∧ Dt K H v0 (stD s0) ∧ Dt K H y (stD (endOf u START h)) ∧ atI (cutV xs (some (-2)) none ++ xs) 0 = some v0 ∧ (Lap.sights (endOf u START h) = Lap.sights s0 → xs.length ≤ 1) := by
  have hend : endOf u START h = done u (endOf u START p) .pass := by rw [hh, endOf_app]; rfl
  have hso : SOk (endOf u START h) := sok_end ok _ _ sok_start
  rw [hh, walk_last, List.map_append, ← hend] at dl
  obtain ⟨xs0, y, rfl, dl0, dy⟩ := dta_last dl
  rcases List.eq_nil_or_concat p with hp | ⟨p', d', hp⟩
  · subst hp
    have hx0 : xs0 = [] := by
      have := dpa_len dl0
      exact List.length_eq_zero_iff.mp this
    subst hx0
    exact ⟨y, _, y, atI_last [] y, hso, hso, dy, dy, rfl, fun _ => Nat.le_refl _⟩
  · rw [List.concat_eq_append] at hp
    have he2 : done u (endOf u START p') d' = endOf u START p := by rw [hp, endOf_app]; rfl
    rw [hp, walk_last, List.map_append, he2] at dl0
    obtain ⟨xs1, y1, rfl, dl1, dy1⟩ := dta_last dl0
    refine ⟨y, endOf u START p, y1, atI_last _ y, hso, sok_end ok _ _ sok_start, dy1, dy, ?_, fun z => absurd (by rw [← hend]; exact z) hne⟩
    rw [List.append_assoc]
    show atI (cutV (xs1 ++ [y1, y]) (some (-2)) none ++ (xs1 ++ [y1, y])) 0 = some y1
    rw [cut_two]
    exact atI_nat (j := 0) rfl
def spLawHistory (K : PySem.W.Frag) : Sp := fun vs H Q _ => ∃ (v : V) (u : Wh), vs = [v] ∧ WhAt K H v u ∧ WOk u ∧ RetB true H Q
theorem cal__law_history_right (T : Tx K mg) : C8.Cal P w K mg base 9 "_law_history_right" (spLawHistory K) [] := by
  refine cal_of T.g__law_history_right T.f__law_history_right sc__law_history_right (fun vs H Q E h => ?_) (fun _ _ _ _ _ _ us hl => match us, hl with | [_], _ => rfl) fun cdv A outer s H vs Q E hr h => ?_
  · obtain ⟨v, u, rfl, _⟩ := h
    rfl
  · obtain ⟨v, u, rfl, hx, ok, hq⟩ := h
    have hu := hu_of hr
    have hu64 := Room.units hr
    refine ⟨_, (pss_cons (ps_for PassesOwn.never rfl (pi_tup (pe_tup (pa_cons pe_str (pa_cons pe_str (pa_cons pe_str (pa_cons pe_str pa_nil)))))) (pg_name (i := 1) sc__law_history_right.nd rfl (Or.inr rfl))
        (pss_cons (ps_set (i := 2) sc__law_history_right.nd rfl (Or.inl rfl) (C8.pe_c (cal_judge T) hr (by decide) rfl (pa_cons (pv 0) (pa_cons (pv 1) pa_nil))))
        (pss_one (ps_if (pt_val (pe_callB call_isi rfl T.n_isinstance (by decide +kernel) (pa_cons (pv 2) (pa_cons (C8.pe_gc rfl T.c_Broken) pa_nil)))) (pss_cons (ps_par (i := 3) (j := 4) rfl sc__law_history_right.nd rfl rfl (by decide) rfl rfl (pa_cons (C8.pe_c (cal_told T) hr (by decide) rfl (pa_cons (pv 0) (pa_cons (pe_of T.cl_Broken T.n_Broken_history (pv 2)) pa_nil))) (pa_cons (C8.pe_c (cal_broken_by T) hr (by decide) rfl (pa_cons (pv 0) (pa_cons (pe_of T.cl_Broken T.n_Broken_history (pv 2)) pa_nil))) pa_nil)) rfl)
          (pss_cons (ps_if (PW.pt (pw_or (pt_cmpR op_ne (pe_callB call_len_seq rfl T.n_len (by decide +kernel) (pa_cons (pv 3) pa_nil)) (pe_callB call_len_seq rfl T.n_len (by decide +kernel) (pa_cons (pe_of T.cl_Broken T.n_Broken_history (pv 2)) pa_nil)) (nomark _)) (pw_or (pt_cmpR op_notIn_seq (pv 1) (pe_ix ix_list (pv 4) (pe_un un_neg pe_int) (fun _ _ => rfl)) rfl) (pw_or1 (pt_cmpR op_lt (pe_callB call_len_seq rfl T.n_len (by decide +kernel) (pa_cons (pv 3) pa_nil)) (C8.pe_c (cal_soonest T) hr (by decide) rfl (pa_cons (pv 0) (pa_cons (pv 1) pa_nil))) (nomark _)))))) (pss_one (ps_ret pe_bl)) pss_nil)
          (pss_cons (ps_if (PW.pt (pw_and (pt_cmpR op_eq (pe_callB call_len_seq rfl T.n_len (by decide +kernel) (pa_cons (pv 3) pa_nil)) (C8.pe_c (cal_soonest T) hr (by decide) rfl (pa_cons (pv 0) (pa_cons (pv 1) pa_nil))) (nomark _)) (pw_and1 (pt_val (pe_callB (cr_any rfl) rfl T.n_any (by decide +kernel) (pa_cons (pe_lc (own := [("_law_one", 5)]) (g := (gName 5)) (tt := tYes) rfl sc__law_history_right.nd (pi_list (pe_slice sl_list (pv 4) po_none (po_some (pe_un un_neg pe_int)))) (blkOk_by (N := N__law_history_right) (sc := defScope s__law_history_right) (by decide +kernel)) (fun _ _ _ _ _ => (pg_name (i := 5) sc__law_history_right.nd rfl (Or.inl rfl))) (fun _ _ _ _ _ => pts_nil) (fun _ _ _ _ _ => (pe_cmpR (op_in_seqK (K := K) rfl) (pv 1) (pv 5) rfl))) pa_nil)))))) (pss_one (ps_ret pe_bl)) pss_nil)
          (pss_one (ps_if (PW.pt (pw_and (pt_cmpR op_eq (pv 1) pe_str (nomark _)) (pw_and (pt_cmpR (op_eqD hu64) (C8.pe_c (cal_sights T) hr (by decide) rfl (pa_cons (pv 0) (pa_cons (pe_ix ix_list (pv 3) (pe_un un_neg pe_int) (fun _ _ => rfl)) pa_nil))) (C8.pe_c (cal_sights T) hr (by decide) rfl (pa_cons (pv 0) (pa_cons (pe_ix ix_list (pe_op op_cat (pe_slice sl_list (pv 3) (po_some (pe_un un_neg pe_int)) po_none) (pv 3)) pe_int (fun _ _ => rfl)) pa_nil))) (nomark _)) (pw_and1 (pt_cmpR op_gt (pe_callB call_len_seq rfl T.n_len (by decide +kernel) (pa_cons (pv 3) pa_nil)) pe_int (nomark _)))))) (pss_one (ps_ret pe_bl)) pss_nil))))) pss_nil))))
      (pss_one (ps_ret pe_bl))), ?_⟩
    refine ⟨by show 4 ≤ sizeLine; decide, fun t0 ht0 => ⟨t0, rfl, ⟨_, sqt_new⟩, ?_⟩⟩
    have e0 : Ex H (upd H t0 (.tup (Lap.WISHES.map fun k => V.str (wishS k)))) := Ex.nw ht0
    refine for_tup (xs := Lap.WISHES.map fun k => V.str (wishS k)) (fun i σ' H' => ∃ o1 o2 o3 o4 o5, σ' = [some v, o1, o2, o3, o4, o5] ∧ Ex (upd H t0 (.tup (Lap.WISHES.map fun k => V.str (wishS k)))) H') ⟨_, _, _, _, _, rfl, Ex.rfl' _⟩ ?_ ?_ ?_
    · rintro i σ' H' _ ⟨o1, o2, o3, o4, o5, _, e⟩
      exact e.t sqt_new
    · rintro i y σ' H1 hi ⟨o1, o2, o3, o4, o5, rfl, e⟩
      obtain ⟨k, hk, ey⟩ : ∃ k, Lap.WISHES[i]? = some k ∧ V.str (wishS k) = y := by
        rw [List.getElem?_map] at hi
        obtain ⟨k, h1, h2⟩ := Option.map_eq_some_iff.mp hi
        exact ⟨k, h1, h2⟩
      subst ey
      have hx1 := e.wh (e0.wh hx)
      refine ⟨_, rfl, _, rfl, v, u, k, rfl, hx1, ok, fun hb z H2 e2 hz => ?_, fun h hb z H2 e2 hz => ?_⟩
      · obtain ⟨b, dx2, l, zs, rfl, hb2, hl, _⟩ := hz
        exact ⟨_, rfl, _, _, _, _, false, rfl, .own _, T.ins_Safe hb2, T.k_Safe_Broken, false, rfl, iteF ⟨_, _, _, _, _, rfl, e.tr e2⟩⟩
      · obtain ⟨b, dx2, t2, rfl, hb2, ht2⟩ := hz
        refine ⟨_, rfl, _, _, _, _, true, rfl, .own _, T.ins_Broken hb2, T.k_Broken_Broken, true, rfl, iteT ?_⟩
        have hT := told_of ok hb
        obtain ⟨ini, x, hby, hkx, hini⟩ := hT.split
        have hshort := brk_short hb
        have hlenI : h.length = ini.length + 1 := by
          rw [← byList_len u START h, hby, List.length_append]
          rfl
        refine ⟨_, rfl, _, rfl, b, dx2, _, _, rfl, hb2, rfl, v, t2, u, h, rfl, e2.wh hx1, ht2, ok, hT.can, by omega, fun p xs H3 hp e3 hl3 dl3 => ?_⟩
        refine ⟨_, rfl, _, rfl, b, dx2, _, _, rfl, e3 _ _ hb2, rfl, v, t2, u, h, rfl, (e2.tr e3).wh hx1, e3.t ht2, ok, hT.can, by omega, fun p2 ps H4 hp2 e4 hl4 pr4 => ⟨_, _, rfl, ?_⟩⟩
        have lx : xs.length = h.length := by rw [dpa_len dl3, List.length_map, walk_len]
        rw [hby] at pr4
        obtain ⟨ps0, q, rfl, pr0, hqx⟩ := paired_last pr4
        have hl4b : H4 p = some (.lst xs) := e4 _ _ hl3
        have hb4 : H4 b = _ := e4 _ _ (e3 _ _ hb2)
        have ht4 := e4.t (e3.t ht2)
        have wh4 : WhAt K H4 v u := ((e2.tr e3).tr e4).wh hx1
        have hsoon : natV (soon u k) = V.int (xs.length : Nat) := by
          unfold soon
          rw [hb, lx]
          rfl
        have hpsm : (List.map V.ref (ps0 ++ [q])) = ps0.map V.ref ++ [V.ref q] := List.map_append
        rw [hpsm] at hl4
        refine ⟨_, rfl, p, _, rfl, .inl (SqL.of hl4b), _, rfl, b, dx2, _, _, rfl, hb4, rfl, t2, _, rfl, .inr ht4, rfl, false, by rw [List.length_map, lx]; simp, iteF ?_⟩
        refine ⟨_, rfl, _, rfl, _, rfl, p2, _, _, _, rfl, rfl, SqL.of hl4, atI_last _ _, q, _, rfl, .inl (SqL.of hqx), rfl, by rw [List.all_map]; exact List.all_eq_true.mpr fun _ _ => rfl, false, ?_, iteF ?_⟩
        · show V.bl (!inV (V.str (wishS k)) (x.map fun k => V.str (wishS k))) = _
          rw [in_wishes, decide_eq_true hkx]
          rfl
        refine ⟨_, rfl, p, _, rfl, .inl (SqL.of hl4b), _, rfl, _, rfl, v, u, k, rfl, wh4, ok, fun H5 e5 => ?_⟩
        rw [hsoon]
        refine ⟨_, _, rfl, rfl, false, by simp, iteF ?_⟩
        refine ⟨_, rfl, p, _, rfl, .inl (SqL.of (e5 _ _ hl4b)), _, rfl, _, rfl, v, u, k, rfl, e5.wh wh4, ok, fun H6 e6 => ?_⟩
        rw [hsoon]
        refine ⟨rfl, true, by simp, iteT ?_⟩
        have hl6 := (e5.tr e6) _ _ hl4
        have lps : ps0.length = ini.length := Paired.length pr0
        refine ⟨_, rfl, _, rfl, _, rfl, p2, _, rfl, SqL.of hl6, ?_⟩
        rw [cut_init]
        refine fun l7 hl7 => ⟨l7, rfl, ⟨_, SqL.of upd_same⟩, fun D hD => ?_⟩
        refine lc_listD (K := K) (items := ini) (p := fun _ => true) (m := fun y => .bool (decide (k ∈ y))) (SqL.of upd_same) (by rw [List.length_map, lps]) (by rw [List.length_map]; omega) hD (fun i2 x' y H' hi2 hq2 e' Qn Qy n1 n2 => ?_) fun H7 ys e7 hD7 dy => ?_
        · rw [List.getElem?_map] at hi2
          obtain ⟨q2, hq3, rfl⟩ := Option.map_eq_some_iff.mp hi2
          have hy2 := paired_at2 pr0 hq3 hq2
          have hy3 := e' _ _ ((Ex.nw hl7) _ _ ((e5.tr e6) _ _ hy2))
          refine ⟨rfl, iteT (B := True) ⟨_, rfl, _, rfl, q2, _, rfl, .inl (SqL.of hy3), rfl, by rw [List.all_map]; exact List.all_eq_true.mpr fun _ _ => rfl, ?_⟩⟩
          show Qy (V.bl (inV (V.str (wishS k)) (y.map fun k => V.str (wishS k)))) H'
          rw [in_wishes]
          exact n2 rfl _ _ (Ex.rfl' _) (.bl _)
        · have hf : ini.filter (fun _ => true) = ini := List.filter_eq_self.mpr fun _ _ => rfl
          rw [hf] at dy
          have dyb : DtAll K H7 ys ((ini.map fun y => decide (k ∈ y)).map PyData.bool) := by rw [List.map_map]; exact dy
          have ey := dta_bl dyb
          subst ey
          have hno : (ini.map fun y => decide (k ∈ y)).any id = false := by
            rw [List.any_map, List.any_eq_false]
            intro y hy z
            exact hini y hy (of_decide_eq_true z)
          refine ⟨D, _, rfl, SqL.of hD7, false, by rw [hno], iteF ?_⟩
          have e67 : Ex H6 H7 := (Ex.nw hl7).tr e7
          have e47 : Ex H4 H7 := (e5.tr e6).tr e67
          have fin : ∃ o1 o2 o3 o4 o5, [some v, some (V.str (wishS k)), some (V.ref b), some (V.ref p), some (V.ref p2), none] = [some v, o1, o2, o3, o4, o5] := ⟨_, _, _, _, _, rfl⟩
          by_cases hke : k = .early
          · subst hke
            obtain ⟨pp, hh, hne⟩ := hT.early rfl
            obtain ⟨y, s0, v0, xlast, hlastS, hs0, d0, dlast, hv0, hone⟩ := early_rows (K := K) (H := H3) (u := u) ok hh hne dl3
            refine ⟨_, rfl, rfl, true, rfl, iteT ⟨_, rfl, _, rfl, _, rfl, p, _, _, _, rfl, rfl, SqL.of (e47 _ _ hl4b), xlast, v, y, u, _, rfl, e47.wh wh4, e47.d (e4.d dlast), hlastS, fun z1 H8 e8 dz1 => ?_⟩⟩
            refine ⟨_, rfl, _, rfl, _, rfl, _, rfl, p, _, rfl, SqL.of ((e47.tr e8) _ _ hl4b), fun l9 hl9 => ?_⟩
            have hp9 : upd H8 l9 (.lst (cutV xs (some (-2)) none)) p = some (.lst xs) := (Ex.nw hl9) _ _ ((e47.tr e8) _ _ hl4b)
            have lcut := cutV_length xs (some (-2)) none
            refine ⟨_, rfl, l9, p, _, _, rfl, rfl, upd_same, hp9, by rw [sizeLine_eq]; omega, fun l10 hl10 => ⟨l10, _, 0, _, rfl, rfl, SqL.of upd_same, hv0, ?_⟩⟩
            have e810 : Ex H8 (upd (upd H8 l9 (.lst (cutV xs (some (-2)) none))) l10 (.lst (cutV xs (some (-2)) none ++ xs))) := (Ex.nw hl9).nx hl10
            refine ⟨v, v0, u, s0, rfl, ((e47.tr e8).tr e810).wh wh4, ((e47.tr e8).tr e810).d (e4.d d0), hs0, fun z2 H9 e9 dz2 => ?_⟩
            refine ⟨_, _, ((e810.tr e9).d dz1).dp, dz2.dp, shaped_sight _, shaped_sight _, decide (Lap.sights (endOf u START h) = Lap.sights s0), by rw [eqv_sight], ?_⟩
            by_cases hs : Lap.sights (endOf u START h) = Lap.sights s0
            · rw [decide_eq_true hs]
              refine iteT ⟨_, rfl, p, _, rfl, .inl (SqL.of (((e47.tr e8).tr (e810.tr e9)) _ _ hl4b)), _, _, rfl, rfl, false, ?_, iteF ?_⟩
              · have := hone hs
                show V.bl (decide ((1 : Int) < (xs.length : Int))) = _
                rw [decide_eq_false (by omega)]
              · exact ⟨_, _, _, _, _, rfl, (((e.tr e2).tr e3).tr e4).tr ((e47.tr e8).tr (e810.tr e9))⟩
            · rw [decide_eq_false hs]
              exact iteF ⟨_, _, _, _, _, rfl, (((e.tr e2).tr e3).tr e4).tr ((e47.tr e8).tr (e810.tr e9))⟩
          · exact ⟨_, rfl, rfl, false, wne hke, iteF ⟨_, _, _, _, _, rfl, (((e.tr e2).tr e3).tr e4).tr e47⟩⟩
    · rintro σ' H1 ⟨o1, o2, o3, o4, o5, rfl, e⟩
      exact hq _ (e0.tr e)
end
end LapW
set_option Elab.async false
set_option linter.all false
set_option maxRecDepth 100000
set_option maxHeartbeats 4000000
/-! set(xs), sorted(set) of texts. -/
namespace LapS
open PySem PySem.Spec PyProof.Rows L2
def keyT (e : Int × Value) : Str := match e.2 with | .str k _ => k | _ => Str.empty
def GoodT (w : World) (e : Int × Value) : Prop := ∃ k tk, e.2 = Value.str k tk ∧ e.1 = hashStr w k
/-- the set of texts at a -/
def TxR (w : World) (h : Heap) (a : Addr) (S : Str → Bool) (n : Nat) : Prop :=
  ∃ o es ep t, h.get? a = some o ∧ o.ExactSet ∧ o.data = .set es ep t ∧ (∀ e ∈ es.toList, GoodT w e) ∧ (es.toList.map keyT).Nodup ∧ (∀ k, S k = true ↔ k ∈ es.toList.map keyT) ∧
    es.size < scanBound ∧ t.fits es.size = true ∧ es.size = n ∧ Ris t.place.toList ∧ (w.params.followText "set-order" = true ∨ t.led = true)
section
variable {P : Program} {w : World} {h h' : Heap} {a : Addr} {S : Str → Bool} {n : Nat}
theorem TxR.at (R : TxR w h a S n) (k : ∀ o, h.get? a = some o → h'.get? a = some o) : TxR w h' a S n := by
  obtain ⟨o, es, ep, t, ho, r⟩ := R
  exact ⟨o, es, ep, t, k o ho, r⟩
theorem TxR.congr {S' : Str → Bool} (R : TxR w h a S n) (e : ∀ k, S' k = S k) : TxR w h a S' n := by
  have q : S' = S := funext e
  rw [q]; exact R
theorem is_tx (k0 k : Str) (u : Tok) : (PySem.strKind P w).is k (.str k0 u) = true ↔ k0 = k := by
  show Value.isStrOf k (.str k0 u) = true ↔ _
  simp [Value.isStrOf]
theorem tx_elems {l : List (Int × Value)} (g : ∀ e ∈ l, GoodT w e) : ElemsOf (PySem.strKind P w) l := fun e he => by
  obtain ⟨k, tk, h1, h2⟩ := g e he
  exact ⟨⟨k, by rw [h1]; exact (is_tx k k tk).2 rfl, h2⟩, by rw [h1] <;> rfl⟩
theorem tx_is {e : Int × Value} (g : GoodT w e) (k : Str) : (PySem.strKind P w).is k e.2 = true ↔ keyT e = k := by
  obtain ⟨k0, tk, h1, _⟩ := g
  unfold keyT
  rw [h1]
  exact is_tx k0 k tk
theorem tx_mem {l : List (Int × Value)} (g : ∀ e ∈ l, GoodT w e) (k : Str) : k ∈ l.map keyT ↔ ∃ e ∈ l, (PySem.strKind P w).is k e.2 = true := by
  rw [List.mem_map]
  constructor
  · rintro ⟨e, he, q⟩
    exact ⟨e, he, (tx_is (g e he) k).2 q⟩
  · rintro ⟨e, he, q⟩
    exact ⟨e, he, (tx_is (g e he) k).1 q⟩
end
section
variable {P : Program} {w : World} {A : Around} {E : Value → Shared → Prop} {s : Shared} {a : Addr} {S : Str → Bool} {n : Nat}
theorem txR_add_tail {g : Bool → Sem Unit} (hg : ∀ (b : Bool) (s₁ : Shared) (Q' : Unit → Shared → Prop), Q' () s₁ → wpAny (model P w) A (g b) Q' E s₁)
    {o : Obj} {es : Array (Int × Value)} {ep : Nat} {t : SetTable} (ho : s.heap.get? a = some o) (hex : o.ExactSet) (hd : o.data = .set es ep t)
    {es1 : Array (Int × Value)} {t2 : SetTable} {S' : Str → Bool} (g1 : ∀ e ∈ es1.toList, GoodT w e) (nd1 : (es1.toList.map keyT).Nodup) (m1 : ∀ k, S' k = true ↔ k ∈ es1.toList.map keyT)
    (hb1 : es1.size < scanBound) (hf2 : t2.fits es1.size = true) (hr : Ris t2.place.toList) (hl : w.params.followText "set-order" = true ∨ t2.led = true) {wasDummy : Bool} {R : Option Bool → Shared → Prop}
    (hR : ∀ h', Heap.SameBut a s.heap h' → TxR w h' a S' es1.size → R (some true) { s with heap := h' }) :
    wpAny (model P w) A (do
        storeSet a es1 t2
        if (!wasDummy && t2.tooFull) = true then do
            g (relayAll t2 es1 (SetTable.grown es1.size)).2.2
            storeSet a (relayAll t2 es1 (SetTable.grown es1.size)).1 (relayAll t2 es1 (SetTable.grown es1.size)).2.1
            pure (some true)
          else pure (some true)) R E s := by
  refine wpAny_bind (wpAny_storeSet_of ho hd ?_ (fits_of_scanBound hb1))
  have ho1 := store_at (es' := es1) (t' := t2) ho hd
  have sb1 := Heap.SameBut.update s.heap a (Obj.putSet es1 t2)
  split
  · have pm := relayAll_perm t2 es1 (SetTable.grown es1.size)
    have hf3 := relayAll_fits t2 es1 (SetTable.grown es1.size)
    have hr3 := relayAll_ris t2 es1 (SetTable.grown es1.size)
    have hl3 := relayAll_led t2 es1 (SetTable.grown es1.size)
    generalize relayAll t2 es1 (SetTable.grown es1.size) = Z at pm hf3 hr3 hl3 ⊢
    obtain ⟨es2, t3, gave⟩ := Z
    dsimp only at pm hf3 hr3 hl3 ⊢
    have hsz : es2.size = es1.size := by rw [← Array.length_toList, pm.length_eq, Array.length_toList]
    have hb2 : es2.size < scanBound := by rw [hsz]; exact hb1
    refine wpAny_bind (hg _ _ _ ?_)
    refine wpAny_bind (wpAny_storeSet_of ho1 rfl ?_ (fits_of_scanBound hb2))
    have ho2 := store_at (es' := es2) (t' := t3) ho1 rfl
    refine wpAny_pure (hR _ (sb1.trans (Heap.SameBut.update _ a _)) ?_)
    exact ⟨_, es2, _, t3, ho2, hex, rfl, fun e he => g1 e (pm.mem_iff.mp he), (pm.map keyT).nodup_iff.mpr nd1, fun k => (m1 k).trans (pm.map keyT).mem_iff.symm, hb2, hf3, hsz, hr3,
      hl.imp id fun z => by rw [hl3]; exact z⟩
  · exact wpAny_pure (hR _ sb1 ⟨_, es1, _, t2, ho1, hex, rfl, g1, nd1, m1, hb1, hf2, rfl, hr, hl⟩)
theorem txR_add_hashed {k : Str} {tk : Tok} {Q : Bool → Shared → Prop} (R : TxR w s.heap a S n) (room : n + 1 < scanBound)
    (hQ : ∀ h', Heap.SameBut a s.heap h' → TxR w h' a (fun j => S j || decide (j = k)) (if S k = true then n else n + 1) → Q (!S k) { s with heap := h' }) :
    wpAny (model P w) A (setAddHashed a (.str k tk) ((PySem.strKind P w).hash k)) Q E s := by
  obtain ⟨o, es, ep, t, ho, hex, hd, g, nd, hm, hb, hf, hn, hr, hl⟩ := R
  have hkey : (PySem.strKind P w).is k (.str k tk) = true := (is_tx k k tk).2 rfl
  have hsc : (Value.str k tk).scannable = true := rfl
  have hel : ElemsOf (PySem.strKind P w) es.toList := tx_elems g
  unfold setAddHashed setAddHashedIn
  refine wpAny_holding (wpAny_bind (wpAny_setState_of ho hd hf ?_))
  dsimp only
  rw [byScan_of hsc hb hel]
  simp only [↓reduceIte]
  unfold setAddByScan
  refine wpAny_bind ?_
  refine wpAny_bind (wpAny_rule ?_)
  refine wpAny_bind (wpAny_setScan_of hkey ho hd hf hel ?_)
  cases hfi : List.findIdx? (fun e => (PySem.strKind P w).is k e.2) es.toList with
  | some j =>
    dsimp only
    obtain ⟨hj, pj, _⟩ := List.findIdx?_eq_some_iff_getElem.mp hfi
    have hSk : S k = true := (hm k).2 ((tx_mem (P := P) (w := w) g k).2 ⟨es.toList[j], List.getElem_mem hj, pj⟩)
    refine wpAny_pure (wpAny_pure ?_)
    have q := hQ s.heap (Heap.SameBut.refl a s.heap) ⟨o, es, ep, t, ho, hex, hd, g, nd, fun i => by
      rw [Bool.or_eq_true, decide_eq_true_eq, ← hm i]
      exact ⟨fun z => z.elim id (fun e => e ▸ hSk), .inl⟩, hb, hf, by rw [if_pos hSk]; exact hn, hr, hl⟩
    rw [hSk] at q
    exact q
  | none =>
    dsimp only
    have hnk : k ∉ es.toList.map keyT := fun z => by
      obtain ⟨e, he, q⟩ := (tx_mem (P := P) (w := w) g k).1 z
      have c := List.findIdx?_eq_none_iff.mp hfi e he
      rw [q] at c
      cases c
    have hSk : S k = false := by
      cases q : S k with
      | false => rfl
      | true => exact absurd ((hm k).1 q) hnk
    have hgw : ∀ (b : Bool) {s₁ : Shared} {Q' : Unit → Shared → Prop}, Q' () s₁ → wpAny (model P w) A (match b with | true => rule "set.scan.the-table-gave-way" | false => pure ()) Q' E s₁ :=
      fun b s₁ Q' q => by cases b <;> first | exact wpAny_pure q | exact wpAny_rule q
    have pm := layNew_perm t es ((PySem.strKind P w).hash k) (.str k tk)
    have hf1 := layNew_fits t es ((PySem.strKind P w).hash k) (.str k tk)
    have hr1 := layNew_ris t es ((PySem.strKind P w).hash k) (.str k tk) hr
    have hl1 := layNew_led t es ((PySem.strKind P w).hash k) (.str k tk)
    generalize layNew t es ((PySem.strKind P w).hash k) (.str k tk) = Z at pm hf1 hr1 hl1 ⊢
    obtain ⟨es1, t1, wasDummy, gave⟩ := Z
    dsimp only at pm hf1 hr1 hl1 ⊢
    rw [Array.toList_push] at pm
    have pc : es1.toList.Perm (((PySem.strKind P w).hash k, Value.str k tk) :: es.toList) := pm.trans (List.perm_append_singleton _ _)
    have pk : (es1.toList.map keyT).Perm (k :: es.toList.map keyT) := pc.map keyT
    have g1 : ∀ e ∈ es1.toList, GoodT w e := fun e he => by
      rcases List.mem_cons.mp (pc.mem_iff.mp he) with z | z
      · rw [z]; exact ⟨k, tk, rfl, rfl⟩
      · exact g e z
    have nd1 : (es1.toList.map keyT).Nodup := pk.nodup_iff.mpr (List.nodup_cons.mpr ⟨hnk, nd⟩)
    have m1 : ∀ i, (S i || decide (i = k)) = true ↔ i ∈ es1.toList.map keyT := fun i => by
      rw [Bool.or_eq_true, decide_eq_true_eq, hm i, pk.mem_iff, List.mem_cons]
      exact Or.comm
    have hsz : es1.size = n + 1 := by rw [← Array.length_toList, pc.length_eq, List.length_cons, Array.length_toList, hn]
    have hb1 : es1.size < scanBound := by rw [hsz]; exact room
    have hled : w.params.followText "set-order" = true ∨ t1.led = true := hl.imp id fun z => by rw [hl1]; exact z
    have fin : ∀ h', Heap.SameBut a s.heap h' → TxR w h' a (fun j => S j || decide (j = k)) es1.size → Q true { s with heap := h' } := fun h' sb r => by
      have q := hQ h' sb
      rw [hSk] at q
      rw [hsz] at r
      exact q r
    refine wpAny_bind (hgw _ ?_)
    split
    · refine wpAny_bind ?_
      rw [hashByValue_scannable 8 hsc]
      refine wpAny_pure ?_
      refine txR_add_tail ?_ ho hex hd g1 nd1 m1 hb1 ?_ ?_ ?_ ?_
      · intro b s₁ Q' q; cases b <;> first | exact wpAny_pure q | exact wpAny_rule q
      · first | (split <;> first | exact hf1 | exact SetTable.fits_plain_off hf1) | exact hf1
      · first | (split <;> exact hr1) | exact hr1
      · first | (split <;> exact hled) | exact hled
      · intro h' sb r; dsimp only; exact wpAny_pure (fin h' sb r)
    · refine wpAny_bind (wpAny_pure ?_)
      simp only [↓reduceIte]
      refine txR_add_tail ?_ ho hex hd g1 nd1 m1 hb1 hf1 hr1 hled ?_
      · intro b s₁ Q' q; cases b <;> first | exact wpAny_pure q | exact wpAny_rule q
      · intro h' sb r; dsimp only; exact wpAny_pure (fin h' sb r)
theorem txR_fresh {h : Heap} (w : World) : TxR w (h.push { cls := .type "set", dict := none, data := .set #[] 0 (.fresh 0 0 (!w.params.followText "set-order")) }) h.objs.size (fun _ => false) 0 :=
  ⟨_, #[], 0, _, Heap.get?_push_size _ rfl, ⟨rfl, rfl, rfl⟩, rfl, (fun e he => by simp at he), (by simp), (fun k => by simp), (by decide), (by rfl), rfl, List.Pairwise.nil, by
    show _ ∨ (!w.params.followText "set-order") = true
    cases w.params.followText "set-order"
    · exact .inr rfl
    · exact .inl rfl⟩
/-- set.update's loop -/
theorem set_update_tx {I : Addr} {fp wr : List Addr} {G : Array GenState → Array GenState → Prop} {n : Nat} {Pv : Nat → Value → Prop} {St : Nat → Shared → Prop} {R : Result → Shared → Prop}
    (W : WalksS P w A.in1 I fp wr G n Pv St) (S : Addr) (hSf : S ∉ fp) (ks : List Str) (hn : n = ks.length) (hfew : ks.length < 64) (hval : ∀ i v, Pv i v → ∃ p t, ks[i]? = some p ∧ v = .str p t)
    (h0 : Heap) (hS0 : h0.get? S = none) (hw0 : ∀ b ∈ wr, h0.get? b = none) :
    ∀ (k i : Nat) (s : Shared), n - i = k → i ≤ n → St i s → (∀ b o, h0.get? b = some o → s.heap.get? b = some o) → (∃ m, m ≤ i ∧ TxR w s.heap S (fun k => decide (k ∈ ks.take i)) m) →
      (∀ s' m, m ≤ n → Moved (S :: wr) G s s' → TxR w s'.heap S (fun k => decide (k ∈ ks)) m → (∀ b o, h0.get? b = some o → s'.heap.get? b = some o) → R (.ok (.ret .none)) s') →
      codeAny (model P w) A (.builtin "set.update.loop" ⟨[.ref S, .ref I], []⟩) R s := by
  have hSw : S ∉ wr := fun h => hSf (W.sub _ h)
  have hsub : ∀ b ∈ wr, b ∈ S :: wr := fun b hb => List.mem_cons_of_mem _ hb
  have keepM : ∀ {s s' : Shared}, Moved wr G s s' → (∀ b o, h0.get? b = some o → s.heap.get? b = some o) → ∀ b o, h0.get? b = some o → s'.heap.get? b = some o := fun hm hkp b o e =>
    hm.heap b o (fun hb => by rw [hw0 b hb] at e; cases e) (hkp b o e)
  intro k
  induction k with
  | zero =>
    intro i s hk' hi hst hkp ⟨m, hmi, hS⟩ hR
    have hin : i = n := by omega
    subst hin
    refine codeAny_builtin F.entry_set_update_loop ?_
    rw [Around.under_plainId F.plain_set_update_loop _]
    show wpAny _ A.in1 (pyNext (.ref I) >>= _) _ _ s
    refine wpAny_bind (W.done s _ _ hst fun s' hm => ?_)
    show wpAny _ A.in1 (ret Value.none) _ _ s'
    rw [hn, List.take_length] at hS
    exact wpAny_pure (hR s' m hmi (hm.mono hsub) (hS.at fun o e => hm.heap S o hSw e) (keepM hm hkp))
  | succ k ih =>
    intro i s hk' hi hst hkp ⟨m, hmi, hS⟩ hR
    have hlt : i < n := by omega
    refine codeAny_builtin F.entry_set_update_loop ?_
    rw [Around.under_plainId F.plain_set_update_loop _]
    show wpAny _ A.in1 (pyNext (.ref I) >>= _) _ _ s
    refine wpAny_bind (W.item i s _ _ hlt hst fun v s' hP hst' hm => ?_)
    obtain ⟨p, t, hp, rfl⟩ := hval i v hP
    have hkp' := keepM hm hkp
    have hS' : TxR w s'.heap S (fun k => decide (k ∈ ks.take i)) m := hS.at fun o e => hm.heap S o hSw e
    show wpAny _ A.in1 (holding [Value.str p t] (setAdd S (.str p t)) >>= _) _ _ s'
    refine wpAny_bind (wpAny_holding ?_)
    unfold setAdd
    refine wpAny_holding ?_
    refine wpAny_bind ((PySem.strKind P w).pyHash ((is_tx p p t).2 rfl) ?_)
    refine txR_add_hashed (s := { s' with toks := s'.toks + 1 }) hS' (by unfold scanBound; omega) fun h' hsb hS2 => ?_
    have hkp2 : ∀ b o, h0.get? b = some o → h'.get? b = some o := fun b o e => (hsb.2 b (fun z => by rw [z, hS0] at e; cases e)).trans (hkp' b o e)
    have hS3 : TxR w h' S (fun k => decide (k ∈ ks.take (i + 1))) (if (decide (p ∈ ks.take i)) = true then m else m + 1) := hS2.congr fun k => by
      rw [List.take_add_one, hp]
      simp [Bool.decide_or]
    refine wpAny_pure ⟨plainId_quiet F.plain_set_update_loop _, ih (i + 1) _ (by omega) hlt (W.frame _ s' _ _ hst' (Nat.le_add_right _ _) fun b hb o e => ?_) hkp2 ⟨_, by split <;> omega, hS3⟩ fun s'' m2 hm2 hm'' hS'' hkp'' => ?_⟩
    · rw [hsb.2 b (fun h : b = S => hSf (by rw [← h]; exact hb))]; exact e
    · refine hR s'' m2 hm2 (Moved.trans W.gtrans ((hm.mono hsub).then_heap (Nat.le_add_right _ _) fun b o hb e => ?_) hm'') hS'' hkp''
      rw [hsb.2 b (fun h : b = S => hb (by rw [h]; exact List.mem_cons_self))]; exact e
end
end LapS
set_option Elab.async false
set_option linter.all false
set_option maxRecDepth 100000
set_option maxHeartbeats 4000000
namespace LapS
open PySem PySem.Spec PyProof.Rows L2
section
variable {P : Program} {w : World} {A : Around} {E : Value → Shared → Prop} {s : Shared}
/-- set(xs), texts -/
theorem call_set_tx {l : Addr} {items : Array Value} (ks : List Str) {Q : Value → Shared → Prop} (hh : A.handled = none) (hl : s.heap.IsList l items) (hit : ∀ (i : Nat) (v : Value), items[i]? = some v → ∃ p t, ks[i]? = some p ∧ v = Value.str p t) (hisz : items.size = ks.length) (hfew : ks.length < 64)
    (h : ∀ (h' : Heap) (tk : Nat) m, m ≤ ks.length → TxR w h' s.heap.objs.size (fun k => decide (k ∈ ks)) m → (∀ b o, s.heap.get? b = some o → h'.get? b = some o) → Q (.ref s.heap.objs.size) { s with heap := h', toks := tk }) :
    wpAny (model P w) A (call (.type "set") [.ref l]) Q E s := by
  obtain ⟨c, tl, hmro⟩ := F.called_set.mro
  have hmade := F.called_set.made
  have hsub := F.called_set.sub
  refine wpAny_call (codeAny_of_tree ?_)
  show wpAny _ _ (callAny (.type "set") _) _ _ _
  refine wpAny_pure ⟨Code.quiet_builtin _ (by decide +kernel), codeAny_builtin F.entry_type_call ?_⟩
  rw [Around.under_plain (weight_type_call_type "set" [.ref l] []) rfl]
  have h1 := F.called_set.notType
  have h2 := F.called_set.canCreate
  have hct := F.typeCall_set_1 (.ref l)
  repeat (any_goals (first | assumption | wp_step))

  refine codeAny_mono (code_set_led1 (.ref l) (E := E) (Q₁ := fun obj s₁ => obj = .ref s.heap.objs.size ∧ s₁ = { s with heap := s.heap.push { cls := .type "set", dict := none, data := .set #[] 0 (.fresh 0 0 (!w.params.followText "set-order")) } }) ⟨rfl, rfl⟩) fun r s₁ hr => ?_
  cases r with
  | error e => exact hr
  | ok fl =>
    cases fl with
    | ret obj =>
      obtain ⟨rfl, rfl⟩ := hr
      have hS : (s.heap.push { cls := .type "set", dict := none, data := .set #[] 0 (.fresh 0 0 (!w.params.followText "set-order")) }).get? s.heap.objs.size = some { cls := .type "set", dict := none, data := .set #[] 0 (.fresh 0 0 (!w.params.followText "set-order")) } := Heap.get?_push_size _ rfl
      have hT : Shared.TypeIs { s with heap := s.heap.push { cls := .type "set", dict := none, data := .set #[] 0 (.fresh 0 0 (!w.params.followText "set-order")) } } (.ref s.heap.objs.size) "set" := ⟨_, hS, rfl⟩
      have hli := F.called_set.init.lookup
      have hbi := F.called_set.init.bind (.ref s.heap.objs.size)
      repeat (any_goals (first | assumption | wp_step))

      refine codeAny_mono (codeAny_call_builtin (R := wants (fun r s₂ => r = .none ∧ ∃ h' tk m, m ≤ ks.length ∧ s₂ = { s with heap := h', toks := tk } ∧ TxR w h' s.heap.objs.size (fun k => decide (k ∈ ks)) m ∧
          (∀ b o, s.heap.get? b = some o → h'.get? b = some o)) E) F.called_set.init.plain F.entry_set_init (check_set_init_1 hT ?_)) fun r₂ s₂ hr₂ => ?_
      · obtain ⟨ol, hol, hcl, nl, hdl⟩ := hl
        obtain ⟨ocls, odict, odata, oslots⟩ := ol
        simp only at hcl hdl
        subst hcl; subst hdl
        have hol' : (s.heap.push { cls := .type "set", dict := none, data := .set #[] 0 (.fresh 0 0 (!w.params.followText "set-order")) }).get? l = some { cls := .type "list", dict := odict, data := .seq items nl, slots := oslots } := Heap.get?_push_of_some _ hol
        have hsls := F.sub_list_set
        have hslf := F.sub_list_frozenset
        have hne : (Value.type "list" == Value.type "dict") = false := by decide
        have hl1 : (s.heap.push { cls := .type "set", dict := none, data := .set #[] 0 (.fresh 0 0 (!w.params.followText "set-order")) }).IsList l items := ⟨_, hol', rfl, nl, rfl⟩
        unfold Builtin.«set.__init__» noKeywords Builtin.Frozenset.updateFrom
        generalize hPI : pyIter = PI
        wp_walk
        subst hPI

        refine wpAny_pyIter_list hl1 ?_
        refine wpAny_bind (wpAny_runValue ?_)
        have hlS : l < s.heap.objs.size := Heap.lt_size hol
        have hh3 : A.in1.in1.in1.handled = none := by simp [hh]
        have hneI : l ≠ (s.heap.push { cls := .type "set", dict := none, data := .set #[] 0 (.fresh 0 0 (!w.params.followText "set-order")) }).objs.size := by
          rw [Heap.size_push]; exact Nat.ne_of_lt (Nat.lt_succ_of_lt hlS)
        have hSf : s.heap.objs.size ∉ [(s.heap.push { cls := .type "set", dict := none, data := .set #[] 0 (.fresh 0 0 (!w.params.followText "set-order")) }).objs.size, l] := by
          rw [Heap.size_push]; simp only [List.mem_cons, List.mem_singleton, List.not_mem_nil, or_false, not_or]
          exact ⟨Nat.ne_of_lt (Nat.lt_succ_self _), Nat.ne_of_gt hlS⟩
        have none_of : ∀ b, s.heap.objs.size ≤ b → s.heap.get? b = none := fun b hb => by
          cases q : s.heap.get? b with
          | none => rfl
          | some o => exact absurd (Nat.lt_of_lt_of_le (Heap.lt_size q) hb) (Nat.lt_irrefl _)
        refine set_update_tx ((Walks.list hh3 _ l hneI items).toS) s.heap.objs.size
          hSf ks hisz hfew hit s.heap (none_of _ (Nat.le_refl _)) (fun b hb => none_of b (by
            rw [List.mem_singleton.mp hb, Heap.size_push]
            exact Nat.le_succ _)) (items.size - 0) 0 _ (by omega) (Nat.zero_le _)
          ⟨⟨_, Heap.get?_push_size _ rfl, rfl, rfl⟩, (hl1.push _)⟩ (fun b o e => Heap.get?_push_of_some _ (Heap.get?_push_of_some _ e)) ?hS0 ?hR
        case hS0 =>
          exact ⟨0, Nat.le_refl _, ((txR_fresh (h := s.heap) w).at fun o e => Heap.get?_push_of_some _ e).congr fun k => by simp⟩
        case hR =>
          intro s' m hmn hm hS' hkp
          obtain ⟨h', g2, d', tk', os'⟩ := s'
          have eg : g2 = s.gens := hm.gens
          have ed : d' = s.drawn := hm.drawn
          have eo : os' = s.os := hm.os
          subst eg; subst ed; subst eo
          show wpAny _ _ _ _ _ _
          refine wpAny_pure ?_
          show wpAny _ _ (ret Value.none) _ _ _
          exact wpAny_pure ⟨rfl, h', tk', m, by omega, rfl, hS', hkp⟩

      · cases r₂ with
        | error e => exact hr₂
        | ok fl₂ =>
          cases fl₂ with
          | ret r =>
            obtain ⟨rfl, h', tk, m, hm, rfl, hS', hk'⟩ := hr₂
            repeat (any_goals (first | assumption | wp_step))
            exact h _ _ _ hm hS' hk'
          | _ => exact hr₂.elim
    | _ => exact hr.elim
end
end LapS
set_option Elab.async false
set_option linter.all false
set_option maxRecDepth 100000
set_option maxHeartbeats 4000000
namespace LapS
open PySem PySem.Spec PyProof.Rows L2
section
variable {P : Program} {w : World} {A : Around} {E : Value → Shared → Prop} {s : Shared}
/-- sorted(set), texts -/
theorem sorted_tx {a : Addr} {S : Str → Bool} {n : Nat} {Q : Value → Shared → Prop} (R : TxR w s.heap a S n) (hh : A.handled = none) (hn : n < 64) (hu : A.units + 8 < cLine)
    (hQ : ∀ s' p (out : List Value) (c : Nat) (ks : List Str), (∀ b o, s.heap.get? b = some o → s'.heap.get? b = some o) → s'.gens = s.gens → s'.os = s.os → s.heap.objs.size ≤ p →
      s'.heap.get? p = some (seqObj "list" (List.toArray out) c) → PySem.W.EachIs (fun v k => ∃ t, v = Value.str k t) out ks → ks.length = n → ks.Nodup → (∀ k, k ∈ ks ↔ S k = true) → ks.Pairwise (fun a b => decide (a.cps.toList ≤ b.cps.toList) = true) → Q (.ref p) s') :
    wpAny (model P w) A (call (.builtin "sorted") [.ref a]) Q E s := by
  obtain ⟨o, es, ep, t, ho, hex, hd, g, nd, hm, hb, hf, hsz, hr, hl⟩ := R
  refine Calls.call_function_entry kind_sorted plain_sorted entry_sorted (args_sorted1 _) ?_
  unfold Builtin.«sorted»
  refine wpAny_bind (m := checkCount "sorted" 1 1 _) (wpAny_pure ?_)
  refine wpAny_bind (collect_set (A := A.in1) hh ⟨o, ho, hex.1, hd⟩ hf hb hr hl fun s1 vs k1 hz g1 o1 pm => ?_)
  have hvl : vs.length < 64 := by rw [pm.length_eq, List.length_map, Array.length_toList, hsz]; exact hn
  -- the values are texts, in some order
  have txs : ∀ v ∈ vs, ∃ k t, v = Value.str k t := fun v hv => by
    obtain ⟨e, he, z⟩ := List.mem_map.mp (pm.mem_iff.mp hv)
    obtain ⟨k, t, h1, _⟩ := g e he
    exact ⟨k, t, by rw [← z, h1]⟩
  obtain ⟨kv, hkv⟩ : ∃ kv : Value → Str, kv = fun v => match v with | .str k _ => k | _ => Str.empty := ⟨_, rfl⟩
  have each : ∀ l : List Value, (∀ v ∈ l, ∃ k t, v = Value.str k t) → PySem.W.EachIs (fun v k => ∃ t, v = Value.str k t) l (l.map kv) := by
    intro l
    induction l with
    | nil => intro _; exact .nil
    | cons v l ih =>
      intro hv
      obtain ⟨k, t, e⟩ := hv v List.mem_cons_self
      refine .cons ⟨t, ?_⟩ (ih fun u hu => hv u (List.mem_cons_of_mem _ hu))
      rw [e, hkv]
  have pk : (vs.map kv).Perm (es.toList.map keyT) := by
    have q := pm.map kv
    rw [List.map_map] at q
    have e : (kv ∘ fun x : Int × Value => x.2) = keyT := by
      rw [hkv]
      rfl
    rw [show ((kv ∘ fun x : Int × Value => x.2)) = keyT from e] at q
    exact q
  refine wpAny_bind (wpAny_newList ?_ (by rw [sizeLine_eq]; omega))
  have hoL : (s1.heap.push (seqObj "list" vs.toArray 0)).get? s1.heap.objs.size = some (seqObj "list" vs.toArray 0) := Heap.get?_push_size _ rfl
  have rd : PySem.W.EachIs (fun v k => ∃ as, Reads (s1.heap.push (seqObj "list" vs.toArray 0)) v (PyData.str k) as ∧ s1.heap.objs.size ∉ as) vs (vs.map kv) := (each vs txs).mono fun v k ⟨t, e⟩ => ⟨[], by rw [e]; exact Reads.str k t, by simp⟩
  refine wpAny_bind (wpAny_holding (PySem.W.list_sort_data (enc := PyData.str) (bs := vs.map kv) (R := fun v k => ∃ t, v = Value.str k t) hoL (each vs txs) rd ?_ ?_ (by rw [List.length_map, sizeLine_eq]; omega) (fun k _ => ?_) fun out h1 h2 => ?_))
  · intro d hd e he
    obtain ⟨x, _, rfl⟩ := List.mem_map.mp hd
    obtain ⟨y, _, rfl⟩ := List.mem_map.mp he
    rfl
  · exact .inr fun d hd => by
      obtain ⟨x, _, rfl⟩ := List.mem_map.mp hd
      exact ⟨(fun z => by cases z), (fun _ z => by cases z)⟩
  · show A.units + 1 + 1 + (PyData.str k).depth < cLine
    have : (PyData.str k).depth = 0 := rfl
    omega
  · obtain ⟨c, hc⟩ := sortedHeap_at (vs := vs) (out := out.toArray) hoL
    have pm2 : ((vs.map kv).mergeSort (PySem.W.dataLe false PyData.str)).Perm (vs.map kv) := List.mergeSort_perm _ _
    have pm3 := pm2.trans pk
    refine wpAny_pure ⟨_, rfl, hQ _ s1.heap.objs.size out c _ (fun b u e => ?_) g1 o1 hz hc h2 (by rw [pm3.length_eq, List.length_map, Array.length_toList, hsz]) (pm3.nodup_iff.mpr nd) (fun k => pm3.mem_iff.trans (hm k).symm) ?_⟩
    · have q := k1 b u e
      have hlt := Heap.lt_size q
      show (sortedHeap (s1.heap.push (seqObj "list" vs.toArray 0)) s1.heap.objs.size vs out.toArray).get? b = some u
      rw [sortedHeap_old (Nat.ne_of_lt hlt) (by rw [size_push']; exact Nat.lt_succ_of_lt hlt)]
      exact Heap.get?_push_of_some _ q
    · have q : ((vs.map kv).mergeSort (PySem.W.dataLe false PyData.str)).Pairwise (fun a b => PySem.W.dataLe false PyData.str a b = true) := PySem.W.sort_pairwise (PySem.W.sortLe_total _ _ _) _
      have hd0 : PySem.W.dataLe false PyData.str = fun a b : Str => decide (a.cps.toList ≤ b.cps.toList) := PySem.W.dataLe_str (fun x : Str => x)
      exact q.imp fun {a b} hab => by
        rw [hd0] at hab
        exact hab
end
/-! ### the rules -/
def SetTx (w : World) (a : Addr) (xs : List Str) : HO := .ext fun h => ∃ m, m ≤ xs.length ∧ TxR w h a (fun k => decide (k ∈ xs)) m
theorem setTx_new {P : Program} {w : World} {H : Hp} {h : Heap} {a : Addr} {xs : List Str} (R : ∃ m, m ≤ xs.length ∧ TxR w h a (fun k => decide (k ∈ xs)) m) : ObjOk P w H h a (SetTx w a xs) := by
  obtain ⟨m, hm, r⟩ := id R
  obtain ⟨o, es, ep, t, ho, _⟩ := id r
  exact ⟨R, ⟨o, ho⟩, fun h1 h2 ⟨m, hm, r⟩ k => ⟨m, hm, r.at k⟩⟩
theorem vals_tx : ∀ {us : List Value} {ks : List Str}, PySem.W.EachIs (fun v k => ∃ t, v = Value.str k t) us ks → Vals (ks.map V.str) us
  | _, _, .nil => .nil
  | _, _, .cons ⟨t, e⟩ r => .cons ⟨t, e⟩ (vals_tx r)
section
variable {X : Cx}
def rSetTx (K : PySem.W.Frag) (w : World) : List V → Hp → VK → Prop := fun vs H Q => ∃ (l : Addr) (xs : List Str), vs = [V.ref l] ∧ SqL K H l (xs.map V.str) ∧ xs.length < 64 ∧ ∀ a, H a = none → Q (.ref a) (upd H a (SetTx w a xs))
theorem cr_setTx (hc : X.calm = true) : CallR X (.type "set") (rSetTx X.K X.w) := by
  intro pins s σ H vs us Q I r h
  obtain ⟨l, xs, rfl, hl, hf, q⟩ := h
  rw [Vals.ref1 r]
  obtain ⟨its, rv, pl, hz⟩ := I.list hl
  have hlen : its.toArray.size = xs.length := by rw [List.size_toArray, ← rv.length, List.length_map]
  refine call_set_tx (P := X.prog) (w := X.w) xs (I.ok.hd hc) pl.isList (fun i v hv => ?_) hlen hf fun h' tk m hm R k => ?_
  · rw [List.getElem?_toArray] at hv
    have hi : i < its.length := (List.getElem?_eq_some_iff.mp hv).1
    rw [List.size_toArray] at hlen
    have hx : xs[i]? = some (xs[i]'(by omega)) := List.getElem?_eq_getElem _
    obtain ⟨u, hu, ru⟩ := rv.get (show (xs.map V.str)[i]? = some (.str (xs[i]'(by omega))) by rw [List.getElem?_map, hx]; rfl)
    rw [hv] at hu
    cases hu
    obtain ⟨t, e⟩ := ru
    exact ⟨_, t, hx, e⟩
  · exact ⟨.ref s.heap.objs.size, upd H s.heap.objs.size (SetTx X.w s.heap.objs.size xs), I.laid (t' := tk) k (Nat.le_refl _) (setTx_new ⟨m, hm, R⟩), rfl, q _ (I.hok.fresh (Nat.le_refl _))⟩
def rSortedTx (w : World) : List V → Hp → VK → Prop := fun vs H Q => ∃ (a : Addr) (xs : List Str), vs = [V.ref a] ∧ H a = some (SetTx w a xs) ∧ xs.length < 64 ∧
  ∀ (p : Addr) (ks : List Str), ks.Nodup → (∀ k : Str, k ∈ ks ↔ k ∈ xs) → ks.Pairwise (fun a b => decide (a.cps.toList ≤ b.cps.toList) = true) → H p = none → Q (.ref p) (upd H p (.lst (ks.map V.str)))
theorem cr_sortedTx (hc : X.calm = true) (hu : X.A.units + 64 < cLine) : CallR X (.builtin "sorted") (rSortedTx X.w) := by
  intro pins s σ H vs us Q I r h
  obtain ⟨a, xs, rfl, ha, hf, q⟩ := h
  obtain ⟨m, hm, R⟩ : ∃ m, m ≤ xs.length ∧ TxR X.w s.heap a (fun k => decide (k ∈ xs)) m := (I.hok a _ ha).1
  rw [Vals.ref1 r]
  refine sorted_tx (P := X.prog) R (I.ok.hd hc) (by omega) (by omega) fun s' p out c ks k g o hp hg he hkl hnd hmem pw => ?_
  have hkx : ∀ k : Str, k ∈ ks ↔ k ∈ xs := fun k => (hmem k).trans (by rw [decide_eq_true_eq])
  have hlen : (ks.map V.str).length ≤ sizeLine := by
    rw [List.length_map, sizeLine_eq]
    omega
  have hn : H p = none := I.hok.fresh hp
  have J : Inv X pins σ (upd H p (.lst (ks.map V.str))) { s with heap := s'.heap, gens := s'.gens, drawn := s'.drawn, toks := s'.toks } :=
    I.call (ch := []) (Un.laid k hp hn) (I.hok.laid k hp ⟨hlen, out, c, vals_tx he, hg⟩) (by rw [g]; exact I.bare) (fun _ z => nomatch z)
  have e : s' = { s with heap := s'.heap, gens := s'.gens, drawn := s'.drawn, toks := s'.toks } := by
    cases s'
    cases s
    cases o
    rfl
  rw [e]
  exact ⟨.ref p, _, J, rfl, q p ks hnd hkx pw hn⟩
end
end LapS
set_option Elab.async false
set_option linter.all false
set_option maxRecDepth 100000
set_option maxHeartbeats 4000000
namespace LapW
open PySem PySem.Spec PyProof.Rows L2 Lap

section
variable {P : Program} {w : World} {K : PySem.W.Frag} {mg : Str → Option Value} {base : Heap}
/-! ### _law_costs_right -/
abbrev s__law_costs_right : Stmt := top 91
abbrev N__law_costs_right : List Str := ["_law_script", "_law_rules", "_law_wheel", "_law_seed", "_law_name", "_law_wish", "_law_price", "_law_one", "_law_more"]
theorem sc__law_costs_right : FnScope N__law_costs_right ["_law_script", "_law_rules", "_law_wheel"] (defScope s__law_costs_right) := ⟨rfl, rfl, rfl, by decide +kernel, rfl, by decide +kernel, by decide +kernel⟩
theorem flat_opt (o : Option Int) : flatV (optV o) = true := by cases o <;> rfl
theorem opt_dec (a b : Option Int) : decide (optV a = optV b) = decide (a = b) := by
  by_cases h : a = b
  · rw [h]
    simp
  · rw [decide_eq_false h, decide_eq_false fun z => h (optV_inj z)]
def moreW : Wish → List Wish
  | .early => [.early, .gone] | .ghost => [.ghost, .gone] | .gone => [.gone] | .stands => [.gone, .stands]
theorem two_ks {a b : Str} (hab : a ≠ b) (hle : decide (b.cps.toList ≤ a.cps.toList) = false) : ∀ {ks : List Str}, ks.Nodup → (∀ x, x ∈ ks ↔ x = a ∨ x = b) → ks.Pairwise (fun a b => decide (a.cps.toList ≤ b.cps.toList) = true) → ks = [a, b]
  | [], _, hm, _ => absurd ((hm a).mpr (.inl rfl)) List.not_mem_nil
  | [x], _, hm, _ => by
    have h1 := List.mem_singleton.mp ((hm a).mpr (.inl rfl))
    have h2 := List.mem_singleton.mp ((hm b).mpr (.inr rfl))
    exact absurd (h1.trans h2.symm) hab
  | x :: y :: r, hn, hm, hp => by
    have hx := (hm x).mp List.mem_cons_self
    have hy := (hm y).mp (List.mem_cons_of_mem _ List.mem_cons_self)
    have n1 := List.nodup_cons.mp hn
    have n2 := List.nodup_cons.mp n1.2
    have hxy : x ≠ y := fun z => n1.1 (by rw [z]; exact List.mem_cons_self)
    have hr : r = [] := by
      cases r with
      | nil => rfl
      | cons z r =>
        exfalso
        have hz := (hm z).mp (List.mem_cons_of_mem _ (List.mem_cons_of_mem _ List.mem_cons_self))
        have hxz : x ≠ z := fun q => n1.1 (by rw [q]; exact List.mem_cons_of_mem _ List.mem_cons_self)
        have hyz : y ≠ z := fun q => n2.1 (by rw [q]; exact List.mem_cons_self)
        rcases hx with rfl | rfl <;> rcases hy with rfl | rfl <;> rcases hz with rfl | rfl <;> simp_all
    subst hr
    rcases hx with rfl | rfl <;> rcases hy with rfl | rfl
    · exact absurd rfl hxy
    · rfl
    · have h3 := (List.pairwise_cons.mp hp).1 _ List.mem_cons_self
      rw [hle] at h3
      cases h3
    · exact absurd rfl hxy
theorem more_ks (k : Wish) {ks : List Str} (hn : ks.Nodup) (hm : ∀ x : Str, x ∈ ks ↔ x ∈ [wishS k, "gone"]) (hp : ks.Pairwise (fun a b => decide (a.cps.toList ≤ b.cps.toList) = true)) : ks = (moreW k).map wishS := by
  cases k with
  | early => exact two_ks (by decide +kernel) (by decide +kernel) hn (fun x => (hm x).trans (by simp [wishS])) hp
  | ghost => exact two_ks (by decide +kernel) (by decide +kernel) hn (fun x => (hm x).trans (by simp [wishS])) hp
  | stands => exact two_ks (by decide +kernel) (by decide +kernel) hn (fun x => (hm x).trans (by simp [wishS]; exact Or.comm)) hp
  | gone =>
    have hm2 : ∀ x, x ∈ ks ↔ x = ("gone" : Str) := fun x => (hm x).trans (by simp [wishS])
    match ks, hn, hm2 with
    | [], _, hm2 => exact absurd ((hm2 _).mpr rfl) List.not_mem_nil
    | [x], _, hm2 => rw [(hm2 x).mp List.mem_cons_self]; rfl
    | x :: y :: r, hn, hm2 =>
      have h1 := (hm2 x).mp List.mem_cons_self
      have h2 := (hm2 y).mp (List.mem_cons_of_mem _ List.mem_cons_self)
      exact absurd (by rw [h1, h2]; exact List.mem_cons_self) (List.nodup_cons.mp hn).1
theorem hopes_more (k : Wish) : HopesOk (moreW k) := by cases k <;> exact ⟨List.cons_ne_nil _ _, by decide, by decide⟩
theorem shaped_ch (u : Wh) : SeqAt.shaped (chD u) = true := by
  obtain ⟨f, s, h, k⟩ := u
  have hs : (PyData.str (holdS h)).canLay0 = true := by cases h <;> decide +kernel
  have hs2 : PyData.strOk (holdS h) = true := by cases h <;> decide +kernel
  cases s <;> cases k <;> simp [SeqAt.shaped, chD, optD, PyData.canLay0, PyData.canLayAll0, hs2, PyData.depth, PyData.depthAll]
theorem eqv_ch (u : Wh) : PyData.eqv (chD u) (chD u) = true := by
  obtain ⟨f, s, h, k⟩ := u
  cases s <;> cases k <;> simp [chD, optD, PyData.eqv, PyData.eqvAll]
theorem sqt_more {K : PySem.W.Frag} {H : Hp} {t : Addr} {k : Wish} : SqT K (upd H t (.tup (((moreW k).map wishS).map V.str))) t ((moreW k).map fun k => V.str (wishS k)) := .inl (.inl (by rw [upd_same, List.map_map]; rfl))
theorem hopes_one (k : Wish) : HopesOk [k] := by cases k <;> exact ⟨List.cons_ne_nil _ _, by decide, by decide⟩
def spLawCosts (K : PySem.W.Frag) : Sp := fun vs H Q _ => ∃ (a tr : Addr) (v : V) (u : Wh) (ns : List Int), vs = [.ref a, .ref tr, v] ∧ LamX.Tabs (acTT K) H ∧ SqL K H a (ns.map V.int) ∧ SqT K H tr (.int 4 :: rulesV u) ∧ WhAt K H v u ∧ WOk u ∧ ∀ H', LamX.ExtN H H' → LamX.Tabs (acTT K) H' → Q (.bl true) H'
theorem cal__law_costs_right (T : Tx K mg) (TB : TBx base mg K) : C8.Cal P w K mg base 10 "_law_costs_right" (spLawCosts K) [] := by
  refine cal_of T.g__law_costs_right T.f__law_costs_right sc__law_costs_right (fun vs H Q E h => ?_) (fun _ _ _ _ _ _ us hl => match us, hl with | [_, _, _], _ => rfl) fun cdv A outer s H vs Q E hr h => ?_
  · obtain ⟨a, tr, v, u, ns, rfl, _⟩ := h
    rfl
  · obtain ⟨a, tr, v, u, ns, rfl, hT, hs, htr, hx, ok, hq⟩ := h
    have hu := hu_of hr
    have hu64 := Room.units hr
    refine ⟨_, (pss_cons (ps_set (i := 3) sc__law_costs_right.nd rfl (Or.inl rfl) (pe_callTy call_int1 rfl T.n_int (by decide +kernel) (pa_cons (C8.pe_c (cal__law_number T) hr (by decide) rfl (pa_cons (pv 0) (pa_cons pe_int pa_nil))) pa_nil)))
      (pss_cons (ps_set (i := 4) sc__law_costs_right.nd rfl (Or.inl rfl) (pe_ix ix_tup (pe_tup (pa_cons pe_str (pa_cons pe_str (pa_cons pe_str (pa_cons pe_str pa_nil))))) (pe_op op_mod (pe_callTy call_int1 rfl T.n_int (by decide +kernel) (pa_cons (pv 3) pa_nil)) pe_int) (fun _ _ => rfl)))
      (pss_cons (ps_set (i := 5) sc__law_costs_right.nd rfl (Or.inl rfl) (pe_ix ix_tup (pe_tup (pa_cons pe_str (pa_cons pe_str (pa_cons pe_str (pa_cons pe_str pa_nil))))) (pe_op op_mod (pe_callTy call_int1 rfl T.n_int (by decide +kernel) (pa_cons (pe_op op_fdiv (pv 3) pe_int) pa_nil)) pe_int) (fun _ _ => rfl)))
      (pss_cons (ps_set (i := 6) sc__law_costs_right.nd rfl (Or.inl rfl) (pe_op op_add pe_int (pe_op op_mod (pe_callTy call_int1 rfl T.n_int (by decide +kernel) (pa_cons (pe_op op_fdiv (pv 3) pe_int) pa_nil)) pe_int)))
      (pss_cons (ps_set (i := 7) sc__law_costs_right.nd rfl (Or.inl rfl) (C8.pe_c (cal_least_cost T TB) hr (by decide) rfl (pa_cons (pv 2) (pa_cons (pe_disp (pps_cons (pv 4) (pv 6) pps_nil) rfl rfl (List.cons_ne_nil _ _) (by show 1 ≤ 15; decide)) (pa_cons (pe_tup (pa_cons (pv 5) pa_nil)) pa_nil)))))
      (pss_cons (ps_if (PW.pt (pw_or (pt_cmpR op_notIn_seq (pv 7) (pe_tup (pa_cons pe_non (pa_cons pe_int (pa_cons (pv 6) pa_nil)))) rfl) (pw_or1 (pt_cmpR op_ne (pe_cmpR op_eq (pv 7) pe_int (nomark _)) (C8.pe_c (cal_is_safe T) hr (by decide) rfl (pa_cons (pv 2) (pa_cons (pv 5) pa_nil))) (nomark _))))) (pss_one (ps_ret pe_bl)) pss_nil)
      (pss_cons (ps_if (pt_cmpR op_ne (C8.pe_c (cal_least_cost T TB) hr (by decide) rfl (pa_cons (pv 2) (pa_cons (pe_disp (pps_cons (pv 4) (pe_op op_mul pe_int (pv 6)) pps_nil) rfl rfl (List.cons_ne_nil _ _) (by show 1 ≤ 15; decide)) (pa_cons (pe_tup (pa_cons (pv 5) pa_nil)) pa_nil)))) (pe_ifExp (pt_cmp (pc_isN (pv 7))) pe_non (pe_op op_mul pe_int (pv 7))) (nomark _)) (pss_one (ps_ret pe_bl)) pss_nil)
      (pss_cons (ps_set (i := 8) sc__law_costs_right.nd rfl (Or.inl rfl) (pe_callTy call_tuple_of rfl T.n_tuple (by decide +kernel) (pa_cons (pe_callB (LapS.cr_sortedTx rfl hu64) rfl T.n_sorted (by decide +kernel) (pa_cons (pe_callTy (LapS.cr_setTx rfl) rfl T.n_set (by decide +kernel) (pa_cons (pe_lst (pa_cons (pv 5) (pa_cons pe_str pa_nil))) pa_nil)) pa_nil)) pa_nil)))
      (pss_cons (ps_if (pt_not (pt_val (C8.pe_c (cal__law_not_more T) hr (by decide) rfl (pa_cons (pv 7) (pa_cons (C8.pe_c (cal_least_cost T TB) hr (by decide) rfl (pa_cons (pv 2) (pa_cons (pe_disp (pps_cons (pv 4) (pv 6) pps_nil) rfl rfl (List.cons_ne_nil _ _) (by show 1 ≤ 15; decide)) (pa_cons (pv 8) pa_nil)))) pa_nil))))) (pss_one (ps_ret pe_bl)) pss_nil)
      (pss_one (ps_ret (pe_cmpR (op_eqD hu64) (pe_ix ix_list (C8.pe_c (cal_choices T TB) hr (by decide) rfl (pa_cons (pv 2) (pa_cons (pe_disp (pps_cons (pv 4) (pv 6) pps_nil) rfl rfl (List.cons_ne_nil _ _) (by show 1 ≤ 15; decide)) pa_nil))) pe_int (fun _ _ => rfl)) (pe_slice sl_tup (pv 1) (po_some pe_int) po_none) (nomark _))))))))))))), ?_⟩
    refine ⟨_, rfl, a, 20, ns, rfl, hs, by decide, by decide, fun n H1 e1 => .inl ⟨n, rfl, ?_⟩⟩
    obtain ⟨v1, hv1, m1⟩ := atI_mod [V.str "stop", V.str "hold", V.str "cut", V.str "freeze"] 4 rfl (by decide) n
    refine ⟨by show 4 ≤ sizeLine; decide, fun p1 hp1 => ⟨_, rfl, .inl ⟨_, rfl, _, _, rfl, rfl, (by show (0 : Int) < _; decide), p1, _, _, v1, rfl, rfl, sqt_new, hv1, ?_⟩⟩⟩
    obtain ⟨r, rfl⟩ : ∃ r, v1 = .str (ruS r) := by
      simp at m1
      rcases m1 with rfl | rfl | rfl | rfl
      · exact ⟨.stop, rfl⟩
      · exact ⟨.hold, rfl⟩
      · exact ⟨.cut, rfl⟩
      · exact ⟨.freeze, rfl⟩
    obtain ⟨v2, hv2, m2⟩ := atI_mod [V.str "gone", V.str "ghost", V.str "early", V.str "stands"] 4 rfl (by decide) (n / 4)
    refine ⟨by show 4 ≤ sizeLine; decide, fun p2 hp2 => ⟨_, rfl, _, _, rfl, rfl, ⟨by decide, by decide⟩, .inl ⟨_, rfl, _, _, rfl, rfl, (by show (0 : Int) < _; decide), p2, _, _, v2, rfl, rfl, sqt_new, hv2, ?_⟩⟩⟩
    obtain ⟨k, rfl⟩ : ∃ k, v2 = .str (wishS k) := by
      simp at m2
      rcases m2 with rfl | rfl | rfl | rfl
      · exact ⟨.gone, rfl⟩
      · exact ⟨.ghost, rfl⟩
      · exact ⟨.early, rfl⟩
      · exact ⟨.stands, rfl⟩
    have eA : Ex H (upd (upd H1 p1 (.tup [V.str "stop", V.str "hold", V.str "cut", V.str "freeze"])) p2 (.tup [V.str "gone", V.str "ghost", V.str "early", V.str "stands"])) := (e1.nx hp1).nx hp2
    refine nx_cut (fun σ' H' => ∃ pp, σ' = [some (.ref a), some (.ref tr), some v, some (.int n), some (.str (ruS r)), some (.str (wishS k)), some (.int pp), none, none] ∧ 1 ≤ pp ∧ pp ≤ 4 ∧ Ex H H') ?_ fun hn => ?_
    rotate_left
    · have q0 := Int.emod_nonneg (n / 16) (show (4 : Int) ≠ 0 by decide)
      have q1 := Int.emod_lt_of_pos (n / 16) (show (0 : Int) < 4 by decide)
      exact ⟨_, rfl, _, _, rfl, rfl, ⟨by decide, by decide⟩, .inl ⟨_, rfl, _, _, rfl, rfl, (by show (0 : Int) < _; decide), _, _, rfl, rfl, hn _ _ ⟨1 + n / 16 % 4, rfl, by omega, by omega, eA⟩⟩⟩
    rintro σ' HA ⟨pp, rfl, hp1', hp4, eA⟩
    refine ⟨_, rfl, fun d1 hd1 => ⟨_, rfl, _, rfl, upd_same, [(kS (ruS r), .int pp)], rfl, by show 1 ≤ 15; decide, ?_⟩⟩
    have eB : Ex H (upd (upd HA d1 (.dK [])) d1 (.dK [(kS (ruS r), .int pp)])) := Evl.Ex.mut (eA.nx hd1) (eA.none hd1)
    refine ⟨_, rfl, by show 1 ≤ sizeLine; decide, fun t1 ht1 => ?_⟩
    have eC := eB.nx (o := .tup [.str (wishS k)]) ht1
    have hd1C := (Ex.nw (o := .tup [V.str (wishS k)]) ht1) d1 _ upd_same
    refine ⟨v, u, d1, r, pp, t1, [k], rfl, hT.ext eC, eC.wh hx, hd1C, hp1', by omega, sqt_new, hopes_one k, fun c hc => var_ok ok hc, fun H3 eN3 hT3 => ?_⟩
    have eN := (Ex.extN eC).trans eN3
    obtain ⟨o1, ho1⟩ : ∃ o, lcO u r pp [k] = o := ⟨_, rfl⟩
    have hlv : lcV u r pp [k] = optV o1 := congrArg optV ho1
    have hin := lc_in ok r hp1' [k]
    rw [ho1] at hin
    have hz := lc_zero ok r hp1' k
    rw [ho1] at hz
    have hdb := lc_dbl ok r hp1' [k]
    rw [ho1] at hdb
    rw [hlv]
    refine ⟨_, rfl, _, rfl, by show 3 ≤ sizeLine; decide, fun t2 ht2 => ⟨t2, _, rfl, .inr sqt_new, flat_opt _, rfl, false, by rcases hin with z | z | z <;> rw [z] <;> simp [optV, inV, eqV], iteF ?_⟩⟩
    have eD := Ex.nw (H := H3) (o := .tup [V.non, V.int 0, V.int pp]) ht2
    refine ⟨_, rfl, scal_opt _ (some 0), _, rfl, _, rfl, v, u, k, rfl, eD.wh (extN_wh eN hx), ok, fun H5 e5 => ⟨rfl, false, ?_, iteF ?_⟩⟩
    · rw [← hz]
      show V.bl (!decide (V.bl (decide (optV o1 = optV (some 0))) = V.bl (decide (o1 = some 0)))) = V.bl false
      rw [opt_dec]
      simp
    have eN5 : LamX.ExtN H H5 := eN.trans ((Ex.extN eD).trans (Ex.extN e5))
    have hT5 : LamX.Tabs (acTT K) H5 := hT3.ext (eD.tr e5)
    refine nx_cut (fun σ' H' => σ' = [some (.ref a), some (.ref tr), some v, some (.int n), some (.str (ruS r)), some (.str (wishS k)), some (.int pp), some (optV o1), none] ∧ LamX.ExtN H H' ∧ LamX.Tabs (acTT K) H') ?_ fun hn => ?_
    rotate_left
    · refine ⟨_, rfl, fun d2 hd2 => ⟨_, rfl, _, rfl, _, _, rfl, rfl, .inl ⟨by decide, by decide⟩, upd_same, [(kS (ruS r), .int (2 * pp))], rfl, by show 1 ≤ 15; decide, ?_⟩⟩
      have eE : Ex H5 (upd (upd H5 d2 (.dK [])) d2 (.dK [(kS (ruS r), .int (2 * pp))])) := Evl.Ex.mut (Ex.nw hd2) hd2
      refine ⟨_, rfl, by show 1 ≤ sizeLine; decide, fun t3 ht3 => ?_⟩
      have eF := eE.nx (o := .tup [.str (wishS k)]) ht3
      have hd2C := (Ex.nw (o := .tup [V.str (wishS k)]) ht3) d2 _ upd_same
      refine ⟨v, u, d2, r, 2 * pp, t3, [k], rfl, hT5.ext eF, eF.wh (extN_wh eN5 hx), hd2C, by omega, by omega, sqt_new, hopes_one k, fun c hc => var_ok ok hc, fun H6 eN6 hT6 => ?_⟩
      have eN56 : LamX.ExtN H H6 := eN5.trans ((Ex.extN eF).trans eN6)
      have hlv2 : lcV u r (2 * pp) [k] = optV (o1.map (2 * ·)) := congrArg optV hdb
      rw [hlv2]
      cases o1 with
      | none => exact ⟨_, rfl, true, rfl, iteT ⟨rfl, false, rfl, iteF (hn _ _ ⟨rfl, eN56, hT6⟩)⟩⟩
      | some i => exact ⟨_, rfl, false, rfl, iteF ⟨_, rfl, _, _, rfl, rfl, .inl ⟨by decide, by decide⟩, rfl, false, by simp [optV], iteF (hn _ _ ⟨rfl, eN56, hT6⟩)⟩⟩
    rintro σ' H6 ⟨rfl, eN6, hT6⟩
    refine ⟨_, rfl, by show 2 ≤ sizeLine; decide, fun l1 hl1 => ⟨l1, [wishS k, "gone"], rfl, SqL.of upd_same, by show 2 < 64; decide, fun s1 hs1 => ⟨s1, _, rfl, upd_same, by show 2 < 64; decide, fun l2 xs hnd hmem hpw hl2 => ⟨l2, _, rfl, .inl ⟨SqL.of upd_same, fun t4 ht4 => ?_⟩⟩⟩⟩⟩
    have ek := more_ks k hnd hmem hpw
    subst ek
    have eG := (((Ex.nw hl1).nx hs1).nx hl2).nx ht4 (o := .tup (((moreW k).map wishS).map V.str))
    have eN7 := eN6.trans (Ex.extN eG)
    have hT7 := hT6.ext eG
    refine ⟨_, rfl, _, rfl, fun d3 hd3 => ⟨_, rfl, _, rfl, upd_same, [(kS (ruS r), .int pp)], rfl, by show 1 ≤ 15; decide, ?_⟩⟩
    have eH : Ex _ (upd (upd _ d3 (.dK [])) d3 (.dK [(kS (ruS r), .int pp)])) := Evl.Ex.mut (Ex.nw hd3) hd3
    refine ⟨_, rfl, v, u, d3, r, pp, t4, moreW k, rfl, hT7.ext eH, eH.wh (extN_wh eN7 hx), upd_same, hp1', by omega, eH.t sqt_more, hopes_more k, fun c hc => var_ok ok hc, fun H8 eN8 hT8 => ?_⟩
    refine ⟨o1, lcO u r pp (moreW k), rfl, fun H9 e9 => ⟨true, ?_, iteF ?_⟩⟩
    · refine congrArg V.bl ?_
      have hm := lc_more ok r hp1' (ks := [k]) (ks' := moreW k) (fun q hq' => by rw [List.mem_singleton.mp hq']; cases k <;> simp [moreW])
      rw [ho1] at hm
      rcases hm with z | ⟨x, y, z1, z2, z3⟩
      · rw [z]
        cases o1 <;> rfl
      · rw [z1, z2]
        exact decide_eq_true z3
    have eN9 : LamX.ExtN H H9 := eN7.trans ((Ex.extN eH).trans (eN8.trans (Ex.extN e9)))
    refine ⟨_, rfl, fun d4 hd4 => ⟨_, rfl, _, rfl, upd_same, [(kS (ruS r), .int pp)], rfl, by show 1 ≤ 15; decide, ?_⟩⟩
    have eI : Ex H9 (upd (upd H9 d4 (.dK [])) d4 (.dK [(kS (ruS r), .int pp)])) := Evl.Ex.mut (Ex.nw hd4) hd4
    refine ⟨v, u, d4, r, pp, rfl, (hT8.ext e9).ext eI, eI.wh (extN_wh eN9 hx), upd_same, hp1', by omega, fun pc xs H10 eN10 hT10 hpc dxs => ?_⟩
    obtain ⟨rest, hrest⟩ := head_u ok r hp1'
    rw [hrest] at dxs
    obtain ⟨x0, hx0, dx0⟩ := dpa_at (d := chD u) dxs (i := 0) rfl
    have eN11 : LamX.ExtN H H10 := eN9.trans ((Ex.extN eI).trans eN10)
    refine ⟨pc, xs, 0, x0, rfl, rfl, SqL.of hpc, atI_nat (j := 0) hx0, _, rfl, _, rfl, tr, _, rfl, (extN_tp eN11).t htr, by show ¬(HT.sIx 5 0 (some 1) = 0 ∧ HT.sIx 5 5 none = 5); decide, fun p9 hp9 => ?_⟩
    have dch : Dt K (upd H10 p9 (.tup (cutV (V.int 4 :: rulesV u) (some 1) none))) (.ref p9) (chD u) := ch_mk sqt_new
    refine ⟨chD u, chD u, ((Ex.nw hp9).d dx0).dp, dch.dp, shaped_ch u, shaped_ch u, ?_⟩
    rw [eqv_ch]
    exact hq _ (eN11.trans (Ex.extN (Ex.nw hp9))) (hT10.ext (Ex.nw hp9))
end
end LapW
set_option Elab.async false
set_option linter.all false
set_option maxRecDepth 100000
set_option maxHeartbeats 4000000
/-! comprehensions whose items stand for anything; zip of a list and its tail. -/
namespace LapW
open PySem PySem.Spec PyProof.Rows L2
/-- what stays when the heap grows and when a list is written -/
structure Stays {β : Type} (R : Hp → V → β → Prop) : Prop where
  ex : ∀ {H H' : Hp} {x : V} {b : β}, Ex H H' → R H x b → R H' x b
  put : ∀ {H : Hp} {D : Addr} {xs ys : List V} {x : V} {b : β}, H D = some (.lst xs) → R H x b → R (upd H D (.lst ys)) x b
theorem Stays.exs {β : Type} {R : Hp → V → β → Prop} (S : Stays R) {H H' : Hp} (e : Ex H H') {xs : List V} {bs : List β} (h : Paired (R H) xs bs) : Paired (R H') xs bs := paired_mono (fun _ _ q => S.ex e q) h
theorem Stays.puts {β : Type} {R : Hp → V → β → Prop} (S : Stays R) {H : Hp} {D : Addr} {zs ys xs : List V} {bs : List β} (hD : H D = some (.lst zs)) (h : Paired (R H) xs bs) : Paired (R (upd H D (.lst ys))) xs bs := paired_mono (fun _ _ q => S.put hD q) h
section
variable {α β : Type} {K : PySem.W.Frag} {J : It} {G : Hp → Prop} {R : Hp → V → β → Prop} {xs : List V} {items : List α} {m : α → β} {g : TG} {te : TE} {vs : List Nat} {σ : L2.St} {H1 : Hp} {D : Addr} {Qd : Hp → Prop}
theorem lc_R (S : Stays R) (wk : Walk J xs.length G (YAt xs)) (hG : ∀ H', Ex H1 H' → G H') (hl : xs.length = items.length) (hz : xs.length < 100000) (hD : H1 D = none)
    (hb : ∀ (i : Nat) (x : V) (q : α) (H' : Hp), xs[i]? = some x → items[i]? = some q → Ex H1 H' → ∀ Qy : VK, (∀ y H'', Ex H' H'' → R H'' y (m q) → Qy y H'') → g x (wipe σ vs) H' fun σ2 H2 => wipe σ2 vs = wipe σ vs ∧ te σ2 H2 Qy)
    (hd : ∀ H' ys, Ex H1 H' → H' D = some (.lst ys) → Paired (R H') ys (items.map m) → Qd H') 
    (gm : ∀ (x : V) (σ : L2.St) (H : Hp) (P P' : L2.St → Hp → Prop), (∀ σ H, P σ H → P' σ H) → g x σ H P → g x σ H P') :
    ∃ W : Nat → Nat → Hp → Prop, (∃ m, W 0 m (upd H1 D (.lst []))) ∧ ∀ i m H, W i m H →
      (J.stop i H ∧ Qd H) ∨ (J.go i H ∧ ∃ Nx : Hp → Prop, (∀ H', Nx H' → ∃ m', m' < m ∧ W (i + 1) m' H') ∧ ∀ x H', J.yld i H x H' → g x (wipe σ vs) H' fun σ2 H2 => wipe σ2 vs = wipe σ vs ∧ tYes σ2 H2 fun b H3 =>
        if b = true then te σ2 H3 fun y H4 => ∃ acc, H4 D = some (.lst acc) ∧ acc.length < sizeLine ∧ Nx (upd H4 D (.lst (acc ++ [y]))) else Nx H3) :=
  lc_it wk (fun i H' => Ex H1 H' ∧ ∃ ys, H' D = some (.lst ys) ∧ Paired (R H') ys ((items.take i).map m) ∧ ys.length ≤ i) ⟨Ex.nw hD, [], upd_same, .nil, Nat.zero_le _⟩ (fun i H' _ P => hG H' P.1)
    (fun i x H' H'' hi P y => by
      obtain ⟨rfl, hx⟩ := y
      have h1 : i < items.length := by rw [← hl]; exact hi
      obtain ⟨e, ys, a1, a2, a3⟩ := P
      refine gm _ _ _ _ _ (fun σ2 H2 q => ⟨q.1, q.2⟩) (hb i x items[i] _ hx (List.getElem?_eq_getElem h1) e (fun y H4 => ∃ acc, H4 D = some (.lst acc) ∧ acc.length < sizeLine ∧ _) fun y H4 e4 hy => ⟨ys, e4 _ _ a1, Evl.sz_lt (by omega), Evl.Ex.mut (e.tr e4) hD, ys ++ [y], upd_same, ?_, by rw [List.length_append]; exact Nat.add_le_add_right a3 1⟩)
      rw [List.take_add_one, List.getElem?_eq_getElem h1, Option.toList_some, List.map_append]
      exact paired_app (S.puts (e4 _ _ a1) (S.exs e4 a2)) (.cons (S.put (e4 _ _ a1) hy) .nil))
    fun H' ⟨e, ys, h1, h2, _⟩ => by
      rw [take_all hl] at h2
      exact hd H' ys e h1 h2
end
/-- a loop over zip of two lists, the second not longer -/
theorem for_zipS {K : PySem.W.Frag} {a b : Addr} {xs ys : List V} {g : TG} {tb : TS} {D : Ends} {σ : L2.St} {H : Hp} (hl : ys.length ≤ xs.length) (Pv : Nat → L2.St → Hp → Prop) (h0 : Pv 0 σ H) (hq : ∀ i σ H, Pv i σ H → SqL K H a xs ∧ SqL K H b ys)
    (hs : ∀ (i : Nat) (x y : V) (T : Addr) (σ : L2.St) (H : Hp), xs[i]? = some x → ys[i]? = some y → Pv i σ H → H T = none → g (.ref T) σ (upd H T (.tup [x, y])) fun σ2 H2 => tb { D with nx := Pv (i + 1), ct := Pv (i + 1), bk := D.nx } σ2 H2) (hd : ∀ σ H, Pv ys.length σ H → D.nx σ H) :
    ∃ W : Nat → Nat → L2.St → Hp → Prop, (∃ m, W 0 m σ H) ∧ ∀ i m σ H, W i m σ H →
      ((Itz K a b).stop i H ∧ D.nx σ H) ∨ ((Itz K a b).go i H ∧ ∃ N : L2.St → Hp → Prop, (∀ σ' H', N σ' H' → ∃ m', m' < m ∧ W (i + 1) m' σ' H') ∧ ∀ v H', (Itz K a b).yld i H v H' → g v σ H' fun σ2 H2 => tb { D with nx := N, ct := N, bk := D.nx } σ2 H2) := by
  refine ⟨fun i m σ H => m = ys.length - i ∧ i ≤ ys.length ∧ Pv i σ H, ⟨ys.length, rfl, Nat.zero_le _, h0⟩, ?_⟩
  rintro i m σ H ⟨rfl, hi, p⟩
  obtain ⟨qx, qy⟩ := hq i σ H p
  by_cases hlt : i < ys.length
  · have hy : ys[i]? = some ys[i] := List.getElem?_eq_getElem hlt
    have hlt2 : i < xs.length := by omega
    have hx : xs[i]? = some xs[i] := List.getElem?_eq_getElem hlt2
    refine .inr ⟨⟨xs, ys, _, _, qx, qy, hx, hy⟩, Pv (i + 1), fun σ' H' p' => ⟨ys.length - (i + 1), by omega, rfl, hlt, p'⟩, fun v H' y => ?_⟩
    obtain ⟨T, x', y', rfl, hT, rfl, f1, f2⟩ := y
    exact hs i x' y' T σ H (f1 xs qx) (f2 ys qy) p hT
  · have e : i = ys.length := by omega
    subst e
    exact .inl ⟨⟨xs, ys, qx, qy, Or.inr (Nat.le_refl _)⟩, hd σ H p⟩
end LapW
set_option Elab.async false
set_option linter.all false
set_option maxRecDepth 100000
set_option maxHeartbeats 4000000
namespace LapW
open PySem PySem.Spec PyProof.Rows L2 Lap

section
variable {X : Cx} {K : PySem.W.Frag}
theorem pi_listK (h : X.K = K) {tg l : Expr} {tl : TE} (hl : PE X l tl) : PI X tg l (iList K tl) := h ▸ pi_list hl
theorem call_dictNK {P : Program} {w : World} (h1 : X.prog = P) (h2 : X.w = w) (h : X.K = K) (hh : X.A.handled = none) (hu : X.A.units + 64 < cLine) : CallR X (.type "dict") (fun xs H Q => ∃ a vs items, xs = [.ref a] ∧ SqL K H a vs ∧ DtAll K H vs (items.map fun q => .tuple [q.1, q.2]) ∧ (∀ q ∈ items, (∃ k, q.1 = .tuple k) ∧ (nk q.1).depth ≤ 8) ∧ (items.map fun q => nk q.1).Nodup ∧
    ∀ p o, H p = none → DN P w K (upd H p o) p items → Q (.ref p) (upd H p o)) := h ▸ h1 ▸ h2 ▸ call_dictN hh hu
end
section
variable {P : Program} {w : World} {K : PySem.W.Frag} {mg : Str → Option Value} {base : Heap}
/-! ### _law_rules_right -/
abbrev s__law_rules_right : Stmt := top 89
abbrev N__law_rules_right : List Str := ["_law_wheel", "_law_name", "_law_rows", "_law_found", "_law_less", "_law_more", "_law_wish", "_law_many", "_law_one", "_law_late", "_law_most", "_law_thing", "_law_row", "_law_state", "_law_number_here"]
theorem sc__law_rules_right : FnScope N__law_rules_right ["_law_wheel"] (defScope s__law_rules_right) := ⟨rfl, rfl, rfl, by decide +kernel, rfl, by decide +kernel, by decide +kernel⟩
def stItems (c : Wh) : List (PyData × PyData) := (statesOf c).map fun s => (stD s, .bool true)
def DictAt (P : Program) (w : World) (K : PySem.W.Frag) (H : Hp) (x : V) (c : Wh) : Prop := ∃ d, x = .ref d ∧ DN P w K H d (stItems c)
theorem staysD {P : Program} {w : World} {K : PySem.W.Frag} : Stays (DictAt P w K) := ⟨fun e h => by
  obtain ⟨d, rfl, hd⟩ := h
  exact ⟨d, rfl, DN.ex e hd⟩, fun {H D xs ys x b} hD h => by
  obtain ⟨d, rfl, hd⟩ := h
  have hne : d ≠ D := fun z => by
    obtain ⟨kvs, ep, h1, _⟩ := hd
    rw [z, hD] at h1
    cases h1
  exact ⟨d, rfl, DN.put hd hne (Tp.w (NoTup.l hD))⟩⟩
theorem st_depth (s : Lap.St) : (nk (stD s)).depth ≤ 8 := by
  obtain ⟨r, d, t⟩ := s
  rcases r with _ | ⟨_ | a, _ | b⟩ <;> rcases d with _ | ⟨c, e⟩ <;> exact Nat.le_of_ble_eq_true rfl
def TH : List (Option Int) := [some 1, some 2, some 3, some 4, none]
theorem wok_th {u : Wh} (ok : WOk u) {r : Ru} (hr : r = .stop ∨ r = .cut) {o : Option Int} (h : o ∈ TH) : WOk (withR u r o) := by
  have ho : LimOk o := by
    unfold TH at h
    simp at h
    rcases h with rfl | rfl | rfl | rfl | rfl
    · exact ⟨by decide, by decide⟩
    · exact ⟨by decide, by decide⟩
    · exact ⟨by decide, by decide⟩
    · exact ⟨by decide, by decide⟩
    · trivial
  rcases hr with rfl | rfl
  · exact ⟨ok.fr, ho, ok.ct⟩
  · exact ⟨ok.fr, ok.st, ho⟩
theorem staysW {K : PySem.W.Frag} : Stays (WhAt K) := ⟨fun e h => e.wh h, fun {H D xs ys x b} hD h => by
  obtain ⟨a, dx, rfl, ha⟩ := h
  exact ⟨a, dx, rfl, by rw [upd_ne (fun z => by rw [z, hD] at ha; cases ha)]; exact ha⟩⟩
theorem walk_t {K : PySem.W.Frag} {a : Addr} {xs : List V} : Walk (Itt K a) xs.length (fun H => SqT K H a xs) (YAt xs) :=
  ⟨fun i H hi q => ⟨xs, xs[i], q, List.getElem?_eq_getElem hi⟩, fun H q => ⟨xs, q, Nat.le_refl _⟩, fun i H x H' _ q y => ⟨y.1, y.2 xs q⟩⟩
theorem walk_l {K : PySem.W.Frag} {a : Addr} {xs : List V} : Walk (Itl K a) xs.length (fun H => SqL K H a xs) (YAt xs) :=
  ⟨fun i H hi q => ⟨xs, xs[i], q, List.getElem?_eq_getElem hi⟩, fun H q => ⟨xs, q, Nat.le_refl _⟩, fun i H x H' _ q y => ⟨y.1, y.2 xs q⟩⟩
theorem cut_tail (xs : List V) : cutV xs (some 1) none = xs.drop 1 := by
  unfold cutV
  rw [HT.sIx_none]
  cases xs with
  | nil => rfl
  | cons a l =>
    rw [show HT.sIx (a :: l).length 0 (some 1) = 1 from by
      show min (1 : Int).toNat (l.length + 1) = 1
      exact Nat.min_eq_left (Nat.le_add_left 1 l.length)]
    exact List.take_of_length_le (by rw [List.length_drop]; exact Nat.le_refl _)
theorem cut_head (xs : List V) : cutV xs none (some 4) = xs.take 4 := by
  unfold cutV
  rw [HT.sIx_none, List.drop_zero, Nat.sub_zero, show HT.sIx xs.length xs.length (some 4) = min 4 xs.length from rfl]
  by_cases h : 4 ≤ xs.length
  · rw [Nat.min_eq_left h]
  · rw [Nat.min_eq_right (by omega), List.take_of_length_le (Nat.le_refl _), List.take_of_length_le (by omega)]
theorem paired_ixm {α β γ : Type} {R : α → β → Prop} {f : γ → β} : ∀ {as : List α} {cs : List γ} {i : Nat} {a : α}, Paired R as (cs.map f) → as[i]? = some a → ∃ c, cs[i]? = some c ∧ R a (f c)
  | [], [], _, _, _, h => by cases h
  | _ :: _, c :: cs, 0, _, .cons h _, e => by cases e; exact ⟨c, rfl, h⟩
  | _ :: _, c :: cs, i + 1, _, .cons _ t, e => paired_ixm (cs := cs) t e
theorem paired_eq {xs ys : List V} (h : Paired (fun x y => x = y) xs ys) : xs = ys := by
  induction h with
  | nil => rfl
  | cons h t ih => rw [h, ih]
theorem paired_take {α β : Type} {R : α → β → Prop} : ∀ (n : Nat) {as : List α} {bs : List β}, Paired R as bs → Paired R (as.take n) (bs.take n)
  | 0, _, _, _ => .nil
  | _ + 1, _, _, .nil => .nil
  | n + 1, _, _, .cons h t => .cons h (paired_take n t)
theorem staysE : Stays (fun (_ : Hp) (x y : V) => x = y) := ⟨fun _ h => h, fun _ h => h⟩
theorem th_le {i : Nat} {a b : Option Int} (h1 : TH[i]? = some a) (h2 : TH[i + 1]? = some b) : LimLe a b := by
  match i, h1, h2 with
  | 0, h1, h2 => cases h1; cases h2; show (1 : Int) ≤ 2; decide
  | 1, h1, h2 => cases h1; cases h2; show (2 : Int) ≤ 3; decide
  | 2, h1, h2 => cases h1; cases h2; show (3 : Int) ≤ 4; decide
  | 3, h1, h2 => cases h1; cases h2; trivial
  | i + 4, _, h2 => cases h2
theorem reach_more {u : Wh} {r : Ru} (hr : r = .stop ∨ r = .cut) {a b : Option Int} (h : LimLe a b) {s : Lap.St} (q : Reach (withR u r a) s) : Reach (withR u r b) s := by
  rcases hr with rfl | rfl
  · exact reach_stop h q
  · exact reach_cut h q
theorem mem_more {u : Wh} {r : Ru} {a b : Option Int} (ha : WOk (withR u r a)) (hb : WOk (withR u r b)) (hr : r = .stop ∨ r = .cut) (h : LimLe a b) {s : Lap.St} (q : s ∈ statesOf (withR u r a)) : s ∈ statesOf (withR u r b) :=
  (mem_ways hb s).mpr (reach_more hr h ((mem_ways ha s).mp q))
theorem any_item {c : Wh} {s : Lap.St} (h : s ∈ statesOf c) : ((stItems c).any fun q => decide (nk q.1 = nk (stD s))) = true :=
  List.any_eq_true.mpr ⟨(stD s, .bool true), List.mem_map.mpr ⟨s, h, rfl⟩, decide_eq_true rfl⟩
theorem natV_opt (o : Option Nat) : natV o = optV (o.map Int.ofNat) := by cases o <;> rfl
theorem notMore_nat {a b : Option Nat} (h : NotMore a b) : notMore (a.map Int.ofNat) (b.map Int.ofNat) = true := by
  cases b with
  | none => rfl
  | some b =>
    cases a with
    | none => exact h.elim
    | some a =>
      have h : a ≤ b := h
      exact decide_eq_true (Int.ofNat_le.mpr h)
def lcSc__law_rules_right : Scope := { kind := ScopeKind.function, names := [(Str.ofString ".0", NameKind.local), (Str.ofString "_law_row", NameKind.local), (Str.ofString "dict", NameKind.globalImplicit), (Str.ofString "all_states", NameKind.globalImplicit)], isGenerator := false, isCoroutine := false }
def spLawRules (K : PySem.W.Frag) : Sp := fun vs H Q _ => ∃ (v : V) (u : Wh), vs = [v] ∧ WhAt K H v u ∧ WOk u ∧ RetB true H Q
theorem cal__law_rules_right (T : Tx K mg) : C8.Cal P w K mg base 9 "_law_rules_right" (spLawRules K) [] := by
  refine cal_of T.g__law_rules_right T.f__law_rules_right sc__law_rules_right (fun vs H Q E h => ?_) (fun _ _ _ _ _ _ us hl => match us, hl with | [_], _ => rfl) fun cdv A outer s H vs Q E hr h => ?_
  · obtain ⟨v, u, rfl, _⟩ := h
    rfl
  · obtain ⟨v, u, rfl, hx, ok, hq⟩ := h
    have hu := hu_of hr
    have hu64 := Room.units hr
    refine ⟨_, (pss_cons (ps_for PassesOwn.never rfl (pi_tup (pe_tup (pa_cons pe_str (pa_cons pe_str pa_nil)))) (pg_name (i := 1) sc__law_rules_right.nd rfl (Or.inr rfl))
        (pss_cons (ps_setLc (i := 2) (own := [("_law_thing", 11)]) (g := (gName 11)) (tt := tYes) rfl sc__law_rules_right.nd rfl rfl (sw_true rfl rfl rfl (by decide +kernel)) (pi_tup (pe_tup (pa_cons pe_int (pa_cons pe_int (pa_cons pe_int (pa_cons pe_int (pa_cons pe_non pa_nil))))))) (blkOk_by (N := N__law_rules_right) (sc := defScope s__law_rules_right) (by decide +kernel)) (fun _ _ _ _ _ => (pg_name (i := 11) sc__law_rules_right.nd rfl (Or.inl rfl))) (fun _ _ _ _ _ => pts_nil) (fun _ _ _ _ _ => (C8.pe_mt (met_but T) hr (by decide) (pv 0) (pa_cons (pv 1) (pa_cons (pv 11) pa_nil)))))
        (pss_cons (ps_setLc (i := 3) (own := [("_law_row", 12)]) (g := (gName 12)) (tt := tYes) rfl sc__law_rules_right.nd rfl rfl (sw_true rfl rfl rfl (by decide +kernel)) (pi_list (pv 2)) (blkOk_by (N := N__law_rules_right) (sc := defScope s__law_rules_right) (by decide +kernel)) (fun _ _ _ _ _ => (pg_name (i := 12) sc__law_rules_right.nd rfl (Or.inl rfl))) (fun _ _ _ _ _ => pts_nil) (fun _ _ _ _ _ => (pe_callTy (call_dictNK (P := P) (w := w) (K := K) rfl rfl rfl hr.hd hu64) rfl T.n_dict (by decide +kernel) (pa_cons (pe_lc (own := [("_law_state", 13)]) (g := (gName 13)) (tt := tYes) rfl sc__law_rules_right.nd (pi_listK (K := K) rfl (C8.pe_c (cal_all_states T) hr (by decide) rfl (pa_cons (pv 12) pa_nil))) (blkOk_by (N := N__law_rules_right) (sc := lcSc__law_rules_right) (by decide +kernel)) (fun _ _ _ _ _ => (pg_name (i := 13) sc__law_rules_right.nd rfl (Or.inl rfl))) (fun _ _ _ _ _ => pts_nil) (fun _ _ _ _ _ => (pe_tup (pa_cons (pv 13) (pa_cons pe_bl pa_nil))))) pa_nil))))
        (pss_cons (ps_for PassesOwn.never rfl (RZ.pi_zipA rfl T.n_zip (pa_cons (pv 3) (pa_cons (pe_slice sl_list (pv 3) (po_some pe_int) po_none) pa_nil))) (pg_tup rfl (pgs_cons (pg_name (i := 4) sc__law_rules_right.nd rfl (Or.inl rfl)) (pgs_cons (pg_name (i := 5) sc__law_rules_right.nd rfl (Or.inr rfl)) pgs_nil)))
          (pss_one (ps_if (pt_not (pt_val (pe_callB (cr_all rfl) rfl T.n_all (by decide +kernel) (pa_cons (pe_lc (own := [("_law_state", 13)]) (g := (gName 13)) (tt := tYes) rfl sc__law_rules_right.nd (pi_nkeys (pv 4)) (blkOk_by (N := N__law_rules_right) (sc := defScope s__law_rules_right) (by decide +kernel)) (fun _ _ _ _ _ => (pg_name (i := 13) sc__law_rules_right.nd rfl (Or.inl rfl))) (fun _ _ _ _ _ => pts_nil) (fun _ _ _ _ _ => (pe_cmpR (op_inNK (P := P) (w := w) (K := K) rfl rfl rfl hu64) (pv 13) (pv 5) rfl))) pa_nil)))) (pss_one (ps_ret pe_bl)) pss_nil)))
        (pss_one (ps_for PassesOwn.never rfl (pi_tup (pe_tup (pa_cons pe_str (pa_cons pe_str pa_nil)))) (pg_name (i := 6) sc__law_rules_right.nd rfl (Or.inr rfl))
          (pss_cons (ps_setLc (i := 7) (own := [("_law_row", 12)]) (g := (gName 12)) (tt := tYes) rfl sc__law_rules_right.nd rfl rfl (sw_true rfl rfl rfl (by decide +kernel)) (pi_list (pv 2)) (blkOk_by (N := N__law_rules_right) (sc := defScope s__law_rules_right) (by decide +kernel)) (fun _ _ _ _ _ => (pg_name (i := 12) sc__law_rules_right.nd rfl (Or.inl rfl))) (fun _ _ _ _ _ => pts_nil) (fun _ _ _ _ _ => (C8.pe_c (cal_soonest T) hr (by decide) rfl (pa_cons (pv 12) (pa_cons (pv 6) pa_nil)))))
          (pss_cons (ps_for PassesOwn.never rfl (RZ.pi_zipA rfl T.n_zip (pa_cons (pv 7) (pa_cons (pe_slice sl_list (pv 7) (po_some pe_int) po_none) pa_nil))) (pg_tup rfl (pgs_cons (pg_name (i := 8) sc__law_rules_right.nd rfl (Or.inl rfl)) (pgs_cons (pg_name (i := 9) sc__law_rules_right.nd rfl (Or.inl rfl)) pgs_nil)))
            (pss_one (ps_if (PW.pt (pw_and (pt_cmpR op_eq (pv 1) pe_str (nomark _)) (pw_and1 (pt_not (pt_val (C8.pe_c (cal__law_not_more T) hr (by decide) rfl (pa_cons (pv 9) (pa_cons (pv 8) pa_nil)))))))) (pss_one (ps_ret pe_bl)) pss_nil)))
          (pss_cons (ps_set (i := 10) sc__law_rules_right.nd rfl (Or.inr rfl) (C8.pe_c (cal_greatest_number T) hr (by decide) rfl (pa_cons (pv 0) (pa_cons (pv 1) (pa_cons (pv 6) pa_nil)))))
          (pss_one (ps_if (pt_cmpR (op_neD hu64) (pe_lc (own := [("_law_row", 12)]) (g := (gName 12)) (tt := tYes) rfl sc__law_rules_right.nd (pi_list (pe_slice sl_list (pv 2) po_none (po_some pe_int))) (blkOk_by (N := N__law_rules_right) (sc := defScope s__law_rules_right) (by decide +kernel)) (fun _ _ _ _ _ => (pg_name (i := 12) sc__law_rules_right.nd rfl (Or.inl rfl))) (fun _ _ _ _ _ => pts_nil) (fun _ _ _ _ _ => (C8.pe_c (cal_is_safe T) hr (by decide) rfl (pa_cons (pv 12) (pa_cons (pv 6) pa_nil))))) (pe_lc (own := [("_law_number_here", 14)]) (g := (gName 14)) (tt := tYes) rfl sc__law_rules_right.nd (pi_tup (pe_tup (pa_cons pe_int (pa_cons pe_int (pa_cons pe_int (pa_cons pe_int pa_nil)))))) (blkOk_by (N := N__law_rules_right) (sc := defScope s__law_rules_right) (by decide +kernel)) (fun _ _ _ _ _ => (pg_name (i := 14) sc__law_rules_right.nd rfl (Or.inl rfl))) (fun _ _ _ _ _ => pts_nil) (fun _ _ _ _ _ => (pe_cmpR op_le (pv 14) (pv 10) (nomark _)))) (nomark _)) (pss_one (ps_ret pe_bl)) pss_nil)))))))))))
      (pss_one (ps_ret (pe_and (C8.pe_c (cal_is_safe T) hr (by decide) rfl (pa_cons (C8.pe_mt (met_but T) hr (by decide) (pv 0) (pa_cons pe_str (pa_cons pe_str pa_nil))) (pa_cons pe_str pa_nil))) (pe_one (C8.pe_c (cal_is_safe T) hr (by decide) rfl (pa_cons (C8.pe_mt (met_but T) hr (by decide) (pv 0) (pa_cons pe_str (pa_cons pe_non pa_nil))) (pa_cons pe_str pa_nil)))))))), ?_⟩
    refine seq_cut (fun σ' H' => ∃ o1 o2 o3 o4 o5 o6 o7 o8 o9 o10, σ' = [some v, o1, o2, o3, o4, o5, o6, o7, o8, o9, o10, none, none, none, none] ∧ Ex H H') ?_ fun hn => ?_
    · rintro σ' H1 ⟨o1, o2, o3, o4, o5, o6, o7, o8, o9, o10, rfl, e1⟩
      obtain ⟨a, dx, rfl, ha⟩ := id (e1.wh hx)
      have okh : WOk { u with hold := true } := ⟨ok.fr, ok.st, ok.ct⟩
      have oks : WOk (withStop u none) := ⟨ok.fr, trivial, ok.ct⟩
      refine ⟨_, rfl, a, dx, _, rfl, ha, rfl, _, u, .hold, .str "yes", rfl, ⟨a, dx, rfl, ha⟩, ok, by decide, { u with hold := true }, ⟨true, rfl, rfl⟩, okh, fun y H2 e2 hy => ?_⟩
      refine ⟨y, _, .early, rfl, hy, okh, fun H3 e3 => ⟨true, by rw [safe_early okh rfl], iteT ?_⟩⟩
      have ha3 := (e2.tr e3) _ _ ha
      refine ⟨_, rfl, a, dx, _, rfl, ha3, rfl, _, u, .stop, .non, rfl, ⟨a, dx, rfl, ha3⟩, ok, by decide, withStop u none, ⟨none, rfl, rfl⟩, oks, fun y2 H4 e4 hy2 => ?_⟩
      refine ⟨y2, _, .stands, rfl, hy2, oks, fun H5 e5 => ?_⟩
      rw [safe_stands oks rfl]
      exact hq _ ((((e1.tr e2).tr e3).tr e4).tr e5)
    refine ⟨by show 2 ≤ sizeLine; decide, fun t0 ht0 => ⟨t0, rfl, ⟨_, sqt_new⟩, ?_⟩⟩
    have e0 : Ex H (upd H t0 (.tup [.str "stop", .str "cut"])) := Ex.nw ht0
    refine for_tup (xs := [V.str "stop", V.str "cut"]) (fun i σ' H' => ∃ o1 o2 o3 o4 o5 o6 o7 o8 o9 o10, σ' = [some v, o1, o2, o3, o4, o5, o6, o7, o8, o9, o10, none, none, none, none] ∧ Ex (upd H t0 (.tup [.str "stop", .str "cut"])) H') ⟨_, _, _, _, _, _, _, _, _, _, rfl, Ex.rfl' _⟩ ?_ ?_ ?_
    · rintro i σ' H' _ ⟨o1, o2, o3, o4, o5, o6, o7, o8, o9, o10, _, e⟩
      exact e.t sqt_new
    · rintro i y σ' H1 hi ⟨o1, o2, o3, o4, o5, o6, o7, o8, o9, o10, rfl, e⟩
      obtain ⟨r, rfl, hr2⟩ : ∃ r, y = .str (ruS r) ∧ (r = .stop ∨ r = .cut) := by
        match i, hi with
        | 0, hi => cases hi; exact ⟨.stop, rfl, .inl rfl⟩
        | 1, hi => cases hi; exact ⟨.cut, rfl, .inr rfl⟩
      have hx1 := e.wh (e0.wh hx)
      refine seq_cut (fun σ' H' => ∃ p2 rs o3 o4 o5 o6 o7 o8 o9 o10, σ' = [some v, some (.str (ruS r)), some (.ref p2), o3, o4, o5, o6, o7, o8, o9, o10, none, none, none, none] ∧ Ex H1 H' ∧ H' p2 = some (.lst rs) ∧ Paired (WhAt K H') rs (TH.map (withR u r))) ?_ fun hn1 => ?_
      rotate_left
      · refine ⟨by show 5 ≤ sizeLine; decide, fun t1 ht1 => ⟨t1, rfl, ⟨_, sqt_new⟩, fun D hD => ?_⟩⟩
        refine lc_R staysW (items := TH) (m := withR u r) (walk_t (K := K) (xs := TH.map optV)) (fun H' e' => e'.t sqt_new) rfl (by show 5 < 100000; decide) hD (fun i2 x q H' hi2 hq2 e' Qy hy => ?_) (fun H' ys e' hD' pr => hn1 _ _ ⟨D, ys, _, _, _, _, _, _, _, _, rfl, (Ex.nw ht1).tr e', hD', pr⟩) (fun x σ H P P' h q => h _ _ q)
        have ex := map_at (f := optV) (l := TH) hi2 hq2
        subst ex
        obtain ⟨a, dx, rfl, ha⟩ := id (((Ex.nw ht1).tr e').wh hx1)
        refine ⟨rfl, _, rfl, a, dx, _, rfl, ha, rfl, _, rfl, _, rfl, _, u, r, optV q, rfl, ⟨a, dx, rfl, ha⟩, ok, (by rcases hr2 with rfl | rfl <;> decide), withR u r q, (by rcases hr2 with rfl | rfl <;> exact ⟨q, rfl, rfl⟩), wok_th ok hr2 (List.mem_of_getElem? hq2), fun y H3 e3 hy3 => hy y H3 e3 hy3⟩
      rintro σ' H2 ⟨p2, rs, o3, o4, o5, o6, o7, o8, o9, o10, rfl, e2, hp2, prs⟩
      have okc : ∀ c ∈ TH.map (withR u r), WOk c := fun c hc => by
        obtain ⟨q, hq', rfl⟩ := List.mem_map.mp hc
        exact wok_th ok hr2 hq'
      have lrs : rs.length = 5 := (Paired.length prs).trans rfl
      refine seq_cut (fun σ' H' => ∃ p3 ds o4 o5 o6 o7 o8 o9 o10, σ' = [some v, some (.str (ruS r)), some (.ref p2), some (.ref p3), o4, o5, o6, o7, o8, o9, o10, none, none, none, none] ∧ Ex H2 H' ∧ H' p3 = some (.lst ds) ∧ Paired (DictAt P w K H') ds (TH.map (withR u r))) ?_ fun hn2 => ?_
      rotate_left
      · refine ⟨_, rfl, p2, rfl, ⟨_, SqL.of hp2⟩, fun D hD => ?_⟩
        refine lc_R staysD (items := TH.map (withR u r)) (m := fun c => c) (walk_l (K := K) (xs := rs)) (fun H' e' => e'.l (SqL.of hp2)) (Paired.length prs) (by rw [lrs]; decide) hD (fun i2 x c H' hi2 hq2 e' Qy hy => ?_) (fun H' ys e' hD' pr => hn2 _ _ ⟨D, ys, _, _, _, _, _, _, _, rfl, e', hD', by rw [List.map_id'] at pr; exact pr⟩) (fun x σ H P P' h q => h _ _ q)
        have hc := okc c (List.mem_of_getElem? hq2)
        have hw := staysW.ex e' (paired_at2 prs hi2 hq2)
        have g := (ways_good hc).base
        refine ⟨rfl, _, rfl, x, c, rfl, hw, hc, fun p xs H3 hp e3 hl3 dl3 => ⟨p, rfl, ⟨xs, SqL.of hl3⟩, fun D2 hD2 => ?_⟩⟩
        have lxs : xs.length = (statesOf c).length := by rw [dpa_len dl3, List.length_map]
        have lst : (statesOf c).length ≤ 1170 := by
          unfold statesOf
          rw [List.length_map]
          exact g.len
        refine lc_listD (K := K) (items := statesOf c) (p := fun _ => true) (m := fun s => .tuple [stD s, .bool true]) (SqL.of hl3) lxs (by omega) hD2 (fun i3 y q H4 hi3 hq3 e4 Qn Qy2 n1 n2 => ?_) fun H4 ys e4 hD4 dy => ?_
        · have dyq := dpa_map dl3 hi3 hq3
          exact ⟨rfl, iteT (B := True) ⟨_, rfl, by show 2 ≤ sizeLine; decide, fun p6 hp6 => n2 rfl _ _ (Ex.nw hp6) (.tup sqt_new (.cons ((Ex.nw hp6).d (e4.d dyq)) (.cons (.bl _) .nil)))⟩⟩
        · have hf : (statesOf c).filter (fun _ => true) = statesOf c := List.filter_eq_self.mpr fun _ _ => rfl
          rw [hf] at dy
          refine ⟨D2, ys, stItems c, rfl, SqL.of hD4, by unfold stItems; rw [List.map_map]; exact dy, fun q hq' => ?_, ?_, fun p5 o5 hp5 dn5 => hy _ _ ((e3.tr e4).nx hp5) ⟨p5, rfl, dn5⟩⟩
          · obtain ⟨s, _, rfl⟩ := List.mem_map.mp hq'
            exact ⟨⟨_, rfl⟩, st_depth s⟩
          · unfold stItems
            rw [List.map_map]
            have nd := g.nd
            unfold statesOf
            unfold List.Nodup at nd ⊢
            rw [List.pairwise_map]
            exact nd.imp fun hab z => hab (nk_st z)
      rintro σ' H3 ⟨p3, ds, o4, o5, o6, o7, o8, o9, o10, rfl, e3, hp3, pds⟩
      have lds : ds.length = 5 := (Paired.length pds).trans rfl
      refine seq_cut (fun σ' H' => ∃ o4 o5 o6 o7 o8 o9 o10, σ' = [some v, some (.str (ruS r)), some (.ref p2), some (.ref p3), o4, o5, o6, o7, o8, o9, o10, none, none, none, none] ∧ Ex H3 H') ?_ fun hn3 => ?_
      rotate_left
      · refine ⟨_, rfl, _, rfl, _, rfl, p3, _, rfl, SqL.of hp3, ?_⟩
        rw [cut_tail]
        refine fun l1 hl1 => ⟨p3, l1, ds, ds.drop 1, rfl, .inl ⟨SqL.of ((Ex.nw hl1) _ _ hp3), sql_new, ?_⟩⟩
        refine for_zipS (xs := ds) (ys := ds.drop 1) (by rw [List.length_drop]; omega) (fun i σ' H' => ∃ o4 o5 o6 o7 o8 o9 o10, σ' = [some v, some (.str (ruS r)), some (.ref p2), some (.ref p3), o4, o5, o6, o7, o8, o9, o10, none, none, none, none] ∧ Ex (upd H3 l1 (.lst (ds.drop 1))) H') ⟨_, _, _, _, _, _, _, rfl, Ex.rfl' _⟩ (fun i σ' H' h => ?_) ?_ ?_
        · obtain ⟨_, _, _, _, _, _, _, _, e⟩ := h
          exact ⟨e.l (SqL.of ((Ex.nw hl1) _ _ hp3)), e.l sql_new⟩
        · rintro i x y T2 σ' H' hx' hy' ⟨o4, o5, o6, o7, o8, o9, o10, rfl, e⟩ hT2
          refine ⟨T2, _, rfl, sqt_new, rfl, _, _, rfl, _, _, rfl, rfl, ?_⟩
          rw [List.getElem?_drop, Nat.add_comm] at hy'
          obtain ⟨q1, hq1, d1, rfl, dn1⟩ := paired_ixm pds hx'
          obtain ⟨q2, hq2, d2, rfl, dn2⟩ := paired_ixm pds hy'
          have eT : Ex H3 (upd H' T2 (.tup [.ref d1, .ref d2])) := ((Ex.nw hl1).tr e).nx hT2
          have ok1 : WOk (withR u r q1) := wok_th ok hr2 (List.mem_of_getElem? hq1)
          have ok2 : WOk (withR u r q2) := wok_th ok hr2 (List.mem_of_getElem? hq2)
          have hle := th_le hq1 hq2
          obtain ⟨kvs, ep, hd1, he1⟩ := DN.ex eT dn1
          refine ⟨_, rfl, d1, kvs, ep, rfl, hd1, fun D hD => ?_⟩
          have dks : DtAll K (upd H' T2 (.tup [.ref d1, .ref d2])) (kvs.map fun e => V.ref e.2.1) ((statesOf (withR u r q1)).map stD) := by
            have := ents_keys he1
            unfold stItems at this
            rw [List.map_map] at this
            exact this
          have lks : (kvs.map fun e => V.ref e.2.1).length = (statesOf (withR u r q1)).length := (dpa_len dks).trans (List.length_map _)
          have lst : (statesOf (withR u r q1)).length ≤ 1170 := by
            unfold statesOf
            rw [List.length_map]
            exact (ways_good ok1).base.len
          refine lc_D (K := K) (items := statesOf (withR u r q1)) (p := fun _ => true) (m := fun _ => .bool true) walk_n (fun H' e' => e' _ _ hd1) lks (by omega) hD (fun i3 z s H4 hi3 hq3 e4 Qn Qy n1 n2 => ?_) fun H4 ys e4 hD4 dy => ?_
          · have dz := dpa_map dks hi3 hq3
            refine ⟨rfl, iteT (B := True) ⟨_, rfl, _, rfl, d2, _, stItems (withR u r q2), rfl, DN.ex (eT.tr e4) dn2, e4.d dz, st_depth s, ?_⟩⟩
            show Qy (V.bl ((stItems (withR u r q2)).any fun q => decide (nk q.1 = nk (stD s)))) H4
            rw [any_item (mem_more ok1 ok2 hr2 hle (List.mem_of_getElem? hq3))]
            exact n2 rfl _ _ (Ex.rfl' _) (.bl _)
          · have hf : (statesOf (withR u r q1)).filter (fun _ => true) = statesOf (withR u r q1) := List.filter_eq_self.mpr fun _ _ => rfl
            rw [hf] at dy
            have dyb : DtAll K H4 ys (((statesOf (withR u r q1)).map fun _ => true).map PyData.bool) := by rw [List.map_map]; exact dy
            have ey := dta_bl dyb
            subst ey
            have hall : ((statesOf (withR u r q1)).map fun _ => true).all id = true := by
              rw [List.all_map]
              exact List.all_eq_true.mpr fun _ _ => rfl
            exact ⟨D, _, rfl, SqL.of hD4, true, by rw [hall], iteF ⟨_, _, _, _, _, _, _, rfl, ((e.nx hT2).tr e4)⟩⟩
        · rintro σ' H' ⟨o4, o5, o6, o7, o8, o9, o10, rfl, e⟩
          exact hn3 _ _ ⟨_, _, _, _, _, _, _, rfl, (Ex.nw hl1).tr e⟩
      rintro σ' H4 ⟨o4, o5, o6, o7, o8, o9, o10, rfl, e4⟩
      refine ⟨by show 2 ≤ sizeLine; decide, fun t2 ht2 => ⟨t2, rfl, ⟨_, sqt_new⟩, ?_⟩⟩
      refine for_tup (xs := [V.str "ghost", V.str "gone"]) (fun i σ' H' => ∃ o4 o5 o6 o7 o8 o9 o10, σ' = [some v, some (.str (ruS r)), some (.ref p2), some (.ref p3), o4, o5, o6, o7, o8, o9, o10, none, none, none, none] ∧ Ex (upd H4 t2 (.tup [.str "ghost", .str "gone"])) H') ⟨_, _, _, _, _, _, _, rfl, Ex.rfl' _⟩ ?_ ?_ ?_
      · rintro i σ' H' _ ⟨o4, o5, o6, o7, o8, o9, o10, _, e⟩
        exact e.t sqt_new
      · rintro j y σ' H5 hj ⟨o4, o5, o6, o7, o8, o9, o10, rfl, e5⟩
        obtain ⟨k, rfl, hk⟩ : ∃ k, y = .str (wishS k) ∧ Plain k := by
          match j, hj with
          | 0, hj => cases hj; exact ⟨.ghost, rfl, .inl rfl⟩
          | 1, hj => cases hj; exact ⟨.gone, rfl, .inr rfl⟩
        have e25 : Ex H2 H5 := (e3.tr e4).tr ((Ex.nw ht2).tr e5)
        have hx5 : WhAt K H5 v u := (e2.tr e25).wh hx1
        have hp5 := e25 _ _ hp2
        have prs5 := staysW.exs e25 prs
        refine seq_cut (fun σ' H' => ∃ p7 o8 o9 o10, σ' = [some v, some (.str (ruS r)), some (.ref p2), some (.ref p3), o4, o5, some (.str (wishS k)), some (.ref p7), o8, o9, o10, none, none, none, none] ∧ Ex H5 H' ∧ H' p7 = some (.lst (TH.map fun q => natV (soon (withR u r q) k)))) ?_ fun hn5 => ?_
        rotate_left
        · refine ⟨_, rfl, p2, rfl, ⟨_, SqL.of hp5⟩, fun D hD => ?_⟩
          refine lc_R staysE (items := TH.map (withR u r)) (m := fun c => natV (soon c k)) (walk_l (K := K) (xs := rs)) (fun H' e' => e'.l (SqL.of hp5)) (Paired.length prs) (by rw [lrs]; decide) hD (fun i2 x c H' hi2 hq2 e' Qy hy => ?_) (fun H' ys e' hD' pr => hn5 _ _ ⟨D, _, _, _, rfl, e', by rw [paired_eq pr, List.map_map] at hD'; exact hD'⟩) (fun x σ H P P' h q => h _ _ q)
          have hc := okc c (List.mem_of_getElem? hq2)
          have hw := staysW.ex e' (paired_at2 prs5 hi2 hq2)
          exact ⟨rfl, _, rfl, _, rfl, x, c, k, rfl, hw, hc, fun H6 e6 => hy _ _ e6 rfl⟩
        rintro σ' H6 ⟨p7, o8, o9, o10, rfl, e6, hp7⟩
        refine seq_cut (fun σ' H' => ∃ o8 o9 o10, σ' = [some v, some (.str (ruS r)), some (.ref p2), some (.ref p3), o4, o5, some (.str (wishS k)), some (.ref p7), o8, o9, o10, none, none, none, none] ∧ Ex H6 H') ?_ fun hn6 => ?_
        rotate_left
        · refine ⟨_, rfl, _, rfl, _, rfl, p7, _, rfl, SqL.of hp7, ?_⟩
          rw [cut_tail]
          refine fun l1 hl1 => ⟨p7, l1, TH.map fun q => natV (soon (withR u r q) k), (TH.map fun q => natV (soon (withR u r q) k)).drop 1, rfl, .inl ⟨SqL.of ((Ex.nw hl1) _ _ hp7), sql_new, ?_⟩⟩
          refine for_zipS (xs := TH.map fun q => natV (soon (withR u r q) k)) (ys := (TH.map fun q => natV (soon (withR u r q) k)).drop 1) (by rw [List.length_drop]; omega) (fun i σ' H' => ∃ o8 o9 o10, σ' = [some v, some (.str (ruS r)), some (.ref p2), some (.ref p3), o4, o5, some (.str (wishS k)), some (.ref p7), o8, o9, o10, none, none, none, none] ∧ Ex (upd H6 l1 (.lst ((TH.map fun q => natV (soon (withR u r q) k)).drop 1))) H') ⟨_, _, _, rfl, Ex.rfl' _⟩ (fun i σ' H' h => ?_) ?_ ?_
          · obtain ⟨_, _, _, _, e⟩ := h
            exact ⟨e.l (SqL.of ((Ex.nw hl1) _ _ hp7)), e.l sql_new⟩
          · rintro i x y T2 σ' H' hx' hy' ⟨o8, o9, o10, rfl, e⟩ hT2
            refine ⟨T2, _, rfl, sqt_new, rfl, _, _, rfl, _, _, rfl, rfl, ?_⟩
            rw [List.getElem?_drop, Nat.add_comm] at hy'
            rw [List.getElem?_map] at hx' hy'
            obtain ⟨q1, hq1, rfl⟩ := Option.map_eq_some_iff.mp hx'
            obtain ⟨q2, hq2, rfl⟩ := Option.map_eq_some_iff.mp hy'
            have hle := th_le hq1 hq2
            rcases hr2 with rfl | rfl
            · refine ⟨_, rfl, rfl, true, rfl, iteT ⟨_, rfl, _, rfl, (soon (withR u .stop q2) k).map Int.ofNat, (soon (withR u .stop q1) k).map Int.ofNat, by rw [natV_opt, natV_opt]; rfl, fun H7 e7 => ⟨true, congrArg V.bl (notMore_nat (soon_stop hk (wok_th ok (.inl rfl) (List.mem_of_getElem? hq1)) (wok_th ok (.inl rfl) (List.mem_of_getElem? hq2)) hle)), iteF ⟨_, _, _, rfl, (e.nx hT2).tr e7⟩⟩⟩⟩
            · exact ⟨_, rfl, rfl, false, rfl, iteF ⟨_, _, _, rfl, e.nx hT2⟩⟩
          · rintro σ' H' ⟨o8, o9, o10, rfl, e⟩
            exact hn6 _ _ ⟨_, _, _, rfl, (Ex.nw hl1).tr e⟩
        rintro σ' H7 ⟨o8, o9, o10, rfl, e7⟩
        have e57 : Ex H5 H7 := e6.tr e7
        refine seq_cut (fun σ' H' => σ' = [some v, some (.str (ruS r)), some (.ref p2), some (.ref p3), o4, o5, some (.str (wishS k)), some (.ref p7), o8, o9, some (.int (greatestN fun i => safe (withR u r (some i)) k)), none, none, none, none] ∧ Ex H7 H') ?_ fun hn7 => ?_
        rotate_left
        · exact ⟨_, rfl, _, rfl, _, rfl, v, u, r, k, rfl, e57.wh hx5, ok, hr2, by rcases hk with rfl | rfl <;> decide, fun H8 e8 => hn7 _ _ ⟨rfl, e8⟩⟩
        rintro σ' H8 ⟨rfl, e8⟩
        have e58 := e57.tr e8
        have hp8 := e58 _ _ hp5
        have prs8 := staysW.exs e58 prs5
        refine ⟨_, rfl, _, rfl, p2, _, rfl, SqL.of hp8, ?_⟩
        rw [cut_head]
        refine fun l2 hl2 => ⟨l2, rfl, ⟨_, sql_new⟩, fun D hD => ?_⟩
        have prt := paired_take 4 prs8
        refine lc_listD (K := K) (items := (TH.map (withR u r)).take 4) (p := fun _ => true) (m := fun c => .bool (safe c k)) sql_new (Paired.length prt) (by rw [Paired.length prt]; show 4 < 100000; decide) hD (fun i2 x c H' hi2 hq2 e' Qn Qy n1 n2 => ?_) fun H9 ys e9 hD9 dy => ?_
        · have hc := okc c (List.mem_of_mem_take (List.mem_of_getElem? hq2))
          have hw := staysW.ex ((Ex.nw hl2).tr e') (paired_at2 prt hi2 hq2)
          exact ⟨rfl, iteT (B := True) ⟨_, rfl, _, rfl, x, c, k, rfl, hw, hc, fun H9 e9 => n2 rfl _ _ e9 (.bl _)⟩⟩
        refine ⟨by show 4 ≤ sizeLine; decide, fun t3 ht3 => ⟨t3, rfl, ⟨_, sqt_new⟩, fun D2 hD2 => ?_⟩⟩
        refine lc_tupD (K := K) (items := [(1 : Int), 2, 3, 4]) (p := fun _ => true) (m := fun n => .bool (decide (n ≤ greatestN fun i => safe (withR u r (some i)) k))) sqt_new rfl (by show 4 < 100000; decide) hD2 (fun i2 x n H' hi2 hq2 e' Qn Qy n1 n2 => ?_) fun H10 ys2 e10 hD10 dy2 => ?_
        · have ex : x = V.int n := map_at (f := V.int) (l := [(1 : Int), 2, 3, 4]) hi2 hq2
          subst ex
          exact ⟨rfl, iteT (B := True) ⟨_, rfl, _, rfl, _, _, rfl, rfl, n2 rfl _ _ (Ex.rfl' _) (.bl _)⟩⟩
        have hd9 := ((Ex.nw ht3).tr e10) _ _ hD9
        refine ⟨_, _, .lst (SqL.of hd9) ((((Ex.nw ht3).tr e10).da dy).dp), .lst (SqL.of hD10) dy2.dp, shaped_bools [safe (withR u r (some 1)) k, safe (withR u r (some 2)) k, safe (withR u r (some 3)) k, safe (withR u r (some 4)) k], shaped_bools [decide (1 ≤ greatestN fun i => safe (withR u r (some i)) k), decide (2 ≤ greatestN fun i => safe (withR u r (some i)) k), decide (3 ≤ greatestN fun i => safe (withR u r (some i)) k), decide (4 ≤ greatestN fun i => safe (withR u r (some i)) k)], false, ?_, iteF ⟨_, _, _, _, _, _, _, rfl, ((e5.tr e58).tr ((Ex.nw hl2).tr e9)).tr ((Ex.nw ht3).tr e10)⟩⟩
        have sm : ∀ a b : Int, 1 ≤ a → a ≤ b → b ≤ 4 → safe (withR u r (some b)) k = true → safe (withR u r (some a)) k = true := fun a b h1 h2 h3 => safe_less hk (wok_r ok hr2 h1 (by omega)) (wok_r ok hr2 (by omega) h3) fun s => reach_more hr2 (show LimLe (some a) (some b) from h2)
        have gr := greatest_row (f := fun i => safe (withR u r (some i)) k) (sm 1 2 (by decide) (by decide) (by decide)) (sm 2 3 (by decide) (by decide) (by decide)) (sm 3 4 (by decide) (by decide) (by decide))
        have ee := eqv_bools [safe (withR u r (some 1)) k, safe (withR u r (some 2)) k, safe (withR u r (some 3)) k, safe (withR u r (some 4)) k] [decide (1 ≤ greatestN fun i => safe (withR u r (some i)) k), decide (2 ≤ greatestN fun i => safe (withR u r (some i)) k), decide (3 ≤ greatestN fun i => safe (withR u r (some i)) k), decide (4 ≤ greatestN fun i => safe (withR u r (some i)) k)]
        rw [decide_eq_true gr] at ee
        exact congrArg (fun b => V.bl (!b)) ee
      · rintro σ' H5 ⟨o4, o5, o6, o7, o8, o9, o10, rfl, e5⟩
        exact ⟨_, _, _, _, _, _, _, _, _, _, rfl, (e.tr (e2.tr (e3.tr e4))).tr ((Ex.nw ht2).tr e5)⟩
    · rintro σ' H1 ⟨o1, o2, o3, o4, o5, o6, o7, o8, o9, o10, rfl, e⟩
      exact hn _ _ ⟨o1, o2, o3, o4, o5, o6, o7, o8, o9, o10, rfl, e0.tr e⟩
end
end LapW
set_option Elab.async false
set_option linter.all false
set_option maxRecDepth 100000
set_option maxHeartbeats 4000000
namespace LapW
open PySem PySem.Spec PyProof.Rows L2 Lap

section
variable {P : Program} {w : World} {K : PySem.W.Frag} {mg : Str → Option Value} {base : Heap}
/-! ### law -/
abbrev s_law : Stmt := top 92
abbrev N_law : List Str := ["_law_script", "_law_rules", "_law_seed", "_law_wheel"]
theorem sc_law : FnScope N_law ["_law_script"] (defScope s_law) := ⟨rfl, rfl, rfl, by decide +kernel, rfl, by decide +kernel, by decide +kernel⟩
theorem ok_of {x : Str} {st : Stmt} {f : Addr} {fd : FuncData} {N ps : List Str} {k : Nat} {sp : Sp} (F : FunD K x x (defArgs st) (defBody st) (defScope st) [] [] f fd) (S : FnScope N ps (defScope st)) (len : ∀ vs H Q E, sp vs H Q E → vs.length = ps.length)
    (hbody : ∀ (cdv : Value) (A : Around) (outer : List Env) (s : Shared) (H : Hp) (vs : List V) (Q : VK) (E : XK), Room k (A.deeper (envOfC x (defScope st) s.heap.objs.size f cdv)) → sp vs H Q E →
      ∃ t, PSs (cxOf C8.CX0 P w K mg base N x (defScope st) f cdv A outer s H E).nox (defBody st) t ∧ t { nx := fun _ H' => Q .non H', rt := Q } (start N vs) H) : FnOk P w K mg base C8.CX0 (k + 1) f fd ps sp :=
  F.ok S len fun cdv A outer s H vs Q E hr hs => by
    obtain ⟨t, ht, q⟩ := hbody cdv A outer s H vs Q E hr hs
    exact ⟨t, ht.nox, q⟩
def spLaw (K : PySem.W.Frag) : Sp := fun vs H Q _ => ∃ (a : Addr) (ns : List Int), vs = [.ref a] ∧ LamX.Tabs (acTT K) H ∧ SqL K H a (ns.map V.int) ∧ ∀ H', Q (.bl true) H'
theorem ok_law (T : Tx K mg) (TB : TBx base mg K) {fd : FuncData} (F : FunD K "law" "law" (defArgs s_law) (defBody s_law) (defScope s_law) [] [] (He.ga K "law") fd) : FnOk P w K mg base C8.CX0 11 (He.ga K "law") fd ["_law_script"] (spLaw K) := by
  refine ok_of F sc_law (fun vs H Q E h => ?_) fun cdv A outer s H vs Q E hr h => ?_
  · obtain ⟨a, ns, rfl, _⟩ := h
    rfl
  · obtain ⟨a, ns, rfl, hT, hs, hq⟩ := h
    refine ⟨_, (pss_cons (ps_par (i := 1) (j := 2) rfl sc_law.nd rfl rfl (by decide) rfl rfl (pa_cons (C8.pe_c (cal__law_small T) hr (by decide) rfl (pa_cons (pv 0) (pa_cons pe_int pa_nil))) (pa_cons (pe_callTy call_int1 rfl T.n_int (by decide +kernel) (pa_cons (C8.pe_c (cal__law_number T) hr (by decide) rfl (pa_cons (pv 0) (pa_cons pe_int pa_nil))) pa_nil)) pa_nil)) rfl)
      (pss_cons (ps_if (PW.pt (pw_and (pt_cmpR op_notIn_seq (pe_ix ix_tup (pv 1) pe_int (fun _ _ => rfl)) (pe_tup (pa_cons pe_int (pa_cons pe_int (pa_cons pe_int pa_nil)))) rfl) (pw_and1 (pt_cmpR op_gt (pe_op op_mod (pe_callTy call_int1 rfl T.n_int (by decide +kernel) (pa_cons (pv 2) pa_nil)) pe_int) pe_int (nomark _))))) (pss_one (ps_set (i := 1) sc_law.nd rfl (Or.inl rfl) (pe_op op_catT (pe_op op_catT (pe_slice sl_tup (pv 1) po_none (po_some pe_int)) (pe_tup (pa_cons (pe_op op_add pe_int (pe_op op_mod (pe_callTy call_int1 rfl T.n_int (by decide +kernel) (pa_cons (pv 2) pa_nil)) pe_int)) pa_nil))) (pe_slice sl_tup (pv 1) (po_some pe_int) po_none)))) pss_nil)
      (pss_cons (ps_set (i := 3) sc_law.nd rfl (Or.inl rfl) (C8.pe_c (cal__law_made T) hr (by decide) rfl (pa_cons (pv 1) pa_nil)))
      (pss_cons (ps_if (PW.pt (pw_and (pt_cmpR op_eq (pe_op op_mod (pe_callTy call_int1 rfl T.n_int (by decide +kernel) (pa_cons (pe_op op_fdiv (pv 2) pe_int) pa_nil)) pe_int) pe_int (nomark _)) (pw_and1 (pt_not (pt_val (C8.pe_c (cal__law_rules_right T) hr (by decide) rfl (pa_cons (pv 3) pa_nil))))))) (pss_one (ps_ret pe_bl)) pss_nil)
      (pss_one (ps_ret (pe_and (C8.pe_c (cal__law_history_right T) hr (by decide) rfl (pa_cons (pv 3) pa_nil)) (pe_one (C8.pe_c (cal__law_costs_right T TB) hr (by decide) rfl (pa_cons (pv 0) (pa_cons (pv 1) (pa_cons (pv 3) pa_nil)))))))))))), ?_⟩
    refine ⟨_, rfl, a, 0, ns, rfl, hs, by decide, by decide, fun p u H1 e1 ok hp => ⟨_, rfl, a, 3, ns, rfl, e1.l hs, by decide, by decide, fun n H2 e2 => .inl ⟨n, rfl, _, _, rfl, ?_⟩⟩⟩
    have hp2 := e2 _ _ hp
    refine nx_cut (fun σ' H' => ∃ p' u', σ' = [some (.ref a), some (.ref p'), some (.int n), none] ∧ Ex H2 H' ∧ H' p' = some (.tup (.int 4 :: rulesV u')) ∧ WOk u') ?_ fun hn => ?_
    rotate_left
    · refine ⟨_, rfl, p, _, 2, _, rfl, rfl, .inl (.inl hp2), rfl, by show 3 ≤ sizeLine; decide, fun t1 ht1 => ⟨t1, _, rfl, .inr sqt_new, flat_opt _, rfl, !inV (optV u.stop) [.int 1, .int 2, .int 3], rfl, ?_⟩⟩
      have e3 := Ex.nw (H := H2) (o := .tup [V.int 1, V.int 2, V.int 3]) ht1
      by_cases hb : (!inV (optV u.stop) [.int 1, .int 2, .int 3]) = true
      · rw [hb]
        refine iteT ⟨_, rfl, .inl ⟨_, rfl, _, _, rfl, rfl, (by show (0 : Int) < _; decide), _, _, rfl, rfl, decide (n % 4 > 0), rfl, ?_⟩⟩
        by_cases hm : n % 4 > 0
        · rw [decide_eq_true hm]
          refine iteT ⟨_, rfl, _, rfl, p, _, rfl, .inl (.inl (e3 _ _ hp2)), by show ¬(HT.sIx 5 0 none = 0 ∧ HT.sIx 5 5 (some 2) = 5); decide, fun q1 hq1 => ?_⟩
          refine ⟨_, rfl, .inl ⟨_, rfl, _, _, rfl, rfl, (by show (0 : Int) < _; decide), _, _, rfl, rfl, by show 1 ≤ sizeLine; decide, fun q2 hq2 => ?_⟩⟩
          refine ⟨q1, q2, [.int 4, .int u.freeze], [.int (1 + n % 3)], rfl, rfl, (Ex.nw hq2).t sqt_new, sqt_new, List.cons_ne_nil _ _, by show 3 ≤ sizeLine; decide, fun z => absurd z (List.cons_ne_nil _ _), fun _ q3 hq3 => ?_⟩
          refine ⟨_, rfl, _, rfl, p, _, rfl, .inl (.inl ((((e3.nx hq1).nx hq2).nx hq3) _ _ hp2)), by show ¬(HT.sIx 5 0 (some 3) = 0 ∧ HT.sIx 5 5 none = 5); decide, fun q4 hq4 => ?_⟩
          refine ⟨q3, q4, [.int 4, .int u.freeze, .int (1 + n % 3)], [.str (holdS u.hold), optV u.cut], rfl, rfl, (Ex.nw hq4).t sqt_new, sqt_new, List.cons_ne_nil _ _, by show 5 ≤ sizeLine; decide, fun z => absurd z (List.cons_ne_nil _ _), fun _ q5 hq5 => ?_⟩
          have m0 := Int.emod_nonneg n (show (3 : Int) ≠ 0 by decide)
          have m1 := Int.emod_lt_of_pos n (show (0 : Int) < 3 by decide)
          exact hn _ _ ⟨q5, { u with stop := some (1 + n % 3) }, rfl, ((((e3.nx hq1).nx hq2).nx hq3).nx hq4).nx hq5, upd_same, ⟨ok.fr, ⟨by omega, by omega⟩, ok.ct⟩⟩
        · rw [decide_eq_false hm]
          exact iteF (hn _ _ ⟨p, u, rfl, e3, e3 _ _ hp2, ok⟩)
      · rw [Bool.eq_false_iff.mpr hb]
        exact iteF (hn _ _ ⟨p, u, rfl, e3, e3 _ _ hp2, ok⟩)
    rintro σ' H3 ⟨p', u', rfl, e3, hp3, ok'⟩
    refine ⟨_, rfl, p', u', rfl, .inl (.inl hp3), ok', fun y H4 e4 hy => ?_⟩
    have e04 : Ex H H4 := ((e1.tr e2).tr e3).tr e4
    refine nx_cut (fun σ' H' => σ' = [some (.ref a), some (.ref p'), some (.int n), some y] ∧ Ex H4 H') ?_ fun hn2 => ?_
    rotate_left
    · refine ⟨_, rfl, _, _, rfl, rfl, ⟨by decide, by decide⟩, .inl ⟨_, rfl, _, _, rfl, rfl, (by show (0 : Int) < _; decide), rfl, decide (V.int (n / 4 % 3) = V.int 0), rfl, ?_⟩⟩
      by_cases hb : V.int (n / 4 % 3) = V.int 0
      · rw [decide_eq_true hb]
        exact iteT ⟨_, rfl, y, u', rfl, hy, ok', fun H5 e5 => ⟨true, rfl, iteF (hn2 _ _ ⟨rfl, e5⟩)⟩⟩
      · rw [decide_eq_false hb]
        exact iteF (hn2 _ _ ⟨rfl, Ex.rfl' _⟩)
    rintro σ' H5 ⟨rfl, e5⟩
    refine ⟨_, rfl, y, u', rfl, e5.wh hy, ok', fun H6 e6 => ⟨true, rfl, iteT ⟨_, rfl, _, rfl, _, rfl, a, p', y, u', ns, rfl, hT.ext ((e04.tr e5).tr e6), ((e04.tr e5).tr e6).l hs, .inl (.inl (e6 _ _ (e5 _ _ (e4 _ _ hp3)))), e6.wh (e5.wh hy), ok', fun H7 eN hT7 => hq _⟩⟩⟩
end
end LapW
set_option Elab.async false
set_option linter.all false
set_option maxRecDepth 100000
set_option maxHeartbeats 0
/-! The end: the head's facts, the law's promise. -/
open PySem PySem.W PySem.Calls PyProof.Rows
theorem PySem.Challenge.cw_lapnumbers_k09_whole_hangs_together_holds : PySem.Challenge.rw_lapnumbers_k09_whole_hangs_together.Holds := by
  w_on; o_law
  refine HandSHeadRun.head_any (r := OpenLaw.row PySem.Challenge.rw_lapnumbers_k09_whole_hangs_together) (q := view (OpenLaw.row PySem.Challenge.rw_lapnumbers_k09_whole_hangs_together).prog [92]) (H := LapW.hkL) (ob := LapW.obL) (M := 6000) (loose := LapW.looseL) (d := HandSHeadRun.topDef (OpenLaw.row PySem.Challenge.rw_lapnumbers_k09_whole_hangs_together).prog 92) (kwd := []) LapW.obL_eq
    (by kernel_rfl) (fun s => by kernel_rfl) LapW.runL (by kernel_rfl) (by kernel_rfl) (by kernel_rfl) (by rfl) (by first | assumption | decide +kernel) (by decide +kernel) ⟨rfl, rfl, rfl, rfl, rfl, by decide +kernel⟩ ?hw ?hc
  case hw => w_witness2
  case hc =>
    refine LamX.walk_ofTsE (l := PySem.Challenge.rw_lapnumbers_k09_whole_hangs_together) (n := 63) (k := 11) (x := "_law_script") (CX := fun _ => C8.CX0) rfl (by decide) (by kernel_rfl) ⟨rfl, by decide, by decide⟩ ?F (fun _ _ _ _ _ z => z)
    intro w mg fa h Y G hmg0
    obtain ⟨K, KX, c⟩ := Y
    have hmg : mg ("law" : PySem.Str) = some (.ref fa) := by
      have e : (HandSHeadRun.topDef (OpenLaw.row PySem.Challenge.rw_lapnumbers_k09_whole_hangs_together).prog 92).name = ("law" : PySem.Str) := by kernel_rfl
      rw [← e]
      exact hmg0
    have T := LapW.tx_of KX G c
    have e : fa = He.ga K "law" := by
      have z := hmg.symm.trans T.g_law
      cases z
      rfl
    subst e
    obtain ⟨fd, F⟩ := T.f_law
    have b := L2.FunD.bindsA (ps := ["_law_script"]) F fun _ _ _ _ _ _ us hl => match us, hl with | [_], _ => rfl
    have m1 : (("all_choices", none) : He.Defn) ∈ LapW.tfL := List.mem_singleton.mpr rfl
    refine ⟨K, KX, fd, [He.cT K ("all_choices", none)], LapW.spLaw K, fun p hp => ?_, fun p hp => ?_, fun p hp => ?_, fun s v => b s [v] rfl, fun H a ns _ _ hT hS => ⟨a, ns, rfl, fun p hp => ?_, hS, fun _ => rfl⟩, fun base _ _ TB => LapW.ok_law T (TB _ (List.mem_singleton.mpr rfl)) F⟩
    · rw [List.mem_singleton.mp hp]
      exact c.empty _ m1
    · rw [List.mem_singleton.mp hp]
      exact c.out _ m1
    · rw [List.mem_singleton.mp hp]
      exact codeHd_of_K KX (c.hd _ m1)
    · rw [List.mem_singleton.mp hp]
      exact LamX.TabS.nil (hT _ (List.mem_singleton.mpr rfl))
