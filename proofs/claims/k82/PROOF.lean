import PyProof.Rows.All
import Wide.All
import OpenK.AllK
import Wide.FinOn
import KE.KStateDown
import HandS.TupAny
import HandS.Style
import HandS.Walk
import HandS.ForMost
import HandS.Exc
import HandS.TryOnly
import HandS.WordsExc
import HandS.Defaults
import HandS.Codes
import HandS.Conv
import HandS.More
import HandS.NoneIn
import HandS.SortInts
import HandS.Sort
import HandS.IsInst
import HandS.CallLocal
import HandS.HeadHook1
import HandS.HeadHook2
import HandS.HeadHook3
import HandS.HeadHook4
import HandS.ExcSuper
import HandS.ExcOwn
import HandS.Nested
import KE.KSuper
import HandS.GenList
import KE.KDictPairs
import KE.DataMinMax
import PyProof.ReprRoads
import HandS.FStrTup
import HandS.CallRecv
import HandS.Head0
import HandS.Head1
import HandS.Head2
import HandS.EndBits
import PySem.Challenge.RW_maybegone_k82_whole_fixes_take_runs_away
set_option Elab.async false
section K82Law_part
set_option autoImplicit false
set_option linter.all false
/-! K82: the plain law, in core Lean: a machine over straight-line programs, its tree of questions, fixes take leaves away. -/
namespace K82
open Classical
section
variable {N : Type} [DecidableEq N]

/-- a statement without blocks -/
inductive Stm (N : Type) where
  | make (x : N) | wish (x w : N) | keep (x : N) | name (x y : N) | drop (x : N)
  | hold (x f y : N) | weak (x f y : N) | cut (x f : N) | take (z x f : N) | say (w : N) | askF (x f : N) | askW (w : N)
inductive Ans (N : Type) where
  | said (w : N) | yes | no

/-- what there is in a run -/
structure MS (N : Type) where
  n : Nat
  env : N → Option Nat
  kept : Nat → Bool
  fld : Nat → N → Option (Nat × Bool)
  wish : Option (Nat × N)
  lost : Nat → Bool

/-- a strong field of d holds e -/
def Edge (S : MS N) (d e : Nat) : Prop := ∃ f, S.fld d f = some (e, true)
inductive Reach (S : MS N) : Nat → Prop where
  | env {x : N} {c : Nat} (h : S.env x = some c) : Reach S c
  | kept {c : Nat} (h : S.kept c = true) : Reach S c
  | step {d e : Nat} (h : Reach S d) (q : Edge S d e) : Reach S e
/-- d is there and comes to c over cells that are there (c itself comes) -/
inductive Comes (S : MS N) (c : Nat) : Nat → Prop where
  | refl : Comes S c c
  | step {d e : Nat} (l : S.lost d = false) (q : Edge S d e) (h : Comes S c e) : Comes S c d

noncomputable def MS.clear (S : MS N) (c : Nat) : MS N := { S with lost := fun d => S.lost d || decide (Comes S c d) }
def MS.stand (S : MS N) (x : N) (c : Option Nat) : MS N := { S with env := fun y => if y = x then c else S.env y }
def MS.make (S : MS N) (x : N) : MS N :=
  { S with n := S.n + 1, env := fun y => if y = x then some S.n else S.env y }
def MS.keep (S : MS N) (c : Nat) : MS N := { S with kept := fun d => if d = c then true else S.kept d }
def MS.fill (S : MS N) (a : Nat) (f : N) (v : Option (Nat × Bool)) : MS N :=
  { S with fld := fun b g => if b = a ∧ g = f then v else S.fld b g }
def MS.wishes (S : MS N) (c : Nat) (w : N) : MS N := { S with wish := some (c, w) }
def MS.init : MS N := ⟨0, fun _ => none, fun _ => false, fun _ _ => none, none, fun _ => false⟩

/-- the questions of a program, and what comes of the answers; a leaf: what was said, the place of a stop -/
inductive Tree (N : Type) where
  | leaf (said : List (Ans N)) (stop : Option Nat)
  | forced (b : Bool) (t : Tree N)
  | choice (t0 t1 : Tree N)

/-- a question about a cell -/
noncomputable def ask (S : MS N) (c : Nat) (k : MS N → Bool → Tree N) : Tree N :=
  if S.lost c = true then .forced true (k S true)
  else if Reach S c then .forced false (k S false)
  else .choice (k S false) (k (S.clear c) true)

noncomputable def tree : List (Stm N) → MS N → List (Ans N) → Nat → Tree N
  | [], _, said, _ => .leaf said none
  | .make x :: r, S, said, p => tree r (S.make x) said (p + 1)
  | .wish x w :: r, S, said, p => match S.env x with
    | none => .leaf said (some p)
    | some c => tree r (S.wishes c w) said (p + 1)
  | .keep x :: r, S, said, p => match S.env x with
    | none => .leaf said (some p)
    | some c => tree r (S.keep c) said (p + 1)
  | .name x y :: r, S, said, p => match S.env y with
    | none => .leaf said (some p)
    | some c => tree r (S.stand x (some c)) said (p + 1)
  | .drop x :: r, S, said, p => tree r (S.stand x none) said (p + 1)
  | .hold x f y :: r, S, said, p => match S.env x, S.env y with
    | some a, some b => tree r (S.fill a f (some (b, true))) said (p + 1)
    | _, _ => .leaf said (some p)
  | .weak x f y :: r, S, said, p => match S.env x, S.env y with
    | some a, some b => tree r (S.fill a f (some (b, false))) said (p + 1)
    | _, _ => .leaf said (some p)
  | .cut x f :: r, S, said, p => match S.env x with
    | none => .leaf said (some p)
    | some a => tree r (S.fill a f none) said (p + 1)
  | .take z x f :: r, S, said, p => match S.env x with
    | none => .leaf said (some p)
    | some a => match S.fld a f with
      | none => tree r (S.stand z none) said (p + 1)
      | some (c, _) => ask S c fun S' b => tree r (S'.stand z (if b = true then none else some c)) said (p + 1)
  | .say w :: r, S, said, p => tree r S (said ++ [.said w]) (p + 1)
  | .askF x f :: r, S, said, p => match S.env x with
    | none => .leaf said (some p)
    | some a => match S.fld a f with
      | none => tree r S (said ++ [.no]) (p + 1)
      | some (c, _) => ask S c fun S' b => tree r S' (said ++ [if b = true then .no else .yes]) (p + 1)
  | .askW w :: r, S, said, p => match S.wish with
    | none => tree r S (said ++ [.no]) (p + 1)
    | some (c, w') => if w' = w then ask S c fun S' b => tree r S' (said ++ [if b = true then .yes else .no]) (p + 1)
      else tree r S (said ++ [.no]) (p + 1)

/-! ### the leaves -/
structure Row (N : Type) where
  rcd : List Bool
  said : List (Ans N)
  stop : Option Nat
def Row.cons (b : Bool) (r : Row N) : Row N := { r with rcd := b :: r.rcd }
def leaves : Tree N → List (Row N)
  | .leaf said stop => [⟨[], said, stop⟩]
  | .forced b t => (leaves t).map (Row.cons b)
  | .choice t0 t1 => (leaves t0).map (Row.cons false) ++ (leaves t1).map (Row.cons true)

/-- the walk that takes the first answers as told, then the least possible ones: replies, whether an answer yes could be, what was said, the stop -/
structure Walk (N : Type) where
  rep : List Bool
  cb : List Bool
  said : List (Ans N)
  stop : Option Nat
def Walk.cons (b c : Bool) (w : Walk N) : Walk N := { w with rep := b :: w.rep, cb := c :: w.cb }
def Walk.row (w : Walk N) : Row N := ⟨w.rep, w.said, w.stop⟩
def follow : Tree N → List Bool → Walk N
  | .leaf said stop, _ => ⟨[], [], said, stop⟩
  | .forced b t, f => (follow t f.tail).cons b false
  | .choice t0 t1, f => if f.head? = some true then (follow t1 f.tail).cons true true else (follow t0 f.tail).cons false true

/-- the answers with which the next way begins -/
def next : List Bool → List Bool → Option (List Bool)
  | r :: rs, c :: cs => match next rs cs with
    | some l => some (r :: l)
    | none => if c = true ∧ r = false then some [true] else none
  | _, _ => none

/-- the leaves from a beginning on -/
def from_ : Tree N → List Bool → List (Row N)
  | .leaf said stop, _ => [⟨[], said, stop⟩]
  | .forced b t, f => (from_ t f.tail).map (Row.cons b)
  | .choice t0 t1, f => if f.head? = some true then (from_ t1 f.tail).map (Row.cons true)
    else (from_ t0 f.tail).map (Row.cons false) ++ (leaves t1).map (Row.cons true)
theorem from_nil : ∀ t : Tree N, from_ t [] = leaves t
  | .leaf _ _ => rfl
  | .forced b t => by simp [from_, leaves, from_nil t]
  | .choice t0 t1 => by simp [from_, leaves, from_nil t0]
theorem map_cons_row (b c : Bool) (w : Walk N) : (w.cons b c).row = w.row.cons b := rfl
theorem next_nil_cb : ∀ (t : Tree N) (f : List Bool), (follow t f).rep.length = (follow t f).cb.length
  | .leaf _ _, _ => rfl
  | .forced b t, f => by simp [follow, Walk.cons, next_nil_cb t]
  | .choice t0 t1, f => by
    unfold follow
    split <;> simp [Walk.cons, next_nil_cb t0, next_nil_cb t1]
theorem from_eq : ∀ (t : Tree N) (f : List Bool), from_ t f = (follow t f).row :: (match next (follow t f).rep (follow t f).cb with | none => [] | some g => from_ t g)
  | .leaf _ _, _ => rfl
  | .forced b t, f => by
    have ih := from_eq t f.tail
    simp only [from_, follow, Walk.cons, next]
    rw [ih]
    cases e : next (follow t f.tail).rep (follow t f.tail).cb with
    | none => simp [Walk.row, Row.cons]
    | some g => simp [Walk.row, Row.cons, from_]
  | .choice t0 t1, f => by
    by_cases h : f.head? = some true
    · have ih := from_eq t1 f.tail
      simp only [from_, follow, if_pos h, Walk.cons, next]
      rw [ih]
      cases e : next (follow t1 f.tail).rep (follow t1 f.tail).cb with
      | none => simp [Walk.row, Row.cons]
      | some g => simp [Walk.row, Row.cons, from_]
    · have ih := from_eq t0 f.tail
      simp only [from_, follow, if_neg h, Walk.cons, next]
      rw [ih]
      cases e : next (follow t0 f.tail).rep (follow t0 f.tail).cb with
      | none => simp [Walk.row, Row.cons, from_, from_nil]
      | some g => simp [Walk.row, Row.cons, from_]

/-! ### how many -/
def depth : Tree N → Nat
  | .leaf _ _ => 0
  | .forced _ t => depth t + 1
  | .choice t0 t1 => max (depth t0) (depth t1) + 1
theorem leaves_len : ∀ t : Tree N, (leaves t).length ≤ 2 ^ depth t
  | .leaf _ _ => by simp [leaves, depth]
  | .forced b t => by
    have := leaves_len t
    simp only [leaves, depth, List.length_map, Nat.pow_succ]; omega
  | .choice t0 t1 => by
    have h0 := leaves_len t0
    have h1 := leaves_len t1
    have e0 : 2 ^ depth t0 ≤ 2 ^ max (depth t0) (depth t1) := Nat.pow_le_pow_right (by decide) (Nat.le_max_left ..)
    have e1 : 2 ^ depth t1 ≤ 2 ^ max (depth t0) (depth t1) := Nat.pow_le_pow_right (by decide) (Nat.le_max_right ..)
    simp only [leaves, depth, List.length_append, List.length_map, Nat.pow_succ]; omega
theorem leaves_rec : ∀ (t : Tree N) (r : Row N), r ∈ leaves t → r.rcd.length ≤ depth t
  | .leaf _ _, r, h => by simp [leaves] at h; subst h; simp
  | .forced b t, r, h => by
    simp only [leaves, List.mem_map] at h
    obtain ⟨q, hq, rfl⟩ := h
    have := leaves_rec t q hq
    simp only [Row.cons, List.length_cons, depth]; omega
  | .choice t0 t1, r, h => by
    simp only [leaves, List.mem_append, List.mem_map] at h
    rcases h with ⟨q, hq, rfl⟩ | ⟨q, hq, rfl⟩
    · have := leaves_rec t0 q hq
      have e0 : depth t0 ≤ max (depth t0) (depth t1) := Nat.le_max_left ..
      simp only [Row.cons, List.length_cons, depth]; omega
    · have := leaves_rec t1 q hq
      have e0 : depth t1 ≤ max (depth t0) (depth t1) := Nat.le_max_right ..
      simp only [Row.cons, List.length_cons, depth]; omega
theorem leaves_ne : ∀ t : Tree N, leaves t ≠ []
  | .leaf _ _ => by simp [leaves]
  | .forced b t => by simp [leaves, leaves_ne t]
  | .choice t0 t1 => by simp [leaves, leaves_ne t0]
theorem follow_len (t : Tree N) (f : List Bool) : (follow t f).rep.length ≤ depth t := by
  have h := from_eq t f
  have sub : ∀ (t : Tree N) (f : List Bool) (r : Row N), r ∈ from_ t f → r ∈ leaves t := by
    intro t
    induction t with
    | leaf _ _ => intro f r h; exact h
    | forced b t ih =>
      intro f r h
      simp only [from_, leaves, List.mem_map] at h ⊢
      obtain ⟨q, hq, e⟩ := h
      exact ⟨q, ih _ _ hq, e⟩
    | choice t0 t1 i0 i1 =>
      intro f r h
      simp only [from_] at h
      simp only [leaves, List.mem_append, List.mem_map]
      split at h
      · obtain ⟨q, hq, e⟩ := List.mem_map.mp h
        exact .inr ⟨q, i1 _ _ hq, e⟩
      · rcases List.mem_append.mp h with h | h
        · obtain ⟨q, hq, e⟩ := List.mem_map.mp h
          exact .inl ⟨q, i0 _ _ hq, e⟩
        · obtain ⟨q, hq, e⟩ := List.mem_map.mp h
          exact .inr ⟨q, hq, e⟩
  have := leaves_rec t (follow t f).row (sub t f _ (by rw [h]; exact List.mem_cons_self ..))
  exact this

/-- two leaves with the same record are one -/
theorem leaves_inj : ∀ (t : Tree N) (a b : Row N), a ∈ leaves t → b ∈ leaves t → a.rcd = b.rcd → a = b
  | .leaf _ _, a, b, ha, hb, _ => by simp [leaves] at ha hb; rw [ha, hb]
  | .forced c t, a, b, ha, hb, e => by
    simp only [leaves, List.mem_map] at ha hb
    obtain ⟨p, hp, rfl⟩ := ha
    obtain ⟨q, hq, rfl⟩ := hb
    have : p.rcd = q.rcd := by simpa [Row.cons] using e
    rw [leaves_inj t p q hp hq this]
  | .choice t0 t1, a, b, ha, hb, e => by
    simp only [leaves, List.mem_append, List.mem_map] at ha hb
    rcases ha with ⟨p, hp, rfl⟩ | ⟨p, hp, rfl⟩ <;> rcases hb with ⟨q, hq, rfl⟩ | ⟨q, hq, rfl⟩
    · rw [leaves_inj t0 p q hp hq (by simpa [Row.cons] using e)]
    · simp [Row.cons] at e
    · simp [Row.cons] at e
    · rw [leaves_inj t1 p q hp hq (by simpa [Row.cons] using e)]

/-! ### the order of records -/
def ltR : List Bool → List Bool → Bool
  | [], [] => false
  | [], _ :: _ => true
  | _ :: _, [] => false
  | a :: r, b :: s => if a = b then ltR r s else (!a && b)
/-- no leaf's record is less than the first one's -/
theorem first_min : ∀ (t : Tree N) (r : Row N), r ∈ leaves t → ltR r.rcd (follow t []).rep = false
  | .leaf _ _, r, h => by simp [leaves] at h; subst h; simp [ltR, follow]
  | .forced b t, r, h => by
    simp only [leaves, List.mem_map] at h
    obtain ⟨q, hq, rfl⟩ := h
    have := first_min t q hq
    simp [Row.cons, follow, Walk.cons, ltR, this]
  | .choice t0 t1, r, h => by
    simp only [leaves, List.mem_append, List.mem_map] at h
    rcases h with ⟨q, hq, rfl⟩ | ⟨q, hq, rfl⟩
    · have := first_min t0 q hq
      simp [Row.cons, follow, Walk.cons, ltR, this]
    · simp [Row.cons, follow, Walk.cons, ltR]
theorem first_leaf (t : Tree N) : (follow t []).row ∈ leaves t := by
  rw [← from_nil, from_eq]; exact List.mem_cons_self ..
end
end K82
end K82Law_part
section K82Sim_part
set_option autoImplicit false
set_option linter.all false
namespace K82
open Classical
section
variable {N : Type} [DecidableEq N]

/-- a program and a fixed one -/
inductive FixRel : List (Stm N) → List (Stm N) → Prop where
  | nil : FixRel [] []
  | same (s : Stm N) {P Q : List (Stm N)} (h : FixRel P Q) : FixRel (s :: P) (s :: Q)
  | strong (x f y : N) {P Q : List (Stm N)} (h : FixRel P Q) : FixRel (.weak x f y :: P) (.hold x f y :: Q)
  | keep (x : N) {P Q : List (Stm N)} (h : FixRel P Q) : FixRel (.make x :: P) (.make x :: .keep x :: Q)
/-- weak fields made strong alone -/
inductive StrRel : List (Stm N) → List (Stm N) → Prop where
  | nil : StrRel [] []
  | same (s : Stm N) {P Q : List (Stm N)} (h : StrRel P Q) : StrRel (s :: P) (s :: Q)
  | strong (x f y : N) {P Q : List (Stm N)} (h : StrRel P Q) : StrRel (.weak x f y :: P) (.hold x f y :: Q)
theorem StrRel.fix {P Q : List (Stm N)} (h : StrRel P Q) : FixRel P Q := by
  induction h with
  | nil => exact .nil
  | same s _ ih => exact .same s ih
  | strong x f y _ ih => exact .strong x f y ih
theorem FixRel.trans_str {P Q R : List (Stm N)} (h : FixRel P Q) (k : StrRel Q R) : FixRel P R := by
  induction h generalizing R with
  | nil => cases k; exact .nil
  | same s h ih =>
    cases k with
    | same _ k => exact .same _ (ih k)
    | strong x f y k => exact .strong x f y (ih k)
  | strong x f y h ih =>
    cases k with
    | same _ k => exact .strong x f y (ih k)
  | keep x h ih =>
    cases k with
    | same _ k =>
      cases k with
      | same _ k => exact .keep x (ih k)

structure Rel (S S' : MS N) : Prop where
  n : S.n = S'.n
  env : S.env = S'.env
  wish : S.wish = S'.wish
  cell : ∀ a f, (S.fld a f).map (·.1) = (S'.fld a f).map (·.1)
  str : ∀ a f c, S.fld a f = some (c, true) → S'.fld a f = some (c, true)
  kept : ∀ c, S.kept c = true → S'.kept c = true
  lost : ∀ c, S.lost c = true → S'.lost c = true
  closed : ∀ a c, Edge S' a c → S'.lost c = true → S'.lost a = true
  envL : ∀ x c, S'.env x = some c → S'.lost c = false
  keptL : ∀ c, S'.kept c = true → S'.lost c = false
  envB : ∀ x c, S'.env x = some c → c < S'.n
  keptB : ∀ c, S'.kept c = true → c < S'.n
  lostB : ∀ c, S'.lost c = true → c < S'.n
  fldB : ∀ a f v, S'.fld a f = some v → a < S'.n ∧ v.1 < S'.n

theorem bool_ne {b : Bool} (h : ¬ b = true) : b = false := by cases b; rfl; exact absurd rfl h
section
variable {S S' : MS N}
theorem Rel.edge (R : Rel S S') {a c : Nat} (h : Edge S a c) : Edge S' a c := by
  obtain ⟨f, h⟩ := h
  exact ⟨f, R.str _ _ _ h⟩
theorem Rel.reach (R : Rel S S') {c : Nat} (h : Reach S c) : Reach S' c := by
  induction h with
  | env h => exact .env (by rw [← R.env]; exact h)
  | kept h => exact .kept (R.kept _ h)
  | step _ q ih => exact .step ih (R.edge q)
theorem Rel.reachL (R : Rel S S') {c : Nat} (h : Reach S' c) : S'.lost c = false := by
  induction h with
  | env h => exact R.envL _ _ h
  | kept h => exact R.keptL _ h
  | @step d e hd q ih =>
    refine bool_ne fun z => ?_
    rw [R.closed _ _ q z] at ih
    cases ih
theorem Rel.comes (R : Rel S S') {c d : Nat} (h : Comes S c d) : S'.lost d = true ∨ Comes S' c d := by
  induction h with
  | refl => exact .inr .refl
  | @step d e l q _ ih =>
    by_cases z : S'.lost d = true
    · exact .inl z
    · rcases ih with ih | ih
      · exact .inl (R.closed _ _ (R.edge q) ih)
      · exact .inr (.step (bool_ne z) (R.edge q) ih)
theorem Rel.comesL (R : Rel S S') {c d : Nat} (h : Comes S c d) (l : S'.lost c = true) : S'.lost d = true := by
  induction h with
  | refl => exact l
  | step _ q _ ih => exact R.closed _ _ (R.edge q) ih
theorem comes_reach {c d : Nat} (h : Comes S' c d) (r : Reach S' d) : Reach S' c := by
  induction h with
  | refl => exact r
  | step _ q _ ih => exact ih (.step r q)
theorem comes_lt {c d : Nat} (R : Rel S S') (h : Comes S' c d) (hc : c < S'.n) : d < S'.n := by
  cases h with
  | refl => exact hc
  | step _ q _ =>
    obtain ⟨f, q⟩ := q
    exact (R.fldB _ _ _ q).1
theorem clear_lost (c d : Nat) : (S.clear c).lost d = true ↔ S.lost d = true ∨ Comes S c d := by
  simp [MS.clear]
theorem clear_false (c d : Nat) : (S.clear c).lost d = false ↔ S.lost d = false ∧ ¬ Comes S c d := by
  simp [MS.clear]
/-- both clear -/
theorem Rel.clear2 (R : Rel S S') {c : Nat} (hc : c < S'.n) (nr : ¬ Reach S' c) : Rel (S.clear c) (S'.clear c) where
  n := R.n
  env := R.env
  wish := R.wish
  cell := R.cell
  str := R.str
  kept := R.kept
  lost := fun d h => by
    rw [clear_lost] at h ⊢
    rcases h with h | h
    · exact .inl (R.lost _ h)
    · exact R.comes h
  closed := fun a d q h => by
    rw [clear_lost] at h ⊢
    have q : Edge S' a d := q
    rcases h with h | h
    · exact .inl (R.closed _ _ q h)
    · by_cases z : S'.lost a = true
      · exact .inl z
      · exact .inr (.step (bool_ne z) q h)
  envL := fun x d h => by
    rw [clear_false]
    exact ⟨R.envL x d h, fun z => nr (comes_reach z (.env (show S'.env x = some d from h)))⟩
  keptL := fun d h => by
    rw [clear_false]
    exact ⟨R.keptL d h, fun z => nr (comes_reach z (.kept (show S'.kept d = true from h)))⟩
  envB := R.envB
  keptB := R.keptB
  lostB := fun d h => by
    rw [clear_lost] at h
    rcases h with h | h
    · exact R.lostB d h
    · exact comes_lt (S := S) (S' := S') R h hc
  fldB := R.fldB
/-- the first alone clears: the cell is lost in the second -/
theorem Rel.clear1 (R : Rel S S') {c : Nat} (l : S'.lost c = true) : Rel (S.clear c) S' where
  n := R.n
  env := R.env
  wish := R.wish
  cell := R.cell
  str := R.str
  kept := R.kept
  lost := fun d h => by
    rw [clear_lost] at h
    rcases h with h | h
    · exact R.lost _ h
    · exact R.comesL h l
  closed := R.closed
  envL := R.envL
  keptL := R.keptL
  envB := R.envB
  keptB := R.keptB
  lostB := R.lostB
  fldB := R.fldB
end

/-- each leaf of T' is one of T, up to the place of its stop -/
def Sub (T' T : Tree N) : Prop := ∀ r' ∈ leaves T', ∃ r ∈ leaves T, r.rcd = r'.rcd ∧ r.said = r'.said ∧ r.stop.isSome = r'.stop.isSome
theorem sub_forced {T' T : Tree N} (b : Bool) (h : Sub T' T) : Sub (.forced b T') (.forced b T) := fun r' hr => by
  simp only [leaves, List.mem_map] at hr ⊢
  obtain ⟨q', hq', rfl⟩ := hr
  obtain ⟨q, hq, e1, e2, e3⟩ := h q' hq'
  exact ⟨_, ⟨q, hq, rfl⟩, by simp [Row.cons, e1], e2, e3⟩
theorem sub_choice {T0' T0 T1' T1 : Tree N} (h0 : Sub T0' T0) (h1 : Sub T1' T1) : Sub (.choice T0' T1') (.choice T0 T1) := fun r' hr => by
  simp only [leaves, List.mem_append, List.mem_map] at hr ⊢
  rcases hr with ⟨q', hq', rfl⟩ | ⟨q', hq', rfl⟩
  · obtain ⟨q, hq, e1, e2, e3⟩ := h0 q' hq'
    exact ⟨_, .inl ⟨q, hq, rfl⟩, by simp [Row.cons, e1], e2, e3⟩
  · obtain ⟨q, hq, e1, e2, e3⟩ := h1 q' hq'
    exact ⟨_, .inr ⟨q, hq, rfl⟩, by simp [Row.cons, e1], e2, e3⟩
theorem sub_one {T' T0 T1 : Tree N} (b : Bool) (h : Sub T' (if b = true then T1 else T0)) : Sub (.forced b T') (.choice T0 T1) := fun r' hr => by
  simp only [leaves, List.mem_append, List.mem_map] at hr ⊢
  obtain ⟨q', hq', rfl⟩ := hr
  obtain ⟨q, hq, e1, e2, e3⟩ := h q' hq'
  cases b with
  | false => exact ⟨_, .inl ⟨q, hq, rfl⟩, by simp [Row.cons, e1], e2, e3⟩
  | true => exact ⟨_, .inr ⟨q, hq, rfl⟩, by simp [Row.cons, e1], e2, e3⟩
theorem sub_leaf (said : List (Ans N)) (s s' : Option Nat) (h : s.isSome = s'.isSome) : Sub (.leaf said s') (.leaf said s) := fun r' hr => by
  simp only [leaves, List.mem_singleton] at hr ⊢
  subst hr
  exact ⟨_, rfl, rfl, rfl, h⟩
/-- what a question leaves as it is -/
structure Like (S S1 : MS N) : Prop where
  n : S1.n = S.n
  env : S1.env = S.env
  kept : S1.kept = S.kept
  fld : S1.fld = S.fld
  wish : S1.wish = S.wish
theorem Like.refl (S : MS N) : Like S S := ⟨rfl, rfl, rfl, rfl, rfl⟩
theorem Like.clear (S : MS N) (c : Nat) : Like S (S.clear c) := ⟨rfl, rfl, rfl, rfl, rfl⟩
theorem sub_ask {S S' : MS N} (R : Rel S S') {c : Nat} (hc : c < S'.n) {k k' : MS N → Bool → Tree N}
    (h : ∀ S1 S1' b, Rel S1 S1' → Like S S1 → Like S' S1' → (b = false → S1'.lost c = false) → Sub (k' S1' b) (k S1 b)) : Sub (ask S' c k') (ask S c k) := by
  unfold ask
  by_cases l' : S'.lost c = true
  · rw [if_pos l']
    by_cases l : S.lost c = true
    · rw [if_pos l]
      exact sub_forced _ (h _ _ _ R (.refl _) (.refl _) fun z => by cases z)
    · rw [if_neg l]
      have nr : ¬ Reach S c := fun z => by
        rw [R.reachL (R.reach z)] at l'
        cases l'
      rw [if_neg nr]
      exact sub_one true (h _ _ _ (R.clear1 l') (.clear _ _) (.refl _) fun z => by cases z)
  · rw [if_neg l']
    have l : ¬ S.lost c = true := fun z => l' (R.lost _ z)
    rw [if_neg l]
    by_cases r' : Reach S' c
    · rw [if_pos r']
      have k0 := h S S' false R (.refl _) (.refl _) fun _ => bool_ne l'
      by_cases r : Reach S c
      · rw [if_pos r]
        exact sub_forced _ k0
      · rw [if_neg r]
        exact sub_one false k0
    · rw [if_neg r']
      have r : ¬ Reach S c := fun z => r' (R.reach z)
      rw [if_neg r]
      exact sub_choice (h _ _ _ R (.refl _) (.refl _) fun _ => bool_ne l') (h _ _ _ (R.clear2 hc r') (.clear _ _) (.clear _ _) fun z => by cases z)

/-! ### the statements -/
section
variable {S S' : MS N}
theorem Rel.stand (R : Rel S S') (z : N) (c : Option Nat) (hc : ∀ d, c = some d → d < S'.n ∧ S'.lost d = false) : Rel (S.stand z c) (S'.stand z c) where
  n := R.n
  env := by
    show (fun y => if y = z then c else S.env y) = (fun y => if y = z then c else S'.env y)
    rw [R.env]
  wish := R.wish
  cell := R.cell
  str := R.str
  kept := R.kept
  lost := R.lost
  closed := R.closed
  envL := fun x d h => by
    have h : (if x = z then c else S'.env x) = some d := h
    by_cases e : x = z
    · rw [if_pos e] at h; exact (hc d h).2
    · rw [if_neg e] at h; exact R.envL x d h
  keptL := R.keptL
  envB := fun x d h => by
    have h : (if x = z then c else S'.env x) = some d := h
    by_cases e : x = z
    · rw [if_pos e] at h; exact (hc d h).1
    · rw [if_neg e] at h; exact R.envB x d h
  keptB := R.keptB
  lostB := R.lostB
  fldB := R.fldB
theorem Rel.make (R : Rel S S') (x : N) : Rel (S.make x) (S'.make x) where
  n := by show S.n + 1 = S'.n + 1; rw [R.n]
  env := by
    show (fun y => if y = x then some S.n else S.env y) = (fun y => if y = x then some S'.n else S'.env y)
    rw [R.env, R.n]
  wish := R.wish
  cell := R.cell
  str := R.str
  kept := R.kept
  lost := R.lost
  closed := R.closed
  envL := fun y d h => by
    have h : (if y = x then some S'.n else S'.env y) = some d := h
    by_cases e : y = x
    · rw [if_pos e] at h
      cases h
      exact bool_ne fun z => Nat.lt_irrefl _ (R.lostB _ z)
    · rw [if_neg e] at h; exact R.envL y d h
  keptL := R.keptL
  envB := fun y d h => by
    have h : (if y = x then some S'.n else S'.env y) = some d := h
    show d < S'.n + 1
    by_cases e : y = x
    · rw [if_pos e] at h
      cases h
      exact Nat.lt_succ_self _
    · rw [if_neg e] at h; exact Nat.lt_succ_of_lt (R.envB y d h)
  keptB := fun c h => Nat.lt_succ_of_lt (R.keptB c h)
  lostB := fun c h => Nat.lt_succ_of_lt (R.lostB c h)
  fldB := fun a f v h => ⟨Nat.lt_succ_of_lt (R.fldB a f v h).1, Nat.lt_succ_of_lt (R.fldB a f v h).2⟩
theorem Rel.keep2 (R : Rel S S') {c : Nat} (hc : c < S'.n) (hl : S'.lost c = false) : Rel (S.keep c) (S'.keep c) where
  n := R.n
  env := R.env
  wish := R.wish
  cell := R.cell
  str := R.str
  kept := fun d h => by
    have h : (if d = c then true else S.kept d) = true := h
    show (if d = c then true else S'.kept d) = true
    by_cases e : d = c
    · rw [if_pos e]
    · rw [if_neg e] at h ⊢; exact R.kept d h
  lost := R.lost
  closed := R.closed
  envL := R.envL
  keptL := fun d h => by
    have h : (if d = c then true else S'.kept d) = true := h
    by_cases e : d = c
    · rw [e]; exact hl
    · rw [if_neg e] at h; exact R.keptL d h
  envB := R.envB
  keptB := fun d h => by
    have h : (if d = c then true else S'.kept d) = true := h
    by_cases e : d = c
    · rw [e]; exact hc
    · rw [if_neg e] at h; exact R.keptB d h
  lostB := R.lostB
  fldB := R.fldB
theorem Rel.keep1 (R : Rel S S') {c : Nat} (hc : c < S'.n) (hl : S'.lost c = false) : Rel S (S'.keep c) where
  n := R.n
  env := R.env
  wish := R.wish
  cell := R.cell
  str := R.str
  kept := fun d h => by
    show (if d = c then true else S'.kept d) = true
    by_cases e : d = c
    · rw [if_pos e]
    · rw [if_neg e]; exact R.kept d h
  lost := R.lost
  closed := R.closed
  envL := R.envL
  keptL := fun d h => by
    have h : (if d = c then true else S'.kept d) = true := h
    by_cases e : d = c
    · rw [e]; exact hl
    · rw [if_neg e] at h; exact R.keptL d h
  envB := R.envB
  keptB := fun d h => by
    have h : (if d = c then true else S'.kept d) = true := h
    by_cases e : d = c
    · rw [e]; exact hc
    · rw [if_neg e] at h; exact R.keptB d h
  lostB := R.lostB
  fldB := R.fldB
theorem Rel.wishes (R : Rel S S') (c : Nat) (w : N) : Rel (S.wishes c w) (S'.wishes c w) :=
  ⟨R.n, R.env, rfl, R.cell, R.str, R.kept, R.lost, R.closed, R.envL, R.keptL, R.envB, R.keptB, R.lostB, R.fldB⟩
theorem Rel.fill (R : Rel S S') (a : Nat) (f : N) (ha : a < S'.n) (v v' : Option (Nat × Bool)) (h1 : v.map (·.1) = v'.map (·.1)) (h2 : ∀ c, v = some (c, true) → v' = some (c, true))
    (h3 : ∀ w, v' = some w → w.1 < S'.n ∧ S'.lost w.1 = false) : Rel (S.fill a f v) (S'.fill a f v') where
  n := R.n
  env := R.env
  wish := R.wish
  cell := fun b g => by
    show (if b = a ∧ g = f then v else S.fld b g).map (·.1) = (if b = a ∧ g = f then v' else S'.fld b g).map (·.1)
    by_cases e : b = a ∧ g = f
    · rw [if_pos e, if_pos e]; exact h1
    · rw [if_neg e, if_neg e]; exact R.cell b g
  str := fun b g c h => by
    have h : (if b = a ∧ g = f then v else S.fld b g) = some (c, true) := h
    show (if b = a ∧ g = f then v' else S'.fld b g) = some (c, true)
    by_cases e : b = a ∧ g = f
    · rw [if_pos e] at h ⊢; exact h2 c h
    · rw [if_neg e] at h ⊢; exact R.str b g c h
  kept := R.kept
  lost := R.lost
  closed := fun b c ⟨g, q⟩ h => by
    have q : (if b = a ∧ g = f then v' else S'.fld b g) = some (c, true) := q
    have h : S'.lost c = true := h
    by_cases e : b = a ∧ g = f
    · rw [if_pos e] at q
      rw [(h3 _ q).2] at h
      cases h
    · rw [if_neg e] at q
      exact R.closed b c ⟨g, q⟩ h
  envL := R.envL
  keptL := R.keptL
  envB := R.envB
  keptB := R.keptB
  lostB := R.lostB
  fldB := fun b g w h => by
    have h : (if b = a ∧ g = f then v' else S'.fld b g) = some w := h
    by_cases e : b = a ∧ g = f
    · rw [if_pos e] at h
      exact ⟨by rw [e.1]; exact ha, (h3 w h).1⟩
    · rw [if_neg e] at h; exact R.fldB b g w h
end

/-! ### a wish's cell is in bounds -/
def WishB (S : MS N) : Prop := ∀ c w, S.wish = some (c, w) → c < S.n

theorem like_envB {S S1 : MS N} (k : Like S S1) : S1.env = S.env := k.env

theorem sim {P Q : List (Stm N)} (F : FixRel P Q) : ∀ (S S' : MS N) (said : List (Ans N)) (p p' : Nat), Rel S S' → WishB S' → Sub (tree Q S' said p') (tree P S said p) := by
  induction F with
  | nil => intro S S' said p p' R wb; exact sub_leaf _ _ _ rfl
  | keep x h ih =>
    intro S S' said p p' R wb
    have e : (S'.make x).env x = some S'.n := by
      show (if x = x then some S'.n else S'.env x) = _
      rw [if_pos rfl]
    simp only [tree]
    rw [e]
    have hl : (S'.make x).lost S'.n = false := bool_ne fun z => Nat.lt_irrefl _ (R.lostB _ z)
    refine ih _ _ _ _ _ ((R.make x).keep1 (Nat.lt_succ_self _) hl) fun c w q => ?_
    exact Nat.lt_succ_of_lt (wb c w q)
  | strong x f y h ih =>
    intro S S' said p p' R wb
    simp only [tree]
    rw [R.env]
    cases ex : S'.env x with
    | none => exact sub_leaf _ _ _ rfl
    | some a =>
      cases ey : S'.env y with
      | none => exact sub_leaf _ _ _ rfl
      | some b =>
        refine ih _ _ _ _ _ (R.fill a f (R.envB _ _ ex) _ _ rfl (fun c z => by cases z) fun w z => ?_) wb
        cases z
        exact ⟨R.envB _ _ ey, R.envL _ _ ey⟩
  | same s h ih =>
    intro S S' said p p' R wb
    cases s with
    | make x =>
      simp only [tree]
      exact ih _ _ _ _ _ (R.make x) fun c w q => Nat.lt_succ_of_lt (wb c w q)
    | wish x w =>
      simp only [tree]
      rw [R.env]
      cases ex : S'.env x with
      | none => exact sub_leaf _ _ _ rfl
      | some c =>
        refine ih _ _ _ _ _ (R.wishes c w) fun c' w' q => ?_
        have q : some (c, w) = some (c', w') := q
        cases q
        exact R.envB _ _ ex
    | keep x =>
      simp only [tree]
      rw [R.env]
      cases ex : S'.env x with
      | none => exact sub_leaf _ _ _ rfl
      | some c => exact ih _ _ _ _ _ (R.keep2 (R.envB _ _ ex) (R.envL _ _ ex)) wb
    | name x y =>
      simp only [tree]
      rw [R.env]
      cases ey : S'.env y with
      | none => exact sub_leaf _ _ _ rfl
      | some c => exact ih _ _ _ _ _ (R.stand x _ fun d z => by cases z; exact ⟨R.envB _ _ ey, R.envL _ _ ey⟩) wb
    | drop x =>
      simp only [tree]
      exact ih _ _ _ _ _ (R.stand x _ fun d z => by cases z) wb
    | hold x f y =>
      simp only [tree]
      rw [R.env]
      cases ex : S'.env x with
      | none => exact sub_leaf _ _ _ rfl
      | some a =>
        cases ey : S'.env y with
        | none => exact sub_leaf _ _ _ rfl
        | some b =>
          refine ih _ _ _ _ _ (R.fill a f (R.envB _ _ ex) _ _ rfl (fun c z => z) fun w z => ?_) wb
          cases z
          exact ⟨R.envB _ _ ey, R.envL _ _ ey⟩
    | weak x f y =>
      simp only [tree]
      rw [R.env]
      cases ex : S'.env x with
      | none => exact sub_leaf _ _ _ rfl
      | some a =>
        cases ey : S'.env y with
        | none => exact sub_leaf _ _ _ rfl
        | some b =>
          refine ih _ _ _ _ _ (R.fill a f (R.envB _ _ ex) _ _ rfl (fun c z => z) fun w z => ?_) wb
          cases z
          exact ⟨R.envB _ _ ey, R.envL _ _ ey⟩
    | cut x f =>
      simp only [tree]
      rw [R.env]
      cases ex : S'.env x with
      | none => exact sub_leaf _ _ _ rfl
      | some a => exact ih _ _ _ _ _ (R.fill a f (R.envB _ _ ex) _ _ rfl (fun c z => z) fun w z => by cases z) wb
    | take z x f =>
      simp only [tree]
      rw [R.env]
      cases ex : S'.env x with
      | none => exact sub_leaf _ _ _ rfl
      | some a =>
        have ec := R.cell a f
        cases e' : S'.fld a f with
        | none =>
          rw [e'] at ec
          cases e : S.fld a f with
          | some v => rw [e] at ec; cases ec
          | none =>
            dsimp only
            rw [e, e']
            exact ih _ _ _ _ _ (R.stand z _ fun d z => by cases z) wb
        | some v' =>
          rw [e'] at ec
          cases e : S.fld a f with
          | none => rw [e] at ec; cases ec
          | some v =>
            rw [e] at ec
            obtain ⟨c, b1⟩ := v
            obtain ⟨c', b1'⟩ := v'
            have ec : c = c' := by simpa using ec
            subst ec
            have hc : c < S'.n := (R.fldB _ _ _ e').2
            dsimp only
            rw [e, e']
            refine sub_ask R hc fun S1 S1' b R1 k1 k1' hb => ?_
            refine ih _ _ _ _ _ (R1.stand z _ fun d q => ?_) fun c' w q => ?_
            · cases b with
              | true => cases q
              | false =>
                have q : some c = some d := q
                cases q
                exact ⟨by rw [k1'.n]; exact hc, hb rfl⟩
            · have q : S1'.wish = some (c', w) := q
              rw [k1'.wish] at q
              show c' < S1'.n
              rw [k1'.n]
              exact wb c' w q
    | say w =>
      simp only [tree]
      exact ih _ _ _ _ _ R wb
    | askF x f =>
      simp only [tree]
      rw [R.env]
      cases ex : S'.env x with
      | none => exact sub_leaf _ _ _ rfl
      | some a =>
        have ec := R.cell a f
        cases e' : S'.fld a f with
        | none =>
          rw [e'] at ec
          cases e : S.fld a f with
          | some v => rw [e] at ec; cases ec
          | none =>
            dsimp only
            rw [e, e']
            exact ih _ _ _ _ _ R wb
        | some v' =>
          rw [e'] at ec
          cases e : S.fld a f with
          | none => rw [e] at ec; cases ec
          | some v =>
            rw [e] at ec
            obtain ⟨c, b1⟩ := v
            obtain ⟨c', b1'⟩ := v'
            have ec : c = c' := by simpa using ec
            subst ec
            have hc : c < S'.n := (R.fldB _ _ _ e').2
            dsimp only
            rw [e, e']
            refine sub_ask R hc fun S1 S1' b R1 k1 k1' hb => ?_
            refine ih _ _ _ _ _ R1 fun c' w q => ?_
            rw [k1'.wish] at q
            rw [k1'.n]
            exact wb c' w q
    | askW w =>
      simp only [tree]
      rw [R.wish]
      cases ew : S'.wish with
      | none => exact ih _ _ _ _ _ R wb
      | some v =>
        obtain ⟨c, w'⟩ := v
        dsimp only
        by_cases hw : w' = w
        · simp only [if_pos hw]
          refine sub_ask R (wb c w' ew) fun S1 S1' b R1 k1 k1' hb => ?_
          refine ih _ _ _ _ _ R1 fun c' w q => ?_
          rw [k1'.wish] at q
          rw [k1'.n]
          exact wb c' w q
        · simp only [if_neg hw]
          exact ih _ _ _ _ _ R wb

theorem rel_init : Rel (MS.init : MS N) MS.init :=
  ⟨rfl, rfl, rfl, fun _ _ => rfl, fun _ _ _ h => h, fun _ h => h, fun _ h => h, (fun _ _ ⟨_, h⟩ => nomatch h), (fun _ _ h => nomatch h), (fun _ h => nomatch h),
    (fun _ _ h => nomatch h), (fun _ h => nomatch h), (fun _ h => nomatch h), (fun _ _ _ h => nomatch h)⟩
noncomputable def treeOf (P : List (Stm N)) : Tree N := tree P MS.init [] 0
/-- THE LAW: a fix takes runs away and gives none -/
theorem fix_sub {P Q : List (Stm N)} (F : FixRel P Q) : Sub (treeOf Q) (treeOf P) := sim F _ _ _ _ _ rel_init fun c w h => by cases h

/-! ### the plain run -/
def NoLost (S : MS N) : Prop := ∀ c, S.lost c = false
def AllNo (T : Tree N) : Prop := ∀ b ∈ (follow T []).rep, b = false
theorem allno_ask {S : MS N} (h : NoLost S) {c : Nat} {k : MS N → Bool → Tree N} (hk : AllNo (k S false)) : AllNo (ask S c k) := by
  unfold ask
  rw [if_neg (by rw [h c]; decide)]
  by_cases r : Reach S c
  · rw [if_pos r]
    intro b hb
    simp only [follow, Walk.cons, List.mem_cons] at hb
    rcases hb with hb | hb
    · exact hb
    · exact hk b hb
  · rw [if_neg r]
    intro b hb
    have hb : b ∈ ((follow (k S false) []).cons false true).rep := hb
    simp only [Walk.cons, List.mem_cons] at hb
    rcases hb with hb | hb
    · exact hb
    · exact hk b hb
theorem plain_no : ∀ (P : List (Stm N)) (S : MS N) (said : List (Ans N)) (p : Nat), NoLost S → AllNo (tree P S said p)
  | [], S, said, p, h => fun b hb => by cases hb
  | s :: r, S, said, p, h => by
    have lf : ∀ (said : List (Ans N)) (q : Option Nat), AllNo (.leaf said q) := fun _ _ b hb => by cases hb
    cases s with
    | make x => exact plain_no r _ _ _ h
    | wish x w =>
      simp only [tree]
      split
      · exact lf _ _
      · exact plain_no r _ _ _ h
    | keep x =>
      simp only [tree]
      split
      · exact lf _ _
      · exact plain_no r _ _ _ h
    | name x y =>
      simp only [tree]
      split
      · exact lf _ _
      · exact plain_no r _ _ _ h
    | drop x => exact plain_no r _ _ _ h
    | hold x f y =>
      simp only [tree]
      split
      · exact plain_no r _ _ _ h
      · exact lf _ _
    | weak x f y =>
      simp only [tree]
      split
      · exact plain_no r _ _ _ h
      · exact lf _ _
    | cut x f =>
      simp only [tree]
      split
      · exact lf _ _
      · exact plain_no r _ _ _ h
    | take z x f =>
      simp only [tree]
      split
      · exact lf _ _
      · split
        · exact plain_no r _ _ _ h
        · exact allno_ask h (plain_no r _ _ _ h)
    | say w => exact plain_no r _ _ _ h
    | askF x f =>
      simp only [tree]
      split
      · exact lf _ _
      · split
        · exact plain_no r _ _ _ h
        · exact allno_ask h (plain_no r _ _ _ h)
    | askW w =>
      simp only [tree]
      split
      · exact plain_no r _ _ _ h
      · split
        · exact allno_ask h (plain_no r _ _ _ h)
        · exact plain_no r _ _ _ h
theorem plain_all (P : List (Stm N)) : AllNo (treeOf P) := plain_no P _ _ _ fun _ => rfl

/-- a leaf whose answers are all no is the first one -/
theorem no_is_first : ∀ (T : Tree N) (r : Row N), r ∈ leaves T → (∀ b ∈ r.rcd, b = false) → AllNo T → r.rcd = (follow T []).rep
  | .leaf _ _, r, h, _, _ => by simp [leaves] at h; subst h; rfl
  | .forced c t, r, h, hr, ha => by
    simp only [leaves, List.mem_map] at h
    obtain ⟨q, hq, rfl⟩ := h
    have ih := no_is_first t q hq (fun b hb => hr b (List.mem_cons_of_mem _ hb)) (fun b hb => ha b (List.mem_cons_of_mem _ hb))
    simp [Row.cons, follow, Walk.cons, ih]
  | .choice t0 t1, r, h, hr, ha => by
    simp only [leaves, List.mem_append, List.mem_map] at h
    rcases h with ⟨q, hq, rfl⟩ | ⟨q, hq, rfl⟩
    · have ih := no_is_first t0 q hq (fun b hb => hr b (List.mem_cons_of_mem _ hb)) (fun b hb => ha b (List.mem_cons_of_mem _ hb))
      simp [Row.cons, follow, Walk.cons, ih]
    · have := hr true (List.mem_cons_self ..)
      cases this
/-- the plain run has the same record -/
theorem fix_first {P Q : List (Stm N)} (F : FixRel P Q) : (follow (treeOf Q) []).rep = (follow (treeOf P) []).rep := by
  obtain ⟨r, hr, e, _⟩ := fix_sub F _ (first_leaf (treeOf Q))
  have e : r.rcd = (follow (treeOf Q) []).rep := e
  rw [← e]
  exact no_is_first _ r hr (fun b hb => plain_all Q b (by rw [← e]; exact hb)) (plain_all P)

/-! ### all makes kept -/
inductive EveryKept : List (Stm N) → Prop where
  | nil : EveryKept []
  | make (x : N) {P : List (Stm N)} (h : EveryKept P) : EveryKept (.make x :: .keep x :: P)
  | other (s : Stm N) (hs : ∀ x, s ≠ .make x) {P : List (Stm N)} (h : EveryKept P) : EveryKept (s :: P)
structure KeptAll (S : MS N) : Prop where
  kept : ∀ c, c < S.n → S.kept c = true
  lost : ∀ c, S.lost c = false
  envB : ∀ x c, S.env x = some c → c < S.n
  fldB : ∀ a f v, S.fld a f = some v → v.1 < S.n
  wishB : WishB S
def One (T : Tree N) : Prop := (leaves T).length = 1
theorem one_ask {S : MS N} (h : KeptAll S) {c : Nat} (hc : c < S.n) {k : MS N → Bool → Tree N} (hk : One (k S false)) : One (ask S c k) := by
  unfold ask
  rw [if_neg (by rw [h.lost c]; decide), if_pos (Reach.kept (h.kept c hc))]
  unfold One
  rw [leaves, List.length_map]
  exact hk
theorem KeptAll.stand {S : MS N} (h : KeptAll S) (z : N) (c : Option Nat) (hc : ∀ d, c = some d → d < S.n) : KeptAll (S.stand z c) :=
  ⟨h.kept, h.lost, fun x d q => by
    have q : (if x = z then c else S.env x) = some d := q
    by_cases e : x = z
    · rw [if_pos e] at q; exact hc d q
    · rw [if_neg e] at q; exact h.envB x d q, h.fldB, h.wishB⟩
theorem KeptAll.fill {S : MS N} (h : KeptAll S) (a : Nat) (f : N) (v : Option (Nat × Bool)) (hv : ∀ w, v = some w → w.1 < S.n) : KeptAll (S.fill a f v) :=
  ⟨h.kept, h.lost, h.envB, fun b g w q => by
    have q : (if b = a ∧ g = f then v else S.fld b g) = some w := q
    by_cases e : b = a ∧ g = f
    · rw [if_pos e] at q; exact hv w q
    · rw [if_neg e] at q; exact h.fldB b g w q, h.wishB⟩
theorem kept_one {P : List (Stm N)} (E : EveryKept P) : ∀ (S : MS N) (said : List (Ans N)) (p : Nat), KeptAll S → One (tree P S said p) := by
  have lf : ∀ (said : List (Ans N)) (q : Option Nat), One (.leaf said q) := fun _ _ => rfl
  induction E with
  | nil => intro S said p h; exact lf _ _
  | make x _ ih =>
    intro S said p h
    have e : (S.make x).env x = some S.n := by
      show (if x = x then some S.n else S.env x) = _
      rw [if_pos rfl]
    simp only [tree]
    rw [e]
    refine ih _ _ _ ⟨fun c hc => ?_, h.lost, fun y c q => ?_, fun a f v q => Nat.lt_succ_of_lt (h.fldB a f v q), fun c w q => Nat.lt_succ_of_lt (h.wishB c w q)⟩
    · have hc : c < S.n + 1 := hc
      show (if c = S.n then true else S.kept c) = true
      by_cases z : c = S.n
      · rw [if_pos z]
      · rw [if_neg z]; exact h.kept c (by omega)
    · have q : (if y = x then some S.n else S.env y) = some c := q
      show c < S.n + 1
      by_cases z : y = x
      · rw [if_pos z] at q; cases q; omega
      · rw [if_neg z] at q; exact Nat.lt_succ_of_lt (h.envB y c q)
  | other s hs _ ih =>
    intro S said p h
    cases s with
    | make x => exact absurd rfl (hs x)
    | wish x w =>
      simp only [tree]
      cases ex : S.env x with
      | none => exact lf _ _
      | some c => exact ih _ _ _ ⟨h.kept, h.lost, h.envB, h.fldB, fun c' w' q => by
          have q : some (c, w) = some (c', w') := q
          cases q
          exact h.envB _ _ ex⟩
    | keep x =>
      simp only [tree]
      cases ex : S.env x with
      | none => exact lf _ _
      | some c => exact ih _ _ _ ⟨fun d hd => by
          show (if d = c then true else S.kept d) = true
          by_cases z : d = c
          · rw [if_pos z]
          · rw [if_neg z]; exact h.kept d hd, h.lost, h.envB, h.fldB, h.wishB⟩
    | name x y =>
      simp only [tree]
      cases ey : S.env y with
      | none => exact lf _ _
      | some c => exact ih _ _ _ (h.stand x _ fun d q => by cases q; exact h.envB _ _ ey)
    | drop x => exact ih _ _ _ (h.stand x _ fun d q => by cases q)
    | hold x f y =>
      simp only [tree]
      cases ex : S.env x with
      | none => exact lf _ _
      | some a =>
        cases ey : S.env y with
        | none => exact lf _ _
        | some b => exact ih _ _ _ (h.fill a f _ fun w q => by cases q; exact h.envB _ _ ey)
    | weak x f y =>
      simp only [tree]
      cases ex : S.env x with
      | none => exact lf _ _
      | some a =>
        cases ey : S.env y with
        | none => exact lf _ _
        | some b => exact ih _ _ _ (h.fill a f _ fun w q => by cases q; exact h.envB _ _ ey)
    | cut x f =>
      simp only [tree]
      cases ex : S.env x with
      | none => exact lf _ _
      | some a => exact ih _ _ _ (h.fill a f _ fun w q => by cases q)
    | take z x f =>
      simp only [tree]
      cases ex : S.env x with
      | none => exact lf _ _
      | some a =>
        cases ef : S.fld a f with
        | none =>
          dsimp only
          rw [ef]
          exact ih _ _ _ (h.stand z _ fun d q => by cases q)
        | some v =>
          have hc : v.1 < S.n := h.fldB a f v ef
          dsimp only
          rw [ef]
          exact one_ask h hc (ih _ _ _ (h.stand z _ fun d q => by
            have q : some v.1 = some d := q
            cases q
            exact hc))
    | say w => exact ih _ _ _ h
    | askF x f =>
      simp only [tree]
      cases ex : S.env x with
      | none => exact lf _ _
      | some a =>
        cases ef : S.fld a f with
        | none =>
          dsimp only
          rw [ef]
          exact ih _ _ _ h
        | some v =>
          dsimp only
          rw [ef]
          exact one_ask h (h.fldB a f v ef) (ih _ _ _ h)
    | askW w =>
      simp only [tree]
      cases ew : S.wish with
      | none => exact ih _ _ _ h
      | some v =>
        obtain ⟨c, w'⟩ := v
        dsimp only
        by_cases hw : w' = w
        · simp only [if_pos hw]
          exact one_ask h (h.wishB c w' ew) (ih _ _ _ h)
        · simp only [if_neg hw]
          exact ih _ _ _ h
theorem every_one {P : List (Stm N)} (E : EveryKept P) : (leaves (treeOf P)).length = 1 :=
  kept_one E _ _ _ ⟨fun c h => absurd h (Nat.not_lt_zero c), fun _ => rfl, (fun _ _ h => nomatch h), (fun _ _ _ h => nomatch h), (fun _ _ h => nomatch h)⟩

/-! ### how many questions -/
def reads : Stm N → Nat
  | .take _ _ _ => 1
  | .askF _ _ => 1
  | .askW _ => 1
  | _ => 0
def readsOf (P : List (Stm N)) : Nat := (P.map reads).sum
theorem depth_ask (S : MS N) (c : Nat) (k : MS N → Bool → Tree N) (n : Nat) (h : ∀ S1 b, depth (k S1 b) ≤ n) : depth (ask S c k) ≤ n + 1 := by
  unfold ask
  split
  · have := h S true
    simp only [depth]; omega
  · split
    · have := h S false
      simp only [depth]; omega
    · have h0 := h S false
      have h1 := h (S.clear c) true
      simp only [depth]; omega
theorem depth_tree : ∀ (P : List (Stm N)) (S : MS N) (said : List (Ans N)) (p : Nat), depth (tree P S said p) ≤ readsOf P
  | [], S, said, p => Nat.zero_le _
  | s :: r, S, said, p => by
    have lf : ∀ (said : List (Ans N)) (q : Option Nat) (n : Nat), depth (.leaf said q : Tree N) ≤ n := fun _ _ _ => Nat.zero_le _
    have e : readsOf (s :: r) = reads s + readsOf r := by simp [readsOf]
    have ih := depth_tree r
    cases s with
    | take z x f =>
      simp only [tree]
      rw [e]
      split
      · exact lf _ _ _
      · split
        · exact Nat.le_trans (ih _ _ _) (Nat.le_add_left _ _)
        · exact Nat.le_trans (depth_ask _ _ _ (readsOf r) fun S1 b => ih _ _ _) (by simp only [reads]; omega)
    | askF x f =>
      simp only [tree]
      rw [e]
      split
      · exact lf _ _ _
      · split
        · exact Nat.le_trans (ih _ _ _) (Nat.le_add_left _ _)
        · exact Nat.le_trans (depth_ask _ _ _ (readsOf r) fun S1 b => ih _ _ _) (by simp only [reads]; omega)
    | askW w =>
      simp only [tree]
      rw [e]
      split
      · exact Nat.le_trans (ih _ _ _) (Nat.le_add_left _ _)
      · split
        · exact Nat.le_trans (depth_ask _ _ _ (readsOf r) fun S1 b => ih _ _ _) (by simp only [reads]; omega)
        · exact Nat.le_trans (ih _ _ _) (Nat.le_add_left _ _)
    | make x => exact Nat.le_trans (ih _ _ _) (by rw [e]; exact Nat.le_add_left _ _)
    | drop x => exact Nat.le_trans (ih _ _ _) (by rw [e]; exact Nat.le_add_left _ _)
    | say x => exact Nat.le_trans (ih _ _ _) (by rw [e]; exact Nat.le_add_left _ _)
    | wish x w =>
      simp only [tree]
      rw [e]
      split
      · exact lf _ _ _
      · exact Nat.le_trans (ih _ _ _) (Nat.le_add_left _ _)
    | keep x =>
      simp only [tree]
      rw [e]
      split
      · exact lf _ _ _
      · exact Nat.le_trans (ih _ _ _) (Nat.le_add_left _ _)
    | name x y =>
      simp only [tree]
      rw [e]
      split
      · exact lf _ _ _
      · exact Nat.le_trans (ih _ _ _) (Nat.le_add_left _ _)
    | cut x f =>
      simp only [tree]
      rw [e]
      split
      · exact lf _ _ _
      · exact Nat.le_trans (ih _ _ _) (Nat.le_add_left _ _)
    | hold x f y =>
      simp only [tree]
      rw [e]
      split
      · exact Nat.le_trans (ih _ _ _) (Nat.le_add_left _ _)
      · exact lf _ _ _
    | weak x f y =>
      simp only [tree]
      rw [e]
      split
      · exact Nat.le_trans (ih _ _ _) (Nat.le_add_left _ _)
      · exact lf _ _ _
theorem depth_of (P : List (Stm N)) : depth (treeOf P) ≤ readsOf P := depth_tree P _ _ _
end
end K82
end K82Sim_part
section K82Base_part
set_option Elab.async false
set_option linter.all false
set_option maxRecDepth 100000
set_option maxHeartbeats 4000000
namespace K82W
open PySem PySem.Spec PyProof.Rows L2
def top (i : Nat) : Stmt := PySem.Challenge.pw_maybegone_k82_whole_fixes_take_runs_away.main.body.getD i (.Pass ⟨0, 0, 0, 0⟩)
abbrev s_Stopped_init : Stmt := inClass (top 7) 0
abbrev n_Stopped_init : List Str := ["self", "why"]
abbrev p_Stopped_init : List Str := ["self", "why"]
theorem sc_Stopped_init : FnScope n_Stopped_init p_Stopped_init (defScope s_Stopped_init) := C8.fnScope_by (by decide +kernel)
abbrev s_inner_blocks : Stmt := top 9
abbrev n_inner_blocks : List Str := ["statement"]
abbrev p_inner_blocks : List Str := ["statement"]
theorem sc_inner_blocks : FnScope n_inner_blocks p_inner_blocks (defScope s_inner_blocks) := C8.fnScope_by (by decide +kernel)
abbrev s_listed : Stmt := top 10
abbrev n_listed : List Str := ["block", "depth", "found", "statement", "inner"]
abbrev p_listed : List Str := ["block", "depth"]
theorem sc_listed : FnScope n_listed p_listed (defScope s_listed) := C8.fnScope_by (by decide +kernel)
abbrev s_statements_of : Stmt := top 11
abbrev n_statements_of : List Str := ["program", "depth", "statement"]
abbrev p_statements_of : List Str := ["program"]
theorem sc_statements_of : FnScope n_statements_of p_statements_of (defScope s_statements_of) := C8.fnScope_by (by decide +kernel)
abbrev s_places_with : Stmt := top 12
abbrev n_places_with : List Str := ["program", "word", "at", "statement"]
abbrev p_places_with : List Str := ["program", "word"]
theorem sc_places_with : FnScope n_places_with p_places_with (defScope s_places_with) := C8.fnScope_by (by decide +kernel)
abbrev s_make_places : Stmt := top 13
abbrev n_make_places : List Str := ["program"]
abbrev p_make_places : List Str := ["program"]
theorem sc_make_places : FnScope n_make_places p_make_places (defScope s_make_places) := C8.fnScope_by (by decide +kernel)
abbrev s_weak_places : Stmt := top 14
abbrev n_weak_places : List Str := ["program"]
abbrev p_weak_places : List Str := ["program"]
theorem sc_weak_places : FnScope n_weak_places p_weak_places (defScope s_weak_places) := C8.fnScope_by (by decide +kernel)
abbrev s_Machine_init : Stmt := inClass (top 16) 0
abbrev n_Machine_init : List Str := ["self", "program", "inputs"]
abbrev p_Machine_init : List Str := ["self", "program", "inputs"]
theorem sc_Machine_init : FnScope n_Machine_init p_Machine_init (defScope s_Machine_init) := C8.fnScope_by (by decide +kernel)
abbrev s_Machine_note : Stmt := inClass (top 16) 3
abbrev n_Machine_note : List Str := ["self", "event"]
abbrev p_Machine_note : List Str := ["self", "event"]
theorem sc_Machine_note : FnScope n_Machine_note p_Machine_note (defScope s_Machine_note) := C8.fnScope_by (by decide +kernel)
abbrev s_Machine_end_moment : Stmt := inClass (top 16) 4
abbrev n_Machine_end_moment : List Str := ["self"]
abbrev p_Machine_end_moment : List Str := ["self"]
theorem sc_Machine_end_moment : FnScope n_Machine_end_moment p_Machine_end_moment (defScope s_Machine_end_moment) := C8.fnScope_by (by decide +kernel)
abbrev s_Machine_ask : Stmt := inClass (top 16) 5
abbrev n_Machine_ask : List Str := ["self", "cell", "answer"]
abbrev p_Machine_ask : List Str := ["self", "cell"]
theorem sc_Machine_ask : FnScope n_Machine_ask p_Machine_ask (defScope s_Machine_ask) := C8.fnScope_by (by decide +kernel)
abbrev s_Machine_cell_of : Stmt := inClass (top 16) 6
abbrev n_Machine_cell_of : List Str := ["self", "name", "cell"]
abbrev p_Machine_cell_of : List Str := ["self", "name"]
theorem sc_Machine_cell_of : FnScope n_Machine_cell_of p_Machine_cell_of (defScope s_Machine_cell_of) := C8.fnScope_by (by decide +kernel)
abbrev s_Machine_stand : Stmt := inClass (top 16) 7
abbrev n_Machine_stand : List Str := ["self", "name", "cell"]
abbrev p_Machine_stand : List Str := ["self", "name", "cell"]
theorem sc_Machine_stand : FnScope n_Machine_stand p_Machine_stand (defScope s_Machine_stand) := C8.fnScope_by (by decide +kernel)
abbrev s_Machine_fill : Stmt := inClass (top 16) 8
abbrev n_Machine_fill : List Str := ["self", "holder", "field", "cell", "is_strong", "before"]
abbrev p_Machine_fill : List Str := ["self", "holder", "field", "cell", "is_strong"]
theorem sc_Machine_fill : FnScope n_Machine_fill p_Machine_fill (defScope s_Machine_fill) := C8.fnScope_by (by decide +kernel)
abbrev s_Machine_held_by : Stmt := inClass (top 16) 9
abbrev n_Machine_held_by : List Str := ["self", "holder", "row"]
abbrev p_Machine_held_by : List Str := ["self", "holder"]
theorem sc_Machine_held_by : FnScope n_Machine_held_by p_Machine_held_by (defScope s_Machine_held_by) := C8.fnScope_by (by decide +kernel)
abbrev s_Machine_reach_from : Stmt := inClass (top 16) 10
abbrev n_Machine_reach_from : List Str := ["self", "starts", "found", "waiting", "cell"]
abbrev p_Machine_reach_from : List Str := ["self", "starts"]
theorem sc_Machine_reach_from : FnScope n_Machine_reach_from p_Machine_reach_from (defScope s_Machine_reach_from) := C8.fnScope_by (by decide +kernel)
abbrev s_Machine_reached : Stmt := inClass (top 16) 11
abbrev n_Machine_reached : List Str := ["self", "starts", "cell"]
abbrev p_Machine_reached : List Str := ["self"]
theorem sc_Machine_reached : FnScope n_Machine_reached p_Machine_reached (defScope s_Machine_reached) := C8.fnScope_by (by decide +kernel)
abbrev s_Machine_comers : Stmt := inClass (top 16) 12
abbrev n_Machine_comers : List Str := ["self", "cell", "found", "is_new", "other", "one"]
abbrev p_Machine_comers : List Str := ["self", "cell"]
theorem sc_Machine_comers : FnScope n_Machine_comers p_Machine_comers (defScope s_Machine_comers) := C8.fnScope_by (by decide +kernel)
abbrev s_do_make : Stmt := top 17
abbrev n_do_make : List Str := ["machine", "statement", "cell"]
abbrev p_do_make : List Str := ["machine", "statement"]
theorem sc_do_make : FnScope n_do_make p_do_make (defScope s_do_make) := C8.fnScope_by (by decide +kernel)
abbrev s_do_wish : Stmt := top 18
abbrev n_do_wish : List Str := ["machine", "statement"]
abbrev p_do_wish : List Str := ["machine", "statement"]
theorem sc_do_wish : FnScope n_do_wish p_do_wish (defScope s_do_wish) := C8.fnScope_by (by decide +kernel)
abbrev s_do_keep : Stmt := top 19
abbrev n_do_keep : List Str := ["machine", "statement", "cell"]
abbrev p_do_keep : List Str := ["machine", "statement"]
theorem sc_do_keep : FnScope n_do_keep p_do_keep (defScope s_do_keep) := C8.fnScope_by (by decide +kernel)
abbrev s_do_name : Stmt := top 20
abbrev n_do_name : List Str := ["machine", "statement"]
abbrev p_do_name : List Str := ["machine", "statement"]
theorem sc_do_name : FnScope n_do_name p_do_name (defScope s_do_name) := C8.fnScope_by (by decide +kernel)
abbrev s_do_drop : Stmt := top 21
abbrev n_do_drop : List Str := ["machine", "statement"]
abbrev p_do_drop : List Str := ["machine", "statement"]
theorem sc_do_drop : FnScope n_do_drop p_do_drop (defScope s_do_drop) := C8.fnScope_by (by decide +kernel)
abbrev s_do_hold : Stmt := top 22
abbrev n_do_hold : List Str := ["machine", "statement", "holder", "cell"]
abbrev p_do_hold : List Str := ["machine", "statement"]
theorem sc_do_hold : FnScope n_do_hold p_do_hold (defScope s_do_hold) := C8.fnScope_by (by decide +kernel)
abbrev s_do_weak : Stmt := top 23
abbrev n_do_weak : List Str := ["machine", "statement", "holder", "cell"]
abbrev p_do_weak : List Str := ["machine", "statement"]
theorem sc_do_weak : FnScope n_do_weak p_do_weak (defScope s_do_weak) := C8.fnScope_by (by decide +kernel)
abbrev s_do_cut : Stmt := top 24
abbrev n_do_cut : List Str := ["machine", "statement"]
abbrev p_do_cut : List Str := ["machine", "statement"]
theorem sc_do_cut : FnScope n_do_cut p_do_cut (defScope s_do_cut) := C8.fnScope_by (by decide +kernel)
abbrev s_do_take : Stmt := top 25
abbrev n_do_take : List Str := ["machine", "statement", "row", "cell"]
abbrev p_do_take : List Str := ["machine", "statement"]
theorem sc_do_take : FnScope n_do_take p_do_take (defScope s_do_take) := C8.fnScope_by (by decide +kernel)
abbrev s_do_say : Stmt := top 26
abbrev n_do_say : List Str := ["machine", "statement"]
abbrev p_do_say : List Str := ["machine", "statement"]
theorem sc_do_say : FnScope n_do_say p_do_say (defScope s_do_say) := C8.fnScope_by (by decide +kernel)
abbrev s_do_ask : Stmt := top 27
abbrev n_do_ask : List Str := ["machine", "statement"]
abbrev p_do_ask : List Str := ["machine", "statement"]
theorem sc_do_ask : FnScope n_do_ask p_do_ask (defScope s_do_ask) := C8.fnScope_by (by decide +kernel)
abbrev s_is_true : Stmt := top 28
abbrev n_is_true : List Str := ["machine", "test", "sort", "row", "cell", "word"]
abbrev p_is_true : List Str := ["machine", "test"]
theorem sc_is_true : FnScope n_is_true p_is_true (defScope s_is_true) := C8.fnScope_by (by decide +kernel)
abbrev s_enter : Stmt := top 30
abbrev n_enter : List Str := ["machine", "place"]
abbrev p_enter : List Str := ["machine", "place"]
theorem sc_enter : FnScope n_enter p_enter (defScope s_enter) := C8.fnScope_by (by decide +kernel)
abbrev s_execute : Stmt := top 31
abbrev n_execute : List Str := ["machine", "block", "place", "statement", "inner", "chosen", "k", "deed", "part"]
abbrev p_execute : List Str := ["machine", "block", "place"]
theorem sc_execute : FnScope n_execute p_execute (defScope s_execute) := C8.fnScope_by (by decide +kernel)
abbrev s_finish : Stmt := top 32
abbrev n_finish : List Str := ["machine", "stop"]
abbrev p_finish : List Str := ["machine"]
theorem sc_finish : FnScope n_finish p_finish (defScope s_finish) := C8.fnScope_by (by decide +kernel)
abbrev s_Walker_init : Stmt := inClass (top 34) 0
abbrev n_Walker_init : List Str := ["self", "program", "inputs", "first", "paused"]
abbrev p_Walker_init : List Str := ["self", "program", "inputs", "first", "paused"]
abbrev s_Walker_begin_moment : Stmt := inClass (top 34) 1
abbrev n_Walker_begin_moment : List Str := ["self", "is_reached", "cell", "truth"]
abbrev p_Walker_begin_moment : List Str := ["self"]
theorem sc_Walker_begin_moment : FnScope n_Walker_begin_moment p_Walker_begin_moment (defScope s_Walker_begin_moment) := C8.fnScope_by (by decide +kernel)
abbrev s_Walker_latest : Stmt := inClass (top 34) 2
abbrev n_Walker_latest : List Str := ["self", "cell"]
abbrev p_Walker_latest : List Str := ["self", "cell"]
theorem sc_Walker_latest : FnScope n_Walker_latest p_Walker_latest (defScope s_Walker_latest) := C8.fnScope_by (by decide +kernel)
abbrev s_Walker_decide : Stmt := inClass (top 34) 3
abbrev n_Walker_decide : List Str := ["self", "cell", "moment", "number", "other", "truth"]
abbrev p_Walker_decide : List Str := ["self", "cell"]
theorem sc_Walker_decide : FnScope n_Walker_decide p_Walker_decide (defScope s_Walker_decide) := C8.fnScope_by (by decide +kernel)
abbrev s_walked : Stmt := top 35
abbrev n_walked : List Str := ["program", "inputs", "first", "paused", "walker", "end"]
abbrev p_walked : List Str := ["program", "inputs", "first", "paused"]
theorem sc_walked : FnScope n_walked p_walked (defScope s_walked) := C8.fnScope_by (by decide +kernel)
abbrev s_next_first : Stmt := top 36
abbrev n_next_first : List Str := ["walker", "number"]
abbrev p_next_first : List Str := ["walker"]
theorem sc_next_first : FnScope n_next_first p_next_first (defScope s_next_first) := C8.fnScope_by (by decide +kernel)
abbrev s_ways_of : Stmt := top 37
abbrev n_ways_of : List Str := ["program", "inputs", "paused", "found", "first", "way", "walker"]
abbrev p_ways_of : List Str := ["program", "inputs", "paused"]
theorem sc_ways_of : FnScope n_ways_of p_ways_of (defScope s_ways_of) := C8.fnScope_by (by decide +kernel)
abbrev s_ways : Stmt := top 38
abbrev n_ways : List Str := ["program", "inputs", "paused", "way"]
abbrev p_ways : List Str := ["program", "inputs", "paused"]
abbrev s_Fix_rebuilt : Stmt := inClass (top 40) 2
abbrev n_Fix_rebuilt : List Str := ["self", "block", "place", "places", "found", "statement", "at", "parts", "part"]
abbrev p_Fix_rebuilt : List Str := ["self", "block", "place", "places"]
theorem sc_Fix_rebuilt : FnScope n_Fix_rebuilt p_Fix_rebuilt (defScope s_Fix_rebuilt) := C8.fnScope_by (by decide +kernel)
abbrev s_Fix_applied : Stmt := inClass (top 40) 3
abbrev n_Fix_applied : List Str := ["self", "program", "places", "known", "place"]
abbrev p_Fix_applied : List Str := ["self", "program", "places"]
theorem sc_Fix_applied : FnScope n_Fix_applied p_Fix_applied (defScope s_Fix_applied) := C8.fnScope_by (by decide +kernel)
abbrev s_Keeps_places_of : Stmt := inClass (top 41) 0
abbrev n_Keeps_places_of : List Str := ["self", "program"]
abbrev p_Keeps_places_of : List Str := ["self", "program"]
theorem sc_Keeps_places_of : FnScope n_Keeps_places_of p_Keeps_places_of (defScope s_Keeps_places_of) := C8.fnScope_by (by decide +kernel)
abbrev s_Keeps_changed : Stmt := inClass (top 41) 1
abbrev n_Keeps_changed : List Str := ["self", "statement"]
abbrev p_Keeps_changed : List Str := ["self", "statement"]
theorem sc_Keeps_changed : FnScope n_Keeps_changed p_Keeps_changed (defScope s_Keeps_changed) := C8.fnScope_by (by decide +kernel)
abbrev s_Strongs_places_of : Stmt := inClass (top 42) 0
abbrev n_Strongs_places_of : List Str := ["self", "program"]
abbrev p_Strongs_places_of : List Str := ["self", "program"]
theorem sc_Strongs_places_of : FnScope n_Strongs_places_of p_Strongs_places_of (defScope s_Strongs_places_of) := C8.fnScope_by (by decide +kernel)
abbrev s_Strongs_changed : Stmt := inClass (top 42) 1
abbrev n_Strongs_changed : List Str := ["self", "statement"]
abbrev p_Strongs_changed : List Str := ["self", "statement"]
theorem sc_Strongs_changed : FnScope n_Strongs_changed p_Strongs_changed (defScope s_Strongs_changed) := C8.fnScope_by (by decide +kernel)
abbrev s_law_deck : Stmt := top 44
abbrev n_law_deck : List Str := ["_law_script", "_law_cell"]
abbrev p_law_deck : List Str := ["_law_script"]
theorem sc_law_deck : FnScope n_law_deck p_law_deck (defScope s_law_deck) := C8.fnScope_by (by decide +kernel)
abbrev s_law_draw : Stmt := top 45
abbrev n_law_draw : List Str := ["_law_deck_here", "_law_many", "_law_cell", "_law_at", "_law_mixed"]
abbrev p_law_draw : List Str := ["_law_deck_here", "_law_many"]
theorem sc_law_draw : FnScope n_law_draw p_law_draw (defScope s_law_draw) := C8.fnScope_by (by decide +kernel)
abbrev s_law_one : Stmt := top 46
abbrev n_law_one : List Str := ["_law_deck_here", "_law_items"]
abbrev p_law_one : List Str := ["_law_deck_here", "_law_items"]
theorem sc_law_one : FnScope n_law_one p_law_one (defScope s_law_one) := C8.fnScope_by (by decide +kernel)
abbrev s_law_names : Stmt := top 47
abbrev n_law_names : List Str := ["_law_deck_here", "_law_count", "_law_letters", "_law_left", "_law_right", "_law_k"]
abbrev p_law_names : List Str := ["_law_deck_here", "_law_count"]
theorem sc_law_names : FnScope n_law_names p_law_names (defScope s_law_names) := C8.fnScope_by (by decide +kernel)
abbrev s_law_words : Stmt := top 48
abbrev n_law_words : List Str := ["_law_deck_here", "_law_count", "_law_signs", "_law_left", "_law_right", "_law_k"]
abbrev p_law_words : List Str := ["_law_deck_here", "_law_count"]
theorem sc_law_words : FnScope n_law_words p_law_words (defScope s_law_words) := C8.fnScope_by (by decide +kernel)
abbrev s_law_test : Stmt := top 49
abbrev n_law_test : List Str := ["_law_deck_here", "_law_pool", "_law_olds", "_law_way", "_law_x", "_law_test_here", "_law_k"]
abbrev p_law_test : List Str := ["_law_deck_here", "_law_pool", "_law_olds"]
theorem sc_law_test : FnScope n_law_test p_law_test (defScope s_law_test) := C8.fnScope_by (by decide +kernel)
abbrev s_law_plain : Stmt := top 50
abbrev n_law_plain : List Str := ["_law_deck_here", "_law_pool", "_law_held", "_law_names_here", "_law_fields", "_law_words_here", "_law_olds", "_law_way", "_law_z", "_law_f", "_law_x", "_law_y", "_law_name"]
abbrev p_law_plain : List Str := ["_law_deck_here", "_law_pool", "_law_held"]
theorem sc_law_plain : FnScope n_law_plain p_law_plain (defScope s_law_plain) := C8.fnScope_by (by decide +kernel)
abbrev s_law_puzzle : Stmt := top 53
abbrev n_law_puzzle : List Str := ["_law_deck_here", "_law_names_here", "_law_words_here", "_law_most", "_law_pool", "_law_held", "_law_rows", "_law_k", "_law_x", "_law_y", "_law_asked", "_law_row", "_law_olds", "_law_reads", "_law_name"]
abbrev p_law_puzzle : List Str := ["_law_deck_here", "_law_names_here", "_law_words_here", "_law_most"]
theorem sc_law_puzzle : FnScope n_law_puzzle p_law_puzzle (defScope s_law_puzzle) := C8.fnScope_by (by decide +kernel)
abbrev s_law_end : Stmt := top 54
abbrev n_law_end : List Str := ["_law_end_here"]
abbrev p_law_end : List Str := ["_law_end_here"]
theorem sc_law_end : FnScope n_law_end p_law_end (defScope s_law_end) := C8.fnScope_by (by decide +kernel)
abbrev s_law_fewer : Stmt := top 55
abbrev n_law_fewer : List Str := ["_law_program_here", "_law_fixed_here", "_law_known", "_law_rows", "_law_record", "_law_said", "_law_end_here", "_law_plan", "_law_row"]
abbrev p_law_fewer : List Str := ["_law_program_here", "_law_fixed_here"]
theorem sc_law_fewer : FnScope n_law_fewer p_law_fewer (defScope s_law_fewer) := C8.fnScope_by (by decide +kernel)
abbrev s_law_fixed : Stmt := top 56
abbrev n_law_fixed : List Str := ["_law_deck_here", "_law_fix", "_law_program_here", "_law_place"]
abbrev p_law_fixed : List Str := ["_law_deck_here", "_law_fix", "_law_program_here"]
theorem sc_law_fixed : FnScope n_law_fixed p_law_fixed (defScope s_law_fixed) := C8.fnScope_by (by decide +kernel)
abbrev s_law : Stmt := top 57
abbrev n_law : List Str := ["_law_script", "_law_deck_here", "_law_names_here", "_law_words_here", "_law_program_here", "_law_strong", "_law_kept", "_law_both", "_law_one_here", "_law_other", "_law_every"]
abbrev p_law : List Str := ["_law_script"]
theorem sc_law : FnScope n_law p_law (defScope s_law) := C8.fnScope_by (by decide +kernel)

/-! ### callables -/
section
variable (P : Program) (w : World) (K : PySem.W.Frag) (mg : Str → Option Value) (base : Heap)
/-- a def that may be called by its name -/
def Cal (k : Nat) (x : Str) (ps : List Str) (sp : Sp) : Prop :=
  ∃ f fd, mg x = some (.ref f) ∧ FnOk P w K mg base (CX P w) k f fd ps sp ∧ PySem.W.keepIn K (.ref f) = true ∧ Binds K fd ps []
/-- a method of the class at C -/
def Met (k : Nat) (C : Addr) (m : Str) (ps : List Str) (sp : Sp) : Prop :=
  ∃ f fd, Meth K C m f ∧ FnOk P w K mg base (CX P w) k f fd ps sp ∧ Binds K fd ps []
end
abbrev FunE (K : PySem.W.Frag) (x qual : Str) (st : Stmt) (f : Addr) : Prop := ∃ fd, FunD K x qual (defArgs st) (defBody st) (defScope st) [] [] f fd
section
variable {P : Program} {w : World} {K : PySem.W.Frag} {mg : Str → Option Value} {base : Heap}
abbrev BindsH (x qual : Str) (st : Stmt) (ps : List Str) : Prop :=
  ∀ (kV doc pm : Value) (an : Option Addr) (cdv ct : Value) (us : List Value), us.length = ps.length → bindArgs (PySem.W.fnOf x qual (defArgs st) (defBody st) (defScope st) .none kV doc pm an cdv ct) ⟨us, []⟩ = pure (ps.zip us)
abbrev BodyX (P : Program) (w : World) (K : PySem.W.Frag) (mg : Str → Option Value) (base : Heap) (qual : Str) (st : Stmt) (f : Addr) (N : List Str) (k : Nat) (sp : Sp) : Prop :=
  ∀ (cdv : Value) (A : Around) (outer : List Env) (s : Shared) (H : Hp) (vs : List V) (Q : VK) (E : XK), Room k (A.deeper (envOfC qual (defScope st) s.heap.objs.size f cdv)) → sp vs H Q E →
    ∃ t, PSs (cxOf (L2.CX P w) P w K mg base N qual (defScope st) f cdv A outer s H E) (defBody st) t ∧ t { nx := fun _ H' => Q .non H', rt := Q } (start N vs) H
abbrev BodyN (P : Program) (w : World) (K : PySem.W.Frag) (mg : Str → Option Value) (base : Heap) (qual : Str) (st : Stmt) (f : Addr) (N : List Str) (k : Nat) (sp : Sp) : Prop :=
  ∀ (cdv : Value) (A : Around) (outer : List Env) (s : Shared) (H : Hp) (vs : List V) (Q : VK) (E : XK), Room k (A.deeper (envOfC qual (defScope st) s.heap.objs.size f cdv)) → sp vs H Q E →
    ∃ t, PSs (cxOf (L2.CX P w) P w K mg base N qual (defScope st) f cdv A outer s H E).nox (defBody st) t ∧ t { nx := fun _ H' => Q .non H', rt := Q } (start N vs) H
theorem fnX {x qual : Str} {st : Stmt} {f : Addr} {fd : FuncData} {N ps : List Str} {k : Nat} {sp : Sp} (F : FunD K x qual (defArgs st) (defBody st) (defScope st) [] [] f fd) (S : FnScope N ps (defScope st))
    (len : ∀ vs H Q E, sp vs H Q E → vs.length = ps.length) (hb : BodyX P w K mg base qual st f N k sp) : FnOk P w K mg base (CX P w) (k + 1) f fd ps sp :=
  F.ok S len fun cdv A outer s H vs Q E hr h => hb cdv A outer s H vs Q E hr h
theorem fnN {x qual : Str} {st : Stmt} {f : Addr} {fd : FuncData} {N ps : List Str} {k : Nat} {sp : Sp} (F : FunD K x qual (defArgs st) (defBody st) (defScope st) [] [] f fd) (S : FnScope N ps (defScope st))
    (len : ∀ vs H Q E, sp vs H Q E → vs.length = ps.length) (hb : BodyN P w K mg base qual st f N k sp) : FnOk P w K mg base (CX P w) (k + 1) f fd ps sp :=
  F.ok S len fun cdv A outer s H vs Q E hr h => by
    obtain ⟨t, ht, q⟩ := hb cdv A outer s H vs Q E hr h
    exact ⟨t, ht.nox, q⟩
theorem calN {x : Str} {st : Stmt} {f : Addr} {N ps : List Str} {k : Nat} {sp : Sp} (F : FunE K x x st f) (hm : mg x = some (.ref f)) (S : FnScope N ps (defScope st)) (b : BindsH x x st ps)
    (len : ∀ vs H Q E, sp vs H Q E → vs.length = ps.length) (hb : BodyN P w K mg base x st f N k sp) : Cal P w K mg base (k + 1) x ps sp := by
  obtain ⟨fd, F⟩ := F
  exact ⟨f, fd, hm, fnN F S len hb, F.kp, F.bindsN b⟩
theorem calX {x : Str} {st : Stmt} {f : Addr} {N ps : List Str} {k : Nat} {sp : Sp} (F : FunE K x x st f) (hm : mg x = some (.ref f)) (S : FnScope N ps (defScope st)) (b : BindsH x x st ps)
    (len : ∀ vs H Q E, sp vs H Q E → vs.length = ps.length) (hb : BodyX P w K mg base x st f N k sp) : Cal P w K mg base (k + 1) x ps sp := by
  obtain ⟨fd, F⟩ := F
  exact ⟨f, fd, hm, fnX F S len hb, F.kp, F.bindsN b⟩
theorem metN {C : Addr} {m qual : Str} {st : Stmt} {f : Addr} {N ps : List Str} {k : Nat} {sp : Sp} (F : FunE K m qual st f) (hm : Meth K C m f) (S : FnScope N ps (defScope st)) (b : BindsH m qual st ps)
    (len : ∀ vs H Q E, sp vs H Q E → vs.length = ps.length) (hb : BodyN P w K mg base qual st f N k sp) : Met P w K mg base (k + 1) C m ps sp := by
  obtain ⟨fd, F⟩ := F
  exact ⟨f, fd, hm, fnN F S len hb, F.bindsN b⟩
theorem metX {C : Addr} {m qual : Str} {st : Stmt} {f : Addr} {N ps : List Str} {k : Nat} {sp : Sp} (F : FunE K m qual st f) (hm : Meth K C m f) (S : FnScope N ps (defScope st)) (b : BindsH m qual st ps)
    (len : ∀ vs H Q E, sp vs H Q E → vs.length = ps.length) (hb : BodyX P w K mg base qual st f N k sp) : Met P w K mg base (k + 1) C m ps sp := by
  obtain ⟨fd, F⟩ := F
  exact ⟨f, fd, hm, fnX F S len hb, F.bindsN b⟩
theorem Cal.imp {k : Nat} {x : Str} {ps : List Str} {sp sp' : Sp} (c : Cal P w K mg base k x ps sp) (h : ∀ vs H Q E, sp' vs H Q E → sp vs H Q E) : Cal P w K mg base k x ps sp' := by
  obtain ⟨f, fd, a, F, b, d⟩ := c
  exact ⟨f, fd, a, F.imp h, b, d⟩
theorem Met.imp {k : Nat} {C : Addr} {m : Str} {ps : List Str} {sp sp' : Sp} (c : Met P w K mg base k C m ps sp) (h : ∀ vs H Q E, sp' vs H Q E → sp vs H Q E) : Met P w K mg base k C m ps sp' := by
  obtain ⟨f, fd, a, F, d⟩ := c
  exact ⟨f, fd, a, F.imp h, d⟩
end
section
variable {X : Cx} {j k : Nat} {C : Addr} {x m : Str} {ps : List Str} {sp : Sp} {E : XK} {p pos apos : Pos} {e o : Expr} {es : List Expr} {ta : TE} {t : TA}
theorem pe_c (c : Cal X.prog X.w X.K X.mg X.base k x ps sp) (hr : Room j X.A) (hk : k ≤ j) (hg : Gl X x) (hx : Passes (CX X.prog X.w) X E) (ha : PA X (e :: es) t) (hdb : (x == ("__debug__" : Str)) = false := by decide)
    (he : starEach (e :: es) X.env = (false, eval e X.env) :: starEach es X.env := by rfl) (hpl : (backTo pos (starEach es X.env)).any (·.1) = false := by rfl) : PE X (.Call (.Name x p) (e :: es) [] pos) (tCall sp [] E t) := by
  obtain ⟨f, fd, hm, F, kp, b⟩ := c
  exact pe_call F (hr.mono hk) hg hm kp b .nil hx ha hdb he hpl
theorem pe_m {pl : Sem Bool} (c : Met X.prog X.w X.K X.mg X.base k C m ps sp) (hr : Room j X.A) (hk : k ≤ j) (hx : Passes (CX X.prog X.w) X E) (cl : Cls X.K C) (he : PE X o ta) (ha : PA X (e :: es) t)
    (hst : starEach (e :: es) X.env = (false, eval e X.env) :: starEach es X.env := by rfl) (hpl : (backTo pos (starEach es X.env)).any (·.1) = false := by rfl)
    (ht : eval (.Call (.Attribute o m apos) (e :: es) [] pos) X.env = (do
      let ov ← eval o X.env
      standAt apos.atName
      let (f, first) ← holding [ov] (getMethod ov m pl)
      callWith pos f first (backTo pos (starEach (e :: es) X.env)) (backToKw pos (keywordEach [] X.env))) := by rfl) : PE X (.Call (.Attribute o m apos) (e :: es) [] pos) (tMeth C m sp [] E ta t) := by
  obtain ⟨f, fd, hm, F, b⟩ := c
  exact pe_meth he cl hm F (hr.mono hk) b .nil hx ha hst hpl ht
theorem pe_m0 {pl : Sem Bool} (c : Met X.prog X.w X.K X.mg X.base k C m ps sp) (hr : Room j X.A) (hk : k ≤ j) (hx : Passes (CX X.prog X.w) X E) (cl : Cls X.K C) (he : PE X o ta)
    (ht : eval (.Call (.Attribute o m apos) [] [] pos) X.env = (do
      let ov ← eval o X.env
      standAt apos.atName
      let (f, first) ← holding [ov] (getMethod ov m pl)
      callWith pos f first (backTo pos (starEach [] X.env)) (backToKw pos (keywordEach [] X.env))) := by rfl) : PE X (.Call (.Attribute o m apos) [] [] pos) (tMeth C m sp [] E ta tNil) := by
  obtain ⟨f, fd, hm, F, b⟩ := c
  exact pe_meth0 he cl hm F (hr.mono hk) b .nil hx ht
end
end K82W
end K82Base_part
section K82Prog_part
set_option Elab.async false
set_option linter.all false
set_option maxRecDepth 100000
set_option maxHeartbeats 4000000
namespace K82W
open PySem PySem.Spec PyProof.Rows L2
abbrev PStm := K82.Stm Str
/-! ### statements as they stand -/
def kind : PStm → Str
  | .make _ => "make" | .wish _ _ => "wish" | .keep _ => "keep" | .name _ _ => "name" | .drop _ => "drop" | .hold _ _ _ => "hold" | .weak _ _ _ => "weak" | .cut _ _ => "cut"
  | .take _ _ _ => "take" | .say _ => "say" | .askF _ _ => "ask" | .askW _ => "ask"
def args (b : Addr) : PStm → List V
  | .make x => [.str x] | .wish x w => [.str x, .str w] | .keep x => [.str x] | .name x y => [.str x, .str y] | .drop x => [.str x] | .hold x f y => [.str x, .str f, .str y]
  | .weak x f y => [.str x, .str f, .str y] | .cut x f => [.str x, .str f] | .take z x f => [.str z, .str x, .str f] | .say w => [.str w] | .askF _ _ => [.ref b] | .askW _ => [.ref b]
/-- a word of some length, of signs as they are -/
def OkW (w : Str) : Prop := w.length ≤ 100 ∧ ∀ c ∈ w.cps.toList, c < 16 ^ 8
def Inner (H : Hp) (b : Addr) : PStm → Prop
  | .askF x f => H b = some (.tup [.str "full", .str x, .str f])
  | .askW w => H b = some (.tup [.str "wished", .str w])
  | .say w => OkW w
  | _ => True
def StmAt (H : Hp) (v : V) (st : PStm) : Prop := ∃ a b, v = .ref a ∧ H a = some (.tup (.str (kind st) :: args b st)) ∧ Inner H b st
theorem StmAt.mono {H H' : Hp} {v : V} {st : PStm} (s : Same H H') (h : StmAt H v st) : StmAt H' v st := by
  obtain ⟨a, b, e, h1, h2⟩ := h
  refine ⟨a, b, e, s _ _ h1, ?_⟩
  cases st <;> first | trivial | exact s _ _ h2 | exact h2
theorem kind_plain (st : PStm) : kind st ≠ "if" ∧ kind st ≠ "repeat" := by
  cases st <;> (constructor <;> (dsimp only [kind]; decide +kernel))
/-- a block of statements -/
def BlkAt (H : Hp) (a : Addr) (xs : List V) (P : List PStm) : Prop := H a = some (.tup xs) ∧ Paired (StmAt H) xs P ∧ xs.length ≤ 100
theorem pmono {α β : Type} {F G : α → β → Prop} {l : List α} {m : List β} (h : Paired F l m) (k : ∀ a b, F a b → G a b) : Paired G l m := Paired.mapP h k
theorem BlkAt.mono {H H' : Hp} {a : Addr} {xs : List V} {P : List PStm} (s : Same H H') (h : BlkAt H a xs P) : BlkAt H' a xs P :=
  ⟨s _ _ h.1, pmono h.2.1 fun _ _ q => q.mono s, h.2.2⟩
theorem pget {α β : Type} {G : α → β → Prop} {l₁ : List α} {l₂ : List β} (h : Paired G l₁ l₂) {i : Nat} {a : α} (e : l₁[i]? = some a) : ∃ b, l₂[i]? = some b ∧ G a b := paired_get h e
theorem papp {α β : Type} {F : α → β → Prop} : ∀ {a c : List α} {b d : List β}, Paired F a b → Paired F c d → Paired F (a ++ c) (b ++ d)
  | _, _, _, _, .nil, h => h
  | _, _, _, _, .cons r t, h => .cons r (papp t h)
theorem _root_.L2.Same.upd {H : Hp} {p : Addr} {o : HO} (h : H p = none) : Same H (upd H p o) := fun b u e => by rw [upd_ne (ne_of_none e h)]; exact e
theorem _root_.L2.Same.updT {H H1 : Hp} {p : Addr} {o : HO} (s : Same H H1) (h : H1 p = none) : Same H (L2.upd H1 p o) := s.trans (L2.Same.upd h)
theorem _root_.L2.Same.over {H1 H2 : Hp} {d : Addr} {o : HO} (s : Same H1 H2) (h : H1 d = none) : Same H1 (L2.upd H2 d o) := fun b u e => by rw [upd_ne (ne_of_none e h)]; exact s b u e
theorem line100 {n : Nat} (h : n ≤ 1000) : n ≤ sizeLine := Nat.le_trans h (by decide)

/-! ### what the head tells of these defs -/
structure TxA (K : PySem.W.Frag) (mg : Str → Option Value) : Prop where
  d_inner_blocks : FunE K "inner_blocks" "inner_blocks" s_inner_blocks (He.ga K "inner_blocks")
  g_inner_blocks : mg "inner_blocks" = some (.ref (He.ga K "inner_blocks"))
  d_listed : FunE K "listed" "listed" s_listed (He.ga K "listed")
  g_listed : mg "listed" = some (.ref (He.ga K "listed"))
section
variable {P : Program} {w : World} {K : PySem.W.Frag} {mg : Str → Option Value} {base : Heap}
/-! ### inner_blocks -/
def spIB : Sp := fun vs H Q _ => ∃ a k r, vs = [.ref a] ∧ H a = some (.tup (.str k :: r)) ∧ k ≠ "if" ∧ k ≠ "repeat" ∧ ∀ p, H p = none → Q (.ref p) (upd H p (.tup []))
theorem c_inner_blocks (T : TxA K mg) : Cal P w K mg base 1 "inner_blocks" p_inner_blocks spIB := by
  refine calN T.d_inner_blocks T.g_inner_blocks sc_inner_blocks (fun _ _ _ _ _ _ us hl => match us, hl with | [_], _ => rfl) (fun vs H Q E h => ?_) (fun cdv A outer s H vs Q E hr h => ?_)
  · obtain ⟨a, k, r, rfl, _⟩ := h
    rfl
  · obtain ⟨a, k, r, rfl, h1, n1, n2, hQ⟩ := h
    refine ⟨_, pss_cons (ps_if (pt_cmpR op_eq (pe_ix ix_tup (pv 0) pe_int (fun _ _ => rfl)) pe_str (nomark _)) pss_never pss_nil)
      (pss_one (ps_ret (pe_ifExp (pt_cmpR op_eq (pe_ix ix_tup (pv 0) pe_int (fun _ _ => rfl)) pe_str (nomark _)) (tA := _) (ta := fun _ _ _ => False) ⟨fun _ _ _ _ _ _ h => h.elim⟩ (pe_tup pa_nil)))), ?_⟩
    refine ⟨_, rfl, a, _, _, _, rfl, rfl, SqT.of h1, atI_nat (j := 0) rfl, rfl, _, rfl, ?_⟩
    rw [decide_eq_false (by intro e; cases e; exact n1 rfl)]
    refine iteF ?_
    refine ⟨_, rfl, a, _, _, _, rfl, rfl, SqT.of h1, atI_nat (j := 0) rfl, rfl, _, rfl, ?_⟩
    rw [decide_eq_false (by intro e; cases e; exact n2 rfl)]
    refine iteF ?_
    exact ⟨Nat.zero_le _, hQ⟩
/-! ### listed -/
def LstAt (H : Hp) (d : V) (y x : V) : Prop := ∃ b, y = .ref b ∧ H b = some (.tup [d, x])
def spLis : Sp := fun vs H Q _ => ∃ a xs B d, vs = [.ref a, .int d] ∧ BlkAt H a xs B ∧ ∀ H' q ys, Same H H' → H q = none → H' q = some (.lst ys) → Paired (LstAt H' (.int d)) ys xs → Q (.ref q) H'
theorem c_listed (T : TxA K mg) : Cal P w K mg base 2 "listed" p_listed spLis := by
  refine calN T.d_listed T.g_listed sc_listed (fun _ _ _ _ _ _ us hl => match us, hl with | [_, _], _ => rfl) (fun vs H Q E h => ?_) (fun cdv A outer s H vs Q E hr h => ?_)
  · obtain ⟨a, xs, B, d, rfl, _⟩ := h
    rfl
  · obtain ⟨a, xs, B, d, rfl, hB, hQ⟩ := h
    refine ⟨_, pss_cons (ps_set (i := 2) sc_listed.nd rfl (Or.inl rfl) (pe_lst pa_nil))
      (pss_cons (ps_for PassesOwn.never rfl (pi_tup (pv 0)) (pg_name (i := 3) sc_listed.nd rfl (Or.inl rfl))
        (pss_cons (ps_expr (pe_bm PySem.F.plainAttrs_list PySem.F.slot_list_append PySem.F.type_list_append mt_append (pv 2) (pa_cons (pe_tup (pa_cons (pv 1) (pa_cons (pv 3) pa_nil))) pa_nil)))
        (pss_one (ps_for PassesOwn.never rfl (pi_tup (pe_c (c_inner_blocks T) hr (Nat.le_refl _) (by rfl) passL (pa_cons (pv 3) pa_nil))) (pg_name (i := 4) sc_listed.nd rfl (Or.inl rfl)) pss_never))))
      (pss_one (ps_ret (pv 2)))), ?_⟩
    refine ⟨Nat.zero_le _, fun l hl => ?_⟩
    have s0 : Same H (upd H l (.lst [])) := Same.upd hl
    refine ⟨_, rfl, a, rfl, ⟨_, SqT.of (s0 _ _ hB.1)⟩, for_tup (K := K) (a := a) (xs := xs) (fun i σ H' => ∃ ys v3, σ = [some (.ref a), some (.int d), some (.ref l), v3, none] ∧ (∀ b o, H b = some o → H' b = some o) ∧ H' l = some (.lst ys) ∧ Paired (LstAt H' (.int d)) ys (xs.take i))
      ⟨[], none, rfl, s0, upd_same, by rw [List.take_zero]; exact .nil⟩ (fun i σ H' _ ⟨_, _, _, s, _⟩ => SqT.of (s _ _ hB.1)) ?_ ?_⟩
    · rintro i x σ H' hi ⟨ys, v3, rfl, s1, h2, hP⟩
      have hix : i < xs.length := (List.getElem?_eq_some_iff.mp hi).1
      have hlen : ys.length = (xs.take i).length := Paired.length hP
      have hy : ys.length < sizeLine := by
        rw [hlen, List.length_take]
        have := hB.2.2
        exact Nat.lt_of_le_of_lt (show min i xs.length ≤ 1000 by omega) (by decide)
      obtain ⟨st, hst, hS⟩ := pget hB.2.1 hi
      obtain ⟨ax, bx, rfl, hx, _⟩ := hS
      -- found.append((depth, statement))
      refine ⟨_, rfl, .inl ⟨rfl, _, SqL.of h2⟩, _, rfl, _, rfl, by show 2 ≤ sizeLine; decide, fun t ht => ?_⟩
      have nlt : l ≠ t := ne_of_none h2 ht
      refine ⟨l, ys, _, rfl, rfl, by rw [upd_ne nlt]; exact h2, hy, ?_⟩
      have s2 : ∀ b o, H b = some o → upd (upd H' t (.tup [.int d, .ref ax])) l (.lst (ys ++ [.ref t])) b = some o := fun b o e => by
        have e1 := s1 b o e
        rw [upd_ne (ne_of_none e hl), upd_ne (ne_of_none e1 ht)]
        exact e1
      -- for inner in inner_blocks(statement)
      refine ⟨_, rfl, ax, _, _, rfl, s2 _ _ hx, (kind_plain st).1, (kind_plain st).2, fun p hp => ?_⟩
      refine ⟨p, rfl, ⟨_, SqT.of upd_same⟩, for_tup (K := K) (a := p) (xs := []) (fun i σ H2 => σ = [some (.ref a), some (.int d), some (.ref l), some (.ref ax), none] ∧ H2 = upd (upd (upd H' t (.tup [.int d, .ref ax])) l (.lst (ys ++ [.ref t]))) p (.tup []))
        ⟨rfl, rfl⟩ (fun i σ H2 _ ⟨_, e⟩ => by rw [e]; exact SqT.of upd_same) (fun i x σ H2 hi _ => by simp at hi) ?_⟩
      rintro σ H2 ⟨rfl, rfl⟩
      have nlp : l ≠ p := ne_of_none (upd_same (H := upd H' t (.tup [.int d, .ref ax])) (o := .lst (ys ++ [.ref t]))) hp
      refine ⟨ys ++ [.ref t], _, rfl, fun b o e => ?_, by rw [upd_ne nlp, upd_same], ?_⟩
      · rw [upd_ne (ne_of_none (s2 b o e) hp)]
        exact s2 b o e
      · have ke : ∀ b ys', H' b = some (.tup ys') → upd (upd (upd H' t (.tup [.int d, .ref ax])) l (.lst (ys ++ [.ref t]))) p (.tup []) b = some (.tup ys') := fun b ys' e => by
          have nbl : b ≠ l := fun z => by
            rw [z, h2] at e
            cases e
          have e2 : upd (upd H' t (.tup [.int d, .ref ax])) l (.lst (ys ++ [.ref t])) b = some (.tup ys') := by
            rw [upd_ne nbl, upd_ne (ne_of_none e ht)]
            exact e
          rw [upd_ne (ne_of_none e2 hp)]
          exact e2
        rw [List.take_succ, hi]
        refine papp (pmono hP fun y x ⟨b, e, hb⟩ => ⟨b, e, ke _ _ hb⟩) (.cons ⟨t, rfl, ?_⟩ .nil)
        have e2 : upd (upd H' t (.tup [.int d, .ref ax])) l (.lst (ys ++ [.ref t])) t = some (.tup [.int d, .ref ax]) := by
          rw [upd_ne nlt.symm, upd_same]
        rw [upd_ne (ne_of_none e2 hp)]
        exact e2
    · rintro σ H' ⟨ys, v3, rfl, s1, h2, hP⟩
      rw [List.take_length] at hP
      exact ⟨_, rfl, hQ H' l ys s1 hl h2 hP⟩
end
end K82W
end K82Prog_part
section K82Fix_part
set_option Elab.async false
set_option linter.all false
set_option maxRecDepth 100000
set_option maxHeartbeats 4000000
namespace PySem
/-- a list is extended by a tuple, whatever its further slots -/
theorem k82_extT (l b : Addr) (xs ys : Array Value) (n m : Nat) (dd : Option Addr) (sl : Array (Option Value)) (h0 : Builtin.List.listTooLong (xs.size + ys.size) = false) (h1 : xs.size ≤ sizeLine) (h2 : xs.size + ys.size ≤ sizeLine + 1) :
    Meets (Builtin.«list.extend» ⟨[.ref l, .ref b], []⟩) (fun _ R s => s.heap.get? l = some { cls := .type "list", dict := none, data := .seq xs n, slots := #[] } ∧ s.heap.get? b = some ⟨.type "tuple", dd, .seq ys m, sl⟩ ∧
      R (.ok (.ret Value.none)) { s with heap := s.heap.update l (Obj.mapSeq fun x => x ++ ys), toks := s.toks }) :=
  .of_wp fun prog w A R s h => by
    obtain ⟨hp, g, d, tk, os⟩ := s
    obtain ⟨hl, hb, h⟩ := h
    have f1 := AutoSeq1.idx_int; have f2 := AutoSeq1.sub_tuple_tuple; have f3 := AutoSeq1.sub_list_list; have f4 := AutoSeq1.sub_tuple_list; have f5 := AutoSeq1.sub_list_tuple
    have hs0 : ¬(!xs.isEmpty && Builtin.List.listTooLong (xs.size + ys.size)) = true := by rw [h0, Bool.and_false]; decide
    have hz' : (xs ++ ys).size ≤ sizeLine + 1 := by rw [Array.size_append]; exact h2
    wp_walk using (wpAny_updateSeq hl rfl (hz := h1) (_hz' := hz')), AutoSeq1.wpAny_loadPart' hl, AutoSeq1.wpAny_loadPart' hb
    exact ⟨_, rfl, h⟩
end PySem
namespace K82W
open PySem PySem.Spec PyProof.Rows L2
def rExtT : V → List V → Hp → VK → Prop := fun x vs H Q => ∃ l b xs zs, x = .ref l ∧ vs = [.ref b] ∧ H l = some (.lst xs) ∧ H b = some (.tup zs) ∧ xs.length + zs.length ≤ sizeLine ∧ Q .non (upd H l (.lst (xs ++ zs)))
theorem mt_extT {X : Cx} : MtM X "list.extend" rExtT := by
  intro pins s σ H x vs v us Q I rx rv h
  obtain ⟨l, b, xs, zs, ex, ev, hH, hB, hz, q⟩ := h
  subst ex ev
  cases rx
  obtain ⟨u, eu, ru⟩ := rv.one
  subst eu
  cases ru
  obtain ⟨z, its, n, r, hl, e⟩ := I.lstM hH
  obtain ⟨its2, r2, ⟨⟨oc, od, dt, sl⟩, e2, hc, m, hd⟩, hl2⟩ := I.tuple (SqT.of (K := X.K) hB)
  have hc : oc = .type "tuple" := hc
  have hd : dt = .seq its2.toArray m := hd
  subst hc hd
  have hl2 := r2.length
  have hsz : its.toArray.size + its2.toArray.size ≤ sizeLine := by rw [List.size_toArray, List.size_toArray]; omega
  refine call_meets F.slot_list_extend ⟨_, e, rfl⟩ F.entry_list_extend (F.args_list_extend_2 _ _) (k82_extT l b its.toArray its2.toArray n m od sl (notLongL hsz) (by rw [List.size_toArray]; omega) (by omega)) ⟨e, e2, ?_⟩
  refine ⟨.non, _, I.lset (its' := its ++ its2) hH e (by simp) (r.append r2) ?_, rfl, q⟩
  rw [List.length_append]
  omega

/-! ### programs as they stand -/
/-- the program at a: no givens, its block at b -/
def PrgAt (H : Hp) (a b : Addr) (xs : List V) (B : List PStm) : Prop := H a = some (.tup [.int 0, .ref b]) ∧ BlkAt H b xs B
theorem PrgAt.mono {H H' : Hp} {a b : Addr} {xs : List V} {B : List PStm} (s : Same H H') (h : PrgAt H a b xs B) : PrgAt H' a b xs B := ⟨s _ _ h.1, h.2.mono s⟩
/-- the places of the statements of a kind, from a place on -/
def plc (k : Str) : Nat → List PStm → List Int
  | _, [] => []
  | i, st :: r => if kind st = k then (i : Int) :: plc k (i + 1) r else plc k (i + 1) r
theorem plc_snoc (k : Str) (st : PStm) : ∀ (l : List PStm) (i : Nat), plc k i (l ++ [st]) = plc k i l ++ if kind st = k then [((i + l.length : Nat) : Int)] else []
  | [], i => by
    simp only [List.nil_append, plc, List.length_nil, Nat.add_zero]
  | a :: r, i => by
    have ih := plc_snoc k st r (i + 1)
    simp only [List.cons_append, plc, List.length_cons]
    rw [ih, show i + 1 + r.length = i + (r.length + 1) by omega]
    by_cases h : kind a = k
    · rw [if_pos h, if_pos h, List.cons_append]
    · rw [if_neg h, if_neg h]
theorem plc_len (k : Str) : ∀ (l : List PStm) (i : Nat), (plc k i l).length ≤ l.length
  | [], i => Nat.le_refl _
  | a :: r, i => by
    have ih := plc_len k r (i + 1)
    simp only [plc, List.length_cons]
    split
    · simp only [List.length_cons]; omega
    · omega

structure TxB (K : PySem.W.Frag) (mg : Str → Option Value) : Prop extends TxA K mg where
  d_statements_of : FunE K "statements_of" "statements_of" s_statements_of (He.ga K "statements_of")
  g_statements_of : mg "statements_of" = some (.ref (He.ga K "statements_of"))
  d_places_with : FunE K "places_with" "places_with" s_places_with (He.ga K "places_with")
  g_places_with : mg "places_with" = some (.ref (He.ga K "places_with"))
  d_make_places : FunE K "make_places" "make_places" s_make_places (He.ga K "make_places")
  g_make_places : mg "make_places" = some (.ref (He.ga K "make_places"))
  d_weak_places : FunE K "weak_places" "weak_places" s_weak_places (He.ga K "weak_places")
  g_weak_places : mg "weak_places" = some (.ref (He.ga K "weak_places"))
  b_tuple : mg "tuple" = none
  b_enumerate : mg "enumerate" = none
section
variable {P : Program} {w : World} {K : PySem.W.Frag} {mg : Str → Option Value} {base : Heap}
def spSO : Sp := fun vs H Q _ => ∃ a b xs B, vs = [.ref a] ∧ PrgAt H a b xs B ∧ ∀ H' q, Same H H' → H q = none → H' q = some (.lst xs) → Q (.ref q) H'
theorem c_statements_of (T : TxB K mg) : Cal P w K mg base 3 "statements_of" p_statements_of spSO := by
  refine calN T.d_statements_of T.g_statements_of sc_statements_of (fun _ _ _ _ _ _ us hl => match us, hl with | [_], _ => rfl) (fun vs H Q E h => ?_) (fun cdv A outer s H vs Q E hr h => ?_)
  · obtain ⟨a, b, xs, B, rfl, _⟩ := h
    rfl
  · obtain ⟨a, b, xs, B, rfl, ⟨h1, hB⟩, hQ⟩ := h
    refine ⟨_, pss_one (ps_ret (pe_lc (own := [("depth", 1), ("statement", 2)]) (g := gTup K 2 (gCons (gName 1) (gCons (gName 2) gNil))) rfl sc_statements_of.nd
      (pi_list (pe_c (c_listed T.toTxA) hr (Nat.le_refl _) (by rfl) passL (pa_cons (pe_ix ix_tup (pv 0) pe_int (fun _ _ => rfl)) (pa_cons pe_int pa_nil)))) (blkOk_by (N := n_statements_of) (sc := defScope s_statements_of) (by decide +kernel))
      (fun _ _ _ _ _ => pg_tup rfl (pgs_cons (pg_name (i := 1) sc_statements_of.nd rfl (Or.inl rfl) (hf := Or.inr rfl)) (pgs_cons (pg_name (i := 2) sc_statements_of.nd rfl (Or.inl rfl) (hf := Or.inr rfl)) pgs_nil)))
      (fun _ _ _ _ _ => pts_nil) (fun _ _ _ _ _ => pv 2))), ?_⟩
    refine ⟨_, rfl, a, _, _, _, rfl, rfl, SqT.of h1, atI_nat (j := 1) rfl, b, xs, B, 0, rfl, hB, fun H1 q ys s1 hq hl hP => ?_⟩
    have hlen : ys.length = xs.length := Paired.length hP
    refine ⟨q, rfl, ⟨_, SqL.of hl⟩, fun D hD => ?_⟩
    have nqD : q ≠ D := ne_of_none hl hD
    refine lc_list (K := K) (a := q) (xs := ys) (fun i H2 => Same H1 H2 ∧ H2 D = some (.lst (xs.take i)))
      ⟨Same.upd hD, by rw [upd_same, List.take_zero]⟩ (fun i H2 _ ⟨k2, _⟩ => SqL.of (k2 _ _ hl)) ?_ ?_
    · rintro i y H2 hi ⟨k2, hD2⟩
      obtain ⟨x, hx, t, rfl, ht⟩ := pget hP hi
      refine ⟨t, _, rfl, SqT.of (k2 _ _ ht), rfl, _, _, rfl, _, _, rfl, rfl, rfl, ?_⟩
      refine ⟨_, rfl, _, hD2, ?_, k2.over hD, ?_⟩
      · rw [List.length_take]
        have := hB.2.2
        exact Nat.lt_of_le_of_lt (show min i xs.length ≤ 1000 by omega) (by decide)
      · rw [upd_same, List.take_succ, hx]
        rfl
    · rintro H2 ⟨k2, hD2⟩
      rw [hlen, List.take_length] at hD2
      exact hQ H2 D (s1.trans k2) (s1.free hD) hD2
def spPW : Sp := fun vs H Q _ => ∃ a b xs B k, vs = [.ref a, .str k] ∧ PrgAt H a b xs B ∧ ∀ H' q, Same H H' → H q = none → H' q = some (.tup ((plc k 0 B).map V.int)) → Q (.ref q) H'
theorem c_places_with (T : TxB K mg) : Cal P w K mg base 4 "places_with" p_places_with spPW := by
  refine calN T.d_places_with T.g_places_with sc_places_with (fun _ _ _ _ _ _ us hl => match us, hl with | [_, _], _ => rfl) (fun vs H Q E h => ?_) (fun cdv A outer s H vs Q E hr h => ?_)
  · obtain ⟨a, b, xs, B, k, rfl, _⟩ := h
    rfl
  · obtain ⟨a, b, xs, B, k, rfl, hPr, hQ⟩ := h
    obtain ⟨h1, hB⟩ := id hPr
    refine ⟨_, pss_one (ps_ret (pe_callTy call_tuple_of (by rfl) T.b_tuple (by decide +kernel) (pa_cons (pe_lc (own := [("at", 2), ("statement", 3)]) (g := gTup K 2 (gCons (gName 2) (gCons (gName 3) gNil)))
      (tt := tTest (tOp rEq (tOp (rIxT K) (tVar 3) (tC (.int 0))) (tVar 1))) (te := tVar 2) rfl sc_places_with.nd
      (pi_enum (by rfl) T.b_enumerate (pa_cons (pe_c (c_statements_of T) hr (Nat.le_refl _) (by rfl) passL (pa_cons (pv 0) pa_nil)) pa_nil)) (blkOk_by (N := n_places_with) (sc := defScope s_places_with) (by decide +kernel))
      (fun _ _ _ _ _ => pg_tup rfl (pgs_cons (pg_name (i := 2) sc_places_with.nd rfl (Or.inl rfl) (hf := Or.inr rfl)) (pgs_cons (pg_name (i := 3) sc_places_with.nd rfl (Or.inl rfl) (hf := Or.inr rfl)) pgs_nil)))
      (fun _ _ _ _ _ => pts_one (pt_cmpR op_eq (pe_ix ix_tup (pv 3) pe_int (fun _ _ => rfl)) (pv 1) (nomark _))) (fun _ _ _ _ _ => pv 2)) pa_nil))), ?_⟩
    refine ⟨_, rfl, a, b, xs, B, rfl, hPr, fun H1 q s1 hq hl => ?_⟩
    refine ⟨q, xs, rfl, SqL.of hl, fun D hD => ?_⟩
    have hlen : xs.length = B.length := Paired.length hB.2.1
    refine lc_it (walk_enum (K := K) (a := q) (xs := xs)) (fun i H2 => Same H1 H2 ∧ H2 D = some (.lst ((plc k 0 (B.take i)).map V.int)))
      ⟨Same.upd hD, by rw [upd_same, List.take_zero]; rfl⟩ (fun i H2 _ ⟨k2, _⟩ => SqL.of (k2 _ _ hl)) ?_ ?_
    · rintro i y H2 H3 hi ⟨k2, hD2⟩ ⟨t, x1, x2, rfl, ht, rfl, e1, e2⟩
      cases e1
      obtain ⟨st, hst, ax, bx, rfl, hx, _⟩ := pget hB.2.1 e2
      have k3 : Same H1 (upd H2 t (.tup [.int (i : Nat), .ref ax])) := k2.updT ht
      have hD3 : upd H2 t (.tup [.int (i : Nat), .ref ax]) D = some (.lst ((plc k 0 (B.take i)).map V.int)) := by rw [upd_ne (ne_of_none hD2 ht)]; exact hD2
      have e3 : B.take (i + 1) = B.take i ++ [st] := by rw [List.take_succ, hst]; rfl
      have hlt : (B.take i).length = i := by rw [List.length_take]; omega
      refine ⟨t, _, rfl, SqT.of upd_same, rfl, _, _, rfl, _, _, rfl, rfl, rfl, ?_⟩
      refine ⟨_, rfl, ax, _, _, _, rfl, rfl, SqT.of (k3 _ _ (s1 _ _ hx)), atI_nat (j := 0) rfl, _, rfl, rfl, _, rfl, ?_⟩
      by_cases hk : kind st = k
      · rw [decide_eq_true (by rw [hk])]
        refine iteT ⟨_, rfl, _, hD3, ?_, k3.over hD, ?_⟩
        · rw [List.length_map]
          have := plc_len k (B.take i) 0
          have := hB.2.2
          exact Nat.lt_of_le_of_lt (show _ ≤ 1000 by omega) (by decide)
        · rw [upd_same, e3, plc_snoc, if_pos hk, List.map_append, hlt, Nat.zero_add]
          rfl
      · rw [decide_eq_false (by intro e; cases e; exact hk rfl)]
        refine iteF ⟨k3, ?_⟩
        rw [hD3, e3, plc_snoc, if_neg hk, List.append_nil]
    · rintro H2 ⟨k2, hD2⟩
      rw [hlen, List.take_length] at hD2
      refine ⟨D, _, rfl, .inl ⟨SqL.of hD2, fun l hl2 => ?_⟩⟩
      exact hQ _ l ((s1.trans k2).updT hl2) ((s1.trans k2).free hl2) upd_same
def spPl (k : Str) : Sp := fun vs H Q _ => ∃ a b xs B, vs = [.ref a] ∧ PrgAt H a b xs B ∧ ∀ H' q, Same H H' → H q = none → H' q = some (.tup ((plc k 0 B).map V.int)) → Q (.ref q) H'
theorem c_make_places (T : TxB K mg) : Cal P w K mg base 5 "make_places" p_make_places (spPl "make") := by
  refine calN T.d_make_places T.g_make_places sc_make_places (fun _ _ _ _ _ _ us hl => match us, hl with | [_], _ => rfl) (fun vs H Q E h => ?_) (fun cdv A outer s H vs Q E hr h => ?_)
  · obtain ⟨a, b, xs, B, rfl, _⟩ := h
    rfl
  · obtain ⟨a, b, xs, B, rfl, hPr, hQ⟩ := h
    refine ⟨_, pss_one (ps_ret (pe_c (c_places_with T) hr (Nat.le_refl _) (by rfl) passL (pa_cons (pv 0) (pa_cons pe_str pa_nil)))), ?_⟩
    exact ⟨_, rfl, a, b, xs, B, _, rfl, hPr, hQ⟩
theorem c_weak_places (T : TxB K mg) : Cal P w K mg base 5 "weak_places" p_weak_places (spPl "weak") := by
  refine calN T.d_weak_places T.g_weak_places sc_weak_places (fun _ _ _ _ _ _ us hl => match us, hl with | [_], _ => rfl) (fun vs H Q E h => ?_) (fun cdv A outer s H vs Q E hr h => ?_)
  · obtain ⟨a, b, xs, B, rfl, _⟩ := h
    rfl
  · obtain ⟨a, b, xs, B, rfl, hPr, hQ⟩ := h
    refine ⟨_, pss_one (ps_ret (pe_c (c_places_with T) hr (Nat.le_refl _) (by rfl) passL (pa_cons (pv 0) (pa_cons pe_str pa_nil)))), ?_⟩
    exact ⟨_, rfl, a, b, xs, B, _, rfl, hPr, hQ⟩
end
end K82W
end K82Fix_part
section K82Reb_part
set_option Elab.async false
set_option linter.all false
set_option maxRecDepth 100000
set_option maxHeartbeats 4000000
namespace K82W
open PySem PySem.Spec PyProof.Rows L2
/-! ### lists of ints against the empty list -/
theorem dpI {K : PySem.W.Frag} {H : Hp} : ∀ is : List Int, DpAll K H (is.map V.int) (is.map PyData.int)
  | [] => .nil
  | i :: r => .cons (.int i) (dpI r)
theorem layI : ∀ is : List Int, PyData.canLayAll0 (is.map PyData.int) = true
  | [] => rfl
  | i :: r => by
    have := layI r
    simp only [List.map_cons, PyData.canLayAll0, PyData.canLay0, Bool.true_and]
    exact this
theorem depI : ∀ is : List Int, PyData.depthAll (is.map PyData.int) = 0
  | [] => rfl
  | i :: r => by
    have := depI r
    simp only [List.map_cons, PyData.depthAll, PyData.depth]
    omega
theorem shI (is : List Int) : SeqAt.shaped (.list (is.map PyData.int)) = true := by
  unfold SeqAt.shaped
  rw [show (PyData.list (is.map PyData.int)).canLay0 = true from layI is]
  have : (PyData.list (is.map PyData.int)).depth = 1 := by
    show PyData.depthAll _ + 1 = 1
    rw [depI]
  rw [this]
  rfl
theorem eqvNil (is : List Int) : PyData.eqv (.list (is.map PyData.int)) (.list []) = is.isEmpty := by cases is <;> rfl
def rNeNil (K : PySem.W.Frag) : R2 := fun x y H Q => ∃ (a b : Addr) (is : List Int), x = .ref a ∧ y = .ref b ∧ SqL K H a (is.map V.int) ∧ SqL K H b [] ∧ Q (.bl (!is.isEmpty)) H
theorem op_neNil {X : Cx} (hu : X.A.units + 64 < cLine) : OpR X (compareOp .NotEq) (rNeNil X.K) := by
  intro pins s σ H x y v u Q I rx ry h
  obtain ⟨a, b, is, e1, e2, h1, h2, q⟩ := h
  subst e1 e2
  refine op_neD hu pins s σ H _ _ v u Q I rx ry ⟨_, _, Dp.lst h1 (dpI is), Dp.lst h2 .nil, shI is, shI [], ?_⟩
  rw [eqvNil]
  exact q
def rEqNil (K : PySem.W.Frag) : R2 := fun x y H Q => ∃ (a b : Addr) (is : List Int), x = .ref a ∧ y = .ref b ∧ SqL K H a (is.map V.int) ∧ SqL K H b [] ∧ Q (.bl is.isEmpty) H
theorem op_eqNil {X : Cx} (hu : X.A.units + 64 < cLine) : OpR X (compareOp .Eq) (rEqNil X.K) := by
  intro pins s σ H x y v u Q I rx ry h
  obtain ⟨a, b, is, e1, e2, h1, h2, q⟩ := h
  subst e1 e2
  refine op_eqD hu pins s σ H _ _ v u Q I rx ry ⟨_, _, Dp.lst h1 (dpI is), Dp.lst h2 .nil, shI is, shI [], ?_⟩
  rw [eqvNil]
  exact q
/-! ### what a fix makes of a program -/
def reb (chg : PStm → List PStm) (S : Int → Bool) : Nat → List PStm → List PStm
  | _, [] => []
  | i, st :: r => (if S (i : Int) = true then chg st else [st]) ++ reb chg S (i + 1) r
theorem reb_snoc (chg : PStm → List PStm) (S : Int → Bool) (st : PStm) : ∀ (l : List PStm) (i : Nat), reb chg S i (l ++ [st]) = reb chg S i l ++ if S ((i + l.length : Nat) : Int) = true then chg st else [st]
  | [], i => by
    simp only [List.nil_append, reb, List.length_nil, Nat.add_zero, List.append_nil]
  | a :: r, i => by
    have ih := reb_snoc chg S st r (i + 1)
    simp only [List.cons_append, reb, List.length_cons]
    rw [ih, show i + 1 + r.length = i + (r.length + 1) by omega, List.append_assoc]
theorem reb_len (chg : PStm → List PStm) (S : Int → Bool) (m : Nat) (hm : 1 ≤ m) (hc : ∀ st, (chg st).length ≤ m) : ∀ (l : List PStm) (i : Nat), (reb chg S i l).length ≤ m * l.length
  | [], i => by simp [reb]
  | a :: r, i => by
    have ih := reb_len chg S m hm hc r (i + 1)
    have h1 : (if S (i : Int) = true then chg a else [a]).length ≤ m := by
      split
      · exact hc a
      · exact hm
    simp only [reb, List.length_append, List.length_cons, Nat.mul_add, Nat.mul_one]
    omega
def chgK : PStm → List PStm
  | .make x => [.make x, .keep x]
  | st => [st]
def chgS : PStm → List PStm
  | .weak x f y => [.hold x f y]
  | st => [st]
theorem chgK_len (st : PStm) : (chgK st).length ≤ 2 := by cases st <;> (unfold chgK; simp)
theorem chgS_len (st : PStm) : (chgS st).length ≤ 1 := by cases st <;> (unfold chgS; simp)

/-! ### the fixes' methods -/
def MethE (K : PySem.W.Frag) (C m qual : Str) (st : Stmt) : Prop := Meth K (He.ga K C) m (He.ma K (He.ga K C) m) ∧ FunE K m qual st (He.ma K (He.ga K C) m)
structure TxC (K : PySem.W.Frag) (mg : Str → Option Value) : Prop extends TxB K mg where
  c_Keeps : Cls K (He.ga K "Keeps")
  c_Strongs : Cls K (He.ga K "Strongs")
  m_Keeps_places_of : MethE K "Keeps" "places_of" "Keeps.places_of" s_Keeps_places_of
  m_Keeps_changed : MethE K "Keeps" "changed" "Keeps.changed" s_Keeps_changed
  m_Keeps_rebuilt : MethE K "Keeps" "rebuilt" "Fix.rebuilt" s_Fix_rebuilt
  m_Keeps_applied : MethE K "Keeps" "applied" "Fix.applied" s_Fix_applied
  m_Strongs_places_of : MethE K "Strongs" "places_of" "Strongs.places_of" s_Strongs_places_of
  m_Strongs_changed : MethE K "Strongs" "changed" "Strongs.changed" s_Strongs_changed
  m_Strongs_rebuilt : MethE K "Strongs" "rebuilt" "Fix.rebuilt" s_Fix_rebuilt
  m_Strongs_applied : MethE K "Strongs" "applied" "Fix.applied" s_Fix_applied
section
variable {P : Program} {w : World} {K : PySem.W.Frag} {mg : Str → Option Value} {base : Heap}
def spPO (k : Str) : Sp := fun vs H Q _ => ∃ o a b xs B, vs = [o, .ref a] ∧ PrgAt H a b xs B ∧ ∀ H' q, Same H H' → H q = none → H' q = some (.tup ((plc k 0 B).map V.int)) → Q (.ref q) H'
theorem m_Keeps_places_of (T : TxC K mg) : Met P w K mg base 6 (He.ga K "Keeps") "places_of" p_Keeps_places_of (spPO "make") := by
  refine metN T.m_Keeps_places_of.2 T.m_Keeps_places_of.1 sc_Keeps_places_of (fun _ _ _ _ _ _ us hl => match us, hl with | [_, _], _ => rfl) (fun vs H Q E h => ?_) (fun cdv A outer s H vs Q E hr h => ?_)
  · obtain ⟨o, a, b, xs, B, rfl, _⟩ := h
    rfl
  · obtain ⟨o, a, b, xs, B, rfl, hPr, hQ⟩ := h
    refine ⟨_, pss_one (ps_ret (pe_c (c_make_places T.toTxB) hr (Nat.le_refl _) (by rfl) passL (pa_cons (pv 1) pa_nil))), ?_⟩
    exact ⟨_, rfl, a, b, xs, B, rfl, hPr, hQ⟩
theorem m_Strongs_places_of (T : TxC K mg) : Met P w K mg base 6 (He.ga K "Strongs") "places_of" p_Strongs_places_of (spPO "weak") := by
  refine metN T.m_Strongs_places_of.2 T.m_Strongs_places_of.1 sc_Strongs_places_of (fun _ _ _ _ _ _ us hl => match us, hl with | [_, _], _ => rfl) (fun vs H Q E h => ?_) (fun cdv A outer s H vs Q E hr h => ?_)
  · obtain ⟨o, a, b, xs, B, rfl, _⟩ := h
    rfl
  · obtain ⟨o, a, b, xs, B, rfl, hPr, hQ⟩ := h
    refine ⟨_, pss_one (ps_ret (pe_c (c_weak_places T.toTxB) hr (Nat.le_refl _) (by rfl) passL (pa_cons (pv 1) pa_nil))), ?_⟩
    exact ⟨_, rfl, a, b, xs, B, rfl, hPr, hQ⟩
def spChg (chg : PStm → List PStm) : Sp := fun vs H Q _ => ∃ o v st, vs = [o, v] ∧ StmAt H v st ∧ ∀ H' t us, Same H H' → H t = none → H' t = some (.tup us) → Paired (StmAt H') us (chg st) → Q (.ref t) H'
theorem kind_make {st : PStm} (h : kind st = "make") : ∃ x, st = .make x := by
  cases st with
  | make x => exact ⟨x, rfl⟩
  | _ => exact absurd h (by dsimp only [kind]; decide +kernel)
theorem kind_weak {st : PStm} (h : kind st = "weak") : ∃ x f y, st = .weak x f y := by
  cases st with
  | weak x f y => exact ⟨x, f, y, rfl⟩
  | _ => exact absurd h (by dsimp only [kind]; decide +kernel)
theorem chgK_ne {st : PStm} (h : kind st ≠ "make") : chgK st = [st] := by
  cases st with
  | make x => exact absurd rfl h
  | _ => rfl
theorem chgS_ne {st : PStm} (h : kind st ≠ "weak") : chgS st = [st] := by
  cases st with
  | weak x f y => exact absurd rfl h
  | _ => rfl
theorem m_Keeps_changed (T : TxC K mg) : Met P w K mg base 1 (He.ga K "Keeps") "changed" p_Keeps_changed (spChg chgK) := by
  refine metN T.m_Keeps_changed.2 T.m_Keeps_changed.1 sc_Keeps_changed (fun _ _ _ _ _ _ us hl => match us, hl with | [_, _], _ => rfl) (fun vs H Q E h => ?_) (fun cdv A outer s H vs Q E hr h => ?_)
  · obtain ⟨o, v, st, rfl, _⟩ := h
    rfl
  · obtain ⟨o, v, st, rfl, hS, hQ⟩ := h
    obtain ⟨a, b, rfl, ha, hi⟩ := id hS
    refine ⟨_, pss_one (ps_ret (pe_ifExp (pt_cmpR op_eq (pe_ix ix_tup (pv 1) pe_int (fun _ _ => rfl)) pe_str (nomark _)) (pe_tup (pa_cons (pv 1) (pa_cons (pe_tup (pa_cons pe_str (pa_cons (pe_ix ix_tup (pv 1) pe_int (fun _ _ => rfl)) pa_nil))) pa_nil))) (pe_tup (pa_cons (pv 1) pa_nil)))), ?_⟩
    refine ⟨_, rfl, a, _, _, _, rfl, rfl, SqT.of ha, atI_nat (j := 0) rfl, rfl, _, rfl, ?_⟩
    by_cases hk : kind st = "make"
    · rw [decide_eq_true (by rw [hk])]
      obtain ⟨x, rfl⟩ := kind_make hk
      refine iteT ?_
      refine ⟨_, rfl, _, rfl, a, _, _, _, rfl, rfl, SqT.of ha, atI_nat (j := 1) rfl, by show 2 ≤ sizeLine; decide, fun t ht => ?_⟩
      refine ⟨by show 2 ≤ sizeLine; decide, fun q hq => ?_⟩
      have s1 : Same H (upd H t (.tup [.str "keep", .str x])) := Same.upd ht
      have htq := ne_of_none (upd_same (H := H) (a := t) (o := .tup [.str "keep", .str x])) hq
      refine hQ _ q _ (s1.updT hq) (s1.free hq) upd_same (.cons (hS.mono (s1.updT hq)) (.cons ⟨t, 0, rfl, by rw [upd_ne htq, upd_same]; rfl, trivial⟩ .nil))
    · rw [decide_eq_false (fun e => hk (V.str.inj e))]
      refine iteF ⟨_, rfl, by show 1 ≤ sizeLine; decide, fun q hq => ?_⟩
      exact hQ _ q _ (Same.upd hq) hq upd_same (by rw [chgK_ne hk]; exact .cons (hS.mono (Same.upd hq)) .nil)
theorem m_Strongs_changed (T : TxC K mg) : Met P w K mg base 1 (He.ga K "Strongs") "changed" p_Strongs_changed (spChg chgS) := by
  refine metN T.m_Strongs_changed.2 T.m_Strongs_changed.1 sc_Strongs_changed (fun _ _ _ _ _ _ us hl => match us, hl with | [_, _], _ => rfl) (fun vs H Q E h => ?_) (fun cdv A outer s H vs Q E hr h => ?_)
  · obtain ⟨o, v, st, rfl, _⟩ := h
    rfl
  · obtain ⟨o, v, st, rfl, hS, hQ⟩ := h
    obtain ⟨a, b, rfl, ha, hi⟩ := id hS
    refine ⟨_, pss_one (ps_ret (pe_ifExp (pt_cmpR op_eq (pe_ix ix_tup (pv 1) pe_int (fun _ _ => rfl)) pe_str (nomark _)) (pe_tup (pa_cons (pe_op op_catA (pe_tup (pa_cons pe_str pa_nil)) (pe_slice sl_tupA (pv 1) (po_some pe_int) po_none)) pa_nil)) (pe_tup (pa_cons (pv 1) pa_nil)))), ?_⟩
    refine ⟨_, rfl, a, _, _, _, rfl, rfl, SqT.of ha, atI_nat (j := 0) rfl, rfl, _, rfl, ?_⟩
    by_cases hk : kind st = "weak"
    · rw [decide_eq_true (by rw [hk])]
      obtain ⟨x, f, y, rfl⟩ := kind_weak hk
      refine iteT ?_
      refine ⟨by show 1 ≤ sizeLine; decide, fun t ht => ?_⟩
      have s1 : Same H (upd H t (.tup [.str "hold"])) := Same.upd ht
      refine ⟨_, rfl, _, rfl, a, _, rfl, SqT.of (s1 _ _ ha), fun e => absurd e.1 (by show ¬ (1 = 0); decide), fun _ p hp => ?_⟩
      have s2 : Same (upd H t (.tup [.str "hold"])) (upd (upd H t (.tup [.str "hold"])) p (.tup [.str x, .str f, .str y])) := Same.upd hp
      refine ⟨t, p, _, _, rfl, rfl, SqT.of (s2 _ _ upd_same), SqT.of upd_same, by show 4 ≤ sizeLine; decide, (fun e => nomatch e), (fun _ e => nomatch e), fun _ _ r hr' => ?_⟩
      have s3 := s2.updT (o := .tup ([.str "hold"] ++ [.str x, .str f, .str y])) hr'
      refine ⟨by show 1 ≤ sizeLine; decide, fun q hq => ?_⟩
      have s4 := s3.updT (o := .tup [.ref r]) hq
      refine hQ _ q _ (s1.trans s4) ((s1.trans s3).free hq) upd_same (.cons ⟨r, 0, rfl, ?_, trivial⟩ .nil)
      exact Same.upd hq r _ upd_same
    · rw [decide_eq_false (fun e => hk (V.str.inj e))]
      refine iteF ⟨_, rfl, by show 1 ≤ sizeLine; decide, fun q hq => ?_⟩
      exact hQ _ q _ (Same.upd hq) hq upd_same (by rw [chgS_ne hk]; exact .cons (hS.mono (Same.upd hq)) .nil)
end
end K82W
end K82Reb_part
section K82Fixed_part
set_option Elab.async false
set_option linter.all false
set_option maxRecDepth 100000
set_option maxHeartbeats 4000000
namespace K82W
open PySem PySem.Spec PyProof.Rows L2
theorem inV_int (is : List Int) (i : Int) : inV (.int i) (is.map V.int) = decide (i ∈ is) := by
  unfold inV
  induction is with
  | nil => rfl
  | cons a r ih =>
    rw [List.map_cons, List.any_cons, ih]
    show ((a == i) || _) = _
    by_cases h : a = i
    · subst h
      simp
    · rw [beq_eq_false_iff_ne.mpr h, Bool.false_or]
      have : (i ∈ a :: r) = (i ∈ r) := by
        rw [List.mem_cons]
        exact propext ⟨fun z => z.resolve_left fun q => h q.symm, .inr⟩
      simp only [this]
theorem flatI (is : List Int) : (is.map V.int).all flatV = true := by
  rw [List.all_map]
  exact List.all_eq_true.mpr fun _ _ => rfl
section
variable {P : Program} {w : World} {K : PySem.W.Frag} {mg : Str → Option Value} {base : Heap}
def spReb (C : Addr) (chg : PStm → List PStm) (m : Nat) : Sp := fun vs H Q _ => ∃ (o dx a : Addr) (xs : List V) (B : List PStm) (q : Addr) (is : List Int), vs = [.ref o, .ref a, .int 0, .ref q] ∧ H o = some (.ins C dx []) ∧ BlkAt H a xs B ∧ m * xs.length ≤ 100 ∧ H q = some (.tup (is.map V.int)) ∧
  ∀ H' t us, Same H H' → BlkAt H' t us (reb chg (fun i => decide (i ∈ is)) 0 B) → Q (.ref t) H'
theorem m_rebuilt {C : Addr} {chg : PStm → List PStm} {m : Nat} {f : Addr} (T : TxB K mg) (cl : Cls K C) (hm : Meth K C "rebuilt" f) (hf : FunE K "rebuilt" "Fix.rebuilt" s_Fix_rebuilt f)
    (ch : Met P w K mg base 1 C "changed" ["self", "statement"] (spChg chg)) (h1 : 1 ≤ m) (h2 : ∀ st, (chg st).length ≤ m) (h3 : m ≤ 2) : Met P w K mg base 3 C "rebuilt" p_Fix_rebuilt (spReb C chg m) := by
  refine metN hf hm sc_Fix_rebuilt (fun _ _ _ _ _ _ us hl => match us, hl with | [_, _, _, _], _ => rfl) (fun vs H Q E h => ?_) (fun cdv A outer s H vs Q E hr h => ?_)
  · obtain ⟨o, dx, a, xs, B, q, is, rfl, _⟩ := h
    rfl
  · obtain ⟨o, dx, a, xs, B, q, is, rfl, ho, hB, hlen, hq, hQ⟩ := h
    refine ⟨_, pss_cons (ps_set (i := 4) sc_Fix_rebuilt.nd rfl (Or.inl rfl) (pe_lst pa_nil))
      (pss_cons (ps_for PassesOwn.never rfl (pi_tup (pv 1)) (pg_name (i := 5) sc_Fix_rebuilt.nd rfl (Or.inl rfl))
        (pss_cons (ps_set (i := 6) sc_Fix_rebuilt.nd rfl (Or.inl rfl) (pv 2))
        (pss_cons (ps_aug (i := 2) sc_Fix_rebuilt.nd rfl (Or.inl rfl) pe_int ip_add)
        (pss_cons (ps_set (i := 7) sc_Fix_rebuilt.nd rfl (Or.inl rfl) (pe_lst pa_nil))
        (pss_cons (ps_for PassesOwn.never rfl (pi_tup (pe_c (c_inner_blocks T.toTxA) hr (by decide) (by rfl) passL (pa_cons (pv 5) pa_nil))) (pg_name (i := 8) sc_Fix_rebuilt.nd rfl (Or.inl rfl)) pss_never)
        (pss_cons (ps_if (pt_cmpR (op_neNil hr.units) (pv 7) (pe_lst pa_nil) (nomark _)) pss_never pss_nil)
        (pss_one (ps_expr (pe_bm PySem.F.plainAttrs_list PySem.F.slot_list_extend PySem.F.type_list_extend mt_extT (pv 4)
          (pa_cons (pe_ifExp (pt_cmpR op_in_seq (pv 6) (pv 3) (by with_unfolding_all rfl)) (pe_m ch hr (by decide) passL cl (pv 0) (pa_cons (pv 5) pa_nil)) (pe_tup (pa_cons (pv 5) pa_nil))) pa_nil))))))))))
      (pss_one (ps_ret (pe_callTy call_tuple_of (by rfl) T.b_tuple (by decide +kernel) (pa_cons (pv 4) pa_nil))))), ?_⟩
    refine ⟨Nat.zero_le _, fun l hl => ?_⟩
    have s0 : Same H (upd H l (.lst [])) := Same.upd hl
    have hxl : xs.length = B.length := Paired.length hB.2.1
    refine ⟨_, rfl, a, rfl, ⟨_, SqT.of (s0 _ _ hB.1)⟩, for_tup (K := K) (a := a) (xs := xs) (fun i σ H' => ∃ us v5 v6 v7, σ = [some (.ref o), some (.ref a), some (.int (i : Nat)), some (.ref q), some (.ref l), v5, v6, v7, none] ∧ Same H H' ∧ H' l = some (.lst us) ∧ Paired (StmAt H') us (reb chg (fun i => decide (i ∈ is)) 0 (B.take i)))
      ⟨[], none, none, none, rfl, s0, upd_same, by rw [List.take_zero]; exact .nil⟩ (fun i σ H' _ ⟨_, _, _, _, _, s, _⟩ => SqT.of (s _ _ hB.1)) ?_ ?_⟩
    · rintro i x σ H' hi ⟨us, v5, v6, v7, rfl, s1, h4, hP⟩
      have hix : i < xs.length := (List.getElem?_eq_some_iff.mp hi).1
      obtain ⟨st, hst, hS⟩ := pget hB.2.1 hi
      have e3 : B.take (i + 1) = B.take i ++ [st] := by rw [List.take_succ, hst]; rfl
      have hlt : (B.take i).length = i := by rw [List.length_take]; omega
      have hus : us.length ≤ m * i := by
        rw [Paired.length hP]
        have := reb_len chg (fun i => decide (i ∈ is)) m h1 h2 (B.take i) 0
        rw [hlt] at this
        exact this
      have hmi : m * i ≤ m * xs.length := Nat.mul_le_mul_left m (Nat.le_of_lt hix)
      refine ⟨_, rfl, ?_⟩
      refine ⟨_, rfl, i, 1, rfl, rfl, Nat.zero_le _, fun p hp => ?_⟩
      have s2 : Same H' (upd H' p (.lst [])) := Same.upd hp
      obtain ⟨ax, bx, rfl, hx, hI⟩ := id hS
      refine ⟨_, rfl, ax, _, _, rfl, s2 _ _ (s1 _ _ hx), (kind_plain st).1, (kind_plain st).2, fun p2 hp2 => ?_⟩
      have s3 : Same H' (upd (upd H' p (.lst [])) p2 (.tup [])) := s2.updT hp2
      refine ⟨p2, rfl, ⟨_, SqT.of upd_same⟩, for_tup (K := K) (a := p2) (xs := []) (fun i2 σ H2 => σ = [some (.ref o), some (.ref a), some (.int ((i : Int) + 1)), some (.ref q), some (.ref l), some (.ref ax), some (.int (i : Nat)), some (.ref p), none] ∧ H2 = upd (upd H' p (.lst [])) p2 (.tup []))
        ⟨rfl, rfl⟩ (fun i σ H2 _ ⟨_, e⟩ => by rw [e]; exact SqT.of upd_same) (fun i x σ H2 hi _ => by simp at hi) ?_⟩
      rintro σ H2 ⟨rfl, rfl⟩
      have hpp : upd (upd H' p (.lst [])) p2 (.tup []) p = some (.lst []) := Same.upd hp2 _ _ upd_same
      refine ⟨_, rfl, Nat.zero_le _, fun p3 hp3 => ?_⟩
      have s4 : Same H' (upd (upd (upd H' p (.lst [])) p2 (.tup [])) p3 (.lst [])) := s3.updT hp3
      refine ⟨p, p3, [], rfl, rfl, SqL.of (Same.upd hp3 _ _ hpp), SqL.of upd_same, _, rfl, iteF ?_⟩
      have h4' := s4 _ _ h4
      refine ⟨_, rfl, .inl ⟨rfl, _, SqL.of h4'⟩, _, rfl, _, rfl, q, _, rfl, .inr (SqT.of (s4 _ _ (s1 _ _ hq))), rfl, flatI is, decide ((i : Int) ∈ is), congrArg V.bl (inV_int is i), ?_⟩
      have key : ∀ H5 t ts, Same (upd (upd (upd H' p (.lst [])) p2 (.tup [])) p3 (.lst [])) H5 → H5 t = some (.tup ts) → Paired (StmAt H5) ts (if decide ((i : Int) ∈ is) = true then chg st else [st]) →
          rExtT (.ref l) [.ref t] H5 fun _ H6 => ∃ us v5 v6 v7, [some (V.ref o), some (V.ref a), some (V.int ((i : Int) + 1)), some (V.ref q), some (V.ref l), some (V.ref ax), some (V.int (i : Nat)), some (V.ref p), none] = [some (V.ref o), some (V.ref a), some (V.int ((i + 1 : Nat) : Nat)), some (V.ref q), some (V.ref l), v5, v6, v7, none] ∧ Same H H6 ∧ H6 l = some (.lst us) ∧ Paired (StmAt H6) us (reb chg (fun i => decide (i ∈ is)) 0 (B.take (i + 1))) := by
        intro H5 t ts k5 ht hts
        have hl5 := k5 _ _ h4'
        have hts2 : ts.length ≤ m := by
          rw [Paired.length hts]
          split
          · exact h2 st
          · exact h1
        refine ⟨l, t, us, ts, rfl, rfl, hl5, ht, Nat.le_trans (show us.length + ts.length ≤ 1000 by omega) (by decide), us ++ ts, _, _, _, rfl, ?_, upd_same, ?_⟩
        · exact fun b u e => by
            rw [upd_ne (ne_of_none e hl)]
            exact k5 _ _ (s4 _ _ (s1 _ _ e))
        · have kk : ∀ v st, StmAt H5 v st → StmAt (upd H5 l (.lst (us ++ ts))) v st := by
            rintro v st ⟨a1, b1, e1, q1, q2⟩
            have nl : ∀ c zs, H5 c = some (.tup zs) → upd H5 l (.lst (us ++ ts)) c = some (.tup zs) := fun c zs e => by
              rw [upd_ne (ne_of e hl5 (by intro z; cases z))]
              exact e
            refine ⟨a1, b1, e1, nl _ _ q1, ?_⟩
            cases st <;> first | trivial | exact nl _ _ q2 | exact q2
          rw [e3, reb_snoc, hlt, Nat.zero_add]
          exact papp (pmono hP fun v st z => kk v st ((z.mono s4).mono k5)) (pmono hts kk)
      cases hd : decide ((i : Int) ∈ is) with
      | true =>
        rw [hd] at key
        refine iteT ⟨_, rfl, o, dx, [], rfl, s4 _ _ (s1 _ _ ho), rfl, _, rfl, _, _, st, rfl, (hS.mono s1).mono s4, fun H5 t ts k5 _ ht hts => ?_⟩
        exact key H5 t ts k5 ht (by rw [if_pos rfl]; exact hts)
      | false =>
        rw [hd] at key
        refine iteF ⟨_, rfl, by show 1 ≤ sizeLine; decide, fun t ht => ?_⟩
        exact key _ t _ (Same.upd ht) upd_same (by rw [if_neg (by decide)]; exact .cons (((hS.mono s1).mono s4).mono (Same.upd ht)) .nil)
    · rintro σ H' ⟨us, v5, v6, v7, rfl, s1, h4, hP⟩
      rw [hxl, List.take_length] at hP
      refine ⟨_, rfl, l, us, rfl, .inl ⟨SqL.of h4, fun t ht => ?_⟩⟩
      refine hQ _ t us (s1.updT ht) ⟨upd_same, pmono hP fun v st z => z.mono (Same.upd ht), ?_⟩
      rw [Paired.length hP]
      have := reb_len chg (fun i => decide (i ∈ is)) m h1 h2 B 0
      rw [← hxl] at this
      omega
end
end K82W
end K82Fixed_part
section K82Applied_part
set_option Elab.async false
set_option linter.all false
set_option maxRecDepth 100000
set_option maxHeartbeats 4000000
namespace K82W
open PySem PySem.Spec PyProof.Rows L2
/-! ### the fixes' law in plain -/
def isWish : PStm → Bool
  | .wish _ _ => true
  | _ => false
theorem reb_chgK (S : Int → Bool) : ∀ (l : List PStm) (i : Nat), K82.FixRel l (reb chgK S i l)
  | [], _ => .nil
  | st :: r, i => by
    have ih := reb_chgK S r (i + 1)
    simp only [reb]
    split
    · cases st with
      | make x => exact .keep x ih
      | _ => exact .same _ ih
    · exact .same _ ih
theorem reb_chgS (S : Int → Bool) : ∀ (l : List PStm) (i : Nat), K82.StrRel l (reb chgS S i l)
  | [], _ => .nil
  | st :: r, i => by
    have ih := reb_chgS S r (i + 1)
    simp only [reb]
    split
    · cases st with
      | weak x f y => exact .strong x f y ih
      | _ => exact .same _ ih
    · exact .same _ ih
theorem reb_every (S : Int → Bool) : ∀ (l : List PStm) (i : Nat), (∀ j ∈ plc "make" i l, S j = true) → K82.EveryKept (reb chgK S i l)
  | [], _, _ => .nil
  | st :: r, i, h => by
    simp only [plc] at h
    by_cases hk : kind st = "make"
    · rw [if_pos hk] at h
      obtain ⟨x, rfl⟩ := kind_make hk
      simp only [reb]
      rw [if_pos (h _ List.mem_cons_self)]
      exact .make x (reb_every S r (i + 1) fun j hj => h j (List.mem_cons_of_mem _ hj))
    · rw [if_neg hk] at h
      have ih := reb_every S r (i + 1) h
      have e : (if S (i : Int) = true then chgK st else [st]) = [st] := by
        rw [chgK_ne hk]
        split <;> rfl
      simp only [reb, e]
      exact .other st (fun x z => hk (by rw [z]; rfl)) ih
theorem reads_reb {chg : PStm → List PStm} (hc : ∀ st, K82.readsOf (chg st) = K82.reads st) (S : Int → Bool) : ∀ (l : List PStm) (i : Nat), K82.readsOf (reb chg S i l) = K82.readsOf l
  | [], _ => rfl
  | st :: r, i => by
    have ih := reads_reb hc S r (i + 1)
    have e : K82.readsOf (if S (i : Int) = true then chg st else [st]) = K82.reads st := by
      split
      · exact hc st
      · simp [K82.readsOf]
    unfold K82.readsOf at ih e ⊢
    simp only [reb, List.map_append, List.sum_append, List.map_cons, List.sum_cons, ih, e]
def wishesOf (P : List PStm) : Nat := (P.filter isWish).length
theorem wishes_reb {chg : PStm → List PStm} (hc : ∀ st, wishesOf (chg st) = wishesOf [st]) (S : Int → Bool) : ∀ (l : List PStm) (i : Nat), wishesOf (reb chg S i l) = wishesOf l
  | [], _ => rfl
  | st :: r, i => by
    have ih := wishes_reb hc S r (i + 1)
    have e : wishesOf (if S (i : Int) = true then chg st else [st]) = wishesOf [st] := by
      split
      · exact hc st
      · rfl
    unfold wishesOf at ih e ⊢
    rw [show st :: r = [st] ++ r from rfl]
    simp only [reb, List.filter_append, List.length_append, ih, e, List.cons_append, List.nil_append]
    simp only [← List.length_append, ← List.filter_append]
    rfl
theorem reads_chgK (st : PStm) : K82.readsOf (chgK st) = K82.reads st := by cases st <;> simp [chgK, K82.readsOf, K82.reads]
theorem reads_chgS (st : PStm) : K82.readsOf (chgS st) = K82.reads st := by cases st <;> simp [chgS, K82.readsOf, K82.reads]
theorem wishes_chgK (st : PStm) : wishesOf (chgK st) = wishesOf [st] := by cases st <;> simp [chgK, wishesOf, isWish]
theorem wishes_chgS (st : PStm) : wishesOf (chgS st) = wishesOf [st] := by cases st <;> simp [chgS, wishesOf, isWish]
section
variable {P : Program} {w : World} {K : PySem.W.Frag} {mg : Str → Option Value} {base : Heap}
def spApp (C : Addr) (chg : PStm → List PStm) (m : Nat) (k : Str) : Sp := fun vs H Q _ => ∃ (o dx a b : Addr) (xs : List V) (B : List PStm) (q : Addr) (is : List Int), vs = [.ref o, .ref a, .ref q] ∧ H o = some (.ins C dx []) ∧ PrgAt H a b xs B ∧ m * xs.length ≤ 100 ∧ H q = some (.tup (is.map V.int)) ∧ (∀ i ∈ is, i ∈ plc k 0 B) ∧
  ∀ H' a' b' us, Same H H' → PrgAt H' a' b' us (reb chg (fun i => decide (i ∈ is)) 0 B) → Q (.ref a') H'
theorem m_applied {C : Addr} {chg : PStm → List PStm} {m : Nat} {k : Str} {f : Addr} (T : TxB K mg) (cl : Cls K C) (hm : Meth K C "applied" f) (hf : FunE K "applied" "Fix.applied" s_Fix_applied f)
    (po : Met P w K mg base 6 C "places_of" ["self", "program"] (spPO k)) (rb : Met P w K mg base 3 C "rebuilt" p_Fix_rebuilt (spReb C chg m)) : Met P w K mg base 7 C "applied" p_Fix_applied (spApp C chg m k) := by
  refine metN hf hm sc_Fix_applied (fun _ _ _ _ _ _ us hl => match us, hl with | [_, _, _], _ => rfl) (fun vs H Q E h => ?_) (fun cdv A outer s H vs Q E hr h => ?_)
  · obtain ⟨o, dx, a, b, xs, B, q, is, rfl, _⟩ := h
    rfl
  · obtain ⟨o, dx, a, b, xs, B, q, is, rfl, ho, hP, hlen, hq, hin, hQ⟩ := h
    refine ⟨_, pss_cons (ps_set (i := 3) sc_Fix_applied.nd rfl (Or.inl rfl) (pe_m po hr (by decide) passL cl (pv 0) (pa_cons (pv 1) pa_nil)))
      (pss_cons (ps_for PassesOwn.never rfl (pi_tup (pv 2)) (pg_name (i := 4) sc_Fix_applied.nd rfl (Or.inl rfl))
        (pss_one (ps_if (pt_cmpR op_notIn_seq (pv 4) (pv 3) (by with_unfolding_all rfl)) pss_never pss_nil)))
      (pss_one (ps_ret (pe_tup (pa_cons (pe_ix ix_tup (pv 1) pe_int (fun _ _ => rfl)) (pa_cons (pe_m rb hr (by decide) passL cl (pv 0) (pa_cons (pe_ix ix_tup (pv 1) pe_int (fun _ _ => rfl)) (pa_cons pe_int (pa_cons (pv 2) pa_nil)))) pa_nil)))))), ?_⟩
    refine ⟨_, rfl, o, dx, [], rfl, ho, rfl, _, rfl, _, a, b, xs, B, rfl, hP, fun H1 t s1 ht0 ht => ?_⟩
    refine ⟨_, rfl, q, rfl, ⟨_, SqT.of (s1 _ _ hq)⟩, for_tup (K := K) (a := q) (xs := is.map V.int) (fun i σ H' => (∃ v4, σ = [some (.ref o), some (.ref a), some (.ref q), some (.ref t), v4]) ∧ H' = H1)
      ⟨⟨none, rfl⟩, rfl⟩ (fun i σ H' _ ⟨_, e⟩ => by rw [e]; exact SqT.of (s1 _ _ hq)) ?_ ?_⟩
    · rintro i x σ H' hi ⟨⟨v4, rfl⟩, rfl⟩
      obtain ⟨j, hj, rfl⟩ : ∃ j, j ∈ is ∧ V.int j = x := List.mem_map.mp (List.mem_of_getElem? hi)
      have hk := hin j hj
      refine ⟨_, rfl, _, rfl, t, _, rfl, .inr (SqT.of ht), rfl, flatI _, false, congrArg V.bl ?_, iteF ⟨⟨_, rfl⟩, rfl⟩⟩
      rw [if_pos rfl, inV_int, decide_eq_true hk]
      rfl
    · rintro σ H' ⟨⟨v4, rfl⟩, rfl⟩
      refine ⟨_, rfl, a, _, _, _, rfl, rfl, SqT.of (s1 _ _ hP.1), atI_nat (j := 0) rfl, ?_⟩
      refine ⟨_, rfl, o, dx, [], rfl, s1 _ _ ho, rfl, _, rfl, a, _, _, _, rfl, rfl, SqT.of (s1 _ _ hP.1), atI_nat (j := 1) rfl, _, rfl, o, dx, b, xs, B, q, is, rfl, s1 _ _ ho, hP.2.mono s1, hlen, s1 _ _ hq, fun H2 t2 us s2 hB => ?_⟩
      refine ⟨by show 2 ≤ sizeLine; decide, fun a' ha' => ?_⟩
      exact hQ _ a' t2 us ((s1.trans s2).updT ha') ⟨upd_same, hB.mono (Same.upd ha')⟩
theorem m_Keeps_rebuilt (T : TxC K mg) : Met P w K mg base 3 (He.ga K "Keeps") "rebuilt" p_Fix_rebuilt (spReb (He.ga K "Keeps") chgK 2) := m_rebuilt T.toTxB T.c_Keeps T.m_Keeps_rebuilt.1 T.m_Keeps_rebuilt.2 (m_Keeps_changed T) (by decide) chgK_len (by decide)
theorem m_Strongs_rebuilt (T : TxC K mg) : Met P w K mg base 3 (He.ga K "Strongs") "rebuilt" p_Fix_rebuilt (spReb (He.ga K "Strongs") chgS 1) := m_rebuilt T.toTxB T.c_Strongs T.m_Strongs_rebuilt.1 T.m_Strongs_rebuilt.2 (m_Strongs_changed T) (by decide) chgS_len (by decide)
theorem m_Keeps_applied (T : TxC K mg) : Met P w K mg base 7 (He.ga K "Keeps") "applied" p_Fix_applied (spApp (He.ga K "Keeps") chgK 2 "make") := m_applied T.toTxB T.c_Keeps T.m_Keeps_applied.1 T.m_Keeps_applied.2 (m_Keeps_places_of T) (m_Keeps_rebuilt T)
theorem m_Strongs_applied (T : TxC K mg) : Met P w K mg base 7 (He.ga K "Strongs") "applied" p_Fix_applied (spApp (He.ga K "Strongs") chgS 1 "weak") := m_applied T.toTxB T.c_Strongs T.m_Strongs_applied.1 T.m_Strongs_applied.2 (m_Strongs_places_of T) (m_Strongs_rebuilt T)
end
end K82W
end K82Applied_part
section K82Mach_part
set_option Elab.async false
set_option linter.all false
set_option maxRecDepth 100000
set_option maxHeartbeats 4000000
namespace K82W
open PySem PySem.Spec PyProof.Rows L2
abbrev PMS := K82.MS Str
/-- the walker as it stands: its parts' addresses -/
structure Lay where
  C : Addr
  blk : Addr
  bits : V
  first : Addr
  quiet : Addr
  ad : Nat → Addr
/-- .. its parts' contents -/
structure Gh where
  place : Int
  moment : Int
  n : Nat
  ks : List (Key × V)
  kk : List (Key × V)
  ws : List V
  ls : List V
  rs : List V
  ss : List V
  si : List V
  fm : List V
  cb : List V
  la : List V
  ea : List V
  cd : Nat → List (Key × V)
def mfs (Y : Lay) (G : Gh) : List (Str × V) :=
  [("block", .ref Y.blk), ("bits", Y.bits), ("at_place", .int G.place), ("moment", .int G.moment), ("stands", .ref (Y.ad 2)), ("kept", .ref (Y.ad 3)), ("contents", .ref (Y.ad 4)), ("wishes", .ref (Y.ad 5)), ("lost", .ref (Y.ad 6)), ("replies", .ref (Y.ad 7)), ("spoken", .ref (Y.ad 8)),
   ("first", .ref Y.first), ("quiet_places", .ref Y.quiet), ("since", .ref (Y.ad 9)), ("free_moments", .ref (Y.ad 10)), ("could_be", .ref (Y.ad 11)), ("late", .ref (Y.ad 12)), ("early", .ref (Y.ad 13))]
def Gh.obj (Y : Lay) (G : Gh) : Nat → HO
  | 0 => .ins Y.C (Y.ad 1) (mfs Y G)
  | 1 => .own (Y.ad 0)
  | 2 => .dK G.ks
  | 3 => .dK G.kk
  | 4 => .lst ((List.range G.n).map fun c => .ref (Y.ad (14 + c)))
  | 5 => .lst G.ws
  | 6 => .lst G.ls
  | 7 => .lst G.rs
  | 8 => .lst G.ss
  | 9 => .lst G.si
  | 10 => .lst G.fm
  | 11 => .lst G.cb
  | 12 => .lst G.la
  | 13 => .lst G.ea
  | c + 14 => .dK (G.cd c)
structure MAt (K : PySem.W.Frag) (H0 H : Hp) (Y : Lay) (G : Gh) : Prop where
  cls : Y.C = He.ga K "Walker"
  same : Same H0 H
  inj : ∀ i j, i < 14 + G.n → j < 14 + G.n → Y.ad i = Y.ad j → i = j
  fresh : ∀ i, i < 14 + G.n → H0 (Y.ad i) = none
  at_ : ∀ i, i < 14 + G.n → H (Y.ad i) = some (G.obj Y i)
/-- tuples stay -/
def Tups (H H' : Hp) : Prop := ∀ b xs, H b = some (.tup xs) → H' b = some (.tup xs)
theorem Tups.refl (H : Hp) : Tups H H := fun _ _ e => e
theorem Tups.trans {A B C : Hp} (h : Tups A B) (k : Tups B C) : Tups A C := fun b xs e => k b xs (h b xs e)
theorem _root_.L2.Same.tups {A B : Hp} (h : Same A B) : Tups A B := fun b xs e => h b _ e
section
variable {K : PySem.W.Frag} {H0 H H' : Hp} {Y : Lay} {G : Gh}
theorem MAt.mono (M : MAt K H0 H Y G) (s : Same H H') : MAt K H0 H' Y G := ⟨M.cls, M.same.trans s, M.inj, M.fresh, fun i hi => s _ _ (M.at_ i hi)⟩
theorem MAt.put (M : MAt K H0 H Y G) (G' : Gh) (i : Nat) (hi : i < 14 + G.n) (hn : G'.n = G.n) (h : ∀ j, j ≠ i → G'.obj Y j = G.obj Y j) : MAt K H0 (upd H (Y.ad i) (G'.obj Y i)) Y G' where
  cls := M.cls
  same := fun b u e => by
    rw [upd_ne (ne_of_none e (M.fresh i hi))]
    exact M.same b u e
  inj := by rw [hn]; exact M.inj
  fresh := by rw [hn]; exact M.fresh
  at_ := fun j hj => by
    rw [hn] at hj
    by_cases e : j = i
    · subst e
      exact upd_same
    · rw [upd_ne (fun z => e (M.inj j i hj hi z)), h j e]
      exact M.at_ j hj
theorem tups_put {a : Addr} {o u : HO} (h : H a = some u) (hu : ∀ xs, u ≠ .tup xs) : Tups H (upd H a o) := fun b xs e => by
  rw [upd_ne (ne_of e h (fun z => hu xs z.symm))]
  exact e
theorem MAt.ins (M : MAt K H0 H Y G) : H (Y.ad 0) = some (.ins (He.ga K "Walker") (Y.ad 1) (mfs Y G)) := by rw [← M.cls]; exact M.at_ 0 (by omega)
theorem MAt.stands (M : MAt K H0 H Y G) : H (Y.ad 2) = some (.dK G.ks) := M.at_ 2 (by omega)
theorem MAt.kept (M : MAt K H0 H Y G) : H (Y.ad 3) = some (.dK G.kk) := M.at_ 3 (by omega)
theorem MAt.contents (M : MAt K H0 H Y G) : H (Y.ad 4) = some (.lst ((List.range G.n).map fun c => .ref (Y.ad (14 + c)))) := M.at_ 4 (by omega)
theorem MAt.wishes (M : MAt K H0 H Y G) : H (Y.ad 5) = some (.lst G.ws) := M.at_ 5 (by omega)
theorem MAt.lost (M : MAt K H0 H Y G) : H (Y.ad 6) = some (.lst G.ls) := M.at_ 6 (by omega)
theorem MAt.replies (M : MAt K H0 H Y G) : H (Y.ad 7) = some (.lst G.rs) := M.at_ 7 (by omega)
theorem MAt.spoken (M : MAt K H0 H Y G) : H (Y.ad 8) = some (.lst G.ss) := M.at_ 8 (by omega)
theorem MAt.since (M : MAt K H0 H Y G) : H (Y.ad 9) = some (.lst G.si) := M.at_ 9 (by omega)
theorem MAt.free (M : MAt K H0 H Y G) : H (Y.ad 10) = some (.lst G.fm) := M.at_ 10 (by omega)
theorem MAt.could (M : MAt K H0 H Y G) : H (Y.ad 11) = some (.lst G.cb) := M.at_ 11 (by omega)
theorem MAt.late (M : MAt K H0 H Y G) : H (Y.ad 12) = some (.lst G.la) := M.at_ 12 (by omega)
theorem MAt.early (M : MAt K H0 H Y G) : H (Y.ad 13) = some (.lst G.ea) := M.at_ 13 (by omega)
theorem obj_cd (Y : Lay) (G : Gh) (c : Nat) : G.obj Y (14 + c) = .dK (G.cd c) := by rw [Nat.add_comm]; rfl
theorem MAt.cell (M : MAt K H0 H Y G) {c : Nat} (hc : c < G.n) : H (Y.ad (14 + c)) = some (.dK (G.cd c)) := by rw [M.at_ (14 + c) (by omega), obj_cd]
theorem obj_ne {Y : Lay} {G G' : Gh} {i : Nat} (h : ∀ j, j < 14 → j ≠ i → G'.obj Y j = G.obj Y j) (hc : ∀ c, G'.obj Y (c + 14) = G.obj Y (c + 14)) : ∀ j, j ≠ i → G'.obj Y j = G.obj Y j := fun j hj => by
  by_cases q : j < 14
  · exact h j q hj
  · obtain ⟨c, rfl⟩ : ∃ c, j = c + 14 := ⟨j - 14, by omega⟩
    exact hc c
theorem MAt.put_ks (M : MAt K H0 H Y G) (l : List (Key × V)) : MAt K H0 (upd H (Y.ad 2) (.dK l)) Y { G with ks := l } := M.put { G with ks := l } 2 (by omega) rfl (obj_ne (fun j hj hne => match j, hj, hne with | 0, _, _ => rfl | 1, _, _ => rfl | 2, _, h => absurd rfl h | 3, _, _ => rfl | 4, _, _ => rfl | 5, _, _ => rfl | 6, _, _ => rfl | 7, _, _ => rfl | 8, _, _ => rfl | 9, _, _ => rfl | 10, _, _ => rfl | 11, _, _ => rfl | 12, _, _ => rfl | 13, _, _ => rfl) fun c => rfl)
theorem MAt.put_kk (M : MAt K H0 H Y G) (l : List (Key × V)) : MAt K H0 (upd H (Y.ad 3) (.dK l)) Y { G with kk := l } := M.put { G with kk := l } 3 (by omega) rfl (obj_ne (fun j hj hne => match j, hj, hne with | 0, _, _ => rfl | 1, _, _ => rfl | 2, _, _ => rfl | 3, _, h => absurd rfl h | 4, _, _ => rfl | 5, _, _ => rfl | 6, _, _ => rfl | 7, _, _ => rfl | 8, _, _ => rfl | 9, _, _ => rfl | 10, _, _ => rfl | 11, _, _ => rfl | 12, _, _ => rfl | 13, _, _ => rfl) fun c => rfl)
theorem MAt.put_ws (M : MAt K H0 H Y G) (l : List V) : MAt K H0 (upd H (Y.ad 5) (.lst l)) Y { G with ws := l } := M.put { G with ws := l } 5 (by omega) rfl (obj_ne (fun j hj hne => match j, hj, hne with | 0, _, _ => rfl | 1, _, _ => rfl | 2, _, _ => rfl | 3, _, _ => rfl | 4, _, _ => rfl | 5, _, h => absurd rfl h | 6, _, _ => rfl | 7, _, _ => rfl | 8, _, _ => rfl | 9, _, _ => rfl | 10, _, _ => rfl | 11, _, _ => rfl | 12, _, _ => rfl | 13, _, _ => rfl) fun c => rfl)
theorem MAt.put_ls (M : MAt K H0 H Y G) (l : List V) : MAt K H0 (upd H (Y.ad 6) (.lst l)) Y { G with ls := l } := M.put { G with ls := l } 6 (by omega) rfl (obj_ne (fun j hj hne => match j, hj, hne with | 0, _, _ => rfl | 1, _, _ => rfl | 2, _, _ => rfl | 3, _, _ => rfl | 4, _, _ => rfl | 5, _, _ => rfl | 6, _, h => absurd rfl h | 7, _, _ => rfl | 8, _, _ => rfl | 9, _, _ => rfl | 10, _, _ => rfl | 11, _, _ => rfl | 12, _, _ => rfl | 13, _, _ => rfl) fun c => rfl)
theorem MAt.put_rs (M : MAt K H0 H Y G) (l : List V) : MAt K H0 (upd H (Y.ad 7) (.lst l)) Y { G with rs := l } := M.put { G with rs := l } 7 (by omega) rfl (obj_ne (fun j hj hne => match j, hj, hne with | 0, _, _ => rfl | 1, _, _ => rfl | 2, _, _ => rfl | 3, _, _ => rfl | 4, _, _ => rfl | 5, _, _ => rfl | 6, _, _ => rfl | 7, _, h => absurd rfl h | 8, _, _ => rfl | 9, _, _ => rfl | 10, _, _ => rfl | 11, _, _ => rfl | 12, _, _ => rfl | 13, _, _ => rfl) fun c => rfl)
theorem MAt.put_ss (M : MAt K H0 H Y G) (l : List V) : MAt K H0 (upd H (Y.ad 8) (.lst l)) Y { G with ss := l } := M.put { G with ss := l } 8 (by omega) rfl (obj_ne (fun j hj hne => match j, hj, hne with | 0, _, _ => rfl | 1, _, _ => rfl | 2, _, _ => rfl | 3, _, _ => rfl | 4, _, _ => rfl | 5, _, _ => rfl | 6, _, _ => rfl | 7, _, _ => rfl | 8, _, h => absurd rfl h | 9, _, _ => rfl | 10, _, _ => rfl | 11, _, _ => rfl | 12, _, _ => rfl | 13, _, _ => rfl) fun c => rfl)
theorem MAt.put_si (M : MAt K H0 H Y G) (l : List V) : MAt K H0 (upd H (Y.ad 9) (.lst l)) Y { G with si := l } := M.put { G with si := l } 9 (by omega) rfl (obj_ne (fun j hj hne => match j, hj, hne with | 0, _, _ => rfl | 1, _, _ => rfl | 2, _, _ => rfl | 3, _, _ => rfl | 4, _, _ => rfl | 5, _, _ => rfl | 6, _, _ => rfl | 7, _, _ => rfl | 8, _, _ => rfl | 9, _, h => absurd rfl h | 10, _, _ => rfl | 11, _, _ => rfl | 12, _, _ => rfl | 13, _, _ => rfl) fun c => rfl)
theorem MAt.put_fm (M : MAt K H0 H Y G) (l : List V) : MAt K H0 (upd H (Y.ad 10) (.lst l)) Y { G with fm := l } := M.put { G with fm := l } 10 (by omega) rfl (obj_ne (fun j hj hne => match j, hj, hne with | 0, _, _ => rfl | 1, _, _ => rfl | 2, _, _ => rfl | 3, _, _ => rfl | 4, _, _ => rfl | 5, _, _ => rfl | 6, _, _ => rfl | 7, _, _ => rfl | 8, _, _ => rfl | 9, _, _ => rfl | 10, _, h => absurd rfl h | 11, _, _ => rfl | 12, _, _ => rfl | 13, _, _ => rfl) fun c => rfl)
theorem MAt.put_cb (M : MAt K H0 H Y G) (l : List V) : MAt K H0 (upd H (Y.ad 11) (.lst l)) Y { G with cb := l } := M.put { G with cb := l } 11 (by omega) rfl (obj_ne (fun j hj hne => match j, hj, hne with | 0, _, _ => rfl | 1, _, _ => rfl | 2, _, _ => rfl | 3, _, _ => rfl | 4, _, _ => rfl | 5, _, _ => rfl | 6, _, _ => rfl | 7, _, _ => rfl | 8, _, _ => rfl | 9, _, _ => rfl | 10, _, _ => rfl | 11, _, h => absurd rfl h | 12, _, _ => rfl | 13, _, _ => rfl) fun c => rfl)
theorem MAt.put_la (M : MAt K H0 H Y G) (l : List V) : MAt K H0 (upd H (Y.ad 12) (.lst l)) Y { G with la := l } := M.put { G with la := l } 12 (by omega) rfl (obj_ne (fun j hj hne => match j, hj, hne with | 0, _, _ => rfl | 1, _, _ => rfl | 2, _, _ => rfl | 3, _, _ => rfl | 4, _, _ => rfl | 5, _, _ => rfl | 6, _, _ => rfl | 7, _, _ => rfl | 8, _, _ => rfl | 9, _, _ => rfl | 10, _, _ => rfl | 11, _, _ => rfl | 12, _, h => absurd rfl h | 13, _, _ => rfl) fun c => rfl)
theorem MAt.put_ea (M : MAt K H0 H Y G) (l : List V) : MAt K H0 (upd H (Y.ad 13) (.lst l)) Y { G with ea := l } := M.put { G with ea := l } 13 (by omega) rfl (obj_ne (fun j hj hne => match j, hj, hne with | 0, _, _ => rfl | 1, _, _ => rfl | 2, _, _ => rfl | 3, _, _ => rfl | 4, _, _ => rfl | 5, _, _ => rfl | 6, _, _ => rfl | 7, _, _ => rfl | 8, _, _ => rfl | 9, _, _ => rfl | 10, _, _ => rfl | 11, _, _ => rfl | 12, _, _ => rfl | 13, _, h => absurd rfl h) fun c => rfl)
theorem MAt.put_place (M : MAt K H0 H Y G) (l : Int) : MAt K H0 (upd H (Y.ad 0) (.ins (He.ga K "Walker") (Y.ad 1) (mfs Y { G with place := l }))) Y { G with place := l } := by
  rw [← M.cls]
  exact M.put { G with place := l } 0 (by omega) rfl (obj_ne (fun j hj hne => match j, hj, hne with | 0, _, h => absurd rfl h | 1, _, _ => rfl | 2, _, _ => rfl | 3, _, _ => rfl | 4, _, _ => rfl | 5, _, _ => rfl | 6, _, _ => rfl | 7, _, _ => rfl | 8, _, _ => rfl | 9, _, _ => rfl | 10, _, _ => rfl | 11, _, _ => rfl | 12, _, _ => rfl | 13, _, _ => rfl) fun c => rfl)
theorem MAt.put_moment (M : MAt K H0 H Y G) (l : Int) : MAt K H0 (upd H (Y.ad 0) (.ins (He.ga K "Walker") (Y.ad 1) (mfs Y { G with moment := l }))) Y { G with moment := l } := by
  rw [← M.cls]
  exact M.put { G with moment := l } 0 (by omega) rfl (obj_ne (fun j hj hne => match j, hj, hne with | 0, _, h => absurd rfl h | 1, _, _ => rfl | 2, _, _ => rfl | 3, _, _ => rfl | 4, _, _ => rfl | 5, _, _ => rfl | 6, _, _ => rfl | 7, _, _ => rfl | 8, _, _ => rfl | 9, _, _ => rfl | 10, _, _ => rfl | 11, _, _ => rfl | 12, _, _ => rfl | 13, _, _ => rfl) fun c => rfl)
theorem putF_place (Y : Lay) (G : Gh) (l : Int) : putF "at_place" (.int l) (mfs Y G) = mfs Y { G with place := l } := by rfl
theorem putF_moment (Y : Lay) (G : Gh) (l : Int) : putF "moment" (.int l) (mfs Y G) = mfs Y { G with moment := l } := by rfl
theorem MAt.put_cd (M : MAt K H0 H Y G) {c : Nat} (hc : c < G.n) (l : List (Key × V)) : MAt K H0 (upd H (Y.ad (14 + c)) (.dK l)) Y { G with cd := fun d => if d = c then l else G.cd d } := by
  have q := M.put { G with cd := fun d => if d = c then l else G.cd d } (14 + c) (by omega) rfl (fun j hj => by
    by_cases h : j < 14
    · match j, h with
      | 0, _ => rfl | 1, _ => rfl | 2, _ => rfl | 3, _ => rfl | 4, _ => rfl | 5, _ => rfl | 6, _ => rfl | 7, _ => rfl | 8, _ => rfl | 9, _ => rfl | 10, _ => rfl | 11, _ => rfl | 12, _ => rfl | 13, _ => rfl
    · obtain ⟨d, rfl⟩ : ∃ d, j = 14 + d := ⟨j - 14, by omega⟩
      rw [obj_cd, obj_cd]
      show HO.dK (if d = c then l else G.cd d) = _
      rw [if_neg (by omega)])
  rw [obj_cd] at q
  have e : (if c = c then l else G.cd c) = l := if_pos rfl
  rw [show ({ G with cd := fun d => if d = c then l else G.cd d } : Gh).cd c = l from e] at q
  exact q
/-! ### what it means -/
def optV : Option Nat → V
  | none => .non
  | some c => .int (c : Nat)
def RowV (H : Hp) (v : V) : Option (Nat × Bool) → Prop
  | none => v = .non
  | some (c, s) => ∃ t, v = .ref t ∧ H t = some (.tup [.int (c : Nat), .bl s])
theorem RowV.mono {v : V} {o : Option (Nat × Bool)} (h : RowV H v o) (t : Tups H H') : RowV H' v o := by
  cases o with
  | none => exact h
  | some p =>
    obtain ⟨a, e, q⟩ := h
    exact ⟨a, e, t _ _ q⟩
def wishV (o : Option (Nat × Str)) (c : Nat) : V := match o with
  | some (d, w) => if d = c then .str w else .non
  | none => .non
structure Sim (H : Hp) (G : Gh) (S : PMS) (b : Nat) : Prop where
  n : G.n = S.n
  nb : G.n ≤ b
  st1 : ∀ q ∈ G.ks, ∃ x, q.1 = .inr x ∧ q.2 = optV (S.env x)
  st2 : ∀ x c, S.env x = some c → ∃ v, (Sum.inr x, v) ∈ G.ks
  stb : G.ks.length ≤ b
  kp1 : ∀ q ∈ G.kk, ∃ c : Nat, q.1 = .inl (c : Int) ∧ S.kept c = true
  kp2 : ∀ c : Nat, S.kept c = true → ∃ v, (Sum.inl (c : Int), v) ∈ G.kk
  kpb : G.kk.length ≤ b
  cd1 : ∀ c, c < G.n → ∀ q ∈ G.cd c, ∃ f, q.1 = .inr f ∧ RowV H q.2 (S.fld c f)
  cd2 : ∀ c f v, S.fld c f = some v → ∃ u, (Sum.inr f, u) ∈ G.cd c
  cdb : ∀ c, (G.cd c).length ≤ b
  fldB : ∀ c f v, S.fld c f = some v → c < S.n ∧ v.1 < S.n
  envB : ∀ x c, S.env x = some c → c < S.n
  keptB : ∀ c, S.kept c = true → c < S.n
  ws : G.ws = (List.range G.n).map (wishV S.wish)
  wishB : ∀ c w, S.wish = some (c, w) → c < S.n
  ls : G.ls = (List.range G.n).map fun c => .bl (S.lost c)
  lostB : ∀ c, S.lost c = true → c < S.n
theorem Sim.mono {S : PMS} {b : Nat} (q : Sim H G S b) (t : Tups H H') : Sim H' G S b := by
  have k : ∀ c, c < G.n → ∀ p ∈ G.cd c, ∃ f, p.1 = .inr f ∧ RowV H' p.2 (S.fld c f) := fun c hc p hp => by
    obtain ⟨f, e, r⟩ := q.cd1 c hc p hp
    exact ⟨f, e, r.mono t⟩
  exact { q with cd1 := k }
theorem range_get {α : Type} (f : Nat → α) {n c : Nat} (h : c < n) : ((List.range n).map f)[c]? = some (f c) := by
  rw [List.getElem?_map, List.getElem?_range h]
  rfl
/-- the lock is undone -/
theorem _root_.L2.Same.unlock {d : Addr} {u v : HO} (h : H d = some u) (s : Same (upd H d v) H') : Same H (upd H' d u) := fun b o e => by
  by_cases hb : b = d
  · subst hb
    rw [h] at e
    rw [upd_same, e]
  · rw [upd_ne hb]
    exact s b o (by rw [upd_ne hb]; exact e)
end
end K82W
end K82Mach_part
section K82Stop_part
set_option Elab.async false
set_option linter.all false
set_option maxRecDepth 100000
set_option maxHeartbeats 4000000
namespace K82W
open PySem PySem.W PySem.Calls PyProof.Rows PySem.HandSPX
/-! ### Stopped, its __init__ (after skel/42) -/
def iA (p1 p2 : Pos) : Arguments := { posonlyargs := [], args := [{ arg := "self", annotation := none, pos := p1 }, { arg := "why", annotation := none, pos := p2 }], vararg := none, kwonlyargs := [], kw_defaults := [], kwarg := none, defaults := [] }
def iB (q1 q2 q3 q4 : Pos) : List Stmt := [.Assign [.Attribute (.Name "self" q1) "why" q2] (.Name "why" q3) q4]
def iS : Scope := { kind := .function, names := [(PySem.Str.ofString "self", .local), (PySem.Str.ofString "why", .local)], isGenerator := false, isCoroutine := false, more := [] }
abbrev iA0 : Arguments := iA ⟨17, 17, 17, 21⟩ ⟨17, 23, 17, 26⟩
abbrev iB0 : List Stmt := iB ⟨18, 8, 18, 12⟩ ⟨18, 8, 18, 16⟩ ⟨18, 19, 18, 22⟩ ⟨18, 8, 18, 22⟩
theorem stop_args : L2.defArgs s_Stopped_init = iA0 := by kernel_rfl
theorem stop_body : L2.defBody s_Stopped_init = iB0 := by kernel_rfl
theorem stop_scope : L2.defScope s_Stopped_init = iS := by kernel_rfl
/-- what the written part says of Stopped, at C, and of its __init__, at fI -/
structure StopTxt (K : Frag) (mg : Str → Option Value) (C fI : Addr) : Prop where
  gC : mg "Stopped" = some (.ref C)
  cls : ∃ nm q N bs sn sub ab col dd k0 k1 k2 k3 k5, K.lookup C = some (excClassObj nm q C N bs PySem.ESX.exTail true sn sub ab col dd k0 k1 k2 k3 k5 "Exception.__new__")
  sa : findIn K (.ref C) "__setattr__" = some (some (.builtin "object.__setattr__"))
  ga : findIn K (.ref C) "__getattribute__" = some (some (.builtin "BaseException.__getattribute__"))
  gg : findIn K (.ref C) "__getattr__" = some none
  noN : findIn K (.ref C) "why" = some none
  iC : findIn K (.ref C) "__init__" = some (some (.ref fI))
  tC : typeIn K (.ref fI) = some (.type "function")
  kC : keepIn K (.ref C) = true
  exC : subIn K (.ref C) (.type "BaseException") = some true
  tyC : typeIn K (.ref C) = some (.type "type")
  hdC : hasDictIn K C = true
  te : exmOne K (.ref C) (.ref C) = some true
  fn : FunE K "__init__" "Stopped.__init__" s_Stopped_init fI
theorem kept_more {K : Frag} {h h' : Heap} {x : Addr} (X : K.In h) (hx : K.lookup x = none) (k : ∀ b o, b ≠ x → h.get? b = some o → h'.get? b = some o) : K.In h' := fun a o e =>
  k a o (fun z => by rw [z, hx] at e; cases e) (X a o e)
theorem stop_ld {M : Model} {s : Shared} {name : Str} {scope : Scope} {L a : Addr} {cd : Value} {m : Str → Option Value} {x : Str} {pos : Pos} {v : Value} {Q : Value → Shared → Prop} {A : Around} {E : Value → Shared → Prop} (hn : s.heap.Ns L m) (hv : m x = some v) (h : Q v s)
    (hk : scope.kind = .function := by rfl) (hl : (envOfC name scope L a cd).kindOf x = some .local := by rfl) (hd : (x == ("__debug__" : Str)) = false := by decide) :
    wpAny M A (eval (.Name x pos) (envOfC name scope L a cd)) Q E s := wpAny_Name (wpAny_loadName_local hk hl hn hv h) hd
structure StopEnd (h h' : Heap) (x C dx t1 : Addr) (v : Value) : Prop where
  keep : ∀ b o, b ≠ x → h.get? b = some o → h'.get? b = some o
  obj : h'.get? x = some { cls := .ref C, dict := some dx, data := .fields #[.ref t1, .none, .none, .none, .bool false, .none] }
  dbig : h.objs.size ≤ dx
  dne : dx ≠ x
  ns : h'.Ns1 dx (fun y => if y = "why" then some v else none)
structure StopMade (h h' : Heap) (e C d : Addr) (v : Value) : Prop where
  keep : ∀ b o, h.get? b = some o → h'.get? b = some o
  new : h.objs.size ≤ e
  obj : ∃ oe vs, h'.get? e = some oe ∧ oe.cls = .ref C ∧ oe.dict = some d ∧ oe.data = .fields vs ∧ vs[1]? = some .none
  dbig : h.objs.size ≤ d
  dne : d ≠ e
  ns : h'.Ns1 d (fun y => if y = "why" then some v else none)
section
variable {prog : Program} {w : World} {A : Around} {E : Value → Shared → Prop} {R : Result → Shared → Prop} {s : Shared} {K : Frag} {mg : Str → Option Value} {C fI : Addr}
theorem stop_init (T : StopTxt K mg C fI) {x t0 : Addr} {v : Value} (X : K.In s.heap) (hlim : s.heap.NoLimit) (hx : s.heap.get? x = some (excO C t0)) (hnx : K.lookup x = none) (hroom : A.depth < recursionLimit)
    (hq : ∀ h' tk dx, StopEnd s.heap h' x C dx t0 v → R (.ok (.ret .none)) { s with heap := h', toks := tk }) :
    codeAny (model prog w) A (.call (.ref fI) ⟨[.ref x, v], []⟩) R s := by
  obtain ⟨fd, ⟨oc, od, dV, kV, doc, pm, an, cdv, ct, osl, rfl, ho, hcd, hdv, hkv⟩, kp⟩ := T.fn
  obtain rfl : dV = .none := hdv.elim (fun z => z.2) (fun z => absurd rfl z.1)
  obtain ⟨nm, q, N, bs, sn, sub, ab, col, dd, k0, k1, k2, k3, k5, hC⟩ := T.cls
  rw [stop_args, stop_body, stop_scope] at ho
  have hcl : clsIn K C = some { name := nm, bases := bs, mro := .ref C :: PySem.ESX.exTail, ns := N, qualname := q, hasDict := true, slotNames := sn, subclasses := sub, abstract := ab, collection := col, hasDel := false } := by unfold clsIn; rw [hC] <;> rfl
  refine Att.call_fn (binds := [("self", .ref x), ("why", v)]) X hlim ho hcd hroom (BindsTo.of_eq (by first | rfl | with_unfolding_all rfl)) (by first | rfl | decide | with_unfolding_all rfl) (fun s₁ IC => ?_) rfl rfl rfl
  obtain ⟨h₁, tk₁, rfl⟩ := IC.toInCall.same
  have k : ∀ b o, s.heap.get? b = some o → h₁.get? b = some o := IC.toInCall.keep
  have hn := IC.toInCall.ns
  have X₁ : K.In h₁ := X.keeps k
  have hx₁ := k _ _ hx
  show wpAny _ _ (execs _ _) _ _ _
  refine wpAny_execs_cons (plainObj_wpAny_Assign_Attribute ?_)
  refine stop_ld (v := v) hn (by first | rfl | with_unfolding_all rfl | kernel_rfl) (stop_ld (v := .ref x) hn (by first | rfl | with_unfolding_all rfl | kernel_rfl) ?_)
  refine set_plain X₁ (ox := excO C t0) (od := none) ⟨hx₁, rfl, rfl, trivial⟩ T.sa ?_
  refine PySem.ESX.osa_new X₁ hx₁ hcl rfl rfl T.noN (fun h₃ tk₃ dx k₃ dn dne hx₃ hn₃ => ?_)
  show wpAny _ _ (execs _ _) _ _ _
  have z : s.heap.objs.size < h₁.objs.size := hn.lt
  exact wpAny_execs_nil (hq h₃ tk₃ dx ⟨fun b o hb e => k₃ b o hb (k b o e), hx₃, Nat.le_of_lt (Nat.lt_of_lt_of_le z dn), dne, hn₃⟩)
theorem stop_made (T : StopTxt K mg C fI) {v : Value} (X : K.In s.heap) (hlim : s.heap.NoLimit) (hroom : A.depth + 1 < recursionLimit)
    (hq : ∀ h' tk e d, StopMade s.heap h' e C d v → R (.ok (.ret (.ref e))) { s with heap := h', toks := tk }) :
    codeAny (model prog w) A (.call (.ref C) ⟨[v], []⟩) R s := by
  obtain ⟨nm, q, N, bs, sn, sub, ab, col, dd, k0, k1, k2, k3, k5, hC⟩ := T.cls
  obtain ⟨hp, g, dr, tk, os⟩ := s
  have k : ∀ b o, hp.get? b = some o → ((hp.push (kdv_tup [v])).push (excO C hp.objs.size)).get? b = some o := fun b o e => Heap.get?_push_of_some _ (Heap.get?_push_of_some _ e)
  have hget : ((hp.push (kdv_tup [v])).push (excO C hp.objs.size)).get? (hp.objs.size + 1) = some (excO C hp.objs.size) := by heap_get
  have hnx : K.lookup (hp.objs.size + 1) = none := by
    cases e : K.lookup (hp.objs.size + 1) with
    | none => rfl
    | some o =>
      have z : hp.get? (hp.objs.size + 1) = some o := X _ _ e
      exact absurd (Nat.lt_of_succ_lt (Heap.lt_size z)) (Nat.lt_irrefl _)
  refine call_own F.excBase_Exception (fun X => rfl) (X _ _ hC) (looks_findIn X T.iC) (fun self => bind_fn X self T.tC) (by show 1 ≤ sizeLine; decide) ?_
  refine stop_init (s := ⟨(hp.push (kdv_tup [v])).push (excO C hp.objs.size), g, dr, tk, os⟩) T (X.keeps k) (hlim.keeps k) hget hnx ?_ fun h' tk' dx ⟨k', hx, dn, dne, hns⟩ => ?_
  · show A.depth + 1 < recursionLimit
    exact hroom
  · have old : ∀ b o, hp.get? b = some o → h'.get? b = some o := fun b o e => k' b o (Nat.ne_of_lt (Nat.lt_succ_of_lt (Heap.lt_size e))) (k b o e)
    have z : hp.objs.size + 1 + 1 ≤ dx := by
      first
        | (simpa only [Heap.size_push] using dn)
        | exact dn
        | (have q := dn; rw [Heap.size_push, Heap.size_push] at q; exact q)
    exact ⟨rfl, hq h' tk' (hp.objs.size + 1) dx ⟨old, Nat.le_succ _, ⟨_, _, hx, rfl, rfl, rfl, rfl⟩, Nat.le_trans (Nat.le_trans (Nat.le_succ _) (Nat.le_succ _)) z, dne, hns⟩⟩
end
end K82W
namespace K82W
open PySem PySem.Spec PyProof.Rows L2
theorem relO_why {v : V} {v' : Value} (r : RelV v v') (f : Str) : RelO (List.lookup f [(("why" : Str), v)]) (if f = "why" then some v' else none) := by
  by_cases hw : f = "why"
  · subst hw
    rw [if_pos rfl]
    have q : List.lookup ("why" : Str) [(("why" : Str), v)] = some v := by simp [List.lookup]
    rw [q]
    exact r
  · rw [if_neg hw]
    have qw : (f == ("why" : Str)) = false := by simpa using hw
    have q2 : List.lookup f [(("why" : Str), v)] = none := by simp [List.lookup, qw]
    rw [q2]
    trivial
section
variable {X : Cx} {C fI : Addr}
/-- Stopped(e) -/
def tMkStop (C : Addr) (ta : TA) : L2.St → Hp → XK → Prop := fun σ H Q => ta σ H fun vs H1 => ∃ v, vs = [v] ∧ ∀ d, H1 d = none → Q (.ref C) (some d) (upd H1 d (.xd [(("why" : Str), v)]))
theorem pmk_stop {a : Expr} {ta : TA} {p pos : Pos} {k : Nat} (T : StopTxt X.K X.mg C fI) (hr : Room k X.A) (hk : 1 ≤ k) (ha : PA X [a] ta) (hg : Gl X "Stopped" := by rfl)
    (he : starEach (a :: []) X.env = (false, eval a X.env) :: starEach [] X.env := by rfl) (hpl : (backTo pos (starEach [] X.env)).any (·.1) = false := by rfl) :
    PMk X (.Call (.Name "Stopped" p) [a] [] pos) (tMkStop C ta) := by
  intro pins s σ H Q I h
  refine wpAny_Call_Name_kw (ld_glob I hg T.gC ?_)
  refine PySem.W.callWith_K (h₀ := X.base) I.ok.mod.kin T.kC (thn (ha.run pos pins s σ H _ I h) fun us s1 hh => ?_) he hpl
  obtain ⟨vs, H1, I1, r1, v, ev, q1⟩ := hh
  subst ev
  refine ⟨I1.kIn, ?_⟩
  cases r1 with
  | cons rv rn =>
    rename_i v' us'
    cases rn
    show wpAny _ _ (call (.ref C) [v']) _ _ _
    have hlim := I1.nolimit
    obtain ⟨hp, g, dr, tk, os⟩ := s1
    refine wpAny_call (stop_made T I1.kIn hlim (by have := hr.dp; omega) fun h' tk' e d M => ?_)
    show MkP X pins σ Q (.ref e) ⟨h', g, dr, tk', os⟩
    obtain ⟨oe, fv, hoe, hc, hd, hdat, h1⟩ := M.obj
    have hns := M.ns
    obtain ⟨G', g1, g2⟩ := restrict h' fun b => decide (b ≠ e)
    have gk : ∀ b, b ≠ e → G'.get? b = h'.get? b := fun b hb => g1 b (decide_eq_true hb)
    have ge : G'.get? e = none := g2 e (by simp)
    have old : ∀ b o, hp.get? b = some o → G'.get? b = some o := fun b o q => (gk b (Nat.ne_of_lt (Nat.lt_of_lt_of_le (Heap.lt_size q) M.new))).trans (M.keep b o q)
    have ob : ObjOk X.prog X.w (upd H1 d (.xd [(("why" : Str), v)])) G' d (.xd [(("why" : Str), v)]) :=
      ⟨_, hns.at (fun o q => (gk d M.dne).trans q), fun f => relO_why rv f⟩
    have J : Inv X pins σ (upd H1 d (.xd [(("why" : Str), v)])) ⟨G', g, dr, tk', os⟩ := I1.laid (t' := tk') old M.dbig ob
    refine ⟨e, oe, fv, ⟨G', g, dr, tk', os⟩, _, .ref C, some d, rfl, J, fun b o q => ?_, ge, hoe, ⟨hc, hd⟩, hdat, h1, ?_, rfl, I1.bare, raises_own T.exC T.tyC, q1 d (I1.hok.fresh M.dbig)⟩
    · by_cases hb : b = e
      · have q' : G'.get? b = some o := q
        rw [hb, ge] at q'; cases q'
      · exact (gk b hb).symm.trans q
    · rw [upd_ne (Ne.symm M.dne)]
      exact I1.hok.fresh M.new
/-- raise Stopped(e) -/
def tRaiseStop (C : Addr) (W : WX) (ta : TA) : TS := fun _ σ H => tMkStop C ta σ H fun cls d H' => W cls d σ H'
theorem ps_raiseStop {a : Expr} {ta : TA} {W : WX} {p pos pos2 : Pos} {k : Nat} (hc : X.calm = true) (T : StopTxt X.K X.mg C fI) (hr : Room k X.A) (hk : 1 ≤ k) (tk : Takes X W) (ha : PA X [a] ta) (hg : Gl X "Stopped" := by rfl)
    (he : starEach (a :: []) X.env = (false, eval a X.env) :: starEach [] X.env := by rfl) (hpl : (backTo pos (starEach [] X.env)).any (·.1) = false := by rfl) :
    PS X (.Raise (some (.Call (.Name "Stopped" p) [a] [] pos)) none pos2) (tRaiseStop C W ta) := ps_raise hc tk (pmk_stop T hr hk ha hg he hpl)
/-- stop.why, stop the exception that the suite holds -/
def tWhy (C : Addr) (a : Addr) (cls : Value) (d : Option Addr) (te : TE) : TE := fun σ H Q => te σ H fun x H1 => x = .ref a ∧ cls = .ref C ∧ ∃ (dd : Addr) (v : V), d = some dd ∧ H1 dd = some (.xd [(("why" : Str), v)]) ∧ Q v H1
theorem pe_why {a : Addr} {oe : Obj} {cls : Value} {d : Option Addr} {pn : List (Addr × Obj)} {e : Expr} {te : TE} {pos : Pos} (T : StopTxt X.K X.mg C fI) (hz : Zc cls d oe) (hf : ∃ vs, oe.data = .fields vs) (he : PE (X.suite a ((a, oe) :: pn)) e te)
    (hb : attributeBase e "why" X.env (eval e X.env) = eval e X.env := by rfl) :
    PE (X.suite a ((a, oe) :: pn)) (.Attribute e "why" pos) (tWhy C a cls d te) := by
  refine ⟨fun pins s σ H Q I h => ?_⟩
  refine attr_of hb (thn (he.run pins s σ H _ I h) fun u s1 hh => ?_)
  obtain ⟨x, H1, I1, rx, ex, ec, dd, v, ed, ea, q⟩ := hh
  subst ex
  obtain rfl : u = Value.ref a := rx
  subst ec
  subst ed
  obtain ⟨ha, _⟩ := I1.pin (a, oe) (List.mem_append_left _ List.mem_cons_self)
  obtain ⟨vs, hd⟩ := hf
  have hx : ObjOk X.prog X.w H1 s1.heap dd (.xd [(("why" : Str), v)]) := I1.hok dd _ ea
  obtain ⟨mA, hns, hr⟩ := hx
  obtain ⟨od, ho, hl⟩ := lookIn_ns hns
  have l : List.lookup ("why" : Str) [(("why" : Str), v)] = some v := by simp [List.lookup]
  obtain ⟨u, hu, ru⟩ := RelO.some_of (v := v) (o := mA "why") (by rw [← l]; exact hr "why")
  have J : PySem.W.InstAt s1.heap a oe C (some od) := ⟨ha, hz.1, by unfold PySem.W.notCls; rw [hd] <;> rfl, by rw [hz.2]; exact ho⟩
  exact HandSPX.exc_get I1.kIn J T.ga T.gg T.exC (PySem.W.findObj_own T.hdC T.noN rfl (by rw [hl, hu])) (handed_of ru) ⟨v, H1, I1.tok _, ru, q⟩
end
end K82W
end K82Stop_part
section K82Held_part
set_option Elab.async false
set_option linter.all false
set_option maxRecDepth 100000
set_option maxHeartbeats 4000000
namespace K82W
open PySem PySem.Spec PyProof.Rows L2
abbrev rNN : R2 := fun x y H Q => y = .non ∧ Q (.bl (!decide (x = .non))) H
abbrev rIN : R2 := fun x y H Q => y = .non ∧ Q (.bl (decide (x = .non))) H
abbrev CW (K : PySem.W.Frag) : Addr := He.ga K "Walker"
structure TxM (K : PySem.W.Frag) (mg : Str → Option Value) : Prop extends TxC K mg where
  c_Walker : Cls K (CW K)
  a_block : NoAttr K (CW K) "block"
  a_bits : NoAttr K (CW K) "bits"
  a_at_place : NoAttr K (CW K) "at_place"
  a_moment : NoAttr K (CW K) "moment"
  a_stands : NoAttr K (CW K) "stands"
  a_kept : NoAttr K (CW K) "kept"
  a_contents : NoAttr K (CW K) "contents"
  a_wishes : NoAttr K (CW K) "wishes"
  a_lost : NoAttr K (CW K) "lost"
  a_replies : NoAttr K (CW K) "replies"
  a_spoken : NoAttr K (CW K) "spoken"
  a_first : NoAttr K (CW K) "first"
  a_quiet_places : NoAttr K (CW K) "quiet_places"
  a_since : NoAttr K (CW K) "since"
  a_free_moments : NoAttr K (CW K) "free_moments"
  a_could_be : NoAttr K (CW K) "could_be"
  a_late : NoAttr K (CW K) "late"
  a_early : NoAttr K (CW K) "early"
  m_held_by : MethE K "Walker" "held_by" "Machine.held_by" s_Machine_held_by
  m_note : MethE K "Walker" "note" "Machine.note" s_Machine_note
  m_end_moment : MethE K "Walker" "end_moment" "Machine.end_moment" s_Machine_end_moment
  m_cell_of : MethE K "Walker" "cell_of" "Machine.cell_of" s_Machine_cell_of
  m_stand : MethE K "Walker" "stand" "Machine.stand" s_Machine_stand
  m_fill : MethE K "Walker" "fill" "Machine.fill" s_Machine_fill
  m_reach_from : MethE K "Walker" "reach_from" "Machine.reach_from" s_Machine_reach_from
  m_reached : MethE K "Walker" "reached" "Machine.reached" s_Machine_reached
  m_comers : MethE K "Walker" "comers" "Machine.comers" s_Machine_comers
  m_ask : MethE K "Walker" "ask" "Machine.ask" s_Machine_ask
  m_begin_moment : MethE K "Walker" "begin_moment" "Walker.begin_moment" s_Walker_begin_moment
  m_latest : MethE K "Walker" "latest" "Walker.latest" s_Walker_latest
  m_decide : MethE K "Walker" "decide" "Walker.decide" s_Walker_decide
  stop : StopTxt K mg (He.ga K "Stopped") (He.ma K (He.ga K "Stopped") "__init__")
  b_len : mg "len" = none
  b_range : mg "range" = none
  b_list : mg "list" = none
  b_int : mg "int" = none
  b_sorted : mg "sorted" = none
  b_sum : mg "sum" = none
section
variable {P : Program} {w : World} {K : PySem.W.Frag} {mg : Str → Option Value} {base : Heap}
/-! ### note, end_moment -/
def spNote : Sp := fun vs H Q _ => ∃ x y, vs = [x, y] ∧ Q .non H
theorem m_note (T : TxM K mg) : Met P w K mg base 1 (CW K) "note" p_Machine_note spNote := by
  refine metN T.m_note.2 T.m_note.1 sc_Machine_note (fun _ _ _ _ _ _ us hl => match us, hl with | [_, _], _ => rfl) (fun vs H Q E h => ?_) (fun cdv A outer s H vs Q E hr h => ?_)
  · obtain ⟨x, y, rfl, _⟩ := h
    rfl
  · obtain ⟨x, y, rfl, hQ⟩ := h
    exact ⟨_, pss_one (ps_ret pe_non), hQ⟩
def spEnd : Sp := fun vs H Q _ => ∃ x, vs = [x] ∧ Q .non H
theorem m_end_moment (T : TxM K mg) : Met P w K mg base 1 (CW K) "end_moment" p_Machine_end_moment spEnd := by
  refine metN T.m_end_moment.2 T.m_end_moment.1 sc_Machine_end_moment (fun _ _ _ _ _ _ us hl => match us, hl with | [_], _ => rfl) (fun vs H Q E h => ?_) (fun cdv A outer s H vs Q E hr h => ?_)
  · obtain ⟨x, rfl, _⟩ := h
    rfl
  · obtain ⟨x, rfl, hQ⟩ := h
    exact ⟨_, pss_one (ps_ret pe_non), hQ⟩
/-! ### held_by -/
def spHeld (K : PySem.W.Frag) : Sp := fun vs H Q _ => ∃ (H0 : Hp) (Y : Lay) (G : Gh) (S : PMS) (b c : Nat), vs = [.ref (Y.ad 0), .int (c : Nat)] ∧ MAt K H0 H Y G ∧ Sim H G S b ∧ c < G.n ∧ b ≤ 100 ∧
  ∀ H' q (es : List Nat), Same H H' → H q = none → H' q = some (.lst (es.map fun e => V.int (e : Nat))) → (∀ e, e ∈ es ↔ K82.Edge S c e) → es.length ≤ b → Q (.ref q) H'
theorem le_line {n : Nat} (h : n ≤ 100000) : n < sizeLine := Nat.lt_of_le_of_lt h (by decide)
theorem m_held_by (T : TxM K mg) : Met P w K mg base 1 (CW K) "held_by" p_Machine_held_by (spHeld K) := by
  refine metN T.m_held_by.2 T.m_held_by.1 sc_Machine_held_by (fun _ _ _ _ _ _ us hl => match us, hl with | [_, _], _ => rfl) (fun vs H Q E h => ?_) (fun cdv A outer s H vs Q E hr h => ?_)
  · obtain ⟨H0, Y, G, S, b, c, rfl, _⟩ := h
    rfl
  · obtain ⟨H0, Y, G, S, b, c, rfl, M, I, hc, hb, hQ⟩ := h
    refine ⟨_, pss_one (ps_ret (pe_lock (pe_lc (own := [("row", 2)]) (g := gName 2) (tt := tAnd (tTest (tOp rNN (tVar 2) (tC .non))) (tB (tOp (rIxT K) (tVar 2) (tC (.int 1))))) (te := tOp (rIxT K) (tVar 2) (tC (.int 0))) rfl sc_Machine_held_by.nd
      (pi_values (pe_ix ix_list (pe_fld (pv 0) rfl) (pv 1) (fun _ _ => rfl))) (blkOk_by (N := n_Machine_held_by) (sc := defScope s_Machine_held_by) (by decide +kernel))
      (fun _ _ _ _ _ => pg_name (i := 2) sc_Machine_held_by.nd rfl (Or.inl rfl) (hf := Or.inr rfl))
      (fun _ _ _ _ _ => pts_one (pw_and (pt_cmpR op_notN (pv 2) pe_non (nomark _)) (pw_and1 (pt_val (pe_ix ix_tup (pv 2) pe_int (fun _ _ => rfl))))).pt) (fun _ _ _ _ _ => pe_ix ix_tup (pv 2) pe_int (fun _ _ => rfl))))), ?_⟩
    refine ⟨Y.ad (14 + c), .dK (G.cd c), M.cell hc, trivial, fun od => ?_⟩
    have hd := M.cell hc
    have nd : ∀ i, i < 14 → Y.ad i ≠ Y.ad (14 + c) := fun i hi e => by
      have := M.inj i (14 + c) (by omega) (by omega) e
      omega
    have hI : upd H (Y.ad (14 + c)) (.frz od (.dK (G.cd c))) (Y.ad 0) = some (.ins (CW K) (Y.ad 1) (mfs Y G)) := by rw [upd_ne (nd 0 (by omega))]; exact M.ins
    have hC : upd H (Y.ad (14 + c)) (.frz od (.dK (G.cd c))) (Y.ad 4) = _ := (upd_ne (nd 4 (by omega))).trans M.contents
    refine ⟨_, rfl, _, _, _, _, _, rfl, hI, T.c_Walker, T.a_contents, rfl, _, rfl, _, _, _, _, rfl, rfl, SqL.of hC, atI_nat (j := c) (range_get _ hc), _, _, _, rfl, upd_same, fun D hD => ?_⟩
    have nDd : D ≠ Y.ad (14 + c) := (ne_of_none upd_same hD).symm
    have hD0 : H D = none := by rw [upd_ne nDd] at hD; exact hD
    have kt : ∀ t xs, H t = some (.tup xs) → upd H (Y.ad (14 + c)) (.frz od (.dK (G.cd c))) t = some (.tup xs) := fun t xs e => by
      rw [upd_ne (ne_of e hd (by intro z; cases z))]
      exact e
    refine lc_it (walk_values (d := Y.ad (14 + c)) (o := od) (kvs := G.cd c)) (fun i H2 => Same (upd H (Y.ad (14 + c)) (.frz od (.dK (G.cd c)))) H2 ∧ ∃ es : List Nat, H2 D = some (.lst (es.map fun e => V.int (e : Nat))) ∧ es.length ≤ i ∧
        ∀ e : Nat, e ∈ es ↔ ∃ q ∈ (G.cd c).take i, ∃ t, q.2 = V.ref t ∧ H t = some (.tup [.int (e : Nat), .bl true]))
      ⟨Same.upd hD, [], upd_same, Nat.le_refl _, fun e => by simp⟩ (fun i H2 _ ⟨k2, _⟩ => k2 _ _ upd_same) ?_ ?_
    · rintro i x H2 H3 hi ⟨k2, es, hD2, hle, hmem⟩ ⟨rfl, k, hk⟩
      have hx : (k, x) ∈ G.cd c := List.mem_of_getElem? hk
      obtain ⟨f, ef, hr2⟩ := I.cd1 c hc _ hx
      have e3 : (G.cd c).take (i + 1) = (G.cd c).take i ++ [(k, x)] := by rw [List.take_succ, hk]; rfl
      have mem3 : ∀ e : Nat, (∃ q ∈ (G.cd c).take (i + 1), ∃ t, q.2 = V.ref t ∧ H t = some (.tup [.int (e : Nat), .bl true])) ↔ (e ∈ es ∨ ∃ t, x = V.ref t ∧ H t = some (.tup [.int (e : Nat), .bl true])) := fun e => by
        rw [e3, hmem e]
        constructor
        · rintro ⟨q, hq, t, h1, h2⟩
          rcases List.mem_append.mp hq with hq | hq
          · exact .inl ⟨q, hq, t, h1, h2⟩
          · rw [List.mem_singleton] at hq
            subst hq
            exact .inr ⟨t, h1, h2⟩
        · rintro (⟨q, hq, r⟩ | ⟨t, h1, h2⟩)
          · exact ⟨q, List.mem_append_left _ hq, r⟩
          · exact ⟨(k, x), List.mem_append_right _ (List.mem_singleton.mpr rfl), t, h1, h2⟩
      refine ⟨rfl, _, rfl, rfl, ?_⟩
      have out : (∀ e : Nat, ¬ ∃ t, x = V.ref t ∧ H t = some (.tup [.int (e : Nat), .bl true])) → (Same (upd H (Y.ad (14 + c)) (.frz od (.dK (G.cd c)))) H3 ∧ ∃ es : List Nat, H3 D = some (.lst (es.map fun e => V.int (e : Nat))) ∧ es.length ≤ i + 1 ∧
          ∀ e : Nat, e ∈ es ↔ ∃ q ∈ (G.cd c).take (i + 1), ∃ t, q.2 = V.ref t ∧ H t = some (.tup [.int (e : Nat), .bl true])) := fun hn =>
        ⟨k2, es, hD2, by omega, fun e => by rw [mem3 e]; exact ⟨.inl, fun z => z.resolve_right (hn e)⟩⟩
      cases hf : S.fld c f with
      | none =>
        rw [hf] at hr2
        obtain rfl : x = .non := hr2
        exact ⟨false, rfl, iteF (iteF (out fun e ⟨t, z, _⟩ => nomatch z))⟩
      | some p =>
        obtain ⟨e1, s1⟩ := p
        rw [hf] at hr2
        obtain ⟨t, rfl, ht⟩ := hr2
        have ht2 := k2 _ _ (kt _ _ ht)
        refine ⟨true, rfl, iteT ⟨_, rfl, t, _, _, _, rfl, rfl, SqT.of ht2, atI_nat (j := 1) rfl, s1, rfl, ?_⟩⟩
        cases s1 with
        | false =>
          refine iteF (out ?_)
          rintro e ⟨t', z, h2⟩
          cases z
          rw [ht] at h2
          cases h2
        | true =>
          refine iteT ⟨_, rfl, t, _, _, _, rfl, rfl, SqT.of ht2, atI_nat (j := 0) rfl, _, hD2, ?_, k2.over hD, es ++ [e1], ?_, ?_, fun e => ?_⟩
          · rw [List.length_map]
            have := I.cdb c
            exact le_line (by omega)
          · rw [upd_same, List.map_append]
            rfl
          · rw [List.length_append]
            exact Nat.add_le_add_right hle 1
          · rw [mem3 e, List.mem_append, List.mem_singleton]
            constructor
            · rintro (h | rfl)
              · exact .inl h
              · exact .inr ⟨t, rfl, ht⟩
            · rintro (h | ⟨t', z, h2⟩)
              · exact .inl h
              · cases z
                rw [ht] at h2
                cases h2
                exact .inr rfl
    · rintro H2 ⟨k2, es, hD2, hle, hmem⟩
      refine ⟨k2 _ _ upd_same, hQ _ D es (Same.unlock hd k2) hD0 (by rw [upd_ne nDd]; exact hD2) (fun e => ?_) (Nat.le_trans hle (I.cdb c))⟩
      rw [hmem e, List.take_length]
      constructor
      · rintro ⟨q, hq, t, h1, h2⟩
        obtain ⟨f, _, hr2⟩ := I.cd1 c hc q hq
        cases hf : S.fld c f with
        | none =>
          rw [hf] at hr2
          rw [show q.2 = .non from hr2] at h1
          cases h1
        | some p =>
          obtain ⟨e1, s1⟩ := p
          rw [hf] at hr2
          obtain ⟨t', h3, h4⟩ := hr2
          rw [h1] at h3
          cases h3
          rw [h2] at h4
          have h5 := Option.some.inj h4
          simp only [HO.tup.injEq, List.cons.injEq, V.int.injEq, V.bl.injEq] at h5
          have h6 : e = e1 := by omega
          refine ⟨f, ?_⟩
          rw [hf, h6, ← h5.2.1]
      · rintro ⟨f, hf⟩
        obtain ⟨u, hu⟩ := I.cd2 c f _ hf
        obtain ⟨f', ef, hr2⟩ := I.cd1 c hc _ hu
        have e1 : f = f' := Sum.inr.inj ef
        subst e1
        rw [hf] at hr2
        obtain ⟨t, h1, h2⟩ := hr2
        exact ⟨_, hu, t, h1, h2⟩
end
end K82W
end K82Held_part
section K82Cell_part
set_option Elab.async false
set_option linter.all false
set_option maxRecDepth 100000
set_option maxHeartbeats 4000000
namespace K82W
open PySem PySem.Spec PyProof.Rows L2
section
variable {κ : Type} [DecidableEq κ]
theorem valV_mem {kvs : List (κ × V)} {k : κ} {v : V} (h : valV kvs k = some v) : (k, v) ∈ kvs := by
  unfold valV at h
  cases e : kvs.find? (fun kv => decide (kv.1 = k)) with
  | none =>
    rw [e] at h
    cases h
  | some q =>
    rw [e] at h
    have h1 := List.find?_some e
    have h2 := List.mem_of_find?_eq_some e
    have h3 : q.1 = k := of_decide_eq_true h1
    have h4 : q.2 = v := Option.some.inj h
    rw [← h3, ← h4]
    exact h2
theorem valV_no {kvs : List (κ × V)} {k : κ} (h : valV kvs k = none) {v : V} : ¬ (k, v) ∈ kvs := fun m => by
  unfold valV at h
  have h1 : kvs.find? (fun kv => decide (kv.1 = k)) = none := by
    cases e : kvs.find? (fun kv => decide (kv.1 = k)) with
    | none => rfl
    | some q =>
      rw [e] at h
      cases h
  have h2 := List.find?_eq_none.mp h1 _ m
  exact h2 (decide_eq_true rfl)
theorem mem_putK {kvs : List (κ × V)} {k : κ} {v : V} {q : κ × V} (h : q ∈ putK kvs k v) : q = (k, v) ∨ (q ∈ kvs ∧ q.1 ≠ k) := by
  unfold putK at h
  split at h
  · obtain ⟨p, hp, e⟩ := List.mem_map.mp h
    by_cases z : p.1 = k
    · rw [if_pos z] at e
      left
      rw [← e, z]
    · rw [if_neg z] at e
      subst e
      exact .inr ⟨hp, z⟩
  · rename_i hn
    rcases List.mem_append.mp h with h | h
    · refine .inr ⟨h, fun z => hn ?_⟩
      exact List.any_eq_true.mpr ⟨q, h, decide_eq_true z⟩
    · rw [List.mem_singleton] at h
      exact .inl h
theorem putK_mem (kvs : List (κ × V)) (k : κ) (v : V) : (k, v) ∈ putK kvs k v := by
  have h := valV_put kvs k k v
  rw [if_pos rfl] at h
  exact valV_mem h
theorem putK_keep {kvs : List (κ × V)} {k j : κ} {v u : V} (h : (j, u) ∈ kvs) : ∃ u', (j, u') ∈ putK kvs k v := by
  by_cases e : j = k
  · subst e
    exact ⟨v, putK_mem _ _ _⟩
  · have h1 := valV_put kvs k j v
    rw [if_neg e] at h1
    cases q : valV kvs j with
    | none => exact absurd h (valV_no q)
    | some z =>
      rw [q] at h1
      exact ⟨z, valV_mem h1⟩
end
theorem Sim.get {H : Hp} {G : Gh} {S : PMS} {b : Nat} (I : Sim H G S b) (x : Str) : (valV G.ks (Sum.inr x)).getD .non = optV (S.env x) := by
  cases h : valV G.ks (Sum.inr x) with
  | none =>
    cases e : S.env x with
    | none => rfl
    | some c =>
      obtain ⟨v, hv⟩ := I.st2 x c e
      exact absurd hv (valV_no h)
  | some v =>
    obtain ⟨y, e1, e2⟩ := I.st1 _ (valV_mem h)
    have e3 : x = y := Sum.inr.inj e1
    subst e3
    exact e2
section
variable {P : Program} {w : World} {K : PySem.W.Frag} {mg : Str → Option Value} {base : Heap}
abbrev CS (K : PySem.W.Frag) : Addr := He.ga K "Stopped"
/-- the error's own dict -/
def WhyAt (K : PySem.W.Frag) (E : XK) (H : Hp) : Prop := ∀ d H', Same H H' → H d = none → H' d = some (.xd [(("why" : Str), .str "name")]) → E (.ref (CS K)) (some d) H'
def spCell (K : PySem.W.Frag) : Sp := fun vs H Q E => ∃ (H0 : Hp) (Y : Lay) (G : Gh) (S : PMS) (b : Nat) (x : Str), vs = [.ref (Y.ad 0), .str x] ∧ MAt K H0 H Y G ∧ Sim H G S b ∧
  (∀ c, S.env x = some c → Q (.int (c : Nat)) H) ∧ (S.env x = none → WhyAt K E H)
theorem m_cell_of (T : TxM K mg) : Met P w K mg base 2 (CW K) "cell_of" p_Machine_cell_of (spCell K) := by
  refine metX T.m_cell_of.2 T.m_cell_of.1 sc_Machine_cell_of (fun _ _ _ _ _ _ us hl => match us, hl with | [_, _], _ => rfl) (fun vs H Q E h => ?_) (fun cdv A outer s H vs Q E hr h => ?_)
  · obtain ⟨H0, Y, G, S, b, x, rfl, _⟩ := h
    rfl
  · obtain ⟨H0, Y, G, S, b, x, rfl, M, I, hQ, hE⟩ := h
    refine ⟨_, pss_cons (ps_set (i := 2) sc_Machine_cell_of.nd rfl (Or.inl rfl) (pe_dget1 (hu_of hr) (pe_fld (pv 0) rfl) (pv 1) ⟨rfl, rfl, rfl, rfl⟩))
      (pss_cons (ps_if (pt_cmpR op_isN (pv 2) pe_non (nomark _)) (pss_one (ps_raiseStop rfl T.stop hr (by decide) (takes_of rfl rfl rfl rfl) (pa_cons pe_str pa_nil))) pss_nil) (pss_one (ps_ret (pv 2)))), ?_⟩
    refine ⟨_, rfl, _, _, _, _, _, rfl, M.ins, T.c_Walker, T.a_stands, rfl, _, rfl, .inl ⟨_, .inl M.stands⟩, _, rfl, _, DGet.k (k := Sum.inr x) M.stands, ?_⟩
    rw [I.get x]
    cases e : S.env x with
    | none =>
      refine ⟨_, rfl, rfl, true, congrArg V.bl (decide_eq_true rfl), iteT ⟨_, rfl, fun d hd => ?_⟩⟩
      exact hE e d _ (Same.upd hd) hd upd_same
    | some c =>
      refine ⟨_, rfl, rfl, false, congrArg V.bl (decide_eq_false (fun z => nomatch z)), iteF ⟨_, rfl, ?_⟩⟩
      exact hQ c e
/-! ### stand -/
def nameV : V → Prop
  | .non => True
  | _ => True
def spStand (K : PySem.W.Frag) : Sp := fun vs H Q _ => ∃ (H0 : Hp) (Y : Lay) (G : Gh) (S : PMS) (b : Nat) (x : Str) (c : Option Nat), vs = [.ref (Y.ad 0), .str x, optV c] ∧ MAt K H0 H Y G ∧ Sim H G S b ∧ b ≤ 100 ∧ (∀ d, c = some d → d < S.n) ∧
  ∀ H' G', MAt K H0 H' Y G' → Sim H' G' (S.stand x c) (b + 1) → Tups H H' → G' = { G with ks := putK G.ks (.inr x) (optV c) } → Q .non H'
theorem Sim.stand {H : Hp} {G : Gh} {S : PMS} {b : Nat} (I : Sim H G S b) (x : Str) (c : Option Nat) (hc : ∀ d, c = some d → d < S.n) : Sim H { G with ks := putK G.ks (.inr x) (optV c) } (S.stand x c) (b + 1) where
  n := I.n
  nb := Nat.le_succ_of_le I.nb
  st1 := fun q hq => by
    rcases mem_putK hq with rfl | ⟨h1, h2⟩
    · exact ⟨x, rfl, by show optV c = optV (if x = x then c else S.env x); rw [if_pos rfl]⟩
    · obtain ⟨y, e1, e2⟩ := I.st1 q h1
      refine ⟨y, e1, ?_⟩
      have : y ≠ x := fun z => h2 (by rw [e1, z])
      show q.2 = optV (if y = x then c else S.env y)
      rw [if_neg this]
      exact e2
  st2 := fun y d h => by
    by_cases e : y = x
    · subst e
      exact ⟨_, putK_mem _ _ _⟩
    · have h' : (if y = x then c else S.env y) = some d := h
      rw [if_neg e] at h'
      obtain ⟨v, hv⟩ := I.st2 y d h'
      exact putK_keep hv
  stb := Nat.le_trans (length_putK _ _ _) (Nat.succ_le_succ I.stb)
  kp1 := I.kp1
  kp2 := I.kp2
  kpb := Nat.le_succ_of_le I.kpb
  cd1 := I.cd1
  cd2 := I.cd2
  cdb := fun c => Nat.le_succ_of_le (I.cdb c)
  fldB := I.fldB
  envB := fun y d h => by
    have h' : (if y = x then c else S.env y) = some d := h
    split at h'
    · exact hc d h'
    · exact I.envB y d h'
  keptB := I.keptB
  ws := I.ws
  wishB := I.wishB
  ls := I.ls
  lostB := I.lostB
theorem m_stand (T : TxM K mg) : Met P w K mg base 2 (CW K) "stand" p_Machine_stand (spStand K) := by
  refine metN T.m_stand.2 T.m_stand.1 sc_Machine_stand (fun _ _ _ _ _ _ us hl => match us, hl with | [_, _, _], _ => rfl) (fun vs H Q E h => ?_) (fun cdv A outer s H vs Q E hr h => ?_)
  · obtain ⟨H0, Y, G, S, b, x, c, rfl, _⟩ := h
    rfl
  · obtain ⟨H0, Y, G, S, b, x, c, rfl, M, I, hb, hc, hQ⟩ := h
    refine ⟨_, pss_cons (ps_dput (hu_of hr) (pe_fld (pv 0) rfl) (pv 1) (pv 2) rfl)
      (pss_one (ps_expr (pe_m (m_note T) hr (Nat.le_refl _) passL T.c_Walker (pv 0) (pa_cons (pe_tup (pa_cons pe_str (pa_cons (pv 1) (pa_cons (pv 2) pa_nil)))) pa_nil)))), ?_⟩
    refine ⟨_, rfl, _, rfl, _, _, _, _, _, rfl, M.ins, T.c_Walker, T.a_stands, rfl, _, rfl, _, _, rfl, DPut.k (k := Sum.inr x) M.stands ?_, ?_⟩
    · have := I.stb
      exact le_line (by omega)
    · have M1 := M.put_ks (putK G.ks (.inr x) (optV c))
      refine ⟨_, rfl, _, _, _, rfl, M1.ins, rfl, _, rfl, _, rfl, by show 3 ≤ sizeLine; decide, fun t ht => ?_⟩
      refine ⟨_, _, rfl, ?_⟩
      have k1 : Tups H (upd H (Y.ad 2) (.dK (putK G.ks (.inr x) (optV c)))) := tups_put M.stands (fun xs z => nomatch z)
      exact hQ _ _ (M1.mono (Same.upd ht)) ((I.stand x c hc).mono (k1.trans (Same.upd ht).tups)) (k1.trans (Same.upd ht).tups) rfl
end
end K82W
end K82Cell_part
section K82Fill_part
set_option Elab.async false
set_option linter.all false
set_option maxRecDepth 100000
set_option maxHeartbeats 4000000
namespace K82W
open PySem PySem.Spec PyProof.Rows L2
def Gh.setCd (G : Gh) (a : Nat) (l : List (Key × V)) : Gh := { G with cd := fun d => if d = a then l else G.cd d }
theorem Sim.fill {H : Hp} {G : Gh} {S : PMS} {b : Nat} (I : Sim H G S b) (a : Nat) (ha : a < S.n) (f : Str) (v : Option (Nat × Bool)) (hv : ∀ p, v = some p → p.1 < S.n) (u : V) (hu : RowV H u v) : Sim H (G.setCd a (putK (G.cd a) (.inr f) u)) (S.fill a f v) (b + 1) where
  n := I.n
  nb := Nat.le_succ_of_le I.nb
  st1 := I.st1
  st2 := I.st2
  stb := Nat.le_succ_of_le I.stb
  kp1 := I.kp1
  kp2 := I.kp2
  kpb := Nat.le_succ_of_le I.kpb
  cd1 := fun c hc q hq => by
    have hq : q ∈ (if c = a then putK (G.cd a) (.inr f) u else G.cd c) := hq
    show ∃ g, q.1 = .inr g ∧ RowV H q.2 (if c = a ∧ g = f then v else S.fld c g)
    by_cases e : c = a
    · subst e
      rw [if_pos rfl] at hq
      rcases mem_putK hq with rfl | ⟨h1, h2⟩
      · exact ⟨f, rfl, by rw [if_pos ⟨rfl, rfl⟩]; exact hu⟩
      · obtain ⟨g, e1, r⟩ := I.cd1 c hc q h1
        refine ⟨g, e1, ?_⟩
        rw [if_neg (fun z => h2 (by rw [e1, z.2]))]
        exact r
    · rw [if_neg e] at hq
      obtain ⟨g, e1, r⟩ := I.cd1 c hc q hq
      exact ⟨g, e1, by rw [if_neg (fun z => e z.1)]; exact r⟩
  cd2 := fun c g w h => by
    have h : (if c = a ∧ g = f then v else S.fld c g) = some w := h
    show ∃ u', (Sum.inr g, u') ∈ (if c = a then putK (G.cd a) (.inr f) u else G.cd c)
    by_cases e : c = a
    · subst e
      rw [if_pos rfl]
      by_cases e2 : g = f
      · subst e2
        exact ⟨u, putK_mem _ _ _⟩
      · rw [if_neg (fun z => e2 z.2)] at h
        obtain ⟨u', hu'⟩ := I.cd2 c g w h
        exact putK_keep hu'
    · rw [if_neg e]
      rw [if_neg (fun z => e z.1)] at h
      exact I.cd2 c g w h
  cdb := fun c => by
    show (if c = a then putK (G.cd a) (.inr f) u else G.cd c).length ≤ b + 1
    split
    · exact Nat.le_trans (length_putK _ _ _) (Nat.succ_le_succ (I.cdb a))
    · exact Nat.le_succ_of_le (I.cdb c)
  fldB := fun c g w h => by
    have h : (if c = a ∧ g = f then v else S.fld c g) = some w := h
    by_cases e : c = a ∧ g = f
    · rw [if_pos e] at h
      exact ⟨by rw [e.1]; exact ha, hv w h⟩
    · rw [if_neg e] at h
      exact I.fldB c g w h
  envB := I.envB
  keptB := I.keptB
  ws := I.ws
  wishB := I.wishB
  ls := I.ls
  lostB := I.lostB
theorem Sim.row {H : Hp} {G : Gh} {S : PMS} {b : Nat} (I : Sim H G S b) {a : Nat} (ha : a < G.n) (f : Str) : RowV H ((valV (G.cd a) (Sum.inr f)).getD .non) (S.fld a f) := by
  cases h : valV (G.cd a) (Sum.inr f) with
  | none =>
    cases e : S.fld a f with
    | none => rfl
    | some c =>
      obtain ⟨v, hv⟩ := I.cd2 a f c e
      exact absurd hv (valV_no h)
  | some v =>
    obtain ⟨y, e1, e2⟩ := I.cd1 a ha _ (valV_mem h)
    have e3 : f = y := Sum.inr.inj e1
    subst e3
    exact e2
section
variable {P : Program} {w : World} {K : PySem.W.Frag} {mg : Str → Option Value} {base : Heap}
theorem MAt.dne {H0 H : Hp} {Y : Lay} {G : Gh} (M : MAt K H0 H Y G) (i j : Nat) (h : i ≠ j) (hi : i < 14 + G.n) (hj : j < 14 + G.n) : Y.ad i ≠ Y.ad j := fun e => h (M.inj i j hi hj e)
def spFill (K : PySem.W.Frag) : Sp := fun vs H Q _ => ∃ (H0 : Hp) (Y : Lay) (G : Gh) (S : PMS) (b a : Nat) (f : Str) (c : Option Nat) (s : Bool), vs = [.ref (Y.ad 0), .int (a : Nat), .str f, optV c, .bl s] ∧ MAt K H0 H Y G ∧ Sim H G S b ∧ b ≤ 100 ∧ a < S.n ∧ (∀ d, c = some d → d < S.n) ∧
  ∀ H' l, MAt K H0 H' Y (G.setCd a l) → Sim H' (G.setCd a l) (S.fill a f (c.map fun d => (d, s))) (b + 1) → Tups H H' → Q .non H'
theorem m_fill (T : TxM K mg) : Met P w K mg base 2 (CW K) "fill" p_Machine_fill (spFill K) := by
  refine metN T.m_fill.2 T.m_fill.1 sc_Machine_fill (fun _ _ _ _ _ _ us hl => match us, hl with | [_, _, _, _, _], _ => rfl) (fun vs H Q E h => ?_) (fun cdv A outer s H vs Q E hr h => ?_)
  · obtain ⟨H0, Y, G, S, b, a, f, c, s, rfl, _⟩ := h
    rfl
  · obtain ⟨H0, Y, G, S, b, a, f, c, st, rfl, M, I, hb, ha, hc, hQ⟩ := h
    refine ⟨_, pss_cons (ps_set (i := 5) sc_Machine_fill.nd rfl (Or.inl rfl) (pe_dget1 (hu_of hr) (pe_ix ix_list (pe_fld (pv 0) rfl) (pv 1) (fun _ _ => rfl)) (pv 2) ⟨rfl, rfl, rfl, rfl⟩))
      (pss_cons (ps_if (pt_val (pv 4)) (pss_one (ps_expr (pe_m (m_note T) hr (Nat.le_refl _) passL T.c_Walker (pv 0) (pa_cons (pe_tup (pa_cons pe_str (pa_cons (pv 1) (pa_cons (pv 2) (pa_cons (pv 3) pa_nil))))) pa_nil))))
        (pss_one (ps_if (pw_and (pt_cmpR op_notN (pv 5) pe_non (nomark _)) (pw_and1 (pt_val (pe_ix ix_tup (pv 5) pe_int (fun _ _ => rfl))))).pt (pss_one (ps_expr (pe_m (m_note T) hr (Nat.le_refl _) passL T.c_Walker (pv 0) (pa_cons (pe_tup (pa_cons pe_str (pa_cons (pv 1) (pa_cons (pv 2) (pa_cons pe_non pa_nil))))) pa_nil)))) pss_nil)))
      (pss_one (ps_dput (hu_of hr) (pe_ix ix_list (pe_fld (pv 0) rfl) (pv 1) (fun _ _ => rfl)) (pv 2) (pe_ifExp (pt_cmpR op_isN (pv 3) pe_non (nomark _)) pe_non (pe_tup (pa_cons (pv 3) (pa_cons (pv 4) pa_nil)))) rfl))), ?_⟩
    have hn : a < G.n := by rw [I.n]; exact ha
    refine ⟨_, rfl, _, _, _, _, _, rfl, M.ins, T.c_Walker, T.a_contents, rfl, _, rfl, _, _, _, _, rfl, rfl, SqL.of M.contents, atI_nat (j := a) (range_get _ hn), _, rfl, .inl ⟨_, .inl (M.cell hn)⟩, _, rfl, _, DGet.k (k := Sum.inr f) (M.cell hn), ?_⟩
    have hrow := I.row hn f
    generalize (valV (G.cd a) (Sum.inr f)).getD .non = bef at hrow ⊢
    -- the last statement, from any heap that holds more
    have last : ∀ H1 : Hp, Same H H1 → sDPut (tOp (rIxL K) (tFld K (tVar 0) "contents") (tVar 1)) (tVar 2) (tIf (tTest (tOp rIN (tVar 3) (tC .non))) (tC .non) (tTup (tCons (tVar 3) (tCons (tVar 4) tNil)))) { nx := fun x H' => Q V.non H', rt := Q } [some (.ref (Y.ad 0)), some (.int (a : Nat)), some (.str f), some (optV c), some (.bl st), some bef] H1 := by
      intro H1 s1
      have M1 := M.mono s1
      have I1 := I.mono s1.tups
      have fin : ∀ H2 u, Same H1 H2 → RowV H2 u (c.map fun d => (d, st)) → tOp (rIxL K) (tFld K (tVar 0) "contents") (tVar 1) [some (.ref (Y.ad 0)), some (.int (a : Nat)), some (.str f), some (optV c), some (.bl st), some bef] H2 fun x H3 => tVar 2 [some (.ref (Y.ad 0)), some (.int (a : Nat)), some (.str f), some (optV c), some (.bl st), some bef] H3 fun y H4 => ∃ a H5, x = .ref a ∧ DPut H4 a y u H5 ∧ Q .non H5 := by
        intro H2 u s2 hu
        have M2 := M1.mono s2
        refine ⟨_, rfl, _, _, _, _, _, rfl, M2.ins, T.c_Walker, T.a_contents, rfl, _, rfl, _, _, _, _, rfl, rfl, SqL.of M2.contents, atI_nat (j := a) (range_get _ hn), _, rfl, _, _, rfl, DPut.k (k := Sum.inr f) (M2.cell hn) ?_, ?_⟩
        · have := I.cdb a
          exact le_line (by omega)
        · have k1 : Tups H2 (upd H2 (Y.ad (14 + a)) (.dK (putK (G.cd a) (Sum.inr f) u))) := tups_put (M2.cell hn) (fun xs z => nomatch z)
          exact hQ _ _ (M2.put_cd hn _) (((I1.mono s2.tups).fill a ha f _ (fun p hp => by
            cases c with
            | none => cases hp
            | some d =>
              cases hp
              exact hc d rfl) u hu).mono k1) ((s1.trans s2).tups.trans k1)
      cases c with
      | none => exact ⟨_, rfl, rfl, true, congrArg V.bl (decide_eq_true rfl), iteT (fin H1 .non (fun _ _ e => e) rfl)⟩
      | some d =>
        refine ⟨_, rfl, rfl, false, congrArg V.bl (decide_eq_false (fun z => nomatch z)), iteF ⟨_, rfl, _, rfl, by show 2 ≤ sizeLine; decide, fun t ht => ?_⟩⟩
        exact fin _ _ (Same.upd ht) ⟨t, rfl, upd_same⟩
    have noteS : ∀ H1 : Hp, Same H H1 → ∀ (x : V), tDrop (tMeth (CW K) "note" spNote [] E0 (tVar 0) (tCons (tTup (tCons (tC (.str "hold")) (tCons (tVar 1) (tCons (tVar 2) (tCons (fun _ H Q => Q x H) tNil))))) tNil)) { nx := fun σ H2 => Same H H2 ∧ σ = [some (.ref (Y.ad 0)), some (.int (a : Nat)), some (.str f), some (optV c), some (.bl st), some bef], rt := fun _ _ => False } [some (.ref (Y.ad 0)), some (.int (a : Nat)), some (.str f), some (optV c), some (.bl st), some bef] H1 := by
      intro H1 s1 x
      refine ⟨_, rfl, _, _, _, rfl, (M.mono s1).ins, rfl, _, rfl, _, rfl, by show 4 ≤ sizeLine; decide, fun t ht => ?_⟩
      exact ⟨_, _, rfl, s1.updT ht, rfl⟩
    refine ⟨_, rfl, st, rfl, ?_⟩
    cases st with
    | true =>
      refine iteT ?_
      refine ⟨_, rfl, _, _, _, rfl, M.ins, rfl, _, rfl, _, rfl, _, rfl, by show 4 ≤ sizeLine; decide, fun t ht => ?_⟩
      exact ⟨_, _, rfl, last _ (Same.upd ht)⟩
    | false =>
      refine iteF ⟨_, rfl, rfl, ?_⟩
      cases hf : S.fld a f with
      | none =>
        rw [hf] at hrow
        obtain rfl : bef = .non := hrow
        exact ⟨false, congrArg V.bl (by rw [decide_eq_true rfl]; rfl), iteF (iteF (last H (fun _ _ e => e)))⟩
      | some p =>
        obtain ⟨e1, s1⟩ := p
        rw [hf] at hrow
        obtain ⟨t, rfl, ht⟩ := hrow
        refine ⟨true, congrArg V.bl (by rw [decide_eq_false (fun z => nomatch z)]; rfl), iteT ⟨_, rfl, t, _, _, _, rfl, rfl, SqT.of ht, atI_nat (j := 1) rfl, s1, rfl, ?_⟩⟩
        cases s1 with
        | false => exact iteF (last H (fun _ _ e => e))
        | true =>
          refine iteT ⟨_, rfl, _, _, _, rfl, M.ins, rfl, _, rfl, _, rfl, by show 4 ≤ sizeLine; decide, fun q hq => ?_⟩
          exact ⟨_, _, rfl, last _ (Same.upd hq)⟩
end
end K82W
end K82Fill_part
section K82Reach_part
set_option Elab.async false
set_option linter.all false
set_option maxRecDepth 100000
set_option maxHeartbeats 4000000
namespace K82W
open PySem PySem.Spec PyProof.Rows L2
inductive RF (S : PMS) (st : List Nat) : Nat → Prop where
  | start {c : Nat} (h : c ∈ st) : RF S st c
  | step {d e : Nat} (h : RF S st d) (q : K82.Edge S d e) : RF S st e
def natV (c : Nat) : V := .int (c : Int)
theorem natV_map (l : List Nat) : l.map natV = (l.map fun c : Nat => (c : Int)).map V.int := by
  rw [List.map_map]
  rfl
theorem count_set : ∀ (fb : List Bool) (c : Nat), fb[c]? = some false → (fb.set c true).count false + 1 = fb.count false
  | [], c, h => by simp at h
  | a :: r, 0, h => by
    simp only [List.getElem?_cons_zero, Option.some.injEq] at h
    subst h
    simp [List.count_cons]
  | a :: r, c + 1, h => by
    have ih := count_set r c (by simpa using h)
    simp only [List.set_cons_succ, List.count_cons]
    omega
theorem set_get (fb : List Bool) (c e : Nat) (h : c < fb.length) : (fb.set c true)[e]? = if c = e then some true else fb[e]? := by
  rw [List.getElem?_set]
  by_cases z : c = e
  · subst z
    simp [h]
  · rw [if_neg z, if_neg z]
structure RInv (S : PMS) (st : List Nat) (b : Nat) (fb : List Bool) (wl : List Nat) : Prop where
  len : fb.length = S.n
  wl1 : ∀ c ∈ wl, c < S.n ∧ RF S st c
  fb1 : ∀ c, fb[c]? = some true → RF S st c
  st1 : ∀ c ∈ st, fb[c]? = some true ∨ c ∈ wl
  cl1 : ∀ c e, fb[c]? = some true → K82.Edge S c e → fb[e]? = some true ∨ e ∈ wl
  bd : wl.length + fb.count false * b ≤ st.length + S.n * b
theorem RInv.old {S : PMS} {st : List Nat} {b : Nat} {fb : List Bool} {l : List Nat} {c : Nat} (R : RInv S st b fb (l ++ [c])) (h : fb[c]? = some true) : RInv S st b fb l where
  len := R.len
  wl1 := fun d hd => R.wl1 d (List.mem_append_left _ hd)
  fb1 := R.fb1
  st1 := fun d hd => by
    rcases R.st1 d hd with q | q
    · exact .inl q
    · rcases List.mem_append.mp q with q | q
      · exact .inr q
      · rw [List.mem_singleton] at q
        subst q
        exact .inl h
  cl1 := fun d e hd he => by
    rcases R.cl1 d e hd he with q | q
    · exact .inl q
    · rcases List.mem_append.mp q with q | q
      · exact .inr q
      · rw [List.mem_singleton] at q
        subst q
        exact .inl h
  bd := by
    have := R.bd
    rw [List.length_append] at this
    omega
theorem RInv.new {S : PMS} {st : List Nat} {b : Nat} {fb : List Bool} {l es : List Nat} {c : Nat} (R : RInv S st b fb (l ++ [c])) (h : fb[c]? = some false) (hes : ∀ e, e ∈ es ↔ K82.Edge S c e) (hE : ∀ e, K82.Edge S c e → e < S.n) (hb : es.length ≤ b) : RInv S st b (fb.set c true) (l ++ es) := by
  have hc : c < fb.length := (List.getElem?_eq_some_iff.mp h).1
  have Rc : RF S st c := (R.wl1 c (List.mem_append_right _ (List.mem_singleton.mpr rfl))).2
  refine ⟨by rw [List.length_set]; exact R.len, fun d hd => ?_, fun d hd => ?_, fun d hd => ?_, fun d e hd he => ?_, ?_⟩
  · rcases List.mem_append.mp hd with q | q
    · exact R.wl1 d (List.mem_append_left _ q)
    · exact ⟨hE d ((hes d).mp q), .step Rc ((hes d).mp q)⟩
  · rw [set_get fb c d hc] at hd
    by_cases z : c = d
    · subst z
      exact Rc
    · rw [if_neg z] at hd
      exact R.fb1 d hd
  · rw [set_get fb c d hc]
    by_cases z : c = d
    · rw [if_pos z]
      exact .inl rfl
    · rw [if_neg z]
      rcases R.st1 d hd with q | q
      · exact .inl q
      · rcases List.mem_append.mp q with q | q
        · exact .inr (List.mem_append_left _ q)
        · rw [List.mem_singleton] at q
          exact absurd q.symm z
  · rw [set_get fb c e hc]
    by_cases z : c = e
    · rw [if_pos z]
      exact .inl rfl
    · rw [if_neg z]
      rw [set_get fb c d hc] at hd
      by_cases z2 : c = d
      · subst z2
        exact .inr (List.mem_append_right _ ((hes e).mpr he))
      · rw [if_neg z2] at hd
        rcases R.cl1 d e hd he with q | q
        · exact .inl q
        · rcases List.mem_append.mp q with q | q
          · exact .inr (List.mem_append_left _ q)
          · rw [List.mem_singleton] at q
            exact absurd q.symm z
  · have h1 := R.bd
    have h2 := count_set fb c h
    have h3 : fb.count false * b = (fb.set c true).count false * b + b := by rw [← h2, Nat.add_mul, Nat.one_mul]
    rw [List.length_append, List.length_singleton] at h1
    rw [List.length_append]
    omega
theorem RInv.done {S : PMS} {st : List Nat} {b : Nat} {fb : List Bool} (R : RInv S st b fb []) (c : Nat) : fb[c]? = some true ↔ RF S st c := by
  refine ⟨R.fb1 c, fun h => ?_⟩
  induction h with
  | start h => exact (R.st1 _ h).resolve_right (by simp)
  | step _ q ih => exact (R.cl1 _ _ ih q).resolve_right (by simp)
section
variable {P : Program} {w : World} {K : PySem.W.Frag} {mg : Str → Option Value} {base : Heap}
def spReach (K : PySem.W.Frag) : Sp := fun vs H Q _ => ∃ (H0 : Hp) (Y : Lay) (G : Gh) (S : PMS) (b : Nat) (a : Addr) (st : List Nat), vs = [.ref (Y.ad 0), .ref a] ∧ MAt K H0 H Y G ∧ Sim H G S b ∧ b ≤ 100 ∧ H a = some (.lst (st.map natV)) ∧ (∀ c ∈ st, c < S.n) ∧ st.length ≤ 1000 ∧
  ∀ H' q (fb : List Bool), Same H H' → H q = none → H' q = some (.lst (fb.map V.bl)) → fb.length = S.n → (∀ c, fb[c]? = some true ↔ RF S st c) → Q (.ref q) H'
theorem m_reach_from (T : TxM K mg) : Met P w K mg base 2 (CW K) "reach_from" p_Machine_reach_from (spReach K) := by
  refine metN T.m_reach_from.2 T.m_reach_from.1 sc_Machine_reach_from (fun _ _ _ _ _ _ us hl => match us, hl with | [_, _], _ => rfl) (fun vs H Q E h => ?_) (fun cdv A outer s H vs Q E hr h => ?_)
  · obtain ⟨H0, Y, G, S, b, a, st, rfl, _⟩ := h
    rfl
  · obtain ⟨H0, Y, G, S, b, a, st, rfl, M, I, hb, ha, hst, hsl, hQ⟩ := h
    refine ⟨_, pss_cons (ps_set (i := 2) sc_Machine_reach_from.nd rfl (Or.inl rfl) (pe_op op_rep (pe_lst (pa_cons pe_bl pa_nil)) (pe_callB call_len_seq (by rfl) T.b_len PySem.boot_len (pa_cons (pe_fld (pv 0) rfl) pa_nil))))
      (pss_cons (ps_set (i := 3) sc_Machine_reach_from.nd rfl (Or.inl rfl) (pe_callTy call_list_of (by rfl) T.b_list (by decide +kernel) (pa_cons (pv 1) pa_nil)))
      (pss_cons (ps_while PassesOwn.never (pt_cmpR (op_neNil hr.units) (pv 3) (pe_lst pa_nil) (nomark _))
        (pss_cons (ps_set (i := 4) sc_Machine_reach_from.nd rfl (Or.inl rfl) (pe_bm0 PySem.F.plainAttrs_list PySem.F.slot_list_pop PySem.F.type_list_pop mt_pop (pv 3)))
        (pss_one (ps_if (pt_not (pt_val (pe_ix ix_list (pv 2) (pv 4) (fun _ _ => rfl))))
          (pss_cons (ps_asg pe_bl (pg_sub (pv 2) (pv 4) set_list))
          (pss_one (ps_expr (pe_bm PySem.F.plainAttrs_list PySem.F.slot_list_extend PySem.F.type_list_extend mt_extend (pv 3) (pa_cons (pe_m (m_held_by T) hr (Nat.le_refl _) passL T.c_Walker (pv 0) (pa_cons (pv 4) pa_nil)) pa_nil))))) pss_nil))))
      (pss_one (ps_ret (pv 2))))), ?_⟩
    have hn100 : G.n ≤ 100 := Nat.le_trans I.nb hb
    refine ⟨by show 1 ≤ sizeLine; decide, fun p hp => ?_⟩
    have s1 : Same H (upd H p (.lst [V.bl false])) := Same.upd hp
    have M1 := M.mono s1
    refine ⟨_, rfl, _, _, _, _, _, rfl, M1.ins, T.c_Walker, T.a_contents, rfl, _, _, rfl, .inl (SqL.of M1.contents), p, _, _, rfl, rfl, upd_same, ?_, ?_, ?_, fun f hf => ?_⟩
    · rw [List.length_map, List.length_range]; omega
    · rw [List.length_map, List.length_range]; omega
    · rw [List.length_map, List.length_range]
      show 1 * ((G.n : Int).toNat) ≤ sizeLine
      exact Nat.le_of_lt (le_line (by omega))
    have s2 := s1.updT (o := .lst (List.replicate (((List.range G.n).map fun c => V.ref (Y.ad (14 + c))).length : Int).toNat [V.bl false]).flatten) hf
    have hfl : (List.replicate (((List.range G.n).map fun c => V.ref (Y.ad (14 + c))).length : Int).toNat [V.bl false]).flatten = (List.replicate S.n false).map V.bl := by
      rw [List.length_map, List.length_range, Int.toNat_natCast, ← I.n, List.map_replicate]
      generalize G.n = m
      induction m with
      | zero => rfl
      | succ k ih =>
        rw [List.replicate_succ, List.flatten_cons, ih]
        rfl
    rw [hfl] at s2 ⊢
    refine ⟨_, rfl, a, _, rfl, .inl (SqL.of (s2 _ _ ha)), fun wt hwt => ?_⟩
    have hfr : H f = none := s1.free hf
    have hwr : H wt = none := s2.free hwt
    have nfw : f ≠ wt := ne_of_none upd_same hwt
    refine ⟨fun m σ H' => ∃ fb wl v4, σ = [some (.ref (Y.ad 0)), some (.ref a), some (.ref f), some (.ref wt), v4] ∧ Same H H' ∧ H' f = some (.lst (fb.map V.bl)) ∧ H' wt = some (.lst (wl.map natV)) ∧ RInv S st b fb wl ∧ m = fb.count false * (b + 1) + wl.length,
      ⟨_, List.replicate S.n false, st, none, rfl, s2.updT hwt, by rw [upd_ne nfw, upd_same], upd_same, ⟨by rw [List.length_replicate], fun c hc => ⟨hst c hc, .start hc⟩, fun c hc => ?_, fun c hc => .inr hc, fun c e hc => ?_, ?_⟩, rfl⟩, ?_⟩
    · rw [List.getElem?_replicate] at hc
      split at hc <;> cases hc
    · rw [List.getElem?_replicate] at hc
      split at hc <;> cases hc
    · rw [List.count_replicate_self]
      exact Nat.le_refl _
    · rintro m σ H1 ⟨fb, wl, v4, rfl, k1, hf1, hw1, R, rfl⟩
      refine ⟨_, rfl, Nat.zero_le _, fun z hz => ?_⟩
      have k2 : Same H1 (upd H1 z (.lst [])) := Same.upd hz
      have hw2 := k2 _ _ hw1
      have hf2 := k2 _ _ hf1
      rw [natV_map] at hw2
      refine ⟨wt, z, _, rfl, rfl, SqL.of hw2, SqL.of upd_same, _, rfl, ?_⟩
      rw [← natV_map] at hw2
      rcases List.eq_nil_or_concat wl with rfl | ⟨l, c, rfl⟩
      · refine iteF ⟨_, rfl, ?_⟩
        exact hQ _ f fb (k1.trans k2) hfr hf2 R.len R.done
      · rw [List.concat_eq_append] at R hw1 hw2 ⊢
        have ht : (!((l ++ [c]).map fun c : Nat => (c : Int)).isEmpty) = true := by simp
        rw [ht]
        refine iteT ⟨fun σ' H' => ∃ m', m' < fb.count false * (b + 1) + (l ++ [c]).length ∧ ∃ fb wl v4, σ' = [some (.ref (Y.ad 0)), some (.ref a), some (.ref f), some (.ref wt), v4] ∧ Same H H' ∧ H' f = some (.lst (fb.map V.bl)) ∧ H' wt = some (.lst (wl.map natV)) ∧ RInv S st b fb wl ∧ m' = fb.count false * (b + 1) + wl.length,
          fun _ _ h => h, ?_⟩
        have k3 := k1.trans k2
        have hcn := (R.wl1 c (List.mem_append_right _ (List.mem_singleton.mpr rfl))).1
        have hcf : c < fb.length := by rw [R.len]; exact hcn
        refine ⟨_, rfl, .inl ⟨rfl, _, SqL.of hw2⟩, wt, _, natV c, rfl, rfl, hw2, by simp, ?_⟩
        have hdl : ((l ++ [c]).map natV).dropLast = l.map natV := by rw [List.map_append]; simp
        rw [hdl]
        have k4 : Same H (upd (upd H1 z (.lst [])) wt (.lst (l.map natV))) := k3.over hwr
        have hf4 : upd (upd H1 z (.lst [])) wt (.lst (l.map natV)) f = some (.lst (fb.map V.bl)) := by rw [upd_ne nfw]; exact hf2
        obtain ⟨v, hv⟩ : ∃ v, fb[c]? = some v := ⟨fb[c], List.getElem?_eq_getElem hcf⟩
        refine ⟨_, rfl, _, rfl, f, _, _, _, rfl, rfl, SqL.of hf4, atI_nat (j := c) (by rw [List.getElem?_map, hv]; rfl), v, rfl, ?_⟩
        cases v with
        | true => exact iteF ⟨_, by rw [List.length_append, List.length_singleton]; omega, fb, l, _, rfl, k4, hf4, upd_same, R.old hv, rfl⟩
        | false =>
          refine iteT ⟨_, rfl, _, rfl, f, _, _, c, rfl, rfl, hf4, ?_, ?_⟩
          · unfold ixN
            rw [if_pos (Int.natCast_nonneg c), if_pos (by rw [List.length_map]; omega)]
            rfl
          · have hst2 : (fb.map V.bl).set c (V.bl true) = (fb.set c true).map V.bl := by rw [List.map_set]
            rw [hst2]
            have k5 : Same H (upd (upd (upd H1 z (.lst [])) wt (.lst (l.map natV))) f (.lst ((fb.set c true).map V.bl))) := k4.over hfr
            have hw5 : upd (upd (upd H1 z (.lst [])) wt (.lst (l.map natV))) f (.lst ((fb.set c true).map V.bl)) wt = some (.lst (l.map natV)) := by rw [upd_ne nfw.symm, upd_same]
            have M5 := M.mono k5
            refine ⟨_, rfl, .inl ⟨rfl, _, SqL.of hw5⟩, _, rfl, _, _, _, rfl, M5.ins, rfl, _, rfl, H0, Y, G, S, b, c, rfl, M5, I.mono k5.tups, by rw [I.n]; exact hcn, hb, fun H6 q es k6 hq0 hq hmem hlen => ?_⟩
            have hw6 := k6 _ _ hw5
            have hf6 := k6 _ _ upd_same
            have R2 := R.new hv hmem (fun e ⟨g, hg⟩ => (I.fldB c g _ hg).2) hlen
            have hbd := R2.bd
            have h1 : S.n * b ≤ 100 * 100 := Nat.mul_le_mul (by rw [← I.n]; exact hn100) hb
            refine ⟨wt, q, _, _, rfl, rfl, hw6, hq, ?_, ?_⟩
            · rw [List.length_map, List.length_map]
              rw [List.length_append] at hbd
              exact Nat.le_of_lt (le_line (by omega))
            · have nqf : f ≠ q := fun e => by
                rw [e] at hf6
                have := ne_of_none (upd_same (H := upd (upd H1 z (.lst [])) wt (.lst (l.map natV))) (a := f) (o := .lst ((fb.set c true).map V.bl))) hq0
                exact this e
              refine ⟨_, ?_, fb.set c true, l ++ es, _, rfl, (k5.trans k6).over hwr, by rw [upd_ne nfw]; exact hf6, by rw [upd_same, List.map_append]; rfl, R2, rfl⟩
              have h2 := count_set fb c hv
              have h3 : fb.count false * (b + 1) = (fb.set c true).count false * (b + 1) + (b + 1) := by rw [← h2, Nat.add_mul, Nat.one_mul]
              rw [h3, List.length_append, List.length_append, List.length_singleton]
              omega
end
end K82W
end K82Reach_part
section K82Reached_part
set_option Elab.async false
set_option linter.all false
set_option maxRecDepth 100000
set_option maxHeartbeats 4000000
namespace K82W
open PySem PySem.Spec PyProof.Rows L2
section
variable {P : Program} {w : World} {K : PySem.W.Frag} {mg : Str → Option Value} {base : Heap}
theorem rf_reach {S : PMS} {st : List Nat} (h1 : ∀ c ∈ st, (∃ x, S.env x = some c) ∨ S.kept c = true) (h2 : ∀ x c, S.env x = some c → c ∈ st) (h3 : ∀ c, S.kept c = true → c ∈ st) (c : Nat) : RF S st c ↔ K82.Reach S c := by
  constructor
  · intro h
    induction h with
    | start h =>
      rcases h1 _ h with ⟨x, hx⟩ | hk
      · exact .env hx
      · exact .kept hk
    | step _ q ih => exact .step ih q
  · intro h
    induction h with
    | env h => exact .start (h2 _ _ h)
    | kept h => exact .start (h3 _ h)
    | step _ q ih => exact .step ih q
def spReached (K : PySem.W.Frag) : Sp := fun vs H Q _ => ∃ (H0 : Hp) (Y : Lay) (G : Gh) (S : PMS) (b : Nat), vs = [.ref (Y.ad 0)] ∧ MAt K H0 H Y G ∧ Sim H G S b ∧ b ≤ 100 ∧
  ∀ H' q (fb : List Bool), Same H H' → H q = none → H' q = some (.lst (fb.map V.bl)) → fb.length = S.n → (∀ c, fb[c]? = some true ↔ K82.Reach S c) → Q (.ref q) H'
theorem m_reached (T : TxM K mg) : Met P w K mg base 3 (CW K) "reached" p_Machine_reached (spReached K) := by
  refine metN T.m_reached.2 T.m_reached.1 sc_Machine_reached (fun _ _ _ _ _ _ us hl => match us, hl with | [_], _ => rfl) (fun vs H Q E h => ?_) (fun cdv A outer s H vs Q E hr h => ?_)
  · obtain ⟨H0, Y, G, S, b, rfl, _⟩ := h
    rfl
  · obtain ⟨H0, Y, G, S, b, rfl, M, I, hb, hQ⟩ := h
    refine ⟨_, pss_cons (ps_lock (ps_setLc (i := 1) (own := [("cell", 2)]) (g := gName 2) (tt := tTest (tOp rNN (tVar 2) (tC .non))) (te := tVar 2) (by rfl) sc_Machine_reached.nd rfl rfl (sw_true rfl rfl rfl (by decide +kernel))
      (pi_values (pe_fld (pv 0) rfl)) (blkOk_by (N := n_Machine_reached) (sc := defScope s_Machine_reached) (by decide +kernel))
      (fun _ _ _ _ _ => pg_name (i := 2) sc_Machine_reached.nd rfl (Or.inl rfl) (hf := Or.inr rfl))
      (fun _ _ _ _ _ => pts_one (pt_cmpR op_notN (pv 2) pe_non (nomark _))) (fun _ _ _ _ _ => pv 2)))
      (pss_one (ps_ret (pe_m (m_reach_from T) hr (by decide) passL T.c_Walker (pv 0) (pa_cons (pe_op op_cat (pv 1) (pe_callTy (call_list_dK rfl) (by rfl) T.b_list (by decide +kernel) (pa_cons (pe_fld (pv 0) rfl) pa_nil))) pa_nil)))), ?_⟩
    refine ⟨Y.ad 2, .dK G.ks, M.stands, trivial, fun od => ?_⟩
    have hd := M.stands
    have n02 : Y.ad 0 ≠ Y.ad 2 := M.dne 0 2 (by decide) (by omega) (by omega)
    have hI : upd H (Y.ad 2) (.frz od (.dK G.ks)) (Y.ad 0) = some (.ins (CW K) (Y.ad 1) (mfs Y G)) := by rw [upd_ne n02]; exact M.ins
    refine ⟨_, rfl, _, _, _, _, _, rfl, hI, T.c_Walker, T.a_stands, rfl, _, _, _, rfl, upd_same, fun D hD => ?_⟩
    have nDd : D ≠ Y.ad 2 := (ne_of_none upd_same hD).symm
    have hD0 : H D = none := by rw [upd_ne nDd] at hD; exact hD
    refine lc_it (walk_values (d := Y.ad 2) (o := od) (kvs := G.ks)) (fun i H2 => Same (upd H (Y.ad 2) (.frz od (.dK G.ks))) H2 ∧ ∃ st : List Nat, H2 D = some (.lst (st.map natV)) ∧ st.length ≤ i ∧ (∀ c ∈ st, ∃ x, S.env x = some c) ∧ ∀ q ∈ G.ks.take i, ∀ c : Nat, q.2 = natV c → c ∈ st)
      ⟨Same.upd hD, [], upd_same, Nat.le_refl _, fun c hc => by simp at hc, fun q hq => by simp at hq⟩ (fun i H2 _ ⟨k2, _⟩ => k2 _ _ upd_same) ?_ ?_
    · rintro i x H2 H3 hi ⟨k2, st, hD2, hle, h1, h2⟩ ⟨rfl, k, hk⟩
      obtain ⟨y, ey, ex⟩ := I.st1 _ (List.mem_of_getElem? hk)
      have ex : x = optV (S.env y) := ex
      have e3 : G.ks.take (i + 1) = G.ks.take i ++ [(k, x)] := by rw [List.take_succ, hk]; rfl
      refine ⟨rfl, _, rfl, rfl, ?_⟩
      cases he : S.env y with
      | none =>
        rw [he] at ex
        subst ex
        refine ⟨false, congrArg V.bl (by rw [show decide (optV none = V.non) = true from decide_eq_true rfl]; rfl), iteF ⟨k2, st, hD2, by omega, h1, fun q hq c hc => ?_⟩⟩
        rw [e3] at hq
        rcases List.mem_append.mp hq with hq | hq
        · exact h2 q hq c hc
        · rw [List.mem_singleton] at hq
          subst hq
          cases hc
      | some c =>
        rw [he] at ex
        subst ex
        refine ⟨true, congrArg V.bl (by rw [decide_eq_false (fun z => nomatch z)]; rfl), iteT ⟨_, rfl, _, hD2, ?_, k2.over hD, st ++ [c], ?_, ?_, ?_, ?_⟩⟩
        · rw [List.length_map]
          have := I.stb
          exact le_line (by omega)
        · rw [upd_same, List.map_append]
          rfl
        · rw [List.length_append]
          exact Nat.add_le_add_right hle 1
        · intro d hd
          rcases List.mem_append.mp hd with hd | hd
          · exact h1 d hd
          · rw [List.mem_singleton] at hd
            subst hd
            exact ⟨y, he⟩
        · intro q hq d hd
          rw [e3] at hq
          rcases List.mem_append.mp hq with hq | hq
          · exact List.mem_append_left _ (h2 q hq d hd)
          · rw [List.mem_singleton] at hq
            subst hq
            have hd : V.int (c : Int) = V.int (d : Int) := hd
            have e4 := V.int.inj hd
            exact List.mem_append_right _ (List.mem_singleton.mpr (by omega))
    · rintro H2 ⟨k2, st, hD2, hle, h1, h2⟩
      refine ⟨k2 _ _ upd_same, ?_⟩
      have k3 : Same H (upd H2 (Y.ad 2) (.dK G.ks)) := Same.unlock hd k2
      have hD3 : upd H2 (Y.ad 2) (.dK G.ks) D = some (.lst (st.map natV)) := by rw [upd_ne nDd]; exact hD2
      have M3 := M.mono k3
      obtain ⟨kn, hkn, hkm⟩ : ∃ kn : List Nat, G.kk.map (fun kv => kV kv.1) = kn.map natV ∧ ∀ c, c ∈ kn ↔ S.kept c = true := by
        have key : ∀ l : List (Key × V), (∀ q ∈ l, ∃ c : Nat, q.1 = .inl (c : Int) ∧ S.kept c = true) → ∃ kn : List Nat, l.map (fun kv => kV kv.1) = kn.map natV ∧ ∀ c, c ∈ kn ↔ ∃ v, (Sum.inl (c : Int), v) ∈ l := by
          intro l
          induction l with
          | nil => exact fun _ => ⟨[], rfl, fun c => by simp⟩
          | cons p r ih =>
            intro h
            obtain ⟨kn, e1, e2⟩ := ih fun q hq => h q (List.mem_cons_of_mem _ hq)
            obtain ⟨c, ec, _⟩ := h p List.mem_cons_self
            refine ⟨c :: kn, ?_, fun d => ?_⟩
            · rw [List.map_cons, List.map_cons, e1, ec]
              rfl
            · rw [List.mem_cons, e2 d]
              constructor
              · rintro (rfl | ⟨v, hv⟩)
                · exact ⟨p.2, by rw [← ec]; exact List.mem_cons_self⟩
                · exact ⟨v, List.mem_cons_of_mem _ hv⟩
              · rintro ⟨v, hv⟩
                rcases List.mem_cons.mp hv with e | hv
                · left
                  have : (Sum.inl (d : Int) : Key) = p.1 := congrArg Prod.fst e
                  rw [ec] at this
                  have := Sum.inl.inj this
                  omega
                · exact .inr ⟨v, hv⟩
        obtain ⟨kn, e1, e2⟩ := key G.kk I.kp1
        refine ⟨kn, e1, fun c => ?_⟩
        rw [e2 c]
        constructor
        · rintro ⟨v, hv⟩
          obtain ⟨d, ed, hd⟩ := I.kp1 _ hv
          have := Sum.inl.inj ed
          have : c = d := by omega
          rw [this]
          exact hd
        · exact I.kp2 c
      refine ⟨_, rfl, _, _, _, rfl, M3.ins, rfl, ?_⟩
      refine ⟨_, rfl, _, rfl, _, _, _, _, _, rfl, M3.ins, T.c_Walker, T.a_kept, rfl, _, _, rfl, M3.kept, fun q hq => ?_⟩
      rw [hkn]
      have k4 := k3.updT (o := .lst (kn.map natV)) hq
      have hknl : kn.length ≤ 100 := by
        have := congrArg List.length hkn
        rw [List.length_map, List.length_map] at this
        have := I.kpb
        omega
      have hstl : st.length ≤ 100 := Nat.le_trans hle (Nat.le_trans I.stb hb)
      refine ⟨D, q, _, _, rfl, rfl, Same.upd hq _ _ hD3, upd_same, ?_, fun p hp => ?_⟩
      · rw [List.length_map, List.length_map]
        exact Nat.le_of_lt (le_line (by omega))
      have k5 := k4.updT (o := .lst (st.map natV ++ kn.map natV)) hp
      refine ⟨H0, Y, G, S, b, p, st ++ kn, rfl, M.mono k5, I.mono k5.tups, hb, by rw [upd_same, List.map_append], fun c hc => ?_, by rw [List.length_append]; omega, fun H6 r fb k6 hr0 hr1 hl hm => ?_⟩
      · rcases List.mem_append.mp hc with hc | hc
        · obtain ⟨x, hx⟩ := h1 c hc
          exact I.envB x c hx
        · exact I.keptB c ((hkm c).mp hc)
      · refine hQ H6 r fb (k5.trans k6) (k5.free hr0) hr1 hl fun c => ?_
        rw [hm c]
        refine rf_reach (fun d hd => ?_) (fun x d hx => ?_) (fun d hd => ?_) c
        · rcases List.mem_append.mp hd with hd | hd
          · exact .inl (h1 d hd)
          · exact .inr ((hkm d).mp hd)
        · obtain ⟨v, hv⟩ := I.st2 x d hx
          obtain ⟨y, e1, e2⟩ := I.st1 _ hv
          have : x = y := Sum.inr.inj e1
          subst this
          refine List.mem_append_left _ (h2 (Sum.inr x, v) (by rw [List.take_length]; exact hv) d ?_)
          have e2 : v = optV (S.env x) := e2
          rw [e2, hx]
          rfl
        · exact List.mem_append_right _ ((hkm d).mpr hd)
end
end K82W
end K82Reached_part
section K82Comers_part
set_option Elab.async false
set_option linter.all false
set_option maxRecDepth 100000
set_option maxHeartbeats 4000000
namespace K82W
open PySem PySem.Spec PyProof.Rows L2
/-! ### plain -/
theorem nodup_drop (a : Nat) : ∀ l : List Nat, l.Nodup → l.length ≤ (l.filter fun x => decide (x ≠ a)).length + 1
  | [], _ => by simp
  | x :: r, h => by
    rw [List.nodup_cons] at h
    by_cases e : x = a
    · subst e
      have : r.filter (fun y => decide (y ≠ x)) = r := List.filter_eq_self.mpr fun y hy => decide_eq_true fun z => h.1 (z ▸ hy)
      rw [List.filter_cons_of_neg (by simp), this]
      exact Nat.le_refl _
    · have ih := nodup_drop a r h.2
      rw [List.filter_cons_of_pos (by simp [e])]
      simp only [List.length_cons]
      omega
theorem nodup_lt : ∀ (n : Nat) (l : List Nat), l.Nodup → (∀ x ∈ l, x < n) → l.length ≤ n
  | 0, [], _, _ => Nat.le_refl _
  | 0, x :: r, _, h => absurd (h x List.mem_cons_self) (Nat.not_lt_zero _)
  | n + 1, l, hn, h => by
    have h1 := nodup_drop n l hn
    have h2 := nodup_lt n (l.filter fun x => decide (x ≠ n)) (hn.filter _) fun x hx => by
      have h3 := List.mem_filter.mp hx
      have h4 : x ≠ n := of_decide_eq_true h3.2
      have := h x h3.1
      omega
    omega
def fkV (fk : List Nat) : List (Key × V) := fk.map fun d : Nat => ((Sum.inl (d : Int) : Key), V.bl true)
theorem fkV_get (d : Nat) : ∀ fk : List Nat, (valV (fkV fk) (Sum.inl (d : Int) : Key)).isSome = decide (d ∈ fk)
  | [] => rfl
  | x :: r => by
    have ih := fkV_get d r
    by_cases e : x = d
    · subst e
      rw [show fkV (x :: r) = ((Sum.inl (x : Int) : Key), V.bl true) :: fkV r from rfl, valV_pos rfl]
      simp
    · rw [show fkV (x :: r) = ((Sum.inl (x : Int) : Key), V.bl true) :: fkV r from rfl, valV_neg (fun z => e (by have := Sum.inl.inj z; omega)), ih]
      have : (d ∈ x :: r) = (d ∈ r) := by
        rw [List.mem_cons]
        exact propext ⟨fun z => z.resolve_left fun q => e q.symm, .inr⟩
      simp only [this]
structure FInv (S : PMS) (c : Nat) (fk : List Nat) : Prop where
  nd : fk.Nodup
  lt : ∀ d ∈ fk, d < S.n
  co : ∀ d ∈ fk, K82.Comes S c d
  me : c ∈ fk
def Closed (S : PMS) (n : Nat) (fk : List Nat) : Prop := ∀ d, d < n → d ∉ fk → S.lost d = false → ∀ e, K82.Edge S d e → e ∉ fk
theorem FInv.done {S : PMS} {c : Nat} {fk : List Nat} (F : FInv S c fk) (C : Closed S S.n fk) (hB : ∀ d e, K82.Edge S d e → d < S.n) (d : Nat) : d ∈ fk ↔ K82.Comes S c d := by
  refine ⟨F.co d, fun h => ?_⟩
  induction h with
  | refl => exact F.me
  | @step d e l q _ ih =>
    by_cases z : d ∈ fk
    · exact z
    · exact absurd ih (C d (hB d e q) z l e q)
section
variable {P : Program} {w : World} {K : PySem.W.Frag} {mg : Str → Option Value} {base : Heap}
def spComers (K : PySem.W.Frag) : Sp := fun vs H Q _ => ∃ (H0 : Hp) (Y : Lay) (G : Gh) (S : PMS) (b c : Nat), vs = [.ref (Y.ad 0), .int (c : Nat)] ∧ MAt K H0 H Y G ∧ Sim H G S b ∧ b ≤ 100 ∧ c < S.n ∧
  ∀ H' q (cs : List Nat), Same H H' → H q = none → H' q = some (.lst (cs.map natV)) → (∀ d, d ∈ cs ↔ K82.Comes S c d) → (∀ d ∈ cs, d < S.n) → cs.length ≤ 100 → Q (.ref q) H'
theorem m_comers (T : TxM K mg) : Met P w K mg base 2 (CW K) "comers" p_Machine_comers (spComers K) := by
  refine metN T.m_comers.2 T.m_comers.1 sc_Machine_comers (fun _ _ _ _ _ _ us hl => match us, hl with | [_, _], _ => rfl) (fun vs H Q E h => ?_) (fun cdv A outer s H vs Q E hr h => ?_)
  · obtain ⟨H0, Y, G, S, b, c, rfl, _⟩ := h
    rfl
  · obtain ⟨H0, Y, G, S, b, c, rfl, M, I, hb, hc, hQ⟩ := h
    refine ⟨_, pss_cons (ps_set (i := 2) sc_Machine_comers.nd rfl (Or.inr rfl) (pe_disp (pps_cons (pv 1) pe_bl pps_nil) (by rfl) (by rfl) (fun z => by cases z) (by decide)))
      (pss_cons (ps_set (i := 3) sc_Machine_comers.nd rfl (Or.inl rfl) pe_bl)
      (pss_cons (ps_while PassesOwn.never (pt_val (pv 3))
        (pss_cons (ps_set (i := 3) sc_Machine_comers.nd rfl (Or.inl rfl) pe_bl)
        (pss_one (ps_for PassesOwn.never rfl (pi_range1 (by rfl) T.b_range (pa_cons (pe_callB call_len_seq (by rfl) T.b_len PySem.boot_len (pa_cons (pe_fld (pv 0) rfl) pa_nil)) pa_nil)) (pg_name (i := 4) sc_Machine_comers.nd rfl (Or.inl rfl))
          (pss_one (ps_if (pw_and (pt_cmp (pc_dnotin (hu_of hr) (pv 4) (pv 2))) (pw_and1 (pt_not (pt_val (pe_ix ix_list (pe_fld (pv 0) rfl) (pv 4) (fun _ _ => rfl)))))).pt
            (pss_one (ps_if (pt_cmpR (op_neNil hr.units) (pe_lc (own := [("one", 5)]) (g := gName 5) (tt := tB (tDIn (tVar 5) (tVar 2))) (te := tVar 5) rfl sc_Machine_comers.nd
                (pi_list (pe_m (m_held_by T) hr (Nat.le_refl _) passL T.c_Walker (pv 0) (pa_cons (pv 4) pa_nil))) (blkOk_by (N := n_Machine_comers) (sc := defScope s_Machine_comers) (by decide +kernel))
                (fun _ _ _ _ _ => pg_name (i := 5) sc_Machine_comers.nd rfl (Or.inl rfl) (hf := Or.inr rfl))
                (fun _ _ _ _ _ => pts_one (pt_cmp (pc_din (hu_of hr) (pv 5) (pv 2)))) (fun _ _ _ _ _ => pv 5)) (pe_lst pa_nil) (nomark _))
              (pss_cons (ps_dput (hu_of hr) (pv 2) (pv 4) pe_bl rfl) (pss_one (ps_set (i := 3) sc_Machine_comers.nd rfl (Or.inl rfl) pe_bl))) pss_nil)) pss_nil))))))
      (pss_one (ps_ret (pe_callB cr_sortedI (by rfl) T.b_sorted (by decide +kernel) (pa_cons (pe_callTy (call_list_dK rfl) (by rfl) T.b_list (by decide +kernel) (pa_cons (pv 2) pa_nil)) pa_nil)))))), ?_⟩
    have hn100 : S.n ≤ 100 := by rw [← I.n]; exact Nat.le_trans I.nb hb
    have hB : ∀ d e, K82.Edge S d e → d < S.n := fun d e ⟨f, hf⟩ => (I.fldB d f _ hf).1
    refine fun f hf => ⟨_, rfl, upd_same, [(Sum.inl (c : Int), .bl true)], rfl, by show 1 ≤ 15; decide, ?_⟩
    rw [upd_upd]
    have hf0 : upd H f (.dK (mergeK [] [(Sum.inl (c : Int), .bl true)])) f = some (.dK (fkV [c])) := upd_same
    have s1 : Same H (upd H f (.dK (mergeK [] [(Sum.inl (c : Int), .bl true)]))) := Same.upd hf
    refine ⟨fun m σ H' => ∃ fk nw v4, σ = [some (.ref (Y.ad 0)), some (.int (c : Nat)), some (.ref f), some (.bl nw), v4, none] ∧ Same H H' ∧ H' f = some (.dK (fkV fk)) ∧ FInv S c fk ∧ (nw = false → Closed S S.n fk) ∧ m = 2 * (S.n - fk.length) + (if nw = true then 1 else 0),
      ⟨_, [c], true, none, rfl, s1, hf0, ⟨by simp, fun d hd => by rw [List.mem_singleton] at hd; rw [hd]; exact hc, fun d hd => by rw [List.mem_singleton] at hd; rw [hd]; exact .refl, List.mem_singleton.mpr rfl⟩, (fun z => nomatch z), rfl⟩, ?_⟩
    rintro m σ H1 ⟨fk, nw, v4, rfl, k1, hf1, F, hcl, rfl⟩
    refine ⟨_, rfl, nw, rfl, ?_⟩
    cases nw with
    | false =>
      refine iteF ⟨_, rfl, _, _, rfl, hf1, fun q hq => ?_⟩
      have hk : (fkV fk).map (fun kv => kV kv.1) = (fk.map fun d : Nat => (d : Int)).map V.int := by
        unfold fkV
        rw [List.map_map, List.map_map]
        rfl
      rw [hk]
      refine ⟨q, _, rfl, SqL.of upd_same, fun ns' p perm _ hp => ?_⟩
      obtain ⟨cs, hcs⟩ : ∃ cs : List Nat, ns' = cs.map fun d : Nat => (d : Int) := by
        have : ∀ l : List Int, (∀ x ∈ l, ∃ d ∈ fk, x = ((d : Nat) : Int)) → ∃ cs : List Nat, l = cs.map fun d : Nat => (d : Int) := by
          intro l
          induction l with
          | nil => exact fun _ => ⟨[], rfl⟩
          | cons x r ih =>
            intro h
            obtain ⟨d, _, e⟩ := h x List.mem_cons_self
            obtain ⟨cs, e2⟩ := ih fun y hy => h y (List.mem_cons_of_mem _ hy)
            exact ⟨d :: cs, by rw [List.map_cons, ← e2, e]⟩
        refine this ns' fun x hx => ?_
        obtain ⟨d, hd, e⟩ := List.mem_map.mp (perm.mem_iff.mp hx)
        exact ⟨d, hd, e.symm⟩
      have hmem : ∀ d, d ∈ cs ↔ d ∈ fk := fun d => by
        have h1 : (d : Int) ∈ ns' ↔ (d : Int) ∈ fk.map (fun d : Nat => (d : Int)) := perm.mem_iff
        rw [hcs, List.mem_map, List.mem_map] at h1
        constructor
        · intro h
          obtain ⟨e, he, q⟩ := h1.mp ⟨d, h, rfl⟩
          have : e = d := by omega
          rw [← this]; exact he
        · intro h
          obtain ⟨e, he, q⟩ := h1.mpr ⟨d, h, rfl⟩
          have : e = d := by omega
          rw [← this]; exact he
      have k2 := (k1.updT (o := .lst ((fk.map fun d : Nat => (d : Int)).map V.int)) hq).updT (o := .lst (ns'.map V.int)) hp
      refine hQ _ p cs k2 ((k1.updT hq).free hp) (by rw [upd_same, hcs, natV_map]) (fun d => by rw [hmem d]; exact F.done (hcl rfl) hB d) (fun d hd => F.lt d ((hmem d).mp hd)) ?_
      have h2 := perm.length_eq
      rw [hcs, List.length_map, List.length_map] at h2
      have := nodup_lt S.n fk F.nd F.lt
      omega
    | true =>
      refine iteT ⟨fun σ' H' => ∃ m', m' < 2 * (S.n - fk.length) + (if true = true then 1 else 0) ∧ ∃ fk nw v4, σ' = [some (.ref (Y.ad 0)), some (.int (c : Nat)), some (.ref f), some (.bl nw), v4, none] ∧ Same H H' ∧ H' f = some (.dK (fkV fk)) ∧ FInv S c fk ∧ (nw = false → Closed S S.n fk) ∧ m' = 2 * (S.n - fk.length) + (if nw = true then 1 else 0),
        fun _ _ h => h, ?_⟩
      have M1 := M.mono k1
      refine ⟨_, rfl, _, _, _, _, _, rfl, M1.ins, T.c_Walker, T.a_contents, rfl, _, _, rfl, .inl (SqL.of M1.contents), _, rfl, ?_, ?_, ?_⟩
      · rw [List.length_map, List.length_range]; omega
      · rw [List.length_map, List.length_range]; have := I.n; omega
      have hlen : ((((List.range G.n).map fun c => V.ref (Y.ad (14 + c))).length : Nat) : Int).toNat = S.n := by
        rw [List.length_map, List.length_range, Int.toNat_natCast, I.n]
      rw [hlen]
      refine for_range (lo := 0) (n := S.n) (fun i σ H' => ∃ fk' nw v4, σ = [some (.ref (Y.ad 0)), some (.int (c : Nat)), some (.ref f), some (.bl nw), v4, none] ∧ Same H H' ∧ H' f = some (.dK (fkV fk')) ∧ FInv S c fk' ∧ fk.length ≤ fk'.length ∧ (nw = false → fk' = fk ∧ Closed S i fk) ∧ (nw = true → fk.length < fk'.length))
        ⟨fk, false, v4, rfl, k1, hf1, F, Nat.le_refl _, fun _ => ⟨rfl, fun d hd => absurd hd (Nat.not_lt_zero _)⟩, (fun z => nomatch z)⟩ ?_ ?_
      · rintro i σ H2 hi ⟨fk', nw, v4, rfl, k2, hf2, F2, hle, h1, h2⟩
        have M2 := M.mono k2
        rw [Int.zero_add]
        refine ⟨_, rfl, _, rfl, f, _, rfl, DGet.k (k := Sum.inl (i : Int)) hf2, _, rfl, ?_⟩
        rw [fkV_get]
        -- how the turn ends without a change
        have stay : ∀ H3, Same H2 H3 → (i ∉ fk' → S.lost i = false → ∀ e, K82.Edge S i e → e ∉ fk') → ∃ fk' nw' v4', [some (V.ref (Y.ad 0)), some (V.int (c : Nat)), some (V.ref f), some (V.bl nw), some (V.int (i : Nat)), none] = [some (V.ref (Y.ad 0)), some (V.int (c : Nat)), some (V.ref f), some (V.bl nw'), v4', none] ∧ Same H H3 ∧ H3 f = some (.dK (fkV fk')) ∧ FInv S c fk' ∧ fk.length ≤ fk'.length ∧ (nw' = false → fk' = fk ∧ Closed S (i + 1) fk) ∧ (nw' = true → fk.length < fk'.length) := fun H3 k3 hcl2 =>
          ⟨fk', nw, _, rfl, k2.trans k3, k3 _ _ hf2, F2, hle, fun z => ⟨(h1 z).1, fun d hd hn hl e he => by
            obtain ⟨e1, cl⟩ := h1 z
            by_cases q : d < i
            · exact cl d q hn hl e he
            · have : d = i := by omega
              subst this
              rw [← e1]
              rw [← e1] at hn
              exact hcl2 hn hl e he⟩, h2⟩
        by_cases hin : i ∈ fk'
        · rw [decide_eq_true hin]
          exact iteF (iteF (stay H2 (fun _ _ e => e) fun z => absurd hin z))
        · rw [decide_eq_false hin]
          refine iteT ⟨_, rfl, _, _, _, _, _, rfl, M2.ins, T.c_Walker, T.a_lost, rfl, _, rfl, _, _, _, _, rfl, rfl, SqL.of M2.lost, atI_nat (j := i) (by rw [I.ls]; exact range_get _ (by rw [I.n]; exact hi)), S.lost i, rfl, ?_⟩
          cases hl : S.lost i with
          | true => exact iteF (stay H2 (fun _ _ e => e) fun _ z => nomatch hl.symm.trans z)
          | false =>
            refine iteT ⟨_, rfl, _, _, _, rfl, M2.ins, rfl, _, rfl, H0, Y, G, S, b, i, rfl, M2, I.mono k2.tups, by rw [I.n]; exact hi, hb, fun H3 q es k3 hq0 hq hes hesl => ?_⟩
            have hf3 := k3 _ _ hf2
            refine ⟨q, rfl, ⟨_, SqL.of hq⟩, fun D hD => ?_⟩
            have nDf : f ≠ D := ne_of_none hf3 hD
            refine lc_list (K := K) (a := q) (xs := es.map fun e => V.int (e : Nat)) (fun j H4 => Same H3 H4 ∧ ∃ os : List Nat, H4 D = some (.lst (os.map natV)) ∧ os.length ≤ j ∧ (os = [] ↔ ∀ e ∈ es.take j, e ∉ fk'))
              ⟨Same.upd hD, [], upd_same, Nat.le_refl _, by simp⟩ (fun j H4 _ ⟨k4, _⟩ => SqL.of (k4 _ _ hq)) ?_ ?_
            · rintro j x H4 hj ⟨k4, os, hD4, hol, hos⟩
              obtain ⟨e, he, rfl⟩ : ∃ e, es[j]? = some e ∧ V.int ((e : Nat) : Int) = x := by
                rw [List.getElem?_map] at hj
                cases z : es[j]? with
                | none => rw [z] at hj; cases hj
                | some e => rw [z] at hj; exact ⟨e, rfl, Option.some.inj hj⟩
              have e3 : es.take (j + 1) = es.take j ++ [e] := by rw [List.take_succ, he]; rfl
              have hjl : j < es.length := (List.getElem?_eq_some_iff.mp he).1
              refine ⟨rfl, _, rfl, _, rfl, f, _, rfl, DGet.k (k := Sum.inl (e : Int)) (k4 _ _ hf3), _, rfl, ?_⟩
              rw [fkV_get]
              by_cases hef : e ∈ fk'
              · rw [decide_eq_true hef]
                refine iteT ⟨_, rfl, _, hD4, ?_, k4.over hD, os ++ [e], by rw [upd_same, List.map_append]; rfl, by rw [List.length_append, List.length_singleton]; omega, ?_⟩
                · rw [List.length_map]
                  exact le_line (by omega)
                · constructor
                  · intro z
                    simp at z
                  · intro z
                    exact absurd hef (z e (by rw [e3]; exact List.mem_append_right _ (List.mem_singleton.mpr rfl)))
              · rw [decide_eq_false hef]
                refine iteF ⟨k4, os, hD4, by omega, ?_⟩
                rw [hos, e3]
                constructor
                · intro z d hd
                  rcases List.mem_append.mp hd with hd | hd
                  · exact z d hd
                  · rw [List.mem_singleton] at hd
                    rw [hd]; exact hef
                · exact fun z d hd => z d (List.mem_append_left _ hd)
            · rintro H4 ⟨k4, os, hD4, hol, hos⟩
              rw [List.length_map, List.take_length] at hos
              refine ⟨Nat.zero_le _, fun z hz => ?_⟩
              have k5 : Same H3 (upd H4 z (.lst [])) := k4.updT hz
              have hD5 := Same.upd (o := .lst []) hz _ _ hD4
              rw [natV_map] at hD5
              refine ⟨D, z, _, rfl, rfl, SqL.of hD5, SqL.of upd_same, _, rfl, ?_⟩
              have hemp : (!(os.map fun d : Nat => (d : Int)).isEmpty) = !os.isEmpty := by rw [List.isEmpty_map]
              rw [hemp]
              cases ho : os.isEmpty with
              | true =>
                have ho2 : os = [] := List.isEmpty_iff.mp ho
                exact iteF (stay _ (k3.trans k5) fun _ _ e he => hos.mp ho2 e ((hes e).mpr he))
              | false =>
                have ho2 : ¬ os = [] := fun z => by rw [z] at ho; cases ho
                have hex : ∃ e, e ∈ es ∧ e ∈ fk' := Classical.byContradiction fun hno => ho2 (hos.mpr fun e he hf => hno ⟨e, he, hf⟩)
                obtain ⟨e, he, hefk⟩ := hex
                have hf5 := k5 _ _ hf3
                have hle2 := nodup_lt S.n fk' F2.nd F2.lt
                refine iteT ⟨_, rfl, _, rfl, f, _, rfl, DPut.k (k := Sum.inl (i : Int)) hf5 ?_, ?_⟩
                · unfold fkV
                  rw [List.length_map]
                  exact le_line (by omega)
                · have hput : putK (fkV fk') (Sum.inl (i : Int) : Key) (.bl true) = fkV (fk' ++ [i]) := by
                    rw [putK_new]
                    · unfold fkV
                      rw [List.map_append]
                      rfl
                    · have := fkV_get i fk'
                      rw [decide_eq_false hin] at this
                      cases z : valV (fkV fk') (Sum.inl (i : Int) : Key) with
                      | none => rfl
                      | some v => rw [z] at this; cases this
                  rw [hput]
                  refine ⟨fk' ++ [i], true, _, rfl, (k2.trans (k3.trans k5)).over hf, upd_same, ⟨?_, ?_, ?_, List.mem_append_left _ F2.me⟩, by rw [List.length_append]; omega, (fun z => nomatch z), fun _ => by rw [List.length_append, List.length_singleton]; omega⟩
                  · rw [List.nodup_append]
                    exact ⟨F2.nd, by simp, fun x hx y hy => by rw [List.mem_singleton] at hy; rw [hy]; exact fun z => hin (z ▸ hx)⟩
                  · intro d hd
                    rcases List.mem_append.mp hd with hd | hd
                    · exact F2.lt d hd
                    · rw [List.mem_singleton] at hd
                      rw [hd]; exact hi
                  · intro d hd
                    rcases List.mem_append.mp hd with hd | hd
                    · exact F2.co d hd
                    · rw [List.mem_singleton] at hd
                      rw [hd]
                      exact .step hl ((hes e).mp he) (F2.co e hefk)
      · rintro σ H2 ⟨fk', nw, v4, rfl, k2, hf2, F2, hle, h1, h2⟩
        have hb1 := nodup_lt S.n fk' F2.nd F2.lt
        refine ⟨_, ?_, fk', nw, v4, rfl, k2, hf2, F2, fun z => ?_, rfl⟩
        · cases nw with
          | false =>
            rw [(h1 rfl).1]
            simp
          | true =>
            have := h2 rfl
            simp
            omega
        · rw [(h1 z).1]
          exact (h1 z).2
end
end K82W
end K82Comers_part
section K82Begin_part
set_option Elab.async false
set_option linter.all false
set_option maxRecDepth 100000
set_option maxHeartbeats 4000000
namespace K82W
open PySem PySem.Spec PyProof.Rows L2
/-! ### the walker's own parts -/
def repV (b : Bool) : V := .int (if b = true then 1 else 0)
def saidV : K82.Ans Str → List V
  | .said w => [.str "said", .str w]
  | .yes => [.str "yes"]
  | .no => [.str "no"]
def SaidAt (H : Hp) (v : V) (a : K82.Ans Str) : Prop := ∃ t, v = .ref t ∧ H t = some (.tup (saidV a))
theorem SaidAt.mono {H H' : Hp} {v : V} {a : K82.Ans Str} (h : SaidAt H v a) (k : Tups H H') : SaidAt H' v a := by
  obtain ⟨t, e, q⟩ := h
  exact ⟨t, e, k _ _ q⟩
def optI : Option Int → V
  | none => .non
  | some m => .int m
def PairI (H : Hp) (v : V) : Prop := ∃ t i j, v = .ref t ∧ H t = some (.tup [.int i, .int j])
structure Wlk (H : Hp) (G : Gh) (rep cb : List Bool) (said : List (K82.Ans Str)) (b : Nat) : Prop where
  rs : G.rs = rep.map repV
  cbs : G.cb = cb.map V.bl
  cbl : cb.length = rep.length
  rb : rep.length ≤ 100
  ss : Paired (SaidAt H) G.ss said
  sb : said.length ≤ b
  fm : ∃ ms : List Int, G.fm = ms.map V.int ∧ ms.length ≤ b
  la : ∀ v ∈ G.la, PairI H v
  lal : G.la.length ≤ 100 * rep.length
  la0 : (∀ r ∈ rep, r = false) → G.la = []
  eal : G.ea.length ≤ 100 * rep.length
theorem Wlk.mono {H H' : Hp} {G : Gh} {rep cb : List Bool} {said : List (K82.Ans Str)} {b : Nat} (w : Wlk H G rep cb said b) (k : Tups H H') : Wlk H' G rep cb said b := by
  have h1 : Paired (SaidAt H') G.ss said := pmono w.ss fun v a z => z.mono k
  have h2 : ∀ v ∈ G.la, PairI H' v := fun v hv => by
    obtain ⟨t, i, j, e, q⟩ := w.la v hv
    exact ⟨t, i, j, e, k _ _ q⟩
  exact { w with ss := h1, la := h2 }
theorem Wlk.up {H : Hp} {G : Gh} {rep cb : List Bool} {said : List (K82.Ans Str)} {b c : Nat} (w : Wlk H G rep cb said b) (h : b ≤ c) : Wlk H G rep cb said c := by
  have h1 := Nat.le_trans w.sb h
  have h2 : ∃ ms : List Int, G.fm = ms.map V.int ∧ ms.length ≤ c := by
    obtain ⟨ms, e, q⟩ := w.fm
    exact ⟨ms, e, Nat.le_trans q h⟩
  exact { w with sb := h1, fm := h2 }
theorem Wlk.eqG {H : Hp} {G G' : Gh} {rep cb : List Bool} {said : List (K82.Ans Str)} {b : Nat} (w : Wlk H G rep cb said b) (h1 : G'.rs = G.rs) (h2 : G'.cb = G.cb) (h3 : G'.ss = G.ss) (h4 : G'.fm = G.fm) (h5 : G'.la = G.la) (h6 : G'.ea = G.ea) : Wlk H G' rep cb said b := by
  obtain ⟨a1, a2, a3, a4, a5, a6, a7, a8, a9, a10, a11⟩ := w
  refine ⟨by rw [h1]; exact a1, by rw [h2]; exact a2, a3, a4, by rw [h3]; exact a5, a6, by rw [h4]; exact a7, by rw [h5]; exact a8, by rw [h5]; exact a9, by rw [h5]; exact a10, by rw [h6]; exact a11⟩
theorem Sim.eqG {H : Hp} {G G' : Gh} {S : PMS} {b : Nat} (I : Sim H G S b) (h1 : G'.n = G.n) (h2 : G'.ks = G.ks) (h3 : G'.kk = G.kk) (h4 : G'.ws = G.ws) (h5 : G'.ls = G.ls) (h6 : G'.cd = G.cd) : Sim H G' S b := by
  obtain ⟨p, m, n, ks, kk, ws, ls, rs, ss, si, fm, cb, la, ea, cd⟩ := G
  obtain ⟨p', m', n', ks', kk', ws', ls', rs', ss', si', fm', cb', la', ea', cd'⟩ := G'
  dsimp only at h1 h2 h3 h4 h5 h6
  subst h1 h2 h3 h4 h5 h6
  exact ⟨I.n, I.nb, I.st1, I.st2, I.stb, I.kp1, I.kp2, I.kpb, I.cd1, I.cd2, I.cdb, I.fldB, I.envB, I.keptB, I.ws, I.wishB, I.ls, I.lostB⟩
theorem Sim.up {H : Hp} {G : Gh} {S : PMS} {b c : Nat} (I : Sim H G S b) (h : b ≤ c) : Sim H G S c := by
  have h1 := Nat.le_trans I.nb h
  have h2 := Nat.le_trans I.stb h
  have h3 := Nat.le_trans I.kpb h
  have h4 : ∀ d, (G.cd d).length ≤ c := fun d => Nat.le_trans (I.cdb d) h
  exact { I with nb := h1, stb := h2, kpb := h3, cdb := h4 }
def SinceW (G : Gh) (n : Nat) (top : Int) : Prop := ∃ si : List (Option Int), G.si = si.map optI ∧ si.length ≤ n ∧ ∀ m, some m ∈ si → m ≤ top
def SinceB (G : Gh) (S : PMS) : Prop := ∃ si : List (Option Int), G.si = si.map optI ∧ si.length = S.n ∧ (∀ c, c < S.n → (si[c]? = some none ↔ K82.Reach S c)) ∧ (∀ m, some m ∈ si → m ≤ G.moment) ∧ ∃ l : List Int, G.fm = (l ++ [G.moment]).map V.int
theorem SinceB.w {G : Gh} {S : PMS} (h : SinceB G S) : SinceW G S.n (G.moment + 1) := by
  obtain ⟨si, e, h1, _, h2, _⟩ := h
  exact ⟨si, e, Nat.le_of_eq h1, fun m hm => by have := h2 m hm; omega⟩
section
variable {P : Program} {w : World} {K : PySem.W.Frag} {mg : Str → Option Value} {base : Heap}
theorem sqt_same {K : PySem.W.Frag} {H H' : Hp} {a : Addr} {xs : List V} (h : SqT K H a xs) (s : Same H H') : SqT K H' a xs := by
  rcases h with h | h
  · rcases h with h | ⟨o, h⟩
    · exact .inl (.inl (s _ _ h))
    · exact .inl (.inr ⟨o, s _ _ h⟩)
  · exact .inr h
def spBegin (K : PySem.W.Frag) : Sp := fun vs H Q _ => ∃ (H0 : Hp) (Y : Lay) (G : Gh) (S : PMS) (b bw : Nat) (rep cb : List Bool) (said : List (K82.Ans Str)), vs = [.ref (Y.ad 0)] ∧ MAt K H0 H Y G ∧ SqT K H0 Y.quiet [] ∧ Sim H G S b ∧ b ≤ 100 ∧ Wlk H G rep cb said bw ∧ bw ≤ 1000 ∧ SinceW G S.n G.moment ∧
  ∀ H' G', MAt K H0 H' Y G' → Sim H' G' S b → Wlk H' G' rep cb said (bw + 1) → SinceB G' S → Tups H H' → G'.place = G.place → G'.moment = G.moment → Q .non H'
theorem m_begin_moment (T : TxM K mg) (bE : mg "enumerate" = none) : Met P w K mg base 4 (CW K) "begin_moment" p_Walker_begin_moment (spBegin K) := by
  refine metN T.m_begin_moment.2 T.m_begin_moment.1 sc_Walker_begin_moment (fun _ _ _ _ _ _ us hl => match us, hl with | [_], _ => rfl) (fun vs H Q E h => ?_) (fun cdv A outer s H vs Q E hr h => ?_)
  · obtain ⟨H0, Y, G, S, b, bw, rep, cb, said, rfl, _⟩ := h
    rfl
  · obtain ⟨H0, Y, G, S, b, bw, rep, cb, said, rfl, M, hqu, I, hb, Wk, hbw, ⟨si, hsi, hsl, hsm⟩, hQ⟩ := h
    refine ⟨_, pss_cons (ps_if (pt_cmpR op_notIn_seq (pe_fld (pv 0) rfl) (pe_fld (pv 0) rfl) (by with_unfolding_all rfl)) (pss_one (ps_expr (pe_bm PySem.F.plainAttrs_list PySem.F.slot_list_append PySem.F.type_list_append mt_append (pe_fld (pv 0) rfl) (pa_cons (pe_fld (pv 0) rfl) pa_nil)))) pss_nil)
      (pss_cons (ps_set (i := 1) sc_Walker_begin_moment.nd rfl (Or.inl rfl) (pe_m0 (m_reached T) hr (by decide) passL T.c_Walker (pv 0)))
      (pss_cons (ps_for PassesOwn.never rfl (pi_range2 (by rfl) T.b_range (pa_cons (pe_callB call_len_seq (by rfl) T.b_len PySem.boot_len (pa_cons (pe_fld (pv 0) rfl) pa_nil)) (pa_cons (pe_callB call_len_seq (by rfl) T.b_len PySem.boot_len (pa_cons (pv 1) pa_nil)) pa_nil))) (pg_name (i := 2) sc_Walker_begin_moment.nd rfl (Or.inl rfl))
        (pss_one (ps_expr (pe_bm PySem.F.plainAttrs_list PySem.F.slot_list_append PySem.F.type_list_append mt_append (pe_fld (pv 0) rfl) (pa_cons pe_non pa_nil)))))
      (pss_one (ps_for PassesOwn.never rfl (pi_enum (by rfl) bE (pa_cons (pv 1) pa_nil)) (pg_tup rfl (pgs_cons (pg_name (i := 2) sc_Walker_begin_moment.nd rfl (Or.inl rfl)) (pgs_cons (pg_name (i := 3) sc_Walker_begin_moment.nd rfl (Or.inl rfl)) pgs_nil)))
        (pss_one (ps_if (pt_val (pv 3)) (pss_one (ps_asg pe_non (pg_sub (pe_fld (pv 0) rfl) (pv 2) set_list)))
          (pss_one (ps_if (pt_cmpR op_isN (pe_ix ix_list (pe_fld (pv 0) rfl) (pv 2) (fun _ _ => rfl)) pe_non (nomark _)) (pss_one (ps_asg (pe_fld (pv 0) rfl) (pg_sub (pe_fld (pv 0) rfl) (pv 2) set_list))) pss_nil)))))))), ?_⟩
    have hq0' := sqt_same hqu M.same
    refine ⟨_, rfl, _, _, _, _, _, rfl, M.ins, T.c_Walker, T.a_at_place, rfl, _, rfl, _, _, _, _, _, rfl, M.ins, T.c_Walker, T.a_quiet_places, rfl, Y.quiet, [], rfl, .inr hq0', rfl, rfl, true, rfl, iteT ?_⟩
    obtain ⟨ms, hms, hml⟩ := Wk.fm
    refine ⟨_, rfl, _, _, _, _, _, rfl, M.ins, T.c_Walker, T.a_free_moments, rfl, .inl ⟨rfl, _, SqL.of M.free⟩, _, rfl, _, _, _, _, _, rfl, M.ins, T.c_Walker, T.a_moment, rfl, _, _, _, rfl, rfl, M.free, ?_, ?_⟩
    · rw [hms, List.length_map]
      exact le_line (by omega)
    have M1 := M.put_fm (G.fm ++ [V.int G.moment])
    have k1 : Tups H (upd H (Y.ad 10) (.lst (G.fm ++ [V.int G.moment]))) := tups_put M.free (fun xs z => nomatch z)
    have I1 : Sim (upd H (Y.ad 10) (.lst (G.fm ++ [V.int G.moment]))) { G with fm := G.fm ++ [V.int G.moment] } S b := (I.mono k1).eqG rfl rfl rfl rfl rfl rfl
    refine ⟨_, rfl, _, _, _, rfl, M1.ins, rfl, H0, Y, _, S, b, rfl, M1, I1, hb, fun H2 q fb k2 hqn hq hfl hfb => ?_⟩
    have M2 := M1.mono k2
    have hs2 : H2 (Y.ad 9) = some (.lst (si.map optI)) := by rw [← hsi]; exact M2.since
    refine ⟨_, rfl, _, _, _, _, _, rfl, M2.ins, T.c_Walker, T.a_since, rfl, _, _, rfl, .inl (SqL.of hs2), _, rfl, _, _, rfl, .inl (SqL.of hq), _, _, rfl, ?_, ?_⟩
    · have : S.n ≤ 100 := by rw [← I.n]; exact Nat.le_trans I.nb hb
      simp only [List.length_map]
      omega
    have hcnt : (((fb.map V.bl).length : Int) - ((si.map optI).length : Int)).toNat = S.n - si.length := by
      simp only [List.length_map]
      omega
    rw [hcnt]
    have hn100 : S.n ≤ 100 := by rw [← I.n]; exact Nat.le_trans I.nb hb
    refine for_range (n := S.n - si.length) (fun i σ H' => ∃ v2, σ = [some (.ref (Y.ad 0)), some (.ref q), v2, none] ∧ MAt K H0 H' Y { G with fm := G.fm ++ [V.int G.moment], si := (si ++ List.replicate i none).map optI } ∧ Tups H2 H' ∧ H' q = some (.lst (fb.map V.bl)))
      ⟨none, rfl, by
        have e : (si ++ List.replicate 0 none).map optI = G.si := by rw [hsi]; simp
        rw [e]
        exact M2, Tups.refl _, hq⟩ ?_ ?_
    · rintro i σ H3 hi ⟨v2, rfl, M3, k3, hq3⟩
      have nq : q ≠ Y.ad 9 := fun e => by
        have h1 := M1.since
        rw [← e, hqn] at h1
        cases h1
      refine ⟨_, rfl, _, _, _, _, _, rfl, M3.ins, T.c_Walker, T.a_since, rfl, .inl ⟨rfl, _, SqL.of M3.since⟩, _, _, _, rfl, rfl, M3.since, ?_, ?_⟩
      · show ((si ++ List.replicate i none).map optI).length < sizeLine
        rw [List.length_map, List.length_append, List.length_replicate]
        exact le_line (by omega)
      · have e : (si ++ List.replicate i none).map optI ++ [V.non] = (si ++ List.replicate (i + 1) none).map optI := by
          rw [List.replicate_succ', ← List.append_assoc, List.map_append (l₂ := [none])]
          rfl
        refine ⟨_, rfl, ?_, k3.trans (tups_put M3.since (fun xs z => nomatch z)), by rw [upd_ne nq]; exact hq3⟩
        have M5 := M3.put_si ((si ++ List.replicate (i + 1) none).map optI)
        rw [← e] at M5 ⊢
        exact M5
    · rintro σ H3 ⟨v2, rfl, M3, k3, hq3⟩
      have nq : q ≠ Y.ad 9 := fun e => by
        have h1 := M1.since
        rw [← e, hqn] at h1
        cases h1
      refine ⟨_, rfl, q, _, rfl, SqL.of hq3, ?_⟩
      refine for_it (walk_enum (K := K) (a := q) (xs := fb.map V.bl)) (fun i σ H' => ∃ v2 v3, σ = [some (.ref (Y.ad 0)), some (.ref q), v2, v3] ∧ ∃ sj : List (Option Int), MAt K H0 H' Y { G with fm := G.fm ++ [V.int G.moment], si := sj.map optI } ∧ Tups H2 H' ∧ H' q = some (.lst (fb.map V.bl)) ∧ sj.length = S.n ∧
          (∀ c, c < i → (sj[c]? = some none ↔ fb[c]? = some true)) ∧ ∀ m, some m ∈ sj → m ≤ G.moment)
        ⟨v2, none, rfl, _, M3, k3, hq3, by rw [List.length_append, List.length_replicate]; omega, fun c hc => absurd hc (Nat.not_lt_zero _), fun m hm => ?_⟩ (fun i σ H' _ ⟨_, _, _, _, _, _, h, _⟩ => SqL.of h) ?_ ?_
      · rcases List.mem_append.mp hm with hm | hm
        · exact hsm m hm
        · have := List.eq_of_mem_replicate hm
          cases this
      · rintro i y σ H4 H5 hi ⟨v2, v3, rfl, sj, M4, k4, hq4, hl4, hc4, hm4⟩ ⟨t, x1, x2, rfl, ht, rfl, e1, e2⟩
        cases e1
        rw [List.length_map, hfl] at hi
        obtain ⟨v, hv, rfl⟩ : ∃ v, fb[i]? = some v ∧ V.bl v = x2 := by
          have e2 : (fb.map V.bl)[i]? = some x2 := e2
          rw [List.getElem?_map] at e2
          cases z : fb[i]? with
          | none => rw [z] at e2; cases e2
          | some e => rw [z] at e2; exact ⟨e, rfl, Option.some.inj e2⟩
        have M5 := M4.mono (Same.upd (o := .tup [.int (i : Nat), V.bl v]) ht)
        have hij : i < sj.length := by omega
        obtain ⟨o, ho⟩ : ∃ o, sj[i]? = some o := ⟨sj[i], List.getElem?_eq_getElem hij⟩
        -- a store of x at i
        have put : ∀ x : Option Int, (x = none ↔ v = true) → (∀ m, x = some m → m ≤ G.moment) → ∀ v2' v3', (∃ v2 v3, [some (V.ref (Y.ad 0)), some (V.ref q), v2', v3'] = [some (V.ref (Y.ad 0)), some (V.ref q), v2, v3] ∧ ∃ sj' : List (Option Int), MAt K H0 (upd (upd H4 t (.tup [.int (i : Nat), V.bl v])) (Y.ad 9) (.lst ((sj.map optI).set i (optI x)))) Y { G with fm := G.fm ++ [V.int G.moment], si := sj'.map optI } ∧ Tups H2 (upd (upd H4 t (.tup [.int (i : Nat), V.bl v])) (Y.ad 9) (.lst ((sj.map optI).set i (optI x)))) ∧
            (upd (upd H4 t (.tup [.int (i : Nat), V.bl v])) (Y.ad 9) (.lst ((sj.map optI).set i (optI x)))) q = some (.lst (fb.map V.bl)) ∧ sj'.length = S.n ∧ (∀ c, c < i + 1 → (sj'[c]? = some none ↔ fb[c]? = some true)) ∧ ∀ m, some m ∈ sj' → m ≤ G.moment) := by
          intro x hx1 hx2 v2' v3'
          have e : (sj.map optI).set i (optI x) = (sj.set i x).map optI := by rw [List.map_set]
          rw [e]
          refine ⟨v2', v3', rfl, sj.set i x, M5.put_si ((sj.set i x).map optI), k4.trans ((Same.upd ht).tups.trans (tups_put M5.since (fun xs z => nomatch z))), by rw [upd_ne nq]; exact Same.upd ht _ _ hq4, by rw [List.length_set]; exact hl4, fun c hc => ?_, fun m hm => ?_⟩
          · rw [List.getElem?_set]
            by_cases z : i = c
            · subst z
              rw [if_pos rfl, if_pos hij, hv]
              constructor
              · intro q
                rw [hx1.mp (Option.some.inj q)]
              · intro q
                rw [hx1.mpr (Option.some.inj q)]
            · rw [if_neg z]
              exact hc4 c (by omega)
          · rcases List.mem_or_eq_of_mem_set hm with hm | hm
            · exact hm4 m hm
            · exact hx2 m hm.symm
        refine ⟨t, _, rfl, SqT.of upd_same, rfl, _, _, rfl, _, _, rfl, rfl, _, rfl, v, rfl, ?_⟩
        have hix : ixN (sj.map optI).length (i : Nat) = some i := by
          unfold ixN
          rw [if_pos (Int.natCast_nonneg i), if_pos (by rw [List.length_map]; omega)]
          rfl
        cases v with
        | true =>
          refine iteT ⟨_, rfl, _, _, _, _, _, rfl, M5.ins, T.c_Walker, T.a_since, rfl, _, rfl, _, _, _, i, rfl, rfl, M5.since, hix, ?_⟩
          exact put none (by simp) (fun m z => nomatch z) _ _
        | false =>
          refine iteF ⟨_, rfl, _, _, _, _, _, rfl, M5.ins, T.c_Walker, T.a_since, rfl, _, rfl, _, _, _, _, rfl, rfl, SqL.of M5.since, atI_nat (j := i) (show (sj.map optI)[i]? = some (optI o) by rw [List.getElem?_map, ho]; rfl), rfl, ?_⟩
          cases o with
          | none =>
            refine ⟨true, congrArg V.bl (decide_eq_true rfl), iteT ⟨_, rfl, _, _, _, _, _, rfl, M5.ins, T.c_Walker, T.a_moment, rfl, _, rfl, _, _, _, _, _, rfl, M5.ins, T.c_Walker, T.a_since, rfl, _, rfl, _, _, _, i, rfl, rfl, M5.since, hix, ?_⟩⟩
            exact put (some G.moment) (by simp) (fun m z => by cases z; exact Int.le_refl _) _ _
          | some m0 =>
            refine ⟨false, congrArg V.bl (decide_eq_false (fun z => nomatch z)), iteF ⟨_, _, rfl, sj, M5, k4.trans (Same.upd ht).tups, Same.upd ht _ _ hq4, hl4, fun c hc => ?_, hm4⟩⟩
            by_cases z : c = i
            · subst z
              rw [ho, hv]
              simp
            · exact hc4 c (by omega)
      · rintro σ H4 ⟨v2, v3, rfl, sj, M4, k4, hq4, hl4, hc4, hm4⟩
        rw [List.length_map, hfl] at hc4
        have kt : Tups H H4 := k1.trans (k2.tups.trans k4)
        refine hQ H4 _ M4 ((I.mono kt).eqG rfl rfl rfl rfl rfl rfl) ?_ ⟨sj, rfl, hl4, fun c hc => by rw [hc4 c hc, hfb c], hm4, ms, ?_⟩ kt rfl rfl
        · have W2 := (Wk.mono kt).up (Nat.le_succ bw)
          obtain ⟨a1, a2, a3, a4, a5, a6, a7, a8, a9, a10, a11⟩ := W2
          refine ⟨a1, a2, a3, a4, a5, a6, ⟨ms ++ [G.moment], ?_, ?_⟩, a8, a9, a10, a11⟩
          · show G.fm ++ [V.int G.moment] = _
            rw [hms, List.map_append]
            rfl
          · rw [List.length_append, List.length_singleton]
            omega
        · show G.fm ++ [V.int G.moment] = _
          rw [hms, List.map_append]
          rfl
end
end K82W
end K82Begin_part
section K82Decide_part
set_option Elab.async false
set_option linter.all false
set_option maxRecDepth 100000
set_option maxHeartbeats 4000000
namespace K82W
open PySem PySem.Spec PyProof.Rows L2
open Classical in
/-- a question about c: the answer, whether yes could be, what there is then -/
noncomputable def aStep (S : PMS) (c : Nat) (h : Option Bool) : Bool × Bool × PMS :=
  if S.lost c = true then (true, false, S) else if K82.Reach S c then (false, false, S) else if h = some true then (true, true, S.clear c) else (false, true, S)
section
variable {P : Program} {w : World} {K : PySem.W.Frag} {mg : Str → Option Value} {base : Heap}
theorem SinceB.at_ {G : Gh} {S : PMS} (B : SinceB G S) {c : Nat} (hc : c < S.n) : ∃ o : Option Int, G.si[c]? = some (optI o) ∧ (o = none ↔ K82.Reach S c) ∧ (∀ m, o = some m → m ≤ G.moment) ∧ G.si.length = S.n := by
  obtain ⟨si, e, hl, h1, h2, _⟩ := B
  have hcl : c < si.length := by omega
  refine ⟨si[c], ?_, ?_, fun m hm => h2 m (by rw [← hm]; exact List.getElem_mem hcl), by rw [e, List.length_map]; exact hl⟩
  · rw [e, List.getElem?_map, List.getElem?_eq_getElem hcl]
    rfl
  · rw [← h1 c hc, List.getElem?_eq_getElem hcl]
    exact ⟨fun z => by rw [z], fun z => Option.some.inj z⟩
def spLatest (K : PySem.W.Frag) : Sp := fun vs H Q _ => ∃ (H0 : Hp) (Y : Lay) (G : Gh) (S : PMS) (c : Nat), vs = [.ref (Y.ad 0), .int (c : Nat)] ∧ MAt K H0 H Y G ∧ SinceB G S ∧ c < S.n ∧
  (∀ H', K82.Reach S c → Same H H' → Q .non H') ∧ (∀ H', ¬ K82.Reach S c → Same H H' → Q (.int G.moment) H')
theorem m_latest (T : TxM K mg) : Met P w K mg base 1 (CW K) "latest" p_Walker_latest (spLatest K) := by
  refine metN T.m_latest.2 T.m_latest.1 sc_Walker_latest (fun _ _ _ _ _ _ us hl => match us, hl with | [_, _], _ => rfl) (fun vs H Q E h => ?_) (fun cdv A outer s H vs Q E hr h => ?_)
  · obtain ⟨H0, Y, G, S, c, rfl, _⟩ := h
    rfl
  · obtain ⟨H0, Y, G, S, c, rfl, M, B, hc, hQ1, hQ2⟩ := h
    refine ⟨_, pss_cons (ps_if (pw_or (pt_cmpR op_ge (pv 1) (pe_callB call_len_seq (by rfl) T.b_len PySem.boot_len (pa_cons (pe_fld (pv 0) rfl) pa_nil)) (nomark _)) (pw_or (pt_cmpR op_isN (pe_ix ix_list (pe_fld (pv 0) rfl) (pv 1) (fun _ _ => rfl)) pe_non (nomark _)) (pw_or1 (pt_cmpR (op_eqNil hr.units) (pe_fld (pv 0) rfl) (pe_lst pa_nil) (nomark _))))).pt (pss_one (ps_ret pe_non)) pss_nil)
      (pss_one (ps_ret (pe_ifExp (pt_cmpR op_ge (pe_ix ix_list (pe_fld (pv 0) rfl) (pe_un un_neg pe_int) (fun _ _ => rfl)) (pe_ix ix_list (pe_fld (pv 0) rfl) (pv 1) (fun _ _ => rfl)) (nomark _)) (pe_ix ix_list (pe_fld (pv 0) rfl) (pe_un un_neg pe_int) (fun _ _ => rfl)) pe_non))), ?_⟩
    obtain ⟨o, ho, hoR, hoM, hlen⟩ := B.at_ hc
    refine ⟨_, rfl, _, rfl, _, _, _, _, _, rfl, M.ins, T.c_Walker, T.a_since, rfl, _, _, rfl, .inl (SqL.of M.since), _, _, rfl, rfl, false, congrArg V.bl (decide_eq_false (by rw [hlen]; omega)), iteF ?_⟩
    refine ⟨_, rfl, _, _, _, _, _, rfl, M.ins, T.c_Walker, T.a_since, rfl, _, rfl, _, _, _, _, rfl, rfl, SqL.of M.since, atI_nat (j := c) ho, rfl, ?_⟩
    cases o with
    | none =>
      refine ⟨true, congrArg V.bl (decide_eq_true rfl), iteT (iteT ?_)⟩
      exact hQ1 H (hoR.mp rfl) (fun _ _ e => e)
    | some m =>
      refine ⟨false, congrArg V.bl (decide_eq_false (fun z => nomatch z)), iteF ?_⟩
      obtain ⟨si, _, _, _, _, l, hl⟩ := B
      have hfm := M.free
      rw [hl] at hfm
      refine ⟨_, rfl, _, _, _, _, _, rfl, M.ins, T.c_Walker, T.a_free_moments, rfl, Nat.zero_le _, fun z hz => ?_⟩
      have k1 : Same H (upd H z (.lst [])) := Same.upd hz
      have M1 := M.mono k1
      refine ⟨_, z, _, rfl, rfl, SqL.of (k1 _ _ hfm), SqL.of upd_same, false, congrArg V.bl (by simp), iteF ?_⟩
      have hfm1 := k1 _ _ hfm
      rw [List.map_append] at hfm1
      refine ⟨_, rfl, _, _, _, _, _, rfl, M1.ins, T.c_Walker, T.a_free_moments, rfl, _, rfl, _, _, _, _, rfl, rfl, SqL.of hfm1, atI_last _ _, ?_⟩
      refine ⟨_, rfl, _, _, _, _, _, rfl, M1.ins, T.c_Walker, T.a_since, rfl, _, rfl, _, _, _, _, rfl, rfl, SqL.of M1.since, atI_nat (j := c) ho, _, _, rfl, rfl, true, congrArg V.bl (decide_eq_true (hoM m rfl)), iteT ?_⟩
      refine ⟨_, rfl, _, _, _, _, _, rfl, M1.ins, T.c_Walker, T.a_free_moments, rfl, _, rfl, _, _, _, _, rfl, rfl, SqL.of hfm1, atI_last _ _, ?_⟩
      exact hQ2 _ (fun r => nomatch hoR.mpr r) k1
theorem Same.refl' (H : Hp) : Same H H := fun _ _ e => e
def spDecide (K : PySem.W.Frag) : Sp := fun vs H Q _ => ∃ (H0 : Hp) (Y : Lay) (G : Gh) (S : PMS) (b c : Nat) (first : List Bool), vs = [.ref (Y.ad 0), .int (c : Nat)] ∧ MAt K H0 H Y G ∧ H0 Y.first = some (.tup (first.map repV)) ∧ Sim H G S b ∧ b ≤ 100 ∧ SinceB G S ∧ c < S.n ∧
  G.cb.length ≤ 1000 ∧ G.la.length ≤ 100000 - 1000 ∧ G.ea.length ≤ 100000 - 1000 ∧
  ∀ H' ls la ea si, MAt K H0 H' Y { G with cb := G.cb ++ [.bl (aStep S c first[G.rs.length]?).2.1], ls := ls, la := la, ea := ea, si := si } → Sim H' { G with cb := G.cb ++ [.bl (aStep S c first[G.rs.length]?).2.1], ls := ls, la := la, ea := ea, si := si } (aStep S c first[G.rs.length]?).2.2 b →
    (∃ l, la = G.la ++ l ∧ (∀ v ∈ l, PairI H' v) ∧ l.length ≤ 100 ∧ ((aStep S c first[G.rs.length]?).1 = false → l = [])) → (∃ l, ea = G.ea ++ l ∧ l.length ≤ 100) → SinceW { G with si := si } S.n (G.moment + 1) → Tups H H' → Q (repV (aStep S c first[G.rs.length]?).1) H'
theorem Sim.clear {H : Hp} {G : Gh} {S : PMS} {b : Nat} (I : Sim H G S b) (c : Nat) (hc : c < S.n) (ls : List V) (hls : ls = (List.range G.n).map fun d => .bl ((S.clear c).lost d)) : Sim H { G with ls := ls } (S.clear c) b where
  n := I.n
  nb := I.nb
  st1 := I.st1
  st2 := I.st2
  stb := I.stb
  kp1 := I.kp1
  kp2 := I.kp2
  kpb := I.kpb
  cd1 := I.cd1
  cd2 := I.cd2
  cdb := I.cdb
  fldB := I.fldB
  envB := I.envB
  keptB := I.keptB
  ws := I.ws
  wishB := I.wishB
  ls := hls
  lostB := fun d hd => by
    rcases (K82.clear_lost c d).mp hd with h | h
    · exact I.lostB d h
    · show d < S.n
      cases h with
      | refl => exact hc
      | step l q h =>
        obtain ⟨f, hf⟩ := q
        exact (I.fldB d f _ hf).1
theorem ixN_nat {n j : Nat} (h : j < n) : ixN n (j : Int) = some j := by
  unfold ixN
  rw [if_pos (Int.natCast_nonneg j), if_pos (by omega)]
  rfl
theorem set_or (n d : Nat) (f : Nat → Bool) (l : List Nat) (hd : d < n) : ((List.range n).map (fun j => V.bl (f j || decide (j ∈ l)))).set d (V.bl true) = (List.range n).map (fun j => V.bl (f j || decide (j ∈ l ++ [d]))) := by
  refine List.ext_getElem? fun j => ?_
  rw [List.getElem?_set, List.getElem?_map, List.getElem?_map]
  by_cases hj : j < n
  · rw [List.getElem?_range hj]
    by_cases z : d = j
    · subst z
      rw [if_pos rfl, if_pos (by rw [List.length_map, List.length_range]; exact hj)]
      show some (V.bl true) = some (V.bl (f d || decide (d ∈ l ++ [d])))
      rw [decide_eq_true (List.mem_append_right _ (List.mem_singleton.mpr rfl)), Bool.or_true]
    · rw [if_neg z]
      show some (V.bl (f j || decide (j ∈ l))) = some (V.bl (f j || decide (j ∈ l ++ [d])))
      have : decide (j ∈ l ++ [d]) = decide (j ∈ l) := decide_eq_decide.mpr ⟨fun h => (List.mem_append.mp h).resolve_right fun q => z (List.mem_singleton.mp q).symm, List.mem_append_left _⟩
      rw [this]
  · have : (List.range n)[j]? = none := List.getElem?_eq_none_iff.mpr (by rw [List.length_range]; omega)
    rw [this]
    by_cases z : d = j
    · subst z
      exact absurd hd hj
    · rw [if_neg z]
      rfl
theorem m_decide (T : TxM K mg) (bE : mg "enumerate" = none) : Met P w K mg base 3 (CW K) "decide" p_Walker_decide (spDecide K) := by
  refine metN T.m_decide.2 T.m_decide.1 sc_Walker_decide (fun _ _ _ _ _ _ us hl => match us, hl with | [_, _], _ => rfl) (fun vs H Q E h => ?_) (fun cdv A outer s H vs Q E hr h => ?_)
  · obtain ⟨H0, Y, G, S, b, c, first, rfl, _⟩ := h
    rfl
  · obtain ⟨H0, Y, G, S, b, c, first, rfl, M, hfi, I, hb, B, hc, hcbl, hlal, heal, hQ⟩ := h
    obtain ⟨si0, hsi, hsl, hsR, hsm, l0, hl0⟩ := id B
    have hn100 : S.n ≤ 100 := by rw [← I.n]; exact Nat.le_trans I.nb hb
    obtain ⟨tB, hB, rB⟩ : ∃ t, PSs (cxOf (L2.CX P w) P w K mg base n_Walker_decide "Walker.decide" (defScope s_Walker_decide) (He.ma K (CW K) "decide") cdv A outer s H E).nox ((defBody s_Walker_decide).drop 5) t ∧
        ∀ (mv kv : V) (cbit : Bool) (H3 : Hp), MAt K H0 H3 Y { G with cb := G.cb ++ [.bl cbit] } → Tups H H3 → aStep S c first[G.rs.length]? = (false, cbit, S) → t { nx := fun _ H' => Q .non H', rt := Q } [some (.ref (Y.ad 0)), some (.int (c : Nat)), some mv, some kv, none, none] H3 := by
      refine ⟨_, pss_cons (ps_for PassesOwn.never rfl (pi_enum (by rfl) bE (pa_cons (pe_m (m_reach_from T) hr (by decide) passL T.c_Walker (pv 0) (pa_cons (pe_lst (pa_cons (pv 1) pa_nil)) pa_nil)) pa_nil)) (pg_tup rfl (pgs_cons (pg_name (i := 4) sc_Walker_decide.nd rfl (Or.inl rfl)) (pgs_cons (pg_name (i := 5) sc_Walker_decide.nd rfl (Or.inl rfl)) pgs_nil)))
        (pss_one (ps_if (pw_and (pt_val (pv 5)) (pw_and (pt_cmpR op_lt (pv 4) (pe_callB call_len_seq (by rfl) T.b_len PySem.boot_len (pa_cons (pe_fld (pv 0) rfl) pa_nil)) (nomark _)) (pw_and1 (pt_cmpR op_notN (pe_ix ix_list (pe_fld (pv 0) rfl) (pv 4) (fun _ _ => rfl)) pe_non (nomark _))))).pt
          (pss_one (ps_asg (pe_op op_add (pe_fld (pv 0) rfl) pe_int) (pg_sub (pe_fld (pv 0) rfl) (pv 4) set_list))) pss_nil)))
      (pss_one (ps_ret pe_int)), ?_⟩
      intro mv kv cbit H3 M3 k3 hstep
      have I3 : Sim H3 { G with cb := G.cb ++ [V.bl cbit] } S b := (I.mono k3).eqG rfl rfl rfl rfl rfl rfl
      refine ⟨_, rfl, _, _, _, rfl, M3.ins, rfl, _, rfl, by show 1 ≤ sizeLine; decide, fun a ha => ?_⟩
      have k4 : Same H3 (upd H3 a (.lst [V.int (c : Nat)])) := Same.upd ha
      refine ⟨H0, Y, _, S, b, a, [c], rfl, M3.mono k4, I3.mono k4.tups, hb, upd_same, fun d hd => by rw [List.mem_singleton] at hd; rw [hd]; exact hc, by show 1 ≤ 1000; decide, fun H5 q fb k5 hq0 hq hfl hfb => ?_⟩
      have M5 := (M3.mono k4).mono k5
      have hsi5 : G.si = si0.map optI := hsi
      have nq : q ≠ Y.ad 9 := fun e => by
        have h1 := (M3.mono k4).since
        rw [← e, hq0] at h1
        cases h1
      refine ⟨q, _, rfl, SqL.of hq, for_it (walk_enum (K := K) (a := q) (xs := fb.map V.bl)) (fun i σ H' => ∃ v4 v5, σ = [some (.ref (Y.ad 0)), some (.int (c : Nat)), some mv, some kv, v4, v5] ∧ ∃ sj : List (Option Int), MAt K H0 H' Y { G with cb := G.cb ++ [V.bl cbit], si := sj.map optI } ∧ Tups H H' ∧ H' q = some (.lst (fb.map V.bl)) ∧ sj.length = S.n ∧ ∀ m, some m ∈ sj → m ≤ G.moment + 1)
        ⟨none, none, rfl, si0, by rw [← hsi5]; exact M5, k3.trans (k4.trans k5).tups, hq, hsl, fun m hm => by have := hsm m hm; omega⟩ (fun i σ H' _ ⟨_, _, _, _, _, _, h, _⟩ => SqL.of h) ?_ ?_⟩
      · rintro i y σ H6 H7 hi ⟨v4, v5, rfl, sj, M6, k6, hq6, hl6, hm6⟩ ⟨t, x1, x2, rfl, ht, rfl, e1, e2⟩
        cases e1
        rw [List.length_map, hfl] at hi
        obtain ⟨v, hv, rfl⟩ : ∃ v, fb[i]? = some v ∧ V.bl v = x2 := by
          have e2 : (fb.map V.bl)[i]? = some x2 := e2
          rw [List.getElem?_map] at e2
          cases z : fb[i]? with
          | none => rw [z] at e2; cases e2
          | some e => rw [z] at e2; exact ⟨e, rfl, Option.some.inj e2⟩
        have s7 : Same H6 (upd H6 t (.tup [.int (i : Nat), V.bl v])) := Same.upd ht
        have M7 := M6.mono s7
        have hij : i < sj.length := by omega
        obtain ⟨o, ho⟩ : ∃ o, sj[i]? = some o := ⟨sj[i], List.getElem?_eq_getElem hij⟩
        have stay : ∃ v4 v5, [some (V.ref (Y.ad 0)), some (V.int (c : Nat)), some mv, some kv, some (V.int (i : Nat)), some (V.bl v)] = [some (V.ref (Y.ad 0)), some (V.int (c : Nat)), some mv, some kv, v4, v5] ∧ ∃ sj : List (Option Int), MAt K H0 (upd H6 t (.tup [.int (i : Nat), V.bl v])) Y { G with cb := G.cb ++ [V.bl cbit], si := sj.map optI } ∧ Tups H (upd H6 t (.tup [.int (i : Nat), V.bl v])) ∧ (upd H6 t (.tup [.int (i : Nat), V.bl v])) q = some (.lst (fb.map V.bl)) ∧ sj.length = S.n ∧ ∀ m, some m ∈ sj → m ≤ G.moment + 1 :=
          ⟨_, _, rfl, sj, M7, k6.trans s7.tups, s7 _ _ hq6, hl6, hm6⟩
        refine ⟨t, _, rfl, SqT.of upd_same, rfl, _, _, rfl, _, _, rfl, rfl, _, rfl, v, rfl, ?_⟩
        cases v with
        | false => exact iteF (iteF stay)
        | true =>
          refine iteT ⟨_, rfl, _, rfl, _, _, _, _, _, rfl, M7.ins, T.c_Walker, T.a_since, rfl, _, _, rfl, .inl (SqL.of M7.since), _, _, rfl, rfl, true, congrArg V.bl (decide_eq_true ?_), iteT ?_⟩
          · show (i : Int) < ((sj.map optI).length : Int)
            rw [List.length_map]
            omega
          refine ⟨_, rfl, _, _, _, _, _, rfl, M7.ins, T.c_Walker, T.a_since, rfl, _, rfl, _, _, _, _, rfl, rfl, SqL.of M7.since, atI_nat (j := i) (show (sj.map optI)[i]? = some (optI o) by rw [List.getElem?_map, ho]; rfl), rfl, ?_⟩
          cases o with
          | none => exact ⟨false, rfl, iteF stay⟩
          | some m0 =>
            refine ⟨true, rfl, iteT ⟨_, rfl, _, _, _, _, _, rfl, M7.ins, T.c_Walker, T.a_moment, rfl, _, _, rfl, rfl, _, rfl, _, _, _, _, _, rfl, M7.ins, T.c_Walker, T.a_since, rfl, _, rfl, _, _, _, i, rfl, rfl, M7.since, ixN_nat (by show i < (sj.map optI).length; rw [List.length_map]; exact hij), ?_⟩⟩
            have e : (sj.map optI).set i (V.int (G.moment + 1)) = (sj.set i (some (G.moment + 1))).map optI := by rw [List.map_set]; rfl
            show ∃ v4 v5, [some (V.ref (Y.ad 0)), some (V.int (c : Nat)), some mv, some kv, some (V.int (i : Nat)), some (V.bl true)] = [some (V.ref (Y.ad 0)), some (V.int (c : Nat)), some mv, some kv, v4, v5] ∧ ∃ sj' : List (Option Int), MAt K H0 (upd (upd H6 t (.tup [.int (i : Nat), V.bl true])) (Y.ad 9) (.lst ((sj.map optI).set i (V.int (G.moment + 1))))) Y { G with cb := G.cb ++ [V.bl cbit], si := sj'.map optI } ∧ Tups H (upd (upd H6 t (.tup [.int (i : Nat), V.bl true])) (Y.ad 9) (.lst ((sj.map optI).set i (V.int (G.moment + 1))))) ∧ _
            rw [e]
            refine ⟨_, _, rfl, _, M7.put_si ((sj.set i (some (G.moment + 1))).map optI), k6.trans (s7.tups.trans (tups_put M7.since (fun xs z => nomatch z))), by rw [upd_ne nq]; exact s7 _ _ hq6, by rw [List.length_set]; exact hl6, fun m hm => ?_⟩
            rcases List.mem_or_eq_of_mem_set hm with hm | hm
            · exact hm6 m hm
            · cases hm
              exact Int.le_refl _
      · rintro σ H6 ⟨v4, v5, rfl, sj, M6, k6, hq6, hl6, hm6⟩
        have hq' := hQ H6 G.ls G.la G.ea (sj.map optI)
        rw [hstep] at hq'
        exact hq' M6 ((I.mono k6).eqG rfl rfl rfl rfl rfl rfl) ⟨[], by simp, fun v hv => by simp at hv, by decide, fun _ => rfl⟩ ⟨[], by simp, by decide⟩ ⟨sj, rfl, Nat.le_of_eq hl6, hm6⟩ k6
    refine ⟨_, pss_cons (ps_if (pt_val (pe_ix ix_list (pe_fld (pv 0) rfl) (pv 1) (fun _ _ => rfl)))
        (pss_cons (ps_expr (pe_bm PySem.F.plainAttrs_list PySem.F.slot_list_append PySem.F.type_list_append mt_append (pe_fld (pv 0) rfl) (pa_cons pe_bl pa_nil))) (pss_one (ps_ret pe_int))) pss_nil)
      (pss_cons (ps_set (i := 2) sc_Walker_decide.nd rfl (Or.inl rfl) (pe_m (m_latest T) hr (by decide) passL T.c_Walker (pv 0) (pa_cons (pv 1) pa_nil)))
      (pss_cons (ps_expr (pe_bm PySem.F.plainAttrs_list PySem.F.slot_list_append PySem.F.type_list_append mt_append (pe_fld (pv 0) rfl) (pa_cons (pe_cmpR op_notN (pv 2) pe_non (nomark _)) pa_nil)))
      (pss_cons (ps_set (i := 3) sc_Walker_decide.nd rfl (Or.inl rfl) (pe_callB call_len_seq (by rfl) T.b_len PySem.boot_len (pa_cons (pe_fld (pv 0) rfl) pa_nil)))
      (pss_cons (ps_if (pw_and (pt_cmpR op_notN (pv 2) pe_non (nomark _)) (pw_and (pt_cmpR op_lt (pv 3) (pe_callB call_len_seq (by rfl) T.b_len PySem.boot_len (pa_cons (pe_fld (pv 0) rfl) pa_nil)) (nomark _)) (pw_and1 (pt_cmpR op_eq (pe_ix ix_tup (pe_fld (pv 0) rfl) (pv 3) (fun _ _ => rfl)) pe_int (nomark _))))).pt
        (pss_cons (ps_for PassesOwn.never rfl (pi_list (pe_m (m_comers T) hr (by decide) passL T.c_Walker (pv 0) (pa_cons (pv 1) pa_nil))) (pg_name (i := 4) sc_Walker_decide.nd rfl (Or.inl rfl))
          (pss_cons (ps_asg pe_bl (pg_sub (pe_fld (pv 0) rfl) (pv 4) set_list))
          (pss_cons (ps_expr (pe_bm PySem.F.plainAttrs_list PySem.F.slot_list_append PySem.F.type_list_append mt_append (pe_fld (pv 0) rfl) (pa_cons (pe_tup (pa_cons (pv 2) (pa_cons (pv 4) pa_nil))) pa_nil)))
          (pss_one (ps_expr (pe_bm PySem.F.plainAttrs_list PySem.F.slot_list_append PySem.F.type_list_append mt_append (pe_fld (pv 0) rfl) (pa_cons (pe_tup (pa_cons (pe_ix ix_list (pe_fld (pv 0) rfl) (pv 4) (fun _ _ => rfl)) (pa_cons (pv 4) pa_nil))) pa_nil)))))))
        (pss_one (ps_ret pe_int))) pss_nil) hB)))), ?_⟩
    refine ⟨_, rfl, _, _, _, _, _, rfl, M.ins, T.c_Walker, T.a_lost, rfl, _, rfl, _, _, _, _, rfl, rfl, SqL.of M.lost, atI_nat (j := c) (by rw [I.ls]; exact range_get _ (by rw [I.n]; exact hc)), S.lost c, rfl, ?_⟩
    cases hl : S.lost c with
    | true =>
      have hstep : aStep S c first[G.rs.length]? = (true, false, S) := by
        unfold aStep
        rw [if_pos hl]
      refine iteT ⟨_, rfl, _, _, _, _, _, rfl, M.ins, T.c_Walker, T.a_could_be, rfl, .inl ⟨rfl, _, SqL.of M.could⟩, _, _, _, rfl, rfl, M.could, le_line (by omega), ?_⟩
      have k1 : Tups H (upd H (Y.ad 11) (.lst (G.cb ++ [V.bl false]))) := tups_put M.could (fun xs z => nomatch z)
      have hq' := hQ (upd H (Y.ad 11) (.lst (G.cb ++ [V.bl false]))) G.ls G.la G.ea G.si
      rw [hstep] at hq'
      obtain ⟨si, e1, e2, e3⟩ := B.w
      exact hq' (M.put_cb (G.cb ++ [V.bl false])) ((I.mono k1).eqG rfl rfl rfl rfl rfl rfl) ⟨[], by simp, fun v hv => by simp at hv, by decide, fun _ => rfl⟩ ⟨[], by simp, by decide⟩ ⟨si, e1, e2, e3⟩ k1
    | false =>
      refine iteF ?_
      refine ⟨_, rfl, _, _, _, rfl, M.ins, rfl, _, rfl, H0, Y, G, S, c, rfl, M, B, hc, fun H1 hR k1 => ?_, fun H1 hR k1 => ?_⟩
      · have hstep : aStep S c first[G.rs.length]? = (false, false, S) := by
          unfold aStep
          rw [if_neg (by rw [hl]; decide), if_pos hR]
        have M1 := M.mono k1
        refine ⟨_, rfl, _, _, _, _, _, rfl, M1.ins, T.c_Walker, T.a_could_be, rfl, .inl ⟨rfl, _, SqL.of M1.could⟩, _, rfl, rfl, _, _, _, rfl, rfl, M1.could, le_line (by omega), ?_⟩
        rw [show (!decide ((V.non : V) = V.non)) = false from by rw [decide_eq_true rfl]; rfl]
        have M3 := M1.put_cb (G.cb ++ [V.bl false])
        refine ⟨_, rfl, _, _, _, _, _, rfl, M3.ins, T.c_Walker, T.a_replies, rfl, _, _, rfl, .inl (SqL.of M3.replies), ?_⟩
        refine ⟨_, rfl, rfl, false, congrArg V.bl (by rw [decide_eq_true rfl]; rfl), iteF (iteF ?_)⟩
        exact rB _ _ false _ M3 (k1.tups.trans (tups_put M1.could (fun xs z => nomatch z))) hstep
      · have M1 := M.mono k1
        refine ⟨_, rfl, _, _, _, _, _, rfl, M1.ins, T.c_Walker, T.a_could_be, rfl, .inl ⟨rfl, _, SqL.of M1.could⟩, _, rfl, rfl, _, _, _, rfl, rfl, M1.could, le_line (by omega), ?_⟩
        rw [show (!decide ((V.int G.moment : V) = V.non)) = true from by rw [decide_eq_false (fun z => nomatch z)]; rfl]
        have M3 := M1.put_cb (G.cb ++ [V.bl true])
        have k3 : Tups H (upd H1 (Y.ad 11) (.lst (G.cb ++ [V.bl true]))) := k1.tups.trans (tups_put M1.could (fun xs z => nomatch z))
        refine ⟨_, rfl, _, _, _, _, _, rfl, M3.ins, T.c_Walker, T.a_replies, rfl, _, _, rfl, .inl (SqL.of M3.replies), ?_⟩
        refine ⟨_, rfl, rfl, true, congrArg V.bl (by rw [decide_eq_false (fun z => nomatch z)]; rfl), iteT ?_⟩
        have hf3 := M3.same _ _ hfi
        refine ⟨_, rfl, _, rfl, _, _, _, _, _, rfl, M3.ins, T.c_Walker, T.a_first, rfl, _, _, rfl, .inr (SqT.of hf3), _, _, rfl, rfl, ?_⟩
        cases hfr : first[G.rs.length]? with
        | none =>
          have hstep : aStep S c first[G.rs.length]? = (false, true, S) := by
            unfold aStep
            rw [if_neg (by rw [hl]; decide), if_neg hR, hfr, if_neg (fun z => nomatch z)]
          have hlen := List.getElem?_eq_none_iff.mp hfr
          refine ⟨false, congrArg V.bl (decide_eq_false ?_), iteF (iteF ?_)⟩
          · show ¬ ((G.rs.length : Int) < ((first.map repV).length : Int))
            rw [List.length_map]
            omega
          exact rB _ _ true _ M3 k3 hstep
        | some v =>
          have hlen := (List.getElem?_eq_some_iff.mp hfr).1
          refine ⟨true, congrArg V.bl (decide_eq_true ?_), iteT ?_⟩
          · show ((G.rs.length : Int) < ((first.map repV).length : Int))
            rw [List.length_map]
            omega
          refine ⟨_, rfl, _, _, _, _, _, rfl, M3.ins, T.c_Walker, T.a_first, rfl, _, rfl, _, _, _, _, rfl, rfl, SqT.of hf3, atI_nat (j := G.rs.length) (show (first.map repV)[G.rs.length]? = some (repV v) by rw [List.getElem?_map, hfr]; rfl), ?_⟩
          cases v with
          | false =>
            have hstep : aStep S c first[G.rs.length]? = (false, true, S) := by
              unfold aStep
              rw [if_neg (by rw [hl]; decide), if_neg hR, hfr, if_neg (by decide)]
            refine ⟨rfl, false, rfl, iteF ?_⟩
            exact rB _ _ true _ M3 k3 hstep
          | true =>
            have hstep : aStep S c first[G.rs.length]? = (true, true, S.clear c) := by
              unfold aStep
              rw [if_neg (by rw [hl]; decide), if_neg hR, hfr, if_pos rfl]
            refine ⟨rfl, true, rfl, iteT ?_⟩
            have I3 : Sim (upd H1 (Y.ad 11) (.lst (G.cb ++ [V.bl true]))) { G with cb := G.cb ++ [V.bl true] } S b := (I.mono k3).eqG rfl rfl rfl rfl rfl rfl
            refine ⟨_, rfl, _, _, _, rfl, M3.ins, rfl, _, rfl, H0, Y, _, S, b, c, rfl, M3, I3, hb, hc, fun H4 q cs k4 hq0 hq hcs hcn hcl => ?_⟩
            have M4 := M3.mono k4
            have nqa : ∀ i, i < 14 → q ≠ Y.ad i := fun i hi e => by
              have h1 := M3.at_ i (by omega)
              rw [← e, hq0] at h1
              cases h1
            have hls0 : G.ls = (List.range G.n).map fun d => V.bl (S.lost d || decide (d ∈ cs.take 0)) := by
              rw [I.ls]
              refine List.map_congr_left fun d _ => ?_
              simp
            refine ⟨q, rfl, ⟨_, SqL.of hq⟩, for_list (K := K) (a := q) (xs := cs.map natV) (fun i σ H' => ∃ v4, σ = [some (.ref (Y.ad 0)), some (.int (c : Nat)), some (.int G.moment), some (.int (G.rs.length : Nat)), v4, none] ∧ ∃ l e : List V, MAt K H0 H' Y { G with cb := G.cb ++ [V.bl true], ls := (List.range G.n).map (fun d => V.bl (S.lost d || decide (d ∈ cs.take i))), la := G.la ++ l, ea := G.ea ++ e } ∧ Tups H H' ∧ H' q = some (.lst (cs.map natV)) ∧ l.length = i ∧ e.length = i ∧ ∀ v ∈ l, PairI H' v)
              ⟨none, rfl, [], [], by rw [← hls0, List.append_nil, List.append_nil]; exact M4, k3.trans k4.tups, hq, rfl, rfl, fun v hv => by simp at hv⟩ (fun i σ H' _ ⟨_, _, _, _, _, _, h, _⟩ => SqL.of h) ?_ ?_⟩
            · rintro i x σ H5 hi ⟨v4, rfl, l, e, M5, k5, hq5, hl5, he5, hp5⟩
              obtain ⟨d, hd, rfl⟩ : ∃ d, cs[i]? = some d ∧ natV d = x := by
                rw [List.getElem?_map] at hi
                cases z : cs[i]? with
                | none => rw [z] at hi; cases hi
                | some e => rw [z] at hi; exact ⟨e, rfl, Option.some.inj hi⟩
              have hic : i < cs.length := (List.getElem?_eq_some_iff.mp hd).1
              have hdn : d < S.n := hcn d (List.mem_of_getElem? hd)
              have e3 : cs.take (i + 1) = cs.take i ++ [d] := by rw [List.take_succ, hd]; rfl
              refine ⟨_, rfl, _, _, _, _, _, rfl, M5.ins, T.c_Walker, T.a_lost, rfl, _, rfl, _, _, _, d, rfl, rfl, M5.lost, ixN_nat (by show d < ((List.range G.n).map _).length; rw [List.length_map, List.length_range, I.n]; exact hdn), ?_⟩
              have hset : ((List.range G.n).map (fun d => V.bl (S.lost d || decide (d ∈ cs.take i)))).set d (V.bl true) = (List.range G.n).map (fun d => V.bl (S.lost d || decide (d ∈ cs.take (i + 1)))) := by
                rw [e3]
                exact set_or G.n d (fun d => S.lost d) (cs.take i) (by rw [I.n]; exact hdn)
              have M6 := M5.put_ls ((List.range G.n).map (fun d => V.bl (S.lost d || decide (d ∈ cs.take (i + 1)))))
              rw [← hset] at M6
              have t6 := tups_put (o := .lst (((List.range G.n).map (fun d => V.bl (S.lost d || decide (d ∈ cs.take i)))).set d (V.bl true))) M5.lost (fun xs z => nomatch z)
              -- late
              refine ⟨_, rfl, _, _, _, _, _, rfl, M6.ins, T.c_Walker, T.a_late, rfl, .inl ⟨rfl, _, SqL.of M6.late⟩, _, rfl, _, rfl, by show 2 ≤ sizeLine; decide, fun t ht => ?_⟩
              have s7 := Same.upd (o := .tup [.int G.moment, natV d]) ht
              have M7 := M6.mono s7
              refine ⟨_, _, _, rfl, rfl, M7.late, le_line (by show (G.la ++ l).length ≤ 100000; rw [List.length_append]; omega), ?_⟩
              have M8 := M7.put_la ((G.la ++ l) ++ [V.ref t])
              have t8 := tups_put (o := .lst ((G.la ++ l) ++ [V.ref t])) M7.late (fun xs z => nomatch z)
              -- early
              obtain ⟨o, ho, _, _, _⟩ := B.at_ hdn
              refine ⟨_, rfl, _, _, _, _, _, rfl, M8.ins, T.c_Walker, T.a_early, rfl, .inl ⟨rfl, _, SqL.of M8.early⟩, ?_⟩
              refine ⟨_, rfl, _, _, _, _, _, rfl, M8.ins, T.c_Walker, T.a_since, rfl, _, rfl, _, _, _, _, rfl, rfl, SqL.of M8.since, atI_nat (j := d) ho, _, rfl, by show 2 ≤ sizeLine; decide, fun t2 ht2 => ?_⟩
              have s9 := Same.upd (o := .tup [optI o, natV d]) ht2
              have M9 := M8.mono s9
              refine ⟨_, _, _, rfl, rfl, M9.early, le_line (by show (G.ea ++ e).length ≤ 100000; rw [List.length_append]; omega), ?_⟩
              have M10 := M9.put_ea ((G.ea ++ e) ++ [V.ref t2])
              have t10 := tups_put (o := .lst ((G.ea ++ e) ++ [V.ref t2])) M9.early (fun xs z => nomatch z)
              refine ⟨_, rfl, l ++ [V.ref t], e ++ [V.ref t2], ?_, k5.trans (t6.trans (s7.tups.trans (t8.trans (s9.tups.trans t10)))), ?_, by rw [List.length_append, hl5]; rfl, by rw [List.length_append, he5]; rfl, fun v hv => ?_⟩
              · rw [← hset, ← List.append_assoc, ← List.append_assoc]
                exact M10
              · rw [upd_ne (nqa 13 (by omega))]
                refine s9 _ _ ?_
                rw [upd_ne (nqa 12 (by omega))]
                refine s7 _ _ ?_
                rw [upd_ne (nqa 6 (by omega))]
                exact hq5
              · rcases List.mem_append.mp hv with hv | hv
                · obtain ⟨t', a, b', h1, h2⟩ := hp5 v hv
                  exact ⟨t', a, b', h1, t10 _ _ (s9.tups _ _ (t8 _ _ (s7.tups _ _ (t6 _ _ h2))))⟩
                · rw [List.mem_singleton] at hv
                  subst hv
                  exact ⟨t, G.moment, d, rfl, t10 _ _ (s9.tups _ _ (t8 _ _ upd_same))⟩
            · rintro σ H5 ⟨v4, rfl, l, e, M5, k5, hq5, hl5, he5, hp5⟩
              rw [List.length_map] at M5 hl5 he5
              have hls : (List.range G.n).map (fun d => V.bl (S.lost d || decide (d ∈ cs.take cs.length))) = (List.range G.n).map fun d => V.bl ((S.clear c).lost d) := by
                refine List.map_congr_left fun d _ => ?_
                rw [List.take_length]
                have e1 : (S.clear c).lost d = (S.lost d || decide (d ∈ cs)) := by
                  cases hh : (S.clear c).lost d with
                  | true =>
                    rcases (K82.clear_lost c d).mp hh with h | h
                    · rw [h]; rfl
                    · rw [decide_eq_true ((hcs d).mpr h), Bool.or_true]
                  | false =>
                    obtain ⟨h1, h2⟩ := (K82.clear_false c d).mp hh
                    rw [h1, decide_eq_false (fun z => h2 ((hcs d).mp z))]
                    rfl
                rw [e1]
              rw [hls] at M5
              have hq' := hQ H5 ((List.range G.n).map fun d => V.bl ((S.clear c).lost d)) (G.la ++ l) (G.ea ++ e) G.si
              rw [hstep] at hq'
              obtain ⟨si, e1, e2, e3⟩ := B.w
              refine hq' M5 ?_ ⟨l, rfl, hp5, by omega, fun z => nomatch z⟩ ⟨e, rfl, by omega⟩ ⟨si, e1, e2, e3⟩ k5
              exact ((I.mono k5).clear c hc ((List.range G.n).map fun d => V.bl ((S.clear c).lost d)) rfl).eqG rfl rfl rfl rfl rfl rfl
end
end K82W
end K82Decide_part
section K82Ask_part
set_option Elab.async false
set_option linter.all false
set_option maxRecDepth 100000
set_option maxHeartbeats 4000000
namespace K82W
open PySem PySem.Spec PyProof.Rows L2
structure TxN (K : PySem.W.Frag) (mg : Str → Option Value) : Prop extends TxM K mg where
  bE : mg "enumerate" = none
  g_MAXQ : ∃ t, mg "MAX_QUESTIONS" = some (.int 200 t)
section
variable {P : Program} {w : World} {K : PySem.W.Frag} {mg : Str → Option Value} {base : Heap}
/-- all that stands at a moment -/
structure Now (K : PySem.W.Frag) (H0 H : Hp) (Y : Lay) (G : Gh) (S : PMS) (b bw : Nat) (first rep cb : List Bool) (said : List (K82.Ans Str)) : Prop where
  M : MAt K H0 H Y G
  fi : H0 Y.first = some (.tup (first.map repV))
  qu : SqT K H0 Y.quiet []
  I : Sim H G S b
  b100 : b ≤ 100
  W : Wlk H G rep cb said bw
  bw1 : bw ≤ 1000
def spAsk (K : PySem.W.Frag) : Sp := fun vs H Q _ => ∃ (H0 : Hp) (Y : Lay) (G : Gh) (S : PMS) (b bw : Nat) (first rep cb : List Bool) (said : List (K82.Ans Str)) (c : Nat), vs = [.ref (Y.ad 0), .int (c : Nat)] ∧ Now K H0 H Y G S b bw first rep cb said ∧ SinceB G S ∧ c < S.n ∧ rep.length < 100 ∧
  ∀ H' G', Now K H0 H' Y G' (aStep S c first[rep.length]?).2.2 b bw first (rep ++ [(aStep S c first[rep.length]?).1]) (cb ++ [(aStep S c first[rep.length]?).2.1]) said → SinceW G' S.n (G.moment + 1) → Tups H H' → G'.place = G.place → G'.moment = G.moment → Q (repV (aStep S c first[rep.length]?).1) H'
theorem m_ask (T : TxN K mg) : Met P w K mg base 4 (CW K) "ask" p_Machine_ask (spAsk K) := by
  refine metN T.m_ask.2 T.m_ask.1 sc_Machine_ask (fun _ _ _ _ _ _ us hl => match us, hl with | [_, _], _ => rfl) (fun vs H Q E h => ?_) (fun cdv A outer s H vs Q E hr h => ?_)
  · obtain ⟨H0, Y, G, S, b, bw, first, rep, cb, said, c, rfl, _⟩ := h
    rfl
  · obtain ⟨H0, Y, G, S, b, bw, first, rep, cb, said, c, rfl, N, B, hc, hrl, hQ⟩ := h
    obtain ⟨M, hfi, hqu, I, hb, Wk, hbw⟩ := N
    obtain ⟨tq, hmq⟩ := T.g_MAXQ
    refine ⟨_, pss_cons (ps_if (pt_cmpR op_ge (pe_callB call_len_seq (by rfl) T.b_len PySem.boot_len (pa_cons (pe_fld (pv 0) rfl) pa_nil)) (pe_glob (v := .int 200) (by rfl) hmq ⟨tq, rfl⟩) (nomark _)) pss_never pss_nil)
      (pss_cons (ps_expr (pe_m (m_note T.toTxM) hr (by decide) passL T.c_Walker (pv 0) (pa_cons (pe_tup (pa_cons pe_str (pa_cons (pv 1) pa_nil))) pa_nil)))
      (pss_cons (ps_set (i := 2) sc_Machine_ask.nd rfl (Or.inl rfl) (pe_m (m_decide T.toTxM T.bE) hr (by decide) passL T.c_Walker (pv 0) (pa_cons (pv 1) pa_nil)))
      (pss_cons (ps_expr (pe_bm PySem.F.plainAttrs_list PySem.F.slot_list_append PySem.F.type_list_append mt_append (pe_fld (pv 0) rfl) (pa_cons (pv 2) pa_nil)))
      (pss_one (ps_ret (pv 2)))))), ?_⟩
    have hrs : G.rs.length = rep.length := by rw [Wk.rs, List.length_map]
    refine ⟨_, rfl, _, _, _, _, _, rfl, M.ins, T.c_Walker, T.a_replies, rfl, _, _, rfl, .inl (SqL.of M.replies), _, _, rfl, rfl, false, congrArg V.bl (decide_eq_false (by rw [hrs]; omega)), iteF ?_⟩
    refine ⟨_, rfl, _, _, _, rfl, M.ins, rfl, _, rfl, by show 2 ≤ sizeLine; decide, fun t ht => ?_⟩
    refine ⟨_, _, rfl, ?_⟩
    have s1 := Same.upd (o := .tup [.str "ask", .int (c : Nat)]) ht
    have M1 := M.mono s1
    have hcb : G.cb.length = rep.length := by rw [Wk.cbs, List.length_map, Wk.cbl]
    have hla := Wk.lal
    have hea := Wk.eal
    have hrb := Wk.rb
    refine ⟨_, rfl, _, _, _, rfl, M1.ins, rfl, _, rfl, H0, Y, G, S, b, c, first, rfl, M1, hfi, I.mono s1.tups, hb, B, hc, by omega, by omega, by omega, fun H2 ls la ea si M2 I2 hla2 hea2 hsw k2 => ?_⟩
    rw [hrs] at M2 I2 hla2 ⊢
    have M2' := M2
    refine ⟨_, rfl, _, _, _, _, _, rfl, M2.ins, T.c_Walker, T.a_replies, rfl, .inl ⟨rfl, _, SqL.of M2.replies⟩, _, rfl, _, _, _, rfl, rfl, M2.replies, le_line (by show G.rs.length ≤ 100000; omega), ?_⟩
    have M3 := M2.put_rs (G.rs ++ [repV (aStep S c first[rep.length]?).1])
    have k3 := tups_put (o := .lst (G.rs ++ [repV (aStep S c first[rep.length]?).1])) M2.replies (fun xs z => nomatch z)
    have kt := s1.tups.trans (k2.trans k3)
    refine ⟨_, rfl, ?_⟩
    obtain ⟨l, el, hl1, hl2, hl3⟩ := hla2
    obtain ⟨e, ee, he1⟩ := hea2
    obtain ⟨si', f1, f2, f3⟩ := hsw
    refine hQ _ _ ⟨M3, hfi, hqu, (I2.mono k3).eqG rfl rfl rfl rfl rfl rfl, hb, ?_, hbw⟩ ⟨si', f1, f2, f3⟩ kt rfl rfl
    have Wm := Wk.mono kt
    refine ⟨?_, ?_, ?_, ?_, Wm.ss, Wm.sb, Wm.fm, ?_, ?_, ?_, ?_⟩
    · show G.rs ++ [_] = _
      rw [Wk.rs, List.map_append]
      rfl
    · show G.cb ++ [_] = _
      rw [Wk.cbs, List.map_append]
      rfl
    · rw [List.length_append, List.length_append, Wk.cbl]
      rfl
    · rw [List.length_append, List.length_singleton]
      omega
    · intro v hv
      have hv : v ∈ la := hv
      rw [el] at hv
      rcases List.mem_append.mp hv with hv | hv
      · exact Wm.la v hv
      · obtain ⟨t', i, j, q1, q2⟩ := hl1 v hv
        exact ⟨t', i, j, q1, k3 _ _ q2⟩
    · show la.length ≤ _
      rw [el, List.length_append, List.length_append, List.length_singleton]
      omega
    · intro hall
      show la = []
      have h1 : (aStep S c first[rep.length]?).1 = false := hall _ (List.mem_append_right _ (List.mem_singleton.mpr rfl))
      rw [el, hl3 h1, List.append_nil]
      exact Wk.la0 fun r hr => hall r (List.mem_append_left _ hr)
    · show ea.length ≤ _
      rw [ee, List.length_append, List.length_append, List.length_singleton]
      omega
end
end K82W
end K82Ask_part
section K82Step_part
set_option Elab.async false
set_option linter.all false
set_option maxRecDepth 100000
set_option maxHeartbeats 4000000
namespace K82W
open PySem PySem.Spec PyProof.Rows L2
/-- what a statement does: what there is then, the answers, whether yes could be, what is said -/
structure Dst where
  S : PMS
  rs : List Bool
  cs : List Bool
  sd : List (K82.Ans Str)
noncomputable def dstep : PStm → PMS → Option Bool → Option Dst
  | .make x, S, _ => some ⟨S.make x, [], [], []⟩
  | .wish x w, S, _ => match S.env x with
    | none => none
    | some c => some ⟨S.wishes c w, [], [], []⟩
  | .keep x, S, _ => match S.env x with
    | none => none
    | some c => some ⟨S.keep c, [], [], []⟩
  | .name x y, S, _ => match S.env y with
    | none => none
    | some c => some ⟨S.stand x (some c), [], [], []⟩
  | .drop x, S, _ => some ⟨S.stand x none, [], [], []⟩
  | .hold x f y, S, _ => match S.env x, S.env y with
    | some a, some b => some ⟨S.fill a f (some (b, true)), [], [], []⟩
    | _, _ => none
  | .weak x f y, S, _ => match S.env x, S.env y with
    | some a, some b => some ⟨S.fill a f (some (b, false)), [], [], []⟩
    | _, _ => none
  | .cut x f, S, _ => match S.env x with
    | none => none
    | some a => some ⟨S.fill a f none, [], [], []⟩
  | .take z x f, S, h => match S.env x with
    | none => none
    | some a => match S.fld a f with
      | none => some ⟨S.stand z none, [], [], []⟩
      | some (c, _) => some ⟨(aStep S c h).2.2.stand z (if (aStep S c h).1 = true then none else some c), [(aStep S c h).1], [(aStep S c h).2.1], []⟩
  | .say w, S, _ => some ⟨S, [], [], [.said w]⟩
  | .askF x f, S, h => match S.env x with
    | none => none
    | some a => match S.fld a f with
      | none => some ⟨S, [], [], [.no]⟩
      | some (c, _) => some ⟨(aStep S c h).2.2, [(aStep S c h).1], [(aStep S c h).2.1], [if (aStep S c h).1 = true then .no else .yes]⟩
  | .askW w, S, h => match S.wish with
    | none => some ⟨S, [], [], [.no]⟩
    | some (c, w') => if w' = w then some ⟨(aStep S c h).2.2, [(aStep S c h).1], [(aStep S c h).2.1], [if (aStep S c h).1 = true then .yes else .no]⟩ else some ⟨S, [], [], [.no]⟩
theorem follow_ask (S : PMS) (c : Nat) (k : PMS → Bool → K82.Tree Str) (f : List Bool) : K82.follow (K82.ask S c k) f = (K82.follow (k (aStep S c f.head?).2.2 (aStep S c f.head?).1) f.tail).cons (aStep S c f.head?).1 (aStep S c f.head?).2.1 := by
  unfold K82.ask aStep
  by_cases h1 : S.lost c = true
  · rw [if_pos h1, if_pos h1]
    rfl
  · rw [if_neg h1, if_neg h1]
    by_cases h2 : K82.Reach S c
    · rw [if_pos h2, if_pos h2]
      rfl
    · rw [if_neg h2, if_neg h2]
      by_cases h3 : f.head? = some true
      · rw [if_pos h3]
        show (if f.head? = some true then _ else _) = _
        rw [if_pos h3]
      · rw [if_neg h3]
        show (if f.head? = some true then _ else _) = _
        rw [if_neg h3]
def joinW (said : List (K82.Ans Str)) (p : Nat) (r : List PStm) (f : List Bool) : Option Dst → K82.Walk Str → Prop
  | none, W => W = ⟨[], [], said, some p⟩
  | some d, W => W = ⟨d.rs ++ (K82.follow (K82.tree r d.S (said ++ d.sd) (p + 1)) (f.drop d.rs.length)).rep, d.cs ++ (K82.follow (K82.tree r d.S (said ++ d.sd) (p + 1)) (f.drop d.rs.length)).cb, (K82.follow (K82.tree r d.S (said ++ d.sd) (p + 1)) (f.drop d.rs.length)).said, (K82.follow (K82.tree r d.S (said ++ d.sd) (p + 1)) (f.drop d.rs.length)).stop⟩
theorem follow_step (st : PStm) (r : List PStm) (S : PMS) (said : List (K82.Ans Str)) (p : Nat) (f : List Bool) : joinW said p r f (dstep st S f.head?) (K82.follow (K82.tree (st :: r) S said p) f) := by
  have plain : ∀ S' : PMS, joinW said p r f (some ⟨S', [], [], []⟩) (K82.follow (K82.tree r S' said (p + 1)) f) := fun S' => by
    simp [joinW]
  have plain2 : ∀ (S' : PMS) (a : K82.Ans Str), joinW said p r f (some ⟨S', [], [], [a]⟩) (K82.follow (K82.tree r S' (said ++ [a]) (p + 1)) f) := fun S' a => by
    simp [joinW]
  have stop : joinW said p r f none (K82.follow (.leaf said (some p)) f) := rfl
  cases st with
  | make x => exact plain _
  | wish x w =>
    simp only [dstep, K82.tree]
    cases S.env x with
    | none => exact stop
    | some c => exact plain _
  | keep x =>
    simp only [dstep, K82.tree]
    cases S.env x with
    | none => exact stop
    | some c => exact plain _
  | name x y =>
    simp only [dstep, K82.tree]
    cases S.env y with
    | none => exact stop
    | some c => exact plain _
  | drop x => exact plain _
  | hold x g y =>
    simp only [dstep, K82.tree]
    cases S.env x with
    | none => exact stop
    | some a =>
      cases S.env y with
      | none => exact stop
      | some b => exact plain _
  | weak x g y =>
    simp only [dstep, K82.tree]
    cases S.env x with
    | none => exact stop
    | some a =>
      cases S.env y with
      | none => exact stop
      | some b => exact plain _
  | cut x g =>
    simp only [dstep, K82.tree]
    cases S.env x with
    | none => exact stop
    | some a => exact plain _
  | take z x g =>
    simp only [dstep, K82.tree]
    cases S.env x with
    | none => exact stop
    | some a =>
      dsimp only
      cases S.fld a g with
      | none => exact plain _
      | some q =>
        obtain ⟨c, s⟩ := q
        dsimp only
        rw [follow_ask]
        simp [joinW, K82.Walk.cons]
  | say w => exact plain2 _ _
  | askF x g =>
    simp only [dstep, K82.tree]
    cases S.env x with
    | none => exact stop
    | some a =>
      dsimp only
      cases S.fld a g with
      | none => exact plain2 _ _
      | some q =>
        obtain ⟨c, s⟩ := q
        dsimp only
        rw [follow_ask]
        simp [joinW, K82.Walk.cons]
  | askW w =>
    simp only [dstep, K82.tree]
    cases S.wish with
    | none => exact plain2 _ _
    | some q =>
      obtain ⟨c, w'⟩ := q
      dsimp only
      by_cases e : w' = w
      · rw [if_pos e, if_pos e]
        rw [follow_ask]
        simp [joinW, K82.Walk.cons]
      · rw [if_neg e, if_neg e]
        exact plain2 _ _
end K82W
end K82Step_part
section K82Deeds_part
set_option Elab.async false
set_option linter.all false
set_option maxRecDepth 100000
set_option maxHeartbeats 4000000
namespace K82W
open PySem PySem.Spec PyProof.Rows L2
structure TxD (K : PySem.W.Frag) (mg : Str → Option Value) : Prop extends TxN K mg where
  d_do_make : FunE K "do_make" "do_make" s_do_make (He.ga K "do_make")
  d_do_wish : FunE K "do_wish" "do_wish" s_do_wish (He.ga K "do_wish")
  d_do_keep : FunE K "do_keep" "do_keep" s_do_keep (He.ga K "do_keep")
  d_do_name : FunE K "do_name" "do_name" s_do_name (He.ga K "do_name")
  d_do_drop : FunE K "do_drop" "do_drop" s_do_drop (He.ga K "do_drop")
  d_do_hold : FunE K "do_hold" "do_hold" s_do_hold (He.ga K "do_hold")
  d_do_weak : FunE K "do_weak" "do_weak" s_do_weak (He.ga K "do_weak")
  d_do_cut : FunE K "do_cut" "do_cut" s_do_cut (He.ga K "do_cut")
  d_do_take : FunE K "do_take" "do_take" s_do_take (He.ga K "do_take")
  d_do_say : FunE K "do_say" "do_say" s_do_say (He.ga K "do_say")
  d_do_ask : FunE K "do_ask" "do_ask" s_do_ask (He.ga K "do_ask")
  d_is_true : FunE K "is_true" "is_true" s_is_true (He.ga K "is_true")
  g_is_true : mg "is_true" = some (.ref (He.ga K "is_true"))
/-- the layout is another one at new cells alone -/
structure YL (Y Y' : Lay) : Prop where
  C : Y'.C = Y.C
  blk : Y'.blk = Y.blk
  bits : Y'.bits = Y.bits
  first : Y'.first = Y.first
  quiet : Y'.quiet = Y.quiet
  ad : ∀ i, i < 14 → Y'.ad i = Y.ad i
theorem YL.refl (Y : Lay) : YL Y Y := ⟨rfl, rfl, rfl, rfl, rfl, fun _ _ => rfl⟩
theorem YL.trans {A B C : Lay} (h : YL A B) (k : YL B C) : YL A C := ⟨k.C.trans h.C, k.blk.trans h.blk, k.bits.trans h.bits, k.first.trans h.first, k.quiet.trans h.quiet, fun i hi => (k.ad i hi).trans (h.ad i hi)⟩
theorem YL.mfs {Y Y' : Lay} (h : YL Y Y') (G : Gh) : mfs Y' G = mfs Y G := by
  unfold K82W.mfs
  rw [h.blk, h.bits, h.first, h.quiet, h.ad 2 (by omega), h.ad 3 (by omega), h.ad 4 (by omega), h.ad 5 (by omega), h.ad 6 (by omega), h.ad 7 (by omega), h.ad 8 (by omega), h.ad 9 (by omega), h.ad 10 (by omega), h.ad 11 (by omega), h.ad 12 (by omega), h.ad 13 (by omega)]
/-- a deed -/
def spDeed (K : PySem.W.Frag) (ok : PStm → Prop) : Sp := fun vs H Q E => ∃ (H0 : Hp) (Y : Lay) (G : Gh) (S : PMS) (b bw : Nat) (first rep cb : List Bool) (said : List (K82.Ans Str)) (v : V) (st : PStm), vs = [.ref (Y.ad 0), v] ∧ ok st ∧ StmAt H v st ∧
  Now K H0 H Y G S b bw first rep cb said ∧ SinceB G S ∧ b + 1 ≤ 100 ∧ bw + 1 ≤ 1000 ∧ rep.length + K82.reads st ≤ 100 ∧ (isWish st = true → S.wish = none) ∧
  (dstep st S first[rep.length]? = none → WhyAt K E H) ∧
  ∀ d, dstep st S first[rep.length]? = some d → ∀ H' Y' G', Now K H0 H' Y' G' d.S (b + 1) (bw + 1) first (rep ++ d.rs) (cb ++ d.cs) (said ++ d.sd) → SinceW G' d.S.n (G.moment + 1) → Tups H H' → G'.place = G.place → G'.moment = G.moment → YL Y Y' → Q .non H'
theorem Sim.stand2 {H : Hp} {G : Gh} {S : PMS} {b b' : Nat} (I : Sim H G S b) (hb : b ≤ b') (hk : G.ks.length + 1 ≤ b') (x : Str) (c : Option Nat) (hc : ∀ d, c = some d → d < S.n) : Sim H { G with ks := putK G.ks (.inr x) (optV c) } (S.stand x c) b' := by
  have J := I.stand x c hc
  exact ⟨J.n, Nat.le_trans I.nb hb, J.st1, J.st2, Nat.le_trans (length_putK _ _ _) hk, J.kp1, J.kp2, Nat.le_trans I.kpb hb, J.cd1, J.cd2, fun d => Nat.le_trans (I.cdb d) hb, J.fldB, J.envB, J.keptB, J.ws, J.wishB, J.ls, J.lostB⟩
def Gh.more (G : Gh) : Gh := { G with n := G.n + 1, ws := G.ws ++ [.non], ls := G.ls ++ [.bl false], cd := fun c => if c = G.n then [] else G.cd c }
def Lay.mk' (Y : Lay) (n : Nat) (d : Addr) : Lay := { Y with ad := fun i => if i = 14 + n then d else Y.ad i }
theorem Lay.mk_like (Y : Lay) (n : Nat) (d : Addr) : YL Y (Y.mk' n d) := ⟨rfl, rfl, rfl, rfl, rfl, fun i hi => if_neg (by omega)⟩
section
variable {P : Program} {w : World} {K : PySem.W.Frag} {mg : Str → Option Value} {base : Heap}
theorem MAt.make {H0 H : Hp} {Y : Lay} {G : Gh} (M : MAt K H0 H Y G) {d : Addr} (hd : H d = none) :
    MAt K H0 (upd (upd (upd (upd H d (.dK [])) (Y.ad 4) (.lst ((List.range G.n).map (fun c => V.ref (Y.ad (14 + c))) ++ [.ref d]))) (Y.ad 5) (.lst (G.ws ++ [.non]))) (Y.ad 6) (.lst (G.ls ++ [.bl false]))) (Y.mk' G.n d) G.more where
  cls := M.cls
  same := fun b u e => by
    have h1 := M.same b u e
    rw [upd_ne (ne_of_none e (M.fresh 6 (by omega))), upd_ne (ne_of_none e (M.fresh 5 (by omega))), upd_ne (ne_of_none e (M.fresh 4 (by omega))), upd_ne (ne_of_none h1 hd)]
    exact h1
  inj := fun i j hi hj e => by
    have hi : i < 14 + (G.n + 1) := hi
    have hj : j < 14 + (G.n + 1) := hj
    have e : (if i = 14 + G.n then d else Y.ad i) = (if j = 14 + G.n then d else Y.ad j) := e
    by_cases h1 : i = 14 + G.n
    · by_cases h2 : j = 14 + G.n
      · omega
      · rw [if_pos h1, if_neg h2] at e
        have := M.at_ j (by omega)
        rw [← e, hd] at this
        cases this
    · by_cases h2 : j = 14 + G.n
      · rw [if_neg h1, if_pos h2] at e
        have := M.at_ i (by omega)
        rw [e, hd] at this
        cases this
      · rw [if_neg h1, if_neg h2] at e
        exact M.inj i j (by omega) (by omega) e
  fresh := fun i hi => by
    have hi : i < 14 + (G.n + 1) := hi
    show H0 (if i = 14 + G.n then d else Y.ad i) = none
    by_cases h1 : i = 14 + G.n
    · rw [if_pos h1]
      exact M.same.free hd
    · rw [if_neg h1]
      exact M.fresh i (by omega)
  at_ := fun i hi => by
    have hi : i < 14 + (G.n + 1) := hi
    have nd : ∀ j, j < 14 + G.n → Y.ad j ≠ d := fun j hj => ne_of_none (M.at_ j hj) hd
    have nn : ∀ j k, j ≠ k → j < 14 + G.n → k < 14 + G.n → Y.ad j ≠ Y.ad k := fun j k h hj hk e => h (M.inj j k hj hk e)
    by_cases h1 : i = 14 + G.n
    · subst h1
      have ea : (Y.mk' G.n d).ad (14 + G.n) = d := if_pos rfl
      rw [ea, upd_ne (nd 6 (by omega)).symm, upd_ne (nd 5 (by omega)).symm, upd_ne (nd 4 (by omega)).symm, upd_same, obj_cd]
      show _ = some (HO.dK (if G.n = G.n then [] else G.cd G.n))
      rw [if_pos rfl]
    · have hi2 : i < 14 + G.n := by omega
      have ea : (Y.mk' G.n d).ad i = Y.ad i := if_neg h1
      have hm := M.at_ i hi2
      rw [ea]
      by_cases h6 : i = 6
      · subst h6
        rw [upd_same]
        rfl
      by_cases h5 : i = 5
      · subst h5
        rw [upd_ne (nn 5 6 (by decide) (by omega) (by omega)), upd_same]
        rfl
      by_cases h4 : i = 4
      · subst h4
        rw [upd_ne (nn 4 6 (by decide) (by omega) (by omega)), upd_ne (nn 4 5 (by decide) (by omega) (by omega)), upd_same]
        show _ = some (HO.lst ((List.range (G.n + 1)).map fun c => V.ref ((Y.mk' G.n d).ad (14 + c))))
        rw [List.range_succ, List.map_append]
        have e1 : (List.range G.n).map (fun c => V.ref ((Y.mk' G.n d).ad (14 + c))) = (List.range G.n).map fun c => V.ref (Y.ad (14 + c)) := by
          refine List.map_congr_left fun c hc => ?_
          have := List.mem_range.mp hc
          rw [show (Y.mk' G.n d).ad (14 + c) = Y.ad (14 + c) from if_neg (by omega)]
        have e2 : (Y.mk' G.n d).ad (14 + G.n) = d := if_pos rfl
        rw [e1]
        show _ = some (HO.lst (_ ++ [V.ref ((Y.mk' G.n d).ad (14 + G.n))]))
        rw [e2]
      rw [upd_ne (nn i 6 h6 hi2 (by omega)), upd_ne (nn i 5 h5 hi2 (by omega)), upd_ne (nn i 4 h4 hi2 (by omega)), upd_ne (nd i hi2), hm]
      by_cases q : i < 14
      · match i, q with
        | 0, _ =>
          show some (HO.ins Y.C (Y.ad 1) (mfs Y G)) = some (HO.ins Y.C ((Y.mk' G.n d).ad 1) (mfs (Y.mk' G.n d) G))
          rw [(Y.mk_like G.n d).ad 1 (by omega), (Y.mk_like G.n d).mfs]
        | 1, _ =>
          show some (HO.own (Y.ad 0)) = some (HO.own ((Y.mk' G.n d).ad 0))
          rw [(Y.mk_like G.n d).ad 0 (by omega)]
        | 2, _ => rfl
        | 3, _ => rfl
        | 4, _ => exact absurd rfl h4
        | 5, _ => exact absurd rfl h5
        | 6, _ => exact absurd rfl h6
        | 7, _ => rfl
        | 8, _ => rfl
        | 9, _ => rfl
        | 10, _ => rfl
        | 11, _ => rfl
        | 12, _ => rfl
        | 13, _ => rfl
      · obtain ⟨c, rfl⟩ : ∃ c, i = 14 + c := ⟨i - 14, by omega⟩
        rw [obj_cd, obj_cd]
        show some (HO.dK (G.cd c)) = some (HO.dK (if c = G.n then [] else G.cd c))
        rw [if_neg (by omega)]
theorem Sim.make {H H' : Hp} {G : Gh} {S : PMS} {b : Nat} (I : Sim H G S b) (k : Tups H H') : Sim H' G.more { S with n := S.n + 1 } (b + 1) where
  n := by show G.n + 1 = S.n + 1; rw [I.n]
  nb := Nat.succ_le_succ I.nb
  st1 := I.st1
  st2 := I.st2
  stb := Nat.le_succ_of_le I.stb
  kp1 := I.kp1
  kp2 := I.kp2
  kpb := Nat.le_succ_of_le I.kpb
  cd1 := fun c hc q hq => by
    have hc : c < G.n + 1 := hc
    have hq : q ∈ (if c = G.n then [] else G.cd c) := hq
    by_cases e : c = G.n
    · rw [if_pos e] at hq
      cases hq
    · rw [if_neg e] at hq
      obtain ⟨f, e1, r⟩ := I.cd1 c (by omega) q hq
      exact ⟨f, e1, r.mono k⟩
  cd2 := fun c f v h => by
    show ∃ u, (Sum.inr f, u) ∈ (if c = G.n then [] else G.cd c)
    have hf := (I.fldB c f v h).1
    rw [if_neg (by rw [I.n]; omega)]
    exact I.cd2 c f v h
  cdb := fun c => by
    show (if c = G.n then [] else G.cd c).length ≤ b + 1
    split
    · exact Nat.zero_le _
    · exact Nat.le_succ_of_le (I.cdb c)
  fldB := fun c f v h => ⟨Nat.lt_succ_of_lt (I.fldB c f v h).1, Nat.lt_succ_of_lt (I.fldB c f v h).2⟩
  envB := fun x c h => Nat.lt_succ_of_lt (I.envB x c h)
  keptB := fun c h => Nat.lt_succ_of_lt (I.keptB c h)
  ws := by
    show G.ws ++ [.non] = (List.range (G.n + 1)).map (wishV S.wish)
    rw [List.range_succ, List.map_append, I.ws]
    have : wishV S.wish G.n = .non := by
      cases h : S.wish with
      | none => rfl
      | some q =>
        obtain ⟨d, w⟩ := q
        have := I.wishB d w h
        show (if d = G.n then V.str w else V.non) = V.non
        rw [if_neg (by rw [I.n]; omega)]
    rw [List.map_cons, this]
    rfl
  wishB := fun c w h => Nat.lt_succ_of_lt (I.wishB c w h)
  ls := by
    show G.ls ++ [.bl false] = (List.range (G.n + 1)).map fun c => V.bl (S.lost c)
    rw [List.range_succ, List.map_append, I.ls]
    have : S.lost G.n = false := by
      cases h : S.lost G.n with
      | false => rfl
      | true =>
        have := I.lostB _ h
        rw [I.n] at this
        exact absurd this (Nat.lt_irrefl _)
    rw [List.map_cons, this]
    rfl
  lostB := fun c h => Nat.lt_succ_of_lt (I.lostB c h)
end
end K82W
end K82Deeds_part
section K82Do_part
set_option Elab.async false
set_option linter.all false
set_option maxRecDepth 100000
set_option maxHeartbeats 4000000
namespace K82W
open PySem PySem.Spec PyProof.Rows L2
section
variable (P : Program) (w : World) (K : PySem.W.Frag) (mg : Str → Option Value) (base : Heap)
/-- a def at f, however it is reached -/
def Fnc (k : Nat) (f : Addr) (ps : List Str) (sp : Sp) : Prop := ∃ fd, FnOk P w K mg base (CX P w) k f fd ps sp ∧ PySem.W.keepIn K (.ref f) = true ∧ Binds K fd ps []
end
section
variable {P : Program} {w : World} {K : PySem.W.Frag} {mg : Str → Option Value} {base : Heap}
theorem Fnc.up {k k' : Nat} {f : Addr} {ps : List Str} {sp : Sp} (h : Fnc P w K mg base k f ps sp) (hk : k ≤ k') : Fnc P w K mg base k' f ps sp := by
  obtain ⟨fd, F, a, b⟩ := h
  exact ⟨fd, { F with run := fun A outer s H args us vs Q E hr => F.run A outer s H args us vs Q E (hr.mono hk) }, a, b⟩
theorem fncN {x : Str} {st : Stmt} {f : Addr} {N ps : List Str} {k : Nat} {sp : Sp} (F : FunE K x x st f) (S : FnScope N ps (defScope st)) (b : BindsH x x st ps)
    (len : ∀ vs H Q E, sp vs H Q E → vs.length = ps.length) (hb : BodyN P w K mg base x st f N k sp) : Fnc P w K mg base (k + 1) f ps sp := by
  obtain ⟨fd, F⟩ := F
  exact ⟨fd, fnN F S len hb, F.kp, F.bindsN b⟩
theorem fncX {x : Str} {st : Stmt} {f : Addr} {N ps : List Str} {k : Nat} {sp : Sp} (F : FunE K x x st f) (S : FnScope N ps (defScope st)) (b : BindsH x x st ps)
    (len : ∀ vs H Q E, sp vs H Q E → vs.length = ps.length) (hb : BodyX P w K mg base x st f N k sp) : Fnc P w K mg base (k + 1) f ps sp := by
  obtain ⟨fd, F⟩ := F
  exact ⟨fd, fnX F S len hb, F.kp, F.bindsN b⟩
theorem len2 {vs : List V} {a b : V} {ps : List Str} (h : vs = [a, b]) (hp : ps.length = 2) : vs.length = ps.length := by rw [h, hp]; rfl
theorem deed_len {ok : PStm → Prop} {ps : List Str} (hp : ps.length = 2) : ∀ vs H Q E, spDeed K ok vs H Q E → vs.length = ps.length := fun vs H Q E h => by
  obtain ⟨H0, Y, G, S, b, bw, first, rep, cb, said, v, st, e, _⟩ := h
  exact len2 e hp
theorem SinceB.wn {G : Gh} {S : PMS} (h : SinceB G S) {n : Nat} (hn : S.n ≤ n) : SinceW G n (G.moment + 1) := by
  obtain ⟨si, e, h1, h2⟩ := h.w
  exact ⟨si, e, Nat.le_trans h1 hn, h2⟩
theorem SinceW.eqG {G G' : Gh} {n : Nat} {t : Int} (h : SinceW G n t) (e : G'.si = G.si) : SinceW G' n t := by
  obtain ⟨si, e1, h1⟩ := h
  exact ⟨si, by rw [e]; exact e1, h1⟩
/-! ### make -/
theorem do_make_ok (T : TxD K mg) : Fnc P w K mg base 3 (He.ga K "do_make") p_do_make (spDeed K fun st => ∃ x, st = .make x) := by
  refine fncN T.d_do_make sc_do_make (fun _ _ _ _ _ _ us hl => match us, hl with | [_, _], _ => rfl) (deed_len rfl) (fun cdv A outer s H vs Q E hr h => ?_)
  obtain ⟨H0, Y, G, S, b, bw, first, rep, cb, said, v, st, rfl, ⟨x, rfl⟩, ⟨a, bx, rfl, ha, _⟩, N, B, hb1, hbw1, hrl, hwi, _, hQ⟩ := h
  obtain ⟨M, hfi, hqu, I, hb, Wk, hbw⟩ := N
  refine ⟨_, pss_cons (ps_set (i := 2) sc_do_make.nd rfl (Or.inl rfl) (pe_callB call_len_seq (by rfl) T.b_len PySem.boot_len (pa_cons (pe_fld (pv 0) rfl) pa_nil)))
    (pss_cons (ps_expr (pe_bm PySem.F.plainAttrs_list PySem.F.slot_list_append PySem.F.type_list_append mt_append (pe_fld (pv 0) rfl) (pa_cons pe_dnewK pa_nil)))
    (pss_cons (ps_expr (pe_bm PySem.F.plainAttrs_list PySem.F.slot_list_append PySem.F.type_list_append mt_append (pe_fld (pv 0) rfl) (pa_cons pe_non pa_nil)))
    (pss_cons (ps_expr (pe_bm PySem.F.plainAttrs_list PySem.F.slot_list_append PySem.F.type_list_append mt_append (pe_fld (pv 0) rfl) (pa_cons pe_bl pa_nil)))
    (pss_cons (ps_expr (pe_m (m_note T.toTxM) hr (by decide) passL T.c_Walker (pv 0) (pa_cons (pe_tup (pa_cons pe_str (pa_cons (pv 2) pa_nil))) pa_nil)))
    (pss_one (ps_expr (pe_m (m_stand T.toTxM) hr (by decide) passL T.c_Walker (pv 0) (pa_cons (pe_ix ix_tup (pv 1) pe_int (fun _ _ => rfl)) (pa_cons (pv 2) pa_nil))))))))), ?_⟩
  have hn100 : G.n ≤ 100 := Nat.le_trans I.nb hb
  refine ⟨_, rfl, _, _, _, _, _, rfl, M.ins, T.c_Walker, T.a_contents, rfl, _, _, rfl, .inl (SqL.of M.contents), ?_⟩
  have hcl : (((List.range G.n).map fun c => V.ref (Y.ad (14 + c))).length : Int) = ((G.n : Nat) : Int) := by rw [List.length_map, List.length_range]
  rw [hcl]
  refine ⟨_, rfl, _, _, _, _, _, rfl, M.ins, T.c_Walker, T.a_contents, rfl, .inl ⟨rfl, _, SqL.of M.contents⟩, fun d hd => ?_⟩
  have nd : ∀ j, j < 14 → Y.ad j ≠ d := fun j hj => ne_of_none (M.at_ j (by omega)) hd
  have nn : ∀ j k, j ≠ k → j < 14 → k < 14 → Y.ad j ≠ Y.ad k := fun j k h hj hk e => h (M.inj j k (by omega) (by omega) e)
  have hc1 : upd H d (.dK []) (Y.ad 4) = _ := (upd_ne (nd 4 (by omega))).trans M.contents
  refine ⟨_, _, _, rfl, rfl, hc1, le_line (by rw [List.length_map, List.length_range]; omega), ?_⟩
  have hi2 : upd (upd H d (.dK [])) (Y.ad 4) (.lst ((List.range G.n).map (fun c => V.ref (Y.ad (14 + c))) ++ [.ref d])) (Y.ad 0) = some (.ins (CW K) (Y.ad 1) (mfs Y G)) := by
    rw [upd_ne (nn 0 4 (by decide) (by omega) (by omega)), upd_ne (nd 0 (by omega))]
    exact M.ins
  have hw2 : upd (upd H d (.dK [])) (Y.ad 4) (.lst ((List.range G.n).map (fun c => V.ref (Y.ad (14 + c))) ++ [.ref d])) (Y.ad 5) = some (.lst G.ws) := by
    rw [upd_ne (nn 5 4 (by decide) (by omega) (by omega)), upd_ne (nd 5 (by omega))]
    exact M.wishes
  have hwl : G.ws.length = G.n := by rw [I.ws, List.length_map, List.length_range]
  have hll : G.ls.length = G.n := by rw [I.ls, List.length_map, List.length_range]
  refine ⟨_, rfl, _, _, _, _, _, rfl, hi2, T.c_Walker, T.a_wishes, rfl, .inl ⟨rfl, _, SqL.of hw2⟩, _, _, _, rfl, rfl, hw2, le_line (by omega), ?_⟩
  have hi3 : upd (upd (upd H d (.dK [])) (Y.ad 4) (.lst ((List.range G.n).map (fun c => V.ref (Y.ad (14 + c))) ++ [.ref d]))) (Y.ad 5) (.lst (G.ws ++ [.non])) (Y.ad 0) = some (.ins (CW K) (Y.ad 1) (mfs Y G)) := by
    rw [upd_ne (nn 0 5 (by decide) (by omega) (by omega))]
    exact hi2
  have hl3 : upd (upd (upd H d (.dK [])) (Y.ad 4) (.lst ((List.range G.n).map (fun c => V.ref (Y.ad (14 + c))) ++ [.ref d]))) (Y.ad 5) (.lst (G.ws ++ [.non])) (Y.ad 6) = some (.lst G.ls) := by
    rw [upd_ne (nn 6 5 (by decide) (by omega) (by omega)), upd_ne (nn 6 4 (by decide) (by omega) (by omega)), upd_ne (nd 6 (by omega))]
    exact M.lost
  refine ⟨_, rfl, _, _, _, _, _, rfl, hi3, T.c_Walker, T.a_lost, rfl, .inl ⟨rfl, _, SqL.of hl3⟩, _, _, _, rfl, rfl, hl3, le_line (by omega), ?_⟩
  have M4 := M.make hd
  have k4 : Tups H (upd (upd (upd (upd H d (.dK [])) (Y.ad 4) (.lst ((List.range G.n).map (fun c => V.ref (Y.ad (14 + c))) ++ [.ref d]))) (Y.ad 5) (.lst (G.ws ++ [.non]))) (Y.ad 6) (.lst (G.ls ++ [.bl false]))) :=
    (Same.upd hd).tups.trans ((tups_put hc1 (fun xs z => nomatch z)).trans ((tups_put hw2 (fun xs z => nomatch z)).trans (tups_put hl3 (fun xs z => nomatch z))))
  have L := Y.mk_like G.n d
  have e0 : (Y.mk' G.n d).ad 0 = Y.ad 0 := L.ad 0 (by omega)
  have hi4 := M4.ins
  rw [e0] at hi4
  refine ⟨_, rfl, _, _, _, rfl, hi4, rfl, _, rfl, by show 2 ≤ sizeLine; decide, fun t ht => ⟨_, _, rfl, ?_⟩⟩
  have s5 := Same.upd (o := .tup [.str "make", .int (G.n : Nat)]) ht
  have M5 := M4.mono s5
  have I5 : Sim _ G.more { S with n := S.n + 1 } (b + 1) := I.make (k4.trans s5.tups)
  have kt := k4.trans s5.tups
  have hi5 := M5.ins
  rw [e0] at hi5
  refine ⟨_, rfl, _, _, _, rfl, hi5, rfl, _, rfl, a, _, _, _, rfl, rfl, SqT.of (kt _ _ ha), atI_nat (j := 1) rfl, _, rfl, H0, Y.mk' G.n d, G.more, _, b + 1, x, some G.n, by rw [e0]; rfl, M5, I5, hb1, fun d hd => by cases hd; rw [I.n]; exact Nat.lt_succ_self _, fun H6 G6 M6 _ k6 eG => ?_⟩
  have eS : S.make x = ({ S with n := S.n + 1 } : PMS).stand x (some G.n) := by rw [I.n]; rfl
  have eq := hQ ⟨S.make x, [], [], []⟩ rfl H6 (Y.mk' G.n d) G6
  rw [List.append_nil, List.append_nil, List.append_nil] at eq
  subst eG
  refine eq ⟨M6, by rw [L.first]; exact hfi, by rw [L.quiet]; exact hqu, ?_, hb1, ?_, hbw1⟩ ?_ (kt.trans k6) rfl rfl L
  · show Sim H6 _ (S.make x) (b + 1)
    rw [eS]
    exact (I5.mono k6).stand2 (Nat.le_refl _) (Nat.succ_le_succ I.stb) x (some G.n) (fun d hd => by cases hd; rw [I.n]; exact Nat.lt_succ_self _)
  · exact ((Wk.mono (kt.trans k6)).up (Nat.le_succ bw)).eqG rfl rfl rfl rfl rfl rfl
  · exact (B.wn (Nat.le_succ _)).eqG rfl
end
end K82W
end K82Do_part
section K82Do2_part
set_option Elab.async false
set_option linter.all false
set_option maxRecDepth 100000
set_option maxHeartbeats 4000000
namespace K82W
open PySem PySem.Spec PyProof.Rows L2
theorem Sim.wishes {H : Hp} {G : Gh} {S : PMS} {b : Nat} (I : Sim H G S b) (h0 : S.wish = none) (c : Nat) (hc : c < S.n) (w : Str) : Sim H { G with ws := G.ws.set c (.str w) } (S.wishes c w) b where
  n := I.n
  nb := I.nb
  st1 := I.st1
  st2 := I.st2
  stb := I.stb
  kp1 := I.kp1
  kp2 := I.kp2
  kpb := I.kpb
  cd1 := I.cd1
  cd2 := I.cd2
  cdb := I.cdb
  fldB := I.fldB
  envB := I.envB
  keptB := I.keptB
  ws := by
    show G.ws.set c (.str w) = (List.range G.n).map (wishV (some (c, w)))
    rw [I.ws, h0]
    refine List.ext_getElem? fun j => ?_
    rw [List.getElem?_set, List.getElem?_map, List.getElem?_map]
    by_cases hj : j < G.n
    · rw [List.getElem?_range hj]
      by_cases z : c = j
      · subst z
        rw [if_pos rfl, if_pos (by rw [List.length_map, List.length_range]; exact hj)]
        show some (V.str w) = some (if c = c then V.str w else V.non)
        rw [if_pos rfl]
      · rw [if_neg z]
        show some V.non = some (if c = j then V.str w else V.non)
        rw [if_neg z]
    · have : (List.range G.n)[j]? = none := List.getElem?_eq_none_iff.mpr (by rw [List.length_range]; omega)
      rw [this]
      by_cases z : c = j
      · subst z
        rw [I.n] at hj
        exact absurd hc hj
      · rw [if_neg z]
        rfl
  wishB := fun d v h => by
    cases h
    exact hc
  ls := I.ls
  lostB := I.lostB
theorem Sim.keep {H : Hp} {G : Gh} {S : PMS} {b : Nat} (I : Sim H G S b) (c : Nat) (hc : c < S.n) : Sim H { G with kk := putK G.kk (.inl (c : Int)) (.bl true) } (S.keep c) (b + 1) where
  n := I.n
  nb := Nat.le_succ_of_le I.nb
  st1 := I.st1
  st2 := I.st2
  stb := Nat.le_succ_of_le I.stb
  kp1 := fun q hq => by
    rcases mem_putK hq with rfl | ⟨h1, h2⟩
    · exact ⟨c, rfl, if_pos rfl⟩
    · obtain ⟨d, e1, e2⟩ := I.kp1 q h1
      refine ⟨d, e1, ?_⟩
      show (if d = c then true else S.kept d) = true
      split
      · rfl
      · exact e2
  kp2 := fun d h => by
    have h : (if d = c then true else S.kept d) = true := h
    by_cases e : d = c
    · subst e
      exact ⟨_, putK_mem _ _ _⟩
    · rw [if_neg e] at h
      obtain ⟨v, hv⟩ := I.kp2 d h
      exact putK_keep hv
  kpb := Nat.le_trans (length_putK _ _ _) (Nat.succ_le_succ I.kpb)
  cd1 := I.cd1
  cd2 := I.cd2
  cdb := fun d => Nat.le_succ_of_le (I.cdb d)
  fldB := I.fldB
  envB := I.envB
  keptB := fun d h => by
    have h : (if d = c then true else S.kept d) = true := h
    by_cases e : d = c
    · rw [e]; exact hc
    · rw [if_neg e] at h
      exact I.keptB d h
  ws := I.ws
  wishB := I.wishB
  ls := I.ls
  lostB := I.lostB
theorem WhyAt.mono {K : PySem.W.Frag} {E : XK} {H H1 : Hp} (h : WhyAt K E H) (s : Same H H1) : WhyAt K E H1 := fun d H' k hd hx => h d H' (s.trans k) (s.free hd) hx
section
variable {P : Program} {w : World} {K : PySem.W.Frag} {mg : Str → Option Value} {base : Heap}
theorem do_wish_ok (T : TxD K mg) : Fnc P w K mg base 3 (He.ga K "do_wish") p_do_wish (spDeed K fun st => ∃ x w, st = .wish x w) := by
  refine fncX T.d_do_wish sc_do_wish (fun _ _ _ _ _ _ us hl => match us, hl with | [_, _], _ => rfl) (deed_len rfl) (fun cdv A outer s H vs Q E hr h => ?_)
  obtain ⟨H0, Y, G, S, b, bw, first, rep, cb, said, v, st, rfl, ⟨x, ww, rfl⟩, ⟨a, bx, rfl, ha, _⟩, N, B, hb1, hbw1, hrl, hwi, hE, hQ⟩ := h
  obtain ⟨M, hfi, hqu, I, hb, Wk, hbw⟩ := N
  refine ⟨_, pss_one (ps_asg (pe_ix ix_tup (pv 1) pe_int (fun _ _ => rfl)) (pg_sub (pe_fld (pv 0) rfl) (pe_m (m_cell_of T.toTxM) hr (by decide) (passes_call (takes_of rfl rfl rfl rfl) (fun _ _ _ _ h => h)) T.c_Walker (pv 0) (pa_cons (pe_ix ix_tup (pv 1) pe_int (fun _ _ => rfl)) pa_nil)) set_list)), ?_⟩
  refine ⟨_, rfl, a, _, _, _, rfl, rfl, SqT.of ha, atI_nat (j := 2) rfl, ?_⟩
  refine ⟨_, rfl, _, _, _, _, _, rfl, M.ins, T.c_Walker, T.a_wishes, rfl, _, rfl, _, _, _, rfl, M.ins, rfl, _, rfl, a, _, _, _, rfl, rfl, SqT.of ha, atI_nat (j := 1) rfl, H0, Y, G, S, b, x, rfl, M, I, fun c hc => ?_, fun hn => hE (by simp only [dstep, hn])⟩
  have hcn := I.envB x c hc
  have hwl : G.ws.length = G.n := by rw [I.ws, List.length_map, List.length_range]
  refine ⟨_, _, _, c, rfl, rfl, M.wishes, ixN_nat (by rw [hwl, I.n]; exact hcn), ?_⟩
  have kt := tups_put (o := .lst (G.ws.set c (.str ww))) M.wishes (fun xs z => nomatch z)
  have hq := hQ ⟨S.wishes c ww, [], [], []⟩ (by simp only [dstep, hc])
  simp only [List.append_nil] at hq
  exact hq _ Y _ ⟨M.put_ws (G.ws.set c (.str ww)), hfi, hqu, ((I.wishes (hwi rfl) c hcn ww).mono kt).up (Nat.le_succ b), hb1, ((Wk.mono kt).up (Nat.le_succ bw)).eqG rfl rfl rfl rfl rfl rfl, hbw1⟩ ((B.wn (Nat.le_refl _)).eqG rfl) kt rfl rfl (YL.refl Y)
theorem do_keep_ok (T : TxD K mg) : Fnc P w K mg base 3 (He.ga K "do_keep") p_do_keep (spDeed K fun st => ∃ x, st = .keep x) := by
  refine fncX T.d_do_keep sc_do_keep (fun _ _ _ _ _ _ us hl => match us, hl with | [_, _], _ => rfl) (deed_len rfl) (fun cdv A outer s H vs Q E hr h => ?_)
  obtain ⟨H0, Y, G, S, b, bw, first, rep, cb, said, v, st, rfl, ⟨x, rfl⟩, ⟨a, bx, rfl, ha, _⟩, N, B, hb1, hbw1, hrl, hwi, hE, hQ⟩ := h
  obtain ⟨M, hfi, hqu, I, hb, Wk, hbw⟩ := N
  refine ⟨_, pss_cons (ps_set (i := 2) sc_do_keep.nd rfl (Or.inl rfl) (pe_m (m_cell_of T.toTxM) hr (by decide) (passes_call (takes_of rfl rfl rfl rfl) (fun _ _ _ _ h => h)) T.c_Walker (pv 0) (pa_cons (pe_ix ix_tup (pv 1) pe_int (fun _ _ => rfl)) pa_nil)))
    (pss_cons (ps_dput (hu_of hr) (pe_fld (pv 0) rfl) (pv 2) pe_bl rfl)
    (pss_one (ps_expr (pe_m (m_note T.toTxM) hr (by decide) passL T.c_Walker (pv 0) (pa_cons (pe_tup (pa_cons pe_str (pa_cons (pv 2) pa_nil))) pa_nil))))), ?_⟩
  refine ⟨_, rfl, _, _, _, rfl, M.ins, rfl, _, rfl, a, _, _, _, rfl, rfl, SqT.of ha, atI_nat (j := 1) rfl, H0, Y, G, S, b, x, rfl, M, I, fun c hc => ?_, fun hn => hE (by simp only [dstep, hn])⟩
  have hcn := I.envB x c hc
  refine ⟨_, rfl, _, _, _, _, _, rfl, M.ins, T.c_Walker, T.a_kept, rfl, _, rfl, _, _, rfl, DPut.k (k := Sum.inl (c : Int)) M.kept (by have := I.kpb; exact le_line (by omega)), ?_⟩
  have M1 := M.put_kk (putK G.kk (.inl (c : Int)) (.bl true))
  have k1 := tups_put (o := .dK (putK G.kk (.inl (c : Int)) (.bl true))) M.kept (fun xs z => nomatch z)
  refine ⟨_, rfl, _, _, _, rfl, M1.ins, rfl, _, rfl, by show 2 ≤ sizeLine; decide, fun t ht => ⟨_, _, rfl, ?_⟩⟩
  have s2 := Same.upd (o := .tup [.str "keep", .int (c : Nat)]) ht
  have kt := k1.trans s2.tups
  have hq := hQ ⟨S.keep c, [], [], []⟩ (by simp only [dstep, hc])
  simp only [List.append_nil] at hq
  exact hq _ Y _ ⟨M1.mono s2, hfi, hqu, (I.keep c hcn).mono kt, hb1, ((Wk.mono kt).up (Nat.le_succ bw)).eqG rfl rfl rfl rfl rfl rfl, hbw1⟩ ((B.wn (Nat.le_refl _)).eqG rfl) kt rfl rfl (YL.refl Y)
theorem do_name_ok (T : TxD K mg) : Fnc P w K mg base 3 (He.ga K "do_name") p_do_name (spDeed K fun st => ∃ x y, st = .name x y) := by
  refine fncX T.d_do_name sc_do_name (fun _ _ _ _ _ _ us hl => match us, hl with | [_, _], _ => rfl) (deed_len rfl) (fun cdv A outer s H vs Q E hr h => ?_)
  obtain ⟨H0, Y, G, S, b, bw, first, rep, cb, said, v, st, rfl, ⟨x, y, rfl⟩, ⟨a, bx, rfl, ha, _⟩, N, B, hb1, hbw1, hrl, hwi, hE, hQ⟩ := h
  obtain ⟨M, hfi, hqu, I, hb, Wk, hbw⟩ := N
  refine ⟨_, pss_one (ps_expr (pe_m (m_stand T.toTxM) hr (by decide) passL T.c_Walker (pv 0) (pa_cons (pe_ix ix_tup (pv 1) pe_int (fun _ _ => rfl)) (pa_cons (pe_m (m_cell_of T.toTxM) hr (by decide) (passes_call (takes_of rfl rfl rfl rfl) (fun _ _ _ _ h => h)) T.c_Walker (pv 0) (pa_cons (pe_ix ix_tup (pv 1) pe_int (fun _ _ => rfl)) pa_nil)) pa_nil)))), ?_⟩
  refine ⟨_, rfl, _, _, _, rfl, M.ins, rfl, _, rfl, a, _, _, _, rfl, rfl, SqT.of ha, atI_nat (j := 1) rfl, ?_⟩
  refine ⟨_, rfl, _, _, _, rfl, M.ins, rfl, _, rfl, a, _, _, _, rfl, rfl, SqT.of ha, atI_nat (j := 2) rfl, H0, Y, G, S, b, y, rfl, M, I, fun c hc => ?_, fun hn => hE (by simp only [dstep, hn])⟩
  refine ⟨H0, Y, G, S, b, x, some c, rfl, M, I, hb, fun d hd => by cases hd; exact I.envB y c hc, fun H6 G6 M6 I6 k6 eG => ?_⟩
  have hq := hQ ⟨S.stand x (some c), [], [], []⟩ (by simp only [dstep, hc])
  simp only [List.append_nil] at hq
  subst eG
  exact hq _ Y _ ⟨M6, hfi, hqu, I6, hb1, ((Wk.mono k6).up (Nat.le_succ bw)).eqG rfl rfl rfl rfl rfl rfl, hbw1⟩ ((B.wn (Nat.le_refl _)).eqG rfl) k6 rfl rfl (YL.refl Y)
theorem do_drop_ok (T : TxD K mg) : Fnc P w K mg base 3 (He.ga K "do_drop") p_do_drop (spDeed K fun st => ∃ x, st = .drop x) := by
  refine fncN T.d_do_drop sc_do_drop (fun _ _ _ _ _ _ us hl => match us, hl with | [_, _], _ => rfl) (deed_len rfl) (fun cdv A outer s H vs Q E hr h => ?_)
  obtain ⟨H0, Y, G, S, b, bw, first, rep, cb, said, v, st, rfl, ⟨x, rfl⟩, ⟨a, bx, rfl, ha, _⟩, N, B, hb1, hbw1, hrl, hwi, hE, hQ⟩ := h
  obtain ⟨M, hfi, hqu, I, hb, Wk, hbw⟩ := N
  refine ⟨_, pss_one (ps_expr (pe_m (m_stand T.toTxM) hr (by decide) passL T.c_Walker (pv 0) (pa_cons (pe_ix ix_tup (pv 1) pe_int (fun _ _ => rfl)) (pa_cons pe_non pa_nil)))), ?_⟩
  refine ⟨_, rfl, _, _, _, rfl, M.ins, rfl, _, rfl, a, _, _, _, rfl, rfl, SqT.of ha, atI_nat (j := 1) rfl, ?_⟩
  refine ⟨H0, Y, G, S, b, x, none, rfl, M, I, hb, (fun d hd => nomatch hd), fun H6 G6 M6 I6 k6 eG => ?_⟩
  have hq := hQ ⟨S.stand x none, [], [], []⟩ rfl
  simp only [List.append_nil] at hq
  subst eG
  exact hq _ Y _ ⟨M6, hfi, hqu, I6, hb1, ((Wk.mono k6).up (Nat.le_succ bw)).eqG rfl rfl rfl rfl rfl rfl, hbw1⟩ ((B.wn (Nat.le_refl _)).eqG rfl) k6 rfl rfl (YL.refl Y)
theorem do_hold_ok (T : TxD K mg) : Fnc P w K mg base 3 (He.ga K "do_hold") p_do_hold (spDeed K fun st => ∃ x f y, st = .hold x f y) := by
  refine fncX T.d_do_hold sc_do_hold (fun _ _ _ _ _ _ us hl => match us, hl with | [_, _], _ => rfl) (deed_len rfl) (fun cdv A outer s H vs Q E hr h => ?_)
  obtain ⟨H0, Y, G, S, b, bw, first, rep, cb, said, v, st, rfl, ⟨x, f, y, rfl⟩, ⟨a, bx, rfl, ha, _⟩, N, B, hb1, hbw1, hrl, hwi, hE, hQ⟩ := h
  obtain ⟨M, hfi, hqu, I, hb, Wk, hbw⟩ := N
  refine ⟨_, pss_cons (ps_par (i := 2) (j := 3) (by rfl) sc_do_hold.nd rfl rfl (by decide) rfl rfl (pa_cons (pe_m (m_cell_of T.toTxM) hr (by decide) (passes_call (takes_of rfl rfl rfl rfl) (fun _ _ _ _ h => h)) T.c_Walker (pv 0) (pa_cons (pe_ix ix_tup (pv 1) pe_int (fun _ _ => rfl)) pa_nil)) (pa_cons (pe_m (m_cell_of T.toTxM) hr (by decide) (passes_call (takes_of rfl rfl rfl rfl) (fun _ _ _ _ h => h)) T.c_Walker (pv 0) (pa_cons (pe_ix ix_tup (pv 1) pe_int (fun _ _ => rfl)) pa_nil)) pa_nil)) (by rfl))
    (pss_one (ps_expr (pe_m (m_fill T.toTxM) hr (by decide) passL T.c_Walker (pv 0) (pa_cons (pv 2) (pa_cons (pe_ix ix_tup (pv 1) pe_int (fun _ _ => rfl)) (pa_cons (pv 3) (pa_cons pe_bl pa_nil))))))), ?_⟩
  refine ⟨_, rfl, _, _, _, rfl, M.ins, rfl, _, rfl, a, _, _, _, rfl, rfl, SqT.of ha, atI_nat (j := 1) rfl, H0, Y, G, S, b, x, rfl, M, I, fun c hc => ?_, fun hn => hE (by simp only [dstep, hn])⟩
  refine ⟨_, rfl, _, _, _, rfl, M.ins, rfl, _, rfl, a, _, _, _, rfl, rfl, SqT.of ha, atI_nat (j := 3) rfl, H0, Y, G, S, b, y, rfl, M, I, fun d hd => ?_, fun hn => hE (by simp only [dstep, hc, hn])⟩
  refine ⟨_, _, rfl, ?_⟩
  refine ⟨_, rfl, _, _, _, rfl, M.ins, rfl, _, rfl, _, rfl, a, _, _, _, rfl, rfl, SqT.of ha, atI_nat (j := 2) rfl, _, rfl, H0, Y, G, S, b, c, f, some d, true, rfl, M, I, hb, I.envB x c hc, fun e he => by cases he; exact I.envB y d hd, fun H6 l M6 I6 k6 => ?_⟩
  have hq := hQ ⟨S.fill c f (some (d, true)), [], [], []⟩ (by simp only [dstep, hc, hd])
  simp only [List.append_nil] at hq
  exact hq _ Y _ ⟨M6, hfi, hqu, I6, hb1, ((Wk.mono k6).up (Nat.le_succ bw)).eqG rfl rfl rfl rfl rfl rfl, hbw1⟩ ((B.wn (Nat.le_refl _)).eqG rfl) k6 rfl rfl (YL.refl Y)
theorem do_weak_ok (T : TxD K mg) : Fnc P w K mg base 3 (He.ga K "do_weak") p_do_weak (spDeed K fun st => ∃ x f y, st = .weak x f y) := by
  refine fncX T.d_do_weak sc_do_weak (fun _ _ _ _ _ _ us hl => match us, hl with | [_, _], _ => rfl) (deed_len rfl) (fun cdv A outer s H vs Q E hr h => ?_)
  obtain ⟨H0, Y, G, S, b, bw, first, rep, cb, said, v, st, rfl, ⟨x, f, y, rfl⟩, ⟨a, bx, rfl, ha, _⟩, N, B, hb1, hbw1, hrl, hwi, hE, hQ⟩ := h
  obtain ⟨M, hfi, hqu, I, hb, Wk, hbw⟩ := N
  refine ⟨_, pss_cons (ps_par (i := 2) (j := 3) (by rfl) sc_do_weak.nd rfl rfl (by decide) rfl rfl (pa_cons (pe_m (m_cell_of T.toTxM) hr (by decide) (passes_call (takes_of rfl rfl rfl rfl) (fun _ _ _ _ h => h)) T.c_Walker (pv 0) (pa_cons (pe_ix ix_tup (pv 1) pe_int (fun _ _ => rfl)) pa_nil)) (pa_cons (pe_m (m_cell_of T.toTxM) hr (by decide) (passes_call (takes_of rfl rfl rfl rfl) (fun _ _ _ _ h => h)) T.c_Walker (pv 0) (pa_cons (pe_ix ix_tup (pv 1) pe_int (fun _ _ => rfl)) pa_nil)) pa_nil)) (by rfl))
    (pss_one (ps_expr (pe_m (m_fill T.toTxM) hr (by decide) passL T.c_Walker (pv 0) (pa_cons (pv 2) (pa_cons (pe_ix ix_tup (pv 1) pe_int (fun _ _ => rfl)) (pa_cons (pv 3) (pa_cons pe_bl pa_nil))))))), ?_⟩
  refine ⟨_, rfl, _, _, _, rfl, M.ins, rfl, _, rfl, a, _, _, _, rfl, rfl, SqT.of ha, atI_nat (j := 1) rfl, H0, Y, G, S, b, x, rfl, M, I, fun c hc => ?_, fun hn => hE (by simp only [dstep, hn])⟩
  refine ⟨_, rfl, _, _, _, rfl, M.ins, rfl, _, rfl, a, _, _, _, rfl, rfl, SqT.of ha, atI_nat (j := 3) rfl, H0, Y, G, S, b, y, rfl, M, I, fun d hd => ?_, fun hn => hE (by simp only [dstep, hc, hn])⟩
  refine ⟨_, _, rfl, ?_⟩
  refine ⟨_, rfl, _, _, _, rfl, M.ins, rfl, _, rfl, _, rfl, a, _, _, _, rfl, rfl, SqT.of ha, atI_nat (j := 2) rfl, _, rfl, H0, Y, G, S, b, c, f, some d, false, rfl, M, I, hb, I.envB x c hc, fun e he => by cases he; exact I.envB y d hd, fun H6 l M6 I6 k6 => ?_⟩
  have hq := hQ ⟨S.fill c f (some (d, false)), [], [], []⟩ (by simp only [dstep, hc, hd])
  simp only [List.append_nil] at hq
  exact hq _ Y _ ⟨M6, hfi, hqu, I6, hb1, ((Wk.mono k6).up (Nat.le_succ bw)).eqG rfl rfl rfl rfl rfl rfl, hbw1⟩ ((B.wn (Nat.le_refl _)).eqG rfl) k6 rfl rfl (YL.refl Y)
theorem do_cut_ok (T : TxD K mg) : Fnc P w K mg base 3 (He.ga K "do_cut") p_do_cut (spDeed K fun st => ∃ x f, st = .cut x f) := by
  refine fncX T.d_do_cut sc_do_cut (fun _ _ _ _ _ _ us hl => match us, hl with | [_, _], _ => rfl) (deed_len rfl) (fun cdv A outer s H vs Q E hr h => ?_)
  obtain ⟨H0, Y, G, S, b, bw, first, rep, cb, said, v, st, rfl, ⟨x, f, rfl⟩, ⟨a, bx, rfl, ha, _⟩, N, B, hb1, hbw1, hrl, hwi, hE, hQ⟩ := h
  obtain ⟨M, hfi, hqu, I, hb, Wk, hbw⟩ := N
  refine ⟨_, pss_one (ps_expr (pe_m (m_fill T.toTxM) hr (by decide) passL T.c_Walker (pv 0) (pa_cons (pe_m (m_cell_of T.toTxM) hr (by decide) (passes_call (takes_of rfl rfl rfl rfl) (fun _ _ _ _ h => h)) T.c_Walker (pv 0) (pa_cons (pe_ix ix_tup (pv 1) pe_int (fun _ _ => rfl)) pa_nil)) (pa_cons (pe_ix ix_tup (pv 1) pe_int (fun _ _ => rfl)) (pa_cons pe_non (pa_cons pe_bl pa_nil)))))), ?_⟩
  refine ⟨_, rfl, _, _, _, rfl, M.ins, rfl, ?_⟩
  refine ⟨_, rfl, _, _, _, rfl, M.ins, rfl, _, rfl, a, _, _, _, rfl, rfl, SqT.of ha, atI_nat (j := 1) rfl, H0, Y, G, S, b, x, rfl, M, I, fun c hc => ?_, fun hn => hE (by simp only [dstep, hn])⟩
  refine ⟨_, rfl, a, _, _, _, rfl, rfl, SqT.of ha, atI_nat (j := 2) rfl, H0, Y, G, S, b, c, f, none, false, rfl, M, I, hb, I.envB x c hc, (fun e he => nomatch he), fun H6 l M6 I6 k6 => ?_⟩
  have hq := hQ ⟨S.fill c f none, [], [], []⟩ (by simp only [dstep, hc])
  simp only [List.append_nil] at hq
  exact hq _ Y _ ⟨M6, hfi, hqu, I6, hb1, ((Wk.mono k6).up (Nat.le_succ bw)).eqG rfl rfl rfl rfl rfl rfl, hbw1⟩ ((B.wn (Nat.le_refl _)).eqG rfl) k6 rfl rfl (YL.refl Y)
theorem do_say_ok (T : TxD K mg) : Fnc P w K mg base 1 (He.ga K "do_say") p_do_say (spDeed K fun st => ∃ x, st = .say x) := by
  refine fncN T.d_do_say sc_do_say (fun _ _ _ _ _ _ us hl => match us, hl with | [_, _], _ => rfl) (deed_len rfl) (fun cdv A outer s H vs Q E hr h => ?_)
  obtain ⟨H0, Y, G, S, b, bw, first, rep, cb, said, v, st, rfl, ⟨x, rfl⟩, ⟨a, bx, rfl, ha, _⟩, N, B, hb1, hbw1, hrl, hwi, hE, hQ⟩ := h
  obtain ⟨M, hfi, hqu, I, hb, Wk, hbw⟩ := N
  refine ⟨_, pss_one (ps_expr (pe_bm PySem.F.plainAttrs_list PySem.F.slot_list_append PySem.F.type_list_append mt_append (pe_fld (pv 0) rfl) (pa_cons (pe_tup (pa_cons pe_str (pa_cons (pe_ix ix_tup (pv 1) pe_int (fun _ _ => rfl)) pa_nil))) pa_nil))), ?_⟩
  refine ⟨_, rfl, _, _, _, _, _, rfl, M.ins, T.c_Walker, T.a_spoken, rfl, .inl ⟨rfl, _, SqL.of M.spoken⟩, _, rfl, a, _, _, _, rfl, rfl, SqT.of ha, atI_nat (j := 1) rfl, by show 2 ≤ sizeLine; decide, fun t ht => ?_⟩
  have s1 := Same.upd (o := .tup [.str "said", .str x]) ht
  have M1 := M.mono s1
  have hsl : G.ss.length = said.length := Paired.length Wk.ss
  have hsb := Wk.sb
  refine ⟨_, _, _, rfl, rfl, M1.spoken, le_line (by omega), ?_⟩
  have kt := s1.tups.trans (tups_put (o := .lst (G.ss ++ [V.ref t])) M1.spoken (fun xs z => nomatch z))
  have hq := hQ ⟨S, [], [], [.said x]⟩ rfl
  simp only [List.append_nil] at hq
  refine hq _ Y _ ⟨M1.put_ss (G.ss ++ [V.ref t]), hfi, hqu, ((I.mono kt).up (Nat.le_succ b)).eqG rfl rfl rfl rfl rfl rfl, hb1, ?_, hbw1⟩ ((B.wn (Nat.le_refl _)).eqG rfl) kt rfl rfl (YL.refl Y)
  have W2 := (Wk.mono kt).up (Nat.le_succ bw)
  refine ⟨W2.rs, W2.cbs, W2.cbl, W2.rb, papp W2.ss (.cons ⟨t, rfl, (tups_put (o := .lst (G.ss ++ [V.ref t])) M1.spoken (fun xs z => nomatch z)) _ _ upd_same⟩ .nil), ?_, W2.fm, W2.la, W2.lal, W2.la0, W2.eal⟩
  rw [List.length_append, List.length_singleton]
  omega
end
end K82W
end K82Do2_part
section K82True_part
set_option Elab.async false
set_option linter.all false
set_option maxRecDepth 100000
set_option maxHeartbeats 4000000
namespace K82W
open PySem PySem.Spec PyProof.Rows L2
theorem aStep_like (S : PMS) (c : Nat) (h : Option Bool) : (aStep S c h).2.2.n = S.n ∧ (aStep S c h).2.2.env = S.env ∧ (aStep S c h).2.2.wish = S.wish := by
  unfold aStep
  split
  · exact ⟨rfl, rfl, rfl⟩
  · split
    · exact ⟨rfl, rfl, rfl⟩
    · split <;> exact ⟨rfl, rfl, rfl⟩
section
variable {P : Program} {w : World} {K : PySem.W.Frag} {mg : Str → Option Value} {base : Heap}
theorem repV_eq0 (b : Bool) : decide (repV b = .int 0) = !b := by cases b <;> rfl
theorem repV_eq1 (b : Bool) : decide (repV b = .int 1) = b := by cases b <;> rfl
theorem Now.mono {H0 H H' : Hp} {Y : Lay} {G : Gh} {S : PMS} {b bw : Nat} {first rep cb : List Bool} {said : List (K82.Ans Str)} (N : Now K H0 H Y G S b bw first rep cb said) (k : Same H H') : Now K H0 H' Y G S b bw first rep cb said :=
  ⟨N.M.mono k, N.fi, N.qu, N.I.mono k.tups, N.b100, N.W.mono k.tups, N.bw1⟩
def spTrue (K : PySem.W.Frag) : Sp := fun vs H Q E => ∃ (H0 : Hp) (Y : Lay) (G : Gh) (S : PMS) (b bw : Nat) (first rep cb : List Bool) (said : List (K82.Ans Str)) (a : Addr) (st : PStm), vs = [.ref (Y.ad 0), .ref a] ∧ kind st = "ask" ∧ Inner H a st ∧
  Now K H0 H Y G S b bw first rep cb said ∧ SinceB G S ∧ rep.length + 1 ≤ 100 ∧ (dstep st S first[rep.length]? = none → WhyAt K E H) ∧
  ∀ d bl, dstep st S first[rep.length]? = some d → d.sd = [if bl = true then .yes else .no] → ∀ H' G', Now K H0 H' Y G' d.S b bw first (rep ++ d.rs) (cb ++ d.cs) said → SinceW G' d.S.n (G.moment + 1) → Tups H H' → G'.place = G.place → G'.moment = G.moment → Q (.bl bl) H'
theorem c_is_true (T : TxD K mg) : Cal P w K mg base 5 "is_true" p_is_true (spTrue K) := by
  refine calX T.d_is_true T.g_is_true sc_is_true (fun _ _ _ _ _ _ us hl => match us, hl with | [_, _], _ => rfl) (fun vs H Q E h => ?_) (fun cdv A outer s H vs Q E hr h => ?_)
  · obtain ⟨H0, Y, G, S, b, bw, first, rep, cb, said, a, st, e, _⟩ := h
    exact len2 e rfl
  · obtain ⟨H0, Y, G, S, b, bw, first, rep, cb, said, a, st, rfl, hk, hin, N, B, hrl, hE, hQ⟩ := h
    refine ⟨_, pss_cons (ps_set (i := 2) sc_is_true.nd rfl (Or.inl rfl) (pe_ix ix_tup (pv 1) pe_int (fun _ _ => rfl)))
      (pss_cons (ps_if (pt_cmpR op_eq (pv 2) pe_str (nomark _)) pss_never pss_nil)
      (pss_cons (ps_if (pt_cmpR op_eq (pv 2) pe_str (nomark _)) pss_never pss_nil)
      (pss_cons (ps_if (pt_cmpR op_eq (pv 2) pe_str (nomark _)) pss_never pss_nil)
      (pss_cons (ps_if (pt_cmpR op_eq (pv 2) pe_str (nomark _)) pss_never pss_nil)
      (pss_cons (ps_if (pt_cmpR op_eq (pv 2) pe_str (nomark _))
        (pss_cons (ps_set (i := 3) sc_is_true.nd rfl (Or.inl rfl) (pe_dget1 (hu_of hr) (pe_ix ix_list (pe_fld (pv 0) rfl) (pe_m (m_cell_of T.toTxM) hr (by decide) (passes_call (takes_of rfl rfl rfl rfl) (fun _ _ _ _ h => h)) T.c_Walker (pv 0) (pa_cons (pe_ix ix_tup (pv 1) pe_int (fun _ _ => rfl)) pa_nil)) (fun _ _ => rfl)) (pe_ix ix_tup (pv 1) pe_int (fun _ _ => rfl)) ⟨rfl, rfl, rfl, rfl⟩))
        (pss_one (ps_ret (pe_and (pe_cmpR op_notN (pv 3) pe_non (nomark _)) (pe_one (pe_cmpR op_eq (pe_m (m_ask T.toTxN) hr (by decide) passL T.c_Walker (pv 0) (pa_cons (pe_ix ix_tup (pv 3) pe_int (fun _ _ => rfl)) pa_nil)) pe_int (nomark _))))))) pss_nil)
      (pss_cons (ps_for (passes_of rfl) rfl (pi_enum (by rfl) T.bE (pa_cons (pe_fld (pv 0) rfl) pa_nil)) (pg_tup rfl (pgs_cons (pg_name (i := 4) sc_is_true.nd rfl (Or.inl rfl)) (pgs_cons (pg_name (i := 5) sc_is_true.nd rfl (Or.inl rfl)) pgs_nil)))
        (pss_one (ps_if (pw_and (pt_cmpR op_eq (pv 5) (pe_ix ix_tup (pv 1) pe_int (fun _ _ => rfl)) (nomark _)) (pw_and1 (pt_cmpR op_eq (pe_m (m_ask T.toTxN) hr (by decide) passL T.c_Walker (pv 0) (pa_cons (pv 4) pa_nil)) pe_int (nomark _)))).pt (pss_one (ps_ret pe_bl)) pss_nil)))
      (pss_one (ps_ret pe_bl)))))))), ?_⟩
    have M := N.M
    have I := N.I
    have skip : ∀ (k j : Str), k ≠ j → decide (V.str k = V.str j) = false := fun k j h => decide_eq_false fun e => h (V.str.inj e)
    cases st with
    | askF x f =>
      have ha : H a = some (.tup [.str "full", .str x, .str f]) := hin
      refine ⟨_, rfl, a, _, _, _, rfl, rfl, SqT.of ha, atI_nat (j := 0) rfl, ?_⟩
      refine ⟨_, rfl, rfl, false, congrArg V.bl (skip _ _ (by decide +kernel)), iteF ?_⟩
      refine ⟨_, rfl, rfl, false, congrArg V.bl (skip _ _ (by decide +kernel)), iteF ?_⟩
      refine ⟨_, rfl, rfl, false, congrArg V.bl (skip _ _ (by decide +kernel)), iteF ?_⟩
      refine ⟨_, rfl, rfl, false, congrArg V.bl (skip _ _ (by decide +kernel)), iteF ?_⟩
      refine ⟨_, rfl, rfl, true, congrArg V.bl (decide_eq_true rfl), iteT ?_⟩
      refine ⟨_, rfl, _, _, _, _, _, rfl, M.ins, T.c_Walker, T.a_contents, rfl, ?_⟩
      refine ⟨_, rfl, _, _, _, rfl, M.ins, rfl, _, rfl, a, _, _, _, rfl, rfl, SqT.of ha, atI_nat (j := 1) rfl, H0, Y, G, S, b, x, rfl, M, I, fun c hc => ?_, fun hn => hE (by simp only [dstep, hn])⟩
      have hcS := I.envB x c hc
      have hcn : c < G.n := by rw [I.n]; exact hcS
      refine ⟨_, _, _, _, rfl, rfl, SqL.of M.contents, atI_nat (j := c) (range_get _ hcn), _, rfl, .inl ⟨_, .inl (M.cell hcn)⟩, _, rfl, a, _, _, _, rfl, rfl, SqT.of ha, atI_nat (j := 2) rfl, _, DGet.k (k := Sum.inr f) (M.cell hcn), ?_⟩
      have hrow := I.row hcn f
      generalize (valV (G.cd c) (Sum.inr f)).getD .non = row at hrow ⊢
      cases hf : S.fld c f with
      | none =>
        rw [hf] at hrow
        obtain rfl : row = .non := hrow
        refine ⟨_, rfl, rfl, false, congrArg V.bl (by rw [decide_eq_true rfl]; rfl), iteF ?_⟩
        have hq := hQ ⟨S, [], [], [.no]⟩ false (by simp only [dstep, hc, hf]) rfl
        simp only [List.append_nil] at hq
        exact hq H G N B.w (Tups.refl H) rfl rfl
      | some p =>
        obtain ⟨e1, s1⟩ := p
        rw [hf] at hrow
        obtain ⟨t, rfl, ht⟩ := hrow
        refine ⟨_, rfl, rfl, true, congrArg V.bl (by rw [decide_eq_false (fun z => nomatch z)]; rfl), iteT ?_⟩
        refine ⟨_, rfl, _, _, _, rfl, M.ins, rfl, _, rfl, t, _, _, _, rfl, rfl, SqT.of ht, atI_nat (j := 0) rfl, H0, Y, G, S, b, bw, first, rep, cb, said, e1, rfl, N, B, (I.fldB c f _ hf).2, by omega, fun H5 G5 N5 W5 k5 e5 e6 => ?_⟩
        refine ⟨rfl, ?_⟩
        rw [repV_eq0]
        have hq := hQ ⟨_, _, _, _⟩ (!(aStep S e1 first[rep.length]?).1) (by simp only [dstep, hc, hf]; rfl) (by cases (aStep S e1 first[rep.length]?).1 <;> rfl)
        have e7 := (aStep_like S e1 first[rep.length]?).1
        exact hq H5 G5 N5 (by rw [e7]; exact W5) k5 e5 e6
    | askW ww =>
      have ha : H a = some (.tup [.str "wished", .str ww]) := hin
      refine ⟨_, rfl, a, _, _, _, rfl, rfl, SqT.of ha, atI_nat (j := 0) rfl, ?_⟩
      refine ⟨_, rfl, rfl, false, congrArg V.bl (skip _ _ (by decide +kernel)), iteF ?_⟩
      refine ⟨_, rfl, rfl, false, congrArg V.bl (skip _ _ (by decide +kernel)), iteF ?_⟩
      refine ⟨_, rfl, rfl, false, congrArg V.bl (skip _ _ (by decide +kernel)), iteF ?_⟩
      refine ⟨_, rfl, rfl, false, congrArg V.bl (skip _ _ (by decide +kernel)), iteF ?_⟩
      refine ⟨_, rfl, rfl, false, congrArg V.bl (skip _ _ (by decide +kernel)), iteF ?_⟩
      refine ⟨_, rfl, _, _, _, _, _, rfl, M.ins, T.c_Walker, T.a_wishes, rfl, Y.ad 5, _, rfl, SqL.of M.wishes, ?_⟩
      have hwl : G.ws.length = G.n := by rw [I.ws, List.length_map, List.length_range]
      have wsEq : ∀ {H' : Hp} {G' : Gh} {c : Nat} {b' : Nat}, Sim H' G' (aStep S c first[rep.length]?).2.2 b' → G'.ws = G.ws := fun {H' G' c b'} I' => by
        obtain ⟨h1, _, h3⟩ := aStep_like S c first[rep.length]?
        rw [I'.ws, I.ws, I'.n, I.n, h1, h3]
      refine for_it (walk_enum (K := K) (a := Y.ad 5) (xs := G.ws)) (fun i σ H' => ∃ v4 v5, σ = [some (.ref (Y.ad 0)), some (.ref a), some (.str "wished"), none, v4, v5] ∧
          ((Same H H' ∧ ∀ c w', S.wish = some (c, w') → w' = ww → i ≤ c) ∨
           ∃ c G', S.wish = some (c, ww) ∧ c < i ∧ (aStep S c first[rep.length]?).1 = false ∧ Now K H0 H' Y G' (aStep S c first[rep.length]?).2.2 b bw first (rep ++ [(aStep S c first[rep.length]?).1]) (cb ++ [(aStep S c first[rep.length]?).2.1]) said ∧ SinceW G' S.n (G.moment + 1) ∧ Tups H H' ∧ G'.place = G.place ∧ G'.moment = G.moment))
        ⟨none, none, rfl, .inl ⟨fun _ _ e => e, fun c w' _ _ => Nat.zero_le _⟩⟩ (fun i σ H' _ ⟨_, _, _, h⟩ => ?_) ?_ ?_
      · rcases h with ⟨k, _⟩ | ⟨c, G', _, _, _, N', _⟩
        · exact SqL.of (k _ _ M.wishes)
        · have := N'.M.wishes
          rw [wsEq N'.I] at this
          exact SqL.of this
      · rintro i y σ H2 H3 hi ⟨v4, v5, rfl, hs⟩ ⟨t, x1, x2, rfl, ht, rfl, e1, e2⟩
        cases e1
        have hin2 : i < G.n := by rw [← hwl]; exact hi
        have hx2 : x2 = wishV S.wish i := by
          have e2 : G.ws[i]? = some x2 := e2
          rw [I.ws, range_get _ hin2] at e2
          exact (Option.some.inj e2).symm
        subst hx2
        have s3 : Same H2 (upd H2 t (.tup [.int (i : Nat), wishV S.wish i])) := Same.upd ht
        have ht3 : Tups H (upd H2 t (.tup [.int (i : Nat), wishV S.wish i])) := by
          rcases hs with ⟨k, _⟩ | ⟨c, G', _, _, _, _, _, k, _⟩
          · exact (k.trans s3).tups
          · exact k.trans s3.tups
        refine ⟨t, _, rfl, SqT.of upd_same, rfl, _, _, rfl, _, _, rfl, rfl, _, rfl, _, rfl, a, _, _, _, rfl, rfl, SqT.of (ht3 _ _ ha), atI_nat (j := 1) rfl, ?_⟩
        have sc : scal (wishV S.wish i) (V.str ww) = true := by
          unfold wishV
          split
          · split <;> rfl
          · rfl
        refine ⟨sc, _, rfl, ?_⟩
        rcases hs with ⟨k, hc0⟩ | ⟨c, G', hw, hci, hb0, N', W', k, p1, p2⟩
        · -- not yet asked
          by_cases hm : S.wish = some (i, ww)
          · have e3 : wishV S.wish i = .str ww := by rw [hm]; exact if_pos rfl
            rw [decide_eq_true e3]
            have N3 := N.mono (k.trans s3)
            refine iteT ⟨_, rfl, _, _, _, rfl, N3.M.ins, rfl, _, rfl, H0, Y, G, S, b, bw, first, rep, cb, said, i, rfl, N3, B, I.wishB i ww hm, by omega, fun H5 G5 N5 W5 k5 e5 e6 => ?_⟩
            refine ⟨rfl, _, rfl, ?_⟩
            rw [repV_eq1]
            cases hst : (aStep S i first[rep.length]?).1 with
            | true =>
              refine iteT ?_
              have hq := hQ ⟨_, _, _, _⟩ true (by simp only [dstep, hm]; exact if_pos True.intro) (by rw [hst])
              have e7 := (aStep_like S i first[rep.length]?).1
              exact hq H5 G5 N5 (by rw [e7]; exact W5) (ht3.trans k5) e5 e6
            | false => exact iteF ⟨_, _, rfl, .inr ⟨i, G5, hm, Nat.lt_succ_self _, hst, N5, W5, ht3.trans k5, e5, e6⟩⟩
          · have e3 : ¬ wishV S.wish i = .str ww := fun z => by
              cases hw : S.wish with
              | none => rw [hw] at z; exact nomatch z
              | some q =>
                obtain ⟨d, w'⟩ := q
                rw [hw] at z
                have z : (if d = i then V.str w' else V.non) = V.str ww := z
                by_cases e : d = i
                · rw [if_pos e] at z
                  cases z
                  exact hm (by rw [hw, e])
                · rw [if_neg e] at z
                  exact nomatch z
            rw [decide_eq_false e3]
            refine iteF (iteF ⟨_, _, rfl, .inl ⟨k.trans s3, fun c w' hc hw => ?_⟩⟩)
            have h1 := hc0 c w' hc hw
            have h2 : c ≠ i := fun z => hm (by rw [hc, hw, z])
            omega
        · have e3 : ¬ wishV S.wish i = .str ww := fun z => by
            rw [hw] at z
            have z : (if c = i then V.str ww else V.non) = V.str ww := z
            rw [if_neg (by omega)] at z
            exact nomatch z
          rw [decide_eq_false e3]
          exact iteF (iteF ⟨_, _, rfl, .inr ⟨c, G', hw, by omega, hb0, N'.mono s3, W', k.trans s3.tups, p1, p2⟩⟩)
      · rintro σ H2 ⟨v4, v5, rfl, hs⟩
        rcases hs with ⟨k, hc0⟩ | ⟨c, G', hw, hci, hb0, N', W', k, p1, p2⟩
        · have hd : dstep (.askW ww) S first[rep.length]? = some ⟨S, [], [], [.no]⟩ := by
            cases hw : S.wish with
            | none => simp only [dstep, hw]
            | some q =>
              obtain ⟨d, w'⟩ := q
              simp only [dstep, hw]
              rw [if_neg]
              intro z
              have h1 := hc0 d w' hw z
              have h2 := I.wishB d w' hw
              rw [hwl, I.n] at h1
              omega
          have hq := hQ _ false hd rfl
          simp only [List.append_nil] at hq
          exact hq H2 G (N.mono k) B.w k.tups rfl rfl
        · have hq := hQ ⟨_, _, _, _⟩ false (by simp only [dstep, hw]; exact if_pos True.intro) (by rw [hb0])
          have e7 := (aStep_like S c first[rep.length]?).1
          exact hq H2 G' N' (by rw [e7]; exact W') k p1 p2
    | _ => exact absurd hk (by dsimp only [kind]; decide +kernel)
end
end K82W
end K82True_part
section K82Do3_part
set_option Elab.async false
set_option linter.all false
set_option maxRecDepth 100000
set_option maxHeartbeats 4000000
namespace K82W
open PySem PySem.Spec PyProof.Rows L2
section
variable {P : Program} {w : World} {K : PySem.W.Frag} {mg : Str → Option Value} {base : Heap}
theorem do_ask_ok (T : TxD K mg) : Fnc P w K mg base 6 (He.ga K "do_ask") p_do_ask (spDeed K fun st => kind st = "ask") := by
  refine fncX T.d_do_ask sc_do_ask (fun _ _ _ _ _ _ us hl => match us, hl with | [_, _], _ => rfl) (deed_len rfl) (fun cdv A outer s H vs Q E hr h => ?_)
  obtain ⟨H0, Y, G, S, b, bw, first, rep, cb, said, v, st, rfl, hk, ⟨a, bx, rfl, ha, hin⟩, N, B, hb1, hbw1, hrl, hwi, hE, hQ⟩ := h
  have M := N.M
  refine ⟨_, pss_one (ps_expr (pe_bm PySem.F.plainAttrs_list PySem.F.slot_list_append PySem.F.type_list_append mt_append (pe_fld (pv 0) rfl) (pa_cons (pe_ifExp (pt_val (pe_c (c_is_true T) hr (by decide) (by rfl) (passes_call (takes_of rfl rfl rfl rfl) (fun _ _ _ _ h => h)) (pa_cons (pv 0) (pa_cons (pe_ix ix_tup (pv 1) pe_int (fun _ _ => rfl)) pa_nil)))) (pe_tup (pa_cons pe_str pa_nil)) (pe_tup (pa_cons pe_str pa_nil))) pa_nil))), ?_⟩
  have har : args bx st = [.ref bx] := by
    cases st with
    | askF x f => rfl
    | askW w => rfl
    | _ => exact absurd hk (by dsimp only [kind]; decide +kernel)
  have hrd : K82.reads st = 1 := by
    cases st with
    | askF x f => rfl
    | askW w => rfl
    | _ => exact absurd hk (by dsimp only [kind]; decide +kernel)
  rw [har] at ha
  refine ⟨_, rfl, _, _, _, _, _, rfl, M.ins, T.c_Walker, T.a_spoken, rfl, .inl ⟨rfl, _, SqL.of M.spoken⟩, ?_⟩
  refine ⟨_, rfl, _, rfl, a, _, _, _, rfl, rfl, SqT.of ha, atI_nat (j := 1) rfl, H0, Y, G, S, b, bw, first, rep, cb, said, bx, st, rfl, hk, hin, N, B, by omega, hE, fun d bl hd hsd H5 G5 N5 W5 k5 e5 e6 => ?_⟩
  have fin : ∀ (word : Str) (an : K82.Ans Str), saidV an = [.str word] → d.sd = [an] → ∀ t, H5 t = none → rAppend (.ref (Y.ad 8)) [.ref t] (upd H5 t (.tup [.str word])) fun v H' => Q .non H' := by
    intro word an han hsd2 t ht
    have s6 := Same.upd (o := .tup [.str word]) ht
    have N6 := N5.mono s6
    have hsl : G5.ss.length = said.length := Paired.length N5.W.ss
    have hsb := N5.W.sb
    have hbw := N.bw1
    refine ⟨_, _, _, rfl, rfl, N6.M.spoken, le_line (by omega), ?_⟩
    have kp := tups_put (o := .lst (G5.ss ++ [V.ref t])) N6.M.spoken (fun xs z => nomatch z)
    have hq := hQ d hd (upd (upd H5 t (.tup [.str word])) (Y.ad 8) (.lst (G5.ss ++ [V.ref t]))) Y { G5 with ss := G5.ss ++ [V.ref t] }
    rw [hsd2] at hq
    refine hq ⟨N6.M.put_ss (G5.ss ++ [V.ref t]), N.fi, N.qu, ((N6.I.mono kp).up (Nat.le_succ b)).eqG rfl rfl rfl rfl rfl rfl, hb1, ?_, hbw1⟩ (W5.eqG rfl) (k5.trans (s6.tups.trans kp)) e5 e6 (YL.refl Y)
    have W2 := (N6.W.mono kp).up (Nat.le_succ bw)
    refine ⟨W2.rs, W2.cbs, W2.cbl, W2.rb, papp W2.ss (.cons ⟨t, rfl, by rw [han]; exact kp _ _ upd_same⟩ .nil), ?_, W2.fm, W2.la, W2.lal, W2.la0, W2.eal⟩
    rw [List.length_append, List.length_singleton]
    omega
  refine ⟨bl, rfl, ?_⟩
  cases bl with
  | true => exact iteT ⟨by show 1 ≤ sizeLine; decide, fun t ht => fin "yes" .yes rfl hsd t ht⟩
  | false => exact iteF ⟨by show 1 ≤ sizeLine; decide, fun t ht => fin "no" .no rfl hsd t ht⟩
theorem do_take_ok (T : TxD K mg) : Fnc P w K mg base 6 (He.ga K "do_take") p_do_take (spDeed K fun st => ∃ z x f, st = .take z x f) := by
  refine fncX T.d_do_take sc_do_take (fun _ _ _ _ _ _ us hl => match us, hl with | [_, _], _ => rfl) (deed_len rfl) (fun cdv A outer s H vs Q E hr h => ?_)
  obtain ⟨H0, Y, G, S, b, bw, first, rep, cb, said, v, st, rfl, ⟨z, x, f, rfl⟩, ⟨a, bx, rfl, ha, _⟩, N, B, hb1, hbw1, hrl, hwi, hE, hQ⟩ := h
  have M := N.M
  have I := N.I
  refine ⟨_, pss_cons (ps_set (i := 2) sc_do_take.nd rfl (Or.inl rfl) (pe_dget1 (hu_of hr) (pe_ix ix_list (pe_fld (pv 0) rfl) (pe_m (m_cell_of T.toTxM) hr (by decide) (passes_call (takes_of rfl rfl rfl rfl) (fun _ _ _ _ h => h)) T.c_Walker (pv 0) (pa_cons (pe_ix ix_tup (pv 1) pe_int (fun _ _ => rfl)) pa_nil)) (fun _ _ => rfl)) (pe_ix ix_tup (pv 1) pe_int (fun _ _ => rfl)) ⟨rfl, rfl, rfl, rfl⟩))
    (pss_cons (ps_set (i := 3) sc_do_take.nd rfl (Or.inl rfl) pe_non)
    (pss_cons (ps_if (pw_and (pt_cmpR op_notN (pv 2) pe_non (nomark _)) (pw_and1 (pt_cmpR op_eq (pe_m (m_ask T.toTxN) hr (by decide) passL T.c_Walker (pv 0) (pa_cons (pe_ix ix_tup (pv 2) pe_int (fun _ _ => rfl)) pa_nil)) pe_int (nomark _)))).pt (pss_one (ps_set (i := 3) sc_do_take.nd rfl (Or.inl rfl) (pe_ix ix_tup (pv 2) pe_int (fun _ _ => rfl)))) pss_nil)
    (pss_one (ps_expr (pe_m (m_stand T.toTxM) hr (by decide) passL T.c_Walker (pv 0) (pa_cons (pe_ix ix_tup (pv 1) pe_int (fun _ _ => rfl)) (pa_cons (pv 3) pa_nil))))))), ?_⟩
  refine ⟨_, rfl, _, _, _, _, _, rfl, M.ins, T.c_Walker, T.a_contents, rfl, ?_⟩
  refine ⟨_, rfl, _, _, _, rfl, M.ins, rfl, _, rfl, a, _, _, _, rfl, rfl, SqT.of ha, atI_nat (j := 2) rfl, H0, Y, G, S, b, x, rfl, M, I, fun c hc => ?_, fun hn => hE (by simp only [dstep, hn])⟩
  have hcS := I.envB x c hc
  have hcn : c < G.n := by rw [I.n]; exact hcS
  refine ⟨_, _, _, _, rfl, rfl, SqL.of M.contents, atI_nat (j := c) (range_get _ hcn), _, rfl, .inl ⟨_, .inl (M.cell hcn)⟩, _, rfl, a, _, _, _, rfl, rfl, SqT.of ha, atI_nat (j := 3) rfl, _, DGet.k (k := Sum.inr f) (M.cell hcn), ?_⟩
  have hrow := I.row hcn f
  generalize (valV (G.cd c) (Sum.inr f)).getD .non = row at hrow ⊢
  -- the end: stand, from a moment behind the question
  have fin : ∀ (d : Dst) (S1 : PMS) (H5 : Hp) (G5 : Gh) (c' : Option Nat), dstep (.take z x f) S first[rep.length]? = some d → d.S = S1.stand z c' → d.sd = [] → S1.n = S.n → (∀ e, c' = some e → e < S.n) →
      Now K H0 H5 Y G5 S1 b bw first (rep ++ d.rs) (cb ++ d.cs) said → SinceW G5 S.n (G.moment + 1) → Tups H H5 → G5.place = G.place → G5.moment = G.moment →
      tDrop (tMeth (CW K) "stand" (spStand K) [] E0 (tVar 0) (tCons (tOp (rIxT K) (tVar 1) (tC (.int 1))) (tCons (tVar 3) tNil))) { nx := fun _ H' => Q .non H', rt := Q } [some (.ref (Y.ad 0)), some (.ref a), some row, some (optV c')] H5 := by
    intro d S1 H5 G5 c' hd hS1 hsd hn hc' N5 W5 k5 e5 e6
    refine ⟨_, rfl, _, _, _, rfl, N5.M.ins, rfl, _, rfl, a, _, _, _, rfl, rfl, SqT.of (k5 _ _ ha), atI_nat (j := 1) rfl, _, rfl, H0, Y, G5, S1, b, z, c', rfl, N5.M, N5.I, N.b100, fun e he => by rw [hn]; exact hc' e he, fun H6 G6 M6 I6 k6 eG => ?_⟩
    have hq := hQ d hd H6 Y G6
    rw [hsd, List.append_nil, hS1] at hq
    subst eG
    exact hq ⟨M6, N.fi, N.qu, I6, hb1, ((N5.W.mono k6).up (Nat.le_succ bw)).eqG rfl rfl rfl rfl rfl rfl, hbw1⟩ (by show SinceW _ S1.n _; rw [hn]; exact W5.eqG rfl) (k5.trans k6) e5 e6 (YL.refl Y)
  cases hf : S.fld c f with
  | none =>
    rw [hf] at hrow
    obtain rfl : row = .non := hrow
    refine ⟨_, rfl, rfl, false, congrArg V.bl (by rw [decide_eq_true rfl]; rfl), iteF (iteF ?_)⟩
    have hd : dstep (.take z x f) S first[rep.length]? = some ⟨S.stand z none, [], [], []⟩ := by simp only [dstep, hc, hf]
    exact fin _ S H G none hd rfl rfl rfl (fun e he => nomatch he) (by simp only [List.append_nil]; exact N) B.w (Tups.refl H) rfl rfl
  | some p =>
    obtain ⟨e1, s1⟩ := p
    rw [hf] at hrow
    obtain ⟨t, rfl, ht⟩ := hrow
    have he1 := (I.fldB c f _ hf).2
    refine ⟨_, rfl, rfl, true, congrArg V.bl (by rw [decide_eq_false (fun z => nomatch z)]; rfl), iteT ?_⟩
    have hrd : K82.reads (.take z x f : PStm) = 1 := rfl
    refine ⟨_, rfl, _, _, _, rfl, M.ins, rfl, _, rfl, t, _, _, _, rfl, rfl, SqT.of ht, atI_nat (j := 0) rfl, H0, Y, G, S, b, bw, first, rep, cb, said, e1, rfl, N, B, he1, by omega, fun H5 G5 N5 W5 k5 e5 e6 => ?_⟩
    refine ⟨rfl, _, rfl, ?_⟩
    rw [repV_eq0]
    have hd : dstep (.take z x f) S first[rep.length]? = some ⟨(aStep S e1 first[rep.length]?).2.2.stand z (if (aStep S e1 first[rep.length]?).1 = true then none else some e1), [(aStep S e1 first[rep.length]?).1], [(aStep S e1 first[rep.length]?).2.1], []⟩ := by simp only [dstep, hc, hf]
    have e7 := (aStep_like S e1 first[rep.length]?).1
    cases hst : (aStep S e1 first[rep.length]?).1 with
    | true =>
      rw [hst] at hd N5
      exact iteF (fin _ (aStep S e1 first[rep.length]?).2.2 H5 G5 none hd rfl rfl e7 (fun e he => nomatch he) N5 W5 k5 e5 e6)
    | false =>
      rw [hst] at hd N5
      refine iteT ⟨_, rfl, t, _, _, _, rfl, rfl, SqT.of (k5 _ _ ht), atI_nat (j := 0) rfl, ?_⟩
      exact fin _ (aStep S e1 first[rep.length]?).2.2 H5 G5 (some e1) hd rfl rfl e7 (fun e he => by cases he; exact he1) N5 W5 k5 e5 e6
end
end K82W
end K82Do3_part
section K82Exec_part
set_option Elab.async false
set_option linter.all false
set_option maxRecDepth 100000
set_option maxHeartbeats 4000000
namespace K82W
open PySem PySem.Spec PyProof.Rows L2
structure TxE (K : PySem.W.Frag) (mg : Str → Option Value) (w : World) : Prop extends TxD K mg where
  d_enter : FunE K "enter" "enter" s_enter (He.ga K "enter")
  g_enter : mg "enter" = some (.ref (He.ga K "enter"))
  d_execute : FunE K "execute" "execute" s_execute (He.ga K "execute")
  g_execute : mg "execute" = some (.ref (He.ga K "execute"))
  g_DEEDS : mg "DEEDS" = some (.ref (He.ga K "DEEDS"))
  k_make : KDct K w (He.ga K "DEEDS") "make" (.ref (He.ga K "do_make"))
  k_wish : KDct K w (He.ga K "DEEDS") "wish" (.ref (He.ga K "do_wish"))
  k_keep : KDct K w (He.ga K "DEEDS") "keep" (.ref (He.ga K "do_keep"))
  k_name : KDct K w (He.ga K "DEEDS") "name" (.ref (He.ga K "do_name"))
  k_drop : KDct K w (He.ga K "DEEDS") "drop" (.ref (He.ga K "do_drop"))
  k_hold : KDct K w (He.ga K "DEEDS") "hold" (.ref (He.ga K "do_hold"))
  k_weak : KDct K w (He.ga K "DEEDS") "weak" (.ref (He.ga K "do_weak"))
  k_cut : KDct K w (He.ga K "DEEDS") "cut" (.ref (He.ga K "do_cut"))
  k_take : KDct K w (He.ga K "DEEDS") "take" (.ref (He.ga K "do_take"))
  k_say : KDct K w (He.ga K "DEEDS") "say" (.ref (He.ga K "do_say"))
  k_ask : KDct K w (He.ga K "DEEDS") "ask" (.ref (He.ga K "do_ask"))
/-- a local name that holds some def: the promise goes with it -/
def tCallAny (P : Program) (w : World) (K : PySem.W.Frag) (mg : Str → Option Value) (base : Heap) (k i : Nat) (E : XK) (t : TA) : TE := fun σ H Q => ∃ f ps sp, σ[i]? = some (some (.ref f)) ∧ Fnc P w K mg base k f ps sp ∧ t σ H fun vs H1 => sp vs H1 Q E
theorem pe_callAny {X : Cx} {k i : Nat} {E : XK} {x : Str} {p pos : Pos} {e : Expr} {es : List Expr} {t : TA} (hr : Room k X.A) (hN : X.N[i]? = some x) (hv : Vis X.env.scope x) (hx : Passes (CX X.prog X.w) X E) (ha : PA X (e :: es) t)
    (hdb : (x == ("__debug__" : Str)) = false := by decide) (hcd : (x == ("__classdict__" : Str)) = false := by decide)
    (he : starEach (e :: es) X.env = (false, eval e X.env) :: starEach es X.env := by rfl) (hpl : (backTo pos (starEach es X.env)).any (·.1) = false := by rfl) : PE X (.Call (.Name x p) (e :: es) [] pos) (tCallAny X.prog X.w X.K X.mg X.base k i E t) := by
  refine ⟨fun pins s σ H Q I h => ?_⟩
  obtain ⟨f, ps, sp, hs, ⟨fd, F, hk, hb⟩, ht⟩ := h
  refine (pe_callL (i := i) (f := f) (sp := sp) (dvs := []) (E := E) F hr hN hv hk hb .nil hx ha hdb hcd he hpl).run pins s σ H Q I ⟨hs, ?_⟩
  have e0 : (fun (vs : List V) (H1 : Hp) => sp (vs ++ []) H1 Q E) = fun vs H1 => sp vs H1 Q E := by
    funext vs H1
    rw [List.append_nil]
  show t σ H (fun vs H1 => sp (vs ++ []) H1 Q E)
  rw [e0]
  exact ht
section
variable {P : Program} {w : World} {K : PySem.W.Frag} {mg : Str → Option Value} {base : Heap}
def spEnter (K : PySem.W.Frag) : Sp := fun vs H Q _ => ∃ (H0 : Hp) (Y : Lay) (G : Gh) (S : PMS) (b bw : Nat) (first rep cb : List Bool) (said : List (K82.Ans Str)) (pl : Int), vs = [.ref (Y.ad 0), .int pl] ∧ Now K H0 H Y G S b bw first rep cb said ∧ bw + 1 ≤ 1000 ∧ SinceW G S.n (G.moment + 1) ∧
  ∀ H' G', Now K H0 H' Y G' S b (bw + 1) first rep cb said → SinceB G' S → Tups H H' → G'.place = pl → Q .non H'
theorem c_enter (T : TxE K mg w) : Cal P w K mg base 5 "enter" p_enter (spEnter K) := by
  refine calN T.d_enter T.g_enter sc_enter (fun _ _ _ _ _ _ us hl => match us, hl with | [_, _], _ => rfl) (fun vs H Q E h => ?_) (fun cdv A outer s H vs Q E hr h => ?_)
  · obtain ⟨H0, Y, G, S, b, bw, first, rep, cb, said, pl, e, _⟩ := h
    exact len2 e rfl
  · obtain ⟨H0, Y, G, S, b, bw, first, rep, cb, said, pl, rfl, N, hbw1, W, hQ⟩ := h
    have M := N.M
    refine ⟨_, pss_cons (ps_fld (pv 0) (pv 1) rfl) (pss_cons (ps_fldaug (pv 0) pe_int in_add) (pss_one (ps_expr (pe_m0 (m_begin_moment T.toTxM T.bE) hr (by decide) passL T.c_Walker (pv 0))))), ?_⟩
    refine ⟨_, rfl, _, rfl, _, _, _, _, rfl, M.ins, T.c_Walker, T.a_at_place, by show 18 < 1000; decide, ?_⟩
    rw [putF_place]
    have M1 := M.put_place pl
    have k1 := tups_put (o := .ins (CW K) (Y.ad 1) (mfs Y { G with place := pl })) M.ins (fun xs z => nomatch z)
    refine ⟨_, rfl, _, _, _, _, _, rfl, M1.ins, T.c_Walker, T.a_moment, rfl, _, _, rfl, rfl, _, _, M1.ins, by show 18 < 1000; decide, ?_⟩
    rw [putF_moment]
    have M2 := M1.put_moment (G.moment + 1)
    have k2 := tups_put (o := .ins (CW K) (Y.ad 1) (mfs Y { G with place := pl, moment := G.moment + 1 })) M1.ins (fun xs z => nomatch z)
    have kt := k1.trans k2
    refine ⟨_, rfl, _, _, _, rfl, M2.ins, rfl, ?_⟩
    refine ⟨H0, Y, _, S, b, bw, rep, cb, said, rfl, M2, N.qu, (N.I.mono kt).eqG rfl rfl rfl rfl rfl rfl, N.b100, (N.W.mono kt).eqG rfl rfl rfl rfl rfl rfl, N.bw1, W.eqG rfl, fun H5 G5 M5 I5 W5 B5 k5 e5 e6 => ?_⟩
    exact hQ H5 G5 ⟨M5, N.fi, N.qu, I5, N.b100, W5, hbw1⟩ B5 (kt.trans k5) e5
/-! ### execute -/
def ExecOut (K : PySem.W.Frag) (H0 H : Hp) (Y : Lay) (first rep cb : List Bool) (W : K82.Walk Str) (H' : Hp) : Prop :=
  ∃ (Y' : Lay) (G' : Gh) (S' : PMS) (b' bw' : Nat), Now K H0 H' Y' G' S' b' bw' first (rep ++ W.rep) (cb ++ W.cb) W.said ∧ YL Y Y' ∧ Tups H H' ∧ ∀ pl, W.stop = some pl → G'.place = ((pl : Nat) : Int)
def spExec (K : PySem.W.Frag) : Sp := fun vs H Q E => ∃ (H0 : Hp) (Y : Lay) (G : Gh) (S : PMS) (b bw : Nat) (first rep cb : List Bool) (said : List (K82.Ans Str)) (a : Addr) (xs : List V) (B : List PStm) (p0 : Nat), vs = [.ref (Y.ad 0), .ref a, .int (p0 : Nat)] ∧ BlkAt H a xs B ∧
  Now K H0 H Y G S b bw first rep cb said ∧ SinceW G S.n (G.moment + 1) ∧ b + B.length ≤ 100 ∧ bw + 2 * B.length ≤ 1000 ∧ rep.length + K82.readsOf B ≤ 100 ∧ wishesOf B ≤ 1 ∧ S.wish = none ∧
  (∀ H', (K82.follow (K82.tree B S said p0) (first.drop rep.length)).stop = none → ExecOut K H0 H Y first rep cb (K82.follow (K82.tree B S said p0) (first.drop rep.length)) H' → Q .non H') ∧
  (∀ d H1 H', (K82.follow (K82.tree B S said p0) (first.drop rep.length)).stop ≠ none → ExecOut K H0 H Y first rep cb (K82.follow (K82.tree B S said p0) (first.drop rep.length)) H1 → Same H1 H' → H1 d = none → H' d = some (.xd [(("why" : Str), .str "name")]) → E (.ref (CS K)) (some d) H')
/-- the deed of a statement -/
def deedOf (K : PySem.W.Frag) : PStm → Addr
  | .make _ => He.ga K "do_make" | .wish _ _ => He.ga K "do_wish" | .keep _ => He.ga K "do_keep" | .name _ _ => He.ga K "do_name" | .drop _ => He.ga K "do_drop" | .hold _ _ _ => He.ga K "do_hold" | .weak _ _ _ => He.ga K "do_weak" | .cut _ _ => He.ga K "do_cut"
  | .take _ _ _ => He.ga K "do_take" | .say _ => He.ga K "do_say" | .askF _ _ => He.ga K "do_ask" | .askW _ => He.ga K "do_ask"
theorem deeds (T : TxE K mg w) (st : PStm) : KDct K w (He.ga K "DEEDS") (kind st) (.ref (deedOf K st)) := by
  cases st with
  | make x => exact T.k_make
  | wish x w => exact T.k_wish
  | keep x => exact T.k_keep
  | name x y => exact T.k_name
  | drop x => exact T.k_drop
  | hold x f y => exact T.k_hold
  | weak x f y => exact T.k_weak
  | cut x f => exact T.k_cut
  | take z x f => exact T.k_take
  | say x => exact T.k_say
  | askF x f => exact T.k_ask
  | askW x => exact T.k_ask
theorem deed_fn (T : TxE K mg w) (st : PStm) : ∃ ps ok, Fnc P w K mg base 6 (deedOf K st) ps (spDeed K ok) ∧ ok st := by
  cases st with
  | make x => exact ⟨_, _, (do_make_ok T.toTxD).up (by decide), ⟨_, rfl⟩⟩
  | wish x w => exact ⟨_, _, (do_wish_ok T.toTxD).up (by decide), ⟨_, _, rfl⟩⟩
  | keep x => exact ⟨_, _, (do_keep_ok T.toTxD).up (by decide), ⟨_, rfl⟩⟩
  | name x y => exact ⟨_, _, (do_name_ok T.toTxD).up (by decide), ⟨_, _, rfl⟩⟩
  | drop x => exact ⟨_, _, (do_drop_ok T.toTxD).up (by decide), ⟨_, rfl⟩⟩
  | hold x f y => exact ⟨_, _, (do_hold_ok T.toTxD).up (by decide), ⟨_, _, _, rfl⟩⟩
  | weak x f y => exact ⟨_, _, (do_weak_ok T.toTxD).up (by decide), ⟨_, _, _, rfl⟩⟩
  | cut x f => exact ⟨_, _, (do_cut_ok T.toTxD).up (by decide), ⟨_, _, rfl⟩⟩
  | take z x f => exact ⟨_, _, do_take_ok T.toTxD, ⟨_, _, _, rfl⟩⟩
  | say x => exact ⟨_, _, (do_say_ok T.toTxD).up (by decide), ⟨_, rfl⟩⟩
  | askF x f => exact ⟨_, _, do_ask_ok T.toTxD, rfl⟩
  | askW x => exact ⟨_, _, do_ask_ok T.toTxD, rfl⟩
theorem drop_head {α : Type} (l : List α) (n : Nat) : (l.drop n).head? = l[n]? := by
  rw [List.head?_drop]
theorem pe_no {X : Cx} {e : Expr} : PE X e (fun _ _ _ => False) := ⟨fun _ _ _ _ _ _ h => h.elim⟩
theorem dstep_wish {st : PStm} {S : PMS} {h : Option Bool} {d : Dst} (hd : dstep st S h = some d) (hw : isWish st = false) : d.S.wish = S.wish := by
  cases st with
  | wish x w => cases hw
  | make x => cases hd; rfl
  | drop x => cases hd; rfl
  | say x => cases hd; rfl
  | keep x =>
    simp only [dstep] at hd
    split at hd <;> first | (cases hd; done) | (cases hd; rfl)
  | name x y =>
    simp only [dstep] at hd
    split at hd <;> first | (cases hd; done) | (cases hd; rfl)
  | hold x f y =>
    simp only [dstep] at hd
    split at hd <;> first | (cases hd; done) | (cases hd; rfl)
  | weak x f y =>
    simp only [dstep] at hd
    split at hd <;> first | (cases hd; done) | (cases hd; rfl)
  | cut x f =>
    simp only [dstep] at hd
    split at hd <;> first | (cases hd; done) | (cases hd; rfl)
  | take z x f =>
    simp only [dstep] at hd
    split at hd
    · cases hd
    · split at hd
      · cases hd; rfl
      · cases hd
        exact (aStep_like S _ h).2.2
  | askF x f =>
    simp only [dstep] at hd
    split at hd
    · cases hd
    · split at hd
      · cases hd; rfl
      · cases hd
        exact (aStep_like S _ h).2.2
  | askW x =>
    simp only [dstep] at hd
    split at hd
    · cases hd; rfl
    · split at hd
      · cases hd
        exact (aStep_like S _ h).2.2
      · cases hd; rfl
theorem dstep_len {st : PStm} {S : PMS} {h : Option Bool} {d : Dst} (hd : dstep st S h = some d) : d.rs.length ≤ K82.reads st := by
  cases st with
  | make x => cases hd; exact Nat.zero_le _
  | drop x => cases hd; exact Nat.zero_le _
  | say x => cases hd; exact Nat.zero_le _
  | wish x w =>
    simp only [dstep] at hd
    split at hd <;> first | (cases hd; done) | (cases hd; exact Nat.zero_le _)
  | keep x =>
    simp only [dstep] at hd
    split at hd <;> first | (cases hd; done) | (cases hd; exact Nat.zero_le _)
  | name x y =>
    simp only [dstep] at hd
    split at hd <;> first | (cases hd; done) | (cases hd; exact Nat.zero_le _)
  | hold x f y =>
    simp only [dstep] at hd
    split at hd <;> first | (cases hd; done) | (cases hd; exact Nat.zero_le _)
  | weak x f y =>
    simp only [dstep] at hd
    split at hd <;> first | (cases hd; done) | (cases hd; exact Nat.zero_le _)
  | cut x f =>
    simp only [dstep] at hd
    split at hd <;> first | (cases hd; done) | (cases hd; exact Nat.zero_le _)
  | take z x f =>
    simp only [dstep] at hd
    split at hd
    · cases hd
    · split at hd
      · cases hd; exact Nat.zero_le _
      · cases hd
        exact Nat.le_refl _
  | askF x f =>
    simp only [dstep] at hd
    split at hd
    · cases hd
    · split at hd
      · cases hd; exact Nat.zero_le _
      · cases hd
        exact Nat.le_refl _
  | askW x =>
    simp only [dstep] at hd
    split at hd
    · cases hd; exact Nat.zero_le _
    · split at hd
      · cases hd
        exact Nat.le_refl _
      · cases hd; exact Nat.zero_le _
theorem c_execute (T : TxE K mg w) : Cal P w K mg base 7 "execute" p_execute (spExec K) := by
  refine calX T.d_execute T.g_execute sc_execute (fun _ _ _ _ _ _ us hl => match us, hl with | [_, _, _], _ => rfl) (fun vs H Q E h => ?_) (fun cdv A outer s H vs Q E hr h => ?_)
  · obtain ⟨H0, Y, G, S, b, bw, first, rep, cb, said, a, xs, B, p0, rfl, _⟩ := h
    rfl
  · obtain ⟨H0, Y, G, S, b, bw, first, rep, cb, said, a, xs, B, p0, rfl, hB, N, W, hb1, hbw1, hrd, hws, hw0, hQ, hE⟩ := h
    refine ⟨_, pss_one (ps_for (passes_of rfl) rfl (pi_tup (pv 1)) (pg_name (i := 3) sc_execute.nd rfl (Or.inl rfl))
      (pss_cons (ps_expr (pe_c (c_enter T) hr (by decide) (by rfl) passL (pa_cons (pv 0) (pa_cons (pv 2) pa_nil))))
      (pss_cons (ps_set (i := 4) sc_execute.nd rfl (Or.inl rfl) (pe_op op_add (pv 2) pe_int))
      (pss_cons (ps_if (pt_cmpR op_eq (pe_ix ix_tup (pv 3) pe_int (fun _ _ => rfl)) pe_str (nomark _)) pss_never
        (pss_one (ps_if (pt_cmpR op_eq (pe_ix ix_tup (pv 3) pe_int (fun _ _ => rfl)) pe_str (nomark _)) pss_never
          (pss_cons (ps_set (i := 7) sc_execute.nd rfl (Or.inl rfl) (pe_ix ix_kdict (pe_glob (v := .ref (He.ga K "DEEDS")) (by rfl) T.g_DEEDS rfl) (pe_ix ix_tup (pv 3) pe_int (fun _ _ => rfl)) (fun _ _ => rfl)))
          (pss_cons (ps_expr (pe_callAny (i := 7) hr rfl (Or.inl rfl) (passes_call (takes_of rfl rfl rfl rfl) (fun _ _ _ _ h => h)) (pa_cons (pv 0) (pa_cons (pv 3) pa_nil))))
          (pss_one (ps_expr (pe_m0 (m_end_moment T.toTxM) hr (by decide) passL T.c_Walker (pv 0)))))))))
      (pss_one (ps_aug (i := 2) sc_execute.nd rfl (Or.inl rfl) (pe_op op_add pe_int (pe_callB (cr_sum rfl) (by rfl) T.b_sum (by decide +kernel) (pa_cons (pe_lc (own := [("part", 8)]) (g := gName 8) (tt := tYes) (te := fun _ _ _ => False) rfl sc_execute.nd
        (pi_tup (pe_c (c_inner_blocks T.toTxA) hr (by decide) (by rfl) passL (pa_cons (pv 3) pa_nil))) (blkOk_by (N := n_execute) (sc := defScope s_execute) (by decide +kernel))
        (fun _ _ _ _ _ => pg_name (i := 8) sc_execute.nd rfl (Or.inl rfl) (hf := Or.inr rfl)) (fun _ _ _ _ _ => pts_nil) (fun _ _ _ _ _ => pe_no)) pa_nil))) ip_add)))))), ?_⟩
    have hxl : xs.length = B.length := Paired.length hB.2.1
    have h0 : K82.follow (K82.tree B S said p0) (first.drop rep.length) = ⟨[] ++ (K82.follow (K82.tree (B.drop 0) S said (p0 + 0)) (first.drop (rep ++ []).length)).rep, [] ++ (K82.follow (K82.tree (B.drop 0) S said (p0 + 0)) (first.drop (rep ++ []).length)).cb, (K82.follow (K82.tree (B.drop 0) S said (p0 + 0)) (first.drop (rep ++ []).length)).said, (K82.follow (K82.tree (B.drop 0) S said (p0 + 0)) (first.drop (rep ++ []).length)).stop⟩ := by
      simp only [List.drop_zero, Nat.add_zero, List.append_nil, List.nil_append]
    generalize K82.follow (K82.tree B S said p0) (first.drop rep.length) = W0 at hQ hE h0
    refine ⟨_, rfl, a, rfl, ⟨_, SqT.of hB.1⟩, for_tup (K := K) (a := a) (xs := xs) (fun i σ H' => ∃ v3 v4 v7, σ = [some (.ref (Y.ad 0)), some (.ref a), some (.int ((p0 + i : Nat) : Int)), v3, v4, none, none, v7, none] ∧ ∃ (Y' : Lay) (G' : Gh) (S' : PMS) (rs cs : List Bool) (sd : List (K82.Ans Str)),
        Now K H0 H' Y' G' S' (b + i) (bw + 2 * i) first (rep ++ rs) (cb ++ cs) sd ∧ SinceW G' S'.n (G'.moment + 1) ∧ YL Y Y' ∧ Tups H H' ∧ (rep ++ rs).length + K82.readsOf (B.drop i) ≤ 100 ∧ wishesOf (B.drop i) ≤ 1 ∧ (wishesOf (B.drop i) ≠ 0 → S'.wish = none) ∧
        W0 = ⟨rs ++ (K82.follow (K82.tree (B.drop i) S' sd (p0 + i)) (first.drop (rep ++ rs).length)).rep, cs ++ (K82.follow (K82.tree (B.drop i) S' sd (p0 + i)) (first.drop (rep ++ rs).length)).cb, (K82.follow (K82.tree (B.drop i) S' sd (p0 + i)) (first.drop (rep ++ rs).length)).said, (K82.follow (K82.tree (B.drop i) S' sd (p0 + i)) (first.drop (rep ++ rs).length)).stop⟩)
      ⟨none, none, none, rfl, Y, G, S, [], [], said, by simp only [List.append_nil]; exact N, W, YL.refl Y, Tups.refl H, by simp only [List.append_nil, List.drop_zero]; exact hrd, hws, fun _ => hw0, h0⟩ (fun i σ H' _ ⟨_, _, _, _, _, _, _, _, _, _, _, _, _, k, _⟩ => SqT.of (k _ _ hB.1)) ?_ ?_⟩
    · rintro i x σ H2 hi ⟨v3, v4, v7, rfl, Y2, G2, S2, rs, cs, sd, N2, W2, L2', k2, hr2, hw2, hw3, hW⟩
      have hix : i < xs.length := (List.getElem?_eq_some_iff.mp hi).1
      obtain ⟨st, hst, hS⟩ := pget hB.2.1 hi
      have hdr : B.drop i = st :: B.drop (i + 1) := by
        obtain ⟨h1, h2⟩ := List.getElem?_eq_some_iff.mp hst
        rw [List.drop_eq_getElem_cons h1, h2]
      rw [hdr] at hr2 hw2 hw3 hW
      have hrds : K82.readsOf (st :: B.drop (i + 1)) = K82.reads st + K82.readsOf (B.drop (i + 1)) := by simp [K82.readsOf]
      have hwis : wishesOf (st :: B.drop (i + 1)) = (if isWish st = true then 1 else 0) + wishesOf (B.drop (i + 1)) := by
        unfold wishesOf
        by_cases q : isWish st = true
        · rw [List.filter_cons_of_pos q, if_pos q]
          simp only [List.length_cons]
          omega
        · rw [List.filter_cons_of_neg q, if_neg q, Nat.zero_add]
      obtain ⟨ax, bx, rfl, hx, hin⟩ := id hS
      have e0 : Y2.ad 0 = Y.ad 0 := L2'.ad 0 (by omega)
      -- enter
      refine ⟨_, rfl, _, rfl, H0, Y2, G2, S2, b + i, bw + 2 * i, first, rep ++ rs, cb ++ cs, sd, ((p0 + i : Nat) : Int), by rw [e0]; rfl, N2, by omega, W2, fun H3 G3 N3 B3 k3 e3 => ?_⟩
      have k23 := k2.trans k3
      refine ⟨_, rfl, _, _, rfl, rfl, ?_⟩
      have hx3 := k23 _ _ hx
      refine ⟨_, rfl, ax, _, _, _, rfl, rfl, SqT.of hx3, atI_nat (j := 0) rfl, rfl, false, congrArg V.bl (decide_eq_false (fun e => (kind_plain st).1 (V.str.inj e))), iteF ?_⟩
      refine ⟨_, rfl, ax, _, _, _, rfl, rfl, SqT.of hx3, atI_nat (j := 0) rfl, rfl, false, congrArg V.bl (decide_eq_false (fun e => (kind_plain st).2 (V.str.inj e))), iteF ?_⟩
      refine ⟨_, rfl, ax, _, _, _, rfl, rfl, SqT.of hx3, atI_nat (j := 0) rfl, _, _, _, rfl, rfl, deeds T st, ?_⟩
      obtain ⟨ps, ok, hF, hok⟩ := deed_fn (P := P) (base := base) T st
      have hS3 : StmAt H3 (.ref ax) st := by
        refine ⟨ax, bx, rfl, hx3, ?_⟩
        cases st <;> first | trivial | exact k23 _ _ hin | exact hin
      have hstep := follow_step st (B.drop (i + 1)) S2 sd (p0 + i) (first.drop (rep ++ rs).length)
      rw [drop_head] at hstep
      refine ⟨_, ps, _, rfl, hF, _, rfl, _, rfl, H0, Y2, G3, S2, b + i, bw + 2 * i + 1, first, rep ++ rs, cb ++ cs, sd, .ref ax, st, by rw [e0], hok, hS3, N3, B3, by omega, by omega, by omega, fun hwi => hw3 (by rw [hwis, if_pos hwi]; omega), fun hn => ?_, fun d hd H4 Y4 G4 N4 W4 k4 e4 e5 L4 => ?_⟩
      · -- stopped
        rw [hn] at hstep
        have hstep : K82.follow (K82.tree (st :: B.drop (i + 1)) S2 sd (p0 + i)) (first.drop (rep ++ rs).length) = ⟨[], [], sd, some (p0 + i)⟩ := hstep
        rw [hstep] at hW
        simp only [List.append_nil] at hW
        intro d H' kd hdn hdx
        refine hE d H3 H' (by rw [hW]; exact fun z => nomatch z) ?_ kd hdn hdx
        refine ⟨Y2, G3, S2, _, _, by rw [hW]; exact N3, L2', k23, fun pl hpl => ?_⟩
        rw [hW] at hpl
        have : p0 + i = pl := Option.some.inj hpl
        rw [e3, this]
      · rw [hd] at hstep
        have hstep : K82.follow (K82.tree (st :: B.drop (i + 1)) S2 sd (p0 + i)) (first.drop (rep ++ rs).length) = _ := hstep
        rw [hstep] at hW
        have L24 := L2'.trans L4
        have e04 : Y4.ad 0 = Y.ad 0 := L24.ad 0 (by omega)
        have hi4 := N4.M.ins
        rw [e04] at hi4
        have k234 := k23.trans k4
        refine ⟨_, rfl, _, _, _, rfl, hi4, rfl, _, rfl, ?_⟩
        refine ⟨_, rfl, ?_⟩
        refine ⟨_, rfl, ax, _, _, rfl, k234 _ _ hx, (kind_plain st).1, (kind_plain st).2, fun p hp => ?_⟩
        refine ⟨p, rfl, ⟨_, SqT.of upd_same⟩, fun D hD => ?_⟩
        refine lc_it (g := gName 8) (tt := tYes) (te := fun _ _ _ => False) (walk_tup (K := K) (a := p) (xs := [])) (fun i H5 => H5 = upd (upd H4 p (.tup [])) D (.lst [])) rfl (fun i H5 _ e => by rw [e]; exact SqT.of (Same.upd hD _ _ upd_same)) (fun i x H5 H6 hi _ _ => absurd hi (Nat.not_lt_zero _)) ?_
        rintro H5 rfl
        have s5 : Same H4 (upd (upd H4 p (.tup [])) D (.lst [])) := (Same.upd hp).updT hD
        refine ⟨D, [], rfl, SqL.of upd_same, _, _, rfl, rfl, _, _, rfl, rfl, ?_⟩
        have epl : V.int (((p0 + i : Nat) : Int) + (1 + ([] : List Int).sum)) = V.int (((p0 + (i + 1) : Nat)) : Int) := by
          congr 1
        rw [epl]
        refine ⟨_, _, _, rfl, Y4, G4, d.S, rs ++ d.rs, cs ++ d.cs, sd ++ d.sd, ?_, ?_, L24, k234.trans s5.tups, ?_, ?_, ?_, ?_⟩
        · have N5 := N4.mono s5
          rw [← List.append_assoc, ← List.append_assoc]
          have e1 : b + i + 1 = b + (i + 1) := by omega
          have e2 : bw + 2 * i + 1 + 1 = bw + 2 * (i + 1) := by omega
          rw [e1, e2] at N5
          exact N5
        · rw [e5]
          exact W4
        · have := dstep_len hd
          rw [hrds] at hr2
          simp only [List.length_append] at hr2 ⊢
          omega
        · rw [hwis] at hw2
          omega
        · intro hne
          cases hwi : isWish st with
          | true =>
            rw [hwis, hwi, if_pos rfl] at hw2
            omega
          | false =>
            rw [dstep_wish hd hwi]
            exact hw3 (by rw [hwis]; omega)
        · rw [hW]
          have e6 : (first.drop (rep ++ rs).length).drop d.rs.length = first.drop (rep ++ (rs ++ d.rs)).length := by
            rw [List.drop_drop]
            congr 1
            simp only [List.length_append]
            omega
          rw [e6]
          have e7 : p0 + i + 1 = p0 + (i + 1) := by omega
          rw [e7]
          simp only [List.append_assoc]
    · rintro σ H2 ⟨v3, v4, v7, rfl, Y2, G2, S2, rs, cs, sd, N2, W2, L2', k2, hr2, hw2, hw3, hW⟩
      rw [hxl, List.drop_length] at hW
      have hW : W0 = ⟨rs, cs, sd, none⟩ := by
        rw [hW]
        simp [K82.tree, K82.follow]
      refine hQ H2 (by rw [hW]) ⟨Y2, G2, S2, _, _, by rw [hW]; exact N2, L2', k2, fun pl hpl => ?_⟩
      rw [hW] at hpl
      cases hpl
end
end K82W
end K82Exec_part
section K82Fin_part
set_option Elab.async false
set_option linter.all false
set_option maxRecDepth 100000
set_option maxHeartbeats 4000000
namespace K82W
open PySem PySem.Spec PyProof.Rows L2
theorem end_body : ∃ k p q, defBody s_Machine_end_moment = [.Return (some (.Constant .none k p)) q] := ⟨_, _, _, rfl⟩
def tEndC (K : PySem.W.Frag) (ta : TE) : TE := fun σ H Q => ta σ H fun x H1 => ∃ a dx fs, x = .ref a ∧ H1 a = some (.ins (CW K) dx fs) ∧ fs.lookup ("end_moment" : Str) = none ∧ Q .non H1
/-- machine.end_moment(), in an except suite too -/
theorem pe_endC {X : Cx} {o : Expr} {ta : TE} {apos pos : Pos} {mg : Str → Option Value} {pl : Sem Bool} (T : TxM X.K mg) (hdp : X.A.depth < recursionLimit) (he : PE X o ta)
    (ht : eval (.Call (.Attribute o "end_moment" apos) [] [] pos) X.env = (do
      let ov ← eval o X.env
      standAt apos.atName
      let (f, first) ← holding [ov] (getMethod ov "end_moment" pl)
      callWith pos f first (backTo pos (starEach [] X.env)) (backToKw pos (keywordEach [] X.env))) := by rfl) :
    PE X (.Call (.Attribute o "end_moment" apos) [] [] pos) (tEndC X.K ta) := by
  refine ⟨fun pins s σ H Q I h => ?_⟩
  obtain ⟨hm, fd, ⟨oc, od, dV, kV, doc, pm, an, cdv, ct, osl, hfd, lk, hcd, hdv, hkv⟩, kp⟩ := T.m_end_moment
  subst hfd
  obtain rfl : dV = .none := hdv.elim (fun z => z.2) (fun z => absurd rfl z.1)
  refine PySem.W.methodCall_KW (pl := pl) (thn (he.run pins s σ H _ I h) fun u s1 ⟨x, H1, I1, rx, a, dx, fs, ex, ea, l, q⟩ => ?_) ht
  subst ex
  obtain rfl : u = Value.ref a := rx
  refine getmeth_ok I1 ea T.c_Walker hm l ?_
  refine PySem.W.callWith_K0 (first := [.ref a]) I1.kIn hm.kp ?_
  have S := sc_Machine_end_moment
  obtain ⟨k, p, q1, hbody⟩ := end_body
  refine wpAny_call (codeAny_call_function hdp (I1.kIn _ _ lk) rfl S.co S.gen rfl (PySem.W.codeRec_of I1.kIn hcd) (BindsTo.of_eq (binds := [("self", .ref a)]) (by rfl) _ _ _ _ ?_))
  refine wpAny_newFunctionEnv_cells S.kind (fun y hy => ?_) fun env henv s2 x => ?_
  · rw [List.mem_singleton] at hy
    subst hy
    exact .inl rfl
  · subst henv
    obtain ⟨h2, tk, rfl, hk⟩ := x.done
    refine ⟨I1.nolimit.keeps hk, codeAny_func ?_⟩
    rw [hbody]
    refine wpAny_execs_cons (wpAny_Return_some ?_)
    exact Constant_none ⟨.non, H1, I1.kept hk, rfl, q⟩
end K82W
end K82Fin_part
section K82Finish_part
set_option Elab.async false
set_option linter.all false
set_option maxRecDepth 100000
set_option maxHeartbeats 4000000
namespace K82W
open PySem PySem.Spec PyProof.Rows L2
theorem pe_cS {X : Cx} {j k : Nat} {x : Str} {ps : List Str} {sp : Sp} {p pos : Pos} {e : Expr} {es : List Expr} {t : TA} {E : L2.St → XK} (c : Cal X.prog X.w X.K X.mg X.base k x ps sp) (hr : Room j X.A) (hk : k ≤ j) (hg : Gl X x) (hx : ∀ σ, PassesAt (CX X.prog X.w) X σ (E σ)) (ha : PA X (e :: es) t)
    (hdb : (x == ("__debug__" : Str)) = false := by decide) (he : starEach (e :: es) X.env = (false, eval e X.env) :: starEach es X.env := by rfl) (hpl : (backTo pos (starEach es X.env)).any (·.1) = false := by rfl) :
    PE X (.Call (.Name x p) (e :: es) [] pos) (tCallS sp E t) := by
  obtain ⟨f, fd, hm, F, kp, b⟩ := c
  exact pe_callS F (hr.mono hk) hg hm kp b hx ha hdb he hpl
structure TxF (K : PySem.W.Frag) (mg : Str → Option Value) (w : World) : Prop extends TxE K mg w where
  d_finish : FunE K "finish" "finish" s_finish (He.ga K "finish")
  g_finish : mg "finish" = some (.ref (He.ga K "finish"))
section
variable {P : Program} {w : World} {K : PySem.W.Frag} {mg : Str → Option Value} {base : Heap}
/-- the walk of a program from the answers on -/
noncomputable def walkOf (B : List PStm) (first : List Bool) : K82.Walk Str := K82.follow (K82.tree B K82.MS.init [] 0) first
def spFinish (K : PySem.W.Frag) : Sp := fun vs H Q _ => ∃ (H0 : Hp) (Y : Lay) (G : Gh) (first : List Bool) (xs : List V) (B : List PStm), vs = [.ref (Y.ad 0)] ∧ BlkAt H Y.blk xs B ∧
  Now K H0 H Y G K82.MS.init 0 0 first [] [] [] ∧ G.si = [] ∧ B.length ≤ 100 ∧ K82.readsOf B ≤ 100 ∧ wishesOf B ≤ 1 ∧
  ∀ H', ExecOut K H0 H Y first [] [] (walkOf B first) H' → ((walkOf B first).stop = none → Q .non H') ∧ ∀ pl, (walkOf B first).stop = some pl → ∀ t H2, Same H' H2 → H' t = none → H2 t = some (.tup [.str "name", .int (pl : Nat)]) → Q (.ref t) H2
theorem c_finish (T : TxF K mg w) : Cal P w K mg base 8 "finish" p_finish (spFinish K) := by
  refine calN T.d_finish T.g_finish sc_finish (fun _ _ _ _ _ _ us hl => match us, hl with | [_], _ => rfl) (fun vs H Q E h => ?_) (fun cdv A outer s H vs Q E hr h => ?_)
  · obtain ⟨H0, Y, G, first, xs, B, rfl, _⟩ := h
    rfl
  · obtain ⟨H0, Y, G, first, xs, B, rfl, hB, N, hsi, hBl, hrd, hws, hQ⟩ := h
    have hrd2 : Room 7 (A.deeper (envOfC "finish" (defScope s_finish) s.heap.objs.size (He.ga K "finish") cdv)) := hr
    refine ⟨_, pss_cons (ps_try_as (i := 1) (tb := fun W => tDrop (tCallS (spExec K) (WE W) (tCons (tVar 0) (tCons (tFld K (tVar 0) "block") (tCons (tC (.int 0)) tNil))))) (ts := fun a cls d => tSeq (tDrop (tEndC K (tVar 0))) (tRet (tTup (tCons (tWhy (CS K) a cls d (tVar 1)) (tCons (tFld K (tVar 0) "at_place") tNil))))) (Wout := fun _ _ _ _ => False) rfl rfl sc_finish.nd rfl rfl ⟨rfl, by decide, .inl T.stop.gC⟩ takes0
        (fun W pn xe tk _ => pss_one (ps_expr (by exact (pe_cS (c_execute T.toTxE) hr (by decide) (by rfl) (fun σ => passAt tk σ) (by exact (pa_cons (pv 0) (pa_cons (pe_fld (pv 0) rfl) (pa_cons pe_int pa_nil))))))))
        (fun a oe cls d pn hz hf => pss_cons (ps_expr (by exact (pe_endC T.toTxM hr.depth (pv 0)))) (pss_one (ps_ret (by exact (pe_tup (pa_cons (pe_why T.stop hz hf (pv 1)) (pa_cons (pe_fld (pv 0) rfl) pa_nil))))))))
      (pss_one (ps_ret pe_non)), ?_⟩
    refine ⟨_, rfl, _, rfl, _, _, _, _, _, rfl, N.M.ins, T.c_Walker, T.a_block, rfl, ?_⟩
    refine ⟨H0, Y, G, K82.MS.init, 0, 0, first, [], [], [], Y.blk, xs, B, 0, rfl, hB, N, ⟨[], hsi, Nat.zero_le _, fun m hm => by cases hm⟩, by omega, by omega, by simpa using hrd, hws, rfl, fun H' hst ho => ?_, fun d H1 H' hst ho kd hdn hdx => ?_⟩
    · exact (hQ H' ho).1 hst
    · refine ⟨true, T.stop.te, fun _ x hx => ?_, fun z => nomatch z⟩
      obtain ⟨Y', G', S', b', bw', N', L, k, hpl⟩ := id ho
      have M' := (N'.M.mono kd).ins
      rw [L.ad 0 (by omega)] at M'
      refine ⟨_, rfl, _, _, _, rfl, M', rfl, ?_⟩
      refine ⟨_, rfl, rfl, rfl, d, _, rfl, hdx, ?_⟩
      refine ⟨_, rfl, _, _, _, _, _, rfl, M', T.c_Walker, T.a_at_place, rfl, by show 2 ≤ sizeLine; decide, fun t ht => ?_⟩
      cases hs : (walkOf B first).stop with
      | none => exact absurd hs hst
      | some pl =>
        have := hpl pl hs
        rw [this]
        exact (hQ H1 ho).2 pl hs t _ (kd.updT ht) (kd.free ht) upd_same
end
end K82W
end K82Finish_part
section K82Init_part
set_option Elab.async false
set_option linter.all false
set_option maxRecDepth 100000
set_option maxHeartbeats 4000000
namespace K82W
open PySem PySem.Spec PyProof.Rows L2
/-- a walker while it is made: its fields, its parts -/
structure Grow (K : PySem.W.Frag) (H1 H : Hp) (x dx : Addr) (fs : List (Str × V)) (l : List (Addr × HO)) : Prop where
  ins : H x = some (.ins (CW K) dx fs)
  own : H dx = some (.own x)
  same : Same H1 H
  part : ∀ p ∈ l, H p.1 = some p.2
  nd : (x :: dx :: l.map (·.1)).Nodup
  fresh : ∀ p ∈ x :: dx :: l.map (·.1), H1 p = none
section
variable {K : PySem.W.Frag} {H1 H : Hp} {x dx : Addr} {fs : List (Str × V)} {l : List (Addr × HO)}
theorem Grow.mono {H' : Hp} (g : Grow K H1 H x dx fs l) (s : Same H H') : Grow K H1 H' x dx fs l := ⟨s _ _ g.ins, s _ _ g.own, g.same.trans s, fun p hp => s _ _ (g.part p hp), g.nd, g.fresh⟩
theorem Grow.fld (g : Grow K H1 H x dx fs l) (fs' : List (Str × V)) : Grow K H1 (upd H x (.ins (CW K) dx fs')) x dx fs' l where
  ins := upd_same
  own := by
    have : dx ≠ x := fun e => by
      have := g.nd
      rw [e] at this
      simp at this
    rw [upd_ne this]
    exact g.own
  same := fun b o e => by
    rw [upd_ne (ne_of_none e (g.fresh x List.mem_cons_self))]
    exact g.same b o e
  part := fun p hp => by
    have : p.1 ≠ x := fun e => by
      have h := (List.nodup_cons.mp g.nd).1
      exact h (List.mem_cons_of_mem _ (by rw [← e]; exact List.mem_map_of_mem hp))
    rw [upd_ne this]
    exact g.part p hp
  nd := g.nd
  fresh := g.fresh
theorem Grow.new (g : Grow K H1 H x dx fs l) {p : Addr} (o : HO) (hp : H p = none) : Grow K H1 (upd H p o) x dx fs (l ++ [(p, o)]) where
  ins := Same.upd hp _ _ g.ins
  own := Same.upd hp _ _ g.own
  same := g.same.updT hp
  part := fun q hq => by
    rcases List.mem_append.mp hq with hq | hq
    · exact Same.upd hp _ _ (g.part q hq)
    · rw [List.mem_singleton] at hq
      subst hq
      exact upd_same
  nd := by
    rw [List.map_append, ← List.cons_append, ← List.cons_append, List.nodup_append]
    refine ⟨g.nd, by simp, fun a ha b hb => ?_⟩
    simp only [List.map_cons, List.map_nil, List.mem_singleton] at hb
    subst hb
    rcases List.mem_cons.mp ha with rfl | ha
    · exact ne_of_none g.ins hp
    · rcases List.mem_cons.mp ha with rfl | ha
      · exact ne_of_none g.own hp
      · obtain ⟨q, hq, rfl⟩ := List.mem_map.mp ha
        exact ne_of_none (g.part q hq) hp
  fresh := fun a ha => by
    rw [List.map_append, ← List.cons_append, ← List.cons_append] at ha
    rcases List.mem_append.mp ha with ha | ha
    · exact g.fresh a ha
    · simp only [List.map_cons, List.map_nil, List.mem_singleton] at ha
      subst ha
      exact g.same.free hp
end
structure TxG (K : PySem.W.Frag) (mg : Str → Option Value) (w : World) : Prop extends TxF K mg w where
  d_Machine_init : FunE K "__init__" "Machine.__init__" s_Machine_init (He.ma K (He.ga K "Machine") "__init__")
def fs11 (blk : Addr) (bits : V) (a2 a3 a4 a5 a6 a7 a8 : Addr) : List (Str × V) :=
  [("block", .ref blk), ("bits", bits), ("at_place", .int (-1)), ("moment", .int (-1)), ("stands", .ref a2), ("kept", .ref a3), ("contents", .ref a4), ("wishes", .ref a5), ("lost", .ref a6), ("replies", .ref a7), ("spoken", .ref a8)]
section
variable {P : Program} {w : World} {K : PySem.W.Frag} {mg : Str → Option Value} {base : Heap}
def spMInit (K : PySem.W.Frag) : Sp := fun vs H Q _ => ∃ (H1 : Hp) (x dx a b : Addr) (bits : V) (xs : List V) (B : List PStm), vs = [.ref x, .ref a, bits] ∧ Grow K H1 H x dx [] [] ∧ PrgAt H1 a b xs B ∧
  ∀ H' a2 a3 a4 a5 a6 a7 a8, Grow K H1 H' x dx (fs11 b bits a2 a3 a4 a5 a6 a7 a8) [(a2, .dK []), (a3, .dK []), (a4, .lst []), (a5, .lst []), (a6, .lst []), (a7, .lst []), (a8, .lst [])] → Q .non H'
theorem f_Machine_init (T : TxG K mg w) : ∃ fd, FnOk P w K mg base (CX P w) 1 (He.ma K (He.ga K "Machine") "__init__") fd p_Machine_init (spMInit K) ∧ Binds K fd p_Machine_init [] ∧ PySem.W.keepIn K (.ref (He.ma K (He.ga K "Machine") "__init__")) = true := by
  obtain ⟨fd, F⟩ := T.d_Machine_init
  refine ⟨fd, fnN F sc_Machine_init (fun vs H Q E h => ?_) (fun cdv A outer s H vs Q E hr h => ?_), F.bindsN (fun _ _ _ _ _ _ us hl => match us, hl with | [_, _, _], _ => rfl), F.kp⟩
  · obtain ⟨H1, x, dx, a, b, bits, xs, B, rfl, _⟩ := h
    rfl
  · obtain ⟨H1, x, dx, a, b, bits, xs, B, rfl, g0, hP, hQ⟩ := h
    refine ⟨_, pss_cons (ps_fld (pv 0) (pe_ix ix_tup (pv 1) pe_int (fun _ _ => rfl)) rfl)
      (pss_cons (ps_fld (pv 0) (pv 2) rfl)
      (pss_cons (ps_fld (pv 0) (pe_un un_neg pe_int) rfl)
      (pss_cons (ps_fld (pv 0) (pe_un un_neg pe_int) rfl)
      (pss_cons (ps_fld (pv 0) pe_dnewK rfl)
      (pss_cons (ps_fld (pv 0) pe_dnewK rfl)
      (pss_cons (ps_fld (pv 0) (pe_lst pa_nil) rfl)
      (pss_cons (ps_fld (pv 0) (pe_lst pa_nil) rfl)
      (pss_cons (ps_fld (pv 0) (pe_lst pa_nil) rfl)
      (pss_cons (ps_fld (pv 0) (pe_lst pa_nil) rfl)
      (pss_one (ps_fld (pv 0) (pe_lst pa_nil) rfl))))))))))), ?_⟩
    have few : ∀ n : Nat, n ≤ 20 → n < 1000 := fun n h => by omega
    refine ⟨_, rfl, a, _, _, _, rfl, rfl, SqT.of (g0.same _ _ hP.1), atI_nat (j := 1) rfl, _, rfl, _, _, _, _, rfl, g0.ins, T.c_Walker, T.a_block, few _ (Nat.zero_le _), ?_⟩
    have g1 := g0.fld (putF "block" (.ref b) [])
    refine ⟨_, rfl, _, rfl, _, _, _, _, rfl, g1.ins, T.c_Walker, T.a_bits, few _ (by show 1 ≤ 20; decide), ?_⟩
    have g2 := g1.fld (putF "bits" bits (putF "block" (.ref b) []))
    refine ⟨_, rfl, _, rfl, _, _, _, _, rfl, g2.ins, T.c_Walker, T.a_at_place, few _ (by show 2 ≤ 20; decide), ?_⟩
    have g3 := g2.fld (putF "at_place" (.int (-1)) (putF "bits" bits (putF "block" (.ref b) [])))
    refine ⟨_, rfl, _, rfl, _, _, _, _, rfl, g3.ins, T.c_Walker, T.a_moment, few _ (by show 3 ≤ 20; decide), ?_⟩
    have g4 := g3.fld (putF "moment" (.int (-1)) (putF "at_place" (.int (-1)) (putF "bits" bits (putF "block" (.ref b) []))))
    have e4 : putF "moment" (.int (-1)) (putF "at_place" (.int (-1)) (putF "bits" bits (putF "block" (.ref b) []))) = (fs11 b bits 0 0 0 0 0 0 0).take 4 := rfl
    refine fun p2 h2 => ⟨_, rfl, _, _, _, _, rfl, (g4.new (.dK []) h2).ins, T.c_Walker, T.a_stands, few _ (by show 4 ≤ 20; decide), ?_⟩
    have g5 := (g4.new (.dK []) h2).fld ((fs11 b bits p2 0 0 0 0 0 0).take 5)
    refine fun p3 h3 => ⟨_, rfl, _, _, _, _, rfl, (g5.new (.dK []) h3).ins, T.c_Walker, T.a_kept, few _ (by show 5 ≤ 20; decide), ?_⟩
    have g6 := (g5.new (.dK []) h3).fld ((fs11 b bits p2 p3 0 0 0 0 0).take 6)
    refine ⟨Nat.zero_le _, fun p4 h4 => ⟨_, rfl, _, _, _, _, rfl, (g6.new (.lst []) h4).ins, T.c_Walker, T.a_contents, few _ (by show 6 ≤ 20; decide), ?_⟩⟩
    have g7 := (g6.new (.lst []) h4).fld ((fs11 b bits p2 p3 p4 0 0 0 0).take 7)
    refine ⟨Nat.zero_le _, fun p5 h5 => ⟨_, rfl, _, _, _, _, rfl, (g7.new (.lst []) h5).ins, T.c_Walker, T.a_wishes, few _ (by show 7 ≤ 20; decide), ?_⟩⟩
    have g8 := (g7.new (.lst []) h5).fld ((fs11 b bits p2 p3 p4 p5 0 0 0).take 8)
    refine ⟨Nat.zero_le _, fun p6 h6 => ⟨_, rfl, _, _, _, _, rfl, (g8.new (.lst []) h6).ins, T.c_Walker, T.a_lost, few _ (by show 8 ≤ 20; decide), ?_⟩⟩
    have g9 := (g8.new (.lst []) h6).fld ((fs11 b bits p2 p3 p4 p5 p6 0 0).take 9)
    refine ⟨Nat.zero_le _, fun p7 h7 => ⟨_, rfl, _, _, _, _, rfl, (g9.new (.lst []) h7).ins, T.c_Walker, T.a_replies, few _ (by show 9 ≤ 20; decide), ?_⟩⟩
    have g10 := (g9.new (.lst []) h7).fld ((fs11 b bits p2 p3 p4 p5 p6 p7 0).take 10)
    refine ⟨Nat.zero_le _, fun p8 h8 => ⟨_, rfl, _, _, _, _, rfl, (g10.new (.lst []) h8).ins, T.c_Walker, T.a_spoken, few _ (by show 10 ≤ 20; decide), ?_⟩⟩
    have g11 := (g10.new (.lst []) h8).fld (fs11 b bits p2 p3 p4 p5 p6 p7 p8)
    exact hQ _ p2 p3 p4 p5 p6 p7 p8 g11
end
end K82W
end K82Init_part
section K82Super_part
set_option Elab.async false
set_option linter.all false
set_option maxRecDepth 100000
set_option maxHeartbeats 4000000
namespace K82W
open PySem PySem.Spec PyProof.Rows L2
abbrev n_WI : List Str := ["self", "program", "inputs", "first", "paused", "__class__"]
theorem sc_WI : NdefX.NScope n_WI p_Walker_init ["__class__"] (defScope s_Walker_init) := NdefX.nscope_by (by decide +kernel)
abbrev fW (K : PySem.W.Frag) : Addr := He.ma K (CW K) "__init__"
abbrev fM (K : PySem.W.Frag) : Addr := He.ma K (He.ga K "Machine") "__init__"
structure SupTxt (P : Program) (K : PySem.W.Frag) (mg : Str → Option Value) : Prop where
  fn : ∃ (oc : Value) (od : Option Addr) (kV doc pm ctv : Value) (an : Option Addr) (osl : Array (Option Value)) (cda cc : Addr) (cdo : Obj) (vs : Array Value) (file : Str) (tf : Tok) (cl : Value) (cld : Option Addr) (csl : Array (Option Value)) (cdD : ClassData),
    K.lookup (fW K) = some ⟨oc, od, .func (PySem.W.ksFn "__init__" "Walker.__init__" (defArgs s_Walker_init) (defBody s_Walker_init) (defScope s_Walker_init) .none kV doc pm an (.ref cda) ctv cc), osl⟩ ∧ PySem.W.codeIn K (.ref cda) "Walker.__init__" = true ∧
    K.lookup cda = some cdo ∧ cdo.data = .fields vs ∧ vs[2]? = some (.str file tf) ∧ ((P.main.file : Str) == file) = true ∧ K.lookup cc = some ⟨cl, cld, .cell (some (.ref (CW K))), csl⟩ ∧ PySem.W.clsIn K (CW K) = some cdD
  sub : PySem.W.mroIn K (CW K) (.ref (CW K)) = some true
  sup : mg "super" = none
  any : PySem.W.nsIn K cStatics "thirdparty.any" = some none
  mth : PySem.W.ks_superIn K (CW K) (CW K) "__init__" = some (some (.ref (fM K)))
  ty : PySem.W.typeIn K (.ref (fM K)) = some (.type "function")
  fi : PySem.W.fnIn K (fM K) = true
  top : (P.main.scope.names.lookup ("super" : Str)).isSome = false
  kp : PySem.W.keepIn K (.ref (fW K)) = true
structure TxW (P : Program) (K : PySem.W.Frag) (mg : Str → Option Value) (w : World) : Prop extends TxG K mg w where
  sup : SupTxt P K mg
section
variable {P : Program} {w : World} {K : PySem.W.Frag} {mg : Str → Option Value} {base : Heap}
def fs18 (blk : Addr) (bits : V) (a2 a3 a4 a5 a6 a7 a8 fa qa a9 a10 a11 a12 a13 : Addr) : List (Str × V) :=
  [("block", .ref blk), ("bits", bits), ("at_place", .int (-1)), ("moment", .int (-1)), ("stands", .ref a2), ("kept", .ref a3), ("contents", .ref a4), ("wishes", .ref a5), ("lost", .ref a6), ("replies", .ref a7), ("spoken", .ref a8),
   ("first", .ref fa), ("quiet_places", .ref qa), ("since", .ref a9), ("free_moments", .ref a10), ("could_be", .ref a11), ("late", .ref a12), ("early", .ref a13)]
/-- what Walker.__init__ promises -/
def spWInit (K : PySem.W.Frag) : Sp := fun vs H Q _ => ∃ (H1 : Hp) (x dx a b : Addr) (bits : V) (fa qa : Addr) (xs : List V) (B : List PStm), vs = [.ref x, .ref a, bits, .ref fa, .ref qa] ∧ Grow K H1 H x dx [] [] ∧ PrgAt H1 a b xs B ∧
  ∀ H' a2 a3 a4 a5 a6 a7 a8 a9 a10 a11 a12 a13, Grow K H1 H' x dx (fs18 b bits a2 a3 a4 a5 a6 a7 a8 fa qa a9 a10 a11 a12 a13)
    [(a2, .dK []), (a3, .dK []), (a4, .lst []), (a5, .lst []), (a6, .lst []), (a7, .lst []), (a8, .lst []), (a9, .lst []), (a10, .lst []), (a11, .lst []), (a12, .lst []), (a13, .lst [])] → Q .non H'
theorem WInit_len : ∀ vs H Q E, spWInit K vs H Q E → vs.length = p_Walker_init.length := by
  rintro vs H Q E ⟨H1, x, dx, a, b, bits, fa, qa, xs, B, rfl, _⟩
  rfl
/-- the rest of it, behind super().__init__(..) -/
theorem WInit_rest (T : TxG K mg w) {F : NdefX.NF} {f : Addr} {A : Around} {outer : List Env} {s : Shared} {H0 : Hp} {E : XK} (hF : F.scope = defScope s_Walker_init) :
    ∃ t, PSs (NdefX.ncx (CX P w) P w K mg base n_WI F f A outer s H0 E) ((defBody s_Walker_init).drop 1) t ∧ ∀ (Q : VK) (H1 H : Hp) (x dx a b : Addr) (bits : V) (fa qa a2 a3 a4 a5 a6 a7 a8 : Addr) (v5 : Option V), Grow K H1 H x dx (fs11 b bits a2 a3 a4 a5 a6 a7 a8) [(a2, .dK []), (a3, .dK []), (a4, .lst []), (a5, .lst []), (a6, .lst []), (a7, .lst []), (a8, .lst [])] →
      (∀ H' a9 a10 a11 a12 a13, Grow K H1 H' x dx (fs18 b bits a2 a3 a4 a5 a6 a7 a8 fa qa a9 a10 a11 a12 a13)
        [(a2, .dK []), (a3, .dK []), (a4, .lst []), (a5, .lst []), (a6, .lst []), (a7, .lst []), (a8, .lst []), (a9, .lst []), (a10, .lst []), (a11, .lst []), (a12, .lst []), (a13, .lst [])] → Q .non H') →
      t { nx := fun _ H' => Q .non H', rt := Q } [some (.ref x), some (.ref a), some bits, some (.ref fa), some (.ref qa), v5] H := by
  obtain ⟨Fn, Fq, Fp, Fb, Fs, Fc, Fcc⟩ := F
  dsimp only at hF
  subst hF
  refine ⟨_, pss_cons (ps_fld (pv 0) (pv 3) rfl) (pss_cons (ps_fld (pv 0) (pv 4) rfl)
    (pss_cons (ps_fld (pv 0) (pe_lst pa_nil) rfl) (pss_cons (ps_fld (pv 0) (pe_lst pa_nil) rfl) (pss_cons (ps_fld (pv 0) (pe_lst pa_nil) rfl) (pss_cons (ps_fld (pv 0) (pe_lst pa_nil) rfl) (pss_one (ps_fld (pv 0) (pe_lst pa_nil) rfl))))))), ?_⟩
  intro Q H1 H x dx a b bits fa qa a2 a3 a4 a5 a6 a7 a8 v5 g0 hQ
  have few : ∀ n : Nat, n ≤ 20 → n < 1000 := fun n h => by omega
  refine ⟨_, rfl, _, rfl, _, _, _, _, rfl, g0.ins, T.c_Walker, T.a_first, few _ (by show 11 ≤ 20; decide), ?_⟩
  have g1 := g0.fld ((fs18 b bits a2 a3 a4 a5 a6 a7 a8 fa 0 0 0 0 0 0).take 12)
  refine ⟨_, rfl, _, rfl, _, _, _, _, rfl, g1.ins, T.c_Walker, T.a_quiet_places, few _ (by show 12 ≤ 20; decide), ?_⟩
  have g2 := g1.fld ((fs18 b bits a2 a3 a4 a5 a6 a7 a8 fa qa 0 0 0 0 0).take 13)
  refine ⟨Nat.zero_le _, fun p9 h9 => ⟨_, rfl, _, _, _, _, rfl, (g2.new (.lst []) h9).ins, T.c_Walker, T.a_since, few _ (by show 13 ≤ 20; decide), ?_⟩⟩
  have g3 := (g2.new (.lst []) h9).fld ((fs18 b bits a2 a3 a4 a5 a6 a7 a8 fa qa p9 0 0 0 0).take 14)
  refine ⟨Nat.zero_le _, fun p10 h10 => ⟨_, rfl, _, _, _, _, rfl, (g3.new (.lst []) h10).ins, T.c_Walker, T.a_free_moments, few _ (by show 14 ≤ 20; decide), ?_⟩⟩
  have g4 := (g3.new (.lst []) h10).fld ((fs18 b bits a2 a3 a4 a5 a6 a7 a8 fa qa p9 p10 0 0 0).take 15)
  refine ⟨Nat.zero_le _, fun p11 h11 => ⟨_, rfl, _, _, _, _, rfl, (g4.new (.lst []) h11).ins, T.c_Walker, T.a_could_be, few _ (by show 15 ≤ 20; decide), ?_⟩⟩
  have g5 := (g4.new (.lst []) h11).fld ((fs18 b bits a2 a3 a4 a5 a6 a7 a8 fa qa p9 p10 p11 0 0).take 16)
  refine ⟨Nat.zero_le _, fun p12 h12 => ⟨_, rfl, _, _, _, _, rfl, (g5.new (.lst []) h12).ins, T.c_Walker, T.a_late, few _ (by show 16 ≤ 20; decide), ?_⟩⟩
  have g6 := (g5.new (.lst []) h12).fld ((fs18 b bits a2 a3 a4 a5 a6 a7 a8 fa qa p9 p10 p11 p12 0).take 17)
  refine ⟨Nat.zero_le _, fun p13 h13 => ⟨_, rfl, _, _, _, _, rfl, (g6.new (.lst []) h13).ins, T.c_Walker, T.a_early, few _ (by show 17 ≤ 20; decide), ?_⟩⟩
  have g7 := (g6.new (.lst []) h13).fld ((fs18 b bits a2 a3 a4 a5 a6 a7 a8 fa qa p9 p10 p11 p12 p13).take 18)
  exact hQ _ p9 p10 p11 p12 p13 g7
end
end K82W
end K82Super_part
section K82WInit_part
set_option Elab.async false
set_option linter.all false
set_option maxRecDepth 100000
set_option maxHeartbeats 4000000
namespace K82W
open PySem PySem.Spec PyProof.Rows L2
section
variable {P : Program} {w : World} {K : PySem.W.Frag} {mg : Str → Option Value} {base : Heap}
theorem f_Walker_init (T : TxW P K mg w) : ∃ fd, FnOk P w K mg base (CX P w) 2 (fW K) fd p_Walker_init (spWInit K) ∧ Binds K fd p_Walker_init [] := by
  obtain ⟨oc, od, kV, doc, pm, ctv, an, osl, cda, cc, cdo, vsA, file, tf, cl, cld, csl, cdD, lk, hcd, lcd, hvd, hv2, hfile, lcc, hcls⟩ := T.sup.fn
  refine ⟨PySem.W.ksFn "__init__" "Walker.__init__" (defArgs s_Walker_init) (defBody s_Walker_init) (defScope s_Walker_init) .none kV doc pm an (.ref cda) ctv cc, ⟨WInit_len, fun A outer s H args us vs Q E hr e0 hb r hsp => ?_⟩, fun s us hK hl => BindsTo.of_eq ?_⟩
  rotate_left
  · rw [List.append_nil] at hl ⊢
    match us, hl with
    | [_, _, _, _, _], _ => rfl
  obtain ⟨fdm, FM, BM, kpM⟩ := f_Machine_init (P := P) (base := base) T.toTxG
  have KX : K.In s.heap := e0.mod.kin.keeps fun b o e => (e0.bs b o e).1
  have lim : s.heap.NoLimit := e0.mod.nolimit.keeps fun b o e => (e0.bs b o e).1
  have S := sc_WI
  have hl := WInit_len _ _ _ _ hsp
  -- the function as a datum
  obtain ⟨F, hF⟩ : ∃ F : NdefX.NF, F = ⟨"__init__", "Walker.__init__", defArgs s_Walker_init, defBody s_Walker_init, defScope s_Walker_init, [(("__class__" : Str), cc)], cda⟩ := ⟨_, rfl⟩
  have hFs : F.scope = defScope s_Walker_init := by rw [hF]
  have hFc : F.cl = [(("__class__" : Str), cc)] := by rw [hF]
  have henv : NdefX.envF F (fW K) s.heap.objs.size = PySem.W.ksEnv "Walker.__init__" (defScope s_Walker_init) s.heap.objs.size (fW K) (.ref cda) cc := by rw [hF]
  have hccb : s.heap.get? cc = some ⟨cl, cld, .cell (some (.ref (CW K))), csl⟩ := KX _ _ lcc
  have hccH : H cc = none := by
    have hb0 := e0.mod.kin _ _ lcc
    exact (e0.bs _ _ hb0).2
  have CA : NdefX.CellsAt F.cl ["__class__"] [none] s.heap H := by
    rw [hFc]
    refine ⟨rfl, fun y c e => ?_, fun y z c e1 e2 => ?_, fun i y hy => ?_⟩
    · have : y = "__class__" ∧ c = cc := by
        have h := PySem.mem_of_lookup e
        rw [List.mem_singleton] at h
        exact ⟨congrArg Prod.fst h, congrArg Prod.snd h⟩
      rw [this.2]
      exact ⟨hccH, _, _, hccb, rfl⟩
    · have h1 := PySem.mem_of_lookup e1
      have h2 := PySem.mem_of_lookup e2
      rw [List.mem_singleton] at h1 h2
      exact (show y = _ from congrArg Prod.fst h1).trans (show z = _ from congrArg Prod.fst h2).symm
    · match i, hy with
      | 0, hy =>
        cases hy
        exact ⟨cc, rfl, fun v hv => nomatch hv⟩
  refine ks_codeAny_call_defAt (body := defBody s_Walker_init) hr.depth (KX _ _ lk) rfl lim (PySem.W.codeRec_of KX hcd) rfl hb S.nocell (fun y hy => S.par y.1 (List.of_mem_zip (a := y.1) (b := y.2) hy).1) (fun h₁ hns kp => ?_) S.co S.gen S.kind
  have hm : h₁.Ns s.heap.objs.size fun y => (p_Walker_init.zip us).reverse.lookup y := hns
  obtain ⟨t, ht, rest⟩ := WInit_rest (P := P) (base := base) (F := F) (f := fW K) (A := A) (outer := outer) (s := s) (H0 := H) (E := E) T.toTxG hFs
  have I0 : Inv (NdefX.ncx (CX P w) P w K mg base n_WI F (fW K) A outer s H E) [] (NdefX.startF n_WI vs [none]) H { s with heap := h₁, toks := s.toks + (p_Walker_init.zip us).length } :=
    NdefX.inv_startN (by rw [hFs]; exact S) hr.hd e0 hl r CA hm kp
  obtain ⟨H1, x, dx, a, b, bits, fa, qa, xs, B, hvs, g0, hP, hQ⟩ := hsp
  have hI0 : Inv (NdefX.ncx (CX P w) P w K mg base n_WI F (fW K) A outer s H E) [] [some (.ref x), some (.ref a), some bits, some (.ref fa), some (.ref qa), none] H { s with heap := h₁, toks := s.toks + (p_Walker_init.zip us).length } := by
    rw [hvs] at I0
    exact I0
  clear I0
  subst hF
  have hx1 := hI0.hok x _ g0.ins
  obtain ⟨_, _, _, hxo, _⟩ := id hx1
  have KX1 : K.In h₁ := KX.keeps kp
  obtain ⟨oD, hD1, hD2⟩ : ∃ oD, h₁.get? (CW K) = some oD ∧ oD.data = .cls cdD := by
    have hc := hcls
    unfold PySem.W.clsIn at hc
    split at hc
    · rename_i c d cd' sl ho
      cases hc
      exact ⟨_, KX1 _ _ ho, rfl⟩
    · cases hc
  have hself : (p_Walker_init.zip us).reverse.lookup ("self" : Str) = some (Value.ref x) := by
    obtain ⟨u, hu, ru⟩ := r.get (i := 0) (x := .ref x) (by rw [hvs]; rfl)
    obtain rfl : u = Value.ref x := ru
    exact NdefX.zip_look (i := 0) (by decide +kernel) rfl hu
  refine ks_wpAt_execs_cons ?_
  refine ks_wpAt_Expr_any ?_
  refine ks_wpAt_MethodCall ?_
  have ctv' : ({ s with heap := h₁, toks := s.toks + (p_Walker_init.zip us).length } : Shared).heap = h₁ := rfl
  refine ks_wpAt_super_base (f := fW K) (cc := cda) (by rfl) (by rfl) (by decide) rfl (kp _ _ (KX _ _ lk)) rfl (by rfl) rfl (kp _ _ (KX _ _ lcd)) hvd hv2 hfile T.sup.top ?_
  obtain ⟨mb, hb1, hb2⟩ := hI0.mod.blt
  refine PySem.W.ks_loadName_global (by rfl) (by rfl) (PySem.Calls.loadGlobal_builtin (hI0.mod.glob.keeps hI0.bk) T.sup.sup (hb1.keeps hI0.bk) ((hb2 _ (by decide)).trans (by decide +kernel)) ⟨rfl, ?_⟩)
  refine wpAny_loadName_free (by rfl) (by rfl) (by rfl) ⟨_, kp _ _ hccb, rfl⟩ ?_
  refine wpAny_loadName_local (by rfl) (by rfl) hm hself ?_
  refine ks_wpAny_isType_cls hD1 hD2 ⟨rfl, ?_⟩
  refine ks_wpAny_call_super hD1 hD2 hxo rfl (fun c e => nomatch e) (PySem.W.looks_mroIn KX1 T.sup.sub) (fun h2 e2 k2 => ?_)
  have I2 := hI0.kept (h' := h2) (t' := s.toks + (p_Walker_init.zip us).length) k2
  have KX2 : K.In h2 := KX1.keeps k2
  have hal : PySem.W.alongIn K "__init__" ((cdD.mro.dropWhile (· != .ref (CW K))).drop 1) = some (some (.ref (fM K))) := by
    have q := T.sup.mth
    unfold PySem.W.ks_superIn at q
    rw [hcls] at q
    exact q
  obtain ⟨of, hof, hofc⟩ : ∃ of, h2.get? (fM K) = some of ∧ of.cls = .type "function" := by
    have ht' : (K.lookup (fM K)).map (·.cls) = some (.type "function") := T.sup.ty
    cases z : K.lookup (fM K) with
    | none => rw [z] at ht'; cases ht'
    | some of => rw [z] at ht'; exact ⟨of, KX2 _ _ z, Option.some.inj ht'⟩
  have hxC : x ≠ CW K := fun e => by
    rw [e, hD1] at hxo
    have := Option.some.inj hxo
    rw [this] at hD2
    cases hD2
  refine ks_wpAny_getMethod_super e2 (PySem.W.looks_opaque KX2 T.sup.any) (l₀ := cdD.mro) (fun A Q E s k q => wpAny_bind ((PySem.W.looks_clsIn KX2 hcls) A _ E s k (wpAny_pure q))) rfl KX2 hal hof hofc hxC (by decide) ?_
  have hqn : H h2.objs.size = none := I2.hok.fresh (Nat.le_refl _)
  have I3 := I2.laid (t' := s.toks + (p_Walker_init.zip us).length + 1) (a := h2.objs.size) (o := .met (fM K) x) (fun b u z => Heap.get?_push_of_some _ z) (Nat.le_refl _)
    (show (h2.push (PySem.W.methodObj (.ref (fM K)) (.ref x))).get? h2.objs.size = some (PySem.W.methodObj (.ref (fM K)) (.ref x)) from Heap.get?_push_size h2 rfl)
  have g1 := g0.mono (Same.upd (o := .met (fM K) x) hqn)
  refine callwith_met (X := NdefX.ncx (CX P w) P w K mg base n_WI ⟨"__init__", "Walker.__init__", defArgs s_Walker_init, defBody s_Walker_init, defScope s_Walker_init, [(("__class__" : Str), cc)], cda⟩ (fW K) A outer s H E) (g := fM K) (a := x) (by rfl) T.sup.fi ?_
  refine PySem.Calls.evalArgs_plain ?_
  refine thn ((pa_cons (X := NdefX.ncx (CX P w) P w K mg base n_WI ⟨"__init__", "Walker.__init__", defArgs s_Walker_init, defBody s_Walker_init, defScope s_Walker_init, [(("__class__" : Str), cc)], cda⟩ (fW K) A outer s H E) (pv 1) (pa_cons (pv 2) pa_nil)).run _ [] _ _ _ (fun vs H4 => vs = [.ref a, bits] ∧ H4 = upd H h2.objs.size (.met (fM K) x)) I3 ⟨_, rfl, _, rfl, rfl, rfl⟩) fun us4 s4 h4 => ?_
  obtain ⟨vs4, H4, I4, r4, ev, eH⟩ := h4
  subst ev eH
  refine ⟨met_P I4 upd_same, ?_⟩
  refine wpAny_call (codeAny_mono (PySem.W.method_call (met_P I4 upd_same).1 (run_fnR (E := E0) (Q := fun v H' => v = V.non ∧ ∃ a2 a3 a4 a5 a6 a7 a8, Grow K H1 H' x dx (fs11 b bits a2 a3 a4 a5 a6 a7 a8) [(a2, .dK []), (a3, .dK []), (a4, .lst []), (a5, .lst []), (a6, .lst []), (a7, .lst []), (a8, .lst [])])
    (FM.raw BM .nil) (hr.deeper _) passL I4 (vs := .ref x :: [.ref a, bits]) (.cons rfl r4) ⟨H1, x, dx, a, b, bits, xs, B, rfl, g1, hP, fun H' a2 a3 a4 a5 a6 a7 a8 g => ⟨rfl, a2, a3, a4, a5, a6, a7, a8, g⟩⟩)) fun r5 s5 h5 => ?_)
  cases r5 with
  | error e => exact h5
  | ok fl =>
    cases fl with
    | ret v =>
      obtain ⟨y, H5, I5, ry, ey, a2, a3, a4, a5, a6, a7, a8, g5⟩ := h5
      refine PySem.wpAt_of_wpAny (wpAny_mono (ht.run [] s5 _ H5 _ I5 (rest Q H1 H5 x dx a b bits fa qa a2 a3 a4 a5 a6 a7 a8 none g5 (fun H' a9 a10 a11 a12 a13 g => hQ H' a2 a3 a4 a5 a6 a7 a8 a9 a10 a11 a12 a13 g))) (fun fl s' hs => ?_) fun e s' hs => hs)
      cases fl with
      | ret u =>
        obtain ⟨v', σ', H', J, rv, q⟩ := hs
        exact ⟨v', H', J.os, J.bare, J.base, J.hok, rv, q⟩
      | next =>
        obtain ⟨σ', H', J, q⟩ := hs
        exact ⟨V.non, H', J.os, J.bare, J.base, J.hok, rfl, q⟩
      | brk =>
        obtain ⟨_, _, _, q⟩ := hs
        exact False.elim q
      | cont =>
        obtain ⟨_, _, _, q⟩ := hs
        exact False.elim q
    | next => exact False.elim h5
    | brk => exact False.elim h5
    | cont => exact False.elim h5
end
end K82W
end K82WInit_part
section K82Walked_part
set_option Elab.async false
set_option linter.all false
set_option maxRecDepth 100000
set_option maxHeartbeats 4000000
namespace K82W
open PySem PySem.Spec PyProof.Rows L2
structure TxV (P : Program) (K : PySem.W.Frag) (mg : Str → Option Value) (w : World) : Prop extends TxW P K mg w where
  mk_Walker : Mk K (CW K) (fW K)
  g_Walker : mg "Walker" = some (.ref (CW K))
  d_walked : FunE K "walked" "walked" s_walked (He.ga K "walked")
  g_walked : mg "walked" = some (.ref (He.ga K "walked"))
  d_next_first : FunE K "next_first" "next_first" s_next_first (He.ga K "next_first")
  g_next_first : mg "next_first" = some (.ref (He.ga K "next_first"))
  d_ways_of : FunE K "ways_of" "ways_of" s_ways_of (He.ga K "ways_of")
  g_ways_of : mg "ways_of" = some (.ref (He.ga K "ways_of"))
  g_MAXW : ∃ t, mg "MAX_WAYS" = some (.int 64 t)
/-- the end of a way -/
def EndAt (H : Hp) (v : V) : Option Nat → Prop
  | none => v = .non
  | some pl => ∃ t, v = .ref t ∧ H t = some (.tup [.str "name", .int (pl : Nat)])
/-- a way as it stands -/
def RowAt (H : Hp) (v : V) (r : K82.Row Str) : Prop := ∃ t tr ts e tl sv lv, v = .ref t ∧ H t = some (.tup [.ref tr, .ref ts, e, .ref tl]) ∧ H tr = some (.tup (r.rcd.map repV)) ∧ H ts = some (.tup sv) ∧ Paired (SaidAt H) sv r.said ∧ EndAt H e r.stop ∧ H tl = some (.tup lv) ∧ ((∀ b ∈ r.rcd, b = false) → lv = [])
theorem EndAt.mono {H H' : Hp} {v : V} {o : Option Nat} (h : EndAt H v o) (k : Tups H H') : EndAt H' v o := by
  cases o with
  | none => exact h
  | some pl =>
    obtain ⟨t, e, q⟩ := h
    exact ⟨t, e, k _ _ q⟩
theorem RowAt.mono {H H' : Hp} {v : V} {r : K82.Row Str} (h : RowAt H v r) (k : Tups H H') : RowAt H' v r := by
  obtain ⟨t, tr, ts, e, tl, sv, lv, h0, h1, h2, h3, h4, h5, h6, h7⟩ := h
  exact ⟨t, tr, ts, e, tl, sv, lv, h0, k _ _ h1, k _ _ h2, k _ _ h3, pmono h4 (fun v a z => z.mono k), h5.mono k, k _ _ h6, h7⟩
def WalkerAt (K : PySem.W.Frag) (H0 H : Hp) (wk : Addr) (rep cb : List Bool) : Prop := ∃ dx fs rl cl, (H0 wk = none ∧ H0 rl = none ∧ H0 cl = none) ∧ H wk = some (.ins (CW K) dx fs) ∧ fs.lookup ("replies" : Str) = some (.ref rl) ∧ H rl = some (.lst (rep.map repV)) ∧ fs.lookup ("could_be" : Str) = some (.ref cl) ∧ H cl = some (.lst (cb.map V.bl))
theorem WalkerAt.mono {K : PySem.W.Frag} {H0 H H' : Hp} {wk : Addr} {rep cb : List Bool} (h : WalkerAt K H0 H wk rep cb) (s : Same H H') : WalkerAt K H0 H' wk rep cb := by
  obtain ⟨dx, fs, rl, cl, h0, h1, h2, h3, h4, h5⟩ := h
  exact ⟨dx, fs, rl, cl, h0, s _ _ h1, h2, s _ _ h3, h4, s _ _ h5⟩
def G0 : Gh := ⟨-1, -1, 0, [], [], [], [], [], [], [], [], [], [], [], fun _ => []⟩
theorem sim0 {H : Hp} : Sim H G0 K82.MS.init 0 where
  n := rfl
  nb := Nat.le_refl _
  st1 := fun q hq => nomatch hq
  st2 := fun x c h => nomatch h
  stb := Nat.le_refl _
  kp1 := fun q hq => nomatch hq
  kp2 := fun c h => nomatch h
  kpb := Nat.le_refl _
  cd1 := fun c hc => absurd hc (Nat.not_lt_zero _)
  cd2 := fun c f v h => nomatch h
  cdb := fun c => Nat.le_refl _
  fldB := fun c f v h => nomatch h
  envB := fun x c h => nomatch h
  keptB := fun c h => nomatch h
  ws := rfl
  wishB := fun c w h => nomatch h
  ls := rfl
  lostB := fun c h => nomatch h
theorem wlk0 {H : Hp} : Wlk H G0 [] [] [] 0 where
  rs := rfl
  cbs := rfl
  cbl := rfl
  rb := by decide
  ss := .nil
  sb := Nat.le_refl _
  fm := ⟨[], rfl, Nat.le_refl _⟩
  la := fun v hv => nomatch hv
  lal := Nat.le_refl _
  la0 := fun _ => rfl
  eal := Nat.le_refl _
section
variable {P : Program} {w : World} {K : PySem.W.Frag} {mg : Str → Option Value} {base : Heap}
theorem nodup_getD {l : List Addr} (h : l.Nodup) {i j : Nat} (hi : i < l.length) (hj : j < l.length) (e : l.getD i 0 = l.getD j 0) : i = j := by
  rw [List.getD_eq_getElem?_getD, List.getD_eq_getElem?_getD, List.getElem?_eq_getElem hi, List.getElem?_eq_getElem hj] at e
  have e := Option.some.inj (show some l[i] = some l[j] from congrArg some e)
  rcases Nat.lt_trichotomy i j with q | q | q
  · exact absurd e (List.pairwise_iff_getElem.mp h i j hi hj q)
  · exact q
  · exact absurd e.symm (List.pairwise_iff_getElem.mp h j i hj hi q)
theorem Grow.now {H1 H : Hp} {x dx b : Addr} {bits : V} {a2 a3 a4 a5 a6 a7 a8 fa qa a9 a10 a11 a12 a13 : Addr} (g : Grow K H1 H x dx (fs18 b bits a2 a3 a4 a5 a6 a7 a8 fa qa a9 a10 a11 a12 a13)
    [(a2, .dK []), (a3, .dK []), (a4, .lst []), (a5, .lst []), (a6, .lst []), (a7, .lst []), (a8, .lst []), (a9, .lst []), (a10, .lst []), (a11, .lst []), (a12, .lst []), (a13, .lst [])]) {first : List Bool} (hf : H1 fa = some (.tup (first.map repV))) (hq : SqT K H1 qa []) :
    Now K H1 H ⟨CW K, b, bits, fa, qa, fun i => [x, dx, a2, a3, a4, a5, a6, a7, a8, a9, a10, a11, a12, a13].getD i 0⟩ G0 K82.MS.init 0 0 first [] [] [] where
  M := by
    refine ⟨rfl, g.same, fun i j hi hj e => nodup_getD g.nd hi hj e, fun i hi => ?_, fun i hi => ?_⟩
    · refine g.fresh _ ?_
      have hi : i < 14 := hi
      show ([x, dx, a2, a3, a4, a5, a6, a7, a8, a9, a10, a11, a12, a13].getD i 0) ∈ [x, dx, a2, a3, a4, a5, a6, a7, a8, a9, a10, a11, a12, a13]
      rw [List.getD_eq_getElem?_getD, List.getElem?_eq_getElem hi]
      exact List.getElem_mem _
    · have hi : i < 14 := hi
      have p : ∀ n, (h : n < 12) → H ([(a2, HO.dK []), (a3, .dK []), (a4, .lst []), (a5, .lst []), (a6, .lst []), (a7, .lst []), (a8, .lst []), (a9, .lst []), (a10, .lst []), (a11, .lst []), (a12, .lst []), (a13, .lst [])][n]'h).1 = some ([(a2, HO.dK []), (a3, .dK []), (a4, .lst []), (a5, .lst []), (a6, .lst []), (a7, .lst []), (a8, .lst []), (a9, .lst []), (a10, .lst []), (a11, .lst []), (a12, .lst []), (a13, .lst [])][n]'h).2 := fun n h => g.part _ (List.getElem_mem h)
      match i, hi with
      | 0, _ => exact g.ins
      | 1, _ => exact g.own
      | 2, _ => exact p 0 (by decide)
      | 3, _ => exact p 1 (by decide)
      | 4, _ => exact p 2 (by decide)
      | 5, _ => exact p 3 (by decide)
      | 6, _ => exact p 4 (by decide)
      | 7, _ => exact p 5 (by decide)
      | 8, _ => exact p 6 (by decide)
      | 9, _ => exact p 7 (by decide)
      | 10, _ => exact p 8 (by decide)
      | 11, _ => exact p 9 (by decide)
      | 12, _ => exact p 10 (by decide)
      | 13, _ => exact p 11 (by decide)
  fi := hf
  qu := hq
  I := sim0
  b100 := by decide
  W := wlk0
  bw1 := by decide
def spWalked (K : PySem.W.Frag) : Sp := fun vs H Q _ => ∃ (a b : Addr) (bits : V) (fa qa : Addr) (xs : List V) (B : List PStm) (first : List Bool), vs = [.ref a, bits, .ref fa, .ref qa] ∧ PrgAt H a b xs B ∧ H fa = some (.tup (first.map repV)) ∧ SqT K H qa [] ∧ B.length ≤ 100 ∧ K82.readsOf B ≤ 100 ∧ wishesOf B ≤ 1 ∧
  ∀ H' t way wk, Same H H' → H' t = some (.tup [.ref way, .ref wk]) → RowAt H' (.ref way) (walkOf B first).row → WalkerAt K H H' wk (walkOf B first).rep (walkOf B first).cb → Q (.ref t) H'
theorem c_walked (T : TxV P K mg w) : Cal P w K mg base 9 "walked" p_walked (spWalked K) := by
  obtain ⟨fdw, Fw, Bw⟩ := f_Walker_init (P := P) (base := base) T.toTxW
  refine calN T.d_walked T.g_walked sc_walked (fun _ _ _ _ _ _ us hl => match us, hl with | [_, _, _, _], _ => rfl) (fun vs H Q E h => ?_) (fun cdv A outer s H vs Q E hr h => ?_)
  · obtain ⟨a, b, bits, fa, qa, xs, B, first, rfl, _⟩ := h
    rfl
  · obtain ⟨a, b, bits, fa, qa, xs, B, first, rfl, hP, hfa, hqa, hBl, hrd, hws, hQ⟩ := h
    obtain ⟨tB, hB, rB⟩ : ∃ t, PSs (cxOf (L2.CX P w) P w K mg base n_walked "walked" (defScope s_walked) (He.ga K "walked") cdv A outer s H E).nox ((defBody s_walked).drop 2) t ∧
        ∀ (x : Addr) (endv : V) (Y : Lay) (H3 H4 : Hp), Y.ad 0 = x → ExecOut K H H3 Y first [] [] (walkOf B first) H4 → ∀ H5, Same H4 H5 → EndAt H5 endv (walkOf B first).stop → t { nx := fun _ H' => Q .non H', rt := Q } [some (.ref a), some bits, some (.ref fa), some (.ref qa), some (.ref x), some endv] H5 := by
      refine ⟨_, pss_one (ps_ret (pe_tup (pa_cons (pe_tup (pa_cons (pe_callTy call_tuple_of (by rfl) T.b_tuple (by decide +kernel) (pa_cons (pe_fld (pv 4) rfl) pa_nil)) (pa_cons (pe_callTy call_tuple_of (by rfl) T.b_tuple (by decide +kernel) (pa_cons (pe_fld (pv 4) rfl) pa_nil)) (pa_cons (pv 5)
        (pa_cons (pe_callTy call_tuple_of (by rfl) T.b_tuple (by decide +kernel) (pa_cons (pe_callB cr_sortedP (by rfl) T.b_sorted (by decide +kernel) (pa_cons (pe_fld (pv 4) rfl) pa_nil)) pa_nil)) pa_nil))))) (pa_cons (pv 4) pa_nil)))), ?_⟩
      rintro x endv Y H3 H4 rfl ⟨Y', G', S', b', bw', N, L, k4, _⟩ H5 s5 he
      have N5 := N.mono s5
      rw [List.nil_append, List.nil_append] at N5
      have hi := N5.M.ins
      rw [L.ad 0 (by omega)] at hi
      have hre := N5.M.replies
      rw [N5.W.rs] at hre
      have hcb := N5.M.could
      rw [N5.W.cbs] at hcb
      have hla := N5.W.la
      refine ⟨_, rfl, _, _, _, _, _, rfl, hi, T.c_Walker, T.a_replies, rfl, _, _, rfl, .inl ⟨SqL.of hre, fun t1 ht1 => ?_⟩⟩
      have s6 := Same.upd (o := .tup ((walkOf B first).rep.map repV)) ht1
      refine ⟨_, rfl, _, _, _, _, _, rfl, s6 _ _ hi, T.c_Walker, T.a_spoken, rfl, _, _, rfl, .inl ⟨SqL.of (s6 _ _ N5.M.spoken), fun t2 ht2 => ?_⟩⟩
      have s7 := s6.updT (o := .tup G'.ss) ht2
      refine ⟨_, rfl, ?_⟩
      refine ⟨_, rfl, _, _, _, _, _, rfl, s7 _ _ hi, T.c_Walker, T.a_late, rfl, _, G'.la, rfl, SqL.of (s7 _ _ N5.M.late), fun v hv => ?_, fun ys p perm hp => ?_⟩
      · obtain ⟨t, i, j, h1, h2⟩ := hla v hv
        exact ⟨t, i, j, h1, s7 _ _ h2⟩
      have s8 := s7.updT (o := .lst ys) hp
      refine ⟨_, _, rfl, .inl ⟨SqL.of upd_same, fun t3 ht3 => ?_⟩⟩
      have s9 := s8.updT (o := .tup ys) ht3
      refine ⟨by show 4 ≤ sizeLine; decide, fun t4 ht4 => ?_⟩
      have s10 := s9.updT (o := .tup [.ref t1, .ref t2, endv, .ref t3]) ht4
      refine ⟨_, rfl, by show 2 ≤ sizeLine; decide, fun t5 ht5 => ?_⟩
      have s11 := s10.updT (o := .tup [.ref t4, .ref (Y.ad 0)]) ht5
      have u8 := Same.upd (o := .lst ys) hp
      have u9 := Same.upd (o := .tup ys) ht3
      have u10 := Same.upd (o := .tup [.ref t1, .ref t2, endv, .ref t3]) ht4
      have u11 := Same.upd (o := .tup [.ref t4, .ref (Y.ad 0)]) ht5
      have u7 := Same.upd (o := .tup G'.ss) ht2
      refine hQ _ t5 t4 (Y.ad 0) (N.M.same.trans (s5.trans s11)) upd_same ⟨t4, t1, t2, endv, t3, G'.ss, ys, rfl, u11 _ _ upd_same, u11 _ _ (u10 _ _ (u9 _ _ (u8 _ _ (u7 _ _ upd_same)))), u11 _ _ (u10 _ _ (u9 _ _ (u8 _ _ upd_same))), pmono N5.W.ss (fun v a z => z.mono s11.tups), he.mono s11.tups, u11 _ _ (u10 _ _ upd_same), fun hno => ?_⟩
        ⟨_, _, _, _, ⟨by rw [← L.ad 0 (by omega)]; exact N.M.fresh 0 (by omega), N.M.fresh 7 (by omega), N.M.fresh 11 (by omega)⟩, s11 _ _ hi, rfl, s11 _ _ hre, rfl, s11 _ _ hcb⟩
      have h0 := N5.W.la0 hno
      rw [h0] at perm
      exact List.perm_nil.mp perm
    refine ⟨_, pss_cons (ps_set (i := 4) sc_walked.nd rfl (Or.inl rfl) (pe_make T.mk_Walker (Fw.mono (by decide : 2 ≤ 7)) hr (by rfl) T.g_Walker Bw .nil passL (pa_cons (pv 0) (pa_cons (pv 1) (pa_cons (pv 2) (pa_cons (pv 3) pa_nil))))))
      (pss_cons (ps_set (i := 5) sc_walked.nd rfl (Or.inl rfl) (pe_c (c_finish T.toTxF) hr (by decide) (by rfl) passL (pa_cons (pv 4) pa_nil))) hB), ?_⟩
    refine ⟨_, rfl, _, rfl, _, rfl, _, rfl, fun x dx hx hdx hne => ?_⟩
    have hx2 : upd H dx (.own x) x = none := by rw [upd_ne hne.symm]; exact hx
    have g0 : Grow K H (upd (upd H dx (.own x)) x (.ins (CW K) dx [])) x dx [] [] := {
      ins := upd_same
      own := by rw [upd_ne hne]; exact upd_same
      same := (Same.upd hdx).updT hx2
      part := fun p hp => nomatch hp
      nd := by
        show [x, dx].Nodup
        simp only [List.nodup_cons, List.mem_singleton, List.not_mem_nil, not_false_eq_true, List.nodup_nil, and_true]
        exact hne.symm
      fresh := fun p hp => by
        have hp : p ∈ [x, dx] := hp
        rcases List.mem_cons.mp hp with e | hp
        · rw [e]; exact hx
        · rw [List.mem_singleton] at hp
          rw [hp]; exact hdx }
    refine ⟨H, x, dx, a, b, bits, fa, qa, xs, B, rfl, g0, hP, fun H2 a2 a3 a4 a5 a6 a7 a8 a9 a10 a11 a12 a13 g => ⟨rfl, ?_⟩⟩
    have N := g.now hfa hqa
    refine ⟨_, rfl, H, _, G0, first, xs, B, rfl, hP.2.mono g.same, N, rfl, hBl, hrd, hws, fun H3 ho => ⟨fun hst => ?_, fun pl hst t H4 k4 ht0 ht => ?_⟩⟩
    · exact rB x .non _ H2 H3 rfl ho H3 (fun _ _ e => e) (by rw [hst]; rfl)
    · exact rB x (.ref t) _ H2 H3 rfl ho H4 k4 (by rw [hst]; exact ⟨t, rfl, ht⟩)
end
end K82W
end K82Walked_part
section K82Next_part
set_option Elab.async false
set_option linter.all false
set_option maxRecDepth 100000
set_option maxHeartbeats 4000000
namespace K82W
open PySem PySem.Spec PyProof.Rows L2
/-- what next takes: the last answer no where yes could be -/
theorem next_spec : ∀ (rs cs : List Bool), rs.length = cs.length → (K82.next rs cs = none ∧ ∀ i : Nat, ¬ (cs[i]? = some true ∧ rs[i]? = some false)) ∨ ∃ k : Nat, K82.next rs cs = some (rs.take k ++ [true]) ∧ cs[k]? = some true ∧ rs[k]? = some false ∧ ∀ i : Nat, k < i → ¬ (cs[i]? = some true ∧ rs[i]? = some false)
  | [], [], _ => .inl ⟨rfl, fun i h => by simp at h⟩
  | [], _ :: _, h => by simp at h
  | _ :: _, [], h => by simp at h
  | r :: rs, c :: cs, h => by
    rcases next_spec rs cs (by simpa using h) with ⟨e, hn⟩ | ⟨k, e, h1, h2, h3⟩
    · by_cases q : c = true ∧ r = false
      · refine .inr ⟨0, ?_, by simp [q.1], by simp [q.2], fun i hi => ?_⟩
        · simp only [K82.next, e]
          rw [if_pos q]
          rfl
        · obtain ⟨j, rfl⟩ : ∃ j, i = j + 1 := ⟨i - 1, by omega⟩
          simpa using hn j
      · refine .inl ⟨?_, fun i => ?_⟩
        · simp only [K82.next, e]
          rw [if_neg q]
        · cases i with
          | zero => simpa using fun a b => q ⟨a, b⟩
          | succ j => simpa using hn j
    · refine .inr ⟨k + 1, ?_, by simpa using h1, by simpa using h2, fun i hi => ?_⟩
      · simp only [K82.next, e]
        rfl
      · obtain ⟨j, rfl⟩ : ∃ j, i = j + 1 := ⟨i - 1, by omega⟩
        simpa using h3 j (by omega)
section
variable {P : Program} {w : World} {K : PySem.W.Frag} {mg : Str → Option Value} {base : Heap}
def spNext (K : PySem.W.Frag) : Sp := fun vs H Q _ => ∃ (H0 : Hp) (wk : Addr) (rep cb : List Bool), vs = [.ref wk] ∧ WalkerAt K H0 H wk rep cb ∧ rep.length = cb.length ∧ rep.length ≤ 1000 ∧
  (K82.next rep cb = none → Q .non H) ∧ ∀ g, K82.next rep cb = some g → ∀ H' t, Same H H' → H' t = some (.tup (g.map repV)) → Q (.ref t) H'
theorem c_next_first (T : TxV P K mg w) : Cal P w K mg base 1 "next_first" p_next_first (spNext K) := by
  refine calN T.d_next_first T.g_next_first sc_next_first (fun _ _ _ _ _ _ us hl => match us, hl with | [_], _ => rfl) (fun vs H Q E h => ?_) (fun cdv A outer s H vs Q E hr h => ?_)
  · obtain ⟨H0, wk, rep, cb, rfl, _⟩ := h
    rfl
  · obtain ⟨H0, wk, rep, cb, rfl, ⟨dx, fs, rl, cl, _, hi, l1, h1, l2, h2⟩, hlen, hle, hN, hS⟩ := h
    refine ⟨_, pss_cons (ps_for PassesOwn.never rfl (pi_range3 (by rfl) T.b_range (pa_cons (pe_op op_sub (pe_callB call_len_seq (by rfl) T.b_len PySem.boot_len (pa_cons (pe_fld (pv 0) rfl) pa_nil)) pe_int) (pa_cons (pe_un un_neg pe_int) (pa_cons (pe_un un_neg pe_int) pa_nil)))) (pg_name (i := 1) sc_next_first.nd rfl (Or.inl rfl))
        (pss_one (ps_if (pw_and (pt_val (pe_ix ix_list (pe_fld (pv 0) rfl) (pv 1) (fun _ _ => rfl))) (pw_and1 (pt_cmpR op_eq (pe_ix ix_list (pe_fld (pv 0) rfl) (pv 1) (fun _ _ => rfl)) pe_int (nomark _)))).pt
          (pss_one (ps_ret (pe_op op_catA (pe_callTy call_tuple_of (by rfl) T.b_tuple (by decide +kernel) (pa_cons (pe_slice sl_list (pe_fld (pv 0) rfl) po_none (po_some (pv 1))) pa_nil)) (pe_tup (pa_cons pe_int pa_nil))))) pss_nil)))
      (pss_one (ps_ret pe_non)), ?_⟩
    have hrl : (rep.map repV).length = rep.length := List.length_map ..
    refine ⟨_, rfl, _, _, _, _, _, rfl, hi, T.c_Walker, T.a_replies, l1, _, _, rfl, .inl (SqL.of h1), _, _, rfl, rfl, _, rfl, _, rfl, _, _, _, rep.length, rfl, ?_, ?_⟩
    · have := RgC.neg (i := ((rep.map repV).length : Int) - 1) (j := -1) (by rw [hrl]; omega) (by rw [hrl]; omega) (by decide) (by decide)
      rw [hrl] at this ⊢
      have e : ((rep.length : Int) - 1 - -1).toNat = rep.length := by omega
      rw [e] at this
      exact this
    rw [hrl]
    refine for_rangeC (fun i σ H' => (∃ v1, σ = [some (.ref wk), v1]) ∧ H' = H ∧ ∀ j, rep.length - i ≤ j → ¬ (cb[j]? = some true ∧ rep[j]? = some false)) ⟨⟨none, rfl⟩, rfl, fun j hj q => ?_⟩ ?_ ?_
    · have := List.getElem?_eq_none_iff.mpr (show rep.length ≤ j by omega)
      rw [this] at q
      cases q.2
    · rintro i σ H' hi2 ⟨⟨v1, rfl⟩, rfl, hno⟩
      obtain ⟨k, hk⟩ : ∃ k : Nat, rep.length = k + 1 + i := ⟨rep.length - 1 - i, by omega⟩
      have ek : ((rep.length : Int) - 1 + (i : Nat) * -1) = ((k : Nat) : Int) := by omega
      rw [ek]
      have hkl : k < rep.length := by omega
      obtain ⟨c, hc⟩ : ∃ c, cb[k]? = some c := ⟨cb[k]'(by omega), List.getElem?_eq_getElem (by omega)⟩
      obtain ⟨r, hrk⟩ : ∃ r, rep[k]? = some r := ⟨rep[k], List.getElem?_eq_getElem hkl⟩
      refine ⟨_, rfl, _, _, _, _, _, rfl, hi, T.c_Walker, T.a_could_be, l2, _, rfl, _, _, _, _, rfl, rfl, SqL.of h2, atI_nat (j := k) (show (cb.map V.bl)[k]? = some (V.bl c) by rw [List.getElem?_map, hc]; rfl), c, rfl, ?_⟩
      have go : ¬ (c = true ∧ r = false) → (∃ v1', [some (V.ref wk), some (V.int (k : Nat))] = [some (V.ref wk), v1']) ∧ H' = H' ∧ ∀ j, rep.length - (i + 1) ≤ j → ¬ (cb[j]? = some true ∧ rep[j]? = some false) := fun hn => ⟨⟨_, rfl⟩, rfl, fun j hj q => by
        by_cases z : j = k
        · subst z
          rw [hc, hrk] at q
          exact hn ⟨Option.some.inj q.1, Option.some.inj q.2⟩
        · exact hno j (by omega) q⟩
      cases c with
      | false => exact iteF (iteF (go (fun z => nomatch z.1)))
      | true =>
        refine iteT ⟨_, rfl, _, _, _, _, _, rfl, hi, T.c_Walker, T.a_replies, l1, _, rfl, _, _, _, _, rfl, rfl, SqL.of h1, atI_nat (j := k) (show (rep.map repV)[k]? = some (repV r) by rw [List.getElem?_map, hrk]; rfl), by cases r <;> rfl, _, rfl, ?_⟩
        rw [repV_eq0]
        cases r with
        | true => exact iteF (go (fun z => nomatch z.2))
        | false =>
          obtain ⟨g, hg, eg⟩ : ∃ g, K82.next rep cb = some g ∧ g = rep.take k ++ [true] := by
            rcases next_spec rep cb hlen with ⟨_, hn⟩ | ⟨k', e, q1, q2, q3⟩
            · exact absurd ⟨hc, hrk⟩ (hn k)
            · have : k' = k := by
                rcases Nat.lt_trichotomy k k' with q | q | q
                · exact absurd ⟨q1, q2⟩ (hno k' (by omega))
                · exact q.symm
                · exact absurd ⟨hc, hrk⟩ (q3 k q)
              subst this
              exact ⟨_, e, rfl⟩
          subst eg
          have hcut : cutV (rep.map repV) none (some ((k : Nat) : Int)) = (rep.take k).map repV := by
            unfold cutV
            rw [show HT.sIx (rep.map repV).length 0 none = 0 from rfl, HT.sIx_nat, hrl, Nat.sub_zero, List.drop_zero, Nat.min_eq_left (by omega), List.map_take]
          refine iteT ⟨_, rfl, _, _, _, _, _, rfl, hi, T.c_Walker, T.a_replies, l1, _, rfl, _, rfl, _, _, rfl, SqL.of h1, fun p hp => ?_⟩
          rw [hcut]
          have s1 := Same.upd (o := .lst ((rep.take k).map repV)) hp
          refine ⟨_, _, rfl, .inl ⟨SqL.of upd_same, fun t ht => ?_⟩⟩
          have s2 := s1.updT (o := .tup ((rep.take k).map repV)) ht
          refine ⟨by show 1 ≤ sizeLine; decide, fun u hu => ?_⟩
          have s3 := s2.updT (o := .tup [V.int 1]) hu
          have ht3 := Same.upd (o := .tup [V.int 1]) hu _ _ (upd_same (H := upd H' p (.lst ((rep.take k).map repV))) (a := t) (o := .tup ((rep.take k).map repV)))
          refine ⟨t, u, _, _, rfl, rfl, SqT.of ht3, SqT.of upd_same, ?_, fun e => ?_, fun _ e => (nomatch e), fun _ _ q hq => ?_⟩
          · rw [List.length_map, List.length_take]
            exact Nat.le_of_lt (le_line (by show min k rep.length + 1 ≤ 100000; omega))
          · have e2 : rep.take k = [] := by simpa using e
            refine hS _ hg _ u s3 ?_
            rw [e2]
            exact upd_same
          · refine hS _ hg _ q (s3.updT hq) ?_
            rw [upd_same, List.map_append]
            rfl
    · rintro σ H' ⟨⟨v1, rfl⟩, rfl, hno⟩
      refine hN ?_
      rcases next_spec rep cb hlen with ⟨e, _⟩ | ⟨k', e, q1, q2, q3⟩
      · exact e
      · exact absurd ⟨q1, q2⟩ (hno k' (by omega))
/-! ### ways_of -/
noncomputable def waysOf (B : List PStm) : List (K82.Row Str) := K82.leaves (K82.treeOf B)
def spWaysOf (K : PySem.W.Frag) : Sp := fun vs H Q _ => ∃ (a b : Addr) (bits : V) (qa : Addr) (xs : List V) (B : List PStm), vs = [.ref a, bits, .ref qa] ∧ PrgAt H a b xs B ∧ SqT K H qa [] ∧ B.length ≤ 100 ∧ K82.readsOf B ≤ 5 ∧ wishesOf B ≤ 1 ∧
  ∀ H' q ys, Same H H' → H' q = some (.lst ys) → Paired (RowAt H') ys (waysOf B) → Q (.ref q) H'
theorem walkOf_eq (B : List PStm) (f : List Bool) : walkOf B f = K82.follow (K82.treeOf B) f := rfl
theorem c_ways_of (T : TxV P K mg w) : Cal P w K mg base 10 "ways_of" p_ways_of (spWaysOf K) := by
  refine calN T.d_ways_of T.g_ways_of sc_ways_of (fun _ _ _ _ _ _ us hl => match us, hl with | [_, _, _], _ => rfl) (fun vs H Q E h => ?_) (fun cdv A outer s H vs Q E hr h => ?_)
  · obtain ⟨a, b, bits, qa, xs, B, rfl, _⟩ := h
    rfl
  · obtain ⟨a, b, bits, qa, xs, B, rfl, hP, hqa, hBl, hrd, hws, hQ⟩ := h
    obtain ⟨tw, hmw⟩ := T.g_MAXW
    refine ⟨_, pss_cons (ps_set (i := 3) sc_ways_of.nd rfl (Or.inl rfl) (pe_lst pa_nil))
      (pss_cons (ps_set (i := 4) sc_ways_of.nd rfl (Or.inl rfl) (pe_tup pa_nil))
      (pss_cons (ps_while PassesOwn.never (pt_cmpR op_notN (pv 4) pe_non (nomark _))
        (pss_cons (ps_if (pt_cmpR op_eq (pe_callB call_len_seq (by rfl) T.b_len PySem.boot_len (pa_cons (pv 3) pa_nil)) (pe_glob (v := .int 64) (by rfl) hmw ⟨tw, rfl⟩) (nomark _)) pss_never pss_nil)
        (pss_cons (ps_asg (pe_c (c_walked T) hr (by decide) (by rfl) passL (pa_cons (pv 0) (pa_cons (pv 1) (pa_cons (pv 4) (pa_cons (pv 2) pa_nil))))) (pg_tup (by rfl) (pgs_cons (pg_name (i := 5) sc_ways_of.nd rfl (Or.inl rfl)) (pgs_cons (pg_name (i := 6) sc_ways_of.nd rfl (Or.inl rfl)) pgs_nil))))
        (pss_cons (ps_expr (pe_bm PySem.F.plainAttrs_list PySem.F.slot_list_append PySem.F.type_list_append mt_append (pv 3) (pa_cons (pv 5) pa_nil)))
        (pss_one (ps_set (i := 4) sc_ways_of.nd rfl (Or.inl rfl) (pe_c (c_next_first T) hr (by decide) (by rfl) passL (pa_cons (pv 6) pa_nil))))))))
      (pss_one (ps_ret (pv 3))))), ?_⟩
    refine ⟨Nat.zero_le _, fun f hf => ?_⟩
    have s1 := Same.upd (o := .lst []) hf
    refine ⟨Nat.zero_le _, fun fa hfa => ?_⟩
    have s2 := s1.updT (o := .tup []) hfa
    have hlv : (waysOf B).length ≤ 32 := by
      have h1 := K82.leaves_len (K82.treeOf B)
      have h2 := K82.depth_of B
      have h3 : 2 ^ K82.depth (K82.treeOf B) ≤ 2 ^ 5 := Nat.pow_le_pow_right (by decide) (Nat.le_trans h2 hrd)
      exact Nat.le_trans h1 h3
    refine ⟨fun m σ H' => ∃ v4 v5 v6 ys rs, σ = [some (.ref a), some bits, some (.ref qa), some (.ref f), some v4, v5, v6] ∧ Same H H' ∧ H' f = some (.lst ys) ∧ Paired (RowAt H') ys rs ∧ ((v4 = .non ∧ rs = waysOf B ∧ m = 0) ∨ ∃ fa first, v4 = .ref fa ∧ H' fa = some (.tup (first.map repV)) ∧ rs ++ K82.from_ (K82.treeOf B) first = waysOf B ∧ m = (K82.from_ (K82.treeOf B) first).length),
      ⟨_, _, none, none, [], [], rfl, s2, Same.upd hfa _ _ upd_same, .nil, .inr ⟨fa, [], rfl, upd_same, by rw [K82.from_nil]; rfl, rfl⟩⟩, ?_⟩
    rintro m σ H1 ⟨v4, v5, v6, ys, rs, rfl, k1, hf1, hP1, hcase⟩
    have hyl : ys.length = rs.length := Paired.length hP1
    rcases hcase with ⟨rfl, rfl, rfl⟩ | ⟨fa1, first, rfl, hfa1, hrs, rfl⟩
    · refine ⟨_, rfl, rfl, false, congrArg V.bl (by rw [decide_eq_true rfl]; rfl), iteF ⟨_, rfl, ?_⟩⟩
      exact hQ H1 f ys k1 hf1 hP1
    · refine ⟨_, rfl, rfl, true, congrArg V.bl (by rw [decide_eq_false (fun z => nomatch z)]; rfl), iteT ⟨fun σ' H' => ∃ m', m' < (K82.from_ (K82.treeOf B) first).length ∧ ∃ v4 v5 v6 ys rs, σ' = [some (.ref a), some bits, some (.ref qa), some (.ref f), some v4, v5, v6] ∧ Same H H' ∧ H' f = some (.lst ys) ∧ Paired (RowAt H') ys rs ∧ ((v4 = .non ∧ rs = waysOf B ∧ m' = 0) ∨ ∃ fa first, v4 = .ref fa ∧ H' fa = some (.tup (first.map repV)) ∧ rs ++ K82.from_ (K82.treeOf B) first = waysOf B ∧ m' = (K82.from_ (K82.treeOf B) first).length),
        fun _ _ h => h, ?_⟩⟩
      have heq := K82.from_eq (K82.treeOf B) first
      have hrl : rs.length < 32 := by
        have := congrArg List.length hrs
        rw [List.length_append, heq, List.length_cons] at this
        omega
      refine ⟨_, rfl, _, _, rfl, .inl (SqL.of hf1), rfl, false, congrArg V.bl (decide_eq_false ?_), iteF ?_⟩
      · intro e
        have e := V.int.inj e
        rw [hyl] at e
        omega
      refine ⟨_, rfl, _, rfl, _, rfl, _, rfl, a, b, bits, fa1, qa, xs, B, first, rfl, hP.mono k1, hfa1, sqt_same hqa k1, hBl, by omega, hws, fun H2 t way wk k2 ht hrow hwk => ?_⟩
      refine ⟨t, _, rfl, SqT.of ht, rfl, _, _, rfl, _, _, rfl, rfl, ?_⟩
      have hf2 := k2 _ _ hf1
      refine ⟨_, rfl, .inl ⟨rfl, _, SqL.of hf2⟩, _, rfl, f, _, _, rfl, rfl, hf2, le_line (by omega), ?_⟩
      have s3 : Same H (upd H2 f (.lst (ys ++ [.ref way]))) := (k1.trans k2).over hf
      have tp : Tups H2 (upd H2 f (.lst (ys ++ [.ref way]))) := tups_put hf2 (fun xs z => nomatch z)
      have hP3 : Paired (RowAt (upd H2 f (.lst (ys ++ [.ref way])))) (ys ++ [.ref way]) (rs ++ [(walkOf B first).row]) := papp (pmono hP1 fun v r z => z.mono (k2.tups.trans tp)) (.cons (hrow.mono tp) .nil)
      have hwk3 : WalkerAt K H1 (upd H2 f (.lst (ys ++ [.ref way]))) wk (walkOf B first).rep (walkOf B first).cb := by
        obtain ⟨dx, fs, rl, cl, ⟨n1, n2, n3⟩, q1, q2, q3, q4, q5⟩ := hwk
        have nf : ∀ p : Addr, H1 p = none → p ≠ f := fun p hp e => by rw [e, hf1] at hp; cases hp
        exact ⟨dx, fs, rl, cl, ⟨n1, n2, n3⟩, by rw [upd_ne (nf _ n1)]; exact q1, q2, by rw [upd_ne (nf _ n2)]; exact q3, q4, by rw [upd_ne (nf _ n3)]; exact q5⟩
      have hnl : (walkOf B first).rep.length = (walkOf B first).cb.length := K82.next_nil_cb _ _
      have hdl : (walkOf B first).rep.length ≤ 5 := by
        have h1 := K82.follow_len (K82.treeOf B) first
        have h2 := K82.depth_of B
        exact Nat.le_trans h1 (Nat.le_trans h2 hrd)
      rw [heq] at hrs
      have hrs2 : (rs ++ [(walkOf B first).row]) ++ (match K82.next (walkOf B first).rep (walkOf B first).cb with | none => [] | some g => K82.from_ (K82.treeOf B) g) = waysOf B := by
        rw [List.append_assoc]
        exact hrs
      have hfl : (K82.from_ (K82.treeOf B) first).length = 1 + (match K82.next (walkOf B first).rep (walkOf B first).cb with | none => [] | some g => K82.from_ (K82.treeOf B) g).length := by
        rw [heq, List.length_cons]
        exact Nat.add_comm _ _
      refine ⟨_, rfl, H1, wk, _, _, rfl, hwk3, hnl, by omega, fun hn => ?_, fun g hg H4 t4 k4 ht4 => ?_⟩
      · rw [hn] at hrs2 hfl
        refine ⟨0, by rw [hfl]; exact Nat.zero_lt_one, _, _, _, ys ++ [.ref way], rs ++ [(walkOf B first).row], rfl, s3, upd_same, hP3, .inl ⟨rfl, ?_, rfl⟩⟩
        rw [List.append_nil] at hrs2
        exact hrs2
      · rw [hg] at hrs2 hfl
        refine ⟨_, ?_, _, _, _, ys ++ [.ref way], rs ++ [(walkOf B first).row], rfl, s3.trans k4, k4 _ _ upd_same, pmono hP3 fun v r z => z.mono k4.tups, .inr ⟨t4, g, rfl, ht4, hrs2, rfl⟩⟩
        rw [hfl]
        exact Nat.lt_add_of_pos_left Nat.zero_lt_one
end
end K82W
end K82Next_part
section K82Draw_part
set_option Elab.async false
set_option linter.all false
set_option maxRecDepth 100000
set_option maxHeartbeats 4000000
namespace K82W
open PySem PySem.Spec PyProof.Rows L2
/-- what stands outside of these stays -/
def Fr (l : List Addr) (H H' : Hp) : Prop := ∀ b o, H b = some o → b ∉ l → H' b = some o
theorem Fr.refl (l : List Addr) (H : Hp) : Fr l H H := fun _ _ e _ => e
theorem Fr.trans {l : List Addr} {A B C : Hp} (h : Fr l A B) (k : Fr l B C) : Fr l A C := fun b o e n => k b o (h b o e n) n
theorem _root_.L2.Same.fr {A B : Hp} (l : List Addr) (h : Same A B) : Fr l A B := fun b o e _ => h b o e
theorem Fr.sub {l m : List Addr} {A B : Hp} (h : Fr l A B) (s : ∀ a ∈ l, a ∈ m) : Fr m A B := fun b o e n => h b o e fun z => n (s b z)
theorem Fr.put {l : List Addr} {A : Hp} {a : Addr} {o : HO} (h : a ∈ l) : Fr l A (upd A a o) := fun b u e n => by rw [upd_ne (fun z => n (by rw [z]; exact h))]; exact e
/-- the deck at p, its cells at c, at most m drawn -/
structure Dk (H : Hp) (p c : Addr) (m : Nat) : Prop where
  ne : p ≠ c
  deck : ∃ k : Nat, k ≤ m ∧ H p = some (.lst [.ref c, .int (k : Nat)])
  cells : ∃ xs : List Int, H c = some (.lst (xs.map V.int)) ∧ (∀ x ∈ xs, 0 ≤ x) ∧ xs.length ≤ 63
theorem Dk.mono {H H' : Hp} {p c : Addr} {m : Nat} (d : Dk H p c m) (s : Same H H') : Dk H' p c m := by
  obtain ⟨n, ⟨k, hk, h1⟩, ⟨xs, h2, h3⟩⟩ := d
  exact ⟨n, ⟨k, hk, s _ _ h1⟩, ⟨xs, s _ _ h2, h3⟩⟩
theorem Dk.keep {H H' : Hp} {p c : Addr} {m : Nat} {l : List Addr} (d : Dk H p c m) (s : Fr l H H') (hp : p ∉ l) (hc : c ∉ l) : Dk H' p c m := by
  obtain ⟨n, ⟨k, hk, h1⟩, ⟨xs, h2, h3⟩⟩ := d
  exact ⟨n, ⟨k, hk, s _ _ h1 hp⟩, ⟨xs, s _ _ h2 hc, h3⟩⟩
theorem Dk.up {H : Hp} {p c : Addr} {m m' : Nat} (d : Dk H p c m) (h : m ≤ m') : Dk H p c m' := by
  obtain ⟨n, ⟨k, hk, h1⟩, h2⟩ := d
  exact ⟨n, ⟨k, Nat.le_trans hk h, h1⟩, h2⟩
structure TxL (P : Program) (K : PySem.W.Frag) (mg : Str → Option Value) (w : World) : Prop extends TxV P K mg w where
  d_law_deck : FunE K "_law_deck" "_law_deck" s_law_deck (He.ga K "_law_deck")
  g_law_deck : mg "_law_deck" = some (.ref (He.ga K "_law_deck"))
  d_law_draw : FunE K "_law_draw" "_law_draw" s_law_draw (He.ga K "_law_draw")
  g_law_draw : mg "_law_draw" = some (.ref (He.ga K "_law_draw"))
  d_law_one : FunE K "_law_one" "_law_one" s_law_one (He.ga K "_law_one")
  g_law_one : mg "_law_one" = some (.ref (He.ga K "_law_one"))
  d_law_names : FunE K "_law_names" "_law_names" s_law_names (He.ga K "_law_names")
  g_law_names : mg "_law_names" = some (.ref (He.ga K "_law_names"))
  d_law_words : FunE K "_law_words" "_law_words" s_law_words (He.ga K "_law_words")
  g_law_words : mg "_law_words" = some (.ref (He.ga K "_law_words"))
  d_law_test : FunE K "_law_test" "_law_test" s_law_test (He.ga K "_law_test")
  g_law_test : mg "_law_test" = some (.ref (He.ga K "_law_test"))
  d_law_plain : FunE K "_law_plain" "_law_plain" s_law_plain (He.ga K "_law_plain")
  g_law_plain : mg "_law_plain" = some (.ref (He.ga K "_law_plain"))
  d_law_puzzle : FunE K "_law_puzzle" "_law_puzzle" s_law_puzzle (He.ga K "_law_puzzle")
  g_law_puzzle : mg "_law_puzzle" = some (.ref (He.ga K "_law_puzzle"))
  d_law_end : FunE K "_law_end" "_law_end" s_law_end (He.ga K "_law_end")
  g_law_end : mg "_law_end" = some (.ref (He.ga K "_law_end"))
  d_law_fewer : FunE K "_law_fewer" "_law_fewer" s_law_fewer (He.ga K "_law_fewer")
  g_law_fewer : mg "_law_fewer" = some (.ref (He.ga K "_law_fewer"))
  d_law_fixed : FunE K "_law_fixed" "_law_fixed" s_law_fixed (He.ga K "_law_fixed")
  g_law_fixed : mg "_law_fixed" = some (.ref (He.ga K "_law_fixed"))
  b_abs : mg "abs" = none
  b_str : mg "str" = none
  b_dict : mg "dict" = none
  b_repr : mg "repr" = none
  b_min : mg "min" = none
  b_isinstance : mg "isinstance" = none
section
variable {P : Program} {w : World} {K : PySem.W.Frag} {mg : Str → Option Value} {base : Heap}
def spDeck (K : PySem.W.Frag) : Sp := fun vs H Q _ => ∃ (a : Addr) (ns : List Int), vs = [.ref a] ∧ SqL K H a (ns.map V.int) ∧ ∀ H' p c, Same H H' → H p = none → H c = none → Dk H' p c 0 → Q (.ref p) H'
theorem c_deck (T : TxL P K mg w) : Cal P w K mg base 1 "_law_deck" p_law_deck (spDeck K) := by
  refine calN T.d_law_deck T.g_law_deck sc_law_deck (fun _ _ _ _ _ _ us hl => match us, hl with | [_], _ => rfl) (fun vs H Q E h => ?_) (fun cdv A outer s H vs Q E hr h => ?_)
  · obtain ⟨a, ns, rfl, _⟩ := h
    rfl
  · obtain ⟨a, ns, rfl, hS, hQ⟩ := h
    refine ⟨_, pss_one (ps_ret (pe_lst (pa_cons (pe_lc (own := [("_law_cell", 1)]) (g := gName 1) (tt := tYes) rfl sc_law_deck.nd
      (pi_list (pe_slice sl_list (pv 0) po_none (po_some pe_int))) (blkOk_by (N := n_law_deck) (sc := defScope s_law_deck) (by decide +kernel))
      (fun _ _ _ _ _ => pg_name (i := 1) sc_law_deck.nd rfl (Or.inl rfl) (hf := Or.inr rfl)) (fun _ _ _ _ _ => pts_nil) (fun _ _ _ _ _ => pe_callB call_abs (by rfl) T.b_abs (by decide +kernel) (pa_cons (pv 1) pa_nil))) (pa_cons pe_int pa_nil)))), ?_⟩
    refine ⟨_, rfl, _, rfl, _, _, rfl, hS, fun p hp => ?_⟩
    have hcut : ∃ ms : List Int, cutV (ns.map V.int) none (some 63) = ms.map V.int ∧ ms.length ≤ 63 := by
      refine ⟨ns.take (min 63 ns.length), ?_, ?_⟩
      · unfold cutV
        rw [show HT.sIx (ns.map V.int).length 0 none = 0 from rfl, show (63 : Int) = ((63 : Nat) : Int) from rfl, HT.sIx_nat, Nat.sub_zero, List.drop_zero, List.length_map, List.map_take]
      · rw [List.length_take]
        omega
    obtain ⟨ms, hms, hml⟩ := hcut
    rw [hms]
    have s1 := Same.upd (o := .lst (ms.map V.int)) hp
    refine ⟨p, rfl, ⟨_, SqL.of upd_same⟩, fun D hD => ?_⟩
    refine lc_list (K := K) (a := p) (xs := ms.map V.int) (fun i H2 => Same (upd H p (.lst (ms.map V.int))) H2 ∧ ∃ xs : List Int, H2 D = some (.lst (xs.map V.int)) ∧ (∀ x ∈ xs, 0 ≤ x) ∧ xs.length = i)
      ⟨Same.upd hD, [], upd_same, fun x hx => by simp at hx, rfl⟩ (fun i H2 _ ⟨k2, _⟩ => SqL.of (k2 _ _ upd_same)) ?_ ?_
    · rintro i x H2 hi ⟨k2, xs, hD2, hx, hl⟩
      obtain ⟨z, hz, rfl⟩ : ∃ z, ms[i]? = some z ∧ V.int z = x := by
        rw [List.getElem?_map] at hi
        cases q : ms[i]? with
        | none => rw [q] at hi; cases hi
        | some e => rw [q] at hi; exact ⟨e, rfl, Option.some.inj hi⟩
      have hil : i < ms.length := (List.getElem?_eq_some_iff.mp hz).1
      refine ⟨rfl, _, rfl, _, rfl, _, hD2, ?_, k2.over hD, xs ++ [if z < 0 then -z else z], ?_, fun y hy => ?_, by rw [List.length_append, hl]; rfl⟩
      · rw [List.length_map]
        exact le_line (by omega)
      · rw [upd_same, List.map_append]
        rfl
      · rcases List.mem_append.mp hy with hy | hy
        · exact hx y hy
        · rw [List.mem_singleton] at hy
          rw [hy]
          split <;> omega
    · rintro H2 ⟨k2, xs, hD2, hx, hl⟩
      rw [List.length_map] at hl
      refine ⟨by show 2 ≤ sizeLine; decide, fun q hq => ?_⟩
      have k3 := (s1.trans k2).updT (o := .lst [.ref D, .int 0]) hq
      refine hQ _ q D k3 ((s1.trans k2).free hq) (s1.free hD) ⟨(ne_of_none hD2 hq).symm, ⟨0, Nat.le_refl _, upd_same⟩, ⟨xs, Same.upd hq _ _ hD2, hx, by omega⟩⟩
def spDraw : Sp := fun vs H Q _ => ∃ (p c : Addr) (m many : Nat), vs = [.ref p, .int (many : Nat)] ∧ Dk H p c m ∧ m ≤ 100000 ∧ 0 < many ∧ many < 1000000 ∧ ∀ H' (r : Nat), Fr [p, c] H H' → Dk H' p c (m + 1) → r < many → Q (.int (r : Nat)) H'
theorem mod_nat {x : Int} {m : Nat} (h : 0 < m) : ∃ r : Nat, r < m ∧ x % (m : Int) = (r : Nat) := by
  have h1 : 0 ≤ x % (m : Int) := Int.emod_nonneg _ (by omega)
  have h2 : x % (m : Int) < m := Int.emod_lt_of_pos _ (by omega)
  exact ⟨(x % (m : Int)).toNat, by omega, by omega⟩
theorem c_draw (T : TxL P K mg w) : Cal P w K mg base 1 "_law_draw" p_law_draw spDraw := by
  refine calN T.d_law_draw T.g_law_draw sc_law_draw (fun _ _ _ _ _ _ us hl => match us, hl with | [_, _], _ => rfl) (fun vs H Q E h => ?_) (fun cdv A outer s H vs Q E hr h => ?_)
  · obtain ⟨p, c, m, many, rfl, _⟩ := h
    rfl
  · obtain ⟨p, c, m, many, rfl, D, hm, hmy, hmz, hQ⟩ := h
    obtain ⟨hpc, ⟨k, hk, hp⟩, ⟨xs, hc, hx0, hxl⟩⟩ := D
    obtain ⟨tB, hB, rB⟩ : ∃ t, PSs (cxOf (L2.CX P w) P w K mg base n_law_draw "_law_draw" (defScope s_law_draw) (He.ga K "_law_draw") cdv A outer s H E).nox ((defBody s_law_draw).drop 4) t ∧
        ∀ (cell : Int) (at_ : V) (H2 : Hp), H2 p = some (.lst [V.ref c, V.int ((k + 1 : Nat) : Int)]) → Fr [p, c] H H2 → Dk H2 p c (m + 1) → t { nx := fun _ H' => Q .non H', rt := Q } [some (.ref p), some (.int (many : Nat)), some (.int cell), some at_, none] H2 := by
      refine ⟨_, pss_cons (ps_set (i := 4) sc_law_draw.nd rfl (Or.inl rfl) (pe_op op_add (pe_op op_add (pe_op op_mod (pe_callTy call_int1 (by rfl) T.b_int (by decide +kernel) (pa_cons (pv 2) pa_nil)) pe_int) (pe_op op_mul pe_int (pe_ix ix_list (pv 0) pe_int (fun _ _ => rfl)))) pe_int))
      (pss_one (ps_ret (pe_op op_mod (pe_callTy call_int1 (by rfl) T.b_int (by decide +kernel) (pa_cons (pe_op op_mod (pe_callTy call_int1 (by rfl) T.b_int (by decide +kernel) (pa_cons (pe_op op_pow (pv 4) pe_int) pa_nil)) pe_int) pa_nil)) (pv 1)))), ?_⟩
      intro cell at_ H2 hp2 f2 D2
      obtain ⟨r0, hr0, er0⟩ := mod_nat (x := cell) (m := 2147483563) (by decide)
      refine ⟨_, rfl, .inl ⟨_, rfl, _, _, rfl, rfl, by show (0 : Int) < 2147483563; decide, _, rfl, p, _, _, _, rfl, rfl, SqL.of hp2, atI_nat (j := 1) rfl, _, _, rfl, rfl, .inl ⟨by decide, by decide⟩, _, _, rfl, rfl, _, _, rfl, rfl, ?_⟩⟩
      rw [show cell % 2147483563 = ((r0 : Nat) : Int) from er0]
      refine ⟨_, rfl, _, _, rfl, rfl, ⟨by decide, by decide, ?_⟩, .inl ⟨_, rfl, _, _, rfl, rfl, by show (0 : Int) < 2147483629; decide, .inl ⟨_, rfl, _, rfl, _, _, rfl, rfl, by omega, ?_⟩⟩⟩
      · show ((r0 : Int) + 8117 * ((k + 1 : Nat) : Int) + 3).natAbs < 2 ^ 64
        omega
      · obtain ⟨r, hr1, er⟩ := mod_nat (x := ((r0 : Int) + 8117 * ((k + 1 : Nat) : Int) + 3) ^ (5 : Int).toNat % 2147483629) hmy
        show Q (V.int ((((r0 : Int) + 8117 * ((k + 1 : Nat) : Int) + 3) ^ (5 : Int).toNat % 2147483629) % (many : Int))) H2
        rw [er]
        exact hQ H2 r f2 D2 hr1
    refine ⟨_, pss_cons (ps_asg (pe_op op_add (pe_ix ix_list (pv 0) pe_int (fun _ _ => rfl)) pe_int) (pg_sub (pv 0) pe_int set_list))
      (pss_cons (ps_asg (pe_tup (pa_cons pe_int (pa_cons (pe_un un_neg pe_int) pa_nil))) (pg_tup (by rfl) (pgs_cons (pg_name (i := 2) sc_law_draw.nd rfl (Or.inl rfl)) (pgs_cons (pg_name (i := 3) sc_law_draw.nd rfl (Or.inl rfl)) pgs_nil))))
      (pss_cons (ps_if (pt_cmpR op_gt (pe_callB call_len_seq (by rfl) T.b_len PySem.boot_len (pa_cons (pe_ix ix_list (pv 0) pe_int (fun _ _ => rfl)) pa_nil)) pe_int (nomark _))
        (pss_cons (ps_set (i := 3) sc_law_draw.nd rfl (Or.inl rfl) (pe_op op_mod (pe_callTy call_int1 (by rfl) T.b_int (by decide +kernel) (pa_cons (pe_ix ix_list (pv 0) pe_int (fun _ _ => rfl)) pa_nil)) (pe_callB call_len_seq (by rfl) T.b_len PySem.boot_len (pa_cons (pe_ix ix_list (pv 0) pe_int (fun _ _ => rfl)) pa_nil))))
        (pss_one (ps_set (i := 2) sc_law_draw.nd rfl (Or.inl rfl) (pe_ix ix_list (pe_ix ix_list (pv 0) pe_int (fun _ _ => rfl)) (pv 3) (fun _ _ => rfl))))) pss_nil)
      (pss_cons (ps_if (pt_cmpR op_ge (pv 2) (pe_op op_pow pe_int pe_int) (nomark _))
        (pss_cons (ps_asg (pe_op op_fdiv (pe_callTy call_int1 (by rfl) T.b_int (by decide +kernel) (pa_cons (pv 2) pa_nil)) (pv 1)) (pg_sub (pe_ix ix_list (pv 0) pe_int (fun _ _ => rfl)) (pv 3) set_list))
        (pss_one (ps_ret (pe_op op_mod (pe_callTy call_int1 (by rfl) T.b_int (by decide +kernel) (pa_cons (pv 2) pa_nil)) (pv 1))))) pss_nil) hB))), ?_⟩
    refine ⟨_, rfl, p, _, _, _, rfl, rfl, SqL.of hp, atI_nat (j := 1) rfl, _, _, rfl, rfl, _, rfl, p, _, _, 1, rfl, rfl, hp, ixN_nat (by show 1 < 2; decide), ?_⟩
    have hp1 : upd H p (.lst ([V.ref c, V.int (k : Nat)].set 1 (V.int ((k : Int) + 1)))) p = some (.lst [V.ref c, V.int ((k + 1 : Nat) : Int)]) := upd_same
    have hc1 : upd H p (.lst ([V.ref c, V.int (k : Nat)].set 1 (V.int ((k : Int) + 1)))) c = some (.lst (xs.map V.int)) := by rw [upd_ne hpc.symm]; exact hc
    have f1 : Fr [p, c] H (upd H p (.lst ([V.ref c, V.int (k : Nat)].set 1 (V.int ((k : Int) + 1))))) := Fr.put (by simp)
    generalize upd H p (.lst ([V.ref c, V.int (k : Nat)].set 1 (V.int ((k : Int) + 1)))) = H1 at hp1 hc1 f1 ⊢
    refine ⟨_, rfl, by show 2 ≤ sizeLine; decide, fun t ht => ?_⟩
    have s2 := Same.upd (o := .tup [.int 0, .int (-1)]) ht
    refine ⟨t, _, rfl, SqT.of upd_same, rfl, _, _, rfl, _, _, rfl, rfl, ?_⟩
    have hp2 := s2 _ _ hp1
    have hc2 := s2 _ _ hc1
    have f2 := f1.trans (s2.fr [p, c])
    generalize upd H1 t (.tup [.int 0, .int (-1)]) = H2 at hp2 hc2 f2 ⊢
    have hxl2 : (xs.map V.int).length = xs.length := List.length_map ..
    have D2 : Dk H2 p c (m + 1) := ⟨hpc, ⟨k + 1, by omega, hp2⟩, ⟨xs, hc2, hx0, hxl⟩⟩
    have hlt : ∀ (cell : Int), cell < 10 ^ 18 → decide ((10 : Int) ^ (18 : Int).toNat ≤ cell) = false := fun cell h => decide_eq_false (by show ¬ ((10 : Int) ^ 18 ≤ cell); omega)
    refine ⟨_, rfl, p, _, _, _, rfl, rfl, SqL.of hp2, atI_nat (j := 0) rfl, _, _, rfl, .inl (SqL.of hc2), _, _, rfl, rfl, decide (0 < xs.length), congrArg V.bl ?_, ?_⟩
    · rw [hxl2]
      exact decide_eq_decide.mpr (by omega)
    by_cases hne : 0 < xs.length
    · rw [decide_eq_true hne]
      refine iteT ?_
      refine ⟨_, rfl, p, _, _, _, rfl, rfl, SqL.of hp2, atI_nat (j := 1) rfl, .inl ⟨_, rfl, _, rfl, p, _, _, _, rfl, rfl, SqL.of hp2, atI_nat (j := 0) rfl, _, _, rfl, .inl (SqL.of hc2), _, _, rfl, rfl, by rw [hxl2]; omega, ?_⟩⟩
      rw [hxl2]
      obtain ⟨j, hj, ej⟩ := mod_nat (x := ((k + 1 : Nat) : Int)) hne
      dsimp only
      rw [ej]
      have hxj : (xs.map V.int)[j]? = some (V.int xs[j]) := by rw [List.getElem?_map, List.getElem?_eq_getElem hj]; rfl
      refine ⟨_, rfl, p, _, _, _, rfl, rfl, SqL.of hp2, atI_nat (j := 0) rfl, _, rfl, c, _, _, _, rfl, rfl, SqL.of hc2, atI_nat (j := j) hxj, ?_⟩
      have hxp := hx0 xs[j] (List.getElem_mem hj)
      generalize hcell : xs[j] = cell at hxp hxj ⊢
      refine ⟨_, rfl, _, _, rfl, rfl, ⟨by decide, by decide, by decide⟩, _, _, rfl, rfl, decide ((10 : Int) ^ (18 : Int).toNat ≤ cell), rfl, ?_⟩
      by_cases hbig : (10 : Int) ^ (18 : Int).toNat ≤ cell
      · rw [decide_eq_true hbig]
        refine iteT ⟨_, rfl, .inl ⟨_, rfl, _, rfl, _, _, rfl, rfl, ⟨by omega, by omega⟩, ?_⟩⟩
        refine ⟨_, rfl, p, _, _, _, rfl, rfl, SqL.of hp2, atI_nat (j := 0) rfl, _, rfl, c, _, _, j, rfl, rfl, hc2, ixN_nat (by rw [hxl2]; exact hj), ?_⟩
        have hset : (xs.map V.int).set j (V.int (cell / (many : Int))) = (xs.set j (cell / (many : Int))).map V.int := by rw [List.map_set]
        rw [hset]
        refine ⟨_, rfl, .inl ⟨_, rfl, _, rfl, _, _, rfl, rfl, by omega, ?_⟩⟩
        obtain ⟨r, hr1, er⟩ := mod_nat (x := cell) hmy
        dsimp only
        rw [er]
        refine hQ _ r (f2.trans (Fr.put (by simp))) ⟨hpc, ⟨k + 1, by omega, by rw [upd_ne hpc]; exact hp2⟩, ⟨_, upd_same, fun y hy => ?_, by rw [List.length_set]; exact hxl⟩⟩ hr1
        rcases List.mem_or_eq_of_mem_set hy with hy | hy
        · exact hx0 y hy
        · rw [hy]
          exact Int.ediv_nonneg hxp (by omega)
      · rw [decide_eq_false hbig]
        exact iteF (rB cell _ H2 hp2 f2 D2)
    · rw [decide_eq_false hne]
      refine iteF ⟨_, rfl, _, _, rfl, rfl, ⟨by decide, by decide, by decide⟩, _, _, rfl, rfl, false, rfl, iteF ?_⟩
      exact rB 0 _ H2 hp2 f2 D2
end
end K82W
end K82Draw_part
section K82Names_part
set_option Elab.async false
set_option linter.all false
set_option maxRecDepth 100000
set_option maxHeartbeats 4000000
namespace K82W
open PySem PySem.Spec PyProof.Rows L2
section
variable {P : Program} {w : World} {K : PySem.W.Frag} {mg : Str → Option Value} {base : Heap}
/-- what may come of one(deck, items) -/
def Items (H : Hp) (p c : Addr) (x : V) (ok : V → Prop) : Prop := (∃ l xs, x = .ref l ∧ H l = some (.lst xs) ∧ l ≠ p ∧ l ≠ c ∧ xs ≠ [] ∧ xs.length ≤ 1000 ∧ ∀ v ∈ xs, ok v) ∨ ∃ z, x = .str z ∧ 0 < z.length ∧ z.length ≤ 1000 ∧ ∀ s : Str, s.length = 1 → (∀ c ∈ s.cps.toList, c ∈ z.cps.toList) → ok (.str s)
def spOne : Sp := fun vs H Q _ => ∃ (p c : Addr) (m : Nat) (x : V) (ok : V → Prop), vs = [.ref p, x] ∧ Dk H p c m ∧ m ≤ 100000 ∧ Items H p c x ok ∧ ∀ H' v, Fr [p, c] H H' → Dk H' p c (m + 1) → ok v → Q v H'
theorem c_one (T : TxL P K mg w) : Cal P w K mg base 2 "_law_one" p_law_one spOne := by
  refine calN T.d_law_one T.g_law_one sc_law_one (fun _ _ _ _ _ _ us hl => match us, hl with | [_, _], _ => rfl) (fun vs H Q E h => ?_) (fun cdv A outer s H vs Q E hr h => ?_)
  · obtain ⟨p, c, m, x, ok, rfl, _⟩ := h
    rfl
  · obtain ⟨p, c, m, x, ok, rfl, D, hm, hI, hQ⟩ := h
    refine ⟨_, pss_one (ps_ret (pe_ix ix_seq (pv 1) (pe_c (c_draw T) hr (by decide) (by rfl) passL (pa_cons (pv 0) (pa_cons (pe_callB (call_len_seq.or call_len_str) (by rfl) T.b_len PySem.boot_len (pa_cons (pv 1) pa_nil)) pa_nil))) (fun _ _ => rfl))), ?_⟩
    rcases hI with ⟨l, xs, rfl, hl, n1, n2, hne, hll, hok⟩ | ⟨z, rfl, hz0, hz1, hok⟩
    · have hpos : 0 < xs.length := List.length_pos_iff.mpr hne
      refine ⟨_, rfl, _, rfl, _, rfl, .inl ⟨_, _, rfl, .inl (SqL.of hl), p, c, m, xs.length, rfl, D, hm, hpos, by omega, fun H' r f D' hr' => ?_⟩⟩
      have hl' := f l _ hl (by simp [n1, n2])
      refine .inl ⟨l, xs, _, _, rfl, rfl, SqL.of hl', atI_nat (j := r) (List.getElem?_eq_getElem hr'), ?_⟩
      exact hQ H' _ f D' (hok _ (List.getElem_mem hr'))
    · refine ⟨_, rfl, _, rfl, _, rfl, .inr ⟨z, rfl, Nat.le_of_lt (le_line (by omega)), p, c, m, z.length, rfl, D, hm, hz0, by omega, fun H' r f D' hr' => ?_⟩⟩
      have hzl : r < z.cps.toList.length := by
        have : z.cps.toList.length = z.length := by simp [Str.length]
        omega
      refine .inr (.inr ⟨z, _, _, rfl, rfl, Nat.le_of_lt (le_line (by omega)), atI_nat (j := r) (List.getElem?_eq_getElem hzl), ?_⟩)
      exact hQ H' _ f D' (hok _ rfl fun d hd => by simp at hd; rw [hd]; exact List.getElem_mem hzl)
/-- a list of texts at l -/
def spNames (K : PySem.W.Frag) : Sp := fun vs H Q _ => ∃ (p c : Addr) (m n : Nat), vs = [.ref p, .int (n : Nat)] ∧ Dk H p c m ∧ m ≤ 90000 ∧ n ≤ 100 ∧ ∀ H' l (ns : List Str), Fr [p, c] H H' → Dk H' p c (m + 10) → H l = none → H' l = some (.lst (ns.map V.str)) → ns.length = n → Q (.ref l) H'
theorem sum_one : ∀ ys : List Str, (∀ s ∈ ys, s.length = 1) → (ys.map (·.length)).sum = ys.length
  | [], _ => rfl
  | a :: r, h => by
    rw [List.map_cons, List.sum_cons, sum_one r fun s hs => h s (List.mem_cons_of_mem _ hs), h a List.mem_cons_self, List.length_cons, Nat.add_comm]
theorem join_len {a : Str} {ys : List Str} (ha : a.length = 0) (h : ∀ s ∈ ys, s.length = 1) : (Txt.join a ys).length ≤ ys.length := by
  have h1 := StrLaws.join_length_le a ys
  rw [sum_one ys h, ha, Nat.mul_zero, Nat.add_zero] at h1
  show (Builtin.Str.glued a ys).length ≤ ys.length
  rw [StrLaws.glued_eq_join]
  exact h1
theorem small_text (i : Nat) (h : i < 100) : (PySem.Str.ofString (toString (i : Int))).length ≤ 1000 := by
  have key : ∀ i : Fin 100, (PySem.Str.ofString (toString ((i.val : Nat) : Int))).length ≤ 1000 := by decide +kernel
  exact key ⟨i, h⟩
theorem c_names (T : TxL P K mg w) : Cal P w K mg base 3 "_law_names" p_law_names (spNames K) := by
  refine calN T.d_law_names T.g_law_names sc_law_names (fun _ _ _ _ _ _ us hl => match us, hl with | [_, _], _ => rfl) (fun vs H Q E h => ?_) (fun cdv A outer s H vs Q E hr h => ?_)
  · obtain ⟨p, c, m, n, rfl, _⟩ := h
    rfl
  · obtain ⟨p, c, m, n, rfl, D, hm, hn, hQ⟩ := h
    refine ⟨_, pss_cons (ps_set (i := 2) sc_law_names.nd rfl (Or.inr rfl) pe_str)
      (pss_cons (ps_set (i := 3) sc_law_names.nd rfl (Or.inr rfl) (pe_join pe_str (pe_lc (own := [("_law_k", 5)]) (g := gName 5) (tt := tYes) (te := tCall spOne [] E0 (tCons (tVar 0) (tCons (tVar 2) tNil))) rfl sc_law_names.nd
        (pi_range1 (by rfl) T.b_range (pa_cons (pe_op op_add pe_int (pe_c (c_draw T) hr (by decide) (by rfl) passL (pa_cons (pv 0) (pa_cons pe_int pa_nil)))) pa_nil)) (blkOk_by (N := n_law_names) (sc := defScope s_law_names) (by decide +kernel))
        (fun _ _ _ _ _ => pg_name (i := 5) sc_law_names.nd rfl (Or.inl rfl) (hf := Or.inr rfl)) (fun _ _ _ _ _ => pts_nil) (fun _ _ _ _ _ => pe_c (c_one T) hr (by decide) (by rfl) passL (pa_cons (pv 0) (pa_cons (pv 2) pa_nil))))))
      (pss_cons (ps_set (i := 4) sc_law_names.nd rfl (Or.inr rfl) (pe_join pe_str (pe_lc (own := [("_law_k", 5)]) (g := gName 5) (tt := tYes) (te := tCall spOne [] E0 (tCons (tVar 0) (tCons (tVar 2) tNil))) rfl sc_law_names.nd
        (pi_range1 (by rfl) T.b_range (pa_cons (pe_c (c_draw T) hr (by decide) (by rfl) passL (pa_cons (pv 0) (pa_cons pe_int pa_nil))) pa_nil)) (blkOk_by (N := n_law_names) (sc := defScope s_law_names) (by decide +kernel))
        (fun _ _ _ _ _ => pg_name (i := 5) sc_law_names.nd rfl (Or.inl rfl) (hf := Or.inr rfl)) (fun _ _ _ _ _ => pts_nil) (fun _ _ _ _ _ => pe_c (c_one T) hr (by decide) (by rfl) passL (pa_cons (pv 0) (pa_cons (pv 2) pa_nil))))))
      (pss_one (ps_ret (pe_lc (own := [("_law_k", 5)]) (g := gName 5) (tt := tYes) rfl sc_law_names.nd
        (pi_range1 (by rfl) T.b_range (pa_cons (pv 1) pa_nil)) (blkOk_by (N := n_law_names) (sc := defScope s_law_names) (by decide +kernel))
        (fun _ _ _ _ _ => pg_name (i := 5) sc_law_names.nd rfl (Or.inl rfl) (hf := Or.inr rfl)) (fun _ _ _ _ _ => pts_nil) (fun _ _ _ _ _ => pe_op op_add_str (pe_op op_add_str (pv 3) (pe_callTy call_str_int (by rfl) T.b_str (by decide +kernel) (pa_cons (pv 5) pa_nil))) (pv 4))))))), ?_⟩
    have hlet : ("abcdefghijklmnopqrstuvwxyz" : Str).length = 26 := by decide +kernel
    refine ⟨⟨_, rfl⟩, _, rfl, p, c, m, 3, rfl, D, by omega, by decide, by decide, fun H1 r f1 D1 hr1 => ?_⟩
    refine ⟨_, _, rfl, rfl, _, rfl, by omega, by omega, fun Da hDa => ?_⟩
    have hn1 : (1 + ((r : Nat) : Int)).toNat = 1 + r := by omega
    rw [hn1]
    refine lc_range (lo := 0) (n := 1 + r) (fun i H2 => Fr [p, c] H1 H2 ∧ Dk H2 p c (m + 1 + i) ∧ ∃ ys : List Str, H2 Da = some (.lst (ys.map V.str)) ∧ ys.length = i ∧ ∀ s ∈ ys, s.length = 1)
      ⟨(Same.upd hDa).fr _, D1.mono (Same.upd hDa), [], upd_same, rfl, fun s hs => by simp at hs⟩ ?_ ?_
    · rintro i Hx hi ⟨fx, Dx, ys, hD2, hl, h1⟩
      refine ⟨rfl, _, rfl, _, rfl, p, c, _, _, fun v => ∃ s : Str, v = .str s ∧ s.length = 1, rfl, Dx, by omega, .inr ⟨_, rfl, by decide, by decide, fun s hs _ => ⟨s, rfl, hs⟩⟩, fun Hy v fy Dy hv => ?_⟩
      obtain ⟨s, rfl, hs⟩ := hv
      have nDp : Da ≠ p := fun e => by
        obtain ⟨_, _, q⟩ := D1.deck
        rw [← e, hDa] at q
        cases q
      have nDc : Da ≠ c := fun e => by
        obtain ⟨_, q, _⟩ := D1.cells
        rw [← e, hDa] at q
        cases q
      have hD3 := fy _ _ hD2 (by simp [nDp, nDc])
      refine ⟨_, hD3, by rw [List.length_map]; exact le_line (by omega), ?_, ?_, ys ++ [s], by rw [upd_same, List.map_append]; rfl, by rw [List.length_append, hl]; rfl, fun y hy => ?_⟩
      · exact fun b o e n => by rw [upd_ne (ne_of_none e hDa)]; exact (fx.trans fy) b o e n
      · exact (Dy.keep (l := [Da]) (Fr.put (by simp)) (by simpa using nDp.symm) (by simpa using nDc.symm)).up (by omega)
      · rcases List.mem_append.mp hy with hy | hy
        · exact h1 y hy
        · rw [List.mem_singleton] at hy
          rw [hy]; exact hs
    rintro H2 ⟨f2, D2, ysa, hDa2, hla, ha1⟩
    have hsa : (ysa.map (·.length)).sum = ysa.length := sum_one ysa ha1
    refine ⟨_, Da, ysa, rfl, rfl, .inl (SqL.of hDa2), by rw [hsa]; show ysa.length + ysa.length * 0 ≤ 16777216; omega, ?_⟩
    have hja := join_len (a := ("" : Str)) rfl ha1
    generalize Txt.join "" ysa = left at hja ⊢
    refine ⟨⟨_, rfl⟩, _, rfl, p, c, _, 3, rfl, D2, by omega, by decide, by decide, fun H3 r3 f3 D3 hr3 => ?_⟩
    refine ⟨_, rfl, by omega, by omega, fun Db hDb => ?_⟩
    rw [Int.toNat_natCast]
    refine lc_range (lo := 0) (n := r3) (fun i H2 => Fr [p, c] H3 H2 ∧ Dk H2 p c (m + 1 + (1 + r) + 1 + i) ∧ ∃ ys : List Str, H2 Db = some (.lst (ys.map V.str)) ∧ ys.length = i ∧ ∀ s ∈ ys, s.length = 1)
      ⟨(Same.upd hDb).fr _, D3.mono (Same.upd hDb), [], upd_same, rfl, fun s hs => by simp at hs⟩ ?_ ?_
    · rintro i Hx hi ⟨fx, Dx, ys, hD2, hl, h1⟩
      refine ⟨rfl, _, rfl, _, rfl, p, c, _, _, fun v => ∃ s : Str, v = .str s ∧ s.length = 1, rfl, Dx, by omega, .inr ⟨_, rfl, by decide, by decide, fun s hs _ => ⟨s, rfl, hs⟩⟩, fun Hy v fy Dy hv => ?_⟩
      obtain ⟨s, rfl, hs⟩ := hv
      have nDp : Db ≠ p := fun e => by
        obtain ⟨_, _, q⟩ := D3.deck
        rw [← e, hDb] at q
        cases q
      have nDc : Db ≠ c := fun e => by
        obtain ⟨_, q, _⟩ := D3.cells
        rw [← e, hDb] at q
        cases q
      have hD3 := fy _ _ hD2 (by simp [nDp, nDc])
      refine ⟨_, hD3, by rw [List.length_map]; exact le_line (by omega), ?_, ?_, ys ++ [s], by rw [upd_same, List.map_append]; rfl, by rw [List.length_append, hl]; rfl, fun y hy => ?_⟩
      · exact fun b o e n => by rw [upd_ne (ne_of_none e hDb)]; exact (fx.trans fy) b o e n
      · exact (Dy.keep (l := [Db]) (Fr.put (by simp)) (by simpa using nDp.symm) (by simpa using nDc.symm)).up (by omega)
      · rcases List.mem_append.mp hy with hy | hy
        · exact h1 y hy
        · rw [List.mem_singleton] at hy
          rw [hy]; exact hs
    rintro H4 ⟨f4, D4, ysb, hDb4, hlb, hb1⟩
    have hsb : (ysb.map (·.length)).sum = ysb.length := sum_one ysb hb1
    refine ⟨_, Db, ysb, rfl, rfl, .inl (SqL.of hDb4), by rw [hsb]; show ysb.length + ysb.length * 0 ≤ 16777216; omega, ?_⟩
    have hjb := join_len (a := ("" : Str)) rfl hb1
    generalize Txt.join "" ysb = right at hjb ⊢
    refine ⟨_, rfl, _, rfl, by omega, by omega, fun Dn hDn => ?_⟩
    rw [Int.toNat_natCast]
    have fall : Fr [p, c] H H4 := f1.trans (f2.trans (f3.trans f4))
    refine lc_range (lo := 0) (n := n) (fun i H5 => Same H4 H5 ∧ ∃ ns : List Str, H5 Dn = some (.lst (ns.map V.str)) ∧ ns.length = i) ⟨Same.upd hDn, [], upd_same, rfl⟩ ?_ ?_
    · rintro i H5 hi ⟨k5, ns, hD5, hl⟩
      have hlog : (0 + (i : Int)).natAbs.log2 < 7 := by
        have : (0 + (i : Int)).natAbs < 128 := by omega
        by_cases z : (0 + (i : Int)).natAbs = 0
        · rw [z]; decide
        · exact (Nat.log2_lt z).mpr this
      have hstr : (PySem.Str.ofString (toString (0 + (i : Int)))).length ≤ 1000 := by
        rw [Int.zero_add]
        exact small_text i (by omega)
      refine ⟨rfl, _, rfl, _, rfl, _, rfl, by omega, _, _, rfl, rfl, ?_, _, rfl, _, _, rfl, rfl, ?_, _, hD5, ?_, k5.over hDn, ns ++ [_], by rw [upd_same, List.map_append]; rfl, by rw [List.length_append, hl]; rfl⟩
      · exact Nat.le_of_lt (le_line (by omega))
      · rw [Str.length_append]
        exact Nat.le_of_lt (le_line (by omega))
      · rw [List.length_map]
        exact le_line (by omega)
    · rintro H5 ⟨k5, ns, hD5, hl⟩
      refine hQ H5 Dn ns (fall.trans (k5.fr _)) ((D4.mono k5).up (by omega)) ?_ hD5 hl
      cases q : H Dn with
      | none => rfl
      | some o =>
        have nDp : Dn ≠ p := fun e => by
          obtain ⟨_, _, q⟩ := D4.deck
          rw [← e, hDn] at q
          cases q
        have nDc : Dn ≠ c := fun e => by
          obtain ⟨_, q, _⟩ := D4.cells
          rw [← e, hDn] at q
          cases q
        have := fall _ _ q (by simp [nDp, nDc])
        rw [hDn] at this
        cases this
end
end K82W
end K82Names_part
section K82Words_part
set_option Elab.async false
set_option linter.all false
set_option maxRecDepth 100000
set_option maxHeartbeats 4000000
namespace K82W
open PySem PySem.Spec PyProof.Rows L2
section
variable {P : Program} {w : World} {K : PySem.W.Frag} {mg : Str → Option Value} {base : Heap}
/-- signs as they are -/
def Sml (s : Str) : Prop := ∀ c ∈ s.cps.toList, c < 16 ^ 8
theorem sml_app {a b : Str} (h : Sml a) (k : Sml b) : Sml (a ++ b) := fun c hc => by
  have e : (a ++ b).cps.toList = a.cps.toList ++ b.cps.toList := by
    show (a.cps ++ b.cps).toList = _
    simp
  rw [e] at hc
  rcases List.mem_append.mp hc with hc | hc
  · exact h c hc
  · exact k c hc
theorem sml_fold {a : Str} (ha : Sml a) : ∀ (l : List Str) (acc : Array Nat), (∀ c ∈ acc.toList, c < 16 ^ 8) → (∀ s ∈ l, Sml s) → ∀ c ∈ (l.foldl (fun acc p => acc ++ a.cps ++ p.cps) acc).toList, c < 16 ^ 8
  | [], _, h, _ => h
  | p :: r, acc, h, k => by
    refine sml_fold ha r (acc ++ a.cps ++ p.cps) (fun c hc => ?_) fun s hs => k s (List.mem_cons_of_mem _ hs)
    simp only [Array.toList_append, List.mem_append] at hc
    rcases hc with (hc | hc) | hc
    · exact h c hc
    · exact ha c hc
    · exact k p List.mem_cons_self c hc
theorem sml_join {a : Str} (ha : Sml a) {ys : List Str} (h : ∀ s ∈ ys, Sml s) : Sml (Txt.join a ys) := by
  show Sml (Builtin.Str.glued a ys)
  cases ys with
  | nil => intro c hc; exact absurd hc (by simp [Builtin.Str.glued, Str.empty])
  | cons y r =>
    intro c hc
    refine sml_fold ha r y.cps (h y List.mem_cons_self) (fun s hs => h s (List.mem_cons_of_mem _ hs)) c ?_
    exact hc
def spWords (K : PySem.W.Frag) : Sp := fun vs H Q _ => ∃ (p c : Addr) (m n : Nat), vs = [.ref p, .int (n : Nat)] ∧ Dk H p c m ∧ m ≤ 90000 ∧ n ≤ 4 ∧ ∀ H' l (ns : List Str), Fr [p, c] H H' → Dk H' p c (m + 10) → H l = none → H' l = some (.lst (ns.map V.str)) → ns.length = n → (∀ s ∈ ns, OkW s) → Q (.ref l) H'
theorem c_words (T : TxL P K mg w) : Cal P w K mg base 3 "_law_words" p_law_words (spWords K) := by
  refine calN T.d_law_words T.g_law_words sc_law_words (fun _ _ _ _ _ _ us hl => match us, hl with | [_, _], _ => rfl) (fun vs H Q E h => ?_) (fun cdv A outer s H vs Q E hr h => ?_)
  · obtain ⟨p, c, m, n, rfl, _⟩ := h
    rfl
  · obtain ⟨p, c, m, n, rfl, D, hm, hn, hQ⟩ := h
    refine ⟨_, pss_cons (ps_set (i := 2) sc_law_words.nd rfl (Or.inr rfl) pe_str)
      (pss_cons (ps_set (i := 3) sc_law_words.nd rfl (Or.inr rfl) (pe_join pe_str (pe_lc (own := [("_law_k", 5)]) (g := gName 5) (tt := tYes) (te := tCall spOne [] E0 (tCons (tVar 0) (tCons (tVar 2) tNil))) rfl sc_law_words.nd
        (pi_range1 (by rfl) T.b_range (pa_cons (pe_c (c_draw T) hr (by decide) (by rfl) passL (pa_cons (pv 0) (pa_cons pe_int pa_nil))) pa_nil)) (blkOk_by (N := n_law_words) (sc := defScope s_law_words) (by decide +kernel))
        (fun _ _ _ _ _ => pg_name (i := 5) sc_law_words.nd rfl (Or.inl rfl) (hf := Or.inr rfl)) (fun _ _ _ _ _ => pts_nil) (fun _ _ _ _ _ => pe_c (c_one T) hr (by decide) (by rfl) passL (pa_cons (pv 0) (pa_cons (pv 2) pa_nil))))))
      (pss_cons (ps_set (i := 4) sc_law_words.nd rfl (Or.inr rfl) (pe_join pe_str (pe_lc (own := [("_law_k", 5)]) (g := gName 5) (tt := tYes) (te := tCall spOne [] E0 (tCons (tVar 0) (tCons (tVar 2) tNil))) rfl sc_law_words.nd
        (pi_range1 (by rfl) T.b_range (pa_cons (pe_c (c_draw T) hr (by decide) (by rfl) passL (pa_cons (pv 0) (pa_cons pe_int pa_nil))) pa_nil)) (blkOk_by (N := n_law_words) (sc := defScope s_law_words) (by decide +kernel))
        (fun _ _ _ _ _ => pg_name (i := 5) sc_law_words.nd rfl (Or.inl rfl) (hf := Or.inr rfl)) (fun _ _ _ _ _ => pts_nil) (fun _ _ _ _ _ => pe_c (c_one T) hr (by decide) (by rfl) passL (pa_cons (pv 0) (pa_cons (pv 2) pa_nil))))))
      (pss_one (ps_ret (pe_lc (own := [("_law_k", 5)]) (g := gName 5) (tt := tYes) rfl sc_law_words.nd
        (pi_range1 (by rfl) T.b_range (pa_cons (pv 1) pa_nil)) (blkOk_by (N := n_law_words) (sc := defScope s_law_words) (by decide +kernel))
        (fun _ _ _ _ _ => pg_name (i := 5) sc_law_words.nd rfl (Or.inl rfl) (hf := Or.inr rfl)) (fun _ _ _ _ _ => pts_nil) (fun _ _ _ _ _ => pe_op op_add_str (pe_op op_add_str (pv 3) (pe_ix ix_str pe_str (pv 5) (fun _ _ => rfl))) (pv 4))))))), ?_⟩
    have hlet : ("0123456789abcdefghijklmnopqrstuvwxyz" : Str).length = 36 := by decide +kernel
    have hsg : ∀ c ∈ ("0123456789abcdefghijklmnopqrstuvwxyz" : Str).cps.toList, c < 16 ^ 8 := by decide +kernel
    have hsq : ∀ c ∈ ("qvxz" : Str).cps.toList, c < 16 ^ 8 := by decide +kernel
    refine ⟨⟨_, rfl⟩, _, rfl, p, c, m, 4, rfl, D, by omega, by decide, by decide, fun H1 r f1 D1 hr1 => ?_⟩
    refine ⟨_, rfl, by omega, by omega, fun Da hDa => ?_⟩
    rw [Int.toNat_natCast]
    refine lc_range (lo := 0) (n := r) (fun i H2 => Fr [p, c] H1 H2 ∧ Dk H2 p c (m + 1 + i) ∧ ∃ ys : List Str, H2 Da = some (.lst (ys.map V.str)) ∧ ys.length = i ∧ ∀ s ∈ ys, s.length = 1 ∧ Sml s)
      ⟨(Same.upd hDa).fr _, D1.mono (Same.upd hDa), [], upd_same, rfl, fun s hs => by simp at hs⟩ ?_ ?_
    · rintro i Hx hi ⟨fx, Dx, ys, hD2, hl, h1⟩
      refine ⟨rfl, _, rfl, _, rfl, p, c, _, _, fun v => ∃ s : Str, v = .str s ∧ s.length = 1 ∧ Sml s, rfl, Dx, by omega, .inr ⟨_, rfl, by decide, by decide, fun s hs hc => ⟨s, rfl, hs, fun c q => hsg c (hc c q)⟩⟩, fun Hy v fy Dy hv => ?_⟩
      obtain ⟨s, rfl, hs, hsm⟩ := hv
      have nDp : Da ≠ p := fun e => by
        obtain ⟨_, _, q⟩ := D1.deck
        rw [← e, hDa] at q
        cases q
      have nDc : Da ≠ c := fun e => by
        obtain ⟨_, q, _⟩ := D1.cells
        rw [← e, hDa] at q
        cases q
      have hD3 := fy _ _ hD2 (by simp [nDp, nDc])
      refine ⟨_, hD3, by rw [List.length_map]; exact le_line (by omega), ?_, ?_, ys ++ [s], by rw [upd_same, List.map_append]; rfl, by rw [List.length_append, hl]; rfl, fun y hy => ?_⟩
      · exact fun b o e n => by rw [upd_ne (ne_of_none e hDa)]; exact (fx.trans fy) b o e n
      · exact (Dy.keep (l := [Da]) (Fr.put (by simp)) (by simpa using nDp.symm) (by simpa using nDc.symm)).up (by omega)
      · rcases List.mem_append.mp hy with hy | hy
        · exact h1 y hy
        · rw [List.mem_singleton] at hy
          rw [hy]; exact ⟨hs, hsm⟩
    rintro H2 ⟨f2, D2, ysa, hDa2, hla, ha0⟩
    have ha1 : ∀ s ∈ ysa, s.length = 1 := fun s q => (ha0 s q).1
    have hsml := sml_join (a := ("" : Str)) (show ∀ c ∈ ("" : Str).cps.toList, c < 16 ^ 8 by decide +kernel) (fun s q => (ha0 s q).2)
    have hsa : (ysa.map (·.length)).sum = ysa.length := sum_one ysa ha1
    refine ⟨_, Da, ysa, rfl, rfl, .inl (SqL.of hDa2), by rw [hsa]; show ysa.length + ysa.length * 0 ≤ 16777216; omega, ?_⟩
    have hja := join_len (a := ("" : Str)) rfl ha1
    generalize Txt.join "" ysa = left at hja hsml ⊢
    refine ⟨⟨_, rfl⟩, _, rfl, p, c, _, 4, rfl, D2, by omega, by decide, by decide, fun H3 r3 f3 D3 hr3 => ?_⟩
    refine ⟨_, rfl, by omega, by omega, fun Db hDb => ?_⟩
    rw [Int.toNat_natCast]
    refine lc_range (lo := 0) (n := r3) (fun i H2 => Fr [p, c] H3 H2 ∧ Dk H2 p c (m + 1 + r + 1 + i) ∧ ∃ ys : List Str, H2 Db = some (.lst (ys.map V.str)) ∧ ys.length = i ∧ ∀ s ∈ ys, s.length = 1 ∧ Sml s)
      ⟨(Same.upd hDb).fr _, D3.mono (Same.upd hDb), [], upd_same, rfl, fun s hs => by simp at hs⟩ ?_ ?_
    · rintro i Hx hi ⟨fx, Dx, ys, hD2, hl, h1⟩
      refine ⟨rfl, _, rfl, _, rfl, p, c, _, _, fun v => ∃ s : Str, v = .str s ∧ s.length = 1 ∧ Sml s, rfl, Dx, by omega, .inr ⟨_, rfl, by decide, by decide, fun s hs hc => ⟨s, rfl, hs, fun c q => hsg c (hc c q)⟩⟩, fun Hy v fy Dy hv => ?_⟩
      obtain ⟨s, rfl, hs, hsm⟩ := hv
      have nDp : Db ≠ p := fun e => by
        obtain ⟨_, _, q⟩ := D3.deck
        rw [← e, hDb] at q
        cases q
      have nDc : Db ≠ c := fun e => by
        obtain ⟨_, q, _⟩ := D3.cells
        rw [← e, hDb] at q
        cases q
      have hD3 := fy _ _ hD2 (by simp [nDp, nDc])
      refine ⟨_, hD3, by rw [List.length_map]; exact le_line (by omega), ?_, ?_, ys ++ [s], by rw [upd_same, List.map_append]; rfl, by rw [List.length_append, hl]; rfl, fun y hy => ?_⟩
      · exact fun b o e n => by rw [upd_ne (ne_of_none e hDb)]; exact (fx.trans fy) b o e n
      · exact (Dy.keep (l := [Db]) (Fr.put (by simp)) (by simpa using nDp.symm) (by simpa using nDc.symm)).up (by omega)
      · rcases List.mem_append.mp hy with hy | hy
        · exact h1 y hy
        · rw [List.mem_singleton] at hy
          rw [hy]; exact ⟨hs, hsm⟩
    rintro H4 ⟨f4, D4, ysb, hDb4, hlb, hb0⟩
    have hb1 : ∀ s ∈ ysb, s.length = 1 := fun s q => (hb0 s q).1
    have hsmr := sml_join (a := ("" : Str)) (show ∀ c ∈ ("" : Str).cps.toList, c < 16 ^ 8 by decide +kernel) (fun s q => (hb0 s q).2)
    have hsb : (ysb.map (·.length)).sum = ysb.length := sum_one ysb hb1
    refine ⟨_, Db, ysb, rfl, rfl, .inl (SqL.of hDb4), by rw [hsb]; show ysb.length + ysb.length * 0 ≤ 16777216; omega, ?_⟩
    have hjb := join_len (a := ("" : Str)) rfl hb1
    generalize Txt.join "" ysb = right at hjb hsmr ⊢
    refine ⟨_, rfl, _, rfl, by omega, by omega, fun Dn hDn => ?_⟩
    rw [Int.toNat_natCast]
    have fall : Fr [p, c] H H4 := f1.trans (f2.trans (f3.trans f4))
    refine lc_range (lo := 0) (n := n) (fun i H5 => Same H4 H5 ∧ ∃ ns : List Str, H5 Dn = some (.lst (ns.map V.str)) ∧ ns.length = i ∧ ∀ s ∈ ns, OkW s) ⟨Same.upd hDn, [], upd_same, rfl, fun s hs => by simp at hs⟩ ?_ ?_
    · rintro i H5 hi ⟨k5, ns, hD5, hl, hok⟩
      have hq : ("qvxz" : Str).cps.toList.length = 4 := by decide +kernel
      have hi4 : i < ("qvxz" : Str).cps.toList.length := by omega
      refine ⟨rfl, _, rfl, _, rfl, _, _, _, rfl, rfl, by decide +kernel, by rw [Int.zero_add]; exact atI_nat (j := i) (List.getElem?_eq_getElem hi4), _, _, rfl, rfl, ?_, _, rfl, _, _, rfl, rfl, ?_, _, hD5, ?_, k5.over hDn, ns ++ [_], by rw [upd_same, List.map_append]; rfl, by rw [List.length_append, hl]; rfl, fun s hs => ?_⟩
      · exact Nat.le_of_lt (le_line (by show left.length + 1 ≤ 100000; omega))
      · rw [Str.length_append]
        exact Nat.le_of_lt (le_line (by show left.length + 1 + right.length ≤ 100000; omega))
      · rw [List.length_map]
        exact le_line (by omega)
      · rcases List.mem_append.mp hs with hs | hs
        · exact hok s hs
        · rw [List.mem_singleton.mp hs]
          refine ⟨?_, sml_app (sml_app hsml ?_) hsmr⟩
          · rw [Str.length_append, Str.length_append]
            show left.length + 1 + right.length ≤ 100
            omega
          · intro c hc
            simp at hc
            rw [hc]
            exact hsq _ (List.getElem_mem hi4)
    · rintro H5 ⟨k5, ns, hD5, hl, hok⟩
      refine hQ H5 Dn ns (fall.trans (k5.fr _)) ((D4.mono k5).up (by omega)) ?_ hD5 hl hok
      cases q : H Dn with
      | none => rfl
      | some o =>
        have nDp : Dn ≠ p := fun e => by
          obtain ⟨_, _, q⟩ := D4.deck
          rw [← e, hDn] at q
          cases q
        have nDc : Dn ≠ c := fun e => by
          obtain ⟨_, q, _⟩ := D4.cells
          rw [← e, hDn] at q
          cases q
        have := fall _ _ q (by simp [nDp, nDc])
        rw [hDn] at this
        cases this
end
end K82W
end K82Words_part
section K82Test_part
set_option Elab.async false
set_option linter.all false
set_option maxRecDepth 100000
set_option maxHeartbeats 4000000
namespace K82W
open PySem PySem.Spec PyProof.Rows L2
/-- a list of texts, some, not too many -/
def Txts (H : Hp) (l : Addr) : Prop := ∃ ns : List Str, H l = some (.lst (ns.map V.str)) ∧ ns ≠ [] ∧ ns.length ≤ 100
theorem Txts.ne {H : Hp} {l p c : Addr} {m : Nat} (h : Txts H l) (D : Dk H p c m) : l ≠ p ∧ l ≠ c := by
  obtain ⟨ns, h1, h2, _⟩ := h
  obtain ⟨_, ⟨k, _, hp⟩, ⟨xs, hc, _, _⟩⟩ := D
  cases ns with
  | nil => exact absurd rfl h2
  | cons a r =>
    refine ⟨fun e => ?_, fun e => ?_⟩
    · rw [e, hp] at h1
      cases h1
    · rw [e, hc] at h1
      cases xs with
      | nil => cases h1
      | cons b t => cases h1
theorem Txts.keep {H H' : Hp} {l p c : Addr} {m : Nat} (h : Txts H l) (D : Dk H p c m) (f : Fr [p, c] H H') : Txts H' l := by
  obtain ⟨n1, n2⟩ := h.ne D
  obtain ⟨ns, h1, h2⟩ := h
  exact ⟨ns, f _ _ h1 (by simp [n1, n2]), h2⟩
theorem Txts.mono {H H' : Hp} {l : Addr} (h : Txts H l) (s : Same H H') : Txts H' l := by
  obtain ⟨ns, h1, h2⟩ := h
  exact ⟨ns, s _ _ h1, h2⟩
/-- words -/
def WTx (H : Hp) (l : Addr) : Prop := ∃ ns : List Str, H l = some (.lst (ns.map V.str)) ∧ ns ≠ [] ∧ ns.length ≤ 100 ∧ ∀ s ∈ ns, OkW s
theorem WTx.txts {H : Hp} {l : Addr} (h : WTx H l) : Txts H l := by
  obtain ⟨ns, h1, h2, h3, _⟩ := h
  exact ⟨ns, h1, h2, h3⟩
theorem WTx.keep {H H' : Hp} {l p c : Addr} {m : Nat} (h : WTx H l) (D : Dk H p c m) (f : Fr [p, c] H H') : WTx H' l := by
  obtain ⟨n1, n2⟩ := h.txts.ne D
  obtain ⟨ns, h1, h2⟩ := h
  exact ⟨ns, f _ _ h1 (by simp [n1, n2]), h2⟩
theorem WTx.mono {H H' : Hp} {l : Addr} (h : WTx H l) (s : Same H H') : WTx H' l := by
  obtain ⟨ns, h1, h2⟩ := h
  exact ⟨ns, s _ _ h1, h2⟩
theorem WTx.items {H : Hp} {l p c : Addr} {m : Nat} (h : WTx H l) (D : Dk H p c m) : Items H p c (.ref l) (fun v => ∃ s, v = .str s ∧ OkW s) := by
  obtain ⟨n1, n2⟩ := h.txts.ne D
  obtain ⟨ns, h1, h2, h3, h4⟩ := h
  refine .inl ⟨l, _, rfl, h1, n1, n2, fun e => h2 (by simpa using e), by rw [List.length_map]; omega, fun v hv => ?_⟩
  obtain ⟨s, hs, e⟩ := List.mem_map.mp hv
  exact ⟨s, e.symm, h4 s hs⟩
def IsStr (v : V) : Prop := ∃ s, v = .str s
theorem Txts.items {H : Hp} {l p c : Addr} {m : Nat} (h : Txts H l) (D : Dk H p c m) : Items H p c (.ref l) IsStr := by
  obtain ⟨n1, n2⟩ := h.ne D
  obtain ⟨ns, h1, h2, h3⟩ := h
  refine .inl ⟨l, _, rfl, h1, n1, n2, fun e => h2 (by simpa using e), by rw [List.length_map]; omega, fun v hv => ?_⟩
  obtain ⟨s, _, e⟩ := List.mem_map.mp hv
  exact ⟨s, e.symm⟩
/-- the pool: names, fields, words, no givens -/
def PoolAt (H : Hp) (po : Addr) : Prop := ∃ l0 l1 l2, H po = some (.lst [.ref l0, .ref l1, .ref l2, .int 0]) ∧ Txts H l0 ∧ Txts H l1 ∧ Txts H l2
theorem PoolAt.ne {H : Hp} {po p c : Addr} {m : Nat} (h : PoolAt H po) (D : Dk H p c m) : po ≠ p ∧ po ≠ c := by
  obtain ⟨l0, l1, l2, h1, _⟩ := h
  obtain ⟨_, ⟨k, _, hp⟩, ⟨xs, hc, _, _⟩⟩ := D
  refine ⟨fun e => ?_, fun e => ?_⟩
  · rw [e, hp] at h1
    cases h1
  · rw [e, hc] at h1
    cases xs with
    | nil => cases h1
    | cons b t => cases h1
theorem PoolAt.keep {H H' : Hp} {po p c : Addr} {m : Nat} (h : PoolAt H po) (D : Dk H p c m) (f : Fr [p, c] H H') : PoolAt H' po := by
  obtain ⟨n1, n2⟩ := h.ne D
  obtain ⟨l0, l1, l2, h1, h2, h3, h4⟩ := h
  exact ⟨l0, l1, l2, f _ _ h1 (by simp [n1, n2]), h2.keep D f, h3.keep D f, h4.keep D f⟩
theorem PoolAt.mono {H H' : Hp} {po : Addr} (h : PoolAt H po) (s : Same H H') : PoolAt H' po := by
  obtain ⟨l0, l1, l2, h1, h2, h3, h4⟩ := h
  exact ⟨l0, l1, l2, s _ _ h1, h2.mono s, h3.mono s, h4.mono s⟩
section
variable {P : Program} {w : World} {K : PySem.W.Frag} {mg : Str → Option Value} {base : Heap}
def spTest (K : PySem.W.Frag) : Sp := fun vs H Q _ => ∃ (p c po lo : Addr) (m : Nat), vs = [.ref p, .ref po, .ref lo] ∧ Dk H p c m ∧ m ≤ 90000 ∧ PoolAt H po ∧ Txts H lo ∧ ∀ H' t, Fr [p, c] H H' → Dk H' p c (m + 8) → Q (.ref t) H'
theorem c_test (T : TxL P K mg w) : Cal P w K mg base 3 "_law_test" p_law_test (spTest K) := by
  refine calN T.d_law_test T.g_law_test sc_law_test (fun _ _ _ _ _ _ us hl => match us, hl with | [_, _, _], _ => rfl) (fun vs H Q E h => ?_) (fun cdv A outer s H vs Q E hr h => ?_)
  · obtain ⟨p, c, po, lo, m, rfl, _⟩ := h
    rfl
  · obtain ⟨p, c, po, lo, m, rfl, D, hm, hpo, hlo, hQ⟩ := h
    obtain ⟨tB, hB, rB⟩ : ∃ t, PSs (cxOf (L2.CX P w) P w K mg base n_law_test "_law_test" (defScope s_law_test) (He.ga K "_law_test") cdv A outer s H E).nox ((defBody s_law_test).drop 3) t ∧
        ∀ (v3 v4 : V) (ta : Addr) (H2 : Hp), Fr [p, c] H H2 → Dk H2 p c (m + 4) → t { nx := fun _ H' => Q .non H', rt := Q } [some (.ref p), some (.ref po), some (.ref lo), some v3, some v4, some (.ref ta), none] H2 := by
      refine ⟨_, pss_cons (ps_for PassesOwn.never rfl (pi_range1 (by rfl) T.b_range (pa_cons (pe_c (c_one T) hr (by decide) (by rfl) passL (pa_cons (pv 0) (pa_cons (pe_lst (pa_cons pe_int (pa_cons pe_int (pa_cons pe_int (pa_cons pe_int (pa_cons pe_int (pa_cons pe_int pa_nil))))))) pa_nil))) pa_nil)) (pg_name (i := 6) sc_law_test.nd rfl (Or.inl rfl))
          (pss_one (ps_set (i := 5) sc_law_test.nd rfl (Or.inl rfl) (pe_tup (pa_cons pe_str (pa_cons (pv 5) pa_nil))))))
        (pss_one (ps_ret (pv 5))), ?_⟩
      intro v3 v4 ta H2 f2 D2
      refine ⟨_, rfl, by show 6 ≤ sizeLine; decide, fun l hl => ?_⟩
      have s3 := Same.upd (o := .lst [.int 0, .int 0, .int 0, .int 1, .int 2, .int 3]) hl
      have D3 := D2.mono s3
      have n1 : l ≠ p := fun e => by
        obtain ⟨_, _, q⟩ := D2.deck
        rw [← e, hl] at q
        cases q
      have n2 : l ≠ c := fun e => by
        obtain ⟨_, q, _⟩ := D2.cells
        rw [← e, hl] at q
        cases q
      refine ⟨p, c, _, _, fun v => ∃ n : Nat, v = .int (n : Nat) ∧ n ≤ 3, rfl, D3, by omega, .inl ⟨l, _, rfl, upd_same, n1, n2, by simp, by show 6 ≤ 1000; decide, fun v hv => ?_⟩, fun H4 v f4 D4 hv => ?_⟩
      · simp only [List.mem_cons, List.not_mem_nil, or_false] at hv
        rcases hv with h | h | h | h | h | h
        · exact ⟨0, h, by decide⟩
        · exact ⟨0, h, by decide⟩
        · exact ⟨0, h, by decide⟩
        · exact ⟨1, h, by decide⟩
        · exact ⟨2, h, by decide⟩
        · exact ⟨3, h, by decide⟩
      obtain ⟨n, rfl, hn⟩ := hv
      refine ⟨_, rfl, by omega, by omega, ?_⟩
      rw [Int.toNat_natCast]
      have f4' := f2.trans ((s3.fr [p, c]).trans f4)
      refine for_range (n := n) (fun i σ H' => ∃ ta v6, σ = [some (.ref p), some (.ref po), some (.ref lo), some v3, some v4, some (.ref ta), v6] ∧ Same H4 H') ⟨ta, none, rfl, fun _ _ e => e⟩ ?_ ?_
      · rintro i σ H5 hi ⟨ta, v6, rfl, k5⟩
        exact ⟨_, rfl, by show 2 ≤ sizeLine; decide, fun t ht => ⟨t, _, rfl, k5.updT ht⟩⟩
      · rintro σ H5 ⟨ta, v6, rfl, k5⟩
        exact ⟨_, rfl, hQ H5 ta (f4'.trans (k5.fr _)) ((D4.mono k5).up (by omega))⟩
    refine ⟨_, pss_cons (ps_par (i := 3) (j := 4) (by rfl) sc_law_test.nd rfl rfl (by decide) rfl rfl (pa_cons (pe_c (c_draw T) hr (by decide) (by rfl) passL (pa_cons (pv 0) (pa_cons pe_int pa_nil))) (pa_cons (pe_c (c_one T) hr (by decide) (by rfl) passL (pa_cons (pv 0) (pa_cons (pv 2) pa_nil))) pa_nil)) (by rfl))
      (pss_cons (ps_set (i := 5) sc_law_test.nd rfl (Or.inl rfl) (pe_tup (pa_cons pe_str (pa_cons (pv 4) (pa_cons (pe_c (c_one T) hr (by decide) (by rfl) passL (pa_cons (pv 0) (pa_cons (pe_ix ix_list (pv 1) pe_int (fun _ _ => rfl)) pa_nil))) pa_nil)))))
      (pss_cons (ps_if (pw_and (pt_cmpR op_eq (pv 3) pe_int (nomark _)) (pw_and1 (pt_cmpR op_gt (pe_ix ix_list (pv 1) pe_int (fun _ _ => rfl)) pe_int (nomark _)))).pt pss_never
        (pss_one (ps_if (pt_cmpR op_lt (pv 3) pe_int (nomark _)) (pss_one (ps_set (i := 5) sc_law_test.nd rfl (Or.inl rfl) (pe_tup (pa_cons pe_str (pa_cons (pe_c (c_one T) hr (by decide) (by rfl) passL (pa_cons (pv 0) (pa_cons (pe_ix ix_list (pv 1) pe_int (fun _ _ => rfl)) pa_nil))) pa_nil)))))
          (pss_one (ps_if (pt_cmpR op_eq (pv 3) pe_int (nomark _)) (pss_one (ps_set (i := 5) sc_law_test.nd rfl (Or.inl rfl) (pe_tup (pa_cons pe_str (pa_cons (pv 4) (pa_cons (pe_c (c_one T) hr (by decide) (by rfl) passL (pa_cons (pv 0) (pa_cons (pv 2) pa_nil))) pa_nil))))))
            (pss_one (ps_if (pt_cmpR op_lt (pv 3) pe_int (nomark _)) (pss_one (ps_set (i := 5) sc_law_test.nd rfl (Or.inl rfl) (pe_tup (pa_cons pe_str (pa_cons (pe_c (c_one T) hr (by decide) (by rfl) passL (pa_cons (pv 0) (pa_cons (pe_ix ix_list (pv 1) pe_int (fun _ _ => rfl)) pa_nil))) pa_nil))))) pss_nil))))))) hB)), ?_⟩
    refine ⟨_, rfl, p, c, m, 9, rfl, D, by omega, by decide, by decide, fun H1 r f1 D1 hr1 => ?_⟩
    refine ⟨_, rfl, _, rfl, p, c, _, _, IsStr, rfl, D1, by omega, (hlo.keep D f1).items D1, fun H2 v f2 D2 hv => ⟨_, _, rfl, ?_⟩⟩
    have f2' := f1.trans f2
    obtain ⟨l0, l1, l2, hp2, h0, h1, h2⟩ := (hpo.keep D f1).keep D1 f2
    refine ⟨_, rfl, _, rfl, _, rfl, po, _, _, _, rfl, rfl, SqL.of hp2, atI_nat (j := 1) rfl, p, c, _, _, IsStr, rfl, D2, by omega, h1.items D2, fun H3 v3 f3 D3 hv3 => ?_⟩
    refine ⟨by show 3 ≤ sizeLine; decide, fun t ht => ?_⟩
    have s4 := Same.upd (o := .tup [.str "full", v, v3]) ht
    have f4 := f2'.trans (f3.trans (s4.fr [p, c]))
    have D4 := D3.mono s4
    have hpo4 : PoolAt (upd H3 t (.tup [.str "full", v, v3])) po := (((hpo.keep D f1).keep D1 f2).keep D2 f3).mono s4
    have hlo4 : Txts (upd H3 t (.tup [.str "full", v, v3])) lo := (((hlo.keep D f1).keep D1 f2).keep D2 f3).mono s4
    generalize upd H3 t (.tup [.str "full", v, v3]) = H4 at f4 D4 hpo4 hlo4 ⊢
    obtain ⟨l0', l1', l2', hp4, h0', h1', h2'⟩ := id hpo4
    -- the ways
    have dI : ∀ a b : Int, decide (V.int a = V.int b) = decide (a = b) := fun a b => decide_eq_decide.mpr ⟨fun e => V.int.inj e, fun e => by rw [e]⟩
    -- behind the first test
    have rest : ∀ q : Prop, q → q := fun _ h => h
    have skip : ∀ H5, H5 = H4 → tB { nx := fun _ H' => Q .non H', rt := Q } [some (.ref p), some (.ref po), some (.ref lo), some (.int (r : Nat)), some v, some (.ref t), none] H5 := fun H5 e => by
      rw [e]
      exact rB _ _ t H4 f4 (D4.up (by omega))
    by_cases hr0 : r < 2
    · -- 'set'
      have key : ∀ (H5 : Hp) (v5 : V), Fr [p, c] H4 H5 → Dk H5 p c (m + 1 + 1 + 1 + 1) → ∀ t2 : Addr, H5 t2 = none → tB { nx := fun _ H' => Q .non H', rt := Q } [some (.ref p), some (.ref po), some (.ref lo), some (.int (r : Nat)), some v, some (.ref t2), none] (upd H5 t2 (.tup [.str "set", v5])) := fun H5 v5 f5 D5 t2 ht2 =>
        rB _ _ t2 _ (f4.trans (f5.trans ((Same.upd ht2).fr _))) (D5.mono (Same.upd ht2))
      refine ⟨_, rfl, rfl, decide ((r : Int) = 0), congrArg V.bl (dI _ _), ?_⟩
      have second : ∃ q1 q2 : Prop, True := ⟨True, True, trivial⟩
      cases hz : decide ((r : Int) = 0) with
      | true =>
        refine iteT ⟨_, rfl, po, _, _, _, rfl, rfl, SqL.of hp4, atI_nat (j := 3) rfl, _, _, rfl, rfl, false, rfl, iteF ?_⟩
        refine ⟨_, rfl, _, _, rfl, rfl, true, congrArg V.bl (decide_eq_true (by omega)), iteT ?_⟩
        refine ⟨_, rfl, _, rfl, po, _, _, _, rfl, rfl, SqL.of hp4, atI_nat (j := 0) rfl, p, c, _, _, IsStr, rfl, D4, by omega, h0'.items D4, fun H5 v5 f5 D5 hv5 => ⟨by show 2 ≤ sizeLine; decide, fun t2 ht2 => key H5 v5 f5 D5 t2 ht2⟩⟩
      | false =>
        refine iteF (iteF ?_)
        refine ⟨_, rfl, _, _, rfl, rfl, true, congrArg V.bl (decide_eq_true (by omega)), iteT ?_⟩
        refine ⟨_, rfl, _, rfl, po, _, _, _, rfl, rfl, SqL.of hp4, atI_nat (j := 0) rfl, p, c, _, _, IsStr, rfl, D4, by omega, h0'.items D4, fun H5 v5 f5 D5 hv5 => ⟨by show 2 ≤ sizeLine; decide, fun t2 ht2 => key H5 v5 f5 D5 t2 ht2⟩⟩
    · refine ⟨_, rfl, rfl, false, congrArg V.bl ((dI _ _).trans (decide_eq_false (by omega))), iteF (iteF ?_)⟩
      refine ⟨_, rfl, _, _, rfl, rfl, false, congrArg V.bl (decide_eq_false (by omega)), iteF ?_⟩
      by_cases hr2 : r = 2
      · refine ⟨_, rfl, rfl, true, congrArg V.bl ((dI _ _).trans (decide_eq_true (by omega))), iteT ?_⟩
        refine ⟨_, rfl, _, rfl, _, rfl, p, c, _, _, IsStr, rfl, D4, by omega, hlo4.items D4, fun H5 v5 f5 D5 hv5 => ⟨by show 3 ≤ sizeLine; decide, fun t2 ht2 => ?_⟩⟩
        exact rB _ _ t2 _ (f4.trans (f5.trans ((Same.upd ht2).fr _))) (D5.mono (Same.upd ht2))
      · refine ⟨_, rfl, rfl, false, congrArg V.bl ((dI _ _).trans (decide_eq_false (by omega))), iteF ?_⟩
        by_cases hr5 : r < 5
        · refine ⟨_, rfl, _, _, rfl, rfl, true, congrArg V.bl (decide_eq_true (by omega)), iteT ?_⟩
          refine ⟨_, rfl, _, rfl, po, _, _, _, rfl, rfl, SqL.of hp4, atI_nat (j := 2) rfl, p, c, _, _, IsStr, rfl, D4, by omega, h2'.items D4, fun H5 v5 f5 D5 hv5 => ⟨by show 2 ≤ sizeLine; decide, fun t2 ht2 => ?_⟩⟩
          exact rB _ _ t2 _ (f4.trans (f5.trans ((Same.upd ht2).fr _))) (D5.mono (Same.upd ht2))
        · exact ⟨_, rfl, _, _, rfl, rfl, false, congrArg V.bl (decide_eq_false (by omega)), iteF (skip _ rfl)⟩
end
end K82W
end K82Test_part
section K82Plain_part
set_option Elab.async false
set_option linter.all false
set_option maxRecDepth 100000
set_option maxHeartbeats 4000000
namespace K82W
open PySem PySem.Spec PyProof.Rows L2
/-- xs == [], whatever xs holds -/
def rEqNilV (K : PySem.W.Frag) : R2 := fun x y H Q => ∃ (a b : Addr) (xs : List V), x = .ref a ∧ y = .ref b ∧ SqL K H a xs ∧ SqL K H b [] ∧ Q (.bl xs.isEmpty) H
theorem op_eqNilV {X : Cx} (hu : X.A.units + 64 < cLine) : OpR X (compareOp .Eq) (rEqNilV X.K) := by
  intro pins s σ H x y v u Q I rx ry h
  obtain ⟨a, b, xs, e1, e2, h1, h2, q⟩ := h
  subst e1 e2
  cases xs with
  | nil => exact op_eqD hu pins s σ H _ _ v u Q I rx ry ⟨_, _, Dp.lst h1 .nil, Dp.lst h2 .nil, shI [], shI [], q⟩
  | cons z r =>
    obtain rfl : v = Value.ref a := rx
    obtain rfl : u = Value.ref b := ry
    obtain ⟨us, r1, p1, _⟩ := I.list h1
    obtain ⟨ws, r2, p2, _⟩ := I.list h2
    refine SeqAt.eq_list_lengthsAt p1.isList p2.isList ?_ (by omega) ⟨.bl false, H, I, rfl, q⟩
    have l1 := r1.length
    have l2 := r2.length
    simp only [List.size_toArray, bne_iff_ne, ne_eq]
    simp only [List.length_cons, List.length_nil] at l1 l2
    omega
/-! ### the names that are held -/
def hm (ls : List (Str × Bool)) : List (Key × V) := ls.map fun q => ((Sum.inr q.1 : Key), V.bl q.2)
def HeldAt (H : Hp) (hd : Addr) (n : Nat) : Prop := ∃ ls, H hd = some (.dK (hm ls)) ∧ ls.length ≤ n
theorem hm_put (ls : List (Str × Bool)) (x : Str) (b : Bool) : ∃ ls', putK (hm ls) (Sum.inr x) (.bl b) = hm ls' ∧ ls'.length ≤ ls.length + 1 := by
  unfold putK
  split
  · refine ⟨ls.map fun q => if q.1 = x then (x, b) else q, ?_, by rw [List.length_map]; omega⟩
    unfold hm
    rw [List.map_map, List.map_map]
    refine List.map_congr_left fun q _ => ?_
    show (if (Sum.inr q.1 : Key) = Sum.inr x then ((Sum.inr q.1 : Key), V.bl b) else (Sum.inr q.1, V.bl q.2)) = ((Sum.inr (if q.1 = x then (x, b) else q).1 : Key), V.bl (if q.1 = x then (x, b) else q).2)
    by_cases e : q.1 = x
    · rw [if_pos (by rw [e]), if_pos e, e]
    · rw [if_neg (fun z => e (Sum.inr.inj z)), if_neg e]
  · refine ⟨ls ++ [(x, b)], ?_, by rw [List.length_append]; exact Nat.le_refl _⟩
    unfold hm
    rw [List.map_append]
    rfl
theorem hm_get (ls : List (Str × Bool)) (x : Str) (h : x ∈ ls.map (·.1)) : ∃ b, valV (hm ls) (Sum.inr x : Key) = some (.bl b) := by
  cases e : valV (hm ls) (Sum.inr x : Key) with
  | none =>
    obtain ⟨q, hq, eq⟩ := List.mem_map.mp h
    refine absurd (show ((Sum.inr x : Key), V.bl q.2) ∈ hm ls from ?_) (valV_no e)
    rw [← eq]
    exact List.mem_map_of_mem (f := fun q => ((Sum.inr q.1 : Key), V.bl q.2)) hq
  | some v =>
    obtain ⟨q, hq, eq⟩ := List.mem_map.mp (valV_mem e)
    exact ⟨q.2, congrArg some (congrArg Prod.snd eq).symm⟩
theorem HeldAt.ne {H : Hp} {hd p c : Addr} {m n : Nat} (h : HeldAt H hd n) (D : Dk H p c m) : hd ≠ p ∧ hd ≠ c := by
  obtain ⟨ls, h1, _⟩ := h
  obtain ⟨_, ⟨k, _, hp⟩, ⟨xs, hc, _, _⟩⟩ := D
  exact ⟨ne_of h1 hp (fun e => nomatch e), ne_of h1 hc (fun e => nomatch e)⟩
/-- all that stands while a puzzle is drawn -/
structure PB (H H' : Hp) (p c hd po l0 l1 l2 : Addr) (k n : Nat) : Prop where
  fr : Fr [p, c, hd] H H'
  D : Dk H' p c k
  hd : HeldAt H' hd n
  pool : H' po = some (.lst [.ref l0, .ref l1, .ref l2, .int 0])
  t0 : Txts H' l0
  t1 : Txts H' l1
  w2 : WTx H' l2
section
variable {H H' H2 : Hp} {p c hd po l0 l1 l2 : Addr} {k n k' : Nat}
theorem PB.t2 (b : PB H H' p c hd po l0 l1 l2 k n) : Txts H' l2 := b.w2.txts
theorem PB.po_at (b : PB H H' p c hd po l0 l1 l2 k n) : PoolAt H' po := ⟨l0, l1, l2, b.pool, b.t0, b.t1, b.t2⟩
theorem PB.draw (b : PB H H' p c hd po l0 l1 l2 k n) (f : Fr [p, c] H' H2) (D2 : Dk H2 p c k') : PB H H2 p c hd po l0 l1 l2 k' n where
  fr := b.fr.trans (f.sub (by simp))
  D := D2
  hd := by
    obtain ⟨n1, n2⟩ := b.hd.ne b.D
    obtain ⟨ls, h1, h2⟩ := b.hd
    exact ⟨ls, f _ _ h1 (by simp [n1, n2]), h2⟩
  pool := by
    obtain ⟨n1, n2⟩ := b.po_at.ne b.D
    exact f _ _ b.pool (by simp [n1, n2])
  t0 := b.t0.keep b.D f
  t1 := b.t1.keep b.D f
  w2 := b.w2.keep b.D f
theorem PB.mono (b : PB H H' p c hd po l0 l1 l2 k n) (s : Same H' H2) : PB H H2 p c hd po l0 l1 l2 k n where
  fr := b.fr.trans (s.fr _)
  D := b.D.mono s
  hd := by
    obtain ⟨ls, h1, h2⟩ := b.hd
    exact ⟨ls, s _ _ h1, h2⟩
  pool := s _ _ b.pool
  t0 := b.t0.mono s
  t1 := b.t1.mono s
  w2 := b.w2.mono s
theorem PB.up (b : PB H H' p c hd po l0 l1 l2 k n) (h : k ≤ k') : PB H H' p c hd po l0 l1 l2 k' n := { b with D := b.D.up h }
theorem PB.upn (b : PB H H' p c hd po l0 l1 l2 k n) {n' : Nat} (h : n ≤ n') : PB H H' p c hd po l0 l1 l2 k n' := by
  obtain ⟨ls, h1, h2⟩ := b.hd
  exact { b with hd := ⟨ls, h1, Nat.le_trans h2 h⟩ }
theorem txts_hd {l : Addr} {o : List (Key × V)} (t : Txts H' l) (h : H' hd = some (.dK o)) (o' : HO) : Txts (upd H' hd o') l := by
  obtain ⟨ns, h1, h2⟩ := t
  exact ⟨ns, by rw [upd_ne (ne_of h1 h (fun e => nomatch e))]; exact h1, h2⟩
theorem wtx_hd {l : Addr} {o : List (Key × V)} (t : WTx H' l) (h : H' hd = some (.dK o)) (o' : HO) : WTx (upd H' hd o') l := by
  obtain ⟨ns, h1, h2⟩ := t
  exact ⟨ns, by rw [upd_ne (ne_of h1 h (fun e => nomatch e))]; exact h1, h2⟩
theorem PB.put (b : PB H H' p c hd po l0 l1 l2 k n) (x : Str) (v : Bool) {ls : List (Str × Bool)} (hls : H' hd = some (.dK (hm ls))) (hl : ls.length ≤ n) : PB H (upd H' hd (.dK (putK (hm ls) (Sum.inr x) (.bl v)))) p c hd po l0 l1 l2 k (n + 1) where
  fr := b.fr.trans (Fr.put (by simp))
  D := b.D.keep (l := [hd]) (Fr.put (by simp)) (by have := b.hd.ne b.D; simp [this.1.symm]) (by have := b.hd.ne b.D; simp [this.2.symm])
  hd := by
    obtain ⟨ls', e, h2⟩ := hm_put ls x v
    exact ⟨ls', by rw [upd_same, e], by omega⟩
  pool := by rw [upd_ne (ne_of b.pool hls (fun e => nomatch e))]; exact b.pool
  t0 := txts_hd b.t0 hls _
  t1 := txts_hd b.t1 hls _
  w2 := wtx_hd b.w2 hls _
end
/-- a drawn row -/
def PRow (H : Hp) (v : V) : Prop := (∃ st, StmAt H v st ∧ kind st ≠ "ask") ∨ ∃ a t, v = .ref a ∧ H a = some (.tup [.str "ask", .ref t])
section
variable {P : Program} {w : World} {K : PySem.W.Frag} {mg : Str → Option Value} {base : Heap}
def spPlain : Sp := fun vs H Q _ => ∃ (H0 : Hp) (p c hd po l0 l1 l2 : Addr) (m n : Nat), vs = [.ref p, .ref po, .ref hd] ∧ PB H0 H p c hd po l0 l1 l2 m n ∧ m ≤ 80000 ∧ n ≤ 50 ∧ ∀ H' v, PB H0 H' p c hd po l0 l1 l2 (m + 20) (n + 1) → PRow H' v → Tups H H' → Q v H'

theorem c_plain (T : TxL P K mg w) : Cal P w K mg base 4 "_law_plain" p_law_plain spPlain := by
  refine calN T.d_law_plain T.g_law_plain sc_law_plain (fun _ _ _ _ _ _ us hl => match us, hl with | [_, _, _], _ => rfl) (fun vs H Q E h => ?_) (fun cdv A outer s H vs Q E hr h => ?_)
  · obtain ⟨H0, p, c, hd, po, l0, l1, l2, m, n, rfl, _⟩ := h
    rfl
  · obtain ⟨H0, p, c, hd, po, l0, l1, l2, m, n, rfl, B, hmm, hn, hQ⟩ := h
    obtain ⟨tC, hC, rC⟩ : ∃ t, PSs (cxOf (L2.CX P w) P w K mg base n_law_plain "_law_plain" (defScope s_law_plain) (He.ga K "_law_plain") cdv A outer s H E).nox ((defBody s_law_plain).drop 5) t ∧
        ∀ (lo : Addr) (way : Nat) (z f x y : Str) (H2 : Hp), PB H0 H2 p c hd po l0 l1 l2 (m + 10) n → Txts H2 lo → Tups H H2 → t { nx := fun _ H' => Q .non H', rt := Q } [some (.ref p), some (.ref po), some (.ref hd), some (.ref l0), some (.ref l1), some (.ref l2), some (.ref lo), some (.int (way : Nat)), some (.str z), some (.str f), some (.str x), some (.str y), none] H2 := by
      refine ⟨_, pss_cons (ps_if (pt_cmpR op_lt (pv 7) pe_int (nomark _)) (pss_one (ps_ret (pe_tup (pa_cons pe_str (pa_cons (pv 10) (pa_cons (pv 9) (pa_cons (pv 11) pa_nil))))))) pss_nil)
        (pss_cons (ps_if (pt_cmpR op_lt (pv 7) pe_int (nomark _)) (pss_one (ps_ret (pe_tup (pa_cons pe_str (pa_cons (pv 10) (pa_cons (pv 9) (pa_cons (pv 11) pa_nil))))))) pss_nil)
        (pss_cons (ps_if (pt_cmpR op_eq (pv 7) pe_int (nomark _))
          (pss_cons (ps_dput (hu_of hr) (pv 2) (pv 8) (pe_cmp (pc_eqI (pe_c (c_draw T) hr (by decide) (by rfl) passL (pa_cons (pv 0) (pa_cons pe_int pa_nil))) pe_int)) (by rfl))
            (pss_one (ps_ret (pe_tup (pa_cons pe_str (pa_cons (pv 8) (pa_cons (pv 10) (pa_cons (pv 9) pa_nil)))))))) pss_nil)
        (pss_cons (ps_if (pt_cmpR op_lt (pv 7) pe_int (nomark _))
          (pss_cons (ps_dput (hu_of hr) (pv 2) (pv 10) pe_bl (by rfl)) (pss_one (ps_ret (pe_tup (pa_cons pe_str (pa_cons (pv 10) pa_nil)))))) pss_nil)
        (pss_cons (ps_if (pt_cmpR op_eq (pv 7) pe_int (nomark _))
          (pss_cons (ps_dput (hu_of hr) (pv 2) (pv 8) pe_bl (by rfl)) (pss_one (ps_ret (pe_tup (pa_cons pe_str (pa_cons (pv 8) (pa_cons (pv 10) pa_nil))))))) pss_nil)
        (pss_cons (ps_if (pt_cmpR op_eq (pv 7) pe_int (nomark _)) (pss_one (ps_ret (pe_tup (pa_cons pe_str (pa_cons (pv 10) (pa_cons (pv 9) pa_nil)))))) pss_nil)
        (pss_cons (ps_if (pt_cmpR op_eq (pv 7) pe_int (nomark _)) (pss_one (ps_ret (pe_tup (pa_cons pe_str (pa_cons (pv 10) (pa_cons (pe_c (c_one T) hr (by decide) (by rfl) passL (pa_cons (pv 0) (pa_cons (pv 5) pa_nil))) pa_nil)))))) pss_nil)
        (pss_cons (ps_if (pt_cmpR op_eq (pv 7) pe_int (nomark _)) (pss_one (ps_ret (pe_ifExp (pt_cmpR op_eq (pe_c (c_draw T) hr (by decide) (by rfl) passL (pa_cons (pv 0) (pa_cons pe_int pa_nil))) pe_int (nomark _))
            (pe_tup (pa_cons pe_str (pa_cons (pv 10) pa_nil))) (pe_tup (pa_cons pe_str (pa_cons (pe_c (c_one T) hr (by decide) (by rfl) passL (pa_cons (pv 0) (pa_cons (pv 5) pa_nil))) pa_nil)))))) pss_nil)
        (pss_one (ps_ret (pe_tup (pa_cons pe_str (pa_cons (pe_c (c_test T) hr (by decide) (by rfl) passL (pa_cons (pv 0) (pa_cons (pv 1) (pa_cons (pv 6) pa_nil)))) pa_nil)))))))))))), ?_⟩
      intro lo way z f x y H2 B2 hlo ht2
      have dI : ∀ a b : Int, decide (V.int a = V.int b) = decide (a = b) := fun a b => decide_eq_decide.mpr ⟨fun e => V.int.inj e, fun e => by rw [e]⟩
      have fin : ∀ (H3 : Hp) (st : PStm), kind st ≠ "ask" → PB H0 H3 p c hd po l0 l1 l2 (m + 20) (n + 1) → Tups H H3 → (∀ b, Inner H3 b st) → ∀ t, H3 t = none → Q (.ref t) (upd H3 t (.tup (.str (kind st) :: args 0 st))) := fun H3 st hk B3 t3 hi t ht => by
        have s4 := Same.upd (o := .tup (.str (kind st) :: args 0 st)) ht
        exact hQ _ _ (B3.mono s4) (.inl ⟨st, ⟨t, 0, rfl, upd_same, by have := hi 0; cases st <;> first | trivial | exact s4 _ _ this | exact this⟩, hk⟩) fun b xs e => s4 _ _ (t3 b xs e)
      have putT : ∀ (H3 : Hp) (x : Str) (v : Bool) (ls : List (Str × Bool)), H3 hd = some (.dK (hm ls)) → Tups H H3 → Tups H (upd H3 hd (.dK (putK (hm ls) (Sum.inr x) (.bl v)))) := fun H3 x v ls e t3 b xs q => by
        rw [upd_ne (ne_of (t3 b xs q) e (fun e => nomatch e))]
        exact t3 b xs q
      have szl : ∀ ls : List (Str × Bool), ls.length ≤ n → (hm ls).length < sizeLine := fun ls q => by
        unfold hm
        rw [List.length_map]
        exact le_line (by omega)
      by_cases h7 : way < 7
      · refine ⟨_, rfl, _, _, rfl, rfl, true, congrArg V.bl (decide_eq_true (by omega)), iteT ?_⟩
        refine ⟨_, rfl, _, rfl, _, rfl, by show 4 ≤ sizeLine; decide, fun t ht => ?_⟩
        exact fin H2 (.weak x f y) (by show ("weak" : Str) ≠ "ask"; decide) ((B2.up (by omega)).upn (by omega)) ht2 (fun _ => trivial) t ht
      refine ⟨_, rfl, _, _, rfl, rfl, false, congrArg V.bl (decide_eq_false (by omega)), iteF ?_⟩
      by_cases h10 : way < 10
      · refine ⟨_, rfl, _, _, rfl, rfl, true, congrArg V.bl (decide_eq_true (by omega)), iteT ?_⟩
        refine ⟨_, rfl, _, rfl, _, rfl, by show 4 ≤ sizeLine; decide, fun t ht => ?_⟩
        exact fin H2 (.hold x f y) (by show ("hold" : Str) ≠ "ask"; decide) ((B2.up (by omega)).upn (by omega)) ht2 (fun _ => trivial) t ht
      refine ⟨_, rfl, _, _, rfl, rfl, false, congrArg V.bl (decide_eq_false (by omega)), iteF ?_⟩
      by_cases e10 : way = 10
      · refine ⟨_, rfl, rfl, true, congrArg V.bl ((dI _ _).trans (decide_eq_true (by omega))), iteT ?_⟩
        refine ⟨_, rfl, p, c, _, 2, rfl, B2.D, by omega, by decide, by decide, fun H3 r f3 D3 hr3 => ?_⟩
        have B3 := B2.draw f3 D3
        have t3 : Tups H H3 := fun b xs e => by
          have e2 := ht2 b xs e
          obtain ⟨kd, _, hp⟩ := B2.D.deck
          obtain ⟨xc, hc, _⟩ := B2.D.cells
          exact f3 _ _ e2 (by simp [ne_of e2 hp (fun e => nomatch e), ne_of e2 hc (fun e => nomatch e)])
        obtain ⟨ls, h1, hl⟩ := id B3.hd
        refine ⟨_, _, rfl, rfl, _, rfl, _, rfl, hd, _, rfl, DPut.k (k := Sum.inr z) h1 (szl ls hl), ?_⟩
        refine ⟨_, rfl, _, rfl, _, rfl, by show 4 ≤ sizeLine; decide, fun t ht => ?_⟩
        exact fin _ (.take z x f) (by show ("take" : Str) ≠ "ask"; decide) ((B3.put z _ h1 hl).up (by omega)) (putT _ z _ ls h1 t3) (fun _ => trivial) t ht
      refine ⟨_, rfl, rfl, false, congrArg V.bl ((dI _ _).trans (decide_eq_false (by omega))), iteF ?_⟩
      obtain ⟨ls, h1, hl⟩ := id B2.hd
      by_cases h14 : way < 14
      · refine ⟨_, rfl, _, _, rfl, rfl, true, congrArg V.bl (decide_eq_true (by omega)), iteT ?_⟩
        refine ⟨_, rfl, _, rfl, hd, _, rfl, DPut.k (k := Sum.inr x) h1 (szl ls hl), ?_⟩
        refine ⟨_, rfl, by show 2 ≤ sizeLine; decide, fun t ht => ?_⟩
        exact fin _ (.drop x) (by show ("drop" : Str) ≠ "ask"; decide) ((B2.put x false h1 hl).up (by omega)) (putT _ x false ls h1 ht2) (fun _ => trivial) t ht
      refine ⟨_, rfl, _, _, rfl, rfl, false, congrArg V.bl (decide_eq_false (by omega)), iteF ?_⟩
      by_cases e14 : way = 14
      · refine ⟨_, rfl, rfl, true, congrArg V.bl ((dI _ _).trans (decide_eq_true (by omega))), iteT ?_⟩
        refine ⟨_, rfl, _, rfl, hd, _, rfl, DPut.k (k := Sum.inr z) h1 (szl ls hl), ?_⟩
        refine ⟨_, rfl, _, rfl, by show 3 ≤ sizeLine; decide, fun t ht => ?_⟩
        exact fin _ (.name z x) (by show ("name" : Str) ≠ "ask"; decide) ((B2.put z true h1 hl).up (by omega)) (putT _ z true ls h1 ht2) (fun _ => trivial) t ht
      refine ⟨_, rfl, rfl, false, congrArg V.bl ((dI _ _).trans (decide_eq_false (by omega))), iteF ?_⟩
      by_cases e15 : way = 15
      · refine ⟨_, rfl, rfl, true, congrArg V.bl ((dI _ _).trans (decide_eq_true (by omega))), iteT ?_⟩
        refine ⟨_, rfl, _, rfl, by show 3 ≤ sizeLine; decide, fun t ht => ?_⟩
        exact fin H2 (.cut x f) (by show ("cut" : Str) ≠ "ask"; decide) ((B2.up (by omega)).upn (by omega)) ht2 (fun _ => trivial) t ht
      refine ⟨_, rfl, rfl, false, congrArg V.bl ((dI _ _).trans (decide_eq_false (by omega))), iteF ?_⟩
      have drawT : ∀ (k k' : Nat) (H3 H4 : Hp), Dk H3 p c k → Fr [p, c] H3 H4 → Tups H H3 → Tups H H4 := fun k k' H3 H4 D f3 t3 b xs e => by
        have e2 := t3 b xs e
        obtain ⟨kd, _, hp⟩ := D.deck
        obtain ⟨xc, hc, _⟩ := D.cells
        exact f3 _ _ e2 (by simp [ne_of e2 hp (fun e => nomatch e), ne_of e2 hc (fun e => nomatch e)])
      by_cases e16 : way = 16
      · refine ⟨_, rfl, rfl, true, congrArg V.bl ((dI _ _).trans (decide_eq_true (by omega))), iteT ?_⟩
        refine ⟨_, rfl, _, rfl, _, rfl, p, c, _, _, IsStr, rfl, B2.D, by omega, B2.t2.items B2.D, fun H3 v f3 D3 hv => ?_⟩
        obtain ⟨u, rfl⟩ := hv
        refine ⟨by show 3 ≤ sizeLine; decide, fun t ht => ?_⟩
        exact fin _ (.wish x u) (by show ("wish" : Str) ≠ "ask"; decide) (((B2.draw f3 D3).up (by omega)).upn (by omega)) (drawT _ 0 _ _ B2.D f3 ht2) (fun _ => trivial) t ht
      refine ⟨_, rfl, rfl, false, congrArg V.bl ((dI _ _).trans (decide_eq_false (by omega))), iteF ?_⟩
      by_cases e17 : way = 17
      · refine ⟨_, rfl, rfl, true, congrArg V.bl ((dI _ _).trans (decide_eq_true (by omega))), iteT ?_⟩
        refine ⟨_, rfl, p, c, _, 4, rfl, B2.D, by omega, by decide, by decide, fun H3 r f3 D3 hr3 => ?_⟩
        have t3 := drawT _ 0 _ _ B2.D f3 ht2
        have B3 := B2.draw f3 D3
        by_cases r0 : r = 0
        · refine ⟨rfl, true, congrArg V.bl ((dI _ _).trans (decide_eq_true (by omega))), iteT ?_⟩
          refine ⟨_, rfl, by show 2 ≤ sizeLine; decide, fun t ht => ?_⟩
          exact fin _ (.keep x) (by show ("keep" : Str) ≠ "ask"; decide) ((B3.up (by omega)).upn (by omega)) t3 (fun _ => trivial) t ht
        · refine ⟨rfl, false, congrArg V.bl ((dI _ _).trans (decide_eq_false (by omega))), iteF ?_⟩
          refine ⟨_, rfl, _, rfl, p, c, _, _, (fun v => ∃ s, v = .str s ∧ OkW s), rfl, B3.D, by omega, B3.w2.items B3.D, fun H4 v f4 D4 hv => ?_⟩
          obtain ⟨u, rfl, hu⟩ := hv
          refine ⟨by show 2 ≤ sizeLine; decide, fun t ht => ?_⟩
          exact fin _ (.say u) (by show ("say" : Str) ≠ "ask"; decide) (((B3.draw f4 D4).up (by omega)).upn (by omega)) (drawT _ 0 _ _ B3.D f4 t3) (fun _ => hu) t ht
      refine ⟨_, rfl, rfl, false, congrArg V.bl ((dI _ _).trans (decide_eq_false (by omega))), iteF ?_⟩
      refine ⟨_, rfl, _, rfl, _, rfl, p, c, po, lo, _, rfl, B2.D, by omega, B2.po_at, hlo, fun H3 a f3 D3 => ?_⟩
      refine ⟨by show 2 ≤ sizeLine; decide, fun t ht => ?_⟩
      have s4 := Same.upd (o := .tup [.str "ask", .ref a]) ht
      exact hQ _ _ (((B2.draw f3 D3).mono s4).up (by omega) |>.upn (by omega)) (.inr ⟨t, a, rfl, upd_same⟩) fun b xs e => s4 _ _ (drawT _ 0 _ _ B2.D f3 ht2 b xs e)
    have dI : ∀ a b : Int, decide (V.int a = V.int b) = decide (a = b) := fun a b => decide_eq_decide.mpr ⟨fun e => V.int.inj e, fun e => by rw [e]⟩
    refine ⟨_, pss_cons (ps_asg (pe_slice sl_list (pv 1) po_none (po_some pe_int)) (pg_unl (by rfl) (pgs_cons (pg_name (i := 3) sc_law_plain.nd rfl (Or.inl rfl)) (pgs_cons (pg_name (i := 4) sc_law_plain.nd rfl (Or.inl rfl)) (pgs_cons (pg_name (i := 5) sc_law_plain.nd rfl (Or.inl rfl)) pgs_nil)))))
      (pss_cons (ps_setLc (i := 6) (own := [("_law_name", 12)]) (g := gName 12) (tt := tB (tDGet (tVar 2) (tVar 12))) (te := tVar 12) (by rfl) sc_law_plain.nd rfl rfl (sw_true rfl rfl rfl (by decide +kernel))
        (pi_list (pe_callB (call_sortedD (by rfl)) (by rfl) T.b_sorted (by decide +kernel) (pa_cons (pv 2) pa_nil))) (blkOk_by (N := n_law_plain) (sc := defScope s_law_plain) (by decide +kernel))
        (fun _ _ _ _ _ => pg_name (i := 12) sc_law_plain.nd rfl (Or.inl rfl) (hf := Or.inr rfl))
        (fun _ _ _ _ _ => pts_one (pt_val (pe_dget (hu_of hr) (pv 2) (pv 12) (fun _ _ => rfl)))) (fun _ _ _ _ _ => pv 12))
      (pss_cons (ps_par3 (i := 7) (j := 8) (l := 9) (by rfl) sc_law_plain.nd rfl rfl rfl (by decide) (by decide) (by decide) rfl rfl rfl
        (pa_cons (pe_c (c_draw T) hr (by decide) (by rfl) passL (pa_cons (pv 0) (pa_cons pe_int pa_nil))) (pa_cons (pe_c (c_one T) hr (by decide) (by rfl) passL (pa_cons (pv 0) (pa_cons (pv 3) pa_nil))) (pa_cons (pe_c (c_one T) hr (by decide) (by rfl) passL (pa_cons (pv 0) (pa_cons (pv 4) pa_nil))) pa_nil))) (by rfl))
      (pss_cons (ps_if (pw_or (pt_cmpR op_lt (pv 7) pe_int (nomark _)) (pw_or1 (pt_cmpR (op_eqNilV hr.units) (pv 6) (pe_lst pa_nil) (nomark _)))).pt
        (pss_cons (ps_dput (hu_of hr) (pv 2) (pv 8) pe_bl (by rfl)) (pss_one (ps_ret (pe_tup (pa_cons pe_str (pa_cons (pv 8) pa_nil)))))) pss_nil)
      (pss_cons (ps_par (i := 10) (j := 11) (by rfl) sc_law_plain.nd rfl rfl (by decide) rfl rfl
        (pa_cons (pe_c (c_one T) hr (by decide) (by rfl) passL (pa_cons (pv 0) (pa_cons (pv 6) pa_nil)))
        (pa_cons (pe_c (c_one T) hr (by decide) (by rfl) passL (pa_cons (pv 0) (pa_cons (pe_ifExp (pt_cmpR op_gt (pe_c (c_draw T) hr (by decide) (by rfl) passL (pa_cons (pv 0) (pa_cons pe_int pa_nil))) pe_int (nomark _)) (pv 6) (pv 3)) pa_nil))) pa_nil)) (by rfl)) hC)))), ?_⟩
    refine ⟨_, rfl, _, rfl, _, _, rfl, SqL.of B.pool, fun q hq => ?_⟩
    have s1 := Same.upd (o := .lst (cutV [.ref l0, .ref l1, .ref l2, .int 0] none (some 3))) hq
    refine ⟨q, [.ref l0, .ref l1, .ref l2], rfl, SqL.of upd_same, rfl, _, _, rfl, _, _, rfl, _, _, rfl, rfl, ?_⟩
    have B1 := B.mono s1
    generalize upd H q (.lst (cutV [.ref l0, .ref l1, .ref l2, .int 0] none (some 3))) = H1 at s1 B1 ⊢
    obtain ⟨ls, h1, hl⟩ := id B1.hd
    refine ⟨_, rfl, hd, hm ls, ls.map (·.1), rfl, Rd.of h1, by unfold hm; rw [List.map_map, List.map_map]; rfl, by rw [List.length_map]; omega, fun ys q2 hperm _ hq2 => ?_⟩
    have hyl : ys.length ≤ 50 := by rw [hperm.length_eq, List.length_map]; omega
    refine ⟨q2, rfl, ⟨_, SqL.of upd_same⟩, fun D hD => ?_⟩
    have s2 := Same.upd (o := .lst (ys.map V.str)) hq2
    refine lc_list (K := K) (a := q2) (xs := ys.map V.str) (fun i H2 => Same (upd H1 q2 (.lst (ys.map V.str))) H2 ∧ ∃ os : List Str, H2 D = some (.lst (os.map V.str)) ∧ os.length ≤ i)
      ⟨Same.upd hD, [], upd_same, Nat.le_refl _⟩ (fun i H2 _ ⟨k2, _⟩ => SqL.of (k2 _ _ upd_same)) ?_ ?_
    · rintro i x H2 hi ⟨k2, os, hD2, hol⟩
      obtain ⟨z, hz, rfl⟩ : ∃ z, ys[i]? = some z ∧ V.str z = x := by
        rw [List.getElem?_map] at hi
        cases q : ys[i]? with
        | none => rw [q] at hi; cases hi
        | some e => rw [q] at hi; exact ⟨e, rfl, Option.some.inj hi⟩
      obtain ⟨b, hb⟩ := hm_get ls z (hperm.mem_iff.mp (List.mem_of_getElem? hz))
      have hil : i < ys.length := (List.getElem?_eq_some_iff.mp hz).1
      refine ⟨rfl, _, rfl, _, rfl, hd, .bl b, rfl, ?_, b, rfl, ?_⟩
      · rw [← hb]
        exact DGet.k (k := Sum.inr z) (k2 _ _ (s2 _ _ h1))
      · cases b with
        | false => exact iteF ⟨k2, os, hD2, by omega⟩
        | true =>
          refine iteT ⟨_, rfl, _, hD2, ?_, k2.over hD, os ++ [z], ?_, by rw [List.length_append]; exact Nat.succ_le_succ hol⟩
          · rw [List.length_map]
            exact le_line (by omega)
          · rw [upd_same, List.map_append]
            rfl
    rintro H2 ⟨k2, os, hD2, hol⟩
    rw [List.length_map] at hol
    have B2 := (B1.mono s2).mono k2
    have t2 : Tups H H2 := fun b xs e => k2 _ _ (s2 _ _ (s1 _ _ e))
    have drawT : ∀ (k : Nat) (H3 H4 : Hp), Dk H3 p c k → Fr [p, c] H3 H4 → Tups H H3 → Tups H H4 := fun k H3 H4 D f3 t3 b xs e => by
      have e2 := t3 b xs e
      obtain ⟨kd, _, hp⟩ := D.deck
      obtain ⟨xc, hc, _⟩ := D.cells
      exact f3 _ _ e2 (by simp [ne_of e2 hp (fun e => nomatch e), ne_of e2 hc (fun e => nomatch e)])
    refine ⟨_, rfl, p, c, m, 20, rfl, B2.D, by omega, by decide, by decide, fun H3 way f3 D3 hw => ?_⟩
    have B3 := B2.draw f3 D3
    have t3 := drawT _ _ _ B2.D f3 t2
    refine ⟨_, rfl, _, rfl, p, c, _, _, IsStr, rfl, B3.D, by omega, B3.t0.items B3.D, fun H4 z f4 D4 hz => ?_⟩
    obtain ⟨z, rfl⟩ := hz
    have B4 := B3.draw f4 D4
    have t4 := drawT _ _ _ B3.D f4 t3
    refine ⟨_, rfl, _, rfl, p, c, _, _, IsStr, rfl, B4.D, by omega, B4.t1.items B4.D, fun H5 f f5 D5 hf => ?_⟩
    obtain ⟨f, rfl⟩ := hf
    have B5 := B4.draw f5 D5
    have t5 := drawT _ _ _ B4.D f5 t4
    refine ⟨_, _, _, rfl, ?_⟩
    have hD5 : H5 D = some (.lst (os.map V.str)) := by
      have n1 : D ≠ p := by
        obtain ⟨_, _, q⟩ := (B1.mono s2).D.deck
        exact (ne_of_none q hD).symm
      have n2 : D ≠ c := by
        obtain ⟨_, q, _⟩ := (B1.mono s2).D.cells
        exact (ne_of_none q hD).symm
      exact f5 _ _ (f4 _ _ (f3 _ _ hD2 (by simp [n1, n2])) (by simp [n1, n2])) (by simp [n1, n2])
    clear hD2
    have putT : ∀ (H3 : Hp) (x : Str) (v : Bool) (ls : List (Str × Bool)), H3 hd = some (.dK (hm ls)) → Tups H H3 → Tups H (upd H3 hd (.dK (putK (hm ls) (Sum.inr x) (.bl v)))) := fun H3 x v ls e t3 b xs q => by
      rw [upd_ne (ne_of (t3 b xs q) e (fun e => nomatch e))]
      exact t3 b xs q
    by_cases h4 : way < 4
    · refine ⟨_, rfl, _, _, rfl, rfl, true, congrArg V.bl (decide_eq_true (by omega)), iteT (iteT ?_)⟩
      obtain ⟨ls', g1, gl⟩ := id B5.hd
      refine ⟨_, rfl, _, rfl, hd, _, rfl, DPut.k (k := Sum.inr z) g1 (by unfold hm; rw [List.length_map]; exact le_line (by omega)), ?_⟩
      refine ⟨_, rfl, by show 2 ≤ sizeLine; decide, fun t ht => ?_⟩
      have s9 := Same.upd (o := .tup [.str "make", .str z]) ht
      exact hQ _ _ ((((B5.put z true g1 gl).up (by omega)).mono s9)) (.inl ⟨.make z, ⟨t, 0, rfl, upd_same, trivial⟩, by show ("make" : Str) ≠ "ask"; decide⟩) fun b xs e => s9 _ _ (putT _ z true ls' g1 t5 b xs e)

    refine ⟨_, rfl, _, _, rfl, rfl, false, congrArg V.bl (decide_eq_false (by omega)), iteF ?_⟩
    refine ⟨_, rfl, by show 0 ≤ sizeLine; decide, fun e he => ?_⟩
    have s6 := Same.upd (o := .lst []) he
    have B6 := B5.mono s6
    have t6 : Tups H (upd H5 e (.lst [])) := fun b xs q => s6 _ _ (t5 b xs q)
    refine ⟨D, e, os.map V.str, rfl, rfl, SqL.of (s6 _ _ hD5), SqL.of upd_same, _, rfl, ?_⟩
    have hD6 := s6 _ _ hD5
    generalize upd H5 e (.lst []) = H6 at s6 B6 t6 hD6 ⊢
    by_cases hos : os = []
    · subst hos
      refine iteT ?_
      obtain ⟨ls', g1, gl⟩ := id B6.hd
      refine ⟨_, rfl, _, rfl, hd, _, rfl, DPut.k (k := Sum.inr z) g1 (by unfold hm; rw [List.length_map]; exact le_line (by omega)), ?_⟩
      refine ⟨_, rfl, by show 2 ≤ sizeLine; decide, fun t ht => ?_⟩
      have s9 := Same.upd (o := .tup [.str "make", .str z]) ht
      exact hQ _ _ ((((B6.put z true g1 gl).up (by omega)).mono s9)) (.inl ⟨.make z, ⟨t, 0, rfl, upd_same, trivial⟩, by show ("make" : Str) ≠ "ask"; decide⟩) fun b xs e => s9 _ _ (putT _ z true ls' g1 t6 b xs e)

    have hlo : Txts H6 D := ⟨os, hD6, hos, by omega⟩
    obtain ⟨o0, or, rfl⟩ : ∃ a r, os = a :: r := List.exists_cons_of_ne_nil hos
    refine iteF ?_
    refine ⟨_, rfl, _, rfl, p, c, _, _, IsStr, rfl, B6.D, by omega, hlo.items B6.D, fun H7 x f7 D7 hx => ?_⟩
    obtain ⟨x, rfl⟩ := hx
    have B7 := B6.draw f7 D7
    have t7 := drawT _ _ _ B6.D f7 t6
    have hlo7 := hlo.keep B6.D f7
    refine ⟨_, rfl, _, rfl, p, c, _, 9, rfl, B7.D, by omega, by decide, by decide, fun H8 r f8 D8 hr8 => ?_⟩
    have B8 := B7.draw f8 D8
    have t8 := drawT _ _ _ B7.D f8 t7
    have hlo8 := hlo7.keep B7.D f8
    by_cases r0 : 0 < r
    · refine ⟨_, _, rfl, rfl, true, congrArg V.bl (decide_eq_true (by omega)), iteT ?_⟩
      refine ⟨_, rfl, p, c, _, _, IsStr, rfl, B8.D, by omega, hlo8.items B8.D, fun H9 y f9 D9 hy => ?_⟩
      obtain ⟨y, rfl⟩ := hy
      exact ⟨_, _, rfl, rC D way z f x y H9 ((B8.draw f9 D9).up (by omega)) (hlo8.keep B8.D f9) (drawT _ _ _ B8.D f9 t8)⟩
    · refine ⟨_, _, rfl, rfl, false, congrArg V.bl (decide_eq_false (by omega)), iteF ?_⟩
      refine ⟨_, rfl, p, c, _, _, IsStr, rfl, B8.D, by omega, B8.t0.items B8.D, fun H9 y f9 D9 hy => ?_⟩
      obtain ⟨y, rfl⟩ := hy
      exact ⟨_, _, rfl, rC D way z f x y H9 ((B8.draw f9 D9).up (by omega)) (hlo8.keep B8.D f9) (drawT _ _ _ B8.D f9 t8)⟩
end
end K82W
end K82Plain_part
section K82Puz_part
set_option Elab.async false
set_option linter.all false
set_option maxRecDepth 100000
set_option maxHeartbeats 4000000
namespace K82W
open PySem PySem.Spec PyProof.Rows L2
theorem StmAt.tups {H H' : Hp} {v : V} {st : PStm} (s : Tups H H') (h : StmAt H v st) : StmAt H' v st := by
  obtain ⟨a, b, e, h1, h2⟩ := h
  refine ⟨a, b, e, s _ _ h1, ?_⟩
  cases st <;> first | trivial | exact s _ _ h2 | exact h2
theorem Dk.tups {H H' : Hp} {p c : Addr} {k : Nat} (D : Dk H p c k) (f : Fr [p, c] H H') : Tups H H' := fun b xs e => by
  obtain ⟨kd, _, hp⟩ := D.deck
  obtain ⟨xc, hc, _⟩ := D.cells
  exact f _ _ e (by simp [ne_of e hp (fun e => nomatch e), ne_of e hc (fun e => nomatch e)])
/-- all that stands while a puzzle's rows are drawn -/
structure PZ (H0 H : Hp) (p c hd po l0 l1 lw ln lr : Addr) (k n : Nat) (ns ws : List Str) (xs : List V) (B : List PStm) : Prop where
  fr : Fr [p, c, hd, lr] H0 H
  b : PB H H p c hd po l0 l1 lw k n
  nm : H ln = some (.lst (ns.map V.str))
  wd : H lw = some (.lst (ws.map V.str))
  rw : H lr = some (.lst xs)
  pr : Paired (StmAt H) xs B
  o1 : ln ∉ [p, c, hd, lr]
  o2 : lr ∉ [p, c, hd, po, l0, l1, lw]
  o3 : lw ∉ [p, c, hd]
section
variable {H0 H H2 : Hp} {p c hd po l0 l1 lw ln lr : Addr} {k k' n : Nat} {ns ws : List Str} {xs : List V} {B : List PStm}
theorem PZ.frame (z : PZ H0 H p c hd po l0 l1 lw ln lr k n ns ws xs B) (b : PB H H2 p c hd po l0 l1 lw k' n) (t : Tups H H2) : PZ H0 H2 p c hd po l0 l1 lw ln lr k' n ns ws xs B where
  fr := z.fr.trans (b.fr.sub (by simp))
  b := { b with fr := Fr.refl _ _ }
  nm := b.fr _ _ z.nm (by have := z.o1; simp at this ⊢; simp [this])
  wd := b.fr _ _ z.wd z.o3
  rw := b.fr _ _ z.rw (by have := z.o2; simp at this ⊢; simp [this])
  pr := pmono z.pr fun _ _ q => q.tups t
  o1 := z.o1
  o2 := z.o2
  o3 := z.o3
theorem PZ.upn (z : PZ H0 H p c hd po l0 l1 lw ln lr k n ns ws xs B) {n' : Nat} (h : n ≤ n') : PZ H0 H p c hd po l0 l1 lw ln lr k n' ns ws xs B := { z with b := z.b.upn h }
theorem PZ.up (z : PZ H0 H p c hd po l0 l1 lw ln lr k n ns ws xs B) (h : k ≤ k') : PZ H0 H p c hd po l0 l1 lw ln lr k' n ns ws xs B := { z with b := z.b.up h }
theorem PZ.draw (z : PZ H0 H p c hd po l0 l1 lw ln lr k n ns ws xs B) (f : Fr [p, c] H H2) (D : Dk H2 p c k') : PZ H0 H2 p c hd po l0 l1 lw ln lr k' n ns ws xs B :=
  z.frame (z.b.draw f D) (z.b.D.tups f)
theorem PZ.mono (z : PZ H0 H p c hd po l0 l1 lw ln lr k n ns ws xs B) (s : Same H H2) : PZ H0 H2 p c hd po l0 l1 lw ln lr k n ns ws xs B :=
  z.frame (z.b.mono s) s.tups
theorem PZ.app (z : PZ H0 H p c hd po l0 l1 lw ln lr k n ns ws xs B) {v : V} {st : PStm} (h : StmAt H v st) : PZ H0 (upd H lr (.lst (xs ++ [v]))) p c hd po l0 l1 lw ln lr k n ns ws (xs ++ [v]) (B ++ [st]) := by
  have t : Tups H (upd H lr (.lst (xs ++ [v]))) := tups_put z.rw (fun xs e => nomatch e)
  have o2 := z.o2
  have o1 := z.o1
  simp only [List.mem_cons, List.not_mem_nil, or_false, not_or] at o1 o2
  obtain ⟨e1, e2, e3, e4, e5, e6, e7⟩ := o2
  have kk : ∀ {a : Addr} {o : HO}, lr ≠ a → H a = some o → upd H lr (.lst (xs ++ [v])) a = some o := fun n e => by rw [upd_ne n.symm]; exact e
  have tx : ∀ {a : Addr}, lr ≠ a → Txts H a → Txts (upd H lr (.lst (xs ++ [v]))) a := fun n h => by
    obtain ⟨ns, h1, h2⟩ := h
    exact ⟨ns, kk n h1, h2⟩
  have wx : ∀ {a : Addr}, lr ≠ a → WTx H a → WTx (upd H lr (.lst (xs ++ [v]))) a := fun n h => by
    obtain ⟨ns, h1, h2⟩ := h
    exact ⟨ns, kk n h1, h2⟩
  exact {
    fr := z.fr.trans (Fr.put (by simp))
    b := {
      fr := Fr.refl _ _
      D := z.b.D.keep (l := [lr]) (Fr.put (by simp)) (by simpa using Ne.symm e1) (by simpa using Ne.symm e2)
      hd := by
        obtain ⟨ls, h1, h2⟩ := z.b.hd
        exact ⟨ls, kk e3 h1, h2⟩
      pool := kk e4 z.b.pool
      t0 := tx e5 z.b.t0
      t1 := tx e6 z.b.t1
      w2 := wx e7 z.b.w2 }
    nm := kk (Ne.symm o1.2.2.2) z.nm
    wd := kk e7 z.wd
    rw := upd_same
    pr := papp (pmono z.pr fun _ _ q => q.tups t) (.cons (h.tups t) .nil)
    o1 := z.o1
    o2 := z.o2
    o3 := z.o3 }
end

theorem inV_reads (st : PStm) : inV (.str (kind st)) [.str "take", .str "ask"] = decide (K82.reads st = 1) := by
  cases st <;> rfl
theorem reads_le (st : PStm) : K82.reads st ≤ 1 := by
  cases st <;> first | exact Nat.le_refl 1 | exact Nat.zero_le 1
theorem wish_kind (st : PStm) : decide ((V.str (kind st)) = V.str "wish") = isWish st := by
  cases st <;> rfl
def bodyOf : List Stmt → List Stmt
  | .For _ _ b _ _ :: _ => b
  | _ => []
def thenOf : List Stmt → List Stmt
  | .If _ b _ _ :: _ => b
  | _ => []
theorem cut_mid (ns : List Str) (i j : Nat) (h : i ≤ j) (hj : j ≤ ns.length) : cutV (ns.map V.str) (some (i : Int)) (some (j : Int)) = ((ns.drop i).take (j - i)).map V.str := by
  unfold cutV
  rw [HT.sIx_nat, HT.sIx_nat, List.length_map, List.map_take, List.map_drop, Nat.min_eq_left hj, Nat.min_eq_left (Nat.le_trans h hj)]
theorem cut_from (ns : List Str) (i : Nat) (hi : i ≤ ns.length) : cutV (ns.map V.str) (some (i : Int)) none = (ns.drop i).map V.str := by
  unfold cutV
  rw [HT.sIx_nat, List.length_map, List.map_drop, Nat.min_eq_left hi, show HT.sIx ns.length ns.length none = ns.length from rfl, ← List.map_drop, List.take_of_length_le (by rw [List.length_map, List.length_drop]; exact Nat.le_refl _)]
theorem cut_to (ns : List Str) (j : Nat) (hj : j ≤ ns.length) : cutV (ns.map V.str) none (some (j : Int)) = (ns.take j).map V.str := by
  unfold cutV
  rw [HT.sIx_nat, List.length_map, show HT.sIx ns.length 0 none = 0 from rfl, List.drop_zero, Nat.sub_zero, List.map_take, Nat.min_eq_left hj]
theorem merge_hm : ∀ (l : List Str) (acc : List (Str × Bool)), ∃ ls, mergeK (hm acc) (l.map fun z => ((Sum.inr z : Key), V.bl true)) = hm ls ∧ ls.length ≤ acc.length + l.length
  | [], acc => ⟨acc, rfl, Nat.le_refl _⟩
  | z :: r, acc => by
    obtain ⟨a2, e, h⟩ := hm_put acc z true
    obtain ⟨ls, e2, h2⟩ := merge_hm r a2
    refine ⟨ls, ?_, by rw [List.length_cons]; omega⟩
    rw [← e2, ← e]
    rfl
theorem pmapr {α β γ : Type} {F : α → γ → Prop} {f : β → γ} : ∀ {l : List α} {m : List β}, Paired (fun a b => F a (f b)) l m → Paired F l (m.map f)
  | _, _, .nil => .nil
  | _, _, .cons r t => .cons r (pmapr t)
theorem pmapl {α β γ : Type} {F : γ → β → Prop} {f : α → γ} : ∀ {l : List α} {m : List β}, Paired (fun a b => F (f a) b) l m → Paired F (l.map f) m
  | _, _, .nil => .nil
  | _, _, .cons r t => .cons r (pmapl t)
theorem prep {α β : Type} {F : α → β → Prop} {a : α} {b : β} (h : F a b) : ∀ r, Paired F (List.replicate r a) (List.replicate r b)
  | 0 => .nil
  | r + 1 => .cons h (prep h r)
theorem flat_one {α : Type} (a : α) : ∀ r, (List.replicate r [a]).flatten = List.replicate r a
  | 0 => rfl
  | r + 1 => by
    rw [List.replicate_succ, List.flatten_cons, flat_one a r, List.replicate_succ]
    rfl
theorem paired_len {α β : Type} {F : α → β → Prop} : ∀ {l : List α} {m : List β}, Paired F l m → l.length = m.length
  | _, _, .nil => rfl
  | _, _, .cons _ t => congrArg (· + 1) (paired_len t)
theorem reads_snoc (B : List PStm) (st : PStm) : K82.readsOf (B ++ [st]) = K82.readsOf B + K82.reads st := by
  unfold K82.readsOf
  rw [List.map_append, List.sum_append]
  rfl
theorem wish_snoc (B : List PStm) (st : PStm) : wishesOf (B ++ [st]) = wishesOf B + (if isWish st = true then 1 else 0) := by
  unfold wishesOf
  rw [List.filter_append, List.length_append]
  cases h : isWish st <;> simp [h]
theorem reads_make (zs : List Str) (a b : Str) (r : Nat) : K82.readsOf (zs.map K82.Stm.make ++ List.replicate r (K82.Stm.wish a b)) = 0 := by
  unfold K82.readsOf
  rw [List.map_append, List.sum_append, List.map_replicate, List.map_map]
  have h1 : (zs.map (K82.reads ∘ K82.Stm.make)).sum = 0 := by
    induction zs with
    | nil => rfl
    | cons z r ih => rw [List.map_cons, List.sum_cons, ih]; rfl
  rw [h1]
  induction r with
  | zero => rfl
  | succ n ih =>
    rw [List.replicate_succ, List.sum_cons]
    rw [Nat.zero_add] at ih ⊢
    rw [ih]
    rfl
theorem wish_make (zs : List Str) (a b : Str) (r : Nat) : wishesOf (zs.map K82.Stm.make ++ List.replicate r (K82.Stm.wish a b)) = r := by
  unfold wishesOf
  rw [List.filter_append, List.length_append]
  have h1 : ((zs.map K82.Stm.make).filter isWish) = [] := by
    rw [List.filter_eq_nil_iff]
    intro s hs
    obtain ⟨z, _, e⟩ := List.mem_map.mp hs
    rw [← e]
    exact fun h => nomatch h
  rw [h1, List.filter_replicate]
  show 0 + (List.replicate r _).length = r
  rw [List.length_replicate, Nat.zero_add]
/-- [a tuple of the name for name in names] -/
theorem lc_tups {K : PySem.W.Frag} {q D : Addr} {zs : List Str} {f : Str → List V} {H1 : Hp} {te : TE} {vs : List Nat} {σ : L2.St} {Qd : Hp → Prop} {j : Nat} (hq : H1 q = some (.lst (zs.map V.str))) (hD : H1 D = none) (hz : zs.length ≤ 100)
    (hw : ∀ v : V, wipe ((wipe σ vs).set j (some v)) vs = wipe σ vs)
    (hte : ∀ (z : Str) (H : Hp) (Q : VK), (∀ t, H t = none → Q (.ref t) (upd H t (.tup (f z)))) → te ((wipe σ vs).set j (some (.str z))) H Q)
    (hd : ∀ H2 ps, Same H1 H2 → H2 D = some (.lst (ps.map V.ref)) → Paired (fun p z => H2 p = some (.tup (f z))) ps zs → Qd H2) :
    ∃ W : Nat → Nat → Hp → Prop, (∃ m, W 0 m (upd H1 D (.lst []))) ∧ ∀ i m H, W i m H →
      ((Itl K q).stop i H ∧ Qd H) ∨ ((Itl K q).go i H ∧ ∃ Nx : Hp → Prop, (∀ H', Nx H' → ∃ m', m' < m ∧ W (i + 1) m' H') ∧ ∀ x H', (Itl K q).yld i H x H' → gName j x (wipe σ vs) H' fun σ2 H2 => wipe σ2 vs = wipe σ vs ∧ tYes σ2 H2 fun b H3 =>
        if b = true then te σ2 H3 fun y H4 => ∃ acc, H4 D = some (.lst acc) ∧ acc.length < sizeLine ∧ Nx (upd H4 D (.lst (acc ++ [y]))) else Nx H3) := by
  refine lc_list (K := K) (a := q) (xs := zs.map V.str) (fun i H2 => Same H1 H2 ∧ ∃ ps : List Addr, H2 D = some (.lst (ps.map V.ref)) ∧ Paired (fun p z => H2 p = some (.tup (f z))) ps (zs.take i) ∧ ps.length = i)
    ⟨Same.upd hD, [], upd_same, .nil, rfl⟩ (fun i H2 _ ⟨k2, _⟩ => SqL.of (k2 _ _ hq)) ?_ ?_
  · rintro i x H2 hi ⟨k2, ps, hD2, hp, hl⟩
    obtain ⟨z, hzi, rfl⟩ : ∃ z, zs[i]? = some z ∧ V.str z = x := by
      rw [List.getElem?_map] at hi
      cases q : zs[i]? with
      | none => rw [q] at hi; cases hi
      | some e => rw [q] at hi; exact ⟨e, rfl, Option.some.inj hi⟩
    have hil : i < zs.length := (List.getElem?_eq_some_iff.mp hzi).1
    refine ⟨hw _, ?_⟩
    unfold tYes
    dsimp only
    rw [if_pos rfl]
    refine hte z H2 _ fun t ht => ⟨_, Same.upd ht _ _ hD2, ?_, (k2.updT ht).over hD, ps ++ [t], ?_, ?_, by rw [List.length_append, hl]; rfl⟩
    · rw [List.length_map]
      exact le_line (by omega)
    · rw [upd_same, List.map_append]
      rfl
    · have e3 : zs.take (i + 1) = zs.take i ++ [z] := by rw [List.take_succ, hzi]; rfl
      rw [e3]
      have nt : D ≠ t := ne_of_none hD2 ht
      refine papp (pmono hp fun a b e => ?_) (.cons ?_ .nil)
      · have na : a ≠ D := ne_of e hD2 (fun z => nomatch z)
        rw [upd_ne na]
        exact Same.upd ht _ _ e
      · rw [upd_ne nt.symm, upd_same]
  · rintro H2 ⟨k2, ps, hD2, hp, hl⟩
    rw [List.length_map, List.take_length] at hp
    exact hd H2 ps k2 hD2 hp
section
variable {P : Program} {w : World} {K : PySem.W.Frag} {mg : Str → Option Value} {base : Heap}
def spPuzzle : Sp := fun vs H Q _ => ∃ (p c ln lw : Addr) (m : Nat) (ns ws : List Str), vs = [.ref p, .ref ln, .ref lw, .int 5] ∧ Dk H p c m ∧ m ≤ 50000 ∧ H ln = some (.lst (ns.map V.str)) ∧ H lw = some (.lst (ws.map V.str)) ∧ 7 ≤ ns.length ∧ ns.length ≤ 8 ∧ ws.length = 2 ∧ (∀ s ∈ ws, OkW s) ∧
  ∀ H' a b xs (B : List PStm), Fr [p, c] H H' → Dk H' p c (m + 2000) → PrgAt H' a b xs B → B.length ≤ 29 → K82.readsOf B ≤ 5 → wishesOf B ≤ 1 → Q (.ref a) H'
theorem c_puzzle (T : TxL P K mg w) : Cal P w K mg base 5 "_law_puzzle" p_law_puzzle spPuzzle := by
  refine calN T.d_law_puzzle T.g_law_puzzle sc_law_puzzle (fun _ _ _ _ _ _ us hl => match us, hl with | [_, _, _, _], _ => rfl) (fun vs H Q E h => ?_) (fun cdv A outer s H vs Q E hr h => ?_)
  · obtain ⟨p, c, ln, lw, m, ns, ws, rfl, _⟩ := h
    rfl
  · obtain ⟨p, c, ln, lw, m, ns, ws, rfl, D, hmm, hln, hlw, hn7, hn8, hws, hwok, hQ⟩ := h
    obtain ⟨tC, hC, rC⟩ : ∃ t, PSs (cxOf (L2.CX P w) P w K mg base n_law_puzzle "_law_puzzle" (defScope s_law_puzzle) (He.ga K "_law_puzzle") cdv A outer s H E).nox ((defBody s_law_puzzle).drop 3) t ∧
        ∀ (hd po l0 l1 lr : Addr) (n : Nat) (xs : List V) (B : List PStm) (v7 v8 v9 : V) (H2 : Hp), PZ H H2 p c hd po l0 l1 lw ln lr (m + 100) 3 ns ws xs B → H hd = none → H lr = none → B.length ≤ 9 → K82.readsOf B = 0 → wishesOf B ≤ 1 →
          t { nx := fun _ H' => Q .non H', rt := Q } [some (.ref p), some (.ref ln), some (.ref lw), some (.int 5), some (.ref po), some (.ref hd), some (.ref lr), some v7, some v8, some v9, none, none, none, none, none] H2 := by
      obtain ⟨tT, hT, rT⟩ : ∃ t, PSs (cxOf (L2.CX P w) P w K mg base n_law_puzzle "_law_puzzle" (defScope s_law_puzzle) (He.ga K "_law_puzzle") cdv A outer s H E).nox ((bodyOf ((defBody s_law_puzzle).drop 4)).drop 2) t ∧
          ∀ (D : Ends) (hd po l0 l1 lr row : Addr) (m' n' va : Nat) (v7 v8 v9 v12 v13 : Option V) (st : PStm) (xs : List V) (B : List PStm) (Hx : Hp), PZ H Hx p c hd po l0 l1 lw ln lr m' n' ns ws xs B → StmAt Hx (.ref row) st → va ≤ 5 → K82.readsOf B = va → wishesOf B ≤ 1 → B.length ≤ 40 →
          (∀ H' va' v13' xs' B', PZ H H' p c hd po l0 l1 lw ln lr m' n' ns ws xs' B' → B'.length ≤ B.length + 1 → va' ≤ 5 → K82.readsOf B' = va' → wishesOf B' ≤ 1 → D.nx [some (.ref p), some (.ref ln), some (.ref lw), some (.int 5), some (.ref po), some (.ref hd), some (.ref lr), v7, v8, v9, some (.int (va' : Nat)), some (.ref row), v12, v13', none] H') →
          t D [some (.ref p), some (.ref ln), some (.ref lw), some (.int 5), some (.ref po), some (.ref hd), some (.ref lr), v7, v8, v9, some (.int (va : Nat)), some (.ref row), v12, v13, none] Hx := by
        refine ⟨_, (pss_cons (ps_set (i := 13) sc_law_puzzle.nd rfl (Or.inl rfl) (pe_callTy call_int1 (by rfl) T.b_int (by decide +kernel) (pa_cons (pe_cmpR op_in_seq (pe_ix ix_tup (pv 11) pe_int (fun _ _ => rfl)) (pe_lst (pa_cons pe_str (pa_cons pe_str pa_nil))) (by with_unfolding_all rfl)) pa_nil)))
        (pss_one (ps_if (pw_and (pt_cmpR op_le (pe_op op_add (pv 10) (pv 13)) (pv 3) (nomark _)) (pw_and1 (pt_cmpR op_ne (pe_ix ix_tup (pv 11) pe_int (fun _ _ => rfl)) pe_str (nomark _)))).pt
          (pss_cons (ps_set (i := 10) sc_law_puzzle.nd rfl (Or.inl rfl) (pe_op op_add (pv 10) (pv 13))) (pss_one (ps_expr (pe_bm PySem.F.plainAttrs_list PySem.F.slot_list_append PySem.F.type_list_append mt_append (pv 6) (pa_cons (pv 11) pa_nil))))) pss_nil))), ?_⟩
        intro D hd po l0 l1 lr row m' n' va v7 v8 v9 v12 v13 st xs B Hx Z hst hva hrd hwi hbl hnx
        obtain ⟨ra, bb, era, hx, hin⟩ := id hst
        obtain rfl : row = ra := V.ref.inj era
        refine ⟨_, rfl, row, _, _, _, rfl, rfl, SqT.of hx, atI_nat (j := 0) rfl, by show 2 ≤ sizeLine; decide, fun l hl => ?_⟩
        have s1 := Same.upd (o := .lst [.str "take", .str "ask"]) hl
        have x1 : upd Hx l (.lst [.str "take", .str "ask"]) l = some (.lst [.str "take", .str "ask"]) := upd_same
        have Z := Z.mono s1
        have hst := hst.mono s1
        have hx := s1 _ _ hx
        generalize upd Hx l (.lst [.str "take", .str "ask"]) = Hy at s1 x1 Z hst hx ⊢
        refine ⟨l, _, rfl, .inl (SqL.of x1), rfl, rfl, .inr ⟨_, rfl, ?_⟩⟩
        rw [inV_reads]
        have hrl := reads_le st
        have er : (if (if false = true then !decide (K82.reads st = 1) else decide (K82.reads st = 1)) = true then (1 : Int) else 0) = ((K82.reads st : Nat) : Int) := by
          rcases (by omega : K82.reads st = 0 ∨ K82.reads st = 1) with h | h <;> rw [h] <;> rfl
        rw [er]
        have hpl := paired_len Z.pr
        by_cases hle : va + K82.reads st ≤ 5
        · refine ⟨_, rfl, _, rfl, _, _, rfl, rfl, _, rfl, _, _, rfl, rfl, true, congrArg V.bl (decide_eq_true (by omega)), iteT ?_⟩
          refine ⟨_, rfl, row, _, _, _, rfl, rfl, SqT.of hx, atI_nat (j := 0) rfl, rfl, !isWish st, congrArg V.bl (congrArg Bool.not (wish_kind st)), ?_⟩
          cases hwk : isWish st with
          | true => exact iteF (hnx _ va _ xs B Z (by omega) hva hrd hwi)
          | false =>
            refine iteT ?_
            refine ⟨_, rfl, _, rfl, _, _, rfl, rfl, ?_⟩
            refine ⟨_, rfl, .inl ⟨rfl, _, SqL.of Z.rw⟩, _, rfl, lr, _, _, rfl, rfl, Z.rw, le_line (by omega), ?_⟩
            refine hnx _ (va + K82.reads st) _ _ _ (Z.app hst) (by rw [List.length_append]; exact Nat.le_refl _) hle (by rw [reads_snoc, hrd]) (by rw [wish_snoc, hwk]; exact hwi)
        · refine ⟨_, rfl, _, rfl, _, _, rfl, rfl, _, rfl, _, _, rfl, rfl, false, congrArg V.bl (decide_eq_false (by omega)), iteF (iteF ?_)⟩
          exact hnx _ va _ xs B Z (by omega) hva hrd hwi
      obtain ⟨tE, hE, rE⟩ : ∃ t, PSs (cxOf (L2.CX P w) P w K mg base n_law_puzzle "_law_puzzle" (defScope s_law_puzzle) (He.ga K "_law_puzzle") cdv A outer s H E).nox (thenOf ((bodyOf ((defBody s_law_puzzle).drop 4)).drop 1)) t ∧
          ∀ (D : Ends) (hd po l0 l1 lr row : Addr) (m' n' va : Nat) (v7 v8 v9 v12 v13 : Option V) (xs : List V) (B : List PStm) (Hx : Hp), PZ H Hx p c hd po l0 l1 lw ln lr m' n' ns ws xs B → m' ≤ 60000 → n' ≤ 50 →
          (∀ H' row' v12' st, PZ H H' p c hd po l0 l1 lw ln lr (m' + 2) n' ns ws xs B → StmAt H' (.ref row') st → D.nx [some (.ref p), some (.ref ln), some (.ref lw), some (.int 5), some (.ref po), some (.ref hd), some (.ref lr), v7, v8, v9, some (.int (va : Nat)), some (.ref row'), v12', v13, none] H') →
          t D [some (.ref p), some (.ref ln), some (.ref lw), some (.int 5), some (.ref po), some (.ref hd), some (.ref lr), v7, v8, v9, some (.int (va : Nat)), some (.ref row), v12, v13, none] Hx := by
        refine ⟨_, (pss_cons (ps_set (i := 12) sc_law_puzzle.nd rfl (Or.inl rfl) (pe_op op_cat (pe_lc (own := [("_law_name", 14)]) (g := gName 14) (tt := tB (tDGet (tVar 5) (tVar 14))) rfl sc_law_puzzle.nd
      (pi_list (pe_callB (call_sortedD (by rfl)) (by rfl) T.b_sorted (by decide +kernel) (pa_cons (pv 5) pa_nil))) (blkOk_by (N := n_law_puzzle) (sc := defScope s_law_puzzle) (by decide +kernel))
      (fun _ _ _ _ _ => pg_name (i := 14) sc_law_puzzle.nd rfl (Or.inl rfl) (hf := Or.inr rfl)) (fun _ _ _ _ _ => pts_one (pt_val (pe_dget (hu_of hr) (pv 5) (pv 14) (fun _ _ => rfl)))) (fun _ _ _ _ _ => pv 14)) (pe_slice sl_list (pv 1) (po_some pe_int) (po_some pe_int))))
          (pss_one (ps_set (i := 11) sc_law_puzzle.nd rfl (Or.inl rfl) (pe_tup (pa_cons pe_str (pa_cons (pe_c (c_one T) hr (by decide) (by rfl) passL (pa_cons (pv 0) (pa_cons (pe_lst (pa_cons (pe_tup (pa_cons pe_str (pa_cons (pe_c (c_one T) hr (by decide) (by rfl) passL (pa_cons (pv 0) (pa_cons (pv 12) pa_nil))) (pa_cons (pe_ix ix_list (pv 1) pe_int (fun _ _ => rfl)) pa_nil)))) (pa_cons (pe_tup (pa_cons pe_str (pa_cons (pe_ix ix_list (pv 2) pe_int (fun _ _ => rfl)) pa_nil))) pa_nil))) pa_nil))) pa_nil)))))), ?_⟩
        intro D hd po l0 l1 lr row m' n' va v7 v8 v9 v12 v13 xs B Hx Z hm' hn' hnx
        obtain ⟨ls, h1, hl⟩ := id Z.b.hd
        refine ⟨_, rfl, hd, hm ls, ls.map (·.1), rfl, Rd.of h1, by unfold hm; rw [List.map_map, List.map_map]; rfl, by rw [List.length_map]; omega, fun ys q2 hperm _ hq2 => ?_⟩
        have hyl : ys.length ≤ 50 := by rw [hperm.length_eq, List.length_map]; omega
        refine ⟨q2, rfl, ⟨_, SqL.of upd_same⟩, fun D4 hD4 => ?_⟩
        have s2 := Same.upd (o := .lst (ys.map V.str)) hq2
        refine lc_list (K := K) (a := q2) (xs := ys.map V.str) (fun i H2 => Same (upd Hx q2 (.lst (ys.map V.str))) H2 ∧ ∃ os : List Str, H2 D4 = some (.lst (os.map V.str)) ∧ os.length ≤ i)
          ⟨Same.upd hD4, [], upd_same, Nat.le_refl _⟩ (fun i H2 _ ⟨k2, _⟩ => SqL.of (k2 _ _ upd_same)) ?_ ?_
        · rintro i x H2 hi ⟨k2, os, hD2, hol⟩
          obtain ⟨z, hz, rfl⟩ : ∃ z, ys[i]? = some z ∧ V.str z = x := by
            rw [List.getElem?_map] at hi
            cases q : ys[i]? with
            | none => rw [q] at hi; cases hi
            | some e => rw [q] at hi; exact ⟨e, rfl, Option.some.inj hi⟩
          obtain ⟨b, hb⟩ := hm_get ls z (hperm.mem_iff.mp (List.mem_of_getElem? hz))
          have hil : i < ys.length := (List.getElem?_eq_some_iff.mp hz).1
          refine ⟨rfl, _, rfl, _, rfl, hd, .bl b, rfl, ?_, b, rfl, ?_⟩
          · rw [← hb]
            exact DGet.k (k := Sum.inr z) (k2 _ _ (s2 _ _ h1))
          · cases b with
            | false => exact iteF ⟨k2, os, hD2, by omega⟩
            | true =>
              refine iteT ⟨_, rfl, _, hD2, ?_, k2.over hD4, os ++ [z], ?_, by rw [List.length_append]; exact Nat.succ_le_succ hol⟩
              · rw [List.length_map]
                exact le_line (by omega)
              · rw [upd_same, List.map_append]
                rfl
        rintro H2 ⟨k2, os, hD2, hol⟩
        rw [List.length_map] at hol
        have Z2 := (Z.mono s2).mono k2
        refine ⟨_, rfl, _, rfl, _, rfl, _, _, rfl, SqL.of Z2.nm, fun q3 hq3 => ?_⟩
        rw [show cutV (ns.map V.str) (some 3) (some 4) = ((ns.drop 3).take 1).map V.str from cut_mid ns 3 4 (by decide) (by omega)]
        have s3 := Same.upd (o := .lst (((ns.drop 3).take 1).map V.str)) hq3
        have x3 : upd H2 q3 (.lst (((ns.drop 3).take 1).map V.str)) q3 = some (.lst (((ns.drop 3).take 1).map V.str)) := upd_same
        have Z3 := Z2.mono s3
        have hD3 := s3 _ _ hD2
        generalize upd H2 q3 (.lst (((ns.drop 3).take 1).map V.str)) = H3 at s3 x3 Z3 hD3 ⊢
        have l1' : ((ns.drop 3).take 1).length = 1 := by rw [List.length_take, List.length_drop]; omega
        refine ⟨D4, q3, _, _, rfl, rfl, hD3, x3, by rw [List.length_map, List.length_map, l1']; exact Nat.le_of_lt (le_line (by omega)), fun lo hlo => ?_⟩
        rw [← List.map_append]
        have Tlo : Txts (upd H3 lo (.lst ((os ++ (ns.drop 3).take 1).map V.str))) lo := ⟨_, upd_same, fun e => by have := congrArg List.length e; rw [List.length_append, l1', List.length_nil] at this; omega, by rw [List.length_append, l1']; omega⟩
        have Z4 := Z3.mono (Same.upd (o := .lst ((os ++ (ns.drop 3).take 1).map V.str)) hlo)
        generalize upd H3 lo (.lst ((os ++ (ns.drop 3).take 1).map V.str)) = H4 at Tlo Z4 ⊢
        refine ⟨_, rfl, _, rfl, _, rfl, p, c, _, _, IsStr, rfl, Z4.b.D, by omega, Tlo.items Z4.b.D, fun H5 x f5 D5 hx => ?_⟩
        obtain ⟨x, rfl⟩ := hx
        have Z5 := Z4.draw f5 D5
        obtain ⟨n0, hn0⟩ : ∃ z, ns[0]? = some z := ⟨_, List.getElem?_eq_getElem (show 0 < ns.length by omega)⟩
        obtain ⟨w0, hw0⟩ : ∃ z, ws[0]? = some z := ⟨_, List.getElem?_eq_getElem (show 0 < ws.length by omega)⟩
        refine ⟨_, rfl, ln, _, _, _, rfl, rfl, SqL.of Z5.nm, atI_nat (j := 0) (by rw [List.getElem?_map, hn0]; rfl), by show 3 ≤ sizeLine; decide, fun t1 ht1 => ?_⟩
        have s6 := Same.upd (o := .tup [.str "full", .str x, .str n0]) ht1
        have x6 : upd H5 t1 (.tup [.str "full", .str x, .str n0]) t1 = some (.tup [.str "full", .str x, .str n0]) := upd_same
        have Z6 := Z5.mono s6
        generalize upd H5 t1 (.tup [.str "full", .str x, .str n0]) = H6 at x6 Z6 ⊢
        refine ⟨_, rfl, lw, _, _, _, rfl, rfl, SqL.of Z6.wd, atI_nat (j := 0) (by rw [List.getElem?_map, hw0]; rfl), by show 2 ≤ sizeLine; decide, fun t2 ht2 => ?_⟩
        have s7 := Same.upd (o := .tup [.str "wished", .str w0]) ht2
        have x7 : upd H6 t2 (.tup [.str "wished", .str w0]) t2 = some (.tup [.str "wished", .str w0]) := upd_same
        have Z7 := Z6.mono s7
        have x6 := s7 _ _ x6
        generalize upd H6 t2 (.tup [.str "wished", .str w0]) = H7 at x6 x7 Z7 ⊢
        refine ⟨by show 2 ≤ sizeLine; decide, fun l hl => ?_⟩
        have s8 := Same.upd (o := .lst [.ref t1, .ref t2]) hl
        have x8 : upd H7 l (.lst [.ref t1, .ref t2]) l = some (.lst [.ref t1, .ref t2]) := upd_same
        have Z8 := Z7.mono s8
        have x6 := s8 _ _ x6
        have x7 := s8 _ _ x7
        have nl : l ≠ p ∧ l ≠ c := by
          obtain ⟨_, _, q⟩ := Z7.b.D.deck
          obtain ⟨_, q2, _⟩ := Z7.b.D.cells
          exact ⟨(ne_of_none q hl).symm, (ne_of_none q2 hl).symm⟩
        generalize upd H7 l (.lst [.ref t1, .ref t2]) = H8 at x6 x7 x8 Z8 ⊢
        refine ⟨p, c, _, _, fun v => v = .ref t1 ∨ v = .ref t2, rfl, Z8.b.D, by omega, .inl ⟨l, _, rfl, x8, nl.1, nl.2, (fun e => nomatch e), by show 2 ≤ 1000; decide, fun v hv => ?_⟩, fun H9 v f9 D9 hv => ?_⟩
        · simp only [List.mem_cons, List.not_mem_nil, or_false] at hv
          exact hv
        have Z9 := Z8.draw f9 D9
        have k9 := Z8.b.D.tups f9
        have x6 := k9 _ _ x6
        have x7 := k9 _ _ x7
        refine ⟨by show 2 ≤ sizeLine; decide, fun t ht => ?_⟩
        have s10 := Same.upd (o := .tup [.str "ask", v]) ht
        have Z10 := Z9.mono s10
        rcases hv with rfl | rfl
        · exact hnx _ t _ (.askF x n0) Z10 ⟨t, t1, rfl, upd_same, s10 _ _ x6⟩
        · exact hnx _ t _ (.askW w0) Z10 ⟨t, t2, rfl, upd_same, s10 _ _ x7⟩
      refine ⟨_, pss_cons (ps_set (i := 10) sc_law_puzzle.nd rfl (Or.inl rfl) pe_int)
        (pss_cons (ps_for PassesOwn.never rfl (pi_range1 (by rfl) T.b_range (pa_cons (pe_op op_sub pe_int (pe_callB call_len_seq (by rfl) T.b_len PySem.boot_len (pa_cons (pv 6) pa_nil))) pa_nil)) (pg_name (i := 7) sc_law_puzzle.nd rfl (Or.inl rfl)) (pss_cons (ps_set (i := 11) sc_law_puzzle.nd rfl (Or.inl rfl) (pe_c (c_plain T) hr (by decide) (by rfl) passL (pa_cons (pv 0) (pa_cons (pv 4) (pa_cons (pv 5) pa_nil)))))
        (pss_cons (ps_if (pw_or (pt_cmpR op_eq (pe_ix ix_tup (pv 11) pe_int (fun _ _ => rfl)) pe_str (nomark _)) (pw_or1 (pw_and (pt_cmpR op_in_seq (pe_ix ix_tup (pv 11) pe_int (fun _ _ => rfl)) (pe_lst (pa_cons pe_str (pa_cons pe_str (pa_cons pe_str (pa_cons pe_str pa_nil))))) (by with_unfolding_all rfl)) (pw_and1 (pt_cmpR op_eq (pe_c (c_draw T) hr (by decide) (by rfl) passL (pa_cons (pv 0) (pa_cons pe_int pa_nil))) pe_int (nomark _)))).pt)).pt
          hE pss_nil)
        hT)))
        (pss_one (ps_ret (pe_tup (pa_cons pe_int (pa_cons (pe_callTy call_tuple_of (by rfl) T.b_tuple (by decide +kernel) (pa_cons (pv 6) pa_nil)) pa_nil)))))), ?_⟩
      intro hd po l0 l1 lr n xs0 B0 v7 v8 v9 H2 Z hhd hlr hbl hrd hwi
      have hpl := paired_len Z.pr
      refine ⟨_, rfl, lr, _, rfl, .inl (SqL.of Z.rw), _, _, rfl, rfl, _, rfl, by omega, by omega, ?_⟩
      rw [show ((29 : Int) - (xs0.length : Nat)).toNat = 29 - B0.length by omega]
      obtain ⟨Pv, hPv⟩ : ∃ Pv : Nat → L2.St → Hp → Prop, Pv = fun i σ H' => ∃ v7 v8 v9 v11 v12 v13 xs B, ∃ va : Nat, σ = [some (.ref p), some (.ref ln), some (.ref lw), some (.int 5), some (.ref po), some (.ref hd), some (.ref lr), v7, v8, v9, some (.int (va : Nat)), v11, v12, v13, none] ∧
          PZ H H' p c hd po l0 l1 lw ln lr (m + 100 + 40 * i) (3 + i) ns ws xs B ∧ B.length ≤ B0.length + i ∧ va ≤ 5 ∧ K82.readsOf B = va ∧ wishesOf B ≤ 1 := ⟨_, rfl⟩
      refine for_range (n := 29 - B0.length) Pv (by rw [hPv]; exact ⟨some v7, some v8, some v9, none, none, none, xs0, B0, 0, rfl, Z, Nat.le_refl _, by decide, hrd, hwi⟩) ?_ ?_
      · intro i σ H3 hi hP
        rw [hPv] at hP
        obtain ⟨v7, v8, v9, v11, v12, v13, xs, B, va, rfl, Z3, hbl3, hva, hrd3, hwi3⟩ := hP
        refine ⟨_, rfl, _, rfl, _, rfl, H3, p, c, hd, po, l0, l1, lw, _, _, rfl, Z3.b, by omega, by omega, fun H4 v b4 hrow t4 => ?_⟩
        have Z4 := (Z3.upn (Nat.le_succ (3 + i))).frame b4 t4
        have fin : ∀ (D : Ends) (H5 : Hp) (row : Addr) (v7 v12 : Option V) (st : PStm), D.nx = Pv (i + 1) → PZ H H5 p c hd po l0 l1 lw ln lr (m + 100 + 40 * (i + 1)) (3 + (i + 1)) ns ws xs B → StmAt H5 (.ref row) st → tT D [some (.ref p), some (.ref ln), some (.ref lw), some (.int 5), some (.ref po), some (.ref hd), some (.ref lr), v7, v8, v9, some (.int (va : Nat)), some (.ref row), v12, v13, none] H5 := fun D H5 row v7 v12 st eD Z5 hst =>
          rT D hd po l0 l1 lr row _ _ va _ _ _ _ _ st xs B H5 Z5 hst hva hrd3 hwi3 (by omega) fun H' va' v13' xs' B' Z' hl' hva' hrd' hwi' => by
            rw [eD, hPv]
            exact ⟨_, _, _, _, _, _, xs', B', va', rfl, Z', by omega, hva', hrd', hwi'⟩
        have enter : ∀ (D D2 : Ends) (H5 : Hp) (row : Addr) (v7 : Option V), D.nx = (fun σ H' => tT D2 σ H') → D2.nx = Pv (i + 1) → PZ H H5 p c hd po l0 l1 lw ln lr (m + 100 + 40 * i + 21) (3 + i + 1) ns ws xs B → tE D [some (.ref p), some (.ref ln), some (.ref lw), some (.int 5), some (.ref po), some (.ref hd), some (.ref lr), v7, v8, v9, some (.int (va : Nat)), some (.ref row), v12, v13, none] H5 := fun D D2 H5 row v7 eD eD2 Z5 =>
          rE D hd po l0 l1 lr row _ _ va _ _ _ _ _ xs B H5 Z5 (by omega) (by omega) fun H' row' v12' st Z' hst => by
            rw [eD]
            exact fin D2 H' row' v7 v12' st eD2 (Z'.up (by omega)) hst
        rcases hrow with ⟨st, hst, hk⟩ | ⟨a, t, rfl, ha⟩
        · obtain ⟨row, bb, rfl, hx, hin⟩ := id hst
          refine ⟨_, rfl, row, _, _, _, rfl, rfl, SqT.of hx, atI_nat (j := 0) rfl, rfl, false, congrArg V.bl (decide_eq_false (fun e => hk (V.str.inj e))), iteF ?_⟩
          refine ⟨_, rfl, row, _, _, _, rfl, rfl, SqT.of hx, atI_nat (j := 0) rfl, by show 4 ≤ sizeLine; decide, fun l hl => ?_⟩
          have s1 := Same.upd (o := .lst [.str "make", .str "wish", .str "keep", .str "say"]) hl
          have x1 : upd H4 l (.lst [.str "make", .str "wish", .str "keep", .str "say"]) l = some (.lst [.str "make", .str "wish", .str "keep", .str "say"]) := upd_same
          have Z5 := Z4.mono s1
          have hst := hst.mono s1
          generalize upd H4 l (.lst [.str "make", .str "wish", .str "keep", .str "say"]) = H5 at s1 x1 Z5 hst ⊢
          refine ⟨l, _, rfl, .inl (SqL.of x1), rfl, rfl, _, rfl, ?_⟩
          cases hv : (if false = true then !inV (V.str (kind st)) [.str "make", .str "wish", .str "keep", .str "say"] else inV (V.str (kind st)) [.str "make", .str "wish", .str "keep", .str "say"]) with
          | false => exact iteF (iteF (fin _ H5 row _ _ st rfl ((Z5.up (by omega)).upn (by omega)) hst))
          | true =>
            refine iteT ?_
            refine ⟨_, rfl, p, c, _, 2, rfl, Z5.b.D, by omega, by decide, by decide, fun H6 r f6 D6 hr6 => ?_⟩
            have Z6 := Z5.draw f6 D6
            have hst := hst.tups (Z5.b.D.tups f6)
            have dI : ∀ a b : Int, decide (V.int a = V.int b) = decide (a = b) := fun a b => decide_eq_decide.mpr ⟨fun e => V.int.inj e, fun e => by rw [e]⟩
            by_cases r0 : r = 0
            · exact ⟨rfl, true, congrArg V.bl ((dI _ _).trans (decide_eq_true (by omega))), iteT (enter _ _ H6 row _ rfl rfl (Z6.up (by omega)))⟩
            · exact ⟨rfl, false, congrArg V.bl ((dI _ _).trans (decide_eq_false (by omega))), iteF (fin _ H6 row _ _ st rfl ((Z6.up (by omega)).upn (by omega)) hst)⟩
        · refine ⟨_, rfl, a, _, _, _, rfl, rfl, SqT.of ha, atI_nat (j := 0) rfl, rfl, true, congrArg V.bl (decide_eq_true rfl), iteT (iteT ?_)⟩
          exact enter _ _ H4 a _ rfl rfl (Z4.up (by omega))
      · intro σ H3 hP
        rw [hPv] at hP
        obtain ⟨v7, v8, v9, v11, v12, v13, xs, B, va, rfl, Z3, hbl3, hva, hrd3, hwi3⟩ := hP
        have hpl3 := paired_len Z3.pr
        refine ⟨_, rfl, lr, xs, rfl, .inl ⟨SqL.of Z3.rw, fun l hl => ?_⟩⟩
        have s4 := Same.upd (o := .tup xs) hl
        have x4 : upd H3 l (.tup xs) l = some (.tup xs) := upd_same
        have Z4 := Z3.mono s4
        generalize upd H3 l (.tup xs) = H4 at s4 x4 Z4 ⊢
        refine ⟨by show 2 ≤ sizeLine; decide, fun t ht => ?_⟩
        have s5 := Same.upd (o := .tup [.int 0, .ref l]) ht
        have Z5 := Z4.mono s5
        refine hQ _ t l xs B ?_ (Z5.b.D.up (by omega)) ⟨upd_same, s5 _ _ x4, Z5.pr, by omega⟩ (by omega) (by rw [hrd3]; exact hva) hwi3
        intro b o e nb
        refine Z5.fr b o e ?_
        have n1 : b ≠ hd := ne_of_none e hhd
        have n2 : b ≠ lr := ne_of_none e hlr
        simp at nb ⊢
        exact ⟨nb.1, nb.2, n1, n2⟩
    refine ⟨_, pss_cons (ps_asg (pe_tup (pa_cons (pe_lst (pa_cons (pe_slice sl_list (pv 1) (po_some pe_int) po_none) (pa_cons (pe_slice sl_list (pv 1) po_none (po_some pe_int)) (pa_cons (pv 2) (pa_cons pe_int pa_nil))))) (pa_cons (pe_callTy (call_dictP (by rfl)) (by rfl) T.b_dict (by decide +kernel) (pa_cons (pe_lc (own := [("_law_name", 14)]) (g := gName 14) (tt := tYes) rfl sc_law_puzzle.nd
      (pi_list (pe_slice sl_list (pv 1) (po_some pe_int) (po_some pe_int))) (blkOk_by (N := n_law_puzzle) (sc := defScope s_law_puzzle) (by decide +kernel))
      (fun _ _ _ _ _ => pg_name (i := 14) sc_law_puzzle.nd rfl (Or.inl rfl) (hf := Or.inr rfl)) (fun _ _ _ _ _ => pts_nil) (fun _ _ _ _ _ => (pe_tup (pa_cons (pv 14) (pa_cons pe_bl pa_nil))))) pa_nil)) pa_nil))) (pg_tup (by rfl) (pgs_cons (pg_name (i := 4) sc_law_puzzle.nd rfl (Or.inl rfl)) (pgs_cons (pg_name (i := 5) sc_law_puzzle.nd rfl (Or.inr rfl)) pgs_nil))))
      (pss_cons (ps_set (i := 6) sc_law_puzzle.nd rfl (Or.inl rfl) (pe_op op_cat (pe_lc (own := [("_law_name", 14)]) (g := gName 14) (tt := tYes) rfl sc_law_puzzle.nd
      (pi_list (pe_slice sl_list (pv 1) (po_some pe_int) (po_some pe_int))) (blkOk_by (N := n_law_puzzle) (sc := defScope s_law_puzzle) (by decide +kernel))
      (fun _ _ _ _ _ => pg_name (i := 14) sc_law_puzzle.nd rfl (Or.inl rfl) (hf := Or.inr rfl)) (fun _ _ _ _ _ => pts_nil) (fun _ _ _ _ _ => (pe_tup (pa_cons pe_str (pa_cons (pv 14) pa_nil))))) (pe_op op_rep (pe_lst (pa_cons (pe_tup (pa_cons pe_str (pa_cons (pe_ix ix_list (pv 1) pe_int (fun _ _ => rfl)) (pa_cons (pe_ix ix_list (pv 2) pe_int (fun _ _ => rfl)) pa_nil)))) pa_nil)) (pe_c (c_draw T) hr (by decide) (by rfl) passL (pa_cons (pv 0) (pa_cons pe_int pa_nil))))))
      (pss_cons (ps_for PassesOwn.never rfl (pi_range1 (by rfl) T.b_range (pa_cons (pe_op op_add pe_int (pe_c (c_draw T) hr (by decide) (by rfl) passL (pa_cons (pv 0) (pa_cons pe_int pa_nil)))) pa_nil)) (pg_name (i := 7) sc_law_puzzle.nd rfl (Or.inl rfl)) (pss_cons (ps_par (i := 8) (j := 9) (by rfl) sc_law_puzzle.nd rfl rfl (by decide) rfl rfl (pa_cons (pe_c (c_one T) hr (by decide) (by rfl) passL (pa_cons (pv 0) (pa_cons (pe_slice sl_list (pv 1) (po_some pe_int) (po_some pe_int)) pa_nil))) (pa_cons (pe_c (c_one T) hr (by decide) (by rfl) passL (pa_cons (pv 0) (pa_cons (pe_slice sl_list (pv 1) (po_some pe_int) (po_some pe_int)) pa_nil))) pa_nil)) (by rfl))
        (pss_one (ps_expr (pe_bm PySem.F.plainAttrs_list PySem.F.slot_list_append PySem.F.type_list_append mt_append (pv 6) (pa_cons (pe_tup (pa_cons (pe_c (c_one T) hr (by decide) (by rfl) passL (pa_cons (pv 0) (pa_cons (pe_lst (pa_cons pe_str (pa_cons pe_str (pa_cons pe_str pa_nil)))) pa_nil))) (pa_cons (pv 8) (pa_cons (pe_c (c_one T) hr (by decide) (by rfl) passL (pa_cons (pv 0) (pa_cons (pe_slice sl_list (pv 1) po_none (po_some pe_int)) pa_nil))) (pa_cons (pv 9) pa_nil))))) pa_nil)))))) hC)), ?_⟩
    have e36 : ∃ zs : List Str, (ns.drop 3).take 3 = zs ∧ zs ≠ [] ∧ zs.length = 3 := ⟨_, rfl, fun e => by have := congrArg List.length e; rw [List.length_take, List.length_drop, List.length_nil] at this; omega, by rw [List.length_take, List.length_drop]; omega⟩
    obtain ⟨zs, ez, hz0, hz3⟩ := e36
    have c36 : cutV (ns.map V.str) (some 3) (some 6) = zs.map V.str := by rw [← ez]; exact cut_mid ns 3 6 (by decide) (by omega)
    have c3 : cutV (ns.map V.str) (some 3) none = (ns.drop 3).map V.str := cut_from ns 3 (by omega)
    have ct : cutV (ns.map V.str) none (some 3) = (ns.take 3).map V.str := cut_to ns 3 (by omega)
    refine ⟨_, rfl, _, rfl, _, _, rfl, SqL.of hln, fun l0 hl0 => ?_⟩
    rw [c3]
    have s1 := Same.upd (o := .lst ((ns.drop 3).map V.str)) hl0
    have x0 : upd H l0 (.lst ((ns.drop 3).map V.str)) l0 = some (.lst ((ns.drop 3).map V.str)) := upd_same
    generalize upd H l0 (.lst ((ns.drop 3).map V.str)) = H1 at s1 x0 ⊢
    refine ⟨_, rfl, _, rfl, _, _, rfl, SqL.of (s1 _ _ hln), fun l1 hl1 => ?_⟩
    rw [ct]
    have s2 := s1.updT (o := .lst ((ns.take 3).map V.str)) hl1
    have x1 : upd H1 l1 (.lst ((ns.take 3).map V.str)) l1 = some (.lst ((ns.take 3).map V.str)) := upd_same
    have x0 := Same.upd (o := .lst ((ns.take 3).map V.str)) hl1 _ _ x0
    generalize upd H1 l1 (.lst ((ns.take 3).map V.str)) = H2 at s2 x0 x1 ⊢
    refine ⟨_, rfl, by show 4 ≤ sizeLine; decide, fun po hpo => ?_⟩
    have s3 := s2.updT (o := .lst [.ref l0, .ref l1, .ref lw, .int 0]) hpo
    have x2 : upd H2 po (.lst [.ref l0, .ref l1, .ref lw, .int 0]) po = some (.lst [.ref l0, .ref l1, .ref lw, .int 0]) := upd_same
    have x0 := Same.upd (o := .lst [.ref l0, .ref l1, .ref lw, .int 0]) hpo _ _ x0
    have x1 := Same.upd (o := .lst [.ref l0, .ref l1, .ref lw, .int 0]) hpo _ _ x1
    generalize upd H2 po (.lst [.ref l0, .ref l1, .ref lw, .int 0]) = H3 at s3 x0 x1 x2 ⊢
    refine ⟨_, rfl, _, rfl, _, rfl, _, _, rfl, SqL.of (s3 _ _ hln), fun q3 hq3 => ?_⟩
    rw [c36]
    have k4 := Same.upd (o := .lst (zs.map V.str)) hq3
    have x3 : upd H3 q3 (.lst (zs.map V.str)) q3 = some (.lst (zs.map V.str)) := upd_same
    generalize upd H3 q3 (.lst (zs.map V.str)) = H4 at k4 x3 ⊢
    refine ⟨q3, rfl, ⟨_, SqL.of x3⟩, fun D4 hD4 => ?_⟩
    refine lc_tups (K := K) (f := fun z => [.str z, .bl true]) x3 hD4 (by omega) (fun _ => rfl) (fun z H Q h => ⟨_, rfl, by show 2 ≤ sizeLine; decide, h⟩) ?_
    intro H5 ps k5 hD5 hps
    have hdict : ∃ ls, mergeK [] (zs.map fun z => ((Sum.inr z : Key), V.bl true)) = hm ls ∧ ls.length ≤ 3 := by
      obtain ⟨ls, e, h⟩ := merge_hm zs []
      exact ⟨ls, e, by rw [hz3] at h; exact h⟩
    obtain ⟨ls, els, hls⟩ := hdict
    refine ⟨D4, ps, zs.map fun z => ((Sum.inr z : Key), V.bl true), rfl, SqL.of hD5, pmapr (pmono hps fun _ _ e => SqT.of e), fun hd hhd => ?_⟩
    rw [els]
    have k6 := (k4.trans k5).updT (o := .dK (hm ls)) hhd
    have x4 : upd H5 hd (.dK (hm ls)) hd = some (.dK (hm ls)) := upd_same
    have fhd : H hd = none := s3.free ((k4.trans k5).free hhd)
    generalize upd H5 hd (.dK (hm ls)) = H6 at k6 x4 ⊢
    refine ⟨by show 2 ≤ sizeLine; decide, fun t ht => ?_⟩
    have k7 := k6.updT (o := .tup [.ref po, .ref hd]) ht
    have x5 : upd H6 t (.tup [.ref po, .ref hd]) t = some (.tup [.ref po, .ref hd]) := upd_same
    have x4 := Same.upd (o := .tup [.ref po, .ref hd]) ht _ _ x4
    generalize upd H6 t (.tup [.ref po, .ref hd]) = H7 at k7 x4 x5 ⊢
    refine ⟨t, _, rfl, SqT.of x5, rfl, _, _, rfl, _, _, rfl, rfl, ?_⟩
    have s7 := s3.trans k7
    have T0 : Txts H7 l0 := ⟨_, k7 _ _ x0, fun e => by have := congrArg List.length e; rw [List.length_drop, List.length_nil] at this; omega, by rw [List.length_drop]; omega⟩
    have T1 : Txts H7 l1 := ⟨_, k7 _ _ x1, fun e => by have := congrArg List.length e; rw [List.length_take, List.length_nil] at this; omega, by rw [List.length_take]; omega⟩
    have W2 : WTx H7 lw := ⟨_, s7 _ _ hlw, (fun e => by have := congrArg List.length e; rw [hws, List.length_nil] at this; omega), by omega, hwok⟩
    have T2 : Txts H7 lw := W2.txts
    have Tn : Txts H7 ln := ⟨_, s7 _ _ hln, fun e => by have := congrArg List.length e; rw [List.length_nil] at this; omega, by omega⟩
    have B7 : PB H7 H7 p c hd po l0 l1 lw m 3 := { fr := Fr.refl _ _, D := D.mono s7, hd := ⟨ls, x4, hls⟩, pool := k7 _ _ x2, t0 := T0, t1 := T1, w2 := W2 }
    have hln7 := s7 _ _ hln
    have hlw7 := s7 _ _ hlw
    clear k7 k6 k5 k4 x0 x1 x2 x3 x5 hD5 hps
    have fpo : H po = none := s2.free hpo
    -- the rows
    refine ⟨_, rfl, _, rfl, _, rfl, _, _, rfl, SqL.of hln7, fun q8 hq8 => ?_⟩
    rw [c36]
    have k8 := Same.upd (o := .lst (zs.map V.str)) hq8
    have x8 : upd H7 q8 (.lst (zs.map V.str)) q8 = some (.lst (zs.map V.str)) := upd_same
    generalize upd H7 q8 (.lst (zs.map V.str)) = H8 at k8 x8 ⊢
    refine ⟨q8, rfl, ⟨_, SqL.of x8⟩, fun D8 hD8 => ?_⟩
    refine lc_tups (K := K) (f := fun z => [.str "make", .str z]) x8 hD8 (by omega) (fun _ => rfl) (fun z H Q h => ⟨_, rfl, by show 2 ≤ sizeLine; decide, h⟩) ?_
    intro H9 ps k9 hD9 hps
    have s9 := k8.trans k9
    obtain ⟨n3, hn3⟩ : ∃ z, ns[3]? = some z := ⟨_, List.getElem?_eq_getElem (show 3 < ns.length by omega)⟩
    obtain ⟨w0, hw0⟩ : ∃ z, ws[0]? = some z := ⟨_, List.getElem?_eq_getElem (show 0 < ws.length by omega)⟩
    refine ⟨_, rfl, ln, _, _, _, rfl, rfl, SqL.of (s9 _ _ hln7), atI_nat (j := 3) (by rw [List.getElem?_map, hn3]; rfl), _, rfl, lw, _, _, _, rfl, rfl, SqL.of (s9 _ _ hlw7), atI_nat (j := 0) (by rw [List.getElem?_map, hw0]; rfl), ?_⟩
    refine ⟨by show 3 ≤ sizeLine; decide, fun t ht => ?_⟩
    have s10 := s9.updT (o := .tup [.str "wish", .str n3, .str w0]) ht
    have k10 := Same.upd (o := .tup [.str "wish", .str n3, .str w0]) ht
    have x10 : upd H9 t (.tup [.str "wish", .str n3, .str w0]) t = some (.tup [.str "wish", .str n3, .str w0]) := upd_same
    have hD10 := k10 _ _ hD9
    generalize upd H9 t (.tup [.str "wish", .str n3, .str w0]) = H10 at s10 k10 x10 hD10 ⊢
    refine ⟨by show 1 ≤ sizeLine; decide, fun l hl => ?_⟩
    have s11 := s10.updT (o := .lst [.ref t]) hl
    have k11 := Same.upd (o := .lst [.ref t]) hl
    have x11 : upd H10 l (.lst [.ref t]) l = some (.lst [.ref t]) := upd_same
    have hD11 := k11 _ _ hD10
    have x10 := k11 _ _ x10
    generalize upd H10 l (.lst [.ref t]) = H11 at s11 k11 x11 x10 hD11 ⊢
    have B11 := B7.mono s11
    refine ⟨_, rfl, p, c, m, 2, rfl, B11.D, by omega, by decide, by decide, fun H12 r f12 D12 hr12 => ?_⟩
    have B12 := B11.draw f12 D12
    have t12 := B11.D.tups f12
    have np : ∀ {H : Hp} {a : Addr} {x : Addr} {r : List Addr}, Dk H p c m → H a = some (.lst ((x :: r).map V.ref)) → True := fun _ _ => trivial
    have nD8 : D8 ≠ p ∧ D8 ≠ c ∧ D8 ≠ ln ∧ D8 ≠ lw := by
      have D7 := B7.D.mono k8
      obtain ⟨_, _, q⟩ := D7.deck
      obtain ⟨_, q2, _⟩ := D7.cells
      exact ⟨(ne_of_none q hD8).symm, (ne_of_none q2 hD8).symm, (ne_of_none (k8 _ _ hln7) hD8).symm, (ne_of_none (k8 _ _ hlw7) hD8).symm⟩
    have nl : l ≠ p ∧ l ≠ c := by
      have D10 := B7.D.mono s10
      obtain ⟨_, _, q⟩ := D10.deck
      obtain ⟨_, q2, _⟩ := D10.cells
      exact ⟨(ne_of_none q hl).symm, (ne_of_none q2 hl).symm⟩
    have hl12 := f12 _ _ x11 (by simp [nl])
    have hD12 := f12 _ _ hD11 (by simp [nD8.1, nD8.2.1])
    refine ⟨l, _, _, rfl, rfl, hl12, by omega, by omega, ?_, fun l2 hl2 => ?_⟩
    · show 1 * _ ≤ sizeLine
      rw [Int.toNat_natCast]
      exact Nat.le_of_lt (le_line (by omega))
    rw [Int.toNat_natCast]
    have k13 := Same.upd (o := .lst (List.replicate r [V.ref t]).flatten) hl2
    have x13 : upd H12 l2 (.lst (List.replicate r [V.ref t]).flatten) l2 = some (.lst (List.replicate r [V.ref t]).flatten) := upd_same
    have hD13 := k13 _ _ hD12
    generalize upd H12 l2 (.lst (List.replicate r [V.ref t]).flatten) = H13 at k13 x13 hD13 ⊢
    refine ⟨D8, l2, _, _, rfl, rfl, hD13, x13, ?_, fun lr hlr => ?_⟩
    · rw [flat_one, List.length_replicate, List.length_map]
      have := paired_len hps
      exact Nat.le_of_lt (le_line (by omega))
    rw [flat_one] at x13 ⊢
    have k14 := Same.upd (o := .lst (ps.map V.ref ++ List.replicate r (V.ref t))) hlr
    have x14 : upd H13 lr (.lst (ps.map V.ref ++ List.replicate r (V.ref t))) lr = some (.lst (ps.map V.ref ++ List.replicate r (V.ref t))) := upd_same
    have B13 := B12.mono k13
    have flr : ∀ a o, H13 a = some o → lr ≠ a := fun a o e => (ne_of_none e hlr).symm
    have fall : Fr [p, c] H H13 := (((s7.trans s11).fr _).trans f12).trans (k13.fr _)
    have f13 : Fr [p, c, hd, lr] H H13 := fall.sub (by simp)
    have hlrH : H lr = none := by
      cases q : H lr with
      | none => rfl
      | some o => 
        obtain ⟨_, _, qp⟩ := B13.D.deck
        obtain ⟨_, qc, _⟩ := B13.D.cells
        exact absurd (fall _ _ q (by simp [flr _ _ qp, flr _ _ qc])) (by rw [hlr]; exact fun z => nomatch z)
    have hn13 : H13 ln = some (.lst (ns.map V.str)) := k13 _ _ (f12 _ _ (s11 _ _ hln7) (by have := Tn.ne B7.D; simp [this]))
    have hw13 : H13 lw = some (.lst (ws.map V.str)) := k13 _ _ (f12 _ _ (s11 _ _ hlw7) (by have := T2.ne B7.D; simp [this]))
    obtain ⟨hdls, hd1, hd2⟩ := B13.hd
    obtain ⟨_, _, qp⟩ := B13.D.deck
    obtain ⟨_, qc, _⟩ := B13.D.cells
    have Z : PZ H (upd H13 lr (.lst (ps.map V.ref ++ List.replicate r (V.ref t)))) p c hd po l0 l1 lw ln lr (m + 1) 3 ns ws (ps.map V.ref ++ List.replicate r (V.ref t)) (zs.map K82.Stm.make ++ List.replicate r (K82.Stm.wish n3 w0)) := {
      fr := f13.trans (k14.fr _)
      b := { (B13.mono k14) with fr := Fr.refl _ _ }
      nm := k14 _ _ hn13
      wd := k14 _ _ hw13
      rw := x14
      pr := by
        have kt : Tups H11 (upd H13 lr (.lst (ps.map V.ref ++ List.replicate r (V.ref t)))) := (t12.trans k13.tups).trans k14.tups
        refine papp (pmapl (pmapr (pmono hps fun a z e => ⟨a, 0, rfl, kt _ _ (k11 _ _ (k10 _ _ e)), trivial⟩))) (prep ⟨t, 0, rfl, kt _ _ x10, trivial⟩ r)
      o1 := by
        have h1 := Tn.ne B7.D
        have h2 : ln ≠ hd := ne_of hn13 hd1 (fun e => nomatch e)
        have h3 := flr _ _ hn13
        simp [h1, h2, h3.symm]
      o2 := by
        obtain ⟨_, a0, _⟩ := B13.t0
        obtain ⟨_, a1, _⟩ := B13.t1
        simp [flr _ _ qp, flr _ _ qc, flr _ _ hd1, flr _ _ B13.pool, flr _ _ a0, flr _ _ a1, flr _ _ hw13]
      o3 := by
        have h1 := T2.ne B7.D
        have h2 : lw ≠ hd := ne_of hw13 hd1 (fun e => nomatch e)
        simp [h1, h2] }
    have hB0 : K82.readsOf (zs.map K82.Stm.make ++ List.replicate r (K82.Stm.wish n3 w0)) = 0 := reads_make _ _ _ _
    have hB1 : wishesOf (zs.map K82.Stm.make ++ List.replicate r (K82.Stm.wish n3 w0)) ≤ 1 := by rw [wish_make]; omega
    have hB2 : (zs.map K82.Stm.make ++ List.replicate r (K82.Stm.wish n3 w0)).length ≤ 4 := by
      rw [List.length_append, List.length_map, List.length_replicate]
      omega
    generalize zs.map K82.Stm.make ++ List.replicate r (K82.Stm.wish n3 w0) = B0 at Z hB0 hB1 hB2
    generalize ps.map V.ref ++ List.replicate r (V.ref t) = xs0 at Z ⊢
    generalize upd H13 lr (.lst xs0) = H14 at Z ⊢
    refine ⟨_, rfl, p, c, _, 3, rfl, Z.b.D, by omega, by decide, by decide, fun H15 r2 f15 D15 hr2 => ?_⟩
    have Z15 := Z.draw f15 D15
    refine ⟨_, _, rfl, rfl, _, rfl, by omega, by omega, ?_⟩
    rw [show ((3 : Int) + (r2 : Nat)).toNat = 3 + r2 by omega]
    have hnames : ∀ {Hx : Hp} {k : Nat} {xs : List V} {B : List PStm}, PZ H Hx p c hd po l0 l1 lw ln lr k 3 ns ws xs B → ∀ q, Hx q = none → Txts (upd Hx q (.lst (zs.map V.str))) q := fun _ q hq => ⟨zs, upd_same, hz0, by omega⟩
    refine for_range (n := 3 + r2) (fun i σ H' => ∃ v7 v8 v9 xs B, σ = [some (.ref p), some (.ref ln), some (.ref lw), some (.int 5), some (.ref po), some (.ref hd), some (.ref lr), v7, v8, v9, none, none, none, none, none] ∧ (0 < i → v7 ≠ none ∧ v8 ≠ none ∧ v9 ≠ none) ∧
        PZ H H' p c hd po l0 l1 lw ln lr (m + 2 + 5 * i) 3 ns ws xs B ∧ B.length ≤ 4 + i ∧ K82.readsOf B = 0 ∧ wishesOf B ≤ 1)
      ⟨none, none, none, xs0, B0, rfl, fun h => absurd h (Nat.lt_irrefl _), Z15.up (by omega), by omega, hB0, hB1⟩ ?_ ?_
    · rintro i σ H16 hi ⟨v7, v8, v9, xs, B, rfl, _, Z16, hl16, hr16, hw16⟩
      refine ⟨_, rfl, _, rfl, _, rfl, _, rfl, _, _, rfl, SqL.of Z16.nm, fun q hq => ?_⟩
      rw [c36]
      have T16 := hnames Z16 q hq
      have Z17 := Z16.mono (Same.upd (o := .lst (zs.map V.str)) hq)
      generalize upd H16 q (.lst (zs.map V.str)) = H17 at T16 Z17 ⊢
      refine ⟨p, c, _, _, IsStr, rfl, Z17.b.D, by omega, T16.items Z17.b.D, fun H18 x f18 D18 hx => ?_⟩
      obtain ⟨x, rfl⟩ := hx
      have Z18 := Z17.draw f18 D18
      refine ⟨_, rfl, _, rfl, _, rfl, _, rfl, _, _, rfl, SqL.of Z18.nm, fun q hq => ?_⟩
      rw [c36]
      have T18 := hnames Z18 q hq
      have Z19 := Z18.mono (Same.upd (o := .lst (zs.map V.str)) hq)
      generalize upd H18 q (.lst (zs.map V.str)) = H19 at T18 Z19 ⊢
      refine ⟨p, c, _, _, IsStr, rfl, Z19.b.D, by omega, T18.items Z19.b.D, fun H20 y f20 D20 hy => ?_⟩
      obtain ⟨y, rfl⟩ := hy
      have Z20 := Z19.draw f20 D20
      refine ⟨_, _, rfl, ?_⟩
      refine ⟨_, rfl, .inl ⟨rfl, _, SqL.of Z20.rw⟩, _, rfl, by show 3 ≤ sizeLine; decide, fun l hl => ?_⟩
      have T20 : Txts (upd H20 l (.lst [.str "weak", .str "weak", .str "hold"])) l := ⟨["weak", "weak", "hold"], upd_same, (fun e => nomatch e), by decide⟩
      have x20 : upd H20 l (.lst [.str "weak", .str "weak", .str "hold"]) l = some (.lst [.str "weak", .str "weak", .str "hold"]) := upd_same
      have Z21 := Z20.mono (Same.upd (o := .lst [.str "weak", .str "weak", .str "hold"]) hl)
      generalize upd H20 l (.lst [.str "weak", .str "weak", .str "hold"]) = H21 at T20 x20 Z21 ⊢
      have nl := T20.ne Z21.b.D
      refine ⟨p, c, _, _, fun v => v = .str "weak" ∨ v = .str "hold", rfl, Z21.b.D, by omega, .inl ⟨l, _, rfl, x20, nl.1, nl.2, (fun e => nomatch e), by show 3 ≤ 1000; decide, fun v hv => ?_⟩, fun H22 k f22 D22 hk => ?_⟩
      · simp only [List.mem_cons, List.not_mem_nil, or_false] at hv
        rcases hv with h | h | h
        · exact .inl h
        · exact .inl h
        · exact .inr h
      have Z22 := Z21.draw f22 D22
      refine ⟨_, rfl, _, rfl, _, rfl, _, rfl, _, _, rfl, SqL.of Z22.nm, fun q hq => ?_⟩
      rw [ct]
      have T22 : Txts (upd H22 q (.lst ((ns.take 3).map V.str))) q := ⟨_, upd_same, fun e => by have := congrArg List.length e; rw [List.length_take, List.length_nil] at this; omega, by rw [List.length_take]; omega⟩
      have Z23 := Z22.mono (Same.upd (o := .lst ((ns.take 3).map V.str)) hq)
      generalize upd H22 q (.lst ((ns.take 3).map V.str)) = H23 at T22 Z23 ⊢
      refine ⟨p, c, _, _, IsStr, rfl, Z23.b.D, by omega, T22.items Z23.b.D, fun H24 f f24 D24 hf => ?_⟩
      obtain ⟨f, rfl⟩ := hf
      have Z24 := Z23.draw f24 D24
      refine ⟨_, rfl, by show 4 ≤ sizeLine; decide, fun t ht => ?_⟩
      have Z25 := Z24.mono (Same.upd (o := .tup [k, .str x, .str f, .str y]) ht)
      have x25 : upd H24 t (.tup [k, .str x, .str f, .str y]) t = some (.tup [k, .str x, .str f, .str y]) := upd_same
      generalize upd H24 t (.tup [k, .str x, .str f, .str y]) = H25 at x25 Z25 ⊢
      have hx25 := paired_len Z25.pr
      obtain ⟨st, hst, hk1, hk2⟩ : ∃ st : PStm, StmAt H25 (.ref t) st ∧ K82.reads st = 0 ∧ isWish st = false := by
        rcases hk with rfl | rfl
        · exact ⟨.weak x f y, ⟨t, 0, rfl, x25, trivial⟩, rfl, rfl⟩
        · exact ⟨.hold x f y, ⟨t, 0, rfl, x25, trivial⟩, rfl, rfl⟩
      refine ⟨lr, _, _, rfl, rfl, Z25.rw, le_line (by omega), ?_⟩
      refine ⟨_, _, _, _, _, rfl, fun _ => ⟨(fun z => nomatch z), (fun z => nomatch z), (fun z => nomatch z)⟩, (Z25.app hst).up (by omega), by rw [List.length_append]; show B.length + 1 ≤ _; omega, ?_, ?_⟩
      · rw [reads_snoc, hr16, hk1]
      · rw [wish_snoc, hk2]
        exact hw16
    · rintro σ H16 ⟨v7, v8, v9, xs, B, rfl, hv, Z16, hl16, hr16, hw16⟩
      obtain ⟨a7, a8, a9⟩ := hv (by omega)
      obtain ⟨v7, rfl⟩ := Option.ne_none_iff_exists'.mp a7
      obtain ⟨v8, rfl⟩ := Option.ne_none_iff_exists'.mp a8
      obtain ⟨v9, rfl⟩ := Option.ne_none_iff_exists'.mp a9
      exact rC hd po l0 l1 lr 3 xs B v7 v8 v9 H16 (Z16.up (by omega)) fhd hlrH (by omega) hr16 hw16
end
end K82W
end K82Puz_part
section K82Seg_part
set_option Elab.async false
set_option linter.all false
set_option maxRecDepth 100000
set_option maxHeartbeats 1000000
/-! a for loop in a generator -/
namespace K82W
open PySem PySem.Spec PyProof.Rows L2 GenW
/-- what a loop's own call does with an exception that comes back -/
def ownBack (env : Env) (x : Value) : Sem Unit := do
  if (← field x 1) == Value.none then unsupported "frame.own-activation:exception-without-traceback"
  setFlight x env.frame
section
variable {M : Model} {A : Around} {R : GenEnd} {Y : Protocol} {n : Nat} {s₀ s : Shared} {c : Code} {fs : List Frame} {env : Env}
  {K : Flow → Sem PySem.Fin} {J : Value → Sem PySem.Fin} {gd : Bool → Bool} {lv : List Value → List Value}
def loopFrame (env : Env) (K : Flow → Sem PySem.Fin) (J : Value → Sem PySem.Fin) (gd : Bool → Bool) (lv : List Value → List Value) (c : Code) (p : Pos) : Frame :=
  .ret (fun r => ((match r with | .ok f => (.pure f : Sem Flow) | .error e => .raise e).onRaise (ownBack env)).wrap K J gd lv) none (gd false) (lv []) c p []
theorem seg_For {tg iter : Expr} {body : List Stmt} {pos : Pos} (hs : ∀ x, foldedSetIterable iter env x = pure x)
    (h : wpAny M (A.over c fs) (eval iter env) (fun v s1 => wpAny M (A.over c fs) (pyIter v) (fun it s2 => ∀ p, Seg M A R Y n s₀ (.forLoop tg it body [] env) (M.den (.forLoop tg it body [] env)) (loopFrame env K J gd lv c p :: fs) s2)
      (fun e s' => Seg M A R Y n s₀ c (J e) fs s') s1) (fun e s' => Seg M A R Y n s₀ c (J e) fs s') s) :
    Seg M A R Y n s₀ c ((exec (.For tg iter body [] pos) env).wrap K J gd lv) fs s := by
  show Seg M A R Y n s₀ c (.at pos fun _ => ((eval iter env >>= fun v => foldedSetIterable iter env v >>= fun x => (standAt iter.pos >>= fun _ => (holding [x] (pyIter x) >>= fun it => runOwn (.forLoop tg it body [] env) env))) : Sem Flow).wrap K J gd lv) fs s
  refine seg_at ?_
  refine seg_bind_wrap (wpAny_mono h (fun v s1 h1 => ?_) fun _ _ x => x)
  rw [hs]
  show Seg M A R Y n s₀ c (.at iter.pos fun _ => ((holding [v] (pyIter v) >>= fun it => runOwn (.forLoop tg it body [] env) env) : Sem Flow).wrap K J gd lv) fs s1
  refine seg_at ?_
  refine seg_bind_wrap (wpAny_holding (wpAny_mono h1 (fun it s2 h2 => ?_) fun _ _ x => x))
  exact seg_call h2
end
section
variable {prog : Program} {w : World} {A : Around} {R : GenEnd} {Y : Protocol} {n : Nat} {s₀ s : Shared} {fs : List Frame} {env : Env}
/-- a turn that raises nothing ahead of the body -/
theorem seg_forLoop {tg : Expr} {it : Value} {body : List Stmt}
    (h : wpAny (model prog w) (A.over (.forLoop tg it body [] env) fs) (pyNext it) (fun r s1 => match r with
      | none => Seg (model prog w) A R Y n s₀ (.block [] env) ((model prog w).den (.block [] env)) fs s1
      | some v => wpAny (model prog w) (A.over (.forLoop tg it body [] env) fs) (letOwnedTupleGo tg it v) (fun _ s2 =>
          wpAny (model prog w) (A.over (.forLoop tg it body [] env) fs) (assign tg env v) (fun _ s3 =>
            Seg (model prog w) A R Y n s₀ (.forLoop tg it body [] env) ((execs body env).wrap (fun f => match f with
              | .next | .cont => .pure (.again (.forLoop tg it body [] env))
              | .brk => .pure (.done .next)
              | .ret v => .pure (.done (.ret v))) (fun e => (do noteFrame e env; theTreesLotGoes e : Sem Unit).wrap (fun _ => .raise e) .raise id id) id id) fs s3) (fun _ _ => False) s2) (fun _ _ => False) s1) (fun _ _ => False) s) :
    Seg (model prog w) A R Y n s₀ (.forLoop tg it body [] env) ((model prog w).den (.forLoop tg it body [] env)) fs s := by
  show Seg _ A R Y n s₀ _ ((forTurn tg it body [] env).onRaise (fun x => do noteFrame x env; theTreesLotGoes x)) fs s
  unfold forTurn
  rw [Sem.onRaise_eq_wrap]
  refine seg_bind_wrap (wpAny_standAt ?_)
  refine seg_bind_wrap (wpAny_onRaise (wpAny_mono h (fun r s1 h1 => ?_) fun _ _ x => False.elim x))
  cases r with
  | none => exact seg_again rfl h1
  | some v =>
    refine seg_bind_wrap (wpAny_mono h1 (fun _ s2 h2 => ?_) fun _ _ x => False.elim x)
    refine seg_bind_wrap (wpAny_mono h2 (fun _ s3 h3 => ?_) fun _ _ x => False.elim x)
    rw [Sem.bind_eq_wrap', Sem.wrap_wrap]
    rw [Sem.wrap_congr (execs body env) _ _ (K' := fun f => match f with
          | .next | .cont => .pure (.again (.forLoop tg it body [] env))
          | .brk => .pure (.done .next)
          | .ret v => .pure (.done (.ret v))) (H' := (fun e => (do noteFrame e env; theTreesLotGoes e : Sem Unit).wrap (fun _ => .raise e) .raise id id))
      (fun f => by cases f <;> rfl)
      (fun e => by first | exact Sem.bind_eq_wrap _ _ | (show (do noteFrame e env; theTreesLotGoes e : Sem Unit).bind (fun _ => .raise e) = _; rw [Sem.bind_eq_wrap]))]
    exact h3
/-- the loop's end: no else -/
theorem seg_block_nil (h : Seg (model prog w) A R Y n s₀ (.block [] env) (leafOf (.ok .next)) fs s) : Seg (model prog w) A R Y n s₀ (.block [] env) ((model prog w).den (.block [] env)) fs s := by
  exact h
end
end K82W
end K82Seg_part
section K82Turns_part
set_option Elab.async false
set_option linter.all false
set_option maxRecDepth 100000
set_option maxHeartbeats 1000000
namespace K82W
open PySem PySem.Spec PyProof.Rows L2 GenW
/-- kept but for these -/
def KeptBut (Z : List Addr) (h h' : Heap) : Prop := ∀ b o, b ∉ Z → h.get? b = some o → h'.get? b = some o
theorem KeptBut.refl (Z : List Addr) (h : Heap) : KeptBut Z h h := fun _ _ _ e => e
theorem KeptBut.trans {Z : List Addr} {a b c : Heap} (h : KeptBut Z a b) (k : KeptBut Z b c) : KeptBut Z a c := fun x o n e => k x o n (h x o n e)
theorem KeptBut.sub {Z W : List Addr} {a b : Heap} (h : KeptBut Z a b) (s : ∀ x ∈ Z, x ∈ W) : KeptBut W a b := fun x o n e => h x o (fun m => n (s x m)) e
/-- where the generator's loop stands -/
structure LoopAt (loc it L : Addr) (its : List Value) (i : Nat) (h : Heap) : Prop where
  ns : ∃ m, h.Ns loc m
  itr : h.IsListIter it L i
  lst : h.IsList L its.toArray
/-- what the consumer may do while the generator sleeps -/
structure Kp (Zc : List Addr) (s s' : Shared) : Prop where
  os : s'.os = s.os
  bare : AllBare s'.gens
  keep : KeptBut Zc s.heap s'.heap
/-- an item goes out -/
def YW (os : OsState) (Zc : List Addr) (Lk : Heap → List Value → Prop) (Al : Heap → Prop) (Vl : Value → Heap → Prop) (N : Nat) : Protocol := fun n s₀ v s kap =>
  ∃ vs, vs.length + n + 1 = N ∧ Lk s.heap vs ∧ s.os = os ∧ AllBare s.gens ∧ Al s.heap ∧ Vl v s.heap ∧ (∀ b ∈ Zc, ∀ o, s₀.heap.get? b = some o → s.heap.get? b = some o) ∧
    ∀ s', Kp Zc s s' → Lk s'.heap (vs ++ [v]) → kap (.send .none) s'
/-- the same, with a mark below which stands all that the generator holds -/
def YG (os : OsState) (Zc : List Addr) (Lk : Nat → Heap → List Value → Prop) (Al : Heap → Prop) (Vl : Value → Heap → Prop) (N : Nat) : Protocol := fun n s₀ v s kap =>
  ∃ n0, n0 ≤ s.heap.objs.size ∧ YW os Zc (Lk n0) Al Vl N n s₀ v s kap
theorem _root_.PySem.Heap.IsListIter.lt2 {h : Heap} {it L : Addr} {i : Nat} (x : h.IsListIter it L i) : it < h.objs.size := by
  obtain ⟨o, ho, _⟩ := x
  exact Heap.lt_size ho
section
variable {prog : Program} {w : World} {A : Around} {R : GenEnd} {c : Code} {fs : List Frame} {env : Env}
  {K : Flow → Sem PySem.Fin} {J : Value → Sem PySem.Fin} {gd : Bool → Bool} {lv : List Value → List Value}
  {Zc : List Addr} {Lk : Heap → List Value → Prop} {Al : Heap → Prop} {Vl : Value → Heap → Prop} {it L : Addr} {its : List Value} {Sf : Shared}
/-- the loop's standing at a turn -/
structure Tn (env : Env) (Sf : Shared) (Zc : List Addr) (Lk : Heap → List Value → Prop) (it L : Addr) (its : List Value) (i : Nat) (s : Shared) : Prop where
  os : s.os = Sf.os
  bare : AllBare s.gens
  keep : KeptBut (it :: env.locals :: Zc) Sf.heap s.heap
  at_ : LoopAt env.locals it L its i s.heap
  lk : Lk s.heap (its.take i)
theorem seg_turns {x : Str} {p0 p1 p2 p3 : Pos} {p : Pos} {N : Nat} (hk : env.scope.kind = .function) (hw : env.kindOf x = some .local) (hd : (x == ("__debug__" : Str)) = false)
    (hco : env.scope.isCoroutine = false) (hi : interactive env = false)
    (hsp : splitAtGen fs = none) (hgd : gd false = false) (hfg : fs.any Frame.guarded = false) (hh : (A.over c fs).handled = none)
    (hne : it ≠ env.locals) (hLn : L ∉ it :: env.locals :: Zc) (hiZ : it ∉ Zc) (hlZ : env.locals ∉ Zc) (hlen : its.length ≤ N)
    (hLk : ∀ h h' vs i m, h.IsListIter it L i → h.Ns env.locals m → KeptBut [it, env.locals] h h' → Lk h vs → Lk h' vs)
    (hAl : ∀ h, KeptBut (it :: env.locals :: Zc) Sf.heap h → it < h.objs.size → Al h) (hVl : ∀ v ∈ its, ∀ h, KeptBut (it :: env.locals :: Zc) Sf.heap h → Vl v h)
    (hend : ∀ (n : Nat) (s₀ s : Shared), s.os = Sf.os → AllBare s.gens → KeptBut (it :: env.locals :: Zc) Sf.heap s.heap → Lk s.heap its → (∀ b ∈ Zc, ∀ o, s₀.heap.get? b = some o → s.heap.get? b = some o) → Seg (model prog w) A R (YW Sf.os Zc Lk Al Vl N) n s₀ c (K .next) fs s) :
    ∀ (r i n : Nat) (s₀ s : Shared), i + r = its.length → i + n = N → Tn env Sf Zc Lk it L its i s → (∀ b ∈ Zc, ∀ o, s₀.heap.get? b = some o → s.heap.get? b = some o) →
      Seg (model prog w) A R (YW Sf.os Zc Lk Al Vl N) n s₀ (.forLoop (.Name x p0) (.ref it) [.Expr (.Yield (some (.Name x p1)) p2) p3] [] env)
        ((model prog w).den (.forLoop (.Name x p0) (.ref it) [.Expr (.Yield (some (.Name x p1)) p2) p3] [] env)) (loopFrame env K J gd lv c p :: fs) s := by
  have hov : A.over (.forLoop (.Name x p0) (.ref it) [.Expr (.Yield (some (.Name x p1)) p2) p3] [] env) (loopFrame env K J gd lv c p :: fs) = A.over c fs := over_loop rfl rfl
  intro r
  induction r with
  | zero =>
    intro i n s₀ s hir hn T hZ
    refine seg_forLoop ?_
    rw [hov]
    refine wpAny_pyNext_list_end hh T.at_.itr T.at_.lst (by simp; omega) fun h' eb => ?_
    refine seg_block_nil (seg_leaf (.ok .next) ?_)
    have e1 : its.take i = its := List.take_of_length_le (by omega)
    obtain ⟨m, hm⟩ := T.at_.ns
    have k1 : KeptBut [it, env.locals] s.heap h' := fun b o nb e => eb b o (fun z => nb (by rw [z]; simp)) e
    exact hend n s₀ { s with heap := h' } T.os T.bare (T.keep.trans (k1.sub (by simp))) (by rw [← e1]; exact hLk _ _ _ _ _ T.at_.itr hm k1 T.lk) (fun b hb o e => eb b o (fun z => hiZ (z ▸ hb)) (hZ b hb o e))
  | succ r ih =>
    intro i n s₀ s hir hn T hZ
    obtain ⟨v, hv⟩ : ∃ v, its[i]? = some v := ⟨_, List.getElem?_eq_getElem (show i < its.length by omega)⟩
    obtain ⟨n, rfl⟩ : ∃ k, n = k + 1 := ⟨n - 1, by omega⟩
    obtain ⟨m, hm⟩ := T.at_.ns
    refine seg_forLoop ?_
    rw [hov]
    refine wpAny_pyNext_list_item T.at_.itr T.at_.lst (x := v) (by simpa using hv) fun h1 it1 sb1 => ?_
    refine wpAny_pure ?_
    have hm1 : h1.Ns env.locals m := hm.sameBut sb1 (Ne.symm hne)
    refine wpAny_assign_Name (wpAny_storeName_local hw hm1 (fun h2 ns2 sb2 => ?_) (by rw [hk]; rfl))
    refine seg_execs_cons (seg_Expr_Yield ?_ rfl ?_ ?_ hco hi)
    · show (splitAtGen fs).map _ = none
      rw [hsp]; rfl
    · show (gd false || fs.any Frame.guarded) = false
      rw [hgd, hfg]; rfl
    rw [hov]
    refine wpAny_Name (wpAny_loadName_local (v := v) hk hw ns2 (if_pos rfl) ?_) hd
    have k12 : KeptBut [it, env.locals] s.heap h2 := fun b o nb e => by
      have n1 : b ≠ it := fun z => nb (by rw [z]; simp)
      have n2 : b ≠ env.locals := fun z => nb (by rw [z]; simp)
      exact (sb2.2 b n2).trans ((sb1.2 b n1).trans e)
    have kS : KeptBut (it :: env.locals :: Zc) Sf.heap h2 := T.keep.trans (k12.sub (by simp))
    have hLL : L ≠ it ∧ L ≠ env.locals ∧ L ∉ Zc := by simpa using hLn
    have at2 : LoopAt env.locals it L its (i + 1) h2 := ⟨⟨_, ns2⟩, it1.at fun o e => (sb2.2 it hne).trans e, T.at_.lst.at fun o e => k12 L o (by simp [hLL]) e⟩
    have etk : its.take (i + 1) = its.take i ++ [v] := by rw [List.take_succ, hv]; rfl
    intro kap hkap
    refine ⟨its.take i, ?_, hLk _ _ _ _ _ T.at_.itr hm k12 T.lk, T.os, T.bare, hAl _ kS (at2.itr.lt2), hVl v (List.mem_of_getElem? hv) _ kS, fun b hb o e => k12 b o ?_ (hZ b hb o e), fun s' kp lk' => ?_⟩
    · rw [List.length_take]
      omega
    · simp only [List.mem_cons, List.not_mem_nil, or_false, not_or]
      exact ⟨fun z => hiZ (z ▸ hb), fun z => hlZ (z ▸ hb)⟩
    refine hkap .none s' ?_
    refine seg_execs_nil ?_
    refine seg_again rfl ?_
    refine ih (i + 1) n s' s' (by omega) (by omega) ⟨kp.os.trans T.os, kp.bare, kS.trans (kp.keep.sub (by intro z hz; simp [hz])), ?_, by rw [etk]; exact lk'⟩ fun b _ o e => e
    obtain ⟨m2, hm2⟩ := at2.ns
    refine ⟨?_, at2.itr.at fun o e => kp.keep it o hiZ e, at2.lst.at fun o e => kp.keep L o hLL.2.2 e⟩
    obtain ⟨o, es, ep, ho, r⟩ := hm2
    exact ⟨m2, o, es, ep, kp.keep _ o hlZ ho, r⟩
end
end K82W
end K82Turns_part
section K82Gen_part
set_option Elab.async false
set_option linter.all false
set_option maxRecDepth 100000
set_option maxHeartbeats 1000000
namespace K82W
open PySem PySem.Spec PyProof.Rows L2 GenW
/-- behind steps that touch only young things that nobody tracks -/
theorem Inv.far {X : Cx} {pins : List (Addr × Obj)} {σ : List (Option V)} {H : Hp} {s s' : Shared} {Z : List Addr} (I : Inv X pins σ H s) (k : KeptBut Z s.heap s'.heap) (hZ : ∀ b ∈ Z, X.s_0.heap.objs.size ≤ b ∧ H b = none) :
    Un X.fs X.ex X.H_0 H X.s_0.heap s'.heap ∧ HOk X.prog X.w H s'.heap := by
  have u := I.base
  have old : ∀ b o, X.s_0.heap.get? b = some o → b ∉ Z := fun b o e hb => absurd (Nat.lt_of_lt_of_le (Heap.lt_size e) (hZ b hb).1) (Nat.lt_irrefl _)
  have tr : ∀ b u, H b = some u → b ∉ Z := fun b u e hb => by rw [(hZ b hb).2] at e; cases e
  refine ⟨⟨fun b o e n h1 h2 => k b o (old b o e) (u.keep b o e n h1 h2), fun b o e n h1 h2 => ?_, u.free, fun b o e h2 => ?_, u.tups, u.frzs, u.tbls⟩, fun b ob e => ?_⟩
  · obtain ⟨sl, q⟩ := u.slot b o e n h1 h2
    exact ⟨sl, k b _ (old b o e) q⟩
  · obtain ⟨o', q⟩ := u.there b o e h2
    exact ⟨o', k b _ (old b o e) q⟩
  · refine (I.hok b ob e).stay (fun c w' hc q => k c _ ?_ q) (fun _ q => q) fun _ _ q => q
    rcases hc with rfl | hc
    · exact tr _ _ e
    · exact tr _ _ hc
def iterOf : List Stmt → Expr
  | .For _ i _ _ _ :: _ => i
  | _ => .Constant .none 0 default
theorem gs_ways : GScope n_ways p_ways (defScope s_ways) := ⟨by decide +kernel, by decide +kernel, by decide +kernel, by decide +kernel, by decide +kernel, by decide +kernel, by decide +kernel⟩
def AlG (ga g : Nat) (h : Heap) : Prop := h.NoLimit ∧ h.IsGen ga g
def VlG (v : Value) (h : Heap) : Prop := ∃ t its x, v = .ref t ∧ h.IsTuple t its ∧ its[0]? = some x ∧ its.size ≤ sizeLine
/-- the end of the generator's run -/
def GRes (P : Program) (w : World) (outer : List Env) (sc : Shared) (H : Hp) (Zc : List Addr) (Lk : Nat → Heap → List Value → Prop) (B : List PStm) : GenEnd := fun n s₀ r s =>
  (r = .ok (.ret .none) ∨ r = .ok .next) ∧ ∃ (H' : Hp) (ys : List V) (vs : List Value) (n0 : Nat), s.os = sc.os ∧ AllBare s.gens ∧ Un (frs outer) [] H H' sc.heap s.heap ∧ HOk P w H' s.heap ∧ Same H H' ∧ Vals ys vs ∧ Paired (RowAt H') ys (waysOf B) ∧ Lk n0 s.heap vs ∧ (∀ b ∈ Zc, H' b = none) ∧ (∀ b u, H' b = some u → b < n0) ∧ ∀ b ∈ Zc, ∀ o, s₀.heap.get? b = some o → s.heap.get? b = some o
section
variable {P : Program} {w : World} {K : PySem.W.Frag} {mg : Str → Option Value} {base : Heap}
abbrev envW (sc : Shared) (f : Addr) (cdv : Value) : Env := envOfC "ways" (defScope s_ways) sc.heap.objs.size f cdv
theorem seg_ways (T : TxV P K mg w) {f : Addr} {cdv : Value} {Aw : Around} {outer : List Env} {sc s1 s2 : Shared} {H : Hp} {us : List Value} {a b qa : Addr} {bits : V} {xs : List V} {B : List PStm} {Zc : List Addr} {Lk : Nat → Heap → List Value → Prop} {ga g N : Nat}
    (hr : Room 10 (Aw.deeper (envW sc f cdv))) (hrd : Aw.handled = none) (e0 : Env0 P w K mg base Aw outer sc H) (r : Vals [.ref a, bits, .ref qa] us)
    (x : InCallC sc sc.heap.objs.size (bindL (envW sc f cdv).kindOf (p_ways.zip us) fun _ => none) (cellsFrom (sc.heap.objs.size + 1) (defScope s_ways).names []) (bindC (envW sc f cdv).kindOf (p_ways.zip us) fun _ => none) s1)
    (kp : ∀ b o, s1.heap.get? b = some o → s2.heap.get? b = some o) (hos : s2.os = sc.os) (hb : AllBare s2.gens)
    (hga : s1.heap.objs.size ≤ ga) (hg : s2.heap.IsGen ga g)
    (hZ : ∀ b ∈ Zc, s1.heap.objs.size ≤ b ∧ ∃ o, s2.heap.get? b = some o ∧ ∀ v, o.data ≠ .cell v) (hgZ : ga ∉ Zc)
    (hP : PrgAt H a b xs B) (hqa : SqT K H qa []) (hB1 : B.length ≤ 100) (hB2 : K82.readsOf B ≤ 5) (hB3 : wishesOf B ≤ 1)
    (hLk0 : ∀ n0 h, (∀ b ∈ Zc, ∀ o, s2.heap.get? b = some o → h.get? b = some o) → Lk n0 h [])
    (hLk : ∀ n0 it loc h h' vs L i m, h.IsListIter it L i → h.Ns loc m → KeptBut [it, loc] h h' → Lk n0 h vs → Lk n0 h' vs)
    (hN : (waysOf B).length ≤ N) :
    Seg (model P w) Aw (GRes P w outer sc H Zc Lk B) (YG sc.os Zc Lk (AlG ga g) VlG N) N s2 (.func (defBody s_ways) (envW sc f cdv)) ((model P w).den (.func (defBody s_ways) (envW sc f cdv))) [] s2 := by
  have I1 : Inv (gcxOf P w K mg base n_ways "ways" (defScope s_ways) f cdv Aw outer sc H E0 []) [] (start n_ways [.ref a, bits, .ref qa]) H s1 := inv_startG gs_ways hrd e0 rfl r x
  obtain ⟨h1, tk, es1, hk1⟩ := id x.done
  have os1 : s1.os = sc.os := by rw [es1]
  have lt1 : sc.heap.objs.size < s1.heap.objs.size := x.toInCall.ns.lt
  have I2 : Inv (gcxOf P w K mg base n_ways "ways" (defScope s_ways) f cdv Aw outer sc H E0 []) [] (start n_ways [.ref a, bits, .ref qa]) H s2 :=
    I1.call' (ch := []) (hos.trans os1.symm) (Un.kept kp) (I1.hok.kept kp) hb fun b z => by simp at z
  have young : ∀ b, s1.heap.objs.size ≤ b → H b = none ∧ b ≠ (envW sc f cdv).locals ∧ b ∉ frs outer ∧ sc.heap.objs.size ≤ b := fun b hb =>
    ⟨I1.hok.fresh hb, Nat.ne_of_gt (Nat.lt_of_lt_of_le lt1 hb), I1.nofs hb, Nat.le_trans (Nat.le_of_lt lt1) hb⟩
  have I3 : Inv (gcxOf P w K mg base n_ways "ways" (defScope s_ways) f cdv Aw outer sc H E0 []) ([] ++ pinsAt (ga :: Zc) s2.heap) (start n_ways [.ref a, bits, .ref qa]) H s2 := by
    refine Inv.pinned I2 (fun b hb => ?_) fun b hb => ?_
    · have hy : s1.heap.objs.size ≤ b := by
        rcases List.mem_cons.mp hb with rfl | hb
        · exact hga
        · exact (hZ b hb).1
      obtain ⟨y1, y2, y3, y4⟩ := young b hy
      exact I1.fpOk hy y1
    · rcases List.mem_cons.mp hb with rfl | hb
      · obtain ⟨o, nm, qn, ho, hc, hd, hs⟩ := hg
        exact ⟨o, ho, fun v z => by rw [hd] at z; cases z⟩
      · exact (hZ b hb).2
  have PW : PE (gcxOf P w K mg base n_ways "ways" (defScope s_ways) f cdv Aw outer sc H E0 []).nox (iterOf (defBody s_ways)) (tCall (spWaysOf K) [] E0 (tCons (tVar 0) (tCons (tVar 1) (tCons (tVar 2) tNil)))) :=
    pe_c (c_ways_of T) hr (Nat.le_refl _) (by rfl) passL (pa_cons (pv 0) (pa_cons (pv 1) (pa_cons (pv 2) pa_nil)))
  refine seg_func ?_
  refine seg_execs_cons (seg_For (fun _ => rfl) ?_)
  rw [over_func]
  refine wpAny_mono (PW.run _ s2 _ H (fun v H' => ∃ q ys, v = .ref q ∧ Same H H' ∧ H' q = some (.lst ys) ∧ Paired (RowAt H') ys (waysOf B)) (I3.wish _) ?_) (fun v s3 hv => ?_) fun _ _ z => False.elim z
  · exact ⟨_, rfl, _, rfl, _, rfl, a, b, bits, qa, xs, B, rfl, hP, hqa, hB1, hB2, hB3, fun H' q ys s h1 h2 => ⟨q, ys, rfl, s, h1, h2⟩⟩
  obtain ⟨vv, H', I4, rv, q, ys, rfl, sm, hq, hrows⟩ := hv
  obtain rfl : v = Value.ref q := rv
  obtain ⟨its, rits, pl, hz⟩ := I4.list (SqL.of hq)
  refine wpAny_pyIter_list pl.isList ?_
  generalize hit : s3.heap.objs.size = it
  generalize hs4 : ({ s3 with heap := s3.heap.push { cls := .type "list_iterator", data := .fields #[.ref q, .int 0 0] } } : Shared) = s4
  have k34 : ∀ b o, s3.heap.get? b = some o → s4.heap.get? b = some o := fun b o e => by rw [← hs4]; exact Heap.get?_push_of_some _ e
  have I5 : Inv (gcxOf P w K mg base n_ways "ways" (defScope s_ways) f cdv Aw outer sc H E0 []) ([] ++ pinsAt (ga :: Zc) s2.heap) (start n_ways [.ref a, bits, .ref qa]) H' s4 := by
    rw [← hs4]
    exact Inv.kept (t' := s3.toks) I4.unwish fun b o e => Heap.get?_push_of_some _ e
  have eos : s4.os = sc.os := I5.os
  have pz : ∀ b ∈ ga :: Zc, ∃ o, s2.heap.get? b = some o ∧ s3.heap.get? b = some o ∧ s4.heap.get? b = some o ∧ H' b = none ∧ b ≠ (envW sc f cdv).locals := fun b hb => by
    obtain ⟨o, ho⟩ : ∃ o, s2.heap.get? b = some o := by
      rcases List.mem_cons.mp hb with rfl | hb
      · obtain ⟨o, nm, qn, ho, _⟩ := hg
        exact ⟨o, ho⟩
      · obtain ⟨o, ho, _⟩ := (hZ b hb).2
        exact ⟨o, ho⟩
    have m := mem_pinsAt hb ho
    obtain ⟨p1, p2, p3, _⟩ := I4.pin (b, o) (List.mem_append_right _ (List.mem_append_right _ m))
    exact ⟨o, ho, p1, k34 _ _ p1, p2, p3⟩
  have lim0 : sc.heap.NoLimit := e0.mod.nolimit.keeps fun b o e => (e0.bs b o e).1
  have cst : cStatics < sc.heap.objs.size := let ⟨_, hn, _⟩ := lim0; hn.lt
  have loclt : (envW sc f cdv).locals < s3.heap.objs.size := I4.lt
  have locH : H' (envW sc f cdv).locals = none := I4.free
  have hne : it ≠ (envW sc f cdv).locals := by rw [← hit]; exact Nat.ne_of_gt loclt
  have itH : H' it = none := I4.hok.fresh (Nat.le_of_eq hit)
  have itS : s4.heap.get? it = some { cls := .type "list_iterator", data := .fields #[.ref q, .int 0 0] } := by rw [← hs4, ← hit]; exact Heap.get?_push_size _ rfl
  have itsz : sc.heap.objs.size ≤ it := by rw [← hit]; exact I4.sz
  have there : ∀ b o, s3.heap.get? b = some o → b ≠ it := fun b o e => by rw [← hit]; exact Nat.ne_of_lt (Heap.lt_size e)
  have hiZ : it ∉ Zc := fun z => by
    obtain ⟨o, _, e, _⟩ := pz it (List.mem_cons_of_mem _ z)
    exact there _ _ e rfl
  have hlZ : (envW sc f cdv).locals ∉ Zc := fun z => (pz _ (List.mem_cons_of_mem _ z)).choose_spec.2.2.2.2 rfl
  have nZ : ∀ b u, H' b = some u → b ∉ it :: (envW sc f cdv).locals :: Zc := fun b u e hb => by
    rcases List.mem_cons.mp hb with rfl | hb
    · rw [itH] at e; cases e
    rcases List.mem_cons.mp hb with rfl | hb
    · rw [locH] at e; cases e
    · obtain ⟨_, _, _, _, z, _⟩ := pz b (List.mem_cons_of_mem _ hb)
      rw [z] at e; cases e
  have oldZ : ∀ b ∈ it :: (envW sc f cdv).locals :: Zc, sc.heap.objs.size ≤ b ∧ H' b = none := fun b hb => by
    rcases List.mem_cons.mp hb with rfl | hb
    · exact ⟨itsz, itH⟩
    rcases List.mem_cons.mp hb with rfl | hb
    · exact ⟨Nat.le_refl _, locH⟩
    · obtain ⟨_, _, _, _, z, _⟩ := pz b (List.mem_cons_of_mem _ hb)
      exact ⟨(young b (hZ b hb).1).2.2.2, z⟩
  have hgnZ : ga ∉ it :: (envW sc f cdv).locals :: Zc := fun hb => by
    obtain ⟨o, _, e, _, _, z⟩ := pz ga List.mem_cons_self
    rcases List.mem_cons.mp hb with h | hb
    · exact there _ _ e h
    rcases List.mem_cons.mp hb with h | hb
    · exact z h
    · exact hgZ hb
  intro p
  show Seg (model P w) Aw (GRes P w outer sc H Zc Lk B) (YG sc.os Zc Lk (AlG ga g) VlG N) N s2 _ _ _ s4
  rw [← eos]
  refine seg_imp (R := GRes P w outer sc H Zc Lk B) (Y := YW s4.os Zc (Lk it) (fun h => it ≤ h.objs.size ∧ AlG ga g h) VlG N) (fun _ _ _ _ z => z) (fun n s₀ v s kap kap' hk hY => ?_) N ?_
  · obtain ⟨vs, q1, q2, q3, q4, ⟨q5, q6⟩, q7, q8, q9⟩ := hY
    exact ⟨it, q5, vs, q1, q2, q3, q4, q6, q7, q8, fun s' k1 k2 => hk _ _ (q9 s' k1 k2)⟩
  refine seg_turns rfl (by show (defScope s_ways).names.lookup _ = _; rfl) (by decide) rfl rfl rfl rfl rfl (by rw [over_func]; exact hrd) hne (nZ q _ hq) hiZ hlZ ?_
    (fun h h' vs i m h1 h2 h3 h4 => hLk it it _ h h' vs q i m h1 h2 h3 h4) ?_ ?_ ?_ its.length 0 N s2 s4 (Nat.zero_add _) (Nat.zero_add _) ⟨rfl, I5.bare, KeptBut.refl _ _, ?_, ?_⟩ ?_
  · have h1 := rits.length
    have h2 := paired_len hrows
    omega
  · intro h k hlt
    obtain ⟨mc, ⟨o, es, ep, ho, hr⟩, hnn⟩ := I5.nolimit
    refine ⟨Nat.le_of_lt hlt, ⟨mc, ⟨o, es, ep, k _ o (fun z => absurd (Nat.lt_of_lt_of_le cst (oldZ _ z).1) (Nat.lt_irrefl _)) ho, hr⟩, hnn⟩, ?_⟩
    obtain ⟨o, nm, qn, ho, r⟩ := hg
    obtain ⟨o', e1, _, e3, _⟩ := pz ga List.mem_cons_self
    rw [ho] at e1
    cases e1
    exact ⟨o, nm, qn, k _ _ hgnZ e3, r⟩
  · intro v hv h k
    obtain ⟨j, hj⟩ := List.getElem?_of_mem hv
    obtain ⟨y, hy⟩ : ∃ y, ys[j]? = some y := by
      have h1 := rits.length
      exact ⟨_, List.getElem?_eq_getElem (by rw [h1]; exact (List.getElem?_eq_some_iff.mp hj).1)⟩
    obtain ⟨u, hu, ru⟩ := rits.get hy
    obtain rfl : u = v := Option.some.inj (hu.symm.trans hj)
    obtain ⟨rw_, _, hrow⟩ := pget hrows hy
    obtain ⟨t, tr, ts, e, tl, sv, lv, rfl, h1, _⟩ := hrow
    obtain rfl : u = Value.ref t := ru
    obtain ⟨its2, r2, ⟨o, ho, hc, n2, hd⟩, hlen2⟩ := I5.tuple (SqT.of h1)
    obtain ⟨u2, hu2, _⟩ := r2.get (i := 0) rfl
    exact ⟨t, its2.toArray, u2, rfl, ⟨o, k _ _ (nZ t _ h1) ho, hc, n2, hd⟩, by simpa using hu2, by have z := r2.length; simp at z ⊢; rw [← z]; decide⟩
  · intro n s₀ s hos' hb' k lk hz0
    obtain ⟨un, hok⟩ := Inv.far I5 k oldZ
    exact seg_execs_nil (seg_end (.ok (.ret .none)) ⟨.inl rfl, H', ys, its, it, hos'.trans eos, hb', un, hok, sm, rits, hrows, lk, fun b hb => (oldZ b (List.mem_cons_of_mem _ (List.mem_cons_of_mem _ hb))).2, fun b u e => Nat.lt_of_not_le (fun z => by rw [I4.hok.fresh (by rw [hit]; exact z)] at e; cases e), hz0⟩)
  · obtain ⟨m, hm, _⟩ := I5.loc
    exact ⟨⟨m, hm⟩, ⟨_, itS, rfl, rfl⟩, pl.isList.at fun o e => k34 _ _ e⟩
  · exact hLk0 _ _ fun b hb o e => by
      obtain ⟨o', e1, _, e3, _⟩ := pz b (List.mem_cons_of_mem _ hb)
      rw [e] at e1; cases e1
      exact e3
  · intro b hb o e
    obtain ⟨o', e1, _, e3, _⟩ := pz b (List.mem_cons_of_mem _ hb)
    rw [e] at e1; cases e1
    exact e3
end
end K82W
end K82Gen_part
section K82Made_part
set_option Elab.async false
set_option linter.all false
set_option maxRecDepth 100000
set_option maxHeartbeats 1000000
namespace K82W
open PySem PySem.Spec PyProof.Rows L2 GenW
structure TxI (P : Program) (K : PySem.W.Frag) (mg : Str → Option Value) (w : World) : Prop extends TxL P K mg w where
  d_ways : ∃ fd qa, FunD K "ways" "ways" (defArgs s_ways) (defBody s_ways) (defScope s_ways) [] [("paused", .ref qa)] (He.ga K "ways") fd ∧ ∀ H : Hp, SqT K H qa []
  g_ways : mg "ways" = some (.ref (He.ga K "ways"))
/-- a call of ways has given a generator that has not begun; sc: as the call began, H its heap -/
structure WMade (P : Program) (w : World) (K : PySem.W.Frag) (f : Addr) (sc s' : Shared) (p : V) (q : V) (ga g : Nat) : Prop where
  ex : ∃ (cdv : Value) (us : List Value) (qa : Addr) (s1 : Shared), (∀ H : Hp, SqT K H qa []) ∧ Vals [p, q, .ref qa] us ∧
    InCallC sc sc.heap.objs.size (bindL (envW sc f cdv).kindOf (p_ways.zip us) fun _ => none) (cellsFrom (sc.heap.objs.size + 1) (defScope s_ways).names []) (bindC (envW sc f cdv).kindOf (p_ways.zip us) fun _ => none) s1 ∧
    (∀ b o, s1.heap.get? b = some o → s'.heap.get? b = some o) ∧ s1.heap.objs.size ≤ ga ∧ s'.gens[g]? = some (.fresh (.func (defBody s_ways) (envW sc f cdv)))
  os : s'.os = sc.os
  bare : AllBare s'.gens
  gen : s'.heap.IsGen ga g
  lim : s'.heap.NoLimit
  keep : ∀ b o, sc.heap.get? b = some o → s'.heap.get? b = some o
  lt : ga < s'.heap.objs.size
section
variable {P : Program} {w : World} {K : PySem.W.Frag} {mg : Str → Option Value} {base : Heap}
theorem run_ways (T : TxI P K mg w) {A : Around} {outer : List Env} {s : Shared} {H : Hp} {u1 u2 : Value} {p q : V} (hr : Room 12 A) (e0 : Env0 P w K mg base A outer s H) (r1 : RelV p u1) (r2 : RelV q u2) :
    codeAny (model P w) A (.call (.ref (He.ga K "ways")) ⟨[u1, u2], []⟩) (fun r s' => ∃ ga g, r = .ok (.ret (.ref ga)) ∧ WMade P w K (He.ga K "ways") s s' p q ga g) s := by
  obtain ⟨fd, qa, F, hqa⟩ := T.d_ways
  have KX : K.In s.heap := e0.mod.kin.keeps fun b o e => (e0.bs b o e).1
  have lim : s.heap.NoLimit := e0.mod.nolimit.keeps fun b o e => (e0.bs b o e).1
  obtain ⟨ds, rds, hbd⟩ := FunD.binds0 (ps := p_ways) F 2 (by simp) rfl (fun D doc pm an cdv ct us ks hu hk => match us, ks, hu, hk with
    | [_, _], [_], _, _ => ⟨_, _, _, _, _, _, rfl, rfl, rfl⟩)
  obtain ⟨oc, od, dV, kV, doc, pm, an, cdv, ct, osl, rfl, lk, hcd, hD, hK⟩ := F.ex
  have rr : Vals [p, q, .ref qa] ([u1, u2] ++ ds) := .cons r1 (.cons r2 rds)
  have hlen : ([u1, u2] ++ ds).length = p_ways.length := by rw [← rr.length]; rfl
  have hb := hbd s [u1, u2] KX hlen
  have hkind : ∀ y ∈ p_ways.zip ([u1, u2] ++ ds), (defScope s_ways).names.lookup y.1 = some .local ∨ ((defScope s_ways).names.lookup y.1 = some .cell ∧ ((cellsFrom (s.heap.objs.size + 1) (defScope s_ways).names []).lookup y.1).isSome = true) := fun ⟨n, v⟩ hy => by
    rcases gs_ways.par n (List.of_mem_zip hy).1 with q | q
    · exact .inl q
    · exact .inr ⟨q, PySem.W.cellsFrom_some _ _ _ (.inl q)⟩
  refine codeAny_call_generator hr.depth (KX _ _ lk) rfl gs_ways.co gs_ways.gen rfl (PySem.W.codeRec_of KX hcd) (hb _ _ _ _ ?_)
  refine wpAny_newFunctionEnv_cells gs_ways.kind hkind fun env he s1 x => ?_
  subst he
  have lim1 : s1.heap.NoLimit := lim.keeps x.toInCall.keep
  refine ⟨lim1, ?_⟩
  obtain ⟨h1, tk, es1, hk1⟩ := x.done
  refine ⟨s1.heap.objs.size, s1.gens.size, rfl, ⟨⟨cdv, _, qa, s1, hqa, rr, x, fun b o e => Heap.get?_push_of_some _ e, Nat.le_refl _, Array.getElem?_push_size ..⟩, by rw [es1], AllBare.push (by rw [es1]; exact e0.bare) rfl, ?_, lim1.keeps fun b o e => Heap.get?_push_of_some _ e, fun b o e => Heap.get?_push_of_some _ (x.toInCall.keep b o e), ?_⟩⟩
  · exact ⟨_, _, _, Heap.get?_push_size _ rfl, rfl, rfl, rfl⟩
  · show _ < (s1.heap.push _).objs.size
    rw [Heap.size_push]
    exact Nat.lt_succ_self _
end
end K82W
end K82Made_part
section K82ListW_part
set_option Elab.async false
set_option linter.all false
set_option maxRecDepth 100000
set_option maxHeartbeats 1000000
namespace K82W
open PySem PySem.Spec PyProof.Rows L2 GenW
section
variable {P : Program} {w : World} {K : PySem.W.Frag} {mg : Str → Option Value} {base : Heap}
/-- the list at S holds what has been handed out -/
def LkS (S : Addr) (h : Heap) (vs : List Value) : Prop := ∃ c, h.get? S = some (lstObj vs.toArray c)
theorem LkS.go {S it loc L : Addr} {h h' : Heap} {vs : List Value} {i : Nat} {m : Str → Option Value} (h1 : h.IsListIter it L i) (h2 : h.Ns loc m) (k : KeptBut [it, loc] h h') (l : LkS S h vs) : LkS S h' vs := by
  obtain ⟨c, e⟩ := l
  obtain ⟨o, ho, hc, _⟩ := h1
  obtain ⟨o2, es, ep, ho2, hd2, _⟩ := h2
  refine ⟨c, k S _ ?_ e⟩
  simp only [List.mem_cons, List.not_mem_nil, or_false, not_or]
  refine ⟨fun z => ?_, fun z => ?_⟩
  · rw [← z, e] at ho
    obtain rfl := Option.some.inj ho
    exact absurd (show Value.type "list" = Value.type "list_iterator" from hc) (by decide)
  · rw [← z, e] at ho2
    obtain rfl := Option.some.inj ho2
    exact absurd hd2 (fun z => nomatch z)
def spWaysG (K : PySem.W.Frag) : SpG := fun vs H Q _ => ∃ (a b : Addr) (bits : V) (qa : Addr) (xs : List V) (B : List PStm), vs = [.ref a, bits, .ref qa] ∧ PrgAt H a b xs B ∧ SqT K H qa [] ∧ B.length ≤ 100 ∧ K82.readsOf B ≤ 5 ∧ wishesOf B ≤ 1 ∧ (waysOf B).length ≤ sizeLine ∧
  ∀ H' ys, Same H H' → Paired (RowAt H') ys (waysOf B) → Q ys H'
/-- what a call of ways gives, for list(..) -/
theorem made_list (T : TxI P K mg w) {A : Around} {outer : List Env} {s s' : Shared} {H : Hp} {a b ga g : Addr} {bits : V} {xs : List V} {B : List PStm} {Q : List V → Hp → Prop} (e0 : Env0 P w K mg base A outer s H)
    (m : WMade P w K (He.ga K "ways") s s' (.ref a) bits ga g) (hP : PrgAt H a b xs B) (hB1 : B.length ≤ 100) (hB2 : K82.readsOf B ≤ 5) (hB3 : wishesOf B ≤ 1) (hB4 : (waysOf B).length ≤ sizeLine)
    (hQ : ∀ H' ys, Same H H' → Paired (RowAt H') ys (waysOf B) → Q ys H') : GMade P w 11 outer H s [] Q E0 (.ref ga) s' := by
  obtain ⟨cdv, us, qa, s1, hqa, rr, x, kp, hga, hgs⟩ := m.ex
  have sz1 : s.heap.objs.size ≤ s1.heap.objs.size := Nat.le_of_lt x.toInCall.ns.lt
  refine ⟨ga, g, _, rfl, Nat.le_trans sz1 hga, m.lt, m.gen, hgs, m.os, m.bare, m.lim, m.keep, ?_⟩
  intro Aw S s2 hrw hfr hS hk2 hSo hos hba
  have e0w : Env0 P w K mg base Aw outer s H := ⟨hfr, e0.mod, e0.bs, e0.bsz, e0.funs, e0.frf, e0.hok, e0.bare⟩
  obtain ⟨c0, heS⟩ := hSo
  have h1S : s1.heap.objs.size ≤ S := by
    refine Nat.le_trans ?_ hS
    exact Nat.le_trans hga (Nat.le_of_lt m.lt)
  have main := seg_ways T.toTxV (base := base) (N := sizeLine) (Zc := [S]) (Lk := fun _ => LkS S) (hrw.deeper _) hrw.hd e0w rr x (fun b o e => hk2 b o (kp b o e)) hos hba hga (m.gen.keeps hk2)
    (fun b hb => by
      rw [List.mem_singleton.mp hb]
      exact ⟨h1S, _, heS, fun v z => by cases z⟩)
    (fun z => Nat.lt_irrefl _ (Nat.lt_of_lt_of_le m.lt (by rw [List.mem_singleton.mp z]; exact hS))) hP (hqa H) hB1 hB2 hB3
    (fun _ h k => ⟨c0, k S (List.mem_singleton.mpr rfl) _ heS⟩) (fun _ it loc h h' vs L i m h1 h2 h3 h4 => LkS.go h1 h2 h3 h4) hB4
  refine seg_imp (fun n s₀ r s3 hR => ?_) (fun n s₀ v s3 kap kap' hkk hY => ?_) sizeLine main
  · obtain ⟨hr, H', ys, vs, _, q1, q2, q3, q4, q5, q6, q7, ⟨c, q8⟩, q9, _⟩ := hR
    have hl := q6.length
    refine .inl ⟨hr, H', ys, vs.toArray, c, q1, q2, q3, q4, q9 S (List.mem_singleton.mpr rfl), q8, by simpa using q6, ?_, hQ H' ys q5 q7⟩
    rw [paired_len q7]
    exact hB4
  · obtain ⟨_, _, vs, q1, ⟨c, q2⟩, q3, q4, ⟨q5, q6⟩, q7, q8, q9⟩ := hY
    refine ⟨q3, q4, q5, q6, ⟨vs.toArray, c, q2, by simp; omega⟩, fun s' z => hkk _ _ (q9 s' ⟨z.os, z.bare, fun b o nb e => z.keep b o (fun y => nb (by rw [y]; simp)) e⟩ ?_)⟩
    obtain ⟨c', e'⟩ := z.own vs.toArray c q2
    exact ⟨c', by rw [e']; simp⟩
end
section
variable {X : Cx} {e1 e2 : Expr} {pos pos' p : Pos} {ta : TA}
/-- ways(a, b), as its arguments come -/
def tWays (P : Program) (K : PySem.W.Frag) (ta : TA) : TGen := fun σ H cont => ta σ H fun vs H1 => ∃ x y, vs = [x, y] ∧ ∃ (a b : Addr) (xs : List V) (B : List PStm), x = .ref a ∧ PrgAt H1 a b xs B ∧ B.length ≤ 100 ∧ K82.readsOf B ≤ 5 ∧ wishesOf B ≤ 1 ∧ (waysOf B).length ≤ sizeLine ∧
  ∀ H' ys, Same H1 H' → Paired (RowAt H') ys (waysOf B) → cont ys H'
/-- the call itself -/
theorem eval_ways (T : TxI X.prog X.K X.mg X.w) (hr : Room 12 X.A) (hg : Gl X "ways") (hk : PySem.W.keepIn X.K (.ref (He.ga X.K "ways")) = true) (ha : PA X [e1, e2] ta)
    (he : starEach [e1, e2] X.env = (false, eval e1 X.env) :: starEach [e2] X.env := by rfl) (hpl : (backTo pos' (starEach [e2] X.env)).any (·.1) = false := by rfl)
    {pins : List (Addr × Obj)} {s : Shared} {σ : L2.St} {H : Hp} {Q : V → V → Hp → Prop} (I : Inv X pins σ H s) (h : ta σ H fun vs H1 => ∃ x y, vs = [x, y] ∧ Q x y H1) :
    wpAny (model X.prog X.w) X.A (eval (.Call (.Name "ways" p) [e1, e2] [] pos') X.env)
      (fun u s' => ∃ x y H1 sc ga g, u = .ref ga ∧ Inv X pins σ H1 sc ∧ Q x y H1 ∧ WMade X.prog X.w X.K (He.ga X.K "ways") sc s' x y ga g) X.xe s := by
  refine wpAny_Call_Name_kw (ld_glob I hg T.g_ways ?_ (by decide))
  refine PySem.W.callWith_K (h₀ := X.base) I.ok.mod.kin hk (thn (ha.run pos' pins s σ H _ I h) fun us s1 ⟨vs, H1, I1, r, q⟩ => ⟨I1.kIn, ?_⟩) he hpl
  obtain ⟨x, y, rfl, q⟩ := q
  obtain ⟨u, u', rfl, r1, r2⟩ : ∃ u u', us = [u, u'] ∧ RelV x u ∧ RelV y u' := by
    cases r with
    | cons r1 r => cases r with
      | cons r2 r => cases r with
        | nil => exact ⟨_, _, rfl, r1, r2⟩
  refine wpAny_call (codeAny_mono (run_ways T hr I1.env0 r1 r2) fun r s' hq => ?_)
  obtain ⟨ga, g, rfl, m⟩ := hq
  exact ⟨x, y, H1, s1, ga, g, rfl, I1, q, m⟩
/-- list(ways(a, b)) -/
theorem pgen_ways (T : TxI X.prog X.K X.mg X.w) (hr : Room 12 X.A) (hg : Gl X "ways") (hk : PySem.W.keepIn X.K (.ref (He.ga X.K "ways")) = true) (ha : PA X [e1, e2] ta)
    (he : starEach [e1, e2] X.env = (false, eval e1 X.env) :: starEach [e2] X.env := by rfl) (hpl : (backTo pos' (starEach [e2] X.env)).any (·.1) = false := by rfl) : PGen X 11 (.Call (.Name "ways" p) [e1, e2] [] pos') (tWays X.prog X.K ta) E0 := by
  refine ⟨fun pins s σ H cont I h => ?_⟩
  refine wpAny_mono (eval_ways (Q := fun x y H1 => ∃ (a b : Addr) (xs : List V) (B : List PStm), x = .ref a ∧ PrgAt H1 a b xs B ∧ B.length ≤ 100 ∧ K82.readsOf B ≤ 5 ∧ wishesOf B ≤ 1 ∧ (waysOf B).length ≤ sizeLine ∧
    ∀ H' ys, Same H1 H' → Paired (RowAt H') ys (waysOf B) → cont ys H') T hr hg hk ha he hpl I ?_) (fun u s' hu => ?_) fun _ _ z => z
  · exact h
  · obtain ⟨x, y, H1, sc, ga, g, rfl, I1, ⟨a, b, xs, B, rfl, h1, h2, h3, h4, h5, h6⟩, m⟩ := hu
    exact ⟨H1, sc, [], I1, .nil, made_list T I1.env0 m h1 h2 h3 h4 h5 h6⟩
end
end K82W
end K82ListW_part
section K82Elt_part
set_option Elab.async false
set_option linter.all false
set_option maxRecDepth 100000
set_option maxHeartbeats 1000000
namespace K82W
open PySem PySem.Spec PyProof.Rows L2 GenW
section
variable {prog : Program} {w : World} {A : Around} {E : Value → Shared → Prop} {s : Shared} {env : Env}
/-- (row[0], row), all else as it was -/
theorem elt_row {x : Str} {p1 p2 p3 p4 p5 : Pos} {j k : Nat} {m : Str → Option Value} {va : Addr} {its : Array Value} {a : Value} {Q : Value → Shared → Prop} (hk : env.scope.kind = .function) (hw : env.kindOf x = some .local)
    (hd : (x == ("__debug__" : Str)) = false) (hn : s.heap.Ns env.locals m) (hv : m x = some (.ref va)) (ht : IsTup s.heap va its) (hz : its.size ≤ sizeLine) (hx : its[0]? = some a)
    (h : ∀ tk, Q (.ref s.heap.objs.size) { s with heap := s.heap.push { cls := .type "tuple", data := .seq #[a, .ref va] }, toks := tk }) :
    wpAny (model prog w) A (eval (.Tuple [.Subscript (.Name x p1) (.Constant (.int 0) j p2) p3, .Name x p4] k p5) env) Q E s := by
  refine wpAny_Tuple_spliced ?_
  refine Calls.spliced_cons (Subscript_ (wpAny_Name (wpAny_loadName_local (v := .ref va) hk hw hn hv (wpAny_Constant_int ?_)) hd))
  have hsz : 0 < its.size := (Array.getElem?_eq_some_iff.mp hx).1
  have hn63 := line63
  refine subscriptTail_builtinR (x := a) (T := "tuple") (s := { s with toks := s.toks + 1 }) ht.typeIs slot_tuple_getitem.lookup (getItem_tuple (j := 0) (Q := fun r s' => r = a ∧ _) ht (by decide) (by decide) ?_ hx ⟨rfl, ?_⟩)
  · unfold seqIndex?
    simp [hsz]
  refine Calls.spliced_cons (wpAny_Name (wpAny_loadName_local (v := .ref va) hk hw hn hv ?_) hd)
  refine Calls.spliced_nil ⟨by show 2 ≤ sizeLine; decide, h _⟩
end
end K82W
end K82Elt_part
section K82Track_part
set_option Elab.async false
set_option linter.all false
set_option maxRecDepth 100000
set_option maxHeartbeats 1000000
namespace K82W
open PySem PySem.Spec PyProof.Rows L2 GenW
/-! ### what stands already is tracked from now on -/
theorem HOk.add {P : Program} {w : World} {H : Hp} {h : Heap} {a : Addr} {o : HO} (x : HOk P w H h) (hn : H a = none) (new : ObjOk P w (upd H a o) h a o) : HOk P w (upd H a o) h := fun b u e => by
  by_cases hb : b = a
  · subst hb; rw [upd_same] at e; cases e; exact new
  · rw [upd_ne hb] at e
    exact (x b u e).stay (fun c v _ q => q) (fun c q => by rw [upd_ne (ne_of_none q hn)]; exact q) fun c xs q => by rw [upd_ne (ne_of_none q hn)]; exact q
theorem Un.add {fs : List Addr} {H H' : Hp} {h h' : Heap} {a : Addr} {o : HO} (u : Un fs [] H H' h h') (hn : H' a = none) (ha : h.objs.size ≤ a) : Un fs [] H (upd H' a o) h h' := by
  have lt : ∀ b ob, h.get? b = some ob → b ≠ a := fun b ob q => Nat.ne_of_lt (Nat.lt_of_lt_of_le (Heap.lt_size q) ha)
  refine ⟨u.keep, u.slot, fun b ob q n hx => ?_, u.there, fun b xs q => ?_, fun b ob y q => ?_, fun b qs q => ?_⟩
  · rw [upd_ne (lt b ob q)]; exact u.free b ob q n hx
  · have q2 := u.tups b xs q
    rw [upd_ne (ne_of_none q2 hn)]; exact q2
  · have q2 := u.frzs b ob y q
    rw [upd_ne (ne_of_none q2 hn)]; exact q2
  · obtain ⟨more, q2⟩ := u.tbls b qs q
    exact ⟨more, by rw [upd_ne (ne_of_none q2 hn)]; exact q2⟩
/-- a pair (first item of a row, the row) at t -/
def PairRow (H : Hp) (t : Addr) (r : K82.Row Str) : Prop := ∃ (x : V) (yt : Addr) (rest : List V), H t = some (.tup [x, .ref yt]) ∧ H yt = some (.tup (x :: rest)) ∧ RowAt H (.ref yt) r
theorem PairRow.mono {H H' : Hp} {t : Addr} {r : K82.Row Str} (h : PairRow H t r) (k : Tups H H') : PairRow H' t r := by
  obtain ⟨x, yt, rest, h1, h2, h3⟩ := h
  exact ⟨x, yt, rest, k _ _ h1, k _ _ h2, h3.mono k⟩
/-- a pair in the heap -/
def PairAt (h : Heap) (lo : Nat) (t : Addr) (v : Value) : Prop := lo ≤ t ∧ ∃ (r : Addr) (its : Array Value) (x : Value), v = .ref r ∧ IsTup h r its ∧ its[0]? = some x ∧ IsTup h t #[x, .ref r]
theorem isTup_eq {h : Heap} {a : Addr} {x y : Array Value} (p : IsTup h a x) (q : IsTup h a y) : x = y := by
  obtain ⟨o, ho, _, n, hd⟩ := p
  obtain ⟨o', ho', _, n', hd'⟩ := q
  rw [ho] at ho'
  cases ho'
  rw [hd] at hd'
  cases hd'
  rfl
theorem track {P : Program} {w : World} {fs : List Addr} {H : Hp} {h0 h : Heap} {lo : Nat} : ∀ {ts : List Addr} {vs : List Value} {ys : List V} {rows : List (K82.Row Str)} {H' : Hp},
    Paired (PairAt h lo) ts vs → Vals ys vs → Paired (RowAt H') ys rows → ts.Nodup → (∀ t ∈ ts, H' t = none ∧ h0.objs.size ≤ t) → HOk P w H' h → Un fs [] H H' h0 h →
    ∃ H'', Same H' H'' ∧ HOk P w H'' h ∧ Un fs [] H H'' h0 h ∧ Paired (PairRow H'') ts rows ∧ ∀ b, b ∉ ts → H'' b = H' b
  | [], [], _, _, H', _, hv, hr, _, _, ok, un => by
    cases hv
    cases hr
    exact ⟨H', fun _ _ e => e, ok, un, .nil, fun _ _ => rfl⟩
  | t :: ts, v :: vs, y :: ys, _, H', .cons hp hps, .cons ry rys, hr, nd, hn, ok, un => by
    cases hr with
    | cons hrow hrows =>
      rename_i row rows
      obtain ⟨hlo, r, its, x, rfl, i1, i2, i3⟩ := hp
      have hrow' := hrow
      obtain ⟨t', tr, tsd, e, tl, sv, lv, rfl, h1, _⟩ := hrow'
      obtain rfl : r = t' := by
        have := (show Value.ref r = Value.ref t' from ry)
        cases this
        rfl
      obtain ⟨_, its2, rv, i4⟩ := (show ObjOk P w H' h r (.tup _) from ok r _ h1)
      have ei := isTup_eq i1 i4
      cases rv with
      | cons rx rv =>
        rename_i u us
        obtain rfl : u = x := by
          rw [ei] at i2
          simpa using i2
        obtain ⟨hnt, hst⟩ := hn t List.mem_cons_self
        have nd' := List.nodup_cons.mp nd
        have ok1 : HOk P w (upd H' t (.tup [.ref tr, .ref r])) h := HOk.add ok hnt ⟨by show 2 ≤ sizeLine; decide, [u, .ref r], .cons rx (.cons rfl .nil), i3⟩
        have un1 : Un fs [] H (upd H' t (.tup [.ref tr, .ref r])) h0 h := Un.add un hnt hst
        have s1 : Same H' (upd H' t (.tup [.ref tr, .ref r])) := Same.upd hnt
        obtain ⟨H'', s2, ok2, un2, pr, st⟩ := track hps rys (pmono hrows fun a b q => q.mono s1.tups) nd'.2 (fun t2 ht2 => ⟨by
          rw [upd_ne (show t2 ≠ t from fun z => nd'.1 (by rw [← z]; exact ht2))]
          exact (hn t2 (List.mem_cons_of_mem _ ht2)).1, (hn t2 (List.mem_cons_of_mem _ ht2)).2⟩) ok1 un1
        refine ⟨H'', s1.trans s2, ok2, un2, .cons ⟨.ref tr, r, _, s2 _ _ upd_same, s2 _ _ (s1 _ _ h1), hrow.mono (s1.trans s2).tups⟩ pr, fun b hb => ?_⟩
        rw [st b (fun z => hb (List.mem_cons_of_mem _ z)), upd_ne (fun z => hb (by rw [z]; exact List.mem_cons_self))]
/-- the list D of the comprehension, so far -/
def LkC (D : Addr) (n0 : Nat) (h : Heap) (vs : List Value) : Prop := ∃ ts : List Addr, (∃ c, h.get? D = some (lstObj (ts.map Value.ref).toArray c)) ∧ ts.Nodup ∧ Paired (PairAt h (max n0 D)) ts vs
theorem PairAt.keep {h h' : Heap} {lo : Nat} {t : Addr} {v : Value} (p : PairAt h lo t v) (k : ∀ a its, IsTup h a its → IsTup h' a its) : PairAt h' lo t v := by
  obtain ⟨q, r, its, x, e, i1, i2, i3⟩ := p
  exact ⟨q, r, its, x, e, k _ _ i1, i2, k _ _ i3⟩
theorem LkC.go {D it loc L : Addr} {n0 : Nat} {h h' : Heap} {vs : List Value} {i : Nat} {m : Str → Option Value} (h1 : h.IsListIter it L i) (h2 : h.Ns loc m) (k : KeptBut [it, loc] h h') (l : LkC D n0 h vs) : LkC D n0 h' vs := by
  obtain ⟨ts, ⟨c, e⟩, nd, pr⟩ := l
  obtain ⟨o, ho, hc, hd⟩ := h1
  obtain ⟨o2, es, ep, ho2, hd2, _⟩ := h2
  have st : ∀ b ob, h.get? b = some ob → ob.cls ≠ .type "list_iterator" → (∀ es ep, ob.data ≠ .dict es ep) → h'.get? b = some ob := fun b ob e n1 n2 => by
    refine k b _ ?_ e
    simp only [List.mem_cons, List.not_mem_nil, or_false, not_or]
    refine ⟨fun z => ?_, fun z => ?_⟩
    · rw [← z, e] at ho
      obtain rfl := Option.some.inj ho
      exact n1 hc
    · rw [← z, e] at ho2
      obtain rfl := Option.some.inj ho2
      exact n2 _ _ hd2
  refine ⟨ts, ⟨c, st _ _ e (by show Value.type "list" ≠ Value.type "list_iterator"; decide) (fun _ _ z => by cases z)⟩, nd, pmono pr fun t v p => p.keep fun a its ⟨o, ho, hc, n, hd⟩ => ⟨o, st _ _ ho (by rw [hc]; decide) (fun _ _ z => by rw [hd] at z; cases z), hc, n, hd⟩⟩
end K82W
end K82Track_part
section K82Comp_part
set_option Elab.async false
set_option linter.all false
set_option maxRecDepth 100000
set_option maxHeartbeats 1000000
namespace K82W
open PySem PySem.Spec PyProof.Rows L2 GenW
/-- the end of the generator's run but for the flow -/
def FRes (P : Program) (w : World) (outer : List Env) (sc : Shared) (H : Hp) (Zc : List Addr) (Lk : Nat → Heap → List Value → Prop) (B : List PStm) (n : Nat) (s₀ s : Shared) : Prop :=
  ∃ (H' : Hp) (ys : List V) (vs : List Value) (n0 : Nat), s.os = sc.os ∧ AllBare s.gens ∧ Un (frs outer) [] H H' sc.heap s.heap ∧ HOk P w H' s.heap ∧ Same H H' ∧ Vals ys vs ∧ Paired (RowAt H') ys (waysOf B) ∧ Lk n0 s.heap vs ∧ (∀ b ∈ Zc, H' b = none) ∧ (∀ b u, H' b = some u → b < n0) ∧ ∀ b ∈ Zc, ∀ o, s₀.heap.get? b = some o → s.heap.get? b = some o
theorem pairs_all {h : Heap} {lo : Nat} {ts : List Addr} {vs : List Value} (q : Paired (PairAt h lo) ts vs) : ∀ t ∈ ts, lo ≤ t ∧ ∃ its, IsTup h t its := by
  induction q with
  | nil => intro t ht; exact nomatch ht
  | cons q1 q2 ih =>
    intro t ht
    rcases List.mem_cons.mp ht with rfl | ht
    · obtain ⟨z, r, its, x, _, _, _, i3⟩ := q1
      exact ⟨z, _, i3⟩
    · exact ih t ht
/-- [(x[0], x) for x in ways(a, b)] -/
def tWaysC (ta : TA) : TE := fun σ H Q => ta σ H fun vs H1 => ∃ x y, vs = [x, y] ∧ ∃ (a b : Addr) (xs : List V) (B : List PStm), x = .ref a ∧ PrgAt H1 a b xs B ∧ B.length ≤ 100 ∧ K82.readsOf B ≤ 5 ∧ wishesOf B ≤ 1 ∧ (waysOf B).length ≤ sizeLine ∧
  ∀ H' D (ts : List Addr), Same H1 H' → H1 D = none → H' D = some (.lst (ts.map V.ref)) → Paired (PairRow H') ts (waysOf B) → Q (.ref D) H'
section
variable {X : Cx} {e1 e2 : Expr} {x : Str} {px p1 p2 p3 p4 p5 pc pf pos : Pos} {j k : Nat} {scope : Scope} {ta : TA}
theorem pe_lcWays (T : TxI X.prog X.K X.mg X.w) (hr : Room 12 X.A) (hg : Gl X "ways") (hk : PySem.W.keepIn X.K (.ref (He.ga X.K "ways")) = true) (ha : PA X [e1, e2] ta)
    (hsk : scope.kind = .function) (hsn : scope.names = [((".0" : Str), .local), (x, .local)]) (hx0 : (x == (".0" : Str)) = false) (hd : (x == ("__debug__" : Str)) = false)
    (he : starEach [e1, e2] X.env = (false, eval e1 X.env) :: starEach [e2] X.env := by rfl) (hpl : (backTo pc (starEach [e2] X.env)).any (·.1) = false := by rfl)
    (hs : ∀ v, foldedSetIterable (.Call (.Name "ways" pf) [e1, e2] [] pc) X.env v = pure v := by intro _; rfl) :
    PE X (.ListComp (.Tuple [.Subscript (.Name x p1) (.Constant (.int 0) j p2) p3, .Name x p4] k p5) [⟨.Name x px, .Call (.Name "ways" pf) [e1, e2] [] pc, [], 0⟩] scope pos) (tWaysC ta) := by
  refine ⟨fun pins s σ H Q I h => ?_⟩
  rw [eval_ListComp]
  have hfree : ∀ y ∈ scope.names, y.2 = .free → ∃ c, X.env.cells.lookup y.1 = some c := fun y hy e => by
    rw [hsn] at hy
    simp only [List.mem_cons, List.not_mem_nil, or_false] at hy
    rcases hy with rfl | rfl <;> cases e
  have hlk : scope.names.lookup x = some .local := by
    rw [hsn]
    simp only [List.lookup_cons, hx0, beq_self_eq_true]
  refine wpAny_comprehension_free (use := none) rfl hs (closure_ok hfree) hsk (fun y hy e => ?_) ?_
  · rw [hsn] at hy
    simp only [List.mem_cons, List.not_mem_nil, or_false] at hy
    rcases hy with rfl | rfl
    · rw [hsn]
      rfl
    · exact hlk
  refine wpAny_mono (eval_ways (Q := fun x y H1 => ∃ (a b : Addr) (xs : List V) (B : List PStm), x = .ref a ∧ PrgAt H1 a b xs B ∧ B.length ≤ 100 ∧ K82.readsOf B ≤ 5 ∧ wishesOf B ≤ 1 ∧ (waysOf B).length ≤ sizeLine ∧
    ∀ H' D (ts : List Addr), Same H1 H' → H1 D = none → H' D = some (.lst (ts.map V.ref)) → Paired (PairRow H') ts (waysOf B) → Q (.ref D) H') T hr hg hk ha he hpl I h) (fun u s1 hu => ?_) fun _ _ z => z
  obtain ⟨x0, y0, H1, sc, ga, g, rfl, I1, ⟨a, b, xs, B, rfl, hP, hB1, hB2, hB3, hB4, hQ⟩, m⟩ := hu
  refine wpAny_pyIter_gen m.gen ?_
  refine wpAny_newObj_type (newEnv_comp ?_) (by show 0 ≤ sizeLine; decide)
  generalize hD : s1.heap.objs.size = D
  generalize hs2 : ({ s1 with heap := s1.heap.push { cls := .type "list", data := .seq ([] : List Value).toArray } } : Shared) = s2
  have hp2 : s2.heap = s1.heap.push { cls := .type "list", data := .seq ([] : List Value).toArray } := by rw [← hs2]
  generalize hC : s2.heap.objs.size = C
  generalize hs3 : ({ s2 with heap := pushCells (s2.heap.push { cls := .type "dict", data := .dict #[] }) scope.names } : Shared) = s3
  have e3 : s3.heap = pushCells (s2.heap.push { cls := .type "dict", data := .dict #[] }) scope.names := by rw [← hs3]
  have eg3 : s3.gens = s1.gens := by rw [← hs3, ← hs2]
  have eo3 : s3.os = s1.os := by rw [← hs3, ← hs2]
  have hCD : D < C := by rw [← hC, hp2, Heap.size_push, hD]; exact Nat.lt_succ_self _
  have k13 : ∀ b o, s1.heap.get? b = some o → s3.heap.get? b = some o := fun b o e => by
    rw [e3]
    exact pushCells_keeps _ _ _ _ (Heap.get?_push_of_some _ (by rw [hp2]; exact Heap.get?_push_of_some _ e))
  have hD3 : s3.heap.get? D = some (lstObj #[] 0) := by
    rw [e3]
    refine pushCells_keeps _ _ _ _ (Heap.get?_push_of_some _ ?_)
    rw [hp2, ← hD]
    exact Heap.get?_push_size _ rfl
  have hC3 : s3.heap.get? C = some { cls := .type "dict", data := .dict #[] } := by
    rw [e3, ← hC]
    exact pushCells_keeps _ _ _ _ (Heap.get?_push_size _ rfl)
  have hNs3 : s3.heap.Ns C (fun _ => none) := by
    rw [e3, ← hC]
    exact Heap.Ns.keeps (Heap.Ns.new ..) fun b o e => pushCells_keeps _ _ _ _ e
  show codeAny _ _ (.compStart (.ListComp (.Tuple [.Subscript (.Name x p1) (.Constant (.int 0) j p2) p3, .Name x p4] k p5) [⟨.Name x px, .Call (.Name "ways" pf) [e1, e2] [] pc, [], 0⟩] scope pos) 0 (.ref ga) (.ref D) (compEnvC scope (cellsFrom (C + 1) scope.names (cloFrom X.env.cells scope.names [])) C X.env)) (compPost (model X.prog X.w) X.A X.xe none (EP X pins σ Q) (.ref D) C) s3
  generalize hce : compEnvC scope (cellsFrom (C + 1) scope.names (cloFrom X.env.cells scope.names [])) C X.env = ce
  have cL : ce.locals = C := by rw [← hce]; rfl
  have cK : ce.scope.kind = .function := by rw [← hce]; exact hsk
  have cX : ce.kindOf x = some .local := by
    rw [← hce]
    exact lookup_relabel_local hlk
  -- the generator's run
  obtain ⟨cdv, us, qa, s1m, hqa, rr, xin, kp, hga, hgs⟩ := m.ex
  have sz1 : sc.heap.objs.size ≤ s1m.heap.objs.size := Nat.le_of_lt xin.toInCall.ns.lt
  have hgaD : ga < D := by rw [← hD]; exact m.lt
  have scD : sc.heap.objs.size ≤ D := Nat.le_trans sz1 (Nat.le_trans hga (Nat.le_of_lt hgaD))
  have hgl1 : g < s3.gens.size := by rw [eg3]; exact (Array.getElem?_eq_some_iff.mp hgs).1
  have bare3 : AllBare s3.gens := by rw [eg3]; exact m.bare
  have seg0 := seg_ways T.toTxV (base := X.base) (N := sizeLine) (Zc := [D, C]) (Lk := LkC D) (s2 := s3.setGen g .running) ((hr.in1 (k := 11)).deeper _) hr.hd I1.env0.in1 rr xin (fun b o e => k13 b o (kp b o e)) (by
      show s3.os = _
      rw [eo3]
      exact m.os) (allBare_setGen bare3 rfl) hga (m.gen.keeps k13)
    (fun b hb => by
      rcases List.mem_cons.mp hb with rfl | hb
      · exact ⟨Nat.le_trans hga (Nat.le_of_lt hgaD), _, hD3, fun v z => by cases z⟩
      · rw [List.mem_singleton.mp hb]
        exact ⟨Nat.le_trans hga (Nat.le_of_lt (Nat.lt_trans hgaD hCD)), _, hC3, fun v z => by cases z⟩)
    (fun z => by
      rcases List.mem_cons.mp z with z | z
      · rw [z] at hgaD; exact Nat.lt_irrefl _ hgaD
      · rw [List.mem_singleton.mp z] at hgaD; exact Nat.lt_irrefl _ (Nat.lt_trans hgaD hCD)) hP (hqa _) hB1 hB2 hB3
    (fun n0 h kk => ⟨[], ⟨0, kk D List.mem_cons_self _ hD3⟩, List.nodup_nil, .nil⟩) (fun n0 it loc h h' vs L i m h1 h2 h3 h4 => LkC.go h1 h2 h3 h4) hB4
  have seg1 := seg_imp (R' := fun n s₀ r s₁ => ((r = .ok (.ret .none) ∨ r = .ok .next) ∧ FRes X.prog X.w X.stack sc H1 [D, C] (LkC D) B n s₀ s₁) ∨ ∃ e, r = .error e ∧ (fun (_ : Value) (_ : Shared) => False) e s₁) (fun n s₀ r s hR => .inl hR) (fun n s₀ v s kap kap' hkk hY => (show YG _ _ _ _ _ _ _ _ _ _ kap' from by
      obtain ⟨n0, q0, vs, q1, q2, q3, q4, q5, q6, q7, q8⟩ := hY
      exact ⟨n0, q0, vs, q1, q2, q3, q4, q5, q6, q7, fun s' z1 z2 => hkk _ _ (q8 s' z1 z2)⟩)) sizeLine seg0
  have lim1 : s3.heap.NoLimit := m.lim.keeps k13
  have cst : cStatics < sc.heap.objs.size := by
    obtain ⟨_, hn, _⟩ := I1.nolimit
    exact hn.lt
  have loop : codeAny (model X.prog X.w) X.A (.compLoop (.ListComp (.Tuple [.Subscript (.Name x p1) (.Constant (.int 0) j p2) p3, .Name x p4] k p5) [⟨.Name x px, .Call (.Name "ways" pf) [e1, e2] [] pc, [], 0⟩] scope pos) 0 (.ref ga) (.ref D) ce) (compPost (model X.prog X.w) X.A X.xe none (EP X pins σ Q) (.ref D) C) s3 := by
    refine compLoop_any (fun n s' => s'.heap.IsGen ga g ∧ s'.heap.NoLimit ∧ (∃ m, s'.heap.Ns C m) ∧ ∃ gs, s'.gens[g]? = some gs ∧ gs.Goes (model X.prog X.w) X.A.in1 (fun n s₀ r s₁ => ((r = .ok (.ret .none) ∨ r = .ok .next) ∧ FRes X.prog X.w X.stack sc H1 [D, C] (LkC D) B n s₀ s₁) ∨ ∃ e, r = .error e ∧ (fun (_ : Value) (_ : Shared) => False) e s₁) (YG sc.os [D, C] (LkC D) (AlG ga g) VlG sizeLine) n (.send .none) (s'.setGen g .running)) ?_ sizeLine
      ⟨m.gen.keeps k13, lim1, ⟨_, hNs3⟩, .fresh (.func (defBody s_ways) (envW sc (He.ga X.K "ways") cdv)), by rw [eg3]; exact hgs, ⟨rfl, seg1⟩⟩
    rintro n s' ⟨hgen, hlim, ⟨mC, hmC⟩, gs, hgs', hgo⟩
    have hgl : g < s'.gens.size := (Array.getElem?_eq_some_iff.mp hgs').1
    refine wpAny_gsz (n := g + 1) hgl (next_genG hr.hd hlim (by have := hr.dp; omega) hgen hgs' hgo (fun v s₁ gs' hbare hv => ?_) (fun s₁ hp h' hk' => ?_) fun e s₁ z => z.elim)
    · intro hsz
      obtain ⟨n0, hn0, vs, q1, ⟨ts, ⟨c, hD1⟩, nd, pr⟩, q3, q4, ⟨qlim, qgen⟩, ⟨t, its, x1, rfl, htup, hx1, hz1⟩, q8, q9⟩ := hv
      have hmC1 : s₁.heap.Ns C mC := by
        obtain ⟨o, es, ep, ho, rest⟩ := hmC
        exact ⟨o, es, ep, q8 C (by simp) o ho, rest⟩
      have hgen' := qgen
      obtain ⟨og, nm, qn, hog, hgc, hgd, _⟩ := hgen'
      refine go_of (o := og) (n := "generator") hog hgc hgd (by decide) ?_
      refine wpAny_assign_Name (wpAny_storeName_local (m := mC) cX (by rw [cL]; exact hmC1) (fun h2 ns2 sb2 => ?_) (by rw [cK]; rfl))
      refine wpAny_tests_nil ?_
      rw [if_pos rfl]
      rw [cL] at sb2
      have oC := hmC1
      obtain ⟨oc, esC, epC, hoC, hdC, _⟩ := oC
      have nC : ∀ a its, IsTup s₁.heap a its → a ≠ C := fun a its ⟨o, ho, hc, n, hd⟩ z => by
        rw [z, hoC] at ho
        cases ho
        rw [hdC] at hd
        cases hd
      have nD : ∀ a its, IsTup s₁.heap a its → a ≠ D := fun a its ⟨o, ho, hc, n, hd⟩ z => by
        rw [z, hD1] at ho
        cases ho
        exact absurd (show Value.type "list" = Value.type "tuple" from hc) (by decide)
      have tup2 : ∀ a its, IsTup s₁.heap a its → IsTup h2 a its := fun a its it => by
        have n1 := nC a its it
        obtain ⟨o, ho, r⟩ := it
        exact ⟨o, (sb2.2 a n1).trans ho, r⟩
      refine elt_row (s := { (s₁.setGen g gs') with heap := h2, toks := _ }) cK cX hd ns2 (if_pos rfl) (va := t) (its := its) (tup2 _ _ htup) hz1 hx1 fun tk => ?_
      generalize htn : h2.objs.size = tn
      have sz2 : s₁.heap.objs.size = h2.objs.size := sb2.1.symm
      have hD2 : (h2.push { cls := .type "tuple", data := .seq #[x1, .ref t] }).get? D = some (lstObj (ts.map Value.ref).toArray c) := Heap.get?_push_of_some _ ((sb2.2 D (Nat.ne_of_lt hCD)).trans hD1)
      have tl : ts.length = vs.length := paired_len pr
      refine append_at (hsz := by simp; omega) hD2 fun h4 sb4 hD4 => ?_
      have keep4 : ∀ b o, b ≠ C → b ≠ D → s₁.heap.get? b = some o → h4.get? b = some o := fun b o n1 n2 e => (sb4.2 b n2).trans (Heap.get?_push_of_some _ ((sb2.2 b n1).trans e))
      have tup4 : ∀ a its, IsTup s₁.heap a its → IsTup h4 a its := fun a its it => by
        have n1 := nC a its it
        have n2 := nD a its it
        obtain ⟨o, ho, r⟩ := it
        exact ⟨o, keep4 a o n1 n2 ho, r⟩
      have hDl : D < h2.objs.size := by rw [← sz2]; exact Heap.lt_size hD1
      have tnew : IsTup h4 tn #[x1, .ref t] := by
        refine ⟨{ cls := .type "tuple", data := .seq #[x1, .ref t] }, (sb4.2 tn (by rw [← htn]; exact Nat.ne_of_gt hDl)).trans ?_, rfl, _, rfl⟩
        rw [← htn]
        exact Heap.get?_push_size _ rfl
      have hLk : LkC D n0 h4 (vs ++ [.ref t]) := by
        refine ⟨ts ++ [tn], ⟨c + 1, ?_⟩, ?_, papp (pmono pr fun a b p => p.keep tup4) (.cons ⟨?_, t, its, x1, rfl, tup4 _ _ htup, hx1, tnew⟩ .nil)⟩
        · rw [hD4]
          simp
        · refine List.nodup_append.mpr ⟨nd, by simp, fun y hy z hz => ?_⟩
          rw [List.mem_singleton.mp hz]
          intro e
          obtain ⟨_, it2, hit⟩ := pairs_all pr y hy
          have := (tup2 _ _ hit).lt
          rw [e, ← htn] at this
          exact Nat.lt_irrefl _ this
        · rw [← htn, ← sz2]
          refine Nat.max_le.mpr ⟨hn0, ?_⟩
          rw [sz2]
          exact Nat.le_of_lt hDl
      have hgl1 : g < s₁.gens.size := by
        have q : (s₁.setGen g gs').gens.size = s₁.gens.size := setGen_size _ _ _
        have hsz' : g + 1 ≤ (s₁.setGen g gs').gens.size := hsz
        omega
      have kap := q9 ({ (s₁.setGen g gs') with heap := h4, toks := tk }.setGen g .running) ⟨q3.symm ▸ rfl, allBare_setGen (s := { (s₁.setGen g gs') with heap := h4, toks := tk }) (allBare_setGen (s := s₁) q4 hbare) rfl, fun b o nb e => by
        simp only [List.mem_cons, List.not_mem_nil, or_false, not_or] at nb
        exact keep4 b o nb.2 nb.1 e⟩ hLk
      cases n with
      | zero => exact kap.elim
      | succ n =>
        refine ⟨n, Nat.lt_succ_self _, ?_, ?_, ?_, gs', setGen_at hgl1, kap⟩
        · obtain ⟨o, nm, qn, ho, r⟩ := qgen
          exact ⟨o, nm, qn, keep4 ga o (Nat.ne_of_lt (Nat.lt_trans hgaD hCD)) (Nat.ne_of_lt hgaD) ho, r⟩
        · obtain ⟨mc, hns, hnn⟩ := qlim
          refine ⟨mc, hns.at' fun o e => keep4 _ o (fun z => ?_) (fun z => ?_) e, hnn⟩
          · rw [z] at cst
            exact Nat.lt_irrefl _ (Nat.lt_of_lt_of_le cst (Nat.le_trans scD (Nat.le_of_lt hCD)))
          · rw [z] at cst
            exact Nat.lt_irrefl _ (Nat.lt_of_lt_of_le cst scD)
        · rw [cL] at ns2
          obtain ⟨o, es, ep, ho, r⟩ := ns2
          exact ⟨_, o, es, ep, (sb4.2 C (Nat.ne_of_gt hCD)).trans (Heap.get?_push_of_some _ ho), r⟩
    · intro hsz
      obtain ⟨H', ys, vs, n0, p1', p2', p3', p4', p5', p6', p7', ⟨ts, ⟨c, pD⟩, nd, pr⟩, pZ, pn, pk⟩ := hp
      have hmC1 : h'.Ns C mC := by
        obtain ⟨o, es, ep, ho, rest⟩ := hmC
        exact ⟨o, es, ep, hk' _ _ (pk C (by simp) o ho), rest⟩
      refine ⟨mC, hmC1, fun h'' sb => ?_⟩
      have pr' : Paired (PairAt h' (max n0 D)) ts vs := pmono pr fun a b p => p.keep fun a its it => it.keeps hk'
      obtain ⟨H2, s2', ok2, un2, prr, st⟩ := track (h0 := sc.heap) pr' p6' p7' nd (fun t ht => by
        have z := (pairs_all pr' t ht).1
        refine ⟨?_, by omega⟩
        cases e : H' t with
        | none => rfl
        | some u =>
          exact absurd (Nat.lt_of_lt_of_le (pn t u e) (Nat.le_trans (Nat.le_max_left _ _) z)) (Nat.lt_irrefl _)) (p4'.kept hk') (p3'.trans (Un.kept hk'))
      have pD' : h'.get? D = some (lstObj (ts.map Value.ref).toArray c) := hk' _ _ pD
      have nDt : D ∉ ts := fun z => by
        obtain ⟨_, its, o, ho, hc, _⟩ := pairs_all pr' D z
        rw [pD'] at ho
        cases ho
        exact absurd (show Value.type "list" = Value.type "tuple" from hc) (by decide)
      have nCt : C ∉ ts := fun z => by
        obtain ⟨_, its, o, ho, hc, n, hd⟩ := pairs_all pr' C z
        obtain ⟨o2, es, ep, ho2, hd2, _⟩ := hmC1
        rw [ho] at ho2
        cases ho2
        rw [hd] at hd2
        cases hd2
      have hDn : H2 D = none := by rw [st D nDt]; exact pZ D (by simp)
      have tl : ts.length = (waysOf B).length := paired_len prr
      have vref : ∀ l : List Addr, Vals (l.map V.ref) (l.map Value.ref) := by
        intro l
        induction l with
        | nil => exact .nil
        | cons a l ih => exact .cons rfl ih
      have ok3 := HOk.add (o := .lst (ts.map V.ref)) ok2 hDn ⟨by rw [List.length_map, tl]; exact hB4, ts.map Value.ref, c, vref ts, pD'⟩
      have un3 := Un.add (o := .lst (ts.map V.ref)) un2 hDn scD
      have I2 : Inv X pins σ (upd H2 D (.lst (ts.map V.ref))) { (s₁.setGen g .finished) with heap := h' } := I1.call' (ch := []) p1' un3 ok3 (allBare_setGen (s := s₁) p2' rfl) fun b hb => by simp at hb
      have hCn : upd H2 D (.lst (ts.map V.ref)) C = none := by
        rw [upd_ne (Nat.ne_of_gt hCD), st C nCt]
        exact pZ C (by simp)
      obtain ⟨f0, f1, f2, f3, f4, f5⟩ := I1.fpOk (b := C) (Nat.le_trans scD (Nat.le_of_lt hCD)) hCn
      have sD : Same H2 (upd H2 D (.lst (ts.map V.ref))) := Same.upd hDn
      exact ⟨.ref D, _, I2.turned (t' := _) (fun b o hb e => (sb.2 b hb).trans e) f0 f1 f3 f4 f5, rfl, hQ _ D ts ((p5'.trans s2').trans sD) (I1.hok.fresh scD) upd_same (pmono prr fun a b q => q.mono sD.tups)⟩
  exact codeAny_compStart_list loop (wpAny_pyIter_gen (m.gen.keeps k13) loop)
end
end K82W
end K82Comp_part
section K82DictT_part
set_option Elab.async false
set_option linter.all false
set_option maxRecDepth 100000
set_option maxHeartbeats 1000000
/-! dict(l) of a list of pairs whose first items are tuples of ints and texts -/
namespace K82W
open PySem PySem.Spec PyProof.Rows L2
def mergeT (kvs more : List (List Key × V)) : List (List Key × V) := more.foldl (fun acc kv => putK acc kv.1 kv.2) kvs
theorem length_mergeT : ∀ (more kvs : List (List Key × V)), (mergeT kvs more).length ≤ kvs.length + more.length
  | [], kvs => Nat.le_refl _
  | p :: r, kvs => by
    have h1 := length_mergeT r (putK kvs p.1 p.2)
    have h2 := length_putK kvs p.1 p.2
    show (mergeT (putK kvs p.1 p.2) r).length ≤ _
    rw [List.length_cons]
    omega
section
variable {X : Cx}
theorem kt_merge {H : Hp} {more : List (List Key × Addr × V)} {prs : List (List Key × Addr × Value)} (r : Paired (fun (kv : List Key × Addr × V) (q : List Key × Addr × Value) => kv.1 = q.1 ∧ H q.2.1 = some (.tup (q.1.map kV)) ∧ RelV kv.2.2 q.2.2) more prs) :
    ∀ {kvs : List (List Key × V)} {xs : List (List Key × Addr × Value)}, KT H kvs xs → KT H (mergeT kvs (more.map fun e => (e.1, e.2.2))) (storedAllH xs prs) := by
  induction r with
  | nil => intro kvs xs h; exact h
  | @cons p q ps qs h t ih =>
    intro kvs xs k
    obtain ⟨e1, e2, e3⟩ := h
    have z := k.put q.1 e2 e3
    rw [← e1] at z
    have y := ih z
    rw [e1] at y
    show KT H (mergeT (putK kvs p.1 p.2.2) (ps.map fun e => (e.1, e.2.2))) (storedAllH (storedH xs q.1 q.2.1 q.2.2) qs)
    rw [e1]
    exact y
theorem pairsT_of {pins : List (Addr × Obj)} {σ : L2.St} {H : Hp} {s : Shared} (I : Inv X pins σ H s) : ∀ {ps : List Addr} {kvs : List (List Key × Addr × V)}, Paired (fun (p : Addr) (kv : List Key × Addr × V) => H p = some (.tup [.ref kv.2.1, kv.2.2]) ∧ H kv.2.1 = some (.tup (kv.1.map kV))) ps kvs →
    ∃ prs : List (List Key × Addr × Value), Paired (fun (kv : List Key × Addr × V) (q : List Key × Addr × Value) => kv.1 = q.1 ∧ H q.2.1 = some (.tup (q.1.map kV)) ∧ RelV kv.2.2 q.2.2) kvs prs ∧ prs.length = ps.length ∧
      ∀ (j : Nat) (q : List Key × Addr × Value), prs[j]? = some q → ∃ b : Addr, ps[j]? = some b ∧ IsTup s.heap b #[.ref q.2.1, q.2.2] ∧ H q.2.1 = some (.tup (q.1.map kV))
  | _, _, .nil => ⟨[], .nil, rfl, fun j q e => by simp at e⟩
  | _, _, .cons (a := p) (b := kv) h t => by
    obtain ⟨prs, r, hl, hp⟩ := pairsT_of I t
    obtain ⟨its, rv, ht, _⟩ := I.tuple (SqT.of h.1)
    obtain ⟨u, y, ei, ru, ry⟩ := vals2 rv
    subst ei
    cases ru
    refine ⟨(kv.1, kv.2.1, y) :: prs, .cons ⟨rfl, h.2, ry⟩ r, by rw [List.length_cons, List.length_cons, hl], fun j q e => ?_⟩
    cases j with
    | zero =>
      have e' : (kv.1, kv.2.1, y) = q := Option.some.inj e
      subst e'
      exact ⟨p, rfl, ht, h.2⟩
    | succ j =>
      obtain ⟨b, e1, e2, e3⟩ := hp j q (by simpa using e)
      exact ⟨b, by simpa using e1, e2, e3⟩
theorem call_dictPT (hcalm : X.calm = true) (hu : X.A.units + 64 < cLine) : CallR X (.type "dict") (fun xs H Q => ∃ (a : Addr) (ps : List Addr) (kvs : List (List Key × Addr × V)), xs = [.ref a] ∧ SqL X.K H a (ps.map V.ref) ∧
    Paired (fun (p : Addr) (kv : List Key × Addr × V) => H p = some (.tup [.ref kv.2.1, kv.2.2]) ∧ H kv.2.1 = some (.tup (kv.1.map kV))) ps kvs ∧
    ∀ p, H p = none → Q (.ref p) (upd H p (.dT (mergeT [] (kvs.map fun e => (e.1, e.2.2)))))) := by
  intro pins s σ H xs us Q I r q
  obtain ⟨a, ps, kvs, rfl, hq, hp, q⟩ := q
  obtain ⟨u, rfl, rx⟩ := vals1 r
  cases rx
  obtain ⟨its, rv, pl, hz⟩ := I.list hq
  obtain rfl := refs_at rv
  rw [List.length_map] at hz
  obtain ⟨prs, rel, hl, hpr⟩ := pairsT_of I hp
  obtain ⟨o, n, ho, hc, hd, hdat⟩ := pl
  have hlp : (prs.map fun q => ((Value.ref q.2.1, q.2.2) : Value × Value)).length = prs.length := List.length_map ..
  have main := call_dict_pairsH (prog := X.prog) (w := X.w) (A := X.A) (E := X.xe) (s := s) (knd := tupleKind (mixKind X.prog X.w)) (ps := prs) (Q := EP X pins σ Q)
    (PairArg.list a (ps.map Value.ref).toArray (fun j => ps.getD j 0) (prs.map fun q => ((Value.ref q.2.1, q.2.2) : Value × Value))) (I.ok.hd hcalm) (tupleKind_room_in1 (by show X.A.units + 1 + 1 < cLine; omega))
    ⟨⟨o, n, ho, hc, hd, hdat⟩, by rw [hlp, hl]; simp, fun j k v hj => ?_⟩ ⟨by rw [hlp], fun i key v hj => ?_⟩ (fun h' hk x hx => ?_) (by rw [hlp, hl]; exact hz) fun h' tk hd' hk => ?_
  · exact main
  · rw [List.getElem?_map] at hj
    cases e : prs[j]? with
    | none => rw [e] at hj; cases hj
    | some q' =>
      rw [e] at hj
      obtain ⟨b, e1, e2, e3⟩ := hpr j q' e
      have hj := Option.some.inj hj
      cases hj
      have eb : ps.getD j 0 = b := by rw [List.getD_eq_getElem?_getD, e1]; rfl
      exact ⟨by simp [e1], .inl (by show s.heap.IsTuple (ps.getD j 0) _; rw [eb]; exact e2)⟩
  · have hj : (prs.map fun q => ((Value.ref q.2.1, q.2.2) : Value × Value))[i]? = some (key, v) := hj
    rw [List.getElem?_map] at hj
    cases e : prs[i]? with
    | none => rw [e] at hj; cases hj
    | some q' =>
      rw [e] at hj
      have hj := Option.some.inj hj
      cases hj
      exact ⟨q'.1, q'.2.1, rfl, rfl⟩
  · obtain ⟨j, hj⟩ := List.getElem?_of_mem hx
    obtain ⟨b, _, _, e3⟩ := hpr j x hj
    obtain ⟨ok, ik, nk, h1, h2, h3, h4⟩ := key_of (P := X.prog) (w := X.w) I.hok e3
    exact ⟨ok, ik, nk, hk _ _ (Nat.ne_of_lt (Heap.lt_size h1)) (by simp) h1, h2, h3, h4⟩
  · have hm : (s.heap.objs.size == sysModules) = false := beq_eq_false_iff_ne.mpr (Nat.ne_of_gt I.big)
    have hlen : (mergeT [] (kvs.map fun e => (e.1, e.2.2))).length ≤ sizeLine := by
      refine Nat.le_trans (length_mergeT _ []) ?_
      rw [List.length_nil, Nat.zero_add, List.length_map, Paired.length rel, hl]
      exact hz
    obtain ⟨qo, es, ep, h1, h2, h3, h4, _, h5⟩ := hd'
    have fr : H s.heap.objs.size = none := I.hok.fresh (Nat.le_refl _)
    refine ⟨.ref s.heap.objs.size, upd H s.heap.objs.size (.dT (mergeT [] (kvs.map fun e => (e.1, e.2.2)))), I.laid (t' := tk) (fun b o e => hk b o (by simp) e) (Nat.le_refl _) ⟨hlen, hm, _, (kt_merge rel .nil).keeps fun c ys ec => ?_, qo, es, ep, h1, h2, h3, h4, h5⟩, rfl, q _ fr⟩
    rw [upd_ne (ne_of_none ec fr)]
    exact ec
end
end K82W
end K82DictT_part
section K82Rules_part
set_option Elab.async false
set_option linter.all false
set_option maxRecDepth 100000
set_option maxHeartbeats 1000000
/-! repr of data, min of data; records and what was said as data -/
namespace K82W
open PySem PySem.Spec PyProof.Rows L2
section
variable {X : Cx}
theorem call_reprD (hg : X.A.guards = some []) (hu : X.A.units + 64 < cLine) : CallR X (.builtin "repr") (fun xs H Q => ∃ (a : Addr) (d : PyData), xs = [.ref a] ∧ Dp X.K H (.ref a) d ∧ d.showable = true ∧ d.hasDict = false ∧ d.depth ≤ 10 ∧ d.shown.length ≤ sizeLine ∧ Q (.str d.shown) H) := by
  intro pins s σ H xs us Q I r h
  obtain ⟨a, d, rfl, hd, h1, h2, h3, h4, q⟩ := h
  obtain ⟨u, rfl, rx⟩ := vals1 r
  cases rx
  obtain ⟨as, r1⟩ := Dp.reads I d _ _ hd rfl
  exact repr_of_reads' (h₀ := s.heap) r1 h1 (PyData.noDict_hsm h2) hg (by omega) (fun b o e => e) (fun h' u tk hk => ⟨.str d.shown, H, I.kept (t' := tk) hk, ⟨u, rfl⟩, q⟩) h4
theorem dpAll_get {K : PySem.W.Frag} {H : Hp} : ∀ {vs : List V} {ds : List PyData} {i : Nat} {v : V}, DpAll K H vs ds → vs[i]? = some v → ∃ d, ds[i]? = some d ∧ Dp K H v d
  | _, _, _, _, .nil, e => by simp at e
  | _, _, 0, _, .cons h _, e => by
    have e := Option.some.inj (show some _ = some _ from e)
    subst e
    exact ⟨_, rfl, h⟩
  | _, _, i + 1, _, .cons _ t, e => by
    obtain ⟨d, q1, q2⟩ := dpAll_get t (i := i) (by simpa using e)
    exact ⟨d, by simpa using q1, q2⟩
theorem call_minD (hc : X.calm = true) (hu : X.A.units + 64 < cLine) : CallR X (.builtin "min") (fun vs H Q => ∃ (a : Addr) (bs : List Addr) (d : PyData) (ds : List PyData), vs = [.ref a] ∧ SqL X.K H a (bs.map V.ref) ∧ DpAll X.K H (bs.map V.ref) (d :: ds) ∧ PySem.W.AlikeAll (d :: ds) ∧ PyData.depthAll (d :: ds) ≤ 10 ∧
    ∀ b, b ∈ bs → Dp X.K H (.ref b) (PySem.W.minD d ds) → Q (.ref b) H) := by
  intro pins s σ H vs us Q I r h
  obtain ⟨a, bs, d, ds, rfl, hs, hD, hA, hz, q⟩ := h
  obtain ⟨u, rfl, rx⟩ := vals1 r
  cases rx
  obtain ⟨its, rv, pl, _⟩ := I.list hs
  obtain rfl := refs_at rv
  obtain ⟨as, r1⟩ := Dp.readsAll I _ _ _ hD rv
  refine PySem.W.min_list_data (x := d) (xs := ds) (I.ok.hd hc) pl.isList (by simpa using r1) hA (by omega) fun i v h' tk bs' hv hR hk => ?_
  obtain ⟨b, hb, rfl⟩ : ∃ b, bs[i]? = some b ∧ v = .ref b := by
    have hv : ((bs.map Value.ref).toArray)[i]? = some v := hv
    simp at hv
    obtain ⟨b, h1, h2⟩ := hv
    exact ⟨b, h1, h2.symm⟩
  obtain ⟨e, he, hDe⟩ := dpAll_get hD (i := i) (v := .ref b) (by rw [List.getElem?_map, hb]; rfl)
  obtain ⟨as2, r2⟩ := Dp.reads I e _ _ hDe rfl
  obtain ⟨e1, _⟩ := reads_det (fun b o q _ => hk b o q) r2 hR
  refine ⟨.ref b, H, I.kept (t' := tk) hk, rfl, q b (List.mem_of_getElem? hb) ?_⟩
  rw [e1]
  exact hDe
end
/-! ### records -/
def bitD (b : Bool) : PyData := .int (if b = true then 1 else 0)
def recD (r : List Bool) : PyData := .tuple (r.map bitD)
theorem dp_bits {K : PySem.W.Frag} {H : Hp} : ∀ r : List Bool, DpAll K H (r.map repV) (r.map bitD)
  | [] => .nil
  | b :: r => .cons (Dp.int _) (dp_bits r)
theorem dp_rec {K : PySem.W.Frag} {H : Hp} {t : Addr} {r : List Bool} (h : H t = some (.tup (r.map repV))) : Dp K H (.ref t) (recD r) := .tup (SqT.of h) (dp_bits r)
theorem depth_bits : ∀ r : List Bool, PyData.depthAll (r.map bitD) = 0
  | [] => by simp [PyData.depthAll]
  | b :: r => by simp [PyData.depthAll, PyData.depth, bitD, depth_bits r]
theorem depth_rec (r : List Bool) : (recD r).depth = 1 := by simp [recD, PyData.depth, depth_bits]
theorem lay_bits : ∀ r : List Bool, PyData.canLayAll0 (r.map bitD) = true
  | [] => by simp [PyData.canLayAll0]
  | b :: r => by simp [PyData.canLayAll0, PyData.canLay0, bitD, lay_bits r]
theorem shaped_rec (r : List Bool) : SeqAt.shaped (recD r) = true := by
  unfold SeqAt.shaped
  rw [depth_rec]
  simp [recD, PyData.canLay0, lay_bits]
theorem alike_bits : ∀ r s : List Bool, PySem.W.alikeAll (r.map bitD) (s.map bitD) = true
  | [], _ => by simp [PySem.W.alikeAll]
  | _ :: _, [] => by simp [PySem.W.alikeAll]
  | a :: r, b :: s => by simp [PySem.W.alikeAll, PySem.W.alike, bitD, alike_bits r s]
theorem alike_rec (r s : List Bool) : PySem.W.alike (recD r) (recD s) = true := by simp [recD, PySem.W.alike, alike_bits]
theorem lt_bits : ∀ r s : List Bool, PyProof.Rows.lexLt PyProof.Rows.itemOrd (PySem.W.keyToksAll (r.map bitD)) (PySem.W.keyToksAll (s.map bitD)) = K82.ltR r s
  | [], [] => by decide
  | [], b :: s => by
    simp only [List.map_nil, List.map_cons, PySem.W.keyToksAll, K82.ltR]
    exact PyProof.Rows.lex_diff (O := PyProof.Rows.itemOrd) (by simp)
  | a :: r, [] => by
    simp only [List.map_nil, List.map_cons, PySem.W.keyToksAll, K82.ltR]
    exact PyProof.Rows.lex_diff (O := PyProof.Rows.itemOrd) (by simp)
  | a :: r, b :: s => by
    have ha : PySem.W.alike (bitD a) (bitD b) = true := by simp [PySem.W.alike, bitD]
    by_cases h : a = b
    · subst h
      have e : PyData.eqv (bitD a) (bitD a) = true := by simp [bitD, PyData.eqv]
      rw [List.map_cons, List.map_cons, PySem.W.dataLt_all_yes ha e, lt_bits r s]
      simp [K82.ltR]
    · have e : PyData.eqv (bitD a) (bitD b) = false := by
        cases a <;> cases b <;> first | exact absurd rfl h | decide
      rw [List.map_cons, List.map_cons, PySem.W.dataLt_all_no ha e]
      have e1 : K82.ltR (a :: r) (b :: s) = (!a && b) := by simp [K82.ltR, h]
      rw [e1]
      cases a <;> cases b <;> first | exact absurd rfl h | decide
theorem lt_rec (r s : List Bool) : PySem.W.dataLt (recD r) (recD s) = K82.ltR r s := by
  unfold recD
  rw [PySem.W.dataLt_tuple, lt_bits]
theorem minD_first {x : PyData} : ∀ {xs : List PyData}, (∀ y ∈ xs, PySem.W.dataLt y x = false) → PySem.W.minD x xs = x
  | [], _ => rfl
  | y :: r, h => by
    have e : PySem.W.minD x (y :: r) = PySem.W.minD (if PySem.W.dataLt y x then y else x) r := rfl
    rw [e, h y List.mem_cons_self]
    exact minD_first fun z hz => h z (List.mem_cons_of_mem _ hz)
/-! ### what was said -/
def saidD : K82.Ans Str → PyData
  | .said w => .tuple [.str "said", .str w]
  | .yes => .tuple [.str "yes"]
  | .no => .tuple [.str "no"]
def saidsD (l : List (K82.Ans Str)) : PyData := .tuple (l.map saidD)
theorem dp_said {K : PySem.W.Frag} {H : Hp} {v : V} {a : K82.Ans Str} (h : SaidAt H v a) : Dp K H v (saidD a) := by
  obtain ⟨t, rfl, h⟩ := h
  cases a with
  | said w => exact .tup (SqT.of h) (.cons (.str _) (.cons (.str _) .nil))
  | yes => exact .tup (SqT.of h) (.cons (.str _) .nil)
  | no => exact .tup (SqT.of h) (.cons (.str _) .nil)
theorem dp_saids {K : PySem.W.Frag} {H : Hp} {vs : List V} {l : List (K82.Ans Str)} (h : Paired (SaidAt H) vs l) : DpAll K H vs (l.map saidD) := by
  induction h with
  | nil => exact .nil
  | cons h _ ih => exact .cons (dp_said h) ih
def OkA : K82.Ans Str → Prop
  | .said w => OkW w
  | _ => True
theorem say_data : ∀ (l : List (K82.Ans Str)), PyData.showableAll (l.map saidD) = true ∧ PyData.hasDictAll (l.map saidD) = false ∧ PyData.depthAll (l.map saidD) ≤ 1
  | [] => by simp [PyData.showableAll, PyData.hasDictAll, PyData.depthAll]
  | a :: r => by
    obtain ⟨h1, h2, h3⟩ := say_data r
    cases a <;> (simp [PyData.showableAll, PyData.showable, PyData.hasDictAll, PyData.hasDict, PyData.depthAll, PyData.depth, saidD, h1, h2]; omega)
theorem shown_said {a : K82.Ans Str} (h : OkA a) : (saidD a).shown.length ≤ 1100 := by
  cases a with
  | said w =>
    have h1 := StrLaws.reprText_len w h.2
    have h2 := h.1
    have h3 := fmt_text [reprText "said", reprText w]
    have h4 : (reprText "said").length ≤ 6 := by decide +kernel
    simp only [piled_cons, piled_nil] at h3
    simp only [saidD, PyData.shown, PyData.shownAll]
    omega
  | yes => simp only [saidD, PyData.shown, PyData.shownAll]; decide +kernel
  | no => simp only [saidD, PyData.shown, PyData.shownAll]; decide +kernel
theorem piled_said : ∀ (l : List (K82.Ans Str)), (∀ a ∈ l, OkA a) → piled (PyData.shownAll (l.map saidD)) ≤ 1102 * l.length
  | [], _ => by simp [PyData.shownAll, piled_nil]
  | a :: r, h => by
    have h1 := shown_said (h a List.mem_cons_self)
    have h2 := piled_said r fun b hb => h b (List.mem_cons_of_mem _ hb)
    simp only [List.map_cons, PyData.shownAll, piled_cons, List.length_cons]
    omega
theorem shown_saids {l : List (K82.Ans Str)} (h : ∀ a ∈ l, OkA a) (hl : l.length ≤ 1000) : (saidsD l).shown.length ≤ sizeLine := by
  have h1 := piled_said l h
  have h2 := fmt_text (PyData.shownAll (l.map saidD))
  have h3 : (saidsD l).shown = tupleText (PyData.shownAll (l.map saidD)) := by simp [saidsD, PyData.shown]
  rw [h3, sizeLine_eq]
  omega
end K82W
end K82Rules_part
section K82Few_part
set_option Elab.async false
set_option linter.all false
set_option maxRecDepth 100000
set_option maxHeartbeats 1000000
/-! the rows of two programs, in plain -/
namespace K82
variable {N : Type}
theorem leaves_nodup : ∀ t : Tree N, ((leaves t).map (·.rcd)).Nodup
  | .leaf _ _ => by simp [leaves]
  | .forced b t => by
    have h := leaves_nodup t
    have e : (leaves (.forced b t)).map (·.rcd) = ((leaves t).map (·.rcd)).map (b :: ·) := by
      simp [leaves, Row.cons, Function.comp_def]
    rw [e]
    exact List.Pairwise.map _ (fun a c q z => q (by simpa using z)) h
  | .choice t0 t1 => by
    have h0 := leaves_nodup t0
    have h1 := leaves_nodup t1
    have e : (leaves (.choice t0 t1)).map (·.rcd) = ((leaves t0).map (·.rcd)).map (false :: ·) ++ ((leaves t1).map (·.rcd)).map (true :: ·) := by
      simp [leaves, Row.cons, Function.comp_def]
    rw [e]
    refine List.nodup_append.mpr ⟨List.Pairwise.map _ (fun a c q z => q (by simpa using z)) h0, List.Pairwise.map _ (fun a c q z => q (by simpa using z)) h1, fun a ha b hb z => ?_⟩
    obtain ⟨x, _, rfl⟩ := List.mem_map.mp ha
    obtain ⟨y, _, rfl⟩ := List.mem_map.mp hb
    cases z
theorem leaves_head [DecidableEq N] (t : Tree N) : ∃ rest, leaves t = (follow t []).row :: rest := by
  rw [← from_nil, from_eq]
  exact ⟨_, rfl⟩
/-- what was said comes of the program's statements -/
def SaysIn (P : List (Stm N)) (said : List (Ans N)) : Prop := ∀ w, Ans.said w ∈ said → Stm.say w ∈ P
theorem said_ask {P : List (Stm N)} {n : Nat} (S : MS N) (c : Nat) (k : MS N → Bool → Tree N) (h : ∀ S1 b, ∀ r ∈ leaves (k S1 b), SaysIn P r.said ∧ r.said.length ≤ n) : ∀ r ∈ leaves (ask S c k), SaysIn P r.said ∧ r.said.length ≤ n := by
  intro r hr
  unfold ask at hr
  split at hr
  · obtain ⟨q, hq, rfl⟩ := List.mem_map.mp hr
    exact h _ _ q hq
  · split at hr
    · obtain ⟨q, hq, rfl⟩ := List.mem_map.mp hr
      exact h _ _ q hq
    · rcases List.mem_append.mp hr with hr | hr
      · obtain ⟨q, hq, rfl⟩ := List.mem_map.mp hr
        exact h _ _ q hq
      · obtain ⟨q, hq, rfl⟩ := List.mem_map.mp hr
        exact h _ _ q hq
theorem said_leaf {P : List (Stm N)} {n : Nat} {said : List (Ans N)} {st : Option Nat} (h : SaysIn P said) (hn : said.length ≤ n) : ∀ r ∈ leaves (.leaf said st : Tree N), SaysIn P r.said ∧ r.said.length ≤ n := by
  intro r hr
  simp [leaves] at hr
  rw [hr]
  exact ⟨h, hn⟩
theorem says_more {P : List (Stm N)} {said : List (Ans N)} {a : Ans N} (h : SaysIn P said) (k : ∀ w, a = .said w → Stm.say w ∈ P) : SaysIn P (said ++ [a]) := fun w hw => by
  rcases List.mem_append.mp hw with hw | hw
  · exact h w hw
  · exact k w (List.mem_singleton.mp hw).symm
theorem said_tree [DecidableEq N] (P0 : List (Stm N)) : ∀ (P : List (Stm N)) (S : MS N) (said : List (Ans N)) (p : Nat), (∀ st ∈ P, st ∈ P0) → SaysIn P0 said → ∀ r ∈ leaves (tree P S said p), SaysIn P0 r.said ∧ r.said.length ≤ said.length + P.length
  | [], S, said, p, _, h => said_leaf h (Nat.le_refl _)
  | st :: r, S, said, p, hs, h => by
    have ih := fun S said' p => said_tree P0 r S said' p (fun x hx => hs x (List.mem_cons_of_mem _ hx))
    have go : ∀ S' p', ∀ q ∈ leaves (tree r S' said p'), SaysIn P0 q.said ∧ q.said.length ≤ said.length + (st :: r).length := fun S' p' q hq => by
      have := ih S' said p' h q hq
      exact ⟨this.1, by rw [List.length_cons]; omega⟩
    have stop : ∀ o, ∀ q ∈ leaves (.leaf said o : Tree N), SaysIn P0 q.said ∧ q.said.length ≤ said.length + (st :: r).length := fun o => said_leaf h (Nat.le_add_right _ _)
    have one : ∀ (a : Ans N) S' p', (∀ w, a = .said w → Stm.say w ∈ P0) → ∀ q ∈ leaves (tree r S' (said ++ [a]) p'), SaysIn P0 q.said ∧ q.said.length ≤ said.length + (st :: r).length := fun a S' p' ha q hq => by
      have := ih S' (said ++ [a]) p' (says_more h ha) q hq
      rw [List.length_append, List.length_singleton] at this
      exact ⟨this.1, by rw [List.length_cons]; omega⟩
    cases st with
    | make x => exact go _ _
    | wish x w =>
      unfold tree
      split
      · exact stop _
      · exact go _ _
    | keep x =>
      unfold tree
      split
      · exact stop _
      · exact go _ _
    | name x y =>
      unfold tree
      split
      · exact stop _
      · exact go _ _
    | drop x => exact go _ _
    | hold x f y =>
      unfold tree
      split
      · exact go _ _
      · exact stop _
    | weak x f y =>
      unfold tree
      split
      · exact go _ _
      · exact stop _
    | cut x f =>
      unfold tree
      split
      · exact stop _
      · exact go _ _
    | take z x f =>
      unfold tree
      split
      · exact stop _
      · split
        · exact go _ _
        · exact said_ask _ _ _ fun S1 b => go _ _
    | say w =>
      refine one (.said w) _ _ fun w' e => ?_
      cases e
      exact hs _ List.mem_cons_self
    | askF x f =>
      unfold tree
      split
      · exact stop _
      · split
        · exact one .no _ _ fun w e => nomatch e
        · refine said_ask _ _ _ fun S1 b => ?_
          cases b
          · exact one .yes _ _ fun w e => nomatch e
          · exact one .no _ _ fun w e => nomatch e
    | askW w =>
      unfold tree
      split
      · exact one .no _ _ fun w e => nomatch e
      · split
        · refine said_ask _ _ _ fun S1 b => ?_
          cases b
          · exact one .no _ _ fun w e => nomatch e
          · exact one .yes _ _ fun w e => nomatch e
        · exact one .no _ _ fun w e => nomatch e
end K82
namespace K82W
open PySem PySem.Spec PyProof.Rows L2
def keyOf (r : List Bool) : List Key := r.map fun b => Sum.inl (if b = true then 1 else 0)
theorem keyOf_V (r : List Bool) : (keyOf r).map kV = r.map repV := by
  unfold keyOf
  rw [List.map_map]
  rfl
theorem keyOf_inj : ∀ {r s : List Bool}, keyOf r = keyOf s → r = s
  | [], [], _ => rfl
  | [], _ :: _, h => by simp [keyOf] at h
  | _ :: _, [], h => by simp [keyOf] at h
  | a :: r, b :: s, h => by
    simp only [keyOf, List.map_cons, List.cons.injEq] at h
    have e := keyOf_inj (r := r) (s := s) h.2
    have h1 := h.1
    cases a <;> cases b <;> first | (rw [e]; done) | exact absurd (Sum.inl.inj h1) (by decide)
theorem valV_none {l : List (List Key × V)} {k : List Key} (h : k ∉ l.map (·.1)) : valV l k = none := by
  induction l with
  | nil => rfl
  | cons p r ih =>
    simp only [List.map_cons, List.mem_cons, not_or] at h
    rw [valV_neg (fun z => h.1 z.symm)]
    exact ih h.2
theorem mergeT_new : ∀ (l acc : List (List Key × V)), (l.map (·.1)).Nodup → (∀ p ∈ l, p.1 ∉ acc.map (·.1)) → mergeT acc l = acc ++ l
  | [], acc, _, _ => by simp [mergeT]
  | p :: r, acc, nd, h => by
    have nd' := List.nodup_cons.mp nd
    have e : putK acc p.1 p.2 = acc ++ [p] := putK_new p.2 (valV_none (h p List.mem_cons_self))
    show mergeT (putK acc p.1 p.2) r = _
    rw [e, mergeT_new r (acc ++ [p]) nd'.2 (fun q hq z => ?_), List.append_assoc]
    · rfl
    · rw [List.map_append, List.mem_append] at z
      rcases z with z | z
      · exact h q (List.mem_cons_of_mem _ hq) z
      · have z : q.1 = p.1 := by simpa using z
        exact nd'.1 (by show p.1 ∈ _; rw [← z]; exact List.mem_map_of_mem hq)
/-- the entries of the dict of the rows -/
def EntAt (H : Hp) (e : List Key × Addr × V) (r : K82.Row Str) : Prop := e.1 = keyOf r.rcd ∧ RowAt H e.2.2 r
theorem EntAt.mono {H H' : Hp} {e : List Key × Addr × V} {r : K82.Row Str} (h : EntAt H e r) (k : Tups H H') : EntAt H' e r := ⟨h.1, h.2.mono k⟩
theorem ents_of {H : Hp} {ts : List Addr} {rows : List (K82.Row Str)} (h : Paired (PairRow H) ts rows) : ∃ es : List (List Key × Addr × V), Paired (fun (p : Addr) (kv : List Key × Addr × V) => H p = some (.tup [.ref kv.2.1, kv.2.2]) ∧ H kv.2.1 = some (.tup (kv.1.map kV))) ts es ∧ Paired (EntAt H) es rows := by
  induction h with
  | nil => exact ⟨[], .nil, .nil⟩
  | @cons t r ts rows h _ ih =>
    obtain ⟨es, q1, q2⟩ := ih
    obtain ⟨x, yt, rest, h1, h2, h3⟩ := h
    have h3' := h3
    obtain ⟨t', tr, tsd, e, tl, sv, lv, e0, g1, g2, _⟩ := h3'
    cases e0
    rw [h2] at g1
    have g1 := HO.tup.inj (Option.some.inj g1)
    obtain ⟨rfl, _⟩ := List.cons.inj g1
    exact ⟨(keyOf r.rcd, tr, .ref yt) :: es, .cons ⟨h1, by rw [keyOf_V]; exact g2⟩ q1, .cons ⟨rfl, h3⟩ q2⟩
theorem ents_keys {H : Hp} {es : List (List Key × Addr × V)} {rows : List (K82.Row Str)} (h : Paired (EntAt H) es rows) : (es.map fun e => (e.1, e.2.2)).map (·.1) = (rows.map (·.rcd)).map keyOf := by
  induction h with
  | nil => rfl
  | cons h _ ih => simp only [List.map_cons, ih, h.1]
theorem ents_look {H : Hp} {es : List (List Key × Addr × V)} {rows : List (K82.Row Str)} (h : Paired (EntAt H) es rows) {r : K82.Row Str} (hr : r ∈ rows) : ∃ v q, valV (es.map fun e => (e.1, e.2.2)) (keyOf r.rcd) = some v ∧ q ∈ rows ∧ q.rcd = r.rcd ∧ RowAt H v q := by
  induction h with
  | nil => exact nomatch hr
  | @cons e q es rows h t ih =>
    rw [List.map_cons]
    by_cases z : e.1 = keyOf r.rcd
    · refine ⟨e.2.2, q, by rw [valV_pos (p := (e.1, e.2.2)) z], List.mem_cons_self, keyOf_inj (h.1.symm.trans z), h.2⟩
    · rw [valV_neg (p := (e.1, e.2.2)) z]
      rcases List.mem_cons.mp hr with e2 | hr
      · rw [e2] at z
        exact absurd h.1 z
      · obtain ⟨v, q', h1, h2, h3, h4⟩ := ih hr
        exact ⟨v, q', h1, List.mem_cons_of_mem _ h2, h3, h4⟩
end K82W
end K82Few_part
section K82Guard_part
set_option Elab.async false
set_option linter.all false
set_option maxRecDepth 100000
set_option maxHeartbeats 1000000
/-! promises of defs that are called where no repr is under way -/
namespace K82W
open PySem PySem.Spec PyProof.Rows L2
structure FnG (P : Program) (w : World) (K : PySem.W.Frag) (mg : Str → Option Value) (base : Heap) (k : Nat) (f : Addr) (fd : FuncData) (ps : List Str) (sp : Sp) : Prop where
  ln : ∀ vs H Q E, sp vs H Q E → vs.length = ps.length
  go : ∀ (A : Around) (outer : List Env) (s : Shared) (H : Hp) (args : Args) (us : List Value) (vs : List V) (Q : VK) (E : XK), Room k A → A.guards = some [] → Env0 P w K mg base A outer s H → BindsTo s fd args (ps.zip us) → Vals vs us → sp vs H Q E →
    codeAny (model P w) A (.call (.ref f) args) (CR (L2.CX P w) outer P w H s Q E) s
section
variable {P : Program} {w : World} {K : PySem.W.Frag} {mg : Str → Option Value} {base : Heap}
abbrev BodyG (P : Program) (w : World) (K : PySem.W.Frag) (mg : Str → Option Value) (base : Heap) (qual : Str) (st : Stmt) (f : Addr) (N : List Str) (k : Nat) (sp : Sp) : Prop :=
  ∀ (cdv : Value) (A : Around) (outer : List Env) (s : Shared) (H : Hp) (vs : List V) (Q : VK) (E : XK), Room k (A.deeper (envOfC qual (defScope st) s.heap.objs.size f cdv)) → A.guards = some [] → sp vs H Q E →
    ∃ t, PSs (cxOf (L2.CX P w) P w K mg base N qual (defScope st) f cdv A outer s H E).nox (defBody st) t ∧ t { nx := fun _ H' => Q .non H', rt := Q } (start N vs) H
theorem fnG {x qual : Str} {st : Stmt} {f : Addr} {fd : FuncData} {N ps : List Str} {k : Nat} {sp : Sp} (F : FunD K x qual (defArgs st) (defBody st) (defScope st) [] [] f fd) (S : FnScope N ps (defScope st))
    (len : ∀ vs H Q E, sp vs H Q E → vs.length = ps.length) (hb : BodyG P w K mg base qual st f N k sp) : FnG P w K mg base (k + 1) f fd ps sp := by
  obtain ⟨oc, od, dV, kV, doc, pm, an, cdv, ct, osl, rfl, lk, hcd, _, _⟩ := F.ex
  constructor
  · exact len
  intro A outer s H args us vs Q E hr hgd e0 hbi r hsp
  have hin : K.In s.heap := e0.mod.kin.keeps fun b o e => (e0.bs b o e).left
  have hlim : s.heap.NoLimit := e0.mod.nolimit.keeps fun b o e => (e0.bs b o e).left
  have hkd : ∀ y ∈ ps.zip us, (defScope st).names.lookup y.1 = some .local ∨ ((defScope st).names.lookup y.1 = some .cell ∧ ((cellsFrom (s.heap.objs.size + 1) (defScope st).names []).lookup y.1).isSome = true) := by
    rintro ⟨n, v⟩ hy
    cases S.par n (List.of_mem_zip hy).1 with
    | inl q => exact .inl q
    | inr q => exact .inr ⟨q, PySem.W.cellsFrom_some _ _ _ (.inl q)⟩
  apply codeAny_call_function hr.depth (hin _ _ lk) rfl S.co S.gen rfl (PySem.W.codeRec_of hin hcd)
  apply hbi
  apply wpAny_newFunctionEnv_cells S.kind hkd
  rintro env rfl s1 x
  constructor
  · exact hlim.keeps x.toInCall.keep
  apply codeAny_func
  obtain ⟨t, ht, hq⟩ := hb cdv A outer s H vs Q E (hr.deeper _) hgd hsp
  have I := inv_start (CX := L2.CX P w) (qual := qual) (f := f) (cd := cdv) (E := E) S hr.hd e0 (len _ _ _ _ hsp) r x
  apply wpAny_mono (ht.nox.run [] s1 (start N vs) H _ I hq)
  · intro fl s' hs
    match fl, hs with
    | .ret u, ⟨v, σ', H', J, rv, q⟩ => exact ⟨v, H', J.os, J.bare, J.base, J.hok, rv, q⟩
    | .next, ⟨σ', H', J, q⟩ => exact ⟨V.non, H', J.os, J.bare, J.base, J.hok, rfl, q⟩
    | .brk, ⟨_, _, _, q⟩ => exact q.elim
    | .cont, ⟨_, _, _, q⟩ => exact q.elim
  · exact fun e s' hs => hs
end
section
variable {X : Cx} {x : Str} {p pos : Pos} {e : Expr} {es : List Expr} {t : TA} {ps : List Str} {sp : Sp} {k : Nat} {f : Addr} {fd : FuncData} {E : XK}
theorem pe_g (F : FnG X.prog X.w X.K X.mg X.base k f fd ps sp) (hr : Room k X.A) (hgd : X.A.guards = some []) (hg : Gl X x) (hm : X.mg x = some (.ref f)) (hk : PySem.W.keepIn X.K (.ref f) = true) (hb : Binds X.K fd ps []) (hx : Passes (L2.CX X.prog X.w) X E)
    (ha : PA X (e :: es) t) (hdb : (x == ("__debug__" : Str)) = false := by decide) (he : starEach (e :: es) X.env = (false, eval e X.env) :: starEach es X.env := by rfl) (hpl : (backTo pos (starEach es X.env)).any (·.1) = false := by rfl) : PE X (.Call (.Name x p) (e :: es) [] pos) (tCall sp [] E t) := by
  constructor
  intro pins s σ H Q I h
  apply wpAny_Call_Name_kw (ld_glob I hg hm ?_ hdb)
  refine PySem.W.callWith_K (h₀ := X.base) I.ok.mod.kin hk (thn (ha.run pos pins s σ H _ I h) ?_) he hpl
  rintro us s1 ⟨vs, H1, I1, r, q⟩
  refine ⟨I1.kIn, wpAny_call (codeAny_mono (F.go X.A X.stack s1 H1 ⟨us, []⟩ (us ++ []) (vs ++ []) Q E hr hgd I1.env0 (hb s1 us I1.kIn ?_) (r.append .nil) q) ?_)⟩
  · rw [List.append_nil, ← r.length]
    have := F.ln _ _ _ _ q
    rwa [List.append_nil] at this
  · intro r' s' hq
    match r', hq with
    | .error e, hq => exact hx pins σ H1 s1 e s' I1 hq
    | .ok (.ret u), hq => exact I1.after hq
    | .ok .next, hq => exact hq.elim
    | .ok .brk, hq => exact hq.elim
    | .ok .cont, hq => exact hq.elim
end
end K82W
end K82Guard_part
section K82Fewer_part
set_option Elab.async false
set_option linter.all false
set_option maxRecDepth 100000
set_option maxHeartbeats 4000000
namespace K82W
open PySem PySem.Spec PyProof.Rows L2
section
variable {P : Program} {w : World} {K : PySem.W.Frag} {mg : Str → Option Value} {base : Heap}
def endV : Option Nat → V
  | none => .non
  | some _ => .str "name"
def spEndL : Sp := fun vs H Q _ => ∃ v o, vs = [v] ∧ EndAt H v o ∧ Q (endV o) H
theorem c_end (T : TxL P K mg w) : Cal P w K mg base 1 "_law_end" p_law_end spEndL := by
  refine calN T.d_law_end T.g_law_end sc_law_end (fun _ _ _ _ _ _ us hl => match us, hl with | [_], _ => rfl) (fun vs H Q E h => ?_) (fun cdv A outer s H vs Q E hr h => ?_)
  · obtain ⟨v, o, rfl, _⟩ := h
    rfl
  · obtain ⟨v, o, rfl, hE, hQ⟩ := h
    refine ⟨_, pss_one (ps_ret (pe_ifExp (pt_cmpR op_isN (pv 0) pe_non (nomark _)) pe_non (pe_ix ix_tup (pv 0) pe_int (fun _ _ => rfl)))), ?_⟩
    cases o with
    | none =>
      obtain rfl : v = .non := hE
      refine ⟨_, rfl, rfl, true, congrArg V.bl (decide_eq_true rfl), iteT ?_⟩
      exact hQ
    | some pl =>
      obtain ⟨t, rfl, ht⟩ := hE
      refine ⟨_, rfl, rfl, false, congrArg V.bl (decide_eq_false (fun z => nomatch z)), iteF ?_⟩
      exact ⟨_, rfl, t, _, _, _, rfl, rfl, SqT.of ht, atI_nat (j := 0) rfl, hQ⟩
/-- a program that may be asked -/
structure Askable (H : Hp) (a : Addr) (B : List PStm) : Prop where
  at_ : ∃ b xs, PrgAt H a b xs B
  len : B.length ≤ 100
  rd : K82.readsOf B ≤ 5
  ws : wishesOf B ≤ 1
theorem Askable.mono {H H' : Hp} {a : Addr} {B : List PStm} (h : Askable H a B) (s : Same H H') : Askable H' a B := by
  obtain ⟨⟨b, xs, h1⟩, h2, h3, h4⟩ := h
  exact ⟨⟨b, xs, h1.mono s⟩, h2, h3, h4⟩
theorem ways_few {B : List PStm} (h : K82.readsOf B ≤ 5) : (waysOf B).length ≤ 32 := by
  have h1 := K82.leaves_len (K82.treeOf B)
  have h2 := K82.depth_of B
  have h3 : 2 ^ K82.depth (K82.treeOf B) ≤ 2 ^ 5 := Nat.pow_le_pow_right (by decide) (Nat.le_trans h2 h)
  exact Nat.le_trans h1 h3
theorem say_ok {H : Hp} {xs : List V} {B : List PStm} (h : Paired (StmAt H) xs B) : ∀ w, K82.Stm.say w ∈ B → OkW w := by
  induction h with
  | nil => intro w hw; exact nomatch hw
  | cons h _ ih =>
    intro w hw
    rcases List.mem_cons.mp hw with rfl | hw
    · obtain ⟨a, b, _, _, q⟩ := h
      exact q
    · exact ih w hw
theorem said_ok {H : Hp} {a : Addr} {B : List PStm} (h : Askable H a B) : ∀ r ∈ waysOf B, (∀ x ∈ r.said, OkA x) ∧ r.said.length ≤ 1000 := by
  intro r hr
  obtain ⟨⟨b, xs, hP⟩, hl, _, _⟩ := h
  obtain ⟨q1, q2⟩ := K82.said_tree B B _ _ _ (fun _ z => z) (fun w z => by simp at z) r hr
  refine ⟨fun x hx => ?_, ?_⟩
  · cases x with
    | said w => exact say_ok hP.2.2.1 w (q1 w hx)
    | yes => trivial
    | no => trivial
  · have q2 : r.said.length ≤ 0 + B.length := q2
    omega
theorem keys_dp {H H2 : Hp} (k : Tups H H2) : ∀ {rows : List (K82.Row Str)} {kvs : List (List Key × V)} {bs : List Addr}, IsKeys H kvs bs → kvs.map (·.1) = (rows.map (·.rcd)).map keyOf → DpAll K H2 (bs.map V.ref) (rows.map fun r => recD r.rcd)
  | [], _, _, .nil, _ => .nil
  | [], _, _, .cons _ _, e => by simp at e
  | _ :: _, _, _, .nil, e => by simp at e
  | r :: rows, p :: kvs, b :: bs, .cons h t, e => by
    simp only [List.map_cons, List.cons.injEq] at e
    rw [e.1, keyOf_V] at h
    exact .cons (dp_rec (k _ _ h)) (keys_dp k t e.2)
theorem depth_recs : ∀ rows : List (K82.Row Str), PyData.depthAll (rows.map fun r => recD r.rcd) ≤ 1
  | [] => by simp [PyData.depthAll]
  | r :: rows => by
    have := depth_recs rows
    simp only [List.map_cons, PyData.depthAll, depth_rec]
    omega
def spFewer : Sp := fun vs H Q _ => ∃ (a a' : Addr) (B B' : List PStm), vs = [.ref a, .ref a'] ∧ Askable H a B ∧ Askable H a' B' ∧ K82.FixRel B B' ∧ ∀ H', Same H H' → Q (.bl true) H'
theorem b_fewer (T : TxI P K mg w) : BodyG P w K mg base "_law_fewer" s_law_fewer (He.ga K "_law_fewer") n_law_fewer 14 spFewer := by
  intro cdv A outer s H vs Q E hr hgd h
  obtain ⟨a, a', B, B', rfl, hB, hB', hF, hQ⟩ := h
  obtain ⟨fw, qw, Fw, _⟩ := T.d_ways
  have hkw := Fw.kp
  have hu := hu_of hr
  have hu64 : (A.deeper (envOfC "_law_fewer" (defScope s_law_fewer) s.heap.objs.size (He.ga K "_law_fewer") cdv)).units + 64 < cLine := by
    have := hr.un
    omega
  refine ⟨_, pss_cons (ps_set (i := 2) sc_law_fewer.nd rfl (Or.inl rfl) (pe_callTy (call_dictPT rfl hu64) (by rfl) T.b_dict (by decide +kernel) (pa_cons (pe_lcWays T (hr.mono (by decide)) (by rfl) hkw (pa_cons (pv 0) (pa_cons (pe_tup pa_nil) pa_nil)) rfl rfl rfl rfl) pa_nil)))
    (pss_cons (ps_set (i := 3) sc_law_fewer.nd rfl (Or.inl rfl) (pe_listG (pgen_ways T (hr.mono (by decide)) (by rfl) hkw (pa_cons (pv 1) (pa_cons (pe_tup pa_nil) pa_nil))) passL (fun _ _ _ z => z.elim) (hr.mono (by decide)) (by rfl) T.b_list (by decide +kernel)))
    (pss_cons (ps_for PassesOwn.never rfl (pi_list (pv 3)) (pg_tup (by rfl) (pgs_cons (pg_name (i := 4) sc_law_fewer.nd rfl (Or.inl rfl)) (pgs_cons (pg_name (i := 5) sc_law_fewer.nd rfl (Or.inl rfl)) (pgs_cons (pg_name (i := 6) sc_law_fewer.nd rfl (Or.inl rfl)) (pgs_cons (pg_name (i := 7) sc_law_fewer.nd rfl (Or.inl rfl)) pgs_nil)))))
      (pss_cons (ps_if (pw_or (pt_cmp (pc_dnotin hu (pv 4) (pv 2))) (pw_or1 (pt_cmpR op_ne (pe_callB (call_reprD (by exact hgd) hu64) (by rfl) T.b_repr (by decide +kernel) (pa_cons (pv 5) pa_nil)) (pe_callB (call_reprD (by exact hgd) hu64) (by rfl) T.b_repr (by decide +kernel) (pa_cons (pe_ix ix_tup (pe_dget hu (pv 2) (pv 4) (fun _ _ => rfl)) pe_int (fun _ _ => rfl)) pa_nil)) (nomark _)))).pt pss_never pss_nil)
      (pss_one (ps_if (pt_cmpR op_ne (pe_c (c_end T.toTxL) hr (by decide) (by rfl) passL (pa_cons (pv 6) pa_nil)) (pe_c (c_end T.toTxL) hr (by decide) (by rfl) passL (pa_cons (pe_ix ix_tup (pe_dget hu (pv 2) (pv 4) (fun _ _ => rfl)) pe_int (fun _ _ => rfl)) pa_nil)) (nomark _)) pss_never pss_nil))))
    (pss_one (ps_ret (pe_and (pe_cmpR (op_eqD hu64) (pe_ix ix_tup (pe_ix ix_list (pv 3) pe_int (fun _ _ => rfl)) pe_int (fun _ _ => rfl)) (pe_callB (call_minD rfl hu64) (by rfl) T.b_min (by decide +kernel) (pa_cons (pe_callTy (call_list_dT rfl) (by rfl) T.b_list (by decide +kernel) (pa_cons (pv 2) pa_nil)) pa_nil)) (nomark _)) (pe_one (pe_cmpR (op_eqD hu64) (pe_ix ix_tup (pe_ix ix_list (pv 3) pe_int (fun _ _ => rfl)) pe_int (fun _ _ => rfl)) (pe_tup pa_nil) (nomark _)))))))), ?_⟩
  obtain ⟨⟨b, xs, hP⟩, hl1, hr1, hw1⟩ := id hB
  obtain ⟨⟨b', xs', hP'⟩, hl2, hr2, hw2⟩ := id hB'
  have n1 := ways_few hr1
  have n2 := ways_few hr2
  refine ⟨_, rfl, Nat.zero_le _, fun t0 ht0 => ?_⟩
  have s1 := Same.upd (o := .tup []) ht0
  refine ⟨_, _, rfl, a, b, xs, B, rfl, hP.mono s1, hl1, hr1, hw1, Nat.le_of_lt (le_line (by omega)), fun H1 D ts k1 hD0 hD hpr => ?_⟩
  obtain ⟨es, he1, he2⟩ := ents_of hpr
  refine ⟨D, ts, es, rfl, SqL.of hD, he1, fun kd hkd => ?_⟩
  have ekeys := ents_keys he2
  have nd : ((es.map fun e => (e.1, e.2.2)).map (·.1)).Nodup := by
    rw [ekeys]
    exact List.Pairwise.map _ (fun x y q z => q (keyOf_inj z)) (K82.leaves_nodup (K82.treeOf B))
  rw [mergeT_new _ [] nd (fun _ _ z => by simp at z), List.nil_append]
  have s2 : Same H (upd H1 kd (.dT (es.map fun e => (e.1, e.2.2)))) := (s1.trans k1).updT hkd
  have hk2 : upd H1 kd (.dT (es.map fun e => (e.1, e.2.2))) kd = some (.dT (es.map fun e => (e.1, e.2.2))) := upd_same
  have he3 : Paired (EntAt (upd H1 kd (.dT (es.map fun e => (e.1, e.2.2))))) es (waysOf B) := pmono he2 fun _ _ z => z.mono (Same.upd hkd).tups
  generalize upd H1 kd (.dT (es.map fun e => (e.1, e.2.2))) = H2 at s2 hk2 he3 ⊢
  -- the rows
  refine ⟨_, rfl, Nat.zero_le _, fun t1 ht1 => ?_⟩
  have s3 := Same.upd (o := .tup []) ht1
  refine ⟨_, _, rfl, a', b', xs', B', rfl, hP'.mono (s2.trans s3), hl2, hr2, hw2, Nat.le_of_lt (le_line (by omega)), fun H3 ys k3 hrows => ?_⟩
  intro lr hlr
  have s4 : Same H2 (upd H3 lr (.lst ys)) := (s3.trans k3).updT hlr
  have hl4 : upd H3 lr (.lst ys) lr = some (.lst ys) := upd_same
  have hrows4 : Paired (RowAt (upd H3 lr (.lst ys))) ys (waysOf B') := pmono hrows fun _ _ z => z.mono (Same.upd hlr).tups
  have he4 : Paired (EntAt (upd H3 lr (.lst ys))) es (waysOf B) := pmono he3 fun _ _ z => z.mono s4.tups
  have hk4 := s4 _ _ hk2
  have sH : Same H (upd H3 lr (.lst ys)) := s2.trans s4
  generalize upd H3 lr (.lst ys) = H4 at hl4 hrows4 he4 hk4 sH ⊢
  have yl : ys.length = (waysOf B').length := paired_len hrows4
  have sub := K82.fix_sub hF
  have key : ∀ r' ∈ waysOf B', ∃ v q, valV (es.map fun e => (e.1, e.2.2)) (keyOf r'.rcd) = some v ∧ RowAt H4 v q ∧ q.said = r'.said ∧ q.stop.isSome = r'.stop.isSome := fun r' hr' => by
    obtain ⟨r, g1, g2, g3, g4⟩ := sub r' hr'
    obtain ⟨v, q, q1, q2, q3, q4⟩ := ents_look he4 g1
    have e : q = r := K82.leaves_inj _ _ _ q2 g1 q3
    rw [g2] at q1
    rw [e] at q4
    exact ⟨v, r, q1, q4, g3, g4⟩
  refine ⟨_, rfl, lr, rfl, ⟨_, SqL.of hl4⟩, for_list (K := K) (a := lr) (xs := ys) (fun i σ H' => (∃ v4 v5 v6 v7, σ = [some (.ref a), some (.ref a'), some (.ref kd), some (.ref lr), v4, v5, v6, v7, none]) ∧ H' = H4) ⟨⟨none, none, none, none, rfl⟩, rfl⟩ (fun i σ H' _ ⟨_, e⟩ => by rw [e]; exact SqL.of hl4) ?_ ?_⟩
  · rintro i y σ H' hi ⟨⟨v4, v5, v6, v7, rfl⟩, rfl⟩
    obtain ⟨r', hr', hrow⟩ := pget hrows4 hi
    obtain ⟨v, q, hv, hq, hsd, hst⟩ := key r' (List.mem_of_getElem? hr')
    have hok := said_ok hB' r' (List.mem_of_getElem? hr')
    obtain ⟨t, tr, ts', e, tl, sv, lv, rfl, g1, g2, g3, g4, g5, g6, g7⟩ := hrow
    obtain ⟨qt, qtr, qts, qe, qtl, qsv, qlv, rfl, f1, f2, f3, f4, f5, f6, f7⟩ := hq
    have hget : DGet H' kd (.ref tr) (some (.ref qt)) := by
      rw [← hv]
      exact DGet.t hk4 (by rw [keyOf_V]; exact g2)
    have d1 : Dp K H' (.ref ts') (saidsD r'.said) := .tup (SqT.of g3) (dp_saids g4)
    have d2 : Dp K H' (.ref qts) (saidsD r'.said) := .tup (SqT.of f3) (by rw [← hsd]; exact dp_saids f4)
    obtain ⟨z1, z2, z3⟩ := say_data r'.said
    have w1 : (saidsD r'.said).showable = true := by simp [saidsD, PyData.showable, z1]
    have w2 : (saidsD r'.said).hasDict = false := by simp [saidsD, PyData.hasDict, z2]
    have w3 : (saidsD r'.said).depth ≤ 10 := by simp [saidsD, PyData.depth]; omega
    have w4 := shown_saids hok.1 hok.2
    refine ⟨t, _, rfl, SqT.of g1, rfl, _, _, rfl, _, _, rfl, _, _, rfl, _, _, rfl, rfl, ?_⟩
    refine ⟨_, rfl, _, rfl, kd, _, rfl, hget, _, rfl, iteF ?_⟩
    refine ⟨_, rfl, ts', _, rfl, d1, w1, w2, w3, w4, ?_⟩
    refine ⟨_, rfl, _, rfl, kd, _, rfl, hget, qt, _, _, _, rfl, rfl, SqT.of f1, atI_nat (j := 1) rfl, qts, _, rfl, d2, w1, w2, w3, w4, rfl, false, congrArg V.bl (by rw [decide_eq_true rfl]; rfl), iteF ?_⟩
    have hsc : scal (endV r'.stop) (endV q.stop) = true ∧ endV r'.stop = endV q.stop := by
      cases h1 : r'.stop <;> cases h2 : q.stop <;> rw [h1, h2] at hst <;> first | exact ⟨rfl, rfl⟩ | cases hst
    refine ⟨_, rfl, e, r'.stop, rfl, g5, _, rfl, _, rfl, kd, _, rfl, hget, qt, _, _, _, rfl, rfl, SqT.of f1, atI_nat (j := 2) rfl, qe, q.stop, rfl, f5, hsc.1, false, congrArg V.bl (by rw [decide_eq_true hsc.2]; rfl), iteF ⟨⟨_, _, _, _, rfl⟩, rfl⟩⟩
  · rintro σ H' ⟨⟨v4, v5, v6, v7, rfl⟩, rfl⟩
    obtain ⟨rest, hrest⟩ := K82.leaves_head (K82.treeOf B)
    obtain ⟨rest', hrest'⟩ := K82.leaves_head (K82.treeOf B')
    have hrec := K82.fix_first hF
    have hrest : waysOf B = (K82.follow (K82.treeOf B) []).row :: rest := hrest
    have hrest' : waysOf B' = (K82.follow (K82.treeOf B') []).row :: rest' := hrest'
    obtain ⟨y0, hy0⟩ : ∃ y0, ys[0]? = some y0 := ⟨_, List.getElem?_eq_getElem (show 0 < ys.length by rw [yl, hrest']; exact Nat.zero_lt_succ _)⟩
    obtain ⟨r0, hr0, hrow⟩ := pget hrows4 hy0
    obtain rfl : (K82.follow (K82.treeOf B') []).row = r0 := by
      rw [hrest'] at hr0
      exact Option.some.inj hr0
    have hall : ∀ x ∈ (K82.follow (K82.treeOf B') []).rep, x = false := K82.plain_all B'
    obtain ⟨t, tr, ts', e, tl, sv, lv, rfl, g1, g2, g3, g4, g5, g6, g7⟩ := hrow
    obtain rfl : lv = [] := g7 hall
    refine ⟨_, rfl, lr, _, _, _, rfl, rfl, SqL.of hl4, atI_nat (j := 0) hy0, t, _, _, _, rfl, rfl, SqT.of g1, atI_nat (j := 0) rfl, ?_⟩
    refine ⟨_, rfl, kd, _, rfl, .inl hk4, fun p bs hp hbs => ?_⟩
    have s5 := Same.upd (o := .lst (bs.map V.ref)) hp
    have hD : DpAll K (upd H' p (.lst (bs.map V.ref))) (bs.map V.ref) ((waysOf B).map fun r => recD r.rcd) := keys_dp s5.tups hbs ekeys
    rw [hrest] at hD
    refine ⟨p, bs, recD (K82.follow (K82.treeOf B) []).rep, rest.map fun (r : K82.Row Str) => recD r.rcd, rfl, SqL.of upd_same, hD, ⟨fun x hx y hy => ?_, fun x hx => ?_⟩, ?_, fun b2 hb2 hd2 => ?_⟩
    · have al : ∀ z ∈ recD (K82.follow (K82.treeOf B) []).rep :: rest.map fun (r : K82.Row Str) => recD r.rcd, ∃ r, z = recD r := fun z hz => by
        rcases List.mem_cons.mp hz with rfl | hz
        · exact ⟨_, rfl⟩
        · obtain ⟨r, _, rfl⟩ := List.mem_map.mp hz
          exact ⟨_, rfl⟩
      obtain ⟨r1, rfl⟩ := al x hx
      obtain ⟨r2, rfl⟩ := al y hy
      exact alike_rec r1 r2
    · rcases List.mem_cons.mp hx with rfl | hx
      · exact fun z => nomatch z
      · obtain ⟨r, _, rfl⟩ := List.mem_map.mp hx
        exact fun z => nomatch z
    · have := depth_recs rest
      simp only [PyData.depthAll, depth_rec]
      omega
    have hmin : PySem.W.minD (recD (K82.follow (K82.treeOf B) []).rep) (rest.map fun (r : K82.Row Str) => recD r.rcd) = recD (K82.follow (K82.treeOf B) []).rep := by
      refine minD_first fun y hy => ?_
      obtain ⟨r, hr, rfl⟩ := List.mem_map.mp hy
      rw [lt_rec]
      refine K82.first_min (K82.treeOf B) r ?_
      have : r ∈ waysOf B := by rw [hrest]; exact List.mem_cons_of_mem _ hr
      exact this
    rw [hmin] at hd2
    have hd1 : Dp K (upd H' p (.lst (bs.map V.ref))) (.ref tr) (recD (K82.follow (K82.treeOf B) []).rep) := by
      rw [← hrec]
      exact dp_rec (s5 _ _ g2)
    have hrf : PyData.eqv (recD (K82.follow (K82.treeOf B) []).rep) (recD (K82.follow (K82.treeOf B) []).rep) = true := PySem.W.eqv_refl_alike _ (alike_rec _ _)
    refine ⟨_, _, hd1, hd2, shaped_rec _, shaped_rec _, true, congrArg V.bl hrf, iteT ?_⟩
    refine ⟨_, rfl, lr, _, _, _, rfl, rfl, SqL.of (s5 _ _ hl4), atI_nat (j := 0) hy0, t, _, _, _, rfl, rfl, SqT.of (s5 _ _ g1), atI_nat (j := 3) rfl, Nat.zero_le _, fun t3 ht3 => ?_⟩
    have s6 := Same.upd (o := .tup []) ht3
    refine ⟨.tuple [], .tuple [], .tup (SqT.of (s6 _ _ (s5 _ _ g6))) .nil, .tup (SqT.of upd_same) .nil, by decide, by decide, ?_⟩
    exact hQ _ ((sH.trans s5).trans s6)
end
end K82W
end K82Fewer_part
section K82LFix_part
set_option Elab.async false
set_option linter.all false
set_option maxRecDepth 100000
set_option maxHeartbeats 4000000
namespace K82W
open PySem PySem.Spec PyProof.Rows L2
section
variable {P : Program} {w : World} {K : PySem.W.Frag} {mg : Str → Option Value} {base : Heap}
def spLFix (C : Addr) (chg : PStm → List PStm) (n : Nat) (k : Str) : Sp := fun vs H Q _ => ∃ (p c : Addr) (m : Nat) (o dx a b : Addr) (xs : List V) (B : List PStm), vs = [.ref p, .ref o, .ref a] ∧ Dk H p c m ∧ m ≤ 60000 ∧ H o = some (.ins C dx []) ∧ PrgAt H a b xs B ∧ n * xs.length ≤ 100 ∧
  ∀ H' a' b' us (is : List Int), Fr [p, c] H H' → Dk H' p c (m + 100) → PrgAt H' a' b' us (reb chg (fun i => decide (i ∈ is)) 0 B) → Q (.ref a') H'
theorem c_lfix (T : TxL P K mg w) {C : Addr} {chg : PStm → List PStm} {n : Nat} {k : Str} (cl : Cls K C) (po : Met P w K mg base 6 C "places_of" ["self", "program"] (spPO k)) (ap : Met P w K mg base 7 C "applied" p_Fix_applied (spApp C chg n k)) :
    Cal P w K mg base 8 "_law_fixed" p_law_fixed (spLFix C chg n k) := by
  refine calN T.d_law_fixed T.g_law_fixed sc_law_fixed (fun _ _ _ _ _ _ us hl => match us, hl with | [_, _, _], _ => rfl) (fun vs H Q E h => ?_) (fun cdv A outer s H vs Q E hr h => ?_)
  · obtain ⟨p, c, m, o, dx, a, b, xs, B, rfl, _⟩ := h
    rfl
  · obtain ⟨p, c, m, o, dx, a, b, xs, B, rfl, D, hm, ho, hP, hlen, hQ⟩ := h
    refine ⟨_, pss_one (ps_ret (pe_m ap hr (by decide) passL cl (pv 1) (pa_cons (pv 2) (pa_cons (pe_callTy call_tuple_of (by rfl) T.b_tuple (by decide +kernel) (pa_cons (pe_lc (own := [("_law_place", 3)]) (g := gName 3) (te := tVar 3) rfl sc_law_fixed.nd
      (pi_tup (pe_m po hr (by decide) passL cl (pv 1) (pa_cons (pv 2) pa_nil))) (blkOk_by (N := n_law_fixed) (sc := defScope s_law_fixed) (by decide +kernel))
      (fun _ _ _ _ _ => pg_name (i := 3) sc_law_fixed.nd rfl (Or.inl rfl) (hf := Or.inr rfl)) (fun _ _ _ _ _ => pts_one (pt_cmpR op_eq (pe_c (c_draw T) hr (by decide) (by rfl) passL (pa_cons (pv 0) (pa_cons pe_int pa_nil))) pe_int (nomark _))) (fun _ _ _ _ _ => pv 3)) pa_nil)) pa_nil)))), ?_⟩
    have hbl : B.length ≤ 100 := by
      rw [← paired_len hP.2.2.1]
      exact hP.2.2.2
    refine ⟨_, rfl, o, dx, [], rfl, ho, rfl, _, rfl, ?_⟩
    refine ⟨_, rfl, o, dx, [], rfl, ho, rfl, _, rfl, _, a, b, xs, B, rfl, hP, fun H1 q k1 hq0 hq => ?_⟩
    have hpl := plc_len k B 0
    refine ⟨q, rfl, ⟨_, SqT.of hq⟩, fun Dl hDl => ?_⟩
    have D1 := D.mono k1
    have sD := Same.upd (o := .lst []) hDl
    refine lc_tup (K := K) (a := q) (xs := (plc k 0 B).map V.int) (fun i H2 => Fr [p, c] H H2 ∧ Dk H2 p c (m + i) ∧ H2 q = some (.tup ((plc k 0 B).map V.int)) ∧ ∃ is : List Int, H2 Dl = some (.lst (is.map V.int)) ∧ is.length ≤ i ∧ ∀ j ∈ is, j ∈ plc k 0 B)
      ⟨(k1.trans sD).fr _, D1.mono sD, sD _ _ hq, [], upd_same, Nat.le_refl _, fun j z => by simp at z⟩ (fun i H2 _ ⟨_, _, z, _⟩ => SqT.of z) ?_ ?_
    · rintro i x H2 hi ⟨f2, D2, hq2, is, hDl2, hil, hin⟩
      obtain ⟨j, hj, rfl⟩ : ∃ j, j ∈ plc k 0 B ∧ V.int j = x := List.mem_map.mp (List.mem_of_getElem? hi)
      have hi' : i < (plc k 0 B).length := by
        have := (List.getElem?_eq_some_iff.mp hi).1
        rwa [List.length_map] at this
      have nDp : Dl ≠ p := fun e => by
        obtain ⟨_, _, z⟩ := D1.deck
        rw [← e, hDl] at z
        cases z
      have nDc : Dl ≠ c := fun e => by
        obtain ⟨_, z, _⟩ := D1.cells
        rw [← e, hDl] at z
        cases z
      refine ⟨rfl, _, rfl, p, c, _, 3, rfl, D2, by omega, by decide, by decide, fun H3 r f3 D3 hr3 => ?_⟩
      have t3 := D2.tups f3
      have hDl3 := f3 _ _ hDl2 (by simp [nDp, nDc])
      refine ⟨rfl, decide ((r : Int) = 0), congrArg V.bl (decide_eq_decide.mpr ⟨fun e => V.int.inj e, fun e => by rw [e]⟩), ?_⟩
      by_cases hz : (r : Int) = 0
      · rw [decide_eq_true hz]
        refine iteT ⟨_, rfl, _, hDl3, ?_, (fun b' o' e n' => by rw [upd_ne (ne_of_none (k1 _ _ e) hDl)]; exact (f2.trans f3) b' o' e n'), ?_, ?_, is ++ [j], by rw [upd_same, List.map_append]; rfl, by rw [List.length_append]; exact Nat.succ_le_succ hil, fun z hz => ?_⟩
        · rw [List.length_map]
          exact le_line (by omega)
        · exact D3.keep (l := [Dl]) (Fr.put (by simp)) (by simpa using nDp.symm) (by simpa using nDc.symm)
        · rw [upd_ne (ne_of (t3 _ _ hq2) hDl3 (fun e => nomatch e))]
          exact t3 _ _ hq2
        · rcases List.mem_append.mp hz with hz | hz
          · exact hin z hz
          · rw [List.mem_singleton.mp hz]
            exact hj
      · rw [decide_eq_false hz]
        exact iteF ⟨f2.trans f3, D3, t3 _ _ hq2, is, hDl3, Nat.le_succ_of_le hil, hin⟩
    · rintro H2 ⟨f2, D2, hq2, is, hDl2, hil, hin⟩
      rw [List.length_map] at hil D2
      have t2 := D.tups f2
      have ho2 : H2 o = some (.ins C dx []) := by
        obtain ⟨_, ⟨kk, _, hp⟩, ⟨ys, hc, _⟩⟩ := D
        exact f2 _ _ ho (by simp [ne_of ho hp (fun e => nomatch e), ne_of ho hc (fun e => nomatch e)])
      have hP2 : PrgAt H2 a b xs B := ⟨t2 _ _ hP.1, t2 _ _ hP.2.1, pmono hP.2.2.1 fun _ _ z => z.tups t2, hP.2.2.2⟩
      refine ⟨_, _, rfl, .inl ⟨SqL.of hDl2, fun t ht => ?_⟩⟩
      have s3 := Same.upd (o := .tup (is.map V.int)) ht
      refine ⟨o, dx, a, b, xs, B, t, is, rfl, s3 _ _ ho2, hP2.mono s3, hlen, upd_same, hin, fun H3 a' b' us k3 hP3 => ?_⟩
      exact hQ H3 a' b' us is (f2.trans ((s3.trans k3).fr _)) (((D2.mono s3).mono k3).up (by omega)) hP3
end
end K82W
end K82LFix_part
section K82Mk_part
set_option Elab.async false
set_option linter.all false
set_option maxRecDepth 100000
set_option maxHeartbeats 4000000
/-! C() of a class without an __init__ of its own -/
namespace K82W
open PySem PySem.Spec PyProof.Rows L2
structure Mk0 (K : PySem.W.Frag) (C : Addr) : Prop where
  makes : PySem.W.makesIn K C = true
  init : PySem.W.findIn K (.ref C) "__init__" = some (some (.builtin "object.__init__"))
  kp : PySem.W.keepIn K (.ref C) = true
def tMk0 (C : Addr) : TE := fun _ H Q => ∀ x dx, H x = none → H dx = none → dx ≠ x → Q (.ref x) (upd (upd H dx (.own x)) x (.ins C dx []))
section
variable {X : Cx} {C : Addr} {x : Str} {p pos : Pos}
theorem pe_mk0 (M : Mk0 X.K C) (hg : Gl X x) (hm : X.mg x = some (.ref C)) (hdb : (x == ("__debug__" : Str)) = false := by decide) : PE X (.Call (.Name x p) [] [] pos) (tMk0 C) := by
  constructor
  intro pins s σ H Q I h
  apply wpAny_Call_Name_kw (ld_glob I hg hm ?_ hdb)
  refine PySem.W.callWith_K0 I.kIn M.kp ?_
  have hq := h (s.heap.objs.size + 1) s.heap.objs.size (I.hok.fresh (Nat.le_succ _)) (I.hok.fresh (Nat.le_refl _)) (Nat.ne_of_lt (Nat.lt_succ_self _))
  have I2 := Inv.made (C := C) I
  have Y := PySem.W.makes_of (M := model X.prog X.w) I.kIn M.makes
  have k : ∀ b o, s.heap.get? b = some o → ((s.heap.push PySem.W.emptyDict).push (PySem.W.instObj C s.heap.objs.size)).get? b = some o := fun b o e => Heap.get?_push_of_some _ (Heap.get?_push_of_some _ e)
  have hx : ((s.heap.push PySem.W.emptyDict).push (PySem.W.instObj C s.heap.objs.size)).get? (s.heap.objs.size + 1) = some (PySem.W.instObj C s.heap.objs.size) := by
    have e : (s.heap.push PySem.W.emptyDict).objs.size = s.heap.objs.size + 1 := Heap.size_push ..
    rw [← e]
    exact Heap.get?_push_size _ rfl
  have t1 : PySem.W.Looks (model X.prog X.w) ((s.heap.push PySem.W.emptyDict).push (PySem.W.instObj C s.heap.objs.size)) (typeOf (.ref (s.heap.objs.size + 1))) (.ref C) := (PySem.W.Looks.ld hx).andThen .now
  have t2 : PySem.W.Looks (model X.prog X.w) ((s.heap.push PySem.W.emptyDict).push (PySem.W.instObj C s.heap.objs.size)) (isInstance (.ref (s.heap.objs.size + 1)) (.type "object")) true := t1.andThen (Y.top.keeps k)
  refine wpAny_call (make_map0 I.kIn M.makes M.init (fun self => PySem.W.Looks.of_pure (PySem.W.oi_bind self)) ?_)
  refine codeAny_call_builtin PySem.W.oi_plain PySem.W.entry_oi (@PySem.W.check_slot (model X.prog X.w) _ _ _ "object.__init__" "object" "__init__" (.ref (s.heap.objs.size + 1)) [] [] _ PySem.W.oi_kind PySem.W.oi_split t2 (PySem.W.oi_args (.ref (s.heap.objs.size + 1))) ?_)
  rw [PySem.W.oi_run]
  exact wpAny_pure ⟨rfl, .ref (s.heap.objs.size + 1), _, I2, rfl, hq⟩
end
end K82W
end K82Mk_part
section K82Top_part
set_option Elab.async false
set_option linter.all false
set_option maxRecDepth 100000
set_option maxHeartbeats 4000000
namespace K82W
open PySem PySem.Spec PyProof.Rows L2
structure TxZ (P : Program) (K : PySem.W.Frag) (mg : Str → Option Value) (w : World) : Prop extends TxI P K mg w where
  d_law : FunE K "law" "law" s_law (He.ga K "law")
  n_Keeps : Mk0 K (He.ga K "Keeps")
  n_Strongs : Mk0 K (He.ga K "Strongs")
  g_Keeps : mg "Keeps" = some (.ref (He.ga K "Keeps"))
  g_Strongs : mg "Strongs" = some (.ref (He.ga K "Strongs"))
  g_Fix : mg "Fix" = some (.ref (He.ga K "Fix"))
  i1 : PySem.W.findIn K (.ref (He.ga K "Keeps")) "__class__" = some (some (.builtin "object.__class__"))
  i2 : PySem.W.specialIn K (.builtin "object.__class__") "__get__" = some (some (.builtin "getset_descriptor.__get__"))
  i3 : PySem.W.takesIn K (.builtin "object.__class__") = some true
  i4 : PySem.W.mroIn K (He.ga K "Keeps") (.type "object") = some true
  i5 : PySem.W.kitOne K (.ref (He.ga K "Keeps")) (.ref (He.ga K "Fix")) = some true
theorem Askable.tups {H H' : Hp} {a : Addr} {B : List PStm} (h : Askable H a B) (t : Tups H H') : Askable H' a B := by
  obtain ⟨⟨b, xs, h1⟩, h2, h3, h4⟩ := h
  exact ⟨⟨b, xs, t _ _ h1.1, t _ _ h1.2.1, pmono h1.2.2.1 fun _ _ z => z.tups t, h1.2.2.2⟩, h2, h3, h4⟩
theorem askable_of {H : Hp} {a b : Addr} {xs : List V} {B : List PStm} (h : PrgAt H a b xs B) (h3 : K82.readsOf B ≤ 5) (h4 : wishesOf B ≤ 1) : Askable H a B :=
  ⟨⟨b, xs, h⟩, by rw [← paired_len h.2.2.1]; exact h.2.2.2, h3, h4⟩
theorem same_mk {H : Hp} {o dx C : Addr} (h1 : H o = none) (h2 : H dx = none) (n : dx ≠ o) : Same H (upd (upd H dx (.own o)) o (.ins C dx [])) :=
  (Same.upd h2).updT (by rw [upd_ne (Ne.symm n)]; exact h1)
theorem PrgAt.tups {H H' : Hp} {a b : Addr} {xs : List V} {B : List PStm} (h1 : PrgAt H a b xs B) (t : Tups H H') : PrgAt H' a b xs B := ⟨t _ _ h1.1, t _ _ h1.2.1, pmono h1.2.2.1 fun _ _ z => z.tups t, h1.2.2.2⟩
section
variable {P : Program} {w : World} {K : PySem.W.Frag} {mg : Str → Option Value} {base : Heap}
def spLaw (K : PySem.W.Frag) : Sp := fun vs H Q _ => ∃ (a : Addr) (ns : List Int), vs = [.ref a] ∧ SqL K H a (ns.map V.int) ∧ ∀ H', Q (.bl true) H'
theorem b_law (T : TxZ P K mg w) : BodyG P w K mg base "law" s_law (He.ga K "law") n_law 16 (spLaw K) := by
  intro cdv A outer s H vs Q E hr hgd h
  obtain ⟨a0, ns, rfl, hS, hQ⟩ := h
  obtain ⟨fw, qw, Fw, _⟩ := T.d_ways
  have hkw := Fw.kp
  obtain ⟨ff, Ff⟩ := T.d_law_fewer
  have TC := T.toTxL.toTxV.toTxW.toTxG.toTxF.toTxE.toTxD.toTxN.toTxM.toTxC
  have cfS := c_lfix (P := P) (w := w) (base := base) T.toTxL TC.c_Strongs (m_Strongs_places_of TC) (m_Strongs_applied TC)
  have cfK := c_lfix (P := P) (w := w) (base := base) T.toTxL TC.c_Keeps (m_Keeps_places_of TC) (m_Keeps_applied TC)
  have gF := fnG Ff sc_law_fewer (fun vs H Q E h => by obtain ⟨a, a', B, B', rfl, _⟩ := h; rfl) (b_fewer (base := base) T.toTxI)
  have bF : Binds K ff p_law_fewer [] := Ff.bindsN (fun _ _ _ _ _ _ us hl => match us, hl with | [_, _], _ => rfl)
  refine ⟨_, pss_cons (ps_set (i := 1) sc_law.nd rfl (Or.inl rfl) (pe_c (c_deck T.toTxL) hr (by decide) (by rfl) passL (pa_cons (pv 0) pa_nil)))
    (pss_cons (ps_par (i := 2) (j := 3) (by rfl) sc_law.nd rfl rfl (by decide) rfl rfl (pa_cons (pe_c (c_names T.toTxL) hr (by decide) (by rfl) passL (pa_cons (pv 1) (pa_cons (pe_op op_add pe_int (pe_c (c_draw T.toTxL) hr (by decide) (by rfl) passL (pa_cons (pv 1) (pa_cons pe_int pa_nil)))) pa_nil))) (pa_cons (pe_c (c_words T.toTxL) hr (by decide) (by rfl) passL (pa_cons (pv 1) (pa_cons pe_int pa_nil))) pa_nil)) (by rfl))
    (pss_cons (ps_set (i := 4) sc_law.nd rfl (Or.inl rfl) (pe_c (c_puzzle T.toTxL) hr (by decide) (by rfl) passL (pa_cons (pv 1) (pa_cons (pv 2) (pa_cons (pv 3) (pa_cons pe_int pa_nil))))))
    (pss_cons (ps_par (i := 5) (j := 6) (by rfl) sc_law.nd rfl rfl (by decide) rfl rfl (pa_cons (pe_c cfS hr (by decide) (by rfl) passL (pa_cons (pv 1) (pa_cons (pe_mk0 T.n_Strongs (by rfl) T.g_Strongs) (pa_cons (pv 4) pa_nil)))) (pa_cons (pe_c cfK hr (by decide) (by rfl) passL (pa_cons (pv 1) (pa_cons (pe_mk0 T.n_Keeps (by rfl) T.g_Keeps) (pa_cons (pv 4) pa_nil)))) pa_nil)) (by rfl))
    (pss_cons (ps_set (i := 7) sc_law.nd rfl (Or.inl rfl) (pe_c cfS hr (by decide) (by rfl) passL (pa_cons (pv 1) (pa_cons (pe_mk0 T.n_Strongs (by rfl) T.g_Strongs) (pa_cons (pv 6) pa_nil)))))
    (pss_cons (ps_for PassesOwn.never rfl (pi_list (pe_lst (pa_cons (pe_tup (pa_cons (pv 4) (pa_cons (pv 5) pa_nil))) (pa_cons (pe_tup (pa_cons (pv 4) (pa_cons (pv 6) pa_nil))) (pa_cons (pe_tup (pa_cons (pv 6) (pa_cons (pv 7) pa_nil))) (pa_cons (pe_tup (pa_cons (pv 4) (pa_cons (pv 7) pa_nil))) pa_nil))))))
        (pg_tup (by rfl) (pgs_cons (pg_name (i := 8) sc_law.nd rfl (Or.inl rfl)) (pgs_cons (pg_name (i := 9) sc_law.nd rfl (Or.inl rfl)) pgs_nil)))
      (pss_one (ps_if (pt_not (pt_val (pe_g gF (hr.mono (by decide)) (by exact hgd) (by rfl) T.g_law_fewer Ff.kp bF passL (pa_cons (pv 8) (pa_cons (pv 9) pa_nil))))) pss_never pss_nil)))
    (pss_cons (ps_set (i := 10) sc_law.nd rfl (Or.inl rfl) (pe_m (m_Keeps_applied TC) hr (by decide) passL TC.c_Keeps (pe_mk0 T.n_Keeps (by rfl) T.g_Keeps) (pa_cons (pv 4) (pa_cons (pe_m (m_Keeps_places_of TC) hr (by decide) passL TC.c_Keeps (pe_mk0 T.n_Keeps (by rfl) T.g_Keeps) (pa_cons (pv 4) pa_nil)) pa_nil))))
    (pss_one (ps_ret (pe_and (pe_callB call_isi (by rfl) T.b_isinstance (by decide +kernel) (pa_cons (pe_mk0 T.n_Keeps (by rfl) T.g_Keeps) (pa_cons (C8.pe_gc (v := .ref (He.ga K "Fix")) (by rfl) ⟨_, T.g_Fix, rfl⟩) pa_nil))) (pe_one (pe_cmpR op_eq (pe_callB call_len_seq (by rfl) T.b_len PySem.boot_len (pa_cons (pe_listG (pgen_ways T.toTxI (hr.mono (by decide)) (by rfl) hkw (pa_cons (pv 10) (pa_cons (pe_tup pa_nil) pa_nil))) passL (fun _ _ _ z => z.elim) (hr.mono (by decide)) (by rfl) T.b_list (by decide +kernel)) pa_nil)) pe_int (nomark _)))))))))))), ?_⟩
  refine ⟨_, rfl, a0, ns, rfl, hS, fun H1 p c k1 hp hc D1 => ?_⟩
  refine ⟨_, rfl, _, rfl, p, c, 0, 2, rfl, D1, by omega, by decide, by decide, fun H2 r f2 D2 hr2 => ?_⟩
  refine ⟨_, _, rfl, rfl, p, c, _, 7 + r, (by rw [Int.natCast_add]; rfl), D2, by omega, by omega, fun H3 ln nms f3 D3 hln0 hln hnl => ?_⟩
  have T3 : Txts H3 ln := ⟨nms, hln, (fun e => by rw [e] at hnl; simp at hnl; omega), by omega⟩
  have n3 := T3.ne D3
  refine ⟨_, rfl, p, c, _, 2, rfl, D3, by omega, by decide, fun H4 lw wds f4 D4 hlw0 hlw hwl hwok => ?_⟩
  have hln4 := f4 _ _ hln (by simp [n3])
  refine ⟨_, _, rfl, ?_⟩
  refine ⟨_, rfl, _, rfl, _, rfl, p, c, ln, lw, _, nms, wds, rfl, D4, by omega, hln4, hlw, by omega, by omega, hwl, hwok, fun H5 a b xs B f5 D5 hP5 hl5 hr5 hw5 => ?_⟩
  have hxl : xs.length ≤ 29 := by rw [paired_len hP5.2.2.1]; exact hl5
  -- Strongs
  refine ⟨_, rfl, fun o dx ho hdx hne => ⟨_, rfl, p, c, _, o, dx, a, b, xs, B, rfl, D5.mono (same_mk ho hdx hne), by omega, upd_same, hP5.mono (same_mk ho hdx hne), by omega, fun H6 a1 b1 us1 is1 f6 D6 hP6 => ?_⟩⟩
  have t6 : Tups H5 H6 := (same_mk ho hdx hne).tups.trans ((D5.mono (same_mk ho hdx hne)).tups f6)
  have hP6' := hP5.tups t6
  -- Keeps
  refine ⟨_, rfl, fun o2 dx2 ho2 hdx2 hne2 => ⟨_, rfl, p, c, _, o2, dx2, a, b, xs, B, rfl, D6.mono (same_mk ho2 hdx2 hne2), by omega, upd_same, hP6'.mono (same_mk ho2 hdx2 hne2), by omega, fun H7 a2 b2 us2 is2 f7 D7 hP7 => ?_⟩⟩
  have t7 : Tups H6 H7 := (same_mk ho2 hdx2 hne2).tups.trans ((D6.mono (same_mk ho2 hdx2 hne2)).tups f7)
  refine ⟨_, _, rfl, ?_⟩
  have hu2 : us2.length ≤ 100 := hP7.2.2.2
  -- both
  refine ⟨_, rfl, fun o3 dx3 ho3 hdx3 hne3 => ⟨_, rfl, p, c, _, o3, dx3, a2, b2, us2, _, rfl, D7.mono (same_mk ho3 hdx3 hne3), by omega, upd_same, hP7.mono (same_mk ho3 hdx3 hne3), by omega, fun H8 a3 b3 us3 is3 f8 D8 hP8 => ?_⟩⟩
  have t8 : Tups H7 H8 := (same_mk ho3 hdx3 hne3).tups.trans ((D7.mono (same_mk ho3 hdx3 hne3)).tups f8)
  have A0 : Askable H8 a B := (askable_of hP6' hr5 hw5).tups (t7.trans t8)
  have A1 := (askable_of hP6 (by rw [reads_reb reads_chgS]; exact hr5) (by rw [wishes_reb wishes_chgS]; exact hw5)).tups (t7.trans t8)
  have A2 := (askable_of hP7 (by rw [reads_reb reads_chgK]; exact hr5) (by rw [wishes_reb wishes_chgK]; exact hw5)).tups t8
  have A3 := askable_of hP8 (by rw [reads_reb reads_chgS, reads_reb reads_chgK]; exact hr5) (by rw [wishes_reb wishes_chgS, wishes_reb wishes_chgK]; exact hw5)
  have F1 := (reb_chgS (fun i => decide (i ∈ is1)) B 0).fix
  have F2 := reb_chgK (fun i => decide (i ∈ is2)) B 0
  have F3s := reb_chgS (fun i => decide (i ∈ is3)) (reb chgK (fun i => decide (i ∈ is2)) 0 B) 0
  have F3 := F3s.fix
  have F4 := F2.trans_str F3s
  have hPa : PrgAt H8 a b xs B := hP6'.tups (t7.trans t8)
  refine ⟨_, rfl, _, rfl, by show 2 ≤ sizeLine; decide, fun t1 ht1 => ?_⟩
  have k1' := Same.upd (o := .tup [.ref a, .ref a1]) ht1
  have x1 : upd H8 t1 (.tup [.ref a, .ref a1]) t1 = some (.tup [.ref a, .ref a1]) := upd_same
  generalize upd H8 t1 (.tup [.ref a, .ref a1]) = G1 at k1' x1 ⊢
  refine ⟨_, rfl, _, rfl, by show 2 ≤ sizeLine; decide, fun t2 ht2 => ?_⟩
  have k2' := Same.upd (o := .tup [.ref a, .ref a2]) ht2
  have x2 : upd G1 t2 (.tup [.ref a, .ref a2]) t2 = some (.tup [.ref a, .ref a2]) := upd_same
  generalize upd G1 t2 (.tup [.ref a, .ref a2]) = G2 at k2' x2 ⊢
  refine ⟨_, rfl, _, rfl, by show 2 ≤ sizeLine; decide, fun t3 ht3 => ?_⟩
  have k3' := Same.upd (o := .tup [.ref a2, .ref a3]) ht3
  have x3 : upd G2 t3 (.tup [.ref a2, .ref a3]) t3 = some (.tup [.ref a2, .ref a3]) := upd_same
  generalize upd G2 t3 (.tup [.ref a2, .ref a3]) = G3 at k3' x3 ⊢
  refine ⟨_, rfl, _, rfl, by show 2 ≤ sizeLine; decide, fun t4 ht4 => ?_⟩
  have k4' := Same.upd (o := .tup [.ref a, .ref a3]) ht4
  have x4 : upd G3 t4 (.tup [.ref a, .ref a3]) t4 = some (.tup [.ref a, .ref a3]) := upd_same
  generalize upd G3 t4 (.tup [.ref a, .ref a3]) = G4 at k4' x4 ⊢
  refine ⟨by show 4 ≤ sizeLine; decide, fun l hl => ?_⟩
  have k5' := Same.upd (o := .lst [.ref t1, .ref t2, .ref t3, .ref t4]) hl
  have x5 : upd G4 l (.lst [.ref t1, .ref t2, .ref t3, .ref t4]) l = some (.lst [.ref t1, .ref t2, .ref t3, .ref t4]) := upd_same
  generalize upd G4 l (.lst [.ref t1, .ref t2, .ref t3, .ref t4]) = G5 at k5' x5 ⊢
  have sA := (((k1'.trans k2').trans k3').trans k4').trans k5'
  have pairs : ∀ x ∈ [V.ref t1, .ref t2, .ref t3, .ref t4], ∃ (t u v : Addr) (Bu Bv : List PStm), x = .ref t ∧ G5 t = some (.tup [.ref u, .ref v]) ∧ Askable G5 u Bu ∧ Askable G5 v Bv ∧ K82.FixRel Bu Bv := fun x hx => by
    simp only [List.mem_cons, List.not_mem_nil, or_false] at hx
    rcases hx with rfl | rfl | rfl | rfl
    · exact ⟨t1, a, a1, _, _, rfl, k5' _ _ (k4' _ _ (k3' _ _ (k2' _ _ x1))), A0.mono sA, A1.mono sA, F1⟩
    · exact ⟨t2, a, a2, _, _, rfl, k5' _ _ (k4' _ _ (k3' _ _ x2)), A0.mono sA, A2.mono sA, F2⟩
    · exact ⟨t3, a2, a3, _, _, rfl, k5' _ _ (k4' _ _ x3), A2.mono sA, A3.mono sA, F3⟩
    · exact ⟨t4, a, a3, _, _, rfl, k5' _ _ x4, A0.mono sA, A3.mono sA, F4⟩
  refine ⟨l, rfl, ⟨_, SqL.of x5⟩, for_list (K := K) (a := l) (xs := [.ref t1, .ref t2, .ref t3, .ref t4]) (fun i σ H' => (∃ v8 v9, σ = [some (.ref a0), some (.ref p), some (.ref ln), some (.ref lw), some (.ref a), some (.ref a1), some (.ref a2), some (.ref a3), v8, v9, none]) ∧ Same G5 H') ⟨⟨none, none, rfl⟩, fun _ _ e => e⟩ (fun i σ H' _ ⟨_, e⟩ => SqL.of (e _ _ x5)) ?_ ?_⟩
  · rintro i x σ H' hi ⟨⟨v8, v9, rfl⟩, kk⟩
    obtain ⟨t, u, v, Bu, Bv, rfl, ht, q1, q2, q3⟩ := pairs x (List.mem_of_getElem? hi)
    refine ⟨t, _, rfl, SqT.of (kk _ _ ht), rfl, _, _, rfl, _, _, rfl, rfl, ?_⟩
    refine ⟨_, rfl, _, rfl, u, v, Bu, Bv, rfl, q1.mono kk, q2.mono kk, q3, fun H'' k2 => ?_⟩
    exact ⟨true, rfl, iteF ⟨⟨_, _, rfl⟩, kk.trans k2⟩⟩
  · rintro σ H' ⟨⟨v8, v9, rfl⟩, kk⟩
    have hPb : PrgAt H' a b xs B := (hPa.mono sA).mono kk
    intro o4 dx4 ho4 hdx4 hne4
    have m4 := same_mk (C := He.ga K "Keeps") ho4 hdx4 hne4
    refine ⟨o4, dx4, [], rfl, upd_same, rfl, _, rfl, fun o5 dx5 ho5 hdx5 hne5 => ?_⟩
    have m5 := same_mk (C := He.ga K "Keeps") ho5 hdx5 hne5
    refine ⟨o5, dx5, [], rfl, upd_same, rfl, _, rfl, _, a, b, xs, B, rfl, (hPb.mono m4).mono m5, fun K1 q kq hq0 hq => ?_⟩
    refine ⟨o4, dx4, a, b, xs, B, q, plc "make" 0 B, rfl, kq _ _ (m5 _ _ upd_same), ((hPb.mono m4).mono m5).mono kq, by omega, hq, fun i hi => hi, fun K2 a' b' us ks hPe => ?_⟩
    have hEv : K82.EveryKept (reb chgK (fun i => decide (i ∈ plc "make" 0 B)) 0 B) := reb_every _ B 0 fun j hj => decide_eq_true hj
    have AE := askable_of hPe (by rw [reads_reb reads_chgK]; exact hr5) (by rw [wishes_reb wishes_chgK]; exact hw5)
    have hone : (waysOf (reb chgK (fun i => decide (i ∈ plc "make" 0 B)) 0 B)).length = 1 := K82.every_one hEv
    intro o6 dx6 ho6 hdx6 hne6
    have m6 := same_mk (C := He.ga K "Keeps") ho6 hdx6 hne6
    refine ⟨_, _, _, _, true, rfl, .own _, .base (.ins upd_same TC.c_Keeps T.i1 T.i2 T.i3 T.i4), T.i5, true, rfl, iteT ?_⟩
    refine ⟨_, rfl, Nat.zero_le _, fun t ht => ⟨_, _, rfl, a', b', us, _, rfl, (hPe.mono m6).mono (Same.upd ht), AE.len, AE.rd, AE.ws, by rw [hone]; decide, fun K3 ys k3 hrows => fun lr hlr => ?_⟩⟩
    have yl : ys.length = 1 := by rw [paired_len hrows, hone]
    refine ⟨_, _, rfl, .inl (SqL.of upd_same), rfl, ?_⟩
    rw [yl]
    exact hQ _
end
end K82W
end K82Top_part
section K82Ex_part
set_option Elab.async false
set_option linter.all false
set_option maxRecDepth 100000
set_option maxHeartbeats 4000000
/-! what the head tells, as Bools; the Hook -/
namespace K82W
open PySem PySem.Spec PyProof.Rows L2
open PySem.W (Frag findIn typeIn keepIn subIn hasDictIn exmOne mroIn nsIn codeIn makesIn specialIn takesIn kitOne)
def excB (K : Frag) (C : Addr) : Bool := match K.lookup C with
  | some ⟨.type t, _, .cls cd, sl⟩ => decide (t = "type") && (match cd.mro, sl.toList with
    | [.ref C', .type a, .type b, .type c], [_, _, _, _, some (.builtin n), _] => decide (C' = C) && (decide (a = "Exception") && (decide (b = "BaseException") && (decide (c = "object") && (decide (n = "Exception.__new__") && (!cd.hasDel && cd.hasDict)))))
    | _, _ => false)
  | _ => false
theorem excB_ok {K : Frag} {C : Addr} (h : excB K C = true) : ∃ nm q N bs sn sub ab col dd k0 k1 k2 k3 k5, K.lookup C = some (excClassObj nm q C N bs PySem.ESX.exTail true sn sub ab col dd k0 k1 k2 k3 k5 "Exception.__new__") := by
  unfold excB at h
  split at h
  · rename_i t dd cd sl ho
    obtain ⟨h1, h2⟩ := He.ba h
    have e1 : t = "type" := of_decide_eq_true h1
    split at h2
    · rename_i C' a b c k0 k1 k2 k3 n k5 hm hs
      obtain ⟨g1, h2⟩ := He.ba h2
      obtain ⟨g2, h2⟩ := He.ba h2
      obtain ⟨g3, h2⟩ := He.ba h2
      obtain ⟨g4, h2⟩ := He.ba h2
      obtain ⟨g5, h2⟩ := He.ba h2
      obtain ⟨g6, g7⟩ := He.ba h2
      have f1 : C' = C := of_decide_eq_true g1
      have f2 : a = "Exception" := of_decide_eq_true g2
      have f3 : b = "BaseException" := of_decide_eq_true g3
      have f4 : c = "object" := of_decide_eq_true g4
      have f5 : n = "Exception.__new__" := of_decide_eq_true g5
      have f6 : cd.hasDel = false := by simpa using g6
      obtain ⟨nm, bs, mro, ns, qn, hd, sn, sub, ab, col, del⟩ := cd
      dsimp only at hm f6 g7
      have hsl : sl = #[k0, k1, k2, k3, some (.builtin n), k5] := by
        obtain ⟨l⟩ := sl
        simp only at hs
        rw [hs]
      subst e1 f1 f2 f3 f4 f5 hm f6 g7 hsl
      exact ⟨nm, qn, ns, bs, sn, sub, ab, col, dd, k0, k1, k2, k3, k5, ho⟩
    · cases h2
  · cases h
def stopB (K : Frag) : Bool := excB K (He.ga K "Stopped") && (He.eqO (findIn K (.ref (He.ga K "Stopped")) "__setattr__") (some (some (.builtin "object.__setattr__"))) && (He.eqO (findIn K (.ref (He.ga K "Stopped")) "__getattribute__") (some (some (.builtin "BaseException.__getattribute__"))) &&
  (He.eqO (findIn K (.ref (He.ga K "Stopped")) "__getattr__") (some none) && (He.eqO (findIn K (.ref (He.ga K "Stopped")) "why") (some none) && (He.eqO (findIn K (.ref (He.ga K "Stopped")) "__init__") (some (some (.ref (He.ma K (He.ga K "Stopped") "__init__")))) &&
  (decide (typeIn K (.ref (He.ma K (He.ga K "Stopped") "__init__")) = some (.type "function")) && (keepIn K (.ref (He.ga K "Stopped")) && (decide (subIn K (.ref (He.ga K "Stopped")) (.type "BaseException") = some true) &&
  (decide (typeIn K (.ref (He.ga K "Stopped")) = some (.type "type")) && (hasDictIn K (He.ga K "Stopped") && decide (exmOne K (.ref (He.ga K "Stopped")) (.ref (He.ga K "Stopped")) = some true)))))))))))
theorem stopB_ok {K : Frag} {mg : Str → Option Value} (h : stopB K = true) (gC : mg "Stopped" = some (.ref (He.ga K "Stopped"))) (fn : FunE K "__init__" "Stopped.__init__" s_Stopped_init (He.ma K (He.ga K "Stopped") "__init__")) : StopTxt K mg (He.ga K "Stopped") (He.ma K (He.ga K "Stopped") "__init__") := by
  obtain ⟨h1, h⟩ := He.ba h
  obtain ⟨h2, h⟩ := He.ba h
  obtain ⟨h3, h⟩ := He.ba h
  obtain ⟨h4, h⟩ := He.ba h
  obtain ⟨h5, h⟩ := He.ba h
  obtain ⟨h6, h⟩ := He.ba h
  obtain ⟨h7, h⟩ := He.ba h
  obtain ⟨h8, h⟩ := He.ba h
  obtain ⟨h9, h⟩ := He.ba h
  obtain ⟨h10, h⟩ := He.ba h
  obtain ⟨h11, h12⟩ := He.ba h
  exact ⟨gC, excB_ok h1, He.eqO_ok h2, He.eqO_ok h3, He.eqO_ok h4, He.eqO_ok h5, He.eqO_ok h6, of_decide_eq_true h7, h8, of_decide_eq_true h9, of_decide_eq_true h10, h11, of_decide_eq_true h12, fn⟩
/-! ### Walker.__init__ with its cell -/
abbrev FnK : Type := Option (Str × Str × Arguments × FuncBody × Scope × Addr × List Str × Value × Addr)
def obsW (K : Frag) : FnK := match K.lookup (fW K) with
  | some ⟨_, _, .func fd, _⟩ => some (fd.name, fd.qualname, fd.params, fd.body, fd.scope, fd.globals, fd.closure.map (·.1), fd.defaults, fd.builtins)
  | _ => none
def valW : FnK := some ("__init__", "Walker.__init__", defArgs s_Walker_init, .stmts (defBody s_Walker_init), defScope s_Walker_init, mainGlobals, ["__class__"], .none, builtinsNs)
def fileB (P : Program) (K : Frag) (a : Addr) : Bool := match K.lookup a with
  | some ⟨_, _, .fields vs, _⟩ => (match (vs[2]? : Option Value) with
    | some (Value.str f _) => (P.main.file : Str) == f
    | _ => false)
  | _ => false
def cellB (K : Frag) (a : Addr) : Bool := match K.lookup a with
  | some ⟨_, _, .cell (some (.ref c)), _⟩ => decide (c = CW K)
  | _ => false
def initB (P : Program) (K : Frag) : Bool := match K.lookup (fW K) with
  | some ⟨_, _, .func fd, _⟩ => (match fd.code, fd.closure with
    | .ref c, [(_, cc)] => codeIn K (.ref c) "Walker.__init__" && (fileB P K c && cellB K cc)
    | _, _ => false)
  | _ => false
def supB (P : Program) (K : Frag) : Bool := initB P K && ((PySem.W.clsIn K (CW K)).isSome && (decide (mroIn K (CW K) (.ref (CW K)) = some true) && (He.eqO (nsIn K cStatics "thirdparty.any") (some none) && (He.eqO (PySem.W.ks_superIn K (CW K) (CW K) "__init__") (some (some (.ref (fM K)))) &&
  (decide (typeIn K (.ref (fM K)) = some (.type "function")) && (PySem.W.fnIn K (fM K) && (!(P.main.scope.names.lookup ("super" : Str)).isSome && keepIn K (.ref (fW K)))))))))
theorem supB_ok {P : Program} {K : Frag} {mg : Str → Option Value} (h : supB P K = true) (e : obsW K = valW) (sup : mg "super" = none) : SupTxt P K mg := by
  obtain ⟨h1, h⟩ := He.ba h
  obtain ⟨h2, h⟩ := He.ba h
  obtain ⟨h3, h⟩ := He.ba h
  obtain ⟨h4, h⟩ := He.ba h
  obtain ⟨h5, h⟩ := He.ba h
  obtain ⟨h6, h⟩ := He.ba h
  obtain ⟨h7, h⟩ := He.ba h
  obtain ⟨h8, h9⟩ := He.ba h
  refine ⟨?_, of_decide_eq_true h3, sup, He.eqO_ok h4, He.eqO_ok h5, of_decide_eq_true h6, h7, by simpa using h8, h9⟩
  obtain ⟨cdD, hcd⟩ := Option.isSome_iff_exists.mp h2
  unfold initB at h1
  unfold obsW at e
  split at h1
  · rename_i oc od fd osl ho
    rw [ho] at e
    split at h1
    · rename_i c nm cc hc hcl
      obtain ⟨g1, h1⟩ := He.ba h1
      obtain ⟨g2, g3⟩ := He.ba h1
      obtain ⟨n1, n2, n3, n4, n5, n6, n7, n8, n9, n10, n11, n12, n13, n14, n15⟩ := fd
      dsimp only at hc hcl
      subst hc hcl
      have e2 : (some (n1, n2, n3, n4, n5, n6, [nm], n8, n15) : FnK) = valW := e
      simp only [valW, Option.some.injEq, Prod.mk.injEq, List.cons.injEq, and_true] at e2
      obtain ⟨e1, e2, e3, e4, e5, e6, e7, e8, e9⟩ := e2
      subst e1 e2 e3 e4 e5 e6 e7 e8 e9
      unfold fileB at g2
      split at g2
      · rename_i cl1 cd1 vs sl1 ho1
        split at g2
        · rename_i f tf hf
          unfold cellB at g3
          split at g3
          · rename_i cl2 cd2 c2 sl2 ho2
            have ec : c2 = CW K := of_decide_eq_true g3
            subst ec
            exact ⟨oc, od, n9, n10, n11, n14, n12, osl, c, cc, _, vs, f, tf, cl2, cd2, sl2, cdD, ho, g1, ho1, rfl, hf, g2, ho2, hcd⟩
          · cases g3
        · cases g2
      · cases g2
    · cases h1
  · cases h1
/-! ### the rest -/
def mk0B (K : Frag) (C : Addr) : Bool := makesIn K C && (He.eqO (findIn K (.ref C) "__init__") (some (some (.builtin "object.__init__"))) && keepIn K (.ref C))
theorem mk0B_ok {K : Frag} {C : Addr} (h : mk0B K C = true) : Mk0 K C := by
  obtain ⟨h1, h⟩ := He.ba h
  obtain ⟨h2, h3⟩ := He.ba h
  exact ⟨h1, He.eqO_ok h2, h3⟩
def insB (K : Frag) : Bool := He.eqO (findIn K (.ref (He.ga K "Keeps")) "__class__") (some (some (.builtin "object.__class__"))) && (He.eqO (specialIn K (.builtin "object.__class__") "__get__") (some (some (.builtin "getset_descriptor.__get__"))) && (decide (takesIn K (.builtin "object.__class__") = some true) &&
  (decide (mroIn K (He.ga K "Keeps") (.type "object") = some true) && decide (kitOne K (.ref (He.ga K "Keeps")) (.ref (He.ga K "Fix")) = some true))))
def pausedAt (K : Frag) : Addr := match K.lookup (He.ga K "ways") with
  | some ⟨_, _, .func fd, _⟩ => (match fd.kwdefaults with
    | .ref D => (match nsIn K D "paused" with
      | some (some (.ref a)) => a
      | _ => 0)
    | _ => 0)
  | _ => 0
def nilB (K : Frag) (a : Addr) : Bool := match K.lookup a with
  | some ⟨.type c, _, .seq its _, _⟩ => decide (c = "tuple") && its.isEmpty
  | _ => false
theorem nilB_ok {K : Frag} {a : Addr} (h : nilB K a = true) (H : Hp) : SqT K H a [] := by
  unfold nilB at h
  split at h
  · rename_i c od its n osl ho
    obtain ⟨h1, h2⟩ := He.ba h
    have e1 : c = "tuple" := of_decide_eq_true h1
    have e2 : its = #[] := Array.isEmpty_iff.mp h2
    subst e1 e2
    exact .inr ⟨_, #[], n, ho, rfl, rfl, by decide, .nil⟩
  · cases h
def deedsL : List (Str × He.Dv) := [("make", .glo "do_make"), ("wish", .glo "do_wish"), ("keep", .glo "do_keep"), ("name", .glo "do_name"), ("drop", .glo "do_drop"), ("hold", .glo "do_hold"), ("weak", .glo "do_weak"), ("cut", .glo "do_cut"), ("take", .glo "do_take"), ("say", .glo "do_say"), ("ask", .glo "do_ask")]
def exK (P : Program) (K : Frag) : Bool := stopB K && (supB P K && (mk0B K (He.ga K "Keeps") && (mk0B K (He.ga K "Strongs") && (insB K && (He.valsB K (He.ga K "DEEDS") deedsL && nilB K (pausedAt K))))))
/-! ### the Hook -/
abbrev AlK : Type := (He.AlT × Bool) × FnK
def frK (g : Addr → Option Obj) (n : Nat) : Frag := He.frT g (cStatics :: He.asD g n)
def obsK (P : Program) (n : Nat) (fa : List He.Fa) (fn : List He.DefD) (ts : List He.Tab) (g : Addr → Option Obj) : AlK := ((He.obsT fa fn ts (frK g n), exK P (frK g n)), obsW (frK g n))
def valK (fn : List He.DefD) (ts : List He.Tab) (w : World) : AlK := ((He.valT fn ts w, true), valW)
structure SaysK (P : Program) (fa : List He.Fa) (fn : List He.DefD) (ts : List He.Tab) (w : World) (K : Frag) : Prop where
  t : He.SaysT fa fn ts w K
  ex : exK P K = true
  wi : obsW K = valW
def hookK (P : Program) (n : Nat) (fa : List He.Fa) (fn : List He.DefD) (ts : List He.Tab) : PySem.W.Hook where
  α := AlK
  obs := fun s => obsK P n fa fn ts s.heap.get?
  val := fun w => valK fn ts w
  says := fun w h => ∃ K : Frag, K.In h ∧ SaysK P fa fn ts w K
  of := fun _ _ e => ⟨_, He.frT_in, ⟨congrArg (fun z : AlK => z.1.1) e, congrArg (fun z : AlK => z.1.2) e, congrArg (fun z : AlK => z.2) e⟩⟩
  keeps := fun _ _ _ ⟨K, hK, c⟩ k => ⟨K, PySem.W.Frag.In.keeps hK k, c⟩
theorem obsK_eq {P : Program} {n : Nat} {fa : List He.Fa} {fn : List He.DefD} {ts : List He.Tab} {g : Addr → Option Obj} {s : Shared} (h : ∀ a, g a = s.heap.get? a) : obsK P n fa fn ts g = (hookK P n fa fn ts).obs s := by
  have e : g = s.heap.get? := funext h
  rw [e] <;> rfl
theorem kdct_of {K : Frag} {w : World} {a : Addr} {es : Array DictEntry} {n : Nat} {kvs : List (Str × He.Dv)} (d : KDict K w a es n) (h : He.valsB K a kvs = true) (i : Nat) {x : Str} {v : He.Dv} (hi : kvs[i]? = some (x, v) := by rfl) : KDct K w a x (v.v K) := by
  obtain ⟨u, h1, h2⟩ := He.valsB_ok h (List.mem_of_getElem? hi)
  exact ⟨es, n, u, d.at_, d.lit, h1, h2⟩
end K82W
end K82Ex_part
section K82Lists_part
set_option Elab.async false
set_option linter.all false
set_option maxRecDepth 100000
set_option maxHeartbeats 4000000
/-! the lists of what the head is asked, and TxZ from the answer -/
namespace K82W
open PySem PySem.Spec PyProof.Rows L2
def hdFn : List He.DefD := [
  ⟨("inner_blocks", none), "inner_blocks", "inner_blocks", defArgs s_inner_blocks, defBody s_inner_blocks, defScope s_inner_blocks, [], []⟩,
  ⟨("listed", none), "listed", "listed", defArgs s_listed, defBody s_listed, defScope s_listed, [], []⟩,
  ⟨("statements_of", none), "statements_of", "statements_of", defArgs s_statements_of, defBody s_statements_of, defScope s_statements_of, [], []⟩,
  ⟨("places_with", none), "places_with", "places_with", defArgs s_places_with, defBody s_places_with, defScope s_places_with, [], []⟩,
  ⟨("make_places", none), "make_places", "make_places", defArgs s_make_places, defBody s_make_places, defScope s_make_places, [], []⟩,
  ⟨("weak_places", none), "weak_places", "weak_places", defArgs s_weak_places, defBody s_weak_places, defScope s_weak_places, [], []⟩,
  ⟨("do_make", none), "do_make", "do_make", defArgs s_do_make, defBody s_do_make, defScope s_do_make, [], []⟩,
  ⟨("do_wish", none), "do_wish", "do_wish", defArgs s_do_wish, defBody s_do_wish, defScope s_do_wish, [], []⟩,
  ⟨("do_keep", none), "do_keep", "do_keep", defArgs s_do_keep, defBody s_do_keep, defScope s_do_keep, [], []⟩,
  ⟨("do_name", none), "do_name", "do_name", defArgs s_do_name, defBody s_do_name, defScope s_do_name, [], []⟩,
  ⟨("do_drop", none), "do_drop", "do_drop", defArgs s_do_drop, defBody s_do_drop, defScope s_do_drop, [], []⟩,
  ⟨("do_hold", none), "do_hold", "do_hold", defArgs s_do_hold, defBody s_do_hold, defScope s_do_hold, [], []⟩,
  ⟨("do_weak", none), "do_weak", "do_weak", defArgs s_do_weak, defBody s_do_weak, defScope s_do_weak, [], []⟩,
  ⟨("do_cut", none), "do_cut", "do_cut", defArgs s_do_cut, defBody s_do_cut, defScope s_do_cut, [], []⟩,
  ⟨("do_take", none), "do_take", "do_take", defArgs s_do_take, defBody s_do_take, defScope s_do_take, [], []⟩,
  ⟨("do_say", none), "do_say", "do_say", defArgs s_do_say, defBody s_do_say, defScope s_do_say, [], []⟩,
  ⟨("do_ask", none), "do_ask", "do_ask", defArgs s_do_ask, defBody s_do_ask, defScope s_do_ask, [], []⟩,
  ⟨("is_true", none), "is_true", "is_true", defArgs s_is_true, defBody s_is_true, defScope s_is_true, [], []⟩,
  ⟨("enter", none), "enter", "enter", defArgs s_enter, defBody s_enter, defScope s_enter, [], []⟩,
  ⟨("execute", none), "execute", "execute", defArgs s_execute, defBody s_execute, defScope s_execute, [], []⟩,
  ⟨("finish", none), "finish", "finish", defArgs s_finish, defBody s_finish, defScope s_finish, [], []⟩,
  ⟨("walked", none), "walked", "walked", defArgs s_walked, defBody s_walked, defScope s_walked, [], []⟩,
  ⟨("next_first", none), "next_first", "next_first", defArgs s_next_first, defBody s_next_first, defScope s_next_first, [], []⟩,
  ⟨("ways_of", none), "ways_of", "ways_of", defArgs s_ways_of, defBody s_ways_of, defScope s_ways_of, [], []⟩,
  ⟨("_law_deck", none), "_law_deck", "_law_deck", defArgs s_law_deck, defBody s_law_deck, defScope s_law_deck, [], []⟩,
  ⟨("_law_draw", none), "_law_draw", "_law_draw", defArgs s_law_draw, defBody s_law_draw, defScope s_law_draw, [], []⟩,
  ⟨("_law_one", none), "_law_one", "_law_one", defArgs s_law_one, defBody s_law_one, defScope s_law_one, [], []⟩,
  ⟨("_law_names", none), "_law_names", "_law_names", defArgs s_law_names, defBody s_law_names, defScope s_law_names, [], []⟩,
  ⟨("_law_words", none), "_law_words", "_law_words", defArgs s_law_words, defBody s_law_words, defScope s_law_words, [], []⟩,
  ⟨("_law_test", none), "_law_test", "_law_test", defArgs s_law_test, defBody s_law_test, defScope s_law_test, [], []⟩,
  ⟨("_law_plain", none), "_law_plain", "_law_plain", defArgs s_law_plain, defBody s_law_plain, defScope s_law_plain, [], []⟩,
  ⟨("_law_puzzle", none), "_law_puzzle", "_law_puzzle", defArgs s_law_puzzle, defBody s_law_puzzle, defScope s_law_puzzle, [], []⟩,
  ⟨("_law_end", none), "_law_end", "_law_end", defArgs s_law_end, defBody s_law_end, defScope s_law_end, [], []⟩,
  ⟨("_law_fewer", none), "_law_fewer", "_law_fewer", defArgs s_law_fewer, defBody s_law_fewer, defScope s_law_fewer, [], []⟩,
  ⟨("_law_fixed", none), "_law_fixed", "_law_fixed", defArgs s_law_fixed, defBody s_law_fixed, defScope s_law_fixed, [], []⟩,
  ⟨("law", none), "law", "law", defArgs s_law, defBody s_law, defScope s_law, [], []⟩,
  ⟨("Keeps", some "places_of"), "places_of", "Keeps.places_of", defArgs s_Keeps_places_of, defBody s_Keeps_places_of, defScope s_Keeps_places_of, [], []⟩,
  ⟨("Keeps", some "changed"), "changed", "Keeps.changed", defArgs s_Keeps_changed, defBody s_Keeps_changed, defScope s_Keeps_changed, [], []⟩,
  ⟨("Keeps", some "rebuilt"), "rebuilt", "Fix.rebuilt", defArgs s_Fix_rebuilt, defBody s_Fix_rebuilt, defScope s_Fix_rebuilt, [], []⟩,
  ⟨("Keeps", some "applied"), "applied", "Fix.applied", defArgs s_Fix_applied, defBody s_Fix_applied, defScope s_Fix_applied, [], []⟩,
  ⟨("Strongs", some "places_of"), "places_of", "Strongs.places_of", defArgs s_Strongs_places_of, defBody s_Strongs_places_of, defScope s_Strongs_places_of, [], []⟩,
  ⟨("Strongs", some "changed"), "changed", "Strongs.changed", defArgs s_Strongs_changed, defBody s_Strongs_changed, defScope s_Strongs_changed, [], []⟩,
  ⟨("Strongs", some "rebuilt"), "rebuilt", "Fix.rebuilt", defArgs s_Fix_rebuilt, defBody s_Fix_rebuilt, defScope s_Fix_rebuilt, [], []⟩,
  ⟨("Strongs", some "applied"), "applied", "Fix.applied", defArgs s_Fix_applied, defBody s_Fix_applied, defScope s_Fix_applied, [], []⟩,
  ⟨("Walker", some "note"), "note", "Machine.note", defArgs s_Machine_note, defBody s_Machine_note, defScope s_Machine_note, [], []⟩,
  ⟨("Walker", some "end_moment"), "end_moment", "Machine.end_moment", defArgs s_Machine_end_moment, defBody s_Machine_end_moment, defScope s_Machine_end_moment, [], []⟩,
  ⟨("Walker", some "ask"), "ask", "Machine.ask", defArgs s_Machine_ask, defBody s_Machine_ask, defScope s_Machine_ask, [], []⟩,
  ⟨("Walker", some "cell_of"), "cell_of", "Machine.cell_of", defArgs s_Machine_cell_of, defBody s_Machine_cell_of, defScope s_Machine_cell_of, [], []⟩,
  ⟨("Walker", some "stand"), "stand", "Machine.stand", defArgs s_Machine_stand, defBody s_Machine_stand, defScope s_Machine_stand, [], []⟩,
  ⟨("Walker", some "fill"), "fill", "Machine.fill", defArgs s_Machine_fill, defBody s_Machine_fill, defScope s_Machine_fill, [], []⟩,
  ⟨("Walker", some "held_by"), "held_by", "Machine.held_by", defArgs s_Machine_held_by, defBody s_Machine_held_by, defScope s_Machine_held_by, [], []⟩,
  ⟨("Walker", some "reach_from"), "reach_from", "Machine.reach_from", defArgs s_Machine_reach_from, defBody s_Machine_reach_from, defScope s_Machine_reach_from, [], []⟩,
  ⟨("Walker", some "reached"), "reached", "Machine.reached", defArgs s_Machine_reached, defBody s_Machine_reached, defScope s_Machine_reached, [], []⟩,
  ⟨("Walker", some "comers"), "comers", "Machine.comers", defArgs s_Machine_comers, defBody s_Machine_comers, defScope s_Machine_comers, [], []⟩,
  ⟨("Walker", some "begin_moment"), "begin_moment", "Walker.begin_moment", defArgs s_Walker_begin_moment, defBody s_Walker_begin_moment, defScope s_Walker_begin_moment, [], []⟩,
  ⟨("Walker", some "latest"), "latest", "Walker.latest", defArgs s_Walker_latest, defBody s_Walker_latest, defScope s_Walker_latest, [], []⟩,
  ⟨("Walker", some "decide"), "decide", "Walker.decide", defArgs s_Walker_decide, defBody s_Walker_decide, defScope s_Walker_decide, [], []⟩,
  ⟨("Machine", some "__init__"), "__init__", "Machine.__init__", defArgs s_Machine_init, defBody s_Machine_init, defScope s_Machine_init, [], []⟩,
  ⟨("Stopped", some "__init__"), "__init__", "Stopped.__init__", defArgs s_Stopped_init, defBody s_Stopped_init, defScope s_Stopped_init, [], []⟩,
  ⟨("ways", none), "ways", "ways", defArgs s_ways, defBody s_ways, defScope s_ways, [], [("paused", .adr pausedAt)]⟩]
def hdFa : List He.Fa := [.glo "inner_blocks", .glo "listed", .glo "statements_of", .glo "places_with", .glo "make_places", .glo "weak_places", .glo "do_make", .glo "do_wish", .glo "do_keep", .glo "do_name", .glo "do_drop", .glo "do_hold", .glo "do_weak", .glo "do_cut", .glo "do_take", .glo "do_say", .glo "do_ask", .glo "is_true", .glo "enter", .glo "execute", .glo "finish", .glo "walked", .glo "next_first", .glo "ways_of", .glo "_law_deck", .glo "_law_draw", .glo "_law_one", .glo "_law_names", .glo "_law_words", .glo "_law_test", .glo "_law_plain", .glo "_law_puzzle", .glo "_law_end", .glo "_law_fewer", .glo "_law_fixed", .glo "law", .glo "ways", .glo "DEEDS", .glo "Walker", .glo "Keeps", .glo "Strongs", .glo "Fix", .glo "Stopped", .free "tuple", .free "enumerate", .free "len", .free "range", .free "list", .free "int", .free "sorted", .free "sum", .free "super", .free "abs", .free "str", .free "dict", .free "repr", .free "min", .free "isinstance", .int "MAX_QUESTIONS" 200, .int "MAX_WAYS" 64, .cls "Keeps", .cls "Strongs", .cls "Walker", .noat "Walker" "block", .noat "Walker" "bits", .noat "Walker" "at_place", .noat "Walker" "moment", .noat "Walker" "stands", .noat "Walker" "kept", .noat "Walker" "contents", .noat "Walker" "wishes", .noat "Walker" "lost", .noat "Walker" "replies", .noat "Walker" "spoken", .noat "Walker" "first", .noat "Walker" "quiet_places", .noat "Walker" "since", .noat "Walker" "free_moments", .noat "Walker" "could_be", .noat "Walker" "late", .noat "Walker" "early", .meth "Keeps" "places_of", .meth "Keeps" "changed", .meth "Keeps" "rebuilt", .meth "Keeps" "applied", .meth "Strongs" "places_of", .meth "Strongs" "changed", .meth "Strongs" "rebuilt", .meth "Strongs" "applied", .meth "Walker" "note", .meth "Walker" "end_moment", .meth "Walker" "ask", .meth "Walker" "cell_of", .meth "Walker" "stand", .meth "Walker" "fill", .meth "Walker" "held_by", .meth "Walker" "reach_from", .meth "Walker" "reached", .meth "Walker" "comers", .meth "Walker" "begin_moment", .meth "Walker" "latest", .meth "Walker" "decide", .mkr "Walker"]
def hdTs : List He.Tab := [((fun K => He.ga K "DEEDS"), deedsL.map (·.1))]
section
variable {P : Program} {w : World} {K : PySem.W.Frag} {mg : Str → Option Value} {h : Heap}
theorem says_txz (X : K.In h) (G : h.Ns mainGlobals mg) (S : SaysK P hdFa hdFn hdTs w K) : TxZ P K mg w := by
  have D : He.SaysD hdFa hdFn K := S.t.d
  obtain ⟨x1, ex⟩ := He.ba S.ex
  obtain ⟨x2, ex⟩ := He.ba ex
  obtain ⟨x3, ex⟩ := He.ba ex
  obtain ⟨x4, ex⟩ := He.ba ex
  obtain ⟨x5, ex⟩ := He.ba ex
  obtain ⟨x6, x7⟩ := He.ba ex
  obtain ⟨es, n, td⟩ := S.t.tab 0
  obtain ⟨y1, x5⟩ := He.ba x5
  obtain ⟨y2, x5⟩ := He.ba x5
  obtain ⟨y3, x5⟩ := He.ba x5
  obtain ⟨y4, y5⟩ := He.ba x5
  exact {
    d_inner_blocks := D.def_ 0,
    g_inner_blocks := He.glo_ok X G (D.fact 0),
    d_listed := D.def_ 1,
    g_listed := He.glo_ok X G (D.fact 1),
    d_statements_of := D.def_ 2,
    g_statements_of := He.glo_ok X G (D.fact 2),
    d_places_with := D.def_ 3,
    g_places_with := He.glo_ok X G (D.fact 3),
    d_make_places := D.def_ 4,
    g_make_places := He.glo_ok X G (D.fact 4),
    d_weak_places := D.def_ 5,
    g_weak_places := He.glo_ok X G (D.fact 5),
    d_do_make := D.def_ 6,
    d_do_wish := D.def_ 7,
    d_do_keep := D.def_ 8,
    d_do_name := D.def_ 9,
    d_do_drop := D.def_ 10,
    d_do_hold := D.def_ 11,
    d_do_weak := D.def_ 12,
    d_do_cut := D.def_ 13,
    d_do_take := D.def_ 14,
    d_do_say := D.def_ 15,
    d_do_ask := D.def_ 16,
    d_is_true := D.def_ 17,
    g_is_true := He.glo_ok X G (D.fact 17),
    d_enter := D.def_ 18,
    g_enter := He.glo_ok X G (D.fact 18),
    d_execute := D.def_ 19,
    g_execute := He.glo_ok X G (D.fact 19),
    d_finish := D.def_ 20,
    g_finish := He.glo_ok X G (D.fact 20),
    d_walked := D.def_ 21,
    g_walked := He.glo_ok X G (D.fact 21),
    d_next_first := D.def_ 22,
    g_next_first := He.glo_ok X G (D.fact 22),
    d_ways_of := D.def_ 23,
    g_ways_of := He.glo_ok X G (D.fact 23),
    d_law_deck := D.def_ 24,
    g_law_deck := He.glo_ok X G (D.fact 24),
    d_law_draw := D.def_ 25,
    g_law_draw := He.glo_ok X G (D.fact 25),
    d_law_one := D.def_ 26,
    g_law_one := He.glo_ok X G (D.fact 26),
    d_law_names := D.def_ 27,
    g_law_names := He.glo_ok X G (D.fact 27),
    d_law_words := D.def_ 28,
    g_law_words := He.glo_ok X G (D.fact 28),
    d_law_test := D.def_ 29,
    g_law_test := He.glo_ok X G (D.fact 29),
    d_law_plain := D.def_ 30,
    g_law_plain := He.glo_ok X G (D.fact 30),
    d_law_puzzle := D.def_ 31,
    g_law_puzzle := He.glo_ok X G (D.fact 31),
    d_law_end := D.def_ 32,
    g_law_end := He.glo_ok X G (D.fact 32),
    d_law_fewer := D.def_ 33,
    g_law_fewer := He.glo_ok X G (D.fact 33),
    d_law_fixed := D.def_ 34,
    g_law_fixed := He.glo_ok X G (D.fact 34),
    d_law := D.def_ 35,
    b_tuple := He.free_ok X G (D.fact 43),
    b_enumerate := He.free_ok X G (D.fact 44),
    b_len := He.free_ok X G (D.fact 45),
    b_range := He.free_ok X G (D.fact 46),
    b_list := He.free_ok X G (D.fact 47),
    b_int := He.free_ok X G (D.fact 48),
    b_sorted := He.free_ok X G (D.fact 49),
    b_sum := He.free_ok X G (D.fact 50),
    b_abs := He.free_ok X G (D.fact 52),
    b_str := He.free_ok X G (D.fact 53),
    b_dict := He.free_ok X G (D.fact 54),
    b_repr := He.free_ok X G (D.fact 55),
    b_min := He.free_ok X G (D.fact 56),
    b_isinstance := He.free_ok X G (D.fact 57),
    bE := He.free_ok X G (D.fact 44),
    c_Keeps := He.cls_ok (D.fact 60),
    c_Strongs := He.cls_ok (D.fact 61),
    c_Walker := He.cls_ok (D.fact 62),
    a_block := He.noat_ok (D.fact 63),
    a_bits := He.noat_ok (D.fact 64),
    a_at_place := He.noat_ok (D.fact 65),
    a_moment := He.noat_ok (D.fact 66),
    a_stands := He.noat_ok (D.fact 67),
    a_kept := He.noat_ok (D.fact 68),
    a_contents := He.noat_ok (D.fact 69),
    a_wishes := He.noat_ok (D.fact 70),
    a_lost := He.noat_ok (D.fact 71),
    a_replies := He.noat_ok (D.fact 72),
    a_spoken := He.noat_ok (D.fact 73),
    a_first := He.noat_ok (D.fact 74),
    a_quiet_places := He.noat_ok (D.fact 75),
    a_since := He.noat_ok (D.fact 76),
    a_free_moments := He.noat_ok (D.fact 77),
    a_could_be := He.noat_ok (D.fact 78),
    a_late := He.noat_ok (D.fact 79),
    a_early := He.noat_ok (D.fact 80),
    m_Keeps_places_of := ⟨He.meth_ok (D.fact 81), D.def_ 36⟩,
    m_Keeps_changed := ⟨He.meth_ok (D.fact 82), D.def_ 37⟩,
    m_Keeps_rebuilt := ⟨He.meth_ok (D.fact 83), D.def_ 38⟩,
    m_Keeps_applied := ⟨He.meth_ok (D.fact 84), D.def_ 39⟩,
    m_Strongs_places_of := ⟨He.meth_ok (D.fact 85), D.def_ 40⟩,
    m_Strongs_changed := ⟨He.meth_ok (D.fact 86), D.def_ 41⟩,
    m_Strongs_rebuilt := ⟨He.meth_ok (D.fact 87), D.def_ 42⟩,
    m_Strongs_applied := ⟨He.meth_ok (D.fact 88), D.def_ 43⟩,
    m_note := ⟨He.meth_ok (D.fact 89), D.def_ 44⟩,
    m_end_moment := ⟨He.meth_ok (D.fact 90), D.def_ 45⟩,
    m_ask := ⟨He.meth_ok (D.fact 91), D.def_ 46⟩,
    m_cell_of := ⟨He.meth_ok (D.fact 92), D.def_ 47⟩,
    m_stand := ⟨He.meth_ok (D.fact 93), D.def_ 48⟩,
    m_fill := ⟨He.meth_ok (D.fact 94), D.def_ 49⟩,
    m_held_by := ⟨He.meth_ok (D.fact 95), D.def_ 50⟩,
    m_reach_from := ⟨He.meth_ok (D.fact 96), D.def_ 51⟩,
    m_reached := ⟨He.meth_ok (D.fact 97), D.def_ 52⟩,
    m_comers := ⟨He.meth_ok (D.fact 98), D.def_ 53⟩,
    m_begin_moment := ⟨He.meth_ok (D.fact 99), D.def_ 54⟩,
    m_latest := ⟨He.meth_ok (D.fact 100), D.def_ 55⟩,
    m_decide := ⟨He.meth_ok (D.fact 101), D.def_ 56⟩,
    stop := stopB_ok x1 (He.glo_ok X G (D.fact 42)) (D.def_ 58),
    g_MAXQ := He.int_ok X G (D.fact 58),
    g_MAXW := He.int_ok X G (D.fact 59),
    g_DEEDS := He.glo_ok X G (D.fact 37),
    k_make := kdct_of td x6 0,
    k_wish := kdct_of td x6 1,
    k_keep := kdct_of td x6 2,
    k_name := kdct_of td x6 3,
    k_drop := kdct_of td x6 4,
    k_hold := kdct_of td x6 5,
    k_weak := kdct_of td x6 6,
    k_cut := kdct_of td x6 7,
    k_take := kdct_of td x6 8,
    k_say := kdct_of td x6 9,
    k_ask := kdct_of td x6 10,
    d_Machine_init := D.def_ 57,
    sup := supB_ok x2 S.wi (He.free_ok X G (D.fact 51)),
    mk_Walker := He.mkr_ok (D.fact 102),
    g_Walker := He.glo_ok X G (D.fact 38),
    d_ways := by
      obtain ⟨fd, Fd⟩ := D.def_ 59
      exact ⟨fd, pausedAt K, Fd, nilB_ok x7⟩,
    g_ways := He.glo_ok X G (D.fact 36),
    n_Keeps := mk0B_ok x3,
    n_Strongs := mk0B_ok x4,
    g_Keeps := He.glo_ok X G (D.fact 39),
    g_Strongs := He.glo_ok X G (D.fact 40),
    g_Fix := He.glo_ok X G (D.fact 41),
    i1 := He.eqO_ok y1,
    i2 := He.eqO_ok y2,
    i3 := of_decide_eq_true y3,
    i4 := of_decide_eq_true y4,
    i5 := of_decide_eq_true y5 }
theorem law_glo (X : K.In h) (G : h.Ns mainGlobals mg) (S : SaysK P hdFa hdFn hdTs w K) : mg "law" = some (.ref (He.ga K "law")) := by
  have D : He.SaysD hdFa hdFn K := S.t.d
  exact He.glo_ok X G (D.fact 35)
end
end K82W
end K82Lists_part
section K82HdF_part
set_option Elab.async false
set_option linter.all false
set_option maxRecDepth 100000
set_option maxHeartbeats 0
namespace K82W
open PySem PySem.Spec PyProof.Rows L2
abbrev lawR : PySem.W.OpenRow := PySem.W.OpenLaw.row PySem.Challenge.rw_maybegone_k82_whole_fixes_take_runs_away
def hdNames1 : List Str := ["_wall", "MAX_QUESTIONS", "MAX_WAYS", "GoneError", "TooMany", "NoPlace", "Stopped", "inner_blocks", "listed", "statements_of", "places_with", "make_places", "weak_places", "Machine", "do_make", "do_wish", "do_keep", "do_name", "do_drop", "do_hold", "do_weak", "do_cut", "do_take", "do_say", "do_ask", "is_true"]
def hdNames2 : List Str := ["DEEDS", "enter", "execute", "finish", "Walker", "walked", "next_first", "ways_of", "ways", "Fix", "Keeps", "Strongs", "_law_deck", "_law_draw", "_law_one", "_law_names", "_law_words", "_law_test", "_law_plain", "_law_body", "_law_program", "_law_puzzle", "_law_end", "_law_fewer", "_law_fixed"]
def hdNames : List Str := hdNames1 ++ hdNames2
abbrev lawP : Program := PySem.Challenge.rw_maybegone_k82_whole_fixes_take_runs_away.prog
abbrev hdHook : PySem.W.Hook := hookK lawP 5 hdFa hdFn hdTs
def hdOb (s : PySem.W.SharedT) : AlK := obsK lawP 5 hdFa hdFn hdTs (HandSHeadRun.getT s)
theorem hdOb_eq (s : PySem.W.SharedT) : hdOb s = hdHook.obs s.abs := obsK_eq (HandSHeadRun.getT_eq s)
theorem runF (w : World) : HandSHeadRun.RunEq lawR (PySem.W.view lawR.prog [57]) hdHook hdOb 6000 hdNames (w.withFollow "special-get-raises" false) := by
  intro os
  kernel_rfl
end K82W
end K82HdF_part
section K82HdT_part
set_option Elab.async false
set_option linter.all false
set_option maxRecDepth 100000
set_option maxHeartbeats 0
namespace K82W
open PySem PySem.Spec PyProof.Rows L2
theorem runT (w : World) : HandSHeadRun.RunEq lawR (PySem.W.view lawR.prog [57]) hdHook hdOb 6000 hdNames (w.withFollow "special-get-raises" true) := by
  intro os
  kernel_rfl
theorem hdRun (w : World) : HandSHeadRun.RunEq lawR (PySem.W.view lawR.prog [57]) hdHook hdOb 6000 hdNames w :=
  PySem.W.byRow2 "special-get-raises" (P := fun w => HandSHeadRun.RunEq lawR (PySem.W.view lawR.prog [57]) hdHook hdOb 6000 hdNames w) runF runT w
end K82W
end K82HdT_part
section K82Join_part
set_option Elab.async false
set_option linter.all false
set_option maxRecDepth 100000
set_option maxHeartbeats 4000000
namespace K82W
open PySem PySem.Spec PyProof.Rows L2
/-- the script as it is tracked: known to the object, or nothing where it is an object of the module -/
def scr (K : PySem.W.Frag) (a : Addr) (vs : List Value) (ns : List Int) : Hp := fun b => if b = a ∧ K.lookup a = none then some (.frz { cls := .type "list", data := .seq vs.toArray } (.lst (ns.map V.int))) else none
theorem scr_only {K : PySem.W.Frag} {a : Addr} {vs : List Value} {ns : List Int} {b : Addr} {u : HO} (e : scr K a vs ns b = some u) : b = a ∧ K.lookup a = none ∧ u = .frz { cls := .type "list", data := .seq vs.toArray } (.lst (ns.map V.int)) := by
  unfold scr at e
  by_cases h : b = a ∧ K.lookup a = none
  · rw [if_pos h] at e
    cases e
    exact ⟨h.1, h.2, rfl⟩
  · rw [if_neg h] at e
    cases e
/-- the law's call from the promise of its def -/
theorem law_at {P : Program} {w : World} {K : PySem.W.Frag} {mg mb : Str → Option Value} {k : Nat} {fa a : Addr} {fd : FuncData} {x : Str} {sp : Sp} {s₁ : Shared} {vs : List Value} {ns : List Int}
    (inK : K.In s₁.heap) (nsG : s₁.heap.Ns mainGlobals mg) (nsB : s₁.heap.Ns builtinsNs mb) (boot : ∀ x : Str, x ≠ "__name__" → mb x = bootBuiltins x) (lim : s₁.heap.NoLimit) (gens : s₁.gens = #[])
    (obj : s₁.heap.get? a = some { cls := .type "list", data := .seq vs.toArray }) (areI : IntsAre vs ns) (few : ns.length ≤ sizeLine) (room : Room k callerA)
    (F : ∀ base : Heap, K.In base → base.Ns mainGlobals mg → FnG P w K mg base k fa fd [x] sp) (bind : ∀ (s : Shared) (u : Value), BindsTo s fd ⟨[u], []⟩ [(x, u)])
    (want : ∀ H : Hp, SqL K H a (ns.map V.int) → sp [.ref a] H (fun v _ => v = .bl true) fun _ _ _ => False) :
    codeAny (model P w) callerA (.call (.ref fa) ⟨[.ref a], []⟩) (fun r s' => r = .ok (.ret (.bool true)) ∧ OldK s₁.heap s'.heap ∧ s'.os = s₁.os ∧ AllBare s'.gens) s₁ := by
  have vals := vals_ints areI
  have S : SqL K (scr K a vs ns) a (ns.map V.int) := by
    cases q : K.lookup a with
    | none => exact .inl (.inr ⟨_, if_pos ⟨rfl, q⟩⟩)
    | some o =>
      have e := (inK a o q).symm.trans obj
      injection e with e
      subst e
      exact .inr ⟨_, vs.toArray, 0, q, rfl, rfl, rfl, by have := areI.length; simp; omega, by simpa using vals⟩
  have ok : HOk P w (scr K a vs ns) s₁.heap := by
    intro b u e
    obtain ⟨rfl, _, rfl⟩ := scr_only e
    exact ⟨obj, (by rw [List.length_map]; exact few), vs, 0, vals, obj⟩
  have stay : ∀ {b : Addr} {o : Obj}, s₁.heap.get? b = some o → (b = a → K.lookup a = none → False) → (hidT s₁.heap (scr K a vs ns)).get? b = some o := by
    intro b o e ne
    refine hidT_get e ?_
    cases q : scr K a vs ns b with
    | none => rfl
    | some u =>
      obtain ⟨e1, e2, _⟩ := scr_only q
      exact (ne e1 e2).elim
  have space : ∀ {b : Addr} {m : Str → Option Value}, s₁.heap.Ns b m → (hidT s₁.heap (scr K a vs ns)).Ns b m := by
    rintro b m ⟨o, es, ep, e, d, rest⟩
    refine ⟨o, es, ep, stay e fun e1 _ => ?_, d, rest⟩
    rw [e1, obj] at e
    injection e with e
    rw [← e] at d
    cases d
  have part : K.In (hidT s₁.heap (scr K a vs ns)) := fun b o e => stay (inK b o e) fun e1 e2 => by
    rw [e1, e2] at e
    cases e
  have module_ : Mod K mg (hidT s₁.heap (scr K a vs ns)) := by
    obtain ⟨mc, z1, z2⟩ := lim
    exact ⟨part, space nsG, ⟨mb, space nsB, boot⟩, mc, space z1, z2⟩
  have e0 : Env0 P w K mg (hidT s₁.heap (scr K a vs ns)) callerA [] s₁ (scr K a vs ns) := by
    refine ⟨rfl, module_, fun b o e => of_hidT e, Nat.le_of_eq (hidT_size _ _), trivial, ?_, ok, .of_eq gens⟩
    intro b z
    exact absurd (show b ∈ ([] : List Addr) from z) List.not_mem_nil
  apply codeAny_mono ((F _ part (space nsG)).go callerA [] s₁ (scr K a vs ns) ⟨[.ref a], []⟩ [.ref a] [.ref a] _ _ room rfl e0 (bind s₁ (.ref a)) (.cons rfl .nil) (want _ S))
  intro r s' h
  match r, h with
  | .error e, h =>
    obtain ⟨_, _, _, _, _, _, _, _, _, _, _, _, z⟩ := h
    exact z.elim
  | .ok .next, h => exact h.elim
  | .ok .brk, h => exact h.elim
  | .ok .cont, h => exact h.elim
  | .ok (.ret u), ⟨v, H', o1, o2, un, ok', rv, q⟩ =>
    have q : v = .bl true := q
    subst q
    obtain rfl : u = Value.bool true := rv
    refine ⟨rfl, OldK.of_keep ?_, o1, o2⟩
    intro b o e
    cases z : scr K a vs ns b with
    | none =>
      refine un.keep b o e z ?_ List.not_mem_nil
      intro y
      exact absurd (show b ∈ ([] : List Addr) from y) List.not_mem_nil
    | some t =>
      obtain ⟨e1, _, e3⟩ := scr_only z
      rw [e3] at z
      have z2 := un.frzs b _ _ z
      obtain ⟨y1, _⟩ := ok b _ z
      obtain ⟨y2, _⟩ := ok' b _ z2
      rw [e] at y1
      injection y1 with y1
      rw [y1]
      exact y2
end K82W
end K82Join_part
set_option Elab.async false
set_option linter.all false
set_option maxRecDepth 100000
set_option maxHeartbeats 0
open PySem PySem.W PySem.Calls PyProof.Rows
set_option maxRecDepth 100000 in
set_option maxHeartbeats 0 in
theorem PySem.Challenge.cw_maybegone_k82_whole_fixes_take_runs_away_holds : PySem.Challenge.rw_maybegone_k82_whole_fixes_take_runs_away.Holds := by
  w_on; o_law
  refine HandSHeadRun.head_any (r := K82W.lawR) (q := view K82W.lawR.prog [57]) (H := K82W.hdHook) (ob := K82W.hdOb) (M := 6000) (loose := K82W.hdNames) (d := HandSHeadRun.topDef K82W.lawR.prog 57) (kwd := []) K82W.hdOb_eq
    (by kernel_rfl) (fun s => by kernel_rfl) K82W.hdRun (by kernel_rfl) (by kernel_rfl) (by kernel_rfl) (by rfl) (by first | assumption | decide +kernel) (by decide +kernel) ⟨rfl, rfl, rfl, rfl, rfl, by decide +kernel⟩ ?hw ?hc
  case hw => w_witness2
  case hc =>
    refine Att.attach_call (l := PySem.Challenge.rw_maybegone_k82_whole_fixes_take_runs_away) (n := 63) rfl (by kernel_rfl) ?_
    intro w s₀ s₁ mg mb fa o pm cd doc a vs ns G Y ho hd hcd hmg0 hobj hints hlen hg
    obtain ⟨K, KX, S⟩ := Y
    have hmg : mg ("law" : PySem.Str) = some (.ref fa) := by
      have e : (HandSHeadRun.topDef K82W.lawR.prog 57).name = ("law" : PySem.Str) := by kernel_rfl
      rw [← e]
      exact hmg0
    have T : K82W.TxZ PySem.Challenge.rw_maybegone_k82_whole_fixes_take_runs_away.prog K mg w := K82W.says_txz KX G.T.g S
    have g := hmg.symm.trans (K82W.law_glo KX G.T.g S)
    injection g with g
    injection g with g
    subst g
    obtain ⟨fd, Fd⟩ := T.d_law
    have b := L2.FunD.bindsA (ps := ["_law_script"]) Fd fun _ _ _ _ _ _ us hl => match us, hl with | [_], _ => rfl
    exact K82W.law_at KX G.T.g G.T.b G.T.builtins G.T.nolimit hg hobj hints (Nat.le_trans hlen (by decide)) ⟨rfl, by decide, by decide⟩
      (fun base _ _ => K82W.fnG Fd K82W.sc_law (fun vs H Q E h => by obtain ⟨a, ns, rfl, _⟩ := h; rfl) (K82W.b_law T)) (fun s v => b s [v] rfl) fun H hS => ⟨a, ns, rfl, hS, fun _ => rfl⟩
