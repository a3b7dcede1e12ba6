import PyProof.Rows.All
import Wide.All
import OpenK.AllK
import Wide.FinOn
import HandS.ForMost
import HandS.Defaults
import HandS.HeadHook1
import HandS.HeadHook2
import HandS.Walk
import KE.GoesEnum
import HandS.Codes
import HandS.IsInst
import HandS.Gcd
import HandS.Wide
import KE.KStateDown
import HandS.Head0
import HandS.Head1
import HandS.Head2
import HandS.Head3
import HandS.HeadEnd
import HandS.HeadHook3
import HandS.HeadHook4
import PySem.Challenge.RW_alikeplay_k22_whole_same_ticks_elsewhere
set_option Elab.async false
set_option linter.all false
set_option maxRecDepth 100000
/-! K22Text: the places of the defs in the row's text. -/
namespace K22
open PySem L2
def top (i : Nat) : Stmt := PySem.Challenge.pw_alikeplay_k22_whole_same_ticks_elsewhere.main.body.getD i (.Pass ⟨0, 0, 0, 0⟩)
abbrev s_is_whole : Stmt := top 5
abbrev s_is_between : Stmt := top 6
abbrev s_is_fraction : Stmt := top 7
abbrev s_is_coordinate : Stmt := top 10
abbrev s_is_box : Stmt := top 11
abbrev s_do_overlap : Stmt := top 12
abbrev s_moved_by : Stmt := top 13
abbrev s_is_name : Stmt := top 17
abbrev s_raw_box : Stmt := top 22
abbrev s_is_body : Stmt := top 23
abbrev s_is_space : Stmt := top 28
abbrev s_check_space : Stmt := top 29
abbrev s_check_bounce : Stmt := top 30
abbrev s_limited : Stmt := top 31
abbrev s_passed : Stmt := top 32
abbrev s_init : Stmt := inClass (top 33) 0
abbrev s_wishes : Stmt := inClass (top 33) 1
abbrev s_blocker : Stmt := inClass (top 33) 2
abbrev s_meet : Stmt := inClass (top 33) 3
abbrev s_go : Stmt := inClass (top 33) 4
abbrev s_tick : Stmt := top 34
abbrev s_stream : Stmt := top 36
abbrev s_next : Stmt := top 37
abbrev s_isint : Stmt := top 38
abbrev s_equal : Stmt := top 45
abbrev s_body : Stmt := top 46
abbrev s_box : Stmt := top 47
abbrev s_overlap : Stmt := top 48
abbrev s_bounce : Stmt := top 51
abbrev s_other : Stmt := top 52
abbrev s_law : Stmt := top 53
/-- a def as it stands behind the top -/
abbrev Fn (K : PySem.W.Frag) (x qual : Str) (st : Stmt) (f : Addr) (fd : FuncData) : Prop := FunD K x qual (defArgs st) (defBody st) (defScope st) [] [] f fd
end K22
/-! K22Facts: the facts by names that the head is asked for. -/
namespace K22
open PySem PySem.Spec PyProof.Rows L2
def dg (x : Str) (st : Stmt) : He.DefD := ⟨(x, none), x, x, defArgs st, defBody st, defScope st, [], []⟩
def dm (m q : Str) (st : Stmt) : He.DefD := ⟨("Moving", some m), m, q, defArgs st, defBody st, defScope st, [], []⟩
def fns : List He.DefD := [
  dg "is_whole" s_is_whole, dg "is_between" s_is_between, dg "is_fraction" s_is_fraction, dg "is_coordinate" s_is_coordinate, dg "is_box" s_is_box,
  dg "do_overlap" s_do_overlap, dg "moved_by" s_moved_by, dg "is_name" s_is_name, dg "raw_box" s_raw_box, dg "is_body" s_is_body,
  dg "is_space" s_is_space, dg "check_space" s_check_space, dg "check_bounce" s_check_bounce, dg "limited" s_limited, dg "passed" s_passed,
  dm "__init__" "Moving.__init__" s_init, dm "wishes" "Moving.wishes" s_wishes, dm "blocker" "Moving.blocker" s_blocker, dm "meet" "Moving.meet" s_meet, dm "go" "Moving.go" s_go,
  dg "tick" s_tick, dg "_law_stream" s_stream, dg "_law_next" s_next, dg "_law_is_integer" s_isint, dg "_law_equal" s_equal,
  dg "_law_body" s_body, dg "_law_box" s_box, dg "_law_overlap" s_overlap, dg "_law_bounce" s_bounce, dg "_law_other" s_other, dg "law" s_law]
def fas : List He.Fa := [
  .glo "is_whole", .glo "is_between", .glo "is_fraction", .glo "is_coordinate", .glo "is_box",
  .glo "do_overlap", .glo "moved_by", .glo "is_name", .glo "raw_box", .glo "is_body",
  .glo "is_space", .glo "check_space", .glo "check_bounce", .glo "limited", .glo "passed",
  .glo "Moving", .cls "Moving", .mkr "Moving", .meth "Moving" "wishes", .meth "Moving" "blocker", .meth "Moving" "meet", .meth "Moving" "go",
  .noat "Moving" "bodies", .noat "Moving" "bounce", .noat "Moving" "contacts",
  .glo "tick", .glo "_law_stream", .glo "_law_next", .glo "_law_is_integer", .glo "_law_equal",
  .glo "_law_body", .glo "_law_box", .glo "_law_overlap", .glo "_law_bounce", .glo "_law_other", .glo "law",
  .int "FARTHEST" 20000, .int "LONGEST" 200, .int "HEAVIEST" 100, .int "FASTEST" 64, .int "MOST_BODIES" 12, .int "FINEST" 1000,
  .str "LETTERS" "abcdefghijklmnopqrstuvwxyz", .str "DIGITS" "0123456789", .str "EDGE" "",
  .free "isinstance", .free "int", .free "bool", .free "tuple", .free "len", .free "all", .free "any", .free "str", .free "list", .free "range", .free "enumerate", .free "max", .free "min", .free "abs"]
def exs (K : PySem.W.Frag) : Bool := He.eqO (PySem.W.nsIn K mainGlobals "gcd") (some (some (.builtin "math.gcd")))
end K22
/-! K22Math: what a tick computes, on plain lists; that it moves along with a shift and other names. -/
namespace K22
abbrev Nm := PySem.Str
/-! ### boxes and bodies -/
structure Bx where
  x0 : Int
  y0 : Int
  x1 : Int
  y1 : Int
def ov (p q : Bx) : Bool := decide (p.x0 < q.x1 ∧ q.x0 < p.x1 ∧ p.y0 < q.y1 ∧ q.y0 < p.y1)
theorem ov_comm (p q : Bx) : ov p q = ov q p := by
  unfold ov
  exact decide_eq_decide.mpr ⟨fun h => ⟨h.2.1, h.1, h.2.2.2, h.2.2.1⟩, fun h => ⟨h.2.1, h.1, h.2.2.2, h.2.2.1⟩⟩
structure B where
  n : Nm
  x : Int
  y : Int
  w : Int
  h : Int
  m : Int
  px : Int
  py : Int
  cx : Int
  cy : Int
def axI : Bool → Int
  | false => 0
  | true => 1
def B.pos (b : B) : Bool → Int
  | false => b.x
  | true => b.y
def B.mom (b : B) : Bool → Int
  | false => b.px
  | true => b.py
def B.car (b : B) : Bool → Int
  | false => b.cx
  | true => b.cy
def B.setPos (b : B) : Bool → Int → B
  | false, v => { b with x := v }
  | true, v => { b with y := v }
def B.setMom (b : B) : Bool → Int → B
  | false, v => { b with px := v }
  | true, v => { b with py := v }
def B.setCar (b : B) : Bool → Int → B
  | false, v => { b with cx := v }
  | true, v => { b with cy := v }
def B.box (b : B) : Bx := ⟨b.x, b.y, b.x + b.w, b.y + b.h⟩
def Bx.by_ (p : Bx) (dx dy : Int) : Bx := ⟨p.x0 + dx, p.y0 + dy, p.x1 + dx, p.y1 + dy⟩
def Bx.go (p : Bx) (ax : Bool) (s : Int) : Bx := p.by_ (s * (1 - axI ax)) (s * axI ax)
theorem go_eq (b : B) (ax : Bool) (s : Int) : b.box.go ax s = (b.setPos ax (b.pos ax + s)).box := by
  cases ax
  · show Bx.mk (b.x + s * (1 - 0)) (b.y + s * 0) (b.x + b.w + s * (1 - 0)) (b.y + b.h + s * 0) = Bx.mk (b.x + s) b.y (b.x + s + b.w) (b.y + b.h)
    rw [Int.mul_zero, Int.sub_zero, Int.mul_one, Int.add_zero, Int.add_zero, Int.add_right_comm]
  · show Bx.mk (b.x + s * (1 - 1)) (b.y + s * 1) (b.x + b.w + s * (1 - 1)) (b.y + b.h + s * 1) = Bx.mk b.x (b.y + s) (b.x + b.w) (b.y + s + b.h)
    rw [Int.sub_self, Int.mul_zero, Int.mul_one, Int.add_zero, Int.add_zero, Int.add_right_comm]
/-! ### a contact -/
def pass (n d u m v o : Int) : Int :=
  if o = 0 then (if 0 < u then (d + n) * u / d else 0)
  else if 0 < u * o - v * m then (d + n) * (u * o - v * m) / (d * (m + o)) else 0
def hit (bs : List B) (i : Nat) (p : Bx) (k : Nat) : Bool := match bs[k]? with
  | some o => decide (k ≠ i) && ov p o.box
  | none => false
def blk (bs : List B) (i : Nat) (p : Bx) : Option Nat := (List.range bs.length).find? (hit bs i p)
theorem blk_some {bs : List B} {i k : Nat} {p : Bx} : blk bs i p = some k ↔ hit bs i p k = true ∧ ∀ j, j < k → hit bs i p j = false := by
  unfold blk
  rw [List.find?_range_eq_some]
  constructor
  · rintro ⟨h1, _, h2⟩
    exact ⟨h1, fun j hj => by simpa using h2 j hj⟩
  · rintro ⟨h1, h2⟩
    refine ⟨h1, ?_, fun j hj => by simp [h2 j hj]⟩
    unfold hit at h1
    split at h1
    · rename_i o ho
      exact List.mem_range.mpr (List.getElem?_eq_some_iff.mp ho).1
    · cases h1
theorem blk_none {bs : List B} {i : Nat} {p : Bx} : blk bs i p = none ↔ ∀ j, hit bs i p j = false := by
  unfold blk
  rw [List.find?_range_eq_none]
  constructor
  · intro h j
    by_cases hj : j < bs.length
    · simpa using h j hj
    · unfold hit
      rw [List.getElem?_eq_none (by omega)]
  · intro h j _
    simp [h j]
theorem hit_at {bs : List B} {i k : Nat} {p : Bx} (h : hit bs i p k = true) : ∃ o, bs[k]? = some o ∧ k ≠ i ∧ ov p o.box = true := by
  unfold hit at h
  split at h
  · rename_i o ho
    rw [Bool.and_eq_true, decide_eq_true_eq] at h
    exact ⟨o, ho, h.1, h.2⟩
  · cases h
theorem hit_eq {bs : List B} {i k : Nat} {p : Bx} {o : B} (h : bs[k]? = some o) : hit bs i p k = (decide (k ≠ i) && ov p o.box) := by
  unfold hit
  rw [h]
def sgn (l : Int) : Int := if 0 < l then 1 else -1
structure C where
  ax : Bool
  s : Int
  a : Nm
  b : Nm
  j : Int
structure S where
  bs : List B
  left : List Int
  cs : List C
def jOf (ax : Bool) (n d s : Int) (b o : B) : Int := pass n d (s * b.mom ax) b.m (s * o.mom ax) o.m
def meet (ax : Bool) (n d s : Int) (i k : Nat) (b o : B) (bs : List B) : List B :=
  if 0 < o.m then (bs.set i (b.setMom ax (b.mom ax - s * jOf ax n d s b o))).set k (o.setMom ax (o.mom ax + s * jOf ax n d s b o))
  else bs.set i (b.setMom ax (b.mom ax - s * jOf ax n d s b o))
def step (ax : Bool) (n d : Int) (st : S) (i : Nat) : S := match st.bs[i]?, st.left[i]? with
  | some b, some l => if l = 0 then st else match blk st.bs i (b.box.go ax (sgn l)) with
    | none => ⟨st.bs.set i (b.setPos ax (b.pos ax + sgn l)), st.left.set i (l - sgn l), st.cs⟩
    | some k => match st.bs[k]? with
      | some o => ⟨meet ax n d (sgn l) i k b o st.bs, st.left.set i 0, st.cs ++ [⟨ax, sgn l, b.n, o.n, jOf ax n d (sgn l) b o⟩]⟩
      | none => st
  | _, _ => st
/-- the three ways of a step -/
inductive Way (ax : Bool) (n d : Int) (st : S) (i : Nat) (st' : S) : Prop where
  | stay (h : st.left[i]? = some 0 ∨ st.bs[i]? = none ∨ st.left[i]? = none) (e : st' = st)
  | goes {b : B} {l : Int} (hb : st.bs[i]? = some b) (hl : st.left[i]? = some l) (h0 : l ≠ 0) (hk : blk st.bs i (b.box.go ax (sgn l)) = none)
      (e : st' = ⟨st.bs.set i (b.setPos ax (b.pos ax + sgn l)), st.left.set i (l - sgn l), st.cs⟩)
  | meets {b o : B} {l : Int} {k : Nat} (hb : st.bs[i]? = some b) (hl : st.left[i]? = some l) (h0 : l ≠ 0) (hk : blk st.bs i (b.box.go ax (sgn l)) = some k) (ho : st.bs[k]? = some o)
      (e : st' = ⟨meet ax n d (sgn l) i k b o st.bs, st.left.set i 0, st.cs ++ [⟨ax, sgn l, b.n, o.n, jOf ax n d (sgn l) b o⟩]⟩)
theorem step_way (ax : Bool) (n d : Int) (st : S) (i : Nat) : Way ax n d st i (step ax n d st i) := by
  unfold step
  split
  · rename_i b l hb hl
    by_cases h0 : l = 0
    · rw [if_pos h0]
      exact .stay (.inl (by rw [hl, h0])) rfl
    · rw [if_neg h0]
      split
      · rename_i hk
        exact .goes hb hl h0 hk rfl
      · rename_i k hk
        split
        · rename_i o ho
          exact .meets hb hl h0 hk ho rfl
        · rename_i ho
          obtain ⟨o, q, _⟩ := hit_at (blk_some.mp hk).1
          rw [q] at ho
          cases ho
  · rename_i h
    refine .stay (.inr ?_) rfl
    cases hb : st.bs[i]? with
    | none => exact .inl rfl
    | some b =>
      cases hl : st.left[i]? with
      | none => exact .inr rfl
      | some l => exact (h b l hb hl).elim
theorem meet_len {ax : Bool} {n d s : Int} {i k : Nat} {b o : B} {bs : List B} : (meet ax n d s i k b o bs).length = bs.length := by
  unfold meet
  split <;> simp
theorem step_len (ax : Bool) (n d : Int) (st : S) (i : Nat) : (step ax n d st i).bs.length = st.bs.length ∧ (step ax n d st i).left.length = st.left.length := by
  rcases step_way ax n d st i with ⟨_, e⟩ | ⟨_, _, _, _, e⟩ | ⟨_, _, _, _, _, e⟩ <;> rw [e] <;> simp [meet_len]
def upto (ax : Bool) (n d : Int) (st : S) : Nat → S
  | 0 => st
  | k + 1 => step ax n d (upto ax n d st k) k
def round (ax : Bool) (n d : Int) (st : S) : S := upto ax n d st st.bs.length
theorem upto_len (ax : Bool) (n d : Int) (st : S) : ∀ k, (upto ax n d st k).bs.length = st.bs.length ∧ (upto ax n d st k).left.length = st.left.length
  | 0 => ⟨rfl, rfl⟩
  | k + 1 => by
    obtain ⟨h1, h2⟩ := step_len ax n d (upto ax n d st k) k
    obtain ⟨h3, h4⟩ := upto_len ax n d st k
    exact ⟨h1.trans h3, h2.trans h4⟩
def mu (l : List Int) : Nat := (l.map Int.natAbs).sum
theorem mu_set : ∀ {l : List Int} {i : Nat} {v w : Int}, l[i]? = some v → mu (l.set i w) + v.natAbs = mu l + w.natAbs
  | [], i, v, w, h => by simp at h
  | a :: r, 0, v, w, h => by
    have e : a = v := Option.some.inj h
    subst e
    show (w.natAbs + mu r) + a.natAbs = (a.natAbs + mu r) + w.natAbs
    omega
  | a :: r, i + 1, v, w, h => by
    have ih := mu_set (l := r) (i := i) (w := w) (by simpa using h)
    show (a.natAbs + mu (r.set i w)) + v.natAbs = (a.natAbs + mu r) + w.natAbs
    omega
theorem sgn_less {l : Int} (h : l ≠ 0) : (l - sgn l).natAbs + 1 = l.natAbs := by
  unfold sgn
  split <;> omega
theorem step_mu (ax : Bool) (n d : Int) (st : S) (i : Nat) : mu (step ax n d st i).left ≤ mu st.left ∧ (∀ v, i < st.bs.length → st.left[i]? = some v → v ≠ 0 → mu (step ax n d st i).left < mu st.left) := by
  rcases step_way ax n d st i with ⟨h, e⟩ | ⟨hb, hl, h0, hk, e⟩ | ⟨hb, hl, h0, hk, ho, e⟩
  · rw [e]
    refine ⟨Nat.le_refl _, fun v hi hv hv0 => ?_⟩
    rcases h with h | h | h
    · rw [hv] at h
      exact absurd (Option.some.inj h) hv0
    · exact absurd hi (by have := List.getElem?_eq_none_iff.mp h; omega)
    · rw [hv] at h
      cases h
  · rename_i b l
    rw [e]
    have q := mu_set (w := l - sgn l) hl
    have z := sgn_less h0
    exact ⟨by show mu (st.left.set i (l - sgn l)) ≤ _; omega, fun v _ _ _ => by show mu (st.left.set i (l - sgn l)) < _; omega⟩
  · rename_i b o l k
    rw [e]
    have q := mu_set (w := 0) hl
    have z : 0 < l.natAbs := by omega
    have z0 : (0 : Int).natAbs = 0 := rfl
    exact ⟨by show mu (st.left.set i 0) ≤ _; omega, fun v _ _ _ => by show mu (st.left.set i 0) < _; omega⟩
theorem upto_mu (ax : Bool) (n d : Int) (st : S) : ∀ k, mu (upto ax n d st k).left ≤ mu st.left
  | 0 => Nat.le_refl _
  | k + 1 => Nat.le_trans (step_mu ax n d _ k).1 (upto_mu ax n d st k)
theorem step_other (ax : Bool) (n d : Int) (st : S) (i j : Nat) (h : j ≠ i) : (step ax n d st i).left[j]? = st.left[j]? := by
  rcases step_way ax n d st i with ⟨_, e⟩ | ⟨_, _, _, _, e⟩ | ⟨_, _, _, _, _, e⟩
  · rw [e]
  · rw [e]
    exact List.getElem?_set_ne (Ne.symm h)
  · rw [e]
    exact List.getElem?_set_ne (Ne.symm h)
theorem upto_other (ax : Bool) (n d : Int) (st : S) : ∀ k j, k ≤ j → (upto ax n d st k).left[j]? = st.left[j]?
  | 0, j, _ => rfl
  | k + 1, j, h => (step_other ax n d _ k j (by omega)).trans (upto_other ax n d st k j (by omega))
theorem upto_less (ax : Bool) (n d : Int) (st : S) {j : Nat} {v : Int} (hj : j < st.bs.length) (hv : st.left[j]? = some v) (h0 : v ≠ 0) : ∀ k, j < k → mu (upto ax n d st k).left < mu st.left
  | 0, h => absurd h (Nat.not_lt_zero _)
  | k + 1, h => by
    by_cases e : j = k
    · subst e
      have q := (step_mu ax n d (upto ax n d st j) j).2 v (by rw [(upto_len ax n d st j).1]; exact hj) (by rw [upto_other ax n d st j j (Nat.le_refl _)]; exact hv) h0
      exact Nat.lt_of_lt_of_le q (upto_mu ax n d st j)
    · exact Nat.lt_of_le_of_lt (step_mu ax n d _ k).1 (upto_less ax n d st hj hv h0 k (by omega))
def busy (st : S) : Bool := st.left.any fun v => decide (v ≠ 0)
theorem busy_at {l : List Int} (h : (l.any fun v => decide (v ≠ 0)) = true) : ∃ (j : Nat) (v : Int), l[j]? = some v ∧ v ≠ 0 := by
  obtain ⟨v, hv, h0⟩ := List.any_eq_true.mp h
  obtain ⟨j, hj, e⟩ := List.mem_iff_getElem.mp hv
  exact ⟨j, v, by rw [List.getElem?_eq_getElem hj, e], of_decide_eq_true h0⟩
theorem round_less (ax : Bool) (n d : Int) (st : S) (hl : st.left.length = st.bs.length) (h : busy st = true) : mu (round ax n d st).left < mu st.left := by
  obtain ⟨j, v, hv, h0⟩ := busy_at h
  have hj : j < st.bs.length := by
    rw [← hl]
    exact (List.getElem?_eq_some_iff.mp hv).1
  exact upto_less ax n d st hj hv h0 _ hj
def iter (ax : Bool) (n d : Int) : Nat → S → S
  | 0, st => st
  | k + 1, st => if busy st = true then iter ax n d k (round ax n d st) else st
def goM (ax : Bool) (n d : Int) (st : S) : S := iter ax n d (mu st.left) st
theorem goM_done {ax : Bool} {n d : Int} {st : S} (h : busy st = false) : goM ax n d st = st := by
  unfold goM
  cases mu st.left with
  | zero => rfl
  | succ k =>
    show (if busy st = true then _ else st) = st
    rw [if_neg (by rw [h]; decide)]
theorem round_len (ax : Bool) (n d : Int) (st : S) (hl : st.left.length = st.bs.length) : (round ax n d st).left.length = (round ax n d st).bs.length := by
  obtain ⟨h1, h2⟩ := upto_len ax n d st st.bs.length
  show (upto ax n d st st.bs.length).left.length = (upto ax n d st st.bs.length).bs.length
  rw [h1, h2, hl]
theorem iter_any (ax : Bool) (n d : Int) : ∀ (k : Nat) (st : S), st.left.length = st.bs.length → mu st.left ≤ k → iter ax n d k st = goM ax n d st := by
  intro k
  induction k using Nat.strongRecOn with
  | _ k ih =>
    intro st hl hk
    cases hr : busy st with
    | false =>
      rw [goM_done hr]
      cases k with
      | zero => rfl
      | succ k =>
        show (if busy st = true then _ else st) = st
        rw [if_neg (by rw [hr]; decide)]
    | true =>
      have hless := round_less ax n d st hl hr
      unfold goM
      cases hm : mu st.left with
      | zero => omega
      | succ m =>
        cases k with
        | zero => omega
        | succ k =>
          show (if busy st = true then iter ax n d k (round ax n d st) else st) = (if busy st = true then iter ax n d m (round ax n d st) else st)
          rw [if_pos hr, if_pos hr, ih k (by omega) _ (round_len ax n d st hl) (by omega), ih m (by omega) _ (round_len ax n d st hl) (by omega)]
theorem goM_round {ax : Bool} {n d : Int} {st : S} (hl : st.left.length = st.bs.length) (h : busy st = true) : goM ax n d (round ax n d st) = goM ax n d st := by
  have hless := round_less ax n d st hl h
  rw [← iter_any ax n d (mu st.left - 1) (round ax n d st) (round_len ax n d st hl) (by omega)]
  show _ = iter ax n d (mu st.left) st
  cases hm : mu st.left with
  | zero => omega
  | succ m =>
    show iter ax n d (m + 1 - 1) (round ax n d st) = (if busy st = true then iter ax n d m (round ax n d st) else st)
    rw [if_pos h]
    rfl
/-! ### wishes, the tick -/
def lim (v : Int) : Int := if (if v < 64 then v else 64) > -64 then (if v < 64 then v else 64) else -64
theorem lim_abs (v : Int) : (lim v).natAbs ≤ 64 := by
  unfold lim
  split <;> split <;> omega
def wish (ax : Bool) (b : B) : Int := if b.m = 0 then 0 else lim ((b.mom ax + b.car ax) / b.m)
def carr (ax : Bool) (b : B) : B := if b.m = 0 then b else b.setCar ax (b.mom ax + b.car ax - b.m * ((b.mom ax + b.car ax) / b.m))
def tick0 (bs : List B) : List B := (bs.map (carr false)).map (carr true)
def wishX (bs : List B) : List Int := bs.map (wish false)
def wishY (bs : List B) : List Int := (bs.map (carr false)).map (wish true)
def midM (n d : Int) (bs : List B) : S := goM false n d ⟨tick0 bs, wishX bs, []⟩
def endM (n d : Int) (bs : List B) : S := goM true n d ⟨(midM n d bs).bs, wishY bs, (midM n d bs).cs⟩
/-! ### the same elsewhere -/
section
variable (f : Nm → Nm) (dx dy : Int)
def sh (b : B) : B := { b with n := f b.n, x := b.x + dx, y := b.y + dy }
def shC (c : C) : C := { c with a := f c.a, b := f c.b }
def shS (st : S) : S := ⟨st.bs.map (sh f dx dy), st.left, st.cs.map (shC f)⟩
theorem sh_mom (b : B) (ax : Bool) : (sh f dx dy b).mom ax = b.mom ax := by cases ax <;> rfl
theorem sh_car (b : B) (ax : Bool) : (sh f dx dy b).car ax = b.car ax := by cases ax <;> rfl
theorem sh_setMom (b : B) (ax : Bool) (v : Int) : (sh f dx dy b).setMom ax v = sh f dx dy (b.setMom ax v) := by cases ax <;> rfl
theorem sh_setCar (b : B) (ax : Bool) (v : Int) : (sh f dx dy b).setCar ax v = sh f dx dy (b.setCar ax v) := by cases ax <;> rfl
theorem sh_pos (b : B) (ax : Bool) (v : Int) : (sh f dx dy b).setPos ax ((sh f dx dy b).pos ax + v) = sh f dx dy (b.setPos ax (b.pos ax + v)) := by
  cases ax
  · show ({ n := f b.n, x := b.x + dx + v, y := b.y + dy, w := b.w, h := b.h, m := b.m, px := b.px, py := b.py, cx := b.cx, cy := b.cy } : B) = { n := f b.n, x := b.x + v + dx, y := b.y + dy, w := b.w, h := b.h, m := b.m, px := b.px, py := b.py, cx := b.cx, cy := b.cy }
    rw [Int.add_right_comm]
  · show ({ n := f b.n, x := b.x + dx, y := b.y + dy + v, w := b.w, h := b.h, m := b.m, px := b.px, py := b.py, cx := b.cx, cy := b.cy } : B) = { n := f b.n, x := b.x + dx, y := b.y + v + dy, w := b.w, h := b.h, m := b.m, px := b.px, py := b.py, cx := b.cx, cy := b.cy }
    rw [Int.add_right_comm b.y]
theorem sh_ov (b o : B) : ov (sh f dx dy b).box (sh f dx dy o).box = ov b.box o.box := by
  unfold ov B.box sh
  apply decide_eq_decide.mpr
  simp only
  omega
theorem map_at (g : B → B) (bs : List B) (i : Nat) : (bs.map g)[i]? = (bs[i]?).map g := List.getElem?_map
theorem sh_blk (bs : List B) (i : Nat) (b : B) (ax : Bool) (s : Int) : blk (bs.map (sh f dx dy)) i ((sh f dx dy b).box.go ax s) = blk bs i (b.box.go ax s) := by
  unfold blk
  rw [List.length_map]
  congr 1
  funext k
  unfold hit
  rw [map_at]
  cases bs[k]? with
  | none => rfl
  | some o =>
    show (decide (k ≠ i) && ov ((sh f dx dy b).box.go ax s) (sh f dx dy o).box) = (decide (k ≠ i) && ov (b.box.go ax s) o.box)
    rw [go_eq, go_eq, sh_pos, sh_ov]
theorem sh_jOf (ax : Bool) (n d s : Int) (b o : B) : jOf ax n d s (sh f dx dy b) (sh f dx dy o) = jOf ax n d s b o := by
  unfold jOf
  rw [sh_mom, sh_mom]
  rfl
theorem sh_meet (ax : Bool) (n d s : Int) (i k : Nat) (b o : B) (bs : List B) : meet ax n d s i k (sh f dx dy b) (sh f dx dy o) (bs.map (sh f dx dy)) = (meet ax n d s i k b o bs).map (sh f dx dy) := by
  unfold meet
  rw [sh_jOf, sh_mom, sh_mom, sh_setMom, sh_setMom]
  show (if 0 < o.m then _ else _) = _
  split
  · rw [List.map_set, List.map_set]
  · rw [List.map_set]
theorem sh_step (ax : Bool) (n d : Int) (st : S) (i : Nat) : step ax n d (shS f dx dy st) i = shS f dx dy (step ax n d st i) := by
  unfold step
  show (match (st.bs.map (sh f dx dy))[i]?, st.left[i]? with
    | some b, some l => _
    | _, _ => _) = _
  rw [map_at]
  cases hb : st.bs[i]? with
  | none => rfl
  | some b =>
    cases hl : st.left[i]? with
    | none => rfl
    | some l =>
      show (if l = 0 then shS f dx dy st else match blk (st.bs.map (sh f dx dy)) i ((sh f dx dy b).box.go ax (sgn l)) with
        | none => _
        | some k => _) = shS f dx dy (if l = 0 then st else _)
      by_cases h0 : l = 0
      · rw [if_pos h0, if_pos h0]
      · rw [if_neg h0, if_neg h0, sh_blk]
        cases hk : blk st.bs i (b.box.go ax (sgn l)) with
        | none =>
          show S.mk ((st.bs.map (sh f dx dy)).set i _) _ _ = S.mk ((st.bs.set i _).map (sh f dx dy)) _ _
          rw [List.map_set, sh_pos]
          rfl
        | some k =>
          show (match (st.bs.map (sh f dx dy))[k]? with
            | some o => _
            | none => _) = shS f dx dy (match st.bs[k]? with
            | some o => _
            | none => _)
          rw [map_at]
          cases ho : st.bs[k]? with
          | none => rfl
          | some o =>
            show S.mk (meet ax n d (sgn l) i k (sh f dx dy b) (sh f dx dy o) (st.bs.map (sh f dx dy))) _ (st.cs.map (shC f) ++ [⟨ax, sgn l, f b.n, f o.n, jOf ax n d (sgn l) (sh f dx dy b) (sh f dx dy o)⟩]) = S.mk ((meet ax n d (sgn l) i k b o st.bs).map (sh f dx dy)) _ ((st.cs ++ [_]).map (shC f))
            rw [sh_meet, sh_jOf, List.map_append]
            rfl
theorem sh_upto (ax : Bool) (n d : Int) (st : S) : ∀ k, upto ax n d (shS f dx dy st) k = shS f dx dy (upto ax n d st k)
  | 0 => rfl
  | k + 1 => by
    show step ax n d (upto ax n d (shS f dx dy st) k) k = _
    rw [sh_upto ax n d st k, sh_step]
    rfl
theorem sh_round (ax : Bool) (n d : Int) (st : S) : round ax n d (shS f dx dy st) = shS f dx dy (round ax n d st) := by
  unfold round
  rw [show (shS f dx dy st).bs.length = st.bs.length from List.length_map _, sh_upto]
theorem sh_iter (ax : Bool) (n d : Int) : ∀ (k : Nat) (st : S), iter ax n d k (shS f dx dy st) = shS f dx dy (iter ax n d k st)
  | 0, st => rfl
  | k + 1, st => by
    show (if busy st = true then iter ax n d k (round ax n d (shS f dx dy st)) else shS f dx dy st) = shS f dx dy (if busy st = true then iter ax n d k (round ax n d st) else st)
    split
    · rw [sh_round, sh_iter ax n d k]
    · rfl
theorem sh_goM (ax : Bool) (n d : Int) (st : S) : goM ax n d (shS f dx dy st) = shS f dx dy (goM ax n d st) := sh_iter f dx dy ax n d _ st
theorem sh_wish (ax : Bool) (b : B) : wish ax (sh f dx dy b) = wish ax b := by
  unfold wish
  rw [sh_mom, sh_car]
  rfl
theorem sh_carr (ax : Bool) (b : B) : carr ax (sh f dx dy b) = sh f dx dy (carr ax b) := by
  unfold carr
  rw [sh_mom, sh_car, sh_setCar]
  show (if b.m = 0 then _ else _) = _
  split <;> rfl
theorem sh_carrs (ax : Bool) (bs : List B) : (bs.map (sh f dx dy)).map (carr ax) = (bs.map (carr ax)).map (sh f dx dy) := by
  rw [List.map_map, List.map_map]
  congr 1
  funext b
  exact sh_carr f dx dy ax b
theorem sh_wishes (ax : Bool) (bs : List B) : (bs.map (sh f dx dy)).map (wish ax) = bs.map (wish ax) := by
  rw [List.map_map]
  exact List.map_congr_left fun b _ => sh_wish f dx dy ax b
theorem sh_mid (n d : Int) (bs : List B) : midM n d (bs.map (sh f dx dy)) = shS f dx dy (midM n d bs) := by
  unfold midM wishX tick0
  rw [sh_wishes, sh_carrs, sh_carrs]
  exact sh_goM f dx dy false n d ⟨(bs.map (carr false)).map (carr true), bs.map (wish false), []⟩
theorem sh_end (n d : Int) (bs : List B) : endM n d (bs.map (sh f dx dy)) = shS f dx dy (endM n d bs) := by
  unfold endM wishY
  rw [sh_mid, sh_carrs, sh_wishes]
  exact sh_goM f dx dy true n d ⟨(midM n d bs).bs, (bs.map (carr false)).map (wish true), (midM n d bs).cs⟩
end
end K22
/-! K22Inv: what holds of a space between the ticks, and in the middle of one. -/
namespace K22
structure BG (b : B) : Prop where
  w1 : 1 ≤ b.w
  w2 : b.w ≤ 20
  h1 : 1 ≤ b.h
  h2 : b.h ≤ 20
  m0 : 0 ≤ b.m
  m1 : b.m ≤ 100
  fx : b.m = 0 → b.px = 0 ∧ b.py = 0 ∧ b.cx = 0 ∧ b.cy = 0
  cr : 0 < b.m → (0 ≤ b.cx ∧ b.cx < b.m) ∧ 0 ≤ b.cy ∧ b.cy < b.m
def Free (ps : List Bx) : Prop := ∀ (i j : Nat) (p q : Bx), i ≠ j → ps[i]? = some p → ps[j]? = some q → ov p q = false
structure Ok (R : Int) (bs : List B) : Prop where
  len : bs.length ≤ 8
  good : ∀ b ∈ bs, BG b
  near : ∀ b ∈ bs, (-R ≤ b.x ∧ b.x ≤ R) ∧ -R ≤ b.y ∧ b.y ≤ R
  free : Free (bs.map B.box)
def nz (l : List Int) : Nat := (l.map fun v => if v = 0 then 0 else 1).sum
theorem sum_set (g : Int → Nat) : ∀ {l : List Int} {i : Nat} {v w : Int}, l[i]? = some v → ((l.set i w).map g).sum + g v = (l.map g).sum + g w
  | [], i, v, w, h => by simp at h
  | a :: r, 0, v, w, h => by
    have e : a = v := Option.some.inj h
    subst e
    show (g w + (r.map g).sum) + g a = (g a + (r.map g).sum) + g w
    omega
  | a :: r, i + 1, v, w, h => by
    have ih := sum_set g (l := r) (i := i) (w := w) (by simpa using h)
    show (g a + ((r.set i w).map g).sum) + g v = (g a + (r.map g).sum) + g w
    omega
theorem nz_set {l : List Int} {i : Nat} {v w : Int} (h : l[i]? = some v) : nz (l.set i w) + (if v = 0 then 0 else 1) = nz l + (if w = 0 then 0 else 1) := sum_set _ h
theorem nz_le : ∀ l : List Int, nz l ≤ l.length
  | [] => Nat.le_refl _
  | a :: r => by
    have ih := nz_le r
    show (if a = 0 then 0 else 1) + nz r ≤ r.length + 1
    split <;> omega
theorem map_keep {α : Type} {g : B → α} {bs : List B} {i : Nat} {b b' : B} (h : bs[i]? = some b) (e : g b' = g b) : (bs.set i b').map g = bs.map g := by
  rw [List.map_set, e]
  apply List.ext_getElem?
  intro j
  by_cases hj : i = j
  · subst hj
    rw [List.getElem?_set_self (by rw [List.length_map]; exact (List.getElem?_eq_some_iff.mp h).1), List.getElem?_map, h]
    rfl
  · rw [List.getElem?_set_ne hj]
theorem mem_set_of {bs : List B} {i : Nat} {b' : B} {Q : B → Prop} (h : ∀ b ∈ bs, Q b) (h' : Q b') : ∀ b ∈ bs.set i b', Q b := fun b hb => by
  rcases List.mem_or_eq_of_mem_set hb with q | q
  · exact h b q
  · rw [q]
    exact h'
theorem at_mem {bs : List B} {i : Nat} {b : B} (h : bs[i]? = some b) : b ∈ bs := List.mem_of_getElem? h
/-- in the middle of going on an axis: R bounds this axis, Q the other one; ns the names; cap the contacts -/
structure Gv (ax : Bool) (R Q : Int) (ns : List Nm) (cap : Nat) (st : S) : Prop where
  len : st.left.length = st.bs.length
  len8 : st.bs.length ≤ 8
  good : ∀ b ∈ st.bs, BG b
  near : ∀ (i : Nat) (b : B) (l : Int), st.bs[i]? = some b → st.left[i]? = some l → -R ≤ b.pos ax - l.natAbs ∧ b.pos ax + l.natAbs ≤ R
  oth : ∀ b ∈ st.bs, -Q ≤ b.pos (!ax) ∧ b.pos (!ax) ≤ Q
  free : Free (st.bs.map B.box)
  fix : ∀ (i : Nat) (b : B) (l : Int), st.bs[i]? = some b → st.left[i]? = some l → b.m = 0 → l = 0
  names : st.bs.map B.n = ns
  cnames : ∀ c ∈ st.cs, c.a ∈ ns ∧ c.b ∈ ns
  cap : st.cs.length + nz st.left ≤ cap
theorem BG.setPos {b : B} (g : BG b) (ax : Bool) (v : Int) : BG (b.setPos ax v) := by
  cases ax <;> exact ⟨g.w1, g.w2, g.h1, g.h2, g.m0, g.m1, g.fx, g.cr⟩
theorem BG.setMom {b : B} (g : BG b) (ax : Bool) (v : Int) (h : 0 < b.m) : BG (b.setMom ax v) := by
  have h' : ¬ b.m = 0 := by omega
  cases ax <;> exact ⟨g.w1, g.w2, g.h1, g.h2, g.m0, g.m1, fun e => absurd e h', g.cr⟩
theorem setMom_box (b : B) (ax : Bool) (v : Int) : (b.setMom ax v).box = b.box := by cases ax <;> rfl
theorem setMom_n (b : B) (ax : Bool) (v : Int) : (b.setMom ax v).n = b.n := by cases ax <;> rfl
theorem setMom_m (b : B) (ax : Bool) (v : Int) : (b.setMom ax v).m = b.m := by cases ax <;> rfl
theorem setMom_pos (b : B) (ax ay : Bool) (v : Int) : (b.setMom ax v).pos ay = b.pos ay := by cases ax <;> cases ay <;> rfl
theorem setPos_n (b : B) (ax : Bool) (v : Int) : (b.setPos ax v).n = b.n := by cases ax <;> rfl
theorem setPos_m (b : B) (ax : Bool) (v : Int) : (b.setPos ax v).m = b.m := by cases ax <;> rfl
theorem setPos_self (b : B) (ax : Bool) (v : Int) : (b.setPos ax v).pos ax = v := by cases ax <;> rfl
theorem setPos_oth (b : B) (ax : Bool) (v : Int) : (b.setPos ax v).pos (!ax) = b.pos (!ax) := by cases ax <;> rfl
theorem meet_map {α : Type} {g : B → α} (hg : ∀ (b : B) (ax : Bool) (v : Int), g (b.setMom ax v) = g b) {ax : Bool} {n d s : Int} {i k : Nat} {b o : B} {bs : List B} (hb : bs[i]? = some b) (ho : bs[k]? = some o) (hik : k ≠ i) :
    (meet ax n d s i k b o bs).map g = bs.map g := by
  unfold meet
  split
  · rw [map_keep (b := o) (by rw [List.getElem?_set_ne (Ne.symm hik)]; exact ho) (hg _ _ _), map_keep hb (hg _ _ _)]
  · rw [map_keep hb (hg _ _ _)]
theorem meet_at {ax : Bool} {n d s : Int} {i k : Nat} {b o : B} {bs : List B} {j : Nat} {c : B} (hb : bs[i]? = some b) (ho : bs[k]? = some o) (hik : k ≠ i) (hc : (meet ax n d s i k b o bs)[j]? = some c) :
    ∃ c0, bs[j]? = some c0 ∧ (∀ ay, c.pos ay = c0.pos ay) ∧ c.m = c0.m := by
  have h1 : ((meet ax n d s i k b o bs).map fun b => (b.pos false, b.pos true, b.m))[j]? = (bs.map fun b => (b.pos false, b.pos true, b.m))[j]? := by
    rw [meet_map (fun b ax v => by simp only [setMom_pos, setMom_m]) hb ho hik]
  rw [List.getElem?_map, List.getElem?_map, hc] at h1
  cases hj : bs[j]? with
  | none =>
    rw [hj] at h1
    cases h1
  | some c0 =>
    rw [hj] at h1
    have h2 := Option.some.inj h1
    simp only [Prod.mk.injEq] at h2
    exact ⟨c0, rfl, (fun ay => match ay with | false => h2.1 | true => h2.2.1), h2.2.2⟩
theorem free_set {bs : List B} {i : Nat} {b' : B} (h : Free (bs.map B.box)) (hn : ∀ (j : Nat) (o : B), j ≠ i → bs[j]? = some o → ov b'.box o.box = false) : Free ((bs.set i b').map B.box) := by
  intro j k p q hjk hp hq
  rw [List.getElem?_map] at hp hq
  by_cases hj : j = i
  · subst hj
    rw [List.getElem?_set_ne hjk] at hq
    cases ho : bs[k]? with
    | none =>
      rw [ho] at hq
      cases hq
    | some o =>
      rw [ho] at hq
      by_cases hl : j < bs.length
      · rw [List.getElem?_set_self hl] at hp
        rw [← Option.some.inj hp, ← Option.some.inj hq]
        exact hn k o (Ne.symm hjk) ho
      · rw [List.getElem?_eq_none (by rw [List.length_set]; omega)] at hp
        cases hp
  · rw [List.getElem?_set_ne (Ne.symm hj)] at hp
    by_cases hk : k = i
    · subst hk
      cases ho : bs[j]? with
      | none =>
        rw [ho] at hp
        cases hp
      | some o =>
        rw [ho] at hp
        by_cases hl : k < bs.length
        · rw [List.getElem?_set_self hl] at hq
          rw [← Option.some.inj hp, ← Option.some.inj hq, ov_comm]
          exact hn j o hj ho
        · rw [List.getElem?_eq_none (by rw [List.length_set]; omega)] at hq
          cases hq
    · rw [List.getElem?_set_ne (Ne.symm hk)] at hq
      exact h j k p q hjk (by rw [List.getElem?_map]; exact hp) (by rw [List.getElem?_map]; exact hq)
theorem Gv.step {ax : Bool} {n d R Q : Int} {ns : List Nm} {cap : Nat} {st : S} (g : Gv ax R Q ns cap st) (i : Nat) : Gv ax R Q ns cap (step ax n d st i) := by
  rcases step_way ax n d st i with ⟨_, e⟩ | ⟨hb, hl, h0, hk, e⟩ | ⟨hb, hl, h0, hk, ho, e⟩
  · rw [e]
    exact g
  · rename_i b l
    rw [e]
    have gb := g.good b (at_mem hb)
    have hnear := g.near i b l hb hl
    have hs : (l - sgn l).natAbs + 1 = l.natAbs := sgn_less h0
    have hs2 : sgn l = 1 ∨ sgn l = -1 := by
      unfold sgn
      split
      · exact .inl rfl
      · exact .inr rfl
    refine ⟨by show (st.left.set i _).length = (st.bs.set i _).length; rw [List.length_set, List.length_set, g.len], by show (st.bs.set i _).length ≤ 8; rw [List.length_set]; exact g.len8, mem_set_of g.good (gb.setPos ax _), ?_, ?_, ?_, ?_, ?_, g.cnames, ?_⟩
    · intro j c v hc hv
      have hc' : (st.bs.set i (b.setPos ax (b.pos ax + sgn l)))[j]? = some c := hc
      have hv' : (st.left.set i (l - sgn l))[j]? = some v := hv
      by_cases hj : i = j
      · subst hj
        rw [List.getElem?_set_self (List.getElem?_eq_some_iff.mp hb).1] at hc'
        rw [List.getElem?_set_self (List.getElem?_eq_some_iff.mp hl).1] at hv'
        rw [← Option.some.inj hc', ← Option.some.inj hv', setPos_self]
        omega
      · rw [List.getElem?_set_ne hj] at hc' hv'
        exact g.near j c v hc' hv'
    · exact mem_set_of g.oth (by rw [setPos_oth]; exact g.oth b (at_mem hb))
    · refine free_set g.free fun j o hj hoj => ?_
      have hh := blk_none.mp hk j
      rw [hit_eq hoj, go_eq] at hh
      rw [show decide (j ≠ i) = true from decide_eq_true hj, Bool.true_and] at hh
      exact hh
    · intro j c v hc hv hm
      have hc' : (st.bs.set i (b.setPos ax (b.pos ax + sgn l)))[j]? = some c := hc
      have hv' : (st.left.set i (l - sgn l))[j]? = some v := hv
      by_cases hj : i = j
      · subst hj
        rw [List.getElem?_set_self (List.getElem?_eq_some_iff.mp hb).1] at hc'
        rw [← Option.some.inj hc', setPos_m] at hm
        exact absurd (g.fix i b l hb hl hm) h0
      · rw [List.getElem?_set_ne hj] at hc' hv'
        exact g.fix j c v hc' hv' hm
    · show (st.bs.set i _).map B.n = ns
      rw [map_keep hb (setPos_n b ax _)]
      exact g.names
    · have q := nz_set (w := l - sgn l) hl
      rw [if_neg h0] at q
      have c := g.cap
      show st.cs.length + nz (st.left.set i (l - sgn l)) ≤ cap
      split at q <;> omega
  · rename_i b o l k
    rw [e]
    have gb := g.good b (at_mem hb)
    have go := g.good o (at_mem ho)
    have hik : k ≠ i := by
      obtain ⟨_, _, z, _⟩ := hit_at (blk_some.mp hk).1
      exact z
    have hm : 0 < b.m := by
      have := gb.m0
      have : b.m ≠ 0 := fun z => h0 (g.fix i b l hb hl z)
      omega
    refine ⟨by show (st.left.set i _).length = (meet _ _ _ _ _ _ _ _ _).length; rw [List.length_set, meet_len, g.len], by show (meet _ _ _ _ _ _ _ _ _).length ≤ 8; rw [meet_len]; exact g.len8, ?_, ?_, ?_, ?_, ?_, ?_, ?_, ?_⟩
    · show ∀ c ∈ meet ax n d (sgn l) i k b o st.bs, BG c
      unfold meet
      split
      · rename_i hom
        exact mem_set_of (mem_set_of g.good (gb.setMom ax _ hm)) (go.setMom ax _ hom)
      · exact mem_set_of g.good (gb.setMom ax _ hm)
    · intro j c v hc hv
      obtain ⟨c0, hc0, hp, hmm⟩ := meet_at hb ho hik hc
      have hv' : (st.left.set i 0)[j]? = some v := hv
      rw [hp]
      by_cases hj : i = j
      · subst hj
        rw [List.getElem?_set_self (List.getElem?_eq_some_iff.mp hl).1] at hv'
        have hn := g.near i c0 l hc0 hl
        rw [← Option.some.inj hv']
        have : (0 : Int).natAbs = 0 := rfl
        omega
      · rw [List.getElem?_set_ne hj] at hv'
        exact g.near j c0 v hc0 hv'
    · intro c hc
      obtain ⟨j, hj, ej⟩ := List.mem_iff_getElem.mp hc
      obtain ⟨c0, hc0, hp, hmm⟩ := meet_at hb ho hik (by rw [List.getElem?_eq_getElem hj, ej])
      rw [hp]
      exact g.oth c0 (at_mem hc0)
    · show Free ((meet ax n d (sgn l) i k b o st.bs).map B.box)
      rw [meet_map setMom_box hb ho hik]
      exact g.free
    · intro j c v hc hv hcm
      obtain ⟨c0, hc0, hp, hmm⟩ := meet_at hb ho hik hc
      have hv' : (st.left.set i 0)[j]? = some v := hv
      by_cases hj : i = j
      · subst hj
        rw [List.getElem?_set_self (List.getElem?_eq_some_iff.mp hl).1] at hv'
        exact (Option.some.inj hv').symm
      · rw [List.getElem?_set_ne hj] at hv'
        exact g.fix j c0 v hc0 hv' (hmm ▸ hcm)
    · show (meet ax n d (sgn l) i k b o st.bs).map B.n = ns
      rw [meet_map setMom_n hb ho hik]
      exact g.names
    · intro c hc
      rcases List.mem_append.mp (show c ∈ st.cs ++ [_] from hc) with q | q
      · exact g.cnames c q
      · rw [List.mem_singleton.mp q]
        have inn : ∀ {j : Nat} {x : B}, st.bs[j]? = some x → x.n ∈ ns := fun {j x} hx => by
          rw [← g.names]
          exact List.mem_map.mpr ⟨x, at_mem hx, rfl⟩
        exact ⟨inn hb, inn ho⟩
    · have q := nz_set (w := 0) hl
      rw [if_neg h0, if_pos rfl] at q
      have c := g.cap
      show (st.cs ++ [_]).length + nz (st.left.set i 0) ≤ cap
      rw [List.length_append, List.length_singleton]
      omega
theorem Gv.upto {ax : Bool} {n d R Q : Int} {ns : List Nm} {cap : Nat} {st : S} (g : Gv ax R Q ns cap st) : ∀ k, Gv ax R Q ns cap (upto ax n d st k)
  | 0 => g
  | k + 1 => (g.upto k).step k
theorem Gv.round {ax : Bool} {n d R Q : Int} {ns : List Nm} {cap : Nat} {st : S} (g : Gv ax R Q ns cap st) : Gv ax R Q ns cap (round ax n d st) := g.upto _
theorem Gv.iter {ax : Bool} {n d R Q : Int} {ns : List Nm} {cap : Nat} : ∀ (k : Nat) {st : S}, Gv ax R Q ns cap st → Gv ax R Q ns cap (iter ax n d k st)
  | 0, st, g => g
  | k + 1, st, g => by
    show Gv ax R Q ns cap (if busy st = true then K22.iter ax n d k (K22.round ax n d st) else st)
    split
    · exact Gv.iter k g.round
    · exact g
theorem Gv.goM {ax : Bool} {n d R Q : Int} {ns : List Nm} {cap : Nat} {st : S} (g : Gv ax R Q ns cap st) : Gv ax R Q ns cap (goM ax n d st) := g.iter _
/-! ### from tick to tick -/
theorem carr_box (ax : Bool) (b : B) : (carr ax b).box = b.box := by
  unfold carr
  split
  · rfl
  · cases ax <;> rfl
theorem carr_n (ax : Bool) (b : B) : (carr ax b).n = b.n := by
  unfold carr
  split
  · rfl
  · cases ax <;> rfl
theorem carr_m (ax : Bool) (b : B) : (carr ax b).m = b.m := by
  unfold carr
  split
  · rfl
  · cases ax <;> rfl
theorem carr_pos (ax ay : Bool) (b : B) : (carr ax b).pos ay = b.pos ay := by
  unfold carr
  split
  · rfl
  · cases ax <;> cases ay <;> rfl
theorem BG.carr {b : B} (g : BG b) (ax : Bool) : BG (carr ax b) := by
  unfold K22.carr
  split
  · exact g
  · rename_i h
    have hm : 0 < b.m := by have := g.m0; omega
    have e1 : ∀ t : Int, 0 ≤ t - b.m * (t / b.m) ∧ t - b.m * (t / b.m) < b.m := fun t => by
      have h1 := Int.emod_nonneg t h
      have h2 := Int.emod_lt_of_pos t hm
      rw [Int.emod_def] at h1 h2
      exact ⟨h1, h2⟩
    have h' : ¬ b.m = 0 := h
    cases ax
    · exact ⟨g.w1, g.w2, g.h1, g.h2, g.m0, g.m1, fun e => absurd e h', fun _ => ⟨e1 _, (g.cr hm).2⟩⟩
    · exact ⟨g.w1, g.w2, g.h1, g.h2, g.m0, g.m1, fun e => absurd e h', fun _ => ⟨(g.cr hm).1, e1 _⟩⟩
theorem wish_abs (ax : Bool) (b : B) : (wish ax b).natAbs ≤ 64 := by
  unfold wish
  split
  · decide
  · exact lim_abs _
theorem tick0_at {bs : List B} {i : Nat} {b : B} (h : (tick0 bs)[i]? = some b) : ∃ c, bs[i]? = some c ∧ b = carr true (carr false c) := by
  unfold tick0 at h
  rw [List.getElem?_map, List.getElem?_map] at h
  cases hc : bs[i]? with
  | none =>
    rw [hc] at h
    cases h
  | some c =>
    rw [hc] at h
    exact ⟨c, rfl, (Option.some.inj h).symm⟩
theorem Ok.start {R : Int} {bs : List B} (g : Ok R bs) : Gv false (R + 64) R (bs.map B.n) 8 ⟨tick0 bs, wishX bs, []⟩ := by
  have good0 : ∀ b ∈ tick0 bs, BG b := fun b hb => by
    obtain ⟨i, hi, e⟩ := List.mem_iff_getElem.mp hb
    obtain ⟨c, hc, rfl⟩ := tick0_at (i := i) (b := b) (by rw [List.getElem?_eq_getElem hi, e])
    exact ((g.good c (at_mem hc)).carr false).carr true
  have ln : (tick0 bs).length = bs.length := by
    unfold tick0
    rw [List.length_map, List.length_map]
  have lw : (wishX bs).length = bs.length := List.length_map _
  refine ⟨by show (wishX bs).length = (tick0 bs).length; rw [ln, lw], by show (tick0 bs).length ≤ 8; rw [ln]; exact g.len, good0, ?_, ?_, ?_, ?_, ?_, (fun c hc => by cases hc), ?_⟩
  · intro i b l hb hl
    obtain ⟨c, hc, rfl⟩ := tick0_at hb
    have hl' : (wishX bs)[i]? = some l := hl
    unfold wishX at hl'
    rw [List.getElem?_map, hc] at hl'
    have e : wish false c = l := Option.some.inj hl'
    have ha := wish_abs false c
    rw [e] at ha
    obtain ⟨⟨n1, n2⟩, _⟩ := g.near c (at_mem hc)
    rw [carr_pos, carr_pos]
    show -(R + 64) ≤ c.x - _ ∧ c.x + _ ≤ R + 64
    omega
  · intro b hb
    obtain ⟨i, hi, e⟩ := List.mem_iff_getElem.mp hb
    obtain ⟨c, hc, rfl⟩ := tick0_at (i := i) (b := b) (by rw [List.getElem?_eq_getElem hi]; exact congrArg some e)
    obtain ⟨_, n3, n4⟩ := g.near c (at_mem hc)
    rw [carr_pos, carr_pos]
    exact ⟨n3, n4⟩
  · show Free ((tick0 bs).map B.box)
    have e : (tick0 bs).map B.box = bs.map B.box := by
      unfold tick0
      rw [List.map_map, List.map_map]
      exact List.map_congr_left fun b _ => by
        show (carr true (carr false b)).box = b.box
        rw [carr_box, carr_box]
    rw [e]
    exact g.free
  · intro i b l hb hl hm
    obtain ⟨c, hc, rfl⟩ := tick0_at hb
    have hl' : (wishX bs)[i]? = some l := hl
    unfold wishX at hl'
    rw [List.getElem?_map, hc] at hl'
    have e : wish false c = l := Option.some.inj hl'
    rw [carr_m, carr_m] at hm
    rw [← e]
    unfold wish
    rw [if_pos hm]
  · show (tick0 bs).map B.n = bs.map B.n
    unfold tick0
    rw [List.map_map, List.map_map]
    exact List.map_congr_left fun b _ => by
      show (carr true (carr false b)).n = b.n
      rw [carr_n, carr_n]
  · have := nz_le (wishX bs)
    show 0 + nz (wishX bs) ≤ 8
    have := g.len
    omega
/-- the masses stay at their places -/
theorem step_m (ax : Bool) (n d : Int) (st : S) (i : Nat) : (step ax n d st i).bs.map B.m = st.bs.map B.m := by
  rcases step_way ax n d st i with ⟨_, e⟩ | ⟨hb, hl, h0, hk, e⟩ | ⟨hb, hl, h0, hk, ho, e⟩
  · rw [e]
  · rw [e]
    exact map_keep hb (setPos_m _ _ _)
  · rw [e]
    obtain ⟨_, _, z, _⟩ := hit_at (blk_some.mp hk).1
    exact meet_map setMom_m hb ho z
theorem upto_m (ax : Bool) (n d : Int) (st : S) : ∀ k, (upto ax n d st k).bs.map B.m = st.bs.map B.m
  | 0 => rfl
  | k + 1 => (step_m ax n d _ k).trans (upto_m ax n d st k)
theorem iter_m (ax : Bool) (n d : Int) : ∀ (k : Nat) (st : S), (iter ax n d k st).bs.map B.m = st.bs.map B.m
  | 0, st => rfl
  | k + 1, st => by
    show (if busy st = true then iter ax n d k (round ax n d st) else st).bs.map B.m = _
    split
    · exact (iter_m ax n d k _).trans (upto_m ax n d st _)
    · rfl
theorem iter_bslen (ax : Bool) (n d : Int) (k : Nat) (st : S) : (iter ax n d k st).bs.length = st.bs.length := by
  have h := congrArg List.length (iter_m ax n d k st)
  rwa [List.length_map, List.length_map] at h
theorem mid_at {n d : Int} {bs : List B} {i : Nat} {b : B} (h : (midM n d bs).bs[i]? = some b) : ∃ c, bs[i]? = some c ∧ b.m = c.m := by
  have e := iter_m false n d (mu (wishX bs)) ⟨tick0 bs, wishX bs, []⟩
  have e2 := congrArg (fun l : List Int => l[i]?) e
  have e3 : ((midM n d bs).bs.map B.m)[i]? = ((tick0 bs).map B.m)[i]? := e2
  rw [List.getElem?_map, List.getElem?_map, h] at e3
  cases hc : (tick0 bs)[i]? with
  | none =>
    rw [hc] at e3
    cases e3
  | some b0 =>
    rw [hc] at e3
    obtain ⟨c, hc2, rfl⟩ := tick0_at hc
    refine ⟨c, hc2, ?_⟩
    rw [Option.some.inj e3, carr_m, carr_m]
theorem Ok.mid {R : Int} {bs : List B} (g : Ok R bs) (n d : Int) : Gv false (R + 64) R (bs.map B.n) 8 (midM n d bs) := g.start.goM
theorem Ok.turn {R : Int} {bs : List B} (g : Ok R bs) (n d : Int) : Gv true (R + 64) (R + 64) (bs.map B.n) 16 ⟨(midM n d bs).bs, wishY bs, (midM n d bs).cs⟩ := by
  have m := g.mid n d
  have ln : (midM n d bs).bs.length = bs.length := by
    have := congrArg List.length m.names
    rwa [List.length_map, List.length_map] at this
  have lw : (wishY bs).length = bs.length := by
    unfold wishY
    rw [List.length_map, List.length_map]
  have wat : ∀ {i : Nat} {l : Int}, (wishY bs)[i]? = some l → ∃ c, bs[i]? = some c ∧ l = wish true (carr false c) := fun {i l} h => by
    unfold wishY at h
    rw [List.getElem?_map, List.getElem?_map] at h
    cases hc : bs[i]? with
    | none =>
      rw [hc] at h
      cases h
    | some c =>
      rw [hc] at h
      exact ⟨c, rfl, (Option.some.inj h).symm⟩
  refine ⟨by show (wishY bs).length = _; rw [lw, ln], m.len8, m.good, ?_, ?_, m.free, ?_, m.names, m.cnames, ?_⟩
  · intro i b l hb hl
    obtain ⟨c, hc, rfl⟩ := wat hl
    have ha := wish_abs true (carr false c)
    have ho := m.oth b (at_mem hb)
    have ho' : -R ≤ b.pos true ∧ b.pos true ≤ R := ho
    omega
  · intro b hb
    obtain ⟨i, hi, e⟩ := List.mem_iff_getElem.mp hb
    have hi2 : i < (midM n d bs).left.length := by rw [m.len]; exact hi
    have q := m.near i b _ (by rw [List.getElem?_eq_getElem hi]; exact congrArg some e) (List.getElem?_eq_getElem hi2)
    show -(R + 64) ≤ b.pos false ∧ b.pos false ≤ R + 64
    omega
  · intro i b l hb hl hm
    obtain ⟨c, hc, rfl⟩ := wat hl
    obtain ⟨c', hc', e⟩ := mid_at hb
    rw [hc] at hc'
    rw [← Option.some.inj hc'] at e
    unfold wish
    rw [carr_m, if_pos (e ▸ hm)]
  · have h1 := m.cap
    have h2 := nz_le (wishY bs)
    have h3 := g.len
    show (midM n d bs).cs.length + nz (wishY bs) ≤ 16
    omega
theorem Ok.fin {R : Int} {bs : List B} (g : Ok R bs) (n d : Int) : Gv true (R + 64) (R + 64) (bs.map B.n) 16 (endM n d bs) := (g.turn n d).goM
theorem Ok.next {R : Int} {bs : List B} (g : Ok R bs) (n d : Int) : Ok (R + 64) (endM n d bs).bs := by
  have m := g.fin n d
  refine ⟨m.len8, m.good, fun b hb => ?_, m.free⟩
  obtain ⟨i, hi, e⟩ := List.mem_iff_getElem.mp hb
  have hi2 : i < (endM n d bs).left.length := by rw [m.len]; exact hi
  have q := m.near i b _ (by rw [List.getElem?_eq_getElem hi]; exact congrArg some e) (List.getElem?_eq_getElem hi2)
  have o := m.oth b hb
  have o' : -(R + 64) ≤ b.x ∧ b.x ≤ R + 64 := o
  have q' : -(R + 64) ≤ b.y - _ ∧ b.y + _ ≤ R + 64 := q
  refine ⟨o', ?_⟩
  omega
theorem Ok.mono {R R' : Int} {bs : List B} (g : Ok R bs) (h : R ≤ R') : Ok R' bs := ⟨g.len, g.good, fun b hb => by
  obtain ⟨⟨a, b'⟩, c, e⟩ := g.near b hb
  omega, g.free⟩
theorem Ok.shift {R : Int} {bs : List B} (g : Ok R bs) (f : Nm → Nm) {dx dy : Int} (h1 : -10000 ≤ dx ∧ dx ≤ 10000) (h2 : -10000 ≤ dy ∧ dy ≤ 10000) : Ok (R + 10000) (bs.map (sh f dx dy)) := by
  refine ⟨by rw [List.length_map]; exact g.len, fun b hb => ?_, fun b hb => ?_, ?_⟩
  · obtain ⟨c, hc, rfl⟩ := List.mem_map.mp hb
    have q := g.good c hc
    exact ⟨q.w1, q.w2, q.h1, q.h2, q.m0, q.m1, q.fx, q.cr⟩
  · obtain ⟨c, hc, rfl⟩ := List.mem_map.mp hb
    obtain ⟨⟨a, b'⟩, e, e'⟩ := g.near c hc
    show (-(R + 10000) ≤ c.x + dx ∧ c.x + dx ≤ R + 10000) ∧ -(R + 10000) ≤ c.y + dy ∧ c.y + dy ≤ R + 10000
    omega
  · intro i j p q hij hp hq
    rw [List.map_map, List.getElem?_map] at hp hq
    cases hb : bs[i]? with
    | none =>
      rw [hb] at hp
      cases hp
    | some b =>
      cases hc : bs[j]? with
      | none =>
        rw [hc] at hq
        cases hq
      | some c =>
        rw [hb] at hp
        rw [hc] at hq
        rw [← Option.some.inj hp, ← Option.some.inj hq]
        show ov (sh f dx dy b).box (sh f dx dy c).box = false
        rw [sh_ov]
        exact g.free i j _ _ hij (by rw [List.getElem?_map, hb]; rfl) (by rw [List.getElem?_map, hc]; rfl)
end K22
/-! K22Enum: for i, x in enumerate(t), t a tuple; comprehensions whose turns only lay new things. -/
namespace K22
open PySem PySem.Spec PyProof.Rows L2
/-! ### enumerate(tuple): the call -/
set_option maxHeartbeats 1000000 in
theorem enum_new1 {v : Value} {o : Obj} {G : Heap → Prop} (Bg : Begins v o G) :
    Meets (Builtin.«enumerate.__new__» ⟨[.type "enumerate", v], []⟩) (fun _ R s => G s.heap ∧ R (.ok (.ret (.ref (s.heap.push o).objs.size)))
      { s with heap := (s.heap.push o).push { cls := .type "enumerate", data := .fields #[.none, .bool false, .ref s.heap.objs.size, rawInt 0, .none, .none] } }) :=
  .of_wp fun prog w A R s h0 => by
    obtain ⟨hp, gs, dr, tk, os⟩ := s
    obtain ⟨hG, h⟩ := h0
    have hsub := sub_enumerate
    have first : ∀ {A' : Around} {E : Value → Shared → Prop} {Q : Value → Shared → Prop}, Q (.ref hp.objs.size) ⟨hp.push o, gs, dr, tk, os⟩ → wpAny (model prog w) A' (pyIter v) Q E ⟨hp, gs, dr, tk, os⟩ :=
      fun q => Bg.iter prog w _ _ ⟨hp, gs, dr, tk, os⟩ _ hG q
    wp_walk using first
    refine wpAny_stack_any fun st => wpAny_pure ?_
    split
    · rename_i c _ _ _ _ _
      cases (c == Value.type "enumerate") <;> (wp_walk using first; exact ⟨_, rfl, h⟩)
    · wp_walk using first
      exact ⟨_, rfl, h⟩
theorem enum_call1 {prog : Program} {w : World} {A : Around} {E : Value → Shared → Prop} {s : Shared} {v : Value} {o : Obj} {G : Heap → Prop} {Q : Value → Shared → Prop} (Bg : Begins v o G) (hG : G s.heap)
    (h : ∀ h', IsEnum h' (s.heap.objs.size + 1) s.heap.objs.size 0 .none → h'.get? s.heap.objs.size = some o → (∀ b u, s.heap.get? b = some u → h'.get? b = some u) → Q (.ref (s.heap.objs.size + 1)) { s with heap := h' }) :
    wpAny (model prog w) A (call (.type "enumerate") [v]) Q E s := by
  refine callType_new F.called_enumerate (by decide) (F.typeCall_enumerate_1 _) (F.newCall_enumerate_1 _) (fun ob => F.args_object_init_2 ob _) F.entry_enumerate_new (enum_new1 Bg) ⟨hG, ?_⟩
  have z : (s.heap.push o).objs.size = s.heap.objs.size + 1 := Heap.size_push ..
  show _ ∧ _
  rw [z]
  have e := Heap.get?_push_size (s.heap.push o) (o := { cls := .type "enumerate", data := .fields #[.none, .bool false, .ref s.heap.objs.size, rawInt 0, .none, .none] }) rfl
  rw [z] at e
  exact ⟨⟨_, e, rfl⟩, h _ e (Heap.get?_push_of_some _ (Heap.get?_push_size _ Bg.free)) fun b u x => Heap.get?_push_of_some _ (Heap.get?_push_of_some _ x)⟩
/-! ### the walk -/
def ItT (K : PySem.W.Frag) (a : Addr) : It :=
  ⟨fun i H => ∃ (xs : List V) (x : V), SqT K H a xs ∧ xs[i]? = some x,
   fun i H v H' => ∃ (c : Addr) (x : V), v = .ref c ∧ H c = Option.none ∧ H' = upd H c (.tup [.int (i : Nat), x]) ∧ ∀ xs, SqT K H a xs → xs[i]? = some x,
   fun i H => ∃ xs : List V, SqT K H a xs ∧ xs.length ≤ i⟩
theorem iter_ne {h : Heap} {a b : Addr} {i : Nat} {items : Array Value} (p : h.IsTuple a items) (q : h.IsTupleIter b a i) : a ≠ b := fun e => by
  obtain ⟨o, h1, h2, _⟩ := p
  obtain ⟨o', h3, h4, _⟩ := q
  rw [← e, h1] at h3
  cases h3
  rw [h2] at h4
  exact absurd (Value.type.inj h4) (by decide)
theorem turn_T {P : Program} {w : World} {K : PySem.W.Frag} {elts : List Expr} {kk : Nat} {tpos : Pos} (a e it : Addr) :
    Turn P w K (.Tuple elts kk tpos) (ItT K a) [e, it] e (fun i h => (∃ old, IsEnum h e it ((i : Nat) : Int) old) ∧ h.IsTupleIter it a i ∧ e ≠ it) where
  mem := List.mem_cons_self ..
  obj := fun i h st b hb => by
    obtain ⟨⟨old, he⟩, ⟨o, ho, hc, hd⟩, _⟩ := st
    rcases List.mem_cons.mp hb with z | hb
    · rw [z]
      exact ⟨_, he, fun v q => nomatch q⟩
    · rw [List.mem_singleton.mp hb]
      exact ⟨o, ho, fun v q => by
        rw [hd] at q
        cases q⟩
  keep := fun i h h' st k => by
    obtain ⟨⟨old, he⟩, hi, hne⟩ := st
    exact ⟨⟨old, k e (by simp) _ he⟩, hi.at fun o q => k it (by simp) o q, hne⟩
  item := by
    intro X hP hw hK hc i pins s σ H E I hf st hg
    subst hP hw hK
    obtain ⟨⟨old, he⟩, hit, hne⟩ := st
    obtain ⟨xs, x, hq, hx⟩ := hg
    obtain ⟨its, rv, p, hz⟩ := I.tuple hq
    obtain ⟨u, hu, ru⟩ := rv.get hx
    have pT : s.heap.IsTuple a its.toArray := p
    have hai := iter_ne pT hit
    have hel : e < s.heap.objs.size := Heap.lt_size he
    have hil : it < s.heap.objs.size := by
      obtain ⟨_, q, _⟩ := hit
      exact Heap.lt_size q
    have hae : e ∉ [it, a] := fun z => by
      rcases List.mem_cons.mp z with z | z
      · exact hne z
      · have z' := List.mem_singleton.mp z
        obtain ⟨o, h1, h2, _⟩ := pT
        rw [← z', he] at h1
        rw [← Option.some.inj h1] at h2
        exact absurd (Value.type.inj h2) (by decide)
    have D := Draws.tuple (prog := X.prog) (w := X.w) (A := X.A.in1) (I.ok.hd hc) it a hai its.toArray
    refine wpAny_pyNext_enum_itemD D he ⟨hit, pT⟩ (by rw [List.size_toArray]; exact (List.getElem?_eq_some_iff.mp hu).1) hne hae fun y h' tk hy ho st' hT hsz hk => ?_
    have ey : y = u := by
      have q : its.toArray[i]? = some u := by simpa using hu
      exact Option.some.inj (hy.symm.trans q)
    subst ey
    refine ⟨_, rfl, wpAny_letOwnedTupleGo_enum (s := { s with heap := h', toks := tk + 1 }) ho fun h2 he2 sb => ?_⟩
    have hT2 : h2.get? s.heap.objs.size = some { cls := .type "tuple", data := .seq #[.int i tk, y] } := (sb.2 _ (Nat.ne_of_gt hel)).trans hT
    have new : ObjOk X.prog X.w (upd H s.heap.objs.size (.tup [.int (i : Nat), x])) h2 s.heap.objs.size (.tup [.int (i : Nat), x]) :=
      ⟨(by decide : 2 ≤ sizeLine), [.int i tk, y], .cons ⟨_, rfl⟩ (.cons ru .nil), ⟨_, hT2, rfl, _, rfl⟩⟩
    have I1 : Inv X pins σ (upd H s.heap.objs.size (.tup [.int (i : Nat), x])) { s with heap := h2, toks := tk + 1 } := by
      refine I.turnedNew (ch := [e, it]) (fun b ob hb q => ?_) hf (Nat.le_refl _) new
      have hbe : b ≠ e := fun z => hb (by simp [z])
      have hbi : b ≠ it := fun z => hb (by simp [z])
      exact (sb.2 b hbe).trans (hk b ob hbe hbi q)
    refine ⟨.ref s.heap.objs.size, _, I1, rfl, ⟨_, x, rfl, I.hok.fresh (Nat.le_refl _), rfl, fun ys hy => by rw [I.tuple_inj hy hq]; exact hx⟩, ⟨⟨y, ?_⟩, st'.1.at fun o q => (sb.2 it (Ne.symm hne)).trans q, hne⟩, fun b hb => ?_⟩
    · rw [show ((i + 1 : Nat) : Int) = (i : Int) + 1 from by omega]
      exact he2
    · have hb' : b < s.heap.objs.size := by
        rcases List.mem_cons.mp hb with z | z
        · rw [z]
          exact hel
        · rw [List.mem_singleton.mp z]
          exact hil
      rw [upd_ne (Nat.ne_of_lt hb')]
      exact (hf b hb).1
  done := by
    intro X hP hw hK hc i pins s σ H E I hf st hg
    subst hP hw hK
    obtain ⟨⟨old, he⟩, hit, hne⟩ := st
    obtain ⟨xs, hq, hx⟩ := hg
    obtain ⟨its, rv, p, hz⟩ := I.tuple hq
    have pT : s.heap.IsTuple a its.toArray := p
    obtain ⟨f0, f1, f2, f3, f4, f5⟩ := hf it (by simp)
    have hl := rv.length
    have D : ∀ (s : Shared) (Q : Value → Shared → Prop) (E : Value → Shared → Prop), s.heap.IsTupleIter it a i ∧ s.heap.IsTuple a its.toArray →
        (∀ h' e, Heap.ExtBut it s.heap h' → (∃ o, h'.get? e = some o ∧ o.cls = .type "StopIteration") → E (.ref e) { s with heap := h' }) → wpAny (model X.prog X.w) X.A.in1 (Builtin.SmallTypes.nextOf (.ref it)) Q E s :=
      fun s Q E st h => wpAny_nextOf_tuple_end (A := X.A.in1) (I.ok.hd hc) st.1 st.2 (by simp; omega) h
    have hT : s.TypeIs (.ref e) "enumerate" := ⟨_, he, rfl⟩
    unfold pyNext
    refine wpAny_bind (wpAny_attempt (wpAny_callSpecial?_slot (name := Str.ofString "__next__") hT F.slot_enumerate_next (wpAny_call_entry F.slot_enumerate_next hT F.entry_enumerate_next ?_ (F.args_enumerate_next_1 _))))
    show wpAny _ _ (field (.ref e) 2 >>= _) _ _ _
    refine wpAny_bind (wpAny_field he rfl (x := .ref it) rfl ?_)
    refine wpAny_bind (D _ _ _ ⟨hit, pT⟩ fun h' x he' hx' => ?_)
    obtain ⟨o, ho, hc'⟩ := hx'
    refine wpAny_bind (wpAny_isInstance (T := "StopIteration") (b := true) ⟨o, ho, hc'⟩ isSubtype_stop ?_)
    exact wpAny_pure ⟨rfl, I.turned (t' := s.toks) (fun b o hb e => he' b o hb e) f0 f1 f3 f4 f5⟩
  self := fun A i s Q E st h => by
    obtain ⟨⟨_, he⟩, _⟩ := st
    exact wpAny_pyIter_enum he h
def iEnumT (K : PySem.W.Frag) (ta : TA) : TI := fun σ H R => ta σ H fun vs H1 => ∃ a xs, vs = [.ref a] ∧ SqT K H1 a xs ∧ R (ItT K a) H1
theorem pi_enumT {X : Cx} {e : Expr} {ta : TA} {p pos tpos : Pos} {elts : List Expr} {kk : Nat} (hg : Gl X "enumerate") (hm : X.mg "enumerate" = Option.none) (ha : PA X [e] ta)
    (hs : starEach [e] X.env = [(false, eval e X.env)] := by rfl) : PI X (.Tuple elts kk tpos) (.Call (.Name "enumerate" p) [e] [] pos) (iEnumT X.K ta) := by
  refine ⟨fun pins s σ H R I h => Call_ (ld_blt I hg hm boot_enumerate (PyProof.Rows.callWith_type1 (thn (ha.run pos pins s σ H _ I h) fun us s1 hq => ?_) hs rfl))⟩
  obtain ⟨vs, H1, I1, r1, a, xs, rfl, hq, q⟩ := hq
  obtain ⟨u, rfl, ru⟩ := vals1 r1
  cases ru
  obtain ⟨its, rv, p', hz⟩ := I1.tuple hq
  refine enum_call1 (begins_tuple a its.toArray) p' fun h' he hit hk => wpAny_pyIter_enum he ?_
  have I2 : Inv X pins σ H1 { s1 with heap := h' } := I1.kept (t' := s1.toks) hk
  refine ⟨s1.heap.objs.size + 1, [s1.heap.objs.size + 1, s1.heap.objs.size], _, _, H1, rfl, I2, turn_T a (s1.heap.objs.size + 1) s1.heap.objs.size, ⟨⟨.none, he⟩, ⟨_, hit, rfl, rfl⟩, Nat.succ_ne_self _⟩, fun b hb => ?_, q⟩
  have hle : s1.heap.objs.size ≤ b := by
    rcases List.mem_cons.mp hb with z | z
    · rw [z]
      exact Nat.le_add_right _ _
    · rw [List.mem_singleton.mp z]
      exact Nat.le_refl _
  exact I1.fpOk hle (I1.hok.fresh hle)
theorem walk_T {K : PySem.W.Frag} {a : Addr} {xs : List V} : Walk (ItT K a) xs.length (fun H => SqT K H a xs) (YPair (fun i => some (.int (i : Nat))) (fun i => xs[i]?)) := by
  refine ⟨fun i _ hi q => ⟨xs, xs[i], q, by simp [hi]⟩, fun _ q => ⟨xs, q, Nat.le_refl _⟩, fun i H v H' _ q y => ?_⟩
  obtain ⟨c, x, h1, h2, h3, h4⟩ := y
  exact ⟨c, .int (i : Nat), x, h1, h2, h3, rfl, h4 xs q⟩
end K22
/-! K22Tools: comprehensions whose turns only lay new things. -/
namespace K22
open PySem PySem.Spec PyProof.Rows L2
theorem same_new {H : Hp} {p : Addr} {o : HO} (h : H p = Option.none) : Same H (upd H p o) := fun b x e => by
  rw [upd_ne (ne_of_none e h)]
  exact e
theorem same_mut {H H' : Hp} {p : Addr} {o : HO} (s : Same H H') (h : H p = Option.none) : Same H (upd H' p o) := fun b x e => by
  rw [upd_ne (ne_of_none e h)]
  exact s b x e
/-- what is walked: n turns, the i-th thing as r says, nothing new on the heap -/
def Pure (H : Hp) (J : It) (n : Nat) (r : Nat → V → Prop) : Prop :=
  ∃ (G : Hp → Prop) (Y : Nat → Hp → V → Hp → Prop), Walk J n G Y ∧ (∀ H', Same H H' → G H') ∧ ∀ i H1 x H', i < n → Y i H1 x H' → H' = H1 ∧ r i x
theorem pure_tup {K : PySem.W.Frag} {H : Hp} {a : Addr} {xs : List V} (h : H a = some (.tup xs)) : Pure H (Itt K a) xs.length (fun i x => xs[i]? = some x) :=
  ⟨_, _, walk_tup, fun H' s => .of (s _ _ h), fun _ _ _ _ _ y => y⟩
theorem pure_lst {K : PySem.W.Frag} {H : Hp} {a : Addr} {xs : List V} (h : H a = some (.lst xs)) : Pure H (Itl K a) xs.length (fun i x => xs[i]? = some x) :=
  ⟨_, _, walk_list, fun H' s => .of (s _ _ h), fun _ _ _ _ _ y => y⟩
theorem pure_range {H : Hp} {lo : Int} {n : Nat} : Pure H (Itr lo n) n (fun i x => x = .int (lo + i)) :=
  ⟨_, _, walk_range, fun _ _ => trivial, fun _ _ _ _ _ y => y⟩
theorem pure_str {H : Hp} {z : Str} : Pure H (Its z) z.cps.size (fun i x => ∃ c, z.cps[i]? = some c ∧ x = .str ⟨#[c]⟩) :=
  ⟨_, _, walk_str, fun _ _ => trivial, fun _ _ _ _ _ y => y⟩
/-- [e for x in ..]: e gives f i at turn i, and only lays new things; Z tells what the iterable's making has laid -/
theorem lc_pure {wi : TI} {n : Nat} {r : Nat → V → Prop} (f : Nat → V) {j : Nat} {te : TE} {vs : List Nat} {σ : L2.St} {H : Hp} {Q : VK}
    (hwi : ∀ R : It → Hp → Prop, (∀ J H1, Same H H1 → Pure H1 J n r → R J H1) → wi σ H R) (hn : n < sizeLine) (hw : ∀ x, wipe ((wipe σ vs).set j (some x)) vs = wipe σ vs)
    (turn : ∀ i x H1 (Q' : VK), i < n → r i x → Same H H1 → (∀ H', Same H1 H' → Q' (f i) H') → te ((wipe σ vs).set j (some x)) H1 Q')
    (done : ∀ D H', H D = Option.none → Same H H' → H' D = some (.lst ((List.range n).map f)) → Q (.ref D) H') : tLc wi (gName j) tYes te vs σ H Q := by
  refine hwi _ fun J H1 s1 ⟨G, Y, wk, hG, hy⟩ D hD => ?_
  have hD0 : H D = Option.none := s1.free hD
  refine lc_it wk (fun i H' => Same H1 H' ∧ H' D = some (.lst ((List.range i).map f))) ⟨same_new hD, upd_same⟩ (fun i H' _ p => hG H' p.1) (fun i x H2 H' hi p y => ?_) fun H' p => done D H' hD0 (s1.trans p.1) p.2
  obtain ⟨rfl, hr⟩ := hy i H2 x H' hi y
  refine ⟨hw x, ?_⟩
  unfold tYes
  dsimp only
  rw [if_pos rfl]
  refine turn i x H' _ hi hr (s1.trans p.1) fun H3 s3 => ⟨_, s3 _ _ p.2, ?_, same_mut (p.1.trans s3) hD, ?_⟩
  · rw [List.length_map, List.length_range]
    exact Nat.lt_trans hi hn
  · rw [upd_same, List.range_succ, List.map_append]
    rfl
/-- [e for .. in ..]: e gives a new object o i at turn i -/
theorem lc_new {wi : TI} {n : Nat} {r : Nat → V → Prop} (o : Nat → HO) {g : TG} {te : TE} {vs : List Nat} {σ : L2.St} {H : Hp} {Q : VK}
    (hwi : ∀ R : It → Hp → Prop, (∀ J H1, Same H H1 → Pure H1 J n r → R J H1) → wi σ H R) (hn : n < sizeLine)
    (turn : ∀ i x H1 (Kt : L2.St → Hp → Prop), i < n → r i x → Same H H1 → (∀ σ2, wipe σ2 vs = wipe σ vs → (∀ R : VK, (∀ H' t, Same H1 H' → H1 t = Option.none → H' t = some (o i) → R (.ref t) H') → te σ2 H1 R) → Kt σ2 H1) → g x (wipe σ vs) H1 Kt)
    (done : ∀ D H' (as : List Addr), H D = Option.none → Same H H' → as.length = n → as.Nodup → (∀ x ∈ as, H x = Option.none) → D ∉ as → H' D = some (.lst (as.map V.ref)) → (∀ i a, as[i]? = some a → H' a = some (o i)) → Q (.ref D) H') : tLc wi g tYes te vs σ H Q := by
  refine hwi _ fun J H1 s1 ⟨G, Y, wk, hG, hy⟩ D hD => ?_
  have hD0 : H D = Option.none := s1.free hD
  refine lc_it wk (fun i H' => Same H1 H' ∧ ∃ as : List Addr, as.length = i ∧ as.Nodup ∧ (∀ x ∈ as, H x = Option.none ∧ x ≠ D) ∧ H' D = some (.lst (as.map V.ref)) ∧ ∀ j a, as[j]? = some a → H' a = some (o j))
    ⟨same_new hD, [], rfl, List.nodup_nil, (fun x hx => by cases hx), upd_same, fun j a h => by simp at h⟩ (fun i H' _ p => hG H' p.1) (fun i x H2 H' hi p y => ?_) fun H' p => ?_
  · obtain ⟨rfl, hr⟩ := hy i H2 x H' hi y
    obtain ⟨s2, as, hl, hnd, hfree, hDL, hat⟩ := p
    refine turn i x H' _ hi hr (s1.trans s2) fun σ2 hw hte => ⟨hw, ?_⟩
    unfold tYes
    dsimp only
    rw [if_pos rfl]
    refine hte _ fun H3 t s3 nt ht => ⟨_, s3 _ _ hDL, ?_, same_mut (s2.trans s3) hD, as ++ [t], ?_, ?_, ?_, ?_, ?_⟩
    · rw [List.length_map, hl]
      exact Nat.lt_trans hi hn
    · rw [List.length_append, hl]
      rfl
    · refine List.nodup_append.mpr ⟨hnd, by simp, fun a ha b hb => ?_⟩
      rw [List.mem_singleton.mp hb]
      intro e
      obtain ⟨j, hj, ej⟩ := List.mem_iff_getElem.mp ha
      have q := hat j a (by rw [List.getElem?_eq_getElem hj, ej])
      rw [e, nt] at q
      cases q
    · intro x hx
      rcases List.mem_append.mp hx with q | q
      · exact hfree x q
      · rw [List.mem_singleton.mp q]
        exact ⟨(s1.trans s2).free nt, fun e => by
          rw [e, hDL] at nt
          cases nt⟩
    · rw [upd_same, List.map_append]
      rfl
    · intro j a hj
      have hne : a ≠ D := by
        by_cases hjl : j < as.length
        · rw [List.getElem?_append_left hjl] at hj
          exact (hfree a (List.mem_of_getElem? hj)).2
        · have ea : a ∈ [t] := by
            rw [List.getElem?_append_right (by omega)] at hj
            exact List.mem_of_getElem? hj
          rw [List.mem_singleton.mp ea]
          intro e
          rw [e, hDL] at nt
          cases nt
      rw [upd_ne hne]
      by_cases hjl : j < as.length
      · rw [List.getElem?_append_left hjl] at hj
        exact s3 _ _ (hat j a hj)
      · rw [List.getElem?_append_right (by omega)] at hj
        have ej : j - as.length = 0 := by
          have := (List.getElem?_eq_some_iff.mp hj).1
          simp at this
          omega
        rw [ej] at hj
        have ea : t = a := Option.some.inj hj
        rw [← ea, ht, show j = i by omega]
  · obtain ⟨s2, as, hl, hnd, hfree, hDL, hat⟩ := p
    exact done D H' as hD0 (s1.trans s2) hl hnd (fun x hx => (hfree x hx).1) (fun hm => (hfree D hm).2 rfl) hDL hat
/-! ### rules at a given written part (within a comprehension) -/
def rListOf (K : PySem.W.Frag) : List V → Hp → VK → Prop := fun xs H Q => ∃ (p : Addr) (ys : List V), xs = [.ref p] ∧ (SqL K H p ys ∨ SqT K H p ys) ∧ ∀ l, H l = Option.none → Q (.ref l) (upd H l (.lst ys))
def rTupOf (K : PySem.W.Frag) : List V → Hp → VK → Prop := fun xs H Q => ∃ (p : Addr) (ys : List V), xs = [.ref p] ∧ ((SqL K H p ys ∧ ∀ l, H l = Option.none → Q (.ref l) (upd H l (.tup ys))) ∨ (SqT K H p ys ∧ Q (.ref p) H))
theorem callK_list (K : PySem.W.Frag) {X : Cx} (h : X.K = K := by rfl) : CallR X (.type "list") (rListOf K) := by
  subst h
  exact call_list_of
theorem callK_tup (K : PySem.W.Frag) {X : Cx} (h : X.K = K := by rfl) : CallR X (.type "tuple") (rTupOf K) := by
  subst h
  exact call_tuple_of
theorem ixK_tup (K : PySem.W.Frag) {X : Cx} (h : X.K = K := by rfl) : IxR X (rIxT K) := by
  subst h
  exact ix_tup
theorem ixK_list (K : PySem.W.Frag) {X : Cx} (h : X.K = K := by rfl) : IxR X (rIxL K) := by
  subst h
  exact ix_list
theorem ixK_seq (K : PySem.W.Frag) {X : Cx} (h : X.K = K := by rfl) : IxR X (rIx K) := by
  subst h
  exact ix_seq
theorem slK_tup (K : PySem.W.Frag) {X : Cx} (h : X.K = K := by rfl) : SlR X (rSlT K) := by
  subst h
  exact sl_tup
theorem opK_cat (K : PySem.W.Frag) {X : Cx} (h : X.K = K := by rfl) : OpR X (binaryOp .Add) (rCatT K) := by
  subst h
  exact op_catT
theorem map_bl (g : Nat → Bool) (n : Nat) : (List.range n).map (fun i => V.bl (g i)) = ((List.range n).map g).map V.bl := by
  rw [List.map_map]
  rfl
theorem all_true (n : Nat) : ((List.range n).map fun _ => true).all id = true := by
  rw [List.all_map, List.all_eq_true]
  intro _ _
  rfl
theorem any_false (n : Nat) : ((List.range n).map fun _ => false).any id = false := by
  rw [List.any_map, List.any_eq_false]
  intro _ _
  simp
end K22
/-! K22Base: what the top leaves, at hand; promises of defs; values of boxes and bodies. -/
namespace K22
open PySem PySem.Spec PyProof.Rows L2
structure Txt (K : PySem.W.Frag) (mg : Str → Option Value) : Prop where
  says : He.SaysD fas fns K
  gcd : mg "gcd" = some (.builtin "math.gcd")
  at_ : ∃ h : Heap, K.In h ∧ h.Ns mainGlobals mg
section
variable {P : Program} {w : World} {K : PySem.W.Frag} {mg : Str → Option Value} {base : Heap}
theorem Txt.glo (T : Txt K mg) {x : Str} (i : Nat) (h : fas[i]? = some (.glo x) := by rfl) : mg x = some (.ref (He.ga K x)) := by
  obtain ⟨_, X, G⟩ := T.at_
  exact He.glo_ok X G (T.says.fact i h)
theorem Txt.free (T : Txt K mg) {x : Str} (i : Nat) (h : fas[i]? = some (.free x) := by rfl) : mg x = none := by
  obtain ⟨_, X, G⟩ := T.at_
  exact He.free_ok X G (T.says.fact i h)
theorem Txt.int (T : Txt K mg) {x : Str} {z : Int} (i : Nat) (h : fas[i]? = some (.int x z) := by rfl) : ∃ u, mg x = some u ∧ RelV (.int z) u := by
  obtain ⟨_, X, G⟩ := T.at_
  obtain ⟨t, e⟩ := He.int_ok X G (T.says.fact i h)
  exact ⟨_, e, t, rfl⟩
theorem Txt.str (T : Txt K mg) {x z : Str} (i : Nat) (h : fas[i]? = some (.str x z) := by rfl) : ∃ u, mg x = some u ∧ RelV (.str z) u := by
  obtain ⟨_, X, G⟩ := T.at_
  obtain ⟨t, e⟩ := He.str_ok X G (T.says.fact i h)
  exact ⟨_, e, t, rfl⟩
/-- a def of the module keeps its promise -/
theorem Txt.cal (T : Txt K mg) {x : Str} {st : Stmt} {ps N : List Str} {k : Nat} {sp : Sp} (i j : Nat) (hd : fns[i]? = some (dg x st)) (hg : fas[j]? = some (.glo x)) (S : FnScope N ps (defScope st))
    (hb : ∀ (kV doc pm : Value) (an : Option Addr) (cdv ct : Value) (us : List Value), us.length = ps.length → bindArgs (PySem.W.fnOf x x (defArgs st) (defBody st) (defScope st) .none kV doc pm an cdv ct) ⟨us, []⟩ = pure (ps.zip us))
    (len : ∀ vs H Q E, sp vs H Q E → vs.length = ps.length)
    (body : ∀ (f : Addr) (cdv : Value) (A : Around) (outer : List Env) (s : Shared) (H : Hp) (vs : List V) (Q : VK) (E : XK), Room k (A.deeper (envOfC x (defScope st) s.heap.objs.size f cdv)) → sp vs H Q E →
      ∃ t, PSs (cxOf C8.CX0 P w K mg base N x (defScope st) f cdv A outer s H E).nox (defBody st) t ∧ t { nx := fun _ H' => Q .non H', rt := Q } (start N vs) H) :
    C8.Cal P w K mg base (k + 1) x sp [] := by
  obtain ⟨fd, F⟩ := T.says.def_ i hd
  refine ⟨_, fd, ps, [], FunD.ok (CX := C8.CX0) F S len fun cdv A outer s H vs Q E hr h => ?_, T.glo j hg, F.kp, FunD.bindsN F hb, .nil⟩
  obtain ⟨t, h1, h2⟩ := body _ cdv A outer s H vs Q E hr h
  exact ⟨t, h1.nox, h2⟩
/-- a method of Moving keeps its promise -/
theorem Txt.met (T : Txt K mg) {m q : Str} {st : Stmt} {ps N : List Str} {k : Nat} {sp : Sp} (i j : Nat) (hd : fns[i]? = some (dm m q st)) (hg : fas[j]? = some (.meth "Moving" m)) (S : FnScope N ps (defScope st))
    (hb : ∀ (kV doc pm : Value) (an : Option Addr) (cdv ct : Value) (us : List Value), us.length = ps.length → bindArgs (PySem.W.fnOf m q (defArgs st) (defBody st) (defScope st) .none kV doc pm an cdv ct) ⟨us, []⟩ = pure (ps.zip us))
    (len : ∀ vs H Q E, sp vs H Q E → vs.length = ps.length)
    (body : ∀ (f : Addr) (cdv : Value) (A : Around) (outer : List Env) (s : Shared) (H : Hp) (vs : List V) (Q : VK) (E : XK), Room k (A.deeper (envOfC q (defScope st) s.heap.objs.size f cdv)) → sp vs H Q E →
      ∃ t, PSs (cxOf C8.CX0 P w K mg base N q (defScope st) f cdv A outer s H E).nox (defBody st) t ∧ t { nx := fun _ H' => Q .non H', rt := Q } (start N vs) H) :
    C8.Met P w K mg base (k + 1) (He.ga K "Moving") m sp [] := by
  obtain ⟨fd, F⟩ := T.says.def_ i hd
  refine ⟨_, fd, ps, [], He.cls_ok (T.says.fact 16), He.meth_ok (T.says.fact j hg), FunD.ok (CX := C8.CX0) F S len fun cdv A outer s H vs Q E hr h => ?_, FunD.bindsN F hb, .nil⟩
  obtain ⟨t, h1, h2⟩ := body _ cdv A outer s H vs Q E hr h
  exact ⟨t, h1.nox, h2⟩
end
/-! ### values -/
def vBx (p : Bx) : List V := [.int p.x0, .int p.y0, .int p.x1, .int p.y1]
def vB (b : B) : List V := [.str b.n, .int b.x, .int b.y, .int b.w, .int b.h, .int b.m, .int b.px, .int b.py, .int b.cx, .int b.cy]
def vC (c : C) : List V := [.str (if c.ax then "y" else "x"), .int c.s, .str c.a, .str c.b, .int c.j]
def axN : Bool → Nat
  | false => 0
  | true => 1
theorem axN_axI (ax : Bool) : ((axN ax : Nat) : Int) = axI ax := by cases ax <;> rfl
theorem vB_len (b : B) : (vB b).length = 10 := rfl
theorem vB_mom (b : B) (ax : Bool) : (vB b)[6 + axN ax]? = some (.int (b.mom ax)) := by cases ax <;> rfl
theorem vB_car (b : B) (ax : Bool) : (vB b)[8 + axN ax]? = some (.int (b.car ax)) := by cases ax <;> rfl
theorem vB_pos (b : B) (ax : Bool) : (vB b)[1 + axN ax]? = some (.int (b.pos ax)) := by cases ax <;> rfl
theorem vB_setMom (b : B) (ax : Bool) (v : Int) : (vB b).set (6 + axN ax) (.int v) = vB (b.setMom ax v) := by cases ax <;> rfl
theorem vB_setCar (b : B) (ax : Bool) (v : Int) : (vB b).set (8 + axN ax) (.int v) = vB (b.setCar ax v) := by cases ax <;> rfl
theorem vB_setPos (b : B) (ax : Bool) (v : Int) : (vB b).set (1 + axN ax) (.int v) = vB (b.setPos ax v) := by cases ax <;> rfl
theorem same_upd {H : Hp} {p : Addr} {o : HO} (h : H p = none) : Same H (upd H p o) := fun b x e => by
  rw [upd_ne (ne_of_none e h)]
  exact e
end K22
set_option maxHeartbeats 4000000
/-! K22W1: the small defs on numbers and boxes. -/
namespace K22
open PySem PySem.Spec PyProof.Rows L2
section
variable {P : Program} {w : World} {K : PySem.W.Frag} {mg : Str → Option Value} {base : Heap}
/-! ### is_whole, is_between, is_coordinate -/
theorem sc_is_whole : FnScope ["value"] ["value"] (defScope s_is_whole) := ⟨rfl, rfl, rfl, by decide +kernel, rfl, by decide +kernel, by decide +kernel⟩
def spWhole : Sp := fun vs H Q _ => ∃ i : Int, vs = [.int i] ∧ Q (.bl true) H
theorem ok_is_whole (T : Txt K mg) : C8.Cal P w K mg base 1 "is_whole" spWhole [] := by
  refine T.cal (ps := ["value"]) 0 0 rfl rfl sc_is_whole (fun _ _ _ _ _ _ us hl => match us, hl with | [_], _ => rfl) (fun vs H Q E h => ?_) (fun f cdv A outer s H vs Q E hr h => ?_)
  · obtain ⟨i, rfl, _⟩ := h
    rfl
  · obtain ⟨i, rfl, q⟩ := h
    refine ⟨_, pss_one (ps_ret (pe_and (pe_callB call_isi (by rfl) (T.free 45) (by decide +kernel) (pa_cons (pv 0) (pa_cons (pe_bltn (v := .ty "int") (by rfl) (T.free 46) (by decide +kernel) rfl) pa_nil)))
      (pe_one (pe_not (pe_callB call_isi (by rfl) (T.free 45) (by decide +kernel) (pa_cons (pv 0) (pa_cons (pe_bltn (v := .ty "bool") (by rfl) (T.free 47) (by decide +kernel) rfl) pa_nil))))))), ?_⟩
    refine ⟨_, rfl, _, _, _, _, true, rfl, .ty _, .base (.int _), kit_ty (by decide +kernel), _, rfl, iteT ?_⟩
    exact ⟨_, rfl, _, _, _, _, false, rfl, .ty _, .base (.int _), kit_ty (by decide +kernel), _, rfl, q⟩
theorem sc_is_between : FnScope ["value", "low", "high"] ["value", "low", "high"] (defScope s_is_between) := ⟨rfl, rfl, rfl, by decide +kernel, rfl, by decide +kernel, by decide +kernel⟩
def spBetween : Sp := fun vs H Q _ => ∃ i lo hi : Int, vs = [.int i, .int lo, .int hi] ∧ Q (.bl (decide (lo ≤ i ∧ i ≤ hi))) H
theorem ok_is_between (T : Txt K mg) : C8.Cal P w K mg base 2 "is_between" spBetween [] := by
  have cW : C8.Cal P w K mg base 1 "is_whole" spWhole [] := ok_is_whole T
  refine T.cal (ps := ["value", "low", "high"]) 1 1 rfl rfl sc_is_between (fun _ _ _ _ _ _ us hl => match us, hl with | [_, _, _], _ => rfl) (fun vs H Q E h => ?_) (fun f cdv A outer s H vs Q E hr h => ?_)
  · obtain ⟨i, lo, hi, rfl, _⟩ := h
    rfl
  · obtain ⟨i, lo, hi, rfl, q⟩ := h
    refine ⟨_, pss_one (ps_ret (pe_and (C8.pe_c cW hr (Nat.le_refl _) (by rfl) (pa_cons (pv 0) pa_nil)) (pe_one (pe_chain op_le op_le (pv 1) (pv 0) (pv 2))))), ?_⟩
    refine ⟨_, rfl, _, rfl, _, rfl, iteT ?_⟩
    refine ⟨_, rfl, _, rfl, _, _, rfl, rfl, _, rfl, ?_⟩
    refine ite2 (fun h1 => ?_) (fun h1 => ?_)
    · have h1' : lo ≤ i := of_decide_eq_true h1
      refine ⟨_, rfl, _, _, rfl, rfl, ?_⟩
      have e : decide (i ≤ hi) = decide (lo ≤ i ∧ i ≤ hi) := decide_eq_decide.mpr ⟨fun z => ⟨h1', z⟩, fun z => z.2⟩
      show Q (.bl (decide (i ≤ hi))) H
      rw [e]
      exact q
    · have h1' : ¬ lo ≤ i := fun z => h1 (decide_eq_true z)
      have e : decide (lo ≤ i ∧ i ≤ hi) = false := decide_eq_false fun z => h1' z.1
      rw [e] at q
      exact q
theorem sc_is_coordinate : FnScope ["value"] ["value"] (defScope s_is_coordinate) := ⟨rfl, rfl, rfl, by decide +kernel, rfl, by decide +kernel, by decide +kernel⟩
def spCoord : Sp := fun vs H Q _ => ∃ i : Int, vs = [.int i] ∧ Q (.bl (decide (-20000 ≤ i ∧ i ≤ 20000))) H
theorem ok_is_coordinate (T : Txt K mg) : C8.Cal P w K mg base 3 "is_coordinate" spCoord [] := by
  have cB : C8.Cal P w K mg base 2 "is_between" spBetween [] := ok_is_between T
  refine T.cal (ps := ["value"]) 3 3 rfl rfl sc_is_coordinate (fun _ _ _ _ _ _ us hl => match us, hl with | [_], _ => rfl) (fun vs H Q E h => ?_) (fun f cdv A outer s H vs Q E hr h => ?_)
  · obtain ⟨i, rfl, _⟩ := h
    rfl
  · obtain ⟨i, rfl, q⟩ := h
    refine ⟨_, pss_one (ps_ret (C8.pe_c cB hr (Nat.le_refl _) (by rfl) (pa_cons (pv 0) (pa_cons (pe_un un_neg (C8.pe_gc (by rfl) (T.int 36))) (pa_cons (C8.pe_gc (by rfl) (T.int 36)) pa_nil))))), ?_⟩
    exact ⟨_, rfl, _, rfl, _, _, _, rfl, q⟩
end
end K22
set_option maxHeartbeats 4000000
/-! K22W2: boxes, the bounce, what a contact passes on. -/
namespace K22
open PySem PySem.Spec PyProof.Rows L2
section
variable {P : Program} {w : World} {K : PySem.W.Frag} {mg : Str → Option Value} {base : Heap}
theorem ov_of (p q : Bx) : (if decide (p.x1 ≤ q.x0) = true then true else decide (q.x1 ≤ p.x0)) = true → ov p q = false := by
  intro h
  unfold ov
  apply decide_eq_false
  intro z
  split at h
  · rename_i h1
    have := of_decide_eq_true h1
    omega
  · have := of_decide_eq_true h
    omega
/-! ### do_overlap, moved_by, raw_box -/
theorem sc_do_overlap : FnScope ["first", "second"] ["first", "second"] (defScope s_do_overlap) := ⟨rfl, rfl, rfl, by decide +kernel, rfl, by decide +kernel, by decide +kernel⟩
def spOverlap : Sp := fun vs H Q _ => ∃ (a b : Addr) (p q : Bx), vs = [.ref a, .ref b] ∧ H a = some (.tup (vBx p)) ∧ H b = some (.tup (vBx q)) ∧ Q (.bl (ov p q)) H
theorem ok_do_overlap (T : Txt K mg) : C8.Cal P w K mg base 1 "do_overlap" spOverlap [] := by
  refine T.cal (ps := ["first", "second"]) 5 5 rfl rfl sc_do_overlap (fun _ _ _ _ _ _ us hl => match us, hl with | [_, _], _ => rfl) (fun vs H Q E h => ?_) (fun f cdv A outer s H vs Q E hr h => ?_)
  · obtain ⟨a, b, p, q, rfl, _⟩ := h
    rfl
  · obtain ⟨a, b, p, q, rfl, ha, hb, k⟩ := h
    refine ⟨_, pss_cons (ps_if (PW.pt (pw_or (pt_cmpR op_le (pe_ix ix_tup (pv 0) pe_int (fun _ _ => rfl)) (pe_ix ix_tup (pv 1) pe_int (fun _ _ => rfl)) (nomark _))
        (pw_or1 (pt_cmpR op_le (pe_ix ix_tup (pv 1) pe_int (fun _ _ => rfl)) (pe_ix ix_tup (pv 0) pe_int (fun _ _ => rfl)) (nomark _))))) (pss_one (ps_ret pe_bl)) pss_nil)
      (pss_one (ps_ret (pe_and (pe_cmpR op_lt (pe_ix ix_tup (pv 0) pe_int (fun _ _ => rfl)) (pe_ix ix_tup (pv 1) pe_int (fun _ _ => rfl)) (nomark _))
        (pe_one (pe_cmpR op_lt (pe_ix ix_tup (pv 1) pe_int (fun _ _ => rfl)) (pe_ix ix_tup (pv 0) pe_int (fun _ _ => rfl)) (nomark _)))))), ?_⟩
    refine ⟨_, rfl, a, _, 2, _, rfl, rfl, SqT.of ha, atI_nat (j := 2) rfl, _, rfl, b, _, 0, _, rfl, rfl, SqT.of hb, atI_nat (j := 0) rfl, p.x1, q.x0, rfl, rfl, _, rfl, ?_⟩
    refine ite2 (fun h1 => iteT ?_) (fun h1 => ?_)
    · rw [show ov p q = false from decide_eq_false fun z => by have := of_decide_eq_true h1; omega] at k
      exact k
    · have n1 : ¬ p.x1 ≤ q.x0 := fun z => h1 (decide_eq_true z)
      refine ⟨_, rfl, b, _, 2, _, rfl, rfl, SqT.of hb, atI_nat (j := 2) rfl, _, rfl, a, _, 0, _, rfl, rfl, SqT.of ha, atI_nat (j := 0) rfl, q.x1, p.x0, rfl, rfl, _, rfl, ?_⟩
      refine ite2 (fun h2 => ?_) (fun h2 => ?_)
      · rw [show ov p q = false from decide_eq_false fun z => by have := of_decide_eq_true h2; omega] at k
        exact k
      · have n2 : ¬ q.x1 ≤ p.x0 := fun z => h2 (decide_eq_true z)
        refine ⟨_, rfl, a, _, 1, _, rfl, rfl, SqT.of ha, atI_nat (j := 1) rfl, _, rfl, b, _, 3, _, rfl, rfl, SqT.of hb, atI_nat (j := 3) rfl, p.y0, q.y1, rfl, rfl, _, rfl, ?_⟩
        refine ite2 (fun h3 => ?_) (fun h3 => ?_)
        · have y1 : p.y0 < q.y1 := of_decide_eq_true h3
          refine ⟨_, rfl, b, _, 1, _, rfl, rfl, SqT.of hb, atI_nat (j := 1) rfl, _, rfl, a, _, 3, _, rfl, rfl, SqT.of ha, atI_nat (j := 3) rfl, q.y0, p.y1, rfl, rfl, ?_⟩
          rw [show ov p q = decide (q.y0 < p.y1) from decide_eq_decide.mpr ⟨fun z => z.2.2.2, fun z => ⟨by omega, by omega, y1, z⟩⟩] at k
          exact k
        · rw [show ov p q = false from decide_eq_false fun z => h3 (decide_eq_true z.2.2.1)] at k
          exact k
theorem sc_moved_by : FnScope ["box", "dx", "dy"] ["box", "dx", "dy"] (defScope s_moved_by) := ⟨rfl, rfl, rfl, by decide +kernel, rfl, by decide +kernel, by decide +kernel⟩
def spMoved : Sp := fun vs H Q _ => ∃ (a : Addr) (p : Bx) (dx dy : Int), vs = [.ref a, .int dx, .int dy] ∧ H a = some (.tup (vBx p)) ∧ ∀ r, H r = none → Q (.ref r) (upd H r (.tup (vBx (p.by_ dx dy))))
theorem ok_moved_by (T : Txt K mg) : C8.Cal P w K mg base 1 "moved_by" spMoved [] := by
  refine T.cal (ps := ["box", "dx", "dy"]) 6 6 rfl rfl sc_moved_by (fun _ _ _ _ _ _ us hl => match us, hl with | [_, _, _], _ => rfl) (fun vs H Q E h => ?_) (fun f cdv A outer s H vs Q E hr h => ?_)
  · obtain ⟨a, p, dx, dy, rfl, _⟩ := h
    rfl
  · obtain ⟨a, p, dx, dy, rfl, ha, k⟩ := h
    refine ⟨_, pss_one (ps_ret (pe_tup (pa_cons (pe_op op_add (pe_ix ix_tup (pv 0) pe_int (fun _ _ => rfl)) (pv 1)) (pa_cons (pe_op op_add (pe_ix ix_tup (pv 0) pe_int (fun _ _ => rfl)) (pv 2))
      (pa_cons (pe_op op_add (pe_ix ix_tup (pv 0) pe_int (fun _ _ => rfl)) (pv 1)) (pa_cons (pe_op op_add (pe_ix ix_tup (pv 0) pe_int (fun _ _ => rfl)) (pv 2)) pa_nil)))))), ?_⟩
    refine ⟨_, rfl, a, _, 0, _, rfl, rfl, SqT.of ha, atI_nat (j := 0) rfl, _, rfl, p.x0, dx, rfl, rfl, ?_⟩
    refine ⟨_, rfl, a, _, 1, _, rfl, rfl, SqT.of ha, atI_nat (j := 1) rfl, _, rfl, p.y0, dy, rfl, rfl, ?_⟩
    refine ⟨_, rfl, a, _, 2, _, rfl, rfl, SqT.of ha, atI_nat (j := 2) rfl, _, rfl, p.x1, dx, rfl, rfl, ?_⟩
    refine ⟨_, rfl, a, _, 3, _, rfl, rfl, SqT.of ha, atI_nat (j := 3) rfl, _, rfl, p.y1, dy, rfl, rfl, ?_⟩
    exact ⟨by show 4 ≤ sizeLine; decide, k⟩
/-- a body's ten items at a, in a tuple or in a list -/
def AtB (H : Hp) (a : Addr) (b : B) : Prop := H a = some (.tup (vB b)) ∨ H a = some (.lst (vB b))
theorem AtB.ix {H : Hp} {a : Addr} {b : B} (h : AtB H a b) {j : Nat} {v : V} (hj : (vB b)[j]? = some v) {i : Int} (hi : i = (j : Int)) {Q : VK} (q : Q v H) : rIx K (.ref a) (.int i) H Q := by
  subst hi
  rcases h with h | h
  · exact .inr (.inl ⟨a, _, _, _, rfl, rfl, SqT.of h, atI_nat hj, q⟩)
  · exact .inl ⟨a, _, _, _, rfl, rfl, SqL.of h, atI_nat hj, q⟩
theorem sc_raw_box : FnScope ["body"] ["body"] (defScope s_raw_box) := ⟨rfl, rfl, rfl, by decide +kernel, rfl, by decide +kernel, by decide +kernel⟩
def spRaw : Sp := fun vs H Q _ => ∃ (a : Addr) (b : B), vs = [.ref a] ∧ AtB H a b ∧ ∀ r, H r = none → Q (.ref r) (upd H r (.tup (vBx b.box)))
theorem ok_raw_box (T : Txt K mg) : C8.Cal P w K mg base 1 "raw_box" spRaw [] := by
  refine T.cal (ps := ["body"]) 8 8 rfl rfl sc_raw_box (fun _ _ _ _ _ _ us hl => match us, hl with | [_], _ => rfl) (fun vs H Q E h => ?_) (fun f cdv A outer s H vs Q E hr h => ?_)
  · obtain ⟨a, b, rfl, _⟩ := h
    rfl
  · obtain ⟨a, b, rfl, ha, k⟩ := h
    refine ⟨_, pss_one (ps_ret (pe_tup (pa_cons (pe_ix ix_seq (pv 0) pe_int (fun _ _ => rfl)) (pa_cons (pe_ix ix_seq (pv 0) pe_int (fun _ _ => rfl))
      (pa_cons (pe_op op_add (pe_ix ix_seq (pv 0) pe_int (fun _ _ => rfl)) (pe_ix ix_seq (pv 0) pe_int (fun _ _ => rfl))) (pa_cons (pe_op op_add (pe_ix ix_seq (pv 0) pe_int (fun _ _ => rfl)) (pe_ix ix_seq (pv 0) pe_int (fun _ _ => rfl))) pa_nil)))))), ?_⟩
    refine ⟨_, rfl, ha.ix (j := 1) rfl rfl ⟨_, rfl, ha.ix (j := 2) rfl rfl ⟨_, rfl, ha.ix (j := 1) rfl rfl ⟨_, rfl, ha.ix (j := 3) rfl rfl ⟨b.x, b.w, rfl, rfl, ?_⟩⟩⟩⟩⟩
    exact ⟨_, rfl, ha.ix (j := 2) rfl rfl ⟨_, rfl, ha.ix (j := 4) rfl rfl ⟨b.y, b.h, rfl, rfl, by show 4 ≤ sizeLine; decide, k⟩⟩⟩
end
end K22
set_option maxHeartbeats 4000000
/-! K22W3: is_box, the bounce, limited, passed. -/
namespace K22
open PySem PySem.Spec PyProof.Rows L2
section
variable {P : Program} {w : World} {K : PySem.W.Frag} {mg : Str → Option Value} {base : Heap}
theorem sc_is_box : FnScope ["value", "part"] ["value"] (defScope s_is_box) := ⟨rfl, rfl, rfl, by decide +kernel, rfl, by decide +kernel, by decide +kernel⟩
def Cd (i : Int) : Prop := -20000 ≤ i ∧ i ≤ 20000
def spBox : Sp := fun vs H Q _ => ∃ (a : Addr) (p : Bx), vs = [.ref a] ∧ H a = some (.tup (vBx p)) ∧ (Cd p.x0 ∧ Cd p.y0 ∧ Cd p.x1 ∧ Cd p.y1) ∧ p.x0 < p.x1 ∧ p.y0 < p.y1 ∧ ∀ H', Same H H' → Q (.bl true) H'
theorem box_part {p : Bx} (h : Cd p.x0 ∧ Cd p.y0 ∧ Cd p.x1 ∧ Cd p.y1) {i : Nat} {x : V} (e : (vBx p)[i]? = some x) : ∃ z : Int, x = .int z ∧ Cd z := by
  obtain ⟨h0, h1, h2, h3⟩ := h
  match i, e with
  | 0, e => exact ⟨_, (Option.some.inj e).symm, h0⟩
  | 1, e => exact ⟨_, (Option.some.inj e).symm, h1⟩
  | 2, e => exact ⟨_, (Option.some.inj e).symm, h2⟩
  | 3, e => exact ⟨_, (Option.some.inj e).symm, h3⟩
theorem ok_is_box (T : Txt K mg) : C8.Cal P w K mg base 4 "is_box" spBox [] := by
  have cC : C8.Cal P w K mg base 3 "is_coordinate" spCoord [] := ok_is_coordinate T
  refine T.cal (ps := ["value"]) 4 4 rfl rfl sc_is_box (fun _ _ _ _ _ _ us hl => match us, hl with | [_], _ => rfl) (fun vs H Q E h => ?_) (fun f cdv A outer s H vs Q E hr h => ?_)
  · obtain ⟨a, p, rfl, _⟩ := h
    rfl
  · obtain ⟨a, p, rfl, ha, hc, hx, hy, k⟩ := h
    refine ⟨_, pss_cons (ps_if (PW.pt (pw_or (pt_not (pt_val (pe_callB call_isi (by rfl) (T.free 45) (by decide +kernel) (pa_cons (pv 0) (pa_cons (pe_bltn (v := .ty "tuple") (by rfl) (T.free 48) (by decide +kernel) rfl) pa_nil)))))
        (pw_or (pt_cmpR op_ne (pe_callB call_len (by rfl) (T.free 49) (by decide +kernel) (pa_cons (pv 0) pa_nil)) pe_int (nomark _))
        (pw_or1 (pt_not (pt_val (pe_callB (cr_all rfl) (by rfl) (T.free 50) (by decide +kernel) (pa_cons
          (pe_lc (own := [("part", 1)]) (g := gName 1) (tt := tYes) rfl sc_is_box.nd (pi_tup (pv 0)) (blkOk_by (N := ["value", "part"]) (sc := defScope s_is_box) (by decide +kernel)) (fun _ _ _ _ _ => pg_name (i := 1) sc_is_box.nd rfl (Or.inl rfl)) (fun _ _ _ _ _ => pts_nil)
            (fun _ _ _ _ _ => C8.pe_c cC hr (Nat.le_refl _) (by rfl) (pa_cons (pv 1) pa_nil))) pa_nil)))))))) (pss_one (ps_ret pe_bl)) pss_nil)
      (pss_one (ps_ret (pe_and (pe_cmpR op_lt (pe_ix ix_tup (pv 0) pe_int (fun _ _ => rfl)) (pe_ix ix_tup (pv 0) pe_int (fun _ _ => rfl)) (nomark _))
        (pe_one (pe_cmpR op_lt (pe_ix ix_tup (pv 0) pe_int (fun _ _ => rfl)) (pe_ix ix_tup (pv 0) pe_int (fun _ _ => rfl)) (nomark _)))))), ?_⟩
    refine ⟨_, rfl, _, _, _, _, true, rfl, .ty _, .base (.tup ha), kit_ty (by decide +kernel), _, rfl, iteF ?_⟩
    refine ⟨_, rfl, _, 4, rfl, .inr ⟨_, SqT.of ha, rfl⟩, rfl, _, rfl, iteF ?_⟩
    unfold tNot tB tCB tCons
    refine lc_pure (n := 4) (r := fun i x => (vBx p)[i]? = some x) (fun _ => .bl true) (fun R kk => ⟨_, rfl, a, rfl, ⟨_, SqT.of ha⟩, kk _ _ (Same.refl _) (pure_tup ha)⟩) (by decide) (fun _ => rfl) (fun i x H1 Q' hi hx' s1 kk => ?_) (fun D H' hD s1 hL => ?_)
    · obtain ⟨z, rfl, hz⟩ := box_part hc hx'
      have e : decide (-20000 ≤ z ∧ z ≤ 20000) = true := decide_eq_true hz
      refine ⟨_, rfl, z, rfl, ?_⟩
      rw [e]
      exact kk H1 (Same.refl _)
    · refine ⟨_, (List.range 4).map fun _ => true, rfl, SqL.of (by rw [hL, map_bl]), ?_⟩
      refine ⟨true, rfl, iteF ?_⟩
      have ha' := s1 _ _ ha
      refine ⟨_, rfl, a, _, 0, _, rfl, rfl, SqT.of ha', atI_nat (j := 0) rfl, _, rfl, a, _, 2, _, rfl, rfl, SqT.of ha', atI_nat (j := 2) rfl, p.x0, p.x1, rfl, rfl, _, rfl, ?_⟩
      rw [if_pos (decide_eq_true hx)]
      refine ⟨_, rfl, a, _, 1, _, rfl, rfl, SqT.of ha', atI_nat (j := 1) rfl, _, rfl, a, _, 3, _, rfl, rfl, SqT.of ha', atI_nat (j := 3) rfl, p.y0, p.y1, rfl, rfl, ?_⟩
      show Q (.bl (decide (p.y0 < p.y1))) H'
      rw [decide_eq_true hy]
      exact k H' s1
/-! ### the bounce -/
structure Bn (n d : Int) : Prop where
  n0 : 0 ≤ n
  nd : n ≤ d
  d1 : 1 ≤ d
  d2 : d ≤ 1000
  low : Nat.gcd n.natAbs d.natAbs = 1
theorem sc_is_fraction : FnScope ["value"] ["value"] (defScope s_is_fraction) := ⟨rfl, rfl, rfl, by decide +kernel, rfl, by decide +kernel, by decide +kernel⟩
def spFrac : Sp := fun vs H Q _ => ∃ (a : Addr) (n d : Int), vs = [.ref a] ∧ H a = some (.tup [.int n, .int d]) ∧ Bn n d ∧ Q (.bl true) H
theorem ok_is_fraction (T : Txt K mg) : C8.Cal P w K mg base 2 "is_fraction" spFrac [] := by
  have cW : C8.Cal P w K mg base 1 "is_whole" spWhole [] := ok_is_whole T
  refine T.cal (ps := ["value"]) 2 2 rfl rfl sc_is_fraction (fun _ _ _ _ _ _ us hl => match us, hl with | [_], _ => rfl) (fun vs H Q E h => ?_) (fun f cdv A outer s H vs Q E hr h => ?_)
  · obtain ⟨a, n, d, rfl, _⟩ := h
    rfl
  · obtain ⟨a, n, d, rfl, ha, g, k⟩ := h
    refine ⟨_, pss_cons (ps_if (PW.pt (pw_or (pt_not (pt_val (pe_callB call_isi (by rfl) (T.free 45) (by decide +kernel) (pa_cons (pv 0) (pa_cons (pe_bltn (v := .ty "tuple") (by rfl) (T.free 48) (by decide +kernel) rfl) pa_nil)))))
        (pw_or1 (pt_cmpR op_ne (pe_callB call_len (by rfl) (T.free 49) (by decide +kernel) (pa_cons (pv 0) pa_nil)) pe_int (nomark _))))) (pss_one (ps_ret pe_bl)) pss_nil)
      (pss_cons (ps_if (PW.pt (pw_or (pt_not (pt_val (C8.pe_c cW hr (Nat.le_refl _) (by rfl) (pa_cons (pe_ix ix_tup (pv 0) pe_int (fun _ _ => rfl)) pa_nil))))
        (pw_or (pt_not (pt_val (C8.pe_c cW hr (Nat.le_refl _) (by rfl) (pa_cons (pe_ix ix_tup (pv 0) pe_int (fun _ _ => rfl)) pa_nil))))
        (pw_or1 (pt_cmpR op_lt (pe_ix ix_tup (pv 0) pe_int (fun _ _ => rfl)) pe_int (nomark _)))))) (pss_one (ps_ret pe_bl)) pss_nil)
      (pss_one (ps_ret (pe_cmpR op_eq (pe_callBfun cr_gcd (by rfl) T.gcd (pa_cons (pe_ix ix_tup (pv 0) pe_int (fun _ _ => rfl)) (pa_cons (pe_ix ix_tup (pv 0) pe_int (fun _ _ => rfl)) pa_nil))) pe_int (nomark _))))), ?_⟩
    refine ⟨_, rfl, _, _, _, _, true, rfl, .ty _, .base (.tup ha), kit_ty (by decide +kernel), _, rfl, iteF ?_⟩
    refine ⟨_, rfl, _, 2, rfl, .inr ⟨_, SqT.of ha, rfl⟩, rfl, _, rfl, iteF ?_⟩
    refine ⟨_, rfl, a, _, 0, _, rfl, rfl, SqT.of ha, atI_nat (j := 0) rfl, n, rfl, true, rfl, iteF ?_⟩
    refine ⟨_, rfl, a, _, 1, _, rfl, rfl, SqT.of ha, atI_nat (j := 1) rfl, d, rfl, true, rfl, iteF ?_⟩
    refine ⟨_, rfl, a, _, 1, _, rfl, rfl, SqT.of ha, atI_nat (j := 1) rfl, d, 1, rfl, rfl, _, rfl, ?_⟩
    have nd : decide (d < 1) = false := decide_eq_false (by have := g.d1; omega)
    rw [nd]
    refine iteF ⟨_, rfl, a, _, 0, _, rfl, rfl, SqT.of ha, atI_nat (j := 0) rfl, _, rfl, a, _, 1, _, rfl, rfl, SqT.of ha, atI_nat (j := 1) rfl, n, d, rfl, rfl, ?_⟩
    have e : decide (V.int ((Nat.gcd n.natAbs d.natAbs : Nat) : Int) = V.int 1) = true := decide_eq_true (by rw [g.low]; rfl)
    show Q (.bl (decide (V.int ((Nat.gcd n.natAbs d.natAbs : Nat) : Int) = V.int 1))) H
    rw [e]
    exact k
theorem sc_check_bounce : FnScope ["value"] ["value"] (defScope s_check_bounce) := ⟨rfl, rfl, rfl, by decide +kernel, rfl, by decide +kernel, by decide +kernel⟩
def spCkB : Sp := fun vs H Q _ => ∃ (a : Addr) (n d : Int), vs = [.ref a] ∧ H a = some (.tup [.int n, .int d]) ∧ Bn n d ∧ Q .non H
theorem ok_check_bounce (T : Txt K mg) : C8.Cal P w K mg base 3 "check_bounce" spCkB [] := by
  have cF : C8.Cal P w K mg base 2 "is_fraction" spFrac [] := ok_is_fraction T
  refine T.cal (ps := ["value"]) 12 12 rfl rfl sc_check_bounce (fun _ _ _ _ _ _ us hl => match us, hl with | [_], _ => rfl) (fun vs H Q E h => ?_) (fun f cdv A outer s H vs Q E hr h => ?_)
  · obtain ⟨a, n, d, rfl, _⟩ := h
    rfl
  · obtain ⟨a, n, d, rfl, ha, g, k⟩ := h
    refine ⟨_, pss_one (ps_if (PW.pt (pw_or (pt_not (pt_val (C8.pe_c cF hr (Nat.le_refl _) (by rfl) (pa_cons (pv 0) pa_nil))))
        (pw_or (pt_not (pt_chain op_le op_le pe_int (pe_ix ix_tup (pv 0) pe_int (fun _ _ => rfl)) (pe_ix ix_tup (pv 0) pe_int (fun _ _ => rfl))))
        (pw_or1 (pt_cmpR op_gt (pe_ix ix_tup (pv 0) pe_int (fun _ _ => rfl)) (C8.pe_gc (by rfl) (T.int 41)) (nomark _)))))) (pss_one ps_never) pss_nil), ?_⟩
    have e0 : decide (0 ≤ n) = true := decide_eq_true g.n0
    have e1 : decide (n ≤ d) = true := decide_eq_true g.nd
    have e2 : decide (1000 < d) = false := decide_eq_false (by have := g.d2; omega)
    refine ⟨_, rfl, a, n, d, rfl, ha, g, true, rfl, iteF ?_⟩
    refine ⟨_, rfl, a, _, 0, _, rfl, rfl, SqT.of ha, atI_nat (j := 0) rfl, 0, n, rfl, rfl, _, rfl, ?_⟩
    rw [e0, if_pos rfl]
    refine ⟨_, rfl, a, _, 1, _, rfl, rfl, SqT.of ha, atI_nat (j := 1) rfl, n, d, rfl, rfl, _, rfl, ?_⟩
    rw [e1]
    refine iteF ⟨_, rfl, a, _, 1, _, rfl, rfl, SqT.of ha, atI_nat (j := 1) rfl, d, 1000, rfl, rfl, _, rfl, ?_⟩
    rw [e2]
    exact iteF k
/-! ### limited, passed -/
theorem sc_limited : FnScope ["wish"] ["wish"] (defScope s_limited) := ⟨rfl, rfl, rfl, by decide +kernel, rfl, by decide +kernel, by decide +kernel⟩
def spLim : Sp := fun vs H Q _ => ∃ v : Int, vs = [.int v] ∧ Q (.int (lim v)) H
theorem ok_limited (T : Txt K mg) : C8.Cal P w K mg base 1 "limited" spLim [] := by
  refine T.cal (ps := ["wish"]) 13 13 rfl rfl sc_limited (fun _ _ _ _ _ _ us hl => match us, hl with | [_], _ => rfl) (fun vs H Q E h => ?_) (fun f cdv A outer s H vs Q E hr h => ?_)
  · obtain ⟨v, rfl, _⟩ := h
    rfl
  · obtain ⟨v, rfl, k⟩ := h
    refine ⟨_, pss_one (ps_ret (pe_callB (call_max2 rfl) (by rfl) (T.free 56) (by decide +kernel) (pa_cons (pe_un un_neg (C8.pe_gc (by rfl) (T.int 39)))
      (pa_cons (pe_callB (call_min2 rfl) (by rfl) (T.free 57) (by decide +kernel) (pa_cons (C8.pe_gc (by rfl) (T.int 39)) (pa_cons (pv 0) pa_nil))) pa_nil)))), ?_⟩
    exact ⟨64, rfl, _, rfl, 64, v, rfl, -64, _, rfl, k⟩
theorem sc_passed : FnScope ["bounce", "u", "mass", "v", "other", "n", "d", "approach"] ["bounce", "u", "mass", "v", "other"] (defScope s_passed) := ⟨rfl, rfl, rfl, by decide +kernel, rfl, by decide +kernel, by decide +kernel⟩
def spPass : Sp := fun vs H Q _ => ∃ (a : Addr) (n d u m v o : Int), vs = [.ref a, .int u, .int m, .int v, .int o] ∧ H a = some (.tup [.int n, .int d]) ∧ Bn n d ∧ (0 ≤ m ∧ m ≤ 100) ∧ (0 ≤ o ∧ o ≤ 100) ∧ Q (.int (pass n d u m v o)) H
theorem ok_passed (T : Txt K mg) : C8.Cal P w K mg base 1 "passed" spPass [] := by
  refine T.cal (ps := ["bounce", "u", "mass", "v", "other"]) 14 14 rfl rfl sc_passed (fun _ _ _ _ _ _ us hl => match us, hl with | [_, _, _, _, _], _ => rfl) (fun vs H Q E h => ?_) (fun f cdv A outer s H vs Q E hr h => ?_)
  · obtain ⟨a, n, d, u, m, v, o, rfl, _⟩ := h
    rfl
  · obtain ⟨a, n, d, u, m, v, o, rfl, ha, g, hm, ho, k⟩ := h
    have nd := sc_passed.nd
    refine ⟨_, pss_cons (ps_asg (pv 0) (pg_tup rfl (pgs_cons (pg_name (i := 5) nd rfl (.inl rfl)) (pgs_cons (pg_name (i := 6) nd rfl (.inl rfl)) pgs_nil))))
      (pss_cons (ps_if (pt_cmpR op_eq (pv 4) pe_int (nomark _)) (pss_one (ps_ret (pe_ifExp (pt_cmpR op_gt (pv 1) pe_int (nomark _)) (pe_op op_fdiv (pe_op op_mul (pe_op op_add (pv 6) (pv 5)) (pv 1)) (pv 6)) pe_int))) pss_nil)
      (pss_cons (ps_set (i := 7) nd rfl (Or.inl rfl) (pe_op op_sub (pe_op op_mul (pv 1) (pv 4)) (pe_op op_mul (pv 3) (pv 2))))
      (pss_one (ps_ret (pe_ifExp (pt_cmpR op_gt (pv 7) pe_int (nomark _)) (pe_op op_fdiv (pe_op op_mul (pe_op op_add (pv 6) (pv 5)) (pv 7)) (pe_op op_mul (pv 6) (pe_op op_add (pv 2) (pv 4)))) pe_int))))), ?_⟩
    have g1 := g.n0
    have g2 := g.nd
    have g3 := g.d1
    have g4 := g.d2
    have big : -(2 ^ 64) < d + n ∧ d + n < 2 ^ 64 := by omega
    refine ⟨_, rfl, a, _, rfl, SqT.of ha, rfl, _, _, rfl, _, _, rfl, rfl, ?_⟩
    refine ⟨_, rfl, rfl, _, rfl, ?_⟩
    have eo : decide (V.int o = V.int 0) = decide (o = 0) := decide_eq_decide.mpr ⟨fun z => V.int.inj z, fun z => by rw [z]⟩
    rw [eo]
    unfold pass at k
    refine ite2 (fun h0 => ?_) (fun h0 => ?_)
    · rw [if_pos (of_decide_eq_true h0)] at k
      refine ⟨_, rfl, u, 0, rfl, rfl, _, rfl, ?_⟩
      refine ite2 (fun h1 => ?_) (fun h1 => ?_)
      · rw [if_pos (of_decide_eq_true h1)] at k
        exact ⟨_, rfl, _, rfl, d, n, rfl, rfl, _, rfl, d + n, u, rfl, rfl, .inl big, _, rfl, _, d, rfl, rfl, ⟨by omega, by omega⟩, k⟩
      · rw [if_neg (fun z => h1 (decide_eq_true z))] at k
        exact k
    · have h0' : ¬ o = 0 := fun z => h0 (decide_eq_true z)
      rw [if_neg h0'] at k
      have b1 : -(2 ^ 64) < o ∧ o < 2 ^ 64 := by omega
      have b2 : -(2 ^ 64) < m ∧ m < 2 ^ 64 := by omega
      have b3 : -(2 ^ 64) < d ∧ d < 2 ^ 64 := by omega
      refine ⟨_, rfl, _, rfl, u, o, rfl, rfl, .inr b1, _, rfl, _, rfl, v, m, rfl, rfl, .inr b2, _, _, rfl, rfl, ?_⟩
      refine ⟨_, rfl, u * o - v * m, 0, rfl, rfl, _, rfl, ?_⟩
      refine ite2 (fun h1 => ?_) (fun h1 => ?_)
      · rw [if_pos (of_decide_eq_true h1)] at k
        have p1 : 1 ≤ m + o := by omega
        have p2 : m + o ≤ 200 := by omega
        have q1 : 0 < d * (m + o) := Int.mul_pos (by omega) (by omega)
        have q2 : d * (m + o) ≤ 1000 * 200 := Int.mul_le_mul g4 p2 (by omega) (by decide)
        refine ⟨_, rfl, _, rfl, d, n, rfl, rfl, _, rfl, d + n, _, rfl, rfl, .inl big, _, rfl, _, rfl, _, rfl, m, o, rfl, rfl, d, m + o, rfl, rfl, .inl b3, _, d * (m + o), rfl, rfl, ⟨q1, by omega⟩, k⟩
      · rw [if_neg (fun z => h1 (decide_eq_true z))] at k
        exact k
end
end K22
set_option maxHeartbeats 4000000
/-! K22W4: names, bodies. -/
namespace K22
open PySem PySem.Spec PyProof.Rows L2
section
variable {P : Program} {w : World} {K : PySem.W.Frag} {mg : Str → Option Value} {base : Heap}
/-! ### is_name -/
abbrev lets : List Nat := ("abcdefghijklmnopqrstuvwxyz" : Str).cps.toList
abbrev digs : List Nat := ("0123456789" : Str).cps.toList
def nmB : List Nat → Bool
  | [] => false
  | c :: r => decide (c ∈ lets) && decide (r.length ≤ 11) && (c :: r).all fun x => decide (x ∈ lets) || decide (x ∈ digs)
def NmOk (z : Str) : Prop := nmB z.cps.toList = true
theorem sc_is_name : FnScope ["value", "sign"] ["value"] (defScope s_is_name) := ⟨rfl, rfl, rfl, by decide +kernel, rfl, by decide +kernel, by decide +kernel⟩
def spName : Sp := fun vs H Q _ => ∃ z : Str, vs = [.str z] ∧ NmOk z ∧ ∀ H', Same H H' → Q (.bl true) H'
theorem NmOk.parts {z : Str} (h : NmOk z) : ∃ c r, z.cps.toList = c :: r ∧ c ∈ lets ∧ r.length ≤ 11 ∧ ∀ x ∈ c :: r, x ∈ lets ∨ x ∈ digs := by
  unfold NmOk at h
  cases e : z.cps.toList with
  | nil =>
    rw [e] at h
    cases h
  | cons c r =>
    rw [e] at h
    have h' : (decide (c ∈ lets) && decide (r.length ≤ 11) && (c :: r).all fun x => decide (x ∈ lets) || decide (x ∈ digs)) = true := h
    rw [Bool.and_eq_true, Bool.and_eq_true, List.all_eq_true] at h'
    obtain ⟨⟨h1, h2⟩, h3⟩ := h'
    refine ⟨c, r, rfl, of_decide_eq_true h1, of_decide_eq_true h2, fun x hx => ?_⟩
    have h4 := h3 x hx
    rw [Bool.or_eq_true] at h4
    rcases h4 with h4 | h4
    · exact .inl (of_decide_eq_true h4)
    · exact .inr (of_decide_eq_true h4)
theorem ok_is_name (T : Txt K mg) : C8.Cal P w K mg base 1 "is_name" spName [] := by
  refine T.cal (ps := ["value"]) 7 7 rfl rfl sc_is_name (fun _ _ _ _ _ _ us hl => match us, hl with | [_], _ => rfl) (fun vs H Q E h => ?_) (fun f cdv A outer s H vs Q E hr h => ?_)
  · obtain ⟨z, rfl, _⟩ := h
    rfl
  · obtain ⟨z, rfl, hz, k⟩ := h
    obtain ⟨c, r, e, hc, hr11, hall⟩ := hz.parts
    have hlen : z.length = r.length + 1 := by
      have q := congrArg List.length e
      rw [Array.length_toList] at q
      exact q
    have hsz : z.cps.size = r.length + 1 := hlen
    have hline : z.length ≤ sizeLine := by
      rw [hlen]
      exact Nat.le_trans (Nat.succ_le_succ hr11) (by decide)
    refine ⟨_, (pss_cons (ps_if (PW.pt (pw_or (pt_not (pt_val (pe_callB call_isi (by rfl) (T.free 45) (by decide +kernel) (pa_cons (pv 0) (pa_cons (pe_bltn (v := .ty "str") (by rfl) (T.free 52) (by decide +kernel) rfl) pa_nil))))) (pw_or (pt_not (pt_chain op_le op_le pe_int (pe_callB call_len (by rfl) (T.free 49) (by decide +kernel) (pa_cons (pv 0) pa_nil)) pe_int)) (pw_or1 (pt_cmpR op_notIn_sign (pe_ix ix_str (pv 0) pe_int (fun _ _ => rfl)) (C8.pe_gc (by rfl) (T.str 42)) rfl))))) (pss_one (ps_ret pe_bl)) pss_nil) (pss_one (ps_ret (pe_callB (cr_all rfl) (by rfl) (T.free 50) (by decide +kernel) (pa_cons (pe_lc (own := [("sign", 1)]) (g := gName 1) (tt := tYes) rfl sc_is_name.nd (pi_str (pv 0)) (blkOk_by (N := ["value", "sign"]) (sc := defScope s_is_name) (by decide +kernel)) (fun _ _ _ _ _ => (pg_name (i := 1) sc_is_name.nd rfl (Or.inl rfl))) (fun _ _ _ _ _ => pts_nil) (fun _ _ _ _ _ => (pe_or (pe_cmpR op_in_sign (pv 1) (C8.pe_gc (by rfl) (T.str 42)) rfl) (pe_one (pe_cmpR op_in_sign (pv 1) (C8.pe_gc (by rfl) (T.str 43)) rfl))))) pa_nil))))), ?_⟩
    refine ⟨_, rfl, _, _, _, _, true, rfl, .ty _, .base (.str z), kit_ty (by decide +kernel), _, rfl, iteF ?_⟩
    have e1 : decide ((1 : Int) ≤ ((z.length : Nat) : Int)) = true := decide_eq_true (by omega)
    have e2 : decide (((z.length : Nat) : Int) ≤ 12) = true := decide_eq_true (by omega)
    have e3 : (!decide (c ∈ lets)) = false := by rw [decide_eq_true hc]; rfl
    refine ⟨_, rfl, _, z.length, rfl, ⟨hline, rfl⟩, 1, _, rfl, rfl, _, rfl, ?_⟩
    rw [e1, if_pos rfl]
    refine ⟨_, 12, rfl, rfl, _, rfl, ?_⟩
    rw [e2]
    refine iteF ⟨_, rfl, z, 0, c, rfl, rfl, hline, atI_nat (j := 0) (by rw [e]; rfl), c, _, rfl, rfl, _, rfl, ?_⟩
    rw [e3]
    refine iteF ?_
    dsimp only [tNext, tRet, tCB, tCons]
    refine lc_pure (n := z.cps.size) (r := fun i x => ∃ c, z.cps[i]? = some c ∧ x = .str ⟨#[c]⟩) (fun _ => .bl true) (fun R kk => ⟨_, rfl, z, rfl, kk _ _ (Same.refl _) pure_str⟩) (by rw [hsz]; exact Nat.lt_of_le_of_lt (Nat.succ_le_succ hr11) (by decide)) (fun _ => rfl) (fun i x H1 Q' hi hx' s1 kk => ?_) (fun D H' hD s1 hL => ?_)
    · obtain ⟨d, hd, rfl⟩ := hx'
      have hd' : d ∈ c :: r := by
        rw [← e]
        rw [← Array.getElem?_toList] at hd
        exact List.mem_of_getElem? hd
      refine ⟨_, rfl, d, _, rfl, rfl, _, rfl, ?_⟩
      refine ite2 (fun h1 => kk H1 (Same.refl _)) (fun h1 => ?_)
      have h2 : d ∈ digs := by
        rcases hall d hd' with q | q
        · exact absurd (decide_eq_true q) h1
        · exact q
      refine ⟨_, rfl, d, _, rfl, rfl, ?_⟩
      show Q' (.bl (decide (d ∈ digs))) H1
      rw [decide_eq_true h2]
      exact kk H1 (Same.refl _)
    · refine ⟨_, (List.range z.cps.size).map fun _ => true, rfl, SqL.of (by rw [hL, map_bl]), ?_⟩
      rw [all_true]
      exact k H' s1
/-! ### is_body -/
theorem sc_is_body : FnScope ["value", "mass", "part"] ["value"] (defScope s_is_body) := ⟨rfl, rfl, rfl, by decide +kernel, rfl, by decide +kernel, by decide +kernel⟩
/-- what is_body asks of a body -/
structure BV (b : B) : Prop where
  nm : NmOk b.n
  g : BG b
  x0 : -19000 ≤ b.x
  x1 : b.x ≤ 19000
  y0 : -19000 ≤ b.y
  y1 : b.y ≤ 19000
def spBody : Sp := fun vs H Q _ => ∃ (a : Addr) (b : B), vs = [.ref a] ∧ H a = some (.tup (vB b)) ∧ BV b ∧ ∀ H', Same H H' → Q (.bl true) H'
theorem cut6 (b : B) : cutV (vB b) (some 6) none = [.int b.px, .int b.py, .int b.cx, .int b.cy] := rfl
theorem cut3 (b : B) : cutV (vB b) (some 3) none = [.int b.w, .int b.h, .int b.m, .int b.px, .int b.py, .int b.cx, .int b.cy] := rfl
theorem ok_is_body (T : Txt K mg) : C8.Cal P w K mg base 5 "is_body" spBody [] := by
  have cName : C8.Cal P w K mg base 1 "is_name" spName [] := ok_is_name T
  have cCoord : C8.Cal P w K mg base 3 "is_coordinate" spCoord [] := ok_is_coordinate T
  have cBetween : C8.Cal P w K mg base 2 "is_between" spBetween [] := ok_is_between T
  have cBox : C8.Cal P w K mg base 4 "is_box" spBox [] := ok_is_box T
  have cRaw : C8.Cal P w K mg base 1 "raw_box" spRaw [] := ok_raw_box T
  have cWhole : C8.Cal P w K mg base 1 "is_whole" spWhole [] := ok_is_whole T
  refine T.cal (ps := ["value"]) 9 9 rfl rfl sc_is_body (fun _ _ _ _ _ _ us hl => match us, hl with | [_], _ => rfl) (fun vs H Q E h => ?_) (fun f cdv A outer s H vs Q E hr h => ?_)
  · obtain ⟨a, b, rfl, _⟩ := h
    rfl
  · obtain ⟨a, b, rfl, ha, v, k⟩ := h
    have nd := sc_is_body.nd
    have g := v.g
    refine ⟨_, (pss_cons (ps_if (PW.pt (pw_or (pt_not (pt_val (pe_callB call_isi (by rfl) (T.free 45) (by decide +kernel) (pa_cons (pv 0) (pa_cons (pe_bltn (v := .ty "tuple") (by rfl) (T.free 48) (by decide +kernel) rfl) pa_nil))))) (pw_or (pt_cmpR op_ne (pe_callB call_len (by rfl) (T.free 49) (by decide +kernel) (pa_cons (pv 0) pa_nil)) pe_int (nomark _)) (pw_or1 (pt_not (pt_val (C8.pe_c cName hr (by decide) (by rfl) (pa_cons (pe_ix ix_tup (pv 0) pe_int (fun _ _ => rfl)) pa_nil)))))))) (pss_one (ps_ret pe_bl)) pss_nil) (pss_cons (ps_if (PW.pt (pw_or (pt_not (pt_val (C8.pe_c cCoord hr (by decide) (by rfl) (pa_cons (pe_ix ix_tup (pv 0) pe_int (fun _ _ => rfl)) pa_nil)))) (pw_or1 (pt_not (pt_val (C8.pe_c cCoord hr (by decide) (by rfl) (pa_cons (pe_ix ix_tup (pv 0) pe_int (fun _ _ => rfl)) pa_nil))))))) (pss_one (ps_ret pe_bl)) pss_nil) (pss_cons (ps_if (PW.pt (pw_or (pt_not (pt_val (C8.pe_c cBetween hr (by decide) (by rfl) (pa_cons (pe_ix ix_tup (pv 0) pe_int (fun _ _ => rfl)) (pa_cons pe_int (pa_cons (C8.pe_gc (by rfl) (T.int 37)) pa_nil)))))) (pw_or (pt_not (pt_val (C8.pe_c cBetween hr (by decide) (by rfl) (pa_cons (pe_ix ix_tup (pv 0) pe_int (fun _ _ => rfl)) (pa_cons pe_int (pa_cons (C8.pe_gc (by rfl) (T.int 37)) pa_nil)))))) (pw_or1 (pt_not (pt_val (C8.pe_c cBox hr (by decide) (by rfl) (pa_cons (C8.pe_c cRaw hr (by decide) (by rfl) (pa_cons (pv 0) pa_nil)) pa_nil)))))))) (pss_one (ps_ret pe_bl)) pss_nil) (pss_cons (ps_set (i := 1) sc_is_body.nd rfl (Or.inl rfl) (pe_ix ix_tup (pv 0) pe_int (fun _ _ => rfl))) (pss_cons (ps_if (PW.pt (pw_or (pt_not (pt_val (C8.pe_c cBetween hr (by decide) (by rfl) (pa_cons (pv 1) (pa_cons pe_int (pa_cons (C8.pe_gc (by rfl) (T.int 38)) pa_nil)))))) (pw_or (pt_not (pt_val (C8.pe_c cWhole hr (by decide) (by rfl) (pa_cons (pe_ix ix_tup (pv 0) pe_int (fun _ _ => rfl)) pa_nil)))) (pw_or1 (pt_not (pt_val (C8.pe_c cWhole hr (by decide) (by rfl) (pa_cons (pe_ix ix_tup (pv 0) pe_int (fun _ _ => rfl)) pa_nil)))))))) (pss_one (ps_ret pe_bl)) pss_nil) (pss_cons (ps_if (pt_cmpR op_eq (pv 1) pe_int (nomark _)) (pss_one (ps_ret (pe_callB (cr_all rfl) (by rfl) (T.free 50) (by decide +kernel) (pa_cons (pe_lc (own := [("part", 2)]) (g := gName 2) (tt := tYes) rfl sc_is_body.nd (pi_tup (pe_slice sl_tup (pv 0) (po_some pe_int) po_none)) (blkOk_by (N := ["value", "mass", "part"]) (sc := defScope s_is_body) (by decide +kernel)) (fun _ _ _ _ _ => (pg_name (i := 2) sc_is_body.nd rfl (Or.inl rfl))) (fun _ _ _ _ _ => pts_nil) (fun _ _ _ _ _ => (pe_and (C8.pe_c cWhole hr (by decide) (by rfl) (pa_cons (pv 2) pa_nil)) (pe_one (pe_cmpR op_eq (pv 2) pe_int (nomark _)))))) pa_nil)))) pss_nil) (pss_one (ps_ret (pe_and (C8.pe_c cBetween hr (by decide) (by rfl) (pa_cons (pe_ix ix_tup (pv 0) pe_int (fun _ _ => rfl)) (pa_cons pe_int (pa_cons (pe_op op_sub (pv 1) pe_int) pa_nil)))) (pe_one (C8.pe_c cBetween hr (by decide) (by rfl) (pa_cons (pe_ix ix_tup (pv 0) pe_int (fun _ _ => rfl)) (pa_cons pe_int (pa_cons (pe_op op_sub (pv 1) pe_int) pa_nil)))))))))))))), ?_⟩
    have dt : ∀ {p : Prop} [Decidable p], p → decide p = true := fun h => decide_eq_true h
    refine ⟨_, rfl, _, _, _, _, true, rfl, .ty _, .base (.tup ha), kit_ty (by decide +kernel), _, rfl, iteF ?_⟩
    refine ⟨_, rfl, _, 10, rfl, .inr ⟨_, SqT.of ha, rfl⟩, rfl, _, rfl, iteF ?_⟩
    refine ⟨_, rfl, a, _, 0, _, rfl, rfl, SqT.of ha, atI_nat (j := 0) rfl, b.n, rfl, v.nm, fun H1 s1 => ⟨true, rfl, iteF ?_⟩⟩
    have h1 := s1 _ _ ha
    refine ⟨_, rfl, a, _, 1, _, rfl, rfl, SqT.of h1, atI_nat (j := 1) rfl, b.x, rfl, _, rfl, ?_⟩
    have vx0 := v.x0
    have vx1 := v.x1
    have vy0 := v.y0
    have vy1 := v.y1
    have gw1 := g.w1
    have gw2 := g.w2
    have gh1 := g.h1
    have gh2 := g.h2
    have gm0 := g.m0
    have gm1 := g.m1
    rw [dt (p := -20000 ≤ b.x ∧ b.x ≤ 20000) (by omega)]
    refine iteF ⟨_, rfl, a, _, 2, _, rfl, rfl, SqT.of h1, atI_nat (j := 2) rfl, b.y, rfl, _, rfl, ?_⟩
    rw [dt (p := -20000 ≤ b.y ∧ b.y ≤ 20000) (by omega)]
    refine iteF ⟨_, rfl, a, _, 3, _, rfl, rfl, SqT.of h1, atI_nat (j := 3) rfl, b.w, 1, 200, rfl, _, rfl, ?_⟩
    rw [dt (p := 1 ≤ b.w ∧ b.w ≤ 200) (by omega)]
    refine iteF ⟨_, rfl, a, _, 4, _, rfl, rfl, SqT.of h1, atI_nat (j := 4) rfl, b.h, 1, 200, rfl, _, rfl, ?_⟩
    rw [dt (p := 1 ≤ b.h ∧ b.h ≤ 200) (by omega)]
    refine iteF ⟨_, rfl, a, b, rfl, .inl h1, fun r nr => ⟨r, b.box, rfl, upd_same, ?_, ?_, ?_, fun H2 s2 => ⟨true, rfl, iteF ?_⟩⟩⟩
    · unfold Cd B.box
      simp only
      omega
    · show b.x < b.x + b.w
      omega
    · show b.y < b.y + b.h
      omega
    have s12 : Same H1 H2 := (same_new nr).trans s2
    have h2 := s12 _ _ h1
    refine ⟨_, rfl, a, _, 5, _, rfl, rfl, SqT.of h2, atI_nat (j := 5) rfl, ?_⟩
    refine ⟨_, rfl, b.m, 0, 100, rfl, _, rfl, ?_⟩
    rw [dt (p := 0 ≤ b.m ∧ b.m ≤ 100) (by omega)]
    refine iteF ⟨_, rfl, a, _, 6, _, rfl, rfl, SqT.of h2, atI_nat (j := 6) rfl, b.px, rfl, true, rfl, iteF ?_⟩
    refine ⟨_, rfl, a, _, 7, _, rfl, rfl, SqT.of h2, atI_nat (j := 7) rfl, b.py, rfl, true, rfl, iteF ?_⟩
    refine ⟨_, rfl, rfl, _, rfl, ?_⟩
    have em : decide (V.int b.m = V.int 0) = decide (b.m = 0) := decide_eq_decide.mpr ⟨fun z => V.int.inj z, fun z => by rw [z]⟩
    rw [em]
    refine ite2 (fun hm => ?_) (fun hm => ?_)
    · obtain ⟨z1, z2, z3, z4⟩ := g.fx (of_decide_eq_true hm)
      unfold tRet tCB tCons
      refine lc_pure (n := 4) (r := fun i x => ([.int b.px, .int b.py, .int b.cx, .int b.cy] : List V)[i]? = some x) (fun _ => .bl true)
        (fun R kk => ⟨_, rfl, 6, rfl, a, _, rfl, SqT.of h2, (fun z => absurd (show (6 : Nat) = 0 from z.1) (by decide)), fun p np => ⟨p, rfl, ⟨_, SqT.of upd_same⟩, kk _ _ (same_new np) (pure_tup (xs := [.int b.px, .int b.py, .int b.cx, .int b.cy]) upd_same)⟩⟩) (by decide) (fun _ => rfl) (fun i x H3 Q' hi hx' s3 kk => ?_) (fun D H' hD s3 hL => ?_)
      · have ex : x = .int 0 := by
          rw [z1, z2, z3, z4] at hx'
          match i, hx' with
          | 0, e => exact (Option.some.inj e).symm
          | 1, e => exact (Option.some.inj e).symm
          | 2, e => exact (Option.some.inj e).symm
          | 3, e => exact (Option.some.inj e).symm
        subst ex
        exact ⟨_, rfl, 0, rfl, true, rfl, iteT ⟨_, rfl, rfl, kk H3 (Same.refl _)⟩⟩
      · refine ⟨_, (List.range 4).map fun _ => true, rfl, SqL.of (by rw [hL, map_bl]), ?_⟩
        exact k H' (s1.trans (s12.trans s3))
    · have hm' : 0 < b.m := by
        have : ¬ b.m = 0 := fun z => hm (decide_eq_true z)
        omega
      obtain ⟨⟨c1, c2⟩, c3, c4⟩ := g.cr hm'
      refine ⟨_, rfl, a, _, 8, _, rfl, rfl, SqT.of h2, atI_nat (j := 8) rfl, _, rfl, b.m, 1, rfl, rfl, b.cx, 0, b.m - 1, rfl, _, rfl, ?_⟩
      rw [if_pos (dt (p := 0 ≤ b.cx ∧ b.cx ≤ b.m - 1) (by omega))]
      refine ⟨_, rfl, a, _, 9, _, rfl, rfl, SqT.of h2, atI_nat (j := 9) rfl, _, rfl, b.m, 1, rfl, rfl, b.cy, 0, b.m - 1, rfl, ?_⟩
      show Q (.bl (decide (0 ≤ b.cy ∧ b.cy ≤ b.m - 1))) H2
      rw [dt (p := 0 ≤ b.cy ∧ b.cy ≤ b.m - 1) (by omega)]
      exact k H2 (s1.trans s12)
end
end K22
set_option maxHeartbeats 4000000
/-! K22W5: spaces. -/
namespace K22
open PySem PySem.Spec PyProof.Rows L2
def Asc (ns : List Str) : Prop := ∀ (i : Nat) (a b : Str), ns[i]? = some a → ns[i + 1]? = some b → a.cps.toList < b.cps.toList
structure SV (bs : List B) : Prop where
  len : bs.length ≤ 8
  bv : ∀ b ∈ bs, BV b
  asc : Asc (bs.map B.n)
  free : Free (bs.map B.box)
/-- the tuples of the bodies stand at ts -/
def Tups (H : Hp) (ts : List Addr) (bs : List B) : Prop := ts.length = bs.length ∧ ∀ (i : Nat) (t : Addr) (b : B), ts[i]? = some t → bs[i]? = some b → H t = some (.tup (vB b))
theorem Tups.same {H H' : Hp} {ts : List Addr} {bs : List B} (h : Tups H ts bs) (s : Same H H') : Tups H' ts bs := ⟨h.1, fun i t b h1 h2 => s _ _ (h.2 i t b h1 h2)⟩
theorem Tups.get {H : Hp} {ts : List Addr} {bs : List B} (h : Tups H ts bs) {i : Nat} (hi : i < bs.length) : ∃ t b, ts[i]? = some t ∧ bs[i]? = some b ∧ H t = some (.tup (vB b)) := by
  have hi2 : i < ts.length := by rw [h.1]; exact hi
  exact ⟨ts[i], bs[i], List.getElem?_eq_getElem hi2, List.getElem?_eq_getElem hi, h.2 i _ _ (List.getElem?_eq_getElem hi2) (List.getElem?_eq_getElem hi)⟩
theorem ref_at {ts : List Addr} {i : Nat} {t : Addr} (h : ts[i]? = some t) : (ts.map V.ref)[i]? = some (.ref t) := by
  rw [List.getElem?_map, h]
  rfl
theorem ref_of {ts : List Addr} {i : Nat} {x : V} (h : (ts.map V.ref)[i]? = some x) : ∃ t, ts[i]? = some t ∧ x = .ref t := by
  rw [List.getElem?_map] at h
  cases e : ts[i]? with
  | none =>
    rw [e] at h
    cases h
  | some t =>
    rw [e] at h
    exact ⟨t, rfl, (Option.some.inj h).symm⟩
theorem cut_to {xs : List V} {i : Nat} (h : i ≤ xs.length) : cutV xs none (some (i : Int)) = xs.take i := by
  unfold cutV
  rw [HT.sIx_nat, HT.sIx_none, Nat.min_eq_left h]
  rfl
theorem line_of {n : Nat} (h : n ≤ 100) : n < sizeLine := Nat.lt_of_le_of_lt h (by decide)
section
variable {P : Program} {w : World} {K : PySem.W.Frag} {mg : Str → Option Value} {base : Heap}
theorem sc_is_space : FnScope ["value", "at", "body", "other"] ["value"] (defScope s_is_space) := ⟨rfl, rfl, rfl, by decide +kernel, rfl, by decide +kernel, by decide +kernel⟩
def spSpace : Sp := fun vs H Q _ => ∃ (a : Addr) (ts : List Addr) (bs : List B), vs = [.ref a] ∧ H a = some (.tup (ts.map V.ref)) ∧ Tups H ts bs ∧ SV bs ∧ ∀ H', Same H H' → Q (.bl true) H'
theorem ok_is_space (T : Txt K mg) : C8.Cal P w K mg base 6 "is_space" spSpace [] := by
  have cBody : C8.Cal P w K mg base 5 "is_body" spBody [] := ok_is_body T
  have cOv : C8.Cal P w K mg base 1 "do_overlap" spOverlap [] := ok_do_overlap T
  have cRaw : C8.Cal P w K mg base 1 "raw_box" spRaw [] := ok_raw_box T
  refine T.cal (ps := ["value"]) 10 10 rfl rfl sc_is_space (fun _ _ _ _ _ _ us hl => match us, hl with | [_], _ => rfl) (fun vs H Q E h => ?_) (fun f cdv A outer s H vs Q E hr h => ?_)
  · obtain ⟨a, ts, bs, rfl, _⟩ := h
    rfl
  · obtain ⟨a, ts, bs, rfl, ha, ht, sv, k⟩ := h
    refine ⟨_, (pss_cons (ps_if (PW.pt (pw_or (pt_not (pt_val (pe_callB call_isi (by rfl) (T.free 45) (by decide +kernel) (pa_cons (pv 0) (pa_cons (pe_bltn (v := .ty "tuple") (by rfl) (T.free 48) (by decide +kernel) rfl) pa_nil))))) (pw_or (pt_cmpR op_gt (pe_callB call_len (by rfl) (T.free 49) (by decide +kernel) (pa_cons (pv 0) pa_nil)) (C8.pe_gc (by rfl) (T.int 40)) (nomark _)) (pw_or1 (pt_not (pt_val (pe_callB (cr_all rfl) (by rfl) (T.free 50) (by decide +kernel) (pa_cons (pe_lc (own := [("body", 2)]) (g := gName 2) (tt := tYes) rfl sc_is_space.nd (pi_tup (pv 0)) (blkOk_by (N := ["value", "at", "body", "other"]) (sc := defScope s_is_space) (by decide +kernel)) (fun _ _ _ _ _ => (pg_name (i := 2) sc_is_space.nd rfl (by first | exact Or.inl rfl | exact Or.inr rfl))) (fun _ _ _ _ _ => pts_nil) (fun _ _ _ _ _ => (C8.pe_c cBody hr (by decide) (by rfl) (pa_cons (pv 2) pa_nil)))) pa_nil)))))))) (pss_one (ps_ret pe_bl)) pss_nil) (pss_cons (ps_for PassesOwn.never rfl (pi_range1 (by rfl) (T.free 54) (pa_cons (pe_op op_sub (pe_callB call_len (by rfl) (T.free 49) (by decide +kernel) (pa_cons (pv 0) pa_nil)) pe_int) pa_nil)) (pg_name (i := 1) sc_is_space.nd rfl (by first | exact Or.inl rfl | exact Or.inr rfl)) (pss_one (ps_if (pt_cmpR op_ge_str (pe_ix ix_tup (pe_ix ix_tup (pv 0) (pv 1) (fun _ _ => rfl)) pe_int (fun _ _ => rfl)) (pe_ix ix_tup (pe_ix ix_tup (pv 0) (pe_op op_add (pv 1) pe_int) (fun _ _ => rfl)) pe_int (fun _ _ => rfl)) (nomark _)) (pss_one (ps_ret pe_bl)) pss_nil))) (pss_cons (ps_for PassesOwn.never rfl (pi_enumT (by rfl) (T.free 55) (pa_cons (pv 0) pa_nil)) (pg_tup rfl (pgs_cons (pg_name (i := 1) sc_is_space.nd rfl (by first | exact Or.inl rfl | exact Or.inr rfl)) (pgs_cons (pg_name (i := 2) sc_is_space.nd rfl (by first | exact Or.inl rfl | exact Or.inr rfl)) pgs_nil))) (pss_one (ps_if (pt_val (pe_callB (cr_any rfl) (by rfl) (T.free 51) (by decide +kernel) (pa_cons (pe_lc (own := [("other", 3)]) (g := gName 3) (tt := tYes) rfl sc_is_space.nd (pi_tup (pe_slice sl_tup (pv 0) po_none (po_some (pv 1)))) (blkOk_by (N := ["value", "at", "body", "other"]) (sc := defScope s_is_space) (by decide +kernel)) (fun _ _ _ _ _ => (pg_name (i := 3) sc_is_space.nd rfl (by first | exact Or.inl rfl | exact Or.inr rfl))) (fun _ _ _ _ _ => pts_nil) (fun _ _ _ _ _ => (C8.pe_c cOv hr (by decide) (by rfl) (pa_cons (C8.pe_c cRaw hr (by decide) (by rfl) (pa_cons (pv 2) pa_nil)) (pa_cons (C8.pe_c cRaw hr (by decide) (by rfl) (pa_cons (pv 3) pa_nil)) pa_nil))))) pa_nil))) (pss_one (ps_ret pe_bl)) pss_nil))) (pss_one (ps_ret pe_bl))))), ?_⟩
    have hl8 := sv.len
    have htl := ht.1
    have el : (ts.map V.ref).length = bs.length := by rw [List.length_map, htl]
    have g12 : decide ((12 : Int) < (((ts.map V.ref).length : Nat) : Int)) = false := decide_eq_false (by rw [el]; omega)
    refine ⟨_, rfl, _, _, _, _, true, rfl, .ty _, .base (.tup ha), kit_ty (by decide +kernel), _, rfl, iteF ?_⟩
    refine ⟨_, rfl, _, (ts.map V.ref).length, rfl, .inr ⟨_, SqT.of ha, rfl⟩, _, 12, rfl, rfl, _, rfl, ?_⟩
    rw [g12]
    refine iteF ?_
    dsimp only [tNot, tB, tCB, tCons]
    refine lc_pure (n := (ts.map V.ref).length) (r := fun i x => (ts.map V.ref)[i]? = some x) (fun _ => .bl true) (fun R kk => ⟨_, rfl, a, rfl, ⟨_, SqT.of ha⟩, kk _ _ (Same.refl _) (pure_tup ha)⟩) (by rw [el]; exact line_of (by omega)) (fun _ => rfl) (fun i x H1 Q' hi hx s1 kk => ?_) (fun D H1 hD s1 hL => ?_)
    · obtain ⟨t, ht', rfl⟩ := ref_of hx
      rw [el] at hi
      obtain ⟨t2, b, e1, e2, e3⟩ := ht.get hi
      rw [ht'] at e1
      cases e1
      exact ⟨_, rfl, t, b, rfl, s1 _ _ e3, sv.bv b (at_mem e2), fun H' s' => kk H' s'⟩
    · refine ⟨_, (List.range (ts.map V.ref).length).map fun _ => true, rfl, SqL.of (by rw [hL, map_bl]), ?_⟩
      rw [all_true]
      refine ⟨true, rfl, iteF ?_⟩
      have ha1 := s1 _ _ ha
      -- for at in range(len(value) - 1)
      refine ⟨_, rfl, _, (ts.map V.ref).length, rfl, .inr ⟨_, SqT.of ha1, rfl⟩, _, 1, rfl, rfl, _, rfl, by rw [el]; omega, by rw [el]; omega, ?_⟩
      refine for_range (lo := 0) (n := ((((ts.map V.ref).length : Nat) : Int) - 1).toNat) (fun i σ H2 => ∃ v1, σ = [some (.ref a), v1, none, none] ∧ Same H H2) ⟨none, rfl, s1⟩ (fun i σ H2 hi p => ?_) (fun σ H2 p => ?_)
      · obtain ⟨v1, rfl, s2⟩ := p
        have hi' : i + 1 < bs.length := by rw [el] at hi; omega
        obtain ⟨t, b, e1, e2, e3⟩ := ht.get (i := i) (by omega)
        obtain ⟨t', b', e1', e2', e3'⟩ := ht.get hi'
        have ha2 := s2 _ _ ha
        refine ⟨_, rfl, _, rfl, a, _, _, _, rfl, rfl, SqT.of ha2, at_of (j := i) (by omega) (ref_at e1), t, _, 0, _, rfl, rfl, SqT.of (s2 _ _ e3), atI_nat (j := 0) rfl, ?_⟩
        refine ⟨_, rfl, _, rfl, _, 1, rfl, rfl, a, _, _, _, rfl, rfl, SqT.of ha2, at_of (j := i + 1) (by omega) (ref_at e1'), t', _, 0, _, rfl, rfl, SqT.of (s2 _ _ e3'), atI_nat (j := 0) rfl, b.n, b'.n, rfl, rfl, _, rfl, ?_⟩
        have lt : decide (b.n.cps.toList < b'.n.cps.toList) = true := decide_eq_true (sv.asc i _ _ (by rw [List.getElem?_map, e2]; rfl) (by rw [List.getElem?_map, e2']; rfl))
        rw [lt]
        exact iteF ⟨_, rfl, s2⟩
      · obtain ⟨v1, rfl, s2⟩ := p
        have ha2 := s2 _ _ ha
        -- for at, body in enumerate(value)
        refine ⟨_, rfl, a, _, rfl, SqT.of ha2, ?_⟩
        refine for_it (walk_T (K := K) (a := a) (xs := ts.map V.ref)) (fun i σ H3 => ∃ v1 v2, σ = [some (.ref a), v1, v2, none] ∧ Same H H3) ⟨v1, none, rfl, s2⟩ (fun i σ H3 _ p => ?_) (fun i x σ H3 H4 hi p y => ?_) (fun σ H3 p => ?_)
        · obtain ⟨v1, v2, rfl, s3⟩ := p
          exact SqT.of (s3 _ _ ha)
        · obtain ⟨v1, v2, rfl, s3⟩ := p
          obtain ⟨c, x1, x2, rfl, nc, rfl, f1, f2⟩ := y
          have ex1 : x1 = .int (i : Nat) := (Option.some.inj f1).symm
          subst ex1
          obtain ⟨t, ht', rfl⟩ := ref_of f2
          rw [el] at hi
          obtain ⟨t2, b, e1, e2, e3⟩ := ht.get hi
          rw [ht'] at e1
          cases e1
          have s4 : Same H (upd H3 c (.tup [.int (i : Nat), .ref t])) := s3.trans (same_new nc)
          have ha4 := s4 _ _ ha
          refine ⟨c, [.int (i : Nat), .ref t], rfl, .inl (.inl upd_same), rfl, .int (i : Nat), [.ref t], rfl, .ref t, [], rfl, rfl, ?_⟩
          dsimp only [tIfS, tB, tCB, tCons]
          have hcut : cutV (ts.map V.ref) none (some ((i : Nat) : Int)) = (ts.map V.ref).take i := cut_to (by rw [el]; omega)
          have nw : ¬ (HT.sIx (ts.map V.ref).length 0 none = 0 ∧ HT.sIx (ts.map V.ref).length (ts.map V.ref).length (some ((i : Nat) : Int)) = (ts.map V.ref).length) := fun z => by
            have z2 := z.2
            rw [HT.sIx_nat, el] at z2
            omega
          refine lc_pure (n := i) (r := fun j x => ((ts.map V.ref).take i)[j]? = some x) (fun _ => .bl false)
            (fun R kk => ⟨_, rfl, _, rfl, ((i : Nat) : Int), rfl, a, _, rfl, SqT.of ha4, nw, fun p np => ⟨p, rfl, ⟨_, SqT.of upd_same⟩, ?_⟩⟩) (line_of (by omega)) (fun _ => rfl) (fun j x H5 Q' hj hx s5 kk => ?_) (fun D H5 hD s5 hL => ?_)
          · have q : Pure (upd (upd H3 c (.tup [.int (i : Nat), .ref t])) p (.tup (cutV (ts.map V.ref) none (some ((i : Nat) : Int))))) (Itt K p) i (fun j x => ((ts.map V.ref).take i)[j]? = some x) := by
              rw [hcut]
              have z := pure_tup (K := K) (H := upd (upd H3 c (.tup [.int (i : Nat), .ref t])) p (.tup ((ts.map V.ref).take i))) (a := p) upd_same
              rw [show ((ts.map V.ref).take i).length = i from by rw [List.length_take, el]; omega] at z
              exact z
            exact kk (Itt K p) _ (same_new np) q
          · rw [List.getElem?_take_of_lt hj] at hx
            obtain ⟨t', ht2, rfl⟩ := ref_of hx
            have hj' : j < bs.length := by omega
            obtain ⟨t3, b', e1', e2', e3'⟩ := ht.get hj'
            rw [ht2] at e1'
            cases e1'
            have s45 := s4.trans s5
            refine ⟨.ref t, rfl, t, b, rfl, .inl (s45 _ _ e3), fun r nr => ⟨.ref t', rfl, t', b', rfl, .inl (same_new nr _ _ (s45 _ _ e3')), fun r' nr' => ⟨r, r', b.box, b'.box, rfl, same_new nr' _ _ upd_same, upd_same, ?_⟩⟩⟩
            rw [sv.free i j b.box b'.box (by omega) (by rw [List.getElem?_map, e2]; rfl) (by rw [List.getElem?_map, e2']; rfl)]
            exact kk _ ((same_new nr).trans (same_new nr'))
          · refine ⟨_, (List.range i).map fun _ => false, rfl, SqL.of (by rw [hL, map_bl]), ?_⟩
            rw [any_false]
            exact ⟨false, rfl, iteF ⟨_, _, rfl, s4.trans s5⟩⟩
        · obtain ⟨v1, v2, rfl, s3⟩ := p
          exact k H3 s3
theorem sc_check_space : FnScope ["value"] ["value"] (defScope s_check_space) := ⟨rfl, rfl, rfl, by decide +kernel, rfl, by decide +kernel, by decide +kernel⟩
def spCkS : Sp := fun vs H Q _ => ∃ (a : Addr) (ts : List Addr) (bs : List B), vs = [.ref a] ∧ H a = some (.tup (ts.map V.ref)) ∧ Tups H ts bs ∧ SV bs ∧ ∀ H', Same H H' → Q .non H'
theorem ok_check_space (T : Txt K mg) : C8.Cal P w K mg base 7 "check_space" spCkS [] := by
  have cSpace : C8.Cal P w K mg base 6 "is_space" spSpace [] := ok_is_space T
  refine T.cal (ps := ["value"]) 11 11 rfl rfl sc_check_space (fun _ _ _ _ _ _ us hl => match us, hl with | [_], _ => rfl) (fun vs H Q E h => ?_) (fun f cdv A outer s H vs Q E hr h => ?_)
  · obtain ⟨a, ts, bs, rfl, _⟩ := h
    rfl
  · obtain ⟨a, ts, bs, rfl, ha, ht, sv, k⟩ := h
    refine ⟨_, (pss_one (ps_if (pt_not (pt_val (C8.pe_c cSpace hr (by decide) (by rfl) (pa_cons (pv 0) pa_nil)))) (pss_one ps_never) pss_nil)), ?_⟩
    exact ⟨_, rfl, a, ts, bs, rfl, ha, ht, sv, fun H1 s1 => ⟨true, rfl, iteF (k H1 s1)⟩⟩
end
end K22
set_option maxHeartbeats 4000000
/-! K22Mv: a Moving and its lists on the heap. -/
namespace K22
open PySem PySem.Spec PyProof.Rows L2
/-! ### the fields -/
theorem s_bo_bn : ¬ (("bounce" : Str) = "bodies") := by decide +kernel
theorem s_co_bo : ¬ (("contacts" : Str) = "bodies") := by decide +kernel
theorem s_co_bn : ¬ (("contacts" : Str) = "bounce") := by decide +kernel
theorem s_bd_bn : ¬ (("bodies" : Str) = "bounce") := by decide +kernel
theorem s_bd_co : ¬ (("bodies" : Str) = "contacts") := by decide +kernel
theorem s_bn_co : ¬ (("bounce" : Str) = "contacts") := by decide +kernel
def mf (l q c : Addr) : List (Str × V) := putF "contacts" (.ref c) (putF "bounce" (.ref q) (putF "bodies" (.ref l) []))
theorem mf_bodies (l q c : Addr) : (mf l q c).lookup ("bodies" : Str) = some (.ref l) := by
  unfold mf
  rw [lookup_putF, if_neg s_bd_co, lookup_putF, if_neg s_bd_bn, lookup_putF, if_pos rfl]
theorem mf_bounce (l q c : Addr) : (mf l q c).lookup ("bounce" : Str) = some (.ref q) := by
  unfold mf
  rw [lookup_putF, if_neg s_bn_co, lookup_putF, if_pos rfl]
theorem mf_contacts (l q c : Addr) : (mf l q c).lookup ("contacts" : Str) = some (.ref c) := by
  unfold mf
  rw [lookup_putF, if_pos rfl]
theorem mf_no (l q c : Addr) {m : Str} (h1 : ¬ m = "contacts") (h2 : ¬ m = "bounce") (h3 : ¬ m = "bodies") : (mf l q c).lookup m = none := by
  unfold mf
  rw [lookup_putF, if_neg h1, lookup_putF, if_neg h2, lookup_putF, if_neg h3]
  rfl
theorem mf_wishes (l q c : Addr) : (mf l q c).lookup ("wishes" : Str) = none := mf_no l q c (by decide +kernel) (by decide +kernel) (by decide +kernel)
theorem mf_blocker (l q c : Addr) : (mf l q c).lookup ("blocker" : Str) = none := mf_no l q c (by decide +kernel) (by decide +kernel) (by decide +kernel)
theorem mf_meet (l q c : Addr) : (mf l q c).lookup ("meet" : Str) = none := mf_no l q c (by decide +kernel) (by decide +kernel) (by decide +kernel)
theorem mf_go (l q c : Addr) : (mf l q c).lookup ("go" : Str) = none := mf_no l q c (by decide +kernel) (by decide +kernel) (by decide +kernel)
/-! ### the state -/
/-- all but S stands as before -/
def But (S : List Addr) (H H' : Hp) : Prop := ∀ b o, H b = some o → b ∉ S → H' b = some o
theorem But.refl (S : List Addr) (H : Hp) : But S H H := fun _ _ h _ => h
theorem But.trans {S : List Addr} {H H1 H2 : Hp} (a : But S H H1) (b : But S H1 H2) : But S H H2 := fun x o h hx => b x o (a x o h hx) hx
theorem But.of {S : List Addr} {H H' : Hp} (s : Same H H') : But S H H' := fun b o h _ => s b o h
theorem But.upd {S : List Addr} {H : Hp} {a : Addr} {o : HO} (h : a ∈ S) : But S H (upd H a o) := fun b x e hb => by
  rw [upd_ne (fun z => hb (by rw [z]; exact h))]
  exact e
theorem But.mono {S S' : List Addr} {H H' : Hp} (a : But S H H') (h : ∀ x ∈ S, x ∈ S') : But S' H H' := fun b o e hb => a b o e fun z => hb (h b z)
theorem But.free {S : List Addr} {H H' : Hp} (a : But S H H') {x : Addr} (h : H' x = none) (hx : x ∉ S) : H x = none := by
  cases e : H x with
  | none => rfl
  | some o =>
    rw [a x o e hx] at h
    cases h
/-- the contacts cs in the list at c -/
def Cts (H : Hp) (ts : List Addr) (cs : List C) : Prop := ts.length = cs.length ∧ ∀ (i : Nat) (t : Addr) (x : C), ts[i]? = some t → cs[i]? = some x → H t = some (.tup (vC x))
theorem Cts.same {H H' : Hp} {ts : List Addr} {cs : List C} (h : Cts H ts cs) (s : ∀ a xs, H a = some (.tup xs) → H' a = some (.tup xs)) : Cts H' ts cs := ⟨h.1, fun i t x h1 h2 => s _ _ (h.2 i t x h1 h2)⟩
theorem Cts.add {H : Hp} {ts : List Addr} {cs : List C} (h : Cts H ts cs) {t : Addr} {x : C} (e : H t = some (.tup (vC x))) : Cts H (ts ++ [t]) (cs ++ [x]) := by
  refine ⟨by rw [List.length_append, List.length_append, h.1]; rfl, fun i t' x' h1 h2 => ?_⟩
  by_cases hi : i < ts.length
  · rw [List.getElem?_append_left hi] at h1
    rw [List.getElem?_append_left (by rw [← h.1]; exact hi)] at h2
    exact h.2 i t' x' h1 h2
  · rw [List.getElem?_append_right (by omega)] at h1
    rw [List.getElem?_append_right (by rw [← h.1]; omega), ← h.1] at h2
    have hz : i - ts.length = 0 := by
      have := (List.getElem?_eq_some_iff.mp h1).1
      simp at this
      omega
    rw [hz] at h1 h2
    have e1 : t = t' := Option.some.inj h1
    have e2 : x = x' := Option.some.inj h2
    rw [← e1, ← e2]
    exact e
/-- a Moving at p: its bodies in lists at as (listed at l), its bounce at q, its contacts at c -/
structure Mv (Mg p l q c : Addr) (as : List Addr) (n d : Int) (H : Hp) (bs : List B) (cs : List C) : Prop where
  ins : ∃ dx, H p = some (.ins Mg dx (mf l q c))
  bod : H l = some (.lst (as.map V.ref))
  bnc : H q = some (.tup [.int n, .int d])
  len : as.length = bs.length
  at_ : ∀ (i : Nat) (a : Addr) (b : B), as[i]? = some a → bs[i]? = some b → H a = some (.lst (vB b))
  nd : as.Nodup
  sl : l ∉ as
  sc : c ∉ as
  cl : c ≠ l
  con : ∃ ts, H c = some (.lst (ts.map V.ref)) ∧ Cts H ts cs
section
variable {Mg p l q c : Addr} {as : List Addr} {n d : Int} {H H' : Hp} {bs : List B} {cs : List C}
theorem Mv.same (m : Mv Mg p l q c as n d H bs cs) (s : Same H H') : Mv Mg p l q c as n d H' bs cs := by
  obtain ⟨dx, hp⟩ := m.ins
  obtain ⟨ts, h1, h2⟩ := m.con
  exact ⟨⟨dx, s _ _ hp⟩, s _ _ m.bod, s _ _ m.bnc, m.len, fun i a b h1 h2 => s _ _ (m.at_ i a b h1 h2), m.nd, m.sl, m.sc, m.cl, ts, s _ _ h1, h2.same fun a xs e => s _ _ e⟩
theorem Mv.get (m : Mv Mg p l q c as n d H bs cs) {i : Nat} {b : B} (hb : bs[i]? = some b) : ∃ a, as[i]? = some a ∧ H a = some (.lst (vB b)) ∧ a ∈ as := by
  have hi : i < as.length := by
    rw [m.len]
    exact (List.getElem?_eq_some_iff.mp hb).1
  exact ⟨as[i], List.getElem?_eq_getElem hi, m.at_ i _ b (List.getElem?_eq_getElem hi) hb, List.getElem_mem hi⟩
theorem Mv.put (m : Mv Mg p l q c as n d H bs cs) {i : Nat} {a : Addr} {b b' : B} (ha : as[i]? = some a) (hb : bs[i]? = some b) : Mv Mg p l q c as n d (upd H a (.lst (vB b'))) (bs.set i b') cs := by
  obtain ⟨dx, hp⟩ := m.ins
  obtain ⟨ts, h1, h2⟩ := m.con
  have hA := m.at_ i a b ha hb
  have mem : a ∈ as := List.mem_of_getElem? ha
  have npa : p ≠ a := ne_of hp hA (by intro z; cases z)
  have nqa : q ≠ a := ne_of m.bnc hA (by intro z; cases z)
  have nla : l ≠ a := fun e => m.sl (by rw [e]; exact mem)
  have nca : c ≠ a := fun e => m.sc (by rw [e]; exact mem)
  refine ⟨⟨dx, by rw [upd_ne npa]; exact hp⟩, by rw [upd_ne nla]; exact m.bod, by rw [upd_ne nqa]; exact m.bnc, by rw [List.length_set]; exact m.len, fun j x y hx hy => ?_, m.nd, m.sl, m.sc, m.cl, ts, by rw [upd_ne nca]; exact h1, h2.same fun x xs e => ?_⟩
  · by_cases hj : i = j
    · subst hj
      rw [ha] at hx
      rw [List.getElem?_set_self (List.getElem?_eq_some_iff.mp hb).1] at hy
      rw [← Option.some.inj hx, ← Option.some.inj hy, upd_same]
    · rw [List.getElem?_set_ne hj] at hy
      have nxa : x ≠ a := fun e => hj (nd_ix m.nd ha (by rw [← e]; exact hx))
      rw [upd_ne nxa]
      exact m.at_ j x y hx hy
  · have : x ≠ a := ne_of e hA (by intro z; cases z)
    rw [upd_ne this]
    exact e
theorem Mv.log (m : Mv Mg p l q c as n d H bs cs) {ts : List Addr} {t : Addr} {x : C} (hc : H c = some (.lst (ts.map V.ref))) (hts : Cts H ts cs) (ht : H t = some (.tup (vC x))) :
    Mv Mg p l q c as n d (upd H c (.lst (ts.map V.ref ++ [.ref t]))) bs (cs ++ [x]) := by
  obtain ⟨dx, hp⟩ := m.ins
  have npc : p ≠ c := ne_of hp hc (by intro z; cases z)
  have nqc : q ≠ c := ne_of m.bnc hc (by intro z; cases z)
  have tups : ∀ a xs, H a = some (.tup xs) → (upd H c (.lst (ts.map V.ref ++ [.ref t]))) a = some (.tup xs) := fun a xs e => by
    have : a ≠ c := ne_of e hc (by intro z; cases z)
    rw [upd_ne this]
    exact e
  refine ⟨⟨dx, by rw [upd_ne npc]; exact hp⟩, by rw [upd_ne (Ne.symm m.cl)]; exact m.bod, by rw [upd_ne nqc]; exact m.bnc, m.len, fun i a b h1 h2 => ?_, m.nd, m.sl, m.sc, m.cl, ts ++ [t], by rw [upd_same, List.map_append]; rfl, (hts.same tups).add (tups _ _ ht)⟩
  have : a ≠ c := fun e => m.sc (by rw [← e]; exact List.mem_of_getElem? h1)
  rw [upd_ne this]
  exact m.at_ i a b h1 h2
/-- another object of its own is written -/
theorem Mv.off (m : Mv Mg p l q c as n d H bs cs) {x : Addr} {o u : HO} (hx : H x = some u) (hu : ∀ xs, u ≠ .tup xs) (hi : ∀ C dx fs, u ≠ .ins C dx fs) (h1 : x ∉ as) (h2 : x ≠ c) (h3 : x ≠ l) : Mv Mg p l q c as n d (upd H x o) bs cs := by
  obtain ⟨dx, hp⟩ := m.ins
  obtain ⟨ts, hc, hts⟩ := m.con
  have npx : p ≠ x := ne_of hp hx (fun z => hi _ _ _ z.symm)
  have nqx : q ≠ x := ne_of m.bnc hx (fun z => hu _ z.symm)
  refine ⟨⟨dx, by rw [upd_ne npx]; exact hp⟩, by rw [upd_ne (Ne.symm h3)]; exact m.bod, by rw [upd_ne nqx]; exact m.bnc, m.len, fun i a b e1 e2 => ?_, m.nd, m.sl, m.sc, m.cl, ts, by rw [upd_ne (Ne.symm h2)]; exact hc, hts.same fun a xs e => ?_⟩
  · have : a ≠ x := fun e => h1 (by rw [← e]; exact List.mem_of_getElem? e1)
    rw [upd_ne this]
    exact m.at_ i a b e1 e2
  · have : a ≠ x := ne_of e hx (fun z => hu _ z.symm)
    rw [upd_ne this]
    exact e
end
end K22
set_option maxHeartbeats 4000000
/-! K22W6: Moving's __init__, wishes, blocker. -/
namespace K22
open PySem PySem.Spec PyProof.Rows L2
section
variable {P : Program} {w : World} {K : PySem.W.Frag} {mg : Str → Option Value} {base : Heap}
abbrev MG (K : PySem.W.Frag) : Addr := He.ga K "Moving"
theorem Txt.mcl (T : Txt K mg) : Cls K (MG K) := He.cls_ok (T.says.fact 16)
theorem Txt.nBo (T : Txt K mg) : NoAttr K (MG K) "bodies" := He.noat_ok (T.says.fact 22)
theorem Txt.nBn (T : Txt K mg) : NoAttr K (MG K) "bounce" := He.noat_ok (T.says.fact 23)
theorem Txt.nCo (T : Txt K mg) : NoAttr K (MG K) "contacts" := He.noat_ok (T.says.fact 24)
theorem Txt.mak (T : Txt K mg) {ps N : List Str} {k : Nat} {sp : Sp} (S : FnScope N ps (defScope s_init))
    (hb : ∀ (kV doc pm : Value) (an : Option Addr) (cdv ct : Value) (us : List Value), us.length = ps.length → bindArgs (PySem.W.fnOf "__init__" "Moving.__init__" (defArgs s_init) (defBody s_init) (defScope s_init) .none kV doc pm an cdv ct) ⟨us, []⟩ = pure (ps.zip us))
    (len : ∀ vs H Q E, sp vs H Q E → vs.length = ps.length)
    (body : ∀ (f : Addr) (cdv : Value) (A : Around) (outer : List Env) (s : Shared) (H : Hp) (vs : List V) (Q : VK) (E : XK), Room k (A.deeper (envOfC "Moving.__init__" (defScope s_init) s.heap.objs.size f cdv)) → sp vs H Q E →
      ∃ t, PSs (cxOf C8.CX0 P w K mg base N "Moving.__init__" (defScope s_init) f cdv A outer s H E).nox (defBody s_init) t ∧ t { nx := fun _ H' => Q .non H', rt := Q } (start N vs) H) :
    C8.Mak P w K mg base (k + 1) "Moving" (MG K) sp [] := by
  obtain ⟨fd, F⟩ := T.says.def_ 15 (d := dm "__init__" "Moving.__init__" s_init) rfl
  refine ⟨_, fd, ps, [], He.mkr_ok (T.says.fact 17), FunD.ok (CX := C8.CX0) F S len fun cdv A outer s H vs Q E hr h => ?_, T.glo 15, FunD.bindsN F hb, .nil⟩
  obtain ⟨t, h1, h2⟩ := body _ cdv A outer s H vs Q E hr h
  exact ⟨t, h1.nox, h2⟩
/-! ### __init__ -/
theorem sc_init : FnScope ["self", "space", "bounce", "body"] ["self", "space", "bounce"] (defScope s_init) := ⟨rfl, rfl, rfl, by decide +kernel, rfl, by decide +kernel, by decide +kernel⟩
def spInit (K : PySem.W.Frag) : Sp := fun vs H Q _ => ∃ (p dx a q : Addr) (ts : List Addr) (bs : List B) (n d : Int), vs = [.ref p, .ref a, .ref q] ∧ H p = some (.ins (MG K) dx []) ∧ H a = some (.tup (ts.map V.ref)) ∧ Tups H ts bs ∧ bs.length ≤ 8 ∧ H q = some (.tup [.int n, .int d]) ∧
  ∀ (H' : Hp) (l c : Addr) (as : List Addr), But [p] H H' → (∀ x ∈ as, H x = none) → H l = none → H c = none → Mv (MG K) p l q c as n d H' bs [] → Q .non H'
theorem ok_init (T : Txt K mg) : C8.Mak P w K mg base 1 "Moving" (MG K) (spInit K) [] := by
  refine T.mak (ps := ["self", "space", "bounce"]) sc_init (fun _ _ _ _ _ _ us hl => match us, hl with | [_, _, _], _ => rfl) (fun vs H Q E h => ?_) (fun f cdv A outer s H vs Q E hr h => ?_)
  · obtain ⟨p, dx, a, q, ts, bs, n, d, rfl, _⟩ := h
    rfl
  · obtain ⟨p, dx, a, q, ts, bs, n, d, rfl, hp, ha, ht, hl8, hq, k⟩ := h
    refine ⟨_, (pss_cons (ps_fld (pv 0) (pe_lc (own := [("body", 3)]) (g := gName 3) (tt := tYes) rfl sc_init.nd (pi_tup (pv 1)) (blkOk_by (N := ["self", "space", "bounce", "body"]) (sc := defScope s_init) (by decide +kernel)) (fun _ _ _ _ _ => (pg_name (i := 3) sc_init.nd rfl (by first | exact Or.inl rfl | exact Or.inr rfl))) (fun _ _ _ _ _ => pts_nil) (fun _ _ _ _ _ => (pe_callTy (callK_list K) (by rfl) (T.free 53) (by decide +kernel) (pa_cons (pv 3) pa_nil)))) rfl) (pss_cons (ps_fld (pv 0) (pv 2) rfl) (pss_one (ps_fld (pv 0) (pe_lst pa_nil) rfl)))), ?_⟩
    have el : (ts.map V.ref).length = bs.length := by rw [List.length_map, ht.1]
    dsimp only [tSeq, sFld]
    refine lc_new (n := (ts.map V.ref).length) (r := fun i x => (ts.map V.ref)[i]? = some x) (fun i => .lst (match bs[i]? with | some b => vB b | none => []))
      (fun R kk => ⟨_, rfl, a, rfl, ⟨_, SqT.of ha⟩, kk _ _ (Same.refl _) (pure_tup ha)⟩) (by rw [el]; exact line_of (by omega)) (fun i x H1 Kt hi hx s1 kt => kt _ rfl fun R hR => ?_) (fun D H1 as hD s1 hlen hnd hfree hDas hDL hat => ?_)
    · obtain ⟨t, ht', rfl⟩ := ref_of hx
      rw [el] at hi
      obtain ⟨t2, b, e1, e2, e3⟩ := ht.get hi
      rw [ht'] at e1
      cases e1
      refine ⟨_, rfl, t, vB b, rfl, .inr (SqT.of (s1 _ _ e3)), fun u nu => hR _ u (same_new nu) nu ?_⟩
      rw [upd_same, e2]
    · have p1 := s1 _ _ hp
      have q1 := s1 _ _ hq
      have npD : p ≠ D := ne_of_none hp hD
      have nqD : q ≠ D := ne_of_none hq hD
      have nqp : q ≠ p := ne_of hq hp (by intro z; cases z)
      refine ⟨_, rfl, p, MG K, dx, [], rfl, p1, T.mcl, T.nBo, (by show 0 < 1000; decide), ?_⟩
      refine ⟨_, rfl, _, rfl, p, MG K, dx, _, rfl, upd_same, T.mcl, T.nBn, (by show 1 < 1000; decide), ?_⟩
      refine ⟨Nat.zero_le _, fun c nc => ?_⟩
      have npc : p ≠ c := fun e => by
        rw [← e, upd_same] at nc
        cases nc
      refine ⟨_, rfl, p, MG K, dx, _, rfl, (by rw [upd_ne npc]; exact upd_same), T.mcl, T.nCo, (by show 2 < 1000; decide), ?_⟩
      have nc1 : H1 c = none := by
        rw [upd_ne (Ne.symm npc), upd_ne (Ne.symm npc)] at nc
        exact nc
      have nc0 := s1.free nc1
      have ncD : c ≠ D := fun e => by
        rw [e, hDL] at nc1
        cases nc1
      have up : ∀ x o, H1 x = some o → x ≠ p → upd (upd (upd (upd H1 p (.ins (MG K) dx (putF "bodies" (.ref D) []))) p (.ins (MG K) dx (putF "bounce" (.ref q) (putF "bodies" (.ref D) [])))) c (.lst [])) p (.ins (MG K) dx (putF "contacts" (.ref c) (putF "bounce" (.ref q) (putF "bodies" (.ref D) [])))) x = some o := fun x o hx hxp => by
        rw [upd_ne hxp, upd_ne (ne_of_none hx nc1), upd_ne hxp, upd_ne hxp]
        exact hx
      refine k _ D c as (fun b o hb hbp => up b o (s1 _ _ hb) (fun e => hbp (by rw [e]; exact List.mem_singleton_self _))) hfree hD nc0 ⟨⟨dx, upd_same⟩, up _ _ hDL (Ne.symm npD), up _ _ q1 nqp, by rw [hlen, el], fun i x b hx hb => ?_, hnd, hDas, fun hm => ?_, ncD, [], ?_, rfl, fun i t x h1 h2 => by simp at h1⟩
      · have e := hat i x hx
        rw [hb] at e
        refine up x _ e fun z => ?_
        rw [z, p1] at e
        cases e
      · obtain ⟨j, hj, ej⟩ := List.mem_iff_getElem.mp hm
        have e := hat j c (by rw [List.getElem?_eq_getElem hj, ej])
        rw [nc1] at e
        cases e
      · rw [upd_ne (Ne.symm npc), upd_same]
        rfl
/-! ### wishes -/
theorem sc_wishes : FnScope ["self", "axis", "found", "body", "mass", "total"] ["self", "axis"] (defScope s_wishes) := ⟨rfl, rfl, rfl, by decide +kernel, rfl, by decide +kernel, by decide +kernel⟩
def spWishes (K : PySem.W.Frag) : Sp := fun vs H Q _ => ∃ (p l q c : Addr) (as : List Addr) (n d : Int) (bs : List B) (cs : List C) (ax : Bool), vs = [.ref p, .int (axI ax)] ∧ Mv (MG K) p l q c as n d H bs cs ∧ bs.length ≤ 8 ∧ (∀ b ∈ bs, BG b) ∧
  ∀ (H' : Hp) (v : Addr), But as H H' → H v = none → v ∉ as → Mv (MG K) p l q c as n d H' (bs.map (carr ax)) cs → H' v = some (.lst ((bs.map (wish ax)).map V.int)) → Q (.ref v) H'
theorem int_at {xs : List V} {i : Nat} {v : V} (h : xs[i]? = some v) {z : Int} (e : z = (i : Int)) : atI xs z = some v := at_of e h
theorem ixN_at {n : Nat} {z : Int} {j : Nat} (e : z = (j : Int)) (h : j < n) : ixN n z = some j := by
  rw [e]
  unfold ixN
  rw [if_pos (by omega), if_pos (by omega)]
  simp
theorem ok_wishes (T : Txt K mg) : C8.Met P w K mg base 2 (MG K) "wishes" (spWishes K) [] := by
  have cLim : C8.Cal P w K mg base 1 "limited" spLim [] := ok_limited T
  refine T.met (ps := ["self", "axis"]) 16 18 rfl rfl sc_wishes (fun _ _ _ _ _ _ us hl => match us, hl with | [_, _], _ => rfl) (fun vs H Q E h => ?_) (fun f cdv A outer s H vs Q E hr h => ?_)
  · obtain ⟨p, l, q, c, as, n, d, bs, cs, ax, rfl, _⟩ := h
    rfl
  · obtain ⟨p, l, q, c, as, n, d, bs, cs, ax, rfl, m, hl8, hg, k⟩ := h
    refine ⟨_, (pss_cons (ps_set (i := 2) sc_wishes.nd rfl (by first | exact Or.inl rfl | exact Or.inr rfl) (pe_lst pa_nil)) (pss_cons (ps_for PassesOwn.never rfl (pi_list (pe_fld (pv 0) rfl)) (pg_name (i := 3) sc_wishes.nd rfl (by first | exact Or.inl rfl | exact Or.inr rfl)) (pss_cons (ps_set (i := 4) sc_wishes.nd rfl (by first | exact Or.inl rfl | exact Or.inr rfl) (pe_ix ix_list (pv 3) pe_int (fun _ _ => rfl))) (pss_one (ps_if (pt_cmpR op_eq (pv 4) pe_int (nomark _)) (pss_one (ps_expr (pe_bm PySem.F.plainAttrs_list PySem.F.slot_list_append PySem.F.type_list_append mt_append (pv 2) (pa_cons pe_int pa_nil)))) (pss_cons (ps_set (i := 5) sc_wishes.nd rfl (by first | exact Or.inl rfl | exact Or.inr rfl) (pe_op op_add (pe_ix ix_list (pv 3) (pe_op op_add pe_int (pv 1)) (fun _ _ => rfl)) (pe_ix ix_list (pv 3) (pe_op op_add pe_int (pv 1)) (fun _ _ => rfl)))) (pss_cons (ps_expr (pe_bm PySem.F.plainAttrs_list PySem.F.slot_list_append PySem.F.type_list_append mt_append (pv 2) (pa_cons (C8.pe_c cLim hr (by decide) (by rfl) (pa_cons (pe_op op_fdiv (pv 5) (pv 4)) pa_nil)) pa_nil))) (pss_one (ps_asg (pe_op op_sub (pv 5) (pe_op op_mul (pv 4) (pe_op op_fdiv (pv 5) (pv 4)))) (pg_sub (pv 3) (pe_op op_add pe_int (pv 1)) set_list))))))))) (pss_one (ps_ret (pv 2))))), ?_⟩
    refine ⟨Nat.zero_le _, fun v nv => ?_⟩
    have nvas : v ∉ as := fun hm => by
      obtain ⟨j, hj, ej⟩ := List.mem_iff_getElem.mp hm
      have hj2 : j < bs.length := by rw [← m.len]; exact hj
      have e := m.at_ j v bs[j] (by rw [List.getElem?_eq_getElem hj, ej]) (List.getElem?_eq_getElem hj2)
      rw [nv] at e
      cases e
    have m1 := m.same (same_new (o := .lst []) nv)
    obtain ⟨dx, hp⟩ := m1.ins
    refine ⟨_, rfl, p, MG K, dx, _, _, rfl, hp, T.mcl, T.nBo, mf_bodies _ _ _, l, rfl, ⟨_, SqL.of m1.bod⟩, ?_⟩
    refine for_it (walk_list (K := K) (a := l) (xs := as.map V.ref)) (fun i σ H2 => ∃ (v3 v4 v5 : Option V) (bI : List B), σ = [some (.ref p), some (.int (axI ax)), some (.ref v), v3, v4, v5] ∧ But (v :: as) (upd H v (.lst [])) H2 ∧ Mv (MG K) p l q c as n d H2 bI cs ∧
        (∀ j : Nat, bI[j]? = (bs[j]?).map (if j < i then carr ax else id)) ∧ H2 v = some (.lst (((bs.take i).map (wish ax)).map V.int))) ⟨none, none, none, bs, rfl, But.refl _ _, m1, fun j => by simp, upd_same⟩ (fun i σ H2 _ pv => ?_) (fun i x σ H2 H3 hi pv y => ?_) (fun σ H2 pv => ?_)
    · obtain ⟨_, _, _, _, _, _, m2, _⟩ := pv
      exact SqL.of m2.bod
    · obtain ⟨v3, v4, v5, bI, rfl, bt, m2, hI, hv⟩ := pv
      obtain ⟨rfl, hx⟩ := y
      obtain ⟨a, ha, rfl⟩ := ref_of hx
      have hib : i < bs.length := by
        rw [List.length_map, m.len] at hi
        exact hi
      have hb : bs[i]? = some bs[i] := List.getElem?_eq_getElem hib
      generalize bs[i] = b at hb
      have hbI : bI[i]? = some b := by
        rw [hI i, hb, if_neg (Nat.lt_irrefl i)]
        rfl
      have hA := m2.at_ i a b ha hbI
      have g := hg b (at_mem hb)
      have amem : a ∈ as := List.mem_of_getElem? ha
      have nva : v ≠ a := fun e => nvas (by rw [e]; exact amem)
      have nvc : v ≠ c := fun e => by
        obtain ⟨ts, hc, _⟩ := m.con
        rw [← e, nv] at hc
        cases hc
      have nvl : v ≠ l := fun e => by
        have hl := m.bod
        rw [← e, nv] at hl
        cases hl
      have tk : (bs.take (i + 1)).map (wish ax) = (bs.take i).map (wish ax) ++ [wish ax b] := by
        rw [List.take_add_one, hb, List.map_append]
        rfl
      have hsz : (((bs.take i).map (wish ax)).map V.int).length < sizeLine := by
        rw [List.length_map, List.length_map, List.length_take]
        exact line_of (by omega)
      have nextI : ∀ (b' : B) (bJ : List B), b' = carr ax b → (∀ j : Nat, bJ[j]? = if j = i then some b' else bI[j]?) → ∀ j : Nat, bJ[j]? = (bs[j]?).map (if j < i + 1 then carr ax else id) := fun b' bJ e h j => by
        rw [h j]
        by_cases hj : j = i
        · rw [if_pos hj, hj, hb, if_pos (by omega), e]
          rfl
        · rw [if_neg hj, hI j]
          by_cases hj2 : j < i
          · rw [if_pos hj2, if_pos (by omega)]
          · rw [if_neg hj2, if_neg (by omega)]
      refine ⟨_, rfl, a, _, 5, _, rfl, rfl, SqL.of hA, atI_nat (j := 5) rfl, ?_⟩
      refine ⟨_, rfl, rfl, _, rfl, ?_⟩
      have em : decide (V.int b.m = V.int 0) = decide (b.m = 0) := decide_eq_decide.mpr ⟨fun z => V.int.inj z, fun z => by rw [z]⟩
      rw [em]
      refine ite2 (fun h0 => ?_) (fun h0 => ?_)
      · have hm0 : b.m = 0 := of_decide_eq_true h0
        have ew : wish ax b = 0 := by unfold wish; rw [if_pos hm0]
        have ec : carr ax b = b := by unfold carr; rw [if_pos hm0]
        refine ⟨_, rfl, .inl ⟨rfl, _, SqL.of hv⟩, v, _, _, rfl, rfl, hv, hsz, ?_⟩
        refine ⟨_, _, _, bI, rfl, bt.trans (But.upd (List.mem_cons_self ..)), m2.off hv (by intro xs z; cases z) (by intro _ _ _ z; cases z) nvas nvc nvl, ?_, ?_⟩
        · exact nextI b bI ec.symm fun j => by
            by_cases hj : j = i
            · rw [if_pos hj, hj, hbI]
            · rw [if_neg hj]
        · rw [upd_same, tk, List.map_append, ew]
          rfl
      · have hm0 : ¬ b.m = 0 := fun z => h0 (decide_eq_true z)
        have gm0 := g.m0
        have gm1 := g.m1
        have hdiv : CDiv (b.mom ax + b.car ax) b.m := ⟨by omega, by omega⟩
        have ew : wish ax b = lim ((b.mom ax + b.car ax) / b.m) := by unfold wish; rw [if_neg hm0]
        have ec : carr ax b = b.setCar ax (b.mom ax + b.car ax - b.m * ((b.mom ax + b.car ax) / b.m)) := by unfold carr; rw [if_neg hm0]
        refine ⟨_, rfl, _, rfl, 6, axI ax, rfl, rfl, a, _, _, _, rfl, rfl, SqL.of hA, int_at (vB_mom b ax) (by have := axN_axI ax; omega), _, rfl, _, rfl, 8, axI ax, rfl, rfl, a, _, _, _, rfl, rfl, SqL.of hA, int_at (vB_car b ax) (by have := axN_axI ax; omega), b.mom ax, b.car ax, rfl, rfl, ?_⟩
        refine ⟨_, rfl, .inl ⟨rfl, _, SqL.of hv⟩, _, rfl, _, rfl, _, b.m, rfl, rfl, hdiv, _, rfl, v, _, _, rfl, rfl, hv, hsz, ?_⟩
        have hA' : (upd H3 v (.lst (((bs.take i).map (wish ax)).map V.int ++ [.int (lim ((b.mom ax + b.car ax) / b.m))]))) a = some (.lst (vB b)) := by
          rw [upd_ne (Ne.symm nva)]
          exact hA
        refine ⟨_, rfl, _, rfl, _, rfl, _, rfl, _, b.m, rfl, rfl, hdiv, b.m, _, rfl, rfl, .inl (by omega), _, _, rfl, rfl, ?_⟩
        refine ⟨_, rfl, _, rfl, 8, axI ax, rfl, rfl, a, _, _, 8 + axN ax, rfl, rfl, hA', ixN_at (by have := axN_axI ax; omega) (by rw [vB_len]; cases ax <;> decide), ?_⟩
        rw [vB_setCar]
        have m3 := (m2.off (o := .lst (((bs.take i).map (wish ax)).map V.int ++ [.int (lim ((b.mom ax + b.car ax) / b.m))])) hv (by intro xs z; cases z) (by intro _ _ _ z; cases z) nvas nvc nvl).put (b' := b.setCar ax (b.mom ax + b.car ax - b.m * ((b.mom ax + b.car ax) / b.m))) ha hbI
        refine ⟨_, _, _, _, rfl, (bt.trans (But.upd (List.mem_cons_self ..))).trans (But.upd (List.mem_cons_of_mem _ amem)), m3, ?_, ?_⟩
        · refine nextI _ _ ec.symm fun j => ?_
          by_cases hj : j = i
          · rw [if_pos hj, hj, List.getElem?_set_self (List.getElem?_eq_some_iff.mp hbI).1]
          · rw [if_neg hj, List.getElem?_set_ne (Ne.symm hj)]
        · rw [upd_ne nva, upd_same, tk, List.map_append, ew]
          rfl
    · obtain ⟨v3, v4, v5, bI, rfl, bt, m2, hI, hv⟩ := pv
      have eI : bI = bs.map (carr ax) := by
        apply List.ext_getElem?
        intro j
        rw [hI j, List.getElem?_map, List.length_map, m.len]
        by_cases hj : j < bs.length
        · rw [if_pos hj]
        · rw [List.getElem?_eq_none (by omega)]
          rfl
      rw [List.length_map, m.len, List.take_length] at hv
      rw [eI] at m2
      refine ⟨_, rfl, k H2 v (fun b o hb hbs => bt b o (same_new nv _ _ hb) ?_) nv nvas m2 hv⟩
      intro hm
      rcases List.mem_cons.mp hm with z | z
      · rw [z, nv] at hb
        cases hb
      · exact hbs z
end
end K22
set_option maxHeartbeats 4000000
/-! K22W7: blocker, meet. -/
namespace K22
open PySem PySem.Spec PyProof.Rows L2
section
variable {P : Program} {w : World} {K : PySem.W.Frag} {mg : Str → Option Value} {base : Heap}
/-! ### blocker -/
def vOpt : Option Nat → V
  | none => .non
  | some k => .int (k : Nat)
theorem sc_blocker : FnScope ["self", "at", "box", "other", "body", "part"] ["self", "at", "box"] (defScope s_blocker) := ⟨rfl, rfl, rfl, by decide +kernel, rfl, by decide +kernel, by decide +kernel⟩
def spBlk (K : PySem.W.Frag) : Sp := fun vs H Q _ => ∃ (p l q c : Addr) (as : List Addr) (n d : Int) (bs : List B) (cs : List C) (i : Nat) (x : Addr) (bx : Bx), vs = [.ref p, .int (i : Nat), .ref x] ∧ Mv (MG K) p l q c as n d H bs cs ∧ bs.length ≤ 8 ∧
  H x = some (.tup (vBx bx)) ∧ (Cd bx.x0 ∧ Cd bx.y0 ∧ Cd bx.x1 ∧ Cd bx.y1) ∧ ∀ H', Same H H' → Q (vOpt (blk bs i bx)) H'
theorem ok_blocker (T : Txt K mg) : C8.Met P w K mg base 4 (MG K) "blocker" (spBlk K) [] := by
  have cOv : C8.Cal P w K mg base 1 "do_overlap" spOverlap [] := ok_do_overlap T
  have cRaw : C8.Cal P w K mg base 1 "raw_box" spRaw [] := ok_raw_box T
  have cCoord : C8.Cal P w K mg base 3 "is_coordinate" spCoord [] := ok_is_coordinate T
  refine T.met (ps := ["self", "at", "box"]) 17 19 rfl rfl sc_blocker (fun _ _ _ _ _ _ us hl => match us, hl with | [_, _, _], _ => rfl) (fun vs H Q E h => ?_) (fun f cdv A outer s H vs Q E hr h => ?_)
  · obtain ⟨p, l, q, c, as, n, d, bs, cs, i, x, bx, rfl, _⟩ := h
    rfl
  · obtain ⟨p, l, q, c, as, n, d, bs, cs, i, x, bx, rfl, m, hl8, hx, hc, k⟩ := h
    refine ⟨_, (pss_cons (ps_for PassesOwn.never rfl (pi_enum (by rfl) (T.free 55) (pa_cons (pe_fld (pv 0) rfl) pa_nil)) (pg_tup rfl (pgs_cons (pg_name (i := 3) sc_blocker.nd rfl (by first | exact Or.inl rfl | exact Or.inr rfl)) (pgs_cons (pg_name (i := 4) sc_blocker.nd rfl (by first | exact Or.inl rfl | exact Or.inr rfl)) pgs_nil))) (pss_one (ps_if (PW.pt (pw_and (pt_cmpR op_ne (pv 3) (pv 1) (nomark _)) (pw_and1 (pt_val (C8.pe_c cOv hr (by decide) (by rfl) (pa_cons (pv 2) (pa_cons (C8.pe_c cRaw hr (by decide) (by rfl) (pa_cons (pv 4) pa_nil)) pa_nil))))))) (pss_one (ps_ret (pv 3))) pss_nil))) (pss_one (ps_ret (pe_ifExp (pt_val (pe_callB (cr_all rfl) (by rfl) (T.free 50) (by decide +kernel) (pa_cons (pe_lc (own := [("part", 5)]) (g := gName 5) (tt := tYes) rfl sc_blocker.nd (pi_tup (pv 2)) (blkOk_by (N := ["self", "at", "box", "other", "body", "part"]) (sc := defScope s_blocker) (by decide +kernel)) (fun _ _ _ _ _ => (pg_name (i := 5) sc_blocker.nd rfl (by first | exact Or.inl rfl | exact Or.inr rfl))) (fun _ _ _ _ _ => pts_nil) (fun _ _ _ _ _ => (C8.pe_c cCoord hr (by decide) (by rfl) (pa_cons (pv 5) pa_nil)))) pa_nil))) pe_non (pe_un un_neg pe_int))))), ?_⟩
    obtain ⟨dx, hp⟩ := m.ins
    refine ⟨_, rfl, p, MG K, dx, _, _, rfl, hp, T.mcl, T.nBo, mf_bodies _ _ _, l, _, rfl, SqL.of m.bod, ?_⟩
    have el : (as.map V.ref).length = bs.length := by rw [List.length_map, m.len]
    refine for_it (walk_enum (K := K) (a := l) (xs := as.map V.ref)) (fun j σ H2 => ∃ v3 v4, σ = [some (.ref p), some (.int (i : Nat)), some (.ref x), v3, v4, none] ∧ Same H H2 ∧ ∀ j', j' < j → hit bs i bx j' = false) ⟨none, none, rfl, Same.refl _, fun j' h => absurd h (Nat.not_lt_zero _)⟩ (fun j σ H2 _ pv => ?_) (fun j y σ H2 H3 hj pv yy => ?_) (fun σ H2 pv => ?_)
    · obtain ⟨_, _, _, s2, _⟩ := pv
      exact SqL.of (s2 _ _ m.bod)
    · obtain ⟨v3, v4, rfl, s2, hno⟩ := pv
      obtain ⟨t, x1, x2, rfl, nt, rfl, f1, f2⟩ := yy
      have ex1 : x1 = .int (j : Nat) := (Option.some.inj f1).symm
      subst ex1
      obtain ⟨a, ha, rfl⟩ := ref_of f2
      rw [el] at hj
      have hb : bs[j]? = some bs[j] := List.getElem?_eq_getElem hj
      generalize bs[j] = b at hb
      have s3 : Same H (upd H2 t (.tup [.int (j : Nat), .ref a])) := s2.trans (same_new nt)
      have hA := s3 _ _ (m.at_ j a b ha hb)
      have hX := s3 _ _ hx
      refine ⟨t, [.int (j : Nat), .ref a], rfl, .inl (.inl upd_same), rfl, .int (j : Nat), [.ref a], rfl, .ref a, [], rfl, rfl, ?_⟩
      refine ⟨_, rfl, _, rfl, rfl, _, rfl, ?_⟩
      have en : (!decide (V.int (j : Nat) = V.int (i : Nat))) = decide (j ≠ i) := by
        by_cases e : j = i
        · subst e
          simp
        · rw [decide_eq_true (show j ≠ i from e), decide_eq_false (show ¬ V.int ((j : Nat) : Int) = V.int ((i : Nat) : Int) from fun z => e (by have := V.int.inj z; omega))]
          rfl
      rw [en]
      refine ite2 (fun h1 => ?_) (fun h1 => ?_)
      · refine ⟨_, rfl, .ref a, rfl, a, b, rfl, .inr hA, fun r nr => ⟨x, r, bx, b.box, rfl, same_new nr _ _ hX, upd_same, ?_⟩⟩
        refine ⟨_, rfl, ?_⟩
        have hh : hit bs i bx j = ov bx b.box := by
          rw [hit_eq hb, h1, Bool.true_and]
        refine ite2 (fun h2 => ?_) (fun h2 => ?_)
        · have e : blk bs i bx = some j := blk_some.mpr ⟨by rw [hh]; exact h2, hno⟩
          rw [e] at k
          exact ⟨_, rfl, k _ (s3.trans (same_new nr))⟩
        · refine ⟨_, _, rfl, s3.trans (same_new nr), fun j' hj' => ?_⟩
          by_cases e : j' = j
          · rw [e, hh]
            exact Bool.eq_false_iff.mpr h2
          · exact hno j' (by omega)
      · refine ⟨_, _, rfl, s3, fun j' hj' => ?_⟩
        by_cases e : j' = j
        · rw [e, hit_eq hb, Bool.eq_false_iff.mpr h1]
          rfl
        · exact hno j' (by omega)
    · obtain ⟨v3, v4, rfl, s2, hno⟩ := pv
      have e : blk bs i bx = none := blk_none.mpr fun j => by
        by_cases hj : j < bs.length
        · exact hno j (by rw [el]; exact hj)
        · unfold hit
          rw [List.getElem?_eq_none (by omega)]
      rw [e] at k
      have hX := s2 _ _ hx
      dsimp only [tRet, tIf, tB, tCB, tCons]
      refine lc_pure (n := 4) (r := fun i y => (vBx bx)[i]? = some y) (fun _ => .bl true) (fun R kk => ⟨_, rfl, x, rfl, ⟨_, SqT.of hX⟩, kk _ _ (Same.refl _) (pure_tup hX)⟩) (by decide) (fun _ => rfl) (fun i y H1 Q' hi hy s1 kk => ?_) (fun D H' hD s1 hL => ?_)
      · obtain ⟨z, rfl, hz⟩ := box_part hc hy
        have e : decide (-20000 ≤ z ∧ z ≤ 20000) = true := decide_eq_true hz
        refine ⟨_, rfl, z, rfl, ?_⟩
        rw [e]
        exact kk H1 (Same.refl _)
      · refine ⟨_, (List.range 4).map fun _ => true, rfl, SqL.of (by rw [hL, map_bl]), ?_⟩
        rw [all_true]
        exact ⟨true, rfl, iteT (k H' (s2.trans s1))⟩
/-! ### meet -/
theorem sc_meet : FnScope ["self", "axis", "sign", "at", "other", "body", "u", "name", "mass", "v", "j"] ["self", "axis", "sign", "at", "other"] (defScope s_meet) := ⟨rfl, rfl, rfl, by decide +kernel, rfl, by decide +kernel, by decide +kernel⟩
def spMeet (K : PySem.W.Frag) : Sp := fun vs H Q _ => ∃ (p l q c : Addr) (as : List Addr) (n d : Int) (bs : List B) (cs : List C) (ax : Bool) (s : Int) (i k : Nat) (b o : B), vs = [.ref p, .int (axI ax), .int s, .int (i : Nat), .int (k : Nat)] ∧ Mv (MG K) p l q c as n d H bs cs ∧ Bn n d ∧ cs.length ≤ 50 ∧
  (-2 ≤ s ∧ s ≤ 2) ∧ bs[i]? = some b ∧ bs[k]? = some o ∧ k ≠ i ∧ BG b ∧ BG o ∧ ∀ H', But (c :: as) H H' → Mv (MG K) p l q c as n d H' (K22.meet ax n d s i k b o bs) (cs ++ [⟨ax, s, b.n, o.n, jOf ax n d s b o⟩]) → Q .non H'
theorem xy_at (ax : Bool) : ∃ z : Nat, atI ("xy" : Str).cps.toList (axI ax) = some z ∧ V.str ⟨#[z]⟩ = .str (if ax then "y" else "x") := by
  cases ax
  · exact ⟨120, by decide +kernel, by decide +kernel⟩
  · exact ⟨121, by decide +kernel, by decide +kernel⟩
theorem ok_meet (T : Txt K mg) : C8.Met P w K mg base 2 (MG K) "meet" (spMeet K) [] := by
  have cPass : C8.Cal P w K mg base 1 "passed" spPass [] := ok_passed T
  refine T.met (ps := ["self", "axis", "sign", "at", "other"]) 18 20 rfl rfl sc_meet (fun _ _ _ _ _ _ us hl => match us, hl with | [_, _, _, _, _], _ => rfl) (fun vs H Q E h => ?_) (fun f cdv A outer s H vs Q E hr h => ?_)
  · obtain ⟨p, l, q, c, as, n, d, bs, cs, ax, s, i, k, b, o, rfl, _⟩ := h
    rfl
  · obtain ⟨p, l, q, c, as, n, d, bs, cs, ax, s, i, k, b, o, rfl, m, hB, hcl, hs, hb, ho, hki, gb, go, kk⟩ := h
    refine ⟨_, (pss_cons (ps_set (i := 5) sc_meet.nd rfl (by first | exact Or.inl rfl | exact Or.inr rfl) (pe_ix ix_list (pe_fld (pv 0) rfl) (pv 3) (fun _ _ => rfl))) (pss_cons (ps_set (i := 6) sc_meet.nd rfl (by first | exact Or.inl rfl | exact Or.inr rfl) (pe_op op_mul (pv 2) (pe_ix ix_list (pv 5) (pe_op op_add pe_int (pv 1)) (fun _ _ => rfl)))) (pss_cons (ps_set (i := 7) sc_meet.nd rfl (by first | exact Or.inl rfl | exact Or.inr rfl) (C8.pe_gc (by rfl) (T.str 44))) (pss_cons (ps_set (i := 8) sc_meet.nd rfl (by first | exact Or.inl rfl | exact Or.inr rfl) pe_int) (pss_cons (ps_set (i := 9) sc_meet.nd rfl (by first | exact Or.inl rfl | exact Or.inr rfl) pe_int) (pss_cons (ps_if (pt_cmpR op_ge (pv 4) pe_int (nomark _)) (pss_cons (ps_set (i := 7) sc_meet.nd rfl (by first | exact Or.inl rfl | exact Or.inr rfl) (pe_ix ix_list (pe_ix ix_list (pe_fld (pv 0) rfl) (pv 4) (fun _ _ => rfl)) pe_int (fun _ _ => rfl))) (pss_cons (ps_set (i := 8) sc_meet.nd rfl (by first | exact Or.inl rfl | exact Or.inr rfl) (pe_ix ix_list (pe_ix ix_list (pe_fld (pv 0) rfl) (pv 4) (fun _ _ => rfl)) pe_int (fun _ _ => rfl))) (pss_one (ps_set (i := 9) sc_meet.nd rfl (by first | exact Or.inl rfl | exact Or.inr rfl) (pe_op op_mul (pv 2) (pe_ix ix_list (pe_ix ix_list (pe_fld (pv 0) rfl) (pv 4) (fun _ _ => rfl)) (pe_op op_add pe_int (pv 1)) (fun _ _ => rfl))))))) pss_nil) (pss_cons (ps_set (i := 10) sc_meet.nd rfl (by first | exact Or.inl rfl | exact Or.inr rfl) (C8.pe_c cPass hr (by decide) (by rfl) (pa_cons (pe_fld (pv 0) rfl) (pa_cons (pv 6) (pa_cons (pe_ix ix_list (pv 5) pe_int (fun _ _ => rfl)) (pa_cons (pv 9) (pa_cons (pv 8) pa_nil))))))) (pss_cons (ps_asg (pe_op op_sub (pe_ix ix_list (pv 5) (pe_op op_add pe_int (pv 1)) (fun _ _ => rfl)) (pe_op op_mul (pv 2) (pv 10))) (pg_sub (pv 5) (pe_op op_add pe_int (pv 1)) set_list)) (C8.pss_cut (ps_if (pt_cmpR op_gt (pv 8) pe_int (nomark _)) (pss_one (ps_asg (pe_op op_add (pe_ix ix_list (pe_ix ix_list (pe_fld (pv 0) rfl) (pv 4) (fun _ _ => rfl)) (pe_op op_add pe_int (pv 1)) (fun _ _ => rfl)) (pe_op op_mul (pv 2) (pv 10))) (pg_sub (pe_ix ix_list (pe_fld (pv 0) rfl) (pv 4) (fun _ _ => rfl)) (pe_op op_add pe_int (pv 1)) set_list))) pss_nil) (pss_one (ps_expr (pe_bm PySem.F.plainAttrs_list PySem.F.slot_list_append PySem.F.type_list_append mt_append (pe_fld (pv 0) rfl) (pa_cons (pe_tup (pa_cons (pe_ix ix_str pe_str (pv 1) (fun _ _ => rfl)) (pa_cons (pv 2) (pa_cons (pe_ix ix_list (pv 5) pe_int (fun _ _ => rfl)) (pa_cons (pv 7) (pa_cons (pv 10) pa_nil)))))) pa_nil))))))))))))), ?_⟩
    obtain ⟨dx, hp⟩ := m.ins
    obtain ⟨a, ha, hA, am⟩ := m.get hb
    obtain ⟨a', ha', hA', am'⟩ := m.get ho
    have nba := axN_axI ax
    have ba : -(2 ^ 64) < s ∧ s < 2 ^ 64 := by omega
    have gm0 := gb.m0
    have gm1 := gb.m1
    have om0 := go.m0
    have om1 := go.m1
    -- body = self.bodies[at]; u = sign * body[6 + axis]; name, mass, v
    refine ⟨_, rfl, p, MG K, dx, _, _, rfl, hp, T.mcl, T.nBo, mf_bodies _ _ _, _, rfl, l, _, _, _, rfl, rfl, SqL.of m.bod, atI_nat (j := i) (ref_at ha), ?_⟩
    refine ⟨_, rfl, _, rfl, _, rfl, 6, axI ax, rfl, rfl, a, _, _, _, rfl, rfl, SqL.of hA, int_at (vB_mom b ax) (by omega), s, b.mom ax, rfl, rfl, .inl ba, ?_⟩
    -- if other >= 0
    refine ⟨_, rfl, (k : Nat), 0, rfl, rfl, _, rfl, ?_⟩
    rw [show decide ((0 : Int) ≤ ((k : Nat) : Int)) = true from decide_eq_true (by omega)]
    refine iteT ?_
    refine ⟨_, rfl, p, MG K, dx, _, _, rfl, hp, T.mcl, T.nBo, mf_bodies _ _ _, _, rfl, l, _, _, _, rfl, rfl, SqL.of m.bod, atI_nat (j := k) (ref_at ha'), a', _, 0, _, rfl, rfl, SqL.of hA', atI_nat (j := 0) rfl, ?_⟩
    refine ⟨_, rfl, p, MG K, dx, _, _, rfl, hp, T.mcl, T.nBo, mf_bodies _ _ _, _, rfl, l, _, _, _, rfl, rfl, SqL.of m.bod, atI_nat (j := k) (ref_at ha'), a', _, 5, _, rfl, rfl, SqL.of hA', atI_nat (j := 5) rfl, ?_⟩
    refine ⟨_, rfl, _, rfl, p, MG K, dx, _, _, rfl, hp, T.mcl, T.nBo, mf_bodies _ _ _, _, rfl, l, _, _, _, rfl, rfl, SqL.of m.bod, atI_nat (j := k) (ref_at ha'), _, rfl, 6, axI ax, rfl, rfl, a', _, _, _, rfl, rfl, SqL.of hA', int_at (vB_mom o ax) (by omega), s, o.mom ax, rfl, rfl, .inl ba, ?_⟩
    -- j = passed(..)
    refine ⟨_, rfl, p, MG K, dx, _, _, rfl, hp, T.mcl, T.nBn, mf_bounce _ _ _, _, rfl, _, rfl, a, _, 5, _, rfl, rfl, SqL.of hA, atI_nat (j := 5) rfl, _, rfl, _, rfl, q, n, d, s * b.mom ax, b.m, s * o.mom ax, o.m, rfl, m.bnc, hB, ⟨gm0, gm1⟩, ⟨om0, om1⟩, ?_⟩
    -- body[6 + axis] = body[6 + axis] - sign * j
    refine ⟨_, rfl, _, rfl, 6, axI ax, rfl, rfl, a, _, _, _, rfl, rfl, SqL.of hA, int_at (vB_mom b ax) (by omega), _, rfl, _, rfl, s, jOf ax n d s b o, rfl, rfl, .inl ba, b.mom ax, _, rfl, rfl, ?_⟩
    refine ⟨_, rfl, _, rfl, 6, axI ax, rfl, rfl, a, _, _, 6 + axN ax, rfl, rfl, hA, ixN_at (by omega) (by rw [vB_len]; cases ax <;> decide), ?_⟩
    rw [vB_setMom]
    have m1 := m.put (b' := b.setMom ax (b.mom ax - s * jOf ax n d s b o)) ha hb
    obtain ⟨dx1, hp1⟩ := m1.ins
    have ho1 : (bs.set i (b.setMom ax (b.mom ax - s * jOf ax n d s b o)))[k]? = some o := by
      rw [List.getElem?_set_ne (Ne.symm hki)]
      exact ho
    have hb1 : (bs.set i (b.setMom ax (b.mom ax - s * jOf ax n d s b o)))[i]? = some (b.setMom ax (b.mom ax - s * jOf ax n d s b o)) := List.getElem?_set_self (List.getElem?_eq_some_iff.mp hb).1
    have hA1' := m1.at_ k a' o ha' ho1
    -- if mass > 0
    refine ⟨fun σ2 H2 => ∃ b2 : B, σ2 = [some (.ref p), some (.int (axI ax)), some (.int s), some (.int (i : Nat)), some (.int (k : Nat)), some (.ref a), some (.int (s * b.mom ax)), some (.str o.n), some (.int o.m), some (.int (s * o.mom ax)), some (.int (jOf ax n d s b o))] ∧
      But as H H2 ∧ Mv (MG K) p l q c as n d H2 (K22.meet ax n d s i k b o bs) cs ∧ (K22.meet ax n d s i k b o bs)[i]? = some b2 ∧ b2.n = b.n, ?_, ?_⟩
    · refine ⟨_, rfl, o.m, 0, rfl, rfl, _, rfl, ?_⟩
      refine ite2 (fun h0 => ?_) (fun h0 => ?_)
      · have hom : 0 < o.m := of_decide_eq_true h0
        refine ⟨_, rfl, p, MG K, dx1, _, _, rfl, hp1, T.mcl, T.nBo, mf_bodies _ _ _, _, rfl, l, _, _, _, rfl, rfl, SqL.of m1.bod, atI_nat (j := k) (ref_at ha'), _, rfl, 6, axI ax, rfl, rfl, a', _, _, _, rfl, rfl, SqL.of hA1', int_at (vB_mom o ax) (by omega), _, rfl, _, rfl, s, jOf ax n d s b o, rfl, rfl, .inl ba, o.mom ax, _, rfl, rfl, ?_⟩
        refine ⟨_, rfl, p, MG K, dx1, _, _, rfl, hp1, T.mcl, T.nBo, mf_bodies _ _ _, _, rfl, l, _, _, _, rfl, rfl, SqL.of m1.bod, atI_nat (j := k) (ref_at ha'), _, rfl, 6, axI ax, rfl, rfl, a', _, _, 6 + axN ax, rfl, rfl, hA1', ixN_at (by omega) (by rw [vB_len]; cases ax <;> decide), ?_⟩
        rw [vB_setMom]
        have m2 := m1.put (b' := o.setMom ax (o.mom ax + s * jOf ax n d s b o)) ha' ho1
        have em : K22.meet ax n d s i k b o bs = (bs.set i (b.setMom ax (b.mom ax - s * jOf ax n d s b o))).set k (o.setMom ax (o.mom ax + s * jOf ax n d s b o)) := by
          unfold K22.meet
          rw [if_pos hom]
        rw [← em] at m2
        exact ⟨b.setMom ax (b.mom ax - s * jOf ax n d s b o), rfl, (But.upd am).trans (But.upd am'), m2, by rw [em, List.getElem?_set_ne hki]; exact hb1, setMom_n _ _ _⟩
      · have hom : ¬ 0 < o.m := fun z => h0 (decide_eq_true z)
        have em : K22.meet ax n d s i k b o bs = bs.set i (b.setMom ax (b.mom ax - s * jOf ax n d s b o)) := by
          unfold K22.meet
          rw [if_neg hom]
        rw [← em] at m1
        exact ⟨b.setMom ax (b.mom ax - s * jOf ax n d s b o), rfl, But.upd am, m1, by rw [em]; exact hb1, setMom_n _ _ _⟩
    · rintro σ2 H2 ⟨b2, rfl, bt, m2, hb2, en⟩
      obtain ⟨dx2, hp2⟩ := m2.ins
      obtain ⟨ts, hc2, hts⟩ := m2.con
      have hA2 := m2.at_ i a b2 ha hb2
      obtain ⟨z, hz1, hz2⟩ := xy_at ax
      refine ⟨_, rfl, p, MG K, dx2, _, _, rfl, hp2, T.mcl, T.nCo, mf_contacts _ _ _, .inl ⟨rfl, _, SqL.of hc2⟩, ?_⟩
      refine ⟨_, rfl, ("xy" : Str), axI ax, z, rfl, rfl, by decide, hz1, _, rfl, _, rfl, a, _, 0, _, rfl, rfl, SqL.of hA2, atI_nat (j := 0) rfl, _, rfl, _, rfl, by show 5 ≤ sizeLine; decide, fun t nt => ?_⟩
      have ht : upd H2 t (.tup (vC ⟨ax, s, b.n, o.n, jOf ax n d s b o⟩)) t = some (.tup (vC ⟨ax, s, b.n, o.n, jOf ax n d s b o⟩)) := upd_same
      have hct : upd H2 t (.tup (vC ⟨ax, s, b.n, o.n, jOf ax n d s b o⟩)) c = some (.lst (ts.map V.ref)) := same_new nt _ _ hc2
      have m3 := (m2.same (same_new (o := .tup (vC ⟨ax, s, b.n, o.n, jOf ax n d s b o⟩)) nt)).log hct (hts.same fun a xs e => same_new nt _ _ e) ht
      rw [hz2, en]
      refine ⟨c, ts.map V.ref, _, rfl, rfl, hct, by rw [List.length_map, hts.1]; exact line_of (by omega), ?_⟩
      exact kk _ (((bt.mono fun x hx => List.mem_cons_of_mem _ hx).trans (But.of (same_new nt))).trans (But.upd (List.mem_cons_self ..))) m3
end
end K22
set_option maxHeartbeats 4000000
/-! K22W8: go. -/
namespace K22
open PySem PySem.Spec PyProof.Rows L2
theorem busy_list (l : List Int) : ((List.range l.length).map fun i => decide (l.getD i 0 ≠ 0)).any id = l.any fun v => decide (v ≠ 0) := by
  have e : ((List.range l.length).map fun i => decide (l.getD i 0 ≠ 0)) = l.map fun v => decide (v ≠ 0) := by
    apply List.ext_getElem?
    intro i
    rw [List.getElem?_map, List.getElem?_map]
    by_cases hi : i < l.length
    · rw [List.getElem?_range hi, List.getElem?_eq_getElem hi]
      show some (decide (l.getD i 0 ≠ 0)) = some (decide (l[i] ≠ 0))
      rw [List.getD_eq_getElem?_getD, List.getElem?_eq_getElem hi]
      rfl
    · rw [List.getElem?_eq_none (by rw [List.length_range]; omega), List.getElem?_eq_none (by omega)]
      rfl
  rw [e, List.any_map]
  rfl
theorem sgn_cases (l : Int) : sgn l = 1 ∨ sgn l = -1 := by
  unfold sgn
  split
  · exact .inl rfl
  · exact .inr rfl
theorem go_in {ax : Bool} {R Q : Int} {ns : List Nm} {cap : Nat} {st : S} (g : Gv ax R Q ns cap st) (hR : R ≤ 19500) (hQ : Q ≤ 19500) {i : Nat} {b : B} {v : Int} (hb : st.bs[i]? = some b) (hv : st.left[i]? = some v) (h0 : v ≠ 0) :
    Cd (b.box.go ax (sgn v)).x0 ∧ Cd (b.box.go ax (sgn v)).y0 ∧ Cd (b.box.go ax (sgn v)).x1 ∧ Cd (b.box.go ax (sgn v)).y1 := by
  have h1 := g.near i b v hb hv
  have h2 := g.oth b (at_mem hb)
  have gb := g.good b (at_mem hb)
  have w1 := gb.w1
  have w2 := gb.w2
  have e1 := gb.h1
  have e2 := gb.h2
  have s1 := sgn_cases v
  rw [go_eq]
  cases ax
  · have a1 : -R ≤ b.x - v.natAbs ∧ b.x + v.natAbs ≤ R := h1
    have a2 : -Q ≤ b.y ∧ b.y ≤ Q := h2
    show Cd (b.x + sgn v) ∧ Cd b.y ∧ Cd (b.x + sgn v + b.w) ∧ Cd (b.y + b.h)
    unfold Cd
    omega
  · have a1 : -R ≤ b.y - v.natAbs ∧ b.y + v.natAbs ≤ R := h1
    have a2 : -Q ≤ b.x ∧ b.x ≤ Q := h2
    show Cd b.x ∧ Cd (b.y + sgn v) ∧ Cd (b.x + b.w) ∧ Cd (b.y + sgn v + b.h)
    unfold Cd
    omega
section
variable {P : Program} {w : World} {K : PySem.W.Frag} {mg : Str → Option Value} {base : Heap}
theorem sc_go : FnScope ["self", "axis", "wishes", "left", "wish", "at", "body", "sign", "box", "other"] ["self", "axis", "wishes"] (defScope s_go) := ⟨rfl, rfl, rfl, by decide +kernel, rfl, by decide +kernel, by decide +kernel⟩
def spGo (K : PySem.W.Frag) : Sp := fun vs H Q _ => ∃ (p l q c : Addr) (as : List Addr) (n d : Int) (bs : List B) (cs : List C) (ax : Bool) (x : Addr) (ws : List Int) (R R' : Int) (ns : List Nm), vs = [.ref p, .int (axI ax), .ref x] ∧ Mv (MG K) p l q c as n d H bs cs ∧ Bn n d ∧
  H x = some (.lst (ws.map V.int)) ∧ Gv ax R R' ns 16 ⟨bs, ws, cs⟩ ∧ R ≤ 19500 ∧ R' ≤ 19500 ∧ ∀ H', But (c :: as) H H' → Mv (MG K) p l q c as n d H' (goM ax n d ⟨bs, ws, cs⟩).bs (goM ax n d ⟨bs, ws, cs⟩).cs → Q .non H'
/-- the list of what is left, in the middle of a round -/
structure Lf (p l c : Addr) (as : List Addr) (H H' : Hp) (x : Addr) (ws : List Int) : Prop where
  at_ : H' x = some (.lst (ws.map V.int))
  new : H x = none
  na : x ∉ as
  nc : x ≠ c
  nl : x ≠ l
theorem ok_go (T : Txt K mg) : C8.Met P w K mg base 5 (MG K) "go" (spGo K) [] := by
  have cMoved : C8.Cal P w K mg base 1 "moved_by" spMoved [] := ok_moved_by T
  have cRaw : C8.Cal P w K mg base 1 "raw_box" spRaw [] := ok_raw_box T
  have c_blocker : C8.Met P w K mg base 4 (MG K) "blocker" (spBlk K) [] := ok_blocker T
  have c_meet : C8.Met P w K mg base 2 (MG K) "meet" (spMeet K) [] := ok_meet T
  refine T.met (ps := ["self", "axis", "wishes"]) 19 21 rfl rfl sc_go (fun _ _ _ _ _ _ us hl => match us, hl with | [_, _, _], _ => rfl) (fun vs H Q E h => ?_) (fun f cdv A outer s H vs Q E hr h => ?_)
  · obtain ⟨p, l, q, c, as, n, d, bs, cs, ax, x, ws, R, R', ns, rfl, _⟩ := h
    rfl
  · obtain ⟨p, l, q, c, as, n, d, bs, cs, ax, x, ws, R, R', ns, rfl, m, hB, hx, g, hR, hR', k⟩ := h
    refine ⟨_, (pss_cons (ps_set (i := 3) sc_go.nd rfl (by first | exact Or.inl rfl | exact Or.inr rfl) (pe_callTy call_list_of (by rfl) (T.free 53) (by decide +kernel) (pa_cons (pv 2) pa_nil))) (pss_one (ps_while PassesOwn.never (pt_val (pe_callB (cr_any rfl) (by rfl) (T.free 51) (by decide +kernel) (pa_cons (pe_lc (own := [("wish", 4)]) (g := gName 4) (tt := tYes) rfl sc_go.nd (pi_list (pv 3)) (blkOk_by (N := ["self", "axis", "wishes", "left", "wish", "at", "body", "sign", "box", "other"]) (sc := defScope s_go) (by decide +kernel)) (fun _ _ _ _ _ => (pg_name (i := 4) sc_go.nd rfl (by first | exact Or.inl rfl | exact Or.inr rfl))) (fun _ _ _ _ _ => pts_nil) (fun _ _ _ _ _ => (pe_cmpR op_ne (pv 4) pe_int (nomark _)))) pa_nil))) (pss_one (ps_for PassesOwn.never rfl (pi_enum (by rfl) (T.free 55) (pa_cons (pe_fld (pv 0) rfl) pa_nil)) (pg_tup rfl (pgs_cons (pg_name (i := 5) sc_go.nd rfl (by first | exact Or.inl rfl | exact Or.inr rfl)) (pgs_cons (pg_name (i := 6) sc_go.nd rfl (by first | exact Or.inl rfl | exact Or.inr rfl)) pgs_nil))) (pss_one (ps_if (pt_cmpR op_ne (pe_ix ix_list (pv 3) (pv 5) (fun _ _ => rfl)) pe_int (nomark _)) (C8.pss_cut (ps_set (i := 7) sc_go.nd rfl (by first | exact Or.inl rfl | exact Or.inr rfl) (pe_ifExp (pt_cmpR op_gt (pe_ix ix_list (pv 3) (pv 5) (fun _ _ => rfl)) pe_int (nomark _)) pe_int (pe_un un_neg pe_int))) (pss_cons (ps_set (i := 8) sc_go.nd rfl (by first | exact Or.inl rfl | exact Or.inr rfl) (C8.pe_c cMoved hr (by decide) (by rfl) (pa_cons (C8.pe_c cRaw hr (by decide) (by rfl) (pa_cons (pv 6) pa_nil)) (pa_cons (pe_op op_mul (pv 7) (pe_op op_sub pe_int (pv 1))) (pa_cons (pe_op op_mul (pv 7) (pv 1)) pa_nil))))) (pss_cons (ps_set (i := 9) sc_go.nd rfl (by first | exact Or.inl rfl | exact Or.inr rfl) (C8.pe_mt c_blocker hr (by decide) (pv 0) (pa_cons (pv 5) (pa_cons (pv 8) pa_nil)))) (pss_one (ps_if (pt_cmpR op_isN (pv 9) pe_non (nomark _)) (pss_cons (ps_asg (pe_op op_add (pe_ix ix_list (pv 6) (pe_op op_add pe_int (pv 1)) (fun _ _ => rfl)) (pv 7)) (pg_sub (pv 6) (pe_op op_add pe_int (pv 1)) set_list)) (pss_one (ps_asg (pe_op op_sub (pe_ix ix_list (pv 3) (pv 5) (fun _ _ => rfl)) (pv 7)) (pg_sub (pv 3) (pv 5) set_list)))) (pss_cons (ps_asg pe_int (pg_sub (pv 3) (pv 5) set_list)) (pss_one (ps_expr (C8.pe_mt c_meet hr (by decide) (pv 0) (pa_cons (pv 1) (pa_cons (pv 7) (pa_cons (pv 5) (pa_cons (pv 9) pa_nil))))))))))))) pss_nil))))))), ?_⟩
    have hax : axI ax = 0 ∨ axI ax = 1 := by cases ax <;> simp [axI]
    have nba := axN_axI ax
    -- left = list(wishes)
    refine ⟨_, rfl, x, _, rfl, .inl (SqL.of hx), fun y ny => ?_⟩
    have nyas : y ∉ as := fun hm => by
      obtain ⟨j, hj, ej⟩ := List.mem_iff_getElem.mp hm
      have hj2 : j < bs.length := by rw [← m.len]; exact hj
      have e := m.at_ j y bs[j] (by rw [List.getElem?_eq_getElem hj, ej]) (List.getElem?_eq_getElem hj2)
      rw [ny] at e
      cases e
    have nyc : y ≠ c := fun e => by
      obtain ⟨ts, hc, _⟩ := m.con
      rw [← e, ny] at hc
      cases hc
    have nyl : y ≠ l := fun e => by
      have hl := m.bod
      rw [← e, ny] at hl
      cases hl
    -- the while loop
    refine ⟨fun mm σ H1 => ∃ (st : S) (v4 v5 v6 v7 v8 v9 : Option V), σ = [some (.ref p), some (.int (axI ax)), some (.ref x), some (.ref y), v4, v5, v6, v7, v8, v9] ∧ mm = mu st.left ∧ But (c :: as) H H1 ∧ Mv (MG K) p l q c as n d H1 st.bs st.cs ∧ H1 y = some (.lst (st.left.map V.int)) ∧
      Gv ax R R' ns 16 st ∧ goM ax n d st = goM ax n d ⟨bs, ws, cs⟩, ⟨_, ⟨bs, ws, cs⟩, none, none, none, none, none, none, rfl, rfl, But.of (same_new ny), m.same (same_new ny), upd_same, g, rfl⟩, ?_⟩
    rintro mm σ H1 ⟨st, v4, v5, v6, v7, v8, v9, rfl, rfl, bt, m1, hy, g1, hgo⟩
    have hl8 := g1.len8
    have hll := g1.len
    have hyl : (st.left.map V.int).length = st.left.length := List.length_map _
    dsimp only [tB, tCB, tCons]
    refine lc_pure (n := (st.left.map V.int).length) (r := fun i z => (st.left.map V.int)[i]? = some z) (fun i => .bl (decide (st.left.getD i 0 ≠ 0))) (fun R kk => ⟨_, rfl, y, rfl, ⟨_, SqL.of hy⟩, kk _ _ (Same.refl _) (pure_lst hy)⟩) (by rw [hyl]; exact line_of (by omega)) (fun _ => rfl) (fun i z H2 Q' hi hz s2 kk => ?_) (fun D H2 hD s2 hL => ?_)
    · rw [List.getElem?_map] at hz
      rw [hyl] at hi
      rw [List.getElem?_eq_getElem hi] at hz
      have ez : z = .int st.left[i] := (Option.some.inj hz).symm
      subst ez
      refine ⟨_, rfl, rfl, ?_⟩
      have e : (!decide (V.int st.left[i] = V.int 0)) = decide (st.left.getD i 0 ≠ 0) := by
        rw [List.getD_eq_getElem?_getD, List.getElem?_eq_getElem hi]
        show _ = decide (st.left[i] ≠ 0)
        by_cases h0 : st.left[i] = 0
        · rw [h0]
          rfl
        · rw [decide_eq_false (show ¬ V.int st.left[i] = V.int 0 from fun z => h0 (V.int.inj z)), decide_eq_true h0]
          rfl
      show Q' (.bl (!decide (V.int st.left[i] = V.int 0))) H2
      rw [e]
      exact kk H2 (Same.refl _)
    · refine ⟨_, (List.range (st.left.map V.int).length).map fun i => decide (st.left.getD i 0 ≠ 0), rfl, SqL.of (by rw [hL, map_bl]), ?_⟩
      rw [hyl, busy_list]
      refine ⟨busy st, rfl, ?_⟩
      have bt2 := bt.trans (But.of s2)
      have m2 := m1.same s2
      have hy2 := s2 _ _ hy
      refine ite2 (fun hbz => ?_) (fun hbz => ?_)
      · -- a round
        refine ⟨fun σ' H' => ∃ (v4 v5 v6 v7 v8 v9 : Option V), σ' = [some (.ref p), some (.int (axI ax)), some (.ref x), some (.ref y), v4, v5, v6, v7, v8, v9] ∧ But (c :: as) H H' ∧ Mv (MG K) p l q c as n d H' (round ax n d st).bs (round ax n d st).cs ∧ H' y = some (.lst ((round ax n d st).left.map V.int)), ?_, ?_⟩
        · rintro σ' H' ⟨v4, v5, v6, v7, v8, v9, rfl, b3, m3, hy3⟩
          exact ⟨_, round_less ax n d st hll hbz, round ax n d st, v4, v5, v6, v7, v8, v9, rfl, rfl, b3, m3, hy3, g1.round, (goM_round hll hbz).trans hgo⟩
        · obtain ⟨dx, hp⟩ := m2.ins
          have el : (as.map V.ref).length = st.bs.length := by rw [List.length_map, m2.len]
          refine ⟨_, rfl, p, MG K, dx, _, _, rfl, hp, T.mcl, T.nBo, mf_bodies _ _ _, l, _, rfl, SqL.of m2.bod, ?_⟩
          refine for_it (walk_enum (K := K) (a := l) (xs := as.map V.ref)) (fun i σ' H' => ∃ (v4 v5 v6 v7 v8 v9 : Option V), σ' = [some (.ref p), some (.int (axI ax)), some (.ref x), some (.ref y), v4, v5, v6, v7, v8, v9] ∧ But (c :: as) H H' ∧ Mv (MG K) p l q c as n d H' (upto ax n d st i).bs (upto ax n d st i).cs ∧ H' y = some (.lst ((upto ax n d st i).left.map V.int)))
            ⟨v4, v5, v6, v7, v8, v9, rfl, bt2, m2, hy2⟩ (fun i σ' H' _ pv => ?_) (fun i z σ' H3 H4 hi pv yy => ?_) (fun σ' H' pv => ?_)
          · obtain ⟨_, _, _, _, _, _, _, _, m3, _⟩ := pv
            exact SqL.of m3.bod
          · obtain ⟨v4, v5, v6, v7, v8, v9, rfl, b3, m3, hy3⟩ := pv
            obtain ⟨t, z1, z2, rfl, nt, rfl, f1, f2⟩ := yy
            have ez1 : z1 = .int (i : Nat) := (Option.some.inj f1).symm
            subst ez1
            obtain ⟨a, ha, rfl⟩ := ref_of f2
            rw [el] at hi
            have gI := g1.upto (n := n) (d := d) i
            have eS : upto ax n d st (i + 1) = step ax n d (upto ax n d st i) i := rfl
            rw [eS]
            obtain ⟨lb, ll⟩ := upto_len ax n d st i
            generalize upto ax n d st i = su at gI lb ll m3 hy3 ⊢
            have hib : i < su.bs.length := by rw [lb]; exact hi
            have hil : i < su.left.length := by rw [gI.len]; exact hib
            have hb : su.bs[i]? = some su.bs[i] := List.getElem?_eq_getElem hib
            have hv : su.left[i]? = some su.left[i] := List.getElem?_eq_getElem hil
            generalize su.bs[i] = b at hb
            generalize su.left[i] = v at hv
            have s4 := same_new (o := .tup [.int (i : Nat), .ref a]) nt
            have ht4 : (upd H3 t (.tup [.int (i : Nat), .ref a])) t = some (.tup [.int (i : Nat), .ref a]) := upd_same
            have b4 := b3.trans (But.of s4)
            have m4 := m3.same s4
            have hy4 := s4 _ _ hy3
            generalize upd H3 t (.tup [.int (i : Nat), .ref a]) = H4 at s4 ht4 b4 m4 hy4 ⊢
            have hA4 := m4.at_ i a b ha hb
            have am : a ∈ as := List.mem_of_getElem? ha
            have hvV : (su.left.map V.int)[i]? = some (.int v) := by
              rw [List.getElem?_map, hv]
              rfl
            have yl : (su.left.map V.int).length = su.left.length := List.length_map _
            have sL : ∀ u : Int, (su.left.map V.int).set i (.int u) = (su.left.set i u).map V.int := fun u => by rw [List.map_set]
            refine ⟨t, [.int (i : Nat), .ref a], rfl, .inl (.inl ht4), rfl, .int (i : Nat), [.ref a], rfl, .ref a, [], rfl, rfl, ?_⟩
            -- if left[at] != 0
            refine ⟨_, rfl, _, rfl, y, _, _, _, rfl, rfl, SqL.of hy4, atI_nat hvV, rfl, _, rfl, ?_⟩
            refine ite2 (fun hn => ?_) (fun hn => ?_)
            · have h0 : v ≠ 0 := fun z => by
                rw [z] at hn
                exact absurd hn (by decide)
              -- sign
              refine ⟨fun σ5 H5 => ∃ v8 v9 : Option V, σ5 = [some (.ref p), some (.int (axI ax)), some (.ref x), some (.ref y), v4, some (.int (i : Nat)), some (.ref a), some (.int (sgn v)), v8, v9] ∧ H5 = H4, ?_, ?_⟩
              · refine ⟨_, rfl, _, rfl, y, _, _, _, rfl, rfl, SqL.of hy4, atI_nat hvV, v, 0, rfl, rfl, _, rfl, ?_⟩
                refine ite2 (fun hp => ?_) (fun hp => ?_)
                · have e : sgn v = 1 := by unfold sgn; rw [if_pos (of_decide_eq_true hp)]
                  rw [e]
                  exact ⟨v8, v9, rfl, rfl⟩
                · have e : sgn v = -1 := by unfold sgn; rw [if_neg (fun z => hp (decide_eq_true z))]
                  rw [e]
                  exact ⟨1, rfl, v8, v9, rfl, rfl⟩
              · rintro σ5 H5 ⟨v8, v9, rfl, rfl⟩
                have hsg := sgn_cases v
                have bs1 : -(2 ^ 64) < sgn v ∧ sgn v < 2 ^ 64 := by omega
                -- box = moved_by(raw_box(body), ..)
                refine ⟨_, rfl, a, b, rfl, .inr hA4, fun r nr => ?_⟩
                refine ⟨_, rfl, _, rfl, 1, axI ax, rfl, rfl, sgn v, _, rfl, rfl, .inl bs1, _, rfl, _, rfl, sgn v, axI ax, rfl, rfl, .inl bs1, r, b.box, _, _, rfl, upd_same, fun r2 nr2 => ?_⟩
                have s5 : Same H5 (upd (upd H5 r (.tup (vBx b.box))) r2 (.tup (vBx (b.box.go ax (sgn v))))) := (same_new nr).trans (same_new nr2)
                have hX5 : (upd (upd H5 r (.tup (vBx b.box))) r2 (.tup (vBx (b.box.go ax (sgn v))))) r2 = some (.tup (vBx (b.box.go ax (sgn v)))) := upd_same
                have m5 := m4.same s5
                have b5 := b4.trans (But.of s5)
                have hy5 := s5 _ _ hy4
                show tSeq _ _ _ _ (upd (upd H5 r (.tup (vBx b.box))) r2 (.tup (vBx (b.box.go ax (sgn v)))))
                generalize upd (upd H5 r (.tup (vBx b.box))) r2 (.tup (vBx (b.box.go ax (sgn v)))) = H6 at s5 hX5 m5 b5 hy5 ⊢
                obtain ⟨dx5, hp5⟩ := m5.ins
                -- other = self.blocker(at, box)
                refine ⟨_, rfl, p, dx5, _, rfl, hp5, mf_blocker _ _ _, _, rfl, _, rfl, p, l, q, c, as, n, d, su.bs, su.cs, i, r2, _, rfl, m5, gI.len8, hX5, go_in gI hR hR' hb hv h0, fun H7 s7 => ?_⟩
                have m7 := m5.same s7
                have b7 := b5.trans (But.of s7)
                have hy7 := s7 _ _ hy5
                have hA7 := m7.at_ i a b ha hb
                refine ⟨_, rfl, rfl, _, rfl, ?_⟩
                cases hk : blk su.bs i (b.box.go ax (sgn v)) with
                | none =>
                  have e : step ax n d su i = ⟨su.bs.set i (b.setPos ax (b.pos ax + sgn v)), su.left.set i (v - sgn v), su.cs⟩ := by
                    unfold step
                    rw [hb, hv]
                    dsimp only
                    rw [if_neg h0, hk]
                  rw [e]
                  refine iteT ?_
                  refine ⟨_, rfl, _, rfl, 1, axI ax, rfl, rfl, a, _, _, _, rfl, rfl, SqL.of hA7, int_at (vB_pos b ax) (by omega), _, rfl, b.pos ax, sgn v, rfl, rfl, ?_⟩
                  refine ⟨_, rfl, _, rfl, 1, axI ax, rfl, rfl, a, _, _, 1 + axN ax, rfl, rfl, hA7, ixN_at (by omega) (by rw [vB_len]; cases ax <;> decide), ?_⟩
                  rw [vB_setPos]
                  have m8 := m7.put (b' := b.setPos ax (b.pos ax + sgn v)) ha hb
                  have nya : y ≠ a := fun e => nyas (by rw [e]; exact am)
                  have hy8 : (upd H7 a (.lst (vB (b.setPos ax (b.pos ax + sgn v))))) y = some (.lst (su.left.map V.int)) := by
                    rw [upd_ne nya]
                    exact hy7
                  refine ⟨_, rfl, _, rfl, y, _, _, _, rfl, rfl, SqL.of hy8, atI_nat hvV, _, rfl, v, sgn v, rfl, rfl, _, rfl, _, rfl, y, _, _, i, rfl, rfl, hy8, ixN_at rfl (by rw [yl]; exact hil), ?_⟩
                  rw [sL]
                  have m9 := m8.off (o := .lst ((su.left.set i (v - sgn v)).map V.int)) hy8 (by intro xs z; cases z) (by intro _ _ _ z; cases z) nyas nyc nyl
                  refine ⟨_, _, _, _, _, _, rfl, fun b0 o0 hb0 hs0 => ?_, m9, upd_same⟩
                  have n1 : b0 ≠ y := fun e => by
                    rw [e, ny] at hb0
                    cases hb0
                  have n2 : b0 ≠ a := fun e => hs0 (List.mem_cons_of_mem _ (by rw [e]; exact am))
                  rw [upd_ne n1, upd_ne n2]
                  exact b7 _ _ hb0 hs0
                | some k0 =>
                  obtain ⟨o, ho, hki, _⟩ := hit_at (blk_some.mp hk).1
                  have e : step ax n d su i = ⟨K22.meet ax n d (sgn v) i k0 b o su.bs, su.left.set i 0, su.cs ++ [⟨ax, sgn v, b.n, o.n, jOf ax n d (sgn v) b o⟩]⟩ := by
                    unfold step
                    rw [hb, hv]
                    dsimp only
                    rw [if_neg h0, hk]
                    dsimp only
                    rw [ho]
                  rw [e]
                  refine iteF ?_
                  refine ⟨_, rfl, _, rfl, y, _, _, i, rfl, rfl, hy7, ixN_at rfl (by rw [yl]; exact hil), ?_⟩
                  rw [sL]
                  have m8 := m7.off (o := .lst ((su.left.set i 0).map V.int)) hy7 (by intro xs z; cases z) (by intro _ _ _ z; cases z) nyas nyc nyl
                  have hy8 : (upd H7 y (.lst ((su.left.set i 0).map V.int))) y = some (.lst ((su.left.set i 0).map V.int)) := upd_same
                  have b8 : But (c :: as) H (upd H7 y (.lst ((su.left.set i 0).map V.int))) := fun b0 o0 hb0 hs0 => by
                    have n1 : b0 ≠ y := fun e => by
                      rw [e, ny] at hb0
                      cases hb0
                    rw [upd_ne n1]
                    exact b7 _ _ hb0 hs0
                  obtain ⟨dx8, hp8⟩ := m8.ins
                  have cap := gI.cap
                  refine ⟨_, rfl, p, dx8, _, rfl, hp8, mf_meet _ _ _, _, rfl, _, rfl, _, rfl, _, rfl, p, l, q, c, as, n, d, su.bs, su.cs, ax, sgn v, i, k0, b, o, rfl, m8, hB, by omega, by omega, hb, ho, hki, gI.good b (at_mem hb), gI.good o (at_mem ho), fun H9 b9 m9 => ?_⟩
                  refine ⟨_, _, _, _, _, _, rfl, b8.trans b9, m9, b9 _ _ hy8 fun hm => ?_⟩
                  rcases List.mem_cons.mp hm with z | z
                  · exact nyc z
                  · exact nyas z
            · have h0 : v = 0 := by
                by_cases z : v = 0
                · exact z
                · exact absurd (by rw [decide_eq_false (show ¬ V.int v = V.int 0 from fun q => z (V.int.inj q))]; rfl) hn
              have e : step ax n d su i = su := by
                unfold step
                rw [hb, hv]
                dsimp only
                rw [if_pos h0]
              rw [e]
              exact ⟨_, _, _, _, _, _, rfl, b4, m4, hy4⟩
          · obtain ⟨v4, v5, v6, v7, v8, v9, rfl, b3, m3, hy3⟩ := pv
            rw [el] at m3 hy3
            exact ⟨v4, v5, v6, v7, v8, v9, rfl, b3, m3, hy3⟩
      · have hz : busy st = false := Bool.eq_false_iff.mpr hbz
        rw [goM_done hz] at hgo
        refine k H2 bt2 ?_
        rw [← hgo]
        exact m2
end
end K22
set_option maxHeartbeats 4000000
/-! K22W9: tick. -/
namespace K22
open PySem PySem.Spec PyProof.Rows L2
theorem But.to_same {S : List Addr} {H H1 H2 : Hp} (b : But S H1 H2) (s : Same H H1) (h : ∀ x ∈ S, H x = none) : Same H H2 := fun x o e => b x o (s x o e) fun hx => by
  rw [h x hx] at e
  cases e
theorem Gv.capm {ax : Bool} {R Q : Int} {ns : List Nm} {cap cap' : Nat} {st : S} (g : Gv ax R Q ns cap st) (h : cap ≤ cap') : Gv ax R Q ns cap' st :=
  ⟨g.len, g.len8, g.good, g.near, g.oth, g.free, g.fix, g.names, g.cnames, Nat.le_trans g.cap h⟩
structure Nms (ns : List Str) : Prop where
  ok : ∀ n ∈ ns, NmOk n
  asc : Asc ns
theorem sv_of {bs : List B} (g : Ok 18900 bs) (h : Nms (bs.map B.n)) : SV bs := by
  refine ⟨g.len, fun b hb => ?_, h.asc, g.free⟩
  obtain ⟨⟨a1, a2⟩, a3, a4⟩ := g.near b hb
  exact ⟨h.ok _ (List.mem_map.mpr ⟨b, hb, rfl⟩), g.good b hb, by omega, by omega, by omega, by omega⟩
section
variable {P : Program} {w : World} {K : PySem.W.Frag} {mg : Str → Option Value} {base : Heap}
theorem sc_tick : FnScope ["space", "bounce", "moving", "across", "down", "body"] ["space", "bounce"] (defScope s_tick) := ⟨rfl, rfl, rfl, by decide +kernel, rfl, by decide +kernel, by decide +kernel⟩
/-- what a tick hands back -/
structure Out (H : Hp) (r : Addr) (bs : List B) (cs : List C) (sT : Addr) (ts : List Addr) (c : Addr) (cts : List Addr) : Prop where
  pair : H r = some (.tup [.ref sT, .ref c])
  sp : H sT = some (.tup (ts.map V.ref))
  tups : Tups H ts bs
  lst : H c = some (.lst (cts.map V.ref))
  con : Cts H cts cs
def spTick : Sp := fun vs H Q _ => ∃ (a q : Addr) (ts : List Addr) (bs : List B) (n d : Int), vs = [.ref a, .ref q] ∧ H a = some (.tup (ts.map V.ref)) ∧ Tups H ts bs ∧ Ok 18900 bs ∧ Nms (bs.map B.n) ∧ H q = some (.tup [.int n, .int d]) ∧ Bn n d ∧
  ∀ (H' : Hp) (r sT : Addr) (ts' : List Addr) (c : Addr) (cts : List Addr), Same H H' → Out H' r (endM n d bs).bs (endM n d bs).cs sT ts' c cts → Q (.ref r) H'
theorem ok_tick (T : Txt K mg) : C8.Cal P w K mg base 8 "tick" spTick [] := by
  have cCkS : C8.Cal P w K mg base 7 "check_space" spCkS [] := ok_check_space T
  have cCkB : C8.Cal P w K mg base 3 "check_bounce" spCkB [] := ok_check_bounce T
  have cMoving : C8.Mak P w K mg base 1 "Moving" (MG K) (spInit K) [] := ok_init T
  have c_wishes : C8.Met P w K mg base 2 (MG K) "wishes" (spWishes K) [] := ok_wishes T
  have c_go : C8.Met P w K mg base 5 (MG K) "go" (spGo K) [] := ok_go T
  refine T.cal (ps := ["space", "bounce"]) 20 25 rfl rfl sc_tick (fun _ _ _ _ _ _ us hl => match us, hl with | [_, _], _ => rfl) (fun vs H Q E h => ?_) (fun f cdv A outer s H vs Q E hr h => ?_)
  · obtain ⟨a, q, ts, bs, n, d, rfl, _⟩ := h
    rfl
  · obtain ⟨a, q, ts, bs, n, d, rfl, ha, ht, g, hn, hq, hB, k⟩ := h
    refine ⟨_, (pss_cons (ps_expr (C8.pe_c cCkS hr (by decide) (by rfl) (pa_cons (pv 0) pa_nil))) (pss_cons (ps_expr (C8.pe_c cCkB hr (by decide) (by rfl) (pa_cons (pv 1) pa_nil))) (pss_cons (ps_set (i := 2) sc_tick.nd rfl (by first | exact Or.inl rfl | exact Or.inr rfl) (C8.pe_mk cMoving hr (by decide) (by rfl) (pa_cons (pv 0) (pa_cons (pv 1) pa_nil)))) (pss_cons (ps_set (i := 3) sc_tick.nd rfl (by first | exact Or.inl rfl | exact Or.inr rfl) (C8.pe_mt c_wishes hr (by decide) (pv 2) (pa_cons pe_int pa_nil))) (pss_cons (ps_set (i := 4) sc_tick.nd rfl (by first | exact Or.inl rfl | exact Or.inr rfl) (C8.pe_mt c_wishes hr (by decide) (pv 2) (pa_cons pe_int pa_nil))) (pss_cons (ps_expr (C8.pe_mt c_go hr (by decide) (pv 2) (pa_cons pe_int (pa_cons (pv 3) pa_nil)))) (pss_cons (ps_expr (C8.pe_mt c_go hr (by decide) (pv 2) (pa_cons pe_int (pa_cons (pv 4) pa_nil)))) (pss_one (ps_ret (pe_tup (pa_cons (pe_callTy call_tuple_of (by rfl) (T.free 48) (by decide +kernel) (pa_cons (pe_lc (own := [("body", 5)]) (g := gName 5) (tt := tYes) rfl sc_tick.nd (pi_list (pe_fld (pv 2) rfl)) (blkOk_by (N := ["space", "bounce", "moving", "across", "down", "body"]) (sc := defScope s_tick) (by decide +kernel)) (fun _ _ _ _ _ => (pg_name (i := 5) sc_tick.nd rfl (by first | exact Or.inl rfl | exact Or.inr rfl))) (fun _ _ _ _ _ => pts_nil) (fun _ _ _ _ _ => (pe_callTy (callK_tup K) (by rfl) (T.free 48) (by decide +kernel) (pa_cons (pv 5) pa_nil)))) pa_nil)) (pa_cons (pe_fld (pv 2) rfl) pa_nil)))))))))))), ?_⟩
    have sv := sv_of g hn
    have hl8 := g.len
    -- check_space, check_bounce
    refine ⟨_, rfl, a, ts, bs, rfl, ha, ht, sv, fun H1 s1 => ?_⟩
    refine ⟨_, rfl, q, n, d, rfl, s1 _ _ hq, hB, ?_⟩
    -- moving = Moving(space, bounce)
    refine ⟨_, rfl, _, rfl, fun p dx np ndx nex => ?_⟩
    have sN : Same H1 (upd (upd H1 dx (.own p)) p (.ins (MG K) dx [])) := fun b o e => by
      rw [upd_ne (ne_of_none e np), upd_ne (ne_of_none e ndx)]
      exact e
    have s1N := s1.trans sN
    refine ⟨p, dx, a, q, ts, bs, n, d, rfl, upd_same, s1N _ _ ha, ht.same s1N, hl8, s1N _ _ hq, fun H2 l c as bt2 hfree hl hc m2 => ⟨rfl, ?_⟩⟩
    have frA : ∀ y ∈ as, H y = none := fun y hy => s1N.free (hfree y hy)
    have frC : ∀ y ∈ c :: as, H y = none := fun y hy => by
      rcases List.mem_cons.mp hy with z | z
      · rw [z]
        exact s1N.free hc
      · exact frA y z
    have frP : ∀ y ∈ [p], H y = none := fun y hy => by
      rw [List.mem_singleton.mp hy]
      exact s1.free np
    have S2 : Same H H2 := bt2.to_same s1N frP
    -- across = moving.wishes(0)
    obtain ⟨dx2, hp2⟩ := m2.ins
    refine ⟨_, rfl, p, dx2, _, rfl, hp2, mf_wishes _ _ _, p, l, q, c, as, n, d, bs, [], false, rfl, m2, hl8, g.good, fun H3 v bt3 nv nvas m3 hv3 => ?_⟩
    have S3 : Same H H3 := bt3.to_same S2 frA
    -- down = moving.wishes(1)
    obtain ⟨dx3, hp3⟩ := m3.ins
    refine ⟨_, rfl, p, dx3, _, rfl, hp3, mf_wishes _ _ _, p, l, q, c, as, n, d, bs.map (carr false), [], true, rfl, m3, by rw [List.length_map]; exact hl8, fun b hb => ?_, fun H4 v' bt4 nv' nvas' m4 hv4 => ?_⟩
    · obtain ⟨b0, h0, rfl⟩ := List.mem_map.mp hb
      exact (g.good b0 h0).carr false
    have S4 : Same H H4 := bt4.to_same S3 frA
    have hv3' : H4 v = some (.lst ((wishX bs).map V.int)) := bt4 _ _ hv3 nvas
    have nv'c : v' ∉ c :: as := fun hm => by
      rcases List.mem_cons.mp hm with z | z
      · obtain ⟨cts, hc3, _⟩ := m3.con
        rw [← z, nv'] at hc3
        cases hc3
      · exact nvas' z
    -- moving.go(0, across)
    obtain ⟨dx4, hp4⟩ := m4.ins
    refine ⟨_, rfl, p, dx4, _, rfl, hp4, mf_go _ _ _, _, rfl, p, l, q, c, as, n, d, tick0 bs, [], false, v, wishX bs, 18900 + 64, 18900, bs.map B.n, rfl, m4, hB, hv3', g.start.capm (by decide), by decide, by decide, fun H5 bt5 m5 => ?_⟩
    have S5 : Same H H5 := bt5.to_same S4 frC
    have hv5 : H5 v' = some (.lst ((wishY bs).map V.int)) := bt5 _ _ hv4 nv'c
    -- moving.go(1, down)
    obtain ⟨dx5, hp5⟩ := m5.ins
    refine ⟨_, rfl, p, dx5, _, rfl, hp5, mf_go _ _ _, _, rfl, p, l, q, c, as, n, d, (midM n d bs).bs, (midM n d bs).cs, true, v', wishY bs, 18900 + 64, 18900 + 64, bs.map B.n, rfl, m5, hB, hv5, g.turn n d, by decide, by decide, fun H6 bt6 m6 => ?_⟩
    have S6 : Same H H6 := bt6.to_same S5 frC
    -- return
    have m6' : Mv (MG K) p l q c as n d H6 (endM n d bs).bs (endM n d bs).cs := m6
    have gE := g.fin n d
    have lE := gE.len8
    generalize (endM n d bs).bs = es at m6' lE k
    generalize (endM n d bs).cs = cs at m6' k
    obtain ⟨dx6, hp6⟩ := m6'.ins
    have el : (as.map V.ref).length = es.length := by rw [List.length_map, m6'.len]
    dsimp only [tRet, tTup, tCB, tCons]
    refine lc_new (n := (as.map V.ref).length) (r := fun i x => (as.map V.ref)[i]? = some x) (fun i => .tup (match es[i]? with | some b => vB b | none => []))
      (fun R kk => ⟨_, rfl, p, MG K, dx6, _, _, rfl, hp6, T.mcl, T.nBo, mf_bodies _ _ _, l, rfl, ⟨_, SqL.of m6'.bod⟩, kk _ _ (Same.refl _) (pure_lst m6'.bod)⟩) (by rw [el]; exact line_of (by omega)) (fun i x H7 Kt hi hx s7 kt => kt _ rfl fun R hR => ?_) (fun D H7 ts' hD s7 hlen hnd hfree7 hDas hDL hat => ?_)
    · obtain ⟨t, ht', rfl⟩ := ref_of hx
      rw [el] at hi
      have hb : es[i]? = some es[i] := List.getElem?_eq_getElem hi
      generalize es[i] = b at hb
      have hA := s7 _ _ (m6'.at_ i t b ht' hb)
      refine ⟨_, rfl, t, vB b, rfl, .inl ⟨SqL.of hA, fun u nu => hR _ u (same_new nu) nu ?_⟩⟩
      rw [upd_same, hb]
    · refine ⟨D, _, rfl, .inl ⟨SqL.of hDL, fun sT nsT => ?_⟩⟩
      obtain ⟨cts, hc6, hcts⟩ := m6'.con
      have s8 : Same H6 (upd H7 sT (.tup (ts'.map V.ref))) := s7.trans (same_new nsT)
      refine ⟨_, rfl, p, MG K, dx6, _, _, rfl, s8 _ _ hp6, T.mcl, T.nCo, mf_contacts _ _ _, by show 2 ≤ sizeLine; decide, fun r nr => ?_⟩
      have s9 := s8.trans (same_new (o := .tup [.ref sT, .ref c]) nr)
      refine k _ r sT ts' c cts (S6.trans s9) ⟨upd_same, same_new nr _ _ upd_same, ⟨by rw [hlen, el], fun i t b h1 h2 => ?_⟩, s9 _ _ hc6, hcts.same fun x xs e => s9 _ _ e⟩
      have e := hat i t h1
      rw [h2] at e
      exact same_new nr _ _ (same_new nsT _ _ e)
end
end K22
set_option maxHeartbeats 4000000
/-! K22W10: the law's stream, its equality. -/
namespace K22
open PySem PySem.Spec PyProof.Rows L2
/-- the stream at v: its cells at c, z left, k cells used -/
structure Sm (H : Hp) (v c : Addr) (ns : List Int) (z : Int) (k : Nat) : Prop where
  lst : H v = some (.lst [.ref c, .int z, .int (k : Nat)])
  cells : H c = some (.lst (ns.map V.int))
  z0 : 0 ≤ z
  vc : c ≠ v
theorem Sm.but {H H' : Hp} {S : List Addr} {v c : Addr} {ns : List Int} {z : Int} {k : Nat} (m : Sm H v c ns z k) (b : But S H H') (h1 : v ∉ S) (h2 : c ∉ S) : Sm H' v c ns z k := ⟨b _ _ m.lst h1, b _ _ m.cells h2, m.z0, m.vc⟩
theorem Sm.same {H H' : Hp} {v c : Addr} {ns : List Int} {z : Int} {k : Nat} (m : Sm H v c ns z k) (s : Same H H') : Sm H' v c ns z k := ⟨s _ _ m.lst, s _ _ m.cells, m.z0, m.vc⟩
theorem Sm.set {H : Hp} {v c : Addr} {ns : List Int} {z z' : Int} {k k' : Nat} (m : Sm H v c ns z k) (h : 0 ≤ z') : Sm (upd H v (.lst [.ref c, .int z', .int (k' : Nat)])) v c ns z' k' := ⟨upd_same, by rw [upd_ne m.vc]; exact m.cells, h, m.vc⟩
section
variable {P : Program} {w : World} {K : PySem.W.Frag} {mg : Str → Option Value} {base : Heap}
theorem sc_stream : FnScope ["_law_script"] ["_law_script"] (defScope s_stream) := ⟨rfl, rfl, rfl, by decide +kernel, rfl, by decide +kernel, by decide +kernel⟩
def spStream (K : PySem.W.Frag) : Sp := fun vs H Q _ => ∃ (a : Addr) (ns : List Int), vs = [.ref a] ∧ SqL K H a (ns.map V.int) ∧ ∀ (H' : Hp) (v c : Addr), Same H H' → H v = none → H c = none → Sm H' v c ns 0 0 → Q (.ref v) H'
theorem ok_stream (T : Txt K mg) : C8.Cal P w K mg base 1 "_law_stream" (spStream K) [] := by
  refine T.cal (ps := ["_law_script"]) 21 26 rfl rfl sc_stream (fun _ _ _ _ _ _ us hl => match us, hl with | [_], _ => rfl) (fun vs H Q E h => ?_) (fun f cdv A outer s H vs Q E hr h => ?_)
  · obtain ⟨a, ns, rfl, _⟩ := h
    rfl
  · obtain ⟨a, ns, rfl, ha, k⟩ := h
    refine ⟨_, (pss_one (ps_ret (pe_lst (pa_cons (pe_callTy call_list_of (by rfl) (T.free 53) (by decide +kernel) (pa_cons (pv 0) pa_nil)) (pa_cons pe_int (pa_cons pe_int pa_nil)))))), ?_⟩
    refine ⟨_, rfl, a, _, rfl, .inl ha, fun c nc => ⟨by show 3 ≤ sizeLine; decide, fun v nv => ?_⟩⟩
    have ncv : c ≠ v := fun e => by
      rw [← e, upd_same] at nv
      cases nv
    exact k _ v c ((same_new nc).trans (same_new nv)) ((same_new nc).free nv) nc ⟨upd_same, by rw [upd_ne ncv, upd_same], by decide, ncv⟩
/-! ### _law_next -/
theorem sc_next : FnScope ["_law_stream_here", "_law_many", "_law_k", "_law_cell", "_law_digit"] ["_law_stream_here", "_law_many"] (defScope s_next) := ⟨rfl, rfl, rfl, by decide +kernel, rfl, by decide +kernel, by decide +kernel⟩
def spNext : Sp := fun vs H Q _ => ∃ (v c : Addr) (ns : List Int) (z : Int) (k : Nat) (m : Int), vs = [.ref v, .int m] ∧ Sm H v c ns z k ∧ 0 < m ∧ m ≤ 100000 ∧ ∀ (H' : Hp) (r z' : Int) (k' : Nat), But [v] H H' → Sm H' v c ns z' k' → 0 ≤ r → r < m → Q (.int r) H'
theorem ok_next (T : Txt K mg) : C8.Cal P w K mg base 1 "_law_next" spNext [] := by
  refine T.cal (ps := ["_law_stream_here", "_law_many"]) 22 27 rfl rfl sc_next (fun _ _ _ _ _ _ us hl => match us, hl with | [_, _], _ => rfl) (fun vs H Q E h => ?_) (fun f cdv A outer s H vs Q E hr h => ?_)
  · obtain ⟨v, c, ns, z, k, m, rfl, _⟩ := h
    rfl
  · obtain ⟨v, c, ns, z, k, m, rfl, S, m0, m1, kk⟩ := h
    refine ⟨_, (C8.pss_cut (ps_if (pt_cmpR op_eq (pe_ix ix_list (pv 0) pe_int (fun _ _ => rfl)) pe_int (nomark _)) (pss_cons (ps_set (i := 2) sc_next.nd rfl (by first | exact Or.inl rfl | exact Or.inr rfl) (pe_ix ix_list (pv 0) pe_int (fun _ _ => rfl))) (pss_cons (ps_set (i := 3) sc_next.nd rfl (by first | exact Or.inl rfl | exact Or.inr rfl) (pe_op op_add pe_int (pv 2))) (C8.pss_cut (ps_if (pt_cmpR op_lt (pv 2) (pe_callB call_len (by rfl) (T.free 49) (by decide +kernel) (pa_cons (pe_ix ix_list (pv 0) pe_int (fun _ _ => rfl)) pa_nil)) (nomark _)) (pss_one (ps_set (i := 3) sc_next.nd rfl (by first | exact Or.inl rfl | exact Or.inr rfl) (pe_callB call_abs (by rfl) (T.free 58) (by decide +kernel) (pa_cons (pe_ix ix_list (pe_ix ix_list (pv 0) pe_int (fun _ _ => rfl)) (pv 2) (fun _ _ => rfl)) pa_nil)))) pss_nil) (C8.pss_cut (ps_if (pt_cmpR op_lt (pv 3) (pe_op op_pow pe_int pe_int) (nomark _)) (pss_cons (ps_set (i := 3) sc_next.nd rfl (by first | exact Or.inl rfl | exact Or.inr rfl) (pe_op op_mod (pe_callTy call_int1 (by rfl) (T.free 46) (by decide +kernel) (pa_cons (pe_op op_add (pe_op op_add (pe_op op_mul (pv 3) pe_int) (pe_op op_mul (pv 2) pe_int)) pe_int) pa_nil)) pe_int)) (pss_one (ps_set (i := 3) sc_next.nd rfl (by first | exact Or.inl rfl | exact Or.inr rfl) (pe_op op_add (pe_op op_mul (pe_op op_mod (pe_callTy call_int1 (by rfl) (T.free 46) (by decide +kernel) (pa_cons (pe_op op_add (pe_op op_mul (pv 3) pe_int) pe_int) pa_nil)) pe_int) pe_int) (pv 3))))) pss_nil) (pss_cons (ps_asg (pv 3) (pg_sub (pv 0) pe_int set_list)) (pss_one (ps_asg (pe_op op_add (pv 2) pe_int) (pg_sub (pv 0) pe_int set_list)))))))) pss_nil) (pss_cons (ps_set (i := 4) sc_next.nd rfl (by first | exact Or.inl rfl | exact Or.inr rfl) (pe_op op_mod (pe_callTy call_int1 (by rfl) (T.free 46) (by decide +kernel) (pa_cons (pe_ix ix_list (pv 0) pe_int (fun _ _ => rfl)) pa_nil)) (pv 1))) (pss_cons (ps_asg (pe_op op_fdiv (pe_ix ix_list (pv 0) pe_int (fun _ _ => rfl)) (pv 1)) (pg_sub (pv 0) pe_int set_list)) (pss_one (ps_ret (pv 4)))))), ?_⟩
    have mv : v ∈ [v] := List.mem_singleton_self _
    refine ⟨fun σ1 H1 => ∃ (x2 x3 : Option V) (z1 : Int) (k1 : Nat), σ1 = [some (.ref v), some (.int m), x2, x3, none] ∧ But [v] H H1 ∧ Sm H1 v c ns z1 k1, ?_, ?_⟩
    · refine ⟨_, rfl, v, _, 1, _, rfl, rfl, SqL.of S.lst, atI_nat (j := 1) rfl, rfl, _, rfl, ?_⟩
      refine ite2 (fun h0 => ?_) (fun h0 => ⟨none, none, z, k, rfl, But.refl _ _, S⟩)
      refine ⟨_, rfl, v, _, 2, _, rfl, rfl, SqL.of S.lst, atI_nat (j := 2) rfl, ?_⟩
      refine ⟨_, rfl, 7, _, rfl, rfl, ?_⟩
      refine ⟨fun σ1 H1 => ∃ ce : Int, σ1 = [some (.ref v), some (.int m), some (.int (k : Nat)), some (.int ce), none] ∧ 0 ≤ ce ∧ H1 = H, ?_, ?_⟩
      · refine ⟨_, rfl, _, rfl, v, _, 0, _, rfl, rfl, SqL.of S.lst, atI_nat (j := 0) rfl, _, (ns.map V.int).length, rfl, .inl ⟨_, SqL.of S.cells, rfl⟩, _, _, rfl, rfl, _, rfl, ?_⟩
        refine ite2 (fun h1 => ?_) (fun h1 => ⟨7 + (k : Nat), rfl, by omega, rfl⟩)
        have hk : k < (ns.map V.int).length := by
          have := of_decide_eq_true h1
          omega
        have hk2 : k < ns.length := by
          rw [List.length_map] at hk
          exact hk
        refine ⟨_, rfl, v, _, 0, _, rfl, rfl, SqL.of S.lst, atI_nat (j := 0) rfl, _, rfl, c, _, _, _, rfl, rfl, SqL.of S.cells, atI_nat (j := k) (by rw [List.getElem?_map, List.getElem?_eq_getElem hk2]; rfl), _, rfl, ?_⟩
        exact ⟨_, rfl, by split <;> omega, rfl⟩
      · rintro σ1 H1 ⟨ce, rfl, hce, rfl⟩
        refine ⟨fun σ1 H2 => ∃ ce : Int, σ1 = [some (.ref v), some (.int m), some (.int (k : Nat)), some (.int ce), none] ∧ 0 ≤ ce ∧ H2 = H1, ?_, ?_⟩
        · refine ⟨_, rfl, 10, 18, rfl, rfl, ⟨by decide, by decide, by decide⟩, _, _, rfl, rfl, _, rfl, ?_⟩
          refine ite2 (fun h1 => ?_) (fun h1 => ⟨ce, rfl, hce, rfl⟩)
          refine ⟨_, rfl, ce, 48271, rfl, rfl, .inr ⟨by decide, by decide⟩, _, rfl, _, 69621, rfl, rfl, .inr ⟨by decide, by decide⟩, _, _, rfl, rfl, _, 11, rfl, rfl, .inl ⟨_, rfl, _, 2147483647, rfl, rfl, (by show (0 : Int) < 2147483647; decide), ?_⟩⟩
          refine ⟨_, rfl, _, 16807, rfl, rfl, .inr ⟨by decide, by decide⟩, _, 13, rfl, rfl, .inl ⟨_, rfl, _, 2147483647, rfl, rfl, (by show (0 : Int) < 2147483647; decide), _, 65537, rfl, rfl, .inr ⟨by decide, by decide⟩, _, rfl, _, _, rfl, rfl, ?_⟩⟩
          refine ⟨_, rfl, ?_, rfl⟩
          have e1 := Int.emod_nonneg (ce * 48271 + (k : Nat) * 69621 + 11) (show (2147483647 : Int) ≠ 0 by decide)
          have e2 := Int.emod_nonneg ((ce * 48271 + (k : Nat) * 69621 + 11) % 2147483647 * 16807 + 13) (show (2147483647 : Int) ≠ 0 by decide)
          omega
        · rintro σ1 H2 ⟨ce, rfl, hce, rfl⟩
          refine ⟨_, rfl, _, rfl, v, _, 1, 1, rfl, rfl, S.lst, rfl, ?_⟩
          have hS1 : (upd H2 v (.lst (([.ref c, .int z, .int (k : Nat)] : List V).set 1 (.int ce)))) v = some (.lst [.ref c, .int ce, .int (k : Nat)]) := upd_same
          refine ⟨_, rfl, _, 1, rfl, rfl, _, rfl, v, _, 2, 2, rfl, rfl, hS1, rfl, ?_⟩
          refine ⟨_, _, ce, k + 1, rfl, (But.upd mv).trans (But.upd mv), ?_⟩
          rw [upd_upd]
          exact S.set (k' := k + 1) hce
    · rintro σ1 H1 ⟨x2, x3, z1, k1, rfl, b1, S1⟩
      have e0 := Int.emod_nonneg z1 (show m ≠ 0 by omega)
      have e1 := Int.emod_lt_of_pos z1 m0
      have e2 := Int.ediv_nonneg S1.z0 (Int.le_of_lt m0)
      refine ⟨_, rfl, v, _, 1, _, rfl, rfl, SqL.of S1.lst, atI_nat (j := 1) rfl, .inl ⟨_, rfl, _, rfl, z1, m, rfl, rfl, m0, ?_⟩⟩
      refine ⟨_, rfl, v, _, 1, _, rfl, rfl, SqL.of S1.lst, atI_nat (j := 1) rfl, _, rfl, z1, m, rfl, rfl, ⟨m0, by omega⟩, _, rfl, v, _, 1, 1, rfl, rfl, S1.lst, rfl, ?_⟩
      exact ⟨_, rfl, kk _ _ (z1 / m) k1 (b1.trans (But.upd mv)) (S1.set e2) e0 e1⟩
/-! ### _law_equal -/
theorem sc_isint : FnScope ["_law_actual"] ["_law_actual"] (defScope s_isint) := ⟨rfl, rfl, rfl, by decide +kernel, rfl, by decide +kernel, by decide +kernel⟩
theorem ok_isint (T : Txt K mg) : C8.Cal P w K mg base 1 "_law_is_integer" spWhole [] := by
  refine T.cal (ps := ["_law_actual"]) 23 28 rfl rfl sc_isint (fun _ _ _ _ _ _ us hl => match us, hl with | [_], _ => rfl) (fun vs H Q E h => ?_) (fun f cdv A outer s H vs Q E hr h => ?_)
  · obtain ⟨i, rfl, _⟩ := h
    rfl
  · obtain ⟨i, rfl, q⟩ := h
    refine ⟨_, (pss_one (ps_ret (pe_and (pe_callB call_isi (by rfl) (T.free 45) (by decide +kernel) (pa_cons (pv 0) (pa_cons (pe_bltn (v := .ty "int") (by rfl) (T.free 46) (by decide +kernel) rfl) pa_nil))) (pe_one (pe_not (pe_callB call_isi (by rfl) (T.free 45) (by decide +kernel) (pa_cons (pv 0) (pa_cons (pe_bltn (v := .ty "bool") (by rfl) (T.free 47) (by decide +kernel) rfl) pa_nil)))))))), ?_⟩
    refine ⟨_, rfl, _, _, _, _, true, rfl, .ty _, .base (.int _), kit_ty (by decide +kernel), _, rfl, iteT ?_⟩
    exact ⟨_, rfl, _, _, _, _, false, rfl, .ty _, .base (.int _), kit_ty (by decide +kernel), _, rfl, q⟩
/-- two values of equal data, n deep -/
def EqV : Nat → Hp → V → V → Prop
  | 0, _, _, _ => False
  | n + 1, H, x, y => (∃ i : Int, x = .int i ∧ y = .int i) ∨ (∃ z : Str, x = .str z ∧ y = .str z) ∨ ∃ (a b : Addr) (xs ys : List V), x = .ref a ∧ y = .ref b ∧ ((H a = some (.tup xs) ∧ H b = some (.tup ys)) ∨ (H a = some (.lst xs) ∧ H b = some (.lst ys))) ∧
      xs.length = ys.length ∧ ys.length ≤ 50 ∧ ∀ (i : Nat) (u v : V), xs[i]? = some u → ys[i]? = some v → EqV n H u v
theorem EqV.same {H H' : Hp} (s : Same H H') : ∀ {n : Nat} {x y : V}, EqV n H x y → EqV n H' x y
  | 0, _, _, h => h
  | n + 1, x, y, h => by
    rcases h with h | h | ⟨a, b, xs, ys, e1, e2, h3, h4, h5, h6⟩
    · exact .inl h
    · exact .inr (.inl h)
    · refine .inr (.inr ⟨a, b, xs, ys, e1, e2, ?_, h4, h5, fun i u v h7 h8 => EqV.same s (h6 i u v h7 h8)⟩)
      rcases h3 with h3 | h3
      · exact .inl ⟨s _ _ h3.1, s _ _ h3.2⟩
      · exact .inr ⟨s _ _ h3.1, s _ _ h3.2⟩
theorem sc_equal : FnScope ["_law_actual", "_law_due", "_law_at"] ["_law_actual", "_law_due"] (defScope s_equal) := ⟨rfl, rfl, rfl, by decide +kernel, rfl, by decide +kernel, by decide +kernel⟩
def spEq (n : Nat) : Sp := fun vs H Q _ => ∃ x y : V, vs = [x, y] ∧ EqV n H x y ∧ ∀ H', Same H H' → Q (.bl true) H'
theorem bd2 : ∀ (kV doc pm : Value) (an : Option Addr) (cdv ct : Value) (us : List Value), us.length = ["_law_actual", "_law_due"].length → bindArgs (PySem.W.fnOf "_law_equal" "_law_equal" (defArgs s_equal) (defBody s_equal) (defScope s_equal) .none kV doc pm an cdv ct) ⟨us, []⟩ = pure ((["_law_actual", "_law_due"] : List Str).zip us) :=
  fun _ _ _ _ _ _ us hl => match us, hl with | [_, _], _ => rfl
theorem ok_equal (T : Txt K mg) : ∀ n : Nat, C8.Cal P w K mg base (n + 2) "_law_equal" (spEq n) []
  | 0 => by
    refine T.cal (ps := ["_law_actual", "_law_due"]) 24 29 rfl rfl sc_equal bd2 (fun vs H Q E h => ?_) (fun f cdv A outer s H vs Q E hr h => ?_)
    · obtain ⟨x, y, _, h, _⟩ := h
      exact h.elim
    · obtain ⟨x, y, _, h, _⟩ := h
      exact h.elim
  | n + 1 => by
    have cEq : C8.Cal P w K mg base (n + 2) "_law_equal" (spEq n) [] := ok_equal T n
    have cIsI : C8.Cal P w K mg base 1 "_law_is_integer" spWhole [] := ok_isint T
    refine T.cal (ps := ["_law_actual", "_law_due"]) 24 29 rfl rfl sc_equal bd2 (fun vs H Q E h => ?_) (fun f cdv A outer s H vs Q E hr h => ?_)
    · obtain ⟨x, y, rfl, _⟩ := h
      rfl
    · obtain ⟨x, y, rfl, h, k⟩ := h
      refine ⟨_, (pss_cons (ps_if (pt_cmpR op_isN (pv 1) pe_non (nomark _)) (pss_one (ps_ret (pe_cmpR op_isN (pv 0) pe_non (nomark _)))) pss_nil) (pss_cons (ps_if (pt_val (pe_callB call_isi (by rfl) (T.free 45) (by decide +kernel) (pa_cons (pv 1) (pa_cons (pe_bltn (v := .ty "bool") (by rfl) (T.free 47) (by decide +kernel) rfl) pa_nil)))) (pss_one (ps_ret (pe_and (pe_callB call_isi (by rfl) (T.free 45) (by decide +kernel) (pa_cons (pv 0) (pa_cons (pe_bltn (v := .ty "bool") (by rfl) (T.free 47) (by decide +kernel) rfl) pa_nil))) (pe_one (pe_cmpR op_eq (pv 0) (pv 1) (nomark _)))))) pss_nil) (pss_cons (ps_if (pt_val (pe_callB call_isi (by rfl) (T.free 45) (by decide +kernel) (pa_cons (pv 1) (pa_cons (pe_bltn (v := .ty "int") (by rfl) (T.free 46) (by decide +kernel) rfl) pa_nil)))) (pss_one (ps_ret (pe_and (C8.pe_c cIsI hr (by omega) (by rfl) (pa_cons (pv 0) pa_nil)) (pe_one (pe_cmpR op_eq (pv 0) (pv 1) (nomark _)))))) pss_nil) (pss_cons (ps_if (pt_val (pe_callB call_isi (by rfl) (T.free 45) (by decide +kernel) (pa_cons (pv 1) (pa_cons (pe_bltn (v := .ty "str") (by rfl) (T.free 52) (by decide +kernel) rfl) pa_nil)))) (pss_one (ps_ret (pe_and (pe_callB call_isi (by rfl) (T.free 45) (by decide +kernel) (pa_cons (pv 0) (pa_cons (pe_bltn (v := .ty "str") (by rfl) (T.free 52) (by decide +kernel) rfl) pa_nil))) (pe_one (pe_cmpR op_eq (pv 0) (pv 1) (nomark _)))))) pss_nil) (pss_cons (ps_if (PW.pt (pw_and (pt_val (pe_callB call_isi (by rfl) (T.free 45) (by decide +kernel) (pa_cons (pv 1) (pa_cons (pe_bltn (v := .ty "tuple") (by rfl) (T.free 48) (by decide +kernel) rfl) pa_nil)))) (pw_and1 (pt_not (pt_val (pe_callB call_isi (by rfl) (T.free 45) (by decide +kernel) (pa_cons (pv 0) (pa_cons (pe_bltn (v := .ty "tuple") (by rfl) (T.free 48) (by decide +kernel) rfl) pa_nil)))))))) (pss_one (ps_ret pe_bl)) pss_nil) (pss_cons (ps_if (PW.pt (pw_and (pt_val (pe_callB call_isi (by rfl) (T.free 45) (by decide +kernel) (pa_cons (pv 1) (pa_cons (pe_bltn (v := .ty "list") (by rfl) (T.free 53) (by decide +kernel) rfl) pa_nil)))) (pw_and1 (pt_not (pt_val (pe_callB call_isi (by rfl) (T.free 45) (by decide +kernel) (pa_cons (pv 0) (pa_cons (pe_bltn (v := .ty "list") (by rfl) (T.free 53) (by decide +kernel) rfl) pa_nil)))))))) (pss_one (ps_ret pe_bl)) pss_nil) (pss_cons (ps_if (pt_cmpR op_ne (pe_callB call_len (by rfl) (T.free 49) (by decide +kernel) (pa_cons (pv 0) pa_nil)) (pe_callB call_len (by rfl) (T.free 49) (by decide +kernel) (pa_cons (pv 1) pa_nil)) (nomark _)) (pss_one (ps_ret pe_bl)) pss_nil) (pss_one (ps_ret (pe_callB (cr_all rfl) (by rfl) (T.free 50) (by decide +kernel) (pa_cons (pe_lc (own := [("_law_at", 2)]) (g := gName 2) (tt := tYes) rfl sc_equal.nd (pi_range1 (by rfl) (T.free 54) (pa_cons (pe_callB call_len (by rfl) (T.free 49) (by decide +kernel) (pa_cons (pv 1) pa_nil)) pa_nil)) (blkOk_by (N := ["_law_actual", "_law_due", "_law_at"]) (sc := defScope s_equal) (by decide +kernel)) (fun _ _ _ _ _ => (pg_name (i := 2) sc_equal.nd rfl (by first | exact Or.inl rfl | exact Or.inr rfl))) (fun _ _ _ _ _ => pts_nil) (fun _ _ _ _ _ => (C8.pe_c cEq hr (by omega) (by rfl) (pa_cons (pe_ix (ixK_seq K) (pv 0) (pv 2) (fun _ _ => rfl)) (pa_cons (pe_ix (ixK_seq K) (pv 1) (pv 2) (fun _ _ => rfl)) pa_nil))))) pa_nil))))))))))), ?_⟩
      rcases h with ⟨i, rfl, rfl⟩ | ⟨z, rfl, rfl⟩ | ⟨a, b, xs, ys, rfl, rfl, hh, hl, h50, he⟩
      · refine ⟨_, rfl, rfl, _, rfl, iteF ?_⟩
        refine ⟨_, rfl, _, _, _, _, false, rfl, .ty _, .base (.int _), kit_ty (by decide +kernel), _, rfl, iteF ?_⟩
        refine ⟨_, rfl, _, _, _, _, true, rfl, .ty _, .base (.int _), kit_ty (by decide +kernel), _, rfl, iteT ?_⟩
        refine ⟨_, rfl, i, rfl, _, rfl, iteT ⟨_, rfl, _, rfl, rfl, ?_⟩⟩
        rw [show decide (V.int i = V.int i) = true from decide_eq_true rfl]
        exact k H (Same.refl _)
      · refine ⟨_, rfl, rfl, _, rfl, iteF ?_⟩
        refine ⟨_, rfl, _, _, _, _, false, rfl, .ty _, .base (.str _), kit_ty (by decide +kernel), _, rfl, iteF ?_⟩
        refine ⟨_, rfl, _, _, _, _, false, rfl, .ty _, .base (.str _), kit_ty (by decide +kernel), _, rfl, iteF ?_⟩
        refine ⟨_, rfl, _, _, _, _, true, rfl, .ty _, .base (.str _), kit_ty (by decide +kernel), _, rfl, iteT ?_⟩
        refine ⟨_, rfl, _, _, _, _, true, rfl, .ty _, .base (.str _), kit_ty (by decide +kernel), _, rfl, iteT ⟨_, rfl, _, rfl, rfl, ?_⟩⟩
        rw [show decide (V.str z = V.str z) = true from decide_eq_true rfl]
        exact k H (Same.refl _)
      · have ln : (!decide (V.int ((xs.length : Nat) : Int) = V.int ((ys.length : Nat) : Int))) = false := by
          rw [hl, decide_eq_true rfl]
          rfl
        have fin : ∀ (H1 : Hp) (u : Nat → V), Same H H1 → H1 = H → True := fun _ _ _ _ => trivial
        refine ⟨_, rfl, rfl, _, rfl, iteF ?_⟩
        rcases hh with ⟨ha, hb⟩ | ⟨ha, hb⟩
        · refine ⟨_, rfl, _, _, _, _, false, rfl, .ty _, .base (.tup hb), kit_ty (by decide +kernel), _, rfl, iteF ?_⟩
          refine ⟨_, rfl, _, _, _, _, false, rfl, .ty _, .base (.tup hb), kit_ty (by decide +kernel), _, rfl, iteF ?_⟩
          refine ⟨_, rfl, _, _, _, _, false, rfl, .ty _, .base (.tup hb), kit_ty (by decide +kernel), _, rfl, iteF ?_⟩
          refine ⟨_, rfl, _, _, _, _, true, rfl, .ty _, .base (.tup hb), kit_ty (by decide +kernel), _, rfl, iteT ?_⟩
          refine ⟨_, rfl, _, _, _, _, true, rfl, .ty _, .base (.tup ha), kit_ty (by decide +kernel), _, rfl, iteF ?_⟩
          refine ⟨_, rfl, _, _, _, _, false, rfl, .ty _, .base (.tup hb), kit_ty (by decide +kernel), _, rfl, iteF (iteF ?_)⟩
          refine ⟨_, rfl, _, xs.length, rfl, .inr ⟨_, SqT.of ha, rfl⟩, _, rfl, _, ys.length, rfl, .inr ⟨_, SqT.of hb, rfl⟩, rfl, _, rfl, ?_⟩
          rw [ln]
          refine iteF ?_
          dsimp only [tNext, tRet, tCB, tCons]
          refine lc_pure (n := ys.length) (r := fun i x => x = .int (0 + i)) (fun _ => .bl true) (fun R kk => ⟨_, rfl, _, ys.length, rfl, .inr ⟨_, SqT.of hb, rfl⟩, _, rfl, by omega, by omega, kk _ _ (Same.refl _) (by rw [Int.toNat_natCast]; exact pure_range)⟩) (line_of (by omega)) (fun _ => rfl) (fun i x H1 Q' hi hx s1 kk => ?_) (fun D H1 hD s1 hL => ?_)
          · subst hx
            have gx : xs[i]? = some xs[i] := List.getElem?_eq_getElem (by rw [hl]; exact hi)
            have gy : ys[i]? = some ys[i] := List.getElem?_eq_getElem hi
            refine ⟨_, rfl, _, rfl, .inr (.inl ⟨a, xs, _, _, rfl, rfl, SqT.of (s1 _ _ ha), at_of (j := i) (by omega) gx, ?_⟩)⟩
            refine ⟨_, rfl, _, rfl, .inr (.inl ⟨b, ys, _, _, rfl, rfl, SqT.of (s1 _ _ hb), at_of (j := i) (by omega) gy, ?_⟩)⟩
            exact ⟨_, _, rfl, (he i _ _ gx gy).same s1, fun H' s' => kk H' s'⟩
          · refine ⟨_, (List.range ys.length).map fun _ => true, rfl, SqL.of (by rw [hL, map_bl]), ?_⟩
            rw [all_true]
            exact k H1 s1
        · refine ⟨_, rfl, _, _, _, _, false, rfl, .ty _, .base (.lst hb), kit_ty (by decide +kernel), _, rfl, iteF ?_⟩
          refine ⟨_, rfl, _, _, _, _, false, rfl, .ty _, .base (.lst hb), kit_ty (by decide +kernel), _, rfl, iteF ?_⟩
          refine ⟨_, rfl, _, _, _, _, false, rfl, .ty _, .base (.lst hb), kit_ty (by decide +kernel), _, rfl, iteF ?_⟩
          refine ⟨_, rfl, _, _, _, _, false, rfl, .ty _, .base (.lst hb), kit_ty (by decide +kernel), _, rfl, iteF (iteF ?_)⟩
          refine ⟨_, rfl, _, _, _, _, true, rfl, .ty _, .base (.lst hb), kit_ty (by decide +kernel), _, rfl, iteT ?_⟩
          refine ⟨_, rfl, _, _, _, _, true, rfl, .ty _, .base (.lst ha), kit_ty (by decide +kernel), _, rfl, iteF ?_⟩
          refine ⟨_, rfl, _, xs.length, rfl, .inl ⟨_, SqL.of ha, rfl⟩, _, rfl, _, ys.length, rfl, .inl ⟨_, SqL.of hb, rfl⟩, rfl, _, rfl, ?_⟩
          rw [ln]
          refine iteF ?_
          dsimp only [tNext, tRet, tCB, tCons]
          refine lc_pure (n := ys.length) (r := fun i x => x = .int (0 + i)) (fun _ => .bl true) (fun R kk => ⟨_, rfl, _, ys.length, rfl, .inl ⟨_, SqL.of hb, rfl⟩, _, rfl, by omega, by omega, kk _ _ (Same.refl _) (by rw [Int.toNat_natCast]; exact pure_range)⟩) (line_of (by omega)) (fun _ => rfl) (fun i x H1 Q' hi hx s1 kk => ?_) (fun D H1 hD s1 hL => ?_)
          · subst hx
            have gx : xs[i]? = some xs[i] := List.getElem?_eq_getElem (by rw [hl]; exact hi)
            have gy : ys[i]? = some ys[i] := List.getElem?_eq_getElem hi
            refine ⟨_, rfl, _, rfl, .inl ⟨a, xs, _, _, rfl, rfl, SqL.of (s1 _ _ ha), at_of (j := i) (by omega) gx, ?_⟩⟩
            refine ⟨_, rfl, _, rfl, .inl ⟨b, ys, _, _, rfl, rfl, SqL.of (s1 _ _ hb), at_of (j := i) (by omega) gy, ?_⟩⟩
            exact ⟨_, _, rfl, (he i _ _ gx gy).same s1, fun H' s' => kk H' s'⟩
          · refine ⟨_, (List.range ys.length).map fun _ => true, rfl, SqL.of (by rw [hL, map_bl]), ?_⟩
            rw [all_true]
            exact k H1 s1
end
end K22
set_option maxHeartbeats 4000000
/-! K22W11: the law's bodies, boxes, bounce, the renamed space. -/
namespace K22
open PySem PySem.Spec PyProof.Rows L2
section
variable {P : Program} {w : World} {K : PySem.W.Frag} {mg : Str → Option Value} {base : Heap}
theorem sc_lbox : FnScope ["_law_body_here"] ["_law_body_here"] (defScope s_box) := ⟨rfl, rfl, rfl, by decide +kernel, rfl, by decide +kernel, by decide +kernel⟩
def spLBox : Sp := fun vs H Q _ => ∃ (a : Addr) (b : B), vs = [.ref a] ∧ H a = some (.tup (vB b)) ∧ ∀ r, H r = none → Q (.ref r) (upd H r (.tup (vBx b.box)))
theorem ok_lbox (T : Txt K mg) : C8.Cal P w K mg base 1 "_law_box" spLBox [] := by
  refine T.cal (ps := ["_law_body_here"]) 26 31 rfl rfl sc_lbox (fun _ _ _ _ _ _ us hl => match us, hl with | [_], _ => rfl) (fun vs H Q E h => ?_) (fun f cdv A outer s H vs Q E hr h => ?_)
  · obtain ⟨a, b, rfl, _⟩ := h
    rfl
  · obtain ⟨a, b, rfl, ha, k⟩ := h
    refine ⟨_, (pss_one (ps_ret (pe_tup (pa_cons (pe_ix ix_tup (pv 0) pe_int (fun _ _ => rfl)) (pa_cons (pe_ix ix_tup (pv 0) pe_int (fun _ _ => rfl)) (pa_cons (pe_op op_add (pe_ix ix_tup (pv 0) pe_int (fun _ _ => rfl)) (pe_ix ix_tup (pv 0) pe_int (fun _ _ => rfl))) (pa_cons (pe_op op_add (pe_ix ix_tup (pv 0) pe_int (fun _ _ => rfl)) (pe_ix ix_tup (pv 0) pe_int (fun _ _ => rfl))) pa_nil))))))), ?_⟩
    refine ⟨_, rfl, a, _, 1, _, rfl, rfl, SqT.of ha, atI_nat (j := 1) rfl, _, rfl, a, _, 2, _, rfl, rfl, SqT.of ha, atI_nat (j := 2) rfl, ?_⟩
    refine ⟨_, rfl, a, _, 1, _, rfl, rfl, SqT.of ha, atI_nat (j := 1) rfl, _, rfl, a, _, 3, _, rfl, rfl, SqT.of ha, atI_nat (j := 3) rfl, b.x, b.w, rfl, rfl, ?_⟩
    refine ⟨_, rfl, a, _, 2, _, rfl, rfl, SqT.of ha, atI_nat (j := 2) rfl, _, rfl, a, _, 4, _, rfl, rfl, SqT.of ha, atI_nat (j := 4) rfl, b.y, b.h, rfl, rfl, ?_⟩
    exact ⟨by show 4 ≤ sizeLine; decide, k⟩
theorem sc_lov : FnScope ["_law_a", "_law_b"] ["_law_a", "_law_b"] (defScope s_overlap) := ⟨rfl, rfl, rfl, by decide +kernel, rfl, by decide +kernel, by decide +kernel⟩
theorem ok_lov (T : Txt K mg) : C8.Cal P w K mg base 1 "_law_overlap" spOverlap [] := by
  refine T.cal (ps := ["_law_a", "_law_b"]) 27 32 rfl rfl sc_lov (fun _ _ _ _ _ _ us hl => match us, hl with | [_, _], _ => rfl) (fun vs H Q E h => ?_) (fun f cdv A outer s H vs Q E hr h => ?_)
  · obtain ⟨a, b, p, q, rfl, _⟩ := h
    rfl
  · obtain ⟨a, b, p, q, rfl, ha, hb, k⟩ := h
    refine ⟨_, (pss_one (ps_ret (pe_and (pe_cmpR op_lt (pe_ix ix_tup (pv 0) pe_int (fun _ _ => rfl)) (pe_ix ix_tup (pv 1) pe_int (fun _ _ => rfl)) (nomark _)) (pe_and (pe_cmpR op_lt (pe_ix ix_tup (pv 1) pe_int (fun _ _ => rfl)) (pe_ix ix_tup (pv 0) pe_int (fun _ _ => rfl)) (nomark _)) (pe_and (pe_cmpR op_lt (pe_ix ix_tup (pv 0) pe_int (fun _ _ => rfl)) (pe_ix ix_tup (pv 1) pe_int (fun _ _ => rfl)) (nomark _)) (pe_one (pe_cmpR op_lt (pe_ix ix_tup (pv 1) pe_int (fun _ _ => rfl)) (pe_ix ix_tup (pv 0) pe_int (fun _ _ => rfl)) (nomark _)))))))), ?_⟩
    refine ⟨_, rfl, a, _, 0, _, rfl, rfl, SqT.of ha, atI_nat (j := 0) rfl, _, rfl, b, _, 2, _, rfl, rfl, SqT.of hb, atI_nat (j := 2) rfl, p.x0, q.x1, rfl, rfl, _, rfl, ?_⟩
    refine ite2 (fun h1 => ?_) (fun h1 => ?_)
    · have x1 : p.x0 < q.x1 := of_decide_eq_true h1
      refine ⟨_, rfl, b, _, 0, _, rfl, rfl, SqT.of hb, atI_nat (j := 0) rfl, _, rfl, a, _, 2, _, rfl, rfl, SqT.of ha, atI_nat (j := 2) rfl, q.x0, p.x1, rfl, rfl, _, rfl, ?_⟩
      refine ite2 (fun h2 => ?_) (fun h2 => ?_)
      · have x2 : q.x0 < p.x1 := of_decide_eq_true h2
        refine ⟨_, rfl, a, _, 1, _, rfl, rfl, SqT.of ha, atI_nat (j := 1) rfl, _, rfl, b, _, 3, _, rfl, rfl, SqT.of hb, atI_nat (j := 3) rfl, p.y0, q.y1, rfl, rfl, _, rfl, ?_⟩
        refine ite2 (fun h3 => ?_) (fun h3 => ?_)
        · have x3 : p.y0 < q.y1 := of_decide_eq_true h3
          refine ⟨_, rfl, b, _, 1, _, rfl, rfl, SqT.of hb, atI_nat (j := 1) rfl, _, rfl, a, _, 3, _, rfl, rfl, SqT.of ha, atI_nat (j := 3) rfl, q.y0, p.y1, rfl, rfl, ?_⟩
          rw [show ov p q = decide (q.y0 < p.y1) from decide_eq_decide.mpr ⟨fun z => z.2.2.2, fun z => ⟨x1, x2, x3, z⟩⟩] at k
          exact k
        · rw [show ov p q = false from decide_eq_false fun z => h3 (decide_eq_true z.2.2.1)] at k
          exact k
      · rw [show ov p q = false from decide_eq_false fun z => h2 (decide_eq_true z.2.1)] at k
        exact k
    · rw [show ov p q = false from decide_eq_false fun z => h1 (decide_eq_true z.1)] at k
      exact k
/-! ### _law_body -/
theorem nat_of {r : Int} {m : Nat} (h0 : 0 ≤ r) (h1 : r < (m : Nat)) : ∃ j : Nat, r = (j : Int) ∧ j < m := ⟨r.toNat, by omega, by omega⟩
theorem pick8 {r : Int} (h0 : 0 ≤ r) (h1 : r < 8) : ∃ m : Int, atI ([.int 0, .int 1, .int 1, .int 2, .int 3, .int 5, .int 10, .int 100] : List V) r = some (.int m) ∧ 0 ≤ m ∧ m ≤ 100 := by
  obtain ⟨j, rfl, hj⟩ := nat_of (m := 8) h0 h1
  match j, hj with
  | 0, _ => exact ⟨0, atI_nat (j := 0) rfl, by decide, by decide⟩
  | 1, _ => exact ⟨1, atI_nat (j := 1) rfl, by decide, by decide⟩
  | 2, _ => exact ⟨1, atI_nat (j := 2) rfl, by decide, by decide⟩
  | 3, _ => exact ⟨2, atI_nat (j := 3) rfl, by decide, by decide⟩
  | 4, _ => exact ⟨3, atI_nat (j := 4) rfl, by decide, by decide⟩
  | 5, _ => exact ⟨5, atI_nat (j := 5) rfl, by decide, by decide⟩
  | 6, _ => exact ⟨10, atI_nat (j := 6) rfl, by decide, by decide⟩
  | 7, _ => exact ⟨100, atI_nat (j := 7) rfl, by decide, by decide⟩
theorem pick4 {r : Int} (h0 : 0 ≤ r) (h1 : r < 4) : ∃ m : Int, atI ([.int 3, .int 12, .int 12, .int 45] : List V) r = some (.int m) ∧ 0 ≤ m ∧ m ≤ 45 := by
  obtain ⟨j, rfl, hj⟩ := nat_of (m := 4) h0 h1
  match j, hj with
  | 0, _ => exact ⟨3, atI_nat (j := 0) rfl, by decide, by decide⟩
  | 1, _ => exact ⟨12, atI_nat (j := 1) rfl, by decide, by decide⟩
  | 2, _ => exact ⟨12, atI_nat (j := 2) rfl, by decide, by decide⟩
  | 3, _ => exact ⟨45, atI_nat (j := 3) rfl, by decide, by decide⟩
theorem sc_lbody : FnScope ["_law_stream_here", "_law_name", "_law_base", "_law_mass", "_law_px", "_law_py", "_law_cx", "_law_cy", "_law_fast", "_law_x", "_law_y"] ["_law_stream_here", "_law_name", "_law_base"] (defScope s_body) := ⟨rfl, rfl, rfl, by decide +kernel, rfl, by decide +kernel, by decide +kernel⟩
def spLBody : Sp := fun vs H Q _ => ∃ (v c e : Addr) (ns : List Int) (z : Int) (k : Nat) (nm : Str), vs = [.ref v, .str nm, .ref e] ∧ Sm H v c ns z k ∧ H e = some (.tup [.int 0, .int 0]) ∧
  ∀ (H' : Hp) (r : Addr) (b : B) (z' : Int) (k' : Nat), But [v] H H' → Sm H' v c ns z' k' → H' r = some (.tup (vB b)) → b.n = nm → BG b → (0 ≤ b.x ∧ b.x ≤ 89) → (0 ≤ b.y ∧ b.y ≤ 39) → Q (.ref r) H'
theorem ok_lbody (T : Txt K mg) : C8.Cal P w K mg base 2 "_law_body" spLBody [] := by
  have cNext : C8.Cal P w K mg base 1 "_law_next" spNext [] := ok_next T
  refine T.cal (ps := ["_law_stream_here", "_law_name", "_law_base"]) 25 30 rfl rfl sc_lbody (fun _ _ _ _ _ _ us hl => match us, hl with | [_, _, _], _ => rfl) (fun vs H Q E h => ?_) (fun f cdv A outer s H vs Q E hr h => ?_)
  · obtain ⟨v, c, e, ns, z, k, nm, rfl, _⟩ := h
    rfl
  · obtain ⟨v, c, e, ns, z, k, nm, rfl, S, he, kk⟩ := h
    refine ⟨_, (pss_cons (ps_set (i := 3) sc_lbody.nd rfl (by first | exact Or.inl rfl | exact Or.inr rfl) (pe_ix ix_list (pe_lst (pa_cons pe_int (pa_cons pe_int (pa_cons pe_int (pa_cons pe_int (pa_cons pe_int (pa_cons pe_int (pa_cons pe_int (pa_cons pe_int pa_nil))))))))) (C8.pe_c cNext hr (by decide) (by rfl) (pa_cons (pv 0) (pa_cons pe_int pa_nil))) (fun _ _ => rfl))) (pss_cons (ps_set (i := 4) sc_lbody.nd rfl (by first | exact Or.inl rfl | exact Or.inr rfl) pe_int) (pss_cons (ps_set (i := 5) sc_lbody.nd rfl (by first | exact Or.inl rfl | exact Or.inr rfl) pe_int) (pss_cons (ps_set (i := 6) sc_lbody.nd rfl (by first | exact Or.inl rfl | exact Or.inr rfl) pe_int) (pss_cons (ps_set (i := 7) sc_lbody.nd rfl (by first | exact Or.inl rfl | exact Or.inr rfl) pe_int) (C8.pss_cut (ps_if (pt_cmpR op_gt (pv 3) pe_int (nomark _)) (pss_cons (ps_set (i := 8) sc_lbody.nd rfl (by first | exact Or.inl rfl | exact Or.inr rfl) (pe_ix ix_list (pe_lst (pa_cons pe_int (pa_cons pe_int (pa_cons pe_int (pa_cons pe_int pa_nil))))) (C8.pe_c cNext hr (by decide) (by rfl) (pa_cons (pv 0) (pa_cons pe_int pa_nil))) (fun _ _ => rfl))) (pss_cons (ps_set (i := 4) sc_lbody.nd rfl (by first | exact Or.inl rfl | exact Or.inr rfl) (pe_op op_sub (C8.pe_c cNext hr (by decide) (by rfl) (pa_cons (pv 0) (pa_cons (pe_op op_add (pe_op op_mul (pe_op op_mul pe_int (pv 8)) (pv 3)) pe_int) pa_nil))) (pe_op op_mul (pv 8) (pv 3)))) (pss_cons (ps_set (i := 5) sc_lbody.nd rfl (by first | exact Or.inl rfl | exact Or.inr rfl) (pe_op op_mul (pe_op op_sub (C8.pe_c cNext hr (by decide) (by rfl) (pa_cons (pv 0) (pa_cons (pe_op op_add (pe_op op_mul (pe_op op_mul pe_int (pv 8)) (pv 3)) pe_int) pa_nil))) (pe_op op_mul (pv 8) (pv 3))) (C8.pe_c cNext hr (by decide) (by rfl) (pa_cons (pv 0) (pa_cons pe_int pa_nil))))) (pss_cons (ps_set (i := 6) sc_lbody.nd rfl (by first | exact Or.inl rfl | exact Or.inr rfl) (C8.pe_c cNext hr (by decide) (by rfl) (pa_cons (pv 0) (pa_cons (pv 3) pa_nil)))) (pss_one (ps_set (i := 7) sc_lbody.nd rfl (by first | exact Or.inl rfl | exact Or.inr rfl) (C8.pe_c cNext hr (by decide) (by rfl) (pa_cons (pv 0) (pa_cons (pv 3) pa_nil))))))))) pss_nil) (pss_cons (ps_set (i := 9) sc_lbody.nd rfl (by first | exact Or.inl rfl | exact Or.inr rfl) (pe_op op_add (pe_ix ix_tup (pv 2) pe_int (fun _ _ => rfl)) (C8.pe_c cNext hr (by decide) (by rfl) (pa_cons (pv 0) (pa_cons pe_int pa_nil))))) (pss_cons (ps_set (i := 10) sc_lbody.nd rfl (by first | exact Or.inl rfl | exact Or.inr rfl) (pe_op op_add (pe_ix ix_tup (pv 2) pe_int (fun _ _ => rfl)) (C8.pe_c cNext hr (by decide) (by rfl) (pa_cons (pv 0) (pa_cons pe_int pa_nil))))) (pss_one (ps_ret (pe_tup (pa_cons (pv 1) (pa_cons (pv 9) (pa_cons (pv 10) (pa_cons (pe_op op_add pe_int (C8.pe_c cNext hr (by decide) (by rfl) (pa_cons (pv 0) (pa_cons pe_int pa_nil)))) (pa_cons (pe_op op_add pe_int (C8.pe_c cNext hr (by decide) (by rfl) (pa_cons (pv 0) (pa_cons pe_int pa_nil)))) (pa_cons (pv 3) (pa_cons (pv 4) (pa_cons (pv 5) (pa_cons (pv 6) (pa_cons (pv 7) pa_nil))))))))))))))))))))), ?_⟩
    have vne : ∀ {H' : Hp} {x : Addr} {z' : Int} {k' : Nat} {o : HO}, Sm H' v c ns z' k' → H' x = some o → (∀ xs, o ≠ .lst xs) → x ∉ [v] := fun S' hx ho hm => by
      rw [List.mem_singleton.mp hm, S'.lst] at hx
      exact ho _ (Option.some.inj hx).symm
    have hev : e ∉ [v] := vne S he (by intro xs z; cases z)
    -- mass
    refine ⟨by show 8 ≤ sizeLine; decide, fun l nl => ?_⟩
    have lv : l ∉ [v] := fun hm => by
      rw [List.mem_singleton.mp hm, S.lst] at nl
      cases nl
    refine ⟨_, rfl, v, c, ns, z, k, 8, rfl, S.same (same_new nl), by decide, by decide, fun H1 r1 z1 k1 b1 S1 l1 u1 => ?_⟩
    obtain ⟨m, hm, m0, m1⟩ := pick8 l1 u1
    refine ⟨l, _, r1, _, rfl, rfl, SqL.of (b1 _ _ upd_same lv), hm, ?_⟩
    have B1 : But [v] H H1 := (But.of (same_new nl)).trans b1
    -- if mass > 0
    refine ⟨fun σ2 H2 => ∃ (px py cx cy : Int) (x8 : Option V) (z2 : Int) (k2 : Nat), σ2 = [some (.ref v), some (.str nm), some (.ref e), some (.int m), some (.int px), some (.int py), some (.int cx), some (.int cy), x8, none, none] ∧ But [v] H H2 ∧ Sm H2 v c ns z2 k2 ∧
      (m = 0 → px = 0 ∧ py = 0 ∧ cx = 0 ∧ cy = 0) ∧ (0 < m → (0 ≤ cx ∧ cx < m) ∧ 0 ≤ cy ∧ cy < m), ?_, ?_⟩
    · refine ⟨_, rfl, m, 0, rfl, rfl, _, rfl, ?_⟩
      refine ite2 (fun hp => ?_) (fun hp => ?_)
      · have hm0 : 0 < m := of_decide_eq_true hp
        refine ⟨by show 4 ≤ sizeLine; decide, fun l2 nl2 => ?_⟩
        have lv2 : l2 ∉ [v] := fun hm => by
          rw [List.mem_singleton.mp hm, S1.lst] at nl2
          cases nl2
        refine ⟨_, rfl, v, c, ns, z1, k1, 4, rfl, S1.same (same_new nl2), by decide, by decide, fun H2 r2 z2 k2 b2 S2 l2' u2 => ?_⟩
        obtain ⟨fa, hfa, f0, f1⟩ := pick4 l2' u2
        refine ⟨l2, _, r2, _, rfl, rfl, SqL.of (b2 _ _ upd_same lv2), hfa, ?_⟩
        have B2 : But [v] H H2 := (B1.trans (But.of (same_new nl2))).trans b2
        have p0 : 0 ≤ 2 * fa * m := Int.mul_nonneg (by omega) m0
        have p1 : 2 * fa * m ≤ 90 * 100 := Int.mul_le_mul (by omega) m1 m0 (by decide)
        have bf : -(2 ^ 64) < fa ∧ fa < 2 ^ 64 := by omega
        have bm : -(2 ^ 64) < m ∧ m < 2 ^ 64 := by omega
        refine ⟨_, rfl, _, rfl, 2, fa, rfl, rfl, .inr bf, _, rfl, 2 * fa, m, rfl, rfl, .inr bm, _, 1, rfl, rfl, v, c, ns, z2, k2, 2 * fa * m + 1, rfl, S2, by omega, by omega, fun H3 r3 z3 k3 b3 S3 l3 u3 => ?_⟩
        refine ⟨_, rfl, _, rfl, fa, m, rfl, rfl, .inr bm, r3, _, rfl, rfl, ?_⟩
        refine ⟨_, rfl, _, rfl, 2, fa, rfl, rfl, .inr bf, _, rfl, 2 * fa, m, rfl, rfl, .inr bm, _, 1, rfl, rfl, v, c, ns, z3, k3, 2 * fa * m + 1, rfl, S3, by omega, by omega, fun H4 r4 z4 k4 b4 S4 l4 u4 => ?_⟩
        refine ⟨_, rfl, _, rfl, fa, m, rfl, rfl, .inr bm, r4, _, rfl, rfl, ?_⟩
        refine ⟨_, rfl, v, c, ns, z4, k4, 2, rfl, S4, by decide, by decide, fun H5 r5 z5 k5 b5 S5 l5 u5 => ?_⟩
        refine ⟨_, r5, rfl, rfl, .inr (by omega), ?_⟩
        refine ⟨_, rfl, _, rfl, v, c, ns, z5, k5, m, rfl, S5, hm0, by omega, fun H6 r6 z6 k6 b6 S6 l6 u6 => ?_⟩
        refine ⟨_, rfl, _, rfl, v, c, ns, z6, k6, m, rfl, S6, hm0, by omega, fun H7 r7 z7 k7 b7 S7 l7 u7 => ?_⟩
        exact ⟨_, _, r6, r7, _, z7, k7, rfl, ((((B2.trans b3).trans b4).trans b5).trans b6).trans b7, S7, fun z => by omega, fun _ => ⟨⟨l6, u6⟩, l7, u7⟩⟩
      · have hm0 : ¬ 0 < m := fun z => hp (decide_eq_true z)
        exact ⟨0, 0, 0, 0, none, z1, k1, rfl, B1, S1, fun _ => ⟨rfl, rfl, rfl, rfl⟩, fun z => absurd z hm0⟩
    · rintro σ2 H2 ⟨px, py, cx, cy, x8, z2, k2, rfl, B2, S2, fx, cr⟩
      have he2 := B2 _ _ he hev
      refine ⟨_, rfl, e, _, 0, _, rfl, rfl, SqT.of he2, atI_nat (j := 0) rfl, _, rfl, v, c, ns, z2, k2, 90, rfl, S2, by decide, by decide, fun H3 r3 z3 k3 b3 S3 l3 u3 => ⟨0, r3, rfl, rfl, ?_⟩⟩
      have he3 := b3 _ _ he2 hev
      refine ⟨_, rfl, e, _, 1, _, rfl, rfl, SqT.of he3, atI_nat (j := 1) rfl, _, rfl, v, c, ns, z3, k3, 40, rfl, S3, by decide, by decide, fun H4 r4 z4 k4 b4 S4 l4 u4 => ⟨0, r4, rfl, rfl, ?_⟩⟩
      refine ⟨_, rfl, _, rfl, _, rfl, ?_⟩
      refine ⟨_, rfl, v, c, ns, z4, k4, 20, rfl, S4, by decide, by decide, fun H5 r5 z5 k5 b5 S5 l5 u5 => ⟨1, r5, rfl, rfl, ?_⟩⟩
      refine ⟨_, rfl, v, c, ns, z5, k5, 20, rfl, S5, by decide, by decide, fun H6 r6 z6 k6 b6 S6 l6 u6 => ⟨1, r6, rfl, rfl, ?_⟩⟩
      refine ⟨_, rfl, _, rfl, _, rfl, _, rfl, _, rfl, by show 10 ≤ sizeLine; decide, fun r nr => ?_⟩
      have nrv : r ≠ v := fun e => by
        rw [e, S6.lst] at nr
        cases nr
      refine kk _ r ⟨nm, 0 + r3, 0 + r4, 1 + r5, 1 + r6, m, px, py, cx, cy⟩ z6 k6 (((((B2.trans b3).trans b4).trans b5).trans b6).trans (But.of (same_new nr))) (S6.same (same_new nr)) upd_same rfl ⟨?_, ?_, ?_, ?_, m0, m1, fx, cr⟩ ?_ ?_
      · show 1 ≤ 1 + r5
        omega
      · show 1 + r5 ≤ 20
        omega
      · show 1 ≤ 1 + r6
        omega
      · show 1 + r6 ≤ 20
        omega
      · show 0 ≤ 0 + r3 ∧ 0 + r3 ≤ 89
        omega
      · show 0 ≤ 0 + r4 ∧ 0 + r4 ≤ 39
        omega
/-! ### _law_bounce -/
theorem sc_lbn : FnScope ["_law_stream_here"] ["_law_stream_here"] (defScope s_bounce) := ⟨rfl, rfl, rfl, by decide +kernel, rfl, by decide +kernel, by decide +kernel⟩
def spLBn : Sp := fun vs H Q _ => ∃ (v c : Addr) (ns : List Int) (z : Int) (k : Nat), vs = [.ref v] ∧ Sm H v c ns z k ∧
  ∀ (H' : Hp) (r : Addr) (n d z' : Int) (k' : Nat), But [v] H H' → Sm H' v c ns z' k' → H' r = some (.tup [.int n, .int d]) → Bn n d → Q (.ref r) H'
theorem ok_lbn (T : Txt K mg) : C8.Cal P w K mg base 2 "_law_bounce" spLBn [] := by
  have cNext : C8.Cal P w K mg base 1 "_law_next" spNext [] := ok_next T
  refine T.cal (ps := ["_law_stream_here"]) 28 33 rfl rfl sc_lbn (fun _ _ _ _ _ _ us hl => match us, hl with | [_], _ => rfl) (fun vs H Q E h => ?_) (fun f cdv A outer s H vs Q E hr h => ?_)
  · obtain ⟨v, c, ns, z, k, rfl, _⟩ := h
    rfl
  · obtain ⟨v, c, ns, z, k, rfl, S, kk⟩ := h
    refine ⟨_, (pss_one (ps_ret (pe_ix ix_list (pe_lst (pa_cons (pe_tup (pa_cons pe_int (pa_cons pe_int pa_nil))) (pa_cons (pe_tup (pa_cons pe_int (pa_cons pe_int pa_nil))) (pa_cons (pe_tup (pa_cons pe_int (pa_cons pe_int pa_nil))) (pa_cons (pe_tup (pa_cons pe_int (pa_cons pe_int pa_nil))) (pa_cons (pe_tup (pa_cons pe_int (pa_cons pe_int pa_nil))) pa_nil)))))) (C8.pe_c cNext hr (by decide) (by rfl) (pa_cons (pv 0) (pa_cons pe_int pa_nil))) (fun _ _ => rfl)))), ?_⟩
    refine ⟨by show 2 ≤ sizeLine; decide, fun t1 n1 => ⟨by show 2 ≤ sizeLine; decide, fun t2 n2 => ⟨by show 2 ≤ sizeLine; decide, fun t3 n3 => ⟨by show 2 ≤ sizeLine; decide, fun t4 n4 => ⟨by show 2 ≤ sizeLine; decide, fun t5 n5 => ⟨by show 5 ≤ sizeLine; decide, fun l nl => ?_⟩⟩⟩⟩⟩⟩
    have s2 := same_new (o := .tup [.int 1, .int 1]) n2
    have s3 := same_new (o := .tup [.int 1, .int 2]) n3
    have s4 := same_new (o := .tup [.int 2, .int 3]) n4
    have s5 := same_new (o := .tup [.int 999, .int 1000]) n5
    have s6 := same_new (o := .lst [.ref t1, .ref t2, .ref t3, .ref t4, .ref t5]) nl
    have s1 := same_new (o := .tup [.int 0, .int 1]) n1
    have h1 := s6 _ _ (s5 _ _ (s4 _ _ (s3 _ _ (s2 _ _ (upd_same (H := H) (a := t1) (o := .tup [.int 0, .int 1]))))))
    have h2 := s6 _ _ (s5 _ _ (s4 _ _ (s3 _ _ (upd_same (a := t2) (o := .tup [.int 1, .int 1])))))
    have h3 := s6 _ _ (s5 _ _ (s4 _ _ (upd_same (a := t3) (o := .tup [.int 1, .int 2]))))
    have h4 := s6 _ _ (s5 _ _ (upd_same (a := t4) (o := .tup [.int 2, .int 3])))
    have h5 := s6 _ _ (upd_same (a := t5) (o := .tup [.int 999, .int 1000]))
    have sA := ((((s1.trans s2).trans s3).trans s4).trans s5).trans s6
    have S' := S.same sA
    refine ⟨_, rfl, v, c, ns, z, k, 5, rfl, S', by decide, by decide, fun H1 r z1 k1 b1 S1 l1 u1 => ?_⟩
    have ne : ∀ {x : Addr} {xs : List V} {H0 : Hp}, Sm H0 v c ns z k → H0 x = some (.tup xs) → x ∉ [v] := fun S0 hx hm => by
      rw [List.mem_singleton.mp hm, S0.lst] at hx
      cases hx
    have lv : l ∉ [v] := fun hm => by
      rw [List.mem_singleton.mp hm] at nl
      have q := ((((s1.trans s2).trans s3).trans s4).trans s5) _ _ S.lst
      rw [nl] at q
      cases q
    have hl := b1 _ _ (upd_same (a := l) (o := .lst [.ref t1, .ref t2, .ref t3, .ref t4, .ref t5])) lv
    have BB := (But.of (S := [v]) sA).trans b1
    obtain ⟨j, rfl, hj⟩ := nat_of (m := 5) l1 u1
    match j, hj with
    | 0, _ => exact ⟨l, _, _, _, rfl, rfl, SqL.of hl, atI_nat (j := 0) rfl, kk _ t1 0 1 z1 k1 BB S1 (b1 _ _ h1 (ne S' h1)) ⟨by decide, by decide, by decide, by decide, by decide⟩⟩
    | 1, _ => exact ⟨l, _, _, _, rfl, rfl, SqL.of hl, atI_nat (j := 1) rfl, kk _ t2 1 1 z1 k1 BB S1 (b1 _ _ h2 (ne S' h2)) ⟨by decide, by decide, by decide, by decide, by decide⟩⟩
    | 2, _ => exact ⟨l, _, _, _, rfl, rfl, SqL.of hl, atI_nat (j := 2) rfl, kk _ t3 1 2 z1 k1 BB S1 (b1 _ _ h3 (ne S' h3)) ⟨by decide, by decide, by decide, by decide, by decide⟩⟩
    | 3, _ => exact ⟨l, _, _, _, rfl, rfl, SqL.of hl, atI_nat (j := 3) rfl, kk _ t4 2 3 z1 k1 BB S1 (b1 _ _ h4 (ne S' h4)) ⟨by decide, by decide, by decide, by decide, by decide⟩⟩
    | 4, _ => exact ⟨l, _, _, _, rfl, rfl, SqL.of hl, atI_nat (j := 4) rfl, kk _ t5 999 1000 z1 k1 BB S1 (b1 _ _ h5 (ne S' h5)) ⟨by decide, by decide, by decide, by decide, by decide +kernel⟩⟩
/-! ### _law_other -/
theorem sc_other : FnScope ["_law_space_here", "_law_names", "_law_dx", "_law_dy", "_law_body_here"] ["_law_space_here", "_law_names", "_law_dx", "_law_dy"] (defScope s_other) := ⟨rfl, rfl, rfl, by decide +kernel, rfl, by decide +kernel, by decide +kernel⟩
def spOther : Sp := fun vs H Q _ => ∃ (a dn : Addr) (ts : List Addr) (bs : List B) (dx dy : Int) (kvs : List (Key × V)) (f : Str → Str), vs = [.ref a, .ref dn, .int dx, .int dy] ∧ H a = some (.tup (ts.map V.ref)) ∧ Tups H ts bs ∧ bs.length ≤ 8 ∧ H dn = some (.dK kvs) ∧ (∀ b ∈ bs, valV kvs (.inr b.n) = some (.str (f b.n))) ∧
  ∀ (H' : Hp) (s : Addr) (ts' : List Addr), Same H H' → H' s = some (.tup (ts'.map V.ref)) → Tups H' ts' (bs.map (sh f dx dy)) → Q (.ref s) H'
theorem ok_other (T : Txt K mg) : C8.Cal P w K mg base 1 "_law_other" spOther [] := by
  refine T.cal (ps := ["_law_space_here", "_law_names", "_law_dx", "_law_dy"]) 29 34 rfl rfl sc_other (fun _ _ _ _ _ _ us hl => match us, hl with | [_, _, _, _], _ => rfl) (fun vs H Q E h => ?_) (fun f cdv A outer s H vs Q E hr h => ?_)
  · obtain ⟨a, dn, ts, bs, dx, dy, kvs, g, rfl, _⟩ := h
    rfl
  · obtain ⟨a, dn, ts, bs, dx, dy, kvs, g, rfl, ha, ht, hl8, hd, hv, k⟩ := h
    refine ⟨_, (pss_one (ps_ret (pe_callTy call_tuple_of (by rfl) (T.free 48) (by decide +kernel) (pa_cons (pe_lc (own := [("_law_body_here", 4)]) (g := gName 4) (tt := tYes) rfl sc_other.nd (pi_tup (pv 0)) (blkOk_by (N := ["_law_space_here", "_law_names", "_law_dx", "_law_dy", "_law_body_here"]) (sc := defScope s_other) (by decide +kernel)) (fun _ _ _ _ _ => (pg_name (i := 4) sc_other.nd rfl (by first | exact Or.inl rfl | exact Or.inr rfl))) (fun _ _ _ _ _ => pts_nil) (fun _ _ _ _ _ => (pe_op (opK_cat K) (pe_tup (pa_cons (pe_dget (hu_of hr) (pv 1) (pe_ix (ixK_tup K) (pv 4) pe_int (fun _ _ => rfl)) (fun _ _ => rfl)) (pa_cons (pe_op op_add (pe_ix (ixK_tup K) (pv 4) pe_int (fun _ _ => rfl)) (pv 2)) (pa_cons (pe_op op_add (pe_ix (ixK_tup K) (pv 4) pe_int (fun _ _ => rfl)) (pv 3)) pa_nil)))) (pe_slice (slK_tup K) (pv 4) (po_some pe_int) po_none)))) pa_nil)))), ?_⟩
    have el : (ts.map V.ref).length = bs.length := by rw [List.length_map, ht.1]
    dsimp only [tRet, tCB, tCons]
    refine lc_new (n := (ts.map V.ref).length) (r := fun i x => (ts.map V.ref)[i]? = some x) (fun i => .tup (match bs[i]? with | some b => vB (sh g dx dy b) | none => []))
      (fun R kk => ⟨_, rfl, a, rfl, ⟨_, SqT.of ha⟩, kk _ _ (Same.refl _) (pure_tup ha)⟩) (by rw [el]; exact line_of (by omega)) (fun i x H1 Kt hi hx s1 kt => kt _ rfl fun R hR => ?_) (fun D H1 ts' hD s1 hlen hnd hfree hDas hDL hat => ?_)
    · obtain ⟨t, ht', rfl⟩ := ref_of hx
      rw [el] at hi
      obtain ⟨t2, b, e1, e2, e3⟩ := ht.get hi
      rw [ht'] at e1
      cases e1
      have hA := s1 _ _ e3
      have hD1 := s1 _ _ hd
      have dg : DGet H1 dn (.str b.n) (some (.str (g b.n))) := by
        have q := DGet.k (k := (Sum.inr b.n : Key)) hD1
        rw [hv b (at_mem e2)] at q
        exact q
      refine ⟨_, rfl, _, rfl, t, _, 0, _, rfl, rfl, SqT.of hA, atI_nat (j := 0) rfl, dn, _, rfl, dg, ?_⟩
      refine ⟨_, rfl, t, _, 1, _, rfl, rfl, SqT.of hA, atI_nat (j := 1) rfl, _, rfl, b.x, dx, rfl, rfl, ?_⟩
      refine ⟨_, rfl, t, _, 2, _, rfl, rfl, SqT.of hA, atI_nat (j := 2) rfl, _, rfl, b.y, dy, rfl, rfl, by show 3 ≤ sizeLine; decide, fun u nu => ?_⟩
      have hA2 := same_new (o := .tup [.str (g b.n), .int (b.x + dx), .int (b.y + dy)]) nu _ _ hA
      refine ⟨_, rfl, 3, rfl, t, _, rfl, SqT.of hA2, (fun z => absurd (show (3 : Nat) = 0 from z.1) (by decide)), fun u2 nu2 => ?_⟩
      refine ⟨u, u2, _, _, rfl, rfl, SqT.of (same_new nu2 _ _ upd_same), SqT.of upd_same, by simp, by show 3 + 7 ≤ sizeLine; decide, fun z => absurd (show ([.int b.w, .int b.h, .int b.m, .int b.px, .int b.py, .int b.cx, .int b.cy] : List V) = [] from z) (by simp), fun _ u3 nu3 => ?_⟩
      refine hR _ u3 (((same_new nu).trans (same_new nu2)).trans (same_new nu3)) (((same_new nu).trans (same_new nu2)).free nu3) ?_
      rw [upd_same, e2]
      rfl
    · refine ⟨D, _, rfl, .inl ⟨SqL.of hDL, fun sT nsT => ?_⟩⟩
      refine k _ sT ts' (s1.trans (same_new nsT)) upd_same ⟨by rw [hlen, el, List.length_map], fun i t b h1 h2 => ?_⟩
      rw [List.getElem?_map] at h2
      have e := hat i t h1
      cases hb : bs[i]? with
      | none =>
        rw [hb] at h2
        cases h2
      | some b0 =>
        rw [hb] at h2 e
        rw [← Option.some.inj h2]
        exact same_new nsT _ _ e
end
end K22
set_option maxHeartbeats 4000000
/-! K22W12: the law. -/
namespace K22
open PySem PySem.Spec PyProof.Rows L2
/-! ### the names -/
def lt8 : List Str := ["a", "b", "c", "d", "e", "f", "g", "h"]
theorem lt8_asc : lt8.Pairwise fun a b => a.cps.toList < b.cps.toList := by decide +kernel
theorem lt8_ok : ∀ n ∈ lt8, NmOk n := by
  have h : (lt8.all fun n => nmB n.cps.toList) = true := by decide +kernel
  intro n hn
  exact List.all_eq_true.mp h n hn
theorem asc_of {ns : List Str} (h : ns.Pairwise fun a b => a.cps.toList < b.cps.toList) : Asc ns := fun i a b ha hb => by
  obtain ⟨h1, e1⟩ := List.getElem?_eq_some_iff.mp ha
  obtain ⟨h2, e2⟩ := List.getElem?_eq_some_iff.mp hb
  have := List.pairwise_iff_getElem.mp h i (i + 1) h1 h2 (Nat.lt_succ_self i)
  rw [e1, e2] at this
  exact this
theorem nms_sub {ns : List Str} (h : ns.Sublist lt8) : Nms ns := ⟨fun n hn => lt8_ok n (h.subset hn), asc_of (lt8_asc.sublist h)⟩
/-- the i-th other name -/
def nmS (j : Nat) : Str := ("n" : Str) ++ ((toString (((j + 1 : Nat) : Nat) : Int) : String) : Str) ++ ("x" : Str)
theorem nmS_all : (((List.range 8).map nmS).Pairwise fun a b => a.cps.toList < b.cps.toList) ∧ (((List.range 8).map nmS).all fun n => nmB n.cps.toList) = true := by
  constructor
  · decide +kernel
  · decide +kernel
theorem nmS_nms {m : Nat} (h : m ≤ 8) : Nms ((List.range m).map nmS) := by
  have hs : ((List.range m).map nmS).Sublist ((List.range 8).map nmS) := (List.range_sublist.mpr h).map nmS
  exact ⟨fun n hn => List.all_eq_true.mp nmS_all.2 n (hs.subset hn), asc_of (nmS_all.1.sublist hs)⟩
theorem nmS_len {j : Nat} (h : j < 8) : (nmS j).length ≤ 12 := by
  have q : ∀ j, j < 8 → (nmS j).length ≤ 12 := by decide +kernel
  exact q j h
/-- what a dict of names says of a name -/
def fOf (kvs : List (Key × V)) (s : Str) : Str := match valV kvs (.inr s) with
  | some (.str z) => z
  | _ => ""
theorem fOf_eq {kvs : List (Key × V)} {s z : Str} (h : valV kvs (.inr s) = some (.str z)) : fOf kvs s = z := by
  unfold fOf
  rw [h]
theorem fOf_val {kvs : List (Key × V)} {s z : Str} (h : valV kvs (.inr s) = some (.str z)) : valV kvs (.inr s) = some (.str (fOf kvs s)) := by
  rw [fOf_eq h]
  exact h
/-! ### equal data -/
theorem eqv_row {H : Hp} {a b : Addr} {xs : List V} (ha : H a = some (.tup xs)) (hb : H b = some (.tup xs)) (hl : xs.length ≤ 50) (hx : ∀ x ∈ xs, (∃ i : Int, x = .int i) ∨ ∃ z : Str, x = .str z) : EqV 2 H (.ref a) (.ref b) := by
  refine .inr (.inr ⟨a, b, xs, xs, rfl, rfl, .inl ⟨ha, hb⟩, rfl, hl, fun i u v h1 h2 => ?_⟩)
  rw [h1] at h2
  cases h2
  rcases hx u (List.mem_of_getElem? h1) with ⟨i, rfl⟩ | ⟨z, rfl⟩
  · exact .inl ⟨i, rfl, rfl⟩
  · exact .inr (.inl ⟨z, rfl, rfl⟩)
theorem vB_flat (b : B) : ∀ x ∈ vB b, (∃ i : Int, x = .int i) ∨ ∃ z : Str, x = .str z := by
  intro x hx
  simp only [vB, List.mem_cons, List.not_mem_nil, or_false] at hx
  rcases hx with rfl | rfl | rfl | rfl | rfl | rfl | rfl | rfl | rfl | rfl
  · exact .inr ⟨_, rfl⟩
  all_goals exact .inl ⟨_, rfl⟩
theorem vC_flat (c : C) : ∀ x ∈ vC c, (∃ i : Int, x = .int i) ∨ ∃ z : Str, x = .str z := by
  intro x hx
  simp only [vC, List.mem_cons, List.not_mem_nil, or_false] at hx
  rcases hx with rfl | rfl | rfl | rfl | rfl
  · exact .inr ⟨_, rfl⟩
  · exact .inl ⟨_, rfl⟩
  · exact .inr ⟨_, rfl⟩
  · exact .inr ⟨_, rfl⟩
  · exact .inl ⟨_, rfl⟩
theorem eqv_space {H : Hp} {a b : Addr} {ts us : List Addr} {bs : List B} (ha : H a = some (.tup (ts.map V.ref))) (hb : H b = some (.tup (us.map V.ref))) (h1 : Tups H ts bs) (h2 : Tups H us bs) (hl : bs.length ≤ 8) : EqV 3 H (.ref a) (.ref b) := by
  refine .inr (.inr ⟨a, b, _, _, rfl, rfl, .inl ⟨ha, hb⟩, by rw [List.length_map, List.length_map, h1.1, h2.1], by rw [List.length_map, h2.1]; omega, fun i u v e1 e2 => ?_⟩)
  obtain ⟨t, ht, rfl⟩ := ref_of e1
  obtain ⟨t', ht', rfl⟩ := ref_of e2
  have hi : i < bs.length := by
    rw [← h1.1]
    exact (List.getElem?_eq_some_iff.mp ht).1
  have hb : bs[i]? = some bs[i] := List.getElem?_eq_getElem hi
  exact eqv_row (h1.2 i t _ ht hb) (h2.2 i t' _ ht' hb) (by rw [vB_len]; decide) (vB_flat _)
theorem eqv_told {H : Hp} {a b : Addr} {ts us : List Addr} {cs : List C} (ha : H a = some (.lst (ts.map V.ref))) (hb : H b = some (.lst (us.map V.ref))) (h1 : Cts H ts cs) (h2 : Cts H us cs) (hl : cs.length ≤ 16) : EqV 3 H (.ref a) (.ref b) := by
  refine .inr (.inr ⟨a, b, _, _, rfl, rfl, .inr ⟨ha, hb⟩, by rw [List.length_map, List.length_map, h1.1, h2.1], by rw [List.length_map, h2.1]; omega, fun i u v e1 e2 => ?_⟩)
  obtain ⟨t, ht, rfl⟩ := ref_of e1
  obtain ⟨t', ht', rfl⟩ := ref_of e2
  have hi : i < cs.length := by
    rw [← h1.1]
    exact (List.getElem?_eq_some_iff.mp ht).1
  have hb : cs[i]? = some cs[i] := List.getElem?_eq_getElem hi
  exact eqv_row (h1.2 i t _ ht hb) (h2.2 i t' _ ht' hb) (by show 5 ≤ 50; decide) (vC_flat _)
/-! ### the world that is built -/
structure Lw (H : Hp) (v c sp dn : Addr) (ns : List Int) (ts : List Addr) (bs : List B) (kvs : List (Key × V)) (i : Nat) : Prop where
  sm : ∃ z k, Sm H v c ns z k
  spl : H sp = some (.lst (ts.map V.ref))
  dic : H dn = some (.dK kvs)
  tup : Tups H ts bs
  nv : sp ≠ v
  nc : sp ≠ c
  sub : (bs.map B.n).Sublist (lt8.take i)
  good : ∀ b ∈ bs, BG b
  near : ∀ b ∈ bs, (0 ≤ b.x ∧ b.x ≤ 89) ∧ 0 ≤ b.y ∧ b.y ≤ 39
  free : Free (bs.map B.box)
  val : ∀ (j : Nat) (b : B), bs[j]? = some b → valV kvs (.inr b.n) = some (.str (nmS j))
  klen : kvs.length ≤ i + 1
theorem Lw.len {H : Hp} {v c sp dn : Addr} {ns : List Int} {ts : List Addr} {bs : List B} {kvs : List (Key × V)} {i : Nat} (w : Lw H v c sp dn ns ts bs kvs i) : bs.length ≤ i ∧ bs.length ≤ 8 := by
  have h := w.sub.length_le
  rw [List.length_map, List.length_take] at h
  have e : lt8.length = 8 := rfl
  omega
theorem Lw.skip {H H' : Hp} {v c sp dn : Addr} {ns : List Int} {ts : List Addr} {bs : List B} {kvs : List (Key × V)} {i : Nat} (w : Lw H v c sp dn ns ts bs kvs i) (b : But [v] H H') (S : ∃ z k, Sm H' v c ns z k) : Lw H' v c sp dn ns ts bs kvs i := by
  have hv : ∃ xs, H v = some (.lst xs) := by
    obtain ⟨z, k, S⟩ := w.sm
    exact ⟨_, S.lst⟩
  obtain ⟨xv, hv⟩ := hv
  refine ⟨S, b _ _ w.spl (fun h => w.nv (List.mem_singleton.mp h)), b _ _ w.dic (fun h => ?_), ⟨w.tup.1, fun j t x h1 h2 => b _ _ (w.tup.2 j t x h1 h2) (fun h => ?_)⟩, w.nv, w.nc, w.sub, w.good, w.near, w.free, w.val, w.klen⟩
  · have e := w.dic
    rw [List.mem_singleton.mp h, hv] at e
    cases e
  · have e := w.tup.2 j t x h1 h2
    rw [List.mem_singleton.mp h, hv] at e
    cases e
theorem Lw.up {H : Hp} {v c sp dn : Addr} {ns : List Int} {ts : List Addr} {bs : List B} {kvs : List (Key × V)} {i : Nat} (w : Lw H v c sp dn ns ts bs kvs i) : Lw H v c sp dn ns ts bs kvs (i + 1) :=
  ⟨w.sm, w.spl, w.dic, w.tup, w.nv, w.nc, by rw [List.take_add_one]; exact w.sub.trans (List.sublist_append_left _ _), w.good, w.near, w.free, w.val, by have := w.klen; omega⟩
theorem Lw.add {H : Hp} {v c sp dn : Addr} {ns : List Int} {ts : List Addr} {bs : List B} {kvs : List (Key × V)} {i : Nat} (w : Lw H v c sp dn ns ts bs kvs i) {t : Addr} {b : B} (ht : H t = some (.tup (vB b))) (hn : lt8[i]? = some b.n) (hg : BG b) (hx : 0 ≤ b.x ∧ b.x ≤ 89) (hy : 0 ≤ b.y ∧ b.y ≤ 39)
    (hf : ∀ (j : Nat) (o : B), bs[j]? = some o → ov b.box o.box = false) :
    Lw (upd (upd H sp (.lst (ts.map V.ref ++ [.ref t]))) dn (.dK (putK kvs (.inr b.n) (.str (nmS bs.length))))) v c sp dn ns (ts ++ [t]) (bs ++ [b]) (putK kvs (.inr b.n) (.str (nmS bs.length))) (i + 1) := by
  obtain ⟨z, k, S⟩ := w.sm
  have nds : sp ≠ dn := ne_of w.spl w.dic (by intro z; cases z)
  have ndv : v ≠ dn := ne_of S.lst w.dic (by intro z; cases z)
  have ndc : c ≠ dn := ne_of S.cells w.dic (by intro z; cases z)
  have sub' : ((bs ++ [b]).map B.n).Sublist (lt8.take (i + 1)) := by
    rw [List.take_add_one, hn, List.map_append]
    exact w.sub.append (List.Sublist.refl _)
  have tups : ∀ {x : Addr} {xs : List V}, H x = some (.tup xs) → (upd (upd H sp (.lst (ts.map V.ref ++ [.ref t]))) dn (.dK (putK kvs (.inr b.n) (.str (nmS bs.length))))) x = some (.tup xs) := fun {x xs} e => by
    have n1 : x ≠ sp := ne_of e w.spl (by intro z; cases z)
    have n2 : x ≠ dn := ne_of e w.dic (by intro z; cases z)
    rw [upd_ne n2, upd_ne n1]
    exact e
  refine ⟨⟨z, k, by rw [upd_ne ndv, upd_ne (Ne.symm w.nv)]; exact S.lst, by rw [upd_ne ndc, upd_ne (Ne.symm w.nc)]; exact S.cells, S.z0, S.vc⟩, by rw [upd_ne nds, upd_same, List.map_append]; rfl, upd_same, ⟨by rw [List.length_append, List.length_append, w.tup.1]; rfl, fun j u x h1 h2 => ?_⟩, w.nv, w.nc, sub', fun x hx' => ?_, fun x hx' => ?_, ?_, fun j x hj => ?_, ?_⟩
  · by_cases hj : j < ts.length
    · rw [List.getElem?_append_left hj] at h1
      rw [List.getElem?_append_left (by rw [← w.tup.1]; exact hj)] at h2
      exact tups (w.tup.2 j u x h1 h2)
    · rw [List.getElem?_append_right (by omega)] at h1
      rw [List.getElem?_append_right (by rw [← w.tup.1]; omega), ← w.tup.1] at h2
      have hz : j - ts.length = 0 := by
        have := (List.getElem?_eq_some_iff.mp h1).1
        simp at this
        omega
      rw [hz] at h1 h2
      have e1 : t = u := Option.some.inj h1
      have e2 : b = x := Option.some.inj h2
      rw [← e1, ← e2]
      exact tups ht
  · rcases List.mem_append.mp hx' with q | q
    · exact w.good x q
    · rw [List.mem_singleton.mp q]
      exact hg
  · rcases List.mem_append.mp hx' with q | q
    · exact w.near x q
    · rw [List.mem_singleton.mp q]
      exact ⟨hx, hy⟩
  · intro p q r1 r2 hpq h1 h2
    rw [List.map_append] at h1 h2
    have one : ∀ {p : Nat} {r : Bx}, (bs.map B.box ++ [b].map B.box)[p]? = some r → (p < bs.length ∧ (bs.map B.box)[p]? = some r) ∨ (p = bs.length ∧ r = b.box) := fun {p r} h => by
      by_cases hp : p < bs.length
      · rw [List.getElem?_append_left (by rw [List.length_map]; exact hp)] at h
        exact .inl ⟨hp, h⟩
      · rw [List.getElem?_append_right (by rw [List.length_map]; omega), List.length_map] at h
        have hz : p - bs.length = 0 := by
          have := (List.getElem?_eq_some_iff.mp h).1
          simp at this
          omega
        rw [hz] at h
        exact .inr ⟨by omega, (Option.some.inj h).symm⟩
    have old : ∀ {p : Nat} {r : Bx}, (bs.map B.box)[p]? = some r → ov b.box r = false := fun {p r} h => by
      rw [List.getElem?_map] at h
      cases ho : bs[p]? with
      | none =>
        rw [ho] at h
        cases h
      | some o =>
        rw [ho] at h
        rw [← Option.some.inj h]
        exact hf p o ho
    rcases one h1 with ⟨l1, e1⟩ | ⟨l1, e1⟩
    · rcases one h2 with ⟨l2, e2⟩ | ⟨l2, e2⟩
      · exact w.free p q r1 r2 hpq e1 e2
      · rw [e2, ov_comm]
        exact old e1
    · rcases one h2 with ⟨l2, e2⟩ | ⟨l2, e2⟩
      · rw [e1]
        exact old e2
      · omega
  · rw [valV_put]
    by_cases hj' : j < bs.length
    · rw [List.getElem?_append_left hj'] at hj
      have hne : ¬ (Sum.inr x.n : Key) = Sum.inr b.n := fun e => by
        have e' := Sum.inr.inj e
        have pw := lt8_asc.sublist (sub'.trans (List.take_sublist _ _))
        rw [List.map_append, List.pairwise_append] at pw
        have q := pw.2.2 x.n (List.mem_map.mpr ⟨x, at_mem hj, rfl⟩) b.n (by simp)
        rw [e'] at q
        exact List.lt_irrefl _ q
      rw [if_neg hne]
      exact w.val j x hj
    · rw [List.getElem?_append_right (by omega)] at hj
      have hz : j - bs.length = 0 := by
        have := (List.getElem?_eq_some_iff.mp hj).1
        simp at this
        omega
      rw [hz] at hj
      have e2 : b = x := Option.some.inj hj
      rw [← e2, if_pos rfl, show j = bs.length by omega]
  · have := length_putK kvs (.inr b.n : Key) (.str (nmS bs.length))
    have := w.klen
    omega
end K22
set_option maxHeartbeats 400000
/-! K22W13: the law. -/
namespace K22
open PySem PySem.Spec PyProof.Rows L2
theorem wipe_get (σ : L2.St) (i : Nat) : ∀ vs : List Nat, (wipe σ vs)[i]? = if i ∈ vs then (σ[i]?).map (fun _ => none) else σ[i]?
  | [] => by simp [wipe]
  | v :: vs => by
    unfold wipe
    rw [List.getElem?_set, wipe_length, wipe_get σ i vs]
    by_cases h : v = i
    · subst h
      rw [if_pos rfl, if_pos List.mem_cons_self]
      split
      · next hl =>
        rw [List.getElem?_eq_getElem hl]
        rfl
      · next hl =>
        rw [List.getElem?_eq_none (by omega)]
        rfl
    · rw [if_neg h]
      by_cases hm : i ∈ vs
      · rw [if_pos hm, if_pos (List.mem_cons_of_mem _ hm)]
      · rw [if_neg hm, if_neg (fun z => by
          rcases List.mem_cons.mp z with e | e
          · exact h e.symm
          · exact hm e)]
theorem wipe_set {σ : L2.St} {vs : List Nat} {i : Nat} {x : Option V} (h : i ∈ vs) : wipe (σ.set i x) vs = wipe σ vs := by
  refine List.ext_getElem? fun j => ?_
  rw [wipe_get, wipe_get]
  by_cases hj : j ∈ vs
  · rw [if_pos hj, if_pos hj, List.getElem?_set]
    split
    · next e =>
      subst e
      split
      · next hl =>
        rw [List.getElem?_eq_getElem hl]
        rfl
      · next hl => rw [List.getElem?_eq_none (by omega)]
    · rfl
  · rw [if_neg hj, if_neg hj, List.getElem?_set_ne (fun e => hj (by rw [← e]; exact h))]
theorem wipe_wipe {σ : L2.St} {vs : List Nat} : wipe (wipe σ vs) vs = wipe σ vs := by
  refine List.ext_getElem? fun j => ?_
  rw [wipe_get, wipe_get]
  by_cases hj : j ∈ vs
  · rw [if_pos hj, if_pos hj]
    cases σ[j]? <;> rfl
  · rw [if_neg hj, if_neg hj]
theorem wipe5 {σ : L2.St} {vs : List Nat} {a b c d e : Nat} {xa xb xc xd xe : Option V} (h : a ∈ vs ∧ b ∈ vs ∧ c ∈ vs ∧ d ∈ vs ∧ e ∈ vs) : wipe ((((((wipe σ vs).set a xa).set b xb).set c xc).set d xd).set e xe) vs = wipe σ vs := by
  obtain ⟨ha, hb, hc, hd, he⟩ := h
  rw [wipe_set he, wipe_set hd, wipe_set hc, wipe_set hb, wipe_set ha, wipe_wipe]
theorem w5m : 13 ∈ ([13, 14, 4, 15, 16] : List Nat) ∧ 14 ∈ ([13, 14, 4, 15, 16] : List Nat) ∧ 4 ∈ ([13, 14, 4, 15, 16] : List Nat) ∧ 15 ∈ ([13, 14, 4, 15, 16] : List Nat) ∧ 16 ∈ ([13, 14, 4, 15, 16] : List Nat) := by decide
theorem st_row {a v s dn x4 x5 o dx dy q x10 x11 x12 t s' c' o' u' y13 y14 y4 y15 y16 : Option V} : ((((((wipe ((((([a, v, s, dn, x4, x5, o, dx, dy, q, x10, x11, x12, none, none, none, none].set 10 t).set 2 s').set 11 c').set 6 o').set 12 u') [13, 14, 4, 15, 16]).set 13 y13).set 14 y14).set 4 y4).set 15 y15).set 16 y16) = [a, v, s', dn, y4, x5, o', dx, dy, q, t, c', u', y13, y14, y15, y16] := by
  simp only [wipe, List.set]
theorem gName_go {i : Nat} {v : V} {σ : L2.St} {H : Hp} {Q : L2.St → Hp → Prop} (h : Q (σ.set i (some v)) H) : gName i v σ H Q := h
theorem nm_parts {j : Nat} (h : j < 8) : ((((j + 1 : Nat) : Nat) : Int).natAbs.log2 < 1920) ∧ (("n" : Str).length + ((toString (((j + 1 : Nat) : Nat) : Int) : String) : Str).length ≤ 12) ∧ ((("n" : Str) ++ ((toString (((j + 1 : Nat) : Nat) : Int) : String) : Str)).length + ("x" : Str).length ≤ 12) := by
  have q : ∀ j, j < 8 → ((((j + 1 : Nat) : Nat) : Int).natAbs.log2 < 1920) ∧ (("n" : Str).length + ((toString (((j + 1 : Nat) : Nat) : Int) : String) : Str).length ≤ 12) ∧ ((("n" : Str) ++ ((toString (((j + 1 : Nat) : Nat) : Int) : String) : Str)).length + ("x" : Str).length ≤ 12) := by decide +kernel
  exact q j h
def lv8 : List V := [.str "a", .str "b", .str "c", .str "d", .str "e", .str "f", .str "g", .str "h"]
theorem lv8_at {j : Nat} {x : V} (h : lv8[j]? = some x) : ∃ s : Str, x = .str s ∧ lt8[j]? = some s ∧ j < 8 := by
  have e : lv8 = lt8.map V.str := rfl
  rw [e, List.getElem?_map] at h
  cases q : lt8[j]? with
  | none =>
    rw [q] at h
    cases h
  | some s =>
    rw [q] at h
    exact ⟨s, (Option.some.inj h).symm, rfl, (List.getElem?_eq_some_iff.mp q).1⟩
/-- what stands between the turns -/
structure Tn (H : Hp) (s o dn q : Addr) (ts us : List Addr) (bs : List B) (g : Str → Str) (dx dy : Int) (kvs : List (Key × V)) (n d : Int) (nms : List Str) (i : Nat) : Prop where
  sp : H s = some (.tup (ts.map V.ref))
  tup : Tups H ts bs
  ot : H o = some (.tup (us.map V.ref))
  otup : Tups H us (bs.map (sh g dx dy))
  dic : H dn = some (.dK kvs)
  bn : H q = some (.tup [.int n, .int d])
  ok : Ok (100 + 64 * (i : Nat)) bs
  names : bs.map B.n = nms
theorem sh_names (g : Str → Str) (dx dy : Int) (bs : List B) : (bs.map (sh g dx dy)).map B.n = (bs.map B.n).map g := by
  rw [List.map_map, List.map_map]
  rfl
theorem names_of {H : Hp} {v c sp dn : Addr} {ns : List Int} {ts : List Addr} {bs : List B} {kvs : List (Key × V)} {i : Nat} (w : Lw H v c sp dn ns ts bs kvs i) : Nms (bs.map B.n) ∧ Nms ((bs.map B.n).map (fOf kvs)) ∧ ∀ nm ∈ bs.map B.n, valV kvs (.inr nm) = some (.str (fOf kvs nm)) := by
  refine ⟨nms_sub (w.sub.trans (List.take_sublist _ _)), ?_, fun nm hm => ?_⟩
  · have e : (bs.map B.n).map (fOf kvs) = (List.range bs.length).map nmS := by
      refine List.ext_getElem? fun j => ?_
      rw [List.map_map, List.getElem?_map, List.getElem?_map]
      cases hb : bs[j]? with
      | none =>
        rw [List.getElem?_eq_none (by rw [List.length_range]; exact List.getElem?_eq_none_iff.mp hb)]
        rfl
      | some b =>
        rw [List.getElem?_range (List.getElem?_eq_some_iff.mp hb).1]
        show some (fOf kvs b.n) = some (nmS j)
        rw [fOf_eq (w.val j b hb)]
    rw [e]
    exact nmS_nms w.len.2
  · obtain ⟨b, hb, rfl⟩ := List.mem_map.mp hm
    obtain ⟨j, hj, ej⟩ := List.mem_iff_getElem.mp hb
    exact fOf_val (w.val j b (by rw [List.getElem?_eq_getElem hj, ej]))
section
variable {P : Program} {w : World} {K : PySem.W.Frag} {mg : Str → Option Value} {base : Heap}
theorem sc_law : FnScope ["_law_script", "_law_stream_here", "_law_space_here", "_law_names", "_law_name", "_law_body_here", "_law_other_here", "_law_dx", "_law_dy", "_law_bounce_here", "_law_turn", "_law_contacts", "_law_told", "_law_axis", "_law_s", "_law_met", "_law_j"] ["_law_script"] (defScope s_law) := ⟨rfl, rfl, rfl, by decide +kernel, rfl, by decide +kernel, by decide +kernel⟩
def spLaw (K : PySem.W.Frag) : Sp := fun vs H Q _ => ∃ (a : Addr) (ns : List Int), vs = [.ref a] ∧ SqL K H a (ns.map V.int) ∧ ∀ H', Q (.bl true) H'
theorem ok_law (T : Txt K mg) {f : Addr} {fd : FuncData} (F : FunD K "law" "law" (defArgs s_law) (defBody s_law) (defScope s_law) [] [] f fd) : FnOk P w K mg base C8.CX0 9 f fd ["_law_script"] (spLaw K) := by
  have cStream : C8.Cal P w K mg base 1 "_law_stream" (spStream K) [] := ok_stream T
  have cNext : C8.Cal P w K mg base 1 "_law_next" spNext [] := ok_next T
  have cLBody : C8.Cal P w K mg base 2 "_law_body" spLBody [] := ok_lbody T
  have cLBox : C8.Cal P w K mg base 1 "_law_box" spLBox [] := ok_lbox T
  have cLOv : C8.Cal P w K mg base 1 "_law_overlap" spOverlap [] := ok_lov T
  have cLBn : C8.Cal P w K mg base 2 "_law_bounce" spLBn [] := ok_lbn T
  have cOther : C8.Cal P w K mg base 1 "_law_other" spOther [] := ok_other T
  have cTick : C8.Cal P w K mg base 8 "tick" spTick [] := ok_tick T
  have cEq : C8.Cal P w K mg base 5 "_law_equal" (spEq 3) [] := ok_equal T 3
  refine FunD.ok (CX := C8.CX0) F sc_law (fun vs H Q E h => ?_) (fun cdv A outer s H vs Q E hr h => ?_)
  · obtain ⟨a, ns, rfl, _⟩ := h
    rfl
  · obtain ⟨a, ns, rfl, ha, kk⟩ := h
    refine ⟨_, PSs.nox (pss_cons (ps_set (i := 1) sc_law.nd rfl (by first | exact Or.inl rfl | exact Or.inr rfl) (C8.pe_c cStream hr (by decide) (by rfl) (pa_cons (pv 0) pa_nil))) (pss_cons (ps_set (i := 2) sc_law.nd rfl (by first | exact Or.inl rfl | exact Or.inr rfl) (pe_lst pa_nil)) (pss_cons (ps_set (i := 3) sc_law.nd rfl (by first | exact Or.inl rfl | exact Or.inr rfl) (pe_disp (pps_cons pe_str pe_str pps_nil) (by rfl) (by rfl) (fun z => by cases z) (by decide))) (pss_cons (ps_for PassesOwn.never rfl (pi_list (pe_slice sl_list (pe_lst (pa_cons pe_str (pa_cons pe_str (pa_cons pe_str (pa_cons pe_str (pa_cons pe_str (pa_cons pe_str (pa_cons pe_str (pa_cons pe_str pa_nil))))))))) po_none (po_some (C8.pe_c cNext hr (by decide) (by rfl) (pa_cons (pv 1) (pa_cons pe_int pa_nil)))))) (pg_name (i := 4) sc_law.nd rfl (by first | exact Or.inl rfl | exact Or.inr rfl)) (pss_cons (ps_set (i := 5) sc_law.nd rfl (by first | exact Or.inl rfl | exact Or.inr rfl) (C8.pe_c cLBody hr (by decide) (by rfl) (pa_cons (pv 1) (pa_cons (pv 4) (pa_cons (pe_tup (pa_cons pe_int (pa_cons pe_int pa_nil))) pa_nil))))) (pss_one (ps_if (pt_not (pt_val (pe_callB (cr_any rfl) (by rfl) (T.free 51) (by decide +kernel) (pa_cons (pe_lc (own := [("_law_other_here", 6)]) (g := gName 6) (tt := tYes) rfl sc_law.nd (pi_list (pv 2)) (blkOk_by (N := ["_law_script", "_law_stream_here", "_law_space_here", "_law_names", "_law_name", "_law_body_here", "_law_other_here", "_law_dx", "_law_dy", "_law_bounce_here", "_law_turn", "_law_contacts", "_law_told", "_law_axis", "_law_s", "_law_met", "_law_j"]) (sc := defScope s_law) (by decide +kernel)) (fun _ _ _ _ _ => (pg_name (i := 6) sc_law.nd rfl (by first | exact Or.inl rfl | exact Or.inr rfl))) (fun _ _ _ _ _ => pts_nil) (fun _ _ _ _ _ => (C8.pe_c cLOv hr (by decide) (by rfl) (pa_cons (C8.pe_c cLBox hr (by decide) (by rfl) (pa_cons (pv 5) pa_nil)) (pa_cons (C8.pe_c cLBox hr (by decide) (by rfl) (pa_cons (pv 6) pa_nil)) pa_nil))))) pa_nil)))) (pss_cons (ps_expr (pe_bm PySem.F.plainAttrs_list PySem.F.slot_list_append PySem.F.type_list_append mt_append (pv 2) (pa_cons (pv 5) pa_nil))) (pss_one (ps_dput (hu_of hr) (pv 3) (pv 4) (pe_op op_add_str (pe_op op_add_str pe_str (pe_callTy call_str_int (by rfl) (T.free 52) (by decide +kernel) (pa_cons (pe_callB call_len (by rfl) (T.free 49) (by decide +kernel) (pa_cons (pv 2) pa_nil)) pa_nil))) pe_str) rfl))) pss_nil)))) (pss_cons (ps_set (i := 2) sc_law.nd rfl (by first | exact Or.inl rfl | exact Or.inr rfl) (pe_callTy call_tuple_of (by rfl) (T.free 48) (by decide +kernel) (pa_cons (pv 2) pa_nil))) (pss_cons (ps_set (i := 7) sc_law.nd rfl (by first | exact Or.inl rfl | exact Or.inr rfl) (pe_op op_sub (C8.pe_c cNext hr (by decide) (by rfl) (pa_cons (pv 1) (pa_cons pe_int pa_nil))) pe_int)) (pss_cons (ps_set (i := 8) sc_law.nd rfl (by first | exact Or.inl rfl | exact Or.inr rfl) (pe_op op_sub (C8.pe_c cNext hr (by decide) (by rfl) (pa_cons (pv 1) (pa_cons pe_int pa_nil))) pe_int)) (pss_cons (ps_set (i := 9) sc_law.nd rfl (by first | exact Or.inl rfl | exact Or.inr rfl) (C8.pe_c cLBn hr (by decide) (by rfl) (pa_cons (pv 1) pa_nil))) (pss_cons (ps_set (i := 6) sc_law.nd rfl (by first | exact Or.inl rfl | exact Or.inr rfl) (C8.pe_c cOther hr (by decide) (by rfl) (pa_cons (pv 2) (pa_cons (pv 3) (pa_cons (pv 7) (pa_cons (pv 8) pa_nil)))))) (pss_cons (ps_for PassesOwn.never rfl (pi_range1 (by rfl) (T.free 54) (pa_cons (pe_op op_add pe_int (C8.pe_c cNext hr (by decide) (by rfl) (pa_cons (pv 1) (pa_cons pe_int pa_nil)))) pa_nil)) (pg_name (i := 10) sc_law.nd rfl (by first | exact Or.inl rfl | exact Or.inr rfl)) (pss_cons (ps_asg (C8.pe_c cTick hr (by decide) (by rfl) (pa_cons (pv 2) (pa_cons (pv 9) pa_nil))) (pg_tup rfl (pgs_cons (pg_name (i := 2) sc_law.nd rfl (by first | exact Or.inl rfl | exact Or.inr rfl)) (pgs_cons (pg_name (i := 11) sc_law.nd rfl (by first | exact Or.inl rfl | exact Or.inr rfl)) pgs_nil)))) (pss_cons (ps_asg (C8.pe_c cTick hr (by decide) (by rfl) (pa_cons (pv 6) (pa_cons (pv 9) pa_nil))) (pg_tup rfl (pgs_cons (pg_name (i := 6) sc_law.nd rfl (by first | exact Or.inl rfl | exact Or.inr rfl)) (pgs_cons (pg_name (i := 12) sc_law.nd rfl (by first | exact Or.inl rfl | exact Or.inr rfl)) pgs_nil)))) (pss_cons (ps_if (pt_not (pt_val (C8.pe_c cEq hr (by decide) (by rfl) (pa_cons (pv 6) (pa_cons (C8.pe_c cOther hr (by decide) (by rfl) (pa_cons (pv 2) (pa_cons (pv 3) (pa_cons (pv 7) (pa_cons (pv 8) pa_nil))))) pa_nil))))) (pss_one (ps_ret pe_bl)) pss_nil) (pss_one (ps_if (pt_not (pt_val (C8.pe_c cEq hr (by decide) (by rfl) (pa_cons (pv 12) (pa_cons (pe_lc (own := [("_law_axis", 13), ("_law_s", 14), ("_law_name", 4), ("_law_met", 15), ("_law_j", 16)]) (g := gTup K 5 (gCons (gName 13) (gCons (gName 14) (gCons (gName 4) (gCons (gName 15) (gCons (gName 16) gNil)))))) (tt := tYes) rfl sc_law.nd (pi_list (pv 11)) (blkOk_by (N := ["_law_script", "_law_stream_here", "_law_space_here", "_law_names", "_law_name", "_law_body_here", "_law_other_here", "_law_dx", "_law_dy", "_law_bounce_here", "_law_turn", "_law_contacts", "_law_told", "_law_axis", "_law_s", "_law_met", "_law_j"]) (sc := defScope s_law) (by decide +kernel)) (fun _ _ _ _ _ => (pg_tup rfl (pgs_cons (pg_name (i := 13) sc_law.nd rfl (by first | exact Or.inl rfl | exact Or.inr rfl)) (pgs_cons (pg_name (i := 14) sc_law.nd rfl (by first | exact Or.inl rfl | exact Or.inr rfl)) (pgs_cons (pg_name (i := 4) sc_law.nd rfl (by first | exact Or.inl rfl | exact Or.inr rfl)) (pgs_cons (pg_name (i := 15) sc_law.nd rfl (by first | exact Or.inl rfl | exact Or.inr rfl)) (pgs_cons (pg_name (i := 16) sc_law.nd rfl (by first | exact Or.inl rfl | exact Or.inr rfl)) pgs_nil))))))) (fun _ _ _ _ _ => pts_nil) (fun _ _ _ _ _ => (pe_tup (pa_cons (pv 13) (pa_cons (pv 14) (pa_cons (pe_dget (hu_of hr) (pv 3) (pv 4) (fun _ _ => rfl)) (pa_cons (pe_dget (hu_of hr) (pv 3) (pv 15) (fun _ _ => rfl)) (pa_cons (pv 16) pa_nil)))))))) pa_nil))))) (pss_one (ps_ret pe_bl)) pss_nil)))))) (pss_one (ps_ret pe_bl)))))))))))), ?_⟩
    -- the stream, the list, the dict
    refine ⟨_, rfl, a, ns, rfl, ha, fun H1 v c s1 nv nc S1 => ?_⟩
    refine ⟨Nat.zero_le _, fun sp nsp => ?_⟩
    refine fun dn ndn => ⟨upd_same, [(.inr "", .str "")], rfl, by decide, ?_⟩
    rw [upd_upd]
    have sA := same_new (o := .lst []) nsp
    have sB := same_new (o := .dK (mergeK [] [(.inr "", .str "")])) ndn
    have S2 := (S1.same sA).same sB
    have hsp2 : upd (upd H1 sp (.lst [])) dn (.dK (mergeK [] [(.inr "", .str "")])) sp = some (.lst []) := sB _ _ upd_same
    have hdn2 : upd (upd H1 sp (.lst [])) dn (.dK (mergeK [] [(.inr "", .str "")])) dn = some (.dK [(.inr "", .str "")]) := upd_same
    have nv2 : sp ≠ v := fun e => by
      rw [e, S1.lst] at nsp
      cases nsp
    have nc2 : sp ≠ c := fun e => by
      rw [e, S1.cells] at nsp
      cases nsp
    generalize upd (upd H1 sp (.lst [])) dn (.dK (mergeK [] [(.inr "", .str "")])) = H2 at S2 hsp2 hdn2 ⊢
    have W0 : Lw H2 v c sp dn ns [] [] [(.inr "", .str "")] 0 := ⟨⟨_, _, S2⟩, hsp2, hdn2, ⟨rfl, (fun j t b h => by simp at h)⟩, nv2, nc2, by simp, (fun b hb => by cases hb), (fun b hb => by cases hb), (fun i j p q _ h => by simp at h), (fun j b h => by simp at h), Nat.le_refl _⟩
    -- for name in [..][:next(9)]
    refine ⟨by show 8 ≤ sizeLine; decide, fun l nl => ?_⟩
    have nlv : l ∉ [v] := fun hm => by
      rw [List.mem_singleton.mp hm, S2.lst] at nl
      cases nl
    refine ⟨_, rfl, v, c, ns, 0, 0, 9, rfl, S2.same (same_new nl), by decide, by decide, fun H3 r z1 k1 b3 S3 l3 u3 => ?_⟩
    obtain ⟨m, rfl, hm⟩ := nat_of (m := 9) l3 u3
    have hl3 := b3 _ _ (upd_same (a := l) (o := .lst lv8)) nlv
    refine ⟨_, rfl, l, lv8, rfl, SqL.of hl3, fun l2 nl2 => ⟨l2, rfl, ⟨_, SqL.of upd_same⟩, ?_⟩⟩
    rw [cut_to (xs := lv8) (i := m) (by show m ≤ 8; omega)]
    have nl2v : l2 ∉ [v] := fun hm => by
      rw [List.mem_singleton.mp hm, S3.lst] at nl2
      cases nl2
    have W3 := (W0.skip ((But.of (same_new nl)).trans b3) ⟨_, _, S3⟩).skip (But.of (same_new (o := .lst (lv8.take m)) nl2)) ⟨_, _, S3.same (same_new nl2)⟩
    have nl2s : l2 ≠ sp := fun e => by
      rw [e, (W0.skip ((But.of (same_new nl)).trans b3) ⟨_, _, S3⟩).spl] at nl2
      cases nl2
    refine for_it (walk_list (K := K) (a := l2) (xs := lv8.take m)) (fun i σ H4 => ∃ (x4 x5 : Option V) (ts : List Addr) (bs : List B) (kvs : List (Key × V)), σ = [some (.ref a), some (.ref v), some (.ref sp), some (.ref dn), x4, x5, none, none, none, none, none, none, none, none, none, none, none] ∧ Lw H4 v c sp dn ns ts bs kvs i ∧ H4 l2 = some (.lst (lv8.take m)))
      ⟨none, none, [], [], _, rfl, W3, upd_same⟩ (fun i σ H4 _ pv => ?_) (fun i x σ H4 H5 hi pv y => ?_) (fun σ H4 pv => ?_)
    · obtain ⟨_, _, _, _, _, _, _, hL⟩ := pv
      exact SqL.of hL
    · obtain ⟨x4, x5, ts, bs, kvs, rfl, w4, hL⟩ := pv
      obtain ⟨rfl, hx⟩ := y
      have hx8 : lv8[i]? = some x := by
        rw [List.getElem?_take] at hx
        split at hx
        · exact hx
        · cases hx
      obtain ⟨nm, rfl, hnm, hi8⟩ := lv8_at hx8
      have hlen : bs.length < 8 := Nat.lt_of_le_of_lt w4.len.1 hi8
      obtain ⟨z4, k4, S4⟩ := w4.sm
      refine ⟨_, rfl, _, rfl, by show 2 ≤ sizeLine; decide, fun e ne => ?_⟩
      refine ⟨v, c, e, ns, z4, k4, nm, rfl, S4.same (same_new ne), upd_same, fun H5 t b z5 k5 b5 S5 ht hn hg hbx hby => ?_⟩
      subst hn
      have B5 := (But.of (S := [v]) (same_new (o := .tup [.int 0, .int 0]) ne)).trans b5
      have w5 := w4.skip B5 ⟨_, _, S5⟩
      have hL5 := B5 _ _ hL nl2v
      have el : (ts.map V.ref).length = bs.length := by rw [List.length_map, w5.tup.1]
      refine gName_go ?_
      dsimp only [tIfS, tNot, tB, tCB, tCons]
      refine lc_pure (n := (ts.map V.ref).length) (r := fun j x => (ts.map V.ref)[j]? = some x) (fun j => .bl (match bs[j]? with | some o => ov b.box o.box | none => false)) (fun R k2 => ⟨_, rfl, sp, rfl, ⟨_, SqL.of w5.spl⟩, k2 _ _ (Same.refl _) (pure_lst w5.spl)⟩) (by rw [el]; exact line_of (by omega)) (fun _ => rfl) (fun j x H6 Q' hj hx6 s6 k6 => ?_) (fun D H6 hD s6 hDL => ?_)
      · obtain ⟨u, hu, rfl⟩ := ref_of hx6
        rw [el] at hj
        have hb : bs[j]? = some bs[j] := List.getElem?_eq_getElem hj
        generalize bs[j] = o at hb
        refine ⟨_, rfl, t, b, rfl, s6 _ _ ht, fun r nr => ⟨_, rfl, u, o, rfl, same_new nr _ _ (s6 _ _ (w5.tup.2 j u o hu hb)), fun r2 nr2 => ?_⟩⟩
        refine ⟨r, r2, b.box, o.box, rfl, same_new nr2 _ _ upd_same, upd_same, ?_⟩
        have e := k6 _ ((same_new (o := .tup (vBx b.box)) nr).trans (same_new (o := .tup (vBx o.box)) nr2))
        rw [hb] at e
        exact e
      · refine ⟨_, (List.range (ts.map V.ref).length).map fun j => (match bs[j]? with | some o => ov b.box o.box | none => false), rfl, SqL.of (by rw [hDL, map_bl]), ?_⟩
        rw [el]
        have w6 := w5.skip (But.of s6) ⟨_, _, S5.same s6⟩
        have hL6 := s6 _ _ hL5
        have ht6 := s6 _ _ ht
        refine ⟨_, rfl, ?_⟩
        refine ite2 (fun hf => ?_) (fun hf => ?_)
        · have free : ∀ (j : Nat) (o : B), bs[j]? = some o → ov b.box o.box = false := fun j o hj => by
            have hf2 : ((List.range bs.length).map fun j => (match bs[j]? with | some o => ov b.box o.box | none => false)).any id = false := by
              cases hc : ((List.range bs.length).map fun j => (match bs[j]? with | some o => ov b.box o.box | none => false)).any id with
              | false => rfl
              | true =>
                rw [hc] at hf
                cases hf
            rw [List.any_map, List.any_eq_false] at hf2
            have q := hf2 j (List.mem_range.mpr (List.getElem?_eq_some_iff.mp hj).1)
            simp only [Function.comp_apply, id_eq, hj, Bool.not_eq_true] at q
            exact q
          obtain ⟨p1, p2, p3⟩ := nm_parts hlen
          have hsz : (ts.map V.ref).length < sizeLine := by
            rw [el]
            exact line_of (by omega)
          refine ⟨_, rfl, .inl ⟨rfl, _, SqL.of w6.spl⟩, _, rfl, sp, _, _, rfl, rfl, w6.spl, hsz, ?_⟩
          have hdn7 : upd H6 sp (.lst (ts.map V.ref ++ [.ref t])) dn = some (.dK kvs) := by
            rw [upd_ne (ne_of w6.dic w6.spl (by intro z; cases z))]
            exact w6.dic
          have e7 : (ts.map V.ref ++ [V.ref t]).length = bs.length + 1 := by
            rw [List.length_append, el]
            rfl
          refine ⟨_, rfl, _, (ts.map V.ref ++ [V.ref t]).length, rfl, .inl ⟨_, SqL.of upd_same, rfl⟩, ?_⟩
          rw [e7]
          have big : (12 : Nat) ≤ sizeLine := by decide
          refine ⟨_, rfl, p1, _, _, rfl, rfl, Nat.le_trans p2 big, _, _, rfl, rfl, Nat.le_trans p3 big, ?_⟩
          refine ⟨_, rfl, _, rfl, dn, _, rfl, DPut.k (k := Sum.inr b.n) hdn7 (Nat.lt_of_le_of_lt w6.klen (line_of (by omega))), ?_⟩
          have w7 := w6.add ht6 hnm hg hbx hby free
          refine ⟨_, _, _, _, _, rfl, w7, ?_⟩
          rw [upd_ne (ne_of hL6 w6.dic (by intro z; cases z)), upd_ne nl2s]
          exact hL6
        · exact ⟨_, _, _, _, _, rfl, w6.up, hL6⟩
    · obtain ⟨x4, x5, ts, bs, kvs, rfl, w4, _⟩ := pv
      obtain ⟨nmA, nmB', nmV⟩ := names_of w4
      obtain ⟨z4, k4, S4⟩ := w4.sm
      -- space = tuple(space); dx, dy
      refine ⟨_, rfl, sp, _, rfl, .inl ⟨SqL.of w4.spl, fun s0 ns0 => ?_⟩⟩
      have e5 := same_new (o := .tup (ts.map V.ref)) ns0
      refine ⟨_, rfl, v, c, ns, z4, k4, 20001, rfl, S4.same e5, by decide, by decide, fun H6 r6 z6 k6 b6 S6 l6 u6 => ⟨r6, 10000, rfl, rfl, ?_⟩⟩
      refine ⟨_, rfl, v, c, ns, z6, k6, 20001, rfl, S6, by decide, by decide, fun H7 r7 z7 k7 b7 S7 l7 u7 => ⟨r7, 10000, rfl, rfl, ?_⟩⟩
      have ddx : -10000 ≤ r6 - 10000 ∧ r6 - 10000 ≤ 10000 := by omega
      have ddy : -10000 ≤ r7 - 10000 ∧ r7 - 10000 ≤ 10000 := by omega
      -- bounce
      refine ⟨_, rfl, v, c, ns, z7, k7, rfl, S7, fun H8 q n d z8 k8 b8 S8 hq hB => ?_⟩
      have B8 : But [v] H4 H8 := (((But.of e5).trans b6).trans b7).trans b8
      have w8 := w4.skip B8 ⟨_, _, S8⟩
      have ns0v : s0 ∉ [v] := fun hm => by
        rw [List.mem_singleton.mp hm, S4.lst] at ns0
        cases ns0
      have hs8 : H8 s0 = some (.tup (ts.map V.ref)) := ((b6.trans b7).trans b8) _ _ upd_same ns0v
      -- other
      refine ⟨_, rfl, _, rfl, _, rfl, _, rfl, s0, dn, ts, bs, (r6 - 10000), (r7 - 10000), kvs, fOf kvs, rfl, hs8, w8.tup, w8.len.2, w8.dic, fun b hb => nmV _ (List.mem_map.mpr ⟨b, hb, rfl⟩), fun H9 o us s9 ho hus => ?_⟩
      -- the turns
      refine ⟨_, rfl, v, c, ns, z8, k8, 3, rfl, S8.same s9, by decide, by decide, fun H10 r10 z10 k10 b10 S10 l10 u10 => ⟨1, r10, rfl, rfl, _, rfl, by omega, by omega, ?_⟩⟩
      have nev : ∀ {x : Addr} {ob : HO}, H9 x = some ob → (∀ xs, ob ≠ .lst xs) → x ∉ [v] := fun hx ho hm => by
        rw [List.mem_singleton.mp hm, (S8.same s9).lst] at hx
        exact ho _ (Option.some.inj hx).symm
      have keep : ∀ {x : Addr} {xs : List V}, H9 x = some (.tup xs) → H10 x = some (.tup xs) := fun hx => b10 _ _ hx (nev hx (by intro xs z; cases z))
      have ok0 : Ok (100 + 64 * ((0 : Nat) : Nat)) bs := ⟨w4.len.2, w4.good, fun b hb => by
        have := w4.near b hb
        omega, w4.free⟩
      have T0 : Tn H10 s0 o dn q ts us bs (fOf kvs) (r6 - 10000) (r7 - 10000) kvs n d (bs.map B.n) 0 :=
        ⟨keep (s9 _ _ hs8), ⟨w8.tup.1, fun j t x h1 h2 => keep (s9 _ _ (w8.tup.2 j t x h1 h2))⟩, keep ho, ⟨hus.1, fun j t x h1 h2 => keep (hus.2 j t x h1 h2)⟩, b10 _ _ (s9 _ _ w8.dic) (nev (s9 _ _ w8.dic) (by intro xs z; cases z)), keep (s9 _ _ hq), ok0, rfl⟩
      have hN : (1 + r10).toNat ≤ 3 := by omega
      refine for_range (fun i σ H11 => ∃ (x10 x11 x12 : Option V) (s o : Addr) (ts us : List Addr) (bi : List B), σ = [some (.ref a), some (.ref v), some (.ref s), some (.ref dn), x4, x5, some (.ref o), some (.int (r6 - 10000)), some (.int (r7 - 10000)), some (.ref q), x10, x11, x12, none, none, none, none] ∧ Tn H11 s o dn q ts us bi (fOf kvs) (r6 - 10000) (r7 - 10000) kvs n d (bs.map B.n) i)
        ⟨none, none, none, s0, o, ts, us, bs, rfl, T0⟩ (fun i σ H11 hi pv => ?_) (fun σ H11 pv => kk _)
      obtain ⟨x10, x11, x12, s, o, ts, us, bi, rfl, t11⟩ := pv
      have hi3 : i < 3 := by omega
      have okA : Ok 18900 bi := t11.ok.mono (by omega)
      have okB : Ok 18900 (bi.map (sh (fOf kvs) (r6 - 10000) (r7 - 10000))) := (t11.ok.shift (fOf kvs) ddx ddy).mono (by omega)
      -- space, contacts = tick(space, bounce)
      refine ⟨_, rfl, _, rfl, s, q, ts, bi, n, d, rfl, t11.sp, t11.tup, okA, by rw [t11.names]; exact nmA, t11.bn, hB, fun H12 rT sT ts' cT cts s12 out => ?_⟩
      refine ⟨rT, [.ref sT, .ref cT], rfl, SqT.of out.pair, rfl, .ref sT, [.ref cT], rfl, .ref cT, [], rfl, rfl, ?_⟩
      -- other, told = tick(other, bounce)
      refine ⟨_, rfl, _, rfl, o, q, us, bi.map (sh (fOf kvs) (r6 - 10000) (r7 - 10000)), n, d, rfl, s12 _ _ t11.ot, t11.otup.same s12, okB, by rw [sh_names, t11.names]; exact nmB', s12 _ _ t11.bn, hB, fun H13 rU sU us' cU cus s13 out2 => ?_⟩
      refine ⟨rU, [.ref sU, .ref cU], rfl, SqT.of out2.pair, rfl, .ref sU, [.ref cU], rfl, .ref cU, [], rfl, rfl, ?_⟩
      rw [sh_end] at out2
      have g := okA.fin n d
      have gN := t11.ok.next n d
      have nmE : (endM n d bi).bs.map B.n = bs.map B.n := g.names.trans t11.names
      have cN := g.cnames
      rw [t11.names] at cN
      have cap : (endM n d bi).cs.length ≤ 16 := Nat.le_trans (Nat.le_add_right _ _) g.cap
      have lE := g.len8
      have o2 : Out H13 rU ((endM n d bi).bs.map (sh (fOf kvs) (r6 - 10000) (r7 - 10000))) ((endM n d bi).cs.map (shC (fOf kvs))) sU us' cU cus := out2
      clear out2 g
      generalize (endM n d bi).bs = es at out o2 gN nmE lE
      generalize (endM n d bi).cs = cs at out o2 cN cap
      have tE := out.tups.same s13
      have dE := s13 _ _ (s12 _ _ t11.dic)
      -- the spaces are alike
      refine ⟨_, rfl, _, rfl, _, rfl, _, rfl, _, rfl, sT, dn, ts', es, (r6 - 10000), (r7 - 10000), kvs, fOf kvs, rfl, s13 _ _ out.sp, tE, lE, dE, fun b hb => nmV _ (by rw [← nmE]; exact List.mem_map.mpr ⟨b, hb, rfl⟩), fun H14 s2 ts2 s14 h2 ht2 => ?_⟩
      refine ⟨_, _, rfl, eqv_space (s14 _ _ o2.sp) h2 (o2.tups.same s14) ht2 (by rw [List.length_map]; exact lE), fun H15 s15 => ⟨_, rfl, iteF ?_⟩⟩
      -- the contacts are alike
      have s9c := (s13.trans s14).trans s15
      have hC15 := s9c _ _ out.lst
      have cC15 : Cts H15 cts cs := out.con.same fun x xs e => s9c _ _ e
      have d15 := (s14.trans s15) _ _ dE
      have hU15 := (s14.trans s15) _ _ o2.lst
      have cU15 : Cts H15 cus (cs.map (shC (fOf kvs))) := o2.con.same fun x xs e => (s14.trans s15) _ _ e
      have sp15 := s9c _ _ out.sp
      have tp15 := tE.same (s14.trans s15)
      have so15 := (s14.trans s15) _ _ o2.sp
      have to15 := o2.tups.same (s14.trans s15)
      have bn15 := ((s12.trans s13).trans (s14.trans s15)) _ _ t11.bn
      have el : (cts.map V.ref).length = cs.length := by rw [List.length_map, cC15.1]
      have dg : ∀ {H' : Hp} {z : Str}, Same H15 H' → z ∈ bs.map B.n → DGet H' dn (.str z) (some (.str (fOf kvs z))) := fun {H' z} s' hz => by
        have q := DGet.k (k := (Sum.inr z : Key)) (s' _ _ d15)
        rw [nmV _ hz] at q
        exact q
      dsimp only [tIfS, tNot, tB]
      refine ⟨_, rfl, ?_⟩
      dsimp only [tCons]
      refine lc_new (vs := [13, 14, 4, 15, 16]) (n := (cts.map V.ref).length) (r := fun j x => (cts.map V.ref)[j]? = some x) (fun j => .tup (match cs[j]? with | some c => vC (shC (fOf kvs) c) | none => []))
        (fun R k2 => ⟨_, rfl, cT, rfl, ⟨_, SqL.of hC15⟩, k2 _ _ (Same.refl _) (pure_lst hC15)⟩) (by rw [el]; exact line_of (by omega)) (fun j x H16 Kt hj hx s16 kt => ?_) (fun D H16 as hD s16 hlen hnd hfree hDas hDL hat => ?_)
      · obtain ⟨t, ht', rfl⟩ := ref_of hx
        rw [el] at hj
        have hc : cs[j]? = some cs[j] := List.getElem?_eq_getElem hj
        have cn := cN cs[j] (List.getElem_mem hj)
        generalize cs[j] = cc at hc cn
        have hA := s16 _ _ (cC15.2 j t cc ht' hc)
        refine ⟨t, vC cc, rfl, SqT.of hA, rfl, .str (if cc.ax then "y" else "x"), [.int cc.s, .str cc.a, .str cc.b, .int cc.j], rfl, .int cc.s, [.str cc.a, .str cc.b, .int cc.j], rfl, .str cc.a, [.str cc.b, .int cc.j], rfl, .str cc.b, [.int cc.j], rfl, .int cc.j, [], rfl, rfl, ?_⟩
        refine kt _ (by exact wipe5 w5m) fun R hR => ?_
        rw [st_row]
        refine ⟨_, rfl, _, rfl, _, rfl, _, rfl, dn, _, rfl, dg s16 cn.1, _, rfl, _, rfl, dn, _, rfl, dg s16 cn.2, _, rfl, by show 5 ≤ sizeLine; decide, fun u nu => hR _ u (same_new nu) nu ?_⟩
        rw [upd_same, hc]
        rfl
      · have cD : Cts H16 as (cs.map (shC (fOf kvs))) := by
          refine ⟨by rw [hlen, el, List.length_map], fun j t x h1 h2 => ?_⟩
          rw [List.getElem?_map] at h2
          have e := hat j t h1
          cases hb : cs[j]? with
          | none =>
            rw [hb] at h2
            cases h2
          | some c0 =>
            rw [hb] at h2 e
            rw [← Option.some.inj h2]
            exact e
        refine ⟨_, _, rfl, eqv_told (s16 _ _ hU15) hDL (cU15.same fun x xs e => s16 _ _ e) cD (by rw [List.length_map]; exact cap), fun H17 s17 => ⟨_, rfl, iteF ?_⟩⟩
        have sE := s16.trans s17
        refine ⟨_, _, _, sT, sU, ts', us', es, rfl, ⟨sE _ _ sp15, tp15.same sE, sE _ _ so15, to15.same sE, sE _ _ d15, sE _ _ bn15, gN.mono (by omega), nmE⟩⟩
end
end K22
set_option maxHeartbeats 0
/-! K22Head: what the top leaves, as facts by names. -/
namespace K22
open PySem PySem.Spec PyProof.Rows L2
abbrev R : PySem.W.OpenRow := PySem.W.OpenLaw.row PySem.Challenge.rw_alikeplay_k22_whole_same_ticks_elsewhere
abbrev hk : PySem.W.Hook := He.hookX 5 fas fns [] [] exs
def ob (s : PySem.W.SharedT) : He.AlX := He.obsX 5 fas fns [] [] exs (HandSHeadRun.getT s)
theorem ob_eq (s : PySem.W.SharedT) : ob s = hk.obs s.abs := He.obsX_eq (HandSHeadRun.getT_eq s)
def names1 : List PySem.Str := ["PlayError", "BadValue", "is_whole", "is_between", "is_fraction", "FARTHEST", "is_coordinate", "is_box", "do_overlap", "moved_by", "LETTERS", "DIGITS", "is_name", "LONGEST", "HEAVIEST", "FASTEST", "raw_box", "is_body", "MOST_BODIES", "FINEST", "EDGE", "is_space", "check_space"]
def names2 : List PySem.Str := ["check_bounce", "limited", "passed", "Moving", "tick", "_law_stream", "_law_next", "_law_is_integer", "_law_gcd", "_law_low", "_law_plus", "_law_times", "_law_power", "_law_ratio", "_law_equal", "_law_body", "_law_box", "_law_overlap", "_law_in_world", "_law_space", "_law_bounce", "_law_other"]
def names : List PySem.Str := names1 ++ names2
theorem run (w : World) : HandSHeadRun.RunEqI R (PySem.W.view R.prog [0, 53]) hk ob 4000 names w := by

  unfold HandSHeadRun.RunEqI
  kernel_rfl
end K22
set_option maxHeartbeats 4000000
/-! K22End: the head's facts handed to the walk; the row. -/
namespace K22
open PySem PySem.Spec PyProof.Rows L2
theorem facts {P : Program} {w : World} {K : PySem.W.Frag} {h : Heap} {mg : Str → Option Value} {f : Addr} (X : K.In h) (G : h.Ns mainGlobals mg) (hfa : mg ("law" : Str) = some (.ref f)) (c : He.SaysD fas fns K) (ce : exs K = true) :
    ∃ fd : FuncData, (∀ (s : Shared) (v : Value), BindsTo s fd ⟨[v], []⟩ [("_law_script", v)]) ∧ ∀ base : Heap, K.In base → base.Ns mainGlobals mg → FnOk P w K mg base C8.CX0 9 f fd ["_law_script"] (spLaw K) := by
  have T : Txt K mg := ⟨c, PySem.W.mg_of X G (He.eqO_ok ce), ⟨h, X, G⟩⟩
  obtain ⟨fd, F⟩ := c.def_ 30 (d := dg "law" s_law) rfl
  have e := hfa.symm.trans (T.glo 35)
  cases e
  have b := FunD.bindsA (ps := ["_law_script"]) F fun _ _ _ _ _ _ us hl => match us, hl with | [_], _ => rfl
  exact ⟨fd, fun s v => b s [v] rfl, fun base _ _ => ok_law T F⟩
end K22
open PySem PySem.W PySem.Calls PyProof.Rows
theorem PySem.Challenge.cw_alikeplay_k22_whole_same_ticks_elsewhere_holds : PySem.Challenge.rw_alikeplay_k22_whole_same_ticks_elsewhere.Holds := by
  w_on; o_law
  refine HandSHeadRun.head_imp (r := OpenLaw.row PySem.Challenge.rw_alikeplay_k22_whole_same_ticks_elsewhere) (q := view K22.R.prog [0, 53]) (H := K22.hk) (ob := K22.ob) (M := 4000) (loose := K22.names) (d := HandSHeadRun.topDef K22.R.prog 53) (kwd := []) K22.ob_eq K22.run
    (by kernel_rfl) (by kernel_rfl) (by kernel_rfl) (by rfl) (by first | assumption | decide +kernel) (by decide +kernel) ⟨rfl, rfl, rfl, rfl, rfl, by decide +kernel⟩ ?hw ?hc
  case hw => w_witness2
  case hc =>
    refine L2.walk_ofE (l := PySem.Challenge.rw_alikeplay_k22_whole_same_ticks_elsewhere) (n := 63) (k := 9) (x := "_law_script") (CX := C8.CX0) rfl (by decide) (by kernel_rfl) ⟨rfl, by decide, by decide⟩ ?F (fun _ _ _ _ z => z)
    intro w mg fa h Y G hmg0
    obtain ⟨K, KX, c⟩ := Y
    have hmg : mg ("law" : PySem.Str) = some (.ref fa) := by
      have e : (HandSHeadRun.topDef K22.R.prog 53).name = ("law" : PySem.Str) := by kernel_rfl
      rw [← e]
      exact hmg0
    obtain ⟨fd, hb, hF⟩ := K22.facts (P := (PySem.Challenge.rw_alikeplay_k22_whole_same_ticks_elsewhere).prog) (w := w) KX G hmg c.t.d c.more
    exact ⟨K, fd, K22.spLaw K, KX, hb, fun H a ns _ _ hS => ⟨a, ns, rfl, hS, fun _ => rfl⟩, hF⟩
