import PyProof.Rows.All
import Wide.All
import OpenK.AllK
import Wide.FinOn
import HandS.ForMost
import HandS.Defaults
import HandS.HeadHook1
import HandS.HeadHook2
import KE.GoesMore
import HandS.Conv
import HandS.Strs
import HandS.TupSets
import HandS.DictComp
import HandS.Flow
import HandS.IsInst
import HandS.Small
import HandS.TupAny
import HandS.TupLen
import HandS.Walk
import HandS.Zip
import HandS.SetFor
import HandS.Style
import KE.KSuper
import KE.KSuperObj
import HandS.More
import HandS.Iter
import KE.KDictPairs
import KE.KDictCopyH
import HandS.Head0
import HandS.Head1
import HandS.Head2
import HandS.HeadEnd
import PySem.Challenge.RW_hiddenforks_k43_whole_what_comes_later
-- K43Text
set_option Elab.async false
set_option linter.all false
set_option maxRecDepth 100000
/-! printed by gen_text.py: the text by places -/
namespace K43
open PySem L2
def top (i : Nat) : Stmt := PySem.Challenge.pw_hiddenforks_k43_whole_what_comes_later.main.body.getD i (.Pass ⟨0, 0, 0, 0⟩)
abbrev s_as_tuples : Stmt := top 2
abbrev s_events_of : Stmt := top 12
abbrev s_looks : Stmt := top 13
abbrev s_adds : Stmt := top 14
abbrev sB_init : Stmt := inClass (top 18) 0
abbrev sB_many : Stmt := inClass (top 18) 1
abbrev sB_is_alike : Stmt := inClass (top 18) 2
abbrev sB_is_below : Stmt := inClass (top 18) 3
abbrev sB_has : Stmt := inClass (top 18) 4
abbrev sB_bind : Stmt := inClass (top 18) 6
abbrev sB_lower : Stmt := inClass (top 18) 7
abbrev sB_go_through : Stmt := inClass (top 18) 8
abbrev sB_looked : Stmt := inClass (top 18) 9
abbrev sB_compared : Stmt := inClass (top 18) 10
abbrev sB_is_late : Stmt := inClass (top 18) 11
abbrev sB_close : Stmt := inClass (top 18) 12
abbrev sB_rules : Stmt := inClass (top 18) 13
abbrev s_check_look : Stmt := top 19
abbrev s_choices : Stmt := top 21
abbrev sP_init : Stmt := inClass (top 23) 0
abbrev sP_everything : Stmt := inClass (top 23) 1
abbrev sP_last_add : Stmt := inClass (top 23) 2
abbrev sP_stops : Stmt := inClass (top 23) 3
abbrev sP_is_first : Stmt := inClass (top 23) 4
abbrev sP_parts : Stmt := inClass (top 23) 5
abbrev sP_firsts : Stmt := inClass (top 23) 6
abbrev sP_stuck : Stmt := inClass (top 23) 7
abbrev sK_init : Stmt := inClass (top 28) 0
abbrev sK_stops : Stmt := inClass (top 28) 1
abbrev sK_is_fine : Stmt := inClass (top 28) 2
abbrev s_check_people : Stmt := top 29
abbrev s_check_wishes : Stmt := top 30
abbrev s_branch : Stmt := top 31
abbrev s_kept_people : Stmt := top 32
abbrev s_kept_from : Stmt := top 33
abbrev s_known_at : Stmt := top 34
abbrev s_way_of : Stmt := top 35
abbrev s_keep_way : Stmt := top 36
abbrev s_clash : Stmt := top 37
abbrev s_law_take : Stmt := top 39
abbrev s_law_event : Stmt := top 40
abbrev s_law_table : Stmt := top 41
abbrev s_law_live : Stmt := top 42
abbrev s_law_crossed : Stmt := top 43
abbrev s_law_passed : Stmt := top 44
abbrev s_law_closed : Stmt := top 45
abbrev s_law_web : Stmt := top 46
abbrev s_law_of : Stmt := top 47
abbrev s_law_draw_wants : Stmt := top 48
abbrev s_law_box : Stmt := top 49
abbrev s_law_state : Stmt := top 50
abbrev s_law_less : Stmt := top 51
abbrev s_law_right : Stmt := top 52
abbrev s_law : Stmt := top 53
end K43

-- K43Math
set_option linter.all false
/-! The plain law: what the program computes, and that it only takes away when an event comes behind. No program in sight. -/
namespace K43
/-! ### timetables -/
inductive Ev where
  | look (p : Nat) | add (p : Nat) | meet (p q : Nat) | tell (p q : Nat)
  deriving DecidableEq
def Ev.isLook : Ev → Bool
  | .look _ => true
  | _ => false
/-- the people of an event are below n -/
def Ev.okFor (n : Nat) : Ev → Prop
  | .look p => p < n
  | .add p => p < n
  | .meet p q => p < n ∧ q < n
  | .tell p q => p < n ∧ q < n
abbrev Pr := Nat × Nat
/-- places and people of the looks (adds), counted from k -/
def looksK : Nat → List Ev → List Pr
  | _, [] => []
  | k, .look p :: r => (k, p) :: looksK (k + 1) r
  | k, _ :: r => looksK (k + 1) r
def addsK : Nat → List Ev → List Pr
  | _, [] => []
  | k, .add p :: r => (k, p) :: addsK (k + 1) r
  | k, _ :: r => addsK (k + 1) r
def looksF (es : List Ev) : List Pr := looksK 0 es
def addsF (es : List Ev) : List Pr := addsK 0 es
theorem looksK_app : ∀ (es fs : List Ev) (k : Nat), looksK k (es ++ fs) = looksK k es ++ looksK (k + es.length) fs
  | [], fs, k => by simp [looksK]
  | e :: es, fs, k => by
    cases e <;> simp [looksK, looksK_app es fs (k + 1), Nat.add_assoc, Nat.add_comm 1]
theorem addsK_app : ∀ (es fs : List Ev) (k : Nat), addsK k (es ++ fs) = addsK k es ++ addsK (k + es.length) fs
  | [], fs, k => by simp [addsK]
  | e :: es, fs, k => by
    cases e <;> simp [addsK, addsK_app es fs (k + 1), Nat.add_assoc, Nat.add_comm 1]
theorem looksF_app (es fs : List Ev) : looksF (es ++ fs) = looksF es ++ looksK es.length fs := by
  unfold looksF
  rw [looksK_app, Nat.zero_add]
theorem addsF_app (es fs : List Ev) : addsF (es ++ fs) = addsF es ++ addsK es.length fs := by
  unfold addsF
  rw [addsK_app, Nat.zero_add]
theorem looksK_len : ∀ (es : List Ev) (k : Nat), (looksK k es).length ≤ es.length
  | [], k => by simp [looksK]
  | e :: es, k => by
    have h := looksK_len es (k + 1)
    cases e <;> simp [looksK] <;> omega
theorem addsK_len : ∀ (es : List Ev) (k : Nat), (addsK k es).length ≤ es.length
  | [], k => by simp [addsK]
  | e :: es, k => by
    have h := addsK_len es (k + 1)
    cases e <;> simp [addsK] <;> omega
theorem looksF_len (es : List Ev) : (looksF es).length ≤ es.length := looksK_len es 0
theorem addsF_len (es : List Ev) : (addsF es).length ≤ es.length := addsK_len es 0
theorem looksK_ok {n : Nat} : ∀ (es : List Ev) (k : Nat), (∀ e ∈ es, e.okFor n) → ∀ p ∈ looksK k es, p.2 < n ∧ k ≤ p.1 ∧ p.1 < k + es.length
  | [], k, _, p, hp => by simp [looksK] at hp
  | e :: es, k, h, p, hp => by
    have hr : ∀ e ∈ es, e.okFor n := fun x hx => h x (List.mem_cons_of_mem _ hx)
    have h0 := h e List.mem_cons_self
    have ih := looksK_ok es (k + 1) hr p
    cases e with
    | look q =>
      simp only [looksK, List.mem_cons] at hp
      rcases hp with rfl | hp
      · exact ⟨h0, Nat.le_refl _, by simp⟩
      · have := ih hp
        simp only [List.length_cons]
        omega
    | add q => have := ih hp; simp only [List.length_cons]; omega
    | meet q r => have := ih hp; simp only [List.length_cons]; omega
    | tell q r => have := ih hp; simp only [List.length_cons]; omega
theorem looksF_ok {n : Nat} {es : List Ev} (h : ∀ e ∈ es, e.okFor n) {p : Pr} (hp : p ∈ looksF es) : p.2 < n := (looksK_ok es 0 h p hp).1
/-! ### who has what, and what is bound at once -/
def setH (has : Nat → List Nat) (p : Nat) (l : List Nat) : Nat → List Nat := fun q => if q = p then l else has q
theorem setH_same {has : Nat → List Nat} {p : Nat} {l : List Nat} : setH has p l p = l := by simp [setH]
theorem setH_ne {has : Nat → List Nat} {p q : Nat} {l : List Nat} (h : q ≠ p) : setH has p l q = has q := by simp [setH, h]
structure GS where
  has : Nat → List Nat
  num : Nat
  binds : List Pr
  lows : List Pr
/-- both together, ascending, each once; n is more than any of them -/
def both (n : Nat) (xs ys : List Nat) : List Nat := (List.range n).filter fun k => decide (k ∈ xs) || decide (k ∈ ys)
/-- all pairs, the elder place first -/
def pairsOf : List Nat → List Pr
  | [] => []
  | x :: r => r.map (fun y => (x, y)) ++ pairsOf r
def lastOf (xs : List Nat) : List Nat := xs.drop (xs.length - 1)
def crossL (xs ys : List Nat) : List Pr := xs.flatMap fun x => ys.map fun y => (x, y)
def stepG (long : Bool) (s : GS) : Ev → GS
  | .look p => { s with has := setH s.has p (s.has p ++ [s.num]), num := s.num + 1, lows := s.lows ++ (s.has p).map fun o => (o, s.num) }
  | .add _ => s
  | .meet p q => if long then { s with has := setH (setH s.has q (both s.num (s.has p) (s.has q))) p (both s.num (s.has p) (s.has q)), binds := s.binds ++ pairsOf (both s.num (s.has p) (s.has q)) }
    else { s with binds := s.binds ++ crossL (lastOf (s.has p)) (lastOf (s.has q)) }
  | .tell p q => if long then { s with has := setH s.has q (both s.num (s.has p) (s.has q)), binds := s.binds ++ pairsOf (both s.num (s.has p) (s.has q)) }
    else { s with binds := s.binds ++ crossL (lastOf (s.has p)) (lastOf (s.has q)) }
def gs0 : GS := ⟨fun _ => [], 0, [], []⟩
def runG (long : Bool) (es : List Ev) : GS := es.foldl (stepG long) gs0
theorem runG_snoc (long : Bool) (es : List Ev) (e : Ev) : runG long (es ++ [e]) = stepG long (runG long es) e := by
  unfold runG
  rw [List.foldl_append]
  rfl
theorem mem_both {n : Nat} {xs ys : List Nat} {k : Nat} : k ∈ both n xs ys ↔ k < n ∧ (k ∈ xs ∨ k ∈ ys) := by
  simp [both]
/-- everything is below the number of looks -/
structure GS.Ok (s : GS) : Prop where
  has : ∀ p k, k ∈ s.has p → k < s.num
  binds : ∀ p ∈ s.binds, p.1 < s.num ∧ p.2 < s.num
  lows : ∀ p ∈ s.lows, p.1 < s.num ∧ p.2 < s.num
theorem pairsOf_mem : ∀ {xs : List Nat} {p : Pr}, p ∈ pairsOf xs → p.1 ∈ xs ∧ p.2 ∈ xs
  | [], p, h => by simp [pairsOf] at h
  | x :: r, p, h => by
    simp only [pairsOf, List.mem_append, List.mem_map] at h
    rcases h with ⟨y, hy, rfl⟩ | h
    · exact ⟨List.mem_cons_self, List.mem_cons_of_mem _ hy⟩
    · have := pairsOf_mem h
      exact ⟨List.mem_cons_of_mem _ this.1, List.mem_cons_of_mem _ this.2⟩
theorem lastOf_mem {xs : List Nat} {k : Nat} (h : k ∈ lastOf xs) : k ∈ xs := List.mem_of_mem_drop h
theorem crossL_mem {xs ys : List Nat} {p : Pr} : p ∈ crossL xs ys ↔ p.1 ∈ xs ∧ p.2 ∈ ys := by
  obtain ⟨a, b⟩ := p
  simp only [crossL, List.mem_flatMap, List.mem_map, Prod.mk.injEq]
  constructor
  · rintro ⟨x, hx, y, hy, rfl, rfl⟩
    exact ⟨hx, hy⟩
  · rintro ⟨hx, hy⟩
    exact ⟨a, hx, b, hy, rfl, rfl⟩
theorem setH_ok {has : Nat → List Nat} {n p : Nat} {l : List Nat} (h : ∀ p k, k ∈ has p → k < n) (hl : ∀ k, k ∈ l → k < n) : ∀ q k, k ∈ setH has p l q → k < n := by
  intro q k hk
  unfold setH at hk
  split at hk
  · exact hl k hk
  · exact h q k hk
theorem stepG_ok {long : Bool} {s : GS} (o : s.Ok) (e : Ev) : (stepG long s e).Ok := by
  have hb : ∀ xs ys k, k ∈ both s.num xs ys → k < s.num := fun xs ys k hk => (mem_both.mp hk).1
  have hbp : ∀ xs ys, ∀ p ∈ s.binds ++ pairsOf (both s.num xs ys), p.1 < s.num ∧ p.2 < s.num := fun xs ys p hp => by
    rcases List.mem_append.mp hp with hp | hp
    · exact o.binds p hp
    · exact ⟨hb _ _ _ (pairsOf_mem hp).1, hb _ _ _ (pairsOf_mem hp).2⟩
  have hcp : ∀ p q, ∀ r ∈ s.binds ++ crossL (lastOf (s.has p)) (lastOf (s.has q)), r.1 < s.num ∧ r.2 < s.num := fun p q r hr => by
    rcases List.mem_append.mp hr with hr | hr
    · exact o.binds r hr
    · exact ⟨o.has _ _ (lastOf_mem (crossL_mem.mp hr).1), o.has _ _ (lastOf_mem (crossL_mem.mp hr).2)⟩
  cases e with
  | look p =>
    refine ⟨?_, ?_, ?_⟩
    · refine setH_ok (fun q k hk => Nat.lt_succ_of_lt (o.has q k hk)) fun k hk => ?_
      rcases List.mem_append.mp hk with hk | hk
      · exact Nat.lt_succ_of_lt (o.has _ _ hk)
      · have : k = s.num := by simpa using hk
        subst this
        exact Nat.lt_succ_self _
    · exact fun q hq => ⟨Nat.lt_succ_of_lt (o.binds q hq).1, Nat.lt_succ_of_lt (o.binds q hq).2⟩
    · intro q hq
      rcases List.mem_append.mp hq with hq | hq
      · exact ⟨Nat.lt_succ_of_lt (o.lows q hq).1, Nat.lt_succ_of_lt (o.lows q hq).2⟩
      · obtain ⟨k, hk, rfl⟩ := List.mem_map.mp hq
        exact ⟨Nat.lt_succ_of_lt (o.has _ _ hk), Nat.lt_succ_self _⟩
  | add p => exact o
  | meet p q =>
    cases long with
    | true => exact ⟨setH_ok (setH_ok o.has (hb _ _)) (hb _ _), hbp _ _, o.lows⟩
    | false => exact ⟨o.has, hcp p q, o.lows⟩
  | tell p q =>
    cases long with
    | true => exact ⟨setH_ok o.has (hb _ _), hbp _ _, o.lows⟩
    | false => exact ⟨o.has, hcp p q, o.lows⟩
theorem foldG_ok {long : Bool} : ∀ (es : List Ev) (s : GS), s.Ok → (es.foldl (stepG long) s).Ok
  | [], s, o => o
  | e :: es, s, o => foldG_ok es _ (stepG_ok o e)
theorem gs0_ok : gs0.Ok := ⟨fun _ _ h => (nomatch h), fun _ h => (nomatch h), fun _ h => (nomatch h)⟩
theorem runG_ok (long : Bool) (es : List Ev) : (runG long es).Ok := foldG_ok es gs0 gs0_ok
theorem foldG_num {long : Bool} : ∀ (es : List Ev) (s : GS) (k : Nat), (es.foldl (stepG long) s).num = s.num + (looksK k es).length
  | [], s, k => by simp [looksK]
  | e :: es, s, k => by
    rw [List.foldl_cons, foldG_num es _ (k + 1)]
    cases e with
    | look p => simp [stepG, looksK]; omega
    | add p => simp [stepG, looksK]
    | meet p q => cases long <;> simp [stepG, looksK]
    | tell p q => cases long <;> simp [stepG, looksK]
theorem runG_num (long : Bool) (es : List Ev) : (runG long es).num = (looksF es).length := by
  unfold runG looksF
  rw [foldG_num es gs0 0]
  simp [gs0]
/-- a step only adds -/
theorem stepG_more {long : Bool} {s : GS} (o : s.Ok) (e : Ev) : (∀ p k, k ∈ s.has p → k ∈ (stepG long s e).has p) ∧ (∀ p ∈ s.binds, p ∈ (stepG long s e).binds) ∧ (∀ p ∈ s.lows, p ∈ (stepG long s e).lows) := by
  have hs : ∀ (has : Nat → List Nat) (q : Nat) (l : List Nat), (∀ k, k ∈ has q → k ∈ l) → ∀ p k, k ∈ has p → k ∈ setH has q l p := fun has q l h p k hk => by
    unfold setH
    split
    · rename_i e
      subst e
      exact h k hk
    · exact hk
  have hbl : ∀ p q k, k ∈ s.has p → k ∈ both s.num (s.has p) (s.has q) := fun p q k hk => mem_both.mpr ⟨o.has _ _ hk, .inl hk⟩
  have hbr : ∀ p q k, k ∈ s.has q → k ∈ both s.num (s.has p) (s.has q) := fun p q k hk => mem_both.mpr ⟨o.has _ _ hk, .inr hk⟩
  cases e with
  | look p => exact ⟨hs _ _ _ fun k hk => List.mem_append_left _ hk, fun _ h => h, fun _ h => List.mem_append_left _ h⟩
  | add p => exact ⟨fun _ _ h => h, fun _ h => h, fun _ h => h⟩
  | meet p q =>
    cases long with
    | true =>
      refine ⟨fun r k hk => ?_, fun _ h => List.mem_append_left _ h, fun _ h => h⟩
      refine hs _ _ _ (fun k hk => ?_) r k (hs _ _ _ (hbr p q) r k hk)
      unfold setH at hk
      split at hk
      · exact hk
      · exact hbl p q k hk
    | false => exact ⟨fun _ _ h => h, fun _ h => List.mem_append_left _ h, fun _ h => h⟩
  | tell p q =>
    cases long with
    | true => exact ⟨hs _ _ _ (hbr p q), fun _ h => List.mem_append_left _ h, fun _ h => h⟩
    | false => exact ⟨fun _ _ h => h, fun _ h => List.mem_append_left _ h, fun _ h => h⟩
/-! ### the closure -/
/-- true: the two must be comparable; false: the first must begin the second -/
inductive Cl (B L : List Pr) (late : Nat → Nat → Prop) : Bool → Nat → Nat → Prop
  | b0 {i j : Nat} : (i, j) ∈ B → i ≠ j → Cl B L late true i j
  | l0 {i j : Nat} : (i, j) ∈ L → i ≠ j → Cl B L late false i j
  | sym {i j : Nat} : Cl B L late true i j → Cl B L late true j i
  | up {i j : Nat} : Cl B L late false i j → Cl B L late true i j
  | tr {i j k : Nat} : Cl B L late false i j → Cl B L late false j k → i ≠ k → Cl B L late false i k
  | ba {i j k : Nat} : Cl B L late false i j → Cl B L late true j k → i ≠ k → Cl B L late true i k
  | la {i j : Nat} : Cl B L late true i j → late i j → Cl B L late false i j
theorem Cl.mono {B L B' L' : List Pr} {t t' : Nat → Nat → Prop} (hB : ∀ p ∈ B, p ∈ B') (hL : ∀ p ∈ L, p ∈ L') (ht : ∀ i j, t i j → t' i j) {b : Bool} {i j : Nat} (h : Cl B L t b i j) : Cl B' L' t' b i j := by
  induction h with
  | b0 h n => exact .b0 (hB _ h) n
  | l0 h n => exact .l0 (hL _ h) n
  | sym _ ih => exact .sym ih
  | up _ ih => exact .up ih
  | tr _ _ n ih1 ih2 => exact .tr ih1 ih2 n
  | ba _ _ n ih1 ih2 => exact .ba ih1 ih2 n
  | la _ l ih => exact .la ih (ht _ _ l)
theorem Cl.ne {B L : List Pr} {t : Nat → Nat → Prop} {b : Bool} {i j : Nat} (h : Cl B L t b i j) : i ≠ j := by
  induction h with
  | b0 _ n => exact n
  | l0 _ n => exact n
  | sym _ ih => exact ih.symm
  | up _ ih => exact ih
  | tr _ _ n _ _ => exact n
  | ba _ _ n _ _ => exact n
  | la _ _ ih => exact ih
theorem Cl.lt {B L : List Pr} {t : Nat → Nat → Prop} {n : Nat} (hB : ∀ p ∈ B, p.1 < n ∧ p.2 < n) (hL : ∀ p ∈ L, p.1 < n ∧ p.2 < n) {b : Bool} {i j : Nat} (h : Cl B L t b i j) : i < n ∧ j < n := by
  induction h with
  | b0 h _ => exact hB _ h
  | l0 h _ => exact hL _ h
  | sym _ ih => exact ⟨ih.2, ih.1⟩
  | up _ ih => exact ih
  | tr _ _ _ ih1 ih2 => exact ⟨ih1.1, ih2.2⟩
  | ba _ _ _ ih1 ih2 => exact ⟨ih1.1, ih2.2⟩
  | la _ _ ih => exact ih
/-- the least: what holds the base and is closed holds all of it -/
theorem Cl.least {B L : List Pr} {t : Nat → Nat → Prop} {A Z : Nat → Nat → Prop} (hB : ∀ i j, (i, j) ∈ B → i ≠ j → A i j) (hL : ∀ i j, (i, j) ∈ L → i ≠ j → Z i j) (hs : ∀ i j, A i j → A j i) (hu : ∀ i j, Z i j → A i j)
    (htr : ∀ i j k, Z i j → Z j k → i ≠ k → Z i k) (hba : ∀ i j k, Z i j → A j k → i ≠ k → A i k) (hla : ∀ i j, A i j → t i j → Z i j) {b : Bool} {i j : Nat} (h : Cl B L t b i j) : if b = true then A i j else Z i j := by
  induction h with
  | b0 h n => exact hB _ _ h n
  | l0 h n => exact hL _ _ h n
  | sym _ ih => exact hs _ _ ih
  | up _ ih => exact hu _ _ ih
  | tr _ _ n ih1 ih2 => exact htr _ _ _ ih1 ih2 n
  | ba _ _ n ih1 ih2 => exact hba _ _ _ ih1 ih2 n
  | la _ l ih => exact hla _ _ ih l
/-- the person of look j has an own add between look i and look j -/
def lateF (es : List Ev) (i j : Nat) : Prop := ∃ a b c : Nat, ∃ d : Nat, (looksF es)[i]? = some (a, d) ∧ (∃ p, (looksF es)[j]? = some (b, p) ∧ (c, p) ∈ addsF es) ∧ a < c ∧ c < b
theorem lateF_app {es : List Ev} {fs : List Ev} {i j : Nat} (h : lateF es i j) : lateF (es ++ fs) i j := by
  obtain ⟨a, b, c, d, h1, ⟨p, h2, h3⟩, h4, h5⟩ := h
  have get : ∀ (k : Nat) (x : Pr), (looksF es)[k]? = some x → (looksF (es ++ fs))[k]? = some x := fun k x hx => by
    rw [looksF_app, List.getElem?_append_left (List.getElem?_eq_some_iff.mp hx).1]
    exact hx
  refine ⟨a, b, c, d, get _ _ h1, ⟨p, get _ _ h2, ?_⟩, h4, h5⟩
  rw [addsF_app]
  exact List.mem_append_left _ h3
/-- what every unseen story must keep; more: further pairs that must be comparable -/
def clF (long : Bool) (es : List Ev) (more : List Pr) : Bool → Nat → Nat → Prop := Cl ((runG long es).binds ++ more) (runG long es).lows (lateF es)
abbrev alF (long : Bool) (es : List Ev) (more : List Pr) (i j : Nat) : Prop := clF long es more true i j
abbrev beF (long : Bool) (es : List Ev) (more : List Pr) (i j : Nat) : Prop := clF long es more false i j
theorem clF_mono {long : Bool} {es : List Ev} {e : Ev} {more more' : List Pr} (hm : ∀ p ∈ more, p ∈ more') {b : Bool} {i j : Nat} (h : clF long es more b i j) : clF long (es ++ [e]) more' b i j := by
  unfold clF at h ⊢
  rw [runG_snoc]
  obtain ⟨_, h2, h3⟩ := stepG_more (long := long) (runG_ok long es) e
  refine h.mono (fun p hp => ?_) h3 fun _ _ => lateF_app
  rcases List.mem_append.mp hp with hp | hp
  · exact List.mem_append_left _ (h2 p hp)
  · exact List.mem_append_right _ (hm p hp)
theorem clF_more {long : Bool} {es : List Ev} {more : List Pr} {b : Bool} {i j : Nat} (h : clF long es [] b i j) : clF long es more b i j :=
  Cl.mono (fun p hp => by
    rcases List.mem_append.mp hp with hp | hp
    · exact List.mem_append_left _ hp
    · cases hp) (fun _ h => h) (fun _ _ h => h) h
theorem clF_lt {long : Bool} {es : List Ev} {more : List Pr} (hm : ∀ p ∈ more, p.1 < (looksF es).length ∧ p.2 < (looksF es).length) {b : Bool} {i j : Nat} (h : clF long es more b i j) : i < (looksF es).length ∧ j < (looksF es).length := by
  have o := runG_ok long es
  refine Cl.lt (fun p hp => ?_) (fun p hp => ?_) h
  · rcases List.mem_append.mp hp with hp | hp
    · have := o.binds p hp
      rw [runG_num] at this
      exact this
    · exact hm p hp
  · have := o.lows p hp
    rw [runG_num] at this
    exact this
theorem has_mono {long : Bool} {es : List Ev} {e : Ev} {p k : Nat} (h : k ∈ (runG long es).has p) : k ∈ (runG long (es ++ [e])).has p := by
  rw [runG_snoc]
  exact (stepG_more (runG_ok long es) e).1 p k h
theorem has_lt {long : Bool} {es : List Ev} {p k : Nat} (h : k ∈ (runG long es).has p) : k < (looksF es).length := by
  have := (runG_ok long es).has p k h
  rw [runG_num] at this
  exact this
/-! ### kept people -/
def KeptF (long : Bool) (es : List Ev) (i p : Nat) : Prop := ¬ ∃ l ∈ (runG long es).has p, l = i ∨ beF long es [] i l
theorem kept_mono {long : Bool} {es : List Ev} {e : Ev} {i p : Nat} (h : KeptF long (es ++ [e]) i p) : KeptF long es i p := fun ⟨l, hl, q⟩ =>
  h ⟨l, has_mono hl, q.imp id fun z => clF_mono (fun _ h => h) z⟩
/-! ### putting looks one behind another -/
/-- from x one comes to y by steps of R within S -/
inductive Reach (R : Nat → Nat → Prop) (S : List Nat) : Nat → Nat → Prop
  | refl {x : Nat} : x ∈ S → Reach R S x x
  | step {x y z : Nat} : Reach R S x y → z ∈ S → R y z → Reach R S x z
theorem Reach.memL {R : Nat → Nat → Prop} {S : List Nat} {x y : Nat} (h : Reach R S x y) : x ∈ S := by
  induction h with
  | refl h => exact h
  | step _ _ _ ih => exact ih
theorem Reach.memR {R : Nat → Nat → Prop} {S : List Nat} {x y : Nat} (h : Reach R S x y) : y ∈ S := by
  cases h with
  | refl h => exact h
  | step _ h _ => exact h
theorem Reach.trans {R : Nat → Nat → Prop} {S : List Nat} {x y z : Nat} (h : Reach R S x y) (h' : Reach R S y z) : Reach R S x z := by
  induction h' with
  | refl _ => exact h
  | step _ m r ih => exact .step ih m r
theorem Reach.symm {R : Nat → Nat → Prop} (hs : ∀ x y, R x y → R y x) {S : List Nat} {x y : Nat} (h : Reach R S x y) : Reach R S y x := by
  induction h with
  | refl h => exact .refl h
  | step h m r ih => exact (Reach.step (.refl m) h.memR (hs _ _ r)).trans ih
theorem Reach.mono {R R' : Nat → Nat → Prop} {S S' : List Nat} (hR : ∀ x y, R x y → R' x y) (hS : ∀ x ∈ S, x ∈ S') {x y : Nat} (h : Reach R S x y) : Reach R' S' x y := by
  induction h with
  | refl h => exact .refl (hS _ h)
  | step _ m r ih => exact .step ih (hS _ m) (hR _ _ r)
/-- held together, and none can begin all others -/
structure Bad (R St : Nat → Nat → Prop) (S : List Nat) : Prop where
  ne : S ≠ []
  conn : ∀ x ∈ S, ∀ y ∈ S, Reach R S x y
  stop : ∀ x ∈ S, ∃ y ∈ S, y ≠ x ∧ St x y
def Stuck (R St : Nat → Nat → Prop) (T : List Nat) : Prop := ∃ S, (∀ x ∈ S, x ∈ T) ∧ Bad R St S
theorem Bad.mono {R R' St St' : Nat → Nat → Prop} (hR : ∀ x y, R x y → R' x y) (hS : ∀ x y, St x y → St' x y) {S : List Nat} (h : Bad R St S) : Bad R' St' S :=
  ⟨h.ne, fun x hx y hy => (h.conn x hx y hy).mono hR fun _ h => h, fun x hx => let ⟨y, hy, n, s⟩ := h.stop x hx; ⟨y, hy, n, hS _ _ s⟩⟩
theorem Stuck.mono {R R' St St' : Nat → Nat → Prop} (hR : ∀ x y, R x y → R' x y) (hS : ∀ x y, St x y → St' x y) {T T' : List Nat} (hT : ∀ x ∈ T, x ∈ T') (h : Stuck R St T) : Stuck R' St' T' := by
  obtain ⟨S, h1, h2⟩ := h
  exact ⟨S, fun x hx => hT x (h1 x hx), h2.mono hR hS⟩
/-- a part of T: held together, nothing of T outside holds on to it -/
structure Part (R : Nat → Nat → Prop) (T P : List Nat) : Prop where
  ne : P ≠ []
  sub : ∀ x ∈ P, x ∈ T
  conn : ∀ x ∈ P, ∀ y ∈ P, Reach R P x y
  clos : ∀ x ∈ P, ∀ y ∈ T, R x y → y ∈ P
theorem Part.reach {R : Nat → Nat → Prop} {T P S : List Nat} (p : Part R T P) (hS : ∀ x ∈ S, x ∈ T) {x y : Nat} (h : Reach R S x y) (hx : x ∈ P) : y ∈ P := by
  induction h with
  | refl _ => exact hx
  | step _ m r ih => exact p.clos _ ih _ (hS _ m) r
/-- a bad set lies in one part -/
theorem Bad.inPart {R St : Nat → Nat → Prop} {T S : List Nat} (b : Bad R St S) (hS : ∀ x ∈ S, x ∈ T) {Ps : List (List Nat)} (hp : ∀ P ∈ Ps, Part R T P) (cov : ∀ x ∈ T, ∃ P ∈ Ps, x ∈ P) : ∃ P ∈ Ps, ∀ x ∈ S, x ∈ P := by
  cases S with
  | nil => exact absurd rfl b.ne
  | cons x r =>
    obtain ⟨P, hP, hx⟩ := cov x (hS x List.mem_cons_self)
    exact ⟨P, hP, fun y hy => (hp P hP).reach hS (b.conn x List.mem_cons_self y hy) hx⟩
/-- no first: the part itself is bad -/
theorem Part.bad {R St : Nat → Nat → Prop} {T P : List Nat} (p : Part R T P) (h : ∀ x ∈ P, ∃ y ∈ P, y ≠ x ∧ St x y) : Stuck R St T := ⟨P, p.sub, p.ne, p.conn, h⟩
/-- a first of a part is in no bad set of it -/
theorem Stuck.without {R St : Nat → Nat → Prop} {P S : List Nat} {f : Nat} (hf : ∀ y ∈ P, y ≠ f → ¬ St f y) (hS : ∀ x ∈ S, x ∈ P) (b : Bad R St S) : f ∉ S := fun h => by
  obtain ⟨y, hy, n, s⟩ := b.stop f h
  exact hf y (hS y hy) n s
/-! ### fulfilled wishes -/
def chainF (n : Nat) : List Pr := (List.range n).flatMap fun i => ((List.range n).filter fun j => decide (i < j)).map fun j => (i, j)
theorem mem_chainF {n : Nat} {p : Pr} : p ∈ chainF n ↔ p.1 < p.2 ∧ p.2 < n := by
  obtain ⟨a, b⟩ := p
  simp only [chainF, List.mem_flatMap, List.mem_map, List.mem_filter, List.mem_range, decide_eq_true_eq, Prod.mk.injEq]
  constructor
  · rintro ⟨x, hx, y, ⟨hy, hxy⟩, rfl, rfl⟩
    exact ⟨hxy, hy⟩
  · rintro ⟨h1, h2⟩
    exact ⟨a, Nat.lt_trans h1 h2, b, ⟨h2, h1⟩, rfl, rfl⟩
/-- what a look is barred from -/
def barF (long : Bool) (es : List Ev) (W : List Pr) (l o : Nat) : Prop := ∃ p, (l, p) ∈ W ∧ (o < l ∨ o ∈ (runG long es).has p)
def moreF (es : List Ev) (chain : Bool) : List Pr := if chain then chainF (looksF es).length else []
def stopF (long : Bool) (es : List Ev) (W : List Pr) (chain : Bool) (l o : Nat) : Prop :=
  barF long es W l o ∨ beF long es (moreF es chain) o l ∨ ∃ a b c p, (looksF es)[l]? = some (a, p) ∧ (∃ q, (looksF es)[o]? = some (b, q)) ∧ (c, p) ∈ addsF es ∧ c < a ∧ b < c
def relF (long : Bool) (es : List Ev) (chain : Bool) (i j : Nat) : Prop := i = j ∨ alF long es (moreF es chain) i j
def FineF (long : Bool) (es : List Ev) (W : List Pr) (chain : Bool) : Prop := (∀ l, ¬ barF long es W l l) ∧ ¬ Stuck (relF long es chain) (stopF long es W chain) (List.range (looksF es).length)
theorem looksF_le (es : List Ev) (e : Ev) : (looksF es).length ≤ (looksF (es ++ [e])).length := by
  rw [looksF_app, List.length_append]
  exact Nat.le_add_right _ _
theorem moreF_mono {es : List Ev} {e : Ev} {chain : Bool} {p : Pr} (h : p ∈ moreF es chain) : p ∈ moreF (es ++ [e]) chain := by
  cases chain with
  | true =>
    have := mem_chainF.mp (show p ∈ chainF (looksF es).length from h)
    have l := looksF_le es e
    exact mem_chainF.mpr ⟨this.1, Nat.lt_of_lt_of_le this.2 l⟩
  | false => exact h
theorem barF_mono {long : Bool} {es : List Ev} {e : Ev} {W W' : List Pr} (hW : ∀ p ∈ W, p ∈ W') {l o : Nat} (h : barF long es W l o) : barF long (es ++ [e]) W' l o := by
  obtain ⟨p, hp, q⟩ := h
  exact ⟨p, hW _ hp, q.imp id has_mono⟩
theorem barF_sub {long : Bool} {es : List Ev} {W W' : List Pr} (hW : ∀ p ∈ W, p ∈ W') {l o : Nat} (h : barF long es W l o) : barF long es W' l o := by
  obtain ⟨p, hp, q⟩ := h
  exact ⟨p, hW _ hp, q⟩
theorem fine_mono {long : Bool} {es : List Ev} {e : Ev} {W : List Pr} {chain : Bool} (h : FineF long (es ++ [e]) W chain) : FineF long es W chain := by
  refine ⟨fun l hl => h.1 l (barF_mono (fun _ h => h) hl), fun s => h.2 (s.mono ?_ ?_ ?_)⟩
  · exact fun x y r => r.imp id fun z => clF_mono (fun _ => moreF_mono) z
  · rintro x y (r | r | ⟨a, b, c, p, h1, ⟨q, h2⟩, h3, h4, h5⟩)
    · exact .inl (barF_mono (fun _ h => h) r)
    · exact .inr (.inl (clF_mono (fun _ => moreF_mono) r))
    · have get : ∀ (k : Nat) (x : Pr), (looksF es)[k]? = some x → (looksF (es ++ [e]))[k]? = some x := fun k x hx => by
        rw [looksF_app, List.getElem?_append_left (List.getElem?_eq_some_iff.mp hx).1]
        exact hx
      refine .inr (.inr ⟨a, b, c, p, get _ _ h1, ⟨q, get _ _ h2⟩, ?_, h4, h5⟩)
      rw [addsF_app]
      exact List.mem_append_left _ h3
  · intro x hx
    have := List.mem_range.mp hx
    exact List.mem_range.mpr (Nat.lt_of_lt_of_le this (looksF_le es e))
/-- fewer wishes are easier -/
theorem fine_sub {long : Bool} {es : List Ev} {W W' : List Pr} (hW : ∀ p ∈ W, p ∈ W') {chain : Bool} (h : FineF long es W' chain) : FineF long es W chain := by
  refine ⟨fun l hl => h.1 l (barF_sub hW hl), fun s => h.2 (s.mono (fun _ _ r => r) ?_ fun _ h => h)⟩
  rintro x y (r | r)
  · exact .inl (barF_sub hW r)
  · exact .inr r
/-! ### when something is known -/
/-- who has what, as known_at reckons it: s.1 who has what, s.2 the looks so far -/
def stepH (long : Bool) (s : (Nat → List Nat) × Nat) : Ev → (Nat → List Nat) × Nat
  | .look p => (setH s.1 p (s.1 p ++ [s.2]), s.2 + 1)
  | .add _ => s
  | .meet p q => if long then (setH (setH s.1 q (s.1 p ++ s.1 q)) p (s.1 p ++ s.1 q), s.2) else s
  | .tell p q => if long then (setH s.1 q (s.1 p ++ s.1 q), s.2) else s
def runH (long : Bool) (es : List Ev) : (Nat → List Nat) × Nat := es.foldl (stepH long) (fun _ => [], 0)
theorem runH_snoc (long : Bool) (es : List Ev) (e : Ev) : runH long (es ++ [e]) = stepH long (runH long es) e := by
  unfold runH
  rw [List.foldl_append]
  rfl
/-- behind the event at this place somebody has one of these looks -/
def HitsF (long : Bool) (es : List Ev) (i p k : Nat) : Prop := ∃ l ∈ (runH long (es.take (k + 1))).1 p, l = i ∨ beF long es [] i l
/-- r is what known_at answers -/
def KnownF (long : Bool) (es : List Ev) (i p : Nat) : Option Nat → Prop
  | none => ∀ k, k < es.length → ¬ HitsF long es i p k
  | some k => k < es.length ∧ HitsF long es i p k ∧ ∀ j, j < k → ¬ HitsF long es i p j
theorem hits_mono {long : Bool} {es : List Ev} {e : Ev} {i p k : Nat} (hk : k < es.length) (h : HitsF long es i p k) : HitsF long (es ++ [e]) i p k := by
  obtain ⟨l, hl, q⟩ := h
  refine ⟨l, ?_, q.imp id fun z => clF_mono (fun _ h => h) z⟩
  rw [List.take_append_of_le_length (by omega)]
  exact hl
theorem known_mono {long : Bool} {es : List Ev} {e : Ev} {i p a : Nat} {r : Option Nat} (h : KnownF long es i p (some a)) (h' : KnownF long (es ++ [e]) i p r) : ∃ b, r = some b ∧ b ≤ a := by
  obtain ⟨h1, h2, _⟩ := h
  have h3 := hits_mono (e := e) h1 h2
  cases r with
  | none => exact absurd h3 (h' a (by simp; omega))
  | some b =>
    refine ⟨b, rfl, ?_⟩
    by_cases q : b ≤ a
    · exact q
    · exact absurd h3 (h'.2.2 a (by omega))
end K43

-- K43Base
set_option Elab.async false
set_option linter.all false
set_option maxRecDepth 100000
set_option maxHeartbeats 4000000
/-! further rules of the hand layer, and what is used everywhere -/
namespace PySem
open Sem (wp)
open AutoSeq1 (wpAny_loadPart')
theorem k43_meets_enumT (l : Addr) (items : Array Value) :
    Meets (Builtin.«enumerate.__new__» ⟨[.type "enumerate", .ref l], []⟩) (fun _ R s => s.heap.IsTuple l items ∧ R (.ok (.ret (.ref (s.heap.push { cls := .type "tuple_iterator", data := .fields #[.ref l, .int 0 0] }).objs.size)))
        { s with heap := (s.heap.push { cls := .type "tuple_iterator", data := .fields #[.ref l, .int 0 0] }).push { cls := .type "enumerate", data := .fields #[.none, .bool false, .ref s.heap.objs.size, rawInt 0, .none, .none] } }) :=
  .of_wp fun prog w A R s h => by
    obtain ⟨hp, g, d, tk, os⟩ := s; obtain ⟨hl, h⟩ := h
    have hsub := sub_enumerate
    have q1 : ∀ {A' : Around} {E : Value → Shared → Prop} {Q : Value → Shared → Prop}, Q (.ref hp.objs.size) ⟨hp.push { cls := .type "tuple_iterator", data := .fields #[.ref l, .int 0 0] }, g, d, tk, os⟩ → wpAny (model prog w) A' (pyIter (.ref l)) Q E ⟨hp, g, d, tk, os⟩ :=
      fun q => wpAny_pyIter_tuple (s := ⟨hp, g, d, tk, os⟩) hl q
    wp_walk using q1
    refine wpAny_stack_any fun st => wpAny_pure ?_
    split
    · rename_i c _ _ _ _ _
      cases (c == Value.type "enumerate") <;> (wp_walk using q1; exact ⟨_, rfl, h⟩)
    · wp_walk using q1; exact ⟨_, rfl, h⟩
theorem k43_call_enumT {prog : Program} {w : World} {A : Around} {E : Value → Shared → Prop} {s : Shared} {l : Addr} {items : Array Value} {Q : Value → Shared → Prop} (hL : s.heap.IsTuple l items)
    (h : ∀ h', IsEnum h' (s.heap.objs.size + 1) s.heap.objs.size 0 .none → h'.IsTupleIter s.heap.objs.size l 0 → (∀ b o, s.heap.get? b = some o → h'.get? b = some o) → Q (.ref (s.heap.objs.size + 1)) { s with heap := h' }) :
    wpAny (model prog w) A (call (.type "enumerate") [.ref l]) Q E s := by
  refine callType_new F.called_enumerate (by decide) (F.typeCall_enumerate_1 _) (F.newCall_enumerate_1 _) (fun obj => F.args_object_init_2 obj _) F.entry_enumerate_new (k43_meets_enumT l items) ⟨hL, ?_⟩
  have hz : (s.heap.push { cls := .type "tuple_iterator", data := .fields #[.ref l, .int 0 0] }).objs.size = s.heap.objs.size + 1 := Heap.size_push ..
  show _ ∧ _
  rw [hz]
  have he := Heap.get?_push_size (s.heap.push { cls := .type "tuple_iterator", data := .fields #[.ref l, .int 0 0] }) (o := { cls := .type "enumerate", data := .fields #[.none, .bool false, .ref s.heap.objs.size, rawInt 0, .none, .none] }) rfl
  rw [hz] at he
  exact ⟨⟨_, he, rfl⟩, h _ he ⟨_, Heap.get?_push_of_some _ (Heap.get?_push_size _ rfl), rfl, rfl⟩ fun b o x => Heap.get?_push_of_some _ (Heap.get?_push_of_some _ x)⟩
end PySem
namespace K43
open PySem PySem.Spec PyProof.Rows L2
/-! ### enumerate(tuple) -/
def IteT (K : PySem.W.Frag) (a : Addr) : It :=
  ⟨fun i H => ∃ (xs : List V) (x : V), SqT K H a xs ∧ xs[i]? = some x, fun i H v H' => ∃ T x, v = .ref T ∧ H T = none ∧ H' = upd H T (.tup [.int (i : Nat), x]) ∧ ∀ xs, SqT K H a xs → xs[i]? = some x, fun i H => ∃ xs : List V, SqT K H a xs ∧ xs.length ≤ i⟩
theorem turn_enumT {P : Program} {w : World} {K : PySem.W.Frag} {elts : List Expr} {kk : Nat} {tpos : Pos} (a e it : Addr) :
    Turn P w K (.Tuple elts kk tpos) (IteT K a) [e, it] e (fun i h => (∃ old, IsEnum h e it ((i : Nat) : Int) old) ∧ h.IsTupleIter it a i ∧ e ≠ it) where
  mem := by simp
  obj := fun i h st b hb => by
    obtain ⟨⟨old, he⟩, ⟨o, ho, hc, hd⟩, _⟩ := st
    rcases (show b = e ∨ b = it by simpa using hb) with z | z
    · rw [z]; exact ⟨_, he, fun v q => nomatch q⟩
    · rw [z]; exact ⟨o, ho, fun v q => by rw [hd] at q; cases q⟩
  keep := fun i h h' st k => ⟨⟨st.1.choose, k e (by simp) _ st.1.choose_spec⟩, st.2.1.at fun o q => k it (by simp) o q, st.2.2⟩
  item := by
    intro X hP hw hK hc i pins s σ H E I hf st hg
    subst hP hw hK
    obtain ⟨⟨old, he⟩, hit, hne⟩ := st
    obtain ⟨xs, x, hq, hx⟩ := hg
    obtain ⟨its, rv, p, hz⟩ := I.tuple hq
    obtain ⟨u, hu, ru⟩ := rv.get hx
    have p2 : s.heap.IsTuple a its.toArray := p
    have hel : e < s.heap.objs.size := Heap.lt_size he
    have hil : it < s.heap.objs.size := by obtain ⟨_, q, _⟩ := hit; exact Heap.lt_size q
    obtain ⟨oa, hoa, hca, _⟩ := id p2
    have hae : a ≠ e := fun z => by rw [z, he] at hoa; cases hoa; exact absurd (show Value.type "enumerate" = Value.type "tuple" from hca) (by decide)
    have hai : a ≠ it := fun z => by
      obtain ⟨oi, hoi, hci, _⟩ := id hit
      rw [z, hoi] at hoa
      cases hoa
      rw [hci] at hca
      exact absurd hca (by decide)
    have D := Draws.tuple (prog := X.prog) (w := X.w) (A := X.A.in1) (I.ok.hd hc) it a hai its.toArray
    have hlt : i < its.toArray.size := by
      have := (List.getElem?_eq_some_iff.mp hu).1
      simpa using this
    refine wpAny_pyNext_enum_itemD D he ⟨hit, p2⟩ hlt hne (by simp [hne, Ne.symm hae]) fun x' h' tk hx' ho st' hT hsz hk => ?_
    have ex : x' = u := by
      have h1 : its.toArray[i]? = some x' := hx'
      have h2 : its[i]? = some x' := by simpa using h1
      rw [hu] at h2
      exact (Option.some.inj h2).symm
    subst ex
    refine ⟨_, rfl, wpAny_letOwnedTupleGo_enum (s := { s with heap := h', toks := tk + 1 }) ho fun h'' he' sb => ?_⟩
    have hT2 : h''.get? s.heap.objs.size = some { cls := .type "tuple", data := .seq #[.int i tk, x'] } := (sb.2 _ (Nat.ne_of_gt hel)).trans hT
    have new : ObjOk X.prog X.w (upd H s.heap.objs.size (.tup [.int (i : Nat), x])) h'' s.heap.objs.size (.tup [.int (i : Nat), x]) :=
      ⟨by show 2 ≤ sizeLine; decide, [.int i tk, x'], .cons ⟨_, rfl⟩ (.cons ru .nil), ⟨_, hT2, rfl, _, rfl⟩⟩
    have I1 : Inv X pins σ (upd H s.heap.objs.size (.tup [.int (i : Nat), x])) { s with heap := h'', toks := tk + 1 } :=
      I.turnedNew (ch := [e, it]) (fun b ob hb q => (sb.2 b (fun z => hb (by simp [z]))).trans (hk b ob (fun z => hb (by simp [z])) (fun z => hb (by simp [z])) q)) hf (Nat.le_refl _) new
    refine ⟨.ref s.heap.objs.size, _, I1, rfl, ⟨_, x, rfl, I.hok.fresh (Nat.le_refl _), rfl, fun ys hy => by rw [I.tuple_inj hy hq]; exact hx⟩, ⟨⟨x', ?_⟩, st'.1.at fun o q => (sb.2 it (Ne.symm hne)).trans q, hne⟩, fun b hb => ?_⟩
    · have e1 : ((i + 1 : Nat) : Int) = (i : Int) + 1 := by omega
      rw [e1]; exact he'
    · have hb' : b < s.heap.objs.size := by
        rcases (show b = e ∨ b = it by simpa using hb) with z | z
        · rw [z]; exact hel
        · rw [z]; exact hil
      rw [upd_ne (Nat.ne_of_lt hb')]
      exact (hf b hb).1
  done := by
    intro X hP hw hK hc i pins s σ H E I hf st hg
    subst hP hw hK
    obtain ⟨⟨old, he⟩, hit, hne⟩ := st
    obtain ⟨xs, hq, hx⟩ := hg
    obtain ⟨its, rv, p, hz⟩ := I.tuple hq
    have p2 : s.heap.IsTuple a its.toArray := p
    obtain ⟨f0, f1, f2, f3, f4, f5⟩ := hf it (by simp)
    have hl := rv.length
    have hT : s.TypeIs (.ref e) "enumerate" := ⟨_, he, rfl⟩
    unfold pyNext
    refine wpAny_bind (wpAny_attempt (wpAny_callSpecial?_slot (name := Str.ofString "__next__") hT F.slot_enumerate_next (wpAny_call_entry F.slot_enumerate_next hT F.entry_enumerate_next ?_ (F.args_enumerate_next_1 _))))
    show wpAny _ _ (field (.ref e) 2 >>= _) _ _ _
    refine wpAny_bind (wpAny_field he rfl (x := .ref it) rfl ?_)
    refine wpAny_bind (wpAny_nextOf_tuple_end (I.ok.hd hc) hit p2 (by simp; omega) fun h' x he' hx' => ?_)
    obtain ⟨o, ho, hc'⟩ := hx'
    refine wpAny_bind (wpAny_isInstance (T := "StopIteration") (b := true) ⟨o, ho, hc'⟩ isSubtype_stop ?_)
    exact wpAny_pure ⟨rfl, I.turned (t' := s.toks) (fun b o hb e => he' b o hb e) f0 f1 f3 f4 f5⟩
  self := fun A i s Q E st h => wpAny_pyIter_enum st.1.choose_spec h
def iEnumT (K : PySem.W.Frag) (ta : TA) : TI := fun σ H R => ta σ H fun vs H1 => ∃ a xs, vs = [.ref a] ∧ SqT K H1 a xs ∧ R (IteT K a) H1
theorem pi_enumT {X : Cx} {e : Expr} {ta : TA} {p pos tpos : Pos} {elts : List Expr} {kk : Nat} (hg : Gl X "enumerate") (hm : X.mg "enumerate" = none) (ha : PA X [e] ta) (hs : starEach [e] X.env = [(false, eval e X.env)] := by rfl) :
    PI X (.Tuple elts kk tpos) (.Call (.Name "enumerate" p) [e] [] pos) (iEnumT X.K ta) := by
  refine ⟨fun pins s σ H R I h => ?_⟩
  refine Call_ (ld_blt I hg hm boot_enumerate (PyProof.Rows.callWith_type1 (thn (ha.run pos pins s σ H _ I h) fun us s1 ⟨vs, H1, I1, r1, q1⟩ => ?_) hs rfl))
  obtain ⟨a, xs, ex, hq, q⟩ := q1
  subst ex
  obtain rfl : us = [Value.ref a] := Vals.ref1 r1
  obtain ⟨its, rv, p', hz⟩ := I1.tuple hq
  refine k43_call_enumT (show s1.heap.IsTuple a its.toArray from p') fun h' he hit hk => wpAny_pyIter_enum he ?_
  have I2 : Inv X pins σ H1 { s1 with heap := h' } := I1.kept (t' := s1.toks) hk
  refine ⟨s1.heap.objs.size + 1, [s1.heap.objs.size + 1, s1.heap.objs.size], _, _, H1, rfl, I2, turn_enumT a (s1.heap.objs.size + 1) s1.heap.objs.size, ⟨⟨.none, he⟩, hit, Nat.succ_ne_self _⟩, fun b hb => ?_, q⟩
  have hle : s1.heap.objs.size ≤ b := by
    rcases (show b = s1.heap.objs.size + 1 ∨ b = s1.heap.objs.size by simpa using hb) with z | z
    · rw [z]; exact Nat.le_add_right _ _
    · rw [z]; exact Nat.le_refl _
  exact I1.fpOk hle (I1.hok.fresh hle)
theorem walk_enumT {K : PySem.W.Frag} {a : Addr} {xs : List V} : Walk (IteT K a) xs.length (fun H => SqT K H a xs) (YPair (fun i => some (.int (i : Nat))) (fun i => xs[i]?)) := by
  refine ⟨fun i _ hi q => ⟨xs, xs[i], q, by simp [hi]⟩, fun _ q => ⟨xs, q, Nat.le_refl _⟩, fun i H v H' _ q y => ?_⟩
  obtain ⟨T, x, h1, h2, h3, h4⟩ := y
  exact ⟨T, .int (i : Nat), x, h1, h2, h3, rfl, h4 xs q⟩
/-! ### targets, never -/
def gFld (K : PySem.W.Frag) (ta : TE) (f : Str) : TG := fun v σ H Q => ta σ H fun x H1 => ∃ a C dx fs, x = .ref a ∧ H1 a = some (.ins C dx fs) ∧ Cls K C ∧ NoAttr K C f ∧ fs.length < 1000 ∧ Q σ (upd H1 a (.ins C dx (putF f v fs)))
theorem pg_fld {X : Cx} {o : Expr} {f : Str} {pos : Pos} {ta : TE} (ha : PE X o ta) : PG X (.Attribute o f pos) (gFld X.K ta f) := by
  refine ⟨fun pins s σ H v u Q I r h => ?_⟩
  rw [assign_Attribute]
  refine wpAny_bind (wpAny_holding (thn (ha.run pins s σ H _ I h) fun ov s1 ⟨x, H1, I1, rx, a, C, dx, fs, ex, ea, c, n, l, q⟩ => ?_))
  subst ex
  obtain rfl : ov = Value.ref a := rx
  refine wpAny_bind (wpAny_standAt (wpAny_bind (wpAny_holding (setattr_ok I1 ea c n l r fun s2 I2 => ?_))))
  exact wpAny_release ⟨σ, _, I2, q⟩
def tBot : TE := fun _ _ _ => False
theorem pe_never {X : Cx} {e : Expr} : PE X e tBot := ⟨fun _ _ _ _ _ _ h => h.elim⟩
def tBotT : TT := fun _ _ _ => False
theorem pt_never {X : Cx} {e : Expr} : PT X e tBotT := ⟨fun _ _ _ _ _ _ h => h.elim⟩
/-- name = {..: .. for ..} on one line, the name a local -/
theorem ps_setDc {X : Cx} {i : Nat} {y : Str} {py : Pos} {kx vx tg iter : Expr} {ifs : List Expr} {scope : Scope} {own : List (Str × Nat)} {pos spos : Pos} {wi : TI} {g : TG} {tt : TT} {tk tv : TE} (hc : X.calm = true) (hN : X.N.Nodup) (hy : X.N[i]? = some y)
    (hyl : X.env.scope.names.lookup y = some .local) (hsw : swapsWith (.DictComp kx vx [⟨tg, iter, ifs, 0⟩] scope pos) (some (.Name y py)) spos.line X.env = pure true) (hi : PI X tg iter wi) (ok : BlkOk X.N X.env.scope scope own)
    (hg : ∀ (s : Shared) (H : Hp) (C : Addr) (cl : List (Str × Addr)) (fp : List Addr), PG (X.blk s H scope (compEnvC scope cl C X.env) fp) tg g)
    (ht : ∀ (s : Shared) (H : Hp) (C : Addr) (cl : List (Str × Addr)) (fp : List Addr), PTs (X.blk s H scope (compEnvC scope cl C X.env) fp) ifs tt)
    (hk : ∀ (s : Shared) (H : Hp) (C : Addr) (cl : List (Str × Addr)) (fp : List Addr), PE (X.blk s H scope (compEnvC scope cl C X.env) fp) kx tk)
    (he : ∀ (s : Shared) (H : Hp) (C : Addr) (cl : List (Str × Addr)) (fp : List Addr), PE (X.blk s H scope (compEnvC scope cl C X.env) fp) vx tv) (hs : ∀ x, foldedSetIterable iter X.env x = pure x := by intro _; rfl) :
    PS X (.Assign [.Name y py] (.DictComp kx vx [⟨tg, iter, ifs, 0⟩] scope pos) spos) (tAsg (tDc wi g tt tk tv (own.map (·.2))) (gName i)) := by
  refine ⟨fun pins s σ H D I h => ?_⟩
  rw [exec_Assign_Name_used _ _ _ _ hsw]
  refine wpAny_bind (wpAny_standAt (wpAny_bind ?_))
  show wpAny _ X.A (do let _ ← comprehension (.DictComp kx vx [⟨tg, iter, ifs, 0⟩] scope pos) scope X.env (firstIterPos [⟨tg, iter, ifs, 0⟩] pos) newDict false (eval iter X.env) (some (assign (.Name y py) X.env))) _ _ s
  have h2 : tDc wi g tt tk tv (own.map (·.2)) σ H (fun x H1 => gName i x σ H1 D.nx) := h
  refine wpAny_bind (thn (dc_core (Qf := fun _ s' => SP X pins D .next s') hc hN I hi ok hg ht hk he hs h2 fun L C s' m H' I' q hn f => ?_) fun _ s' hq => wpAny_pure (wpAny_pure hq))
  show wpAny _ _ (assign (.Name y py) X.env (.ref L)) _ _ _
  refine wpAny_assign_Name (store_ok2 (v := V.ref L) I' hN hy (.inl hyl) rfl (fun s2 I2 ⟨a, sb, ha⟩ => ?_) (.inr hyl))
  obtain ⟨f0, f1, f2, f3, f4, f5⟩ := f
  have haC : C ≠ a := by
    rcases ha with z | z
    · rw [z]; exact f1
    · exact fun e => f4 y a z e.symm
  exact ⟨m, hn.sameBut sb haC, fun h3 sb3 => ⟨_, H', I2.turned (t' := s2.toks) (fun b o hb e => (sb3.2 b hb).trans e) f0 f1 f3 f4 f5, q⟩⟩
end K43

-- K43Lay
set_option Elab.async false
set_option linter.all false
set_option maxRecDepth 100000
set_option maxHeartbeats 4000000
/-! short words of our own: defs by names, heaps that only grow, comprehensions that make data -/
namespace K43
open PySem PySem.Spec PyProof.Rows L2
/-! ### heaps that only grow -/
theorem same_new {H : Hp} {p : Addr} {o : HO} (h : H p = none) : Same H (upd H p o) := fun b u e => by
  rw [upd_ne (ne_of_none e h)]
  exact e
/-- a new object, its heap forgotten but for what matters -/
theorem al {H : Hp} {o : HO} {Q : V → Hp → Prop} (h : ∀ p H', H p = none → Same H H' → H' p = some o → Q (.ref p) H') : ∀ p, H p = none → Q (.ref p) (upd H p o) :=
  fun p hp => h p _ hp (same_new hp) upd_same
/-- all but the objects of S stand -/
def Frame (S : List Addr) (H H' : Hp) : Prop := ∀ b o, H b = some o → b ∉ S → H' b = some o
theorem Frame.refl (S : List Addr) (H : Hp) : Frame S H H := fun _ _ h _ => h
theorem Frame.trans {S : List Addr} {H H1 H2 : Hp} (a : Frame S H H1) (b : Frame S H1 H2) : Frame S H H2 := fun c o h n => b c o (a c o h n) n
theorem Frame.of {S : List Addr} {H H' : Hp} (s : Same H H') : Frame S H H' := fun b o h _ => s b o h
theorem Frame.mono {S S' : List Addr} {H H' : Hp} (a : Frame S H H') (h : ∀ x ∈ S, x ∈ S') : Frame S' H H' := fun b o e n => a b o e fun z => n (h b z)
theorem Frame.upd {S : List Addr} {H : Hp} {p : Addr} {o : HO} (h : p ∈ S) : Frame S H (upd H p o) := fun b u e n => by
  rw [upd_ne (fun z => n (by rw [z]; exact h))]
  exact e
/-- what was not there is made by others only: none of S is older than H0 -/
theorem Frame.same {S : List Addr} {H0 H H' : Hp} (s : Same H0 H) (f : Frame S H H') (n : ∀ x ∈ S, H0 x = none) : Same H0 H' := fun b o e => f b o (s b o e) fun z => by
  rw [n b z] at e
  cases e
/-- a heap without one address -/
def hid (D : Addr) (H : Hp) : Hp := fun b => if b = D then none else H b
theorem hid_get {D : Addr} {H : Hp} {b : Addr} {o : HO} (h : H b = some o) (n : b ≠ D) : hid D H b = some o := by
  unfold hid
  rw [if_neg n]
  exact h
theorem hid_upd {D : Addr} {H : Hp} {o : HO} : hid D (upd H D o) = hid D H := by
  funext b
  unfold hid
  by_cases h : b = D
  · rw [if_pos h, if_pos h]
  · rw [if_neg h, if_neg h, upd_ne h]
theorem hid_same (D : Addr) (H : Hp) : Same (hid D H) H := fun b o h => by
  unfold hid at h
  split at h
  · cases h
  · exact h
theorem hid_mono {D : Addr} {H H' : Hp} (s : Same H H') : Same (hid D H) (hid D H') := fun b o h => by
  unfold hid at h ⊢
  split at h
  · cases h
  · rename_i n
    rw [if_neg n]
    exact s b o h
/-! ### what is made, by a heap that only grows -/
theorem OpR.imp {X : Cx} {f : Value → Value → Sem Value} {r r' : R2} (h : OpR X f r) (i : ∀ x y H Q, r' x y H Q → r x y H Q) : OpR X f r' := fun pins s σ H x y v u Q I rx ry q => h pins s σ H x y v u Q I rx ry (i _ _ _ _ q)
theorem CallR.imp {X : Cx} {f : Value} {r r' : List V → Hp → VK → Prop} (h : CallR X f r) (i : ∀ x H Q, r' x H Q → r x H Q) : CallR X f r' := fun pins s σ H xs us Q I rx q => h pins s σ H xs us Q I rx (i _ _ _ q)
theorem SlR.imp {X : Cx} {r r' : V → Option Int → Option Int → Hp → VK → Prop} (h : SlR X r) (i : ∀ x a b H Q, r' x a b H Q → r x a b H Q) : SlR X r' := fun pins s σ H x lo hi v vl vu sl Q I rx pl pu hs q => h pins s σ H x lo hi v vl vu sl Q I rx pl pu hs (i _ _ _ _ _ q)
theorem PE.imp {X : Cx} {e : Expr} {t t' : TE} (h : PE X e t) (i : ∀ σ H Q, t' σ H Q → t σ H Q) : PE X e t' := ⟨fun pins s σ H Q I q => h.run pins s σ H Q I (i _ _ _ q)⟩
/-- a new object o comes -/
def New (H : Hp) (o : HO) (Q : VK) : Prop := ∀ p H', H p = none → Same H H' → H' p = some o → Q (.ref p) H'
theorem New.go {H : Hp} {o : HO} {Q : VK} (h : New H o Q) : ∀ p, H p = none → Q (.ref p) (upd H p o) := fun p hp => h p _ hp (same_new hp) upd_same
def tTupS (t : TA) : TE := fun σ H Q => t σ H fun xs H1 => xs.length ≤ 1000 ∧ New H1 (.tup xs) Q
def tLstS (t : TA) : TE := fun σ H Q => t σ H fun xs H1 => xs.length ≤ 1000 ∧ New H1 (.lst xs) Q
theorem le1000 {n : Nat} (h : n ≤ 1000) : n ≤ sizeLine := by rw [sizeLine_eq]; omega
section
variable {X : Cx} {es : List Expr} {t : TA} {pos : Pos}
theorem PA.up {t t' : TA} {pos : Pos} {pins : List (Addr × Obj)} {s : Shared} {σ : L2.St} {H : Hp} {R R' : List V → Hp → Prop} (h : PA X es t) (I : Inv X pins σ H s) (q : t σ H R) (i : ∀ xs H1, R xs H1 → R' xs H1) : wpAny (model X.prog X.w) X.A (spliced (backTo pos (starEach es X.env))) (AP X pins σ R') X.xe s :=
  thn (h.run pos pins s σ H R I q) fun us s1 ⟨vs, H1, I1, r1, q1⟩ => ⟨vs, H1, I1, r1, i _ _ q1⟩
theorem pe_tupS {x1} (h : PA X es t) : PE X (.Tuple es x1 pos) (tTupS t) := by
  have h2 : PA X es (fun σ H Q => ∃ R, t σ H R ∧ ∀ xs H1, R xs H1 → Q xs H1) := ⟨fun pos pins s σ H Q I ⟨R, q, i⟩ => PA.up (t' := t) h I q i⟩
  exact PE.imp (pe_tup h2) fun σ H Q q => ⟨_, q, fun xs H1 q1 => ⟨le1000 q1.1, q1.2.go⟩⟩
theorem pe_lstS (h : PA X es t) : PE X (.List es pos) (tLstS t) := by
  have h2 : PA X es (fun σ H Q => ∃ R, t σ H R ∧ ∀ xs H1, R xs H1 → Q xs H1) := ⟨fun pos pins s σ H Q I ⟨R, q, i⟩ => PA.up (t' := t) h I q i⟩
  exact PE.imp (pe_lst h2) fun σ H Q q => ⟨_, q, fun xs H1 q1 => ⟨le1000 q1.1, q1.2.go⟩⟩
def rCatS : R2 := fun x y H Q => ∃ l b xs zs, x = .ref l ∧ y = .ref b ∧ H l = some (.lst xs) ∧ H b = some (.lst zs) ∧ xs.length + zs.length ≤ sizeLine ∧ New H (.lst (xs ++ zs)) Q
theorem op_catS : OpR X (binaryOp .Add) rCatS := OpR.imp op_cat fun _ _ _ _ ⟨l, b, xs, zs, h1, h2, h3, h4, h5, h6⟩ => ⟨l, b, xs, zs, h1, h2, h3, h4, h5, h6.go⟩
def rSlS (K : PySem.W.Frag) : V → Option Int → Option Int → Hp → VK → Prop := fun x lo hi H Q => ∃ a xs, x = .ref a ∧ SqL K H a xs ∧ New H (.lst (cutV xs lo hi)) Q
theorem sl_listS : SlR X (rSlS X.K) := SlR.imp sl_list fun _ _ _ _ _ ⟨a, xs, h1, h2, h3⟩ => ⟨a, xs, h1, h2, h3.go⟩
def rListS (K : PySem.W.Frag) : List V → Hp → VK → Prop := fun xs H Q => ∃ p ys, xs = [.ref p] ∧ (SqL K H p ys ∨ SqT K H p ys) ∧ New H (.lst ys) Q
theorem call_listS : CallR X (.type "list") (rListS X.K) := CallR.imp call_list_of fun _ _ _ ⟨p, ys, h1, h2, h3⟩ => ⟨p, ys, h1, h2, h3.go⟩
def rTupleS (K : PySem.W.Frag) : List V → Hp → VK → Prop := fun xs H Q => ∃ p ys, xs = [.ref p] ∧ ((SqL K H p ys ∧ New H (.tup ys) Q) ∨ (SqT K H p ys ∧ Q (.ref p) H))
theorem call_tupleS : CallR X (.type "tuple") (rTupleS X.K) := CallR.imp call_tuple_of fun _ _ _ ⟨p, ys, h1, h2⟩ => ⟨p, ys, h1, h2.imp (fun z => ⟨z.1, z.2.go⟩) fun z => z⟩
def tLstRgS (te : L2.St → Hp → (Int → Int → Hp → Prop) → Prop) : TE := fun σ H Q => te σ H fun a b H1 => RgOk a b ∧ New H1 (.lst (rgV a b)) Q
theorem pe_listRgS {te : L2.St → Hp → (Int → Int → Hp → Prop) → Prop} {e : Expr} {p : Pos} (hc : X.calm = true) (hm : X.mg "list" = none) (he : PRg X e te) (hg : Gl X "list" := by rfl) (na : starEach [e] X.env = (false, eval e X.env) :: starEach [] X.env := by rfl) : PE X (.Call (.Name "list" p) [e] [] pos) (tLstRgS te) :=
  PE.imp (pe_listRg hc hg hm (te := fun σ H Q => ∃ R, te σ H R ∧ ∀ a b H1, R a b H1 → Q a b H1) (fun pins s σ H Q I ⟨R, q, i⟩ => thn (he pins s σ H R I q) fun x s' ⟨r, a, b, t, u, v, H', h1, h2, h3, h4⟩ => ⟨r, a, b, t, u, v, H', h1, h2, h3, i _ _ _ h4⟩) na)
    fun σ H Q q => ⟨_, q, fun a b H1 q1 => ⟨q1.1, q1.2.go⟩⟩
theorem t0 : 0 ≤ 1000 := by decide
theorem t1 : 1 ≤ 1000 := by decide
theorem t2 : 2 ≤ 1000 := by decide
theorem t3 : 3 ≤ 1000 := by decide
theorem t4 : 4 ≤ 1000 := by decide
def tDNewKS : TE := fun _ H Q => New H (.dK []) Q
def tDNewTS : TE := fun _ H Q => New H (.dT []) Q
theorem pe_dnewKS : PE X (.Dict [] [] pos) tDNewKS := PE.imp pe_dnewK fun _ _ _ h => h.go
theorem pe_dnewTS : PE X (.Dict [] [] pos) tDNewTS := PE.imp pe_dnewT fun _ _ _ h => h.go
end
/-! ### lists side by side -/
theorem paired_mono {α β : Type} {R R' : α → β → Prop} (h : ∀ a b, R a b → R' a b) : ∀ {xs : List α} {ys : List β}, Paired R xs ys → Paired R' xs ys
  | _, _, .nil => .nil
  | _, _, .cons r t => .cons (h _ _ r) (paired_mono h t)
theorem paired_snoc {α β : Type} {R : α → β → Prop} {x : α} {y : β} (r : R x y) : ∀ {xs : List α} {ys : List β}, Paired R xs ys → Paired R (xs ++ [x]) (ys ++ [y])
  | _, _, .nil => .cons r .nil
  | _, _, .cons q t => .cons q (paired_snoc r t)
theorem paired_app {α β : Type} {R : α → β → Prop} : ∀ {xs xs' : List α} {ys ys' : List β}, Paired R xs ys → Paired R xs' ys' → Paired R (xs ++ xs') (ys ++ ys')
  | _, _, _, _, .nil, h => h
  | _, _, _, _, .cons q t, h => .cons q (paired_app t h)
theorem paired_len {α β : Type} {R : α → β → Prop} : ∀ {xs : List α} {ys : List β}, Paired R xs ys → xs.length = ys.length
  | _, _, .nil => rfl
  | _, _, .cons _ t => congrArg Nat.succ (paired_len t)
theorem paired_at {α β : Type} {R : α → β → Prop} : ∀ {xs : List α} {ys : List β}, Paired R xs ys → ∀ {i : Nat} {x : α}, xs[i]? = some x → ∃ y, ys[i]? = some y ∧ R x y
  | _, _, .nil, i, x, h => by simp at h
  | _, _, .cons r t, 0, x, h => by
    have e := Option.some.inj h
    subst e
    exact ⟨_, rfl, r⟩
  | _, _, .cons r t, i + 1, x, h => paired_at t (i := i) h
theorem paired_at' {α β : Type} {R : α → β → Prop} : ∀ {xs : List α} {ys : List β}, Paired R xs ys → ∀ {i : Nat} {y : β}, ys[i]? = some y → ∃ x, xs[i]? = some x ∧ R x y
  | _, _, .nil, i, x, h => by simp at h
  | _, _, .cons r t, 0, x, h => by
    have e := Option.some.inj h
    subst e
    exact ⟨_, rfl, r⟩
  | _, _, .cons r t, i + 1, x, h => paired_at' t (i := i) h
theorem paired_map {α β γ : Type} {R : α → γ → Prop} (f : β → γ) : ∀ {xs : List α} {ys : List β}, Paired (fun a b => R a (f b)) xs ys → Paired R xs (ys.map f)
  | _, _, .nil => .nil
  | _, _, .cons r t => .cons r (paired_map f t)
theorem paired_eq {α : Type} : ∀ {xs ys : List α}, Paired (fun a b => a = b) xs ys → xs = ys
  | _, _, .nil => rfl
  | _, _, .cons r t => by rw [show _ = _ from r, paired_eq t]
/-! ### comprehensions -/
/-- a comprehension over a walk: at turn i it makes what R says of out i (none: it is left out); the heap only grows -/
theorem lc_out {α : Type} {J : It} {n : Nat} {G : Hp → Prop} {Y : Nat → Hp → V → Hp → Prop} (w : Walk J n G Y) (R : Hp → V → α → Prop) (out : Nat → Option α) (hR : ∀ H H' v a, Same H H' → R H v a → R H' v a) (hn : n ≤ 100000)
    {g : TG} {tt : TT} {te : TE} {vs : List Nat} {σ : L2.St} {H1 : Hp} {Q : Addr → Hp → Prop} (hG : ∀ H, Same H1 H → G H)
    (hs : ∀ i x D H H' acc (Ky : V → Hp → Prop) (Kn : Hp → Prop), i < n → Same H1 H → H1 D = none → H D = some (.lst acc) → Y i H x H' → (∀ y H4 a, Same H H4 → out i = some a → R (hid D H4) y a → Ky y H4) → (∀ H3, Same H H3 → out i = none → Kn H3) →
      g x (wipe σ vs) H' fun σ2 H2 => wipe σ2 vs = wipe σ vs ∧ tt σ2 H2 fun b H3 => if b = true then te σ2 H3 Ky else Kn H3)
    (hd : ∀ D H' ys, H1 D = none → Same H1 H' → H' D = some (.lst ys) → Paired (R H') ys ((List.range n).filterMap out) → Q D H') :
    ∀ D, H1 D = none → ∃ W : Nat → Nat → Hp → Prop, (∃ m, W 0 m (upd H1 D (.lst []))) ∧ ∀ i m H, W i m H →
      (J.stop i H ∧ Q D H) ∨ (J.go i H ∧ ∃ Nx : Hp → Prop, (∀ H', Nx H' → ∃ m', m' < m ∧ W (i + 1) m' H') ∧ ∀ x H', J.yld i H x H' → g x (wipe σ vs) H' fun σ2 H2 => wipe σ2 vs = wipe σ vs ∧ tt σ2 H2 fun b H3 =>
        if b = true then te σ2 H3 fun y H4 => ∃ acc, H4 D = some (.lst acc) ∧ acc.length < sizeLine ∧ Nx (upd H4 D (.lst (acc ++ [y]))) else Nx H3) := by
  intro D hD
  have line : (100000 : Nat) < sizeLine := by rw [sizeLine_eq]; decide
  refine lc_it w (fun i H => Same H1 H ∧ ∃ acc, H D = some (.lst acc) ∧ acc.length ≤ i ∧ Paired (R (hid D H)) acc ((List.range i).filterMap out)) ⟨same_new hD, [], upd_same, Nat.zero_le _, .nil⟩ (fun i H _ p => hG H p.1) ?_ ?_
  · rintro i x H H' hi ⟨sm, acc, hacc, hl, pr⟩ y
    have e : (List.range (i + 1)).filterMap out = (List.range i).filterMap out ++ (out i).toList := by
      rw [List.range_succ, List.filterMap_append]
      congr 1
    refine hs i x D H H' acc _ _ hi sm hD hacc y (fun z H4 a s4 ea ra => ?_) (fun H3 s3 eo => ?_)
    · refine ⟨acc, s4 _ _ hacc, by omega, ⟨fun b o h => ?_, _, upd_same, by rw [List.length_append]; simp; omega, ?_⟩⟩
      · rw [upd_ne (ne_of_none h hD)]
        exact s4 _ _ (sm _ _ h)
      · rw [hid_upd, e, ea]
        exact paired_snoc ra (paired_mono (fun u a => hR _ _ u a (hid_mono s4)) pr)
    · refine ⟨sm.trans s3, acc, s3 _ _ hacc, by omega, ?_⟩
      rw [e, eo]
      simpa using paired_mono (fun u a => hR _ _ u a (hid_mono s3)) pr
  · rintro H ⟨sm, acc, hacc, _, pr⟩
    exact hd D H acc hD sm hacc (paired_mono (fun u a => hR _ _ u a (hid_same D H)) pr)
/-- the same where the elements are flat values -/
theorem lc_flat {J : It} {n : Nat} {G : Hp → Prop} {Y : Nat → Hp → V → Hp → Prop} (w : Walk J n G Y) (out : Nat → Option V) (hn : n ≤ 100000)
    {g : TG} {tt : TT} {te : TE} {vs : List Nat} {σ : L2.St} {H1 : Hp} {Q : Addr → Hp → Prop} (hG : ∀ H, Same H1 H → G H)
    (hs : ∀ i x H H' (Ky : V → Hp → Prop) (Kn : Hp → Prop), i < n → Same H1 H → Y i H x H' → (∀ y H4, Same H H4 → out i = some y → Ky y H4) → (∀ H3, Same H H3 → out i = none → Kn H3) →
      g x (wipe σ vs) H' fun σ2 H2 => wipe σ2 vs = wipe σ vs ∧ tt σ2 H2 fun b H3 => if b = true then te σ2 H3 Ky else Kn H3)
    (hd : ∀ D H', H1 D = none → Same H1 H' → H' D = some (.lst ((List.range n).filterMap out)) → Q D H') :
    ∀ D, H1 D = none → ∃ W : Nat → Nat → Hp → Prop, (∃ m, W 0 m (upd H1 D (.lst []))) ∧ ∀ i m H, W i m H →
      (J.stop i H ∧ Q D H) ∨ (J.go i H ∧ ∃ Nx : Hp → Prop, (∀ H', Nx H' → ∃ m', m' < m ∧ W (i + 1) m' H') ∧ ∀ x H', J.yld i H x H' → g x (wipe σ vs) H' fun σ2 H2 => wipe σ2 vs = wipe σ vs ∧ tt σ2 H2 fun b H3 =>
        if b = true then te σ2 H3 fun y H4 => ∃ acc, H4 D = some (.lst acc) ∧ acc.length < sizeLine ∧ Nx (upd H4 D (.lst (acc ++ [y]))) else Nx H3) := by
  refine lc_out w (fun _ v a => v = a) out (fun _ _ _ _ _ h => h) hn hG (fun i x D H H' acc Ky Kn hi sm _ _ y hy hn => ?_) (fun D H' ys hD sm hl pr => ?_)
  · exact hs i x H H' Ky Kn hi sm y (fun z H4 s e => hy z H4 z s e rfl) hn
  · rw [paired_eq pr] at hl
    exact hd D H' hD sm hl
/-! ### tests whose answer is known -/
theorem itP {c A B : Prop} [Decidable c] (hc : c) (h : A) : if c then A else B := by
  rw [if_pos hc]
  exact h
theorem itN {c A B : Prop} [Decidable c] (hc : ¬ c) (h : B) : if c then A else B := by
  rw [if_neg hc]
  exact h
theorem decF {c : Prop} [Decidable c] (h : ¬ c) : ¬ (decide c = true) := fun z => h (of_decide_eq_true z)
/-! ### defs by names -/
section
variable {P : Program} {w : World} {K : PySem.W.Frag} {mg : Str → Option Value} {base : Heap}
/-- a global def keeps its promise -/
structure GOk (P : Program) (w : World) (K : PySem.W.Frag) (mg : Str → Option Value) (base : Heap) (k : Nat) (x : Str) (ps : List Str) (sp : Sp) : Prop where
  ok : ∃ fd, FnOk P w K mg base CX0 k (He.ga K x) fd ps sp ∧ Binds K fd ps []
  kp : PySem.W.keepIn K (.ref (He.ga K x)) = true
  mg : mg x = some (.ref (He.ga K x))
/-- a method; dvs: the defaults of the last parameters that a call may leave out -/
structure MOk (P : Program) (w : World) (K : PySem.W.Frag) (mg : Str → Option Value) (base : Heap) (k : Nat) (C : Addr) (m : Str) (ps : List Str) (dvs : List V) (sp : Sp) : Prop where
  ok : ∃ fd ds, FnOk P w K mg base CX0 k (He.ma K C m) fd ps sp ∧ Binds K fd ps ds ∧ Vals dvs ds
  me : Meth K C m (He.ma K C m)
theorem GOk.imp {k : Nat} {x : Str} {ps : List Str} {sp sp' : Sp} (G : GOk P w K mg base k x ps sp) (h : ∀ vs H Q E, sp' vs H Q E → sp vs H Q E) : GOk P w K mg base k x ps sp' :=
  let ⟨fd, f, b⟩ := G.ok
  ⟨⟨fd, f.imp h, b⟩, G.kp, G.mg⟩
theorem okD {x qual : Str} {params : Arguments} {body : List Stmt} {scope : Scope} {dvs : List V} {f : Addr} {fd : FuncData} {N ps : List Str} {k : Nat} {sp : Sp} (F : FunD K x qual params body scope dvs [] f fd) (S : FnScope N ps scope)
    (len : ∀ vs H Q E, sp vs H Q E → vs.length = ps.length)
    (hbody : ∀ (cdv : Value) (A : Around) (outer : List Env) (s : Shared) (H : Hp) (vs : List V) (Q : VK) (E : XK), Room k (A.deeper (envOfC qual scope s.heap.objs.size f cdv)) → sp vs H Q E →
      ∃ t, PSs (cxOf CX0 P w K mg base N qual scope f cdv A outer s H E).nox body t ∧ t { nx := fun _ H' => Q .non H', rt := Q } (start N vs) H) : FnOk P w K mg base CX0 (k + 1) f fd ps sp := by
  refine F.ok S len fun cdv A outer s H vs Q E hr hsp => ?_
  obtain ⟨t, h, q⟩ := hbody cdv A outer s H vs Q E hr hsp
  exact ⟨t, h.nox, q⟩
end
section
variable {X : Cx} {k : Nat} {x m : Str} {ps : List Str} {dvs : List V} {sp : Sp} {p pos apos : Pos} {e o : Expr} {es : List Expr} {t : TA} {ta : TE} {C : Addr}
theorem pe_g (G : GOk X.prog X.w X.K X.mg X.base k x ps sp) (hr : Room k X.A) (ha : PA X (e :: es) t) (hg : Gl X x := by rfl) (hdb : (x == ("__debug__" : Str)) = false := by decide) (he : starEach (e :: es) X.env = (false, eval e X.env) :: starEach es X.env := by rfl)
    (hpl : (backTo pos (starEach es X.env)).any (·.1) = false := by rfl) : PE X (.Call (.Name x p) (e :: es) [] pos) (tCall sp [] E0 t) := by
  obtain ⟨fd, f, b⟩ := G.ok
  exact pe_call f hr hg G.mg G.kp b .nil pass0 ha hdb he hpl
theorem pe_m {pl : Sem Bool} (G : MOk X.prog X.w X.K X.mg X.base k C m ps dvs sp) (hr : Room k X.A) (c : Cls X.K C) (he : PE X o ta) (ha : PA X (e :: es) t) (hst : starEach (e :: es) X.env = (false, eval e X.env) :: starEach es X.env := by rfl)
    (hpl : (backTo pos (starEach es X.env)).any (·.1) = false := by rfl)
    (ht : eval (.Call (.Attribute o m apos) (e :: es) [] pos) X.env = (do
      let ov ← eval o X.env
      standAt apos.atName
      let (f, first) ← holding [ov] (getMethod ov m pl)
      callWith pos f first (backTo pos (starEach (e :: es) X.env)) (backToKw pos (keywordEach [] X.env))) := by rfl) : PE X (.Call (.Attribute o m apos) (e :: es) [] pos) (tMeth C m sp dvs E0 ta t) := by
  obtain ⟨fd, ds, f, b, v⟩ := G.ok
  exact pe_meth he c G.me f hr b v pass0 ha hst hpl ht
theorem pe_m0 {pl : Sem Bool} (G : MOk X.prog X.w X.K X.mg X.base k C m ps dvs sp) (hr : Room k X.A) (c : Cls X.K C) (he : PE X o ta)
    (ht : eval (.Call (.Attribute o m apos) [] [] pos) X.env = (do
      let ov ← eval o X.env
      standAt apos.atName
      let (f, first) ← holding [ov] (getMethod ov m pl)
      callWith pos f first (backTo pos (starEach [] X.env)) (backToKw pos (keywordEach [] X.env))) := by rfl) : PE X (.Call (.Attribute o m apos) [] [] pos) (tMeth C m sp dvs E0 ta tNil) := by
  obtain ⟨fd, ds, f, b, v⟩ := G.ok
  exact pe_meth0 he c G.me f hr b v pass0 ht
end
/-! ### what the top has written -/
abbrev cB (K : PySem.W.Frag) : Addr := He.ga K "Bonds"
abbrev cK (K : PySem.W.Frag) : Addr := He.ga K "Keeping"
structure Txt (K : PySem.W.Frag) (mg : Str → Option Value) : Prop where
  isinstance : mg "isinstance" = none
  list : mg "list" = none
  tuple : mg "tuple" = none
  enumerate : mg "enumerate" = none
  range : mg "range" = none
  len : mg "len" = none
  any : mg "any" = none
  max : mg "max" = none
  sorted : mg "sorted" = none
  set : mg "set" = none
  int : mg "int" = none
  dict : mg "dict" = none
  zip : mg "zip" = none
  all : mg "all" = none
  abs : mg "abs" = none
  min : mg "min" = none
  super : mg "super" = none
  LOOK : ∃ t, mg "LOOK" = some (.str "look" t)
  ADD : ∃ t, mg "ADD" = some (.str "add" t)
  MEET : ∃ t, mg "MEET" = some (.str "meet" t)
  TELL : ∃ t, mg "TELL" = some (.str "tell" t)
  LONG : ∃ t, mg "LONG" = some (.str "long" t)
  ALIKE : ∃ t, mg "ALIKE" = some (.str "alike" t)
  BEGINS : ∃ t, mg "BEGINS" = some (.str "begins" t)
  NO : ∃ t, mg "NO" = some (.str "no" t)
  DELAY : ∃ t, mg "DELAY" = some (.str "delay" t)
  FORK : ∃ t, mg "FORK" = some (.str "fork" t)
  clB : Cls K (cB K)
  clK : Cls K (cK K)
  nB : ∀ f ∈ (["own_people", "own_events", "own_kind", "own_gone", "own_looks", "own_adds", "own_alike", "own_below", "own_has", "own_facts"] : List Str), NoAttr K (cB K) f
  nK : ∀ f ∈ (["own_looks", "own_adds", "own_bonds", "own_unlike", "own_barred"] : List Str), NoAttr K (cK K) f
theorem pe_gs {X : Cx} {x z : Str} {pos : Pos} (hm : ∃ t, X.mg x = some (.str z t)) (hg : Gl X x := by rfl) (hd : (x == ("__debug__" : Str)) = false := by decide) : PE X (.Name x pos) (tC (.str z)) := by
  obtain ⟨t, h⟩ := hm
  exact pe_glob hg h ⟨t, rfl⟩ hd
end K43

-- K43W1
set_option Elab.async false
set_option linter.all false
set_option maxRecDepth 100000
set_option maxHeartbeats 4000000
/-! timetables in the heap; events_of, looks, adds -/
namespace K43
open PySem PySem.Spec PyProof.Rows L2
/-! ### data -/
def evW : Ev → Str
  | .look _ => "look"
  | .add _ => "add"
  | .meet _ _ => "meet"
  | .tell _ _ => "tell"
def evP : Ev → Nat
  | .look p => p
  | .add p => p
  | .meet p _ => p
  | .tell p _ => p
def evV : Ev → List V
  | .look p => [.str "look", .int p]
  | .add p => [.str "add", .int p]
  | .meet p q => [.str "meet", .int p, .int q]
  | .tell p q => [.str "tell", .int p, .int q]
theorem evV_0 (e : Ev) : atI (evV e) 0 = some (.str (evW e)) := by cases e <;> rfl
theorem evV_1 (e : Ev) : atI (evV e) 1 = some (.int (evP e)) := by cases e <;> rfl
theorem evV_len (e : Ev) : (evV e).length ≤ 3 := by cases e <;> simp [evV]
abbrev prV (p : Pr) : List V := [.int p.1, .int p.2]
def EvAt (H : Hp) (v : V) (e : Ev) : Prop := ∃ a, v = .ref a ∧ H a = some (.tup (evV e))
def PrAt (H : Hp) (v : V) (p : Pr) : Prop := ∃ a, v = .ref a ∧ H a = some (.tup (prV p))
/-- a list, a tuple of pairs -/
def PrL (H : Hp) (a : Addr) (ps : List Pr) : Prop := ∃ vs, H a = some (.lst vs) ∧ Paired (PrAt H) vs ps
def PrT (H : Hp) (a : Addr) (ps : List Pr) : Prop := ∃ vs, H a = some (.tup vs) ∧ Paired (PrAt H) vs ps
def EvT (H : Hp) (b : Addr) (es : List Ev) : Prop := ∃ vs, H b = some (.tup vs) ∧ Paired (EvAt H) vs es
/-- a timetable -/
def TabAt (H : Hp) (v : V) (n : Nat) (es : List Ev) : Prop := ∃ a b, v = .ref a ∧ H a = some (.tup [.int n, .ref b]) ∧ EvT H b es
/-- a list of numbers -/
abbrev NL (H : Hp) (a : Addr) (ns : List Nat) : Prop := H a = some (.lst (ns.map fun k : Nat => V.int k))
section
variable {H H' : Hp}
theorem EvAt.same (s : Same H H') {v : V} {e : Ev} (h : EvAt H v e) : EvAt H' v e := let ⟨a, q, r⟩ := h; ⟨a, q, s _ _ r⟩
theorem PrAt.same (s : Same H H') {v : V} {e : Pr} (h : PrAt H v e) : PrAt H' v e := let ⟨a, q, r⟩ := h; ⟨a, q, s _ _ r⟩
theorem PrL.same (s : Same H H') {a : Addr} {ps : List Pr} (h : PrL H a ps) : PrL H' a ps := let ⟨vs, q, r⟩ := h; ⟨vs, s _ _ q, paired_mono (fun _ _ z => z.same s) r⟩
theorem PrT.same (s : Same H H') {a : Addr} {ps : List Pr} (h : PrT H a ps) : PrT H' a ps := let ⟨vs, q, r⟩ := h; ⟨vs, s _ _ q, paired_mono (fun _ _ z => z.same s) r⟩
theorem EvT.same (s : Same H H') {a : Addr} {ps : List Ev} (h : EvT H a ps) : EvT H' a ps := let ⟨vs, q, r⟩ := h; ⟨vs, s _ _ q, paired_mono (fun _ _ z => z.same s) r⟩
theorem TabAt.same (s : Same H H') {v : V} {n : Nat} {es : List Ev} (h : TabAt H v n es) : TabAt H' v n es := let ⟨a, b, q, r, t⟩ := h; ⟨a, b, q, s _ _ r, t.same s⟩
end
theorem line64 {n : Nat} (h : n ≤ 100000) : n ≤ sizeLine := by rw [sizeLine_eq]; omega
theorem line64' {n : Nat} (h : n ≤ 100000) : n < sizeLine := by rw [sizeLine_eq]; omega
/-! ### places -/
def selK (w : Str) : Nat → List Ev → List Pr
  | _, [] => []
  | k, e :: r => if evW e = w then (k, evP e) :: selK w (k + 1) r else selK w (k + 1) r
theorem selK_look : ∀ (es : List Ev) (k : Nat), selK "look" k es = looksK k es
  | [], k => rfl
  | e :: r, k => by
    have ih := selK_look r (k + 1)
    cases e with
    | look p => rw [selK, if_pos (by rfl), ih]; rfl
    | add p => rw [selK, if_neg (by show ¬ (("add" : Str) = "look"); decide +kernel), ih]; rfl
    | meet p q => rw [selK, if_neg (by show ¬ (("meet" : Str) = "look"); decide +kernel), ih]; rfl
    | tell p q => rw [selK, if_neg (by show ¬ (("tell" : Str) = "look"); decide +kernel), ih]; rfl
theorem selK_add : ∀ (es : List Ev) (k : Nat), selK "add" k es = addsK k es
  | [], k => rfl
  | e :: r, k => by
    have ih := selK_add r (k + 1)
    cases e with
    | add p => rw [selK, if_pos (by rfl), ih]; rfl
    | look p => rw [selK, if_neg (by show ¬ (("look" : Str) = "add"); decide +kernel), ih]; rfl
    | meet p q => rw [selK, if_neg (by show ¬ (("meet" : Str) = "add"); decide +kernel), ih]; rfl
    | tell p q => rw [selK, if_neg (by show ¬ (("tell" : Str) = "add"); decide +kernel), ih]; rfl
def outE (w : Str) (es : List Ev) (i : Nat) : Option Pr := match es[i]? with
  | some e => if evW e = w then some (i, evP e) else none
  | none => none
theorem outE_all (w : Str) (es : List Ev) : (List.range es.length).filterMap (outE w es) = selK w 0 es := by
  have key : ∀ (r : List Ev) (k : Nat), (∀ i, r[i]? = es[k + i]?) → (List.range' k r.length).filterMap (outE w es) = selK w k r := by
    intro r
    induction r with
    | nil => intro k _; rfl
    | cons e r ih =>
      intro k h
      have h0 := h 0
      rw [Nat.add_zero] at h0
      have h1 := ih (k + 1) (fun i => by rw [Nat.add_assoc, Nat.add_comm 1 i]; exact h (i + 1))
      have he : es[k]? = some e := h0.symm
      rw [List.length_cons, List.range'_succ, List.filterMap_cons, selK, h1]
      unfold outE
      rw [he]
      by_cases q : evW e = w <;> simp [q]
  rw [List.range_eq_range']
  exact key es 0 fun i => by rw [Nat.zero_add]
section
variable {P : Program} {w : World} {K : PySem.W.Frag} {mg : Str → Option Value} {base : Heap}
def spEventsOf : Sp := fun vs H Q _ => ∃ v n es z, vs = [v, .str z] ∧ TabAt H v n es ∧ es.length ≤ 64 ∧ ∀ a H', Same H H' → PrL H' a (selK z 0 es) → Q (.ref a) H'
theorem sc_events_of : FnScope ["timetable", "word", "place", "event"] ["timetable", "word"] (defScope s_events_of) := ⟨rfl, rfl, rfl, by decide +kernel, rfl, by decide +kernel, by decide +kernel⟩
theorem ok_events_of {f : Addr} {fd : FuncData} (F : FunD K "events_of" "events_of" (defArgs s_events_of) (defBody s_events_of) (defScope s_events_of) [] [] f fd) (T : Txt K mg) : FnOk P w K mg base CX0 1 f fd ["timetable", "word"] spEventsOf := by
  refine okD F sc_events_of (fun vs H Q E h => ?_) (fun cdv A outer s H vs Q E hr h => ?_)
  · obtain ⟨v, n, es, z, rfl, _⟩ := h
    rfl
  · obtain ⟨v, n, es, z, rfl, ⟨a, b, rfl, ha, us, hb, pr⟩, hl, k⟩ := h
    refine ⟨_, pss_one (ps_ret (pe_lc (own := [("place", 2), ("event", 3)]) (g := gTup K 2 (gCons (gName 2) (gCons (gName 3) gNil))) (tt := tTest (tOp rEq (tOp (rIxT K) (tVar 3) (tC (.int 0))) (tVar 1)))
      (te := tTupS (tCons (tVar 2) (tCons (tOp (rIxT K) (tVar 3) (tC (.int 1))) tNil))) rfl sc_events_of.nd
      (pi_enumT (by rfl) T.enumerate (pa_cons (pe_ix ix_tup (pv 0) pe_int (fun _ _ => rfl)) pa_nil)) (blkOk_by (own := [("place", 2), ("event", 3)]) (N := ["timetable", "word", "place", "event"]) (sc := defScope s_events_of) (by decide +kernel))
      (fun _ _ _ _ _ => pg_tup rfl (pgs_cons (pg_name (i := 2) sc_events_of.nd rfl (Or.inl rfl)) (pgs_cons (pg_name (i := 3) sc_events_of.nd rfl (Or.inl rfl)) pgs_nil)))
      (fun _ _ _ _ _ => pts_one (pt_cmpR op_eq (pe_ix ix_tup (pv 3) pe_int (fun _ _ => rfl)) (pv 1) (nomark _)))
      (fun _ _ _ _ _ => pe_tupS (pa_cons (pv 2) (pa_cons (pe_ix ix_tup (pv 3) pe_int (fun _ _ => rfl)) pa_nil))))), ?_⟩
    refine ⟨_, rfl, a, _, 1, _, rfl, rfl, SqT.of ha, rfl, b, us, rfl, SqT.of hb, lc_out walk_enumT PrAt (outE z es) (fun _ _ _ _ s h => h.same s) (by rw [paired_len pr]; omega) (fun H1 s => SqT.of (s _ _ hb)) ?_ ?_⟩
    · rintro i x D H1 H2 acc Ky Kn hi s1 hD hacc ⟨T1, x1, y1, rfl, hT, rfl, e1, e2⟩ hy hn
      cases e1
      obtain ⟨e, he, c, rfl, hc⟩ := paired_at pr e2
      have s2 : Same H1 (upd H1 T1 (.tup [.int (i : Nat), .ref c])) := same_new hT
      have hc2 := s2 _ _ (s1 _ _ hc)
      refine ⟨T1, _, rfl, SqT.of upd_same, rfl, _, _, rfl, _, _, rfl, rfl, rfl, ?_⟩
      refine ⟨_, rfl, c, _, 0, _, rfl, rfl, SqT.of hc2, evV_0 e, _, rfl, rfl, _, rfl, ite2 (fun q => ?_) (fun q => ?_)⟩
      · have q2 : evW e = z := V.str.inj (of_decide_eq_true q)
        refine ⟨_, rfl, _, rfl, c, _, 1, _, rfl, rfl, SqT.of hc2, evV_1 e, t2, fun p H4 hp s4 hv => ?_⟩
        refine hy _ H4 (i, evP e) (s2.trans s4) (by unfold outE; rw [he]; exact if_pos q2) ⟨p, rfl, hid_get hv (ne_of hv (s4 _ _ (s2 _ _ hacc)) (by intro z; cases z))⟩
      · refine hn _ s2 ?_
        unfold outE
        rw [he]
        exact if_neg fun z => q (decide_eq_true (by rw [z]))
    · intro D H1 ys hD s1 hl1 pr1
      rw [paired_len pr, outE_all] at pr1
      exact k D H1 s1 ⟨ys, hl1, pr1⟩
end
end K43

-- K43W2
set_option Elab.async false
set_option linter.all false
set_option maxRecDepth 100000
set_option maxHeartbeats 4000000
/-! looks, adds, as_tuples, the checks -/
namespace K43
open PySem PySem.Spec PyProof.Rows L2
/-! ### data to be laid in tuples -/
inductive Dt where
  | leaf (v : V)
  | seq (ds : List Dt)
def leafV (v : V) : Prop := (∃ i, v = .int i) ∨ ∃ z, v = .str z
def InD : Nat → Hp → V → Dt → Prop
  | 0, _, v, d => leafV v ∧ d = .leaf v
  | n + 1, H, v, d => (leafV v ∧ d = .leaf v) ∨ ∃ a xs ds, v = .ref a ∧ (H a = some (.lst xs) ∨ H a = some (.tup xs)) ∧ d = .seq ds ∧ xs.length ≤ 1000 ∧ Paired (InD n H) xs ds
def OuD : Nat → Hp → V → Dt → Prop
  | 0, _, v, d => leafV v ∧ d = .leaf v
  | n + 1, H, v, d => (leafV v ∧ d = .leaf v) ∨ ∃ a xs ds, v = .ref a ∧ H a = some (.tup xs) ∧ d = .seq ds ∧ Paired (OuD n H) xs ds
theorem InD.same {H H' : Hp} (s : Same H H') : ∀ (n : Nat) {v : V} {d : Dt}, InD n H v d → InD n H' v d
  | 0, _, _, h => h
  | n + 1, v, d, h => by
    rcases h with h | ⟨a, xs, ds, e, h1, h2, h3, h4⟩
    · exact .inl h
    · exact .inr ⟨a, xs, ds, e, h1.imp (s _ _) (s _ _), h2, h3, paired_mono (fun _ _ z => InD.same s n z) h4⟩
theorem OuD.same {H H' : Hp} (s : Same H H') : ∀ (n : Nat) {v : V} {d : Dt}, OuD n H v d → OuD n H' v d
  | 0, _, _, h => h
  | n + 1, v, d, h => by
    rcases h with h | ⟨a, xs, ds, e, h1, h2, h4⟩
    · exact .inl h
    · exact .inr ⟨a, xs, ds, e, s _ _ h1, h2, paired_mono (fun _ _ z => OuD.same s n z) h4⟩
/-- nothing of it stands at D -/
theorem OuD.hide {H : Hp} {D : Addr} {ac : List V} (hD : H D = some (.lst ac)) : ∀ (n : Nat) {v : V} {d : Dt}, OuD n H v d → OuD n (hid D H) v d
  | 0, _, _, h => h
  | n + 1, v, d, h => by
    rcases h with h | ⟨a, xs, ds, e, h1, h2, h4⟩
    · exact .inl h
    · exact .inr ⟨a, xs, ds, e, hid_get h1 (ne_of h1 hD (by intro z; cases z)), h2, paired_mono (fun _ _ z => OuD.hide hD n z) h4⟩
def leafOf : V → Dt := .leaf
def evD (e : Ev) : Dt := .seq ((evV e).map .leaf)
def tabD (n : Nat) (es : List Ev) : Dt := .seq [.leaf (.int n), .seq (es.map evD)]
def prD (p : Pr) : Dt := .seq [.leaf (.int p.1), .leaf (.int p.2)]
theorem leaf_all {H : Hp} : ∀ {xs : List V}, (∀ x ∈ xs, leafV x) → Paired (InD 0 H) xs (xs.map .leaf)
  | [], _ => .nil
  | x :: r, h => .cons ⟨h x List.mem_cons_self, rfl⟩ (leaf_all fun y hy => h y (List.mem_cons_of_mem _ hy))
theorem leaf_out {H : Hp} : ∀ {xs ys : List V}, Paired (OuD 0 H) xs (ys.map .leaf) → xs = ys
  | _, [], .nil => rfl
  | _, y :: r, .cons h t => by
    obtain ⟨_, e⟩ := (show leafV _ ∧ Dt.leaf y = Dt.leaf _ from h)
    cases e
    rw [leaf_out t]
theorem evV_leaf (e : Ev) : ∀ x ∈ evV e, leafV x := by
  cases e <;> (intro x hx; simp [evV] at hx; rcases hx with rfl | hx; exact .inr ⟨_, rfl⟩)
  · subst hx; exact .inl ⟨_, rfl⟩
  · subst hx; exact .inl ⟨_, rfl⟩
  · rcases hx with rfl | rfl <;> exact .inl ⟨_, rfl⟩
  · rcases hx with rfl | rfl <;> exact .inl ⟨_, rfl⟩
theorem ev_in {H : Hp} {v : V} {e : Ev} (h : EvAt H v e) : InD 1 H v (evD e) := by
  obtain ⟨a, rfl, ha⟩ := h
  exact .inr ⟨a, _, _, rfl, .inr ha, rfl, Nat.le_trans (evV_len e) (by decide), leaf_all (evV_leaf e)⟩
theorem ev_out {H : Hp} {v : V} {e : Ev} (h : OuD 1 H v (evD e)) : EvAt H v e := by
  rcases h with ⟨_, z⟩ | ⟨a, xs, ds, rfl, ha, z, pr⟩
  · cases z
  · cases z
    exact ⟨a, rfl, by rw [ha, leaf_out pr]⟩
theorem pr_in {H : Hp} {v : V} {p : Pr} (h : PrAt H v p) : InD 1 H v (prD p) := by
  obtain ⟨a, rfl, ha⟩ := h
  exact .inr ⟨a, _, _, rfl, .inr ha, rfl, t2, leaf_all (xs := prV p) (by intro x hx; simp at hx; rcases hx with rfl | rfl <;> exact .inl ⟨_, rfl⟩)⟩
theorem pr_out {H : Hp} {v : V} {p : Pr} (h : OuD 1 H v (prD p)) : PrAt H v p := by
  rcases h with ⟨_, z⟩ | ⟨a, xs, ds, rfl, ha, z, pr⟩
  · cases z
  · cases z
    exact ⟨a, rfl, by rw [ha, leaf_out (ys := prV p) pr]⟩
theorem paired_mapR {α β γ : Type} {R : α → β → Prop} {S : α → γ → Prop} (f : β → γ) (h : ∀ a b, R a b → S a (f b)) : ∀ {xs : List α} {ys : List β}, Paired R xs ys → Paired S xs (ys.map f)
  | _, _, .nil => .nil
  | _, _, .cons r t => .cons (h _ _ r) (paired_mapR f h t)
theorem paired_unmap {α β γ : Type} {R : α → β → Prop} {S : α → γ → Prop} (f : β → γ) (h : ∀ a b, S a (f b) → R a b) : ∀ {xs : List α} {ys : List β}, Paired S xs (ys.map f) → Paired R xs ys
  | _, [], .nil => .nil
  | _, _ :: _, .cons r t => .cons (h _ _ r) (paired_unmap f h t)
theorem tab_in {H : Hp} {v : V} {n : Nat} {es : List Ev} (h : TabAt H v n es) (hl : es.length ≤ 64) : InD 3 H v (tabD n es) := by
  obtain ⟨a, b, rfl, ha, us, hb, pr⟩ := h
  refine .inr ⟨a, _, _, rfl, .inr ha, rfl, t2, .cons (.inl ⟨.inl ⟨_, rfl⟩, rfl⟩) (.cons (.inr ⟨b, us, _, rfl, .inr hb, rfl, ?_, ?_⟩) .nil)⟩
  · rw [paired_len pr]; omega
  · exact paired_mapR (R := EvAt H) evD (fun _ _ z => ev_in z) pr
theorem tab_out {H : Hp} {v : V} {n : Nat} {es : List Ev} (h : OuD 3 H v (tabD n es)) : TabAt H v n es := by
  rcases h with ⟨_, z⟩ | ⟨a, xs, ds, rfl, ha, z, pr⟩
  · cases z
  · cases z
    cases pr with
    | cons r1 t1 =>
      cases t1 with
      | cons r2 t2 =>
        cases t2
        rcases r1 with ⟨_, e1⟩ | ⟨_, _, _, _, _, e1, _⟩
        · cases e1
          rcases r2 with ⟨_, e2⟩ | ⟨b, us, ds2, rfl, hb, e2, pr2⟩
          · cases e2
          · cases e2
            exact ⟨a, b, rfl, ha, us, hb, paired_unmap evD (fun _ _ => ev_out) pr2⟩
        · cases e1
theorem prl_in {H : Hp} {a : Addr} {ps : List Pr} (h : PrL H a ps) (hl : ps.length ≤ 64) : InD 2 H (.ref a) (.seq (ps.map prD)) := by
  obtain ⟨us, ha, pr⟩ := h
  exact .inr ⟨a, us, _, rfl, .inl ha, rfl, by rw [paired_len pr]; omega, paired_mapR (R := PrAt H) prD (fun _ _ z => pr_in z) pr⟩
theorem prt_out {H : Hp} {v : V} {ps : List Pr} (h : OuD 2 H v (.seq (ps.map prD))) : ∃ a, v = .ref a ∧ PrT H a ps := by
  rcases h with ⟨_, z⟩ | ⟨a, xs, ds, rfl, ha, z, pr⟩
  · cases z
  · cases z
    exact ⟨a, rfl, xs, ha, paired_unmap prD (fun _ _ => pr_out) pr⟩
/-! ### a list or a tuple walked -/
def iSeq (K : PySem.W.Frag) (tl : TE) : TI := fun σ H R => tl σ H fun x H1 => ∃ a, x = .ref a ∧ (((∃ xs, SqL K H1 a xs) ∧ R (Itl K a) H1) ∨ ((∃ xs, SqT K H1 a xs) ∧ R (Itt K a) H1))
theorem pi_seq {X : Cx} {tg l : Expr} {tl : TE} (hl : PE X l tl) : PI X tg l (iSeq X.K tl) := by
  refine ⟨fun pins s σ H R I h => thn (hl.run pins s σ H _ I h) fun v s1 ⟨x, H1, I1, r1, a, ex, q⟩ => ?_⟩
  subst ex
  cases r1
  have own : ∀ b ∈ [s1.heap.objs.size], FpOk X pins H1 b := fun b hb => by
    rw [List.mem_singleton.mp hb]
    exact I1.fpOk (Nat.le_refl _) (I1.hok.fresh (Nat.le_refl _))
  rcases q with ⟨⟨xs, hq⟩, q⟩ | ⟨⟨xs, hq⟩, q⟩
  · obtain ⟨its, rv, p, hz⟩ := I1.list hq
    exact wpAny_pyIter_list p.isList ⟨_, _, _, _, H1, rfl, I1.kept (t' := s1.toks) fun b o e => Heap.get?_push_of_some _ e, turn_list a _, ⟨_, Heap.get?_push_size _ rfl, rfl, rfl⟩, own, q⟩
  · obtain ⟨its, rv, p, hz⟩ := I1.tuple hq
    exact wpAny_pyIter_tuple (show s1.heap.IsTuple a its.toArray from p) ⟨_, _, _, _, H1, rfl, I1.kept (t' := s1.toks) fun b o e => Heap.get?_push_of_some _ e, turn_tuple a _, ⟨_, Heap.get?_push_size _ rfl, rfl, rfl⟩, own, q⟩
section
variable {P : Program} {w : World} {K : PySem.W.Frag} {mg : Str → Option Value} {base : Heap}
/-! ### as_tuples -/
def spAsT (n : Nat) : Sp := fun vs H Q _ => ∃ v d, vs = [v] ∧ InD n H v d ∧ ∀ v' H', Same H H' → OuD n H' v' d → Q v' H'
theorem sc_as_tuples : FnScope ["thing", "part"] ["thing"] (defScope s_as_tuples) := ⟨rfl, rfl, rfl, by decide +kernel, rfl, by decide +kernel, by decide +kernel⟩
theorem bind1 {x qual : Str} {params : Arguments} {body : List Stmt} {scope : Scope} {f : Addr} {fd : FuncData} (F : FunD K x qual params body scope [] [] f fd) {a : Str} (h : ∀ (kV doc pm : Value) (an : Option Addr) (cdv ct : Value) (u : Value), bindArgs (PySem.W.fnOf x qual params body scope .none kV doc pm an cdv ct) ⟨[u], []⟩ = pure [(a, u)]) : Binds K fd [a] [] :=
  F.bindsN fun kV doc pm an cdv ct us hl => match us, hl with | [u], _ => h kV doc pm an cdv ct u
theorem bind2 {x qual : Str} {params : Arguments} {body : List Stmt} {scope : Scope} {f : Addr} {fd : FuncData} (F : FunD K x qual params body scope [] [] f fd) {a b : Str} (h : ∀ (kV doc pm : Value) (an : Option Addr) (cdv ct : Value) (u v : Value), bindArgs (PySem.W.fnOf x qual params body scope .none kV doc pm an cdv ct) ⟨[u, v], []⟩ = pure [(a, u), (b, v)]) : Binds K fd [a, b] [] :=
  F.bindsN fun kV doc pm an cdv ct us hl => match us, hl with | [u, v], _ => h kV doc pm an cdv ct u v
theorem bind3 {x qual : Str} {params : Arguments} {body : List Stmt} {scope : Scope} {f : Addr} {fd : FuncData} (F : FunD K x qual params body scope [] [] f fd) {a b c : Str} (h : ∀ (kV doc pm : Value) (an : Option Addr) (cdv ct : Value) (u v z : Value), bindArgs (PySem.W.fnOf x qual params body scope .none kV doc pm an cdv ct) ⟨[u, v, z], []⟩ = pure [(a, u), (b, v), (c, z)]) : Binds K fd [a, b, c] [] :=
  F.bindsN fun kV doc pm an cdv ct us hl => match us, hl with | [u, v, z], _ => h kV doc pm an cdv ct u v z
theorem bind4 {x qual : Str} {params : Arguments} {body : List Stmt} {scope : Scope} {f : Addr} {fd : FuncData} (F : FunD K x qual params body scope [] [] f fd) {a b c d : Str} (h : ∀ (kV doc pm : Value) (an : Option Addr) (cdv ct : Value) (u v z y : Value), bindArgs (PySem.W.fnOf x qual params body scope .none kV doc pm an cdv ct) ⟨[u, v, z, y], []⟩ = pure [(a, u), (b, v), (c, z), (d, y)]) : Binds K fd [a, b, c, d] [] :=
  F.bindsN fun kV doc pm an cdv ct us hl => match us, hl with | [u, v, z, y], _ => h kV doc pm an cdv ct u v z y
theorem gok_mk {k : Nat} {x qual : Str} {params : Arguments} {body : List Stmt} {scope : Scope} {ps : List Str} {sp : Sp} {fd : FuncData} (F : FunD K x qual params body scope [] [] (He.ga K x) fd) (ok : FnOk P w K mg base CX0 k (He.ga K x) fd ps sp) (b : Binds K fd ps []) (m : mg x = some (.ref (He.ga K x))) : GOk P w K mg base k x ps sp :=
  ⟨⟨fd, ok, b⟩, F.kp, m⟩
abbrev isiT (K : PySem.W.Frag) : TT := tB (tCB (rIsiT K) (tCons (tVar 0) (tCons (tTupS (tCons (tC (.ty "list")) (tCons (tC (.ty "tuple")) tNil))) tNil)))
theorem pt_isi {N ps : List Str} {X : Cx} (T : Txt X.K X.mg) {e : Expr} {te : TE} {p1 p2 p3 p4 p5 : Pos} {kk : Nat} (he : PE X e te) (g1 : Gl X "isinstance" := by rfl) (g2 : Gl X "list" := by rfl) (g3 : Gl X "tuple" := by rfl)
    (hs : starEach [e, .Tuple [.Name "list" p3, .Name "tuple" p4] kk p5] X.env = (false, eval e X.env) :: starEach [.Tuple [.Name "list" p3, .Name "tuple" p4] kk p5] X.env := by rfl)
    (hv : ∀ whole, isTrue (.Call (.Name "isinstance" p1) [e, .Tuple [.Name "list" p3, .Name "tuple" p4] kk p5] [] p2) X.env whole = (do let v ← whole; standAt (Expr.pos (.Call (.Name "isinstance" p1) [e, .Tuple [.Name "list" p3, .Name "tuple" p4] kk p5] [] p2)); holding [v] (truthy v)) := by intro _; rfl) :
    PT X (.Call (.Name "isinstance" p1) [e, .Tuple [.Name "list" p3, .Name "tuple" p4] kk p5] [] p2) (tB (tCB (rIsiT X.K) (tCons te (tCons (tTupS (tCons (tC (.ty "list")) (tCons (tC (.ty "tuple")) tNil))) tNil)))) :=
  pt_val (pe_callB call_isiT g1 T.isinstance PyProof.Rows.boot_isinstance (pa_cons he (pa_cons (pe_tupS (pa_cons (pe_bltn g2 T.list PyProof.Rows.boot_list rfl) (pa_cons (pe_bltn g3 T.tuple PyProof.Rows.boot_tuple rfl) pa_nil))) pa_nil) hs) (he := hs)) hv
theorem ok_as_tuples {fd : FuncData} (F : FunD K "as_tuples" "as_tuples" (defArgs s_as_tuples) (defBody s_as_tuples) (defScope s_as_tuples) [] [] (He.ga K "as_tuples") fd) (T : Txt K mg) (m : mg "as_tuples" = some (.ref (He.ga K "as_tuples"))) :
    ∀ n : Nat, FnOk P w K mg base CX0 (n + 1) (He.ga K "as_tuples") fd ["thing"] (spAsT n) := by
  have no : ∀ v, leafV v → ∃ t, TyX K (fun _ => none) v (.type t) ∧ PySem.W.kitAny K (.type t) [.type "list", .type "tuple"] = some false := fun v hv => by
    rcases hv with ⟨i, rfl⟩ | ⟨z, rfl⟩
    · exact ⟨"int", .base (.int i), kitAny_cons (kit_ty (r := false) (by decide +kernel)) (fun _ => kitAny_cons (kit_ty (r := false) (by decide +kernel)) (fun _ => kitAny_nil) fun z => by cases z) fun z => by cases z⟩
    · exact ⟨"str", .base (.str z), kitAny_cons (kit_ty (r := false) (by decide +kernel)) (fun _ => kitAny_cons (kit_ty (r := false) (by decide +kernel)) (fun _ => kitAny_nil) fun z => by cases z) fun z => by cases z⟩
  have lift : ∀ (H : Hp) v t, TyX K (fun _ => none) v (.type t) → leafV v → TyX K H v (.type t) := fun H v t h hv => by
    rcases hv with ⟨i, rfl⟩ | ⟨z, rfl⟩
    · cases h with
      | base b => cases b; exact .base (.int i)
    · cases h with
      | base b => cases b; exact .base (.str z)
  intro n
  induction n with
  | zero =>
    refine okD F sc_as_tuples (fun vs H Q E h => ?_) (fun cdv A outer s H vs Q E hr h => ?_)
    · obtain ⟨v, d, rfl, _⟩ := h
      rfl
    · obtain ⟨v, d, rfl, hv, k⟩ := h
      obtain ⟨lv, rfl⟩ := (show leafV v ∧ d = .leaf v from hv)
      obtain ⟨t, ty, kt⟩ := no v lv
      refine ⟨_, pss_one (ps_ret (pe_ifExp (pt_isi (N := []) (ps := []) T (pv 0)) pe_never (pv 0))), ?_⟩
      refine ⟨_, rfl, t2, fun p H1 hp s1 hp1 => ?_⟩
      exact ⟨_, p, _, _, _, false, rfl, hp1, .cons (.ty _) (.cons (.ty _) .nil), lift H1 v t ty lv, kt, _, rfl, iteF ⟨_, rfl, k v H1 s1 ⟨lv, rfl⟩⟩⟩
  | succ n ih =>
    have G : GOk P w K mg base (n + 1) "as_tuples" ["thing"] (spAsT n) := gok_mk F ih (bind1 F fun _ _ _ _ _ _ _ => rfl) m
    refine okD F sc_as_tuples (fun vs H Q E h => ?_) (fun cdv A outer s H vs Q E hr h => ?_)
    · obtain ⟨v, d, rfl, _⟩ := h
      rfl
    · obtain ⟨v, d, rfl, hv, k⟩ := h
      refine ⟨_, pss_one (ps_ret (pe_ifExp (pt_isi (N := []) (ps := []) T (pv 0))
        (pe_callTy call_tupleS (by rfl) T.tuple PyProof.Rows.boot_tuple (pa_cons (pe_lc (own := [("part", 1)]) (g := gName 1) (tt := tYes) (te := tCall (spAsT n) [] E0 (tCons (tVar 1) tNil)) rfl sc_as_tuples.nd (pi_seq (pv 0))
          (blkOk_by (own := [("part", 1)]) (N := ["thing", "part"]) (sc := defScope s_as_tuples) (by decide +kernel)) (fun _ _ _ _ _ => pg_name (i := 1) sc_as_tuples.nd rfl (Or.inl rfl)) (fun _ _ _ _ _ => pts_nil)
          (fun _ _ _ _ _ => pe_g G hr (pa_cons (pv 1) pa_nil))) pa_nil)) (pv 0))), ?_⟩
      refine ⟨_, rfl, t2, fun p H1 hp s1 hp1 => ?_⟩
      rcases hv with ⟨lv, rfl⟩ | ⟨a, xs, ds, rfl, ha, rfl, hl, pr⟩
      · obtain ⟨t, ty, kt⟩ := no v lv
        exact ⟨_, p, _, _, _, false, rfl, hp1, .cons (.ty _) (.cons (.ty _) .nil), lift H1 v t ty lv, kt, _, rfl, iteF ⟨_, rfl, k v H1 s1 (.inl ⟨lv, rfl⟩)⟩⟩
      · have fin : ∀ D H2 ys, H1 D = none → Same H1 H2 → H2 D = some (.lst ys) → Paired (OuD n H2) ys ((List.range xs.length).filterMap fun i => ds[i]?) → rTupleS K [V.ref D] H2 Q := fun D H2 ys hD s2 hy pr2 => by
          have e : (List.range xs.length).filterMap (fun i => ds[i]?) = ds := by
            rw [paired_len pr]
            refine List.ext_getElem? fun i => ?_
            have : ∀ (l : List Dt), (List.range l.length).filterMap (fun i => l[i]?) = l := fun l => by
              induction l with
              | nil => rfl
              | cons x r ih => rw [List.length_cons, List.range_succ_eq_map, List.filterMap_cons, List.filterMap_map]; simpa [Function.comp_def] using ih
            rw [this]
          rw [e] at pr2
          exact ⟨D, ys, rfl, .inl ⟨SqL.of hy, fun l H3 hl3 s3 h3 => k _ H3 ((s1.trans s2).trans s3) (.inr ⟨l, ys, ds, rfl, h3, rfl, paired_mono (fun _ _ z => z.same s3) pr2⟩)⟩⟩
        have turn : ∀ {Y : Nat → Hp → V → Hp → Prop}, (∀ i H x H', Y i H x H' → H' = H ∧ xs[i]? = some x) → ∀ i x D H2 H2' acc (Ky : V → Hp → Prop) (Kn : Hp → Prop), i < xs.length → Same H1 H2 → H1 D = none → H2 D = some (.lst acc) → Y i H2 x H2' →
            (∀ y H4 a, Same H2 H4 → ds[i]? = some a → OuD n (hid D H4) y a → Ky y H4) → (∀ H3, Same H2 H3 → ds[i]? = none → Kn H3) →
            gName 1 x (wipe (start ["thing", "part"] [V.ref a]) [1]) H2' fun σ2 H2 => wipe σ2 [1] = wipe (start ["thing", "part"] [V.ref a]) [1] ∧ tYes σ2 H2 fun b H3 => if b = true then tCall (spAsT n) [] E0 (tCons (tVar 1) tNil) σ2 H3 Ky else Kn H3 := by
          intro Y hY i x D H2 H2' acc Ky Kn hi s2 hD hacc y hy hn
          obtain ⟨rfl, ex⟩ := hY _ _ _ _ y
          obtain ⟨d, ed, hd⟩ := paired_at pr ex
          exact ⟨rfl, iteT (B := Kn H2') ⟨_, rfl, x, d, rfl, InD.same (s1.trans s2) n hd, fun v' H4 s4 o => hy v' H4 d s4 ed (OuD.hide (s4 _ _ hacc) n o)⟩⟩
        rcases ha with ha | ha
        · have ha1 := s1 _ _ ha
          refine ⟨_, p, _, _, _, true, rfl, hp1, .cons (.ty _) (.cons (.ty _) .nil), .base (.lst ha1), kitAny_cons (kit_ty (r := true) (by decide +kernel)) (fun z => by cases z) fun _ => rfl, _, rfl, iteT ?_⟩
          refine ⟨_, rfl, a, rfl, .inl ⟨⟨xs, SqL.of ha1⟩, ?_⟩⟩
          exact lc_out (Q := fun D H' => rTupleS K [.ref D] H' Q) walk_list (OuD n) (fun i => ds[i]?) (fun _ _ _ _ s h => OuD.same s n h) (by omega) (fun H2 s => SqL.of (s _ _ ha1)) (turn fun _ _ _ _ y => y) fun D H2 ys hD s2 hy pr2 => fin D H2 ys hD s2 hy pr2
        · have ha1 := s1 _ _ ha
          refine ⟨_, p, _, _, _, true, rfl, hp1, .cons (.ty _) (.cons (.ty _) .nil), .base (.tup ha1), kitAny_cons (kit_ty (r := false) (by decide +kernel)) (fun _ => kitAny_cons (kit_ty (r := true) (by decide +kernel)) (fun z => by cases z) fun _ => rfl) (fun z => by cases z), _, rfl, iteT ?_⟩
          refine ⟨_, rfl, a, rfl, .inr ⟨⟨xs, SqT.of ha1⟩, ?_⟩⟩
          exact lc_out (Q := fun D H' => rTupleS K [.ref D] H' Q) walk_tup (OuD n) (fun i => ds[i]?) (fun _ _ _ _ s h => OuD.same s n h) (by omega) (fun H2 s => SqT.of (s _ _ ha1)) (turn fun _ _ _ _ y => y) fun D H2 ys hD s2 hy pr2 => fin D H2 ys hD s2 hy pr2
end
end K43

-- K43W3
set_option Elab.async false
set_option linter.all false
set_option maxRecDepth 100000
set_option maxHeartbeats 4000000
/-! looks, adds, the checks -/
namespace K43
open PySem PySem.Spec PyProof.Rows L2
section
variable {P : Program} {w : World} {K : PySem.W.Frag} {mg : Str → Option Value} {base : Heap}
def spLooks : Sp := fun vs H Q _ => ∃ v n es, vs = [v] ∧ TabAt H v n es ∧ es.length ≤ 64 ∧ ∀ a H', Same H H' → PrL H' a (looksF es) → Q (.ref a) H'
def spAdds : Sp := fun vs H Q _ => ∃ v n es, vs = [v] ∧ TabAt H v n es ∧ es.length ≤ 64 ∧ ∀ a H', Same H H' → PrL H' a (addsF es) → Q (.ref a) H'
theorem sc_looks : FnScope ["timetable"] ["timetable"] (defScope s_looks) := ⟨rfl, rfl, rfl, by decide +kernel, rfl, by decide +kernel, by decide +kernel⟩
theorem ok_looks {f : Addr} {fd : FuncData} (F : FunD K "looks" "looks" (defArgs s_looks) (defBody s_looks) (defScope s_looks) [] [] f fd) (T : Txt K mg) (G : GOk P w K mg base 1 "events_of" ["timetable", "word"] spEventsOf) :
    FnOk P w K mg base CX0 2 f fd ["timetable"] spLooks := by
  refine okD F sc_looks (fun vs H Q E h => ?_) (fun cdv A outer s H vs Q E hr h => ?_)
  · obtain ⟨v, n, es, rfl, _⟩ := h
    rfl
  · obtain ⟨v, n, es, rfl, ht, hl, k⟩ := h
    refine ⟨_, pss_one (ps_ret (pe_g G hr (pa_cons (pv 0) (pa_cons (pe_gs T.LOOK) pa_nil)))), ?_⟩
    exact ⟨_, rfl, v, n, es, _, rfl, ht, hl, fun a H' s1 h1 => k a H' s1 (by rw [selK_look] at h1; exact h1)⟩
theorem sc_adds : FnScope ["timetable"] ["timetable"] (defScope s_adds) := ⟨rfl, rfl, rfl, by decide +kernel, rfl, by decide +kernel, by decide +kernel⟩
theorem ok_adds {f : Addr} {fd : FuncData} (F : FunD K "adds" "adds" (defArgs s_adds) (defBody s_adds) (defScope s_adds) [] [] f fd) (T : Txt K mg) (G : GOk P w K mg base 1 "events_of" ["timetable", "word"] spEventsOf) :
    FnOk P w K mg base CX0 2 f fd ["timetable"] spAdds := by
  refine okD F sc_adds (fun vs H Q E h => ?_) (fun cdv A outer s H vs Q E hr h => ?_)
  · obtain ⟨v, n, es, rfl, _⟩ := h
    rfl
  · obtain ⟨v, n, es, rfl, ht, hl, k⟩ := h
    refine ⟨_, pss_one (ps_ret (pe_g G hr (pa_cons (pv 0) (pa_cons (pe_gs T.ADD) pa_nil)))), ?_⟩
    exact ⟨_, rfl, v, n, es, _, rfl, ht, hl, fun a H' s1 h1 => k a H' s1 (by rw [selK_add] at h1; exact h1)⟩
/-! ### checks -/
def spCheckLook : Sp := fun vs H Q _ => ∃ v n es, ∃ i : Nat, vs = [v, .int i] ∧ TabAt H v n es ∧ es.length ≤ 64 ∧ i < (looksF es).length ∧ ∀ H', Same H H' → Q .non H'
theorem sc_check_look : FnScope ["timetable", "number"] ["timetable", "number"] (defScope s_check_look) := ⟨rfl, rfl, rfl, by decide +kernel, rfl, by decide +kernel, by decide +kernel⟩
theorem ok_check_look {f : Addr} {fd : FuncData} (F : FunD K "check_look" "check_look" (defArgs s_check_look) (defBody s_check_look) (defScope s_check_look) [] [] f fd) (T : Txt K mg) (G : GOk P w K mg base 2 "looks" ["timetable"] spLooks) :
    FnOk P w K mg base CX0 3 f fd ["timetable", "number"] spCheckLook := by
  refine okD F sc_check_look (fun vs H Q E h => ?_) (fun cdv A outer s H vs Q E hr h => ?_)
  · obtain ⟨v, n, es, i, rfl, _⟩ := h
    rfl
  · obtain ⟨v, n, es, i, rfl, ht, hl, hi, k⟩ := h
    refine ⟨_, pss_one (ps_if (pt_not (pt_chain op_le op_lt pe_int (pv 1) (pe_callB call_len_seq (by rfl) T.len PySem.boot_len (pa_cons (pe_g G hr (pa_cons (pv 0) pa_nil)) pa_nil)))) pss_never pss_nil), ?_⟩
    refine ⟨_, rfl, _, _, rfl, rfl, _, rfl, ?_⟩
    rw [if_pos (decide_eq_true (by omega))]
    refine ⟨_, rfl, v, n, es, rfl, ht, hl, fun a H' s1 ⟨us, h1, pr⟩ => ⟨a, us, rfl, .inl (SqL.of h1), _, _, rfl, rfl, _, rfl, ?_⟩⟩
    rw [paired_len pr, decide_eq_true (by omega)]
    exact iteF (k H' s1)
def spCheckPeople : Sp := fun vs H Q _ => ∃ v n es b, ∃ ns : List Nat, vs = [v, .ref b] ∧ TabAt H v n es ∧ NL H b ns ∧ (∀ p ∈ ns, p < n) ∧ ∀ H', Same H H' → Q .non H'
theorem sc_check_people : FnScope ["timetable", "people", "person"] ["timetable", "people"] (defScope s_check_people) := ⟨rfl, rfl, rfl, by decide +kernel, rfl, by decide +kernel, by decide +kernel⟩
theorem ok_check_people {f : Addr} {fd : FuncData} (F : FunD K "check_people" "check_people" (defArgs s_check_people) (defBody s_check_people) (defScope s_check_people) [] [] f fd) (T : Txt K mg) :
    FnOk P w K mg base CX0 1 f fd ["timetable", "people"] spCheckPeople := by
  refine okD F sc_check_people (fun vs H Q E h => ?_) (fun cdv A outer s H vs Q E hr h => ?_)
  · obtain ⟨v, n, es, b, ns, rfl, _⟩ := h
    rfl
  · obtain ⟨v, n, es, b, ns, rfl, ⟨a, c, rfl, ha, he⟩, hb, hn, k⟩ := h
    refine ⟨_, pss_one (ps_for PassesOwn.never rfl (pi_list (pv 1)) (pg_name (i := 2) sc_check_people.nd rfl (Or.inl rfl))
      (pss_one (ps_if (pt_not (pt_chain op_le op_lt pe_int (pv 2) (pe_ix ix_tup (pv 0) pe_int (fun _ _ => rfl)))) pss_never pss_nil))), ?_⟩
    refine ⟨_, rfl, b, rfl, ⟨_, SqL.of hb⟩, for_it walk_list (fun i σ H' => ∃ o, σ = [some (.ref a), some (.ref b), o] ∧ Same H H') ⟨none, rfl, Same.refl H⟩ (fun i σ H' _ ⟨_, _, s1⟩ => SqL.of (s1 _ _ hb)) ?_ ?_⟩
    · rintro i x σ H1 H2 hi ⟨o, rfl, s1⟩ ⟨rfl, hx⟩
      rw [List.getElem?_map] at hx
      cases hq : ns[i]? with
      | none => rw [hq] at hx; cases hx
      | some p =>
        rw [hq] at hx
        cases hx
        have hp := hn p (List.mem_of_getElem? hq)
        refine ⟨_, rfl, _, _, rfl, rfl, _, rfl, ?_⟩
        rw [if_pos (decide_eq_true (by omega))]
        refine ⟨_, rfl, a, _, 0, _, rfl, rfl, SqT.of (s1 _ _ ha), rfl, _, _, rfl, rfl, _, rfl, ?_⟩
        rw [decide_eq_true (show ((p : Int) < n) by omega)]
        exact iteF ⟨_, rfl, s1⟩
    · rintro σ H1 ⟨o, rfl, s1⟩
      exact k H1 s1
def spCheckWishes : Sp := fun vs H Q _ => ∃ v n es b, ∃ ps : List Pr, vs = [v, .ref b] ∧ TabAt H v n es ∧ es.length ≤ 64 ∧ PrT H b ps ∧ (∀ p ∈ ps, p.1 < (looksF es).length ∧ p.2 < n) ∧ ∀ H', Same H H' → Q .non H'
theorem sc_check_wishes : FnScope ["timetable", "wishes", "look", "person"] ["timetable", "wishes"] (defScope s_check_wishes) := ⟨rfl, rfl, rfl, by decide +kernel, rfl, by decide +kernel, by decide +kernel⟩
theorem ok_check_wishes {f : Addr} {fd : FuncData} (F : FunD K "check_wishes" "check_wishes" (defArgs s_check_wishes) (defBody s_check_wishes) (defScope s_check_wishes) [] [] f fd) (T : Txt K mg)
    (GL : GOk P w K mg base 3 "check_look" ["timetable", "number"] spCheckLook) (GP : GOk P w K mg base 1 "check_people" ["timetable", "people"] spCheckPeople) : FnOk P w K mg base CX0 4 f fd ["timetable", "wishes"] spCheckWishes := by
  refine okD F sc_check_wishes (fun vs H Q E h => ?_) (fun cdv A outer s H vs Q E hr h => ?_)
  · obtain ⟨v, n, es, b, ps, rfl, _⟩ := h
    rfl
  · obtain ⟨v, n, es, b, ps, rfl, ht, hl, ⟨us, hb, pr⟩, hp, k⟩ := h
    refine ⟨_, pss_one (ps_for PassesOwn.never rfl (pi_tup (pv 1)) (pg_tup rfl (pgs_cons (pg_name (i := 2) sc_check_wishes.nd rfl (Or.inl rfl)) (pgs_cons (pg_name (i := 3) sc_check_wishes.nd rfl (Or.inl rfl)) pgs_nil)))
      (pss_cons (ps_expr (pe_g GL hr (pa_cons (pv 0) (pa_cons (pv 2) pa_nil)))) (pss_one (ps_expr (pe_g GP (hr.mono (by decide)) (pa_cons (pv 0) (pa_cons (pe_lstS (pa_cons (pv 3) pa_nil)) pa_nil))))))), ?_⟩
    refine ⟨_, rfl, b, rfl, ⟨_, SqT.of hb⟩, for_it walk_tup (fun i σ H' => ∃ o1 o2, σ = [some v, some (.ref b), o1, o2] ∧ Same H H') ⟨none, none, rfl, Same.refl H⟩ (fun i σ H' _ ⟨_, _, _, s1⟩ => SqT.of (s1 _ _ hb)) ?_ ?_⟩
    · rintro i x σ H1 H2 hi ⟨o1, o2, rfl, s1⟩ ⟨rfl, hx⟩
      obtain ⟨p, hq, c, rfl, hc⟩ := paired_at pr hx
      have hpp := hp p (List.mem_of_getElem? hq)
      refine ⟨c, _, rfl, SqT.of (s1 _ _ hc), rfl, _, _, rfl, _, _, rfl, rfl, ?_⟩
      refine ⟨_, rfl, _, rfl, v, n, es, p.1, rfl, ht.same s1, hl, hpp.1, fun H3 s3 => ?_⟩
      refine ⟨_, rfl, _, rfl, t1, fun d H4 hd s4 h4 => ?_⟩
      have s14 := (s1.trans s3).trans s4
      exact ⟨v, n, es, d, [p.2], rfl, ht.same s14, h4, by simp; exact hpp.2, fun H5 s5 => ⟨_, _, rfl, s14.trans s5⟩⟩
    · rintro σ H1 ⟨o1, o2, rfl, s1⟩
      exact k H1 s1
/-! ### what as_tuples is called with -/
def spAsTab : Sp := fun vs H Q _ => ∃ v n es, vs = [v] ∧ TabAt H v n es ∧ es.length ≤ 64 ∧ ∀ v' H', Same H H' → TabAt H' v' n es → Q v' H'
def spAsWish : Sp := fun vs H Q _ => ∃ a ps, vs = [.ref a] ∧ PrL H a ps ∧ ps.length ≤ 64 ∧ ∀ b H', Same H H' → PrT H' b ps → Q (.ref b) H'
theorem asTab (G : GOk P w K mg base 4 "as_tuples" ["thing"] (spAsT 3)) : GOk P w K mg base 4 "as_tuples" ["thing"] spAsTab :=
  G.imp fun vs H Q E ⟨v, n, es, e, h, hl, k⟩ => ⟨v, tabD n es, e, tab_in h hl, fun v' H' s o => k v' H' s (tab_out o)⟩
theorem asWish (G : GOk P w K mg base 3 "as_tuples" ["thing"] (spAsT 2)) : GOk P w K mg base 3 "as_tuples" ["thing"] spAsWish :=
  G.imp fun vs H Q E ⟨a, ps, e, h, hl, k⟩ => ⟨.ref a, _, e, prl_in h hl, fun v' H' s o => by
    obtain ⟨b, rfl, hb⟩ := prt_out o
    exact k b H' s hb⟩
end
end K43

-- K43W4
set_option Elab.async false
set_option linter.all false
set_option maxRecDepth 100000
set_option maxHeartbeats 4000000
/-! choices -/
namespace K43
open PySem PySem.Spec PyProof.Rows L2
def chF {α : Type} : List α → Nat → List (List α)
  | _, 0 => [[]]
  | [], _ + 1 => []
  | x :: r, k + 1 => (chF r k).map (x :: ·) ++ chF r (k + 1)
theorem chF_zero {α : Type} (xs : List α) : chF xs 0 = [[]] := by cases xs <;> rfl
theorem chF_len {α : Type} : ∀ (xs : List α) (k : Nat), (chF xs k).length ≤ 2 ^ xs.length
  | xs, 0 => by
    rw [chF_zero]
    exact Nat.one_le_two_pow
  | [], k + 1 => by simp [chF]
  | x :: r, k + 1 => by
    have h1 := chF_len r k
    have h2 := chF_len r (k + 1)
    simp only [chF, List.length_append, List.length_map, List.length_cons, Nat.pow_succ]
    omega
theorem chF_sub {α : Type} : ∀ (xs : List α) (k : Nat), ∀ l ∈ chF xs k, ∀ x ∈ l, x ∈ xs
  | xs, 0, l, hl, x, hx => by
    rw [chF_zero, List.mem_singleton] at hl
    rw [hl] at hx
    cases hx
  | [], k + 1, l, hl, x, hx => by cases hl
  | y :: r, k + 1, l, hl, x, hx => by
    simp only [chF, List.mem_append, List.mem_map] at hl
    rcases hl with ⟨m, hm, rfl⟩ | hl
    · rcases List.mem_cons.mp hx with rfl | hx
      · exact List.mem_cons_self
      · exact List.mem_cons_of_mem _ (chF_sub r k m hm x hx)
    · exact List.mem_cons_of_mem _ (chF_sub r (k + 1) l hl x hx)
theorem chF_size {α : Type} : ∀ (xs : List α) (k : Nat), ∀ l ∈ chF xs k, l.length ≤ xs.length
  | xs, 0, l, hl => by
    rw [chF_zero, List.mem_singleton] at hl
    rw [hl]
    exact Nat.zero_le _
  | [], k + 1, l, hl => by cases hl
  | y :: r, k + 1, l, hl => by
    simp only [chF, List.mem_append, List.mem_map] at hl
    rcases hl with ⟨m, hm, rfl⟩ | hl
    · exact Nat.succ_le_succ (chF_size r k m hm)
    · exact Nat.le_succ_of_le (chF_size r (k + 1) l hl)
theorem map_at {α β : Type} (f : α → β) (l : List α) : (List.range l.length).filterMap (fun j => (l[j]?).map f) = l.map f := by
  induction l with
  | nil => rfl
  | cons x r ih =>
    rw [List.length_cons, List.range_succ_eq_map, List.filterMap_cons, List.filterMap_map]
    simpa [Function.comp_def] using ih
theorem chF_all {α : Type} : ∀ xs : List α, xs ∈ chF xs xs.length
  | [] => by simp [chF]
  | x :: r => by
    simp only [List.length_cons, chF, List.mem_append, List.mem_map]
    exact .inl ⟨r, chF_all r, rfl⟩
/-- place by place -/
def chP {α : Type} (xs : List α) (k i : Nat) : List (List α) := match xs[i]? with
  | some x => (chF (xs.drop (i + 1)) k).map (x :: ·)
  | none => []
theorem chF_places {α : Type} (k : Nat) : ∀ xs : List α, (List.range xs.length).flatMap (chP xs k) = chF xs (k + 1)
  | [] => rfl
  | x :: r => by
    rw [List.length_cons, List.range_succ_eq_map, List.flatMap_cons, List.flatMap_map]
    have e : (fun i => chP (x :: r) k (i + 1)) = chP r k := by
      funext i
      simp [chP]
    rw [show (fun a => chP (x :: r) k a.succ) = chP r k from e, chF_places k r]
    simp [chP, chF]
theorem chP_len {α : Type} (xs : List α) (k : Nat) : ∀ n, n ≤ xs.length → ((List.range n).flatMap (chP xs k)).length ≤ 2 ^ xs.length := fun n hn => by
  have h1 : ((List.range xs.length).flatMap (chP xs k)).length ≤ 2 ^ xs.length := by
    rw [chF_places]
    exact chF_len xs (k + 1)
  refine Nat.le_trans ?_ h1
  have mono : ∀ m, ((List.range n).flatMap (chP xs k)).length ≤ ((List.range (n + m)).flatMap (chP xs k)).length := fun m => by
    induction m with
    | zero => exact Nat.le_refl _
    | succ m ih =>
      rw [Nat.add_succ, List.range_succ, List.flatMap_append, List.length_append]
      omega
  have e := mono (xs.length - n)
  rwa [Nat.add_sub_of_le hn] at e
/-- a tuple of these values -/
def TupIs (H : Hp) (v : V) (l : List V) : Prop := ∃ p, v = .ref p ∧ H p = some (.tup l)
theorem TupIs.same {H H' : Hp} (s : Same H H') {v : V} {l : List V} (h : TupIs H v l) : TupIs H' v l := let ⟨p, e, q⟩ := h; ⟨p, e, s _ _ q⟩
theorem TupIs.hide {H : Hp} {D : Addr} {ac : List V} (hD : H D = some (.lst ac)) {v : V} {l : List V} (h : TupIs H v l) : TupIs (hid D H) v l := let ⟨p, e, q⟩ := h; ⟨p, e, hid_get q (ne_of q hD (by intro z; cases z))⟩
theorem TupIs.upd {H : Hp} {D : Addr} {ac : List V} {o : HO} (hD : H D = some (.lst ac)) {v : V} {l : List V} (h : TupIs H v l) : TupIs (upd H D o) v l := let ⟨p, e, q⟩ := h; ⟨p, e, by rw [upd_ne (ne_of q hD (by intro z; cases z))]; exact q⟩
theorem cutV_from (xs : List V) (k : Nat) (h : k ≤ xs.length) : cutV xs (some (k : Int)) none = xs.drop k := by
  unfold cutV
  rw [HT.sIx_nat, HT.sIx_none, Nat.min_eq_left h]
  exact List.take_of_length_le (by rw [List.length_drop]; exact Nat.le_refl _)
section
variable {P : Program} {w : World} {K : PySem.W.Frag} {mg : Str → Option Value} {base : Heap}
def spChoices (k : Nat) : Sp := fun vs H Q _ => ∃ a, ∃ xs : List V, vs = [.ref a, .int k] ∧ H a = some (.lst xs) ∧ xs.length ≤ 6 ∧ ∀ b H' rs, Same H H' → H' b = some (.lst rs) → Paired (TupIs H') rs (chF xs k) → Q (.ref b) H'
theorem sc_choices : FnScope ["some", "size", "found", "place", "thing", "rest"] ["some", "size"] (defScope s_choices) := ⟨rfl, rfl, rfl, by decide +kernel, rfl, by decide +kernel, by decide +kernel⟩
/-- [x] + t -/
def rOne (K : PySem.W.Frag) : R2 := fun x y H Q => ∃ a b v ys, x = .ref a ∧ y = .ref b ∧ H a = some (.tup [v]) ∧ H b = some (.tup ys) ∧ ys.length ≤ 1000 ∧ ∀ p H', Same H H' → H' p = some (.tup (v :: ys)) → Q (.ref p) H'
theorem op_one {X : Cx} : OpR X (binaryOp .Add) (rOne X.K) := OpR.imp op_catT fun x y H Q ⟨a, b, v, ys, e1, e2, ha, hb, hl, q⟩ =>
  ⟨a, b, [v], ys, e1, e2, SqT.of ha, SqT.of hb, List.cons_ne_nil _ _, by rw [sizeLine_eq]; simp; omega, fun z => q a H (Same.refl H) (by rw [z]; exact ha), fun _ p hp => q p _ (same_new hp) upd_same⟩
theorem ok_choices {fd : FuncData} (F : FunD K "choices" "choices" (defArgs s_choices) (defBody s_choices) (defScope s_choices) [] [] (He.ga K "choices") fd) (T : Txt K mg) (m : mg "choices" = some (.ref (He.ga K "choices"))) :
    ∀ n : Nat, FnOk P w K mg base CX0 (n + 1) (He.ga K "choices") fd ["some", "size"] (spChoices n) := by
  intro n
  induction n with
  | zero =>
    refine okD F sc_choices (fun vs H Q E h => ?_) (fun cdv A outer s H vs Q E hr h => ?_)
    · obtain ⟨a, xs, rfl, _⟩ := h
      rfl
    · obtain ⟨a, xs, rfl, ha, hl, k⟩ := h
      refine ⟨_, pss_cons (ps_if (pt_cmpR op_eq (pv 1) pe_int (nomark _)) (pss_one (ps_ret (pe_lstS (pa_cons (pe_tupS pa_nil) pa_nil)))) pss_nil) pss_never, ?_⟩
      refine ⟨_, rfl, rfl, _, rfl, itP (decide_eq_true (by rfl)) ?_⟩
      refine ⟨t0, fun p H1 hp s1 h1 => ⟨t1, fun q H2 hq s2 h2 => ?_⟩⟩
      refine k q H2 _ (s1.trans s2) h2 ?_
      rw [chF_zero]
      exact .cons ⟨p, rfl, s2 _ _ h1⟩ .nil
  | succ n ih =>
    have G : GOk P w K mg base (n + 1) "choices" ["some", "size"] (spChoices n) := gok_mk F ih (bind2 F fun _ _ _ _ _ _ _ _ => rfl) m
    refine okD F sc_choices (fun vs H Q E h => ?_) (fun cdv A outer s H vs Q E hr h => ?_)
    · obtain ⟨a, xs, rfl, _⟩ := h
      rfl
    · obtain ⟨a, xs, rfl, ha, hl, k⟩ := h
      refine ⟨_, pss_cons (ps_if (pt_cmpR op_eq (pv 1) pe_int (nomark _)) pss_never pss_nil)
        (pss_cons (ps_set (i := 2) sc_choices.nd rfl (Or.inl rfl) (pe_lstS pa_nil))
        (pss_cons (ps_for PassesOwn.never rfl (pi_enum (by rfl) T.enumerate (pa_cons (pv 0) pa_nil)) (pg_tup rfl (pgs_cons (pg_name (i := 3) sc_choices.nd rfl (Or.inl rfl)) (pgs_cons (pg_name (i := 4) sc_choices.nd rfl (Or.inr rfl)) pgs_nil)))
          (pss_one (ps_expr (pe_bm PySem.F.plainAttrs_list PySem.F.slot_list_extend PySem.F.type_list_extend mt_extend (pv 2)
            (pa_cons (pe_lc (own := [("rest", 5)]) (g := gName 5) (tt := tYes) (te := tOp (rOne K) (tTupS (tCons (tVar 4) tNil)) (tVar 5)) rfl sc_choices.nd
              (pi_list (pe_g G hr (pa_cons (pe_slice sl_listS (pv 0) (po_some (pe_op op_add (pv 3) pe_int)) po_none) (pa_cons (pe_op op_sub (pv 1) pe_int) pa_nil))))
              (blkOk_by (own := [("rest", 5)]) (N := ["some", "size", "found", "place", "thing", "rest"]) (sc := defScope s_choices) (by decide +kernel)) (fun _ _ _ _ _ => pg_name (i := 5) sc_choices.nd rfl (Or.inl rfl)) (fun _ _ _ _ _ => pts_nil)
              (fun _ _ _ _ _ => pe_op op_one (pe_tupS (pa_cons (pv 4) pa_nil)) (pv 5))) pa_nil)))))
        (pss_one (ps_ret (pv 2))))), ?_⟩
      refine ⟨_, rfl, rfl, _, rfl, itN (decF fun z => by have := V.int.inj z; omega) ?_⟩
      refine ⟨t0, fun l H1 hl1 s1 h1 => ?_⟩
      have ha1 := s1 _ _ ha
      refine ⟨_, rfl, a, xs, rfl, SqL.of ha1, for_it walk_enum (fun i σ H' => ∃ o3 o4 acc, σ = [some (.ref a), some (.int ((n + 1 : Nat) : Int)), some (.ref l), o3, o4, none] ∧ Same H H' ∧ H' l = some (.lst acc) ∧ Paired (TupIs H') acc ((List.range i).flatMap (chP xs n)))
        ⟨none, none, [], rfl, s1, h1, .nil⟩ (fun i σ H' _ ⟨_, _, _, _, s2, _⟩ => SqL.of (s2 _ _ ha)) ?_ ?_⟩
      · rintro i x σ H2 H3 hi ⟨o3, o4, acc, rfl, s2, hacc, pr⟩ ⟨T1, x1, y1, rfl, hT, rfl, e1, e2⟩
        cases e1
        have s3 : Same H2 (upd H2 T1 (.tup [.int (i : Nat), y1])) := same_new hT
        have ha3 := s3 _ _ (s2 _ _ ha)
        refine ⟨T1, _, rfl, SqT.of upd_same, rfl, _, _, rfl, _, _, rfl, rfl, ?_⟩
        refine ⟨_, rfl, .inl ⟨rfl, _, SqL.of (s3 _ _ hacc)⟩, ?_⟩
        refine ⟨_, rfl, _, rfl, _, _, rfl, rfl, _, rfl, a, xs, rfl, SqL.of ha3, fun b H4 hb s4 h4 => ?_⟩
        refine ⟨_, rfl, _, _, rfl, rfl, b, _, ?_, h4, ?_, fun c H5 rs s5 h5 pr5 => ?_⟩
        · have e : ((n + 1 : Nat) : Int) - 1 = (n : Int) := by omega
          show [V.ref b, V.int (((n + 1 : Nat) : Int) - 1)] = [V.ref b, V.int n]
          rw [e]
        · exact Nat.le_trans (cutV_length _ _ _) hl
        · have ec : cutV xs (some ((i : Nat) + 1 : Int)) none = xs.drop (i + 1) := cutV_from xs (i + 1) hi
          rw [ec] at pr5
          refine ⟨c, rfl, ⟨_, SqL.of h5⟩, lc_out walk_list TupIs (fun j => ((chF (xs.drop (i + 1)) n)[j]?).map (y1 :: ·)) (fun _ _ _ _ s h => h.same s) ?_ (fun H6 s6 => SqL.of (s6 _ _ h5)) ?_ ?_⟩
          · rw [paired_len pr5]
            have := chF_len (xs.drop (i + 1)) n
            have h2 : 2 ^ (xs.drop (i + 1)).length ≤ 2 ^ 6 := Nat.pow_le_pow_right (by decide) (by rw [List.length_drop]; omega)
            omega
          · rintro j y D H6 H6' ac Ky Kn hj s6 hD hac ⟨rfl, hy⟩ ky kn
            obtain ⟨l', hl', p, rfl, hp⟩ := paired_at pr5 hy
            have hp6 := s6 _ _ hp
            refine ⟨rfl, iteT (B := Kn H6') ⟨_, rfl, t1, fun q H7 hq s7 h7 => ⟨_, rfl, q, p, y1, l', rfl, rfl, h7, s7 _ _ hp6, ?_, fun r H8 s8 h8 => ?_⟩⟩⟩
            · have h9 := chF_size (xs.drop (i + 1)) n l' (List.mem_of_getElem? hl')
              rw [List.length_drop] at h9
              omega
            · refine ky _ H8 (y1 :: l') (s7.trans s8) (by rw [hl']; rfl) ?_
              exact TupIs.hide (s8 _ _ (s7 _ _ hac)) ⟨r, rfl, h8⟩
          · intro D H6 ys hD s6 h6 pr6
            rw [paired_len pr5, map_at] at pr6
            have e : (List.range (i + 1)).flatMap (chP xs n) = (List.range i).flatMap (chP xs n) ++ (chF (xs.drop (i + 1)) n).map (y1 :: ·) := by
              rw [List.range_succ, List.flatMap_append]
              congr 1
              simp [chP, e2]
            have sA : Same H2 H6 := ((s3.trans s4).trans s5).trans s6
            have hac6 := sA _ _ hacc
            have prA := paired_app (paired_mono (fun _ _ z => z.same sA) pr) pr6
            have hlen := paired_len prA
            rw [← e, List.length_append] at hlen
            have hb2 := chP_len xs n (i + 1) hi
            have h64 : 2 ^ xs.length ≤ 2 ^ 6 := Nat.pow_le_pow_right (by decide) hl
            refine ⟨l, D, acc, ys, rfl, rfl, hac6, h6, line64 (by omega), _, _, _, rfl, fun b o z => ?_, upd_same, ?_⟩
            · rw [upd_ne (ne_of_none z hl1)]
              exact sA _ _ (s2 _ _ z)
            · rw [e]
              exact paired_mono (fun _ _ z => z.upd hac6) prA
      · rintro σ H2 ⟨o3, o4, acc, rfl, s2, hacc, pr⟩
        refine ⟨_, rfl, k l H2 acc s2 hacc ?_⟩
        rw [chF_places] at pr
        exact pr
end
end K43

-- K43B1
set_option Elab.async false
set_option linter.all false
set_option maxRecDepth 100000
set_option maxHeartbeats 4000000
/-! a Bonds in the heap; many, is_alike, is_below, has -/
namespace K43
open PySem PySem.Spec PyProof.Rows L2
/-! ### pairs as keys -/
abbrev pk (p : Pr) : List Key := [Sum.inl (p.1 : Int), Sum.inl (p.2 : Int)]
abbrev eT (p : Pr) : List Key × V := (pk p, .bl true)
theorem pk_inj {p q : Pr} (h : pk p = pk q) : p = q := by
  simp only [pk, List.cons.injEq, Sum.inl.injEq, and_true] at h
  exact Prod.ext (by omega) (by omega)
theorem valV_eT (q : Pr) : ∀ A : List Pr, valV (A.map eT) (pk q) = if q ∈ A then some (.bl true) else none
  | [] => rfl
  | p :: r => by
    rw [List.map_cons]
    by_cases e : p = q
    · subst e
      rw [valV_pos (show (eT p).1 = pk p from rfl), if_pos List.mem_cons_self]
    · rw [valV_neg (show ¬ (eT p).1 = pk q from fun z => e (pk_inj z)), valV_eT q r]
      by_cases h : q ∈ r
      · rw [if_pos h, if_pos (List.mem_cons_of_mem _ h)]
      · rw [if_neg h, if_neg (by simp only [List.mem_cons, not_or]; exact ⟨fun z => e z.symm, h⟩)]
theorem isSome_eT (q : Pr) (A : List Pr) : (valV (A.map eT) (pk q)).isSome = decide (q ∈ A) := by
  rw [valV_eT]
  by_cases h : q ∈ A
  · rw [if_pos h, decide_eq_true h]; rfl
  · rw [if_neg h, decide_eq_false h]; rfl
theorem putK_eT {q : Pr} {A : List Pr} (h : q ∉ A) : putK (A.map eT) (pk q) (.bl true) = (A ++ [q]).map eT := by
  rw [putK_new _ (by rw [valV_eT, if_neg h]), List.map_append]
  rfl
theorem nodup_sub_len {α : Type} [DecidableEq α] : ∀ (l D : List α), l.Nodup → (∀ x ∈ l, x ∈ D) → l.length ≤ D.length
  | [], D, _, _ => Nat.zero_le _
  | x :: r, D, nd, h => by
    have hx := h x List.mem_cons_self
    have nd' := List.nodup_cons.mp nd
    have ih := nodup_sub_len r (D.erase x) nd'.2 fun y hy => (List.mem_erase_of_ne (fun z : y = x => nd'.1 (by rw [← z]; exact hy))).mpr (h y (List.mem_cons_of_mem _ hy))
    rw [List.length_erase_of_mem hx] at ih
    have : 0 < D.length := List.length_pos_of_mem hx
    simp only [List.length_cons]
    omega
theorem flatMap_len {α β : Type} (f : α → List β) (c : Nat) : ∀ l : List α, (∀ x ∈ l, (f x).length = c) → (l.flatMap f).length = l.length * c
  | [], _ => by simp
  | x :: r, h => by
    rw [List.flatMap_cons, List.length_append, h x List.mem_cons_self, flatMap_len f c r fun y hy => h y (List.mem_cons_of_mem _ hy), List.length_cons, Nat.succ_mul]
    omega
theorem pairs_len {m : Nat} {A : List Pr} (nd : A.Nodup) (h : ∀ p ∈ A, p.1 < m ∧ p.2 < m) : A.length ≤ m * m := by
  have e : ((List.range m).flatMap fun i => (List.range m).map fun j => ((i, j) : Pr)).length = m * m := by
    rw [flatMap_len _ m _ fun x _ => by rw [List.length_map, List.length_range], List.length_range]
  rw [← e]
  refine nodup_sub_len _ _ nd fun p hp => ?_
  obtain ⟨h1, h2⟩ := h p hp
  exact List.mem_flatMap.mpr ⟨p.1, List.mem_range.mpr h1, List.mem_map.mpr ⟨p.2, List.mem_range.mpr h2, rfl⟩⟩
/-! ### who has what -/
def kH (n : Nat) (f : Nat → Addr) : List (Key × V) := (List.range n).map fun p : Nat => (Sum.inl (p : Int), V.ref (f p))
theorem valV_kHk (f : Nat → Addr) (p : Nat) : ∀ l : List Nat, p ∈ l → valV (l.map fun p : Nat => ((Sum.inl (p : Int) : Key), V.ref (f p))) (Sum.inl (p : Int)) = some (V.ref (f p))
  | [], h => by cases h
  | q :: r, h => by
    rw [List.map_cons]
    by_cases e : q = p
    · subst e
      exact valV_pos rfl
    · rw [valV_neg (fun z => e (by have := Sum.inl.inj z; omega))]
      rcases List.mem_cons.mp h with z | h
      · exact absurd z.symm e
      · exact valV_kHk f p r h
theorem valV_kH {n p : Nat} (f : Nat → Addr) (h : p < n) : valV (kH n f) (Sum.inl (p : Int)) = some (V.ref (f p)) := valV_kHk f p _ (List.mem_range.mpr h)
def setA (f : Nat → Addr) (p : Nat) (a : Addr) : Nat → Addr := fun q => if q = p then a else f q
theorem putK_kH {n p : Nat} (f : Nat → Addr) (a : Addr) (h : p < n) : putK (kH n f) (Sum.inl (p : Int)) (V.ref a) = kH n (setA f p a) := by
  unfold putK
  have hs : ((kH n f).any fun kv => decide (kv.1 = Sum.inl (p : Int))) = true := by
    rw [valV_any, valV_kH f h]
    rfl
  rw [if_pos hs]
  unfold kH
  rw [List.map_map]
  refine List.map_congr_left fun q _ => ?_
  show (if (Sum.inl (q : Int) : Key) = Sum.inl (p : Int) then _ else _) = _
  by_cases e : q = p
  · subst e
    rw [if_pos rfl]
    show _ = (_, V.ref (if q = q then a else f q))
    rw [if_pos rfl]
  · rw [if_neg (fun z => e (by have := Sum.inl.inj z; omega))]
    show _ = (_, V.ref (if q = p then a else f q))
    rw [if_neg e]
theorem kH_len (n : Nat) (f : Nat → Addr) : (kH n f).length = n := by
  unfold kH
  rw [List.length_map, List.length_range]
/-! ### the object -/
/-- where its parts stand, what it was made of -/
structure Bo where
  p : Addr
  al : Addr
  be : Addr
  ha : Addr
  fa : Addr
  lo : Addr
  ad : Addr
  go : Addr
  ev : Addr
  n : Nat
  kd : Str
  es : List Ev
def bF (b : Bo) : List (Str × V) := [("own_people", .int b.n), ("own_events", .ref b.ev), ("own_kind", .str b.kd), ("own_gone", .ref b.go), ("own_looks", .ref b.lo), ("own_adds", .ref b.ad), ("own_alike", .ref b.al), ("own_below", .ref b.be), ("own_has", .ref b.ha), ("own_facts", .ref b.fa)]
section
variable (b : Bo)
theorem bF_people : (bF b).lookup ("own_people" : Str) = some (.int b.n) := rfl
theorem bF_events : (bF b).lookup ("own_events" : Str) = some (.ref b.ev) := rfl
theorem bF_kind : (bF b).lookup ("own_kind" : Str) = some (.str b.kd) := rfl
theorem bF_gone : (bF b).lookup ("own_gone" : Str) = some (.ref b.go) := rfl
theorem bF_looks : (bF b).lookup ("own_looks" : Str) = some (.ref b.lo) := rfl
theorem bF_adds : (bF b).lookup ("own_adds" : Str) = some (.ref b.ad) := rfl
theorem bF_alike : (bF b).lookup ("own_alike" : Str) = some (.ref b.al) := rfl
theorem bF_below : (bF b).lookup ("own_below" : Str) = some (.ref b.be) := rfl
theorem bF_has : (bF b).lookup ("own_has" : Str) = some (.ref b.ha) := rfl
theorem bF_facts : (bF b).lookup ("own_facts" : Str) = some (.ref b.fa) := rfl
theorem bF_no {m : Str} (h : m ∉ (["own_people", "own_events", "own_kind", "own_gone", "own_looks", "own_adds", "own_alike", "own_below", "own_has", "own_facts"] : List Str)) : (bF b).lookup m = none := by
  have e : ∀ (l : List (Str × V)), m ∉ l.map (·.1) → l.lookup m = none := fun l => by
    induction l with
    | nil => intro _; rfl
    | cons x r ih =>
      intro hm
      simp only [List.map_cons, List.mem_cons, not_or] at hm
      have hb : (m == x.1) = false := beq_eq_false_iff_ne.mpr hm.1
      obtain ⟨k, v⟩ := x
      simp only [List.lookup, hb]
      exact ih hm.2
  exact e (bF b) h
end
def HasAt (H : Hp) (ha fa : Addr) (n : Nat) (hs : Nat → List Nat) : Prop := ∃ f : Nat → Addr, H ha = some (.dK (kH n f)) ∧ ∀ p, p < n → NL H (f p) (hs p) ∧ f p ≠ fa
structure BOk (K : PySem.W.Frag) (H : Hp) (b : Bo) (A Z : List Pr) (hs : Nat → List Nat) : Prop where
  ob : ∃ dx, H b.p = some (.ins (cB K) dx (bF b))
  al : H b.al = some (.dT (A.map eT))
  be : H b.be = some (.dT (Z.map eT))
  has : HasAt H b.ha b.fa b.n hs
  fa : ∃ fs : List V, H b.fa = some (.lst fs) ∧ fs.length ≤ A.length + Z.length
  lo : PrL H b.lo (looksF b.es) ∧ b.lo ≠ b.fa
  ad : PrL H b.ad (addsF b.es) ∧ b.ad ≠ b.fa
  go : H b.go = some (.lst []) ∧ b.go ≠ b.fa
  ev : EvT H b.ev b.es
  ne : b.al ≠ b.be
  dA : A.Nodup
  dZ : Z.Nodup
  sym : ∀ i j, (i, j) ∈ A → (j, i) ∈ A
  inA : ∀ p ∈ A, p.1 < (looksF b.es).length ∧ p.2 < (looksF b.es).length
  inZ : ∀ p ∈ Z, p.1 < (looksF b.es).length ∧ p.2 < (looksF b.es).length
  inH : ∀ p, p < b.n → ∀ k ∈ hs p, k < (looksF b.es).length
  few : b.es.length ≤ 16
  fewN : b.n ≤ 8
  okE : ∀ e ∈ b.es, e.okFor b.n
section
variable {K : PySem.W.Frag} {H H' : Hp} {b : Bo} {A Z : List Pr} {hs : Nat → List Nat}
theorem HasAt.same {ha fa : Addr} {n : Nat} (s : Same H H') (h : HasAt H ha fa n hs) : HasAt H' ha fa n hs := let ⟨f, h1, h2⟩ := h; ⟨f, s _ _ h1, fun p hp => ⟨s _ _ (h2 p hp).1, (h2 p hp).2⟩⟩
theorem BOk.same (s : Same H H') (o : BOk K H b A Z hs) : BOk K H' b A Z hs where
  ob := let ⟨dx, h⟩ := o.ob; ⟨dx, s _ _ h⟩
  al := s _ _ o.al
  be := s _ _ o.be
  has := o.has.same s
  fa := let ⟨fs, h, l⟩ := o.fa; ⟨fs, s _ _ h, l⟩
  lo := ⟨o.lo.1.same s, o.lo.2⟩
  ad := ⟨o.ad.1.same s, o.ad.2⟩
  go := ⟨s _ _ o.go.1, o.go.2⟩
  ev := o.ev.same s
  ne := o.ne
  dA := o.dA
  dZ := o.dZ
  sym := o.sym
  inA := o.inA
  inZ := o.inZ
  inH := o.inH
  few := o.few
  fewN := o.fewN
  okE := o.okE
theorem BOk.m (o : BOk K H b A Z hs) : (looksF b.es).length ≤ 16 := Nat.le_trans (looksF_len _) o.few
theorem sq16 {m : Nat} (h : m ≤ 16) : m * m ≤ 256 := Nat.mul_le_mul h h
theorem BOk.lenA (o : BOk K H b A Z hs) : A.length ≤ 256 := Nat.le_trans (pairs_len o.dA o.inA) (sq16 o.m)
theorem BOk.lenZ (o : BOk K H b A Z hs) : Z.length ≤ 256 := Nat.le_trans (pairs_len o.dZ o.inZ) (sq16 o.m)
end
section
variable {P : Program} {w : World} {K : PySem.W.Frag} {mg : Str → Option Value} {base : Heap}
abbrev GB (P : Program) (w : World) (K : PySem.W.Frag) (mg : Str → Option Value) (base : Heap) (k : Nat) (m : Str) (ps : List Str) (sp : Sp) : Prop := MOk P w K mg base k (cB K) m ps [] sp
def spMany (K : PySem.W.Frag) : Sp := fun vs H Q _ => ∃ b A Z hs, vs = [.ref b.p] ∧ BOk K H b A Z hs ∧ Q (.int (looksF b.es).length) H
theorem scB_many : FnScope ["self"] ["self"] (defScope sB_many) := ⟨rfl, rfl, rfl, by decide +kernel, rfl, by decide +kernel, by decide +kernel⟩
theorem okB_many {f : Addr} {fd : FuncData} (F : FunD K "many" "Bonds.many" (defArgs sB_many) (defBody sB_many) (defScope sB_many) [] [] f fd) (T : Txt K mg) : FnOk P w K mg base CX0 1 f fd ["self"] (spMany K) := by
  refine okD F scB_many (fun vs H Q E h => ?_) (fun cdv A outer s H vs Q E hr h => ?_)
  · obtain ⟨b, A, Z, hs, rfl, _⟩ := h
    rfl
  · obtain ⟨b, A, Z, hs, rfl, o, k⟩ := h
    obtain ⟨dx, hob⟩ := o.ob
    obtain ⟨⟨us, hlo, pr⟩, _⟩ := o.lo
    refine ⟨_, pss_one (ps_ret (pe_callB call_len_seq (by rfl) T.len PySem.boot_len (pa_cons (pe_fld (pv 0) rfl) pa_nil))), ?_⟩
    refine ⟨_, rfl, _, _, dx, _, _, rfl, hob, T.clB, T.nB _ (by decide +kernel), bF_looks b, b.lo, us, rfl, .inl (SqL.of hlo), ?_⟩
    rw [paired_len pr]
    exact k
/-- whether a pair stands in a table -/
def spAlike (K : PySem.W.Frag) : Sp := fun vs H Q _ => ∃ b A Z hs, ∃ i j : Nat, vs = [.ref b.p, .int i, .int j] ∧ BOk K H b A Z hs ∧ ∀ H', Same H H' → Q (.bl (decide (i = j ∨ (i, j) ∈ A))) H'
def spBelow (K : PySem.W.Frag) : Sp := fun vs H Q _ => ∃ b A Z hs, ∃ i j : Nat, vs = [.ref b.p, .int i, .int j] ∧ BOk K H b A Z hs ∧ ∀ H', Same H H' → Q (.bl (decide ((i, j) ∈ Z))) H'
theorem scB_is_alike : FnScope ["self", "one", "other"] ["self", "one", "other"] (defScope sB_is_alike) := ⟨rfl, rfl, rfl, by decide +kernel, rfl, by decide +kernel, by decide +kernel⟩
theorem okB_is_alike {f : Addr} {fd : FuncData} (F : FunD K "is_alike" "Bonds.is_alike" (defArgs sB_is_alike) (defBody sB_is_alike) (defScope sB_is_alike) [] [] f fd) (T : Txt K mg) : FnOk P w K mg base CX0 1 f fd ["self", "one", "other"] (spAlike K) := by
  refine okD F scB_is_alike (fun vs H Q E h => ?_) (fun cdv A0 outer s H vs Q E hr h => ?_)
  · obtain ⟨b, A, Z, hs, i, j, rfl, _⟩ := h
    rfl
  · obtain ⟨b, A, Z, hs, i, j, rfl, o, k⟩ := h
    have hu := hu_of hr
    obtain ⟨dx, hob⟩ := o.ob
    refine ⟨_, pss_one (ps_ret (pe_or (pe_cmpR op_eq (pv 1) (pv 2) (nomark _)) (pe_one (pe_cmp (pc_din hu (pe_tupS (pa_cons (pv 1) (pa_cons (pv 2) pa_nil))) (pe_fld (pv 0) rfl)))))), ?_⟩
    refine ⟨_, rfl, _, rfl, rfl, _, rfl, ite2 (fun e => ?_) (fun e => ?_)⟩
    · have e1 : i = j := by have := V.int.inj (of_decide_eq_true e); omega
      have := k H (Same.refl H)
      rw [decide_eq_true (.inl e1)] at this
      exact this
    · have e1 : i ≠ j := fun z => e (decide_eq_true (by rw [z]))
      refine ⟨_, rfl, _, rfl, t2, fun q H1 hq s1 h1 => ?_⟩
      refine ⟨_, rfl, _, _, dx, _, _, rfl, s1 _ _ hob, T.clB, T.nB _ (by decide +kernel), bF_alike b, b.al, _, rfl, DGet.t (k := pk (i, j)) (s1 _ _ o.al) h1, ?_⟩
      have := k H1 s1
      rw [isSome_eT]
      have e2 : decide ((i, j) ∈ A) = decide (i = j ∨ (i, j) ∈ A) := by
        by_cases h : (i, j) ∈ A
        · rw [decide_eq_true h, decide_eq_true (.inr h)]
        · rw [decide_eq_false h, decide_eq_false (by rintro (z | z); exact e1 z; exact h z)]
      rw [e2]
      exact this
theorem scB_is_below : FnScope ["self", "one", "other"] ["self", "one", "other"] (defScope sB_is_below) := ⟨rfl, rfl, rfl, by decide +kernel, rfl, by decide +kernel, by decide +kernel⟩
theorem okB_is_below {f : Addr} {fd : FuncData} (F : FunD K "is_below" "Bonds.is_below" (defArgs sB_is_below) (defBody sB_is_below) (defScope sB_is_below) [] [] f fd) (T : Txt K mg) : FnOk P w K mg base CX0 1 f fd ["self", "one", "other"] (spBelow K) := by
  refine okD F scB_is_below (fun vs H Q E h => ?_) (fun cdv A0 outer s H vs Q E hr h => ?_)
  · obtain ⟨b, A, Z, hs, i, j, rfl, _⟩ := h
    rfl
  · obtain ⟨b, A, Z, hs, i, j, rfl, o, k⟩ := h
    have hu := hu_of hr
    obtain ⟨dx, hob⟩ := o.ob
    refine ⟨_, pss_one (ps_ret (pe_cmp (pc_din hu (pe_tupS (pa_cons (pv 1) (pa_cons (pv 2) pa_nil))) (pe_fld (pv 0) rfl)))), ?_⟩
    refine ⟨_, rfl, _, rfl, t2, fun q H1 hq s1 h1 => ?_⟩
    refine ⟨_, rfl, _, _, dx, _, _, rfl, s1 _ _ hob, T.clB, T.nB _ (by decide +kernel), bF_below b, b.be, _, rfl, DGet.t (k := pk (i, j)) (s1 _ _ o.be) h1, ?_⟩
    rw [isSome_eT]
    exact k H1 s1
def spHas (K : PySem.W.Frag) : Sp := fun vs H Q _ => ∃ b A Z hs, ∃ p : Nat, vs = [.ref b.p, .int p] ∧ BOk K H b A Z hs ∧ p < b.n ∧ ∀ l H', H l = none → Same H H' → NL H' l (hs p) → Q (.ref l) H'
theorem scB_has : FnScope ["self", "person"] ["self", "person"] (defScope sB_has) := ⟨rfl, rfl, rfl, by decide +kernel, rfl, by decide +kernel, by decide +kernel⟩
theorem okB_has {f : Addr} {fd : FuncData} (F : FunD K "has" "Bonds.has" (defArgs sB_has) (defBody sB_has) (defScope sB_has) [] [] f fd) (T : Txt K mg) : FnOk P w K mg base CX0 1 f fd ["self", "person"] (spHas K) := by
  refine okD F scB_has (fun vs H Q E h => ?_) (fun cdv A0 outer s H vs Q E hr h => ?_)
  · obtain ⟨b, A, Z, hs, p, rfl, _⟩ := h
    rfl
  · obtain ⟨b, A, Z, hs, p, rfl, o, hp, k⟩ := h
    have hu := hu_of hr
    obtain ⟨dx, hob⟩ := o.ob
    obtain ⟨f, h1, h2⟩ := o.has
    refine ⟨_, pss_one (ps_ret (pe_callTy call_listS (by rfl) T.list PyProof.Rows.boot_list (pa_cons (pe_dget hu (pe_fld (pv 0) rfl) (pv 1) (fun _ _ => rfl)) pa_nil))), ?_⟩
    refine ⟨_, rfl, _, _, dx, _, _, rfl, hob, T.clB, T.nB _ (by decide +kernel), bF_has b, _, rfl, b.ha, _, rfl, (by have := DGet.k (k := Sum.inl (p : Int)) h1; rw [valV_kH f hp] at this; exact this), f p, _, rfl, .inl (SqL.of (h2 p hp).1), ?_⟩
    exact fun l H' hl s1 h3 => k l H' hl s1 h3
end
end K43

-- K43B2
set_option Elab.async false
set_option linter.all false
set_option maxRecDepth 100000
set_option maxHeartbeats 4000000
/-! Bonds: bind, lower, is_late -/
namespace K43
open PySem PySem.Spec PyProof.Rows L2
/-- what its methods write to -/
abbrev Sb (b : Bo) : List Addr := [b.al, b.be, b.ha, b.fa]
/-- tuples stand -/
def Tups (H H' : Hp) : Prop := ∀ b l, H b = some (.tup l) → H' b = some (.tup l)
section
variable {H H' : Hp}
theorem Tups.of (s : Same H H') : Tups H H' := fun b l h => s b _ h
theorem EvAt.tups (s : Tups H H') {v : V} {e : Ev} (h : EvAt H v e) : EvAt H' v e := let ⟨a, q, r⟩ := h; ⟨a, q, s _ _ r⟩
theorem PrAt.tups (s : Tups H H') {v : V} {e : Pr} (h : PrAt H v e) : PrAt H' v e := let ⟨a, q, r⟩ := h; ⟨a, q, s _ _ r⟩
theorem EvT.tups (s : Tups H H') {a : Addr} {ps : List Ev} (h : EvT H a ps) : EvT H' a ps := let ⟨vs, q, r⟩ := h; ⟨vs, s _ _ q, paired_mono (fun _ _ z => z.tups s) r⟩
theorem PrT.tups (s : Tups H H') {a : Addr} {ps : List Pr} (h : PrT H a ps) : PrT H' a ps := let ⟨vs, q, r⟩ := h; ⟨vs, s _ _ q, paired_mono (fun _ _ z => z.tups s) r⟩
theorem PrL.tups (s : Tups H H') {a : Addr} {ps : List Pr} (h : PrL H a ps) (k : ∀ l, H a = some (.lst l) → H' a = some (.lst l)) : PrL H' a ps := let ⟨vs, q, r⟩ := h; ⟨vs, k _ q, paired_mono (fun _ _ z => z.tups s) r⟩
end
section
variable {K : PySem.W.Frag} {H H' : Hp} {b : Bo} {A Z : List Pr} {hs : Nat → List Nat}
/-- none of what is written to is a tuple, an instance -/
theorem BOk.out (o : BOk K H b A Z hs) {x : Addr} {u : HO} (h : H x = some u) (h1 : ∀ kvs, u ≠ .dT kvs) (h2 : ∀ kvs, u ≠ .dK kvs) (h3 : x ≠ b.fa) : x ∉ Sb b := by
  obtain ⟨f, hf, _⟩ := o.has
  intro m
  simp only [List.mem_cons, List.not_mem_nil, or_false] at m
  rcases m with rfl | rfl | rfl | m
  · exact h1 _ (Option.some.inj (h.symm.trans o.al))
  · exact h1 _ (Option.some.inj (h.symm.trans o.be))
  · exact h2 _ (Option.some.inj (h.symm.trans hf))
  · exact h3 m
theorem BOk.out' (o : BOk K H b A Z hs) {x : Addr} {u : HO} (h : H x = some u) (h1 : ∀ kvs, u ≠ .dT kvs) (h2 : ∀ kvs, u ≠ .dK kvs) (h3 : ∀ kvs, u ≠ .lst kvs) : x ∉ Sb b := by
  obtain ⟨fs, hf, _⟩ := o.fa
  exact o.out h h1 h2 fun e => by rw [e] at h; exact h3 _ (Option.some.inj (h.symm.trans hf))
theorem BOk.tups (o : BOk K H b A Z hs) (fr : Frame (Sb b) H H') : Tups H H' := fun x l h => fr _ _ h (o.out' h (fun _ z => by cases z) (fun _ z => by cases z) fun _ z => by cases z)
theorem BOk.step (o : BOk K H b A Z hs) (fr : Frame (Sb b) H H') {A' Z' : List Pr} {hs' : Nat → List Nat} (hal : H' b.al = some (.dT (A'.map eT))) (hbe : H' b.be = some (.dT (Z'.map eT))) (hha : HasAt H' b.ha b.fa b.n hs')
    (hfa : ∃ fs : List V, H' b.fa = some (.lst fs) ∧ fs.length ≤ A'.length + Z'.length) (dA : A'.Nodup) (dZ : Z'.Nodup) (sym : ∀ i j, (i, j) ∈ A' → (j, i) ∈ A') (inA : ∀ p ∈ A', p.1 < (looksF b.es).length ∧ p.2 < (looksF b.es).length)
    (inZ : ∀ p ∈ Z', p.1 < (looksF b.es).length ∧ p.2 < (looksF b.es).length) (inH : ∀ p, p < b.n → ∀ k ∈ hs' p, k < (looksF b.es).length) : BOk K H' b A' Z' hs' where
  ob := let ⟨dx, h⟩ := o.ob; ⟨dx, fr _ _ h (o.out' h (fun _ z => by cases z) (fun _ z => by cases z) fun _ z => by cases z)⟩
  al := hal
  be := hbe
  has := hha
  fa := hfa
  lo := ⟨o.lo.1.tups (o.tups fr) fun l h => fr _ _ h (o.out h (fun _ z => by cases z) (fun _ z => by cases z) o.lo.2), o.lo.2⟩
  ad := ⟨o.ad.1.tups (o.tups fr) fun l h => fr _ _ h (o.out h (fun _ z => by cases z) (fun _ z => by cases z) o.ad.2), o.ad.2⟩
  go := ⟨fr _ _ o.go.1 (o.out o.go.1 (fun _ z => by cases z) (fun _ z => by cases z) o.go.2), o.go.2⟩
  ev := o.ev.tups (o.tups fr)
  ne := o.ne
  dA := dA
  dZ := dZ
  sym := sym
  inA := inA
  inZ := inZ
  inH := inH
  few := o.few
  fewN := o.fewN
  okE := o.okE
/-- who has what stands where nothing of it is written -/
theorem BOk.hasKeep (o : BOk K H b A Z hs) (fr : Frame [b.al, b.be, b.fa] H H') : HasAt H' b.ha b.fa b.n hs := by
  obtain ⟨fs, hfa, _⟩ := o.fa
  obtain ⟨f, h1, h2⟩ := o.has
  refine ⟨f, fr _ _ h1 ?_, fun p hp => ⟨fr _ _ (h2 p hp).1 ?_, (h2 p hp).2⟩⟩
  · intro m
    simp only [List.mem_cons, List.not_mem_nil, or_false] at m
    rcases m with m | m | m
    · exact ne_of h1 o.al (by intro z; cases z) m
    · exact ne_of h1 o.be (by intro z; cases z) m
    · exact ne_of h1 hfa (by intro z; cases z) m
  · intro m
    simp only [List.mem_cons, List.not_mem_nil, or_false] at m
    rcases m with m | m | m
    · exact ne_of (h2 p hp).1 o.al (by intro z; cases z) m
    · exact ne_of (h2 p hp).1 o.be (by intro z; cases z) m
    · exact (h2 p hp).2 m
theorem BOk.line (o : BOk K H b A Z hs) : A.length ≤ 256 ∧ Z.length ≤ 256 := ⟨o.lenA, o.lenZ⟩
end
section
variable {P : Program} {w : World} {K : PySem.W.Frag} {mg : Str → Option Value} {base : Heap}
/-- the source of a fact -/
def SrcAt (K : PySem.W.Frag) (H : Hp) (a : Addr) : Prop := (∃ ys, H a = some (.lst ys)) ∨ ∃ ys, SqT K H a ys ∧ ∀ H', SqT K H' a ys
def spBind (K : PySem.W.Frag) : Sp := fun vs H Q _ => ∃ b A Z hs, ∃ i j : Nat, ∃ a, vs = [.ref b.p, .int i, .int j, .ref a] ∧ BOk K H b A Z hs ∧ i < (looksF b.es).length ∧ j < (looksF b.es).length ∧ SrcAt K H a ∧
  ((i = j ∨ (i, j) ∈ A) → ∀ H', Same H H' → Q (.bl false) H') ∧ (i ≠ j → (i, j) ∉ A → ∀ H', Frame [b.al, b.be, b.fa] H H' → BOk K H' b (A ++ [(i, j), (j, i)]) Z hs → Q (.bl true) H')
def spLower (K : PySem.W.Frag) : Sp := fun vs H Q _ => ∃ b A Z hs, ∃ i j : Nat, ∃ a, vs = [.ref b.p, .int i, .int j, .ref a] ∧ BOk K H b A Z hs ∧ i < (looksF b.es).length ∧ j < (looksF b.es).length ∧ SrcAt K H a ∧
  ((i = j ∨ (i, j) ∈ Z) → ∀ H', Same H H' → Q (.bl false) H') ∧ (i ≠ j → (i, j) ∉ Z → ∀ H', Frame [b.al, b.be, b.fa] H H' → BOk K H' b A (Z ++ [(i, j)]) hs → Q (.bl true) H')
theorem scB_bind : FnScope ["self", "one", "other", "source"] ["self", "one", "other", "source"] (defScope sB_bind) := ⟨rfl, rfl, rfl, by decide +kernel, rfl, by decide +kernel, by decide +kernel⟩
theorem okB_bind {f : Addr} {fd : FuncData} {ds : List Value} {dvs : List V} (F : FunD K "bind" "Bonds.bind" (defArgs sB_bind) (defBody sB_bind) (defScope sB_bind) dvs [] f fd) (T : Txt K mg) (GA : GB P w K mg base 1 "is_alike" ["self", "one", "other"] (spAlike K)) :
    FnOk P w K mg base CX0 2 f fd ["self", "one", "other", "source"] (spBind K) := by
  refine okD F scB_bind (fun vs H Q E h => ?_) (fun cdv A0 outer s H vs Q E hr h => ?_)
  · obtain ⟨b, A, Z, hs, i, j, a, rfl, _⟩ := h
    rfl
  · obtain ⟨b, A, Z, hs, i, j, a, rfl, o, hi, hj, hsrc, kf, kt⟩ := h
    have hu := hu_of hr
    obtain ⟨dx, hob⟩ := o.ob
    refine ⟨_, pss_cons (ps_if (pt_val (pe_m GA hr T.clB (pv 0) (pa_cons (pv 1) (pa_cons (pv 2) pa_nil)))) (pss_one (ps_ret pe_bl)) pss_nil)
      (pss_cons (ps_dput hu (pe_fld (pv 0) rfl) (pe_tupS (pa_cons (pv 1) (pa_cons (pv 2) pa_nil))) pe_bl rfl)
      (pss_cons (ps_dput hu (pe_fld (pv 0) rfl) (pe_tupS (pa_cons (pv 2) (pa_cons (pv 1) pa_nil))) pe_bl rfl)
      (pss_cons (ps_expr (pe_bm PySem.F.plainAttrs_list PySem.F.slot_list_append PySem.F.type_list_append mt_append (pe_fld (pv 0) rfl)
        (pa_cons (pe_tupS (pa_cons (pe_tupS (pa_cons (pe_gs T.ALIKE) (pa_cons (pv 1) (pa_cons (pv 2) pa_nil)))) (pa_cons (pe_callTy call_tupleS (by rfl) T.tuple PyProof.Rows.boot_tuple (pa_cons (pv 3) pa_nil)) pa_nil))) pa_nil)))
      (pss_one (ps_ret pe_bl))))), ?_⟩
    refine ⟨_, rfl, _, dx, _, rfl, hob, bF_no b (by decide +kernel), _, rfl, _, rfl, b, A, Z, hs, i, j, rfl, o, fun H1 s1 => ⟨_, rfl, ite2 (fun e => ?_) (fun e => ?_)⟩⟩
    · exact kf (of_decide_eq_true e) H1 s1
    · have e0 : ¬ (i = j ∨ (i, j) ∈ A) := fun z => e (decide_eq_true z)
      have e1 : i ≠ j := fun z => e0 (.inl z)
      have e2 : (i, j) ∉ A := fun z => e0 (.inr z)
      have o1 := o.same s1
      obtain ⟨fs, hfa, hfl⟩ := o1.fa
      obtain ⟨fh, hha, hhl⟩ := o1.has
      have lA := o.lenA
      have lZ := o.lenZ
      have hob1 := s1 _ _ hob
      have nal : b.p ≠ b.al := ne_of hob1 o1.al (by intro z; cases z)
      have nfa : b.fa ≠ b.al := ne_of hfa o1.al (by intro z; cases z)
      refine ⟨_, rfl, _, _, dx, _, _, rfl, hob1, T.clB, T.nB _ (by decide +kernel), bF_alike b, _, rfl, _, rfl, t2, fun t1 H2 ht1 s2 h2 => ?_⟩
      refine ⟨b.al, _, rfl, DPut.t (k := pk (i, j)) (s2 _ _ o1.al) h2 (line64' (by rw [List.length_map]; omega)), ?_⟩
      rw [putK_eT e2]
      have f3 : Frame [b.al, b.be, b.fa] H1 (upd H2 b.al (.dT ((A ++ [(i, j)]).map eT))) := (Frame.of s2).trans (Frame.upd (by simp))
      have hob3 : upd H2 b.al (.dT ((A ++ [(i, j)]).map eT)) b.p = some (.ins (cB K) dx (bF b)) := by rw [upd_ne nal]; exact s2 _ _ hob1
      refine ⟨_, rfl, _, _, dx, _, _, rfl, hob3, T.clB, T.nB _ (by decide +kernel), bF_alike b, _, rfl, _, rfl, t2, fun t2 H4 ht2 s4 h4 => ?_⟩
      have hal4 := s4 _ _ (upd_same (H := H2) (a := b.al) (o := .dT ((A ++ [(i, j)]).map eT)))
      refine ⟨b.al, _, rfl, DPut.t (k := pk (j, i)) hal4 h4 (line64' (by rw [List.length_map, List.length_append]; simp; omega)), ?_⟩
      have e3 : (j, i) ∉ A ++ [(i, j)] := by
        simp only [List.mem_append, List.mem_singleton, Prod.mk.injEq, not_or]
        exact ⟨fun z => e2 (o.sym _ _ z), fun z => e1 z.2⟩
      rw [putK_eT e3]
      have eA : A ++ [(i, j)] ++ [(j, i)] = A ++ [(i, j), (j, i)] := by simp
      rw [eA]
      have f5 : Frame [b.al, b.be, b.fa] H1 (upd H4 b.al (.dT ((A ++ [(i, j), (j, i)]).map eT))) := (f3.trans (Frame.of s4)).trans (Frame.upd (by simp))
      have hob5 : upd H4 b.al (.dT ((A ++ [(i, j), (j, i)]).map eT)) b.p = some (.ins (cB K) dx (bF b)) := by rw [upd_ne nal]; exact s4 _ _ hob3
      have hfa5 : upd H4 b.al (.dT ((A ++ [(i, j), (j, i)]).map eT)) b.fa = some (.lst fs) := by rw [upd_ne nfa]; exact s4 _ _ (by rw [upd_ne nfa]; exact s2 _ _ hfa)
      generalize hH5 : upd H4 b.al (.dT ((A ++ [(i, j), (j, i)]).map eT)) = H5 at f5 hob5 hfa5 ⊢
      have hal5 : H5 b.al = some (.dT ((A ++ [(i, j), (j, i)]).map eT)) := by rw [← hH5]; exact upd_same
      have hbe5 : H5 b.be = some (.dT (Z.map eT)) := by rw [← hH5, upd_ne (Ne.symm o.ne)]; exact s4 _ _ (by rw [upd_ne (Ne.symm o.ne)]; exact s2 _ _ o1.be)
      refine ⟨_, rfl, _, _, dx, _, _, rfl, hob5, T.clB, T.nB _ (by decide +kernel), bF_facts b, ?_⟩
      refine ⟨.inl ⟨rfl, _, SqL.of hfa5⟩, ?_⟩
      refine ⟨_, rfl, _, rfl, t3, fun p6 H6 hp6 s6 h6 => ?_⟩
      have fin : ∀ (q : Addr) H7, Same H6 H7 → (2 ≤ 1000 ∧ New H7 (.tup [.ref p6, .ref q]) fun x H8 => rAppend (.ref b.fa) [x] H8 fun v H9 => Q (.bl true) H9) := fun q H7 s7 => by
        refine ⟨by decide, fun p8 H8 hp8 s8 h8 => ?_⟩
        have s58 := (s6.trans s7).trans s8
        refine ⟨b.fa, fs, _, rfl, rfl, s58 _ _ hfa5, line64' (by omega), ?_⟩
        have f9 : Frame [b.al, b.be, b.fa] H1 (upd H8 b.fa (.lst (fs ++ [V.ref p8]))) := (f5.trans (Frame.of s58)).trans (Frame.upd (by simp))
        refine kt e1 e2 _ ((Frame.of s1).trans f9) ?_
        refine o1.step (f9.mono (by intro x hx; simp at hx ⊢; rcases hx with rfl | rfl | rfl <;> simp)) ?_ ?_ (o1.hasKeep f9) ⟨_, upd_same, ?_⟩ ?_ o.dZ ?_ ?_ o.inZ o.inH
        · rw [upd_ne (Ne.symm nfa)]; exact s58 _ _ hal5
        · rw [upd_ne (ne_of o1.be hfa (by intro z; cases z))]; exact s58 _ _ hbe5
        · simp only [List.length_append, List.length_cons, List.length_nil]; omega
        · refine List.nodup_append.mpr ⟨o.dA, ?_, ?_⟩
          · simp; exact fun z => absurd z e1
          · intro x hx y hy
            simp only [List.mem_cons, List.not_mem_nil, or_false] at hy
            rcases hy with rfl | rfl
            · exact fun z => e2 (z ▸ hx)
            · exact fun z => e2 (o.sym _ _ (z ▸ hx))
        · intro x y h
          simp only [List.mem_append, List.mem_cons, List.not_mem_nil, or_false, Prod.mk.injEq] at h ⊢
          rcases h with h | ⟨rfl, rfl⟩ | ⟨rfl, rfl⟩
          · exact .inl (o.sym _ _ h)
          · exact .inr (.inr ⟨rfl, rfl⟩)
          · exact .inr (.inl ⟨rfl, rfl⟩)
        · intro p hp
          simp only [List.mem_append, List.mem_cons, List.not_mem_nil, or_false] at hp
          rcases hp with hp | rfl | rfl
          · exact o.inA p hp
          · exact ⟨hi, hj⟩
          · exact ⟨hj, hi⟩
      refine ⟨_, rfl, a, ?_⟩
      rcases hsrc with ⟨ys, ha⟩ | ⟨ys, hq, hq'⟩
      · have ha6 : H6 a = some (.lst ys) := by
          refine s6 _ _ ?_
          have na : a ≠ b.al := ne_of (s1 _ _ ha) o1.al (by intro z; cases z)
          rw [← hH5, upd_ne na]
          refine s4 _ _ ?_
          rw [upd_ne na]
          exact s2 _ _ (s1 _ _ ha)
        exact ⟨ys, rfl, .inl ⟨SqL.of ha6, fun q H7 hq s7 h7 => fin q H7 s7⟩⟩
      · exact ⟨ys, rfl, .inr ⟨hq' H6, fin a H6 (Same.refl H6)⟩⟩
end
end K43

-- K43B3
set_option Elab.async false
set_option linter.all false
set_option maxRecDepth 100000
set_option maxHeartbeats 4000000
/-! Bonds: lower, is_late -/
namespace K43
open PySem PySem.Spec PyProof.Rows L2
section
variable {P : Program} {w : World} {K : PySem.W.Frag} {mg : Str → Option Value} {base : Heap}
theorem scB_lower : FnScope ["self", "one", "other", "source"] ["self", "one", "other", "source"] (defScope sB_lower) := ⟨rfl, rfl, rfl, by decide +kernel, rfl, by decide +kernel, by decide +kernel⟩
theorem okB_lower {f : Addr} {fd : FuncData} {dvs : List V} (F : FunD K "lower" "Bonds.lower" (defArgs sB_lower) (defBody sB_lower) (defScope sB_lower) dvs [] f fd) (T : Txt K mg) (GA : GB P w K mg base 1 "is_below" ["self", "one", "other"] (spBelow K)) :
    FnOk P w K mg base CX0 2 f fd ["self", "one", "other", "source"] (spLower K) := by
  refine okD F scB_lower (fun vs H Q E h => ?_) (fun cdv A0 outer s H vs Q E hr h => ?_)
  · obtain ⟨b, A, Z, hs, i, j, a, rfl, _⟩ := h
    rfl
  · obtain ⟨b, A, Z, hs, i, j, a, rfl, o, hi, hj, hsrc, kf, kt⟩ := h
    have hu := hu_of hr
    obtain ⟨dx, hob⟩ := o.ob
    refine ⟨_, pss_cons (ps_if (PW.pt (pw_or (pt_cmpR op_eq (pv 1) (pv 2) (nomark _)) (pw_or1 (pt_val (pe_m GA hr T.clB (pv 0) (pa_cons (pv 1) (pa_cons (pv 2) pa_nil))))))) (pss_one (ps_ret pe_bl)) pss_nil)
      (pss_cons (ps_dput hu (pe_fld (pv 0) rfl) (pe_tupS (pa_cons (pv 1) (pa_cons (pv 2) pa_nil))) pe_bl rfl)
      (pss_cons (ps_expr (pe_bm PySem.F.plainAttrs_list PySem.F.slot_list_append PySem.F.type_list_append mt_append (pe_fld (pv 0) rfl)
        (pa_cons (pe_tupS (pa_cons (pe_tupS (pa_cons (pe_gs T.BEGINS) (pa_cons (pv 1) (pa_cons (pv 2) pa_nil)))) (pa_cons (pe_callTy call_tupleS (by rfl) T.tuple PyProof.Rows.boot_tuple (pa_cons (pv 3) pa_nil)) pa_nil))) pa_nil)))
      (pss_one (ps_ret pe_bl)))), ?_⟩
    refine ⟨_, rfl, _, rfl, rfl, _, rfl, ite2 (fun e => ?_) (fun e => ?_)⟩
    · have e1 : i = j := by have := V.int.inj (of_decide_eq_true e); omega
      exact iteT (kf (.inl e1) H (Same.refl H))
    have e1 : i ≠ j := fun z => e (decide_eq_true (by rw [z]))
    refine ⟨_, rfl, _, dx, _, rfl, hob, bF_no b (by decide +kernel), _, rfl, _, rfl, b, A, Z, hs, i, j, rfl, o, fun H1 s1 => ⟨_, rfl, ite2 (fun e => ?_) (fun e => ?_)⟩⟩
    · exact kf (.inr (of_decide_eq_true e)) H1 s1
    · have e2 : (i, j) ∉ Z := fun z => e (decide_eq_true z)
      have o1 := o.same s1
      obtain ⟨fs, hfa, hfl⟩ := o1.fa
      have lA := o.lenA
      have lZ := o.lenZ
      have hob1 := s1 _ _ hob
      have nbe : b.p ≠ b.be := ne_of hob1 o1.be (by intro z; cases z)
      have nfa : b.fa ≠ b.be := ne_of hfa o1.be (by intro z; cases z)
      refine ⟨_, rfl, _, _, dx, _, _, rfl, hob1, T.clB, T.nB _ (by decide +kernel), bF_below b, _, rfl, _, rfl, t2, fun t1 H2 ht1 s2 h2 => ?_⟩
      refine ⟨b.be, _, rfl, DPut.t (k := pk (i, j)) (s2 _ _ o1.be) h2 (line64' (by rw [List.length_map]; omega)), ?_⟩
      rw [putK_eT e2]
      have f5 : Frame [b.al, b.be, b.fa] H1 (upd H2 b.be (.dT ((Z ++ [(i, j)]).map eT))) := (Frame.of s2).trans (Frame.upd (by simp))
      have hob5 : upd H2 b.be (.dT ((Z ++ [(i, j)]).map eT)) b.p = some (.ins (cB K) dx (bF b)) := by rw [upd_ne nbe]; exact s2 _ _ hob1
      have hfa5 : upd H2 b.be (.dT ((Z ++ [(i, j)]).map eT)) b.fa = some (.lst fs) := by rw [upd_ne nfa]; exact s2 _ _ hfa
      generalize hH5 : upd H2 b.be (.dT ((Z ++ [(i, j)]).map eT)) = H5 at f5 hob5 hfa5 ⊢
      have hbe5 : H5 b.be = some (.dT ((Z ++ [(i, j)]).map eT)) := by rw [← hH5]; exact upd_same
      have hal5 : H5 b.al = some (.dT (A.map eT)) := by rw [← hH5, upd_ne o.ne]; exact s2 _ _ o1.al
      refine ⟨_, rfl, _, _, dx, _, _, rfl, hob5, T.clB, T.nB _ (by decide +kernel), bF_facts b, ?_⟩
      refine ⟨.inl ⟨rfl, _, SqL.of hfa5⟩, ?_⟩
      refine ⟨_, rfl, _, rfl, t3, fun p6 H6 hp6 s6 h6 => ?_⟩
      have fin : ∀ (q : Addr) H7, Same H6 H7 → (2 ≤ 1000 ∧ New H7 (.tup [.ref p6, .ref q]) fun x H8 => rAppend (.ref b.fa) [x] H8 fun v H9 => Q (.bl true) H9) := fun q H7 s7 => by
        refine ⟨by decide, fun p8 H8 hp8 s8 h8 => ?_⟩
        have s58 := (s6.trans s7).trans s8
        refine ⟨b.fa, fs, _, rfl, rfl, s58 _ _ hfa5, line64' (by omega), ?_⟩
        have f9 : Frame [b.al, b.be, b.fa] H1 (upd H8 b.fa (.lst (fs ++ [V.ref p8]))) := (f5.trans (Frame.of s58)).trans (Frame.upd (by simp))
        refine kt e1 e2 _ ((Frame.of s1).trans f9) ?_
        refine o1.step (f9.mono (by intro x hx; simp at hx ⊢; rcases hx with rfl | rfl | rfl <;> simp)) ?_ ?_ (o1.hasKeep f9) ⟨_, upd_same, ?_⟩ o.dA ?_ o.sym o.inA ?_ o.inH
        · rw [upd_ne (ne_of o1.al hfa (by intro z; cases z))]; exact s58 _ _ hal5
        · rw [upd_ne (Ne.symm nfa)]; exact s58 _ _ hbe5
        · simp only [List.length_append, List.length_cons, List.length_nil]; omega
        · refine List.nodup_append.mpr ⟨o.dZ, by simp, ?_⟩
          intro x hx y hy
          simp only [List.mem_cons, List.not_mem_nil, or_false] at hy
          subst hy
          exact fun z => e2 (z ▸ hx)
        · intro p hp
          simp only [List.mem_append, List.mem_cons, List.not_mem_nil, or_false] at hp
          rcases hp with hp | rfl
          · exact o.inZ p hp
          · exact ⟨hi, hj⟩
      refine ⟨_, rfl, a, ?_⟩
      rcases hsrc with ⟨ys, ha⟩ | ⟨ys, hq, hq'⟩
      · have ha6 : H6 a = some (.lst ys) := by
          refine s6 _ _ ?_
          have na : a ≠ b.be := ne_of (s1 _ _ ha) o1.be (by intro z; cases z)
          rw [← hH5, upd_ne na]
          exact s2 _ _ (s1 _ _ ha)
        exact ⟨ys, rfl, .inl ⟨SqL.of ha6, fun q H7 hq s7 h7 => fin q H7 s7⟩⟩
      · exact ⟨ys, rfl, .inr ⟨hq' H6, fin a H6 (Same.refl H6)⟩⟩
/-! ### is_late -/
def spLate (K : PySem.W.Frag) : Sp := fun vs H Q _ => ∃ b A Z hs, ∃ i j : Nat, vs = [.ref b.p, .int i, .int j] ∧ BOk K H b A Z hs ∧ i < (looksF b.es).length ∧ j < (looksF b.es).length ∧ ∀ c H', Same H H' → (c = true ↔ lateF b.es i j) → Q (.bl c) H'
theorem scB_is_late : FnScope ["self", "one", "other", "begin", "end", "person", "place", "adder"] ["self", "one", "other"] (defScope sB_is_late) := ⟨rfl, rfl, rfl, by decide +kernel, rfl, by decide +kernel, by decide +kernel⟩
theorem bl_all {α : Type} (f : α → Bool) (l : List α) : (List.range l.length).filterMap (fun k => (l[k]?).map fun x => V.bl (f x)) = (l.map f).map V.bl := by
  rw [map_at, List.map_map]
  rfl
theorem okB_is_late {f : Addr} {fd : FuncData} (F : FunD K "is_late" "Bonds.is_late" (defArgs sB_is_late) (defBody sB_is_late) (defScope sB_is_late) [] [] f fd) (T : Txt K mg) : FnOk P w K mg base CX0 1 f fd ["self", "one", "other"] (spLate K) := by
  refine okD F scB_is_late (fun vs H Q E h => ?_) (fun cdv A0 outer s H vs Q E hr h => ?_)
  · obtain ⟨b, A, Z, hs, i, j, rfl, _⟩ := h
    rfl
  · obtain ⟨b, A, Z, hs, i, j, rfl, o, hi, hj, k⟩ := h
    have hu := hu_of hr
    obtain ⟨dx, hob⟩ := o.ob
    obtain ⟨us, hlo, pr⟩ := o.lo.1
    obtain ⟨vs, had, pr2⟩ := o.ad.1
    obtain ⟨⟨c1, p1⟩, e1⟩ : ∃ x, (looksF b.es)[i]? = some x := ⟨_, List.getElem?_eq_getElem hi⟩
    obtain ⟨⟨c2, p2⟩, e2⟩ : ∃ x, (looksF b.es)[j]? = some x := ⟨_, List.getElem?_eq_getElem hj⟩
    obtain ⟨_, g1, a1, rfl, h1⟩ := paired_at' pr e1
    obtain ⟨_, g2, a2, rfl, h2⟩ := paired_at' pr e2
    refine ⟨_, pss_cons (ps_asg (pe_tupS (pa_cons (pe_ix ix_tup (pe_ix ix_list (pe_fld (pv 0) rfl) (pv 1) (fun _ _ => rfl)) pe_int (fun _ _ => rfl)) (pa_cons (pe_ix ix_list (pe_fld (pv 0) rfl) (pv 2) (fun _ _ => rfl)) pa_nil)))
        (pg_tup rfl (pgs_cons (pg_name (i := 3) scB_is_late.nd rfl (Or.inr rfl)) (pgs_cons (pg_tup rfl (pgs_cons (pg_name (i := 4) scB_is_late.nd rfl (Or.inr rfl)) (pgs_cons (pg_name (i := 5) scB_is_late.nd rfl (Or.inr rfl)) pgs_nil))) pgs_nil))))
      (pss_one (ps_ret (pe_callB (cr_any rfl) (by rfl) T.any PyProof.Rows.boot_any (pa_cons (pe_lc (own := [("place", 6), ("adder", 7)]) (g := gTup K 2 (gCons (gName 6) (gCons (gName 7) gNil))) (tt := tYes)
        (te := tAndV (tChain (rI0 fun i j => .bl (decide (i < j))) (rI0 fun i j => .bl (decide (i < j))) (tVar 3) (tVar 6) (tVar 4)) (tOp rEq (tVar 7) (tVar 5))) rfl scB_is_late.nd
        (pi_list (pe_fld (pv 0) rfl)) (blkOk_by (own := [("place", 6), ("adder", 7)]) (N := ["self", "one", "other", "begin", "end", "person", "place", "adder"]) (sc := defScope sB_is_late) (by decide +kernel))
        (fun _ _ _ _ _ => pg_tup rfl (pgs_cons (pg_name (i := 6) scB_is_late.nd rfl (Or.inl rfl)) (pgs_cons (pg_name (i := 7) scB_is_late.nd rfl (Or.inl rfl)) pgs_nil))) (fun _ _ _ _ _ => pts_nil)
        (fun _ _ _ _ _ => pe_and (pe_chain op_lt op_lt (pv 3) (pv 6) (pv 4)) (pe_one (pe_cmpR op_eq (pv 7) (pv 5) (nomark _))))) pa_nil)))), ?_⟩
    refine ⟨_, rfl, _, _, dx, _, _, rfl, hob, T.clB, T.nB _ (by decide +kernel), bF_looks b, _, rfl, b.lo, us, _, _, rfl, rfl, SqL.of hlo, atI_nat g1, a1, _, 0, _, rfl, rfl, SqT.of h1, rfl, ?_⟩
    refine ⟨_, rfl, _, _, dx, _, _, rfl, hob, T.clB, T.nB _ (by decide +kernel), bF_looks b, _, rfl, b.lo, us, _, _, rfl, rfl, SqL.of hlo, atI_nat g2, t2, fun q H1 hq s1 hq1 => ?_⟩
    refine ⟨q, _, rfl, SqT.of hq1, rfl, _, _, rfl, _, _, rfl, a2, _, rfl, SqT.of (s1 _ _ h2), rfl, _, _, rfl, _, _, rfl, rfl, rfl, ?_⟩
    refine ⟨_, rfl, _, _, dx, _, _, rfl, s1 _ _ hob, T.clB, T.nB _ (by decide +kernel), bF_adds b, b.ad, rfl, ⟨_, SqL.of (s1 _ _ had)⟩, ?_⟩
    refine lc_flat walk_list (fun k => ((addsF b.es)[k]?).map fun x => V.bl (decide (c1 < x.1 ∧ x.1 < c2 ∧ x.2 = p2))) ?_ (fun H2 s2 => SqL.of (s2 _ _ (s1 _ _ had))) ?_ ?_
    · have := addsF_len b.es
      have := o.few
      rw [paired_len pr2]; omega
    · rintro k' x H2 H2' Ky Kn hk s2 ⟨rfl, hx⟩ ky kn
      obtain ⟨⟨c3, p3⟩, e3, a3, rfl, h3⟩ := paired_at pr2 hx
      refine ⟨a3, _, rfl, SqT.of (s2 _ _ (s1 _ _ h3)), rfl, _, _, rfl, _, _, rfl, rfl, rfl, iteT (B := Kn H2') ?_⟩
      have fin : ∀ c, c = decide (c1 < c3 ∧ c3 < c2 ∧ p3 = p2) → Ky (.bl c) H2' := fun c hc => ky _ _ (Same.refl _) (by rw [e3, hc]; rfl)
      refine ⟨_, rfl, _, rfl, _, _, rfl, rfl, _, rfl, ite2 (fun z => ⟨_, rfl, _, _, rfl, rfl, _, rfl, ite2 (fun z2 => ?_) (fun z2 => ?_)⟩) (fun z => ⟨_, rfl, iteF (fin _ ?_)⟩)⟩
      · have y1 := of_decide_eq_true z
        have y2 := of_decide_eq_true z2
        refine ⟨_, rfl, _, rfl, rfl, fin _ ?_⟩
        rw [dec_int, Bool.eq_iff_iff]
        simp only [beq_iff_eq, decide_eq_true_eq]
        omega
      · exact fin _ (Eq.symm (decide_eq_false fun y => z2 (decide_eq_true (by omega))))
      · exact Eq.symm (decide_eq_false fun y => z (decide_eq_true (by omega)))
    · intro D H2 hD s2 hl
      rw [paired_len pr2, bl_all] at hl
      refine ⟨D, _, rfl, SqL.of hl, k _ H2 (s1.trans s2) ?_⟩
      rw [List.any_map, List.any_eq_true]
      constructor
      · rintro ⟨⟨c3, p3⟩, hm, hd⟩
        have y := of_decide_eq_true hd
        obtain ⟨y1, y2, y3⟩ := y
        have y3 : p3 = p2 := y3
        subst y3
        exact ⟨c1, c2, c3, p1, e1, ⟨p3, e2, hm⟩, y1, y2⟩
      · rintro ⟨a, b', c, d, x1, ⟨p, x2, x3⟩, x4, x5⟩
        rw [e1] at x1
        rw [e2] at x2
        cases x1
        cases x2
        exact ⟨(c, p2), x3, decide_eq_true ⟨x4, x5, rfl⟩⟩
end
end K43

-- K43B4
set_option Elab.async false
set_option linter.all false
set_option maxRecDepth 100000
set_option maxHeartbeats 4000000
/-! Bonds: rules, close -/
namespace K43
open PySem PySem.Spec PyProof.Rows L2
/-- statements joined at a state that Pm tells of -/
def tVia (t u : TS) : TS := fun D σ H => ∃ Pm : L2.St → Hp → Prop, t { D with nx := Pm } σ H ∧ ∀ σ H, Pm σ H → u D σ H
theorem pss_via {X : Cx} {st : Stmt} {rest : List Stmt} {t u : TS} (h1 : PS X st t) (h2 : PSs X rest u) : PSs X (st :: rest) (tVia t u) := by
  refine ⟨fun pins s σ H D I ⟨Pm, h, k⟩ => ?_⟩
  refine wpAny_execs_cons (thn (h1.run pins s σ H { D with nx := Pm } I h) fun f s1 q => ?_)
  cases f with
  | next =>
    obtain ⟨σ', H', I', q⟩ := q
    exact h2.run pins s1 σ' H' D I' (k _ _ q)
  | ret v => exact q
  | brk => exact q
  | cont => exact q
theorem walk_rg {n : Nat} : Walk (Itr 0 n) n (fun _ => True) (YFn fun i => .int (i : Nat)) := walk_range.mono (fun _ h => h) fun i H x H' _ _ ⟨e1, e2⟩ => ⟨e1, e2.trans (congrArg V.int (Int.zero_add _))⟩
/-- what holds is closed under the rules -/
structure Clo (es : List Ev) (PA PZ : Nat → Nat → Prop) : Prop where
  sym : ∀ i j, PA i j → PA j i
  up : ∀ i j, PZ i j → PA i j
  tr : ∀ i j k, PZ i j → PZ j k → i ≠ k → PZ i k
  ba : ∀ i j k, PZ i j → PA j k → i ≠ k → PA i k
  la : ∀ i j, PA i j → lateF es i j → PZ i j
/-- the tables hold nothing else -/
def Inn (PA PZ : Nat → Nat → Prop) (A Z : List Pr) : Prop := (∀ p ∈ A, PA p.1 p.2) ∧ ∀ p ∈ Z, PZ p.1 p.2
/-- nothing is to be done at this pair -/
structure Done (es : List Ev) (A Z : List Pr) (i j : Nat) : Prop where
  up : (i, j) ∈ Z → i ≠ j → (i, j) ∈ A
  tr : (i, j) ∈ Z → ∀ k, k < (looksF es).length → (j, k) ∈ Z → i ≠ k → (i, k) ∈ Z
  ba : (i, j) ∈ Z → ∀ k, k < (looksF es).length → k ≠ j → (j, k) ∈ A → i ≠ k → (i, k) ∈ A
  la : i ≠ j → (i, j) ∈ A → lateF es i j → (i, j) ∈ Z
theorem Frame.new {S : List Addr} {H H' : Hp} {l : Addr} {o : HO} (f : Frame S H H') (h : H l = none) : Frame S H (L2.upd H' l o) := fun b u e n => by
  rw [upd_ne (ne_of_none e h)]
  exact f b u e n
theorem Frame.none {S : List Addr} {H H0 : Hp} {p : Addr} {o : HO} (h0 : H0 p = none) (hn : ∀ x ∈ S, ∃ o, H0 x = some o) : p ∉ S := fun m => by
  obtain ⟨o, e⟩ := hn p m
  rw [h0] at e
  cases e
section
variable {K : PySem.W.Frag} {H0 H H' : Hp} {b : Bo} {A Z A1 Z1 A2 Z2 : List Pr} {hs : Nat → List Nat} {PA PZ : Nat → Nat → Prop}
abbrev S3 (b : Bo) : List Addr := [b.al, b.be, b.fa]
theorem BOk.old (o : BOk K H b A Z hs) : ∀ x ∈ S3 b, ∃ u, H x = some u := by
  intro x m
  simp only [List.mem_cons, List.not_mem_nil, or_false] at m
  obtain ⟨fs, hf, _⟩ := o.fa
  rcases m with rfl | rfl | rfl
  · exact ⟨_, o.al⟩
  · exact ⟨_, o.be⟩
  · exact ⟨_, hf⟩
/-- how far the tables have grown from A, Z -/
structure Grown (PA PZ : Nat → Nat → Prop) (A Z A1 Z1 : List Pr) (c : Bool) : Prop where
  subA : ∀ p ∈ A, p ∈ A1
  subZ : ∀ p ∈ Z, p ∈ Z1
  inn : Inn PA PZ A1 Z1
  no : c = false → A1 = A ∧ Z1 = Z
  yes : c = true → A.length + Z.length < A1.length + Z1.length
theorem Grown.rfl' (h : Inn PA PZ A Z) : Grown PA PZ A Z A Z false := ⟨fun _ h => h, fun _ h => h, h, fun _ => ⟨rfl, rfl⟩, fun z => by cases z⟩
theorem Grown.trans {c d : Bool} (g : Grown PA PZ A Z A1 Z1 c) (k : Grown PA PZ A1 Z1 A2 Z2 d) : Grown PA PZ A Z A2 Z2 (c || d) := by
  refine ⟨fun p h => k.subA p (g.subA p h), fun p h => k.subZ p (g.subZ p h), k.inn, fun z => ?_, fun z => ?_⟩
  · rw [Bool.or_eq_false_iff] at z
    obtain ⟨e1, e2⟩ := k.no z.2
    obtain ⟨e3, e4⟩ := g.no z.1
    exact ⟨e1.trans e3, e2.trans e4⟩
  · cases c with
    | false =>
      obtain ⟨e3, e4⟩ := g.no rfl
      have := k.yes (by simpa using z)
      rw [e3, e4] at this
      exact this
    | true =>
      have h1 := g.yes rfl
      cases d with
      | true => have := k.yes rfl; omega
      | false =>
        obtain ⟨e3, e4⟩ := k.no rfl
        rw [e3, e4]
        exact h1
theorem Grown.bind {i j : Nat} (inn : Inn PA PZ A Z) (h1 : PA i j) (h2 : PA j i) : Grown PA PZ A Z (A ++ [(i, j), (j, i)]) Z true := by
  refine ⟨fun p h => List.mem_append_left _ h, fun _ h => h, ⟨fun p h => ?_, inn.2⟩, fun z => (by cases z), fun _ => (by simp)⟩
  simp only [List.mem_append, List.mem_cons, List.not_mem_nil, or_false] at h
  rcases h with h | rfl | rfl
  · exact inn.1 p h
  · exact h1
  · exact h2
theorem Grown.lower {i j : Nat} (inn : Inn PA PZ A Z) (h1 : PZ i j) : Grown PA PZ A Z A (Z ++ [(i, j)]) true := by
  refine ⟨fun _ h => h, fun p h => List.mem_append_left _ h, ⟨inn.1, fun p h => ?_⟩, fun z => (by cases z), fun _ => (by simp)⟩
  simp only [List.mem_append, List.mem_cons, List.not_mem_nil, or_false] at h
  rcases h with h | rfl
  · exact inn.2 p h
  · exact h1
end
section
variable {P : Program} {w : World} {K : PySem.W.Frag} {mg : Str → Option Value} {base : Heap}
theorem MOk.imp {k : Nat} {C : Addr} {m : Str} {ps : List Str} {dvs : List V} {sp sp' : Sp} (G : MOk P w K mg base k C m ps dvs sp) (h : ∀ vs H Q E, sp' vs H Q E → sp vs H Q E) : MOk P w K mg base k C m ps dvs sp' :=
  let ⟨fd, ds, f, b, v⟩ := G.ok
  ⟨⟨fd, ds, f.imp h, b, v⟩, G.me⟩
/-- bind, lower by what they do to the tables -/
def spBindU (K : PySem.W.Frag) : Sp := fun vs H Q _ => ∃ b A Z hs, ∃ i j : Nat, ∃ a, ∃ PA PZ : Nat → Nat → Prop, vs = [.ref b.p, .int i, .int j, .ref a] ∧ BOk K H b A Z hs ∧ Inn PA PZ A Z ∧ i < (looksF b.es).length ∧ j < (looksF b.es).length ∧ SrcAt K H a ∧
  (i ≠ j → PA i j) ∧ (i ≠ j → PA j i) ∧ ∀ H' A' c, Frame (S3 b) H H' → BOk K H' b A' Z hs → Grown PA PZ A Z A' Z c → (i ≠ j → (i, j) ∈ A') → Q (.bl c) H'
def spLowerU (K : PySem.W.Frag) : Sp := fun vs H Q _ => ∃ b A Z hs, ∃ i j : Nat, ∃ a, ∃ PA PZ : Nat → Nat → Prop, vs = [.ref b.p, .int i, .int j, .ref a] ∧ BOk K H b A Z hs ∧ Inn PA PZ A Z ∧ i < (looksF b.es).length ∧ j < (looksF b.es).length ∧ SrcAt K H a ∧
  (i ≠ j → PZ i j) ∧ ∀ H' Z' c, Frame (S3 b) H H' → BOk K H' b A Z' hs → Grown PA PZ A Z A Z' c → (i ≠ j → (i, j) ∈ Z') → Q (.bl c) H'
theorem bindU {k : Nat} {ps : List Str} {dvs : List V} (G : MOk P w K mg base k (cB K) "bind" ps dvs (spBind K)) : MOk P w K mg base k (cB K) "bind" ps dvs (spBindU K) := by
  refine G.imp ?_
  rintro vs H Q E ⟨b, A, Z, hs, i, j, a, PA, PZ, rfl, o, inn, hi, hj, hsrc, h1, h2, q⟩
  refine ⟨b, A, Z, _, i, j, a, rfl, o, hi, hj, hsrc, fun e H' s => ?_, fun e1 e2 H' f o' => ?_⟩
  · exact q H' A false (Frame.of s) (o.same s) (Grown.rfl' inn) fun n => e.resolve_left n
  · exact q H' _ true f o' (Grown.bind inn (h1 e1) (h2 e1)) fun _ => by simp
theorem lowerU {k : Nat} {ps : List Str} {dvs : List V} (G : MOk P w K mg base k (cB K) "lower" ps dvs (spLower K)) : MOk P w K mg base k (cB K) "lower" ps dvs (spLowerU K) := by
  refine G.imp ?_
  rintro vs H Q E ⟨b, A, Z, hs, i, j, a, PA, PZ, rfl, o, inn, hi, hj, hsrc, h1, q⟩
  refine ⟨b, A, Z, _, i, j, a, rfl, o, hi, hj, hsrc, fun e H' s => ?_, fun e1 e2 H' f o' => ?_⟩
  · exact q H' Z false (Frame.of s) (o.same s) (Grown.rfl' inn) fun n => e.resolve_left n
  · exact q H' _ true f o' (Grown.lower inn (h1 e1)) fun _ => by simp
def spRules (K : PySem.W.Frag) : Sp := fun vs H Q _ => ∃ b A Z hs, ∃ i j : Nat, ∃ PA PZ : Nat → Nat → Prop, vs = [.ref b.p, .int i, .int j] ∧ BOk K H b A Z hs ∧ i < (looksF b.es).length ∧ j < (looksF b.es).length ∧ Clo b.es PA PZ ∧ Inn PA PZ A Z ∧
  ∀ H' A' Z' c, Frame (S3 b) H H' → BOk K H' b A' Z' hs → Grown PA PZ A Z A' Z' c → (c = false → Done b.es A Z i j) → Q (.bl c) H'
theorem scB_rules : FnScope ["self", "one", "other", "found", "third"] ["self", "one", "other"] (defScope sB_rules) := ⟨rfl, rfl, rfl, by decide +kernel, rfl, by decide +kernel, by decide +kernel⟩
/-- the list of answers while rules runs -/
structure Fnd (K : PySem.W.Frag) (H0 : Hp) (b : Bo) (hs : Nat → List Nat) (PA PZ : Nat → Nat → Prop) (l : Addr) (A Z : List Pr) (H : Hp) (bs : List Bool) (A1 Z1 : List Pr) : Prop where
  fr : Frame (S3 b) H0 H
  ls : H l = some (.lst (bs.map V.bl))
  o : BOk K H b A1 Z1 hs
  g : Grown PA PZ A Z A1 Z1 (bs.any id)
section
variable {H0 H H' : Hp} {b : Bo} {hs : Nat → List Nat} {PA PZ : Nat → Nat → Prop} {l : Addr} {A Z A1 Z1 A2 Z2 : List Pr} {bs : List Bool}
theorem Fnd.same (f : Fnd K H0 b hs PA PZ l A Z H bs A1 Z1) (s : Same H H') : Fnd K H0 b hs PA PZ l A Z H' bs A1 Z1 := ⟨f.fr.trans (Frame.of s), s _ _ f.ls, f.o.same s, f.g⟩
theorem BOk.redo (o0 : BOk K H0 b A Z hs) (o : BOk K H b A2 Z2 hs) (fr : Frame (S3 b) H0 H') (h1 : H' b.al = H b.al) (h2 : H' b.be = H b.be) (h3 : H' b.fa = H b.fa) : BOk K H' b A2 Z2 hs :=
  o0.step (fr.mono (by intro x hx; simp at hx ⊢; rcases hx with rfl | rfl | rfl <;> simp)) (h1.trans o.al) (h2.trans o.be) (o0.hasKeep fr) (let ⟨fs, e, l⟩ := o.fa; ⟨fs, h3.trans e, l⟩) o.dA o.dZ o.sym o.inA o.inZ o.inH
theorem Fnd.nf (o0 : BOk K H0 b A Z hs) (hl : H0 l = none) : l ≠ b.fa := fun z => by
  obtain ⟨fs, hf, _⟩ := o0.fa
  rw [z, hf] at hl
  cases hl
theorem Fnd.push {c : Bool} (f : Fnd K H0 b hs PA PZ l A Z H bs A1 Z1) (o0 : BOk K H0 b A Z hs) (hl : H0 l = none) (fr : Frame (S3 b) H H') (o : BOk K H' b A2 Z2 hs) (g : Grown PA PZ A1 Z1 A2 Z2 c) :
    H' l = some (.lst (bs.map V.bl)) ∧ Fnd K H0 b hs PA PZ l A Z (upd H' l (.lst (bs.map V.bl ++ [.bl c]))) (bs ++ [c]) A2 Z2 := by
  have nf := Fnd.nf o0 hl
  have nal : b.al ≠ l := ne_of f.o.al f.ls (by intro z; cases z)
  have nbe : b.be ≠ l := ne_of f.o.be f.ls (by intro z; cases z)
  have h1 : H' l = some (.lst (bs.map V.bl)) := fr _ _ f.ls (by simp only [List.mem_cons, List.not_mem_nil, or_false, not_or]; exact ⟨Ne.symm nal, Ne.symm nbe, nf⟩)
  have f2 : Frame (S3 b) H0 (upd H' l (.lst (bs.map V.bl ++ [.bl c]))) := (f.fr.trans fr).new hl
  refine ⟨h1, f2, ?_, o0.redo o f2 (upd_ne nal) (upd_ne nbe) (upd_ne (Ne.symm nf)), ?_⟩
  · rw [upd_same, List.map_append]
    rfl
  · rw [List.any_append]
    have := f.g.trans g
    simpa using this
end
theorem okB_rules {f : Addr} {fd : FuncData} {dvs : List V} (F : FunD K "rules" "Bonds.rules" (defArgs sB_rules) (defBody sB_rules) (defScope sB_rules) [] [] f fd) (T : Txt K mg) (GM : GB P w K mg base 1 "many" ["self"] (spMany K)) (GW : GB P w K mg base 1 "is_below" ["self", "one", "other"] (spBelow K))
    (GA : GB P w K mg base 1 "is_alike" ["self", "one", "other"] (spAlike K)) {d1 d2 : List V} (GB0 : MOk P w K mg base 2 (cB K) "bind" ["self", "one", "other", "source"] [] (spBind K)) (GL0 : MOk P w K mg base 2 (cB K) "lower" ["self", "one", "other", "source"] [] (spLower K)) (GT : GB P w K mg base 1 "is_late" ["self", "one", "other"] (spLate K)) :
    FnOk P w K mg base CX0 3 f fd ["self", "one", "other"] (spRules K) := by
  refine okD F scB_rules (fun vs H Q E h => ?_) (fun cdv A0 outer s H vs Q E hr h => ?_)
  · obtain ⟨b, A, Z, hs, i, j, PA, PZ, rfl, _⟩ := h
    rfl
  · obtain ⟨b, A, Z, hs, i, j, PA, PZ, rfl, o, hi, hj, clo, inn, k⟩ := h
    have hu := hu_of hr
    have hr1 := hr.mono (show 1 ≤ 2 by decide)
    have GB' := bindU GB0
    have GL := lowerU GL0
    obtain ⟨dx, hob⟩ := o.ob
    refine ⟨_, pss_cons (ps_set (i := 3) scB_rules.nd rfl (Or.inl rfl) (pe_lstS pa_nil))
      (pss_via (ps_if (pt_val (pe_m GW hr1 T.clB (pv 0) (pa_cons (pv 1) (pa_cons (pv 2) pa_nil))))
        (pss_cons (ps_expr (pe_bm PySem.F.plainAttrs_list PySem.F.slot_list_append PySem.F.type_list_append mt_append (pv 3)
            (pa_cons (pe_m GB' hr T.clB (pv 0) (pa_cons (pv 1) (pa_cons (pv 2) (pa_cons (pe_lstS (pa_cons (pe_tupS (pa_cons (pe_gs T.BEGINS) (pa_cons (pv 1) (pa_cons (pv 2) pa_nil)))) pa_nil)) pa_nil)))) pa_nil)))
        (pss_one (ps_for PassesOwn.never rfl (pi_range1 (by rfl) T.range (pa_cons (pe_m0 GM hr1 T.clB (pv 0)) pa_nil)) (pg_name (i := 4) scB_rules.nd rfl (Or.inl rfl))
          (pss_via (ps_if (pt_val (pe_m GW hr1 T.clB (pv 0) (pa_cons (pv 2) (pa_cons (pv 4) pa_nil))))
            (pss_one (ps_expr (pe_bm PySem.F.plainAttrs_list PySem.F.slot_list_append PySem.F.type_list_append mt_append (pv 3)
              (pa_cons (pe_m GL hr T.clB (pv 0) (pa_cons (pv 1) (pa_cons (pv 4) (pa_cons (pe_lstS (pa_cons (pe_tupS (pa_cons (pe_gs T.BEGINS) (pa_cons (pv 1) (pa_cons (pv 2) pa_nil)))) (pa_cons (pe_tupS (pa_cons (pe_gs T.BEGINS) (pa_cons (pv 2) (pa_cons (pv 4) pa_nil)))) pa_nil))) pa_nil)))) pa_nil)))) pss_nil)
          (pss_one (ps_if (PW.pt (pw_and (pt_cmpR op_ne (pv 4) (pv 2) (nomark _)) (pw_and1 (pt_val (pe_m GA hr1 T.clB (pv 0) (pa_cons (pv 2) (pa_cons (pv 4) pa_nil)))))))
            (pss_one (ps_expr (pe_bm PySem.F.plainAttrs_list PySem.F.slot_list_append PySem.F.type_list_append mt_append (pv 3)
              (pa_cons (pe_m GB' hr T.clB (pv 0) (pa_cons (pv 1) (pa_cons (pv 4) (pa_cons (pe_lstS (pa_cons (pe_tupS (pa_cons (pe_gs T.BEGINS) (pa_cons (pv 1) (pa_cons (pv 2) pa_nil)))) (pa_cons (pe_tupS (pa_cons (pe_gs T.ALIKE) (pa_cons (pv 2) (pa_cons (pv 4) pa_nil)))) pa_nil))) pa_nil)))) pa_nil)))) pss_nil)))))) pss_nil)
      (pss_via (ps_if (PW.pt (pw_and (pt_cmpR op_ne (pv 1) (pv 2) (nomark _)) (pw_and (pt_val (pe_m GA hr1 T.clB (pv 0) (pa_cons (pv 1) (pa_cons (pv 2) pa_nil)))) (pw_and1 (pt_val (pe_m GT hr1 T.clB (pv 0) (pa_cons (pv 1) (pa_cons (pv 2) pa_nil))))))))
        (pss_one (ps_expr (pe_bm PySem.F.plainAttrs_list PySem.F.slot_list_append PySem.F.type_list_append mt_append (pv 3)
          (pa_cons (pe_m GL hr T.clB (pv 0) (pa_cons (pv 1) (pa_cons (pv 2) (pa_cons (pe_lstS (pa_cons (pe_tupS (pa_cons (pe_gs T.ALIKE) (pa_cons (pv 1) (pa_cons (pv 2) pa_nil)))) pa_nil)) pa_nil)))) pa_nil)))) pss_nil)
      (pss_one (ps_ret (pe_callB (cr_any rfl) (by rfl) T.any PyProof.Rows.boot_any (pa_cons (pv 3) pa_nil)))))), ?_⟩
    refine ⟨t0, fun l H1 hl s1 h1 => ?_⟩
    have nf := Fnd.nf o hl
    have f1 : Fnd K H b hs PA PZ l A Z H1 [] A Z := ⟨Frame.of s1, h1, o.same s1, Grown.rfl' inn⟩
    have app : ∀ {H3 H4 : Hp} {bs : List Bool} {A1 Z1 A2 Z2 : List Pr} {c : Bool} {R : VK}, Fnd K H b hs PA PZ l A Z H3 bs A1 Z1 → bs.length ≤ 100 → Frame (S3 b) H3 H4 → BOk K H4 b A2 Z2 hs → Grown PA PZ A1 Z1 A2 Z2 c →
        (∀ H5, Fnd K H b hs PA PZ l A Z H5 (bs ++ [c]) A2 Z2 → R .non H5) → rAppend (.ref l) [.bl c] H4 R := fun f hl2 fr o2 g q => by
      obtain ⟨h2, f2⟩ := f.push o hl fr o2 g
      exact ⟨l, _, _, rfl, rfl, h2, line64' (by rw [List.length_map]; omega), q _ f2⟩
    refine ⟨fun σ H2 => ∃ bs A1 Z1 o4, σ = [some (.ref b.p), some (.int i), some (.int j), some (.ref l), o4] ∧ Fnd K H b hs PA PZ l A Z H2 bs A1 Z1 ∧ bs.length ≤ 40 ∧
      (bs.any id = false → ((i, j) ∈ Z → i ≠ j → (i, j) ∈ A) ∧ ((i, j) ∈ Z → ∀ k, k < (looksF b.es).length → (j, k) ∈ Z → i ≠ k → (i, k) ∈ Z) ∧ ((i, j) ∈ Z → ∀ k, k < (looksF b.es).length → k ≠ j → (j, k) ∈ A → i ≠ k → (i, k) ∈ A)), ?_, ?_⟩
    · refine ⟨_, rfl, _, dx, _, rfl, s1 _ _ hob, bF_no b (by decide +kernel), _, rfl, _, rfl, b, A, Z, hs, i, j, rfl, o.same s1, fun H2 s2 => ⟨_, rfl, ite2 (fun e => ?_) (fun e => ?_)⟩⟩
      · have eZ : (i, j) ∈ Z := of_decide_eq_true e
        have pz : PZ i j := inn.2 _ eZ
        have f2 := f1.same s2
        obtain ⟨dx2, hob2⟩ := f2.o.ob
        refine ⟨_, rfl, .inl ⟨rfl, _, SqL.of f2.ls⟩, _, rfl, _, dx2, _, rfl, hob2, bF_no b (by decide +kernel), _, rfl, _, rfl, _, rfl, _, rfl, t3, fun t H3 ht s3 h3 => ⟨t1, fun a H4 ha s4 h4 => ?_⟩⟩
        have f4 := (f2.same s3).same s4
        refine ⟨b, A, Z, hs, i, j, a, PA, PZ, rfl, f4.o, inn, hi, hj, .inl ⟨_, h4⟩, fun _ => clo.up _ _ pz, fun _ => clo.sym _ _ (clo.up _ _ pz), fun H5 A5 c fr5 o5 g5 ct => ?_⟩
        obtain ⟨hl5, f6⟩ := f4.push o hl fr5 o5 g5
        refine ⟨l, _, _, rfl, rfl, hl5, line64' (by decide), ?_⟩
        generalize hH6 : upd H5 l _ = H6 at f6 ⊢
        obtain ⟨dx6, hob6⟩ := f6.o.ob
        have hm := o.m
        refine ⟨_, rfl, _, dx6, _, rfl, hob6, bF_no b (by decide +kernel), b, A5, Z, hs, rfl, f6.o, _, rfl, by omega, by omega, ?_⟩
        rw [Int.toNat_natCast]
        refine for_it walk_rg (fun t σ H7 => ∃ bs A1 Z1 o4, σ = [some (.ref b.p), some (.int i), some (.int j), some (.ref l), o4] ∧ Fnd K H b hs PA PZ l A Z H7 bs A1 Z1 ∧ bs.length ≤ 1 + 2 * t ∧
          (bs.any id = false → (i ≠ j → (i, j) ∈ A) ∧ (∀ k, k < t → (j, k) ∈ Z → i ≠ k → (i, k) ∈ Z) ∧ (∀ k, k < t → k ≠ j → (j, k) ∈ A → i ≠ k → (i, k) ∈ A))) ⟨[c], A5, Z, none, rfl, f6, by simp, fun z => ⟨fun n => ?_, fun k hk => by omega, fun k hk => by omega⟩⟩ (fun _ _ _ _ _ => trivial) ?_ ?_
        · have := ct n
          rw [(f6.g.no z).1] at this
          exact this
        · rintro t x σ H7 H8 ht ⟨bs, A1, Z1, o4, rfl, f7, hlb, hd⟩ ⟨rfl, rfl⟩
          obtain ⟨dx7, hob7⟩ := f7.o.ob
          refine ⟨fun σ H9 => ∃ bs2 A2 Z2, σ = [some (.ref b.p), some (.int i), some (.int j), some (.ref l), some (.int (t : Nat))] ∧ Fnd K H b hs PA PZ l A Z H9 bs2 A2 Z2 ∧ bs2.length ≤ 2 + 2 * t ∧
            (bs2.any id = false → bs.any id = false ∧ ((j, t) ∈ Z → i ≠ t → (i, t) ∈ Z)), ?_, ?_⟩
          · refine ⟨_, rfl, _, dx7, _, rfl, hob7, bF_no b (by decide +kernel), _, rfl, _, rfl, b, A1, Z1, hs, j, t, rfl, f7.o, fun H9 s9 => ⟨_, rfl, ite2 (fun e => ?_) (fun e => ?_)⟩⟩
            · have pz2 : PZ j t := f7.g.inn.2 _ (of_decide_eq_true e)
              have f9 := f7.same s9
              obtain ⟨dx9, hob9⟩ := f9.o.ob
              refine ⟨_, rfl, .inl ⟨rfl, _, SqL.of f9.ls⟩, _, rfl, _, dx9, _, rfl, hob9, bF_no b (by decide +kernel), _, rfl, _, rfl, _, rfl, _, rfl, t3, fun q1 G1 hq1 sq1 h1' => ⟨_, rfl, _, rfl, t3, fun q2 G2 hq2 sq2 h2' => ⟨t2, fun a3 G3 ha3 sq3 h3' => ?_⟩⟩⟩
              have g3 := ((f9.same sq1).same sq2).same sq3
              refine ⟨b, A1, Z1, hs, i, t, a3, PA, PZ, rfl, g3.o, f9.g.inn, hi, ht, .inl ⟨_, h3'⟩, fun n => clo.tr _ _ _ pz pz2 n, fun G4 Z4 c4 fr4 o4' g4 ct4 => ?_⟩
              obtain ⟨hl4, f10⟩ := g3.push o hl fr4 o4' g4
              refine ⟨l, _, _, rfl, rfl, hl4, line64' (by rw [List.length_map]; omega), bs ++ [c4], A1, Z4, rfl, f10, by rw [List.length_append]; simp; omega, fun z => ?_⟩
              rw [List.any_append, Bool.or_eq_false_iff] at z
              refine ⟨z.1, fun _ n => ?_⟩
              have h5 := ct4 n
              have e1 := (f10.g.no (by rw [List.any_append, Bool.or_eq_false_iff]; exact z)).2
              rw [e1] at h5
              exact h5
            · refine ⟨bs, A1, Z1, rfl, f7.same s9, by omega, fun z => ⟨z, fun m => ?_⟩⟩
              have e1 := (f7.g.no z).2
              rw [e1] at e
              exact absurd (decide_eq_true m) e
          · rintro σ H9 ⟨bs2, A2, Z2, rfl, f9, hlb2, hd2⟩
            obtain ⟨dx9, hob9⟩ := f9.o.ob
            have last : ∀ H10 bs3 A3 Z3, Fnd K H b hs PA PZ l A Z H10 bs3 A3 Z3 → bs3.length ≤ 1 + 2 * (t + 1) → (bs3.any id = false → bs2.any id = false ∧ (t ≠ j → (j, t) ∈ A → i ≠ t → (i, t) ∈ A)) →
                ∃ bs A1 Z1 o4, [some (.ref b.p), some (.int i), some (.int j), some (.ref l), some (V.int (t : Nat))] = [some (.ref b.p), some (.int i), some (.int j), some (.ref l), o4] ∧ Fnd K H b hs PA PZ l A Z H10 bs A1 Z1 ∧ bs.length ≤ 1 + 2 * (t + 1) ∧
                (bs.any id = false → (i ≠ j → (i, j) ∈ A) ∧ (∀ k, k < t + 1 → (j, k) ∈ Z → i ≠ k → (i, k) ∈ Z) ∧ (∀ k, k < t + 1 → k ≠ j → (j, k) ∈ A → i ≠ k → (i, k) ∈ A)) := fun H10 bs3 A3 Z3 f10 hl3 hd3 => by
              refine ⟨bs3, A3, Z3, _, rfl, f10, hl3, fun z => ?_⟩
              obtain ⟨z2, d3⟩ := hd3 z
              obtain ⟨z1, d2⟩ := hd2 z2
              obtain ⟨d1, d4, d5⟩ := hd z1
              refine ⟨d1, fun k hk => ?_, fun k hk => ?_⟩
              · by_cases e : k = t
                · subst e; exact d2
                · exact d4 k (by omega)
              · by_cases e : k = t
                · subst e; exact d3
                · exact d5 k (by omega)
            refine ⟨_, rfl, _, rfl, rfl, _, rfl, ite2 (fun e => ?_) (fun e => ?_)⟩
            · have ntj : t ≠ j := fun z => by rw [z] at e; simp at e
              refine ⟨_, rfl, _, dx9, _, rfl, hob9, bF_no b (by decide +kernel), _, rfl, _, rfl, b, A2, Z2, hs, j, t, rfl, f9.o, fun H10 s10 => ⟨_, rfl, ite2 (fun e => ?_) (fun e => ?_)⟩⟩
              · have pa2 : PA j t := by
                  rcases of_decide_eq_true e with z | z
                  · exact absurd z.symm ntj
                  · exact f9.g.inn.1 _ z
                have f10 := f9.same s10
                obtain ⟨dx10, hob10⟩ := f10.o.ob
                refine ⟨_, rfl, .inl ⟨rfl, _, SqL.of f10.ls⟩, _, rfl, _, dx10, _, rfl, hob10, bF_no b (by decide +kernel), _, rfl, _, rfl, _, rfl, _, rfl, t3, fun q1 G1 hq1 sq1 h1' => ⟨_, rfl, _, rfl, t3, fun q2 G2 hq2 sq2 h2' => ⟨t2, fun a3 G3 ha3 sq3 h3' => ?_⟩⟩⟩
                have g3 := ((f10.same sq1).same sq2).same sq3
                refine ⟨b, A2, Z2, hs, i, t, a3, PA, PZ, rfl, g3.o, f10.g.inn, hi, ht, .inl ⟨_, h3'⟩, fun n => clo.ba _ _ _ pz pa2 n, fun n => clo.sym _ _ (clo.ba _ _ _ pz pa2 n), fun G4 A4 c4 fr4 o4' g4 ct4 => ?_⟩
                obtain ⟨hl4, f11⟩ := g3.push o hl fr4 o4' g4
                refine ⟨l, _, _, rfl, rfl, hl4, line64' (by rw [List.length_map]; omega), last _ (bs2 ++ [c4]) A4 Z2 f11 (by rw [List.length_append]; simp; omega) fun z => ?_⟩
                have e1 := (f11.g.no z).1
                rw [List.any_append, Bool.or_eq_false_iff] at z
                refine ⟨z.1, fun _ _ n => ?_⟩
                have h5 := ct4 n
                rw [e1] at h5
                exact h5
              · refine last _ bs2 A2 Z2 (f9.same s10) (by omega) fun z => ⟨z, fun n m => ?_⟩
                rw [(f9.g.no z).1] at e
                exact absurd (decide_eq_true (.inr m)) e
            · refine last _ bs2 A2 Z2 f9 (by omega) fun z => ⟨z, fun n m => ?_⟩
              refine absurd ?_ e
              have : V.int (t : Nat) ≠ V.int j := fun z => n (by have := V.int.inj z; omega)
              simp [this]
        · rintro σ H7 ⟨bs, A1, Z1, o4, rfl, f7, hlb, hd⟩
          exact ⟨bs, A1, Z1, o4, rfl, f7, by omega, fun z => ⟨fun _ => (hd z).1, fun _ => (hd z).2.1, fun _ => (hd z).2.2⟩⟩
      · exact ⟨[], A, Z, none, rfl, f1.same s2, by decide, fun _ => ⟨fun z => absurd (decide_eq_true z) e, fun z => absurd (decide_eq_true z) e, fun z => absurd (decide_eq_true z) e⟩⟩
    · rintro σ H2 ⟨bs, A1, Z1, o4, rfl, f2, hlb, hd⟩
      refine ⟨fun σ H3 => ∃ bs A2 Z2 o4, σ = [some (.ref b.p), some (.int i), some (.int j), some (.ref l), o4] ∧ Fnd K H b hs PA PZ l A Z H3 bs A2 Z2 ∧ bs.length ≤ 50 ∧ (bs.any id = false → Done b.es A Z i j), ?_, ?_⟩
      · refine ⟨_, rfl, _, rfl, rfl, _, rfl, ite2 (fun e => ?_) (fun e => ?_)⟩
        · have nij : i ≠ j := fun z => by rw [z] at e; simp at e
          obtain ⟨dx2, hob2⟩ := f2.o.ob
          refine ⟨_, rfl, _, dx2, _, rfl, hob2, bF_no b (by decide +kernel), _, rfl, _, rfl, b, A1, Z1, hs, i, j, rfl, f2.o, fun H3 s3 => ⟨_, rfl, ite2 (fun e => ?_) (fun e => ?_)⟩⟩
          · have pa : PA i j := by
              rcases of_decide_eq_true e with z | z
              · exact absurd z nij
              · exact f2.g.inn.1 _ z
            have f3 := f2.same s3
            obtain ⟨dx3, hob3⟩ := f3.o.ob
            refine ⟨_, rfl, _, dx3, _, rfl, hob3, bF_no b (by decide +kernel), _, rfl, _, rfl, b, A1, Z1, hs, i, j, rfl, f3.o, hi, hj, fun cl H4 s4 hcl => ⟨_, rfl, ite2 (fun e => ?_) (fun e => ?_)⟩⟩
            · have f4 := f3.same s4
              obtain ⟨dx4, hob4⟩ := f4.o.ob
              refine ⟨_, rfl, .inl ⟨rfl, _, SqL.of f4.ls⟩, _, rfl, _, dx4, _, rfl, hob4, bF_no b (by decide +kernel), _, rfl, _, rfl, _, rfl, _, rfl, t3, fun q1 G1 hq1 sq1 h1' => ⟨t1, fun a3 G3 ha3 sq3 h3' => ?_⟩⟩
              have g3 := (f4.same sq1).same sq3
              refine ⟨b, A1, Z1, hs, i, j, a3, PA, PZ, rfl, g3.o, f4.g.inn, hi, hj, .inl ⟨_, h3'⟩, fun n => clo.la _ _ pa (hcl.mp e), fun G4 Z4 c4 fr4 o4' g4 ct4 => ?_⟩
              obtain ⟨hl4, f10⟩ := g3.push o hl fr4 o4' g4
              refine ⟨l, _, _, rfl, rfl, hl4, line64' (by rw [List.length_map]; omega), bs ++ [c4], A1, Z4, _, rfl, f10, by rw [List.length_append]; simp; omega, fun z => ?_⟩
              have e1 := (f10.g.no z).2
              rw [List.any_append, Bool.or_eq_false_iff] at z
              obtain ⟨d1, d2, d3⟩ := hd z.1
              exact ⟨d1, d2, d3, fun n _ _ => by have h5 := ct4 n; rw [e1] at h5; exact h5⟩
            · exact ⟨bs, A1, Z1, _, rfl, f3.same s4, by omega, fun z => let ⟨d1, d2, d3⟩ := hd z; ⟨d1, d2, d3, fun _ _ q => absurd (hcl.mpr q) e⟩⟩
          · refine ⟨bs, A1, Z1, _, rfl, f2.same s3, by omega, fun z => let ⟨d1, d2, d3⟩ := hd z; ⟨d1, d2, d3, fun _ m _ => ?_⟩⟩
            rw [(f2.g.no z).1] at e
            exact absurd (decide_eq_true (.inr m)) e
        · refine ⟨bs, A1, Z1, _, rfl, f2, by omega, fun z => let ⟨d1, d2, d3⟩ := hd z; ⟨d1, d2, d3, fun n _ _ => ?_⟩⟩
          refine absurd ?_ e
          have : V.int (i : Nat) ≠ V.int j := fun z => n (by have := V.int.inj z; omega)
          simp [this]
      · rintro σ H3 ⟨bs, A2, Z2, o4, rfl, f3, hlb3, hd3⟩
        refine ⟨_, rfl, l, bs, rfl, SqL.of f3.ls, k H3 A2 Z2 _ f3.fr f3.o f3.g hd3⟩
end
end K43

-- K43B5
set_option Elab.async false
set_option linter.all false
set_option maxRecDepth 100000
set_option maxHeartbeats 4000000
/-! Bonds: close -/
namespace K43
open PySem PySem.Spec PyProof.Rows L2
/-! ### a comprehension over two walks whose turns write -/
theorem lc2_it {J : It} {n : Nat} {G : Hp → Prop} {Y : Nat → Hp → V → Hp → Prop} (w : Walk J n G Y) {g : TG} {tt : TT} {T1 : L2.St → Hp → (Hp → Prop) → Prop} {vs : List Nat} {σ : L2.St} {H1 : Hp} {D : Addr} {Qd : Hp → Prop} (Pv : Nat → Hp → Prop)
    (h0 : Pv 0 (upd H1 D (.lst []))) (hG : ∀ i H, i ≤ n → Pv i H → G H)
    (hs : ∀ i x H H', i < n → Pv i H → Y i H x H' → g x (wipe σ vs) H' fun σ2 H2 => wipe σ2 vs = wipe σ vs ∧ tt σ2 H2 fun b H3 => if b = true then T1 σ2 H3 (Pv (i + 1)) else Pv (i + 1) H3) (hd : ∀ H, Pv n H → Qd H) :
    ∃ W : Nat → Nat → Hp → Prop, (∃ m, W 0 m (upd H1 D (.lst []))) ∧ ∀ i m H, W i m H →
      (J.stop i H ∧ Qd H) ∨ (J.go i H ∧ ∃ Nx : Hp → Prop, (∀ H', Nx H' → ∃ m', m' < m ∧ W (i + 1) m' H') ∧ ∀ x H', J.yld i H x H' → g x (wipe σ vs) H' fun σ2 H2 => wipe σ2 vs = wipe σ vs ∧ tt σ2 H2 fun b H3 => if b = true then T1 σ2 H3 Nx else Nx H3) := by
  refine ⟨fun i m H => m = n - i ∧ i ≤ n ∧ Pv i H, ⟨n, by simp, Nat.zero_le _, h0⟩, ?_⟩
  rintro i m H ⟨rfl, hi, p⟩
  have q := hG i H hi p
  by_cases hlt : i < n
  · exact .inr ⟨w.goes i H hlt q, Pv (i + 1), fun H' p' => ⟨n - (i + 1), by omega, rfl, hlt, p'⟩, fun x H' y => hs i x H H' hlt p (w.yields i H x H' hlt q y)⟩
  · have e : i = n := by omega
    subst e
    exact .inl ⟨w.stops H q, hd H p⟩
theorem lcI_it {J : It} {n : Nat} {G : Hp → Prop} {Y : Nat → Hp → V → Hp → Prop} (w : Walk J n G Y) {g : TG} {tt : TT} {te : TE} {vs : List Nat} {σ : L2.St} {H1 : Hp} {D : Addr} {Nx : Hp → Prop} (Pv : Nat → Hp → Prop)
    (h0 : Pv 0 H1) (hG : ∀ i H, i ≤ n → Pv i H → G H)
    (hs : ∀ i x H H', i < n → Pv i H → Y i H x H' → g x (wipe σ vs) H' fun σ2 H2 => wipe σ2 vs = wipe σ vs ∧ tt σ2 H2 fun b H3 =>
      if b = true then te σ2 H3 fun y H4 => ∃ acc, H4 D = some (.lst acc) ∧ acc.length < sizeLine ∧ Pv (i + 1) (upd H4 D (.lst (acc ++ [y]))) else Pv (i + 1) H3) (hd : ∀ H, Pv n H → Nx H) :
    ∃ W : Nat → Nat → Hp → Prop, (∃ m, W 0 m H1) ∧ ∀ i m H, W i m H →
      (J.stop i H ∧ Nx H) ∨ (J.go i H ∧ ∃ Nx1 : Hp → Prop, (∀ H', Nx1 H' → ∃ m', m' < m ∧ W (i + 1) m' H') ∧ ∀ x H', J.yld i H x H' → g x (wipe σ vs) H' fun σ2 H2 => wipe σ2 vs = wipe σ vs ∧ tt σ2 H2 fun b H3 =>
        if b = true then te σ2 H3 fun y H4 => ∃ acc, H4 D = some (.lst acc) ∧ acc.length < sizeLine ∧ Nx1 (upd H4 D (.lst (acc ++ [y]))) else Nx1 H3) := by
  refine ⟨fun i m H => m = n - i ∧ i ≤ n ∧ Pv i H, ⟨n, by simp, Nat.zero_le _, h0⟩, ?_⟩
  rintro i m H ⟨rfl, hi, p⟩
  have q := hG i H hi p
  by_cases hlt : i < n
  · exact .inr ⟨w.goes i H hlt q, Pv (i + 1), fun H' p' => ⟨n - (i + 1), by omega, rfl, hlt, p'⟩, fun x H' y => hs i x H H' hlt p (w.yields i H x H' hlt q y)⟩
  · have e : i = n := by omega
    subst e
    exact .inl ⟨w.stops H q, hd H p⟩
section
variable {P : Program} {w : World} {K : PySem.W.Frag} {mg : Str → Option Value} {base : Heap}
def spClose (K : PySem.W.Frag) : Sp := fun vs H Q _ => ∃ b A Z hs, ∃ PA PZ : Nat → Nat → Prop, vs = [.ref b.p] ∧ BOk K H b A Z hs ∧ Clo b.es PA PZ ∧ Inn PA PZ A Z ∧
  ∀ H' A' Z', Frame (S3 b) H H' → BOk K H' b A' Z' hs → (∀ p ∈ A, p ∈ A') → (∀ p ∈ Z, p ∈ Z') → Inn PA PZ A' Z' → (∀ i j, i < (looksF b.es).length → j < (looksF b.es).length → Done b.es A' Z' i j) → Q .non H'
theorem scB_close : FnScope ["self", "goes_on", "one", "other"] ["self"] (defScope sB_close) := ⟨rfl, rfl, rfl, by decide +kernel, rfl, by decide +kernel, by decide +kernel⟩
theorem okB_close {f : Addr} {fd : FuncData} (F : FunD K "close" "Bonds.close" (defArgs sB_close) (defBody sB_close) (defScope sB_close) [] [] f fd) (T : Txt K mg) (GM : GB P w K mg base 1 "many" ["self"] (spMany K))
    (GR : GB P w K mg base 3 "rules" ["self", "one", "other"] (spRules K)) : FnOk P w K mg base CX0 4 f fd ["self"] (spClose K) := by
  refine okD F scB_close (fun vs H Q E h => ?_) (fun cdv A0 outer s H vs Q E hr h => ?_)
  · obtain ⟨b, A, Z, hs, PA, PZ, rfl, _⟩ := h
    rfl
  · obtain ⟨b, A, Z, hs, PA, PZ, rfl, o, clo, inn, k⟩ := h
    have hu := hu_of hr
    have hr1 := hr.mono (show 1 ≤ 3 by decide)
    refine ⟨_, pss_cons (ps_set (i := 1) scB_close.nd rfl (Or.inl rfl) pe_bl)
      (pss_one (ps_while PassesOwn.never (pt_val (pv 1)) (pss_one (ps_set (i := 1) scB_close.nd rfl (Or.inl rfl)
        (pe_callB (cr_any rfl) (by rfl) T.any PyProof.Rows.boot_any (pa_cons
          (pe_lc2 (own := [("one", 2), ("other", 3)]) (vs1 := [3]) (g := gName 2) (tt := tYes) (wi1 := iRng1 (tCons (tMeth (cB K) "many" (spMany K) [] E0 (tVar 0) tNil) tNil)) (g1 := gName 3) (tt1 := tYes)
            (te := tMeth (cB K) "rules" (spRules K) [] E0 (tVar 0) (tCons (tVar 2) (tCons (tVar 3) tNil))) rfl scB_close.nd
            (pi_range1 (by rfl) T.range (pa_cons (pe_m0 GM hr1 T.clB (pv 0)) pa_nil)) (blkOk_by (own := [("one", 2), ("other", 3)]) (N := ["self", "goes_on", "one", "other"]) (sc := defScope sB_close) (by decide +kernel)) (by decide)
            (fun _ _ _ _ _ => pg_name (i := 2) scB_close.nd rfl (Or.inl rfl)) (fun _ _ _ _ _ => pts_nil)
            (fun _ _ _ _ _ => pi_range1 (by rfl) T.range (pa_cons (pe_m0 GM hr1 T.clB (pv 0)) pa_nil))
            (fun _ _ _ _ _ => pg_name (i := 3) scB_close.nd rfl (Or.inl rfl)) (fun _ _ _ _ _ => pts_nil)
            (fun _ _ _ _ _ => pe_m GR hr T.clB (pv 0) (pa_cons (pv 2) (pa_cons (pv 3) pa_nil)))) pa_nil)))))), ?_⟩
    have hm := o.m
    refine ⟨fun m σ H' => ∃ g A1 Z1, σ = [some (.ref b.p), some (.bl g), none, none] ∧ Frame (S3 b) H H' ∧ BOk K H' b A1 Z1 hs ∧ (∀ p ∈ A, p ∈ A1) ∧ (∀ p ∈ Z, p ∈ Z1) ∧ Inn PA PZ A1 Z1 ∧
      (g = false → ∀ i j, i < (looksF b.es).length → j < (looksF b.es).length → Done b.es A1 Z1 i j) ∧ m = 600 - (A1.length + Z1.length) + (if g = true then 1 else 0), ⟨_, true, A, Z, rfl, Frame.refl _ _, o, fun _ h => h, fun _ h => h, inn, fun z => (by cases z), rfl⟩, ?_⟩
    rintro m σ H1 ⟨g, A1, Z1, rfl, fr1, o1, sA, sZ, inn1, dn, rfl⟩
    refine ⟨_, rfl, g, rfl, ?_⟩
    cases g with
    | false => exact iteF (k H1 A1 Z1 fr1 o1 sA sZ inn1 (dn rfl))
    | true =>
      refine iteT ⟨fun σ H' => ∃ g A2 Z2, σ = [some (.ref b.p), some (.bl g), none, none] ∧ Frame (S3 b) H H' ∧ BOk K H' b A2 Z2 hs ∧ Grown PA PZ A1 Z1 A2 Z2 g ∧ (g = false → ∀ i j, i < (looksF b.es).length → j < (looksF b.es).length → Done b.es A1 Z1 i j), ?_, ?_⟩
      · rintro σ' H' ⟨g, A2, Z2, rfl, fr2, o2, gr, dn2⟩
        have l1 := o1.lenA
        have l2 := o1.lenZ
        have l3 := o2.lenA
        have l4 := o2.lenZ
        refine ⟨_, ?_, g, A2, Z2, rfl, fr2, o2, fun p h => gr.subA p (sA p h), fun p h => gr.subZ p (sZ p h), gr.inn, fun z => ?_, rfl⟩
        · cases g with
          | true => have := gr.yes rfl; simp; omega
          | false => obtain ⟨e1, e2⟩ := gr.no rfl; rw [e1, e2]; simp
        · obtain ⟨e1, e2⟩ := gr.no z
          rw [e1, e2]
          exact dn2 z
      · obtain ⟨dx, hob⟩ := o1.ob
        refine ⟨_, rfl, _, dx, _, rfl, hob, bF_no b (by decide +kernel), b, A1, Z1, hs, rfl, o1, _, rfl, by omega, by omega, ?_⟩
        rw [Int.toNat_natCast]
        intro D hD
        have f0 : Fnd K H1 b hs PA PZ D A1 Z1 (upd H1 D (.lst [])) [] A1 Z1 := ⟨(Frame.refl _ _).new hD, upd_same, o1.same (same_new hD), Grown.rfl' inn1⟩
        refine lc2_it walk_rg (fun i H' => ∃ bs A2 Z2, Fnd K H1 b hs PA PZ D A1 Z1 H' bs A2 Z2 ∧ bs.length ≤ 16 * i ∧ (bs.any id = false → ∀ i' j', i' < i → j' < (looksF b.es).length → Done b.es A1 Z1 i' j')) ⟨[], A1, Z1, f0, by simp, fun _ i' j' h => by omega⟩ (fun _ _ _ _ => trivial) ?_ ?_
        · rintro i x H2 H3 hi ⟨bs, A2, Z2, f2, hl2, d2⟩ ⟨rfl, rfl⟩
          obtain ⟨dx2, hob2⟩ := f2.o.ob
          refine ⟨rfl, iteT (B := ∃ bs A2 Z2, Fnd K H1 b hs PA PZ D A1 Z1 H3 bs A2 Z2 ∧ bs.length ≤ 16 * (i + 1) ∧ (bs.any id = false → ∀ i' j', i' < i + 1 → j' < (looksF b.es).length → Done b.es A1 Z1 i' j')) ?_⟩
          refine ⟨_, rfl, _, dx2, _, rfl, hob2, bF_no b (by decide +kernel), b, A2, Z2, hs, rfl, f2.o, _, rfl, by omega, by omega, ?_⟩
          rw [Int.toNat_natCast]
          refine lcI_it walk_rg (fun j H' => ∃ bs A2 Z2, Fnd K H1 b hs PA PZ D A1 Z1 H' bs A2 Z2 ∧ bs.length ≤ 16 * i + j ∧ (bs.any id = false → (∀ i' j', i' < i → j' < (looksF b.es).length → Done b.es A1 Z1 i' j') ∧ ∀ j', j' < j → Done b.es A1 Z1 i j')) ⟨bs, A2, Z2, f2, hl2, fun z => ⟨d2 z, fun j' h => by omega⟩⟩ (fun _ _ _ _ => trivial) ?_ ?_
          · rintro j x H4 H5 hj ⟨bs4, A4, Z4, f4, hl4, d4⟩ ⟨rfl, rfl⟩
            obtain ⟨dx4, hob4⟩ := f4.o.ob
            refine ⟨rfl, iteT (B := ∃ bs A2 Z2, Fnd K H1 b hs PA PZ D A1 Z1 H5 bs A2 Z2 ∧ bs.length ≤ 16 * i + (j + 1) ∧ (bs.any id = false → (∀ i' j', i' < i → j' < (looksF b.es).length → Done b.es A1 Z1 i' j') ∧ ∀ j', j' < j + 1 → Done b.es A1 Z1 i j')) ?_⟩
            refine ⟨_, rfl, _, dx4, _, rfl, hob4, bF_no b (by decide +kernel), _, rfl, _, rfl, b, A4, Z4, hs, i, j, PA, PZ, rfl, f4.o, hi, hj, clo, f4.g.inn, fun H6 A6 Z6 c fr6 o6 g6 dn6 => ?_⟩
            obtain ⟨hl6, f7⟩ := f4.push o1 hD fr6 o6 g6
            refine ⟨_, hl6, line64' (by rw [List.length_map]; omega), bs4 ++ [c], A6, Z6, f7, by rw [List.length_append]; simp; omega, fun z => ?_⟩
            rw [List.any_append, Bool.or_eq_false_iff] at z
            obtain ⟨d5, d6⟩ := d4 z.1
            refine ⟨d5, fun j' hj' => ?_⟩
            by_cases e : j' = j
            · subst e
              obtain ⟨e1, e2⟩ := f4.g.no z.1
              rw [e1, e2] at dn6
              exact dn6 (by simpa using z.2)
            · exact d6 j' (by omega)
          · rintro H4 ⟨bs4, A4, Z4, f4, hl4, d4⟩
            refine ⟨bs4, A4, Z4, f4, by omega, fun z i' j' hi' hj' => ?_⟩
            obtain ⟨d5, d6⟩ := d4 z
            by_cases e : i' = i
            · subst e; exact d6 j' hj'
            · exact d5 i' j' (by omega) hj'
        · rintro H2 ⟨bs, A2, Z2, f2, hl2, d2⟩
          exact ⟨D, bs, rfl, SqL.of f2.ls, _, A2, Z2, rfl, fr1.trans f2.fr, f2.o, f2.g, fun z i j hi hj => d2 z i j hi hj⟩
end
end K43

-- K43Set
set_option Elab.async false
set_option linter.all false
set_option maxRecDepth 100000
set_option maxHeartbeats 4000000
/-! set(list of ints), set(tuple of tuples of ints) -/
namespace PySem
open Sem (wp)
abbrev k43Set (w : World) : Obj := { cls := .type "set", dict := none, data := .set #[] 0 (.fresh 0 0 (!w.params.followText "set-order")) }
abbrev k43H (w : World) (s : Shared) : Heap := s.heap.push (k43Set w)
section
variable {P : Program} {w : World} {A : Around} {E : Value → Shared → Prop} {s : Shared} {l : Addr}
abbrev k43R (s : Shared) (Good : Heap → Nat → Prop) (E : Value → Shared → Prop) : Result → Shared → Prop := wants (fun r s₂ => r = .none ∧ ∃ h' tk, s₂ = { s with heap := h', toks := tk } ∧ Good h' tk) E
abbrev k43I (P : Program) (w : World) (A : Around) (s : Shared) (l : Addr) (Good : Heap → Nat → Prop) (E : Value → Shared → Prop) : Prop :=
  wpAny (model P w) A.in1.in1 (Builtin.«set.__init__» ⟨[.ref s.heap.objs.size, .ref l], []⟩) (fun fin s' => match fin with
    | .done f => k43R s Good E (.ok f) s'
    | .again c' => c'.quiet = true ∧ codeAny (model P w) A.in1 c' (k43R s Good E) s') (fun e s' => k43R s Good E (.error e) s') { s with heap := k43H w s }
set_option maxHeartbeats 8000000 in
/-- set(l): the empty set is made, then what Good says is done to it -/
theorem k43_set_start {Good : Heap → Nat → Prop} {Q : Value → Shared → Prop} (hbody : (k43H w s).get? s.heap.objs.size = some (k43Set w) → k43I P w A s l Good E) (h : ∀ h' tk, Good h' tk → Q (.ref s.heap.objs.size) { s with heap := h', toks := tk }) : wpAny (model P w) A (call (.type "set") [.ref l]) Q E s := by
  obtain ⟨mc, mt, mm⟩ := F.called_set.mro
  have m1 := F.called_set.made
  have m2 := F.called_set.sub
  have m3 := F.called_set.notType
  have m4 := F.called_set.canCreate
  have m5 := F.typeCall_set_1 (.ref l)
  refine wpAny_call (codeAny_of_tree (wpAny_pure ⟨Code.quiet_builtin _ (by decide +kernel), codeAny_builtin F.entry_type_call ?_⟩))
  rw [Around.under_plain (weight_type_call_type "set" [.ref l] []) rfl]
  repeat (any_goals (first | assumption | wp_step))
  refine codeAny_mono (L2.code_set_led1 (.ref l) (E := E) (Q₁ := fun obj s₁ => obj = .ref s.heap.objs.size ∧ s₁ = { s with heap := k43H w s }) ⟨rfl, rfl⟩) fun r s₁ hr => ?_
  rcases r with e | fl
  · exact hr
  cases fl with
  | ret obj =>
    obtain ⟨rfl, rfl⟩ := hr
    have hS : (k43H w s).get? s.heap.objs.size = some (k43Set w) := Heap.get?_push_size _ rfl
    have hT : Shared.TypeIs { s with heap := k43H w s } (.ref s.heap.objs.size) "set" := ⟨_, hS, rfl⟩
    have m6 := F.called_set.init.lookup
    have m7 := F.called_set.init.bind (.ref s.heap.objs.size)
    repeat (any_goals (first | assumption | wp_step))
    refine codeAny_mono (codeAny_call_builtin (R := wants (fun r s₂ => r = .none ∧ ∃ h' tk, s₂ = { s with heap := h', toks := tk } ∧ Good h' tk) E) F.called_set.init.plain F.entry_set_init (check_set_init_1 hT ?_)) fun r₂ s₂ hr₂ => ?_
    · exact hbody hS
    · rcases r₂ with e | fl₂
      · exact hr₂
      cases fl₂ with
      | ret r =>
        obtain ⟨rfl, h', tk, rfl, g⟩ := hr₂
        repeat (any_goals (first | assumption | wp_step))
        exact h _ _ g
      | _ => exact hr₂.elim
  | _ => exact hr.elim
abbrev k43It (n : String) (l : Addr) : Obj := { cls := .type n, data := .fields #[.ref l, .int 0 0] }
abbrev k43L (P : Program) (w : World) (A : Around) (s : Shared) (n : String) (l : Addr) (Good : Heap → Nat → Prop) (E : Value → Shared → Prop) : Prop :=
  codeAny (model P w) A.in1.in1 (.builtin "set.update.loop" ⟨[.ref s.heap.objs.size, .ref (k43H w s).objs.size], []⟩) (k43R s Good E) { s with heap := (k43H w s).push (k43It n l) }
set_option maxHeartbeats 8000000 in
theorem k43_loop_list {items : Array Value} {Good : Heap → Nat → Prop} (hl : s.heap.IsList l items) (h : (k43H w s).IsList l items → k43L P w A s "list_iterator" l Good E) : k43I P w A s l Good E := by
  obtain ⟨⟨oc, od, oo, os⟩, hol, hcl, nl, hdl⟩ := hl
  simp only at hcl hdl
  subst hcl; subst hdl
  have hol' := (Heap.get?_push_of_some (k43Set w) hol : (k43H w s).get? l = _)
  have q1 := F.sub_list_set
  have q2 := F.sub_list_frozenset
  have q3 : (Value.type "list" == Value.type "dict") = false := by decide
  have hl1 : (k43H w s).IsList l items := ⟨_, hol', rfl, nl, rfl⟩
  have h2 := h hl1
  unfold k43I Builtin.«set.__init__» noKeywords Builtin.Frozenset.updateFrom
  generalize hPI : pyIter = PI
  wp_walk
  subst hPI
  refine wpAny_pyIter_list hl1 (wpAny_bind (wpAny_runValue (codeAny_mono h2 fun r s2 hr => ?_)))
  rcases r with e | fl
  · exact hr
  cases fl with
  | ret v =>
    obtain ⟨rfl, h', tk, rfl, g⟩ := hr
    exact wpAny_pure (wpAny_pure ⟨rfl, h', tk, rfl, g⟩)
  | _ => exact hr.elim
set_option maxHeartbeats 8000000 in
theorem k43_loop_tuple {items : Array Value} {Good : Heap → Nat → Prop} (hl : s.heap.IsTuple l items) (h : (k43H w s).IsTuple l items → k43L P w A s "tuple_iterator" l Good E) : k43I P w A s l Good E := by
  obtain ⟨⟨oc, od, oo, os⟩, hol, hcl, nl, hdl⟩ := hl
  simp only at hcl hdl
  subst hcl; subst hdl
  have hol' := (Heap.get?_push_of_some (k43Set w) hol : (k43H w s).get? l = _)
  have q1 := F.sub_tuple_set
  have q2 := F.sub_tuple_frozenset
  have q3 : (Value.type "tuple" == Value.type "dict") = false := by decide
  have hl1 : (k43H w s).IsTuple l items := ⟨_, hol', rfl, nl, rfl⟩
  have h2 := h hl1
  unfold k43I Builtin.«set.__init__» noKeywords Builtin.Frozenset.updateFrom
  generalize hPI : pyIter = PI
  wp_walk
  subst hPI
  refine wpAny_pyIter_tuple hl1 (wpAny_bind (wpAny_runValue (codeAny_mono h2 fun r s2 hr => ?_)))
  rcases r with e | fl
  · exact hr
  cases fl with
  | ret v =>
    obtain ⟨rfl, h', tk, rfl, g⟩ := hr
    exact wpAny_pure (wpAny_pure ⟨rfl, h', tk, rfl, g⟩)
  | _ => exact hr.elim
theorem k43_size : (k43H w s).objs.size = s.heap.objs.size + 1 := Heap.size_push ..
theorem k43_away (h : l < s.heap.objs.size) : l ≠ (k43H w s).objs.size ∧ s.heap.objs.size ∉ [(k43H w s).objs.size, l] := by
  rw [k43_size]
  refine ⟨Nat.ne_of_lt (Nat.lt_succ_of_lt h), ?_⟩
  simp only [List.mem_cons, List.not_mem_nil, or_false, not_or]
  exact ⟨Nat.ne_of_lt (Nat.lt_succ_self _), Nat.ne_of_gt h⟩
theorem k43_old {hp : Heap} {b : Addr} (o : Obj) (h : hp.get? b = some o) : b < hp.objs.size := Heap.lt_size h
theorem k43_set_list {items : Array Value} (ns : List Int) {Q : Value → Shared → Prop} (hh : A.handled = none) (hl : s.heap.IsList l items) (hit : PyProof.Rows.IntsAre items.toList ns) (hb : ns.length + 1 < scanBound)
    (h : ∀ (h' : Heap) (tk c : Nat), L2.SetR w h' s.heap.objs.size (fun j => decide (j ∈ ns)) c → c ≤ ns.length → (∀ b o, s.heap.get? b = some o → h'.get? b = some o) → Q (.ref s.heap.objs.size) { s with heap := h', toks := tk }) :
    wpAny (model P w) A (call (.type "set") [.ref l]) Q E s := by
  have hisz : items.size = ns.length := by
    rw [← Array.length_toList]
    exact PyProof.Rows.IntsAre.length hit
  have hlt : l < s.heap.objs.size := by
    obtain ⟨o, e, _⟩ := id hl
    exact Heap.lt_size e
  obtain ⟨n1, n2⟩ := k43_away (w := w) hlt
  refine k43_set_start (Good := fun h' tk => ∃ c, L2.SetR w h' s.heap.objs.size (fun j => decide (j ∈ ns)) c ∧ c ≤ ns.length ∧ ∀ b o, s.heap.get? b = some o → h'.get? b = some o)
    (fun hS => k43_loop_list hl fun hl1 => ?_) fun h' tk ⟨c, r, hc, k⟩ => h h' tk c r hc k
  have hh3 : A.in1.in1.in1.handled = none := by simp [hh]
  refine L2.set_update_ints ((Walks.list hh3 _ l n1 items).toS) s.heap.objs.size n2 ns hisz hb (fun i v hv => ?_) (items.size - 0) 0 _ (by omega) (Nat.zero_le _)
    ⟨⟨_, Heap.get?_push_size _ rfl, rfl, rfl⟩, hl1.push _⟩ ⟨0, Nat.le_refl 0, L2.setR_new_at (Heap.get?_push_of_some _ hS)⟩ fun s' c hm hc hR => ?_
  · have hi : i < ns.length := by rw [← hisz]; exact (Array.getElem?_eq_some_iff.mp hv).1
    obtain ⟨t, e⟩ := PyProof.Rows.IntsAre.int_at hit i v (by rw [Array.getElem?_toList]; exact hv)
    exact ⟨ns[i], t, List.getElem?_eq_getElem hi, by rw [e, List.getD_eq_getElem?_getD, List.getElem?_eq_getElem hi]; rfl⟩
  · obtain ⟨h', g2, d', tk', os'⟩ := s'
    have e1 : g2 = s.gens := hm.gens
    have e2 : d' = s.drawn := hm.drawn
    have e3 : os' = s.os := hm.os
    subst e1; subst e2; subst e3
    refine ⟨rfl, h', tk', rfl, c, hR, by omega, fun b o e => ?_⟩
    have hb0 := Heap.lt_size e
    refine hm.heap b o ?_ (Heap.get?_push_of_some _ (Heap.get?_push_of_some _ e))
    simp only [List.mem_cons, List.not_mem_nil, or_false, not_or, k43_size]
    exact ⟨Nat.ne_of_lt hb0, Nat.ne_of_lt (Nat.lt_succ_of_lt hb0)⟩
theorem k43_set_tups {items : Array Value} (ks : List (Addr × List Int)) {Q : Value → Shared → Prop} (hh : A.handled = none) (hl : s.heap.IsTuple l items) (hit : items.toList = ks.map fun p => Value.ref p.1)
    (hk : ∀ p ∈ ks, L2.IsT P w s.heap p.2 p.1) (hfew : ks.length < 64) (hu : A.units + 3 < cLine)
    (h : ∀ (h' : Heap) (tk : Nat) L es ep t, L2.SetTR P w h' s.heap.objs.size L es ep t → L2.Got ks ks.length L → (∀ b o, s.heap.get? b = some o → h'.get? b = some o) → Q (.ref s.heap.objs.size) { s with heap := h', toks := tk }) :
    wpAny (model P w) A (call (.type "set") [.ref l]) Q E s := by
  have hisz : items.size = ks.length := by
    rw [← Array.length_toList, hit, List.length_map]
  have hlt : l < s.heap.objs.size := by
    obtain ⟨o, e, _⟩ := id hl
    exact Heap.lt_size e
  obtain ⟨n1, n2⟩ := k43_away (w := w) hlt
  refine k43_set_start (Good := fun h' tk => ∃ L es ep t, L2.SetTR P w h' s.heap.objs.size L es ep t ∧ L2.Got ks ks.length L ∧ ∀ b o, s.heap.get? b = some o → h'.get? b = some o)
    (fun hS => k43_loop_tuple hl fun hl1 => ?_) fun h' tk ⟨L, es, ep, t, r, g, k⟩ => h h' tk L es ep t r g k
  have hh3 : A.in1.in1.in1.handled = none := by simp [hh]
  have none_of : ∀ b, s.heap.objs.size ≤ b → s.heap.get? b = none := fun b hb => by
    cases q : s.heap.get? b with
    | none => rfl
    | some o => exact absurd (Nat.lt_of_lt_of_le (Heap.lt_size q) hb) (Nat.lt_irrefl _)
  refine L2.set_update_tups ((Walks.tuple hh3 _ l n1 items).toS) s.heap.objs.size n2 ks hisz hfew (fun i v hv => ?_) s.heap hk (none_of _ (Nat.le_refl _)) (fun b hb => none_of b ?_) hu (items.size - 0) 0 _ (by omega) (Nat.zero_le _)
    ⟨⟨_, Heap.get?_push_size _ rfl, rfl, rfl⟩, hl1.push _⟩ (fun b o e => Heap.get?_push_of_some _ (Heap.get?_push_of_some _ e)) ⟨[], #[], 0, _, L2.setTR_fresh (Heap.get?_push_of_some _ hS), L2.Got.zero ks⟩ fun s' L es ep t hm hR g hkp => ?_
  · have q : items.toList[i]? = some v := by rw [Array.getElem?_toList]; exact hv
    rw [hit, List.getElem?_map] at q
    obtain ⟨p, hp, e⟩ := Option.map_eq_some_iff.mp q
    exact ⟨p, hp, e.symm⟩
  · rw [List.mem_singleton.mp hb, k43_size]
    exact Nat.le_succ _
  · obtain ⟨h', g2, d', tk', os'⟩ := s'
    have e1 : g2 = s.gens := hm.gens
    have e2 : d' = s.drawn := hm.drawn
    have e3 : os' = s.os := hm.os
    subst e1; subst e2; subst e3
    rw [hisz] at g
    exact ⟨rfl, h', tk', rfl, L, es, ep, t, hR, g, hkp⟩
end
end PySem
namespace K43
open PySem PySem.Spec PyProof.Rows L2
section
variable {X : Cx}
/-- set(l), l a list of ints -/
def rSetI (K : PySem.W.Frag) (w : World) : List V → Hp → VK → Prop := fun xs H Q => ∃ (l : Addr) (ns : List Int), xs = [V.ref l] ∧ SqL K H l (ns.map V.int) ∧ ns.length ≤ 1000 ∧ ∀ a c H', H a = none → Same H H' → c ≤ ns.length → H' a = some (SetO w a (fun j => decide (j ∈ ns)) c) → Q (.ref a) H'
theorem cr_setI (hc : X.calm = true) : CallR X (.type "set") (rSetI X.K X.w) := by
  intro pins s σ H xs us Q I r h
  obtain ⟨l, ns, rfl, hl, hn, q⟩ := h
  rw [Vals.ref1 r]
  obtain ⟨its, rv, pl, hz⟩ := I.list hl
  have hN : H s.heap.objs.size = none := I.hok.fresh (Nat.le_refl _)
  refine k43_set_list (P := X.prog) (w := X.w) ns (I.ok.hd hc) pl.isList (by simpa using rv.ints) (by unfold scanBound; omega) fun h' tk c R hcl k => ?_
  exact ⟨.ref s.heap.objs.size, upd H s.heap.objs.size (SetO X.w s.heap.objs.size (fun j => decide (j ∈ ns)) c), I.laid (t' := tk) k (Nat.le_refl _) (setO_new R), rfl, q _ c _ hN (same_new hN) hcl upd_same⟩
/-- set(t), t a tuple of tuples of ints -/
def rSetT (K : PySem.W.Frag) (P : Program) (w : World) : List V → Hp → VK → Prop := fun xs H Q => ∃ (l : Addr) (ks : List (Addr × List Int)), xs = [V.ref l] ∧ SqT K H l (ks.map fun p => V.ref p.1) ∧ (∀ p ∈ ks, SqT K H p.1 (p.2.map V.int)) ∧ ks.length < 64 ∧
  ∀ a L H', H a = none → Same H H' → (∀ p ∈ L, p ∈ ks) → (∀ p ∈ ks, p.2 ∈ L.map (·.2)) → H' a = some (SetTO P w a L) → Q (.ref a) H'
theorem cr_setT (hc : X.calm = true) (hu : X.A.units + 64 < cLine) : CallR X (.type "set") (rSetT X.K X.prog X.w) := by
  intro pins s σ H xs us Q I r h
  obtain ⟨l, ks, rfl, hl, hk, hf, q⟩ := h
  rw [Vals.ref1 r]
  obtain ⟨its, rv, pl, hz⟩ := I.tuple hl
  have hN : H s.heap.objs.size = none := I.hok.fresh (Nat.le_refl _)
  refine k43_set_tups (P := X.prog) (w := X.w) (items := its.toArray) ks (I.ok.hd hc) pl (by simpa using refs_of_vals rv) (fun p hp => I.isT (hk p hp)) hf (by omega) fun h' tk L es ep t R g k => ?_
  exact ⟨.ref s.heap.objs.size, upd H s.heap.objs.size (SetTO X.prog X.w s.heap.objs.size L), I.laid (t' := tk) k (Nat.le_refl _) (setTO_new R.t0), rfl,
    q _ L _ hN (same_new hN) (fun p hp => List.mem_of_mem_take (g.sub p hp)) (fun p hp => g.all p (by rw [List.take_length]; exact hp)) upd_same⟩
end
end K43

-- K43B6
set_option Elab.async false
set_option linter.all false
set_option maxRecDepth 100000
set_option maxHeartbeats 4000000
/-! Bonds: looked, compared -/
namespace K43
open PySem PySem.Spec PyProof.Rows L2
/-! ### plain -/
theorem sorted_ext : ∀ {xs ys : List Int}, xs.Pairwise (· < ·) → ys.Pairwise (· < ·) → (∀ k, k ∈ xs ↔ k ∈ ys) → xs = ys
  | [], [], _, _, _ => rfl
  | [], y :: ys, _, _, h => absurd ((h y).mpr List.mem_cons_self) (by simp)
  | x :: xs, [], _, _, h => absurd ((h x).mp List.mem_cons_self) (by simp)
  | x :: xs, y :: ys, hx, hy, h => by
    obtain ⟨hx1, hx2⟩ := List.pairwise_cons.mp hx
    obtain ⟨hy1, hy2⟩ := List.pairwise_cons.mp hy
    have e : x = y := by
      rcases List.mem_cons.mp ((h x).mp List.mem_cons_self) with e | m
      · exact e
      · rcases List.mem_cons.mp ((h y).mpr List.mem_cons_self) with e | m2
        · exact e.symm
        · have := hy1 _ m
          have := hx1 _ m2
          omega
    subst e
    rw [sorted_ext hx2 hy2 fun k => ⟨fun m => ?_, fun m => ?_⟩]
    · rcases List.mem_cons.mp ((h k).mp (List.mem_cons_of_mem _ m)) with e | m2
      · have := hx1 _ m; omega
      · exact m2
    · rcases List.mem_cons.mp ((h k).mpr (List.mem_cons_of_mem _ m)) with e | m2
      · have := hy1 _ m; omega
      · exact m2
theorem both_sorted (n : Nat) (xs ys : List Nat) : ((both n xs ys).map fun k : Nat => (k : Int)).Pairwise (· < ·) := by
  rw [List.pairwise_map]
  have h : (List.range n).Pairwise (· < ·) := List.pairwise_lt_range
  exact (h.filter _).imp fun h => by omega
theorem both_int {n : Nat} {xs ys : List Nat} (hx : ∀ k ∈ xs, k < n) (hy : ∀ k ∈ ys, k < n) {ns : List Int} (hs : ns.Pairwise (· < ·)) (hm : ∀ k : Int, k ∈ ns ↔ k ∈ (xs ++ ys).map fun k : Nat => (k : Int)) : ns = (both n xs ys).map fun k : Nat => (k : Int) := by
  refine sorted_ext hs (both_sorted n xs ys) fun k => (hm k).trans ?_
  simp only [List.mem_map, List.mem_append]
  constructor
  · rintro ⟨a, h, rfl⟩
    exact ⟨a, mem_both.mpr ⟨h.elim (hx a) (hy a), h⟩, rfl⟩
  · rintro ⟨a, h, rfl⟩
    exact ⟨a, (mem_both.mp h).2, rfl⟩
theorem pairsOf_iff : ∀ {l : List Nat} {x y : Nat}, (x, y) ∈ pairsOf l ↔ ∃ t u : Nat, t < u ∧ l[t]? = some x ∧ l[u]? = some y
  | [], x, y => by simp [pairsOf]
  | z :: r, x, y => by
    simp only [pairsOf, List.mem_append, List.mem_map, Prod.mk.injEq]
    constructor
    · rintro (⟨a, h, rfl, rfl⟩ | h)
      · obtain ⟨u, hu⟩ := List.mem_iff_getElem?.mp h
        exact ⟨0, u + 1, by omega, rfl, hu⟩
      · obtain ⟨t, u, h1, h2, h3⟩ := pairsOf_iff.mp h
        exact ⟨t + 1, u + 1, by omega, h2, h3⟩
    · rintro ⟨t, u, h1, h2, h3⟩
      cases u with
      | zero => omega
      | succ u =>
        have h3 : r[u]? = some y := h3
        cases t with
        | zero => exact .inl ⟨y, List.mem_of_getElem? h3, Option.some.inj h2, rfl⟩
        | succ t => exact .inr (pairsOf_iff.mpr ⟨t, u, by omega, h2, h3⟩)
theorem both_nodup (n : Nat) (xs ys : List Nat) : (both n xs ys).Nodup := List.Pairwise.filter _ List.nodup_range
theorem stepG_nodup {long : Bool} {s : GS} (o : s.Ok) (h : ∀ p, (s.has p).Nodup) (e : Ev) : ∀ p, ((stepG long s e).has p).Nodup := by
  have hset : ∀ (f : Nat → List Nat) (q : Nat) (l : List Nat), (∀ p, (f p).Nodup) → l.Nodup → ∀ p, (setH f q l p).Nodup := fun f q l h1 h2 p => by
    unfold setH
    split
    · exact h2
    · exact h1 p
  cases e with
  | look p =>
    refine hset _ _ _ h (List.nodup_append.mpr ⟨h p, by simp, fun a ha b hb => ?_⟩)
    have := o.has p a ha
    have : b = s.num := by simpa using hb
    omega
  | add p => exact h
  | meet p q =>
    cases long with
    | true => exact hset _ _ _ (hset _ _ _ h (both_nodup _ _ _)) (both_nodup _ _ _)
    | false => exact h
  | tell p q =>
    cases long with
    | true => exact hset _ _ _ h (both_nodup _ _ _)
    | false => exact h
theorem runG_nodup (long : Bool) (es : List Ev) (p : Nat) : ((runG long es).has p).Nodup := by
  have key : ∀ (es : List Ev) (s : GS), s.Ok → (∀ p, (s.has p).Nodup) → ∀ p, ((es.foldl (stepG long) s).has p).Nodup := fun es => by
    induction es with
    | nil => exact fun s _ h => h
    | cons e r ih => exact fun s o h => ih _ (stepG_ok o e) (stepG_nodup o h e)
  exact key es gs0 gs0_ok (fun _ => List.nodup_nil) p
theorem runG_len (long : Bool) (es : List Ev) (p : Nat) : ((runG long es).has p).length ≤ (runG long es).num := by
  have h := nodup_sub_len ((runG long es).has p) (List.range (runG long es).num) (runG_nodup long es p) fun x hx => List.mem_range.mpr ((runG_ok long es).has p x hx)
  rwa [List.length_range] at h
theorem cutV_last (xs : List V) : cutV xs (some (-1)) none = xs.drop (xs.length - 1) := by
  unfold cutV
  rw [HT.sIx_none]
  have e : HT.sIx xs.length 0 (some (-1)) = xs.length - 1 := by
    unfold HT.sIx
    simp
    omega
  rw [e]
  exact List.take_of_length_le (by rw [List.length_drop]; omega)
/-! ### what the tables hold -/
structure Is (A Z : List Pr) (PB PL : Nat → Nat → Prop) : Prop where
  a : ∀ i j, (i, j) ∈ A ↔ i ≠ j ∧ (PB i j ∨ PB j i)
  z : ∀ i j, (i, j) ∈ Z ↔ i ≠ j ∧ PL i j
theorem Is.congr {A Z : List Pr} {PB PL PB' PL' : Nat → Nat → Prop} (h : Is A Z PB PL) (h1 : ∀ i j, PB i j ↔ PB' i j) (h2 : ∀ i j, PL i j ↔ PL' i j) : Is A Z PB' PL' :=
  ⟨fun i j => by rw [h.a, h1, h1], fun i j => by rw [h.z, h2]⟩
theorem Is.bno {A Z : List Pr} {PB PL : Nat → Nat → Prop} {x y : Nat} (h : Is A Z PB PL) (e : x = y ∨ (x, y) ∈ A) : Is A Z (fun i j => PB i j ∨ (i = x ∧ j = y)) PL := by
  refine ⟨fun i j => (h.a i j).trans ⟨fun ⟨n, q⟩ => ⟨n, q.imp .inl .inl⟩, fun ⟨n, q⟩ => ⟨n, ?_⟩⟩, h.z⟩
  rcases q with (q | ⟨rfl, rfl⟩) | (q | ⟨rfl, rfl⟩)
  · exact .inl q
  · exact ((h.a _ _).mp (e.resolve_left n)).2
  · exact .inr q
  · exact ((h.a _ _).mp (e.resolve_left fun z => n z.symm)).2.symm
theorem Is.byes {A Z : List Pr} {PB PL : Nat → Nat → Prop} {x y : Nat} (h : Is A Z PB PL) (e : x ≠ y) : Is (A ++ [(x, y), (y, x)]) Z (fun i j => PB i j ∨ (i = x ∧ j = y)) PL := by
  refine ⟨fun i j => ?_, h.z⟩
  simp only [List.mem_append, List.mem_cons, List.not_mem_nil, or_false, Prod.mk.injEq, h.a]
  constructor
  · rintro (⟨n, q⟩ | ⟨rfl, rfl⟩ | ⟨rfl, rfl⟩)
    · exact ⟨n, q.imp .inl .inl⟩
    · exact ⟨e, .inl (.inr ⟨rfl, rfl⟩)⟩
    · exact ⟨e.symm, .inr (.inr ⟨rfl, rfl⟩)⟩
  · rintro ⟨n, (q | q) | (q | q)⟩
    · exact .inl ⟨n, .inl q⟩
    · exact .inr (.inl q)
    · exact .inl ⟨n, .inr q⟩
    · exact .inr (.inr ⟨q.2, q.1⟩)
theorem Is.lno {A Z : List Pr} {PB PL : Nat → Nat → Prop} {x y : Nat} (h : Is A Z PB PL) (e : x = y ∨ (x, y) ∈ Z) : Is A Z PB (fun i j => PL i j ∨ (i = x ∧ j = y)) := by
  refine ⟨h.a, fun i j => (h.z i j).trans ⟨fun ⟨n, q⟩ => ⟨n, .inl q⟩, fun ⟨n, q⟩ => ⟨n, ?_⟩⟩⟩
  rcases q with q | ⟨rfl, rfl⟩
  · exact q
  · exact ((h.z _ _).mp (e.resolve_left n)).2
theorem Is.lyes {A Z : List Pr} {PB PL : Nat → Nat → Prop} {x y : Nat} (h : Is A Z PB PL) (e : x ≠ y) : Is A (Z ++ [(x, y)]) PB (fun i j => PL i j ∨ (i = x ∧ j = y)) := by
  refine ⟨h.a, fun i j => ?_⟩
  simp only [List.mem_append, List.mem_cons, List.not_mem_nil, or_false, Prod.mk.injEq, h.z]
  constructor
  · rintro (⟨n, q⟩ | ⟨rfl, rfl⟩)
    · exact ⟨n, .inl q⟩
    · exact ⟨e, .inr ⟨rfl, rfl⟩⟩
  · rintro ⟨n, q | q⟩
    · exact .inl ⟨n, q⟩
    · exact .inr q
section
variable {P : Program} {w : World} {K : PySem.W.Frag} {mg : Str → Option Value} {base : Heap}
/-- bind, lower by what the tables hold -/
def spBindI (K : PySem.W.Frag) : Sp := fun vs H Q _ => ∃ b A Z hs, ∃ i j : Nat, ∃ a, ∃ PB PL : Nat → Nat → Prop, vs = [.ref b.p, .int i, .int j, .ref a] ∧ BOk K H b A Z hs ∧ Is A Z PB PL ∧ i < (looksF b.es).length ∧ j < (looksF b.es).length ∧ SrcAt K H a ∧
  ∀ H' A' c, Frame (S3 b) H H' → BOk K H' b A' Z hs → Is A' Z (fun k l => PB k l ∨ (k = i ∧ l = j)) PL → Q (.bl c) H'
def spLowerI (K : PySem.W.Frag) : Sp := fun vs H Q _ => ∃ b A Z hs, ∃ i j : Nat, ∃ a, ∃ PB PL : Nat → Nat → Prop, vs = [.ref b.p, .int i, .int j, .ref a] ∧ BOk K H b A Z hs ∧ Is A Z PB PL ∧ i < (looksF b.es).length ∧ j < (looksF b.es).length ∧ SrcAt K H a ∧
  ∀ H' Z' c, Frame (S3 b) H H' → BOk K H' b A Z' hs → Is A Z' PB (fun k l => PL k l ∨ (k = i ∧ l = j)) → Q (.bl c) H'
theorem bindI {k : Nat} {ps : List Str} {dvs : List V} (G : MOk P w K mg base k (cB K) "bind" ps dvs (spBind K)) : MOk P w K mg base k (cB K) "bind" ps dvs (spBindI K) := by
  refine G.imp ?_
  rintro vs H Q E ⟨b, A, Z, hs, i, j, a, PB, PL, rfl, o, is, hi, hj, hsrc, q⟩
  refine ⟨b, A, Z, _, i, j, a, rfl, o, hi, hj, hsrc, fun e H' s => ?_, fun e1 e2 H' f o' => ?_⟩
  · exact q H' A false (Frame.of s) (o.same s) (is.bno e)
  · exact q H' _ true f o' (is.byes e1)
theorem lowerI {k : Nat} {ps : List Str} {dvs : List V} (G : MOk P w K mg base k (cB K) "lower" ps dvs (spLower K)) : MOk P w K mg base k (cB K) "lower" ps dvs (spLowerI K) := by
  refine G.imp ?_
  rintro vs H Q E ⟨b, A, Z, hs, i, j, a, PB, PL, rfl, o, is, hi, hj, hsrc, q⟩
  refine ⟨b, A, Z, _, i, j, a, rfl, o, hi, hj, hsrc, fun e H' s => ?_, fun e1 e2 H' f o' => ?_⟩
  · exact q H' Z false (Frame.of s) (o.same s) (is.lno e)
  · exact q H' _ true f o' (is.lyes e1)
def spLooked (K : PySem.W.Frag) : Sp := fun vs H Q _ => ∃ b A Z hs, ∃ p n : Nat, ∃ PB PL : Nat → Nat → Prop, vs = [.ref b.p, .int p, .int n] ∧ BOk K H b A Z hs ∧ Is A Z PB PL ∧ p < b.n ∧ n < (looksF b.es).length ∧ (hs p).length ≤ 16 ∧
  ∀ H' Z', Frame (Sb b) H H' → BOk K H' b A Z' (setH hs p (hs p ++ [n])) → Is A Z' PB (fun k l => PL k l ∨ (k ∈ hs p ∧ l = n)) → Q .non H'
theorem scB_looked : FnScope ["self", "person", "number", "other"] ["self", "person", "number"] (defScope sB_looked) := ⟨rfl, rfl, rfl, by decide +kernel, rfl, by decide +kernel, by decide +kernel⟩
/-- a person's list is put in -/
theorem BOk.put {H : Hp} {b : Bo} {A Z : List Pr} {hs : Nat → List Nat} (o : BOk K H b A Z hs) {p : Nat} (hp : p < b.n) {l : Addr} {ns : List Nat} (hl : NL H l ns) (nl : l ≠ b.fa) (hn : ∀ k ∈ ns, k < (looksF b.es).length) {f : Nat → Addr} (hf : H b.ha = some (.dK (kH b.n f)))
    (hfl : ∀ q, q < b.n → NL H (f q) (hs q) ∧ f q ≠ b.fa) : BOk K (upd H b.ha (.dK (kH b.n (setA f p l)))) b A Z (setH hs p ns) := by
  obtain ⟨fs, hfa, hfs⟩ := o.fa
  refine o.step (Frame.upd (by simp)) ?_ ?_ ⟨setA f p l, upd_same, fun q hq => ?_⟩ ⟨fs, ?_, hfs⟩ o.dA o.dZ o.sym o.inA o.inZ fun q hq k hk => ?_
  · rw [upd_ne (ne_of o.al hf (by intro z; cases z))]; exact o.al
  · rw [upd_ne (ne_of o.be hf (by intro z; cases z))]; exact o.be
  · unfold setA setH
    by_cases e : q = p
    · rw [if_pos e, if_pos e]
      refine ⟨?_, nl⟩
      show upd H b.ha _ l = _
      rw [upd_ne (ne_of hl hf (by intro z; cases z))]
      exact hl
    · rw [if_neg e, if_neg e]
      refine ⟨?_, (hfl q hq).2⟩
      show upd H b.ha _ (f q) = _
      rw [upd_ne (ne_of (hfl q hq).1 hf (by intro z; cases z))]
      exact (hfl q hq).1
  · rw [upd_ne (ne_of hfa hf (by intro z; cases z))]; exact hfa
  · unfold setH at hk
    split at hk
    · exact hn k hk
    · exact o.inH q hq k hk
theorem NL.frame {H H' : Hp} {b : Bo} {A Z : List Pr} {hs : Nat → List Nat} (o : BOk K H b A Z hs) (fr : Frame (S3 b) H H') {l : Addr} {ns : List Nat} (h : NL H l ns) (n : l ≠ b.fa) : NL H' l ns := by
  refine fr _ _ h ?_
  simp only [List.mem_cons, List.not_mem_nil, or_false, not_or]
  exact ⟨ne_of h o.al (by intro z; cases z), ne_of h o.be (by intro z; cases z), n⟩
theorem HasAt.frame {H H' : Hp} {b : Bo} {A Z : List Pr} {hs : Nat → List Nat} (o : BOk K H b A Z hs) (fr : Frame (S3 b) H H') {f : Nat → Addr} (h : H b.ha = some (.dK (kH b.n f))) : H' b.ha = some (.dK (kH b.n f)) := by
  obtain ⟨fs, hfa, _⟩ := o.fa
  refine fr _ _ h ?_
  simp only [List.mem_cons, List.not_mem_nil, or_false, not_or]
  exact ⟨ne_of h o.al (by intro z; cases z), ne_of h o.be (by intro z; cases z), ne_of h hfa (by intro z; cases z)⟩
theorem S3_Sb {b : Bo} {H H' : Hp} (f : Frame (S3 b) H H') : Frame (Sb b) H H' := f.mono (by intro x hx; simp at hx ⊢; rcases hx with rfl | rfl | rfl <;> simp)
theorem okB_looked {f : Addr} {fd : FuncData} (F : FunD K "looked" "Bonds.looked" (defArgs sB_looked) (defBody sB_looked) (defScope sB_looked) [] [] f fd) (T : Txt K mg) {e1 : Addr} (se1 : ∀ H, SqT K H e1 [])
    (GL0 : MOk P w K mg base 2 (cB K) "lower" ["self", "one", "other", "source"] [.ref e1] (spLower K)) : FnOk P w K mg base CX0 3 f fd ["self", "person", "number"] (spLooked K) := by
  refine okD F scB_looked (fun vs H Q E h => ?_) (fun cdv A0 outer s H vs Q E hr h => ?_)
  · obtain ⟨b, A, Z, hs, p, n, PB, PL, rfl, _⟩ := h
    rfl
  · obtain ⟨b, A, Z, hs, p, n, PB, PL, rfl, o, is, hp, hn, hlen, k⟩ := h
    have hu := hu_of hr
    have GL := lowerI GL0
    obtain ⟨dx, hob⟩ := o.ob
    obtain ⟨fh, h1, h2⟩ := o.has
    have g1 : ∀ {H1 : Hp}, H1 b.ha = some (.dK (kH b.n fh)) → DGet H1 b.ha (.int p) (some (.ref (fh p))) := fun h => by have := DGet.k (k := Sum.inl (p : Int)) h; rw [valV_kH fh hp] at this; exact this
    refine ⟨_, pss_cons (ps_for PassesOwn.never rfl (pi_list (pe_dget hu (pe_fld (pv 0) rfl) (pv 1) (fun _ _ => rfl))) (pg_name (i := 3) scB_looked.nd rfl (Or.inl rfl))
        (pss_one (ps_expr (pe_m GL hr T.clB (pv 0) (pa_cons (pv 3) (pa_cons (pv 2) pa_nil))))))
      (pss_one (ps_dput hu (pe_fld (pv 0) rfl) (pv 1) (pe_op op_catS (pe_dget hu (pe_fld (pv 0) rfl) (pv 1) (fun _ _ => rfl)) (pe_lstS (pa_cons (pv 2) pa_nil))) rfl)), ?_⟩
    refine ⟨_, rfl, _, _, dx, _, _, rfl, hob, T.clB, T.nB _ (by decide +kernel), bF_has b, _, rfl, b.ha, _, rfl, g1 h1, fh p, rfl, ⟨_, SqL.of (h2 p hp).1⟩, ?_⟩
    refine for_it walk_list (fun i σ H' => ∃ Z1 o3, σ = [some (.ref b.p), some (.int p), some (.int n), o3] ∧ Frame (S3 b) H H' ∧ BOk K H' b A Z1 hs ∧ Is A Z1 PB (fun k l => PL k l ∨ (k ∈ (hs p).take i ∧ l = n)))
      ⟨Z, none, rfl, Frame.refl _ _, o, is.congr (fun _ _ => Iff.rfl) fun _ _ => by simp⟩ (fun i σ H' _ ⟨_, _, _, fr, o1, _⟩ => SqL.of (NL.frame o fr (h2 p hp).1 (h2 p hp).2)) ?_ ?_
    · rintro i x σ H1 H2 hi ⟨Z1, o3, rfl, fr, o1, is1⟩ ⟨rfl, hx⟩
      rw [List.getElem?_map] at hx
      obtain ⟨q, hq, rfl⟩ := Option.map_eq_some_iff.mp hx
      obtain ⟨dx1, hob1⟩ := o1.ob
      refine ⟨_, rfl, _, dx1, _, rfl, hob1, bF_no b (by decide +kernel), _, rfl, _, rfl, b, A, Z1, hs, q, n, e1, PB, _, rfl, o1, is1, o.inH p hp q (List.mem_of_getElem? hq), hn, .inr ⟨[], se1 _, se1⟩, fun H3 Z3 c fr3 o3 is3 => ?_⟩
      refine ⟨Z3, _, rfl, fr.trans fr3, o3, is3.congr (fun _ _ => Iff.rfl) fun a b' => ?_⟩
      rw [List.take_add_one, hq]
      simp only [List.mem_append, Option.toList_some, List.mem_singleton]
      constructor
      · rintro ((h | ⟨h1, h2⟩) | ⟨rfl, rfl⟩)
        · exact .inl h
        · exact .inr ⟨.inl h1, h2⟩
        · exact .inr ⟨.inr rfl, rfl⟩
      · rintro (h | ⟨h1 | rfl, h2⟩)
        · exact .inl (.inl h)
        · exact .inl (.inr ⟨h1, h2⟩)
        · exact .inr ⟨rfl, h2⟩
    · rintro σ H1 ⟨Z1, o3, rfl, fr, o1, is1⟩
      rw [List.length_map, List.take_length] at is1
      obtain ⟨dx1, hob1⟩ := o1.ob
      have hha1 := HasAt.frame o fr h1
      have hl1 := NL.frame o fr (h2 p hp).1 (h2 p hp).2
      refine ⟨_, rfl, _, _, dx1, _, _, rfl, hob1, T.clB, T.nB _ (by decide +kernel), bF_has b, _, rfl, b.ha, _, rfl, g1 hha1, _, rfl, t1, fun l1 H2 hl s2 hl2 => ?_⟩
      refine ⟨_, _, _, _, rfl, rfl, s2 _ _ hl1, hl2, line64 (by rw [List.length_map]; simp; omega), fun l2 H3 hl' s3 hl3 => ?_⟩
      have o3' := (o1.same s2).same s3
      obtain ⟨dx3, hob3⟩ := o3'.ob
      have hha3 := s3 _ _ (s2 _ _ hha1)
      refine ⟨_, rfl, _, _, dx3, _, _, rfl, hob3, T.clB, T.nB _ (by decide +kernel), bF_has b, _, rfl, b.ha, _, rfl, DPut.k (k := Sum.inl (p : Int)) hha3 (line64' (by rw [kH_len]; have := o.fewN; omega)), ?_⟩
      rw [putK_kH fh l2 hp]
      have nl2 : l2 ≠ b.fa := by
        obtain ⟨fs, hfa, _⟩ := (o1.same s2).fa
        exact fun z => by rw [z, hfa] at hl'; cases hl'
      have hl3' : NL H3 l2 (hs p ++ [n]) := by
        show H3 l2 = _
        rw [hl3, List.map_append]
        rfl
      refine k _ Z1 (((S3_Sb fr).trans (Frame.of (s2.trans s3))).trans (Frame.upd (by simp))) (o3'.put hp hl3' nl2 (fun k hk => ?_) hha3 fun q hq => ?_) is1
      · rcases List.mem_append.mp hk with hk | hk
        · exact o.inH p hp k hk
        · have : k = n := by simpa using hk
          omega
      · exact ⟨s3 _ _ (s2 _ _ (NL.frame o fr (h2 q hq).1 (h2 q hq).2)), (h2 q hq).2⟩
end
end K43

-- K43B7
set_option Elab.async false
set_option linter.all false
set_option maxRecDepth 100000
set_option maxHeartbeats 4000000
/-! Bonds: compared -/
namespace K43
open PySem PySem.Spec PyProof.Rows L2
def newB (long : Bool) (n : Nat) (xs ys : List Nat) : List Pr := if long then pairsOf (both n xs ys) else crossL (lastOf xs) (lastOf ys)
def newH (long meet : Bool) (n : Nat) (hs : Nat → List Nat) (p q : Nat) : Nat → List Nat :=
  if long then (if meet then setH (setH hs q (both n (hs p) (hs q))) p (both n (hs p) (hs q)) else setH hs q (both n (hs p) (hs q))) else hs
theorem map_drop_int (l : List Nat) (k : Nat) : (l.map fun k : Nat => V.int k).drop k = (l.drop k).map fun k : Nat => V.int k := by rw [List.map_drop]
section
variable {P : Program} {w : World} {K : PySem.W.Frag} {mg : Str → Option Value} {base : Heap}
def spCompared (K : PySem.W.Frag) : Sp := fun vs H Q _ => ∃ b A Z hs, ∃ a : Addr, ∃ z : Str, ∃ p q n : Nat, ∃ PB PL : Nat → Nat → Prop, vs = [.ref b.p, .ref a] ∧ H a = some (.tup [.str z, .int p, .int q]) ∧ BOk K H b A Z hs ∧ Is A Z PB PL ∧ p < b.n ∧ q < b.n ∧
  (∀ k ∈ hs p, k < n) ∧ (∀ k ∈ hs q, k < n) ∧ n ≤ (looksF b.es).length ∧ (hs p).length ≤ 16 ∧ (hs q).length ≤ 16 ∧
  ∀ H' A', Frame (Sb b) H H' → BOk K H' b A' Z (newH (decide (b.kd = "long")) (decide (z = "meet")) n hs p q) → Is A' Z (fun i j => PB i j ∨ (i, j) ∈ newB (decide (b.kd = "long")) n (hs p) (hs q)) PL → Q .non H'
theorem scB_compared : FnScope ["self", "event", "word", "person", "other", "mine", "its", "one", "two", "both", "place"] ["self", "event"] (defScope sB_compared) := ⟨rfl, rfl, rfl, by decide +kernel, rfl, by decide +kernel, by decide +kernel⟩
theorem okB_compared {f : Addr} {fd : FuncData} (F : FunD K "compared" "Bonds.compared" (defArgs sB_compared) (defBody sB_compared) (defScope sB_compared) [] [] f fd) (T : Txt K mg) {e1 : Addr} (se1 : ∀ H, SqT K H e1 [])
    (GB0 : MOk P w K mg base 2 (cB K) "bind" ["self", "one", "other", "source"] [.ref e1] (spBind K)) : FnOk P w K mg base CX0 3 f fd ["self", "event"] (spCompared K) := by
  refine okD F scB_compared (fun vs H Q E h => ?_) (fun cdv A0 outer s H vs Q E hr h => ?_)
  · obtain ⟨b, A, Z, hs, a, z, p, q, n, PB, PL, rfl, _⟩ := h
    rfl
  · obtain ⟨b, A, Z, hs, a, z, p, q, n, PB, PL, rfl, ha, o, is, hp, hq, hkp, hkq, hnm, hlp, hlq, k⟩ := h
    have hu := hu_of hr
    have GB := bindI GB0
    obtain ⟨dx, hob⟩ := o.ob
    obtain ⟨fh, h1, h2⟩ := o.has
    have g1 : ∀ {H1 : Hp} {p : Nat}, p < b.n → H1 b.ha = some (.dK (kH b.n fh)) → DGet H1 b.ha (.int p) (some (.ref (fh p))) := fun {H1 p} hp h => by have := DGet.k (k := Sum.inl (p : Int)) h; rw [valV_kH fh hp] at this; exact this
    refine ⟨_, pss_cons (ps_asg (pv 1) (pg_tup rfl (pgs_cons (pg_name (i := 2) scB_compared.nd rfl (Or.inl rfl)) (pgs_cons (pg_name (i := 3) scB_compared.nd rfl (Or.inl rfl)) (pgs_cons (pg_name (i := 4) scB_compared.nd rfl (Or.inl rfl)) pgs_nil)))))
      (pss_cons (ps_par (i := 5) (j := 6) rfl scB_compared.nd rfl rfl (by decide) rfl rfl (pa_cons (pe_dget hu (pe_fld (pv 0) rfl) (pv 3) (fun _ _ => rfl)) (pa_cons (pe_dget hu (pe_fld (pv 0) rfl) (pv 4) (fun _ _ => rfl)) pa_nil)) rfl)
      (pss_cons (ps_if (pt_cmpR op_ne (pe_fld (pv 0) rfl) (pe_gs T.LONG) (nomark _))
        (pss_cons (ps_for PassesOwn.never rfl (pi_list (pe_slice sl_listS (pv 5) (po_some (pe_un un_neg pe_int)) po_none)) (pg_name (i := 7) scB_compared.nd rfl (Or.inl rfl))
          (pss_one (ps_for PassesOwn.never rfl (pi_list (pe_slice sl_listS (pv 6) (po_some (pe_un un_neg pe_int)) po_none)) (pg_name (i := 8) scB_compared.nd rfl (Or.inl rfl))
            (pss_one (ps_expr (pe_m GB hr T.clB (pv 0) (pa_cons (pv 7) (pa_cons (pv 8) pa_nil)))))))) (pss_one ps_retN)) pss_nil)
      (pss_cons (ps_set (i := 9) scB_compared.nd rfl (Or.inl rfl) (pe_callB (cr_sortedSet rfl) (by rfl) T.sorted PyProof.Rows.boot_sorted (pa_cons (pe_callTy (cr_setI rfl) (by rfl) T.set PyProof.Rows.boot_set (pa_cons (pe_op op_catS (pv 5) (pv 6)) pa_nil)) pa_nil)))
      (pss_cons (ps_for PassesOwn.never rfl (pi_enum (by rfl) T.enumerate (pa_cons (pv 9) pa_nil)) (pg_tup rfl (pgs_cons (pg_name (i := 10) scB_compared.nd rfl (Or.inl rfl)) (pgs_cons (pg_name (i := 7) scB_compared.nd rfl (Or.inl rfl)) pgs_nil)))
        (pss_one (ps_for PassesOwn.never rfl (pi_list (pe_slice sl_listS (pv 9) (po_some (pe_op op_add (pv 10) pe_int)) po_none)) (pg_name (i := 8) scB_compared.nd rfl (Or.inl rfl))
          (pss_one (ps_expr (pe_m GB hr T.clB (pv 0) (pa_cons (pv 7) (pa_cons (pv 8) pa_nil))))))))
      (pss_cons (ps_dput hu (pe_fld (pv 0) rfl) (pv 4) (pv 9) rfl)
      (pss_one (ps_if (pt_cmpR op_eq (pv 2) (pe_gs T.MEET) (nomark _)) (pss_one (ps_dput hu (pe_fld (pv 0) rfl) (pv 3) (pv 9) rfl)) pss_nil))))))), ?_⟩
    refine ⟨_, rfl, a, _, rfl, SqT.of ha, rfl, _, _, rfl, _, _, rfl, _, _, rfl, rfl, ?_⟩
    refine ⟨_, rfl, _, _, dx, _, _, rfl, hob, T.clB, T.nB _ (by decide +kernel), bF_has b, _, rfl, b.ha, _, rfl, g1 hp h1, ?_⟩
    refine ⟨_, rfl, _, _, dx, _, _, rfl, hob, T.clB, T.nB _ (by decide +kernel), bF_has b, _, rfl, b.ha, _, rfl, g1 hq h1, _, _, rfl, ?_⟩
    refine ⟨_, rfl, _, _, dx, _, _, rfl, hob, T.clB, T.nB _ (by decide +kernel), bF_kind b, rfl, _, rfl, ite2 (fun e => ?_) (fun e => ?_)⟩
    · have nl : ¬ b.kd = "long" := fun z => by rw [z] at e; simp at e
      refine ⟨_, rfl, _, rfl, _, rfl, fh p, _, rfl, SqL.of (h2 p hp).1, fun l1 H1 hl1 s1 h1l => ?_⟩
      have hx : ∀ p, cutV ((hs p).map fun k : Nat => V.int k) (some (-1)) none = (lastOf (hs p)).map fun k : Nat => V.int k := fun p => by
        rw [cutV_last, List.length_map, map_drop_int]
        rfl
      have h1l : NL H1 l1 (lastOf (hs p)) := h1l.trans (by rw [hx p])
      have o1 := o.same s1
      have nl1 : l1 ≠ b.fa := by
        obtain ⟨fs, hfa, _⟩ := o.fa
        exact fun z => by rw [z, hfa] at hl1; cases hl1
      refine ⟨l1, rfl, ⟨_, SqL.of h1l⟩, for_it walk_list (fun i σ H' => ∃ A1 o7 o8, σ = [some (.ref b.p), some (.ref a), some (.str z), some (.int p), some (.int q), some (.ref (fh p)), some (.ref (fh q)), o7, o8, none, none] ∧ Frame (S3 b) H1 H' ∧ BOk K H' b A1 Z hs ∧
          Is A1 Z (fun x y => PB x y ∨ (x ∈ (lastOf (hs p)).take i ∧ y ∈ lastOf (hs q))) PL) ⟨A, none, none, rfl, Frame.refl _ _, o1, is.congr (fun _ _ => by simp) fun _ _ => Iff.rfl⟩
          (fun i σ H' _ ⟨_, _, _, _, fr, _, _⟩ => SqL.of (NL.frame o1 fr h1l nl1)) ?_ ?_⟩
      · rintro i x σ H2 H3 hi ⟨A1, o7, o8, rfl, fr2, o2, is2⟩ ⟨rfl, hx2⟩
        rw [List.getElem?_map] at hx2
        obtain ⟨x1, hx1, rfl⟩ := Option.map_eq_some_iff.mp hx2
        have hitq := NL.frame o1 fr2 (s1 _ _ (h2 q hq).1) (h2 q hq).2
        refine ⟨_, rfl, _, rfl, _, rfl, fh q, _, rfl, SqL.of hitq, fun l2 H4 hl2 s4 h4l => ?_⟩
        have h4l : NL H4 l2 (lastOf (hs q)) := h4l.trans (by rw [hx q])
        have o4 := o2.same s4
        have nl2 : l2 ≠ b.fa := by
          obtain ⟨fs, hfa, _⟩ := o2.fa
          exact fun z => by rw [z, hfa] at hl2; cases hl2
        refine ⟨l2, rfl, ⟨_, SqL.of h4l⟩, for_it walk_list (fun j σ H' => ∃ A1 o8, σ = [some (.ref b.p), some (.ref a), some (.str z), some (.int p), some (.int q), some (.ref (fh p)), some (.ref (fh q)), some (.int x1), o8, none, none] ∧ Frame (S3 b) H4 H' ∧ BOk K H' b A1 Z hs ∧
            Is A1 Z (fun x y => (PB x y ∨ (x ∈ (lastOf (hs p)).take i ∧ y ∈ lastOf (hs q))) ∨ (x = x1 ∧ y ∈ (lastOf (hs q)).take j)) PL) ⟨A1, _, rfl, Frame.refl _ _, o4, is2.congr (fun _ _ => by simp) fun _ _ => Iff.rfl⟩
            (fun i σ H' _ ⟨_, _, _, fr, _, _⟩ => SqL.of (NL.frame o4 fr h4l nl2)) ?_ ?_⟩
        · rintro j y σ H5 H6 hj ⟨A5, o8, rfl, fr5, o5, is5⟩ ⟨rfl, hy2⟩
          rw [List.getElem?_map] at hy2
          obtain ⟨y1, hy1, rfl⟩ := Option.map_eq_some_iff.mp hy2
          obtain ⟨dx5, hob5⟩ := o5.ob
          refine ⟨_, rfl, _, dx5, _, rfl, hob5, bF_no b (by decide +kernel), _, rfl, _, rfl, b, A5, Z, hs, x1, y1, e1, _, PL, rfl, o5, is5, o.inH p hp x1 (lastOf_mem (List.mem_of_getElem? hx1)), o.inH q hq y1 (lastOf_mem (List.mem_of_getElem? hy1)), .inr ⟨[], se1 _, se1⟩, fun H7 A7 c fr7 o7 is7 => ?_⟩
          refine ⟨A7, _, rfl, fr5.trans fr7, o7, is7.congr (fun x y => ?_) fun _ _ => Iff.rfl⟩
          rw [List.take_add_one, hy1]
          simp only [List.mem_append, Option.toList_some, List.mem_singleton]
          constructor
          · rintro ((h | ⟨h1, h2⟩) | ⟨h1, h2⟩)
            · exact .inl h
            · exact .inr ⟨h1, .inl h2⟩
            · exact .inr ⟨h1, .inr h2⟩
          · rintro (h | ⟨h1, h2 | h2⟩)
            · exact .inl (.inl h)
            · exact .inl (.inr ⟨h1, h2⟩)
            · exact .inr ⟨h1, h2⟩
        · rintro σ H5 ⟨A5, o8, rfl, fr5, o5, is5⟩
          rw [List.length_map, List.take_length] at is5
          refine ⟨A5, _, _, rfl, (fr2.trans (Frame.of s4)).trans fr5, o5, is5.congr (fun x y => ?_) fun _ _ => Iff.rfl⟩
          rw [List.take_add_one, hx1]
          simp only [List.mem_append, Option.toList_some, List.mem_singleton]
          constructor
          · rintro ((h | ⟨h1, h2⟩) | ⟨h1, h2⟩)
            · exact .inl h
            · exact .inr ⟨.inl h1, h2⟩
            · exact .inr ⟨.inr h1, h2⟩
          · rintro (h | ⟨h1 | h1, h2⟩)
            · exact .inl (.inl h)
            · exact .inl (.inr ⟨h1, h2⟩)
            · exact .inr ⟨h1, h2⟩
      · rintro σ H2 ⟨A1, o7, o8, rfl, fr2, o2, is2⟩
        rw [List.length_map, List.take_length] at is2
        refine k H2 A1 ((Frame.of s1).trans (S3_Sb fr2)) ?_ ?_
        · unfold newH
          rw [decide_eq_false nl]
          exact o2
        · refine is2.congr (fun x y => ?_) fun _ _ => Iff.rfl
          unfold newB
          rw [decide_eq_false nl, if_neg Bool.false_ne_true, crossL_mem]
    · have yl : b.kd = "long" := by
        by_cases h : b.kd = "long"
        · exact h
        · exact absurd (by simp [h]) e
      refine ⟨_, rfl, _, rfl, fh p, fh q, _, _, rfl, rfl, (h2 p hp).1, (h2 q hq).1, line64 (by simp only [List.length_map]; omega), fun l1 H1 hl1 s1 hv1 => ?_⟩
      have hv1 : H1 l1 = some (.lst (((hs p ++ hs q).map fun k : Nat => (k : Int)).map V.int)) := by
        rw [hv1, List.map_map, List.map_append]
        rfl
      refine ⟨l1, _, rfl, SqL.of hv1, by simp; omega, fun sa c H2 hsa s2 hc hs2 => ?_⟩
      refine ⟨sa, _, c, rfl, hs2, by simp at hc; omega, fun ns p3 hsort hmem hlen hp3 => ?_⟩
      have hns : ns = (both n (hs p) (hs q)).map fun k : Nat => (k : Int) := both_int hkp hkq hsort fun k => (hmem k).trans decide_eq_true_iff
      generalize hbo : both n (hs p) (hs q) = bo at hns
      have hbn : ∀ k ∈ bo, k < n := fun k hk => by rw [← hbo] at hk; exact (mem_both.mp hk).1
      subst hns
      have s3 : Same H2 (upd H2 p3 (.lst ((bo.map fun k : Nat => (k : Int)).map V.int))) := same_new hp3
      generalize hH3 : upd H2 p3 (.lst ((bo.map fun k : Nat => (k : Int)).map V.int)) = H3 at s3 ⊢
      have hv3 : NL H3 p3 bo := by
        show H3 p3 = _
        rw [← hH3, upd_same, List.map_map]
        rfl
      have s13 := (s1.trans s2).trans s3
      have o3 := o.same s13
      have n3 : p3 ≠ b.fa := by
        obtain ⟨fs, hfa, _⟩ := (o.same (s1.trans s2)).fa
        exact fun z => by rw [z, hfa] at hp3; cases hp3
      refine ⟨_, rfl, p3, _, rfl, SqL.of hv3, for_it walk_enum (fun i σ H' => ∃ A1 o7 o8 o10, σ = [some (.ref b.p), some (.ref a), some (.str z), some (.int p), some (.int q), some (.ref (fh p)), some (.ref (fh q)), o7, o8, some (.ref p3), o10] ∧ Frame (S3 b) H3 H' ∧ BOk K H' b A1 Z hs ∧
          Is A1 Z (fun x y => PB x y ∨ ∃ t u : Nat, t < i ∧ t < u ∧ bo[t]? = some x ∧ bo[u]? = some y) PL) ⟨A, none, none, none, rfl, Frame.refl _ _, o3, is.congr (fun _ _ => ⟨.inl, fun h => h.elim id fun ⟨t, _, h, _⟩ => by omega⟩) fun _ _ => Iff.rfl⟩
          (fun i σ H' _ ⟨_, _, _, _, _, fr, _, _⟩ => SqL.of (NL.frame o3 fr hv3 n3)) ?_ ?_⟩
      · rintro i x σ H4 H5 hi ⟨A1, o7, o8, o10, rfl, fr4, o4, is4⟩ ⟨T1, x1, y1, rfl, hT, rfl, e1', e2'⟩
        cases e1'
        have e2' : (bo.map fun k : Nat => V.int k)[i]? = some y1 := e2'
        rw [List.getElem?_map] at e2'
        obtain ⟨x1, hx1, rfl⟩ := Option.map_eq_some_iff.mp e2'
        rw [List.length_map] at hi
        have s5 : Same H4 (upd H4 T1 (.tup [.int (i : Nat), .int x1])) := same_new hT
        refine ⟨T1, _, rfl, SqT.of upd_same, rfl, _, _, rfl, _, _, rfl, rfl, ?_⟩
        have hv5 := s5 _ _ (NL.frame o3 fr4 hv3 n3)
        refine ⟨_, rfl, _, rfl, _, _, rfl, rfl, _, rfl, p3, _, rfl, SqL.of hv5, fun l2 H6 hl2 s6 h6l => ?_⟩
        have ec : cutV (bo.map fun k : Nat => V.int k) (some ((i : Nat) + 1 : Int)) none = (bo.drop (i + 1)).map fun k : Nat => V.int k := by
          rw [show (((i : Nat) : Int) + 1) = ((i + 1 : Nat) : Int) by omega, cutV_from _ _ (by rw [List.length_map]; omega), List.map_drop]
        have h6l : NL H6 l2 (bo.drop (i + 1)) := h6l.trans (by rw [ec])
        have o6 := (o4.same s5).same s6
        have nl2 : l2 ≠ b.fa := by
          obtain ⟨fs, hfa, _⟩ := (o4.same s5).fa
          exact fun z => by rw [z, hfa] at hl2; cases hl2
        refine ⟨l2, rfl, ⟨_, SqL.of h6l⟩, for_it walk_list (fun j σ H' => ∃ A1 o8, σ = [some (.ref b.p), some (.ref a), some (.str z), some (.int p), some (.int q), some (.ref (fh p)), some (.ref (fh q)), some (.int x1), o8, some (.ref p3), some (.int (i : Nat))] ∧ Frame (S3 b) H6 H' ∧ BOk K H' b A1 Z hs ∧
            Is A1 Z (fun x y => (PB x y ∨ ∃ t u : Nat, t < i ∧ t < u ∧ bo[t]? = some x ∧ bo[u]? = some y) ∨ (x = x1 ∧ y ∈ (bo.drop (i + 1)).take j)) PL) ⟨A1, _, rfl, Frame.refl _ _, o6, is4.congr (fun _ _ => by simp) fun _ _ => Iff.rfl⟩
            (fun i σ H' _ ⟨_, _, _, fr, _, _⟩ => SqL.of (NL.frame o6 fr h6l nl2)) ?_ ?_⟩
        · rintro j y σ H7 H8 hj ⟨A5, o8, rfl, fr5, o5, is5⟩ ⟨rfl, hy2⟩
          rw [List.getElem?_map] at hy2
          obtain ⟨y1, hy1, rfl⟩ := Option.map_eq_some_iff.mp hy2
          obtain ⟨dx5, hob5⟩ := o5.ob
          refine ⟨_, rfl, _, dx5, _, rfl, hob5, bF_no b (by decide +kernel), _, rfl, _, rfl, b, A5, Z, hs, x1, y1, e1, _, PL, rfl, o5, is5, Nat.lt_of_lt_of_le (hbn x1 (List.mem_of_getElem? hx1)) hnm, Nat.lt_of_lt_of_le (hbn y1 (List.mem_of_mem_drop (List.mem_of_getElem? hy1))) hnm, .inr ⟨[], se1 _, se1⟩, fun H7 A7 c fr7 o7 is7 => ?_⟩
          refine ⟨A7, _, rfl, fr5.trans fr7, o7, is7.congr (fun x y => ?_) fun _ _ => Iff.rfl⟩
          rw [List.take_add_one, hy1]
          simp only [List.mem_append, Option.toList_some, List.mem_singleton]
          constructor
          · rintro ((h | ⟨h1, h2⟩) | ⟨h1, h2⟩)
            · exact .inl h
            · exact .inr ⟨h1, .inl h2⟩
            · exact .inr ⟨h1, .inr h2⟩
          · rintro (h | ⟨h1, h2 | h2⟩)
            · exact .inl (.inl h)
            · exact .inl (.inr ⟨h1, h2⟩)
            · exact .inr ⟨h1, h2⟩
        · rintro σ H7 ⟨A5, o8, rfl, fr5, o5, is5⟩
          rw [List.length_map, List.take_length] at is5
          refine ⟨A5, _, _, _, rfl, (fr4.trans (Frame.of (s5.trans s6))).trans fr5, o5, is5.congr (fun x y => ?_) fun _ _ => Iff.rfl⟩
          constructor
          · rintro ((h | ⟨t, u, h1, h2, h3, h4⟩) | ⟨rfl, h2⟩)
            · exact .inl h
            · exact .inr ⟨t, u, by omega, h2, h3, h4⟩
            · obtain ⟨d, hd⟩ := List.mem_iff_getElem?.mp h2
              rw [List.getElem?_drop] at hd
              exact .inr ⟨i, i + 1 + d, by omega, by omega, hx1, hd⟩
          · rintro (h | ⟨t, u, h1, h2, h3, h4⟩)
            · exact .inl (.inl h)
            · by_cases e : t = i
              · subst e
                rw [hx1] at h3
                refine .inr ⟨(Option.some.inj h3).symm, List.mem_iff_getElem?.mpr ⟨u - (t + 1), ?_⟩⟩
                rw [List.getElem?_drop, show t + 1 + (u - (t + 1)) = u by omega]
                exact h4
              · exact .inl (.inr ⟨t, u, by omega, h2, h3, h4⟩)
      · rintro σ H4 ⟨A1, o7, o8, o10, rfl, fr4, o4, is4⟩
        rw [List.length_map] at is4
        have is5 : Is A1 Z (fun i j => PB i j ∨ (i, j) ∈ newB (decide (b.kd = "long")) n (hs p) (hs q)) PL := is4.congr (fun x y => by
          unfold newB
          rw [decide_eq_true yl, if_pos rfl, hbo, pairsOf_iff]
          refine or_congr Iff.rfl ⟨fun ⟨t, u, h1, h2, h3, h4⟩ => ⟨t, u, h2, h3, h4⟩, fun ⟨t, u, h2, h3, h4⟩ => ⟨t, u, (List.getElem?_eq_some_iff.mp h3).1, h2, h3, h4⟩⟩) fun _ _ => Iff.rfl
        have hv4 := NL.frame o3 fr4 hv3 n3
        have hha4 := HasAt.frame o3 fr4 (s13 _ _ h1)
        have h24 : ∀ q, q < b.n → NL H4 (fh q) (hs q) ∧ fh q ≠ b.fa := fun q hq => ⟨NL.frame o3 fr4 (s13 _ _ (h2 q hq).1) (h2 q hq).2, (h2 q hq).2⟩
        have hbm : ∀ k ∈ bo, k < (looksF b.es).length := fun k hk => Nat.lt_of_lt_of_le (hbn k hk) hnm
        obtain ⟨dx4, hob4⟩ := o4.ob
        have o5 := o4.put hq hv4 n3 hbm hha4 h24
        have fr5 : Frame (Sb b) H (upd H4 b.ha (.dK (kH b.n (setA fh q p3)))) := ((Frame.of s13).trans (S3_Sb fr4)).trans (Frame.upd (by simp))
        refine ⟨_, rfl, _, rfl, _, _, dx4, _, _, rfl, hob4, T.clB, T.nB _ (by decide +kernel), bF_has b, _, rfl, b.ha, _, rfl, DPut.k (k := Sum.inl (q : Int)) hha4 (line64' (by rw [kH_len]; have := o.fewN; omega)), ?_⟩
        rw [putK_kH fh p3 hq]
        refine ⟨_, rfl, rfl, _, rfl, ite2 (fun e2 => ?_) (fun e2 => ?_)⟩
        · have zm : z = "meet" := V.str.inj (of_decide_eq_true e2)
          obtain ⟨dx5, hob5⟩ := o5.ob
          have hb5 : ∀ {q' : Addr} {ns : List Nat}, NL H4 q' ns → NL (upd H4 b.ha (.dK (kH b.n (setA fh q p3)))) q' ns := fun h => by
            show upd H4 b.ha _ _ = _
            rw [upd_ne (ne_of h hha4 (by intro z; cases z))]
            exact h
          refine ⟨_, rfl, _, rfl, _, _, dx5, _, _, rfl, hob5, T.clB, T.nB _ (by decide +kernel), bF_has b, _, rfl, b.ha, _, rfl, DPut.k (k := Sum.inl (p : Int)) upd_same (line64' (by rw [kH_len]; have := o.fewN; omega)), ?_⟩
          rw [putK_kH _ p3 hp]
          refine k _ A1 (fr5.trans (Frame.upd (by simp))) ?_ is5
          have o6 := o5.put hp (hb5 hv4) n3 hbm upd_same fun q2 hq2 => ?_
          · unfold newH
            rw [decide_eq_true yl, decide_eq_true zm, if_pos rfl, if_pos rfl, hbo]
            exact o6
          · unfold setA setH
            by_cases e : q2 = q
            · rw [if_pos e, if_pos e]; exact ⟨hb5 hv4, n3⟩
            · rw [if_neg e, if_neg e]; exact ⟨hb5 (h24 q2 hq2).1, (h24 q2 hq2).2⟩
        · refine k _ A1 fr5 ?_ is5
          have zm : ¬ z = "meet" := fun h => e2 (decide_eq_true (by rw [h]))
          unfold newH
          rw [decide_eq_true yl, decide_eq_false zm, if_pos rfl, if_neg Bool.false_ne_true, hbo]
          exact o5
end
end K43

-- K43B8
set_option Elab.async false
set_option linter.all false
set_option maxRecDepth 100000
set_option maxHeartbeats 4000000
/-! Bonds: go_through -/
namespace K43
open PySem PySem.Spec PyProof.Rows L2
theorem step_binds_meet (long : Bool) (s : GS) (p q x y : Nat) : ((x, y) ∈ s.binds ∨ (x, y) ∈ newB long s.num (s.has p) (s.has q)) ↔ (x, y) ∈ (stepG long s (.meet p q)).binds := by
  cases long <;> simp [stepG, newB]
theorem step_lows_meet (long : Bool) (s : GS) (p q x y : Nat) : (x, y) ∈ s.lows ↔ (x, y) ∈ (stepG long s (.meet p q)).lows := by
  cases long <;> simp [stepG]
theorem step_binds_tell (long : Bool) (s : GS) (p q x y : Nat) : ((x, y) ∈ s.binds ∨ (x, y) ∈ newB long s.num (s.has p) (s.has q)) ↔ (x, y) ∈ (stepG long s (.tell p q)).binds := by
  cases long <;> simp [stepG, newB]
theorem step_lows_tell (long : Bool) (s : GS) (p q x y : Nat) : (x, y) ∈ s.lows ↔ (x, y) ∈ (stepG long s (.tell p q)).lows := by
  cases long <;> simp [stepG]
theorem looks_take_le (es : List Ev) (i : Nat) : (looksF (es.take i)).length ≤ (looksF es).length := by
  have h := looksF_app (es.take i) (es.drop i)
  rw [List.take_append_drop] at h
  rw [h, List.length_append]
  exact Nat.le_add_right _ _
theorem take_snoc {α : Type} {es : List α} {i : Nat} {e : α} (h : es[i]? = some e) : es.take (i + 1) = es.take i ++ [e] := by
  rw [List.take_add_one, h]
  rfl
section
variable {P : Program} {w : World} {K : PySem.W.Frag} {mg : Str → Option Value} {base : Heap}
abbrev lg (b : Bo) : Bool := decide (b.kd = "long")
def IsG (A Z : List Pr) (s : GS) : Prop := Is A Z (fun i j => (i, j) ∈ s.binds) fun i j => (i, j) ∈ s.lows
def spGo (K : PySem.W.Frag) : Sp := fun vs H Q _ => ∃ b, vs = [.ref b.p] ∧ BOk K H b [] [] (fun _ => []) ∧ ∀ H' A' Z', Frame (Sb b) H H' → BOk K H' b A' Z' (runG (lg b) b.es).has → IsG A' Z' (runG (lg b) b.es) → Q .non H'
theorem scB_go : FnScope ["self", "number", "place", "event"] ["self"] (defScope sB_go_through) := ⟨rfl, rfl, rfl, by decide +kernel, rfl, by decide +kernel, by decide +kernel⟩
theorem okB_go {f : Addr} {fd : FuncData} (F : FunD K "go_through" "Bonds.go_through" (defArgs sB_go_through) (defBody sB_go_through) (defScope sB_go_through) [] [] f fd) (T : Txt K mg)
    (GK : GB P w K mg base 3 "looked" ["self", "person", "number"] (spLooked K)) (GC : GB P w K mg base 3 "compared" ["self", "event"] (spCompared K)) : FnOk P w K mg base CX0 4 f fd ["self"] (spGo K) := by
  refine okD F scB_go (fun vs H Q E h => ?_) (fun cdv A0 outer s H vs Q E hr h => ?_)
  · obtain ⟨b, rfl, _⟩ := h
    rfl
  · obtain ⟨b, rfl, o, k⟩ := h
    have hu := hu_of hr
    obtain ⟨dx, hob⟩ := o.ob
    obtain ⟨us, hev, pr⟩ := o.ev
    refine ⟨_, pss_cons (ps_set (i := 1) scB_go.nd rfl (Or.inl rfl) pe_int)
      (pss_one (ps_for PassesOwn.never rfl (pi_enumT (by rfl) T.enumerate (pa_cons (pe_fld (pv 0) rfl) pa_nil)) (pg_tup rfl (pgs_cons (pg_name (i := 2) scB_go.nd rfl (Or.inl rfl)) (pgs_cons (pg_name (i := 3) scB_go.nd rfl (Or.inl rfl)) pgs_nil)))
        (pss_via (ps_if (PW.pt (pw_and (pt_cmpR op_notIn_seq (pv 2) (pe_fld (pv 0) rfl) (by rfl)) (pw_and1 (pt_cmpR op_eq (pe_ix ix_tup (pv 3) pe_int (fun _ _ => rfl)) (pe_gs T.LOOK) (nomark _)))))
          (pss_one (ps_expr (pe_m GK hr T.clB (pv 0) (pa_cons (pe_ix ix_tup (pv 3) pe_int (fun _ _ => rfl)) (pa_cons (pv 1) pa_nil)))))
          (pss_one (ps_if (PW.pt (pw_and (pt_cmpR op_notIn_seq (pv 2) (pe_fld (pv 0) rfl) (by rfl)) (pw_and1 (pt_cmpR op_gt (pe_callB call_len_seq (by rfl) T.len PySem.boot_len (pa_cons (pv 3) pa_nil)) pe_int (nomark _)))))
            (pss_one (ps_expr (pe_m GC hr T.clB (pv 0) (pa_cons (pv 3) pa_nil)))) pss_nil)))
        (pss_one (ps_aug (i := 1) scB_go.nd rfl (.inl rfl) (pe_callTy call_int1 (by rfl) T.int PyProof.Rows.boot_int (pa_cons (pe_cmpR op_eq (pe_ix ix_tup (pv 3) pe_int (fun _ _ => rfl)) (pe_gs T.LOOK) (nomark _)) pa_nil)) ip_add))))), ?_⟩
    have nlk : ∀ z : Str, z ≠ "look" → ¬ decide (V.str z = V.str "look") = true := fun z h => decF fun q => h (V.str.inj q)
    have evTup : ∀ {H' : Hp}, Frame (Sb b) H H' → H' b.ev = some (.tup us) := fun fr => o.tups fr _ _ hev
    refine ⟨_, rfl, _, _, dx, _, _, rfl, hob, T.clB, T.nB _ (by decide +kernel), bF_events b, b.ev, us, rfl, SqT.of hev, for_it walk_enumT (fun i σ H' => ∃ A1 Z1 o2 o3, σ = [some (.ref b.p), some (.int (runG (lg b) (b.es.take i)).num), o2, o3] ∧ Frame (Sb b) H H' ∧
        BOk K H' b A1 Z1 (runG (lg b) (b.es.take i)).has ∧ IsG A1 Z1 (runG (lg b) (b.es.take i))) ⟨[], [], none, none, rfl, Frame.refl _ _, o, ⟨fun i j => by simp [runG, gs0], fun i j => by simp [runG, gs0]⟩⟩ (fun i σ H' _ ⟨_, _, _, _, _, fr, _⟩ => SqT.of (evTup fr)) ?_ ?_⟩
    · rintro i x σ H1 H2 hi ⟨A1, Z1, o2, o3, rfl, fr1, o1, is1⟩ ⟨T1, x1, y1, rfl, hT, rfl, e1, e2⟩
      cases e1
      obtain ⟨e, he, ea, rfl, hea⟩ := paired_at pr e2
      have hokE := o.okE e (List.mem_of_getElem? he)
      have s2 : Same H1 (upd H1 T1 (.tup [.int (i : Nat), .ref ea])) := same_new hT
      have hea1 := o.tups fr1 _ _ hea
      have hea2 := s2 _ _ hea1
      have o2' := o1.same s2
      have fr2 : Frame (Sb b) H (upd H1 T1 (.tup [.int (i : Nat), .ref ea])) := fr1.trans (Frame.of s2)
      generalize hH2 : upd H1 T1 (.tup [.int (i : Nat), .ref ea]) = H2 at s2 hea2 o2' fr2
      have hT2 : H2 T1 = some (.tup [.int (i : Nat), .ref ea]) := by rw [← hH2]; exact upd_same
      obtain ⟨dx2, hob2⟩ := o2'.ob
      have hsn := take_snoc he
      have hG : runG (lg b) (b.es.take (i + 1)) = stepG (lg b) (runG (lg b) (b.es.take i)) e := by rw [hsn, runG_snoc]
      have hnum := runG_num (lg b) (b.es.take i)
      have hle := looks_take_le b.es i
      have hle1 := looks_take_le b.es (i + 1)
      have hnum1 := runG_num (lg b) (b.es.take (i + 1))
      have hm := o.m
      have hlen := runG_len (lg b) (b.es.take i)
      have hlt := (runG_ok (lg b) (b.es.take i)).has
      rw [hG] at hnum1
      generalize runG (lg b) (b.es.take i) = s at *
      refine ⟨T1, _, rfl, SqT.of hT2, rfl, _, _, rfl, _, _, rfl, rfl, ?_⟩
      have evK : ∀ {H' : Hp}, Frame (Sb b) H2 H' → H' ea = some (.tup (evV e)) := fun fr => o2'.tups fr _ _ hea2
      refine ⟨fun σ H3 => ∃ A1 Z1, σ = [some (.ref b.p), some (.int s.num), some (.int (i : Nat)), some (.ref ea)] ∧ Frame (Sb b) H2 H3 ∧ BOk K H3 b A1 Z1 (stepG (lg b) s e).has ∧ IsG A1 Z1 (stepG (lg b) s e), ?_, ?_⟩
      · refine ⟨_, rfl, _, rfl, _, _, dx2, _, _, rfl, hob2, T.clB, T.nB _ (by decide +kernel), bF_gone b, b.go, [], rfl, .inl (SqL.of o2'.go.1), rfl, rfl, _, rfl, itP (by rfl) ?_⟩
        refine ⟨_, rfl, ea, _, 0, _, rfl, rfl, SqT.of hea2, evV_0 e, rfl, _, rfl, ?_⟩
        cases e with
        | look p =>
          refine itP (decide_eq_true rfl) ?_
          have hp : p < b.n := hokE
          refine ⟨_, rfl, _, dx2, _, rfl, hob2, bF_no b (by decide +kernel), _, rfl, ea, _, 1, _, rfl, rfl, SqT.of hea2, rfl, _, rfl, b, A1, Z1, s.has, p, s.num, _, _, rfl, o2', is1, hp, ?_, ?_, fun H3 Z3 fr3 o3 is3 => ?_⟩
          · have : (stepG (lg b) s (.look p)).num = s.num + 1 := rfl
            omega
          · have := hlen p; omega
          · refine ⟨A1, Z3, rfl, fr3, o3, is3.congr (fun _ _ => Iff.rfl) fun x y => ?_⟩
            simp only [stepG, List.mem_append, List.mem_map, Prod.mk.injEq]
            refine or_congr Iff.rfl ⟨fun ⟨h1, h2⟩ => ⟨x, h1, rfl, h2.symm⟩, fun ⟨a, h1, h2, h3⟩ => ⟨h2 ▸ h1, h3.symm⟩⟩
        | add p =>
          refine itN (nlk _ (by show ¬ (("add" : Str) = "look"); decide +kernel)) ?_
          refine ⟨_, rfl, _, rfl, _, _, dx2, _, _, rfl, hob2, T.clB, T.nB _ (by decide +kernel), bF_gone b, b.go, [], rfl, .inl (SqL.of o2'.go.1), rfl, rfl, _, rfl, itP (by rfl) ?_⟩
          refine ⟨_, rfl, ea, _, rfl, .inr (SqT.of hea2), _, _, rfl, rfl, _, rfl, itN (decF (by show ¬ ((2 : Int) < ((2 : Nat) : Int)); decide)) ?_⟩
          exact ⟨A1, Z1, rfl, Frame.refl _ _, o2', is1⟩
        | meet p q =>
          refine itN (nlk _ (by show ¬ (("meet" : Str) = "look"); decide +kernel)) ?_
          refine ⟨_, rfl, _, rfl, _, _, dx2, _, _, rfl, hob2, T.clB, T.nB _ (by decide +kernel), bF_gone b, b.go, [], rfl, .inl (SqL.of o2'.go.1), rfl, rfl, _, rfl, itP (by rfl) ?_⟩
          refine ⟨_, rfl, ea, _, rfl, .inr (SqT.of hea2), _, _, rfl, rfl, _, rfl, itP (decide_eq_true (by show (2 : Int) < ((3 : Nat) : Int); decide)) ?_⟩
          refine ⟨_, rfl, _, dx2, _, rfl, hob2, bF_no b (by decide +kernel), _, rfl, b, A1, Z1, s.has, ea, "meet", p, q, s.num, _, _, rfl, hea2, o2', is1, hokE.1, hokE.2, hlt p, hlt q, by omega, by have := hlen p; omega, by have := hlen q; omega, fun H3 A3 fr3 o3 is3 => ?_⟩
          refine ⟨A3, Z1, rfl, fr3, ?_, is3.congr (fun x y => ?_) fun x y => ?_⟩
          · have e3 : (stepG (lg b) s (.meet p q)).has = newH (lg b) (decide (("meet" : Str) = "meet")) s.num s.has p q := by
              unfold newH
              rw [decide_eq_true (rfl : ("meet" : Str) = "meet")]
              cases lg b <;> rfl
            rw [e3]
            exact o3
          · exact step_binds_meet (lg b) s p q x y
          · exact step_lows_meet (lg b) s p q x y
        | tell p q =>
          refine itN (nlk _ (by show ¬ (("tell" : Str) = "look"); decide +kernel)) ?_
          refine ⟨_, rfl, _, rfl, _, _, dx2, _, _, rfl, hob2, T.clB, T.nB _ (by decide +kernel), bF_gone b, b.go, [], rfl, .inl (SqL.of o2'.go.1), rfl, rfl, _, rfl, itP (by rfl) ?_⟩
          refine ⟨_, rfl, ea, _, rfl, .inr (SqT.of hea2), _, _, rfl, rfl, _, rfl, itP (decide_eq_true (by show (2 : Int) < ((3 : Nat) : Int); decide)) ?_⟩
          refine ⟨_, rfl, _, dx2, _, rfl, hob2, bF_no b (by decide +kernel), _, rfl, b, A1, Z1, s.has, ea, "tell", p, q, s.num, _, _, rfl, hea2, o2', is1, hokE.1, hokE.2, hlt p, hlt q, by omega, by have := hlen p; omega, by have := hlen q; omega, fun H3 A3 fr3 o3 is3 => ?_⟩
          refine ⟨A3, Z1, rfl, fr3, ?_, is3.congr (fun x y => ?_) fun x y => ?_⟩
          · have e3 : (stepG (lg b) s (.tell p q)).has = newH (lg b) (decide (("tell" : Str) = "meet")) s.num s.has p q := by
              unfold newH
              rw [decide_eq_false (show ¬ ("tell" : Str) = "meet" by decide +kernel)]
              cases lg b <;> rfl
            rw [e3]
            exact o3
          · exact step_binds_tell (lg b) s p q x y
          · exact step_lows_tell (lg b) s p q x y
      · rintro σ H3 ⟨A3, Z3, rfl, fr3, o3, is3⟩
        refine ⟨_, rfl, _, rfl, ea, _, 0, _, rfl, rfl, SqT.of (evK fr3), evV_0 e, rfl, .inr ⟨_, rfl, _, _, rfl, rfl, ?_⟩⟩
        refine ⟨A3, Z3, some (.int (i : Nat)), some (.ref ea), ?_, fr2.trans fr3, ?_, ?_⟩
        · rw [hG]
          have e4 : ((s.num : Int) + if decide (V.str (evW e) = V.str "look") = true then 1 else 0) = ((stepG (lg b) s e).num : Int) := by
            cases e with
            | look p => rfl
            | add p => rfl
            | meet p q => rw [if_neg (nlk _ (by show ¬ (("meet" : Str) = "look"); decide +kernel))]; cases lg b <;> simp [stepG]
            | tell p q => rw [if_neg (nlk _ (by show ¬ (("tell" : Str) = "look"); decide +kernel))]; cases lg b <;> simp [stepG]
          exact congrArg (fun z => [some (V.ref b.p), some (V.int z), some (V.int (i : Nat)), some (V.ref ea)]) e4
        · rw [hG]; exact o3
        · rw [hG]; exact is3
    · rintro σ H1 ⟨A1, Z1, o2, o3, rfl, fr1, o1, is1⟩
      have e : b.es.take us.length = b.es := List.take_of_length_le (by rw [paired_len pr]; exact Nat.le_refl _)
      rw [e] at o1 is1
      exact k H1 A1 Z1 fr1 o1 is1
end
end K43

-- K43B9
set_option Elab.async false
set_option linter.all false
set_option maxRecDepth 100000
set_option maxHeartbeats 4000000
/-! Bonds: the object is made -/
namespace K43
open PySem PySem.Spec PyProof.Rows L2
theorem putF_new {f : Str} {v : V} : ∀ {fs : List (Str × V)}, f ∉ fs.map (·.1) → putF f v fs = fs ++ [(f, v)]
  | [], _ => rfl
  | (g, x) :: r, h => by
    simp only [List.map_cons, List.mem_cons, not_or] at h
    rw [putF, if_neg (Ne.symm h.1), putF_new h.2]
    rfl
theorem PI.imp {X : Cx} {tg e : Expr} {wi wi' : TI} (h : PI X tg e wi) (i : ∀ σ H R, wi' σ H R → wi σ H R) : PI X tg e wi' := ⟨fun pins s σ H R I q => h.run pins s σ H R I (i _ _ _ q)⟩
/-- a list or a tuple: told at once -/
def iSeqU (K : PySem.W.Frag) (tl : TE) : TI := fun σ H R => tl σ H fun x H1 => ∃ a xs, ∃ G : Hp → Prop, x = .ref a ∧ ((∀ H', G H' → SqL K H' a xs) ∨ (∀ H', G H' → SqT K H' a xs)) ∧ G H1 ∧ ∀ J, Walk J xs.length G (YAt xs) → R J H1
theorem pi_seqU {X : Cx} {tg l : Expr} {tl : TE} (hl : PE X l tl) : PI X tg l (iSeqU X.K tl) := by
  have h2 : PE X l (fun σ H Q => ∃ R, tl σ H R ∧ ∀ x H1, R x H1 → Q x H1) := ⟨fun pins s σ H Q I ⟨R, q, i⟩ => thn (hl.run pins s σ H R I q) fun u s1 ⟨x, H1, I1, r1, q1⟩ => ⟨x, H1, I1, r1, i _ _ q1⟩⟩
  refine PI.imp (pi_seq h2) fun σ H R q => ⟨_, q, fun x H1 ⟨a, xs, G, e, d, g, k⟩ => ⟨a, e, ?_⟩⟩
  rcases d with d | d
  · exact .inl ⟨⟨xs, d _ g⟩, k _ (walk_list.mono d fun _ _ _ _ _ _ h => h)⟩
  · exact .inr ⟨⟨xs, d _ g⟩, k _ (walk_tup.mono d fun _ _ _ _ _ _ h => h)⟩
section
variable {H H' : Hp} {x : Addr} {C dx : Addr} {fs : List (Str × V)}
theorem Frame.at1 (f : Frame [x] H H') {b : Addr} {o : HO} (h : H b = some o) (n : b ≠ x) : H' b = some o := f b o h (by simpa using n)
theorem Frame.tups1 (f : Frame [x] H H') (hx : H x = some (.ins C dx fs)) : Tups H H' := fun b l h => f.at1 h (ne_of h hx (by intro z; cases z))
theorem Frame.lst1 (f : Frame [x] H H') (hx : H x = some (.ins C dx fs)) {b : Addr} {l : List V} (h : H b = some (.lst l)) : H' b = some (.lst l) := f.at1 h (ne_of h hx (by intro z; cases z))
theorem Frame.dK1 (f : Frame [x] H H') (hx : H x = some (.ins C dx fs)) {b : Addr} {l : List (Key × V)} (h : H b = some (.dK l)) : H' b = some (.dK l) := f.at1 h (ne_of h hx (by intro z; cases z))
theorem Frame.dT1 (f : Frame [x] H H') (hx : H x = some (.ins C dx fs)) {b : Addr} {l : List (List Key × V)} (h : H b = some (.dT l)) : H' b = some (.dT l) := f.at1 h (ne_of h hx (by intro z; cases z))
theorem Frame.fresh1 (f : Frame [x] H H') {y : Addr} (h : H' y = Option.none) (n : y ≠ x) : H y = Option.none := by
  cases e : H y with
  | none => rfl
  | some o => rw [f.at1 e n] at h; cases h
/-- a field is put in -/
theorem Frame.put1 (f : Frame [x] H H') {o : HO} : Frame [x] H (L2.upd H' x o) := f.trans (Frame.upd (by simp))
theorem Frame.newer (f : Frame [x] H H') {S : List Addr} {H2 : Hp} (g : Frame S H' H2) (n : ∀ y ∈ S, H y = Option.none) : Frame [x] H H2 := fun b o e m => g b o (f b o e m) fun z => by
  rw [n b z] at e
  cases e
end
theorem valV_kH_none (n p : Nat) (f : Nat → Addr) (h : n ≤ p) : valV (kH n f) (Sum.inl (p : Int)) = none := by
  have key : ∀ l : List Nat, (∀ q ∈ l, q < p) → valV (l.map fun p : Nat => ((Sum.inl (p : Int) : Key), V.ref (f p))) (Sum.inl (p : Int)) = none := fun l => by
    induction l with
    | nil => intro _; rfl
    | cons q r ih =>
      intro hq
      rw [List.map_cons, valV_neg (fun z => by have e := Sum.inl.inj z; have := hq q List.mem_cons_self; omega)]
      exact ih fun y hy => hq y (List.mem_cons_of_mem _ hy)
  exact key _ fun q hq => by have := List.mem_range.mp hq; omega
theorem kH_more (n : Nat) (f : Nat → Addr) (a : Addr) : putK (kH n f) (Sum.inl (n : Int)) (V.ref a) = kH (n + 1) (setA f n a) := by
  rw [putK_new _ (valV_kH_none n n f (Nat.le_refl _))]
  unfold kH
  rw [List.range_succ, List.map_append]
  congr 1
  · refine List.map_congr_left fun q hq => ?_
    have : q ≠ n := by have := List.mem_range.mp hq; omega
    unfold setA
    rw [if_neg this]
  · unfold setA
    simp
/-- {.. : .. for ..} over a walk -/
theorem dc_go {J : It} {n : Nat} {G : Hp → Prop} {Y : Nat → Hp → V → Hp → Prop} (w : Walk J n G Y) {g : TG} {tt : TT} {tk tv : TE} {vs : List Nat} {σ : L2.St} {H1 : Hp} {D : Addr} {Qd : Hp → Prop} (Pv : Nat → Hp → Prop) (h0 : Pv 0 (upd H1 D (.dK []))) (hG : ∀ i H, i ≤ n → Pv i H → G H)
    (hs : ∀ i x H H', i < n → Pv i H → Y i H x H' → g x (wipe σ vs) H' fun σ2 H2 => wipe σ2 vs = wipe σ vs ∧ tt σ2 H2 fun b H3 =>
      if b = true then tk σ2 H3 fun y H4 => tv σ2 H4 fun z H5 => ∃ kvs k, y = kV k ∧ H5 D = some (.dK kvs) ∧ kvs.length < sizeLine ∧ Pv (i + 1) (upd H5 D (.dK (putK kvs k z))) else Pv (i + 1) H3) (hd : ∀ H, Pv n H → Qd H) :
    ∃ W : Nat → Nat → Hp → Prop, (∃ m, W 0 m (upd H1 D (.dK []))) ∧ ∀ i m H, W i m H →
      (J.stop i H ∧ Qd H) ∨ (J.go i H ∧ ∃ Nx : Hp → Prop, (∀ H', Nx H' → ∃ m', m' < m ∧ W (i + 1) m' H') ∧ ∀ x H', J.yld i H x H' → g x (wipe σ vs) H' fun σ2 H2 => wipe σ2 vs = wipe σ vs ∧ tt σ2 H2 fun b H3 =>
        if b = true then tk σ2 H3 fun y H4 => tv σ2 H4 fun z H5 => ∃ kvs k, y = kV k ∧ H5 D = some (.dK kvs) ∧ kvs.length < sizeLine ∧ Nx (upd H5 D (.dK (putK kvs k z))) else Nx H3) := by
  refine ⟨fun i m H => m = n - i ∧ i ≤ n ∧ Pv i H, ⟨n, by simp, Nat.zero_le _, h0⟩, ?_⟩
  rintro i m H ⟨rfl, hi, p⟩
  have q := hG i H hi p
  by_cases hlt : i < n
  · exact .inr ⟨w.goes i H hlt q, Pv (i + 1), fun H' p' => ⟨n - (i + 1), by omega, rfl, hlt, p'⟩, fun x H' y => hs i x H H' hlt p (w.yields i H x H' hlt q y)⟩
  · have e : i = n := by omega
    subst e
    exact .inl ⟨w.stops H q, hd H p⟩
/-- what the closing leaves is what Cl says -/
theorem closed_is {es : List Ev} {long : Bool} {ps A0 Z0 A Z : List Pr} (hsym : ∀ i j, (i, j) ∈ A → (j, i) ∈ A) (hA : ∀ p ∈ A, p.1 < (looksF es).length ∧ p.2 < (looksF es).length) (hZ : ∀ p ∈ Z, p.1 < (looksF es).length ∧ p.2 < (looksF es).length)
    (is0 : Is A0 Z0 (fun i j => (i, j) ∈ (runG long es).binds ∨ (i, j) ∈ ps) fun i j => (i, j) ∈ (runG long es).lows) (sA : ∀ p ∈ A0, p ∈ A) (sZ : ∀ p ∈ Z0, p ∈ Z) (inn : Inn (clF long es ps true) (clF long es ps false) A Z)
    (dn : ∀ i j, i < (looksF es).length → j < (looksF es).length → Done es A Z i j) : (∀ i j, (i, j) ∈ A ↔ clF long es ps true i j) ∧ ∀ i j, (i, j) ∈ Z ↔ clF long es ps false i j := by
  have key : ∀ (b : Bool) (i j : Nat), clF long es ps b i j → if b = true then (i, j) ∈ A else (i, j) ∈ Z := fun b i j h => by
    refine Cl.least (A := fun i j => (i, j) ∈ A) (Z := fun i j => (i, j) ∈ Z) (fun i j h n => sA _ ((is0.a i j).mpr ⟨n, .inl (List.mem_append.mp h)⟩)) (fun i j h n => sZ _ ((is0.z i j).mpr ⟨n, h⟩)) hsym ?_ ?_ ?_ ?_ h
    · exact fun i j h => (dn i j (hZ _ h).1 (hZ _ h).2).up h (Cl.ne (inn.2 _ h))
    · exact fun i j k h h2 n => (dn i j (hZ _ h).1 (hZ _ h).2).tr h k (hZ _ h2).2 h2 n
    · exact fun i j k h h2 n => (dn i j (hZ _ h).1 (hZ _ h).2).ba h k (hA _ h2).2 (Cl.ne (inn.1 _ h2)).symm h2 n
    · exact fun i j h l => (dn i j (hA _ h).1 (hA _ h).2).la (Cl.ne (inn.1 _ h)) h l
  exact ⟨fun i j => ⟨fun h => inn.1 _ h, fun h => key true i j h⟩, fun i j => ⟨fun h => inn.2 _ h, fun h => key false i j h⟩⟩
theorem clF_clo (long : Bool) (es : List Ev) (ps : List Pr) : Clo es (clF long es ps true) (clF long es ps false) := ⟨fun _ _ h => .sym h, fun _ _ h => .up h, fun _ _ _ h1 h2 n => .tr h1 h2 n, fun _ _ _ h1 h2 n => .ba h1 h2 n, fun _ _ h l => .la h l⟩
/-- a tuple without members, that stands -/
def EmpT (K : PySem.W.Frag) (H : Hp) (g : Addr) : Prop := (∀ H', SqT K H' g []) ∨ H g = some (.tup [])
theorem EmpT.at {K : PySem.W.Frag} {H : Hp} {g : Addr} (e : EmpT K H g) : SqT K H g [] := e.elim (fun h => h H) SqT.of
theorem EmpT.tups {K : PySem.W.Frag} {H H' : Hp} {g : Addr} (t : Tups H H') (e : EmpT K H g) : EmpT K H' g := e.imp id (t _ _)
def MoreAt (K : PySem.W.Frag) (H : Hp) (m : Addr) (ps : List Pr) : Prop := PrL H m ps ∨ (ps = [] ∧ EmpT K H m)
theorem lt1k {α : Type} {l : List α} (n : Nat) (e : l.length = n) (h : n < 1000) : l.length < 1000 := by rw [e]; exact h
/-- the object while its fields are put in -/
structure Mkg (H0 : Hp) (x : Addr) (C dx : Addr) (H : Hp) (fs : List (Str × V)) : Prop where
  fr : Frame [x] H0 H
  ob : H x = some (.ins C dx fs)
theorem Mkg.put {H0 H : Hp} {x C dx : Addr} {fs : List (Str × V)} (m : Mkg H0 x C dx H fs) {f : Str} {v : V} (h : f ∉ fs.map (·.1)) : Mkg H0 x C dx (upd H x (.ins C dx (putF f v fs))) (fs ++ [(f, v)]) := by
  rw [putF_new h]
  exact ⟨m.fr.put1, upd_same⟩
theorem Mkg.step {H0 H : Hp} {x C dx : Addr} {fs : List (Str × V)} (m : Mkg H0 x C dx H fs) {H2 : Hp} (s : Same H H2) : Mkg H0 x C dx H2 fs := ⟨m.fr.trans (Frame.of s), s _ _ m.ob⟩
/-- what was told of the heap is kept by a put -/
theorem Mkg.away {H0 H : Hp} {x C dx : Addr} {fs : List (Str × V)} (m : Mkg H0 x C dx H fs) {b : Addr} {o u : HO} (h : H b = some o) (n : ∀ C dx fs, o ≠ .ins C dx fs) : upd H x u b = some o := by
  rw [upd_ne (ne_of h m.ob (n _ _ _))]
  exact h
theorem Mkg.tup {H0 H : Hp} {x C dx : Addr} {fs : List (Str × V)} (m : Mkg H0 x C dx H fs) {u : HO} : Tups H (upd H x u) := fun b l h => m.away h fun _ _ _ z => by cases z
section
variable {P : Program} {w : World} {K : PySem.W.Frag} {mg : Str → Option Value} {base : Heap}
/-- Bonds that is made: what it holds -/
structure BondsAt (K : PySem.W.Frag) (H : Hp) (b : Bo) (ps : List Pr) (A Z : List Pr) : Prop where
  o : BOk K H b A Z (runG (lg b) b.es).has
  a : ∀ i j, (i, j) ∈ A ↔ clF (lg b) b.es ps true i j
  z : ∀ i j, (i, j) ∈ Z ↔ clF (lg b) b.es ps false i j
def spBInit (K : PySem.W.Frag) : Sp := fun vs H Q _ => ∃ x dx v n es kd g m, ∃ ps : List Pr, vs = [.ref x, v, .str kd, .ref g, .ref m] ∧ H x = some (.ins (cB K) dx []) ∧ TabAt H v n es ∧ es.length ≤ 16 ∧ n ≤ 8 ∧ (∀ e ∈ es, e.okFor n) ∧ EmpT K H g ∧ MoreAt K H m ps ∧
  (∀ p ∈ ps, p.1 < (looksF es).length ∧ p.2 < (looksF es).length) ∧
  ∀ H' b A Z, b.p = x → b.es = es → b.n = n → b.kd = kd → Frame [x] H H' → BondsAt K H' b ps A Z → Q .non H'
theorem scB_init : FnScope ["self", "timetable", "kind", "gone", "more", "one", "other", "person"] ["self", "timetable", "kind", "gone", "more"] (defScope sB_init) := ⟨rfl, rfl, rfl, by decide +kernel, rfl, by decide +kernel, by decide +kernel⟩
theorem okB_init {f : Addr} {fd : FuncData} {dvs : List V} (F : FunD K "__init__" "Bonds.__init__" (defArgs sB_init) (defBody sB_init) (defScope sB_init) dvs [] f fd) (T : Txt K mg) {e1 : Addr} (se1 : ∀ H, SqT K H e1 [])
    (GLk : GOk P w K mg base 2 "looks" ["timetable"] spLooks) (GAd : GOk P w K mg base 2 "adds" ["timetable"] spAdds)
    (GG : GB P w K mg base 4 "go_through" ["self"] (spGo K)) (GB0 : MOk P w K mg base 2 (cB K) "bind" ["self", "one", "other", "source"] [.ref e1] (spBind K)) (GCl : GB P w K mg base 4 "close" ["self"] (spClose K)) :
    FnOk P w K mg base CX0 5 f fd ["self", "timetable", "kind", "gone", "more"] (spBInit K) := by
  refine okD F scB_init (fun vs H Q E h => ?_) (fun cdv A0 outer s H vs Q E hr h => ?_)
  · obtain ⟨x, dx, v, n, es, kd, g, m, ps, rfl, _⟩ := h
    rfl
  · obtain ⟨x, dx, v, n, es, kd, g, m, ps, rfl, hx, ht, hle, hn8, hok, hg, hm, hps, k⟩ := h
    have hu := hu_of hr
    have hr2 := hr.mono (show 2 ≤ 4 by decide)
    have GB := bindI GB0
    refine ⟨_, pss_cons (ps_asg (pv 1) (pg_tup rfl (pgs_cons (pg_fld (f := "own_people") (pv 0)) (pgs_cons (pg_fld (f := "own_events") (pv 0)) pgs_nil))))
      (pss_cons (ps_fld (pv 0) (pv 2) rfl)
      (pss_cons (ps_fld (pv 0) (pe_callTy call_listS (by rfl) T.list PyProof.Rows.boot_list (pa_cons (pv 3) pa_nil)) rfl)
      (pss_cons (ps_fld (pv 0) (pe_g GLk hr2 (pa_cons (pv 1) pa_nil)) rfl)
      (pss_cons (ps_fld (pv 0) (pe_g GAd hr2 (pa_cons (pv 1) pa_nil)) rfl)
      (pss_cons (ps_fld (pv 0) pe_dnewTS rfl)
      (pss_cons (ps_fld (pv 0) pe_dnewTS rfl)
      (pss_cons (ps_fld (pv 0) (pe_dc (own := [("person", 7)]) (g := gName 7) (tt := tYes) (tk := tVar 7) (tv := tLstS tNil) rfl scB_init.nd (pi_range1 (by rfl) T.range (pa_cons (pe_fld (pv 0) rfl) pa_nil))
        (blkOk_by (own := [("person", 7)]) (N := ["self", "timetable", "kind", "gone", "more", "one", "other", "person"]) (sc := defScope sB_init) (by decide +kernel)) (fun _ _ _ _ _ => pg_name (i := 7) scB_init.nd rfl (Or.inl rfl)) (fun _ _ _ _ _ => pts_nil) (fun _ _ _ _ _ => pv 7) (fun _ _ _ _ _ => pe_lstS pa_nil)) rfl)
      (pss_cons (ps_fld (pv 0) (pe_lstS pa_nil) rfl)
      (pss_cons (ps_expr (pe_m0 GG hr T.clB (pv 0)))
      (pss_cons (ps_for PassesOwn.never rfl (pi_seqU (pv 4)) (pg_tup rfl (pgs_cons (pg_name (i := 5) scB_init.nd rfl (Or.inl rfl)) (pgs_cons (pg_name (i := 6) scB_init.nd rfl (Or.inl rfl)) pgs_nil)))
        (pss_one (ps_expr (pe_m GB hr2 T.clB (pv 0) (pa_cons (pv 5) (pa_cons (pv 6) pa_nil))))))
      (pss_one (ps_expr (pe_m0 GCl hr T.clB (pv 0)))))))))))))), ?_⟩
    obtain ⟨ta, ev, rfl, hta, hev⟩ := ht
    have nB : ∀ f ∈ (["own_people", "own_events", "own_kind", "own_gone", "own_looks", "own_adds", "own_alike", "own_below", "own_has", "own_facts"] : List Str), NoAttr K (cB K) f := T.nB
    have m0 : Mkg H x (cB K) dx H [] := ⟨Frame.refl _ _, hx⟩
    refine ⟨_, rfl, ta, _, rfl, SqT.of hta, rfl, _, _, rfl, ⟨_, rfl, x, cB K, dx, [], rfl, hx, T.clB, nB _ (by decide +kernel), by decide, ?_⟩⟩
    have m1 := m0.put (f := "own_people") (v := .int n) (by decide +kernel)
    generalize e1h : upd H x _ = H1 at m1 ⊢
    have t1 : Tups H H1 := fun b l h => by rw [← e1h]; exact m0.tup b l h
    refine ⟨_, _, rfl, ⟨_, rfl, x, cB K, dx, _, rfl, m1.ob, T.clB, nB _ (by decide +kernel), lt1k 1 rfl (by decide), ?_⟩⟩
    have m2 := m1.put (f := "own_events") (v := .ref ev) (by show _ ∉ (["own_people"] : List Str); decide +kernel)
    generalize e2h : upd H1 x _ = H2 at m2 ⊢
    have t2 : Tups H H2 := fun b l h => by rw [← e2h]; exact m1.tup b l (t1 b l h)
    refine ⟨rfl, ?_⟩
    refine ⟨_, rfl, _, rfl, x, cB K, dx, _, rfl, m2.ob, T.clB, nB _ (by decide +kernel), lt1k 2 rfl (by decide), ?_⟩
    have m3 := m2.put (f := "own_kind") (v := .str kd) (by show _ ∉ (["own_people", "own_events"] : List Str); decide +kernel)
    generalize e3h : upd H2 x _ = H3 at m3 ⊢
    have t3 : Tups H H3 := fun b l h => by rw [← e3h]; exact m2.tup b l (t2 b l h)
    refine ⟨_, rfl, g, [], rfl, .inr (hg.tups t3).at, fun go H4 hgo s4 hgo4 => ?_⟩
    have m4 := m3.step s4
    refine ⟨_, rfl, x, cB K, dx, _, rfl, m4.ob, T.clB, nB _ (by decide +kernel), lt1k 3 rfl (by decide), ?_⟩
    have m5 := m4.put (f := "own_gone") (v := .ref go) (by show _ ∉ (["own_people", "own_events", "own_kind"] : List Str); decide +kernel)
    generalize e5h : upd H4 x _ = H5 at m5 ⊢
    have u5 : Tups H4 H5 := fun b l h => by rw [← e5h]; exact m4.tup b l h
    have t5 : Tups H H5 := fun b l h => u5 b l (s4 _ _ (t3 b l h))
    have w5 : ∀ {b : Addr} {o : HO}, H4 b = some o → (∀ C dx fs, o ≠ .ins C dx fs) → H5 b = some o := fun h n => by rw [← e5h]; exact m4.away h n
    have hgo5 := w5 hgo4 (fun _ _ _ z => by cases z)
    refine ⟨_, rfl, .ref ta, n, es, rfl, ⟨ta, ev, rfl, t5 _ _ hta, hev.tups t5⟩, by omega, fun lo H6 s6 hlo6 => ?_⟩
    have m6 := m5.step s6
    have hgo6 := s6 _ _ hgo5
    refine ⟨_, rfl, x, cB K, dx, _, rfl, m6.ob, T.clB, nB _ (by decide +kernel), lt1k 4 rfl (by decide), ?_⟩
    have m7 := m6.put (f := "own_looks") (v := .ref lo) (by show _ ∉ (["own_people", "own_events", "own_kind", "own_gone"] : List Str); decide +kernel)
    generalize e7h : upd H6 x _ = H7 at m7 ⊢
    have u7 : Tups H6 H7 := fun b l h => by rw [← e7h]; exact m6.tup b l h
    have t7 : Tups H H7 := fun b l h => u7 b l (s6 _ _ (t5 b l h))
    have w7 : ∀ {b : Addr} {o : HO}, H6 b = some o → (∀ C dx fs, o ≠ .ins C dx fs) → H7 b = some o := fun h n => by rw [← e7h]; exact m6.away h n
    have hgo7 := w7 hgo6 (fun _ _ _ z => by cases z)
    have hlo7 : PrL H7 lo (looksF es) := hlo6.tups u7 fun l h => w7 h (fun _ _ _ z => by cases z)
    refine ⟨_, rfl, .ref ta, n, es, rfl, ⟨ta, ev, rfl, t7 _ _ hta, hev.tups t7⟩, by omega, fun ad H8 s8 had8 => ?_⟩
    have m8 := m7.step s8
    have hgo8 := s8 _ _ hgo7
    have hlo8 := hlo7.same s8
    refine ⟨_, rfl, x, cB K, dx, _, rfl, m8.ob, T.clB, nB _ (by decide +kernel), lt1k 5 rfl (by decide), ?_⟩
    have m9 := m8.put (f := "own_adds") (v := .ref ad) (by show _ ∉ (["own_people", "own_events", "own_kind", "own_gone", "own_looks"] : List Str); decide +kernel)
    generalize e9h : upd H8 x _ = H9 at m9 ⊢
    have u9 : Tups H8 H9 := fun b l h => by rw [← e9h]; exact m8.tup b l h
    have t9 : Tups H H9 := fun b l h => u9 b l (s8 _ _ (t7 b l h))
    have w9 : ∀ {b : Addr} {o : HO}, H8 b = some o → (∀ C dx fs, o ≠ .ins C dx fs) → H9 b = some o := fun h n => by rw [← e9h]; exact m8.away h n
    have hgo9 := w9 hgo8 (fun _ _ _ z => by cases z)
    have hlo9 : PrL H9 lo (looksF es) := hlo8.tups u9 fun l h => w9 h (fun _ _ _ z => by cases z)
    have had9 : PrL H9 ad (addsF es) := had8.tups u9 fun l h => w9 h (fun _ _ _ z => by cases z)
    refine fun al Ha hal9 sa hala => ?_
    have ma := m9.step sa
    have hgoa := sa _ _ hgo9
    have hloa := hlo9.same sa
    have hada := had9.same sa
    refine ⟨_, rfl, x, cB K, dx, _, rfl, ma.ob, T.clB, nB _ (by decide +kernel), lt1k 6 rfl (by decide), ?_⟩
    have mb := ma.put (f := "own_alike") (v := .ref al) (by show _ ∉ (["own_people", "own_events", "own_kind", "own_gone", "own_looks", "own_adds"] : List Str); decide +kernel)
    generalize ebh : upd Ha x _ = Hb at mb ⊢
    have ub : Tups Ha Hb := fun b l h => by rw [← ebh]; exact ma.tup b l h
    have tb : Tups H Hb := fun b l h => ub b l (sa _ _ (t9 b l h))
    have wb : ∀ {b : Addr} {o : HO}, Ha b = some o → (∀ C dx fs, o ≠ .ins C dx fs) → Hb b = some o := fun h n => by rw [← ebh]; exact ma.away h n
    have hgob := wb hgoa (fun _ _ _ z => by cases z)
    have hlob : PrL Hb lo (looksF es) := hloa.tups ub fun l h => wb h (fun _ _ _ z => by cases z)
    have hadb : PrL Hb ad (addsF es) := hada.tups ub fun l h => wb h (fun _ _ _ z => by cases z)
    have halb := wb hala (fun _ _ _ z => by cases z)
    refine fun be Hc hbeb sc hbec => ?_
    have mc := mb.step sc
    have hgoc := sc _ _ hgob
    have hloc := hlob.same sc
    have hadc := hadb.same sc
    have halc := sc _ _ halb
    refine ⟨_, rfl, x, cB K, dx, _, rfl, mc.ob, T.clB, nB _ (by decide +kernel), lt1k 7 rfl (by decide), ?_⟩
    have md := mc.put (f := "own_below") (v := .ref be) (by show _ ∉ (["own_people", "own_events", "own_kind", "own_gone", "own_looks", "own_adds", "own_alike"] : List Str); decide +kernel)
    generalize edh : upd Hc x _ = Hd at md ⊢
    have ud : Tups Hc Hd := fun b l h => by rw [← edh]; exact mc.tup b l h
    have td : Tups H Hd := fun b l h => ud b l (sc _ _ (tb b l h))
    have wd : ∀ {b : Addr} {o : HO}, Hc b = some o → (∀ C dx fs, o ≠ .ins C dx fs) → Hd b = some o := fun h n => by rw [← edh]; exact mc.away h n
    have hgod := wd hgoc (fun _ _ _ z => by cases z)
    have hlod : PrL Hd lo (looksF es) := hloc.tups ud fun l h => wd h (fun _ _ _ z => by cases z)
    have hadd : PrL Hd ad (addsF es) := hadc.tups ud fun l h => wd h (fun _ _ _ z => by cases z)
    have hald := wd halc (fun _ _ _ z => by cases z)
    have hbed := wd hbec (fun _ _ _ z => by cases z)
    have nab : al ≠ be := ne_of_none halb hbeb
    refine ⟨_, rfl, _, _, dx, _, _, rfl, md.ob, T.clB, nB _ (by decide +kernel), rfl, _, rfl, by omega, by omega, ?_⟩
    rw [Int.toNat_natCast]
    intro ha hha
    refine dc_go walk_rg (fun i H' => ∃ f : Nat → Addr, H' ha = some (.dK (kH i f)) ∧ Same Hd H' ∧ ∀ p, p < i → NL H' (f p) [] ∧ Hd (f p) = none) ⟨fun _ => ha, upd_same, same_new hha, fun p hp => by omega⟩ (fun _ _ _ _ => trivial) ?_ ?_
    · rintro i y H' H'' hi ⟨f, h1, s1, h2⟩ ⟨rfl, rfl⟩
      refine ⟨rfl, iteT (B := ∃ f : Nat → Addr, H'' ha = some (.dK (kH (i + 1) f)) ∧ Same Hd H'' ∧ ∀ p, p < i + 1 → NL H'' (f p) [] ∧ Hd (f p) = none) ⟨_, rfl, t0, fun l H3 hl s3 h3 => ?_⟩⟩
      refine ⟨_, Sum.inl (i : Int), rfl, s3 _ _ h1, line64' (by rw [kH_len]; omega), setA f i l, ?_, ?_, ?_⟩
      · rw [upd_same, kH_more]
      · intro b o e
        rw [upd_ne (ne_of_none e hha)]
        exact s3 _ _ (s1 _ _ e)
      · intro p hp
        have fl : Hd l = none := by
          cases e : Hd l with
          | none => rfl
          | some o => rw [s1 _ _ e] at hl; cases hl
        unfold setA
        by_cases e : p = i
        · rw [if_pos e]
          refine ⟨?_, fl⟩
          show upd H3 ha _ l = _
          rw [upd_ne (ne_of h3 (s3 _ _ h1) (by intro z; cases z))]
          exact h3
        · rw [if_neg e]
          obtain ⟨q1, q2⟩ := h2 p (by omega)
          refine ⟨?_, q2⟩
          show upd H3 ha _ (f p) = _
          rw [upd_ne (ne_of (s3 _ _ q1) (s3 _ _ h1) (by intro z; cases z))]
          exact s3 _ _ q1
    · rintro He ⟨fh, hhae, se, hfe⟩
      have me := md.step se
      refine ⟨_, rfl, x, cB K, dx, _, rfl, me.ob, T.clB, nB _ (by decide +kernel), lt1k 8 rfl (by decide), ?_⟩
      have mf := me.put (f := "own_has") (v := .ref ha) (by show _ ∉ (["own_people", "own_events", "own_kind", "own_gone", "own_looks", "own_adds", "own_alike", "own_below"] : List Str); decide +kernel)
      generalize efh : upd He x _ = Hf at mf ⊢
      have uf : Tups He Hf := fun b l h => by rw [← efh]; exact me.tup b l h
      have wf : ∀ {b : Addr} {o : HO}, He b = some o → (∀ C dx fs, o ≠ .ins C dx fs) → Hf b = some o := fun h n => by rw [← efh]; exact me.away h n
      refine ⟨t0, fun fa Hg hfa sg hfag => ?_⟩
      have mg' := mf.step sg
      refine ⟨_, rfl, x, cB K, dx, _, rfl, mg'.ob, T.clB, nB _ (by decide +kernel), lt1k 9 rfl (by decide), ?_⟩
      have mh := mg'.put (f := "own_facts") (v := .ref fa) (by show _ ∉ (["own_people", "own_events", "own_kind", "own_gone", "own_looks", "own_adds", "own_alike", "own_below", "own_has"] : List Str); decide +kernel)
      generalize ehh : upd Hg x _ = Hh at mh ⊢
      have uh : Tups Hg Hh := fun b l h => by rw [← ehh]; exact mg'.tup b l h
      have wh : ∀ {b : Addr} {o : HO}, Hg b = some o → (∀ C dx fs, o ≠ .ins C dx fs) → Hh b = some o := fun h n => by rw [← ehh]; exact mg'.away h n
      have dh : ∀ {b : Addr} {o : HO}, Hd b = some o → (∀ C dx fs, o ≠ .ins C dx fs) → Hf b = some o ∧ Hh b = some o := fun h n => ⟨wf (se _ _ h) n, wh (sg _ _ (wf (se _ _ h) n)) n⟩
      have tdh : Tups Hd Hh := fun b l h => (dh h fun _ _ _ z => by cases z).2
      have th : Tups H Hh := fun b l h => tdh b l (td b l h)
      have prh : ∀ {a ps}, PrL Hd a ps → PrL Hh a ps ∧ a ≠ fa := fun {a ps} h => by
        obtain ⟨us, h1, h2⟩ := id h
        obtain ⟨q1, q2⟩ := dh h1 fun _ _ _ z => by cases z
        exact ⟨h.tups tdh fun l h => (dh h fun _ _ _ z => by cases z).2, ne_of_none q1 hfa⟩
      obtain ⟨half, halh⟩ := dh hald fun _ _ _ z => by cases z
      obtain ⟨hbef, hbeh⟩ := dh hbed fun _ _ _ z => by cases z
      obtain ⟨hgof, hgoh⟩ := dh hgod fun _ _ _ z => by cases z
      have hhaf := wf hhae fun _ _ _ z => by cases z
      have hhah := wh (sg _ _ hhaf) fun _ _ _ z => by cases z
      have hfah := wh hfag fun _ _ _ z => by cases z
      have o : BOk K Hh ⟨x, al, be, ha, fa, lo, ad, go, ev, n, kd, es⟩ [] [] fun _ => [] :=
        { ob := ⟨dx, mh.ob⟩, al := halh, be := hbeh, has := ⟨fh, hhah, fun p hp => ⟨wh (sg _ _ (wf (hfe p hp).1 (fun _ _ _ z => by cases z))) (fun _ _ _ z => by cases z), ne_of_none (wf (hfe p hp).1 (fun _ _ _ z => by cases z)) hfa⟩⟩, fa := ⟨[], hfah, Nat.le_refl _⟩,
          lo := prh hlod, ad := prh hadd, go := ⟨hgoh, ne_of_none hgof hfa⟩, ev := hev.tups th, ne := nab, dA := List.nodup_nil, dZ := List.nodup_nil, sym := (fun _ _ h => by cases h), inA := (fun _ h => by cases h), inZ := (fun _ h => by cases h),
          inH := (fun _ _ _ h => by cases h), few := hle, fewN := hn8, okE := hok }
      have nw : ∀ y ∈ ([al, be, ha, fa] : List Addr), H y = none := by
        intro y hy
        simp only [List.mem_cons, List.not_mem_nil, or_false] at hy
        rcases hy with rfl | rfl | rfl | rfl
        · exact m9.fr.fresh1 hal9 (ne_of halh mh.ob (by intro z; cases z))
        · exact mb.fr.fresh1 hbeb (ne_of hbeh mh.ob (by intro z; cases z))
        · exact md.fr.fresh1 hha (ne_of hhah mh.ob (by intro z; cases z))
        · exact mf.fr.fresh1 hfa (ne_of hfah mh.ob (by intro z; cases z))
      generalize hb : (⟨x, al, be, ha, fa, lo, ad, go, ev, n, kd, es⟩ : Bo) = b at o
      have bp : b.p = x := by rw [← hb]
      have be' : b.es = es := by rw [← hb]
      have bn : b.n = n := by rw [← hb]
      have bk : b.kd = kd := by rw [← hb]
      have bS : Sb b = [al, be, ha, fa] := by rw [← hb]
      obtain ⟨dxh, hobh⟩ := o.ob
      refine ⟨_, rfl, x, dxh, bF b, rfl, by rw [← bp]; exact hobh, bF_no b (by decide +kernel), b, by rw [bp]; rfl, o, fun H2 A2 Z2 fr2 o2 is2 => ?_⟩
      rw [bS] at fr2
      have fr2 : Frame [x] H H2 := mh.fr.newer fr2 nw
      have bS3 : ∀ y ∈ S3 b, H y = none := fun y hy => nw y (by rw [← bS]; simp at hy ⊢; rcases hy with rfl | rfl | rfl <;> simp)
      have fin : ∀ H3 A3, Frame [x] H H3 → BOk K H3 b A3 Z2 (runG (lg b) b.es).has → Is A3 Z2 (fun i j => (i, j) ∈ (runG (lg b) b.es).binds ∨ (i, j) ∈ ps) (fun i j => (i, j) ∈ (runG (lg b) b.es).lows) → spClose K [.ref x] H3 (fun _ H4 => Q .non H4) E0 := fun H3 A3 fr3 o3 is3 => by
        refine ⟨b, A3, Z2, _, clF (lg b) b.es ps true, clF (lg b) b.es ps false, by rw [bp], o3, clF_clo _ _ _, ⟨fun p hp => ?_, fun p hp => ?_⟩, fun H4 A4 Z4 fr4 o4 sA sZ inn dn => ?_⟩
        · obtain ⟨n, q⟩ := (is3.a p.1 p.2).mp hp
          rcases q with q | q
          · exact .b0 (List.mem_append.mpr q) n
          · exact .sym (.b0 (List.mem_append.mpr q) n.symm)
        · obtain ⟨n, q⟩ := (is3.z p.1 p.2).mp hp
          exact .l0 q n
        · obtain ⟨c1, c2⟩ := closed_is o4.sym o4.inA o4.inZ is3 sA sZ inn dn
          exact k H4 b A4 Z4 bp be' bn bk (fr3.newer fr4 bS3) ⟨o4, c1, c2⟩
      have hmo : ∃ vs, ((∀ H', Frame [x] H H' → SqL K H' m vs) ∨ (∀ H', Frame [x] H H' → SqT K H' m vs)) ∧ Paired (PrAt H) vs ps := by
        rcases hm with ⟨us, hus, prm⟩ | ⟨rfl, hem⟩
        · exact ⟨us, .inl fun H' fr => SqL.of (fr.lst1 hx hus), prm⟩
        · exact ⟨[], .inr fun H' fr => (hem.tups (fr.tups1 hx)).at, .nil⟩
      obtain ⟨vs, hsq, prm⟩ := hmo
      refine ⟨_, rfl, m, vs, fun H' => Frame [x] H H', rfl, hsq, fr2, fun J wk2 => ?_⟩
      · refine for_it wk2 (fun t σ H' => ∃ o5 o6 A3, σ = [some (.ref x), some (.ref ta), some (.str kd), some (.ref g), some (.ref m), o5, o6, none] ∧ Frame [x] H H' ∧ BOk K H' b A3 Z2 (runG (lg b) b.es).has ∧
          Is A3 Z2 (fun i j => (i, j) ∈ (runG (lg b) b.es).binds ∨ (i, j) ∈ ps.take t) (fun i j => (i, j) ∈ (runG (lg b) b.es).lows)) ⟨none, none, A2, rfl, fr2, o2, is2.congr (fun _ _ => by simp) fun _ _ => Iff.rfl⟩ (fun _ _ _ _ ⟨_, _, _, _, fr, _⟩ => fr) ?_ ?_
        · rintro t y σ H3 H4 hti ⟨o5, o6, A3, rfl, fr3, o3, is3⟩ ⟨rfl, hy⟩
          obtain ⟨p, hp, c, rfl, hc⟩ := paired_at prm hy
          have hc3 : H4 c = some (.tup (prV p)) := fr3.tups1 hx _ _ hc
          obtain ⟨dx3, hob3⟩ := o3.ob
          have hpp := hps p (List.mem_of_getElem? hp)
          rw [← be'] at hpp
          refine ⟨c, _, rfl, SqT.of hc3, rfl, _, _, rfl, _, _, rfl, rfl, ?_⟩
          refine ⟨_, rfl, x, dx3, bF b, rfl, by rw [← bp]; exact hob3, bF_no b (by decide +kernel), _, rfl, _, rfl, b, A3, Z2, _, p.1, p.2, e1, _, _, by rw [bp]; rfl, o3, is3, hpp.1, hpp.2, .inr ⟨[], se1 _, se1⟩, fun H5 A5 c5 fr5 o5' is5 => ?_⟩
          refine ⟨_, _, A5, rfl, fr3.newer fr5 bS3, o5', is5.congr (fun i j => ?_) fun _ _ => Iff.rfl⟩
          rw [List.take_add_one, hp]
          simp only [List.mem_append, Option.toList_some, List.mem_singleton, or_assoc]
          refine or_congr Iff.rfl (or_congr Iff.rfl ?_)
          constructor
          · rintro ⟨rfl, rfl⟩; rfl
          · intro e; exact ⟨congrArg Prod.fst e, congrArg Prod.snd e⟩
        · rintro σ H3 ⟨o5, o6, A3, rfl, fr3, o3, is3⟩
          rw [paired_len prm, List.take_length] at is3
          obtain ⟨dx3, hob3⟩ := o3.ob
          exact ⟨_, rfl, x, dx3, bF b, rfl, by rw [← bp]; exact hob3, bF_no b (by decide +kernel), fin H3 A3 fr3 o3 is3⟩
end
end K43

-- K43P1
set_option Elab.async false
set_option linter.all false
set_option maxRecDepth 100000
set_option maxHeartbeats 4000000
/-! a Keeping in the heap; everything, last_add, Peeling's stops -/
namespace K43
open PySem PySem.Spec PyProof.Rows L2
structure Ko where
  k : Addr
  lo : Addr
  ad : Addr
  un : Addr
  ba : Addr
  b : Bo
  W : List Pr
  ch : Bool
abbrev Ko.es (o : Ko) : List Ev := o.b.es
abbrev Ko.m (o : Ko) : Nat := (looksF o.b.es).length
def kF (o : Ko) : List (Str × V) := [("own_looks", .ref o.lo), ("own_adds", .ref o.ad), ("own_bonds", .ref o.b.p), ("own_unlike", .ref o.un), ("own_barred", .ref o.ba)]
theorem kF_no (o : Ko) {m : Str} (h : m ∉ (["own_looks", "own_adds", "own_bonds", "own_unlike", "own_barred"] : List Str)) : (kF o).lookup m = none := by
  have e : ∀ (l : List (Str × V)), m ∉ l.map (·.1) → l.lookup m = none := fun l => by
    induction l with
    | nil => intro _; rfl
    | cons x r ih =>
      intro hm
      simp only [List.map_cons, List.mem_cons, not_or] at hm
      have hb : (m == x.1) = false := beq_eq_false_iff_ne.mpr hm.1
      obtain ⟨k, v⟩ := x
      simp only [List.lookup, hb]
      exact ih hm.2
  exact e (kF o) h
/-- the barred looks: for each wished look a list of all looks it is barred from -/
def BarAt (H : Hp) (ba : Addr) (long : Bool) (es : List Ev) (W : List Pr) : Prop := ∃ kvs : List (Key × V), H ba = some (.dK kvs) ∧ (∀ q ∈ kvs, ∃ l : Nat, q.1 = Sum.inl (l : Int)) ∧
  (∀ l : Nat, (∃ p, (l, p) ∈ W) → ∃ a ns, valV kvs (Sum.inl (l : Int)) = some (.ref a) ∧ NL H a ns ∧ ∀ o, o ∈ ns ↔ barF long es W l o) ∧ (∀ l : Nat, (¬ ∃ p, (l, p) ∈ W) → valV kvs (Sum.inl (l : Int)) = none) ∧ kvs.length ≤ 1000
structure KOk (K : PySem.W.Frag) (H : Hp) (o : Ko) : Prop where
  ob : ∃ dx, H o.k = some (.ins (cK K) dx (kF o))
  lo : PrL H o.lo (looksF o.b.es)
  ad : PrL H o.ad (addsF o.b.es)
  bo : ∃ A Z, BondsAt K H o.b (moreF o.b.es o.ch) A Z
  un : H o.un = some (.dT [])
  ba : BarAt H o.ba (lg o.b) o.b.es o.W
section
variable {K : PySem.W.Frag} {H H' : Hp} {o : Ko}
theorem BarAt.same (s : Same H H') {ba : Addr} {long : Bool} {es : List Ev} {W : List Pr} (h : BarAt H ba long es W) : BarAt H' ba long es W := by
  obtain ⟨kvs, h1, h2, h3, h4⟩ := h
  exact ⟨kvs, s _ _ h1, h2, fun l w => let ⟨a, ns, q1, q2, q3⟩ := h3 l w; ⟨a, ns, q1, s _ _ q2, q3⟩, h4⟩
theorem BondsAt.same (s : Same H H') {b : Bo} {ps A Z : List Pr} (h : BondsAt K H b ps A Z) : BondsAt K H' b ps A Z := ⟨h.o.same s, h.a, h.z⟩
theorem KOk.same (s : Same H H') (h : KOk K H o) : KOk K H' o where
  ob := let ⟨dx, q⟩ := h.ob; ⟨dx, s _ _ q⟩
  lo := h.lo.same s
  ad := h.ad.same s
  bo := let ⟨A, Z, q⟩ := h.bo; ⟨A, Z, q.same s⟩
  un := s _ _ h.un
  ba := h.ba.same s
theorem KOk.few (h : KOk K H o) : o.b.es.length ≤ 16 := let ⟨_, _, q⟩ := h.bo; q.o.few
theorem KOk.m (h : KOk K H o) : o.m ≤ 16 := let ⟨_, _, q⟩ := h.bo; q.o.m
end
section
variable {P : Program} {w : World} {K : PySem.W.Frag} {mg : Str → Option Value} {base : Heap}
abbrev GP (P : Program) (w : World) (K : PySem.W.Frag) (mg : Str → Option Value) (base : Heap) (k : Nat) (m : Str) (ps : List Str) (sp : Sp) : Prop := MOk P w K mg base k (cK K) m ps [] sp
def spEvery (K : PySem.W.Frag) : Sp := fun vs H Q _ => ∃ o, vs = [.ref o.k] ∧ KOk K H o ∧ ∀ l H', H l = none → Same H H' → NL H' l (List.range o.m) → Q (.ref l) H'
theorem scP_everything : FnScope ["self"] ["self"] (defScope sP_everything) := ⟨rfl, rfl, rfl, by decide +kernel, rfl, by decide +kernel, by decide +kernel⟩
theorem rgV_nat (n : Nat) : rgV 0 (n : Int) = (List.range n).map fun k : Nat => V.int k := by
  unfold rgV
  rw [show ((n : Int) - 0).toNat = n by omega]
  exact List.map_congr_left fun i _ => congrArg V.int (Int.zero_add _)
theorem okP_everything {f : Addr} {fd : FuncData} (F : FunD K "everything" "Peeling.everything" (defArgs sP_everything) (defBody sP_everything) (defScope sP_everything) [] [] f fd) (T : Txt K mg) : FnOk P w K mg base CX0 1 f fd ["self"] (spEvery K) := by
  refine okD F scP_everything (fun vs H Q E h => ?_) (fun cdv A0 outer s H vs Q E hr h => ?_)
  · obtain ⟨o, rfl, _⟩ := h
    rfl
  · obtain ⟨o, rfl, ok, k⟩ := h
    obtain ⟨dx, hob⟩ := ok.ob
    obtain ⟨us, hlo, pr⟩ := ok.lo
    have hm : (looksF o.b.es).length ≤ 16 := ok.m
    refine ⟨_, pss_one (ps_ret (pe_listRgS rfl T.list (prg_1 (by rfl) T.range (pe_callB call_len_seq (by rfl) T.len PySem.boot_len (pa_cons (pe_fld (pv 0) rfl) pa_nil))))), ?_⟩
    refine ⟨_, rfl, _, _, dx, _, _, rfl, hob, T.clK, T.nK _ (by decide +kernel), rfl, o.lo, us, rfl, .inl (SqL.of hlo), _, rfl, ?_, fun l H1 hl s1 h1 => ?_⟩
    · rw [paired_len pr]
      exact RgOk.of_le (by omega) (by omega) (by omega) (by omega)
    · refine k l H1 hl s1 ?_
      show H1 l = _
      rw [h1, paired_len pr, rgV_nat]
/-- the place of the last own add ahead of a look, or -1 -/
def LastIs (es : List Ev) (l : Nat) (r : Int) : Prop := ∀ b : Nat, ((b : Int) < r ↔ ∃ a c p, (looksF es)[l]? = some (a, p) ∧ (c, p) ∈ addsF es ∧ c < a ∧ b < c)
def spLast (K : PySem.W.Frag) : Sp := fun vs H Q _ => ∃ o, ∃ l : Nat, vs = [.ref o.k, .int l] ∧ KOk K H o ∧ l < o.m ∧ ∀ r H', Same H H' → LastIs o.b.es l r → Q (.int r) H'
theorem scP_last : FnScope ["self", "look", "end", "person", "place", "adder"] ["self", "look"] (defScope sP_last_add) := ⟨rfl, rfl, rfl, by decide +kernel, rfl, by decide +kernel, by decide +kernel⟩
def lastO (es : List Ev) (e1 p1 : Nat) (k : Nat) : Option V := ((addsF es)[k]?).bind fun x => if x.1 < e1 ∧ x.2 = p1 then some (.int x.1) else none
theorem filterMap_at {α β : Type} (g : α → Option β) (l : List α) : (List.range l.length).filterMap (fun k => (l[k]?).bind g) = l.filterMap g := by
  induction l with
  | nil => rfl
  | cons x r ih =>
    rw [List.length_cons, List.range_succ_eq_map, List.filterMap_cons, List.filterMap_map, List.filterMap_cons]
    have e : (List.range r.length).filterMap ((fun k => ((x :: r)[k]?).bind g) ∘ Nat.succ) = r.filterMap g := by
      rw [← ih]
      rfl
    rw [e]
    rfl
theorem okP_last {f : Addr} {fd : FuncData} (F : FunD K "last_add" "Peeling.last_add" (defArgs sP_last_add) (defBody sP_last_add) (defScope sP_last_add) [] [] f fd) (T : Txt K mg) : FnOk P w K mg base CX0 1 f fd ["self", "look"] (spLast K) := by
  refine okD F scP_last (fun vs H Q E h => ?_) (fun cdv A0 outer s H vs Q E hr h => ?_)
  · obtain ⟨o, l, rfl, _⟩ := h
    rfl
  · obtain ⟨o, l, rfl, ok, hl, k⟩ := h
    obtain ⟨dx, hob⟩ := ok.ob
    obtain ⟨us, hlo, pr⟩ := ok.lo
    obtain ⟨vs, had, pr2⟩ := ok.ad
    have hm := ok.m
    have hfew := ok.few
    obtain ⟨⟨e1, p1⟩, hq⟩ : ∃ x, (looksF o.b.es)[l]? = some x := ⟨_, List.getElem?_eq_getElem hl⟩
    obtain ⟨_, g1, a1, rfl, h1⟩ := paired_at' pr hq
    refine ⟨_, pss_cons (ps_asg (pe_ix ix_list (pe_fld (pv 0) rfl) (pv 1) (fun _ _ => rfl)) (pg_tup rfl (pgs_cons (pg_name (i := 2) scP_last.nd rfl (Or.inr rfl)) (pgs_cons (pg_name (i := 3) scP_last.nd rfl (Or.inr rfl)) pgs_nil))))
      (pss_one (ps_ret (pe_callB (cr_max rfl) (by rfl) T.max PyProof.Rows.boot_max (pa_cons (pe_op op_catS (pe_lstS (pa_cons (pe_un un_neg pe_int) pa_nil)) (pe_lc (own := [("place", 4), ("adder", 5)]) (g := gTup K 2 (gCons (gName 4) (gCons (gName 5) gNil)))
        (tt := tAnd (tTest (tOp (rI0 fun i j => .bl (decide (i < j))) (tVar 4) (tVar 2))) (tTest (tOp rEq (tVar 5) (tVar 3)))) (te := tVar 4) rfl scP_last.nd
        (pi_list (pe_fld (pv 0) rfl)) (blkOk_by (own := [("place", 4), ("adder", 5)]) (N := ["self", "look", "end", "person", "place", "adder"]) (sc := defScope sP_last_add) (by decide +kernel))
        (fun _ _ _ _ _ => pg_tup rfl (pgs_cons (pg_name (i := 4) scP_last.nd rfl (Or.inl rfl)) (pgs_cons (pg_name (i := 5) scP_last.nd rfl (Or.inl rfl)) pgs_nil)))
        (fun _ _ _ _ _ => pts_one (PW.pt (pw_and (pt_cmpR op_lt (pv 4) (pv 2) (nomark _)) (pw_and1 (pt_cmpR op_eq (pv 5) (pv 3) (nomark _)))))) (fun _ _ _ _ _ => pv 4))) pa_nil)))), ?_⟩
    refine ⟨_, rfl, _, _, dx, _, _, rfl, hob, T.clK, T.nK _ (by decide +kernel), rfl, _, rfl, o.lo, us, _, _, rfl, rfl, SqL.of hlo, atI_nat g1, a1, _, rfl, SqT.of h1, rfl, _, _, rfl, _, _, rfl, rfl, ?_⟩
    refine ⟨_, rfl, t1, fun l1 H1 hl1 s1 hv1 => ?_⟩
    have had1 := s1 _ _ had
    refine ⟨_, rfl, _, _, dx, _, _, rfl, s1 _ _ hob, T.clK, T.nK _ (by decide +kernel), rfl, o.ad, rfl, ⟨_, SqL.of had1⟩, ?_⟩
    refine lc_flat walk_list (lastO o.b.es e1 p1) ?_ (fun H2 s2 => SqL.of (s2 _ _ had1)) ?_ ?_
    · have := addsF_len o.b.es
      rw [paired_len pr2]; omega
    · rintro k' x H2 H2' Ky Kn hk s2 ⟨rfl, hx⟩ ky kn
      obtain ⟨⟨c3, p3⟩, e3, a3, rfl, h3⟩ := paired_at pr2 hx
      have h3 := s2 _ _ (s1 _ _ h3)
      refine ⟨a3, _, rfl, SqT.of h3, rfl, _, _, rfl, _, _, rfl, rfl, rfl, ?_⟩
      refine ⟨_, rfl, _, rfl, _, _, rfl, rfl, _, rfl, ite2 (fun z => ⟨_, rfl, _, rfl, rfl, _, rfl, ite2 (fun z2 => ?_) (fun z2 => ?_)⟩) (fun z => iteF ?_)⟩
      · have y1 := of_decide_eq_true z
        have y2 := V.int.inj (of_decide_eq_true z2)
        refine ⟨_, rfl, ky _ _ (Same.refl _) ?_⟩
        unfold lastO
        rw [e3]
        exact if_pos ⟨by show c3 < e1; omega, by show p3 = p1; omega⟩
      · refine kn _ (Same.refl _) ?_
        unfold lastO
        rw [e3]
        exact if_neg fun y => z2 (decide_eq_true (congrArg V.int (by have : p3 = p1 := y.2; omega)))
      · refine kn _ (Same.refl _) ?_
        unfold lastO
        rw [e3]
        exact if_neg fun y => z (decide_eq_true (by have : c3 < e1 := y.1; omega))
    · intro D H2 hD s2 hl2
      have hl2 : H2 D = some (.lst (((addsF o.b.es).filterMap fun x => if x.1 < e1 ∧ x.2 = p1 then some (x.1 : Int) else none).map V.int)) := by
        rw [hl2, paired_len pr2]
        unfold lastO
        rw [filterMap_at, List.map_filterMap]
        congr 3
        funext x
        split <;> rfl
      refine ⟨l1, D, _, _, rfl, rfl, s2 _ _ hv1, hl2, ?_, fun p H3 hp s3 h3 => ?_⟩
      · refine line64 ?_
        have h5 := List.length_filterMap_le (fun x : Pr => if x.1 < e1 ∧ x.2 = p1 then some (x.1 : Int) else none) (addsF o.b.es)
        have := addsF_len o.b.es
        simp only [List.length_map, List.length_cons, List.length_nil]
        omega
      · refine ⟨p, -1 :: ((addsF o.b.es).filterMap fun x => if x.1 < e1 ∧ x.2 = p1 then some (x.1 : Int) else none), rfl, SqL.of (h3.trans rfl), by simp, fun r hr1 hr2 => k r H3 ((s1.trans s2).trans s3) fun b => ?_⟩
        have mem : ∀ c : Int, c ∈ ((addsF o.b.es).filterMap fun x => if x.1 < e1 ∧ x.2 = p1 then some (x.1 : Int) else none) ↔ ∃ n : Nat, (n : Int) = c ∧ (n, p1) ∈ addsF o.b.es ∧ n < e1 := fun c => by
          rw [List.mem_filterMap]
          constructor
          · rintro ⟨⟨n, p⟩, w1, h2⟩
            split at h2
            · rename_i h
              obtain ⟨w3, w4⟩ := h
              have w4 : p = p1 := w4
              rw [w4] at w1
              exact ⟨n, Option.some.inj h2, w1, w3⟩
            · cases h2
          · rintro ⟨n, rfl, h1, h2⟩
            exact ⟨(n, p1), h1, if_pos ⟨h2, rfl⟩⟩
        constructor
        · intro hb
          rcases List.mem_cons.mp hr1 with e | h
          · omega
          · obtain ⟨n, rfl, h1, h2⟩ := (mem r).mp h
            exact ⟨e1, n, p1, hq, h1, h2, by omega⟩
        · rintro ⟨a, c, p, q1, q2, q3, q4⟩
          rw [hq] at q1
          cases q1
          have := hr2 (c : Int) (List.mem_cons_of_mem _ ((mem c).mpr ⟨c, rfl, q2, q3⟩))
          omega
end
end K43

-- K43P2
set_option Elab.async false
set_option linter.all false
set_option maxRecDepth 100000
set_option maxHeartbeats 4000000
/-! Peeling: stops, is_first, firsts -/
namespace K43
open PySem PySem.Spec PyProof.Rows L2
abbrev stF (o : Ko) : Nat → Nat → Prop := stopF (lg o.b) o.b.es o.W o.ch
abbrev rlF (o : Ko) : Nat → Nat → Prop := relF (lg o.b) o.b.es o.ch
def stopP (o : Ko) (l x : Nat) : Prop := beF (lg o.b) o.b.es (moreF o.b.es o.ch) x l ∨ ∃ a b c p, (looksF o.b.es)[l]? = some (a, p) ∧ (∃ q, (looksF o.b.es)[x]? = some (b, q)) ∧ (c, p) ∈ addsF o.b.es ∧ c < a ∧ b < c
section
variable {P : Program} {w : World} {K : PySem.W.Frag} {mg : Str → Option Value} {base : Heap}
def spStopsP (K : PySem.W.Frag) : Sp := fun vs H Q _ => ∃ o, ∃ l x : Nat, vs = [.ref o.k, .int l, .int x] ∧ KOk K H o ∧ l < o.m ∧ x < o.m ∧ ∀ c H', Same H H' → (c = true ↔ stopP o l x) → Q (.bl c) H'
def spStops (K : PySem.W.Frag) : Sp := fun vs H Q _ => ∃ o, ∃ l x : Nat, vs = [.ref o.k, .int l, .int x] ∧ KOk K H o ∧ l < o.m ∧ x < o.m ∧ ∀ c H', Same H H' → (c = true ↔ stF o l x) → Q (.bl c) H'
theorem scP_stops : FnScope ["self", "look", "other"] ["self", "look", "other"] (defScope sP_stops) := ⟨rfl, rfl, rfl, by decide +kernel, rfl, by decide +kernel, by decide +kernel⟩
theorem okP_stops {f : Addr} {fd : FuncData} (F : FunD K "stops" "Peeling.stops" (defArgs sP_stops) (defBody sP_stops) (defScope sP_stops) [] [] f fd) (T : Txt K mg) (GW : GB P w K mg base 1 "is_below" ["self", "one", "other"] (spBelow K))
    (GL : GP P w K mg base 1 "last_add" ["self", "look"] (spLast K)) : FnOk P w K mg base CX0 2 f fd ["self", "look", "other"] (spStopsP K) := by
  refine okD F scP_stops (fun vs H Q E h => ?_) (fun cdv A0 outer s H vs Q E hr h => ?_)
  · obtain ⟨o, l, x, rfl, _⟩ := h
    rfl
  · obtain ⟨o, l, x, rfl, ok, hl, hx, k⟩ := h
    have hu := hu_of hr
    obtain ⟨dx, hob⟩ := ok.ob
    obtain ⟨A, Z, hB⟩ := ok.bo
    refine ⟨_, pss_cons (ps_if (PW.pt (pw_or (pt_cmp (pc_din hu (pe_tupS (pa_cons (pv 1) (pa_cons (pv 2) pa_nil))) (pe_fld (pv 0) rfl))) (pw_or1 (pt_val (pe_m GW hr T.clB (pe_fld (pv 0) rfl) (pa_cons (pv 2) (pa_cons (pv 1) pa_nil))))))) (pss_one (ps_ret pe_bl)) pss_nil)
      (pss_one (ps_ret (pe_cmpR op_gt (pe_m GL hr T.clK (pv 0) (pa_cons (pv 1) pa_nil)) (pe_ix ix_tup (pe_ix ix_list (pe_fld (pv 0) rfl) (pv 2) (fun _ _ => rfl)) pe_int (fun _ _ => rfl)) (nomark _)))), ?_⟩
    refine ⟨_, rfl, _, rfl, t2, fun q H1 hq s1 h1 => ?_⟩
    have ok1 := ok.same s1
    obtain ⟨dx1, hob1⟩ := ok1.ob
    have hB1 := hB.same s1
    refine ⟨_, rfl, _, _, dx1, _, _, rfl, hob1, T.clK, T.nK _ (by decide +kernel), rfl, o.un, none, rfl, (by have := DGet.t (k := pk (l, x)) ok1.un h1; exact this), _, rfl, iteF ?_⟩
    obtain ⟨dxb, hobb⟩ := hB1.o.ob
    refine ⟨_, rfl, _, _, dx1, _, _, rfl, hob1, T.clK, T.nK _ (by decide +kernel), rfl, o.b.p, dxb, _, rfl, hobb, bF_no o.b (by decide +kernel), _, rfl, _, rfl, o.b, A, Z, _, x, l, rfl, hB1.o, fun H2 s2 => ⟨_, rfl, ite2 (fun e => ?_) (fun e => ?_)⟩⟩
    · exact k true H2 (s1.trans s2) ⟨fun _ => .inl ((hB.z x l).mp (of_decide_eq_true e)), fun _ => rfl⟩
    · have nb : ¬ beF (lg o.b) o.b.es (moreF o.b.es o.ch) x l := fun z => e (decide_eq_true ((hB.z x l).mpr z))
      have ok2 := ok1.same s2
      obtain ⟨dx2, hob2⟩ := ok2.ob
      refine ⟨_, rfl, _, dx2, _, rfl, hob2, kF_no o (by decide +kernel), _, rfl, o, l, rfl, ok2, hl, fun r H3 s3 hr3 => ?_⟩
      have ok3 := ok2.same s3
      obtain ⟨dx3, hob3⟩ := ok3.ob
      obtain ⟨us, hlo, pr⟩ := ok3.lo
      obtain ⟨⟨b1, p1⟩, hq1⟩ : ∃ y, (looksF o.b.es)[x]? = some y := ⟨_, List.getElem?_eq_getElem hx⟩
      obtain ⟨_, g1, a1, rfl, ha1⟩ := paired_at' pr hq1
      refine ⟨_, rfl, _, _, dx3, _, _, rfl, hob3, T.clK, T.nK _ (by decide +kernel), rfl, _, rfl, o.lo, us, _, _, rfl, rfl, SqL.of hlo, atI_nat g1, a1, _, 0, _, rfl, rfl, SqT.of ha1, rfl, _, _, rfl, rfl, ?_⟩
      refine k _ H3 ((s1.trans s2).trans s3) (decide_eq_true_iff.trans ((hr3 b1).trans ⟨fun ⟨a, c, p, q1, q2, q3, q4⟩ => .inr ⟨a, b1, c, p, q1, ⟨p1, hq1⟩, q2, q3, q4⟩, fun z => ?_⟩))
      rcases z with z | ⟨a, b, c, p, q1, ⟨q, q2⟩, q3, q4, q5⟩
      · exact absurd z nb
      · rw [hq1] at q2
        cases q2
        exact ⟨a, c, p, q1, q3, q4, q5⟩
/-! ### is_first, firsts -/
def FirstF (o : Ko) (P : List Nat) (x : Nat) : Prop := ∀ y ∈ P, y ≠ x → ¬ stF o x y
def spFirst (K : PySem.W.Frag) : Sp := fun vs H Q _ => ∃ o, ∃ x : Nat, ∃ a, ∃ P : List Nat, vs = [.ref o.k, .int x, .ref a] ∧ KOk K H o ∧ NL H a P ∧ x < o.m ∧ (∀ y ∈ P, y < o.m) ∧ P.length ≤ 100 ∧ ∀ c H', Same H H' → (c = true ↔ FirstF o P x) → Q (.bl c) H'
theorem scP_first : FnScope ["self", "look", "part", "other"] ["self", "look", "part"] (defScope sP_is_first) := ⟨rfl, rfl, rfl, by decide +kernel, rfl, by decide +kernel, by decide +kernel⟩
open Classical in
theorem okP_first {f : Addr} {fd : FuncData} (F : FunD K "is_first" "Peeling.is_first" (defArgs sP_is_first) (defBody sP_is_first) (defScope sP_is_first) [] [] f fd) (T : Txt K mg) (GS : GP P w K mg base 3 "stops" ["self", "look", "other"] (spStops K)) :
    FnOk P w K mg base CX0 4 f fd ["self", "look", "part"] (spFirst K) := by
  refine okD F scP_first (fun vs H Q E h => ?_) (fun cdv A0 outer s H vs Q E hr h => ?_)
  · obtain ⟨o, x, a, P, rfl, _⟩ := h
    rfl
  · obtain ⟨o, x, a, P, rfl, ok, ha, hx, hP, hlen, k⟩ := h
    refine ⟨_, pss_one (ps_ret (pe_not (pe_callB (cr_any rfl) (by rfl) T.any PyProof.Rows.boot_any (pa_cons (pe_lc (own := [("other", 3)]) (g := gName 3) (tt := tTest (tOp rNe (tVar 3) (tVar 1))) (te := tMeth (cK K) "stops" (spStops K) [] E0 (tVar 0) (tCons (tVar 1) (tCons (tVar 3) tNil))) rfl scP_first.nd
      (pi_list (pv 2)) (blkOk_by (own := [("other", 3)]) (N := ["self", "look", "part", "other"]) (sc := defScope sP_is_first) (by decide +kernel)) (fun _ _ _ _ _ => pg_name (i := 3) scP_first.nd rfl (Or.inl rfl))
      (fun _ _ _ _ _ => pts_one (pt_cmpR op_ne (pv 3) (pv 1) (nomark _))) (fun _ _ _ _ _ => pe_m GS hr T.clK (pv 0) (pa_cons (pv 1) (pa_cons (pv 3) pa_nil)))) pa_nil)))), ?_⟩
    refine ⟨_, rfl, a, rfl, ⟨_, SqL.of ha⟩, ?_⟩
    refine lc_flat walk_list (fun i => (P[i]?).bind fun y => if y ≠ x then some (.bl (decide (stF o x y))) else none) (by rw [List.length_map]; omega) (fun H2 s2 => SqL.of (s2 _ _ ha)) ?_ ?_
    · rintro i v H2 H3 Ky Kn hi s2 ⟨rfl, hv⟩ ky kn
      rw [List.getElem?_map] at hv
      obtain ⟨y, hy, rfl⟩ := Option.map_eq_some_iff.mp hv
      refine ⟨rfl, _, rfl, _, rfl, rfl, _, rfl, ?_⟩
      by_cases e : y = x
      · subst e
        have hd : (!decide (V.int (y : Nat) = V.int (y : Nat))) = false := by simp
        rw [hd]
        exact iteF (kn _ (Same.refl _) (by show ((P[i]?).bind fun z => if z ≠ y then some (V.bl (decide (stF o y z))) else none) = none; rw [hy]; exact if_neg (fun z => z rfl)))
      · have hd : (!decide (V.int (y : Nat) = V.int (x : Nat))) = true := by
          have : V.int (y : Nat) ≠ V.int (x : Nat) := fun z => e (by have := V.int.inj z; omega)
          simp [this]
        rw [hd]
        refine iteT ?_
        have ok2 := ok.same s2
        obtain ⟨dx2, hob2⟩ := ok2.ob
        refine ⟨_, rfl, _, dx2, _, rfl, hob2, kF_no o (by decide +kernel), _, rfl, _, rfl, o, x, y, rfl, ok2, hx, hP y (List.mem_of_getElem? hy), fun c H4 s4 hc => ky _ _ s4 ?_⟩
        show ((P[i]?).bind fun z => if z ≠ x then some (V.bl (decide (stF o x z))) else none) = _
        rw [hy]
        refine (if_pos e).trans ?_
        have : decide (stF o x y) = c := by
          cases c with
          | true => exact decide_eq_true (hc.mp rfl)
          | false => exact decide_eq_false fun z => by have := hc.mpr z; cases this
        rw [this]
    · intro D H2 hD s2 hl2
      rw [List.length_map, filterMap_at] at hl2
      have e : (P.filterMap fun y => if y ≠ x then some (V.bl (decide (stF o x y))) else none) = ((P.filterMap fun y => if y ≠ x then some (decide (stF o x y)) else none).map V.bl) := by
        rw [List.map_filterMap]
        congr 1
        funext y
        split <;> rfl
      rw [e] at hl2
      refine ⟨D, _, rfl, SqL.of hl2, _, rfl, k _ H2 s2 ?_⟩
      rw [Bool.not_eq_true', List.any_eq_false]
      constructor
      · intro h y hy ne st
        exact h true (List.mem_filterMap.mpr ⟨y, hy, by rw [if_pos ne, decide_eq_true st]⟩) rfl
      · intro h c hc
        obtain ⟨y, hy, q⟩ := List.mem_filterMap.mp hc
        by_cases ne : y ≠ x
        · rw [if_pos ne] at q
          rw [← Option.some.inj q]
          have := h y hy ne
          simp [this]
        · rw [if_neg ne] at q
          cases q
def spFirsts (K : PySem.W.Frag) : Sp := fun vs H Q _ => ∃ o, ∃ a, ∃ P : List Nat, vs = [.ref o.k, .ref a] ∧ KOk K H o ∧ NL H a P ∧ (∀ y ∈ P, y < o.m) ∧ P.length ≤ 100 ∧ ∀ l H' fs, Same H H' → NL H' l fs → (∀ x, x ∈ fs ↔ x ∈ P ∧ FirstF o P x) → fs.length ≤ P.length → Q (.ref l) H'
theorem scP_firsts : FnScope ["self", "part", "look"] ["self", "part"] (defScope sP_firsts) := ⟨rfl, rfl, rfl, by decide +kernel, rfl, by decide +kernel, by decide +kernel⟩
open Classical in
theorem okP_firsts {f : Addr} {fd : FuncData} (F : FunD K "firsts" "Peeling.firsts" (defArgs sP_firsts) (defBody sP_firsts) (defScope sP_firsts) [] [] f fd) (T : Txt K mg) (GS : GP P w K mg base 4 "is_first" ["self", "look", "part"] (spFirst K)) :
    FnOk P w K mg base CX0 5 f fd ["self", "part"] (spFirsts K) := by
  refine okD F scP_firsts (fun vs H Q E h => ?_) (fun cdv A0 outer s H vs Q E hr h => ?_)
  · obtain ⟨o, a, P, rfl, _⟩ := h
    rfl
  · obtain ⟨o, a, P, rfl, ok, ha, hP, hlen, k⟩ := h
    refine ⟨_, pss_one (ps_ret (pe_lc (own := [("look", 2)]) (g := gName 2) (tt := tB (tMeth (cK K) "is_first" (spFirst K) [] E0 (tVar 0) (tCons (tVar 2) (tCons (tVar 1) tNil)))) (te := tVar 2) rfl scP_firsts.nd
      (pi_list (pv 1)) (blkOk_by (own := [("look", 2)]) (N := ["self", "part", "look"]) (sc := defScope sP_firsts) (by decide +kernel)) (fun _ _ _ _ _ => pg_name (i := 2) scP_firsts.nd rfl (Or.inl rfl))
      (fun _ _ _ _ _ => pts_one (pt_val (pe_m GS hr T.clK (pv 0) (pa_cons (pv 2) (pa_cons (pv 1) pa_nil))))) (fun _ _ _ _ _ => pv 2))), ?_⟩
    refine ⟨_, rfl, a, rfl, ⟨_, SqL.of ha⟩, ?_⟩
    refine lc_flat walk_list (fun i => (P[i]?).bind fun y => if FirstF o P y then some (.int y) else none) (by rw [List.length_map]; omega) (fun H2 s2 => SqL.of (s2 _ _ ha)) ?_ ?_
    · rintro i v H2 H3 Ky Kn hi s2 ⟨rfl, hv⟩ ky kn
      rw [List.getElem?_map] at hv
      obtain ⟨y, hy, rfl⟩ := Option.map_eq_some_iff.mp hv
      have ok2 := ok.same s2
      obtain ⟨dx2, hob2⟩ := ok2.ob
      refine ⟨rfl, _, rfl, _, dx2, _, rfl, hob2, kF_no o (by decide +kernel), _, rfl, _, rfl, o, y, a, P, rfl, ok2, s2 _ _ ha, hP y (List.mem_of_getElem? hy), hP, hlen, fun c H4 s4 hc => ⟨_, rfl, ?_⟩⟩
      cases c with
      | true =>
        refine iteT ⟨_, rfl, ky _ _ s4 ?_⟩
        show ((P[i]?).bind fun z => if FirstF o P z then some (V.int z) else none) = _
        rw [hy]
        exact if_pos (hc.mp rfl)
      | false =>
        refine iteF (kn _ s4 ?_)
        show ((P[i]?).bind fun z => if FirstF o P z then some (V.int z) else none) = _
        rw [hy]
        exact if_neg fun z => by have := hc.mpr z; cases this
    · intro D H2 hD s2 hl2
      rw [List.length_map, filterMap_at] at hl2
      have e : (P.filterMap fun y => if FirstF o P y then some (V.int y) else none) = (P.filter fun y => decide (FirstF o P y)).map fun k : Nat => V.int k := by
        rw [← List.filterMap_eq_filter, List.map_filterMap]
        congr 1
        funext y
        by_cases h : FirstF o P y
        · rw [if_pos h]; simp [Option.guard, h]
        · rw [if_neg h]; simp [Option.guard, h]
      rw [e] at hl2
      exact k D H2 _ s2 hl2 (fun x => by rw [List.mem_filter, decide_eq_true_iff]) (List.length_filter_le _ _)
end
end K43

-- K43Sup
set_option Elab.async false
set_option linter.all false
set_option maxRecDepth 100000
set_option maxHeartbeats 4000000
/-! defs that say super(): a cell named __class__ comes with them -/
namespace PySem
theorem k43_cells_acc : ∀ (names : List (Str × NameKind)) (n : Nat) (acc : List (Str × Addr)), cellsFrom n names acc = cellsFrom n names [] ++ acc
  | [], _, _ => rfl
  | (x, k) :: r, n, acc => by
    unfold cellsFrom
    split
    · rw [k43_cells_acc r (n + 1) ((x, n) :: acc), k43_cells_acc r (n + 1) [(x, n)], List.append_assoc]
      rfl
    · exact k43_cells_acc r n acc
section
variable {M : Model} {A : Around} {E : Value → Shared → Prop} {s₀ s : Shared} {m cm : Str → Option Value} {env : Env} {cs : List (Str × Addr)}
theorem k43_stL {n : Str} {v : Value} {Q : Unit → Shared → Prop} (x : InCallC s₀ env.locals m cs cm s) (hk : env.scope.kind = .function) (hl : env.kindOf n = some .local)
    (h : ∀ s', InCallC s₀ env.locals (fun y => if y = n then some v else m y) cs cm s' → Q () s') : wpAny M A (storeName env n v) Q E s := by
  refine wpAny_storeName_local hl x.toInCall.ns (fun h' hn hs => ?_) (by rw [hk]; rfl)
  obtain ⟨h₁, tk, rfl⟩ := x.toInCall.same
  refine h _ ⟨⟨⟨h', _, rfl⟩, hn, fun b o e => ?_, x.toInCall.fresh⟩, fun k c hc => ?_, x.apart, x.above⟩
  · exact hs.extBut b o (Nat.ne_of_lt (Nat.lt_of_lt_of_le (Heap.lt_size e) x.toInCall.fresh)) (x.toInCall.keep b o e)
  · exact (x.cell k c hc).sameBut hs (Nat.ne_of_gt (x.above k c (mem_of_lookup hc)))
theorem k43_bindL (f : Str × Value → PUnit → Sem (ForInStep PUnit)) (hf : ∀ n v u, f (n, v) u = (do storeName env n v; pure (.yield ⟨⟩))) (hk : env.scope.kind = .function) :
    ∀ (binds : List (Str × Value)) (m : Str → Option Value) (s : Shared) (Q : PUnit → Shared → Prop), InCallC s₀ env.locals m cs cm s → (∀ x ∈ binds, env.kindOf x.1 = some .local) →
      (∀ s', InCallC s₀ env.locals (bindL env.kindOf binds m) cs cm s' → Q ⟨⟩ s') → wpAny M A (forIn binds ⟨⟩ f) Q E s
  | [], m, s, Q, x, _, h => by rw [List.forIn_nil]; exact wpAny_pure (h s x)
  | (n, v) :: r, m, s, Q, x, hl, h => by
    rw [List.forIn_cons, hf]
    have h1 := hl (n, v) List.mem_cons_self
    refine wpAny_bind (wpAny_bind (k43_stL x hk h1 fun s' x' => wpAny_pure (k43_bindL f hf hk r _ s' Q x' (fun y hy => hl y (List.mem_cons_of_mem _ hy)) fun s2 x2 => h s2 ?_)))
    unfold bindL
    rw [if_pos h1]
    exact x2
theorem k43_newEnv {scope : Scope} {globals : Addr} {cl : List (Str × Addr)} {binds : List (Str × Value)} {qual : Str} {func : Option Addr} {code : Value} {builtins : Addr} {Q : Env → Shared → Prop} (hk : scope.kind = .function)
    (hl : ∀ x ∈ binds, scope.names.lookup x.1 = some .local)
    (hQ : ∀ s', InCallC s s.heap.objs.size (bindL (fun x => scope.names.lookup x) binds fun _ => none) (cellsFrom (s.heap.objs.size + 1) scope.names []) (fun _ => none) s' →
      Q (newEnv scope s.heap.objs.size globals (cellsFrom (s.heap.objs.size + 1) scope.names cl) qual func code none builtins) s') : wpAny M A (newFunctionEnv scope globals cl binds qual func code none builtins) Q E s := by
  simp only [newFunctionEnv, Option.isSome_none, Bool.false_eq_true, if_false]
  refine wpAny_bind (wpAny_alloc ?_)
  refine wpAny_bind (wpAny_layCells _ (fun name kind cells => by cases hkc : kind == NameKind.cell <;> simp [hkc]) _ _ _ _ ?_)
  have ok := cellsFrom_ok scope.names (s.heap.push { cls := .type "frame", data := .dict #[] }) (s.heap.objs.size + 1) [] ⟨fun _ _ hm => (nomatch hm), List.Pairwise.nil⟩ (by rw [Heap.size_push]; exact Nat.le_refl _)
  rw [Heap.size_push] at ok
  rw [show ({ s with heap := s.heap.push { cls := .type "frame", data := .dict #[] } } : Shared).heap.objs.size = s.heap.objs.size + 1 from Heap.size_push ..]
  refine wpAny_bind (k43_bindL (s₀ := s) (cs := cellsFrom (s.heap.objs.size + 1) scope.names []) (cm := fun _ => none) (env := newEnv scope s.heap.objs.size globals (cellsFrom (s.heap.objs.size + 1) scope.names cl) qual func code none builtins)
    _ (fun _ _ _ => rfl) hk binds (fun _ => none) _ _ ⟨⟨⟨_, _, rfl⟩, (Heap.Ns.new s.heap (.type "frame")).keeps (pushCells_keeps _ _), fun b o e => pushCells_keeps _ _ b o (Heap.get?_push_of_some _ e), Nat.le_refl _⟩,
      fun n c hc => (ok.empty n c (mem_of_lookup hc)).1, ok.apart, fun n c hm => (ok.empty n c hm).2⟩ hl fun s' x => wpAny_pure (hQ s' x))
end
end PySem
namespace K43
open PySem PySem.Spec PyProof.Rows L2
abbrev nC : Str := "__class__"
/-- names: the parameters first; the one free name is __class__ -/
structure ScopeS (N P : List Str) (sc : Scope) : Prop where
  kind : sc.kind = .function
  co : sc.isCoroutine = false
  gen : sc.isGenerator = false
  nd : N.Nodup
  pre : N.take P.length = P
  par : ∀ x ∈ P, sc.names.lookup x = some .local
  free : ∀ y ∈ sc.names, y.2 = .free → y.1 = nC
  ncell : ∀ y ∈ sc.names, y.2 = .cell → y.1 ≠ nC
  cls : sc.names.lookup nC = some .free
  sup : sc.names.lookup ("super" : Str) = some .globalImplicit
def envS (qual : Str) (scope : Scope) (L a : Addr) (cd : Value) (cc : Addr) : Env :=
  { scope := scope, locals := L, globals := mainGlobals, cells := cellsFrom (L + 1) scope.names [(nC, cc)], qual := qual ++ ".<locals>.", func := some a, code := cd, frame := some L, builtins := builtinsNs }
def cxS (P : Program) (w : World) (K : PySem.W.Frag) (mg : Str → Option Value) (base : Heap) (N : List Str) (qual : Str) (scope : Scope) (f : Addr) (cd : Value) (cc : Addr) (A : Around) (outer : List Env) (s : Shared) (H : Hp) (E : XK) : Cx where
  prog := P
  w := w
  K := K
  mg := mg
  base := base
  A := A.deeper (envS qual scope s.heap.objs.size f cd cc)
  N := N
  s_0 := s
  H_0 := H
  env := envS qual scope s.heap.objs.size f cd cc
  outer := outer
  stack := envS qual scope s.heap.objs.size f cd cc :: outer
  ex := []
  calm := true
  fn := fun x => !(x == nC)
  pn := []
  xe := fun e s' => wpAny (model P w) (A.deeper (envS qual scope s.heap.objs.size f cd cc)) (leaving (envS qual scope s.heap.objs.size f cd cc) e) (fun _ s'' => CX0 outer H s E e s'') (fun e' s'' => CX0 outer H s E e' s'') s'
theorem look_cells {n : Nat} {sc : Scope} {cc : Addr} {x : Str} {c : Addr} (h : (cellsFrom n sc.names [(nC, cc)]).lookup x = some c) : (cellsFrom n sc.names []).lookup x = some c ∨ (x = nC ∧ c = cc) := by
  rw [k43_cells_acc] at h
  cases e : (cellsFrom n sc.names []).lookup x with
  | some d =>
    left
    have : (cellsFrom n sc.names [] ++ [(nC, cc)]).lookup x = some d := by
      have key : ∀ (l : List (Str × Addr)), l.lookup x = some d → (l ++ [(nC, cc)]).lookup x = some d := fun l => by
        induction l with
        | nil => intro z; cases z
        | cons y r ih =>
          intro z
          obtain ⟨k, v⟩ := y
          rw [List.cons_append, List.lookup_cons] at *
          cases hb : x == k with
          | true => rw [hb] at z; exact z
          | false => rw [hb] at z; exact ih z
      exact key _ e
    rw [this] at h
    exact h
  | none =>
    right
    have key : ∀ (l : List (Str × Addr)), l.lookup x = none → (l ++ [(nC, cc)]).lookup x = some c → x = nC ∧ c = cc := fun l => by
      induction l with
      | nil =>
        intro _ z
        rw [List.nil_append, List.lookup_cons] at z
        cases hb : x == nC with
        | true => rw [hb] at z; exact ⟨beq_iff_eq.mp hb, (Option.some.inj z).symm⟩
        | false => rw [hb] at z; cases z
      | cons y r ih =>
        intro z1 z2
        obtain ⟨k, v⟩ := y
        rw [List.cons_append, List.lookup_cons] at *
        cases hb : x == k with
        | true => rw [hb] at z1; cases z1
        | false => rw [hb] at z1 z2; exact ih z1 z2
    exact key _ e h
theorem cells_some {n : Nat} {sc : Scope} {cc : Addr} {x : Str} {c : Addr} (h : (cellsFrom n sc.names []).lookup x = some c) : (cellsFrom n sc.names [(nC, cc)]).lookup x = some c := by
  rw [k43_cells_acc]
  have key : ∀ (l : List (Str × Addr)), l.lookup x = some c → (l ++ [(nC, cc)]).lookup x = some c := fun l => by
    induction l with
    | nil => intro z; cases z
    | cons y r ih =>
      intro z
      obtain ⟨k, v⟩ := y
      rw [List.cons_append, List.lookup_cons] at *
      cases hb : x == k with
      | true => rw [hb] at z; exact z
      | false => rw [hb] at z; exact ih z
  exact key _ h
theorem cells_only {x : Str} : ∀ (names : List (Str × NameKind)) (n : Nat) (c : Addr), (cellsFrom n names []).lookup x = some c → (x, NameKind.cell) ∈ names
  | [], _, _, h => by cases h
  | (y, k) :: r, n, c, h => by
    unfold cellsFrom at h
    by_cases hk : (k == NameKind.cell) = true
    · rw [if_pos hk, k43_cells_acc] at h
      have hk2 : k = .cell := by simpa using hk
      cases e : (cellsFrom (n + 1) r []).lookup x with
      | some d => exact List.mem_cons_of_mem _ (cells_only r _ d e)
      | none =>
        have key : ∀ (l : List (Str × Addr)), l.lookup x = none → (l ++ [(y, n)]).lookup x = some c → x = y := fun l => by
          induction l with
          | nil =>
            intro _ z
            rw [List.nil_append, List.lookup_cons] at z
            cases hb : x == y with
            | true => exact beq_iff_eq.mp hb
            | false => rw [hb] at z; cases z
          | cons q r ih =>
            intro z1 z2
            obtain ⟨k, v⟩ := q
            rw [List.cons_append, List.lookup_cons] at *
            cases hb : x == k with
            | true => rw [hb] at z1; cases z1
            | false => rw [hb] at z1 z2; exact ih z1 z2
        rw [key _ e h, hk2]
        exact List.mem_cons_self
    · rw [if_neg hk] at h
      exact List.mem_cons_of_mem _ (cells_only r n c h)
theorem cells_cls {n : Nat} {sc : Scope} {cc : Addr} (h : ∀ y ∈ sc.names, y.2 = .cell → y.1 ≠ nC) : (cellsFrom n sc.names [(nC, cc)]).lookup nC = some cc := by
  rw [k43_cells_acc]
  have hn : (cellsFrom n sc.names []).lookup nC = none := by
    cases e : (cellsFrom n sc.names []).lookup nC with
    | none => rfl
    | some c => exact absurd rfl (h _ (cells_only _ _ _ e) rfl)
  have key : ∀ (l : List (Str × Addr)), l.lookup nC = none → (l ++ [(nC, cc)]).lookup nC = some cc := fun l => by
    induction l with
    | nil => intro _; rw [List.nil_append, List.lookup_cons, beq_self_eq_true]
    | cons q r ih =>
      intro z1
      obtain ⟨k, v⟩ := q
      rw [List.cons_append, List.lookup_cons] at *
      cases hb : nC == k with
      | true => rw [hb] at z1; cases z1
      | false => rw [hb] at z1; exact ih z1
  exact key _ hn
theorem inv_startS {P : Program} {w : World} {K : PySem.W.Frag} {mg : Str → Option Value} {base : Heap} {N ps : List Str} {qual : Str} {scope : Scope} {f cc D : Addr} {cd : Value} {A : Around} {outer : List Env} {s s1 : Shared} {H : Hp} {E : XK} {us : List Value} {vs : List V} {cl : Value} {cdd : Option Addr} {csl : Array (Option Value)}
    (S : ScopeS N ps scope) (hd : A.handled = none) (e0 : Env0 P w K mg base A outer s H) (hl : vs.length = ps.length) (r : Vals vs us) (hcc : K.lookup cc = some ⟨cl, cdd, .cell (some (.ref D)), csl⟩)
    (x : InCallC s s.heap.objs.size (bindL (fun x => scope.names.lookup x) (ps.zip us) fun _ => none) (cellsFrom (s.heap.objs.size + 1) scope.names []) (fun _ => none) s1) :
    Inv (cxS P w K mg base N qual scope f cd cc A outer s H E) [] (L2.start N vs) H s1 := by
  have hpl : ps.length ≤ N.length := by have := congrArg List.length S.pre; rw [List.length_take] at this; omega
  obtain ⟨h1, tk, rfl, hk⟩ := x.done
  have noA : ∀ b : Addr, b ∉ (cxS P w K mg base N qual scope f cd cc A outer s H E).ex := fun b z => absurd (show b ∈ ([] : List Addr) from z) (by simp)
  have hcb : base.get? cc = some ⟨cl, cdd, .cell (some (.ref D)), csl⟩ := e0.mod.kin _ _ hcc
  have hcs := (e0.bs _ _ hcb).1
  have hclt : cc < s.heap.objs.size := Heap.lt_size hcs
  have lk : ∀ {y : Str} {c : Addr}, (cxS P w K mg base N qual scope f cd cc A outer s H E).env.cells.lookup y = some c → (cellsFrom (s.heap.objs.size + 1) scope.names []).lookup y = some c ∨ (y = nC ∧ c = cc) := fun h => look_cells h
  have ab : ∀ {y : Str} {c : Addr}, (cellsFrom (s.heap.objs.size + 1) scope.names []).lookup y = some c → s.heap.objs.size < c := fun h => x.above _ _ (PySem.mem_of_lookup h)
  refine ⟨⟨e0.mod, S.kind, rfl, rfl, Nat.le_refl _, fun y z c h1 h2 => ?_, fun y hy => ?_, fun y c hf h => ?_, fun _ => hd, Around.frames_deeper e0.frames, .inr ⟨rfl, rfl⟩, fun b z => absurd z (noA b), e0.bs, e0.bsz, fun b _ _ => noA b, fun b z => absurd z (noA b), e0.funs, e0.frf⟩,
    rfl, e0.bare, Un.kept hk, ⟨_, x.toInCall.ns, fun i y v h1 h2 h3 => ?_⟩, fun y c h => ?_, e0.hok.fresh (Nat.le_refl _), fun y c h => ?_, fun p hp => absurd (show p ∈ ([] : List (Addr × Obj)) from hp) (by simp), e0.hok.kept hk, ?_⟩
  · rcases lk h1 with q1 | ⟨q1, q1'⟩ <;> rcases lk h2 with q2 | ⟨q2, q2'⟩
    · exact name_of_addr x.apart (PySem.mem_of_lookup q1) (PySem.mem_of_lookup q2)
    · have := ab q1; rw [q2'] at this; exact absurd (Nat.lt_trans this hclt) (Nat.lt_irrefl _)
    · have := ab q2; rw [q1'] at this; exact absurd (Nat.lt_trans this hclt) (Nat.lt_irrefl _)
    · rw [q1, q2]
  · have hy : scope.names.lookup y = some .cell ∨ scope.names.lookup y = some .free := hy
    rcases hy with hy | hy
    · obtain ⟨c, e⟩ := cell_has (n := s.heap.objs.size + 1) hy
      exact ⟨c, cells_some e⟩
    · have e := S.free _ (PySem.mem_of_lookup hy) rfl
      have e : y = nC := e
      rw [e]
      exact ⟨cc, cells_cls S.ncell⟩
  · rcases lk h with q | ⟨q, _⟩
    · exact Nat.le_of_lt (ab q)
    · rw [q] at hf
      exact absurd (show (!(nC == nC)) = true from hf) (by simp)
  · have hi : i < vs.length := by
      unfold L2.start at h2
      by_cases hi : i < vs.length
      · exact hi
      · rw [List.getElem?_append_right (by simpa using hi), List.getElem?_replicate] at h2
        split at h2 <;> cases h2
    have ha : vs[i]? = some v := by
      unfold L2.start at h2
      rw [List.getElem?_append_left (by simpa using hi), List.getElem?_map] at h2
      obtain ⟨a, e, z⟩ := Option.map_eq_some_iff.mp h2
      rw [e, Option.some.inj z]
    obtain ⟨u, hu, rv⟩ := r.get ha
    have hp : ps[i]? = some y := by
      rw [← S.pre, List.getElem?_take_of_lt (by omega)]; exact h1
    have ndP : ps.Nodup := by rw [← S.pre]; exact S.nd.sublist (List.take_sublist _ _)
    have k := S.par y (List.mem_of_getElem? hp)
    exact ⟨u, rv, .inl ⟨k, bindL_get ndP hp hu k⟩⟩
  · rcases lk h with q | ⟨_, q⟩
    · exact ⟨_, x.cell y c q⟩
    · rw [q]
      exact ⟨_, _, hk _ _ hcs, rfl⟩
  · rcases lk h with q | ⟨_, q⟩
    · exact e0.hok.fresh (Nat.le_of_lt (ab q))
    · rw [q]
      exact (e0.bs _ _ hcb).2
  · unfold L2.start
    show _ = N.length
    rw [List.length_append, List.length_map, List.length_replicate]
    omega
/-- statements that run where the code is known -/
structure PSc (X : Cx) (body : List Stmt) (st : List Stmt) (t : TS) : Prop where
  run : ∀ (pins : List (Addr × Obj)) (s : Shared) (σ : L2.St) (H : Hp) (D : Ends), Inv X pins σ H s → t D σ H → _root_.PySem.wpAt (model X.prog X.w) X.A (.func body X.env) (execs st X.env) (SP X pins D) X.xe s
theorem psc_of {X : Cx} {body st : List Stmt} {t : TS} (h : PSs X st t) : PSc X body st t := ⟨fun pins s σ H D I q => wpAt_of_wpAny (h.run pins s σ H D I q)⟩
theorem psc_cons {X : Cx} {body rest : List Stmt} {st : Stmt} {t u : TS} (h1 : PS X st t) (h2 : PSc X body rest u) : PSc X body (st :: rest) (tSeq t u) := by
  refine ⟨fun pins s σ H D I h => ks_wpAt_execs_cons (wpAt_of_wpAny (thn (h1.run pins s σ H { D with nx := u D } I h) fun f s1 q => ?_))⟩
  cases f with
  | next =>
    obtain ⟨σ', H', I', q⟩ := q
    exact h2.run pins s1 σ' H' D I' q
  | ret v => exact q
  | brk => exact q
  | cont => exact q
theorem PSc.nox {X : Cx} {body st : List Stmt} {t : TS} (h : PSc X.nox body st t) : PSc X body st t := ⟨fun pins s σ H D I hw => ks_wpAt_mono (h.run pins s σ H D (I.wish _) hw) (fun _ _ q => q.unwish) fun _ _ z => False.elim z⟩
/-- a def with such a cell, as it stands behind the top -/
structure FunS (P : Program) (K : PySem.W.Frag) (D : Addr) (x qual : Str) (params : Arguments) (body : List Stmt) (scope : Scope) (dvs : List V) (f : Addr) (fd : FuncData) : Prop where
  ex : ∃ (oc : Value) (od : Option Addr) (dV kV doc pm : Value) (an : Option Addr) (cda cc : Addr) (ct : Value) (osl : Array (Option Value)) (cl : Value) (cdd : Option Addr) (csl : Array (Option Value)) (ccl : Value) (ccd : Option Addr) (fv : Array Value) (ccs : Array (Option Value)) (file : Str) (tf : Tok),
    fd = PySem.W.fnX x qual params body scope [(nC, cc)] dV kV doc pm an (.ref cda) ct ∧ K.lookup f = some ⟨oc, od, .func fd, osl⟩ ∧ PySem.W.codeIn K (.ref cda) qual = true ∧ DflV K dV dvs ∧
    K.lookup cc = some ⟨cl, cdd, .cell (some (.ref D)), csl⟩ ∧ K.lookup cda = some ⟨ccl, ccd, .fields fv, ccs⟩ ∧ fv[2]? = some (.str file tf) ∧ ((P.main.file : Str) == file) = true
  kp : PySem.W.keepIn K (.ref f) = true
/-- where a def with a cell runs: what super() reads -/
structure SupAt (X : Cx) (D : Addr) (pa : Str) : Prop where
  fn : ∃ (f : Addr) (oc : Value) (od : Option Addr) (fd : FuncData) (osl : Array (Option Value)) (ar : Arg), X.env.func = some f ∧ X.K.lookup f = some ⟨oc, od, .func fd, osl⟩ ∧ (fd.params.posonlyargs ++ fd.params.args).head? = some ar ∧ ar.arg = pa
  code : ∃ (cda : Addr) (ccl : Value) (ccd : Option Addr) (fv : Array Value) (ccs : Array (Option Value)) (file : Str) (tf : Tok), X.env.code = .ref cda ∧ X.K.lookup cda = some ⟨ccl, ccd, .fields fv, ccs⟩ ∧ fv[2]? = some (.str file tf) ∧ ((X.prog.main.file : Str) == file) = true
  cell : ∃ (cc : Addr) (cl : Value) (cdd : Option Addr) (csl : Array (Option Value)), X.env.cells.lookup nC = some cc ∧ X.K.lookup cc = some ⟨cl, cdd, .cell (some (.ref D)), csl⟩
  kC : X.env.kindOf nC = some .free
  kS : X.env.kindOf ("super" : Str) = some .globalImplicit
theorem okS {P : Program} {w : World} {K : PySem.W.Frag} {mg : Str → Option Value} {base : Heap} {k : Nat} {D : Addr} {x qual pa : Str} {params : Arguments} {body : List Stmt} {scope : Scope} {dvs : List V} {f : Addr} {fd : FuncData} {N ps : List Str} {sp : Sp} {ar : Arg}
    (F : FunS P K D x qual params body scope dvs f fd) (S : ScopeS N ps scope) (hp : (params.posonlyargs ++ params.args).head? = some ar) (hpa : ar.arg = pa) (len : ∀ vs H Q E, sp vs H Q E → vs.length = ps.length)
    (hbody : ∀ (cd : Value) (cc : Addr) (A : Around) (outer : List Env) (s : Shared) (H : Hp) (vs : List V) (Q : VK) (E : XK), Room k (A.deeper (envS qual scope s.heap.objs.size f cd cc)) → SupAt (cxS P w K mg base N qual scope f cd cc A outer s H E).nox D pa → sp vs H Q E →
      ∃ t, PSc (cxS P w K mg base N qual scope f cd cc A outer s H E).nox body body t ∧ t { nx := fun _ H' => Q .non H', rt := Q } (L2.start N vs) H) : FnOk P w K mg base CX0 (k + 1) f fd ps sp := by
  obtain ⟨oc, od, dV, kV, doc, pm, an, cda, cc, ct, osl, cl, cdd, csl, ccl, ccd, fv, ccs, file, tf, rfl, lk, hcd, _, hcc, hcda, hfv, hfile⟩ := F.ex
  refine ⟨len, fun A outer s H args us vs Q E hr e0 hb r hsp => ?_⟩
  have hl := len _ _ _ _ hsp
  have KX : K.In s.heap := e0.mod.kin.keeps fun b o e => (e0.bs b o e).1
  have lim : s.heap.NoLimit := e0.mod.nolimit.keeps fun b o e => (e0.bs b o e).1
  refine codeAny_call_function hr.depth (KX _ _ lk) rfl S.co S.gen rfl (PySem.W.codeRec_of KX hcd) (hb _ _ _ _ ?_)
  refine k43_newEnv S.kind (fun ⟨n, v⟩ hy => S.par n (List.of_mem_zip hy).1) fun s1 xx => ?_
  refine ⟨lim.keeps xx.toInCall.keep, ks_codeAny_funcAt ?_⟩
  have SA : SupAt (cxS P w K mg base N qual scope f (.ref cda) cc A outer s H E).nox D pa :=
    ⟨⟨f, oc, od, _, osl, ar, rfl, lk, hp, hpa⟩, ⟨cda, ccl, ccd, fv, ccs, file, tf, rfl, hcda, hfv, hfile⟩, ⟨cc, cl, cdd, csl, cells_cls S.ncell, hcc⟩, S.cls, S.sup⟩
  obtain ⟨t, ht, hq⟩ := hbody (.ref cda) cc A outer s H vs Q E (hr.deeper _) SA hsp
  have I : Inv (cxS P w K mg base N qual scope f (.ref cda) cc A outer s H E) [] (L2.start N vs) H s1 := inv_startS S hr.hd e0 hl r hcc xx
  refine ks_wpAt_mono (ht.nox.run [] s1 (L2.start N vs) H _ I hq) (fun fl s' hs => ?_) fun e s' hs => hs
  have fin : ∀ {σ' : L2.St} {H' : Hp} {v : V} {u : Value}, Inv (cxS P w K mg base N qual scope f (.ref cda) cc A outer s H E) [] σ' H' s' → RelV v u → Q v H' → CE outer P w H s Q u s' :=
    fun {σ' H' v u} J rv q => ⟨v, H', J.os, J.bare, J.base, J.hok, rv, q⟩
  cases fl with
  | ret u =>
    obtain ⟨v, σ', H', J, rv, q⟩ := hs
    exact fin J rv q
  | next =>
    obtain ⟨σ', H', J, q⟩ := hs
    exact fin (v := V.non) (u := Value.none) J rfl q
  | brk =>
    obtain ⟨_, _, _, q⟩ := hs
    exact False.elim q
  | cont =>
    obtain ⟨_, _, _, q⟩ := hs
    exact False.elim q
end K43

-- K43Sup2
set_option Elab.async false
set_option linter.all false
set_option maxRecDepth 100000
set_option maxHeartbeats 4000000
/-! super().m(..) -/
namespace K43
open PySem PySem.Spec PyProof.Rows L2
/-- super().m(..): the method of the class behind D, bound to the first parameter -/
def tSup (C : Addr) (g : Addr) (sp : Sp) (t : TA) : TE := fun σ H Q => ∃ a dx fs, σ[0]? = some (some (.ref a)) ∧ H a = some (.ins C dx fs) ∧
  ∀ q, H q = none → t σ (upd H q (.met g a)) fun vs H2 => H2 q = some (.met g a) ∧ sp (.ref a :: vs) H2 Q E0
/-- what the top has laid for it -/
structure SupOk (P : Program) (K : PySem.W.Frag) (mg : Str → Option Value) (C D g : Addr) (m : Str) : Prop where
  mg : mg "super" = none
  top : (P.main.scope.names.lookup ("super" : Str)).isSome = false
  clsD : ∃ cd, PySem.W.clsIn K D = some cd
  mro : PySem.W.mroIn K C (.ref D) = some true
  stat : PySem.W.nsIn K cStatics "thirdparty.any" = some none
  find : PySem.W.ks_superIn K C D m = some (some (.ref g))
  ty : PySem.W.typeIn K (.ref g) = some (.type "function")
  fn : PySem.W.fnIn K g = true
theorem sup_eval {X : Cx} {k : Nat} {C D g : Addr} {m pa : Str} {fd : FuncData} {ps : List Str} {sp : Sp} {t : TA} {body : List Stmt} {e : Expr} {es : List Expr} {p0 p1 apos pos : Pos} {pl : Sem Bool} (SA : SupAt X D pa) (SO : SupOk X.prog X.K X.mg C D g m)
    (hN : X.N[0]? = some pa) (hloc : X.env.kindOf pa = some .local) (hat : (m == nC) = false) (F : FnOk X.prog X.w X.K X.mg X.base CX0 k g fd ps sp) (hb : Binds X.K fd ps []) (hr : Room k X.A) (ha : PA X (e :: es) t)
    (hst : starEach (e :: es) X.env = (false, eval e X.env) :: starEach es X.env) (hpl : (backTo pos (starEach es X.env)).any (·.1) = false)
    (ht : eval (.Call (.Attribute (.Call (.Name "super" p0) [] [] p1) m apos) (e :: es) [] pos) X.env = (do
      let ov ← attributeBase (.Call (.Name "super" p0) [] [] p1) m X.env (eval (.Call (.Name "super" p0) [] [] p1) X.env)
      standAt apos.atName
      let (f, first) ← holding [ov] (getMethod ov m pl)
      callWith pos f first (backTo pos (starEach (e :: es) X.env)) []))
    {pins : List (Addr × Obj)} {σ : L2.St} {H : Hp} {s : Shared} {Q : VK} (I : Inv X pins σ H s) (h : tSup C g sp t σ H Q) :
    _root_.PySem.wpAt (model X.prog X.w) X.A (.func body X.env) (eval (.Call (.Attribute (.Call (.Name "super" p0) [] [] p1) m apos) (e :: es) [] pos) X.env) (EP X pins σ Q) X.xe s := by
  obtain ⟨a, dx, fs, hσ, ea, q⟩ := h
  obtain ⟨f, oc, od, fd0, osl, ar, hfu, hlf, hpar, har⟩ := SA.fn
  obtain ⟨cda, ccl, ccd, fv, ccs, file, tf, hco, hcda, hfv, hfile⟩ := SA.code
  obtain ⟨cc, cl, cdd, csl, hcc, hlc⟩ := SA.cell
  obtain ⟨cdD, hD⟩ := SO.clsD
  have KX := I.kIn
  refine ks_wpAt_MethodCall (pl := pl) ?_ ht
  refine ks_wpAt_super_base SA.kS SA.kC hat hfu (KX _ _ hlf) rfl hpar hco (KX _ _ hcda) rfl hfv hfile SO.top ?_
  obtain ⟨mA, O, r0, _, _, _⟩ := ins_get I.hok ea
  obtain ⟨odx, J, _⟩ := O.look
  obtain ⟨mb, hb1, hb2⟩ := I.mod.blt
  obtain ⟨mL, hns, hlk⟩ := I.loc
  obtain ⟨u, ru, hlu⟩ := hlk 0 pa _ hN hσ (.inl hloc)
  obtain rfl : u = Value.ref a := ru
  have hma : mL pa = some (.ref a) := by
    rcases hlu with ⟨_, q⟩ | ⟨q, _⟩
    · exact q
    · rw [hloc] at q
      rcases q with q | q <;> cases q
  obtain ⟨oD, hD1, hD2⟩ : ∃ oD, s.heap.get? D = some oD ∧ oD.data = .cls cdD := by
    unfold PySem.W.clsIn at hD
    split at hD
    · rename_i c d cd' sl ho
      cases hD
      exact ⟨_, KX _ _ ho, rfl⟩
    · cases hD
  obtain ⟨cdC, hC⟩ : ∃ cd, PySem.W.clsIn X.K C = some cd := by
    cases e : PySem.W.clsIn X.K C with
    | some cd => exact ⟨cd, rfl⟩
    | none => have := SO.find; unfold PySem.W.ks_superIn at this; rw [e] at this; cases this
  have hfind : PySem.W.alongIn X.K m ((cdC.mro.dropWhile (· != .ref D)).drop 1) = some (some (.ref g)) := by
    have := SO.find
    unfold PySem.W.ks_superIn at this
    rw [hC] at this
    exact this
  obtain ⟨og, hog, hogc⟩ : ∃ og, X.K.lookup g = some og ∧ og.cls = .type "function" := by
    have t1 : (X.K.lookup g).map (·.cls) = some (.type "function") := SO.ty
    cases z : X.K.lookup g with
    | none => rw [z] at t1; cases t1
    | some og => rw [z] at t1; exact ⟨og, rfl, Option.some.inj t1⟩
  have hmg := I.mod.glob.keeps I.bk
  obtain ⟨hh, gg, dd, tk, os⟩ := s
  refine PySem.W.ks_loadName_global I.ok.kind SA.kS (Calls.loadGlobal_builtin (by rw [I.ok.glob]; exact hmg) SO.mg (by rw [I.ok.blt]; exact hb1.keeps I.bk) ((hb2 _ (by decide +kernel)).trans (by decide +kernel)) ⟨rfl, ?_⟩)
  refine wpAny_loadName_free I.ok.kind SA.kC hcc ⟨_, KX _ _ hlc, rfl⟩ ?_
  rw [har]
  refine wpAny_loadName_local I.ok.kind hloc hns hma ?_
  refine ks_wpAny_isType_cls hD1 hD2 ⟨rfl, ?_⟩
  refine ks_wpAny_call_super hD1 hD2 J.at_ J.cls (fun c e => ?_) (PySem.W.looks_mroIn KX SO.mro) (fun h' eso kk => ?_)
  · have := J.no
    unfold PySem.W.notCls at this
    rw [e] at this
    exact Bool.noConfusion this
  have I2 : Inv X pins σ H ⟨h', gg, dd, tk, os⟩ := I.kept (t' := tk) kk
  have KX2 := I2.kIn
  have hne : a ≠ C := PySem.W.ks_ne KX J hC
  refine ks_wpAny_getMethod_super (l₀ := cdC.mro) eso (PySem.W.looks_opaque KX2 SO.stat) (fun A Q E s k q => wpAny_bind ((PySem.W.looks_clsIn KX2 hC) A _ E s k (wpAny_pure q))) rfl KX2 hfind (KX2 _ _ hog) hogc hne hat ?_
  have hq : H h'.objs.size = none := I2.hok.fresh (Nat.le_refl _)
  have I3 : Inv X pins σ (upd H h'.objs.size (.met g a)) ⟨h'.push (PySem.W.methodObj (.ref g) (.ref a)), gg, dd, tk + 1, os⟩ :=
    I2.laid (t' := tk + 1) (a := h'.objs.size) (o := .met g a) (fun b u z => Heap.get?_push_of_some _ z) (Nat.le_refl _)
      (show (h'.push (PySem.W.methodObj (.ref g) (.ref a))).get? h'.objs.size = some (PySem.W.methodObj (.ref g) (.ref a)) from Heap.get?_push_size h' rfl)
  have hA := ha.run pos pins _ σ _ _ I3 (q _ hq)
  rw [hst] at hA ⊢
  refine callwith_met (a := a) (by show ((false || (backTo pos (starEach es X.env)).any (·.1)) || false) = false; rw [hpl]; rfl) SO.fn (Calls.evalArgs_plain (thn hA fun us s4 ⟨vs, H4, I4, r4, hm4, hsp⟩ => ⟨met_P I4 hm4, ?_⟩))
  exact wpAny_call (PySem.W.method_call (met_P I4 hm4).1 (run_fnR (us := Value.ref a :: us) (vs := V.ref a :: vs) (FnOk.raw F hb .nil) hr pass0 I4 (.cons rfl r4) (by rw [List.append_nil]; exact hsp)))
section
variable {X : Cx} {k : Nat} {C D g : Addr} {m pa : Str} {fd : FuncData} {ps : List Str} {sp : Sp} {t : TA} {u : TS} {body rest : List Stmt} {e : Expr} {es : List Expr} {p0 p1 apos pos spos : Pos} {pl : Sem Bool}
theorem psc_supR (SA : SupAt X D pa) (SO : SupOk X.prog X.K X.mg C D g m) (hN : X.N[0]? = some pa) (hloc : X.env.kindOf pa = some .local) (hat : (m == nC) = false) (F : FnOk X.prog X.w X.K X.mg X.base CX0 k g fd ps sp) (hb : Binds X.K fd ps []) (hr : Room k X.A) (ha : PA X (e :: es) t)
    (hst : starEach (e :: es) X.env = (false, eval e X.env) :: starEach es X.env := by rfl) (hpl : (backTo pos (starEach es X.env)).any (·.1) = false := by rfl)
    (ht : eval (.Call (.Attribute (.Call (.Name "super" p0) [] [] p1) m apos) (e :: es) [] pos) X.env = (do
      let ov ← attributeBase (.Call (.Name "super" p0) [] [] p1) m X.env (eval (.Call (.Name "super" p0) [] [] p1) X.env)
      standAt apos.atName
      let (f, first) ← holding [ov] (getMethod ov m pl)
      callWith pos f first (backTo pos (starEach (e :: es) X.env)) []) := by rfl) :
    PSc X body [.Return (some (.Call (.Attribute (.Call (.Name "super" p0) [] [] p1) m apos) (e :: es) [] pos)) spos] (tRet (tSup C g sp t)) := by
  refine ⟨fun pins s σ H D0 I h => ks_wpAt_execs_cons (ks_wpAt_Return_some (ks_wpAt_mono (sup_eval SA SO hN hloc hat F hb hr ha hst hpl ht I h) (fun v s1 ⟨x, H1, I1, r1, q1⟩ => ?_) fun _ _ h => h))⟩
  exact ⟨x, σ, H1, I1, r1, q1⟩
theorem psc_supE (SA : SupAt X D pa) (SO : SupOk X.prog X.K X.mg C D g m) (hN : X.N[0]? = some pa) (hloc : X.env.kindOf pa = some .local) (hat : (m == nC) = false) (F : FnOk X.prog X.w X.K X.mg X.base CX0 k g fd ps sp) (hb : Binds X.K fd ps []) (hr : Room k X.A) (ha : PA X (e :: es) t)
    (h2 : PSc X body rest u)
    (hst : starEach (e :: es) X.env = (false, eval e X.env) :: starEach es X.env := by rfl) (hpl : (backTo pos (starEach es X.env)).any (·.1) = false := by rfl)
    (ht : eval (.Call (.Attribute (.Call (.Name "super" p0) [] [] p1) m apos) (e :: es) [] pos) X.env = (do
      let ov ← attributeBase (.Call (.Name "super" p0) [] [] p1) m X.env (eval (.Call (.Name "super" p0) [] [] p1) X.env)
      standAt apos.atName
      let (f, first) ← holding [ov] (getMethod ov m pl)
      callWith pos f first (backTo pos (starEach (e :: es) X.env)) []) := by rfl)
    (hi : interactive X.env = false := by rfl) (hs : swapsWith (.Call (.Attribute (.Call (.Name "super" p0) [] [] p1) m apos) (e :: es) [] pos) none spos.line X.env = pure false := by rfl) :
    PSc X body (.Expr (.Call (.Attribute (.Call (.Name "super" p0) [] [] p1) m apos) (e :: es) [] pos) spos :: rest) (tSeq (tDrop (tSup C g sp t)) u) := by
  refine ⟨fun pins s σ H D0 I h => ks_wpAt_execs_cons (ks_wpAt_Expr_any (ks_wpAt_mono (sup_eval SA SO hN hloc hat F hb hr ha hst hpl ht I h) (fun v s1 ⟨x, H1, I1, r1, q1⟩ => ?_) fun _ _ h => h) hi hs)⟩
  exact h2.run pins s1 σ H1 D0 I1 q1
end
end K43

-- K43P3
set_option Elab.async false
set_option linter.all false
set_option maxRecDepth 100000
set_option maxHeartbeats 4000000
/-! Keeping: stops -/
namespace K43
open PySem PySem.Spec PyProof.Rows L2
abbrev cP (K : PySem.W.Frag) : Addr := He.ga K "Peeling"
section
variable {P : Program} {w : World} {K : PySem.W.Frag} {mg : Str → Option Value} {base : Heap}
theorem scK_stops : ScopeS ["self", "look", "other"] ["self", "look", "other"] (defScope sK_stops) := ⟨rfl, rfl, rfl, by decide +kernel, rfl, by decide +kernel, by decide +kernel, by decide +kernel, rfl, rfl⟩
theorem inV_nat (x : Nat) (ns : List Nat) : inV (.int x) (ns.map fun k : Nat => V.int k) = decide (x ∈ ns) := by
  unfold inV
  rw [List.any_map, Bool.eq_iff_iff, List.any_eq_true, decide_eq_true_iff]
  constructor
  · rintro ⟨k, hk, e⟩
    have e2 : decide ((k : Int) = (x : Int)) = true := e
    have := of_decide_eq_true e2
    have : k = x := by omega
    exact this ▸ hk
  · intro h
    exact ⟨x, h, by show decide ((x : Int) = (x : Int)) = true; exact decide_eq_true rfl⟩
theorem flat_nats (ns : List Nat) : (ns.map fun k : Nat => V.int k).all flatV = true := by
  rw [List.all_map, List.all_eq_true]
  exact fun _ _ => rfl
theorem okK_stops {f gP : Addr} {fd fdP : FuncData} (F : FunS P K (cK K) "stops" "Keeping.stops" (defArgs sK_stops) (defBody sK_stops) (defScope sK_stops) [] f fd) (T : Txt K mg) (SO : SupOk P K mg (cK K) (cK K) gP "stops")
    (FP : FnOk P w K mg base CX0 2 gP fdP ["self", "look", "other"] (spStopsP K)) (bP : Binds K fdP ["self", "look", "other"] []) : FnOk P w K mg base CX0 3 f fd ["self", "look", "other"] (spStops K) := by
  refine okS F scK_stops rfl rfl (fun vs H Q E h => ?_) (fun cdv cc A0 outer s H vs Q E hr SA h => ?_)
  · obtain ⟨o, l, x, rfl, _⟩ := h
    rfl
  · obtain ⟨o, l, x, rfl, ok, hl, hx, k⟩ := h
    have hu := hu_of hr
    obtain ⟨dx, hob⟩ := ok.ob
    refine ⟨_, psc_cons (ps_if (PW.pt (pw_and (pt_cmp (pc_din hu (pv 1) (pe_fld (pv 0) rfl))) (pw_and1 (pt_cmpR op_in_seq (pv 2) (pe_dget hu (pe_fld (pv 0) rfl) (pv 1) (fun _ _ => rfl)) (by rfl))))) (pss_one (ps_ret pe_bl)) pss_nil)
      (psc_supR SA SO rfl rfl (by decide +kernel) FP bP hr (pa_cons (pv 1) (pa_cons (pv 2) pa_nil))), ?_⟩
    obtain ⟨kvs, hba, hk1, hk2, hk3, hk4⟩ := ok.ba
    have rest : ¬ barF (lg o.b) o.b.es o.W l x → (tRet (tSup (cK K) gP (spStopsP K) (tCons (tVar 1) (tCons (tVar 2) tNil)))) { nx := fun _ H' => Q .non H', rt := Q } (L2.start ["self", "look", "other"] [.ref o.k, .int l, .int x]) H := fun nb =>
      ⟨o.k, dx, _, rfl, hob, fun q hq => ⟨_, rfl, _, rfl, upd_same, o, l, x, rfl, ok.same (same_new hq), hl, hx, fun c H2 s2 hc => k c H2 ((same_new hq).trans s2) (hc.trans ⟨fun z => .inr z, fun z => z.resolve_left nb⟩)⟩⟩
    refine ⟨_, rfl, _, rfl, _, _, dx, _, _, rfl, hob, T.clK, T.nK _ (by decide +kernel), rfl, o.ba, _, rfl, DGet.k (k := Sum.inl (l : Int)) hba, _, rfl, ?_⟩
    by_cases hw : ∃ p, (l, p) ∈ o.W
    · obtain ⟨a, ns, e1, e2, e3⟩ := hk2 l hw
      rw [e1]
      refine iteT ⟨_, rfl, _, rfl, _, _, dx, _, _, rfl, hob, T.clK, T.nK _ (by decide +kernel), rfl, _, rfl, o.ba, _, rfl, (by have := DGet.k (k := Sum.inl (l : Int)) hba; rw [e1] at this; exact this), a, _, rfl, .inl (SqL.of e2), rfl, flat_nats ns, _, rfl, ?_⟩
      rw [if_neg Bool.false_ne_true, inV_nat]
      refine ite2 (fun e => ?_) (fun e => ?_)
      · exact k true H (Same.refl H) ⟨fun _ => .inl ((e3 x).mp (of_decide_eq_true e)), fun _ => rfl⟩
      · exact rest fun z => e (decide_eq_true ((e3 x).mpr z))
    · rw [hk3 l hw]
      exact iteF (rest fun ⟨p, hp, _⟩ => hw ⟨p, hp⟩)
end
end K43

-- K43P4
set_option Elab.async false
set_option linter.all false
set_option maxRecDepth 100000
set_option maxHeartbeats 4000000
/-! Peeling: parts -/
namespace K43
open PySem PySem.Spec PyProof.Rows L2
/-! ### plain: a part grows from its first look -/
structure Grw (R : Nat → Nat → Prop) (L : List Nat) (x0 : Nat) (Pt Qe : List Nat) : Prop where
  sub : ∀ x ∈ Pt, x ∈ L
  nd : Pt.Nodup
  mem0 : x0 ∈ Pt
  reach : ∀ x ∈ Pt, Reach R Pt x0 x
  clos : ∀ y ∈ Pt, y ∉ Qe → ∀ z ∈ L, R y z → z ∈ Pt
  qsub : ∀ x ∈ Qe, x ∈ Pt
theorem Grw.start {R : Nat → Nat → Prop} {L : List Nat} {x0 : Nat} (h : x0 ∈ L) : Grw R L x0 [x0] [x0] :=
  ⟨fun x hx => by rw [List.mem_singleton.mp hx]; exact h, by simp, List.mem_cons_self, fun x hx => by rw [List.mem_singleton.mp hx]; exact .refl List.mem_cons_self, fun y h1 h2 => absurd h1 h2, fun _ h => h⟩
theorem Grw.step {R : Nat → Nat → Prop} {L : List Nat} {x0 look : Nat} {Pt q M : List Nat} (g : Grw R L x0 Pt (q ++ [look])) (ndL : L.Nodup) (hM : ∀ y, y ∈ M ↔ y ∈ L ∧ y ∉ Pt ∧ R look y) (ndM : M.Nodup) : Grw R L x0 (Pt ++ M) (q ++ M) := by
  have hl : look ∈ Pt := g.qsub look (by simp)
  refine ⟨fun x hx => ?_, List.nodup_append.mpr ⟨g.nd, ndM, fun a ha b hb e => ((hM b).mp hb).2.1 (e ▸ ha)⟩, List.mem_append_left _ g.mem0, fun x hx => ?_, fun y hy hq z hz r => ?_, fun x hx => ?_⟩
  · rcases List.mem_append.mp hx with h | h
    · exact g.sub x h
    · exact ((hM x).mp h).1
  · rcases List.mem_append.mp hx with h | h
    · exact (g.reach x h).mono (fun _ _ r => r) fun _ h => List.mem_append_left _ h
    · exact .step ((g.reach look hl).mono (fun _ _ r => r) fun _ h => List.mem_append_left _ h) (List.mem_append_right _ h) ((hM x).mp h).2.2
  · rcases List.mem_append.mp hy with h | h
    · by_cases e : y = look
      · subst e
        by_cases hp : z ∈ Pt
        · exact List.mem_append_left _ hp
        · exact List.mem_append_right _ ((hM z).mpr ⟨hz, hp, r⟩)
      · refine List.mem_append_left _ (g.clos y h (fun m => ?_) z hz r)
        rcases List.mem_append.mp m with m | m
        · exact hq (List.mem_append_left _ m)
        · exact e (by simpa using m)
    · exact absurd (List.mem_append_right _ h) hq
  · rcases List.mem_append.mp hx with h | h
    · exact List.mem_append_left _ (g.qsub x (List.mem_append_left _ h))
    · exact List.mem_append_right _ h
/-- what is left, what is found -/
structure Lft (R : Nat → Nat → Prop) (T L : List Nat) (Ps : List (List Nat)) : Prop where
  sub : ∀ x ∈ L, x ∈ T
  nd : L.Nodup
  part : ∀ P ∈ Ps, Part R T P ∧ P.Nodup
  cov : ∀ x ∈ T, x ∈ L ∨ ∃ P ∈ Ps, x ∈ P
  out : ∀ x ∈ L, ∀ P ∈ Ps, x ∉ P
theorem Lft.step {R : Nat → Nat → Prop} (hs : ∀ x y, R x y → R y x) {T L : List Nat} {Ps : List (List Nat)} (l : Lft R T L Ps) {x0 : Nat} {Pt S : List Nat} (g : Grw R L x0 Pt []) (hS : S.Perm Pt) : Lft R T (L.filter fun y => decide (y ∉ Pt)) (Ps ++ [S]) := by
  have mS : ∀ x, x ∈ S ↔ x ∈ Pt := fun x => hS.mem_iff
  have conn : ∀ x ∈ S, ∀ y ∈ S, Reach R S x y := fun x hx y hy => by
    have h1 := (g.reach x ((mS x).mp hx)).mono (R' := R) (S' := S) (fun _ _ r => r) fun z hz => (mS z).mpr hz
    have h2 := (g.reach y ((mS y).mp hy)).mono (R' := R) (S' := S) (fun _ _ r => r) fun z hz => (mS z).mpr hz
    exact (h1.symm hs).trans h2
  refine ⟨fun x hx => l.sub x (List.mem_filter.mp hx).1, l.nd.filter _, fun P hP => ?_, fun x hx => ?_, fun x hx P hP => ?_⟩
  · rcases List.mem_append.mp hP with h | h
    · exact l.part P h
    · rw [List.mem_singleton.mp h]
      refine ⟨⟨fun z => ?_, fun x hx => l.sub x (g.sub x ((mS x).mp hx)), conn, fun x hx y hy r => ?_⟩, (hS.nodup_iff).mpr g.nd⟩
      · have := (mS x0).mpr g.mem0
        rw [z] at this
        cases this
      · have hxP := (mS x).mp hx
        rcases l.cov y hy with h | ⟨P', hP', hyP⟩
        · exact (mS y).mpr (g.clos x hxP (by simp) y h r)
        · exact absurd ((l.part P' hP').1.clos y hyP x (l.sub x (g.sub x hxP)) (hs _ _ r)) (l.out x (g.sub x hxP) P' hP')
  · rcases l.cov x hx with h | ⟨P, hP, h⟩
    · by_cases hp : x ∈ Pt
      · exact .inr ⟨S, by simp, (mS x).mpr hp⟩
      · exact .inl (List.mem_filter.mpr ⟨h, decide_eq_true hp⟩)
    · exact .inr ⟨P, List.mem_append_left _ hP, h⟩
  · obtain ⟨h1, h2⟩ := List.mem_filter.mp hx
    rcases List.mem_append.mp hP with h | h
    · exact l.out x h1 P h
    · rw [List.mem_singleton.mp h]
      exact fun z => of_decide_eq_true h2 ((mS x).mp z)
theorem rlF_symm (o : Ko) : ∀ x y, rlF o x y → rlF o y x := fun x y h => by
  rcases h with h | h
  · exact .inl h.symm
  · exact .inr (.sym h)
theorem filter_lt {L : List Nat} {x0 : Nat} {Pt : List Nat} (h : x0 ∈ L) (hp : x0 ∈ Pt) : (L.filter fun y => decide (y ∉ Pt)).length < L.length := by
  refine Nat.lt_of_le_of_ne (List.length_filter_le _ _) fun e => ?_
  have := List.length_filter_eq_length_iff.mp e x0 h
  exact of_decide_eq_true this hp
theorem cutV_one (x : V) (r : List V) : cutV (x :: r) none (some 1) = [x] := by
  unfold cutV
  rw [HT.sIx_none, show (some (1 : Int)) = some ((1 : Nat) : Int) from rfl, HT.sIx_nat]
  have : min 1 (x :: r).length = 1 := Nat.min_eq_left (by rw [List.length_cons]; omega)
  rw [this]
  rfl
theorem nl_cat {H : Hp} {a : Addr} {xs ys : List Nat} (h : H a = some (.lst ((xs.map fun k : Nat => V.int k) ++ ys.map fun k : Nat => V.int k))) : NL H a (xs ++ ys) := by
  show H a = _
  rw [h, List.map_append]
theorem sorted_nats {ns : List Nat} {ms : List Int} (h : ms.Perm (ns.map fun k : Nat => (k : Int))) : ∃ ks : List Nat, ms = ks.map (fun k : Nat => (k : Int)) ∧ ks.Perm ns := by
  have key : ∀ (l : List Int), (∀ x ∈ l, 0 ≤ x) → (l.map Int.toNat).map (fun k : Nat => (k : Int)) = l := fun l => by
    induction l with
    | nil => intro _; rfl
    | cons x r ih =>
      intro hx
      have h0 := hx x List.mem_cons_self
      rw [List.map_cons, List.map_cons, ih fun y hy => hx y (List.mem_cons_of_mem _ hy), show ((x.toNat : Nat) : Int) = x by omega]
  refine ⟨ms.map Int.toNat, (key ms fun x hx => ?_).symm, ?_⟩
  · obtain ⟨k, _, rfl⟩ := List.mem_map.mp (h.mem_iff.mp hx)
    omega
  · have := h.map Int.toNat
    rw [List.map_map] at this
    have e : (Int.toNat ∘ fun k : Nat => (k : Int)) = id := by funext k; simp
    rw [e, List.map_id] at this
    exact this
section
variable {P : Program} {w : World} {K : PySem.W.Frag} {mg : Str → Option Value} {base : Heap}
def PsAt (H : Hp) (us : List V) (Ps : List (List Nat)) : Prop := Paired (fun v P => ∃ a, v = .ref a ∧ NL H a P) us Ps
def spParts (K : PySem.W.Frag) : Sp := fun vs H Q _ => ∃ o, ∃ a, ∃ T : List Nat, vs = [.ref o.k, .ref a] ∧ KOk K H o ∧ NL H a T ∧ T.Nodup ∧ (∀ y ∈ T, y < o.m) ∧
  ∀ f H' us Ps, Same H H' → H' f = some (.lst us) → PsAt H' us Ps → (∀ P ∈ Ps, Part (rlF o) T P ∧ P.Nodup) → (∀ x ∈ T, ∃ P ∈ Ps, x ∈ P) → Q (.ref f) H'
theorem scP_parts : FnScope ["self", "some", "left", "found", "part", "queue", "look", "more", "other"] ["self", "some"] (defScope sP_parts) := ⟨rfl, rfl, rfl, by decide +kernel, rfl, by decide +kernel, by decide +kernel⟩
open Classical in
theorem okP_parts {f : Addr} {fd : FuncData} (F : FunD K "parts" "Peeling.parts" (defArgs sP_parts) (defBody sP_parts) (defScope sP_parts) [] [] f fd) (T : Txt K mg) (GA : GB P w K mg base 1 "is_alike" ["self", "one", "other"] (spAlike K)) :
    FnOk P w K mg base CX0 2 f fd ["self", "some"] (spParts K) := by
  refine okD F scP_parts (fun vs H Q E h => ?_) (fun cdv A0 outer s H vs Q E hr h => ?_)
  · obtain ⟨o, a, S, rfl, _⟩ := h
    rfl
  · obtain ⟨o, a, S, rfl, ok, ha, ndS, hSm, k⟩ := h
    have hu := hu_of hr
    refine ⟨_, pss_cons (ps_par (i := 2) (j := 3) rfl scP_parts.nd rfl rfl (by decide) rfl rfl (pa_cons (pe_callTy call_listS (by rfl) T.list PyProof.Rows.boot_list (pa_cons (pv 1) pa_nil)) (pa_cons (pe_lstS pa_nil) pa_nil)) rfl)
      (pss_cons (ps_while PassesOwn.never (pt_cmpR op_gt (pe_callB call_len_seq (by rfl) T.len PySem.boot_len (pa_cons (pv 2) pa_nil)) pe_int (nomark _))
        (pss_cons (ps_asg (pe_tupS (pa_cons (pe_slice sl_listS (pv 2) po_none (po_some pe_int)) (pa_cons (pe_slice sl_listS (pv 2) po_none (po_some pe_int)) pa_nil))) (pg_tup rfl (pgs_cons (pg_name (i := 4) scP_parts.nd rfl (Or.inr rfl)) (pgs_cons (pg_name (i := 5) scP_parts.nd rfl (Or.inl rfl)) pgs_nil))))
        (pss_cons (ps_while PassesOwn.never (pt_cmpR op_gt (pe_callB call_len_seq (by rfl) T.len PySem.boot_len (pa_cons (pv 5) pa_nil)) pe_int (nomark _))
          (pss_cons (ps_set (i := 6) scP_parts.nd rfl (Or.inr rfl) (pe_bm0 PySem.F.plainAttrs_list PySem.F.slot_list_pop PySem.F.type_list_pop mt_pop (pv 5)))
          (pss_cons (ps_setLc (i := 7) (own := [("other", 8)]) (g := gName 8) (tt := tAnd (tTest (tOp (rIn K true) (tVar 8) (tVar 4))) (tB (tMeth (cB K) "is_alike" (spAlike K) [] E0 (tFld K (tVar 0) "own_bonds") (tCons (tVar 6) (tCons (tVar 8) tNil))))) (te := tVar 8) rfl scP_parts.nd rfl rfl (by rfl)
            (pi_list (pv 2)) (blkOk_by (own := [("other", 8)]) (N := ["self", "some", "left", "found", "part", "queue", "look", "more", "other"]) (sc := defScope sP_parts) (by decide +kernel)) (fun _ _ _ _ _ => pg_name (i := 8) scP_parts.nd rfl (Or.inl rfl))
            (fun _ _ _ _ _ => pts_one (PW.pt (pw_and (pt_cmpR op_notIn_seq (pv 8) (pv 4) (by rfl)) (pw_and1 (pt_val (pe_m GA hr T.clB (pe_fld (pv 0) rfl) (pa_cons (pv 6) (pa_cons (pv 8) pa_nil)))))))) (fun _ _ _ _ _ => pv 8))
          (pss_one (ps_asg (pe_tupS (pa_cons (pe_op op_catS (pv 4) (pv 7)) (pa_cons (pe_op op_catS (pv 5) (pv 7)) pa_nil))) (pg_tup rfl (pgs_cons (pg_name (i := 4) scP_parts.nd rfl (Or.inr rfl)) (pgs_cons (pg_name (i := 5) scP_parts.nd rfl (Or.inl rfl)) pgs_nil))))))))
        (pss_cons (ps_setLc (i := 2) (own := [("look", 6)]) (g := gName 6) (tt := tTest (tOp (rIn K true) (tVar 6) (tVar 4))) (te := tVar 6) rfl scP_parts.nd rfl rfl (by rfl)
            (pi_list (pv 2)) (blkOk_by (own := [("look", 6)]) (N := ["self", "some", "left", "found", "part", "queue", "look", "more", "other"]) (sc := defScope sP_parts) (by decide +kernel)) (fun _ _ _ _ _ => pg_name (i := 6) scP_parts.nd rfl (Or.inl rfl))
            (fun _ _ _ _ _ => pts_one (pt_cmpR op_notIn_seq (pv 6) (pv 4) (by rfl))) (fun _ _ _ _ _ => pv 6))
        (pss_one (ps_expr (pe_bm PySem.F.plainAttrs_list PySem.F.slot_list_append PySem.F.type_list_append mt_append (pv 3) (pa_cons (pe_callB cr_sorted (by rfl) T.sorted PyProof.Rows.boot_sorted (pa_cons (pv 4) pa_nil)) pa_nil))))))))
      (pss_one (ps_ret (pv 3)))), ?_⟩
    refine ⟨_, rfl, a, _, rfl, .inl (SqL.of ha), fun l0 H1 hl0 s1 hv1 => ⟨t0, fun f0 H2 hf0 s2 hv2 => ⟨_, _, rfl, ?_⟩⟩⟩
    have hf0H : H f0 = none := by
      cases e : H f0 with
      | none => rfl
      | some u => rw [s1 _ _ e] at hf0; cases hf0
    have lenS : S.length ≤ 16 := by
      have h := nodup_sub_len S (List.range o.m) ndS fun x hx => List.mem_range.mpr (hSm x hx)
      rw [List.length_range] at h
      exact Nat.le_trans h ok.m
    refine ⟨fun n σ H' => ∃ l L us Ps o4 o5 o6 o7, σ = [some (.ref o.k), some (.ref a), some (.ref l), some (.ref f0), o4, o5, o6, o7, none] ∧ Same H H' ∧ NL H' l L ∧ l ≠ f0 ∧ H' f0 = some (.lst us) ∧ Paired (fun v P => ∃ a, v = .ref a ∧ NL H' a P ∧ a ≠ f0) us Ps ∧
      Lft (rlF o) S L Ps ∧ Ps.length + L.length ≤ S.length ∧ n = L.length, ⟨_, l0, S, [], [], none, none, none, none, rfl, s1.trans s2, s2 _ _ hv1, ne_of_none hv1 hf0, hv2, .nil, ⟨fun _ h => h, ndS, fun _ h => (by cases h), fun x hx => .inl hx, fun _ _ _ h => (by cases h)⟩, by simp, rfl⟩, ?_⟩
    rintro n σ H3 ⟨l, L, us, Ps, o4, o5, o6, o7, rfl, s3, hl, nlf, hf, pr, lft, hcnt, rfl⟩
    refine ⟨_, rfl, l, _, rfl, .inl (SqL.of hl), _, _, rfl, rfl, _, rfl, ?_⟩
    cases L with
    | nil =>
      refine itN (decF (by simp)) ?_
      refine ⟨_, rfl, k f0 H3 us Ps s3 hf (paired_mono (fun v P ⟨a, e, h, _⟩ => ⟨a, e, h⟩) pr) lft.part fun x hx => (lft.cov x hx).resolve_left (by simp)⟩
    | cons x0 L' =>
      refine itP (decide_eq_true (by simp only [List.length_map, List.length_cons]; omega)) ⟨fun σ H' => ∃ n', n' < (x0 :: L').length ∧ ∃ l L us Ps o4 o5 o6 o7, σ = [some (.ref o.k), some (.ref a), some (.ref l), some (.ref f0), o4, o5, o6, o7, none] ∧ Same H H' ∧ NL H' l L ∧ l ≠ f0 ∧ H' f0 = some (.lst us) ∧
        Paired (fun v P => ∃ a, v = .ref a ∧ NL H' a P ∧ a ≠ f0) us Ps ∧ Lft (rlF o) S L Ps ∧ Ps.length + L.length ≤ S.length ∧ n' = L.length, fun σ' H' ⟨n', h1, h2⟩ => ⟨n', h1, h2⟩, ?_⟩
      generalize hLL : x0 :: L' = L at hl lft hcnt ⊢
      have hx0 : x0 ∈ L := by rw [← hLL]; exact List.mem_cons_self
      have ec : cutV (L.map fun k : Nat => V.int k) none (some 1) = [x0].map fun k : Nat => V.int k := by rw [← hLL]; exact cutV_one _ _
      have lenL : L.length ≤ 16 := by omega
      refine ⟨_, rfl, _, rfl, l, _, rfl, SqL.of hl, fun p1 H4 hp1 s4 h4 => ⟨_, rfl, _, rfl, l, _, rfl, SqL.of (s4 _ _ hl), fun q1 H5 hq1 s5 h5 => ⟨t2, fun t H6 ht s6 h6 => ⟨t, _, rfl, SqT.of h6, rfl, _, _, rfl, _, _, rfl, rfl, ?_⟩⟩⟩⟩
      rw [ec] at h4 h5
      have n3q : H3 q1 = none := by
        cases e : H3 q1 with
        | none => rfl
        | some u => rw [s4 _ _ e] at hq1; cases hq1
      refine ⟨fun n σ H' => ∃ p q Pt Qe o6 o7, σ = [some (.ref o.k), some (.ref a), some (.ref l), some (.ref f0), some (.ref p), some (.ref q), o6, o7, none] ∧ Same H3 H' ∧ NL H' p Pt ∧ NL H' q Qe ∧ p ≠ q ∧ H3 q = none ∧ Grw (rlF o) L x0 Pt Qe ∧ Qe.length ≤ Pt.length ∧ n = 2 * (L.length - Pt.length) + Qe.length,
        ⟨_, p1, q1, [x0], [x0], _, _, rfl, (s4.trans s5).trans s6, s6 _ _ (s5 _ _ h4), s6 _ _ h5, ne_of_none h4 hq1, n3q, Grw.start hx0, by simp, rfl⟩, ?_⟩
      rintro n σ H7 ⟨p, q, Pt, Qe, o6, o7, rfl, s7, hp, hq, npq, n3q, grw, hqp, rfl⟩
      have lenP : Pt.length ≤ L.length := nodup_sub_len Pt L grw.nd grw.sub
      refine ⟨_, rfl, q, _, rfl, .inl (SqL.of hq), _, _, rfl, rfl, _, rfl, ?_⟩
      rcases List.eq_nil_or_concat Qe with rfl | ⟨Q', lk, eQ⟩
      · refine itN (decF (by simp)) ?_
        have hl7 := s7 _ _ hl
        refine ⟨_, rfl, l, rfl, ⟨_, SqL.of hl7⟩, ?_⟩
        refine lc_flat walk_list (fun i => (L[i]?).bind fun y => if y ∉ Pt then some (.int y) else none) (by rw [List.length_map]; omega) (fun H8 s8 => SqL.of (s8 _ _ hl7)) ?_ ?_
        · rintro i v H8 H9 Ky Kn hi s8 ⟨rfl, hv⟩ ky kn
          rw [List.getElem?_map] at hv
          obtain ⟨y, hy, rfl⟩ := Option.map_eq_some_iff.mp hv
          refine ⟨rfl, _, rfl, _, rfl, p, _, rfl, .inl (SqL.of (s8 _ _ hp)), rfl, flat_nats Pt, _, rfl, ?_⟩
          rw [if_pos rfl, inV_nat]
          by_cases e : y ∈ Pt
          · rw [decide_eq_true e]
            exact iteF (kn _ (Same.refl _) (by show ((L[i]?).bind fun z => if z ∉ Pt then some (V.int z) else none) = none; rw [hy]; exact if_neg (fun z => z e)))
          · rw [decide_eq_false e]
            exact iteT ⟨_, rfl, ky _ _ (Same.refl _) (by show ((L[i]?).bind fun z => if z ∉ Pt then some (V.int z) else none) = _; rw [hy]; exact if_pos e)⟩
        · intro D H8 hD s8 hv8
          have e : (L.filterMap fun y => if y ∉ Pt then some (V.int y) else none) = (L.filter fun y => decide (y ∉ Pt)).map fun k : Nat => V.int k := by
            rw [← List.filterMap_eq_filter, List.map_filterMap]
            congr 1
            funext y
            by_cases h : y ∉ Pt
            · rw [if_pos h]; simp [Option.guard, h]
            · rw [if_neg h]; simp [Option.guard, h]
          rw [List.length_map, filterMap_at, e] at hv8
          have s38 := s7.trans s8
          have hf8 := s38 _ _ hf
          have hp8 : H8 p = some (.lst ((Pt.map fun k : Nat => (k : Int)).map V.int)) := by
            rw [s8 _ _ hp, List.map_map]
            rfl
          refine ⟨_, rfl, .inl ⟨rfl, _, SqL.of hf8⟩, _, rfl, p, _, rfl, SqL.of hp8, by rw [List.length_map]; omega, fun ns r hperm _ hr => ?_⟩
          obtain ⟨Srt, rfl, hperm2⟩ := sorted_nats hperm
          have s9 : Same H8 (upd H8 r (.lst ((Srt.map fun k : Nat => (k : Int)).map V.int))) := same_new hr
          have hr9 : NL (upd H8 r (.lst ((Srt.map fun k : Nat => (k : Int)).map V.int))) r Srt := by
            show upd H8 r _ r = _
            rw [upd_same, List.map_map]
            rfl
          generalize upd H8 r (.lst ((Srt.map fun k : Nat => (k : Int)).map V.int)) = H9 at s9 hr9 ⊢
          have s39 := s38.trans s9
          have nrf : r ≠ f0 := fun z => by rw [z, hf8] at hr; cases hr
          have nDf : D ≠ f0 := fun z => by rw [z, s7 _ _ hf] at hD; cases hD
          have keep : ∀ {b : Addr} {ns : List Nat}, NL H9 b ns → b ≠ f0 → NL (upd H9 f0 (.lst (us ++ [V.ref r]))) b ns := fun h n => by
            show upd H9 f0 _ _ = _
            rw [upd_ne n]
            exact h
          have hlen := paired_len pr
          have hlt := filter_lt hx0 grw.mem0
          refine ⟨f0, us, _, rfl, rfl, s39 _ _ hf, line64' (by omega), _, hlt, D, L.filter (fun y => decide (y ∉ Pt)), us ++ [.ref r], Ps ++ [Srt], _, _, _, _, rfl, fun b u e => ?_, keep (s9 _ _ hv8) nDf, nDf, upd_same, ?_, lft.step (rlF_symm o) grw hperm2, by rw [List.length_append]; simp only [List.length_cons, List.length_nil]; omega, rfl⟩
          · rw [upd_ne (ne_of_none e hf0H)]
            exact s39 _ _ (s3 _ _ e)
          · exact paired_snoc ⟨r, rfl, keep hr9 nrf, nrf⟩ (paired_mono (fun v P ⟨a, e, h, n⟩ => ⟨a, e, keep (s39 _ _ h) n, n⟩) pr)
      · rw [List.concat_eq_append] at eQ
        subst eQ
        refine itP (decide_eq_true (by simp only [List.length_map, List.length_append, List.length_cons, List.length_nil]; omega)) ⟨fun σ H' => ∃ n', n' < 2 * (L.length - Pt.length) + (Q' ++ [lk]).length ∧ ∃ p q Pt Qe o6 o7, σ = [some (.ref o.k), some (.ref a), some (.ref l), some (.ref f0), some (.ref p), some (.ref q), o6, o7, none] ∧
          Same H3 H' ∧ NL H' p Pt ∧ NL H' q Qe ∧ p ≠ q ∧ H3 q = none ∧ Grw (rlF o) L x0 Pt Qe ∧ Qe.length ≤ Pt.length ∧ n' = 2 * (L.length - Pt.length) + Qe.length, fun σ' H' ⟨n', h1, h2⟩ => ⟨n', h1, h2⟩, ?_⟩
        have hlkP : lk ∈ Pt := grw.qsub lk (by simp)
        refine ⟨_, rfl, .inl ⟨rfl, _, SqL.of hq⟩, q, _, .int lk, rfl, rfl, hq, ?_, ?_⟩
        · rw [List.length_map, List.getElem?_map]
          have : (Q' ++ [lk])[(Q' ++ [lk]).length - 1]? = some lk := by simp
          rw [this]
          rfl
        have edrop : ((Q' ++ [lk]).map fun k : Nat => V.int k).dropLast = Q'.map fun k : Nat => V.int k := by
          rw [List.map_append]
          simp
        rw [edrop]
        have s8 : Same H3 (upd H7 q (.lst (Q'.map fun k : Nat => V.int k))) := fun b u e => by
          rw [upd_ne (ne_of_none e n3q)]
          exact s7 _ _ e
        have hp8 : NL (upd H7 q (.lst (Q'.map fun k : Nat => V.int k))) p Pt := by
          show upd H7 q _ p = _
          rw [upd_ne npq]
          exact hp
        have hq8 : NL (upd H7 q (.lst (Q'.map fun k : Nat => V.int k))) q Q' := upd_same
        generalize upd H7 q (.lst (Q'.map fun k : Nat => V.int k)) = H8 at s8 hp8 hq8 ⊢
        have ok8 := ok.same (s3.trans s8)
        obtain ⟨A, Z, hB⟩ := ok8.bo
        have hl8 := s8 _ _ hl
        refine ⟨_, rfl, l, rfl, ⟨_, SqL.of hl8⟩, ?_⟩
        refine lc_flat walk_list (fun i => (L[i]?).bind fun y => if y ∉ Pt ∧ rlF o lk y then some (.int y) else none) (by rw [List.length_map]; omega) (fun H9 s9 => SqL.of (s9 _ _ hl8)) ?_ ?_
        · rintro i v H9 H10 Ky Kn hi s9 ⟨rfl, hv⟩ ky kn
          rw [List.getElem?_map] at hv
          obtain ⟨y, hy, rfl⟩ := Option.map_eq_some_iff.mp hv
          have no : (¬ (y ∉ Pt ∧ rlF o lk y)) → ∀ H11, Same H10 H11 → Kn H11 := fun hn H11 s11 => kn _ s11 (by show ((L[i]?).bind fun z => if z ∉ Pt ∧ rlF o lk z then some (V.int z) else none) = none; rw [hy]; exact if_neg hn)
          refine ⟨rfl, _, rfl, _, rfl, p, _, rfl, .inl (SqL.of (s9 _ _ hp8)), rfl, flat_nats Pt, _, rfl, ?_⟩
          rw [if_pos rfl, inV_nat]
          by_cases e : y ∈ Pt
          · rw [decide_eq_true e]
            exact iteF (iteF (no (fun z => z.1 e) _ (Same.refl _)))
          · rw [decide_eq_false e]
            have ok10 := ok8.same s9
            obtain ⟨dx10, hob10⟩ := ok10.ob
            have hB10 := hB.same s9
            obtain ⟨dxb, hobb⟩ := hB10.o.ob
            refine iteT ⟨_, rfl, _, _, dx10, _, _, rfl, hob10, T.clK, T.nK _ (by decide +kernel), rfl, o.b.p, dxb, _, rfl, hobb, bF_no o.b (by decide +kernel), _, rfl, _, rfl, o.b, A, Z, _, lk, y, rfl, hB10.o, fun H11 s11 => ⟨_, rfl, ?_⟩⟩
            have hr : (lk = y ∨ (lk, y) ∈ A) ↔ rlF o lk y := or_congr Iff.rfl (hB.a lk y)
            refine ite2 (fun e2 => ?_) (fun e2 => ?_)
            · exact ⟨_, rfl, ky _ _ s11 (by show ((L[i]?).bind fun z => if z ∉ Pt ∧ rlF o lk z then some (V.int z) else none) = _; rw [hy]; exact if_pos ⟨e, hr.mp (of_decide_eq_true e2)⟩)⟩
            · exact no (fun z => e2 (decide_eq_true (hr.mpr z.2))) _ s11
        · intro D H9 hD s9 hv9
          have e : (L.filterMap fun y => if y ∉ Pt ∧ rlF o lk y then some (V.int y) else none) = (L.filter fun y => decide (y ∉ Pt ∧ rlF o lk y)).map fun k : Nat => V.int k := by
            rw [← List.filterMap_eq_filter, List.map_filterMap]
            congr 1
            funext y
            by_cases h : y ∉ Pt ∧ rlF o lk y
            · rw [if_pos h]; simp only [Function.comp, Option.guard, decide_eq_true h, if_true, Option.map_some]
            · rw [if_neg h]; simp only [Function.comp, Option.guard, decide_eq_false h, Bool.false_eq_true, if_false, Option.map_none]
          rw [List.length_map, filterMap_at, e] at hv9
          generalize hM : (L.filter fun y => decide (y ∉ Pt ∧ rlF o lk y)) = M at hv9
          have mM : ∀ y, y ∈ M ↔ y ∈ L ∧ y ∉ Pt ∧ rlF o lk y := fun y => by rw [← hM, List.mem_filter, decide_eq_true_iff]
          have ndM : M.Nodup := by rw [← hM]; exact lft.nd.filter _
          have grw2 := grw.step lft.nd mM ndM
          have lenP2 : (Pt ++ M).length ≤ L.length := nodup_sub_len _ L grw2.nd grw2.sub
          rw [List.length_append] at lenP2
          have lenQ : (Q' ++ M).length ≤ 1000 := by
            have h1 : Q'.length ≤ 900 := by
              have : (Q' ++ [lk]).length ≤ 900 := by omega
              rw [List.length_append] at this
              simp only [List.length_cons, List.length_nil] at this
              omega
            rw [List.length_append]
            omega
          refine ⟨_, rfl, _, rfl, p, D, _, _, rfl, rfl, s9 _ _ hp8, hv9, line64 (by simp only [List.length_map]; omega), fun p2 H10 hp2 s10 h10 => ?_⟩
          refine ⟨_, rfl, _, rfl, q, D, _, _, rfl, rfl, s10 _ _ (s9 _ _ hq8), s10 _ _ hv9, line64 (by simp only [List.length_map]; rw [List.length_append] at lenQ; omega), fun q2 H11 hq2 s11 h11 => ⟨t2, fun t H12 ht s12 h12 => ?_⟩⟩
          have n3q2 : H3 q2 = none := by
            cases e : H3 q2 with
            | none => rfl
            | some u => rw [s10 _ _ (s9 _ _ (s8 _ _ e))] at hq2; cases hq2
          refine ⟨t, _, rfl, SqT.of h12, rfl, _, _, rfl, _, _, rfl, rfl, _, ?_, p2, q2, Pt ++ M, Q' ++ M, some (.int lk), some (.ref D), rfl, (((s8.trans s9).trans s10).trans s11).trans s12, nl_cat (s12 _ _ (s11 _ _ h10)), nl_cat (s12 _ _ h11), ne_of_none h10 hq2, n3q2, grw2, by rw [List.length_append] at hqp; simp only [List.length_append, List.length_cons, List.length_nil] at hqp ⊢; omega, rfl⟩
          simp only [List.length_append, List.length_cons, List.length_nil]
          omega
end
end K43

-- K43P5
set_option Elab.async false
set_option linter.all false
set_option maxRecDepth 100000
set_option maxHeartbeats 4000000
/-! Peeling: stuck -/
namespace K43
open PySem PySem.Spec PyProof.Rows L2
section
variable {P : Program} {w : World} {K : PySem.W.Frag} {mg : Str → Option Value} {base : Heap}
def spStuck (K : PySem.W.Frag) (n : Nat) : Sp := fun vs H Q _ => ∃ o, ∃ a, ∃ T : List Nat, vs = [.ref o.k, .ref a] ∧ KOk K H o ∧ NL H a T ∧ T.Nodup ∧ (∀ y ∈ T, y < o.m) ∧ T.length ≤ n ∧
  ∀ v H', Same H H' → ((v = .non ∧ ¬ Stuck (rlF o) (stF o) T) ∨ ((∃ b, v = .ref b) ∧ Stuck (rlF o) (stF o) T)) → Q v H'
theorem scP_stuck : FnScope ["self", "some", "part", "found", "rest", "look"] ["self", "some"] (defScope sP_stuck) := ⟨rfl, rfl, rfl, by decide +kernel, rfl, by decide +kernel, by decide +kernel⟩
/-- all parts can be peeled: so can the whole -/
theorem peel_all {R St : Nat → Nat → Prop} {T : List Nat} {Ps : List (List Nat)} (hp : ∀ P ∈ Ps, Part R T P ∧ P.Nodup) (cov : ∀ x ∈ T, ∃ P ∈ Ps, x ∈ P) (h : ∀ P ∈ Ps, ¬ Stuck R St P) : ¬ Stuck R St T := fun ⟨S, hS, b⟩ => by
  obtain ⟨P, hP, sub⟩ := b.inPart hS (fun P hP => (hp P hP).1) cov
  exact h P hP ⟨S, sub, b⟩
theorem okP_stuck {fd : FuncData} (F : FunD K "stuck" "Peeling.stuck" (defArgs sP_stuck) (defBody sP_stuck) (defScope sP_stuck) [] [] (He.ma K (cK K) "stuck") fd) (T : Txt K mg) (me : Meth K (cK K) "stuck" (He.ma K (cK K) "stuck"))
    (GPa : GP P w K mg base 2 "parts" ["self", "some"] (spParts K)) (GFi : GP P w K mg base 5 "firsts" ["self", "part"] (spFirsts K)) : ∀ n : Nat, FnOk P w K mg base CX0 (n + 6) (He.ma K (cK K) "stuck") fd ["self", "some"] (spStuck K n) := by
  intro n
  induction n with
  | zero =>
    refine okD F scP_stuck (fun vs H Q E h => ?_) (fun cdv A0 outer s H vs Q E hr h => ?_)
    · obtain ⟨o, a, S, rfl, _⟩ := h
      rfl
    · obtain ⟨o, a, S, rfl, ok, ha, nd, hm, hlen, k⟩ := h
      obtain ⟨dx, hob⟩ := ok.ob
      have hr2 := hr.mono (show 2 ≤ 5 by decide)
      refine ⟨_, pss_cons (ps_for PassesOwn.never rfl (pi_list (pe_m GPa hr2 T.clK (pv 0) (pa_cons (pv 1) pa_nil))) (pg_name (i := 2) scP_stuck.nd rfl (Or.inl rfl)) pss_never) (pss_one (ps_ret pe_non)), ?_⟩
      refine ⟨_, rfl, _, dx, _, rfl, hob, kF_no o (by decide +kernel), _, rfl, o, a, S, rfl, ok, ha, nd, hm, fun f H1 us Ps s1 hf pr hp cov => ⟨f, rfl, ⟨_, SqL.of hf⟩, ?_⟩⟩
      have eS : S = [] := List.eq_nil_of_length_eq_zero (by omega)
      subst eS
      have ePs : Ps = [] := by
        cases Ps with
        | nil => rfl
        | cons P r =>
          have h1 := (hp P List.mem_cons_self).1
          cases P with
          | nil => exact absurd rfl h1.ne
          | cons x r => have := h1.sub x List.mem_cons_self; cases this
      subst ePs
      cases pr
      exact for_it (walk_list (xs := ([] : List V))) (fun i σ H' => Same H1 H') (Same.refl _) (fun i σ H' _ s2 => SqL.of (s2 _ _ hf)) (fun i x σ H1 H2 hi => absurd hi (by simp)) fun σ H' s2 => k _ H' (s1.trans s2) (.inl ⟨rfl, peel_all hp cov fun P hP => by cases hP⟩)
  | succ n ih =>
    have G : GP P w K mg base (n + 6) "stuck" ["self", "some"] (spStuck K n) := ⟨⟨fd, [], ih, bind2 F fun _ _ _ _ _ _ _ _ => rfl, .nil⟩, me⟩
    refine okD F scP_stuck (fun vs H Q E h => ?_) (fun cdv A0 outer s H vs Q E hr h => ?_)
    · obtain ⟨o, a, S, rfl, _⟩ := h
      rfl
    · obtain ⟨o, a, S, rfl, ok, ha, nd, hm, hlen, k⟩ := h
      obtain ⟨dx, hob⟩ := ok.ob
      have hr2 := hr.mono (show 2 ≤ n + 6 by omega)
      have hr5 := hr.mono (show 5 ≤ n + 6 by omega)
      refine ⟨_, pss_cons (ps_for PassesOwn.never rfl (pi_list (pe_m GPa hr2 T.clK (pv 0) (pa_cons (pv 1) pa_nil))) (pg_name (i := 2) scP_stuck.nd rfl (Or.inl rfl))
          (pss_cons (ps_set (i := 3) scP_stuck.nd rfl (Or.inr rfl) (pe_m GFi hr5 T.clK (pv 0) (pa_cons (pv 2) pa_nil)))
          (pss_cons (ps_if (pt_cmpR op_eq (pe_callB call_len_seq (by rfl) T.len PySem.boot_len (pa_cons (pv 3) pa_nil)) pe_int (nomark _)) (pss_one (ps_ret (pv 2))) pss_nil)
          (pss_cons (ps_set (i := 4) scP_stuck.nd rfl (Or.inl rfl) (pe_m G hr T.clK (pv 0) (pa_cons (pe_lc (own := [("look", 5)]) (g := gName 5) (tt := tTest (tOp rNe (tVar 5) (tOp (rIxL K) (tVar 3) (tC (.int 0))))) (te := tVar 5) rfl scP_stuck.nd
            (pi_list (pv 2)) (blkOk_by (own := [("look", 5)]) (N := ["self", "some", "part", "found", "rest", "look"]) (sc := defScope sP_stuck) (by decide +kernel)) (fun _ _ _ _ _ => pg_name (i := 5) scP_stuck.nd rfl (Or.inl rfl))
            (fun _ _ _ _ _ => pts_one (pt_cmpR op_ne (pv 5) (pe_ix ix_list (pv 3) pe_int (fun _ _ => rfl)) (nomark _))) (fun _ _ _ _ _ => pv 5)) pa_nil)))
          (pss_one (ps_if (pt_cmp (pc_notN (pv 4))) (pss_one (ps_ret (pv 4))) pss_nil)))))) (pss_one (ps_ret pe_non)), ?_⟩
      refine ⟨_, rfl, _, dx, _, rfl, hob, kF_no o (by decide +kernel), _, rfl, o, a, S, rfl, ok, ha, nd, hm, fun f H1 us Ps s1 hf pr hp cov => ⟨f, rfl, ⟨_, SqL.of hf⟩, ?_⟩⟩
      refine for_it (walk_list (xs := us)) (fun i σ H' => ∃ o2 o3 o4, σ = [some (.ref o.k), some (.ref a), o2, o3, o4, none] ∧ Same H1 H' ∧ ∀ P ∈ Ps.take i, ¬ Stuck (rlF o) (stF o) P) ⟨none, none, none, rfl, Same.refl _, fun P h => by cases h⟩ (fun i σ H' _ ⟨_, _, _, _, s2, _⟩ => SqL.of (s2 _ _ hf)) ?_ ?_
      · rintro i x σ H2 H3 hi ⟨o2, o3, o4, rfl, s2, hns⟩ ⟨rfl, hx⟩
        obtain ⟨Pt, hPt, b, rfl, hb⟩ := paired_at pr hx
        obtain ⟨hpart, ndP⟩ := hp Pt (List.mem_of_getElem? hPt)
        have hb2 := s2 _ _ hb
        have ok2 := ok.same (s1.trans s2)
        obtain ⟨dx2, hob2⟩ := ok2.ob
        have subm : ∀ y ∈ Pt, y < o.m := fun y hy => hm y (hpart.sub y hy)
        have lenP : Pt.length ≤ n + 1 := Nat.le_trans (nodup_sub_len Pt S ndP hpart.sub) hlen
        have lenP16 : Pt.length ≤ 16 := by
          have h := nodup_sub_len Pt (List.range o.m) ndP fun x hx => List.mem_range.mpr (subm x hx)
          rw [List.length_range] at h
          exact Nat.le_trans h ok.m
        refine ⟨_, rfl, _, dx2, _, rfl, hob2, kF_no o (by decide +kernel), _, rfl, o, b, Pt, rfl, ok2, hb2, subm, by omega, fun l H4 fs s4 hl4 hfs _ => ?_⟩
        have hb4 := s4 _ _ hb2
        refine ⟨_, rfl, l, _, rfl, .inl (SqL.of hl4), rfl, _, rfl, ?_⟩
        cases fs with
        | nil =>
          refine itP (decide_eq_true rfl) ?_
          refine ⟨_, rfl, k _ H4 ((s1.trans s2).trans s4) (.inr ⟨⟨b, rfl⟩, hpart.bad fun x hx => ?_⟩)⟩
          have hn : ¬ FirstF o Pt x := fun z => by have := (hfs x).mpr ⟨hx, z⟩; cases this
          unfold FirstF at hn
          exact Classical.byContradiction fun hc => hn fun y hy ne st => hc ⟨y, hy, ne, st⟩
        | cons fst fr =>
          obtain ⟨hfP, hff⟩ := (hfs fst).mp List.mem_cons_self
          refine itN (decF fun z => by have := V.int.inj z; simp at this; omega) ?_
          have ok4 := ok2.same s4
          obtain ⟨dx4, hob4⟩ := ok4.ob
          refine ⟨_, rfl, _, dx4, _, rfl, hob4, kF_no o (by decide +kernel), _, rfl, b, rfl, ⟨_, SqL.of hb4⟩, ?_⟩
          refine lc_flat walk_list (fun i => (Pt[i]?).bind fun y => if y ≠ fst then some (.int y) else none) (by rw [List.length_map]; omega) (fun H5 s5 => SqL.of (s5 _ _ hb4)) ?_ ?_
          · rintro j v H5 H6 Ky Kn hj s5 ⟨rfl, hv⟩ ky kn
            rw [List.getElem?_map] at hv
            obtain ⟨y, hy, rfl⟩ := Option.map_eq_some_iff.mp hv
            refine ⟨rfl, _, rfl, _, rfl, l, _, 0, .int fst, rfl, rfl, SqL.of (s5 _ _ hl4), atI_nat (j := 0) (by rfl), rfl, _, rfl, ?_⟩
            by_cases e : y = fst
            · subst e
              have hd : (!decide (V.int (y : Nat) = V.int (y : Nat))) = false := by simp
              rw [hd]
              exact iteF (kn _ (Same.refl _) (by show ((Pt[j]?).bind fun z => if z ≠ y then some (V.int z) else none) = none; rw [hy]; exact if_neg (fun z => z rfl)))
            · have hd : (!decide (V.int (y : Nat) = V.int (fst : Nat))) = true := by
                have : V.int (y : Nat) ≠ V.int (fst : Nat) := fun z => e (by have := V.int.inj z; omega)
                simp [this]
              rw [hd]
              exact iteT ⟨_, rfl, ky _ _ (Same.refl _) (by show ((Pt[j]?).bind fun z => if z ≠ fst then some (V.int z) else none) = _; rw [hy]; exact if_pos e)⟩
          · intro D H5 hD s5 hv5
            have e : (Pt.filterMap fun y => if y ≠ fst then some (V.int y) else none) = (Pt.filter fun y => decide (y ≠ fst)).map fun k : Nat => V.int k := by
              rw [← List.filterMap_eq_filter, List.map_filterMap]
              congr 1
              funext y
              by_cases h : y ≠ fst
              · rw [if_pos h]; simp [Option.guard, h]
              · rw [if_neg h]; simp [Option.guard, h]
            rw [List.length_map, filterMap_at, e] at hv5
            have hlt : (Pt.filter fun y => decide (y ≠ fst)).length < Pt.length := by
              refine Nat.lt_of_le_of_ne (List.length_filter_le _ _) fun e => ?_
              have := List.length_filter_eq_length_iff.mp e fst hfP
              simp at this
            have ok5 := ok4.same s5
            refine ⟨o, D, Pt.filter fun y => decide (y ≠ fst), rfl, ok5, hv5, ndP.filter _, fun y hy => subm y (List.mem_filter.mp hy).1, by omega, fun v H6 s6 hv => ?_⟩
            have sA := (((s1.trans s2).trans s4).trans s5).trans s6
            refine ⟨_, rfl, _, rfl, ?_⟩
            rcases hv with ⟨rfl, hn⟩ | ⟨⟨c, rfl⟩, hst⟩
            · refine iteF ⟨_, _, _, rfl, ((s2.trans s4).trans s5).trans s6, fun P' hP' => ?_⟩
              rw [List.take_add_one, hPt] at hP'
              rcases List.mem_append.mp hP' with h | h
              · exact hns P' h
              · have e : P' = Pt := by simpa using h
                rw [e]
                rintro ⟨B, hB, bad⟩
                refine hn ⟨B, fun x hx => List.mem_filter.mpr ⟨hB x hx, decide_eq_true fun z => ?_⟩, bad⟩
                rw [z] at hx
                exact Stuck.without hff hB bad hx
            · refine iteT ⟨_, rfl, k _ H6 sA (.inr ⟨⟨c, rfl⟩, ?_⟩)⟩
              exact hst.mono (fun _ _ r => r) (fun _ _ r => r) fun x hx => hpart.sub x (List.mem_filter.mp hx).1
      · rintro σ H2 ⟨o2, o3, o4, rfl, s2, hns⟩
        rw [paired_len pr, List.take_length] at hns
        exact k _ H2 (s1.trans s2) (.inl ⟨rfl, peel_all hp cov hns⟩)
end
end K43

-- K43P6
set_option Elab.async false
set_option linter.all false
set_option maxRecDepth 100000
set_option maxHeartbeats 4000000
/-! Bonds(..); Peeling's __init__ -/
namespace K43
open PySem PySem.Spec PyProof.Rows L2
/-- a class that is made -/
structure MkOk (P : Program) (w : World) (K : PySem.W.Frag) (mg : Str → Option Value) (base : Heap) (k : Nat) (x : Str) (ps : List Str) (dvs : List V) (sp : Sp) : Prop where
  ok : ∃ f fd ds, Mk K (He.ga K x) f ∧ FnOk P w K mg base CX0 k f fd ps sp ∧ Binds K fd ps ds ∧ Vals dvs ds
  mg : mg x = some (.ref (He.ga K x))
section
variable {X : Cx} {k : Nat} {dvs : List V} {p pos : Pos} {e : Expr} {es : List Expr} {t : TA}
/-- Bonds(..) -/
def tBonds (K : PySem.W.Frag) (dvs : List V) (t : TA) : TE := fun σ H Q => t σ H fun vs H1 => ∃ v n es kd g m, ∃ ps : List Pr, vs ++ dvs = [v, .str kd, .ref g, .ref m] ∧ TabAt H1 v n es ∧ es.length ≤ 16 ∧ n ≤ 8 ∧ (∀ e ∈ es, e.okFor n) ∧ EmpT K H1 g ∧ MoreAt K H1 m ps ∧
  (∀ p ∈ ps, p.1 < (looksF es).length ∧ p.2 < (looksF es).length) ∧ ∀ b A Z H', b.es = es → b.n = n → b.kd = kd → H1 b.p = none → Same H1 H' → BondsAt K H' b ps A Z → Q (.ref b.p) H'
theorem EmpT.same {K : PySem.W.Frag} {H H' : Hp} {g : Addr} (s : Same H H') (e : EmpT K H g) : EmpT K H' g := e.imp id (s _ _)
theorem MoreAt.same {K : PySem.W.Frag} {H H' : Hp} {m : Addr} {ps : List Pr} (s : Same H H') (e : MoreAt K H m ps) : MoreAt K H' m ps := e.imp (fun h => h.same s) fun h => ⟨h.1, h.2.same s⟩
theorem new_two {H : Hp} {x dx : Addr} {u o : HO} (hx : H x = none) (hd : H dx = none) : Same H (upd (upd H dx u) x o) := fun b w e => by
  rw [upd_ne (ne_of_none e hx), upd_ne (ne_of_none e hd)]
  exact e
theorem pe_bonds (G : MkOk X.prog X.w X.K X.mg X.base 5 "Bonds" ["self", "timetable", "kind", "gone", "more"] dvs (spBInit X.K)) (hr : Room 6 X.A) (ha : PA X (e :: es) t) (hg : Gl X "Bonds" := by rfl)
    (he : starEach (e :: es) X.env = (false, eval e X.env) :: starEach es X.env := by rfl) (hpl : (backTo pos (starEach es X.env)).any (·.1) = false := by rfl) : PE X (.Call (.Name "Bonds" p) (e :: es) [] pos) (tBonds X.K dvs t) := by
  obtain ⟨f, fd, ds, M, F, b, v⟩ := G.ok
  have h2 : PA X (e :: es) (fun σ H Q => ∃ R, t σ H R ∧ ∀ xs H1, R xs H1 → Q xs H1) := ⟨fun pos pins s σ H Q I ⟨R, q, i⟩ => PA.up (t' := t) ha I q i⟩
  refine PE.imp (pe_make M F hr hg G.mg b v pass0 (E := E0) h2 (by decide) he hpl) fun σ H Q q => ⟨_, q, fun vs H1 ⟨v, n, es, kd, g, m, ps, e, ht, h1, h2, h3, h4, h5, h6, k⟩ x dx hx hd hdx => ?_⟩
  have s := new_two (u := .own x) (o := .ins (cB X.K) dx []) hx hd
  refine ⟨x, dx, v, n, es, kd, g, m, ps, by rw [e], upd_same, ht.same s, h1, h2, h3, h4.same s, h5.same s, h6, fun H' b A Z bp be bn bk fr hB => ⟨rfl, ?_⟩⟩
  have := k b A Z H' be bn bk (by rw [bp]; exact hx) (fun c u z => fr _ _ (s _ _ z) (by simp; exact ne_of_none z hx)) hB
  rw [bp] at this
  exact this
end
theorem BondsAt.fr {K : PySem.W.Frag} {H H' : Hp} {b : Bo} {ps A Z : List Pr} {x C dx : Addr} {fs : List (Str × V)} (h : BondsAt K H b ps A Z) (hx : H x = some (.ins C dx fs)) (n : b.p ≠ x) (f : Frame [x] H H') : BondsAt K H' b ps A Z := by
  have keep : ∀ {a : Addr} {o : HO}, H a = some o → (∀ C dx fs, o ≠ .ins C dx fs) → H' a = some o := fun q z => f.at1 q (ne_of q hx (z _ _ _))
  have tt : Tups H H' := fun b l q => keep q fun _ _ _ z => by cases z
  obtain ⟨fh, hh1, hh2⟩ := h.o.has
  refine ⟨?_, h.a, h.z⟩
  exact { ob := (let ⟨dx, q⟩ := h.o.ob; ⟨dx, f.at1 q n⟩), al := keep h.o.al (fun _ _ _ z => by cases z), be := keep h.o.be (fun _ _ _ z => by cases z),
          has := ⟨fh, keep hh1 (fun _ _ _ z => by cases z), fun p hp => ⟨keep (hh2 p hp).1 (fun _ _ _ z => by cases z), (hh2 p hp).2⟩⟩,
          fa := (let ⟨fs, q, l⟩ := h.o.fa; ⟨fs, keep q (fun _ _ _ z => by cases z), l⟩), lo := ⟨h.o.lo.1.tups tt fun l q => keep q (fun _ _ _ z => by cases z), h.o.lo.2⟩, ad := ⟨h.o.ad.1.tups tt fun l q => keep q (fun _ _ _ z => by cases z), h.o.ad.2⟩,
          go := ⟨keep h.o.go.1 (fun _ _ _ z => by cases z), h.o.go.2⟩, ev := h.o.ev.tups tt, ne := h.o.ne, dA := h.o.dA, dZ := h.o.dZ, sym := h.o.sym, inA := h.o.inA, inZ := h.o.inZ, inH := h.o.inH, few := h.o.few, fewN := h.o.fewN, okE := h.o.okE }
section
variable {P : Program} {w : World} {K : PySem.W.Frag} {mg : Str → Option Value} {base : Heap}
def pF (lo ad bp un : Addr) : List (Str × V) := [("own_looks", .ref lo), ("own_adds", .ref ad), ("own_bonds", .ref bp), ("own_unlike", .ref un)]
def spPInit (K : PySem.W.Frag) : Sp := fun vs H Q _ => ∃ x dx v n es kd g m, ∃ ps : List Pr, vs = [.ref x, v, .str kd, .ref g, .ref m] ∧ H x = some (.ins (cK K) dx []) ∧ TabAt H v n es ∧ es.length ≤ 16 ∧ n ≤ 8 ∧ (∀ e ∈ es, e.okFor n) ∧ EmpT K H g ∧ MoreAt K H m ps ∧
  (∀ p ∈ ps, p.1 < (looksF es).length ∧ p.2 < (looksF es).length) ∧
  ∀ H' lo ad un b A Z, b.es = es → b.n = n → b.kd = kd → Frame [x] H H' → H' x = some (.ins (cK K) dx (pF lo ad b.p un)) → PrL H' lo (looksF es) → PrL H' ad (addsF es) → BondsAt K H' b ps A Z → b.p ≠ x → H' un = some (.dT []) → Q .non H'
theorem scP_init : FnScope ["self", "timetable", "kind", "pairs", "alike", "one", "other"] ["self", "timetable", "kind", "pairs", "alike"] (defScope sP_init) := ⟨rfl, rfl, rfl, by decide +kernel, rfl, by decide +kernel, by decide +kernel⟩
theorem okP_init {f : Addr} {fd : FuncData} {dvs : List V} (F : FunD K "__init__" "Peeling.__init__" (defArgs sP_init) (defBody sP_init) (defScope sP_init) dvs [] f fd) (T : Txt K mg)
    (GLk : GOk P w K mg base 2 "looks" ["timetable"] spLooks) (GAd : GOk P w K mg base 2 "adds" ["timetable"] spAdds) (GBo : MkOk P w K mg base 5 "Bonds" ["self", "timetable", "kind", "gone", "more"] [] (spBInit K)) :
    FnOk P w K mg base CX0 7 f fd ["self", "timetable", "kind", "pairs", "alike"] (spPInit K) := by
  refine okD F scP_init (fun vs H Q E h => ?_) (fun cdv A0 outer s H vs Q E hr h => ?_)
  · obtain ⟨x, dx, v, n, es, kd, g, m, ps, rfl, _⟩ := h
    rfl
  · obtain ⟨x, dx, v, n, es, kd, g, m, ps, rfl, hx, ht, hle, hn8, hok, hg, hm, hps, k⟩ := h
    have hr2 := hr.mono (show 2 ≤ 6 by decide)
    refine ⟨_, pss_cons (ps_fld (pv 0) (pe_g GLk hr2 (pa_cons (pv 1) pa_nil)) rfl)
      (pss_cons (ps_fld (pv 0) (pe_g GAd hr2 (pa_cons (pv 1) pa_nil)) rfl)
      (pss_cons (ps_fld (pv 0) (pe_bonds GBo hr (pa_cons (pv 1) (pa_cons (pv 2) (pa_cons (pe_tupS pa_nil) (pa_cons (pv 4) pa_nil))))) rfl)
      (pss_cons (ps_fld (pv 0) pe_dnewTS rfl)
      (pss_one (ps_for PassesOwn.never rfl (pi_seqU (pv 3)) (pg_tup rfl (pgs_cons (pg_name (i := 5) scP_init.nd rfl (Or.inl rfl)) (pgs_cons (pg_name (i := 6) scP_init.nd rfl (Or.inl rfl)) pgs_nil))) pss_never))))), ?_⟩
    obtain ⟨ta, ev, rfl, hta, hev⟩ := ht
    have m0 : Mkg H x (cK K) dx H [] := ⟨Frame.refl _ _, hx⟩
    refine ⟨_, rfl, .ref ta, n, es, rfl, ⟨ta, ev, rfl, hta, hev⟩, by omega, fun lo H1 s1 hlo1 => ?_⟩
    have m1 := m0.step s1
    refine ⟨_, rfl, x, cK K, dx, _, rfl, m1.ob, T.clK, T.nK _ (by decide +kernel), by decide, ?_⟩
    have m2 := m1.put (f := "own_looks") (v := .ref lo) (by decide +kernel)
    generalize e2h : upd H1 x _ = H2 at m2 ⊢
    have u2 : Tups H1 H2 := fun b l h => by rw [← e2h]; exact m1.tup b l h
    have w2 : ∀ {b : Addr} {o : HO}, H1 b = some o → (∀ C dx fs, o ≠ .ins C dx fs) → H2 b = some o := fun h n => by rw [← e2h]; exact m1.away h n
    have t2 : Tups H H2 := fun b l h => u2 b l (s1 _ _ h)
    have hlo2 : PrL H2 lo (looksF es) := hlo1.tups u2 fun l h => w2 h (fun _ _ _ z => by cases z)
    refine ⟨_, rfl, .ref ta, n, es, rfl, ⟨ta, ev, rfl, t2 _ _ hta, hev.tups t2⟩, by omega, fun ad H3 s3 had3 => ?_⟩
    have m3 := m2.step s3
    refine ⟨_, rfl, x, cK K, dx, _, rfl, m3.ob, T.clK, T.nK _ (by decide +kernel), lt1k 1 rfl (by decide), ?_⟩
    have m4 := m3.put (f := "own_adds") (v := .ref ad) (by show _ ∉ (["own_looks"] : List Str); decide +kernel)
    generalize e4h : upd H3 x _ = H4 at m4 ⊢
    have u4 : Tups H3 H4 := fun b l h => by rw [← e4h]; exact m3.tup b l h
    have w4 : ∀ {b : Addr} {o : HO}, H3 b = some o → (∀ C dx fs, o ≠ .ins C dx fs) → H4 b = some o := fun h n => by rw [← e4h]; exact m3.away h n
    have t4 : Tups H H4 := fun b l h => u4 b l (s3 _ _ (t2 b l h))
    have hlo4 : PrL H4 lo (looksF es) := (hlo2.same s3).tups u4 fun l h => w4 h (fun _ _ _ z => by cases z)
    have had4 : PrL H4 ad (addsF es) := had3.tups u4 fun l h => w4 h (fun _ _ _ z => by cases z)
    have hm4 : MoreAt K H4 m ps := hm.imp (fun q => q.tups t4 fun l h => w4 (s3 _ _ (w2 (s1 _ _ h) (fun _ _ _ z => by cases z))) (fun _ _ _ z => by cases z)) fun q => ⟨q.1, q.2.tups t4⟩
    refine ⟨_, rfl, _, rfl, t0, fun g5 H5 hg5 s5 hv5 => ⟨_, rfl, .ref ta, n, es, kd, g5, m, ps, rfl, ⟨ta, ev, rfl, s5 _ _ (t4 _ _ hta), (hev.tups t4).same s5⟩, hle, hn8, hok, .inr hv5, hm4.same s5, hps, fun b A Z H6 be bn bk hbn s6 hB => ?_⟩⟩
    have m6 := (m4.step s5).step s6
    have nbx : b.p ≠ x := fun z => by
      rw [z, (m4.step s5).ob] at hbn
      cases hbn
    refine ⟨_, rfl, x, cK K, dx, _, rfl, m6.ob, T.clK, T.nK _ (by decide +kernel), lt1k 2 rfl (by decide), ?_⟩
    have m7 := m6.put (f := "own_bonds") (v := .ref b.p) (by show _ ∉ (["own_looks", "own_adds"] : List Str); decide +kernel)
    generalize e7h : upd H6 x _ = H7 at m7 ⊢
    have f67 : Frame [x] H6 H7 := by rw [← e7h]; exact Frame.upd (by simp)
    have u7 : Tups H6 H7 := f67.tups1 m6.ob
    have hB7 := hB.fr m6.ob nbx f67
    have s46 := s5.trans s6
    have hlo7 : PrL H7 lo (looksF es) := (hlo4.same s46).tups u7 fun l h => f67.lst1 m6.ob h
    have had7 : PrL H7 ad (addsF es) := (had4.same s46).tups u7 fun l h => f67.lst1 m6.ob h
    refine fun un H8 hun s8 hv8 => ?_
    have m8 := m7.step s8
    refine ⟨_, rfl, x, cK K, dx, _, rfl, m8.ob, T.clK, T.nK _ (by decide +kernel), lt1k 3 rfl (by decide), ?_⟩
    have m9 := m8.put (f := "own_unlike") (v := .ref un) (by show _ ∉ (["own_looks", "own_adds", "own_bonds"] : List Str); decide +kernel)
    generalize e9h : upd H8 x _ = H9 at m9 ⊢
    have f89 : Frame [x] H8 H9 := by rw [← e9h]; exact Frame.upd (by simp)
    have u9 : Tups H8 H9 := f89.tups1 m8.ob
    have hg9 : EmpT K H9 g := hg.tups fun b l h => m9.fr.tups1 hx b l h
    refine ⟨_, rfl, g, [], fun H' => H' = H9, rfl, .inr fun H' e => by rw [e]; exact hg9.at, rfl, fun J wk => ?_⟩
    refine for_it wk (fun i σ H' => H' = H9) rfl (fun i σ H' _ e => e) (fun i x σ H1 H2 hi => absurd hi (by simp)) fun σ H' e => ?_
    subst e
    exact k H' lo ad un b A Z be bn bk m9.fr m9.ob ((hlo7.same s8).tups u9 fun l h => f89.lst1 m8.ob h) ((had7.same s8).tups u9 fun l h => f89.lst1 m8.ob h) ((hB7.same s8).fr m8.ob nbx f89) nbx (f89.dT1 m8.ob hv8)
end
end K43

-- K43P7
set_option Elab.async false
set_option linter.all false
set_option maxRecDepth 100000
set_option maxHeartbeats 4000000
/-! Keeping's __init__ -/
namespace K43
open PySem PySem.Spec PyProof.Rows L2
/-- wishes: a list or a tuple of pairs -/
def WAt (H : Hp) (a : Addr) (W : List Pr) : Prop := PrL H a W ∨ PrT H a W
theorem WAt.same {H H' : Hp} (s : Same H H') {a : Addr} {W : List Pr} (h : WAt H a W) : WAt H' a W := h.imp (fun q => q.same s) fun q => q.same s
theorem WAt.seq {K : PySem.W.Frag} {H : Hp} {a x C dx : Addr} {fs : List (Str × V)} {W : List Pr} (h : WAt H a W) (hx : H x = some (.ins C dx fs)) : ∃ us, Paired (PrAt H) us W ∧ ((∀ H', Frame [x] H H' → SqL K H' a us) ∨ (∀ H', Frame [x] H H' → SqT K H' a us)) := by
  rcases h with ⟨us, q, pr⟩ | ⟨us, q, pr⟩
  · exact ⟨us, pr, .inl fun H' f => SqL.of (f.lst1 hx q)⟩
  · exact ⟨us, pr, .inr fun H' f => SqT.of (f.tups1 hx _ _ q)⟩
/-- a row of the chain -/
def rowF (n i j : Nat) : List Pr := ((List.range j).filter fun j => decide (i < j)).map fun j => (i, j)
theorem rowF_next {n i j : Nat} : rowF n i (j + 1) = rowF n i j ++ (if i < j then [(i, j)] else []) := by
  unfold rowF
  rw [List.range_succ, List.filter_append, List.map_append]
  congr 1
  by_cases h : i < j
  · rw [if_pos h]; simp [h]
  · rw [if_neg h]; simp [h]
theorem rowF_len (n i j : Nat) : (rowF n i j).length ≤ j := by
  unfold rowF
  rw [List.length_map]
  exact Nat.le_trans (List.length_filter_le _ _) (by rw [List.length_range]; exact Nat.le_refl _)
def chainP (n i : Nat) : List Pr := (List.range i).flatMap fun i => rowF n i n
theorem chainP_all (n : Nat) : chainP n n = chainF n := rfl
theorem chainP_next (n i : Nat) : chainP n (i + 1) = chainP n i ++ rowF n i n := by
  unfold chainP
  rw [List.range_succ, List.flatMap_append]
  simp
theorem chainP_len (n : Nat) : ∀ i, (chainP n i).length ≤ n * i
  | 0 => by simp [chainP]
  | i + 1 => by
    have h1 := chainP_len n i
    have h2 := rowF_len n i n
    rw [chainP_next, List.length_append, Nat.mul_succ]
    omega
theorem lst_tups {H : Hp} {D : Addr} {l : List V} (h : H D = some (.lst l)) {o : HO} : Tups H (upd H D o) := fun b t q => by
  rw [upd_ne (ne_of q h (by intro z; cases z))]
  exact q
/-- the dict of the barred looks while it is made: the first i wishes have their lists; has tells what is put in behind -/
structure BarQ (H : Hp) (D : Addr) (W V1 : List Pr) (has : Nat → List Nat) (n : Nat) : Prop where
  ex : ∃ kvs : List (Key × V), H D = some (.dK kvs) ∧ (∀ q ∈ kvs, ∃ l : Nat, q.1 = Sum.inl (l : Int)) ∧
    (∀ l : Nat, (∃ p, (l, p) ∈ W) → ∃ a ns, valV kvs (Sum.inl (l : Int)) = some (.ref a) ∧ NL H a ns ∧ ns.length ≤ n ∧ ∀ o, o ∈ ns ↔ (o < l ∨ ∃ p, (l, p) ∈ V1 ∧ o ∈ has p)) ∧ (∀ l : Nat, (¬ ∃ p, (l, p) ∈ W) → valV kvs (Sum.inl (l : Int)) = none) ∧ kvs.length ≤ W.length
theorem keys_putK {kvs : List (Key × V)} {l : Nat} {v : V} (h : ∀ q ∈ kvs, ∃ l : Nat, q.1 = Sum.inl (l : Int)) : ∀ q ∈ putK kvs (Sum.inl (l : Int)) v, ∃ l : Nat, q.1 = Sum.inl (l : Int) := by
  intro q hq
  unfold putK at hq
  split at hq
  · obtain ⟨r, hr, e⟩ := List.mem_map.mp hq
    by_cases c : r.1 = Sum.inl (l : Int)
    · rw [if_pos c] at e
      subst e
      exact ⟨l, c⟩
    · rw [if_neg c] at e
      subst e
      exact h _ hr
  · rcases List.mem_append.mp hq with m | m
    · exact h _ m
    · rw [List.mem_singleton.mp m]
      exact ⟨l, rfl⟩
theorem putK_len1 {kvs : List (Key × V)} {k : Key} {v w : V} (h : valV kvs k = some w) : (putK kvs k v).length = kvs.length := by
  unfold putK
  have : (kvs.any fun kv => decide (kv.1 = k)) = true := by rw [valV_any, h]; rfl
  rw [if_pos this, List.length_map]
theorem BarQ.frame {H H' : Hp} {D : Addr} {W V1 : List Pr} {has : Nat → List Nat} {n : Nat} (b : BarQ H D W V1 has n) (s : Same H H') : BarQ H' D W V1 has n := by
  obtain ⟨kvs, h1, h2, h3, h4⟩ := b.ex
  exact ⟨kvs, s _ _ h1, h2, fun l hl => let ⟨a, ns, q1, q2, q3⟩ := h3 l hl; ⟨a, ns, q1, s _ _ q2, q3⟩, h4⟩
theorem ifv {i : Nat} {ch : Bool} {σ : L2.St} {H : Hp} {Q : VK} {D : Addr} (hD : σ[i]? = some (some (.ref D))) (h : ∀ m H6, Same H H6 → ((ch = true ∧ m = D ∧ H6 = H) ∨ (ch = false ∧ H6 m = some (.tup []))) → Q (.ref m) H6) : if ch = true then tVar i σ H Q else tTupS tNil σ H Q := by
  cases ch with
  | true => exact iteT ⟨_, hD, h D H (Same.refl H) (.inl ⟨rfl, rfl, rfl⟩)⟩
  | false => exact iteF ⟨t0, fun p H' hp s e => h p H' s (.inr ⟨rfl, e⟩)⟩
/-- its list is put in anew -/
theorem BarQ.put {H : Hp} {D : Addr} {W V1 : List Pr} {has : Nat → List Nat} {n : Nat} (b : BarQ H D W V1 has n) {l p a2 : Addr} {ns : List Nat} (hw : (l, p) ∈ W) (ha2 : NL H a2 ns) (hlen : ns.length ≤ n + 16) (hns : ∀ o, o ∈ ns ↔ (o < l ∨ ∃ q, (l, q) ∈ V1 ++ [(l, p)] ∧ o ∈ has q)) {kvs : List (Key × V)} (hk : H D = some (.dK kvs)) :
    BarQ (upd H D (.dK (putK kvs (Sum.inl (l : Int)) (.ref a2)))) D W (V1 ++ [(l, p)]) has (n + 16) := by
  obtain ⟨kvs', h1, h2, h3, h4, h5⟩ := b.ex
  have e : kvs = kvs' := by
    rw [hk] at h1
    cases h1
    rfl
  subst e
  have away : ∀ {c : Addr} {xs : List Nat}, NL H c xs → NL (upd H D (.dK (putK kvs (Sum.inl (l : Int)) (.ref a2)))) c xs := fun h => by
    show upd H D _ _ = _
    rw [upd_ne (ne_of h hk (by intro z; cases z))]
    exact h
  obtain ⟨a0, n0, q0, _⟩ := h3 l ⟨p, hw⟩
  refine ⟨_, upd_same, keys_putK h2, fun l' hl' => ?_, fun l' hl' => ?_, by rw [putK_len1 q0]; exact h5⟩
  · by_cases c : l' = l
    · subst c
      exact ⟨a2, ns, by rw [valV_put, if_pos rfl], away ha2, hlen, hns⟩
    · obtain ⟨a, ms, q1, q2, q3, q4⟩ := h3 l' hl'
      refine ⟨a, ms, by rw [valV_put, if_neg (fun z => c (by have := Sum.inl.inj z; omega))]; exact q1, away q2, by omega, fun o => (q4 o).trans (or_congr Iff.rfl ⟨fun ⟨q, h1, h2⟩ => ⟨q, List.mem_append_left _ h1, h2⟩, fun ⟨q, h1, h2⟩ => ⟨q, ?_, h2⟩⟩)⟩
      rcases List.mem_append.mp h1 with h | h
      · exact h
      · exact absurd (congrArg Prod.fst (List.mem_singleton.mp h)) c
  · have c : l' ≠ l := fun z => hl' ⟨p, z ▸ hw⟩
    rw [valV_put, if_neg (fun z => c (by have := Sum.inl.inj z; omega))]
    exact h4 l' hl'
/-- a new key -/
theorem BarQ.add {H : Hp} {D : Addr} {W : List Pr} {has : Nat → List Nat} {n : Nat} (b : BarQ H D W [] has n) {l p a2 : Addr} (ha2 : NL H a2 (List.range l)) (hlen : l ≤ n) {kvs : List (Key × V)} (hk : H D = some (.dK kvs)) :
    BarQ (upd H D (.dK (putK kvs (Sum.inl (l : Int)) (.ref a2)))) D (W ++ [(l, p)]) [] has n := by
  obtain ⟨kvs', h1, h2, h3, h4, h5⟩ := b.ex
  have e : kvs = kvs' := by
    rw [hk] at h1
    cases h1
    rfl
  subst e
  have away : ∀ {c : Addr} {xs : List Nat}, NL H c xs → NL (upd H D (.dK (putK kvs (Sum.inl (l : Int)) (.ref a2)))) c xs := fun h => by
    show upd H D _ _ = _
    rw [upd_ne (ne_of h hk (by intro z; cases z))]
    exact h
  refine ⟨_, upd_same, keys_putK h2, fun l' hl' => ?_, fun l' hl' => ?_, by have := length_putK kvs (Sum.inl (l : Int)) (.ref a2); rw [List.length_append]; simp only [List.length_cons, List.length_nil]; omega⟩
  · by_cases c : l' = l
    · subst c
      refine ⟨a2, _, by rw [valV_put, if_pos rfl], away ha2, by rw [List.length_range]; exact hlen, fun o => ?_⟩
      rw [List.mem_range]
      exact ⟨.inl, fun h => h.elim id fun ⟨q, h, _⟩ => by cases h⟩
    · obtain ⟨q, hq⟩ := hl'
      have hq : (l', q) ∈ W := by
        rcases List.mem_append.mp hq with h | h
        · exact h
        · exact absurd (congrArg Prod.fst (List.mem_singleton.mp h)) c
      obtain ⟨a, ms, q1, q2, q3, q4⟩ := h3 l' ⟨q, hq⟩
      exact ⟨a, ms, by rw [valV_put, if_neg (fun z => c (by have := Sum.inl.inj z; omega))]; exact q1, away q2, q3, q4⟩
  · have c : l' ≠ l := fun z => hl' ⟨p, by rw [z]; simp⟩
    rw [valV_put, if_neg (fun z => c (by have := Sum.inl.inj z; omega))]
    exact h4 l' fun ⟨q, h⟩ => hl' ⟨q, List.mem_append_left _ h⟩
section
variable {P : Program} {w : World} {K : PySem.W.Frag} {mg : Str → Option Value} {base : Heap}
abbrev pF5 (lo ad bp un ba : Addr) : List (Str × V) := pF lo ad bp un ++ [(("own_barred" : Str), V.ref ba)]
def spKInit (K : PySem.W.Frag) : Sp := fun vs H Q _ => ∃ x dx v n es kd wa ch, ∃ W : List Pr, vs = [.ref x, v, .str kd, .ref wa, .bl ch] ∧ H x = some (.ins (cK K) dx []) ∧ TabAt H v n es ∧ es.length ≤ 16 ∧ n ≤ 8 ∧ (∀ e ∈ es, e.okFor n) ∧ WAt H wa W ∧ W.length ≤ 16 ∧
  (∀ p ∈ W, p.1 < (looksF es).length ∧ p.2 < n) ∧ ∀ H' o, o.k = x → o.b.es = es → o.b.kd = kd → o.W = W → o.ch = ch → Frame [x] H H' → KOk K H' o → Q .non H'
theorem scK_init : ScopeS ["self", "timetable", "kind", "wishes", "is_chain", "numbers", "pairs", "bonds", "look", "person", "one", "other"] ["self", "timetable", "kind", "wishes", "is_chain"] (defScope sK_init) := ⟨rfl, rfl, rfl, by decide +kernel, rfl, by decide +kernel, by decide +kernel, by decide +kernel, rfl, rfl⟩
theorem okK_init {f gP : Addr} {fd fdP : FuncData} {dvs dB : List V} (F : FunS P K (cK K) "__init__" "Keeping.__init__" (defArgs sK_init) (defBody sK_init) (defScope sK_init) dvs f fd) (T : Txt K mg) (SO : SupOk P K mg (cK K) (cK K) gP "__init__")
    (FP : FnOk P w K mg base CX0 7 gP fdP ["self", "timetable", "kind", "pairs", "alike"] (spPInit K)) (bP : Binds K fdP ["self", "timetable", "kind", "pairs", "alike"] []) (GLk : GOk P w K mg base 2 "looks" ["timetable"] spLooks)
    {e1 e2 : Addr} (se1 : ∀ H, SqT K H e1 []) (se2 : ∀ H, SqT K H e2 []) (GBo : MkOk P w K mg base 5 "Bonds" ["self", "timetable", "kind", "gone", "more"] [.ref e1, .ref e2] (spBInit K)) (GH : GB P w K mg base 1 "has" ["self", "person"] (spHas K)) :
    FnOk P w K mg base CX0 8 f fd ["self", "timetable", "kind", "wishes", "is_chain"] (spKInit K) := by
  refine okS F scK_init rfl rfl (fun vs H Q E h => ?_) (fun cdv cc A0 outer s H vs Q E hr SA h => ?_)
  · obtain ⟨x, dx, v, n, es, kd, wa, ch, W, rfl, _⟩ := h
    rfl
  · obtain ⟨x, dx, v, n, es, kd, wa, ch, W, rfl, hx, ht, hle, hn8, hok, hwa, hW16, hWb, k⟩ := h
    have hu := hu_of hr
    have hr2 := hr.mono (show 2 ≤ 7 by decide)
    have hr1 := hr.mono (show 1 ≤ 7 by decide)
    have hr6 := hr.mono (show 6 ≤ 7 by decide)
    refine ⟨_, psc_cons (ps_set (i := 5) scK_init.nd rfl (Or.inr rfl) (pe_listRgS rfl T.list (prg_1 (by rfl) T.range (pe_callB call_len_seq (by rfl) T.len PySem.boot_len (pa_cons (pe_g GLk hr2 (pa_cons (pv 1) pa_nil)) pa_nil)))))
      (psc_cons (ps_setLc2 (i := 6) (own := [("one", 10), ("other", 11)]) (vs1 := [11]) (g := gName 10) (tt := tYes) (wi1 := iList K (tVar 5)) (g1 := gName 11) (tt1 := tTest (tOp (rI0 fun i j => .bl (decide (i < j))) (tVar 10) (tVar 11))) (te := tTupS (tCons (tVar 10) (tCons (tVar 11) tNil))) rfl scK_init.nd rfl rfl (by rfl)
          (pi_list (pv 5)) (blkOk_by (own := [("one", 10), ("other", 11)]) (N := ["self", "timetable", "kind", "wishes", "is_chain", "numbers", "pairs", "bonds", "look", "person", "one", "other"]) (sc := defScope sK_init) (by decide +kernel)) (by decide)
          (fun _ _ _ _ _ => pg_name (i := 10) scK_init.nd rfl (Or.inl rfl)) (fun _ _ _ _ _ => pts_nil) (fun _ _ _ _ _ => pi_list (pv 5)) (fun _ _ _ _ _ => pg_name (i := 11) scK_init.nd rfl (Or.inl rfl))
          (fun _ _ _ _ _ => pts_one (pt_cmpR op_lt (pv 10) (pv 11) (nomark _))) (fun _ _ _ _ _ => pe_tupS (pa_cons (pv 10) (pa_cons (pv 11) pa_nil))))
      (psc_supE SA SO rfl rfl (by decide +kernel) FP bP hr (pa_cons (pv 1) (pa_cons (pv 2) (pa_cons (pe_tupS pa_nil) (pa_cons (pe_ifExp (pt_val (pv 4)) (pv 6) (pe_tupS pa_nil)) pa_nil))))
      (psc_of (pss_cons (ps_set (i := 7) scK_init.nd rfl (Or.inl rfl) (pe_bonds GBo hr6 (pa_cons (pv 1) (pa_cons (pv 2) pa_nil))))
        (pss_cons (ps_fld (pv 0) (pe_dc (own := [("look", 8), ("person", 9)]) (g := gTup K 2 (gCons (gName 8) (gCons (gName 9) gNil))) (tt := tYes) (tk := tVar 8) (tv := tLstRgS (tRg1 (tVar 8))) rfl scK_init.nd (pi_seqU (pv 3))
            (blkOk_by (own := [("look", 8), ("person", 9)]) (N := ["self", "timetable", "kind", "wishes", "is_chain", "numbers", "pairs", "bonds", "look", "person", "one", "other"]) (sc := defScope sK_init) (by decide +kernel))
            (fun _ _ _ _ _ => pg_tup rfl (pgs_cons (pg_name (i := 8) scK_init.nd rfl (Or.inl rfl)) (pgs_cons (pg_name (i := 9) scK_init.nd rfl (Or.inl rfl)) pgs_nil))) (fun _ _ _ _ _ => pts_nil) (fun _ _ _ _ _ => pv 8)
            (fun _ _ _ _ _ => pe_listRgS rfl T.list (prg_1 (by rfl) T.range (pv 8)))) rfl)
        (pss_one (ps_for PassesOwn.never rfl (pi_seqU (pv 3)) (pg_tup rfl (pgs_cons (pg_name (i := 8) scK_init.nd rfl (Or.inl rfl)) (pgs_cons (pg_name (i := 9) scK_init.nd rfl (Or.inl rfl)) pgs_nil)))
          (pss_one (ps_dput hu (pe_fld (pv 0) rfl) (pv 8) (pe_op op_catS (pe_dget hu (pe_fld (pv 0) rfl) (pv 8) (fun _ _ => rfl)) (pe_m GH hr1 T.clB (pv 7) (pa_cons (pv 9) pa_nil))) rfl))))))))), ?_⟩
    obtain ⟨ta, ev, rfl, hta, hev⟩ := ht
    have hm16 : (looksF es).length ≤ 16 := Nat.le_trans (looksF_len es) hle
    refine ⟨_, rfl, .ref ta, n, es, rfl, ⟨ta, ev, rfl, hta, hev⟩, by omega, fun l0 H1 s1 ⟨us0, hl0, pr0⟩ => ⟨l0, us0, rfl, .inl (SqL.of hl0), _, rfl, ?_, fun nu H2 hnu s2 hv2 => ?_⟩⟩
    · rw [paired_len pr0]
      exact RgOk.of_le (by omega) (by omega) (by omega) (by omega)
    rw [paired_len pr0, rgV_nat] at hv2
    refine ⟨_, rfl, nu, rfl, ⟨_, SqL.of hv2⟩, fun D hD => ?_⟩
    have s02 := s1.trans s2
    refine lc2_it (walk_list (xs := (List.range (looksF es).length).map fun k : Nat => V.int k)) (fun i H' => ∃ acc, H' D = some (.lst acc) ∧ Same H2 H' ∧ Paired (PrAt H') acc (chainP (looksF es).length i)) ⟨[], upd_same, same_new hD, .nil⟩ (fun i H' _ ⟨_, _, sm, _⟩ => SqL.of (sm _ _ hv2)) ?_ ?_
    · rintro i v H3 H4 hi ⟨acc, hacc, sm, prc⟩ ⟨rfl, hv⟩
      rw [List.length_map, List.length_range] at hi
      rw [List.getElem?_map, List.getElem?_range hi] at hv
      cases hv
      refine ⟨rfl, iteT (B := ∃ acc, H4 D = some (.lst acc) ∧ Same H2 H4 ∧ Paired (PrAt H4) acc (chainP (looksF es).length (i + 1))) ⟨_, rfl, nu, rfl, ⟨_, SqL.of (sm _ _ hv2)⟩, ?_⟩⟩
      refine lcI_it (walk_list (xs := (List.range (looksF es).length).map fun k : Nat => V.int k)) (fun j H' => ∃ acc, H' D = some (.lst acc) ∧ Same H2 H' ∧ Paired (PrAt H') acc (chainP (looksF es).length i ++ rowF (looksF es).length i j)) ⟨acc, hacc, sm, by simpa [rowF] using prc⟩ (fun j H' _ ⟨_, _, sm, _⟩ => SqL.of (sm _ _ hv2)) ?_ ?_
      · rintro j v H5 H6 hj ⟨acc5, hacc5, sm5, prc5⟩ ⟨rfl, hv⟩
        rw [List.length_map, List.length_range] at hj
        rw [List.getElem?_map, List.getElem?_range hj] at hv
        cases hv
        refine ⟨rfl, _, rfl, _, rfl, _, _, rfl, rfl, _, rfl, ite2 (fun e => ?_) (fun e => ?_)⟩
        · have hij : i < j := by have := of_decide_eq_true e; omega
          refine ⟨_, rfl, _, rfl, t2, fun q H7 hq s7 h7 => ⟨acc5, s7 _ _ hacc5, ?_, acc5 ++ [.ref q], upd_same, fun b o z => ?_, ?_⟩⟩
          · refine line64' ?_
            rw [paired_len prc5, List.length_append]
            have h1 := chainP_len (looksF es).length i
            have h2 := rowF_len (looksF es).length i j
            have h3 : (looksF es).length * i ≤ 16 * 16 := Nat.mul_le_mul hm16 (by omega)
            omega
          · rw [upd_ne (ne_of_none z hD)]
            exact s7 _ _ (sm5 _ _ z)
          · have tt := lst_tups (s7 _ _ hacc5) (o := .lst (acc5 ++ [V.ref q]))
            rw [rowF_next, if_pos hij, ← List.append_assoc]
            exact paired_snoc ⟨q, rfl, tt _ _ h7⟩ (paired_mono (fun v p z => (z.same s7).tups tt) prc5)
        · have hij : ¬ i < j := fun z => e (decide_eq_true (by omega))
          exact ⟨acc5, hacc5, sm5, by rw [rowF_next, if_neg hij, List.append_nil]; exact prc5⟩
      · rintro H5 ⟨acc5, hacc5, sm5, prc5⟩
        rw [List.length_map, List.length_range] at prc5
        exact ⟨acc5, hacc5, sm5, by rw [chainP_next]; exact prc5⟩
    · rintro H3 ⟨acc, hacc, sm3, prc⟩
      rw [List.length_map, List.length_range, chainP_all] at prc
      have s03 := s02.trans sm3
      have hx3 := s03 _ _ hx
      have hpl : PrL H3 D (chainF (looksF es).length) := ⟨acc, hacc, prc⟩
      refine ⟨x, dx, [], rfl, hx3, fun q hq => ⟨_, rfl, _, rfl, t0, fun g5 H5 hg5 s5 hv5 => ⟨_, rfl, ch, rfl, ifv (i := 6) (D := D) rfl fun m H6 s6 hm6 => ?_⟩⟩⟩
      have sq := same_new (H := H3) (o := .met gP x) hq
      have s36 := (sq.trans s5).trans s6
      have s06 := s03.trans s36
      have hq6 : H6 q = some (.met gP x) := s6 _ _ (s5 _ _ upd_same)
      have hmo : MoreAt K H6 m (moreF es ch) := by
        rcases hm6 with ⟨rfl, rfl, _⟩ | ⟨rfl, h6⟩
        · exact .inl (hpl.same s36)
        · exact .inr ⟨rfl, .inr h6⟩
      refine ⟨hq6, x, dx, .ref ta, n, es, kd, g5, m, moreF es ch, rfl, s06 _ _ hx, ⟨ta, ev, rfl, s06 _ _ hta, hev.same s06⟩, hle, hn8, hok, .inr (s6 _ _ hv5), hmo, fun p hp => ?_, fun H7 lo ad un b1 A1 Z1 be1 bn1 bk1 fr67 hx7 hlo7 had7 hB1 nb1 hun7 => ?_⟩
      · cases ch with
        | true => have := mem_chainF.mp hp; exact ⟨by omega, this.2⟩
        | false => cases hp
      have fr07 : Frame [x] H H7 := (Frame.of s06).trans fr67
      have t07 := fr07.tups1 hx
      refine ⟨_, rfl, _, rfl, .ref ta, n, es, kd, e1, e2, [], rfl, ⟨ta, ev, rfl, t07 _ _ hta, hev.tups t07⟩, hle, hn8, hok, .inl se1, .inr ⟨rfl, .inl se2⟩, (fun p hp => by cases hp), fun b2 A2 Z2 H8 be2 bn2 bk2 hbn2 s8 hB2 => ?_⟩
      have fr08 := fr07.trans (Frame.of s8)
      have hx8 := s8 _ _ hx7
      have nb2 : b2.p ≠ x := fun z => by rw [z, hx7] at hbn2; cases hbn2
      obtain ⟨us, prW, hsq⟩ := hwa.seq (K := K) hx
      refine ⟨_, rfl, wa, us, fun H' => Frame [x] H H', rfl, hsq, fr08, fun J wk Db hDb => ?_⟩
      have lenW := paired_len prW
      refine dc_go wk (fun i H' => Same H8 H' ∧ BarQ H' Db (W.take i) [] (runG (lg b2) b2.es).has 16) ⟨same_new hDb, ⟨[], upd_same, (fun q h => by cases h), (fun l h => by simp at h), (fun l _ => rfl), Nat.zero_le _⟩⟩ (fun i H' _ ⟨sm, _⟩ => fr08.trans (Frame.of sm)) ?_ ?_
      · rintro i y H' H'' hi ⟨sm, bq⟩ ⟨rfl, hy⟩
        obtain ⟨p, hp, c, rfl, hc⟩ := paired_at prW hy
        have hc' := ((fr08.trans (Frame.of sm)).tups1 hx) _ _ hc
        have hpW := hWb p (List.mem_of_getElem? hp)
        refine ⟨c, _, rfl, SqT.of hc', rfl, _, _, rfl, _, _, rfl, rfl, rfl, iteT (B := Same H8 H'' ∧ BarQ H'' Db (W.take (i + 1)) [] (runG (lg b2) b2.es).has 16) ⟨_, rfl, _, rfl, _, rfl, RgOk.of_le (by omega) (by omega) (by omega) (by omega), fun l H3 hl s3 h3 => ?_⟩⟩
        rw [rgV_nat] at h3
        have bq3 := bq.frame s3
        obtain ⟨kvs, h1, _, _, _, h5⟩ := id bq3.ex
        refine ⟨kvs, Sum.inl (p.1 : Int), rfl, h1, line64' (by rw [List.length_take] at h5; omega), fun b o z => ?_, ?_⟩
        · rw [upd_ne (ne_of_none z hDb)]
          exact s3 _ _ (sm _ _ z)
        · rw [take_snoc hp]
          exact bq3.add (l := p.1) (p := p.2) h3 (show p.1 ≤ 16 by have := hpW.1; omega) h1
      · rintro H9 ⟨sm9, bq9⟩
        rw [lenW, List.take_length] at bq9
        have hx9 := sm9 _ _ hx8
        refine ⟨_, rfl, x, cK K, dx, _, rfl, hx9, T.clK, T.nK _ (by decide +kernel), lt1k 4 rfl (by decide), ?_⟩
        rw [putF_new (by show _ ∉ (["own_looks", "own_adds", "own_bonds", "own_unlike"] : List Str); decide +kernel)]
        have f910 : Frame [x] H9 (upd H9 x (.ins (cK K) dx (pF5 lo ad b1.p un Db))) := Frame.upd (by simp)
        have hx10 : upd H9 x (.ins (cK K) dx (pF5 lo ad b1.p un Db)) x = some (.ins (cK K) dx (pF5 lo ad b1.p un Db)) := upd_same
        generalize upd H9 x (.ins (cK K) dx (pF5 lo ad b1.p un Db)) = H10 at f910 hx10 ⊢
        have fr010 : Frame [x] H H10 := (fr08.trans (Frame.of sm9)).trans f910
        have f810 : Frame [x] H8 H10 := (Frame.of sm9).trans f910
        have bq10 : BarQ H10 Db W [] (runG (lg b2) b2.es).has 16 := by
          obtain ⟨kvs, h1, h2, h3, h4⟩ := bq9.ex
          exact ⟨kvs, f910.dK1 hx9 h1, h2, fun l hl => let ⟨a, ns, q1, q2, q3⟩ := h3 l hl; ⟨a, ns, q1, f910.lst1 hx9 q2, q3⟩, h4⟩
        have nxD : x ≠ Db := fun z => by rw [← z, hx8] at hDb; cases hDb
        have toF : ∀ {H' : Hp}, Frame [Db] H10 H' → Frame [x] H8 H' ∧ H' x = some (.ins (cK K) dx (pF5 lo ad b1.p un Db)) := fun g =>
          ⟨f810.newer g (fun y hy => by rw [List.mem_singleton.mp hy]; exact hDb), g _ _ hx10 (by simpa using nxD)⟩
        refine ⟨_, rfl, wa, us, fun H' => Frame [x] H H', rfl, hsq, fr010, fun J2 wk2 => ?_⟩
        refine for_it wk2 (fun i σ H' => ∃ o8 o9, σ = [some (.ref x), some (.ref ta), some (.str kd), some (.ref wa), some (.bl ch), some (.ref nu), some (.ref D), some (.ref b2.p), o8, o9, none, none] ∧ Frame [Db] H10 H' ∧ BarQ H' Db W (W.take i) (runG (lg b2) b2.es).has (16 + 16 * i))
          ⟨_, _, rfl, Frame.refl _ _, bq10⟩ (fun i σ H' _ ⟨_, _, _, g, _⟩ => fr08.trans (toF g).1) ?_ ?_
        · rintro i y σ H' H'' hi ⟨o8, o9, rfl, g, bq⟩ ⟨rfl, hy⟩
          obtain ⟨p, hp, c, rfl, hc⟩ := paired_at prW hy
          obtain ⟨g8, hx'⟩ := toF g
          have hc' := ((fr08.trans g8).tups1 hx) _ _ hc
          have hpm := List.mem_of_getElem? hp
          have hpW := hWb p hpm
          have iW : i < W.length := (List.getElem?_eq_some_iff.mp hp).1
          have hB2' := hB2.fr hx8 nb2 g8
          obtain ⟨dx2, hob2⟩ := hB2'.o.ob
          obtain ⟨kvs, h1, h2, h3, h4, h5⟩ := id bq.ex
          obtain ⟨a, ns, q1, q2, q3, q4⟩ := h3 p.1 ⟨p.2, hpm⟩
          refine ⟨c, _, rfl, SqT.of hc', rfl, _, _, rfl, _, _, rfl, rfl, ?_⟩
          refine ⟨_, rfl, _, _, dx, _, _, rfl, hx', T.clK, T.nK _ (by decide +kernel), rfl, _, rfl, Db, _, rfl, (by have := DGet.k (k := Sum.inl (p.1 : Int)) h1; rw [q1] at this; exact this), ?_⟩
          refine ⟨_, rfl, _, dx2, _, rfl, hob2, bF_no b2 (by decide +kernel), _, rfl, b2, A2, Z2, _, p.2, rfl, hB2'.o, by rw [bn2]; exact hpW.2, fun l2 H3 hl2 s3 hv3 => ?_⟩
          have lh : ((runG (lg b2) b2.es).has p.2).length ≤ 16 := by
            have h1 := runG_len (lg b2) b2.es p.2
            rw [runG_num] at h1
            have := hB2'.o.m
            omega
          refine ⟨a, l2, _, _, rfl, rfl, s3 _ _ q2, hv3, line64 (by simp only [List.length_map]; omega), fun l3 H4 hl3 s4 hv4 => ?_⟩
          have s34 := s3.trans s4
          refine ⟨_, rfl, _, _, dx, _, _, rfl, s34 _ _ hx', T.clK, T.nK _ (by decide +kernel), rfl, _, rfl, Db, _, rfl, DPut.k (k := Sum.inl (p.1 : Int)) (s34 _ _ h1) (line64' (by omega)), _, _, rfl, ?_, ?_⟩
          · exact (g.trans (Frame.of s34)).trans (Frame.upd (by simp))
          · rw [take_snoc hp]
            have bq4 := bq.frame s34
            refine bq4.put (p := p.2) hpm (nl_cat hv4) (by rw [List.length_append]; omega) (fun o => ?_) (s34 _ _ h1)
            rw [List.mem_append, q4]
            constructor
            · rintro ((h | ⟨r, h1, h2⟩) | h)
              · exact .inl h
              · exact .inr ⟨r, List.mem_append_left _ h1, h2⟩
              · exact .inr ⟨p.2, by simp, h⟩
            · rintro (h | ⟨r, h1, h2⟩)
              · exact .inl (.inl h)
              · rcases List.mem_append.mp h1 with h | h
                · exact .inl (.inr ⟨r, h, h2⟩)
                · have e := congrArg Prod.snd (List.mem_singleton.mp h)
                  have e : r = p.2 := e
                  rw [e] at h2
                  exact .inr h2
        · rintro σ H' ⟨o8, o9, rfl, g, bq⟩
          rw [lenW, List.take_length] at bq
          obtain ⟨g8, hx'⟩ := toF g
          have g7 : Frame [x] H7 H' := (Frame.of s8).trans g8
          have tt := g7.tups1 hx7
          refine k H' ⟨x, lo, ad, un, Db, b1, W, ch⟩ rfl be1 bk1 rfl rfl (fr08.trans g8) ?_
          refine ⟨⟨dx, hx'⟩, ?_, ?_, ⟨A1, Z1, ?_⟩, g7.dT1 hx7 hun7, ?_⟩
          · rw [be1]; exact hlo7.tups tt fun l h => g7.lst1 hx7 h
          · rw [be1]; exact had7.tups tt fun l h => g7.lst1 hx7 h
          · rw [be1]; exact hB1.fr hx7 nb1 g7
          · have elg : lg b1 = lg b2 := by unfold lg; rw [bk1, bk2]
            obtain ⟨kvs, h1, h2, h3, h4, h5⟩ := bq.ex
            refine ⟨kvs, h1, h2, fun l hl => ?_, h4, by omega⟩
            obtain ⟨a, ns, q1, q2, q3, q4⟩ := h3 l hl
            refine ⟨a, ns, q1, q2, fun o => (q4 o).trans ?_⟩
            show _ ↔ barF (lg b1) b1.es W l o
            unfold barF
            rw [elg, be1, ← be2]
            constructor
            · rintro (h | ⟨p, h1, h2⟩)
              · obtain ⟨p, hp⟩ := hl
                exact ⟨p, hp, .inl h⟩
              · exact ⟨p, h1, .inr h2⟩
            · rintro ⟨p, hp, h | h⟩
              · exact .inl h
              · exact .inr ⟨p, hp, h⟩
end
end K43

-- K43P8
set_option Elab.async false
set_option linter.all false
set_option maxRecDepth 100000
set_option maxHeartbeats 4000000
/-! Keeping: is_fine -/
namespace K43
open PySem PySem.Spec PyProof.Rows L2
theorem walk_keys {d : Addr} {o : Obj} {kvs : List (Key × V)} : Walk (Itk d o kvs) kvs.length (fun H => H d = some (.frz o (.dK kvs))) (fun i H x H' => H' = H ∧ ∃ k v, kvs[i]? = some (k, v) ∧ x = kV k) :=
  ⟨fun _ _ hi h => ⟨h, hi⟩, fun _ h => ⟨h, Nat.le_refl _⟩, fun _ _ _ _ _ _ y => y⟩
theorem valV_mem {kvs : List (Key × V)} {q : Key × V} (h : q ∈ kvs) : (valV kvs q.1).isSome = true := by
  rw [← valV_any, List.any_eq_true]
  exact ⟨q, h, decide_eq_true rfl⟩
theorem mem_valV {kvs : List (Key × V)} {k : Key} (h : (valV kvs k).isSome = true) : ∃ q ∈ kvs, q.1 = k := by
  rw [← valV_any, List.any_eq_true] at h
  obtain ⟨q, h1, h2⟩ := h
  exact ⟨q, h1, of_decide_eq_true h2⟩
section
variable {P : Program} {w : World} {K : PySem.W.Frag} {mg : Str → Option Value} {base : Heap}
def spFine (K : PySem.W.Frag) : Sp := fun vs H Q _ => ∃ o, vs = [.ref o.k] ∧ KOk K H o ∧ ∀ c H', Same H H' → (c = true ↔ FineF (lg o.b) o.b.es o.W o.ch) → Q (.bl c) H'
theorem scK_fine : FnScope ["self", "look"] ["self"] (defScope sK_is_fine) := ⟨rfl, rfl, rfl, by decide +kernel, rfl, by decide +kernel, by decide +kernel⟩
open Classical in
theorem okK_fine {f : Addr} {fd : FuncData} (F : FunD K "is_fine" "Keeping.is_fine" (defArgs sK_is_fine) (defBody sK_is_fine) (defScope sK_is_fine) [] [] f fd) (T : Txt K mg) (GE : GP P w K mg base 1 "everything" ["self"] (spEvery K))
    (GS : GP P w K mg base 22 "stuck" ["self", "some"] (spStuck K 16)) : FnOk P w K mg base CX0 23 f fd ["self"] (spFine K) := by
  refine okD F scK_fine (fun vs H Q E h => ?_) (fun cdv A0 outer s H vs Q E hr h => ?_)
  · obtain ⟨o, rfl, _⟩ := h
    rfl
  · obtain ⟨o, rfl, ok, k⟩ := h
    have hu := hu_of hr
    have hr1 := hr.mono (show 1 ≤ 22 by decide)
    obtain ⟨dx, hob⟩ := ok.ob
    obtain ⟨kvs, hba, hk1, hk2, hk3, hk4⟩ := ok.ba
    have hm := ok.m
    refine ⟨_, pss_cons (ps_if (pt_val (pe_callB (cr_any rfl) (by rfl) T.any PyProof.Rows.boot_any (pa_cons (pe_lock (pe_lc (own := [("look", 1)]) (g := gName 1) (tt := tYes) (te := tOp (rIn K false) (tVar 1) (tDGet (tFld K (tVar 0) "own_barred") (tVar 1))) rfl scK_fine.nd
        (pi_keys (pe_fld (pv 0) rfl)) (blkOk_by (own := [("look", 1)]) (N := ["self", "look"]) (sc := defScope sK_is_fine) (by decide +kernel)) (fun _ _ _ _ _ => pg_name (i := 1) scK_fine.nd rfl (Or.inl rfl)) (fun _ _ _ _ _ => pts_nil)
        (fun _ _ _ _ _ => pe_cmpR op_in_seq (pv 1) (pe_dget hu (pe_fld (pv 0) rfl) (pv 1) (fun _ _ => rfl)) (by rfl)))) pa_nil))) (pss_one (ps_ret pe_bl)) pss_nil)
      (pss_one (ps_ret (pe_cmp (pc_isN (pe_m GS hr T.clK (pv 0) (pa_cons (pe_m0 GE hr1 T.clK (pv 0)) pa_nil)))))), ?_⟩
    refine ⟨o.ba, _, hba, trivial, fun od => ?_⟩
    have hne : ∀ {b : Addr} {u : HO}, H b = some u → (∀ l, u ≠ .dK l) → upd H o.ba (.frz od (.dK kvs)) b = some u := fun h n => by
      rw [upd_ne (ne_of h hba (n _))]
      exact h
    have hob1 := hne hob fun _ z => by cases z
    have hba1 : upd H o.ba (.frz od (.dK kvs)) o.ba = some (.frz od (.dK kvs)) := upd_same
    have back : ∀ {H' : Hp}, Same (upd H o.ba (.frz od (.dK kvs))) H' → Same H (upd H' o.ba (.dK kvs)) := fun s b u e => by
      by_cases c : b = o.ba
      · rw [c, hba] at e
        rw [c, upd_same]
        exact e
      · rw [upd_ne c]
        exact s _ _ (by rw [upd_ne c]; exact e)
    have lists : ∀ l : Nat, (∃ p, (l, p) ∈ o.W) → ∃ a ns, valV kvs (Sum.inl (l : Int)) = some (.ref a) ∧ NL (upd H o.ba (.frz od (.dK kvs))) a ns ∧ ∀ x, x ∈ ns ↔ barF (lg o.b) o.b.es o.W l x := fun l hl => by
      obtain ⟨a, ns, q1, q2, q3⟩ := hk2 l hl
      exact ⟨a, ns, q1, hne q2 (fun _ z => by cases z), q3⟩
    generalize upd H o.ba (.frz od (.dK kvs)) = H1 at hob1 hba1 back lists ⊢
    have isW : ∀ q ∈ kvs, ∃ l : Nat, q.1 = Sum.inl (l : Int) ∧ ∃ p, (l, p) ∈ o.W := fun q hq => by
      obtain ⟨l, e⟩ := hk1 q hq
      refine ⟨l, e, Classical.byContradiction fun n => ?_⟩
      have := valV_mem hq
      rw [e, hk3 l n] at this
      cases this
    have fEx : ∃ f : Key × V → Bool, ∀ q ∈ kvs, ∀ l : Nat, q.1 = Sum.inl (l : Int) → (f q = true ↔ barF (lg o.b) o.b.es o.W l l) := by
      refine ⟨fun q => match q.1 with | .inl i => decide (barF (lg o.b) o.b.es o.W i.toNat i.toNat) | .inr _ => false, fun q _ l e => ?_⟩
      show (match q.1 with | .inl i => decide (barF (lg o.b) o.b.es o.W i.toNat i.toNat) | .inr _ => false) = true ↔ _
      rw [e]
      show decide (barF (lg o.b) o.b.es o.W (l : Int).toNat (l : Int).toNat) = true ↔ _
      rw [Int.toNat_natCast, decide_eq_true_iff]
    obtain ⟨f, hf⟩ := fEx
    refine ⟨_, rfl, _, _, dx, _, _, rfl, hob1, T.clK, T.nK _ (by decide +kernel), rfl, o.ba, od, rfl, .inl ⟨kvs, hba1, ?_⟩⟩
    refine lc_flat walk_keys (fun i => (kvs[i]?).map fun q => .bl (f q)) (by omega) (fun H2 s2 => s2 _ _ hba1) ?_ ?_
    · rintro i x H2 H3 Ky Kn hi s2 ⟨rfl, k1, v1, hkv, rfl⟩ ky kn
      have hmem := List.mem_of_getElem? hkv
      obtain ⟨l, e, hW⟩ := isW _ hmem
      have e : k1 = Sum.inl (l : Int) := e
      subst e
      obtain ⟨a, ns, q1, q2, q3⟩ := lists l hW
      refine ⟨rfl, iteT (B := Kn H3) ⟨_, rfl, _, rfl, _, _, dx, _, _, rfl, s2 _ _ hob1, T.clK, T.nK _ (by decide +kernel), rfl, _, rfl, o.ba, _, rfl, .inl ⟨kvs, Sum.inl (l : Int), .inr ⟨od, s2 _ _ hba1⟩, rfl, q1.symm⟩, a, _, rfl, .inl (SqL.of (s2 _ _ q2)), rfl, flat_nats ns, ?_⟩⟩
      rw [if_neg Bool.false_ne_true, show inV (kV (Sum.inl (l : Int))) (ns.map fun k : Nat => V.int k) = decide (l ∈ ns) from inV_nat l ns]
      refine ky _ _ (Same.refl _) ?_
      rw [hkv]
      have : decide (l ∈ ns) = f (Sum.inl (l : Int), v1) := by
        rw [Bool.eq_iff_iff, decide_eq_true_iff, hf _ hmem l rfl]
        exact q3 l
      rw [this]
      rfl
    · intro D H2 hD s2 hl2
      rw [bl_all] at hl2
      have sB := back s2
      have hDba : D ≠ o.ba := fun z => by rw [z, hba1] at hD; cases hD
      refine ⟨s2 _ _ hba1, D, _, rfl, SqL.of (by rw [upd_ne hDba]; exact hl2), _, rfl, ?_⟩
      have hany : ((kvs.map f).any id) = true ↔ ∃ l, barF (lg o.b) o.b.es o.W l l := by
        rw [List.any_map, List.any_eq_true]
        constructor
        · rintro ⟨q, hq, e⟩
          obtain ⟨l, e1, _⟩ := isW q hq
          exact ⟨l, (hf q hq l e1).mp e⟩
        · rintro ⟨l, hb⟩
          obtain ⟨p, hp, _⟩ := id hb
          obtain ⟨a, ns, q1, _⟩ := lists l ⟨p, hp⟩
          obtain ⟨q, hq, e⟩ := mem_valV (kvs := kvs) (k := Sum.inl (l : Int)) (by rw [q1]; rfl)
          exact ⟨q, hq, (hf q hq l e).mpr hb⟩
      refine ite2 (fun e => ?_) (fun e => ?_)
      · obtain ⟨l, hb⟩ := hany.mp e
        exact k false _ sB ⟨fun z => (by cases z), fun z => absurd hb (z.1 l)⟩
      · have nb : ∀ l, ¬ barF (lg o.b) o.b.es o.W l l := fun l hb => e (hany.mpr ⟨l, hb⟩)
        have ok2 := ok.same sB
        generalize upd H2 o.ba (.dK kvs) = H3 at sB ok2 ⊢
        obtain ⟨dx3, hob3⟩ := ok2.ob
        refine ⟨_, rfl, _, dx3, _, rfl, hob3, kF_no o (by decide +kernel), _, rfl, _, dx3, _, rfl, hob3, kF_no o (by decide +kernel), o, rfl, ok2, fun l H4 hl s4 hv4 => ?_⟩
        refine ⟨o, l, List.range o.m, rfl, ok2.same s4, hv4, List.nodup_range, fun y hy => List.mem_range.mp hy, by rw [List.length_range]; exact hm, fun v H5 s5 hv => ?_⟩
        refine k _ H5 ((sB.trans s4).trans s5) ?_
        rcases hv with ⟨rfl, hn⟩ | ⟨⟨c, rfl⟩, hs⟩
        · exact ⟨fun _ => ⟨nb, hn⟩, fun _ => rfl⟩
        · exact ⟨fun z => (by cases z), fun z => absurd hs z.2⟩
end
end K43

-- K43F1
set_option Elab.async false
set_option linter.all false
set_option maxRecDepth 100000
set_option maxHeartbeats 4000000
/-! branch, kept_people, kept_from -/
namespace K43
open PySem PySem.Spec PyProof.Rows L2
section
variable {P : Program} {w : World} {K : PySem.W.Frag} {mg : Str → Option Value} {base : Heap}
def spBranch (K : PySem.W.Frag) : Sp := fun vs H Q _ => ∃ b ps A Z, ∃ i : Nat, vs = [.ref b.p, .int i] ∧ BondsAt K H b ps A Z ∧ ∀ l H' ns, Same H H' → NL H' l ns → (∀ k, k ∈ ns ↔ k < (looksF b.es).length ∧ (k = i ∨ clF (lg b) b.es ps false i k)) → ns.length ≤ 16 → Q (.ref l) H'
theorem sc_branch : FnScope ["bonds", "number", "look"] ["bonds", "number"] (defScope s_branch) := ⟨rfl, rfl, rfl, by decide +kernel, rfl, by decide +kernel, by decide +kernel⟩
theorem filt_nats {L : List Nat} {p : Nat → Prop} [DecidablePred p] : (L.filterMap fun y => if p y then some (V.int y) else none) = (L.filter fun y => decide (p y)).map fun k : Nat => V.int k := by
  rw [← List.filterMap_eq_filter, List.map_filterMap]
  congr 1
  funext y
  by_cases h : p y
  · rw [if_pos h]; simp [Option.guard, h]
  · rw [if_neg h]; simp [Option.guard, h]
theorem range_at {n i : Nat} (h : i < n) : (List.range n)[i]? = some i := List.getElem?_range h
open Classical in
theorem ok_branch {f : Addr} {fd : FuncData} (F : FunD K "branch" "branch" (defArgs s_branch) (defBody s_branch) (defScope s_branch) [] [] f fd) (T : Txt K mg) (GM : GB P w K mg base 1 "many" ["self"] (spMany K)) (GW : GB P w K mg base 1 "is_below" ["self", "one", "other"] (spBelow K)) :
    FnOk P w K mg base CX0 2 f fd ["bonds", "number"] (spBranch K) := by
  refine okD F sc_branch (fun vs H Q E h => ?_) (fun cdv A0 outer s H vs Q E hr h => ?_)
  · obtain ⟨b, ps, A, Z, i, rfl, _⟩ := h
    rfl
  · obtain ⟨b, ps, A, Z, i, rfl, hB, k⟩ := h
    obtain ⟨dx, hob⟩ := hB.o.ob
    have hm := hB.o.m
    refine ⟨_, pss_one (ps_ret (pe_lc (own := [("look", 2)]) (g := gName 2) (tt := tOr (tTest (tOp rEq (tVar 2) (tVar 1))) (tB (tMeth (cB K) "is_below" (spBelow K) [] E0 (tVar 0) (tCons (tVar 1) (tCons (tVar 2) tNil))))) (te := tVar 2) rfl sc_branch.nd
      (pi_range1 (by rfl) T.range (pa_cons (pe_m0 GM hr T.clB (pv 0)) pa_nil)) (blkOk_by (own := [("look", 2)]) (N := ["bonds", "number", "look"]) (sc := defScope s_branch) (by decide +kernel)) (fun _ _ _ _ _ => pg_name (i := 2) sc_branch.nd rfl (Or.inl rfl))
      (fun _ _ _ _ _ => pts_one (PW.pt (pw_or (pt_cmpR op_eq (pv 2) (pv 1) (nomark _)) (pw_or1 (pt_val (pe_m GW hr T.clB (pv 0) (pa_cons (pv 1) (pa_cons (pv 2) pa_nil)))))))) (fun _ _ _ _ _ => pv 2))), ?_⟩
    refine ⟨_, rfl, _, dx, _, rfl, hob, bF_no b (by decide +kernel), b, A, Z, _, rfl, hB.o, _, rfl, by omega, by omega, ?_⟩
    rw [Int.toNat_natCast]
    refine lc_flat walk_rg (fun j => ((List.range (looksF b.es).length)[j]?).bind fun y => if (y = i ∨ clF (lg b) b.es ps false i y) then some (.int y) else none) (by omega) (fun _ _ => trivial) ?_ ?_
    · rintro j v H2 H3 Ky Kn hj s2 ⟨rfl, rfl⟩ ky kn
      have hB2 := hB.same s2
      obtain ⟨dx2, hob2⟩ := hB2.o.ob
      have yes : (j = i ∨ clF (lg b) b.es ps false i j) → ∀ H4, Same H3 H4 → Ky (.int j) H4 := fun h H4 s4 => ky _ _ s4 (by show (((List.range (looksF b.es).length)[j]?).bind fun y => if (y = i ∨ clF (lg b) b.es ps false i y) then some (V.int y) else none) = _; rw [range_at hj]; exact if_pos h)
      have no : ¬ (j = i ∨ clF (lg b) b.es ps false i j) → ∀ H4, Same H3 H4 → Kn H4 := fun h H4 s4 => kn _ s4 (by show (((List.range (looksF b.es).length)[j]?).bind fun y => if (y = i ∨ clF (lg b) b.es ps false i y) then some (V.int y) else none) = _; rw [range_at hj]; exact if_neg h)
      refine ⟨rfl, _, rfl, _, rfl, rfl, _, rfl, ite2 (fun e => ?_) (fun e => ?_)⟩
      · have e1 : j = i := by have := V.int.inj (of_decide_eq_true e); omega
        exact iteT ⟨_, rfl, yes (.inl e1) _ (Same.refl _)⟩
      · have e1 : j ≠ i := fun z => e (decide_eq_true (by rw [z]))
        refine ⟨_, rfl, _, dx2, _, rfl, hob2, bF_no b (by decide +kernel), _, rfl, _, rfl, b, A, Z, _, i, j, rfl, hB2.o, fun H4 s4 => ⟨_, rfl, ite2 (fun e => ?_) (fun e => ?_)⟩⟩
        · exact ⟨_, rfl, yes (.inr ((hB.z i j).mp (of_decide_eq_true e))) _ s4⟩
        · exact no (fun z => z.elim e1 fun z => e (decide_eq_true ((hB.z i j).mpr z))) _ s4
    · intro D H2 hD s2 hl2
      have hl2 : H2 D = some (.lst (((List.range (looksF b.es).length).filter fun y => decide (y = i ∨ clF (lg b) b.es ps false i y)).map fun k : Nat => V.int k)) := by
        rw [hl2]
        have h1 := filterMap_at (fun y : Nat => if (y = i ∨ clF (lg b) b.es ps false i y) then some (V.int y) else none) (List.range (looksF b.es).length)
        rw [List.length_range] at h1
        rw [h1, filt_nats]
      refine k D H2 _ s2 hl2 (fun x => ?_) ?_
      · rw [List.mem_filter, List.mem_range, decide_eq_true_iff]
      · exact Nat.le_trans (List.length_filter_le _ _) (by rw [List.length_range]; exact hm)
/-! ### kept_people -/
theorem none_of {H H' : Hp} {l : Addr} (s : Same H H') (h : H' l = none) : H l = none := by
  cases q : H l with
  | none => rfl
  | some o => rw [s _ _ q] at h; cases h
def spKeptP (K : PySem.W.Frag) : Sp := fun vs H Q _ => ∃ v n es kd, ∃ i : Nat, vs = [v, .str kd, .int i] ∧ TabAt H v n es ∧ es.length ≤ 16 ∧ n ≤ 8 ∧ (∀ e ∈ es, e.okFor n) ∧ i < (looksF es).length ∧
  ∀ l H' ns, H l = none → Same H H' → NL H' l ns → (∀ p, p ∈ ns ↔ p < n ∧ KeptF (decide (kd = "long")) es i p) → ns.length ≤ 8 → Q (.ref l) H'
abbrev kpSc : Scope := { kind := .function, names := [(".0", .local), ("person", .local), ("any", .globalImplicit), ("bonds", .cell), ("known", .cell)], isGenerator := false, isCoroutine := false }
theorem sc_kept_people : FnScope ["timetable", "kind", "number", "bonds", "known", "person", "look"] ["timetable", "kind", "number"] (defScope s_kept_people) := ⟨rfl, rfl, rfl, by decide +kernel, rfl, by decide +kernel, by decide +kernel⟩
open Classical in
theorem ok_kept_people {f : Addr} {fd : FuncData} (F : FunD K "kept_people" "kept_people" (defArgs s_kept_people) (defBody s_kept_people) (defScope s_kept_people) [] [] f fd) (T : Txt K mg) {e1 e2 : Addr} (se1 : ∀ H, SqT K H e1 []) (se2 : ∀ H, SqT K H e2 [])
    (GBo : MkOk P w K mg base 5 "Bonds" ["self", "timetable", "kind", "gone", "more"] [.ref e1, .ref e2] (spBInit K)) (GBr : GOk P w K mg base 2 "branch" ["bonds", "number"] (spBranch K)) (GH : GB P w K mg base 1 "has" ["self", "person"] (spHas K)) :
    FnOk P w K mg base CX0 7 f fd ["timetable", "kind", "number"] (spKeptP K) := by
  refine okD F sc_kept_people (fun vs H Q E h => ?_) (fun cdv A0 outer s H vs Q E hr h => ?_)
  · obtain ⟨v, n, es, kd, i, rfl, _⟩ := h
    rfl
  · obtain ⟨v, n, es, kd, i, rfl, ht, hle, hn8, hok, hi, k⟩ := h
    have hr2 := hr.mono (show 2 ≤ 6 by decide)
    have hr1 := hr.mono (show 1 ≤ 6 by decide)
    refine ⟨_, pss_cons (ps_set (i := 3) sc_kept_people.nd rfl (Or.inr rfl) (pe_bonds GBo hr (pa_cons (pv 0) (pa_cons (pv 1) pa_nil))))
      (pss_cons (ps_set (i := 4) sc_kept_people.nd rfl (Or.inr rfl) (pe_g GBr hr2 (pa_cons (pv 3) (pa_cons (pv 2) pa_nil))))
      (pss_one (ps_ret (pe_lc (own := [("person", 5)]) (g := gName 5) (tt := tNot (tB (tCB (rAny K) (tCons (tLc (iList K (tMeth (cB K) "has" (spHas K) [] E0 (tVar 3) (tCons (tVar 5) tNil))) (gName 6) tYes (tOp (rIn K false) (tVar 6) (tVar 4)) [6]) tNil)))) (te := tVar 5) rfl sc_kept_people.nd
        (pi_range1 (by rfl) T.range (pa_cons (pe_ix ix_tup (pv 0) pe_int (fun _ _ => rfl)) pa_nil)) (blkOk_by (own := [("person", 5)]) (N := ["timetable", "kind", "number", "bonds", "known", "person", "look"]) (sc := defScope s_kept_people) (by decide +kernel))
        (fun _ _ _ _ _ => pg_name (i := 5) sc_kept_people.nd rfl (Or.inl rfl))
        (fun _ _ _ _ _ => pts_one (pt_not (pt_val (pe_callB (cr_any rfl) (by rfl) T.any PyProof.Rows.boot_any (pa_cons (pe_lc (own := [("look", 6)]) rfl sc_kept_people.nd (pi_list (pe_m GH hr1 T.clB (pv 3) (pa_cons (pv 5) pa_nil)))
          (blkOk_by (own := [("look", 6)]) (N := ["timetable", "kind", "number", "bonds", "known", "person", "look"]) (sc := kpSc) (by decide +kernel)) (fun _ _ _ _ _ => pg_name (i := 6) sc_kept_people.nd rfl (Or.inl rfl)) (fun _ _ _ _ _ => pts_nil)
          (fun _ _ _ _ _ => pe_cmpR op_in_seq (pv 6) (pv 4) (by rfl))) pa_nil))))) (fun _ _ _ _ _ => pv 5))))), ?_⟩
    obtain ⟨ta, ev, rfl, hta, hev⟩ := ht
    refine ⟨_, rfl, _, rfl, .ref ta, n, es, kd, e1, e2, [], rfl, ⟨ta, ev, rfl, hta, hev⟩, hle, hn8, hok, .inl se1, .inr ⟨rfl, .inl se2⟩, (fun p hp => by cases hp), fun b A Z H1 be bn bk hbn s1 hB => ?_⟩
    refine ⟨_, rfl, _, rfl, b, [], A, Z, i, rfl, hB, fun kl H2 ks s2 hks hmem hkl => ?_⟩
    have s12 := s1.trans s2
    have hB2 := hB.same s2
    have elg : lg b = decide (kd = "long") := by unfold lg; rw [bk]
    refine ⟨_, rfl, ta, _, 0, _, rfl, rfl, SqT.of (s12 _ _ hta), rfl, _, rfl, by omega, by omega, ?_⟩
    rw [Int.toNat_natCast]
    have key : ∀ p : Nat, (((runG (lg b) b.es).has p).map fun y => decide (y ∈ ks)).any id = true ↔ ¬ KeptF (decide (kd = "long")) es i p := fun p => by
      rw [List.any_map, List.any_eq_true]
      unfold KeptF
      rw [Classical.not_not, ← elg, ← be]
      constructor
      · rintro ⟨y, hy, e⟩
        exact ⟨y, hy, ((hmem y).mp (of_decide_eq_true e)).2⟩
      · rintro ⟨y, hy, e⟩
        exact ⟨y, hy, decide_eq_true ((hmem y).mpr ⟨by rw [be]; have := has_lt hy; rw [be] at this; exact this, e⟩)⟩
    refine lc_flat walk_rg (fun j => ((List.range n)[j]?).bind fun y => if KeptF (decide (kd = "long")) es i y then some (.int y) else none) (by omega) (fun _ _ => trivial) ?_ ?_
    · rintro j v H3 H4 Ky Kn hj s3 ⟨rfl, rfl⟩ ky kn
      have hB3 := hB2.same s3
      obtain ⟨dx3, hob3⟩ := hB3.o.ob
      have lh : ((runG (lg b) b.es).has j).length ≤ 16 := by
        have h1 := runG_len (lg b) b.es j
        rw [runG_num] at h1
        have := hB3.o.m
        omega
      refine ⟨rfl, _, rfl, _, dx3, _, rfl, hob3, bF_no b (by decide +kernel), _, rfl, b, A, Z, _, j, rfl, hB3.o, by rw [bn]; exact hj, fun l H5 hl s5 hv5 => ⟨l, rfl, ⟨_, SqL.of hv5⟩, ?_⟩⟩
      refine lc_flat walk_list (fun t => (((runG (lg b) b.es).has j)[t]?).map fun y => V.bl (decide (y ∈ ks))) (by rw [List.length_map]; omega) (fun H6 s6 => SqL.of (s6 _ _ hv5)) ?_ ?_
      · rintro t v H6 H7 Ky2 Kn2 ht s6 ⟨rfl, hv⟩ ky2 kn2
        rw [List.getElem?_map] at hv
        obtain ⟨y, hy, rfl⟩ := Option.map_eq_some_iff.mp hv
        refine ⟨rfl, iteT (B := Kn2 H7) ⟨_, rfl, _, rfl, kl, _, rfl, .inl (SqL.of (s6 _ _ (s5 _ _ (s3 _ _ hks)))), rfl, flat_nats ks, ?_⟩⟩
        rw [if_neg Bool.false_ne_true, inV_nat]
        exact ky2 _ _ (Same.refl _) (by rw [hy]; rfl)
      · intro D H6 hD s6 hl6
        rw [List.length_map, bl_all] at hl6
        refine ⟨D, _, rfl, SqL.of hl6, _, rfl, ?_⟩
        have s36 := s5.trans s6
        by_cases hk : KeptF (decide (kd = "long")) es i j
        · have e : (((runG (lg b) b.es).has j).map fun y => decide (y ∈ ks)).any id = false := by
            rw [Bool.eq_false_iff]
            exact fun z => (key j).mp z hk
          rw [e]
          exact iteT ⟨_, rfl, ky _ _ s36 (by show (((List.range n)[j]?).bind fun y => if KeptF (decide (kd = "long")) es i y then some (V.int y) else none) = _; rw [range_at hj]; exact if_pos hk)⟩
        · rw [(key j).mpr hk]
          exact iteF (kn _ s36 (by show (((List.range n)[j]?).bind fun y => if KeptF (decide (kd = "long")) es i y then some (V.int y) else none) = _; rw [range_at hj]; exact if_neg hk))
    · intro D H3 hD s3 hl3
      have hl3 : H3 D = some (.lst (((List.range n).filter fun y => decide (KeptF (decide (kd = "long")) es i y)).map fun k : Nat => V.int k)) := by
        rw [hl3]
        have h1 := filterMap_at (fun y : Nat => if KeptF (decide (kd = "long")) es i y then some (V.int y) else none) (List.range n)
        rw [List.length_range] at h1
        rw [h1, filt_nats]
      refine k D H3 _ (none_of s12 hD) (s12.trans s3) hl3 (fun x => ?_) ?_
      · rw [List.mem_filter, List.mem_range, decide_eq_true_iff]
      · exact Nat.le_trans (List.length_filter_le _ _) (by rw [List.length_range]; exact hn8)
/-! ### kept_from -/
theorem sc_kept_from : FnScope ["timetable", "kind", "i", "own"] ["timetable", "kind", "i"] (defScope s_kept_from) := ⟨rfl, rfl, rfl, by decide +kernel, rfl, by decide +kernel, by decide +kernel⟩
theorem ok_kept_from {f : Addr} {fd : FuncData} (F : FunD K "kept_from" "kept_from" (defArgs s_kept_from) (defBody s_kept_from) (defScope s_kept_from) [] [] f fd) (T : Txt K mg) (GT : GOk P w K mg base 4 "as_tuples" ["thing"] spAsTab)
    (GL : GOk P w K mg base 3 "check_look" ["timetable", "number"] spCheckLook) (GK : GOk P w K mg base 7 "kept_people" ["timetable", "kind", "number"] (spKeptP K)) : FnOk P w K mg base CX0 8 f fd ["timetable", "kind", "i"] (spKeptP K) := by
  refine okD F sc_kept_from (fun vs H Q E h => ?_) (fun cdv A0 outer s H vs Q E hr h => ?_)
  · obtain ⟨v, n, es, kd, i, rfl, _⟩ := h
    rfl
  · obtain ⟨v, n, es, kd, i, rfl, ht, hle, hn8, hok, hi, k⟩ := h
    have hr4 := hr.mono (show 4 ≤ 7 by decide)
    have hr3 := hr.mono (show 3 ≤ 7 by decide)
    refine ⟨_, pss_cons (ps_set (i := 3) sc_kept_from.nd rfl (Or.inl rfl) (pe_g GT hr4 (pa_cons (pv 0) pa_nil)))
      (pss_cons (ps_expr (pe_g GL hr3 (pa_cons (pv 3) (pa_cons (pv 2) pa_nil))))
      (pss_one (ps_ret (pe_g GK hr (pa_cons (pv 3) (pa_cons (pv 1) (pa_cons (pv 2) pa_nil))))))), ?_⟩
    refine ⟨_, rfl, v, n, es, rfl, ht, by omega, fun v1 H1 s1 ht1 => ?_⟩
    refine ⟨_, rfl, _, rfl, v1, n, es, i, rfl, ht1, by omega, hi, fun H2 s2 => ?_⟩
    exact ⟨_, rfl, _, rfl, _, rfl, v1, n, es, kd, i, rfl, ht1.same s2, hle, hn8, hok, hi, fun l H3 ns hl s3 h1 h2 h3 => k l H3 ns (none_of (s1.trans s2) hl) ((s1.trans s2).trans s3) h1 h2 h3⟩
end
end K43

-- K43F2
set_option Elab.async false
set_option linter.all false
set_option maxRecDepth 100000
set_option maxHeartbeats 4000000
/-! known_at -/
namespace K43
open PySem PySem.Spec PyProof.Rows L2
theorem runH_len (long : Bool) : ∀ (es : List Ev) (p : Nat), ((runH long es).1 p).length + 1 ≤ 2 ^ es.length := by
  have key : ∀ (es : List Ev) (s : (Nat → List Nat) × Nat) (k : Nat), (∀ p, (s.1 p).length + 1 ≤ 2 ^ k) → ∀ p, ((es.foldl (stepH long) s).1 p).length + 1 ≤ 2 ^ (k + es.length) := fun es => by
    induction es with
    | nil => intro s k h p; simpa using h p
    | cons e r ih =>
      intro s k h p
      have hset : ∀ (f : Nat → List Nat) (q : Nat) (l : List Nat), (∀ p, (f p).length + 1 ≤ 2 ^ (k + 1)) → l.length + 1 ≤ 2 ^ (k + 1) → ∀ p, (setH f q l p).length + 1 ≤ 2 ^ (k + 1) := fun f q l h1 h2 p => by
        unfold setH
        split
        · exact h2
        · exact h1 p
      have up : ∀ p, (s.1 p).length + 1 ≤ 2 ^ (k + 1) := fun p => by have := h p; rw [Nat.pow_succ]; omega
      have two : ∀ p q, (s.1 p ++ s.1 q).length + 1 ≤ 2 ^ (k + 1) := fun p q => by
        have h1 := h p
        have h2 := h q
        rw [Nat.pow_succ, List.length_append]
        omega
      have hs : ∀ p, ((stepH long s e).1 p).length + 1 ≤ 2 ^ (k + 1) := by
        cases e with
        | look q =>
          refine hset _ _ _ up ?_
          have h1 := h q
          have h2 : 1 ≤ 2 ^ k := Nat.one_le_two_pow
          rw [Nat.pow_succ, List.length_append]
          simp only [List.length_cons, List.length_nil]
          omega
        | add q => exact up
        | meet q r =>
          cases long with
          | true => exact hset _ _ _ (hset _ _ _ up (two _ _)) (two _ _)
          | false => exact up
        | tell q r =>
          cases long with
          | true => exact hset _ _ _ up (two _ _)
          | false => exact up
      have := ih (stepH long s e) (k + 1) hs p
      rw [List.length_cons, show k + (r.length + 1) = k + 1 + r.length by omega]
      exact this
  intro es p
  have := key es (fun _ => [], 0) 0 (fun _ => by simp) p
  rw [Nat.zero_add] at this
  exact this
theorem runH_num (long : Bool) (es : List Ev) : (runH long es).2 = (looksF es).length := by
  have key : ∀ (es : List Ev) (s : (Nat → List Nat) × Nat) (k : Nat), (es.foldl (stepH long) s).2 = s.2 + (looksK k es).length := fun es => by
    induction es with
    | nil => intro s k; simp [looksK]
    | cons e r ih =>
      intro s k
      rw [List.foldl_cons, ih _ (k + 1)]
      cases e with
      | look p => simp [stepH, looksK]; omega
      | add p => simp [stepH, looksK]
      | meet p q => cases long <;> simp [stepH, looksK]
      | tell p q => cases long <;> simp [stepH, looksK]
  unfold runH looksF
  rw [key es _ 0]
  simp
theorem runH_lt (long : Bool) (es : List Ev) : ∀ p, ∀ k ∈ (runH long es).1 p, k < (runH long es).2 := by
  have key : ∀ (es : List Ev) (s : (Nat → List Nat) × Nat), (∀ p, ∀ k ∈ s.1 p, k < s.2) → ∀ p, ∀ k ∈ (es.foldl (stepH long) s).1 p, k < (es.foldl (stepH long) s).2 := fun es => by
    induction es with
    | nil => exact fun s h => h
    | cons e r ih =>
      intro s h
      refine ih _ ?_
      have hset : ∀ (f : Nat → List Nat) (q : Nat) (l : List Nat) (m : Nat), (∀ p, ∀ k ∈ f p, k < m) → (∀ k ∈ l, k < m) → ∀ p, ∀ k ∈ setH f q l p, k < m := fun f q l m h1 h2 p k hk => by
        unfold setH at hk
        split at hk
        · exact h2 k hk
        · exact h1 p k hk
      have two : ∀ p q, ∀ k ∈ s.1 p ++ s.1 q, k < s.2 := fun p q k hk => (List.mem_append.mp hk).elim (h p k) (h q k)
      cases e with
      | look q =>
        refine hset _ _ _ _ (fun p k hk => Nat.lt_succ_of_lt (h p k hk)) fun k hk => ?_
        rcases List.mem_append.mp hk with hk | hk
        · exact Nat.lt_succ_of_lt (h q k hk)
        · have : k = s.2 := by simpa using hk
          show k < s.2 + 1
          omega
      | add q => exact h
      | meet q r =>
        cases long with
        | true => exact hset _ _ _ _ (hset _ _ _ _ h (two _ _)) (two _ _)
        | false => exact h
      | tell q r =>
        cases long with
        | true => exact hset _ _ _ _ h (two _ _)
        | false => exact h
  exact key es _ fun _ _ h => by cases h
/-- who has what, in the heap -/
def HasD (H : Hp) (D : Addr) (n : Nat) (hs : Nat → List Nat) : Prop := ∃ f : Nat → Addr, H D = some (.dK (kH n f)) ∧ ∀ p, p < n → NL H (f p) (hs p)
theorem HasD.same {H H' : Hp} (s : Same H H') {D : Addr} {n : Nat} {hs : Nat → List Nat} (h : HasD H D n hs) : HasD H' D n hs := let ⟨f, h1, h2⟩ := h; ⟨f, s _ _ h1, fun p hp => s _ _ (h2 p hp)⟩
theorem HasD.get {H : Hp} {D : Addr} {n : Nat} {hs : Nat → List Nat} (h : HasD H D n hs) {p : Nat} (hp : p < n) : ∃ a, DGet H D (.int p) (some (.ref a)) ∧ NL H a (hs p) := by
  obtain ⟨f, h1, h2⟩ := h
  refine ⟨f p, ?_, h2 p hp⟩
  have := DGet.k (k := Sum.inl (p : Int)) h1
  rw [valV_kH f hp] at this
  exact this
theorem HasD.put {H : Hp} {D : Addr} {n : Nat} {hs : Nat → List Nat} (h : HasD H D n hs) {p : Nat} (hp : p < n) (hn : n ≤ 100) {a : Addr} {ns : List Nat} (ha : NL H a ns) : ∃ o, DPut H D (.int p) (.ref a) (upd H D o) ∧ HasD (upd H D o) D n (setH hs p ns) ∧ ∃ kvs, o = .dK kvs := by
  obtain ⟨f, h1, h2⟩ := h
  have away : ∀ {c : Addr} {xs : List Nat} {o : HO}, NL H c xs → NL (upd H D o) c xs := fun h => by
    show upd H D _ _ = _
    rw [upd_ne (ne_of h h1 (by intro z; cases z))]
    exact h
  refine ⟨_, DPut.k (k := Sum.inl (p : Int)) h1 (line64' (by rw [kH_len]; omega)), ⟨setA f p a, by rw [upd_same, putK_kH f a hp], fun q hq => ?_⟩, _, rfl⟩
  unfold setA setH
  by_cases e : q = p
  · rw [if_pos e, if_pos e]; exact away ha
  · rw [if_neg e, if_neg e]; exact away (h2 q hq)
section
variable {P : Program} {w : World} {K : PySem.W.Frag} {mg : Str → Option Value} {base : Heap}
def optV : Option Nat → V
  | none => .non
  | some k => .int k
def spKnown (K : PySem.W.Frag) : Sp := fun vs H Q _ => ∃ v n es kd, ∃ i p : Nat, vs = [v, .str kd, .int i, .int p] ∧ TabAt H v n es ∧ es.length ≤ 16 ∧ n ≤ 8 ∧ (∀ e ∈ es, e.okFor n) ∧ i < (looksF es).length ∧ p < n ∧
  ∀ r H', Same H H' → KnownF (decide (kd = "long")) es i p r → Q (optV r) H'
theorem sc_known : FnScope ["timetable", "kind", "i", "person", "people", "events", "known", "has", "number", "place", "event", "both", "other", "look"] ["timetable", "kind", "i", "person"] (defScope s_known_at) := ⟨rfl, rfl, rfl, by decide +kernel, rfl, by decide +kernel, by decide +kernel⟩
open Classical in
theorem ok_known {f : Addr} {fd : FuncData} (F : FunD K "known_at" "known_at" (defArgs s_known_at) (defBody s_known_at) (defScope s_known_at) [] [] f fd) (T : Txt K mg) {e1 e2 : Addr} (se1 : ∀ H, SqT K H e1 []) (se2 : ∀ H, SqT K H e2 [])
    (GT : GOk P w K mg base 4 "as_tuples" ["thing"] spAsTab) (GL : GOk P w K mg base 3 "check_look" ["timetable", "number"] spCheckLook) (GP : GOk P w K mg base 1 "check_people" ["timetable", "people"] spCheckPeople)
    (GBo : MkOk P w K mg base 5 "Bonds" ["self", "timetable", "kind", "gone", "more"] [.ref e1, .ref e2] (spBInit K)) (GBr : GOk P w K mg base 2 "branch" ["bonds", "number"] (spBranch K)) :
    FnOk P w K mg base CX0 7 f fd ["timetable", "kind", "i", "person"] (spKnown K) := by
  refine okD F sc_known (fun vs H Q E h => ?_) (fun cdv A0 outer s H vs Q E hr h => ?_)
  · obtain ⟨v, n, es, kd, i, p, rfl, _⟩ := h
    rfl
  · obtain ⟨v, n, es, kd, i, p, rfl, ht, hle, hn8, hok, hi, hp, k⟩ := h
    have hu := hu_of hr
    have hr4 := hr.mono (show 4 ≤ 6 by decide)
    have hr3 := hr.mono (show 3 ≤ 6 by decide)
    have hr2 := hr.mono (show 2 ≤ 6 by decide)
    have hr1 := hr.mono (show 1 ≤ 6 by decide)
    have tupE : ∀ {X : Cx}, True := trivial
    refine ⟨_, pss_cons (ps_asg (pe_g GT hr4 (pa_cons (pv 0) pa_nil)) (pg_tup rfl (pgs_cons (pg_name (i := 4) sc_known.nd rfl (Or.inl rfl)) (pgs_cons (pg_name (i := 5) sc_known.nd rfl (Or.inl rfl)) pgs_nil))))
      (pss_cons (ps_expr (pe_g GL hr3 (pa_cons (pe_tupS (pa_cons (pv 4) (pa_cons (pv 5) pa_nil))) (pa_cons (pv 2) pa_nil))))
      (pss_cons (ps_expr (pe_g GP hr1 (pa_cons (pe_tupS (pa_cons (pv 4) (pa_cons (pv 5) pa_nil))) (pa_cons (pe_lstS (pa_cons (pv 3) pa_nil)) pa_nil))))
      (pss_cons (ps_set (i := 6) sc_known.nd rfl (Or.inr rfl) (pe_g GBr hr2 (pa_cons (pe_bonds GBo hr (pa_cons (pe_tupS (pa_cons (pv 4) (pa_cons (pv 5) pa_nil))) (pa_cons (pv 1) pa_nil))) (pa_cons (pv 2) pa_nil))))
      (pss_cons (ps_setDc (i := 7) (own := [("other", 12)]) (g := gName 12) (tt := tYes) (tk := tVar 12) (tv := tLstS tNil) rfl sc_known.nd rfl rfl (by rfl) (pi_range1 (by rfl) T.range (pa_cons (pv 4) pa_nil))
          (blkOk_by (own := [("other", 12)]) (N := ["timetable", "kind", "i", "person", "people", "events", "known", "has", "number", "place", "event", "both", "other", "look"]) (sc := defScope s_known_at) (by decide +kernel))
          (fun _ _ _ _ _ => pg_name (i := 12) sc_known.nd rfl (Or.inl rfl)) (fun _ _ _ _ _ => pts_nil) (fun _ _ _ _ _ => pv 12) (fun _ _ _ _ _ => pe_lstS pa_nil))
      (pss_cons (ps_set (i := 8) sc_known.nd rfl (Or.inl rfl) pe_int)
      (pss_cons (ps_for PassesOwn.never rfl (pi_enumT (by rfl) T.enumerate (pa_cons (pv 5) pa_nil)) (pg_tup rfl (pgs_cons (pg_name (i := 9) sc_known.nd rfl (Or.inl rfl)) (pgs_cons (pg_name (i := 10) sc_known.nd rfl (Or.inl rfl)) pgs_nil)))
        (pss_via (ps_if (pt_cmpR op_eq (pe_ix ix_tup (pv 10) pe_int (fun _ _ => rfl)) (pe_gs T.LOOK) (nomark _))
            (pss_cons (ps_dput hu (pv 7) (pe_ix ix_tup (pv 10) pe_int (fun _ _ => rfl)) (pe_op op_catS (pe_dget hu (pv 7) (pe_ix ix_tup (pv 10) pe_int (fun _ _ => rfl)) (fun _ _ => rfl)) (pe_lstS (pa_cons (pv 8) pa_nil))) rfl)
            (pss_one (ps_aug (i := 8) sc_known.nd rfl (.inl rfl) pe_int ip_add)))
            (pss_one (ps_if (PW.pt (pw_and (pt_cmpR op_in_seq (pe_ix ix_tup (pv 10) pe_int (fun _ _ => rfl)) (pe_tupS (pa_cons (pe_gs T.MEET) (pa_cons (pe_gs T.TELL) pa_nil))) (by rfl)) (pw_and1 (pt_cmpR op_eq (pv 1) pe_str (nomark _)))))
              (pss_cons (ps_set (i := 11) sc_known.nd rfl (Or.inl rfl) (pe_op op_catS (pe_dget hu (pv 7) (pe_ix ix_tup (pv 10) pe_int (fun _ _ => rfl)) (fun _ _ => rfl)) (pe_dget hu (pv 7) (pe_ix ix_tup (pv 10) pe_int (fun _ _ => rfl)) (fun _ _ => rfl))))
              (pss_cons (ps_dput hu (pv 7) (pe_ix ix_tup (pv 10) pe_int (fun _ _ => rfl)) (pv 11) rfl)
              (pss_one (ps_dput hu (pv 7) (pe_ix ix_tup (pv 10) pe_int (fun _ _ => rfl)) (pe_ifExp (pt_cmpR op_eq (pe_ix ix_tup (pv 10) pe_int (fun _ _ => rfl)) (pe_gs T.MEET) (nomark _)) (pv 11) (pe_dget hu (pv 7) (pe_ix ix_tup (pv 10) pe_int (fun _ _ => rfl)) (fun _ _ => rfl))) rfl)))) pss_nil)))
          (pss_one (ps_if (pt_val (pe_callB (cr_any rfl) (by rfl) T.any PyProof.Rows.boot_any (pa_cons (pe_lc (own := [("look", 13)]) (g := gName 13) (tt := tYes) (te := tOp (rIn K false) (tVar 13) (tVar 6)) rfl sc_known.nd (pi_list (pe_dget hu (pv 7) (pv 3) (fun _ _ => rfl)))
              (blkOk_by (own := [("look", 13)]) (N := ["timetable", "kind", "i", "person", "people", "events", "known", "has", "number", "place", "event", "both", "other", "look"]) (sc := defScope s_known_at) (by decide +kernel))
              (fun _ _ _ _ _ => pg_name (i := 13) sc_known.nd rfl (Or.inl rfl)) (fun _ _ _ _ _ => pts_nil) (fun _ _ _ _ _ => pe_cmpR op_in_seq (pv 13) (pv 6) (by rfl))) pa_nil))) (pss_one (ps_ret (pv 9))) pss_nil))))
      (pss_one (ps_ret pe_non)))))))), ?_⟩
    refine ⟨_, rfl, v, n, es, rfl, ht, by omega, fun v1 H1 s1 ⟨a1, b1, ev1, ha1, hb1⟩ => ?_⟩
    subst ev1
    refine ⟨a1, _, rfl, SqT.of ha1, rfl, _, _, rfl, _, _, rfl, rfl, ?_⟩
    refine ⟨_, rfl, _, rfl, t2, fun q2 H2 _ s2 h2 => ⟨_, rfl, .ref q2, n, es, i, rfl, ⟨q2, b1, rfl, h2, hb1.same s2⟩, by omega, hi, fun H3 s3 => ?_⟩⟩
    have hb3 := (hb1.same s2).same s3
    refine ⟨_, rfl, _, rfl, t2, fun q4 H4 _ s4 h4 => ⟨_, rfl, t1, fun l5 H5 _ s5 h5 => ⟨.ref q4, n, es, l5, [p], rfl, ⟨q4, b1, rfl, s5 _ _ h4, (hb3.same s4).same s5⟩, h5, (fun x hx => by rw [List.mem_singleton.mp hx]; exact hp), fun H6 s6 => ?_⟩⟩⟩
    have hb6 := ((hb3.same s4).same s5).same s6
    refine ⟨_, rfl, _, rfl, t2, fun q7 H7 _ s7 h7 => ⟨_, rfl, .ref q7, n, es, kd, e1, e2, [], rfl, ⟨q7, b1, rfl, h7, hb6.same s7⟩, hle, hn8, hok, .inl se1, .inr ⟨rfl, .inl se2⟩, (fun p hp => by cases hp), fun b A Z H8 be bn bk hbn s8 hB =>
      ⟨_, rfl, b, [], A, Z, i, rfl, hB, fun kl H9 ks s9 hks hmem hkl => ?_⟩⟩⟩
    have hb9 := ((hb6.same s7).same s8).same s9
    have s09 : Same H H9 := ((((((((s1.trans s2).trans s3).trans s4).trans s5).trans s6).trans s7).trans s8).trans s9)
    have elg : lg b = decide (kd = "long") := by unfold lg; rw [bk]
    generalize hlong : decide (kd = "long") = long at k elg
    refine ⟨_, rfl, _, rfl, by omega, by omega, ?_⟩
    rw [Int.toNat_natCast]
    intro D hD
    refine dc_go walk_rg (fun j H' => Same H9 H' ∧ ∃ f : Nat → Addr, H' D = some (.dK (kH j f)) ∧ ∀ p, p < j → NL H' (f p) []) ⟨same_new hD, fun _ => D, upd_same, fun p hp => by omega⟩ (fun _ _ _ _ => trivial) ?_ ?_
    · rintro j y H' H'' hj ⟨sm, f, h1, h2⟩ ⟨rfl, rfl⟩
      refine ⟨rfl, iteT (B := Same H9 H'' ∧ ∃ f : Nat → Addr, H'' D = some (.dK (kH (j + 1) f)) ∧ ∀ p, p < j + 1 → NL H'' (f p) []) ⟨_, rfl, t0, fun l H3 hl s3 h3 => ?_⟩⟩
      refine ⟨_, Sum.inl (j : Int), rfl, s3 _ _ h1, line64' (by rw [kH_len]; omega), fun b o e => ?_, setA f j l, by rw [upd_same, kH_more], fun p hp => ?_⟩
      · rw [upd_ne (ne_of_none e hD)]
        exact s3 _ _ (sm _ _ e)
      · unfold setA
        by_cases e : p = j
        · rw [if_pos e]
          show upd H3 D _ l = _
          rw [upd_ne (ne_of h3 (s3 _ _ h1) (by intro z; cases z))]
          exact h3
        · rw [if_neg e]
          show upd H3 D _ (f p) = _
          have q := s3 _ _ (h2 p (by omega))
          rw [upd_ne (ne_of q (s3 _ _ h1) (by intro z; cases z))]
          exact q
    · rintro H10 ⟨s10, f0, hD10, hf0⟩
      obtain ⟨us, hus, pr⟩ := hb9.same s10
      have hb1p : H9 b1 = some (.tup us) := by
        obtain ⟨us', q, _⟩ := hb9
        have := s10 _ _ q
        rw [hus] at this
        cases this
        exact q
      have nlk : ∀ z : Str, z ≠ "look" → ¬ decide (V.str z = V.str "look") = true := fun z h => decF fun q => h (V.str.inj q)
      refine ⟨_, rfl, b1, us, rfl, SqT.of hus, for_it walk_enumT (fun j σ H' => ∃ o9 o10 o11, σ = [some v, some (.str kd), some (.int i), some (.int p), some (.int n), some (.ref b1), some (.ref kl), some (.ref D), some (.int (runH long (es.take j)).2), o9, o10, o11, none, none] ∧
          Same H9 H' ∧ HasD H' D n (runH long (es.take j)).1 ∧ ∀ t, t < j → ¬ HitsF long es i p t) ⟨none, none, none, rfl, s10, ⟨f0, hD10, hf0⟩, fun t ht => by omega⟩ (fun j σ H' _ ⟨_, _, _, _, sm, _⟩ => SqT.of (sm _ _ hb1p)) ?_ ?_⟩
      · rintro j x σ H1' H2' hj ⟨o9, o10, o11, rfl, sm, hD', hno⟩ ⟨T1, x1, y1, rfl, hT, rfl, e1', e2'⟩
        cases e1'
        obtain ⟨e, he, ea, rfl, hea⟩ := paired_at pr e2'
        have hokE := hok e (List.mem_of_getElem? he)
        have hjl : j < es.length := (List.getElem?_eq_some_iff.mp he).1
        have hea9 : ∀ {H' : Hp}, Same H9 H' → H' ea = some (.tup (evV e)) := fun s => by
          obtain ⟨us', q, pr'⟩ := hb9
          have q1 := hb1p.symm.trans q
          cases q1
          obtain ⟨e', he', ea', r1, r2⟩ := paired_at pr' e2'
          rw [he] at he'
          cases he'
          cases r1
          exact s _ _ r2
        have sT : Same H1' (upd H1' T1 (.tup [.int (j : Nat), .ref ea])) := same_new hT
        have hT2 : (upd H1' T1 (.tup [.int (j : Nat), .ref ea])) T1 = some (.tup [.int (j : Nat), .ref ea]) := upd_same
        have hasT := hD'.same sT
        have sm2 := sm.trans sT
        generalize upd H1' T1 (.tup [.int (j : Nat), .ref ea]) = H2 at sT hT2 hasT sm2 ⊢
        have hsn := take_snoc he
        have hstep : runH long (es.take (j + 1)) = stepH long (runH long (es.take j)) e := by rw [hsn, runH_snoc]
        have hlen : ∀ q, ((runH long (es.take j)).1 q).length ≤ 40000 := fun q => by
          have h1 := runH_len long (es.take j) q
          have h2 : 2 ^ (es.take j).length ≤ 2 ^ 15 := Nat.pow_le_pow_right (by decide) (by rw [List.length_take]; omega)
          omega
        have hlen1 : ∀ q, ((runH long (es.take (j + 1))).1 q).length ≤ 90000 := fun q => by
          have h1 := runH_len long (es.take (j + 1)) q
          have h2 : 2 ^ (es.take (j + 1)).length ≤ 2 ^ 16 := Nat.pow_le_pow_right (by decide) (by rw [List.length_take]; omega)
          omega
        generalize hs0 : runH long (es.take j) = s0 at hasT hstep hlen
        refine ⟨T1, _, rfl, SqT.of hT2, rfl, _, _, rfl, _, _, rfl, rfl, ?_⟩
        refine ⟨fun σ H3 => ∃ o11, σ = [some v, some (.str kd), some (.int i), some (.int p), some (.int n), some (.ref b1), some (.ref kl), some (.ref D), some (.int (stepH long s0 e).2), some (.int (j : Nat)), some (.ref ea), o11, none, none] ∧ Same H9 H3 ∧ HasD H3 D n (stepH long s0 e).1, ?_, ?_⟩
        · have hea2 := hea9 sm2
          refine ⟨_, rfl, ea, _, 0, _, rfl, rfl, SqT.of hea2, evV_0 e, rfl, _, rfl, ?_⟩
          have putS : ∀ {H' : Hp} {o : HO}, Same H9 H' → Same H9 (upd H' D o) := fun s b u z => by
            rw [upd_ne (ne_of_none z hD)]
            exact s _ _ z
          have noM : ∀ z : Str, inV (.str z) [.str "meet", .str "tell"] = false → True := fun _ _ => trivial
          cases e with
          | look q =>
            refine itP (decide_eq_true rfl) ?_
            have hq : q < n := hokE
            obtain ⟨a, hg, hna⟩ := hasT.get hq
            refine ⟨_, rfl, _, rfl, ea, _, 1, _, rfl, rfl, SqT.of hea2, rfl, D, _, rfl, hg, _, rfl, t1, fun l3 H3 _ s3 h3 => ⟨a, l3, _, _, rfl, rfl, s3 _ _ hna, h3, line64 (by have := hlen q; simp only [List.length_map, List.length_cons, List.length_nil]; omega), fun l4 H4 _ s4 h4 => ?_⟩⟩
            have s34 := s3.trans s4
            have h4 : NL H4 l4 (s0.1 q ++ [s0.2]) := by
              show H4 l4 = _
              rw [h4, List.map_append]
              rfl
            obtain ⟨o, hput, hhas, _⟩ := (hasT.same s34).put hq (by omega) h4
            refine ⟨_, rfl, _, rfl, ea, _, 1, _, rfl, rfl, SqT.of (hea9 (sm2.trans s34)), rfl, D, _, rfl, hput, _, rfl, _, _, rfl, rfl, _, rfl, putS (sm2.trans s34), hhas⟩
          | add q =>
            refine itN (nlk _ (by show ¬ (("add" : Str) = "look"); decide +kernel)) ?_
            refine ⟨_, rfl, ea, _, 0, _, rfl, rfl, SqT.of hea2, rfl, t2, fun q5 H5 _ s5 h5 => ⟨q5, _, rfl, .inr (SqT.of h5), rfl, rfl, _, rfl, itN (by rw [if_neg Bool.false_ne_true]; decide +kernel) ?_⟩⟩
            exact ⟨_, rfl, sm2.trans s5, hasT.same s5⟩
          | meet q r =>
            refine itN (nlk _ (by show ¬ (("meet" : Str) = "look"); decide +kernel)) ?_
            refine ⟨_, rfl, ea, _, 0, _, rfl, rfl, SqT.of hea2, rfl, t2, fun q5 H5 _ s5 h5 => ⟨q5, _, rfl, .inr (SqT.of h5), rfl, rfl, _, rfl, itP (by rw [if_neg Bool.false_ne_true]; decide +kernel) ?_⟩⟩
            refine ⟨_, rfl, rfl, _, rfl, ite2 (fun el => ?_) (fun el => ?_)⟩
            · have hl1 : long = true := by rw [← hlong, decide_eq_true (V.str.inj (of_decide_eq_true el))]
              subst hl1
              have hq : q < n := hokE.1
              have hr' : r < n := hokE.2
              have has5 := hasT.same s5
              have sm5 := sm2.trans s5
              have hea5 := hea9 sm5
              obtain ⟨a, hg, hna⟩ := has5.get hq
              obtain ⟨a', hg', hna'⟩ := has5.get hr'
              refine ⟨_, rfl, _, rfl, ea, _, 1, _, rfl, rfl, SqT.of hea5, rfl, D, _, rfl, hg, _, rfl, _, rfl, ea, _, 2, _, rfl, rfl, SqT.of hea5, rfl, D, _, rfl, hg', a, a', _, _, rfl, rfl, hna, hna', line64 (by have := hlen q; have := hlen r; simp only [List.length_map]; omega), fun l6 H6 _ s6 h6 => ?_⟩
              have h6 := nl_cat h6
              obtain ⟨o, hput, hhas, kv, ho⟩ := (has5.same s6).put hr' (by omega) h6
              have sm6 := sm5.trans s6
              refine ⟨_, rfl, _, rfl, _, rfl, ea, _, 2, _, rfl, rfl, SqT.of (hea9 sm6), rfl, D, _, rfl, hput, ?_⟩
              have sm7 := putS (o := o) sm6
              have h6n : NL (upd H6 D o) l6 (s0.1 q ++ s0.1 r) := by
                obtain ⟨ff, hf1, _⟩ := has5.same s6
                show upd H6 D o l6 = _
                rw [upd_ne (ne_of h6 hf1 (by intro z; cases z))]
                exact h6
              generalize upd H6 D o = H7 at sm7 hhas h6n ⊢
              obtain ⟨o2, hput2, hhas2, _⟩ := hhas.put hq (by omega) h6n
              refine ⟨_, rfl, ea, _, 0, _, rfl, rfl, SqT.of (hea9 sm7), rfl, rfl, _, rfl, itP (decide_eq_true rfl) ⟨_, rfl, _, rfl, _, rfl, ea, _, 1, _, rfl, rfl, SqT.of (hea9 sm7), rfl, D, _, rfl, hput2, _, rfl, putS sm7, hhas2⟩⟩
            · have hl1 : long = false := by rw [← hlong]; exact decide_eq_false fun z => el (decide_eq_true (by rw [z]))
              subst hl1
              exact ⟨_, rfl, sm2.trans s5, hasT.same s5⟩
          | tell q r =>
            refine itN (nlk _ (by show ¬ (("tell" : Str) = "look"); decide +kernel)) ?_
            refine ⟨_, rfl, ea, _, 0, _, rfl, rfl, SqT.of hea2, rfl, t2, fun q5 H5 _ s5 h5 => ⟨q5, _, rfl, .inr (SqT.of h5), rfl, rfl, _, rfl, itP (by rw [if_neg Bool.false_ne_true]; decide +kernel) ?_⟩⟩
            refine ⟨_, rfl, rfl, _, rfl, ite2 (fun el => ?_) (fun el => ?_)⟩
            · have hl1 : long = true := by rw [← hlong, decide_eq_true (V.str.inj (of_decide_eq_true el))]
              subst hl1
              have hq : q < n := hokE.1
              have hr' : r < n := hokE.2
              have has5 := hasT.same s5
              have sm5 := sm2.trans s5
              have hea5 := hea9 sm5
              obtain ⟨a, hg, hna⟩ := has5.get hq
              obtain ⟨a', hg', hna'⟩ := has5.get hr'
              refine ⟨_, rfl, _, rfl, ea, _, 1, _, rfl, rfl, SqT.of hea5, rfl, D, _, rfl, hg, _, rfl, _, rfl, ea, _, 2, _, rfl, rfl, SqT.of hea5, rfl, D, _, rfl, hg', a, a', _, _, rfl, rfl, hna, hna', line64 (by have := hlen q; have := hlen r; simp only [List.length_map]; omega), fun l6 H6 _ s6 h6 => ?_⟩
              have h6 := nl_cat h6
              obtain ⟨o, hput, hhas, kv, ho⟩ := (has5.same s6).put hr' (by omega) h6
              have sm6 := sm5.trans s6
              refine ⟨_, rfl, _, rfl, _, rfl, ea, _, 2, _, rfl, rfl, SqT.of (hea9 sm6), rfl, D, _, rfl, hput, ?_⟩
              have sm7 := putS (o := o) sm6
              have h6n : NL (upd H6 D o) l6 (s0.1 q ++ s0.1 r) := by
                obtain ⟨ff, hf1, _⟩ := has5.same s6
                show upd H6 D o l6 = _
                rw [upd_ne (ne_of h6 hf1 (by intro z; cases z))]
                exact h6
              generalize upd H6 D o = H7 at sm7 hhas h6n ⊢
              obtain ⟨a2, hg2, hna2⟩ := hhas.get hq
              obtain ⟨o2, hput2, hhas2, _⟩ := hhas.put hq (by omega) hna2
              have hid : setH (setH s0.1 r (s0.1 q ++ s0.1 r)) q (setH s0.1 r (s0.1 q ++ s0.1 r) q) = setH s0.1 r (s0.1 q ++ s0.1 r) := by
                funext z
                by_cases c : z = q
                · rw [c, setH_same]
                · rw [setH_ne c]
              rw [hid] at hhas2
              refine ⟨_, rfl, ea, _, 0, _, rfl, rfl, SqT.of (hea9 sm7), rfl, rfl, _, rfl, itN (decF (fun z => by have := V.str.inj z; revert this; show ¬ (("tell" : Str) = "meet"); decide +kernel)) ⟨_, rfl, _, rfl, ea, _, 1, _, rfl, rfl, SqT.of (hea9 sm7), rfl, D, _, rfl, hg2,
                _, rfl, _, rfl, ea, _, 1, _, rfl, rfl, SqT.of (hea9 sm7), rfl, D, _, rfl, hput2, _, rfl, putS sm7, hhas2⟩⟩
            · have hl1 : long = false := by rw [← hlong]; exact decide_eq_false fun z => el (decide_eq_true (by rw [z]))
              subst hl1
              exact ⟨_, rfl, sm2.trans s5, hasT.same s5⟩
        · rintro σ H3 ⟨o11, rfl, sm3, hD3⟩
          rw [← hstep] at hD3
          obtain ⟨a, hg, hna⟩ := hD3.get hp
          refine ⟨_, rfl, _, rfl, D, _, rfl, hg, a, rfl, ⟨_, SqL.of hna⟩, ?_⟩
          refine lc_flat walk_list (fun t => (((runH long (es.take (j + 1))).1 p)[t]?).map fun y => V.bl (decide (y ∈ ks))) (by rw [List.length_map]; have := hlen1 p; omega) (fun H4 s4 => SqL.of (s4 _ _ hna)) ?_ ?_
          · rintro t x H4 H5 Ky Kn ht s4 ⟨rfl, hx⟩ ky kn
            rw [List.getElem?_map] at hx
            obtain ⟨y, hy, rfl⟩ := Option.map_eq_some_iff.mp hx
            refine ⟨rfl, iteT (B := Kn H5) ⟨_, rfl, _, rfl, kl, _, rfl, .inl (SqL.of (s4 _ _ (sm3 _ _ hks))), rfl, flat_nats ks, ?_⟩⟩
            rw [if_neg Bool.false_ne_true, inV_nat]
            exact ky _ _ (Same.refl _) (by rw [hy]; rfl)
          · intro D2 H4 hD2 s4 hl4
            rw [List.length_map, bl_all] at hl4
            have key : (((runH long (es.take (j + 1))).1 p).map fun y => decide (y ∈ ks)).any id = true ↔ HitsF long es i p j := by
              rw [List.any_map, List.any_eq_true]
              unfold HitsF
              constructor
              · rintro ⟨y, hy, e⟩
                have h1 := ((hmem y).mp (of_decide_eq_true e)).2
                rw [elg, be] at h1
                exact ⟨y, hy, h1⟩
              · rintro ⟨y, hy, e⟩
                refine ⟨y, hy, decide_eq_true ((hmem y).mpr ⟨?_, by rw [elg, be]; exact e⟩)⟩
                have h1 := runH_lt long _ p y hy
                rw [runH_num] at h1
                rw [be]
                exact Nat.lt_of_lt_of_le h1 (looks_take_le es (j + 1))
            refine ⟨D2, _, rfl, SqL.of hl4, _, rfl, ite2 (fun e => ?_) (fun e => ?_)⟩
            · exact ⟨_, rfl, k (some j) H4 ((s09.trans sm3).trans s4) ⟨hjl, key.mp e, fun t ht => hno t ht⟩⟩
            · refine ⟨_, _, _, by rw [hstep], sm3.trans s4, hD3.same s4, fun t ht => ?_⟩
              by_cases c : t = j
              · subst c; exact fun z => e (key.mpr z)
              · exact hno t (by omega)
      · rintro σ H' ⟨o9, o10, o11, rfl, sm, hD', hno⟩
        rw [paired_len pr] at hno
        exact k none H' (s09.trans sm) hno
end
end K43

-- K43F3
set_option Elab.async false
set_option linter.all false
set_option maxRecDepth 100000
set_option maxHeartbeats 4000000
/-! way_of, keep_way, clash -/
namespace K43
open PySem PySem.Spec PyProof.Rows L2
section
variable {X : Cx} {k : Nat} {dvs : List V} {p pos : Pos} {e : Expr} {es : List Expr} {t : TA}
/-- Keeping(..) -/
def tKeep (K : PySem.W.Frag) (dvs : List V) (t : TA) : TE := fun σ H Q => t σ H fun vs H1 => ∃ v n es kd wa ch, ∃ W : List Pr, vs ++ dvs = [v, .str kd, .ref wa, .bl ch] ∧ TabAt H1 v n es ∧ es.length ≤ 16 ∧ n ≤ 8 ∧ (∀ e ∈ es, e.okFor n) ∧ WAt H1 wa W ∧ W.length ≤ 16 ∧
  (∀ p ∈ W, p.1 < (looksF es).length ∧ p.2 < n) ∧ ∀ o H', o.b.es = es → o.b.kd = kd → o.W = W → o.ch = ch → Same H1 H' → KOk K H' o → Q (.ref o.k) H'
theorem pe_keep (G : MkOk X.prog X.w X.K X.mg X.base 8 "Keeping" ["self", "timetable", "kind", "wishes", "is_chain"] dvs (spKInit X.K)) (hr : Room 9 X.A) (ha : PA X (e :: es) t) (hg : Gl X "Keeping" := by rfl)
    (he : starEach (e :: es) X.env = (false, eval e X.env) :: starEach es X.env := by rfl) (hpl : (backTo pos (starEach es X.env)).any (·.1) = false := by rfl) : PE X (.Call (.Name "Keeping" p) (e :: es) [] pos) (tKeep X.K dvs t) := by
  obtain ⟨f, fd, ds, M, F, b, v⟩ := G.ok
  have h2 : PA X (e :: es) (fun σ H Q => ∃ R, t σ H R ∧ ∀ xs H1, R xs H1 → Q xs H1) := ⟨fun pos pins s σ H Q I ⟨R, q, i⟩ => PA.up (t' := t) ha I q i⟩
  refine PE.imp (pe_make M F hr hg G.mg b v pass0 (E := E0) h2 (by decide) he hpl) fun σ H Q q => ⟨_, q, fun vs H1 ⟨v, n, es, kd, wa, ch, W, e, ht, h1, h2, h3, h4, h5, h6, k⟩ x dx hx hd hdx => ?_⟩
  have s := new_two (u := .own x) (o := .ins (cK X.K) dx []) hx hd
  refine ⟨x, dx, v, n, es, kd, wa, ch, W, by rw [e], upd_same, ht.same s, h1, h2, h3, h4.same s, h5, h6, fun H' o ok oe od ow oc fr hK => ⟨rfl, ?_⟩⟩
  have := k o H' oe od ow oc (fun c u z => fr _ _ (s _ _ z) (by simp; exact ne_of_none z hx)) hK
  rw [ok] at this
  exact this
end
/-- what way_of answers -/
def WayF (long : Bool) (es : List Ev) (W : List Pr) (z : Str) : Prop := (z = "no" ∧ ¬ FineF long es W false) ∨ (z = "delay" ∧ FineF long es W false ∧ FineF long es W true) ∨ (z = "fork" ∧ FineF long es W false ∧ ¬ FineF long es W true)
section
variable {P : Program} {w : World} {K : PySem.W.Frag} {mg : Str → Option Value} {base : Heap}
def spWay : Sp := fun vs H Q _ => ∃ v n es kd wa, ∃ W : List Pr, vs = [v, .str kd, .ref wa] ∧ TabAt H v n es ∧ es.length ≤ 16 ∧ n ≤ 8 ∧ (∀ e ∈ es, e.okFor n) ∧ WAt H wa W ∧ W.length ≤ 16 ∧ (∀ p ∈ W, p.1 < (looksF es).length ∧ p.2 < n) ∧
  ∀ z H', Same H H' → WayF (decide (kd = "long")) es W z → Q (.str z) H'
theorem sc_way : FnScope ["timetable", "kind", "wishes"] ["timetable", "kind", "wishes"] (defScope s_way_of) := ⟨rfl, rfl, rfl, by decide +kernel, rfl, by decide +kernel, by decide +kernel⟩
theorem ok_way {f : Addr} {fd : FuncData} (F : FunD K "way_of" "way_of" (defArgs s_way_of) (defBody s_way_of) (defScope s_way_of) [] [] f fd) (T : Txt K mg)
    (GK1 : MkOk P w K mg base 8 "Keeping" ["self", "timetable", "kind", "wishes", "is_chain"] [.bl false] (spKInit K)) (GK2 : MkOk P w K mg base 8 "Keeping" ["self", "timetable", "kind", "wishes", "is_chain"] [] (spKInit K))
    (GF : GP P w K mg base 23 "is_fine" ["self"] (spFine K)) : FnOk P w K mg base CX0 24 f fd ["timetable", "kind", "wishes"] spWay := by
  refine okD F sc_way (fun vs H Q E h => ?_) (fun cdv A0 outer s H vs Q E hr h => ?_)
  · obtain ⟨v, n, es, kd, wa, W, rfl, _⟩ := h
    rfl
  · obtain ⟨v, n, es, kd, wa, W, rfl, ht, hle, hn8, hok, hw, hW, hWb, k⟩ := h
    have hr9 := hr.mono (show 9 ≤ 23 by decide)
    refine ⟨_, pss_cons (ps_if (pt_not (pt_val (pe_m0 GF hr T.clK (pe_keep GK1 hr9 (pa_cons (pv 0) (pa_cons (pv 1) (pa_cons (pv 2) pa_nil))))))) (pss_one (ps_ret (pe_gs T.NO))) pss_nil)
      (pss_one (ps_ret (pe_ifExp (pt_val (pe_m0 GF hr T.clK (pe_keep GK2 hr9 (pa_cons (pv 0) (pa_cons (pv 1) (pa_cons (pv 2) (pa_cons pe_bl pa_nil))))))) (pe_gs T.DELAY) (pe_gs T.FORK)))), ?_⟩
    refine ⟨_, rfl, _, rfl, _, rfl, v, n, es, kd, wa, false, W, rfl, ht, hle, hn8, hok, hw, hW, hWb, fun o H1 oe od ow oc s1 hK => ?_⟩
    obtain ⟨dx1, hob1⟩ := hK.ob
    refine ⟨_, dx1, _, rfl, hob1, kF_no o (by decide +kernel), o, rfl, hK, fun c H2 s2 hc => ⟨_, rfl, ?_⟩⟩
    have e1 : lg o.b = decide (kd = "long") := by unfold lg; rw [od]
    rw [e1, oe, ow, oc] at hc
    have s12 := s1.trans s2
    cases c with
    | false => exact iteT (k _ H2 s12 (.inl ⟨rfl, fun z => by have := hc.mpr z; cases this⟩))
    | true =>
      have hf := hc.mp rfl
      refine iteF ?_
      refine ⟨_, rfl, _, rfl, _, rfl, v, n, es, kd, wa, true, W, rfl, ht.same s12, hle, hn8, hok, hw.same s12, hW, hWb, fun o2 H3 oe2 od2 ow2 oc2 s3 hK2 => ?_⟩
      obtain ⟨dx2, hob2⟩ := hK2.ob
      refine ⟨_, dx2, _, rfl, hob2, kF_no o2 (by decide +kernel), o2, rfl, hK2, fun c H4 s4 hc2 => ⟨_, rfl, ?_⟩⟩
      have e2 : lg o2.b = decide (kd = "long") := by unfold lg; rw [od2]
      rw [e2, oe2, ow2, oc2] at hc2
      have s14 := (s12.trans s3).trans s4
      cases c with
      | true => exact iteT (k _ H4 s14 (.inr (.inl ⟨rfl, hf, hc2.mp rfl⟩)))
      | false => exact iteF (k _ H4 s14 (.inr (.inr ⟨rfl, hf, fun z => by have := hc2.mpr z; cases this⟩)))
/-! ### keep_way -/
def spKeepWay : Sp := fun vs H Q _ => ∃ v n es kd, ∃ i p : Nat, ∃ a, vs = [v, .str kd, .int i, .ref a] ∧ NL H a [p] ∧ TabAt H v n es ∧ es.length ≤ 16 ∧ n ≤ 8 ∧ (∀ e ∈ es, e.okFor n) ∧ i < (looksF es).length ∧ p < n ∧
  ∀ z H', Same H H' → WayF (decide (kd = "long")) es [(i, p)] z → Q (.str z) H'
theorem sc_keep_way : FnScope ["timetable", "kind", "i", "people", "own", "person"] ["timetable", "kind", "i", "people"] (defScope s_keep_way) := ⟨rfl, rfl, rfl, by decide +kernel, rfl, by decide +kernel, by decide +kernel⟩
theorem ok_keep_way {f : Addr} {fd : FuncData} (F : FunD K "keep_way" "keep_way" (defArgs s_keep_way) (defBody s_keep_way) (defScope s_keep_way) [] [] f fd) (T : Txt K mg) (GT : GOk P w K mg base 4 "as_tuples" ["thing"] spAsTab)
    (GL : GOk P w K mg base 3 "check_look" ["timetable", "number"] spCheckLook) (GP : GOk P w K mg base 1 "check_people" ["timetable", "people"] spCheckPeople) (GW : GOk P w K mg base 24 "way_of" ["timetable", "kind", "wishes"] spWay) :
    FnOk P w K mg base CX0 25 f fd ["timetable", "kind", "i", "people"] spKeepWay := by
  refine okD F sc_keep_way (fun vs H Q E h => ?_) (fun cdv A0 outer s H vs Q E hr h => ?_)
  · obtain ⟨v, n, es, kd, i, p, a, rfl, _⟩ := h
    rfl
  · obtain ⟨v, n, es, kd, i, p, a, rfl, ha, ht, hle, hn8, hok, hi, hp, k⟩ := h
    have hr4 := hr.mono (show 4 ≤ 24 by decide)
    have hr3 := hr.mono (show 3 ≤ 24 by decide)
    have hr1 := hr.mono (show 1 ≤ 24 by decide)
    refine ⟨_, pss_cons (ps_set (i := 4) sc_keep_way.nd rfl (Or.inl rfl) (pe_g GT hr4 (pa_cons (pv 0) pa_nil)))
      (pss_cons (ps_expr (pe_g GL hr3 (pa_cons (pv 4) (pa_cons (pv 2) pa_nil))))
      (pss_cons (ps_expr (pe_g GP hr1 (pa_cons (pv 4) (pa_cons (pv 3) pa_nil))))
      (pss_one (ps_ret (pe_g GW hr (pa_cons (pv 4) (pa_cons (pv 1) (pa_cons (pe_lc (own := [("person", 5)]) (g := gName 5) (tt := tYes) (te := tTupS (tCons (tVar 2) (tCons (tVar 5) tNil))) rfl sc_keep_way.nd (pi_list (pv 3))
        (blkOk_by (own := [("person", 5)]) (N := ["timetable", "kind", "i", "people", "own", "person"]) (sc := defScope s_keep_way) (by decide +kernel)) (fun _ _ _ _ _ => pg_name (i := 5) sc_keep_way.nd rfl (Or.inl rfl)) (fun _ _ _ _ _ => pts_nil)
        (fun _ _ _ _ _ => pe_tupS (pa_cons (pv 2) (pa_cons (pv 5) pa_nil)))) pa_nil)))))))), ?_⟩
    refine ⟨_, rfl, v, n, es, rfl, ht, by omega, fun v1 H1 s1 ht1 => ?_⟩
    refine ⟨_, rfl, _, rfl, v1, n, es, i, rfl, ht1, by omega, hi, fun H2 s2 => ?_⟩
    refine ⟨_, rfl, _, rfl, v1, n, es, a, [p], rfl, ht1.same s2, s2 _ _ (s1 _ _ ha), (fun x hx => by rw [List.mem_singleton.mp hx]; exact hp), fun H3 s3 => ?_⟩
    have s13 := (s1.trans s2).trans s3
    have ha3 := s13 _ _ ha
    refine ⟨_, rfl, _, rfl, _, rfl, a, rfl, ⟨_, SqL.of ha3⟩, ?_⟩
    refine lc_out walk_list PrAt (fun j => if j = 0 then some (i, p) else none) (fun _ _ _ _ s h => h.same s) (by simp) (fun H4 s4 => SqL.of (s4 _ _ ha3)) ?_ ?_
    · rintro j x D H4 H5 acc Ky Kn hj s4 hD hacc ⟨rfl, hx⟩ ky kn
      have hj0 : j = 0 := by simp at hj; exact hj
      subst hj0
      cases hx
      refine ⟨rfl, iteT (B := Kn H5) ⟨_, rfl, _, rfl, t2, fun q H6 hq s6 h6 => ky _ H6 (i, p) s6 rfl ⟨q, rfl, hid_get h6 (ne_of h6 (s6 _ _ hacc) (by intro z; cases z))⟩⟩⟩
    · intro D H4 ys hD s4 hl4 pr4
      have e : (List.range ([V.int p] : List V).length).filterMap (fun j => if j = 0 then some ((i, p) : Pr) else none) = [(i, p)] := rfl
      have pr4 : Paired (PrAt H4) ys [(i, p)] := pr4
      exact ⟨v1, n, es, kd, D, [(i, p)], rfl, (ht1.same (s2.trans s3)).same s4, hle, hn8, hok, .inl ⟨ys, hl4, pr4⟩, by simp, (fun q hq => by rw [List.mem_singleton.mp hq]; exact ⟨hi, hp⟩), fun z H5 s5 hz => k z H5 ((s13.trans s4).trans s5) hz⟩
end
end K43

-- K43F4
set_option Elab.async false
set_option linter.all false
set_option maxRecDepth 100000
set_option maxHeartbeats 4000000
/-! clash -/
namespace K43
open PySem PySem.Spec PyProof.Rows L2
abbrev prI (p : Pr) : List Int := [(p.1 : Int), (p.2 : Int)]
/-- a tuple of pairs as sets want it -/
theorem prt_keys {H : Hp} : ∀ {us : List V} {ps : List Pr}, Paired (PrAt H) us ps → ∃ ks : List (Addr × List Int), us = ks.map (fun p => V.ref p.1) ∧ ks.map (·.2) = ps.map prI ∧ ∀ q ∈ ks, H q.1 = some (.tup (q.2.map V.int))
  | _, _, .nil => ⟨[], rfl, rfl, fun _ h => by cases h⟩
  | _, _, .cons r t => by
    obtain ⟨ks, h1, h2, h3⟩ := prt_keys t
    obtain ⟨a, e, ha⟩ := r
    rename_i v p us ps
    refine ⟨(a, prI p) :: ks, by rw [e, h1]; rfl, by rw [List.map_cons, h2]; rfl, fun q hq => ?_⟩
    rcases List.mem_cons.mp hq with e | hq
    · rw [e]; exact ha
    · exact h3 q hq
theorem prI_inj {p q : Pr} (h : prI p = prI q) : p = q := by
  simp only [prI, List.cons.injEq, and_true] at h
  exact Prod.ext (by omega) (by omega)
theorem prAt_inj {H : Hp} {v : V} {p q : Pr} (h : PrAt H v p) (h' : PrAt H v q) : p = q := by
  obtain ⟨a, rfl, h1⟩ := h
  obtain ⟨b, e, h2⟩ := h'
  cases e
  rw [h1] at h2
  simp only [Option.some.injEq, HO.tup.injEq, prV, List.cons.injEq, V.int.injEq, and_true] at h2
  exact Prod.ext (by omega) (by omega)
theorem paired_fun {H : Hp} {g : V → Pr} : ∀ {l : List V}, (∀ x ∈ l, PrAt H x (g x)) → Paired (PrAt H) l (l.map g)
  | [], _ => .nil
  | x :: r, h => .cons (h x List.mem_cons_self) (paired_fun fun y hy => h y (List.mem_cons_of_mem _ hy))
section
variable {P : Program} {w : World} {K : PySem.W.Frag} {mg : Str → Option Value} {base : Heap}
def spClash : Sp := fun vs H Q _ => ∃ v n es kd wa, ∃ W : List Pr, vs = [v, .str kd, .ref wa] ∧ TabAt H v n es ∧ es.length ≤ 16 ∧ n ≤ 8 ∧ (∀ e ∈ es, e.okFor n) ∧ PrL H wa W ∧ 1 ≤ W.length ∧ W.length ≤ 6 ∧ (∀ p ∈ W, p.1 < (looksF es).length ∧ p.2 < n) ∧
  ∀ r H', Same H H' → ((r = .non ∧ FineF (decide (kd = "long")) es W false) ∨ ((∃ a, r = .ref a) ∧ ¬ FineF (decide (kd = "long")) es W false)) → Q r H'
/-- choices of any size at once -/
def spChU : Sp := fun vs H Q E => ∃ k, k ≤ 6 ∧ spChoices k vs H Q E
theorem okChU {f : Addr} {fd : FuncData} (h : ∀ n, FnOk P w K mg base CX0 (n + 1) f fd ["some", "size"] (spChoices n)) : FnOk P w K mg base CX0 7 f fd ["some", "size"] spChU :=
  ⟨fun vs H Q E ⟨k, _, q⟩ => (h k).len vs H Q E q, fun A outer s H args us vs Q E hr e0 hb r ⟨k, hk, q⟩ => (h k).run A outer s H args us vs Q E (hr.mono (by omega)) e0 hb r q⟩
theorem sc_clash : FnScope ["timetable", "kind", "wishes", "own", "some", "ordered", "size", "part"] ["timetable", "kind", "wishes"] (defScope s_clash) := ⟨rfl, rfl, rfl, by decide +kernel, rfl, by decide +kernel, by decide +kernel⟩
open Classical in
theorem ok_clash {f : Addr} {fd : FuncData} (F : FunD K "clash" "clash" (defArgs s_clash) (defBody s_clash) (defScope s_clash) [] [] f fd) (T : Txt K mg) (GT : GOk P w K mg base 4 "as_tuples" ["thing"] spAsTab) (GW : GOk P w K mg base 3 "as_tuples" ["thing"] spAsWish)
    (GC : GOk P w K mg base 4 "check_wishes" ["timetable", "wishes"] spCheckWishes) (GCh : GOk P w K mg base 7 "choices" ["some", "size"] spChU)
    (GK1 : MkOk P w K mg base 8 "Keeping" ["self", "timetable", "kind", "wishes", "is_chain"] [.bl false] (spKInit K)) (GF : GP P w K mg base 23 "is_fine" ["self"] (spFine K)) : FnOk P w K mg base CX0 24 f fd ["timetable", "kind", "wishes"] spClash := by
  refine okD F sc_clash (fun vs H Q E h => ?_) (fun cdv A0 outer s H vs Q E hr h => ?_)
  · obtain ⟨v, n, es, kd, wa, W, rfl, _⟩ := h
    rfl
  · obtain ⟨v, n, es, kd, wa, W, rfl, ht, hle, hn8, hok, hw, hW1, hW6, hWb, k⟩ := h
    have hu64 := Nat.lt_of_le_of_lt (Nat.add_le_add_left (show 64 ≤ 16 * 23 + 200 by decide) _) (by have := hr.un; rw [Nat.add_assoc] at this; exact this)
    have hr9 := hr.mono (show 9 ≤ 23 by decide)
    have hr7 := hr.mono (show 7 ≤ 23 by decide)
    have hr4 := hr.mono (show 4 ≤ 23 by decide)
    have hr3 := hr.mono (show 3 ≤ 23 by decide)
    refine ⟨_, pss_cons (ps_par (i := 3) (j := 4) rfl sc_clash.nd rfl rfl (by decide) rfl rfl (pa_cons (pe_g GT hr4 (pa_cons (pv 0) pa_nil)) (pa_cons (pe_g GW hr3 (pa_cons (pv 2) pa_nil)) pa_nil)) rfl)
      (pss_cons (ps_expr (pe_g GC hr4 (pa_cons (pv 3) (pa_cons (pv 4) pa_nil))))
      (pss_cons (ps_set (i := 5) sc_clash.nd rfl (Or.inl rfl) (pe_callB (cr_sortedT rfl) (by rfl) T.sorted PyProof.Rows.boot_sorted (pa_cons (pe_callTy (cr_setT rfl hu64) (by rfl) T.set PyProof.Rows.boot_set (pa_cons (pv 4) pa_nil)) pa_nil)))
      (pss_cons (ps_for PassesOwn.never rfl (pi_range2 (by rfl) T.range (pa_cons pe_int (pa_cons (pe_op op_add (pe_callB call_len_seq (by rfl) T.len PySem.boot_len (pa_cons (pv 5) pa_nil)) pe_int) pa_nil))) (pg_name (i := 6) sc_clash.nd rfl (Or.inl rfl))
        (pss_one (ps_for PassesOwn.never rfl (pi_list (pe_g GCh hr7 (pa_cons (pv 5) (pa_cons (pv 6) pa_nil)))) (pg_name (i := 7) sc_clash.nd rfl (Or.inl rfl))
          (pss_one (ps_if (pt_not (pt_val (pe_m0 GF hr T.clK (pe_keep GK1 hr9 (pa_cons (pv 3) (pa_cons (pv 1) (pa_cons (pv 7) pa_nil))))))) (pss_one (ps_ret (pv 7))) pss_nil)))))
      (pss_one (ps_ret pe_non))))), ?_⟩
    refine ⟨_, rfl, v, n, es, rfl, ht, by omega, fun v1 H1 s1 ht1 => ⟨_, rfl, wa, W, rfl, hw.same s1, by omega, fun b1 H2 s2 hb1 => ⟨_, _, rfl, ?_⟩⟩⟩
    have ht2 := ht1.same s2
    refine ⟨_, rfl, _, rfl, v1, n, es, b1, W, rfl, ht2, by omega, hb1, hWb, fun H3 s3 => ?_⟩
    have hb3 := hb1.same s3
    obtain ⟨us, hus, pr⟩ := hb3
    obtain ⟨ks, eus, eks, hks⟩ := prt_keys pr
    have lenks : ks.length = W.length := by
      have := congrArg List.length eks
      rwa [List.length_map, List.length_map] at this
    have memW : ∀ {q : List Int}, q ∈ ks.map (·.2) → ∃ p ∈ W, q = prI p := fun {q} h => by
      rw [eks] at h
      obtain ⟨p, hp, e⟩ := List.mem_map.mp h
      exact ⟨p, hp, e.symm⟩
    refine ⟨_, rfl, b1, ks, rfl, by rw [← eus]; exact SqT.of hus, fun p hp => SqT.of (hks p hp), by omega, fun sa L H4 _ s4 hLk hkL hsa => ?_⟩
    refine ⟨sa, L, 2, 64, rfl, hsa, fun p hp => ?_, by decide, fun p hp => ?_, fun L' od hperm hnd _ _ hod => ?_⟩
    · exact SqT.of (s4 _ _ (hks p (hLk p hp)))
    · obtain ⟨q, hq, e⟩ := memW (List.mem_map.mpr ⟨p, hLk p hp, rfl⟩)
      obtain ⟨h1, h2⟩ := hWb q hq
      have := looksF_len es
      rw [e]
      refine ⟨rfl, fun m hm => ?_⟩
      simp only [prI, List.mem_cons, List.not_mem_nil, or_false] at hm
      rcases hm with rfl | rfl <;> omega
    · have hL'k : ∀ p ∈ L', p ∈ ks := fun p hp => hLk p (hperm.mem_iff.mp hp)
      have lenL' : L'.length ≤ 6 := by
        have h1 := nodup_sub_len (L'.map (·.2)) (ks.map (·.2)) hnd fun x hx => by
          obtain ⟨p, hp, e⟩ := List.mem_map.mp hx
          exact List.mem_map.mpr ⟨p, hL'k p hp, e⟩
        rw [List.length_map, List.length_map] at h1
        omega
      have s5 : Same H4 (upd H4 od (.lst (L'.map fun q => V.ref q.1))) := same_new hod
      have hod5 : upd H4 od (.lst (L'.map fun q => V.ref q.1)) od = some (.lst (L'.map fun q => V.ref q.1)) := upd_same
      generalize hxs : (L'.map fun q => V.ref q.1) = xs at s5 hod5 ⊢
      generalize upd H4 od (.lst xs) = H5 at s5 hod5 ⊢
      have lenxs : xs.length ≤ 6 := by rw [← hxs, List.length_map]; exact lenL'
      have s35 := s4.trans s5
      have each : ∀ x ∈ xs, ∃ p ∈ W, PrAt H5 x p := fun x hx => by
        rw [← hxs] at hx
        obtain ⟨q, hq, e⟩ := List.mem_map.mp hx
        obtain ⟨p, hp, e2⟩ := memW (List.mem_map.mpr ⟨q, hL'k q hq, rfl⟩)
        refine ⟨p, hp, q.1, e.symm, ?_⟩
        have := s35 _ _ (hks q (hL'k q hq))
        rw [e2] at this
        exact this
      have allW : ∀ p ∈ W, ∃ x ∈ xs, PrAt H5 x p := fun p hp => by
        have h1 : prI p ∈ ks.map (·.2) := by rw [eks]; exact List.mem_map.mpr ⟨p, hp, rfl⟩
        obtain ⟨q, hq, e⟩ := List.mem_map.mp h1
        have h2 := hkL q hq
        rw [e] at h2
        obtain ⟨q2, hq2, e2⟩ := List.mem_map.mp h2
        have hq2' : q2 ∈ L' := hperm.mem_iff.mpr hq2
        refine ⟨.ref q2.1, by rw [← hxs]; exact List.mem_map.mpr ⟨q2, hq2', rfl⟩, q2.1, rfl, ?_⟩
        have := s35 _ _ (hks q2 (hL'k q2 hq2'))
        have e2 : q2.2 = prI p := e2
        rw [e2] at this
        exact this
      obtain ⟨g, hg⟩ : ∃ g : V → Pr, ∀ x ∈ xs, PrAt H5 x (g x) := ⟨fun x => if h : ∃ p, PrAt H5 x p then choose h else (0, 0), fun x hx => by
        obtain ⟨p, _, h⟩ := each x hx
        have he : ∃ p, PrAt H5 x p := ⟨p, h⟩
        show PrAt H5 x (if h : ∃ p, PrAt H5 x p then choose h else (0, 0))
        rw [dif_pos he]
        exact choose_spec he⟩
      have hgW : ∀ x ∈ xs, g x ∈ W := fun x hx => by
        obtain ⟨p, hp, h⟩ := each x hx
        rw [prAt_inj (hg x hx) h]
        exact hp
      have s05 : Same H H5 := ((s1.trans s2).trans s3).trans s35
      have ht5 := ht2.same (s3.trans s35)
      refine ⟨_, rfl, od, xs, rfl, .inl (SqL.of hod5), _, _, rfl, rfl, _, _, rfl, ⟨by omega, by omega, by omega, by omega⟩, ?_⟩
      have en : ((xs.length : Int) + 1 - 1).toNat = xs.length := by omega
      rw [en]
      refine for_it walk_range (fun t σ H' => ∃ o6 o7, σ = [some v, some (.str kd), some (.ref wa), some v1, some (.ref b1), some (.ref od), o6, o7] ∧ Same H5 H' ∧ ∀ z, 1 ≤ z → z ≤ t → ∀ l ∈ chF xs z, FineF (decide (kd = "long")) es (l.map g) false)
        ⟨none, none, rfl, Same.refl _, fun z h1 h2 => by omega⟩ (fun _ _ _ _ _ => trivial) ?_ ?_
      · rintro t x σ H6 H7 htl ⟨o6, o7, rfl, s6, hfi⟩ ⟨rfl, rfl⟩
        refine ⟨_, rfl, _, rfl, t + 1, by omega, od, xs, ?_, s6 _ _ hod5, lenxs, fun cb H8 rs s8 hrs prs => ⟨cb, rfl, ⟨_, SqL.of hrs⟩, ?_⟩⟩
        · show [V.ref od, V.int (1 + (t : Int))] = [V.ref od, V.int ((t + 1 : Nat) : Int)]
          rw [show (1 + (t : Int)) = ((t + 1 : Nat) : Int) by omega]
        refine for_it walk_list (fun u σ H' => ∃ o6 o7, σ = [some v, some (.str kd), some (.ref wa), some v1, some (.ref b1), some (.ref od), o6, o7] ∧ Same H8 H' ∧ ∀ l ∈ (chF xs (t + 1)).take u, FineF (decide (kd = "long")) es (l.map g) false)
          ⟨_, _, rfl, Same.refl _, fun l h => by cases h⟩ (fun u σ H' _ ⟨_, _, _, sm, _⟩ => SqL.of (sm _ _ hrs)) ?_ ?_
        · rintro u x σ H9 H10 hu ⟨o6, o7, rfl, s9, hf⟩ ⟨rfl, hx⟩
          obtain ⟨l, hl, pa, rfl, hpa⟩ := paired_at prs hx
          have hlm := List.mem_of_getElem? hl
          have lsub := chF_sub xs (t + 1) l hlm
          have llen := chF_size xs (t + 1) l hlm
          have s510 : Same H5 H10 := (s6.trans s8).trans s9
          have hWAt : WAt H10 pa (l.map g) := .inr ⟨l, s9 _ _ hpa, paired_fun fun x hx => (hg x (lsub x hx)).same s510⟩
          refine ⟨_, rfl, _, rfl, _, rfl, v1, n, es, kd, pa, false, l.map g, rfl, ht5.same s510, hle, hn8, hok, hWAt, by rw [List.length_map]; omega, fun p hp => ?_, fun o H11 oe od' ow oc s11 hK => ?_⟩
          · obtain ⟨x, hx, e⟩ := List.mem_map.mp hp
            rw [← e]
            exact hWb _ (hgW x (lsub x hx))
          obtain ⟨dx1, hob1⟩ := hK.ob
          refine ⟨_, dx1, _, rfl, hob1, kF_no o (by decide +kernel), o, rfl, hK, fun c H12 s12 hc => ⟨_, rfl, ?_⟩⟩
          have e1 : lg o.b = decide (kd = "long") := by unfold lg; rw [od']
          rw [e1, oe, ow, oc] at hc
          cases c with
          | false =>
            refine iteT ⟨_, rfl, k _ H12 (((s05.trans s510).trans s11).trans s12) (.inr ⟨⟨pa, rfl⟩, fun hfw => ?_⟩)⟩
            have := hc.mpr (fine_sub (fun p hp => by
              obtain ⟨x, hx, e⟩ := List.mem_map.mp hp
              rw [← e]
              exact hgW x (lsub x hx)) hfw)
            cases this
          | true =>
            refine iteF ⟨_, _, rfl, (s9.trans s11).trans s12, fun l' hl' => ?_⟩
            rw [List.take_add_one, hl] at hl'
            rcases List.mem_append.mp hl' with h | h
            · exact hf l' h
            · have e : l' = l := by simpa using h
              rw [e]
              exact hc.mp rfl
        · rintro σ H9 ⟨o6, o7, rfl, s9, hf⟩
          rw [paired_len prs, List.take_length] at hf
          refine ⟨_, _, rfl, (s6.trans s8).trans s9, fun z h1 h2 => ?_⟩
          by_cases c : z = t + 1
          · subst c; exact hf
          · exact hfi z h1 (by omega)
      · rintro σ H6 ⟨o6, o7, rfl, s6, hfi⟩
        refine k _ H6 (s05.trans s6) (.inl ⟨rfl, ?_⟩)
        have pos : 1 ≤ xs.length := by
          obtain ⟨p, hp⟩ := List.exists_mem_of_length_pos (show 0 < W.length by omega)
          obtain ⟨x, hx, _⟩ := allW p hp
          exact List.length_pos_of_mem hx
        have hall := hfi xs.length pos (Nat.le_refl _) xs (chF_all xs)
        refine fine_sub (fun p hp => ?_) hall
        obtain ⟨x, hx, h⟩ := allW p hp
        exact List.mem_map.mpr ⟨x, hx, prAt_inj (hg x hx) h⟩
end
end K43

-- K43L1
set_option Elab.async false
set_option linter.all false
set_option maxRecDepth 100000
set_option maxHeartbeats 4000000
/-! the law: _law_take, _law_event, _law_of -/
namespace K43
open PySem PySem.Spec PyProof.Rows L2
/-- the box: what is left of a great number, the seed, how often it was asked -/
def BoxAt (H : Hp) (a : Addr) (c : Nat) : Prop := ∃ big sd n : Int, H a = some (.lst [.int big, .int sd, .int n]) ∧ 0 ≤ big ∧ 0 ≤ sd ∧ sd < 4294967296 ∧ 0 ≤ n ∧ n ≤ c
section
variable {P : Program} {w : World} {K : PySem.W.Frag} {mg : Str → Option Value} {base : Heap}
def spTake : Sp := fun vs H Q _ => ∃ a, ∃ c b : Nat, vs = [.ref a, .int b] ∧ BoxAt H a c ∧ 1 ≤ b ∧ b ≤ 1000 ∧ c ≤ 100000 ∧ ∀ r H', r < b → Frame [a] H H' → BoxAt H' a (c + 1) → Q (.int (r : Nat)) H'
theorem sc_take : FnScope ["_law_box_here", "_law_below", "_law_found", "_law_once", "_law_odd"] ["_law_box_here", "_law_below"] (defScope s_law_take) := ⟨rfl, rfl, rfl, by decide +kernel, rfl, by decide +kernel, by decide +kernel⟩
theorem mod_nat {x : Int} {b : Nat} (h : 1 ≤ b) : ∃ r : Nat, r < b ∧ x % (b : Int) = (r : Int) := by
  have h1 := Int.emod_nonneg x (show (b : Int) ≠ 0 by omega)
  have h2 := Int.emod_lt_of_pos x (show (0 : Int) < b by omega)
  exact ⟨(x % b).toNat, by omega, by omega⟩
theorem modQ {Q : VK} {H : Hp} {x : Int} {b : Nat} (h : 1 ≤ b) (q : ∀ r : Nat, r < b → Q (.int (r : Nat)) H) : Q (.int (x % (b : Int))) H := by
  obtain ⟨r, h1, h2⟩ := mod_nat (x := x) h
  rw [h2]
  exact q r h1
theorem ok_take {f : Addr} {fd : FuncData} (F : FunD K "_law_take" "_law_take" (defArgs s_law_take) (defBody s_law_take) (defScope s_law_take) [] [] f fd) (T : Txt K mg) : FnOk P w K mg base CX0 1 f fd ["_law_box_here", "_law_below"] spTake := by
  refine okD F sc_take (fun vs H Q E h => ?_) (fun cdv A0 outer s H vs Q E hr h => ?_)
  · obtain ⟨a, c, b, rfl, _⟩ := h
    rfl
  · obtain ⟨a, c, b, rfl, ⟨big, sd, n, ha, hb0, hs0, hs1, hn0, hn1⟩, h1, hb, hc, k⟩ := h
    refine ⟨_, pss_cons (ps_if (pt_cmpR op_gt (pe_ix ix_list (pv 0) pe_int (fun _ _ => rfl)) pe_int (nomark _))
        (pss_cons (ps_set (i := 2) sc_take.nd rfl (Or.inl rfl) (pe_op op_mod (pe_callTy call_int1 (by rfl) T.int PyProof.Rows.boot_int (pa_cons (pe_ix ix_list (pv 0) pe_int (fun _ _ => rfl)) pa_nil)) (pv 1)))
        (pss_cons (ps_asg (pe_op op_fdiv (pe_ix ix_list (pv 0) pe_int (fun _ _ => rfl)) (pv 1)) (pg_sub (pv 0) pe_int set_list))
        (pss_one (ps_ret (pv 2))))) pss_nil)
      (pss_cons (ps_asg (pe_op op_add (pe_ix ix_list (pv 0) pe_int (fun _ _ => rfl)) pe_int) (pg_sub (pv 0) pe_int set_list))
      (pss_cons (ps_set (i := 3) sc_take.nd rfl (Or.inl rfl) (pe_op op_mod (pe_callTy call_int1 (by rfl) T.int PyProof.Rows.boot_int (pa_cons (pe_op op_pow (pe_op op_add (pe_ix ix_list (pv 0) pe_int (fun _ _ => rfl)) (pe_op op_mul pe_int (pe_ix ix_list (pv 0) pe_int (fun _ _ => rfl)))) pe_int) pa_nil)) pe_int))
      (pss_cons (ps_set (i := 4) sc_take.nd rfl (Or.inl rfl) (pe_op op_add (pe_op op_mod (pe_callTy call_int1 (by rfl) T.int PyProof.Rows.boot_int (pa_cons (pv 3) pa_nil)) pe_int) pe_int))
      (pss_one (ps_ret (pe_op op_mod (pe_callTy call_int1 (by rfl) T.int PyProof.Rows.boot_int (pa_cons (pe_op op_fdiv (pe_op op_mod (pe_callTy call_int1 (by rfl) T.int PyProof.Rows.boot_int (pa_cons (pe_op op_add (pe_op op_mul (pv 3) (pv 4)) (pe_op op_mul (pe_ix ix_list (pv 0) pe_int (fun _ _ => rfl)) pe_int)) pa_nil)) pe_int) pe_int) pa_nil)) (pv 1))))))), ?_⟩
    have at0 : ∀ {x y z : Int}, atI [V.int x, V.int y, V.int z] 0 = some (.int x) := rfl
    have at1 : ∀ {x y z : Int}, atI [V.int x, V.int y, V.int z] 1 = some (.int y) := rfl
    have at2 : ∀ {x y z : Int}, atI [V.int x, V.int y, V.int z] 2 = some (.int z) := rfl
    refine ⟨_, rfl, a, _, 0, _, rfl, rfl, SqL.of ha, rfl, _, _, rfl, rfl, _, rfl, ite2 (fun e => ?_) (fun e => ?_)⟩
    · obtain ⟨r, hr1, hr2⟩ := mod_nat (x := big) h1
      refine ⟨_, rfl, a, _, 0, _, rfl, rfl, SqL.of ha, rfl, .inl ⟨_, rfl, _, rfl, _, _, rfl, rfl, (show (0 : Int) < b by omega), ?_⟩⟩
      refine ⟨_, rfl, a, _, 0, _, rfl, rfl, SqL.of ha, rfl, _, rfl, _, _, rfl, rfl, ⟨(by omega), (by omega)⟩, ?_⟩
      refine ⟨_, rfl, a, _, _, 0, rfl, rfl, ha, rfl, ?_⟩
      refine ⟨_, rfl, ?_⟩
      have q := k r (upd H a (.lst ([V.int big, V.int sd, V.int n].set 0 (.int (big / b))))) hr1 (Frame.upd (by simp)) ⟨big / b, sd, n, upd_same, Int.ediv_nonneg hb0 (by omega), hs0, hs1, hn0, by omega⟩
      rw [← hr2] at q
      exact q
    · refine ⟨_, rfl, a, _, 2, _, rfl, rfl, SqL.of ha, rfl, _, _, rfl, rfl, ?_⟩
      refine ⟨_, rfl, a, _, _, 2, rfl, rfl, ha, rfl, ?_⟩
      have hb2 : upd H a (.lst ([V.int big, V.int sd, V.int n].set 2 (.int (n + 1)))) a = some (.lst [V.int big, V.int sd, V.int (n + 1)]) := upd_same
      have f2 : Frame [a] H (upd H a (.lst ([V.int big, V.int sd, V.int n].set 2 (.int (n + 1))))) := Frame.upd (by simp)
      generalize upd H a (.lst ([V.int big, V.int sd, V.int n].set 2 (.int (n + 1)))) = H2 at hb2 f2 ⊢
      have hc : ∀ x y : Int, CMul x (y % 30011 + 17) := fun x y => by
        have h1 := Int.emod_nonneg y (show (30011 : Int) ≠ 0 by decide)
        have h2 := Int.emod_lt_of_pos y (show (0 : Int) < 30011 by decide)
        exact .inr ⟨by omega, by omega⟩
      refine ⟨_, rfl, a, _, 1, _, rfl, rfl, SqL.of hb2, rfl, _, rfl, a, _, 2, _, rfl, rfl, SqL.of hb2, rfl, _, _, rfl, rfl, .inl ⟨by decide, by decide⟩, _, _, rfl, rfl, _, _, rfl, rfl, ⟨by decide, by decide, by omega⟩, .inl ⟨_, rfl, _, _, rfl, rfl, (show (0 : Int) < 2147483549 by decide), ?_⟩⟩
      refine ⟨_, rfl, .inl ⟨_, rfl, _, _, rfl, rfl, (show (0 : Int) < 30011 by decide), _, _, rfl, rfl, ?_⟩⟩
      refine ⟨_, rfl, _, rfl, _, _, rfl, rfl, hc _ _, _, rfl, a, _, 2, _, rfl, rfl, SqL.of hb2, rfl, _, _, rfl, rfl, .inr ⟨by decide, by decide⟩, _, _, rfl, rfl, .inl ⟨_, rfl, _, _, rfl, rfl, (show (0 : Int) < 2147483629 by decide), _, _, rfl, rfl, ⟨by decide, by decide⟩, .inl ⟨_, rfl, _, rfl, _, _, rfl, rfl, (show (0 : Int) < b by omega), ?_⟩⟩⟩
      exact modQ (Q := Q) h1 fun r hr => k r H2 hr f2 ⟨big, sd, n + 1, hb2, hb0, hs0, hs1, by omega, by omega⟩
/-! ### _law_event -/
def spEvent : Sp := fun vs H Q _ => ∃ a, ∃ c n : Nat, ∃ z : Str, vs = [.ref a, .int n, .str z] ∧ BoxAt H a c ∧ 3 ≤ n ∧ n ≤ 8 ∧ 1 ≤ z.cps.toList.length ∧ z.cps.toList.length ≤ 100 ∧ c ≤ 90000 ∧ ∀ v e H', e.okFor n → Frame [a] H H' → BoxAt H' a (c + 3) → EvAt H' v e → Q v H'
theorem BoxAt.mono {H : Hp} {a : Addr} {c d : Nat} (h : BoxAt H a c) (k : c ≤ d) : BoxAt H a d := by
  obtain ⟨big, sd, n, h1, h2, h3, h4, h5, h6⟩ := h
  exact ⟨big, sd, n, h1, h2, h3, h4, h5, by omega⟩
theorem BoxAt.same {H H' : Hp} {a : Addr} {c : Nat} (s : Same H H') (h : BoxAt H a c) : BoxAt H' a c := by
  obtain ⟨big, sd, n, h1, h2⟩ := h
  exact ⟨big, sd, n, s _ _ h1, h2⟩
theorem sc_event : FnScope ["_law_box_here", "_law_folk", "_law_words", "_law_p", "_law_way"] ["_law_box_here", "_law_folk", "_law_words"] (defScope s_law_event) := ⟨rfl, rfl, rfl, by decide +kernel, rfl, by decide +kernel, by decide +kernel⟩
theorem ok_event {f : Addr} {fd : FuncData} (F : FunD K "_law_event" "_law_event" (defArgs s_law_event) (defBody s_law_event) (defScope s_law_event) [] [] f fd) (T : Txt K mg) (GT : GOk P w K mg base 1 "_law_take" ["_law_box_here", "_law_below"] spTake) :
    FnOk P w K mg base CX0 2 f fd ["_law_box_here", "_law_folk", "_law_words"] spEvent := by
  refine okD F sc_event (fun vs H Q E h => ?_) (fun cdv A0 outer s H vs Q E hr h => ?_)
  · obtain ⟨a, c, n, z, rfl, _⟩ := h
    rfl
  · obtain ⟨a, c, n, z, rfl, hb, hn3, hn8, hz1, hz2, hc, k⟩ := h
    refine ⟨_, pss_cons (ps_par (i := 3) (j := 4) rfl sc_event.nd rfl rfl (by decide) rfl rfl (pa_cons (pe_g GT hr (pa_cons (pv 0) (pa_cons (pv 1) pa_nil))) (pa_cons (pe_ix ix_str (pv 2) (pe_g GT hr (pa_cons (pv 0) (pa_cons (pe_callB call_len_str (by rfl) T.len PySem.boot_len (pa_cons (pv 2) pa_nil)) pa_nil))) (fun _ _ => rfl)) pa_nil)) rfl)
      (pss_cons (ps_if (PW.pt (pw_or (pt_cmpR op_eq (pv 4) pe_str (nomark _)) (pw_or1 (PW.pt (pw_and (pt_cmpR op_eq (pv 1) pe_int (nomark _)) (pw_and1 (pt_cmpR op_ne (pv 4) pe_str (nomark _)))))))) (pss_one (ps_ret (pe_tupS (pa_cons pe_str (pa_cons (pv 3) pa_nil))))) pss_nil)
      (pss_cons (ps_if (pt_cmpR op_eq (pv 4) pe_str (nomark _)) (pss_one (ps_ret (pe_tupS (pa_cons pe_str (pa_cons (pv 3) pa_nil))))) pss_nil)
      (pss_one (ps_ret (pe_tupS (pa_cons (pe_ifExp (pt_cmpR op_eq (pv 4) pe_str (nomark _)) pe_str pe_str) (pa_cons (pv 3) (pa_cons (pe_op op_mod (pe_op op_add (pe_op op_add (pv 3) pe_int) (pe_g GT hr (pa_cons (pv 0) (pa_cons (pe_op op_sub (pv 1) pe_int) pa_nil)))) (pv 1)) pa_nil)))))))), ?_⟩
    have zl : z.length = z.cps.toList.length := (Array.length_toList).symm
    refine ⟨_, rfl, _, rfl, a, c, n, rfl, hb, by omega, by omega, by omega, fun p H1 hp f1 hb1 => ⟨_, rfl, _, rfl, _, rfl, z, rfl, line64 (by omega), a, c + 1, z.length, rfl, hb1, by omega, by omega, by omega, fun q H2 hq f2 hb2 => ?_⟩⟩
    obtain ⟨ch, hch⟩ : ∃ ch, z.cps.toList[q]? = some ch := ⟨_, List.getElem?_eq_getElem (by omega)⟩
    refine ⟨z, _, ch, rfl, rfl, line64 (by omega), atI_nat hch, _, _, rfl, ?_⟩
    have f12 := f1.trans f2
    refine ⟨_, rfl, rfl, _, rfl, ite2 (fun e => ?_) (fun e => ?_)⟩
    · exact iteT ⟨_, rfl, t2, fun t H3 _ s3 h3 => k _ (.look p) H3 hp (f12.trans (Frame.of s3)) ((hb2.same s3).mono (by omega)) ⟨t, rfl, h3⟩⟩
    refine ⟨_, rfl, rfl, _, rfl, itN (decF fun x => by have := V.int.inj x; omega) (iteF ?_)⟩
    refine ⟨_, rfl, rfl, _, rfl, ite2 (fun e => ?_) (fun e => ?_)⟩
    · exact ⟨_, rfl, t2, fun t H3 _ s3 h3 => k _ (.add p) H3 hp (f12.trans (Frame.of s3)) ((hb2.same s3).mono (by omega)) ⟨t, rfl, h3⟩⟩
    · refine ⟨_, rfl, rfl, _, rfl, ite2 (fun e => ?_) (fun e => ?_)⟩
      · refine ⟨_, rfl, _, rfl, _, _, rfl, rfl, _, rfl, _, rfl, _, _, rfl, rfl, a, c + 2, n - 1, by show [V.ref a, V.int ((n : Int) - 1)] = [V.ref a, V.int ((n - 1 : Nat) : Int)]; rw [show ((n : Int) - 1) = ((n - 1 : Nat) : Int) by omega], hb2, by omega, by omega, by omega, fun r H3 hr f3 hb3 => ⟨_, _, rfl, rfl, _, rfl, _, _, rfl, rfl, (show (0 : Int) < n by omega), t3, fun t H4 _ s4 h4 => ?_⟩⟩
        obtain ⟨q2, hq2, e2⟩ := mod_nat (x := (p : Int) + 1 + r) (show 1 ≤ n by omega)
        refine k _ (.meet p q2) H4 ⟨hp, hq2⟩ (((f1.trans f2).trans f3).trans (Frame.of s4)) (hb3.same s4) ⟨t, rfl, ?_⟩
        have h4 : H4 t = some (.tup [.str "meet", .int p, .int (((p : Int) + 1 + r) % n)]) := h4
        rw [h4, e2]
        rfl
      · refine ⟨_, rfl, _, rfl, _, _, rfl, rfl, _, rfl, _, rfl, _, _, rfl, rfl, a, c + 2, n - 1, by show [V.ref a, V.int ((n : Int) - 1)] = [V.ref a, V.int ((n - 1 : Nat) : Int)]; rw [show ((n : Int) - 1) = ((n - 1 : Nat) : Int) by omega], hb2, by omega, by omega, by omega, fun r H3 hr f3 hb3 => ⟨_, _, rfl, rfl, _, rfl, _, _, rfl, rfl, (show (0 : Int) < n by omega), t3, fun t H4 _ s4 h4 => ?_⟩⟩
        obtain ⟨q2, hq2, e2⟩ := mod_nat (x := (p : Int) + 1 + r) (show 1 ≤ n by omega)
        refine k _ (.tell p q2) H4 ⟨hp, hq2⟩ (((f1.trans f2).trans f3).trans (Frame.of s4)) (hb3.same s4) ⟨t, rfl, ?_⟩
        have h4 : H4 t = some (.tup [.str "tell", .int p, .int (((p : Int) + 1 + r) % n)]) := h4
        rw [h4, e2]
        rfl
end
end K43

-- K43L2
set_option Elab.async false
set_option linter.all false
set_option maxRecDepth 100000
set_option maxHeartbeats 4000000
/-! the law: _law_table, _law_live -/
namespace K43
open PySem PySem.Spec PyProof.Rows L2
theorem PT.imp {X : Cx} {e : Expr} {t t' : TT} (h : PT X e t) (i : ∀ σ H Q, t' σ H Q → t σ H Q) : PT X e t' := ⟨fun pins s σ H Q I q => h.run pins s σ H Q I (i _ _ _ q)⟩
abbrev cntL (a b c d : Int) : List (Key × V) := [(Sum.inr "look", .int a), (Sum.inr "add", .int b), (Sum.inr "meet", .int c), (Sum.inr "tell", .int d)]
def Cnt (H : Hp) (p : Addr) (a b c d : Int) : Prop := H p = some (.dK (cntL a b c d))
def cntE (a b c d : Int) : Ev → Int
  | .look _ => a
  | .add _ => b
  | .meet _ _ => c
  | .tell _ _ => d
theorem cnt_get {H : Hp} {p : Addr} {a b c d : Int} (h : Cnt H p a b c d) (e : Ev) : DGet H p (.str (evW e)) (some (.int (cntE a b c d e))) := by
  have q := DGet.k (k := Sum.inr (evW e)) h
  cases e <;> exact q
theorem cnt_put {H : Hp} {p : Addr} {a b c d : Int} (h : Cnt H p a b c d) (e : Ev) (x : Int) : ∃ a' b' c' d', DPut H p (.str (evW e)) (.int x) (upd H p (.dK (cntL a' b' c' d'))) := by
  have q := DPut.k (k := Sum.inr (evW e)) (v := .int x) h (line64' (by simp))
  cases e with
  | look _ => exact ⟨x, b, c, d, q⟩
  | add _ => exact ⟨a, x, c, d, q⟩
  | meet _ _ => exact ⟨a, b, x, d, q⟩
  | tell _ _ => exact ⟨a, b, c, x, q⟩
section
variable {P : Program} {w : World} {K : PySem.W.Frag} {mg : Str → Option Value} {base : Heap}
def spTable : Sp := fun vs H Q _ => ∃ a, ∃ c n laps most : Nat, ∃ z : Str, vs = [.ref a, .int n, .int laps, .str z, .int most] ∧ BoxAt H a c ∧ 3 ≤ n ∧ n ≤ 8 ∧ 1 ≤ laps ∧ laps ≤ 8 ∧ 1 ≤ most ∧ most ≤ 100 ∧ 1 ≤ z.cps.toList.length ∧ z.cps.toList.length ≤ 100 ∧ c ≤ 50000 ∧
  ∀ v es H', (∀ e ∈ es, e.okFor n) → es ≠ [] → es.length ≤ laps → Frame [a] H H' → BoxAt H' a (c + 3 * laps) → TabAt H' v n es → Q v H'
theorem sc_table : FnScope ["_law_box_here", "_law_folk", "_law_laps", "_law_words", "_law_most", "_law_found", "_law_count", "_law_lap", "_law_deed", "_law_both"] ["_law_box_here", "_law_folk", "_law_laps", "_law_words", "_law_most"] (defScope s_law_table) := ⟨rfl, rfl, rfl, by decide +kernel, rfl, by decide +kernel, by decide +kernel⟩
theorem ok_table {f : Addr} {fd : FuncData} (F : FunD K "_law_table" "_law_table" (defArgs s_law_table) (defBody s_law_table) (defScope s_law_table) [] [] f fd) (T : Txt K mg) (GE : GOk P w K mg base 2 "_law_event" ["_law_box_here", "_law_folk", "_law_words"] spEvent) :
    FnOk P w K mg base CX0 3 f fd ["_law_box_here", "_law_folk", "_law_laps", "_law_words", "_law_most"] spTable := by
  refine okD F sc_table (fun vs H Q E h => ?_) (fun cdv A0 outer s H vs Q E hr h => ?_)
  · obtain ⟨a, c, n, laps, most, z, rfl, _⟩ := h
    rfl
  · obtain ⟨a, c, n, laps, most, z, rfl, hb, hn3, hn8, hl1, hl8, hm1, hm2, hz1, hz2, hc, k⟩ := h
    have hu := hu_of hr
    refine ⟨_, pss_cons (ps_par (i := 5) (j := 6) rfl sc_table.nd rfl rfl (by decide) rfl rfl (pa_cons (pe_lstS pa_nil) (pa_cons (pe_disp (pps_cons pe_str pe_int (pps_cons pe_str pe_int (pps_cons pe_str pe_int (pps_cons pe_str pe_int pps_nil)))) rfl rfl (by simp) (by simp)) pa_nil)) rfl)
      (pss_cons (ps_for PassesOwn.never rfl (pi_range1 (by rfl) T.range (pa_cons (pv 2) pa_nil)) (pg_name (i := 7) sc_table.nd rfl (Or.inl rfl))
        (pss_cons (ps_set (i := 8) sc_table.nd rfl (Or.inl rfl) (pe_g GE hr (pa_cons (pv 0) (pa_cons (pv 1) (pa_cons (pv 3) pa_nil)))))
        (pss_cons (ps_set (i := 9) sc_table.nd rfl (Or.inl rfl) (pe_op op_add (pe_dget hu (pv 6) pe_str (fun _ _ => rfl)) (pe_dget hu (pv 6) pe_str (fun _ _ => rfl))))
        (pss_one (ps_if (PT.imp (t' := fun σ H Q => ∃ ea e d a1 b1 c1 d1, ∃ bo : Int, σ[8]? = some (some (.ref ea)) ∧ H ea = some (.tup (evV e)) ∧ σ[6]? = some (some (.ref d)) ∧ Cnt H d a1 b1 c1 d1 ∧ σ[4]? = some (some (.int most)) ∧ σ[9]? = some (some (.int bo)) ∧ ∀ r : Bool, (a1 < most → bo < 8 → r = true) → Q r H) (PW.pt (pw_or (pt_cmpR op_eq (pe_ix ix_tup (pv 8) pe_int (fun _ _ => rfl)) pe_str (nomark _)) (pw_or (PW.pt (pw_and (pt_cmpR op_eq (pe_ix ix_tup (pv 8) pe_int (fun _ _ => rfl)) pe_str (nomark _)) (pw_and1 (pt_cmpR op_lt (pe_dget hu (pv 6) pe_str (fun _ _ => rfl)) (pv 4) (nomark _))))) (pw_or1 (PW.pt (pw_and (pt_cmpR op_gt (pe_callB call_len_seq (by rfl) T.len PySem.boot_len (pa_cons (pv 8) pa_nil)) pe_int (nomark _)) (pw_and1 (pt_cmpR op_lt (pv 9) pe_int (nomark _))))))))) ?_)
          (pss_cons (ps_dput hu (pv 6) (pe_ix ix_tup (pv 8) pe_int (fun _ _ => rfl)) (pe_op op_add (pe_dget hu (pv 6) (pe_ix ix_tup (pv 8) pe_int (fun _ _ => rfl)) (fun _ _ => rfl)) pe_int) rfl)
          (pss_one (ps_expr (pe_bm PySem.F.plainAttrs_list PySem.F.slot_list_append PySem.F.type_list_append mt_append (pv 5) (pa_cons (pv 8) pa_nil))))) pss_nil)))))
      (pss_one (ps_ret (pe_tupS (pa_cons (pv 1) (pa_cons (pe_callTy call_tupleS (by rfl) T.tuple PyProof.Rows.boot_tuple (pa_cons (pv 5) pa_nil)) pa_nil)))))), ?_⟩
    · rintro σ H Q ⟨ea, e, d, a1, b1, c1, d1, bo, h8, hea, h6, hcnt, h4, h9, q⟩
      have ne : ∀ {x y : Str}, x ≠ y → ¬ decide (V.str x = V.str y) = true := fun h => decF fun z => h (V.str.inj z)
      refine ⟨_, h8, ea, _, 0, _, rfl, rfl, SqT.of hea, evV_0 e, rfl, _, rfl, ?_⟩
      cases e with
      | add p => exact itP (decide_eq_true rfl) (q true fun _ _ => rfl)
      | look p =>
        refine itN (ne (by show ¬ (("look" : Str) = "add"); decide +kernel)) ⟨_, h8, ea, _, 0, _, rfl, rfl, SqT.of hea, evV_0 _, rfl, _, rfl, itP (decide_eq_true rfl) ⟨_, h6, d, _, rfl, cnt_get hcnt (.look 0), _, h4, _, _, rfl, rfl, _, rfl, ite2 (fun c => q true fun _ _ => rfl) (fun c => ?_)⟩⟩
        exact ⟨_, h8, ea, _, rfl, .inr (SqT.of hea), _, _, rfl, rfl, _, rfl, itN (decF (by show ¬ ((2 : Int) < ((2 : Nat) : Int)); decide)) (q false fun h => absurd (decide_eq_true h) c)⟩
      | meet p r =>
        refine itN (ne (by show ¬ (("meet" : Str) = "add"); decide +kernel)) ⟨_, h8, ea, _, 0, _, rfl, rfl, SqT.of hea, evV_0 _, rfl, _, rfl, itN (ne (by show ¬ (("meet" : Str) = "look"); decide +kernel)) (iteF ?_)⟩
        exact ⟨_, h8, ea, _, rfl, .inr (SqT.of hea), _, _, rfl, rfl, _, rfl, itP (decide_eq_true (by show (2 : Int) < ((3 : Nat) : Int); decide)) ⟨_, h9, _, _, rfl, rfl, _, rfl, q _ fun _ h => decide_eq_true h⟩⟩
      | tell p r =>
        refine itN (ne (by show ¬ (("tell" : Str) = "add"); decide +kernel)) ⟨_, h8, ea, _, 0, _, rfl, rfl, SqT.of hea, evV_0 _, rfl, _, rfl, itN (ne (by show ¬ (("tell" : Str) = "look"); decide +kernel)) (iteF ?_)⟩
        exact ⟨_, h8, ea, _, rfl, .inr (SqT.of hea), _, _, rfl, rfl, _, rfl, itP (decide_eq_true (by show (2 : Int) < ((3 : Nat) : Int); decide)) ⟨_, h9, _, _, rfl, rfl, _, rfl, q _ fun _ h => decide_eq_true h⟩⟩
    · refine ⟨t0, fun fl H1 hfl s1 hv1 d hd => ⟨upd_same, cntL 0 0 0 0, rfl, by simp, _, _, rfl, ?_⟩⟩
      have hc0 : Cnt (upd (upd H1 d (.dK [])) d (.dK (mergeK [] (cntL 0 0 0 0)))) d 0 0 0 0 := by
        show upd _ d _ d = _
        rw [upd_same]
        rfl
      have s2 : Same H1 (upd (upd H1 d (.dK [])) d (.dK (mergeK [] (cntL 0 0 0 0)))) := fun b o e => by
        rw [upd_ne (ne_of_none e hd), upd_ne (ne_of_none e hd)]
        exact e
      generalize upd (upd H1 d (.dK [])) d (.dK (mergeK [] (cntL 0 0 0 0))) = H2 at hc0 s2 ⊢
      have hae : ∃ o, H a = some o := let ⟨_, _, _, q, _⟩ := hb; ⟨_, q⟩
      have nfa : fl ≠ a := fun e => by
        obtain ⟨o, q⟩ := hae
        rw [e, q] at hfl
        cases hfl
      have nda : d ≠ a := fun e => by
        obtain ⟨o, q⟩ := hae
        rw [e, s1 _ _ q] at hd
        cases hd
      have nfd : fl ≠ d := ne_of_none hv1 hd
      have hdH : H d = none := by
        cases e : H d with
        | none => rfl
        | some o => rw [s1 _ _ e] at hd; cases hd
      refine ⟨_, rfl, _, rfl, by omega, by omega, ?_⟩
      rw [Int.toNat_natCast]
      refine for_it walk_rg (fun i σ H' => ∃ es us a1 b1 c1 d1 o7 o8 o9, σ = [some (.ref a), some (.int n), some (.int laps), some (.str z), some (.int most), some (.ref fl), some (.ref d), o7, o8, o9] ∧ Frame [a] H H' ∧ BoxAt H' a (c + 3 * i) ∧ H' fl = some (.lst us) ∧ Paired (EvAt H') us es ∧
          (∀ e ∈ es, e.okFor n) ∧ es.length ≤ i ∧ (1 ≤ i → es ≠ []) ∧ (es = [] → a1 = 0 ∧ c1 = 0 ∧ d1 = 0) ∧ Cnt H' d a1 b1 c1 d1)
        ⟨[], [], 0, 0, 0, 0, none, none, none, rfl, Frame.of (s1.trans s2), hb.same (s1.trans s2), s2 _ _ hv1, .nil, fun _ h => (by cases h), Nat.le_refl _, fun h => by omega, fun _ => ⟨rfl, rfl, rfl⟩, hc0⟩ (fun _ _ _ _ _ => trivial) ?_ ?_
      · rintro i x σ H3 H4 hi ⟨es, us, a1, b1, c1, d1, o7, o8, o9, rfl, fr, hbx, hf, pr, hok, hlen, hne, hz, hcn⟩ ⟨rfl, rfl⟩
        refine ⟨_, rfl, _, rfl, _, rfl, a, c + 3 * i, n, z, rfl, hbx, hn3, hn8, hz1, hz2, by omega, fun v e H5 hoke f5 hb5 ⟨ea, ev, hea⟩ => ?_⟩
        subst ev
        have at5 : ∀ {b : Addr} {o : HO}, H4 b = some o → b ≠ a → H5 b = some o := fun h n => f5.at1 h n
        have hae4 : ∃ l, H4 a = some (.lst l) := let ⟨_, _, _, q, _⟩ := hbx; ⟨_, q⟩
        have t45 : Tups H4 H5 := fun b l h => at5 h fun e => by
          obtain ⟨l2, q⟩ := hae4
          rw [e, q] at h
          cases h
        have hf5 := at5 hf nfa
        have hcn5 : Cnt H5 d a1 b1 c1 d1 := at5 hcn nda
        have pr5 := paired_mono (fun _ _ z => EvAt.tups t45 z) pr
        refine ⟨_, rfl, d, _, rfl, cnt_get hcn5 (.meet 0 0), _, rfl, d, _, rfl, cnt_get hcn5 (.tell 0 0), _, _, rfl, rfl, ?_⟩
        refine ⟨ea, e, d, a1, b1, c1, d1, c1 + d1, rfl, hea, rfl, hcn5, rfl, rfl, fun r hr => ?_⟩
        have hb6 : BoxAt H5 a (c + 3 * (i + 1)) := hb5.mono (by omega)
        cases r with
        | false =>
          have hes : es ≠ [] := fun z => by
            obtain ⟨h1, h2, h3⟩ := hz z
            have := hr (by omega) (by omega)
            cases this
          exact iteF ⟨es, us, a1, b1, c1, d1, _, _, _, rfl, fr.trans f5, hb6, hf5, pr5, hok, by omega, fun _ => hes, hz, hcn5⟩
        | true =>
          obtain ⟨a2, b2, c2, d2, hput⟩ := cnt_put hcn5 e (cntE a1 b1 c1 d1 e + 1)
          refine iteT ⟨_, rfl, _, rfl, ea, _, 0, _, rfl, rfl, SqT.of hea, evV_0 e, d, _, rfl, cnt_get hcn5 e, _, _, rfl, rfl, _, rfl, _, rfl, ea, _, 0, _, rfl, rfl, SqT.of hea, evV_0 e, d, _, rfl, hput, ?_⟩
          have away : ∀ {b : Addr} {o : HO}, H5 b = some o → (∀ l, o ≠ .dK l) → upd H5 d (.dK (cntL a2 b2 c2 d2)) b = some o := fun h n => by
            rw [upd_ne (ne_of h hcn5 (n _))]
            exact h
          have hcn6 : Cnt (upd H5 d (.dK (cntL a2 b2 c2 d2))) d a2 b2 c2 d2 := upd_same
          have hf6 := away hf5 fun _ z => by cases z
          have hea6 := away hea fun _ z => by cases z
          have t6 : Tups H5 (upd H5 d (.dK (cntL a2 b2 c2 d2))) := fun b l h => away h fun _ z => by cases z
          have hbx6 : BoxAt (upd H5 d (.dK (cntL a2 b2 c2 d2))) a (c + 3 * (i + 1)) := by
            obtain ⟨bg, sd, nn, q1, q2⟩ := hb6
            exact ⟨bg, sd, nn, away q1 (fun _ z => by cases z), q2⟩
          have fr6 : Frame [a] H (upd H5 d (.dK (cntL a2 b2 c2 d2))) := fun b o e m => by
            rw [upd_ne (ne_of_none e hdH)]
            exact (fr.trans f5) b o e m
          generalize upd H5 d (.dK (cntL a2 b2 c2 d2)) = H6 at hcn6 hf6 hea6 t6 hbx6 fr6 ⊢
          have hlenu := paired_len pr
          refine ⟨_, rfl, .inl ⟨rfl, _, SqL.of hf6⟩, _, rfl, fl, us, _, rfl, rfl, hf6, line64' (by omega), es ++ [e], us ++ [.ref ea], a2, b2, c2, d2, _, _, _, rfl, ?_, ?_, upd_same, ?_, fun x hx => ?_, by rw [List.length_append]; simp only [List.length_cons, List.length_nil]; omega, fun _ => by simp, fun h => by simp at h, ?_⟩
          · intro b o e m
            rw [upd_ne (ne_of_none e (by
              cases q : H fl with
              | none => rfl
              | some o => rw [q] at hfl; cases hfl))]
            exact fr6 b o e m
          · obtain ⟨bg, sd, nn, q1, q2⟩ := hbx6
            exact ⟨bg, sd, nn, by rw [upd_ne (Ne.symm nfa)]; exact q1, q2⟩
          · have t7 := lst_tups hf6 (o := .lst (us ++ [V.ref ea]))
            exact paired_snoc ⟨ea, rfl, t7 _ _ hea6⟩ (paired_mono (fun _ _ z => EvAt.tups t7 (EvAt.tups t6 z)) pr5)
          · rcases List.mem_append.mp hx with h | h
            · exact hok x h
            · rw [List.mem_singleton.mp h]; exact hoke
          · show upd H6 fl _ d = _
            rw [upd_ne (Ne.symm nfd)]
            exact hcn6
      · rintro σ H3 ⟨es, us, a1, b1, c1, d1, o7, o8, o9, rfl, fr, hbx, hf, pr, hok, hlen, hne, hz, hcn⟩
        refine ⟨_, rfl, _, rfl, fl, us, rfl, .inl ⟨SqL.of hf, fun q H4 hq s4 h4 => ⟨t2, fun t H5 ht s5 h5 => ?_⟩⟩⟩
        have s45 := s4.trans s5
        exact k _ es H5 hok (hne hl1) hlen (fr.trans (Frame.of s45)) (hbx.same s45) ⟨t, q, rfl, h5, us, s5 _ _ h4, paired_mono (fun _ _ z => z.same s45) pr⟩
end
end K43

-- K43L3
set_option Elab.async false
set_option linter.all false
set_option maxRecDepth 100000
set_option maxHeartbeats 4000000
/-! the law: _law_live -/
namespace K43
open PySem PySem.Spec PyProof.Rows L2
theorem looks_pos : ∀ {es : List Ev} {k : Nat} {e : Ev}, e ∈ es → evW e = "look" → 0 < (looksK k es).length
  | x :: r, k, e, h, he => by
    rcases List.mem_cons.mp h with rfl | h
    · cases e with
      | look p => simp [looksK]
      | add p => exact absurd he (by show ¬ (("add" : Str) = "look"); decide +kernel)
      | meet p q => exact absurd he (by show ¬ (("meet" : Str) = "look"); decide +kernel)
      | tell p q => exact absurd he (by show ¬ (("tell" : Str) = "look"); decide +kernel)
    · have := looks_pos (k := k + 1) h he
      cases x <;> simp [looksK] <;> omega
section
variable {P : Program} {w : World} {K : PySem.W.Frag} {mg : Str → Option Value} {base : Heap}
def spLive : Sp := fun vs H Q _ => ∃ a, ∃ c n laps most : Nat, vs = [.ref a, .int n, .int laps, .int most] ∧ BoxAt H a c ∧ 3 ≤ n ∧ n ≤ 8 ∧ 1 ≤ laps ∧ laps ≤ 8 ∧ 1 ≤ most ∧ most ≤ 100 ∧ c ≤ 40000 ∧
  ∀ v es H', (∀ e ∈ es, e.okFor n) → 1 ≤ (looksF es).length → es.length ≤ laps + 1 → Frame [a] H H' → BoxAt H' a (c + 3 * laps + 1) → TabAt H' v n es → Q v H'
theorem sc_live : FnScope ["_law_box_here", "_law_folk", "_law_laps", "_law_most", "_law_table_here", "_law_deed"] ["_law_box_here", "_law_folk", "_law_laps", "_law_most"] (defScope s_law_live) := ⟨rfl, rfl, rfl, by decide +kernel, rfl, by decide +kernel, by decide +kernel⟩
theorem ok_live {f : Addr} {fd : FuncData} (F : FunD K "_law_live" "_law_live" (defArgs s_law_live) (defBody s_law_live) (defScope s_law_live) [] [] f fd) (T : Txt K mg) (GT : GOk P w K mg base 1 "_law_take" ["_law_box_here", "_law_below"] spTake)
    (GTa : GOk P w K mg base 3 "_law_table" ["_law_box_here", "_law_folk", "_law_laps", "_law_words", "_law_most"] spTable) : FnOk P w K mg base CX0 4 f fd ["_law_box_here", "_law_folk", "_law_laps", "_law_most"] spLive := by
  refine okD F sc_live (fun vs H Q E h => ?_) (fun cdv A0 outer s H vs Q E hr h => ?_)
  · obtain ⟨a, c, n, laps, most, rfl, _⟩ := h
    rfl
  · obtain ⟨a, c, n, laps, most, rfl, hb, hn3, hn8, hl1, hl8, hm1, hm2, hc, k⟩ := h
    have hr1 := hr.mono (show 1 ≤ 3 by decide)
    refine ⟨_, pss_cons (ps_set (i := 4) sc_live.nd rfl (Or.inl rfl) (pe_g GTa hr (pa_cons (pv 0) (pa_cons (pv 1) (pa_cons (pv 2) (pa_cons pe_str (pa_cons (pv 3) pa_nil)))))))
      (pss_cons (ps_if (pt_cmpR op_in_seq pe_str (pe_lc (own := [("_law_deed", 5)]) (g := gName 5) (tt := tYes) (te := tOp (rIxT K) (tVar 5) (tC (.int 0))) rfl sc_live.nd (pi_tup (pe_ix ix_tup (pv 4) pe_int (fun _ _ => rfl)))
          (blkOk_by (own := [("_law_deed", 5)]) (N := ["_law_box_here", "_law_folk", "_law_laps", "_law_most", "_law_table_here", "_law_deed"]) (sc := defScope s_law_live) (by decide +kernel)) (fun _ _ _ _ _ => pg_name (i := 5) sc_live.nd rfl (Or.inl rfl)) (fun _ _ _ _ _ => pts_nil)
          (fun _ _ _ _ _ => pe_ix ix_tup (pv 5) pe_int (fun _ _ => rfl))) (by rfl)) (pss_one (ps_ret (pv 4))) pss_nil)
      (pss_one (ps_ret (pe_tupS (pa_cons (pv 1) (pa_cons (pe_op op_catT (pe_ix ix_tup (pv 4) pe_int (fun _ _ => rfl)) (pe_tupS (pa_cons (pe_tupS (pa_cons pe_str (pa_cons (pe_g GT hr1 (pa_cons (pv 0) (pa_cons (pv 1) pa_nil))) pa_nil))) pa_nil))) pa_nil)))))), ?_⟩
    refine ⟨_, rfl, _, rfl, _, rfl, _, rfl, a, c, n, laps, most, "llaammtt", rfl, hb, hn3, hn8, hl1, hl8, hm1, hm2, by decide +kernel, by decide +kernel, by omega, fun v es H1 hok hne hlen f1 hb1 ⟨ta, ev, ev1, hta, us, hus, pr⟩ => ?_⟩
    subst ev1
    refine ⟨_, rfl, ta, _, 1, _, rfl, rfl, SqT.of hta, rfl, ev, rfl, ⟨_, SqT.of hus⟩, ?_⟩
    refine lc_flat walk_tup (fun i => (es[i]?).map fun e => .str (evW e)) (by rw [paired_len pr]; omega) (fun H2 s2 => SqT.of (s2 _ _ hus)) ?_ ?_
    · rintro i x H2 H3 Ky Kn hi s2 ⟨rfl, hx⟩ ky kn
      obtain ⟨e, he, ea, rfl, hea⟩ := paired_at pr hx
      exact ⟨rfl, iteT (B := Kn H3) ⟨_, rfl, ea, _, 0, _, rfl, rfl, SqT.of (s2 _ _ hea), evV_0 e, ky _ _ (Same.refl _) (by rw [he]; rfl)⟩⟩
    · intro D H2 hD s2 hl2
      rw [paired_len pr, map_at] at hl2
      have hflat : (es.map fun e => V.str (evW e)).all flatV = true := by
        rw [List.all_map, List.all_eq_true]
        exact fun _ _ => rfl
      have ht2 : TabAt H2 (.ref ta) n es := ⟨ta, ev, rfl, s2 _ _ hta, us, s2 _ _ hus, paired_mono (fun _ _ z => z.same s2) pr⟩
      refine ⟨D, _, rfl, .inl (SqL.of hl2), rfl, hflat, _, rfl, ite2 (fun c1 => ?_) (fun c1 => ?_)⟩
      · rw [if_neg Bool.false_ne_true] at c1
        unfold inV at c1
        rw [List.any_map, List.any_eq_true] at c1
        obtain ⟨e, he, c2⟩ := c1
        have c3 : evW e = "look" := by
          have : decide (evW e = "look") = true := c2
          exact of_decide_eq_true this
        refine ⟨_, rfl, k _ es H2 hok (looks_pos he c3) (by omega) (f1.trans (Frame.of s2)) ((hb1.same s2).mono (by omega)) ht2⟩
      · refine ⟨_, rfl, _, rfl, ta, _, 1, _, rfl, rfl, SqT.of (s2 _ _ hta), rfl, _, rfl, _, rfl, a, c + 3 * laps, n, rfl, hb1.same s2, by omega, by omega, by omega, fun r H3 hr3 f3 hb3 => ⟨t2, fun t H4 ht s4 h4 => ⟨t1, fun q H5 hq s5 h5 => ?_⟩⟩⟩
        have hae : ∃ l, H2 a = some (.lst l) := let ⟨_, _, _, q, _⟩ := hb1.same s2; ⟨_, q⟩
        have t23 : Tups H2 H3 := fun b l h => f3.at1 h fun e => by
          obtain ⟨l2, q⟩ := hae
          rw [e, q] at h
          cases h
        have hus5 : H5 ev = some (.tup us) := s5 _ _ (s4 _ _ (t23 _ _ (s2 _ _ hus)))
        have lus : us ≠ [] := fun z => by
          have := paired_len pr
          rw [z] at this
          exact hne (List.eq_nil_of_length_eq_zero this.symm)
        have lenus := paired_len pr
        refine ⟨ev, q, us, _, rfl, rfl, SqT.of hus5, SqT.of h5, lus, by rw [sizeLine_eq]; simp only [List.length_cons, List.length_nil]; omega, fun z => (by cases z), fun _ p hp => ?_⟩
        have s6 : Same H5 (upd H5 p (.tup (us ++ [V.ref t]))) := same_new hp
        have h6 : upd H5 p (.tup (us ++ [V.ref t])) p = some (.tup (us ++ [V.ref t])) := upd_same
        generalize upd H5 p (.tup (us ++ [V.ref t])) = H6 at s6 h6 ⊢
        refine ⟨t2, fun r2 H7 _ s7 h7 => ?_⟩
        have s47 := ((s5.trans s6).trans s7)
        refine k _ (es ++ [.look r]) H7 (fun x hx => ?_) ?_ (by rw [List.length_append]; simp only [List.length_cons, List.length_nil]; omega) (((f1.trans (Frame.of s2)).trans f3).trans (Frame.of (s4.trans s47))) (hb3.same (s4.trans s47)) ⟨r2, p, rfl, h7, us ++ [.ref t], s7 _ _ h6, ?_⟩
        · rcases List.mem_append.mp hx with h | h
          · exact hok x h
          · rw [List.mem_singleton.mp h]; exact hr3
        · rw [looksF_app, List.length_append]
          simp only [looksK, List.length_cons, List.length_nil]
          omega
        · exact paired_snoc ⟨t, rfl, s47 _ _ h4⟩ (paired_mono (fun _ _ z => (EvAt.tups t23 (z.same s2)).same (s4.trans s47)) pr)
end
end K43

-- K43Dt
set_option Elab.async false
set_option linter.all false
set_option maxRecDepth 100000
set_option maxHeartbeats 4000000
/-! dict(list of (pair, True)), d.update(d2) with pairs as keys -/
namespace K43
open PySem PySem.Spec PyProof.Rows L2
theorem putK_eT_old {q : Pr} {A : List Pr} (h : q ∈ A) : putK (A.map eT) (pk q) (.bl true) = A.map eT := by
  unfold putK
  have hs : ((A.map eT).any fun kv => decide (kv.1 = pk q)) = true := by rw [valV_any, isSome_eT, decide_eq_true h]
  rw [if_pos hs]
  have key : ∀ l : List Pr, ((l.map eT).map fun kv => if kv.1 = pk q then (kv.1, V.bl true) else kv) = l.map eT := fun l => by
    rw [List.map_map]
    refine List.map_congr_left fun p _ => ?_
    show (if (eT p).1 = pk q then ((eT p).1, V.bl true) else eT p) = eT p
    split
    · rfl
    · rfl
  exact key A
/-- put in, there or not -/
theorem putK_eT_any (q : Pr) {A : List Pr} (nd : A.Nodup) : ∃ A' : List Pr, putK (A.map eT) (pk q) (.bl true) = A'.map eT ∧ A'.Nodup ∧ (∀ p, p ∈ A' ↔ p ∈ A ∨ p = q) ∧ A.length ≤ A'.length := by
  by_cases h : q ∈ A
  · exact ⟨A, putK_eT_old h, nd, fun p => ⟨.inl, fun z => z.elim id fun e => by rw [e]; exact h⟩, Nat.le_refl _⟩
  · refine ⟨A ++ [q], putK_eT h, List.nodup_append.mpr ⟨nd, by simp, fun a ha b hb => ?_⟩, fun p => by simp, by simp⟩
    rw [List.mem_singleton.mp hb]
    exact fun e => h (e ▸ ha)
/-- a tuple of a pair and True -/
def PTAt (H : Hp) (v : V) (q : Pr) : Prop := ∃ p b, v = .ref p ∧ H p = some (.tup [.ref b, .bl true]) ∧ H b = some (.tup ((pk q).map kV))
theorem paired_flip {α β : Type} {R : α → β → Prop} : ∀ {xs : List α} {ys : List β}, Paired R xs ys → Paired (fun b a => R a b) ys xs
  | _, _, .nil => .nil
  | _, _, .cons r t => .cons r (paired_flip t)
theorem stored_more {H : Hp} : ∀ {ps : List (List Key × Addr × Value)} {qs : List Pr}, Paired (fun (x : List Key × Addr × Value) q => x.1 = pk q ∧ H x.2.1 = some (.tup ((pk q).map kV)) ∧ x.2.2 = .bool true) ps qs → ∀ {A : List Pr} {xs : List (List Key × Addr × Value)}, A.Nodup → KT H (A.map eT) xs →
    ∃ A' : List Pr, A'.Nodup ∧ (∀ p, p ∈ A' ↔ p ∈ A ∨ p ∈ qs) ∧ KT H (A'.map eT) (storedAllH xs ps) ∧ A.length ≤ A'.length
  | _, _, .nil, A, xs, nd, k => ⟨A, nd, fun p => by simp, k, Nat.le_refl _⟩
  | _, _, .cons (a := x) (b := q) r t, A, xs, nd, k => by
    obtain ⟨e1, e2, e3⟩ := r
    obtain ⟨A1, h1, h2, h3, h4⟩ := putK_eT_any q nd
    have k1 : KT H (A1.map eT) (storedH xs x.1 x.2.1 x.2.2) := by
      rw [← h1, e1, e3]
      exact k.put (pk q) e2 rfl
    obtain ⟨A2, g1, g2, g3, g4⟩ := stored_more t h2 k1
    refine ⟨A2, g1, fun p => ?_, g3, by omega⟩
    rw [g2, h3, List.mem_cons, or_assoc]
section
variable {X : Cx} {pins : List (Addr × Obj)} {σ : L2.St} {H : Hp} {s : Shared}
theorem pt_items (I : Inv X pins σ H s) : ∀ {vs : List V} {qs : List Pr} {us : List Value}, Paired (PTAt H) vs qs → Vals vs us →
    ∃ (ts : List Addr) (prs : List (Value × Value)) (ps : List (List Key × Addr × Value)), us = ts.map Value.ref ∧ ts.length = prs.length ∧ ps.length = prs.length ∧
      (∀ (j : Nat) (k v : Value), prs[j]? = some (k, v) → ∃ (p b : Addr), ts[j]? = some p ∧ s.heap.IsTuple p #[k, v] ∧ k = .ref b ∧ ps[j]? = some ((ps[j]?.getD ([], 0, .none)).1, b, v)) ∧
      Paired (fun (x : List Key × Addr × Value) q => x.1 = pk q ∧ H x.2.1 = some (.tup ((pk q).map kV)) ∧ x.2.2 = .bool true) ps qs
  | _, _, _, .nil, .nil => ⟨[], [], [], rfl, rfl, rfl, fun j k v h => by simp at h, .nil⟩
  | _, _, _, .cons (b := q) r t, .cons rv rt => by
    obtain ⟨ts, prs, ps, h1, h2, h3, h4, h5⟩ := pt_items I t rt
    obtain ⟨p, b, e, hp, hb⟩ := r
    subst e
    have e2 := rv
    cases rv
    obtain ⟨its, ri, ht, _⟩ := I.tuple (SqT.of hp)
    obtain ⟨u, w, ei, ru, rw'⟩ := vals2 ri
    subst ei
    cases ru
    cases rw'
    refine ⟨p :: ts, (.ref b, .bool true) :: prs, (pk q, b, .bool true) :: ps, by rw [h1]; rfl, by simp [h2], by simp [h3], fun j k v h => ?_, .cons ⟨rfl, hb, rfl⟩ h5⟩
    cases j with
    | zero =>
      have h : (Value.ref b, Value.bool true) = (k, v) := Option.some.inj h
      cases h
      exact ⟨p, b, rfl, ht, rfl, rfl⟩
    | succ j => exact h4 j k v h
def rDictT : List V → Hp → VK → Prop := fun xs H Q => ∃ a vs, ∃ qs : List Pr, xs = [.ref a] ∧ H a = some (.lst vs) ∧ Paired (PTAt H) vs qs ∧ qs.length ≤ 1000 ∧ ∀ p (A : List Pr) H', H p = none → A.Nodup → (∀ q, q ∈ A ↔ q ∈ qs) → Same H H' → H' p = some (.dT (A.map eT)) → Q (.ref p) H'
theorem cr_dictT (hc : X.calm = true) (hu : X.A.units + 2 < cLine) : CallR X (.type "dict") rDictT := by
  intro pins s σ H xs us Q I r h
  obtain ⟨a, vs, qs, rfl, ha, pr, hlen, q⟩ := h
  rw [Vals.ref1 r]
  obtain ⟨its, rv, pl, hz⟩ := I.list (SqL.of (K := X.K) ha)
  obtain ⟨ts, prs, ps, h1, h2, h3, h4, h5⟩ := pt_items I pr rv
  have hls := paired_len h5
  obtain ⟨o, n, ho, hcl, hd, hdat⟩ := pl
  have hsz : its.toArray.size = prs.length := by rw [List.size_toArray, h1, List.length_map, h2]
  have hn : H s.heap.objs.size = none := I.hok.fresh (Nat.le_refl _)
  have ok : PlainSeq "list" s.heap a its.toArray ∧ PairItems s.heap its.toArray (fun j => ts.getD j 0) prs := by
    refine ⟨⟨o, n, ho, hcl, hd, hdat⟩, hsz, fun j k v hj => ?_⟩
    obtain ⟨p, b, e1, e2, _, _⟩ := h4 j k v hj
    have e3 : ts.getD j 0 = p := by rw [List.getD_eq_getElem?_getD, e1]; rfl
    refine ⟨?_, .inl (by show s.heap.IsTuple (ts.getD j 0) #[k, v]; rw [e3]; exact e2)⟩
    show its.toArray[j]? = some (.ref (ts.getD j 0))
    rw [e3]
    rw [List.getElem?_toArray, h1, List.getElem?_map, e1]
    rfl
  refine call_dict_pairsH (knd := tupleKind (mixKind X.prog X.w)) (ps := ps) (PairArg.list a its.toArray (fun j => ts.getD j 0) prs) (I.ok.hd hc) (show X.A.in1.in1.units < cLine by show X.A.units + 1 + 1 < cLine; omega) ok ⟨h3, fun j k v hj => ?_⟩ (fun h' hk x hx => ?_) (by rw [sizeLine_eq]; omega) fun h' tk hd' hk => ?_
  · obtain ⟨p, b, _, _, e3, e4⟩ := h4 j k v hj
    exact ⟨_, b, e4, e3⟩
  · obtain ⟨j, hj⟩ := List.mem_iff_getElem?.mp hx
    obtain ⟨q', hq', e1, e2, _⟩ := paired_at' (paired_flip h5) hj
    have hb := key_of I.hok e2
    rw [e1]
    obtain ⟨o', items, n', ho', hc', hd2, hi⟩ := hb
    exact ⟨o', items, n', hk _ _ (fun z => by rw [z, hn] at e2; cases e2) (by simp) ho', hc', hd2, hi⟩
  · obtain ⟨A', g1, g2, g3, g4⟩ := stored_more (A := []) (xs := []) h5 List.nodup_nil .nil
    have hm : (s.heap.objs.size == sysModules) = false := beq_eq_false_iff_ne.mpr (Nat.ne_of_gt I.big)
    obtain ⟨oq, es, ep, q1, q2, q3, q4, _, q5⟩ := hd'
    have lenA : (A'.map eT).length ≤ sizeLine := by
      have := storedAllH_length ps []
      have h6 := paired_len g3
      rw [sizeLine_eq]
      rw [List.length_nil, Nat.zero_add] at this
      omega
    refine ⟨.ref s.heap.objs.size, upd H s.heap.objs.size (.dT (A'.map eT)), I.laid (t' := tk) (fun b o e => hk b o (by simp) e) (Nat.le_refl _) ⟨lenA, hm, _, g3.keeps fun b ys e => ?_, oq, es, ep, q1, q2, q3, q4, q5⟩, rfl, q _ A' _ hn g1 (fun p => by rw [g2]; simp) (same_new hn) upd_same⟩
    rw [upd_ne (ne_of_none e hn)]
    exact e
/-- hashes of small pairs -/
def hP (p : Nat × Nat) : Int := reduceHash (Builtin.Tuple.tupleHashOf [hashInt (p.1 : Int), hashInt (p.2 : Int)])
theorem hP_nodup : (((List.range 8).flatMap fun i => (List.range 8).map fun j => ((i, j) : Nat × Nat)).map hP).Nodup := by decide +kernel
theorem hP_inj {p q : Nat × Nat} (hp : p.1 < 8 ∧ p.2 < 8) (hq : q.1 < 8 ∧ q.2 < 8) (h : hP p = hP q) : p = q := by
  have mem : ∀ r : Nat × Nat, r.1 < 8 ∧ r.2 < 8 → r ∈ (List.range 8).flatMap fun i => (List.range 8).map fun j => ((i, j) : Nat × Nat) := fun r hr =>
    List.mem_flatMap.mpr ⟨r.1, List.mem_range.mpr hr.1, List.mem_map.mpr ⟨r.2, List.mem_range.mpr hr.2, rfl⟩⟩
  have nd := hP_nodup
  generalize ((List.range 8).flatMap fun i => (List.range 8).map fun j => ((i, j) : Nat × Nat)) = l at mem nd
  have key : ∀ l : List (Nat × Nat), (l.map hP).Nodup → ∀ p ∈ l, ∀ q ∈ l, hP p = hP q → p = q := fun l => by
    induction l with
    | nil => intro _ p hp; cases hp
    | cons x r ih =>
      intro nd p hp q hq e
      obtain ⟨h1, h2⟩ := List.nodup_cons.mp nd
      rcases List.mem_cons.mp hp with ep | hp' <;> rcases List.mem_cons.mp hq with eq | hq'
      · rw [ep, eq]
      · exact absurd (List.mem_map.mpr ⟨q, hq', by rw [← e, ep]⟩) h1
      · exact absurd (List.mem_map.mpr ⟨p, hp', by rw [e, eq]⟩) h1
      · exact ih h2 p hp' q hq' e
  exact key l nd p (mem p hp) q (mem q hq) h
def rUpdT : V → List V → Hp → VK → Prop := fun x xs H Q => ∃ d o, ∃ A B : List Pr, x = .ref d ∧ xs = [.ref o] ∧ H d = some (.dT (A.map eT)) ∧ H o = some (.dT (B.map eT)) ∧ d ≠ o ∧ A.Nodup ∧ B.Nodup ∧ (∀ q ∈ B, q.1 < 8 ∧ q.2 < 8) ∧ A.length ≤ 1000 ∧ B.length ≤ 1000 ∧
  ∀ A' : List Pr, A'.Nodup → (∀ q, q ∈ A' ↔ q ∈ A ∨ q ∈ B) → Q .non (upd H d (.dT (A'.map eT)))
theorem kt_keys {H : Hp} : ∀ {B : List Pr} {xs : List (List Key × Addr × Value)}, KT H (B.map eT) xs → Paired (fun (x : List Key × Addr × Value) q => x.1 = pk q ∧ H x.2.1 = some (.tup ((pk q).map kV)) ∧ x.2.2 = .bool true) xs B
  | [], _, k => by cases k; exact .nil
  | q :: r, _, k => by
    cases k with
    | cons h t =>
      refine .cons ⟨h.1.symm, h.2.1, ?_⟩ (kt_keys t)
      have : RelV (.bl true) _ := h.2.2
      exact this
theorem mt_updT (hu : X.A.units + 1 < cLine) : MtR X "dict.update" rUpdT := by
  intro pins s σ H x xs v us Q I rx rxs h
  obtain ⟨d, o, A, B, rfl, rfl, hd, ho, hne, ndA, ndB, hB, lA, lB, q⟩ := h
  cases rx
  rw [Vals.ref1 rxs]
  obtain ⟨z1, m1, x1, k1, d1⟩ := dt_of I.hok hd
  obtain ⟨z2, m2, x2, k2, d2⟩ := dt_of I.hok ho
  have l1 := paired_len k1
  have l2 := paired_len k2
  rw [List.length_map] at l1 l2
  have kk := kt_keys k2
  have hashes : (x2.map fun x => (tupleKind (mixKind X.prog X.w)).hash x.1) = B.map hP := by
    have : ∀ {xs : List (List Key × Addr × Value)} {B : List Pr}, Paired (fun (x : List Key × Addr × Value) q => x.1 = pk q ∧ H x.2.1 = some (.tup ((pk q).map kV)) ∧ x.2.2 = .bool true) xs B → (xs.map fun x => (tupleKind (mixKind X.prog X.w)).hash x.1) = B.map hP := fun p => by
      induction p with
      | nil => rfl
      | cons r _ ih =>
        rw [List.map_cons, List.map_cons, ih, r.1]
        rfl
    exact this kk
  have nd2 : (x2.map fun x => (tupleKind (mixKind X.prog X.w)).hash x.1).Nodup := by
    rw [hashes]
    have key : ∀ l : List Pr, l.Nodup → (∀ q ∈ l, q.1 < 8 ∧ q.2 < 8) → (l.map hP).Nodup := fun l => by
      induction l with
      | nil => intro _ _; exact List.nodup_nil
      | cons y r ih =>
        intro nd h8
        obtain ⟨h1, h2⟩ := List.nodup_cons.mp nd
        rw [List.map_cons]
        refine List.nodup_cons.mpr ⟨fun m => ?_, ih h2 fun q hq => h8 q (List.mem_cons_of_mem _ hq)⟩
        obtain ⟨z, hz, e⟩ := List.mem_map.mp m
        have := hP_inj (h8 z (List.mem_cons_of_mem _ hz)) (h8 y List.mem_cons_self) e
        exact h1 (this ▸ hz)
    exact key B ndB hB
  have ty : ∀ x ∈ x2, s.TypeIs (.ref x.2.1) "tuple" := fun x hx => by
    obtain ⟨j, hj⟩ := List.mem_iff_getElem?.mp hx
    obtain ⟨q', _, _, e2, _⟩ := paired_at kk hj
    obtain ⟨o', _, _, h1, h2, _⟩ := key_of (P := X.prog) (w := X.w) I.hok e2
    exact ⟨o', h1, h2⟩
  refine call_update_dictH (knd := tupleKind (mixKind X.prog X.w)) (tupleKind_room_in1 hu) hne m2 d1 d2 (.inr ⟨ty, nd2⟩) (by rw [sizeLine_eq]; omega) fun h' hd' _ hs => ?_
  obtain ⟨A', g1, g2, g3, g4⟩ := stored_more kk ndA k1
  obtain ⟨oq, es, ep, q1, q2, q3, q4, _, q5⟩ := hd'
  have lenA : (A'.map eT).length ≤ sizeLine := by
    have h5 := storedAllH_length x2 x1
    have h6 := paired_len g3
    rw [sizeLine_eq]
    omega
  refine ⟨.non, upd H d (.dT (A'.map eT)), d_write (t' := s.toks) I (by rw [hd]; exact True.intro) hs ⟨oq, q1⟩ ⟨lenA, m1, _, g3.keeps fun c ys e => ?_, oq, es, ep, q1, q2, q3, q4, q5⟩, rfl, q A' g1 g2⟩
  rw [upd_ne (ne_of e hd (fun z => nomatch z))]
  exact e
end
end K43

-- K43L4
set_option Elab.async false
set_option linter.all false
set_option maxRecDepth 100000
set_option maxHeartbeats 4000000
/-! the law: _law_crossed -/
namespace K43
open PySem PySem.Spec PyProof.Rows L2
section
variable {P : Program} {w : World} {K : PySem.W.Frag} {mg : Str → Option Value} {base : Heap}
def spCrossed : Sp := fun vs H Q _ => ∃ a b, ∃ xs ys : List Nat, ∃ m : Nat, vs = [.ref a, .ref b] ∧ NL H a xs ∧ NL H b ys ∧ (∀ k ∈ xs, k < m) ∧ (∀ k ∈ ys, k < m) ∧ xs.length ≤ 16 ∧ ys.length ≤ 16 ∧
  ∀ l H' (ps : List Pr), H l = none → Same H H' → PrL H' l ps → (∀ p ∈ ps, p.1 < m ∧ p.2 < m) → ps.length ≤ 1000 → Q (.ref l) H'
theorem sc_crossed : FnScope ["_law_some", "_law_more", "_law_found", "_law_one", "_law_two"] ["_law_some", "_law_more"] (defScope s_law_crossed) := ⟨rfl, rfl, rfl, by decide +kernel, rfl, by decide +kernel, by decide +kernel⟩
/-- the partners of x, put in order by f -/
def parts (ys : List Nat) (x : Nat) (f : Nat → Pr) : List Pr := (List.range ys.length).filterMap fun j => (ys[j]?).bind fun y => if y = x then none else some (f y)
theorem parts_len (ys : List Nat) (x : Nat) (f : Nat → Pr) : (parts ys x f).length ≤ ys.length := by
  have := List.length_filterMap_le (fun j => (ys[j]?).bind fun y => if y = x then none else some (f y)) (List.range ys.length)
  rwa [List.length_range] at this
theorem parts_mem {ys : List Nat} {x : Nat} {f : Nat → Pr} {p : Pr} (h : p ∈ parts ys x f) : ∃ y ∈ ys, p = f y := by
  obtain ⟨j, _, e⟩ := List.mem_filterMap.mp h
  obtain ⟨y, hy, e2⟩ := Option.bind_eq_some_iff.mp e
  refine ⟨y, List.mem_of_getElem? hy, ?_⟩
  split at e2
  · cases e2
  · exact (Option.some.inj e2).symm
theorem ok_crossed {f : Addr} {fd : FuncData} (F : FunD K "_law_crossed" "_law_crossed" (defArgs s_law_crossed) (defBody s_law_crossed) (defScope s_law_crossed) [] [] f fd) (T : Txt K mg) : FnOk P w K mg base CX0 1 f fd ["_law_some", "_law_more"] spCrossed := by
  refine okD F sc_crossed (fun vs H Q E h => ?_) (fun cdv A0 outer s H vs Q E hr h => ?_)
  · obtain ⟨a, b, xs, ys, m, rfl, _⟩ := h
    rfl
  · obtain ⟨a, b, xs, ys, m, rfl, ha, hb, hxs, hys, lx, ly, k⟩ := h
    refine ⟨_, pss_cons (ps_set (i := 2) sc_crossed.nd rfl (Or.inl rfl) (pe_lstS pa_nil))
      (pss_cons (ps_for PassesOwn.never rfl (pi_list (pv 0)) (pg_name (i := 3) sc_crossed.nd rfl (Or.inr rfl))
        (pss_one (ps_set (i := 2) sc_crossed.nd rfl (Or.inl rfl) (pe_op op_catS (pe_op op_catS (pv 2)
          (pe_lc (own := [("_law_two", 4)]) (g := gName 4) (tt := tTest (tOp rNe (tVar 4) (tVar 3))) (te := tTupS (tCons (tVar 3) (tCons (tVar 4) tNil))) rfl sc_crossed.nd (pi_list (pv 1))
            (blkOk_by (own := [("_law_two", 4)]) (N := ["_law_some", "_law_more", "_law_found", "_law_one", "_law_two"]) (sc := defScope s_law_crossed) (by decide +kernel)) (fun _ _ _ _ _ => pg_name (i := 4) sc_crossed.nd rfl (Or.inl rfl))
            (fun _ _ _ _ _ => pts_one (pt_cmpR op_ne (pv 4) (pv 3) (nomark _))) (fun _ _ _ _ _ => pe_tupS (pa_cons (pv 3) (pa_cons (pv 4) pa_nil)))))
          (pe_lc (own := [("_law_two", 4)]) (g := gName 4) (tt := tTest (tOp rNe (tVar 4) (tVar 3))) (te := tTupS (tCons (tVar 4) (tCons (tVar 3) tNil))) rfl sc_crossed.nd (pi_list (pv 1))
            (blkOk_by (own := [("_law_two", 4)]) (N := ["_law_some", "_law_more", "_law_found", "_law_one", "_law_two"]) (sc := defScope s_law_crossed) (by decide +kernel)) (fun _ _ _ _ _ => pg_name (i := 4) sc_crossed.nd rfl (Or.inl rfl))
            (fun _ _ _ _ _ => pts_one (pt_cmpR op_ne (pv 4) (pv 3) (nomark _))) (fun _ _ _ _ _ => pe_tupS (pa_cons (pv 4) (pa_cons (pv 3) pa_nil))))))))
      (pss_one (ps_ret (pv 2)))), ?_⟩
    refine ⟨t0, fun fl H1 hfl s1 h1 => ⟨_, rfl, a, rfl, ⟨_, SqL.of (s1 _ _ ha)⟩, ?_⟩⟩
    refine for_it walk_list (fun i σ H' => ∃ l o3 o4, ∃ ps : List Pr, σ = [some (.ref a), some (.ref b), some (.ref l), o3, o4] ∧ H l = none ∧ Same H H' ∧ PrL H' l ps ∧ (∀ p ∈ ps, p.1 < m ∧ p.2 < m) ∧ ps.length ≤ 32 * i)
      ⟨fl, none, none, [], rfl, hfl, s1, ⟨[], h1, .nil⟩, fun p hp => (by cases hp), by simp⟩ (fun i σ H' _ ⟨_, _, _, _, _, _, sm, _⟩ => SqL.of (sm _ _ ha)) ?_ ?_
    · rintro i v σ H2 H2' hi ⟨l, o3, o4, ps, rfl, hl, sm, ⟨us, hus, pr⟩, hps, hlen⟩ ⟨rfl, hx⟩
      rw [List.length_map] at hi
      rw [List.getElem?_map] at hx
      obtain ⟨x, hx0, rfl⟩ := Option.map_eq_some_iff.mp hx
      have hxm := hxs x (List.mem_of_getElem? hx0)
      refine ⟨_, rfl, _, rfl, b, rfl, ⟨_, SqL.of (sm _ _ hb)⟩, ?_⟩
      refine lc_out walk_list PrAt (fun j => (ys[j]?).bind fun y => if y = x then none else some (x, y)) (fun _ _ _ _ s h => h.same s) (by rw [List.length_map]; omega) (fun H3 s3 => SqL.of ((sm.trans s3) _ _ hb)) ?_ ?_
      · rintro j v D H3 H4 acc Ky Kn hj s3 hD hacc ⟨rfl, hv⟩ ky kn
        rw [List.getElem?_map] at hv
        obtain ⟨y, hy, rfl⟩ := Option.map_eq_some_iff.mp hv
        refine ⟨rfl, _, rfl, _, rfl, rfl, _, rfl, ite2 (fun e => ?_) (fun e => ?_)⟩
        · have e1 : y ≠ x := fun z => by rw [z] at e; simp at e
          exact ⟨_, rfl, _, rfl, t2, fun q H6 hq s6 h6 => ky _ H6 (x, y) s6 (by rw [hy]; exact if_neg e1) ⟨q, rfl, hid_get h6 (ne_of h6 (s6 _ _ hacc) (by intro z; cases z))⟩⟩
        · have e1 : y = x := Classical.byContradiction fun z => e (by rw [decide_eq_false (fun q => z (by have := V.int.inj q; omega))]; rfl)
          exact kn _ (Same.refl _) (by rw [hy]; exact if_pos e1)
      · intro D H3 ys3 hD s3 hl3 pr3
        rw [List.length_map] at pr3
        have lx' : i ≤ 16 := by omega
        have le1 := parts_len ys x (fun y => (x, y))
        have pe1 := paired_len pr
        have pe3 := paired_len pr3
        refine ⟨l, D, us, ys3, rfl, rfl, s3 _ _ hus, hl3, line64 (by rw [pe1, pe3]; exact Nat.le_trans (Nat.add_le_add hlen le1) (by omega)), fun l2 H4 hl2 s4 h4 => ?_⟩
        have pr4 := paired_app (paired_mono (fun _ _ z => z.same (s3.trans s4)) pr) (paired_mono (fun _ _ z => PrAt.same s4 z) pr3)
        have sm4 := (sm.trans s3).trans s4
        refine ⟨_, rfl, b, rfl, ⟨_, SqL.of (sm4 _ _ hb)⟩, ?_⟩
        refine lc_out walk_list PrAt (fun j => (ys[j]?).bind fun y => if y = x then none else some (y, x)) (fun _ _ _ _ s h => h.same s) (by rw [List.length_map]; omega) (fun H3 s3 => SqL.of ((sm4.trans s3) _ _ hb)) ?_ ?_
        · rintro j v D H3 H4 acc Ky Kn hj s3 hD hacc ⟨rfl, hv⟩ ky kn
          rw [List.getElem?_map] at hv
          obtain ⟨y, hy, rfl⟩ := Option.map_eq_some_iff.mp hv
          refine ⟨rfl, _, rfl, _, rfl, rfl, _, rfl, ite2 (fun e => ?_) (fun e => ?_)⟩
          · have e1 : y ≠ x := fun z => by rw [z] at e; simp at e
            exact ⟨_, rfl, _, rfl, t2, fun q H6 hq s6 h6 => ky _ H6 (y, x) s6 (by rw [hy]; exact if_neg e1) ⟨q, rfl, hid_get h6 (ne_of h6 (s6 _ _ hacc) (by intro z; cases z))⟩⟩
          · have e1 : y = x := Classical.byContradiction fun z => e (by rw [decide_eq_false (fun q => z (by have := V.int.inj q; omega))]; rfl)
            exact kn _ (Same.refl _) (by rw [hy]; exact if_pos e1)
        · intro D H5 ys5 hD5 s5 hl5 pr5
          rw [List.length_map] at pr5
          have le2 := parts_len ys x (fun y => (y, x))
          have pe4 := paired_len pr4
          have pe5 := paired_len pr5
          have e1 : (ps ++ parts ys x (fun y => (x, y))).length ≤ 32 * i + 16 := by rw [List.length_append]; omega
          refine ⟨l2, D, _, ys5, rfl, rfl, s5 _ _ h4, hl5, line64 (by rw [pe4, pe5]; exact Nat.le_trans (Nat.add_le_add e1 le2) (by omega)), fun l3 H6 hl6 s6 h6 => ?_⟩
          refine ⟨l3, _, _, (ps ++ parts ys x (fun y => (x, y))) ++ parts ys x (fun y => (y, x)), rfl, ?_, (sm4.trans s5).trans s6, ⟨_, h6, paired_app (paired_mono (fun _ _ z => z.same (s5.trans s6)) pr4) (paired_mono (fun _ _ z => PrAt.same s6 z) pr5)⟩, ?_, ?_⟩
          · cases q : H l3 with
            | none => rfl
            | some o => rw [(sm4.trans s5) _ _ q] at hl6; cases hl6
          · intro p hp
            rcases List.mem_append.mp hp with hp | hp
            · rcases List.mem_append.mp hp with hp | hp
              · exact hps p hp
              · obtain ⟨y, hy, rfl⟩ := parts_mem hp
                exact ⟨hxm, hys y hy⟩
            · obtain ⟨y, hy, rfl⟩ := parts_mem hp
              exact ⟨hys y hy, hxm⟩
          · rw [List.length_append]; omega
    · rintro σ H2 ⟨l, o3, o4, ps, rfl, hl, sm, hpr, hps, hlen⟩
      rw [List.length_map] at hlen
      exact ⟨_, rfl, k l H2 ps hl sm hpr hps (by omega)⟩
end
end K43

-- K43L5
set_option Elab.async false
set_option linter.all false
set_option maxRecDepth 100000
set_option maxHeartbeats 4000000
/-! the law: _law_passed -/
namespace K43
open PySem PySem.Spec PyProof.Rows L2
/-- numbers below m, at most m of them -/
def Lo (m : Nat) (xs : List Nat) : Prop := (∀ k ∈ xs, k < m) ∧ xs.length ≤ m
theorem Lo.nil {m : Nat} : Lo m [] := ⟨fun k h => by (cases h), Nat.zero_le _⟩
theorem Lo.drop {m : Nat} {xs : List Nat} (h : Lo m xs) (k : Nat) : Lo m (xs.drop k) := ⟨fun x hx => h.1 x (List.mem_of_mem_drop hx), by rw [List.length_drop]; have := h.2; omega⟩
theorem Lo.both {m : Nat} {xs ys : List Nat} : Lo m (both m xs ys) := ⟨fun k h => (mem_both.mp h).1, by
  have := List.length_filter_le (fun k => decide (k ∈ xs) || decide (k ∈ ys)) (List.range m)
  rwa [List.length_range] at this⟩
theorem Lo.more {m : Nat} {xs : List Nat} (h : Lo m xs) : Lo (m + 1) (xs ++ [m]) := ⟨fun k hk => by
  rcases List.mem_append.mp hk with hk | hk
  · have := h.1 k hk; omega
  · rw [List.mem_singleton.mp hk]; omega, by rw [List.length_append]; have := h.2; simp only [List.length_cons, List.length_nil]; omega⟩
theorem Lo.mono {m m' : Nat} {xs : List Nat} (h : Lo m xs) (k : m ≤ m') : Lo m' xs := ⟨fun x hx => Nat.lt_of_lt_of_le (h.1 x hx) k, Nat.le_trans h.2 k⟩
/-- the dict of who has what: n people, looks below m; the lists are none of av -/
def HasL (H : Hp) (hd : Addr) (n m : Nat) (av : List Addr) : Prop := ∃ (f : Nat → Addr) (hs : Nat → List Nat), H hd = some (.dK (kH n f)) ∧ ∀ p, p < n → NL H (f p) (hs p) ∧ Lo m (hs p) ∧ f p ∉ av
theorem HasL.same {H H' : Hp} (s : Same H H') {D : Addr} {n m : Nat} {av : List Addr} (h : HasL H D n m av) : HasL H' D n m av := let ⟨f, hs, h1, h2⟩ := h; ⟨f, hs, s _ _ h1, fun p hp => ⟨s _ _ (h2 p hp).1, (h2 p hp).2⟩⟩
theorem HasL.get {H : Hp} {D : Addr} {n m : Nat} {av : List Addr} (h : HasL H D n m av) {p : Nat} (hp : p < n) : ∃ a xs, DGet H D (.int p) (some (.ref a)) ∧ NL H a xs ∧ Lo m xs := by
  obtain ⟨f, hs, h1, h2⟩ := h
  refine ⟨f p, hs p, ?_, (h2 p hp).1, (h2 p hp).2.1⟩
  have := DGet.k (k := Sum.inl (p : Int)) h1
  rw [valV_kH f hp] at this
  exact this
theorem NL.put {H : Hp} {D l : Addr} {xs : List Nat} {kvs : List (Key × V)} {o : HO} (hD : H D = some (.dK kvs)) (h : NL H l xs) : NL (upd H D o) l xs := by
  show upd H D _ _ = _
  rw [upd_ne (ne_of h hD (by intro z; cases z))]
  exact h
theorem HasL.put {H : Hp} {D : Addr} {n m m' : Nat} {av : List Addr} (h : HasL H D n m av) (hm : m ≤ m') {p : Nat} (hp : p < n) (hn : n ≤ 100) {a : Addr} {ns : List Nat} (ha : NL H a ns) (lo : Lo m' ns) (hav : a ∉ av) : ∃ o, DPut H D (.int p) (.ref a) (upd H D o) ∧ HasL (upd H D o) D n m' av ∧ ∃ kvs, o = .dK kvs := by
  obtain ⟨f, hs, h1, h2⟩ := h
  refine ⟨_, DPut.k (k := Sum.inl (p : Int)) h1 (line64' (by rw [kH_len]; omega)), ⟨setA f p a, setH hs p ns, by rw [upd_same, putK_kH f a hp], fun q hq => ?_⟩, _, rfl⟩
  unfold setA setH
  by_cases e : q = p
  · rw [if_pos e, if_pos e]; exact ⟨NL.put h1 ha, lo, hav⟩
  · rw [if_neg e, if_neg e]; exact ⟨NL.put h1 (h2 q hq).1, (h2 q hq).2.1.mono hm, (h2 q hq).2.2⟩
theorem HasL.at {H : Hp} {D : Addr} {n m : Nat} {av : List Addr} (h : HasL H D n m av) : ∃ kvs, H D = some (.dK kvs) ∧ kvs.length = n := let ⟨_, _, h1, _⟩ := h; ⟨_, h1, kH_len _ _⟩
section
variable {P : Program} {w : World} {K : PySem.W.Frag} {mg : Str → Option Value} {base : Heap}
def spPassed : Sp := fun vs H Q _ => ∃ hd ea, ∃ n m p q : Nat, ∃ x kd : Str, ∃ av : List Addr, vs = [.ref hd, .ref ea, .str kd] ∧ (∀ x ∈ av, ∃ o, H x = some o) ∧ HasL H hd n m av ∧ H ea = some (.tup [.str x, .int p, .int q]) ∧ p < n ∧ q < n ∧ n ≤ 8 ∧ m ≤ 16 ∧
  ∀ l H' (ps : List Pr), H l = none → Frame [hd] H H' → HasL H' hd n m av → PrL H' l ps → (∀ p ∈ ps, p.1 < m ∧ p.2 < m) → ps.length ≤ 1000 → Q (.ref l) H'
theorem sc_passed : FnScope ["_law_has", "_law_deed", "_law_sort_so", "_law_mine", "_law_its", "_law_both"] ["_law_has", "_law_deed", "_law_sort_so"] (defScope s_law_passed) := ⟨rfl, rfl, rfl, by decide +kernel, rfl, by decide +kernel, by decide +kernel⟩
theorem ok_passed {f : Addr} {fd : FuncData} (F : FunD K "_law_passed" "_law_passed" (defArgs s_law_passed) (defBody s_law_passed) (defScope s_law_passed) [] [] f fd) (T : Txt K mg) (GC : GOk P w K mg base 1 "_law_crossed" ["_law_some", "_law_more"] spCrossed) :
    FnOk P w K mg base CX0 2 f fd ["_law_has", "_law_deed", "_law_sort_so"] spPassed := by
  refine okD F sc_passed (fun vs H Q E h => ?_) (fun cdv A0 outer s H vs Q E hr h => ?_)
  · obtain ⟨hd, ea, n, m, p, q, x, kd, av, rfl, _⟩ := h
    rfl
  · obtain ⟨hd, ea, n, m, p, q, x, kd, av, rfl, hav, hh, he, hp, hq, hn, hm, k⟩ := h
    have hu := hu_of hr
    refine ⟨_, pss_cons (ps_par (i := 3) (j := 4) rfl sc_passed.nd rfl rfl (by decide) rfl rfl (pa_cons (pe_dget hu (pv 0) (pe_ix ix_tup (pv 1) pe_int (fun _ _ => rfl)) (fun _ _ => rfl)) (pa_cons (pe_dget hu (pv 0) (pe_ix ix_tup (pv 1) pe_int (fun _ _ => rfl)) (fun _ _ => rfl)) pa_nil)) rfl)
      (pss_cons (ps_if (pt_cmpR op_ne (pv 2) pe_str (nomark _))
        (pss_one (ps_ret (pe_g GC hr (pa_cons (pe_slice sl_listS (pv 3) (po_some (pe_un un_neg pe_int)) po_none) (pa_cons (pe_slice sl_listS (pv 4) (po_some (pe_un un_neg pe_int)) po_none) pa_nil))))) pss_nil)
      (pss_cons (ps_set (i := 5) sc_passed.nd rfl (Or.inl rfl) (pe_callB (cr_sortedSet rfl) (by rfl) T.sorted PyProof.Rows.boot_sorted (pa_cons (pe_callTy (cr_setI rfl) (by rfl) T.set PyProof.Rows.boot_set (pa_cons (pe_op op_catS (pv 3) (pv 4)) pa_nil)) pa_nil)))
      (pss_cons (ps_dput hu (pv 0) (pe_ix ix_tup (pv 1) pe_int (fun _ _ => rfl)) (pv 5) rfl)
      (pss_cons (ps_if (pt_cmpR op_eq (pe_ix ix_tup (pv 1) pe_int (fun _ _ => rfl)) pe_str (nomark _)) (pss_one (ps_dput hu (pv 0) (pe_ix ix_tup (pv 1) pe_int (fun _ _ => rfl)) (pv 5) rfl)) pss_nil)
      (pss_one (ps_ret (pe_g GC hr (pa_cons (pv 5) (pa_cons (pv 5) pa_nil))))))))), ?_⟩
    obtain ⟨ap, xs, gp, hap, lop⟩ := hh.get hp
    obtain ⟨aq, ys, gq, haq, loq⟩ := hh.get hq
    obtain ⟨kvs, hhd, _⟩ := hh.at
    have lx := lop.2
    have ly := loq.2
    refine ⟨_, rfl, _, rfl, ea, _, 1, _, rfl, rfl, SqT.of he, rfl, hd, _, rfl, gp, ?_⟩
    refine ⟨_, rfl, _, rfl, ea, _, 2, _, rfl, rfl, SqT.of he, rfl, hd, _, rfl, gq, _, _, rfl, ?_⟩
    refine ⟨_, rfl, rfl, _, rfl, ite2 (fun e => ?_) (fun e => ?_)⟩
    · have hx : ∀ zs : List Nat, cutV (zs.map fun k : Nat => V.int k) (some (-1)) none = (zs.drop (zs.length - 1)).map fun k : Nat => V.int k := fun zs => by
        rw [cutV_last, List.length_map, map_drop_int]
      refine ⟨_, rfl, _, rfl, _, rfl, ap, _, rfl, SqL.of hap, fun l1 H1 hl1 s1 h1l => ?_⟩
      have h1l : NL H1 l1 (xs.drop (xs.length - 1)) := h1l.trans (by rw [hx])
      refine ⟨_, rfl, _, rfl, _, rfl, aq, _, rfl, SqL.of (s1 _ _ haq), fun l2 H2 hl2 s2 h2l => ?_⟩
      have h2l : NL H2 l2 (ys.drop (ys.length - 1)) := h2l.trans (by rw [hx])
      refine ⟨l1, l2, _, _, m, rfl, s2 _ _ h1l, h2l, (lop.drop _).1, (loq.drop _).1, Nat.le_trans (lop.drop _).2 hm, Nat.le_trans (loq.drop _).2 hm, fun l H3 ps hl s3 hpr hps hlen => ?_⟩
      have s12 := s1.trans s2
      refine k l H3 ps ?_ (Frame.of (s12.trans s3)) (hh.same (s12.trans s3)) hpr hps hlen
      cases z : H l with
      | none => rfl
      | some o => rw [s12 _ _ z] at hl; cases hl
    · refine ⟨_, rfl, _, rfl, ap, aq, _, _, rfl, rfl, hap, haq, line64 (by simp only [List.length_map]; omega), fun l1 H1 hl1 s1 hv1 => ?_⟩
      have hv1 : H1 l1 = some (.lst (((xs ++ ys).map fun k : Nat => (k : Int)).map V.int)) := by
        rw [hv1, List.map_map, List.map_append]
        rfl
      refine ⟨l1, _, rfl, SqL.of hv1, by simp; omega, fun sa c H2 hsa s2 hc hs2 => ?_⟩
      refine ⟨sa, _, c, rfl, hs2, by simp at hc; omega, fun ns p3 hsort hmem hlen hp3 => ?_⟩
      have hns : ns = (both m xs ys).map fun k : Nat => (k : Int) := both_int lop.1 loq.1 hsort fun k => (hmem k).trans decide_eq_true_iff
      have hlo : Lo m (both m xs ys) := Lo.both
      generalize hbo : both m xs ys = bo at hns hlo
      subst hns
      have s3 : Same H2 (upd H2 p3 (.lst ((bo.map fun k : Nat => (k : Int)).map V.int))) := same_new hp3
      generalize hH3 : upd H2 p3 (.lst ((bo.map fun k : Nat => (k : Int)).map V.int)) = H3 at s3 ⊢
      have hv3 : NL H3 p3 bo := by
        show H3 p3 = _
        rw [← hH3, upd_same, List.map_map]
        rfl
      have s13 := (s1.trans s2).trans s3
      have np3 : H p3 = none := by
        cases z : H p3 with
        | none => rfl
        | some o => rw [(s1.trans s2) _ _ z] at hp3; cases hp3
      have hh3 := hh.same s13
      have nav : p3 ∉ av := fun z => by
        obtain ⟨o, q⟩ := hav p3 z
        rw [np3] at q
        cases q
      obtain ⟨o4, put4, hh4, _⟩ := hh3.put (Nat.le_refl m) hq (by omega) hv3 hlo nav
      refine ⟨_, rfl, _, rfl, _, rfl, ea, _, 2, _, rfl, rfl, SqT.of (s13 _ _ he), rfl, hd, _, rfl, put4, ?_⟩
      have he4 : upd H3 hd o4 ea = some (.tup [.str x, .int p, .int q]) := by
        rw [upd_ne (ne_of (s13 _ _ he) (s13 _ _ hhd) (by intro z; cases z))]
        exact s13 _ _ he
      have hv4 : NL (upd H3 hd o4) p3 bo := NL.put (s13 _ _ hhd) hv3
      have f4 : Frame [hd] H (upd H3 hd o4) := (Frame.of s13).trans (Frame.upd (by simp))
      generalize upd H3 hd o4 = H4 at he4 hv4 f4 hh4 ⊢
      have fin : ∀ H5, Frame [hd] H4 H5 → HasL H5 hd n m av → NL H5 p3 bo → ∀ l H6 (ps : List Pr), H5 l = none → Same H5 H6 → PrL H6 l ps → (∀ p ∈ ps, p.1 < m ∧ p.2 < m) → ps.length ≤ 1000 → Q (.ref l) H6 := fun H5 f5 hh5 hv5 l H6 ps hl s6 hpr hps hlen => by
        refine k l H6 ps ?_ ((f4.trans f5).trans (Frame.of s6)) (hh5.same s6) hpr hps hlen
        cases z : H l with
        | none => rfl
        | some o =>
          by_cases e : l = hd
          · obtain ⟨kv, q, _⟩ := hh5.at
            rw [e, q] at hl
            cases hl
          · rw [(f4.trans f5) _ _ z (by simpa using e)] at hl
            cases hl
      refine ⟨_, rfl, ea, _, 0, _, rfl, rfl, SqT.of he4, rfl, rfl, _, rfl, ite2 (fun e5 => ?_) (fun e5 => ?_)⟩
      · obtain ⟨o5, put5, hh5, _⟩ := hh4.put (Nat.le_refl m) hp (by omega) hv4 hlo nav
        obtain ⟨kv4, hhd4, _⟩ := hh4.at
        refine ⟨_, rfl, _, rfl, _, rfl, ea, _, 1, _, rfl, rfl, SqT.of he4, rfl, hd, _, rfl, put5, ?_⟩
        have hv5 : NL (upd H4 hd o5) p3 bo := NL.put hhd4 hv4
        exact ⟨_, rfl, _, rfl, p3, p3, bo, bo, m, rfl, hv5, hv5, hlo.1, hlo.1, Nat.le_trans hlo.2 hm, Nat.le_trans hlo.2 hm, fin _ (Frame.upd (by simp)) hh5 hv5⟩
      · exact ⟨_, rfl, _, rfl, p3, p3, bo, bo, m, rfl, hv4, hv4, hlo.1, hlo.1, Nat.le_trans hlo.2 hm, Nat.le_trans hlo.2 hm, fin _ (Frame.refl _ _) hh4 hv4⟩
end
end K43

-- K43L6
set_option Elab.async false
set_option linter.all false
set_option maxRecDepth 100000
set_option maxHeartbeats 4000000
/-! the law: _law_closed -/
namespace K43
open PySem PySem.Spec PyProof.Rows L2
def Pm (m : Nat) (A : List Pr) : Prop := A.Nodup ∧ ∀ p ∈ A, p.1 < m ∧ p.2 < m
theorem Pm.len {m : Nat} {A : List Pr} (h : Pm m A) (hm : m ≤ 16) : A.length ≤ 256 := Nat.le_trans (pairs_len h.1 h.2) (sq16 hm)
def Two (m k : Nat) (H : Hp) (ne lo : Addr) : Prop := ∃ A Z : List Pr, H ne = some (.dT (A.map eT)) ∧ H lo = some (.dT (Z.map eT)) ∧ ne ≠ lo ∧ Pm m A ∧ Pm m Z ∧ k ≤ A.length + Z.length
theorem Two.same {m k : Nat} {H H' : Hp} {ne lo : Addr} (s : Same H H') (h : Two m k H ne lo) : Two m k H' ne lo := let ⟨A, Z, h1, h2, h3⟩ := h; ⟨A, Z, s _ _ h1, s _ _ h2, h3⟩
theorem Two.keep {m k : Nat} {H H' : Hp} {ne lo b : Addr} {o : HO} (t : Two m k H ne lo) (f : Frame [ne, lo] H H') (h : H b = some o) (n : ∀ kvs, o ≠ .dT kvs) : H' b = some o := by
  obtain ⟨A, Z, h1, h2, _⟩ := t
  refine f _ _ h ?_
  simp only [List.mem_cons, List.not_mem_nil, or_false, not_or]
  exact ⟨ne_of h h1 (n _), ne_of h h2 (n _)⟩
theorem Two.putN {m k i j : Nat} {H : Hp} {ne lo t : Addr} (h : Two m k H ne lo) (hm : m ≤ 16) (ht : H t = some (.tup ((pk (i, j)).map kV))) (hi : i < m) (hj : j < m) :
    ∃ o, DPut H ne (.ref t) (.bl true) (upd H ne o) ∧ Two m k (upd H ne o) ne lo ∧ ∃ kvs, o = .dT kvs := by
  obtain ⟨A, Z, h1, h2, h3, hA, hZ, hk⟩ := h
  obtain ⟨A', g1, g2, g3, g4⟩ := putK_eT_any (i, j) hA.1
  refine ⟨_, DPut.t (k := pk (i, j)) h1 ht (line64' (by rw [List.length_map]; have := hA.len hm; omega)), ⟨A', Z, ?_, ?_, h3, ⟨g2, fun p hp => ?_⟩, hZ, by omega⟩, _, rfl⟩
  · rw [upd_same, g1]
  · rw [upd_ne (Ne.symm h3)]; exact h2
  · rcases (g3 p).mp hp with h | rfl
    · exact hA.2 p h
    · exact ⟨hi, hj⟩
theorem Two.putL {m k i j : Nat} {H : Hp} {ne lo t : Addr} (h : Two m k H ne lo) (hm : m ≤ 16) (ht : H t = some (.tup ((pk (i, j)).map kV))) (hi : i < m) (hj : j < m) :
    ∃ o, DPut H lo (.ref t) (.bl true) (upd H lo o) ∧ Two m k (upd H lo o) ne lo ∧ ∃ kvs, o = .dT kvs := by
  obtain ⟨A, Z, h1, h2, h3, hA, hZ, hk⟩ := h
  obtain ⟨Z', g1, g2, g3, g4⟩ := putK_eT_any (i, j) hZ.1
  refine ⟨_, DPut.t (k := pk (i, j)) h2 ht (line64' (by rw [List.length_map]; have := hZ.len hm; omega)), ⟨A, Z', ?_, ?_, h3, hA, ⟨g2, fun p hp => ?_⟩, by omega⟩, _, rfl⟩
  · rw [upd_ne h3]; exact h1
  · rw [upd_same, g1]
  · rcases (g3 p).mp hp with h | rfl
    · exact hZ.2 p h
    · exact ⟨hi, hj⟩
theorem bls_of {ys : List V} : ∀ {us : List Unit}, Paired (fun y _ => ∃ b, y = V.bl b) ys us → ∃ bs : List Bool, ys = bs.map V.bl
  | _, .nil => ⟨[], rfl⟩
  | _, .cons ⟨b, e⟩ t => by
    obtain ⟨bs, e2⟩ := bls_of t
    exact ⟨b :: bs, by rw [e, e2]; rfl⟩
abbrev webL (sp ow ha ne lo : Addr) : List (Key × V) := [(Sum.inr "spots", .ref sp), (Sum.inr "own", .ref ow), (Sum.inr "has", .ref ha), (Sum.inr "near", .ref ne), (Sum.inr "low", .ref lo)]
theorem webG {H : Hp} {wd sp ow ha ne lo : Addr} (h : H wd = some (.dK (webL sp ow ha ne lo))) : DGet H wd (.str "spots") (some (.ref sp)) ∧ DGet H wd (.str "own") (some (.ref ow)) ∧ DGet H wd (.str "has") (some (.ref ha)) ∧ DGet H wd (.str "near") (some (.ref ne)) ∧ DGet H wd (.str "low") (some (.ref lo)) :=
  ⟨DGet.k (k := Sum.inr "spots") h, DGet.k (k := Sum.inr "own") h, DGet.k (k := Sum.inr "has") h, DGet.k (k := Sum.inr "near") h, DGet.k (k := Sum.inr "low") h⟩
theorem keys_at {H : Hp} {m : Nat} {A : List Pr} {bs : List Addr} (hA : Pm m A) (h : IsKeys H (A.map eT) bs) {j : Nat} {b : Addr} (e : bs[j]? = some b) : ∃ p q : Nat, p < m ∧ q < m ∧ H b = some (.tup [.int p, .int q]) := by
  obtain ⟨x, hx, hb⟩ := paired_at' (R := fun (p : List Key × V) b => H b = some (.tup (p.1.map kV))) h e
  rw [List.getElem?_map] at hx
  obtain ⟨q, hq, rfl⟩ := Option.map_eq_some_iff.mp hx
  have := hA.2 q (List.mem_of_getElem? hq)
  exact ⟨q.1, q.2, this.1, this.2, hb⟩
def szOf (σ : L2.St) (_ : Hp) : Nat := match σ[3]? with
  | some (some (V.int z)) => (600 - z).toNat
  | _ => 0
section
variable {P : Program} {w : World} {K : PySem.W.Frag} {mg : Str → Option Value} {base : Heap}
theorem two_near {σ : L2.St} {H : Hp} {ne lo : Addr} {m k a b i j : Nat} {D : Ends} (h : Two m k H ne lo) (hm : m ≤ 16) (e1 : σ[1]? = some (some (.ref ne))) (ea : σ[a]? = some (some (.int i))) (eb : σ[b]? = some (some (.int j))) (hi : i < m) (hj : j < m)
    (q : ∀ H', Frame [ne, lo] H H' → Two m k H' ne lo → D.nx σ H') :
    (tAsg (tTupS (tCons (tC (.bl true)) (tCons (tC (.bl true)) tNil))) (gTup K 2 (gCons (gSub (tVar 1) (tTupS (tCons (tVar a) (tCons (tVar b) tNil))) rSetD) (gCons (gSub (tVar 1) (tTupS (tCons (tVar b) (tCons (tVar a) tNil))) rSetD) gNil)))) D σ H := by
  refine ⟨t2, fun tt H4 htt s4 h4 => ⟨tt, _, rfl, SqT.of h4, rfl, _, _, rfl, ?_⟩⟩
  refine ⟨_, e1, _, ea, _, eb, t2, fun kt H5 hkt s5 h5 => ?_⟩
  have tw5 := h.same (s4.trans s5)
  obtain ⟨o, put, tw6, _⟩ := tw5.putN hm (i := i) (j := j) h5 hi hj
  refine ⟨ne, _, rfl, put, ?_⟩
  have f6 : Frame [ne, lo] H (upd H5 ne o) := (Frame.of (s4.trans s5)).trans (Frame.upd (by simp))
  generalize upd H5 ne o = H6 at tw6 f6 ⊢
  refine ⟨_, _, rfl, ?_⟩
  refine ⟨_, e1, _, eb, _, ea, t2, fun kt H7 hkt s7 h7 => ?_⟩
  obtain ⟨o, put, tw8, _⟩ := (tw6.same s7).putN hm (i := j) (j := i) h7 hj hi
  exact ⟨ne, _, rfl, put, rfl, q _ ((f6.trans (Frame.of s7)).trans (Frame.upd (by simp))) tw8⟩
def spClosed : Sp := fun vs H Q _ => ∃ wd sp ow ha ne lo, ∃ sps os : List Pr, vs = [.ref wd] ∧ H wd = some (.dK (webL sp ow ha ne lo)) ∧ PrL H sp sps ∧ PrL H ow os ∧ sps.length ≤ 16 ∧ os.length ≤ 100 ∧ Two sps.length 0 H ne lo ∧
  ∀ H', Frame [ne, lo] H H' → Q (.ref wd) H'
theorem sc_closed : FnScope ["_law_web_here", "_law_near", "_law_low", "_law_size", "_law_one", "_law_two", "_law_far", "_law_begin", "_law_end", "_law_spot", "_law_p"] ["_law_web_here"] (defScope s_law_closed) := ⟨rfl, rfl, rfl, by decide +kernel, rfl, by decide +kernel, by decide +kernel⟩
theorem ok_closed {f : Addr} {fd : FuncData} (F : FunD K "_law_closed" "_law_closed" (defArgs s_law_closed) (defBody s_law_closed) (defScope s_law_closed) [] [] f fd) (T : Txt K mg) : FnOk P w K mg base CX0 1 f fd ["_law_web_here"] spClosed := by
  refine okD F sc_closed (fun vs H Q E h => ?_) (fun cdv A0 outer s H vs Q E hr h => ?_)
  · obtain ⟨wd, sp, ow, ha, ne, lo, sps, os, rfl, _⟩ := h
    rfl
  · obtain ⟨wd, sp, ow, ha, ne, lo, sps, os, rfl, hwd, ⟨us, hsp, psp⟩, ⟨vs, how, pow'⟩, lsp, los, two0, k⟩ := h
    have hu := hu_of hr
    refine ⟨_, pss_cons (ps_par3 (i := 1) (j := 2) (l := 3) rfl sc_closed.nd rfl rfl rfl (by decide) (by decide) (by decide) rfl rfl rfl (pa_cons (pe_dget hu (pv 0) pe_str (fun _ _ => rfl)) (pa_cons (pe_dget hu (pv 0) pe_str (fun _ _ => rfl)) (pa_cons (pe_un un_neg pe_int) pa_nil))) rfl)
      (pss_cons (ps_while PassesOwn.never (pt_cmpR op_ne (pv 3) (pe_op op_add (pe_callB call_len_dT (by rfl) T.len PySem.boot_len (pa_cons (pv 1) pa_nil)) (pe_callB call_len_dT (by rfl) T.len PySem.boot_len (pa_cons (pv 2) pa_nil))) (nomark _))
        (pss_cons (ps_set (i := 3) sc_closed.nd rfl (Or.inl rfl) (pe_op op_add (pe_callB call_len_dT (by rfl) T.len PySem.boot_len (pa_cons (pv 1) pa_nil)) (pe_callB call_len_dT (by rfl) T.len PySem.boot_len (pa_cons (pv 2) pa_nil))))
        (pss_cons (ps_for PassesOwn.never rfl (pi_list (pe_callTy (call_list_dT rfl) (by rfl) T.list PyProof.Rows.boot_list (pa_cons (pv 2) pa_nil))) (pg_tup rfl (pgs_cons (pg_name (i := 4) sc_closed.nd rfl (Or.inl rfl)) (pgs_cons (pg_name (i := 5) sc_closed.nd rfl (Or.inl rfl)) pgs_nil)))
          (pss_cons (ps_asg (pe_tupS (pa_cons pe_bl (pa_cons pe_bl pa_nil))) (pg_tup rfl (pgs_cons (pg_sub (pv 1) (pe_tupS (pa_cons (pv 4) (pa_cons (pv 5) pa_nil))) (set_dict hu)) (pgs_cons (pg_sub (pv 1) (pe_tupS (pa_cons (pv 5) (pa_cons (pv 4) pa_nil))) (set_dict hu)) pgs_nil))))
          (pss_one (ps_for PassesOwn.never rfl (pi_range1 (by rfl) T.range (pa_cons (pe_callB call_len_seq (by rfl) T.len PySem.boot_len (pa_cons (pe_dget hu (pv 0) pe_str (fun _ _ => rfl)) pa_nil)) pa_nil)) (pg_name (i := 6) sc_closed.nd rfl (Or.inl rfl))
            (pss_via (ps_if (PW.pt (pw_and (pt_cmp (pc_din hu (pe_tupS (pa_cons (pv 5) (pa_cons (pv 6) pa_nil))) (pv 2))) (pw_and1 (pt_cmpR op_ne (pv 4) (pv 6) (nomark _)))))
              (pss_one (ps_dput hu (pv 2) (pe_tupS (pa_cons (pv 4) (pa_cons (pv 6) pa_nil))) pe_bl rfl)) pss_nil)
            (pss_one (ps_if (PW.pt (pw_and (pt_cmp (pc_din hu (pe_tupS (pa_cons (pv 5) (pa_cons (pv 6) pa_nil))) (pv 1))) (pw_and1 (pt_cmpR op_ne (pv 4) (pv 6) (nomark _)))))
              (pss_one (ps_asg (pe_tupS (pa_cons pe_bl (pa_cons pe_bl pa_nil))) (pg_tup rfl (pgs_cons (pg_sub (pv 1) (pe_tupS (pa_cons (pv 4) (pa_cons (pv 6) pa_nil))) (set_dict hu)) (pgs_cons (pg_sub (pv 1) (pe_tupS (pa_cons (pv 6) (pa_cons (pv 4) pa_nil))) (set_dict hu)) pgs_nil))))) pss_nil)))))))
        (pss_one (ps_for PassesOwn.never rfl (pi_list (pe_callTy (call_list_dT rfl) (by rfl) T.list PyProof.Rows.boot_list (pa_cons (pv 1) pa_nil))) (pg_tup rfl (pgs_cons (pg_name (i := 4) sc_closed.nd rfl (Or.inl rfl)) (pgs_cons (pg_name (i := 5) sc_closed.nd rfl (Or.inl rfl)) pgs_nil)))
          (pss_cons (ps_asg (pe_tupS (pa_cons (pe_ix ix_tup (pe_ix ix_list (pe_dget hu (pv 0) pe_str (fun _ _ => rfl)) (pv 4) (fun _ _ => rfl)) pe_int (fun _ _ => rfl)) (pa_cons (pe_ix ix_list (pe_dget hu (pv 0) pe_str (fun _ _ => rfl)) (pv 5) (fun _ _ => rfl)) pa_nil)))
            (pg_tup rfl (pgs_cons (pg_name (i := 7) sc_closed.nd rfl (Or.inr rfl)) (pgs_cons (pg_name (i := 8) sc_closed.nd rfl (Or.inr rfl)) pgs_nil))))
          (pss_one (ps_if (pt_val (pe_callB (cr_any rfl) (by rfl) T.any PyProof.Rows.boot_any (pa_cons (pe_lc (own := [("_law_spot", 9), ("_law_p", 10)]) (g := gTup K 2 (gCons (gName 9) (gCons (gName 10) gNil))) (tt := tYes)
              (te := tAndV (tChain (rI0 fun i j => .bl (decide (i < j))) (rI0 fun i j => .bl (decide (i < j))) (tVar 7) (tVar 9) (tOp (rIxT K) (tVar 8) (tC (.int 0)))) (tOp rEq (tVar 10) (tOp (rIxT K) (tVar 8) (tC (.int 1))))) rfl sc_closed.nd
              (pi_list (pe_dget hu (pv 0) pe_str (fun _ _ => rfl))) (blkOk_by (own := [("_law_spot", 9), ("_law_p", 10)]) (N := ["_law_web_here", "_law_near", "_law_low", "_law_size", "_law_one", "_law_two", "_law_far", "_law_begin", "_law_end", "_law_spot", "_law_p"]) (sc := defScope s_law_closed) (by decide +kernel))
              (fun _ _ _ _ _ => pg_tup rfl (pgs_cons (pg_name (i := 9) sc_closed.nd rfl (Or.inl rfl)) (pgs_cons (pg_name (i := 10) sc_closed.nd rfl (Or.inl rfl)) pgs_nil))) (fun _ _ _ _ _ => pts_nil)
              (fun _ _ _ _ _ => pe_and (pe_chain op_lt op_lt (pv 7) (pv 9) (pe_ix ix_tup (pv 8) pe_int (fun _ _ => rfl))) (pe_one (pe_cmpR op_eq (pv 10) (pe_ix ix_tup (pv 8) pe_int (fun _ _ => rfl)) (nomark _))))) pa_nil)))
            (pss_one (ps_dput hu (pv 2) (pe_tupS (pa_cons (pv 4) (pa_cons (pv 5) pa_nil))) pe_bl rfl)) pss_nil))))))))
      (pss_one (ps_ret (pv 0)))), ?_⟩
    obtain ⟨gsp, gow, gha, gne, glo⟩ := webG hwd
    refine ⟨_, rfl, wd, _, rfl, gne, _, rfl, wd, _, rfl, glo, _, rfl, _, _, _, rfl, ?_⟩
    generalize hm : sps.length = m at two0 lsp
    refine while_by (fun σ H' => ∃ sz : Int, ∃ o4 o5 o6 o7 o8, σ = [some (.ref wd), some (.ref ne), some (.ref lo), some (.int sz), o4, o5, o6, o7, o8, none, none] ∧ Frame [ne, lo] H H' ∧ ∃ k0, Two m k0 H' ne lo ∧ sz ≤ k0)
      szOf ⟨_, none, none, none, none, none, rfl, Frame.refl _ _, 0, two0, by decide⟩ ?_ ?_
    · rintro σ H1 ⟨sz, o4, o5, o6, o7, o8, rfl, f1, k0, two1, hsz⟩
      obtain ⟨A, Z, hA1, hZ1, hne, pA, pZ, hk0⟩ := two1
      have lA := pA.len lsp
      have lZ := pZ.len lsp
      refine ⟨_, rfl, _, rfl, ne, _, rfl, hA1, _, rfl, lo, _, rfl, hZ1, _, _, rfl, rfl, rfl, _, rfl, ite2 (fun e => ?_) (fun e => ?_)⟩
      · have two1 : Two m (A.length + Z.length) H1 ne lo := ⟨A, Z, hA1, hZ1, hne, pA, pZ, Nat.le_refl _⟩
        refine ⟨_, rfl, ne, _, rfl, hA1, _, rfl, lo, _, rfl, hZ1, _, _, rfl, rfl, ?_⟩
        rw [List.length_map, List.length_map]
        generalize hk1 : A.length + Z.length = k1 at two1
        refine ⟨_, rfl, lo, _, rfl, Rd.of hZ1, fun lp bs hlp hkeys => ⟨lp, rfl, ⟨_, SqL.of upd_same⟩, ?_⟩⟩
        have s2 : Same H1 (upd H1 lp (.lst (bs.map V.ref))) := same_new hlp
        have h2 : upd H1 lp (.lst (bs.map V.ref)) lp = some (.lst (bs.map V.ref)) := upd_same
        generalize upd H1 lp (.lst (bs.map V.ref)) = H2 at s2 h2 ⊢
        have two2 := two1.same s2
        have f2 := f1.trans (Frame.of s2)
        have kp0 : ∀ {H' : Hp} {b : Addr} {o : HO}, Frame [ne, lo] H H' → H b = some o → (∀ kvs, o ≠ .dT kvs) → H' b = some o := fun f h n => two0.keep f h n
        refine for_it walk_list (fun i σ H' => ∃ o4 o5 o6 o7 o8, σ = [some (.ref wd), some (.ref ne), some (.ref lo), some (.int ((A.length : Int) + (Z.length : Int))), o4, o5, o6, o7, o8, none, none] ∧ Frame [ne, lo] H2 H' ∧ Two m k1 H' ne lo)
          ⟨_, _, _, _, _, rfl, Frame.refl _ _, two2⟩ (fun i σ H' _ ⟨_, _, _, _, _, _, fr, _⟩ => SqL.of (two2.keep fr h2 (fun _ z => by cases z))) ?_ ?_
        · rintro i v σ H3 H3' hi ⟨o4, o5, o6, o7, o8, rfl, f3, two3⟩ ⟨rfl, hx⟩
          rw [List.getElem?_map] at hx
          obtain ⟨b, hb, rfl⟩ := Option.map_eq_some_iff.mp hx
          obtain ⟨p, q, hp, hq, hbt⟩ := keys_at pZ hkeys hb
          have hb3 := two2.keep f3 (s2 _ _ hbt) (fun _ z => by cases z)
          refine ⟨b, _, rfl, SqT.of hb3, rfl, _, _, rfl, _, _, rfl, rfl, ?_⟩
          refine two_near two3 lsp rfl rfl rfl hp hq fun H4 f4 two4 => ?_
          have f34 := (f2.trans f3).trans f4
          have lus : us.length = m := by rw [paired_len psp, hm]
          refine ⟨_, rfl, wd, _, rfl, (webG (kp0 f34 hwd (fun _ z => by cases z))).1, sp, us, rfl, .inl (SqL.of (kp0 f34 hsp (fun _ z => by cases z))), _, rfl, by omega, by omega, ?_⟩
          rw [lus, Int.toNat_natCast]
          refine for_it walk_rg (fun j σ H' => ∃ o6 o7 o8, σ = [some (.ref wd), some (.ref ne), some (.ref lo), some (.int ((A.length : Int) + (Z.length : Int))), some (.int p), some (.int q), o6, o7, o8, none, none] ∧ Frame [ne, lo] H2 H' ∧ Two m k1 H' ne lo)
            ⟨_, _, _, rfl, f3.trans f4, two4⟩ (fun _ _ _ _ _ => trivial) ?_ ?_
          · rintro j v σ H5 H5' hj ⟨o6, o7, o8, rfl, f5, two5⟩ ⟨rfl, rfl⟩
            refine ⟨fun σ H' => σ = [some (.ref wd), some (.ref ne), some (.ref lo), some (.int ((A.length : Int) + (Z.length : Int))), some (.int p), some (.int q), some (.int (j : Nat)), o7, o8, none, none] ∧ Frame [ne, lo] H2 H' ∧ Two m k1 H' ne lo, ?_, ?_⟩
            · refine ⟨_, rfl, _, rfl, t2, fun kt H6 hkt s6 h6 => ?_⟩
              have two6 := two5.same s6
              obtain ⟨A6, Z6, hA6, hZ6, _⟩ := id two6
              refine ⟨_, rfl, lo, _, rfl, DGet.t (k := pk (q, j)) hZ6 h6, _, rfl, ite2 (fun c => ?_) (fun c => ?_)⟩
              · refine ⟨_, rfl, _, rfl, rfl, _, rfl, ite2 (fun c2 => ?_) (fun c2 => ?_)⟩
                · refine ⟨_, rfl, _, rfl, _, rfl, t2, fun kt7 H7 hkt7 s7 h7 => ?_⟩
                  obtain ⟨o, put, tw, _⟩ := (two6.same s7).putL lsp (i := p) (j := j) h7 hp hj
                  exact ⟨lo, _, rfl, put, rfl, (f5.trans (Frame.of (s6.trans s7))).trans (Frame.upd (by simp)), tw⟩
                · exact ⟨rfl, f5.trans (Frame.of s6), two6⟩
              · exact ⟨rfl, f5.trans (Frame.of s6), two6⟩
            · rintro σ H6 ⟨rfl, f6, two6⟩
              refine ⟨_, rfl, _, rfl, t2, fun kt H7 hkt s7 h7 => ?_⟩
              have two7 := two6.same s7
              have f7 := f6.trans (Frame.of s7)
              obtain ⟨A6, Z6, hA6, hZ6, _⟩ := id two7
              refine ⟨_, rfl, ne, _, rfl, DGet.t (k := pk (q, j)) hA6 h7, _, rfl, ite2 (fun c => ?_) (fun c => ?_)⟩
              · refine ⟨_, rfl, _, rfl, rfl, _, rfl, ite2 (fun c2 => ?_) (fun c2 => ?_)⟩
                · exact two_near two7 lsp rfl rfl rfl hp hj fun H8 f8 two8 => ⟨_, _, _, rfl, f7.trans f8, two8⟩
                · exact ⟨_, _, _, rfl, f7, two7⟩
              · exact ⟨_, _, _, rfl, f7, two7⟩
          · rintro σ H5 ⟨o6, o7, o8, rfl, f5, two5⟩
            exact ⟨_, _, _, _, _, rfl, f5, two5⟩
        · rintro σ H3 ⟨o4, o5, o6, o7, o8, rfl, f3, two3⟩
          obtain ⟨A3, Z3, hA3, hZ3, hne3, pA3, pZ3, hk3⟩ := two3
          have two3 : Two m k1 H3 ne lo := ⟨A3, Z3, hA3, hZ3, hne3, pA3, pZ3, hk3⟩
          refine ⟨_, rfl, ne, _, rfl, Rd.of hA3, fun lq cs hlq hkeys3 => ⟨lq, rfl, ⟨_, SqL.of upd_same⟩, ?_⟩⟩
          have s4 : Same H3 (upd H3 lq (.lst (cs.map V.ref))) := same_new hlq
          have h4 : upd H3 lq (.lst (cs.map V.ref)) lq = some (.lst (cs.map V.ref)) := upd_same
          generalize upd H3 lq (.lst (cs.map V.ref)) = H4 at s4 h4 ⊢
          have two4 := two3.same s4
          have f4 := (f2.trans f3).trans (Frame.of s4)
          refine for_it walk_list (fun i σ H' => ∃ o4 o5 o6 o7 o8, σ = [some (.ref wd), some (.ref ne), some (.ref lo), some (.int ((A.length : Int) + (Z.length : Int))), o4, o5, o6, o7, o8, none, none] ∧ Frame [ne, lo] H4 H' ∧ Two m k1 H' ne lo)
            ⟨_, _, _, _, _, rfl, Frame.refl _ _, two4⟩ (fun i σ H' _ ⟨_, _, _, _, _, _, fr, _⟩ => SqL.of (two4.keep fr h4 (fun _ z => by cases z))) ?_ ?_
          · rintro i v σ H5 H5' hi ⟨o4, o5, o6, o7, o8, rfl, f5, two5⟩ ⟨rfl, hx⟩
            rw [List.getElem?_map] at hx
            obtain ⟨b, hb, rfl⟩ := Option.map_eq_some_iff.mp hx
            obtain ⟨p, q, hp, hq, hbt⟩ := keys_at pA3 hkeys3 hb
            have hb3 := two4.keep f5 (s4 _ _ hbt) (fun _ z => by cases z)
            have f45 := f4.trans f5
            have hwd5 := kp0 f45 hwd (fun _ z => by cases z)
            have hsp5 := kp0 f45 hsp (fun _ z => by cases z)
            have how5 := kp0 f45 how (fun _ z => by cases z)
            have tups5 : Tups H H5' := fun b l h => kp0 f45 h (fun _ z => by cases z)
            have psp5 := paired_mono (fun _ _ z => PrAt.tups tups5 z) psp
            have pow5 := paired_mono (fun _ _ z => PrAt.tups tups5 z) pow'
            obtain ⟨⟨c1, p1⟩, e1⟩ : ∃ x, sps[p]? = some x := ⟨_, List.getElem?_eq_getElem (by omega)⟩
            obtain ⟨⟨c2, p2⟩, e2⟩ : ∃ x, sps[q]? = some x := ⟨_, List.getElem?_eq_getElem (by omega)⟩
            obtain ⟨_, g1, a1, rfl, h1⟩ := paired_at' psp5 e1
            obtain ⟨_, g2, a2, rfl, h2⟩ := paired_at' psp5 e2
            obtain ⟨gsp5, gow5, _⟩ := webG hwd5
            refine ⟨b, _, rfl, SqT.of hb3, rfl, _, _, rfl, _, _, rfl, rfl, ?_⟩
            refine ⟨_, rfl, wd, _, rfl, gsp5, _, rfl, sp, us, _, _, rfl, rfl, SqL.of hsp5, atI_nat g1, a1, _, 0, _, rfl, rfl, SqT.of h1, rfl, ?_⟩
            refine ⟨_, rfl, wd, _, rfl, gsp5, _, rfl, sp, us, _, _, rfl, rfl, SqL.of hsp5, atI_nat g2, t2, fun tt H6 htt s6 h6 => ?_⟩
            refine ⟨tt, _, rfl, SqT.of h6, rfl, _, _, rfl, _, _, rfl, rfl, ?_⟩
            have two6 := two5.same s6
            have f6 := f5.trans (Frame.of s6)
            refine ⟨_, rfl, wd, _, rfl, (webG (s6 _ _ hwd5)).2.1, ow, rfl, ⟨_, SqL.of (s6 _ _ how5)⟩, ?_⟩
            refine lc_out (α := Unit) walk_list (fun _ y _ => ∃ b, y = V.bl b) (fun _ => some ()) (fun _ _ _ _ _ h => h) (by have := paired_len pow'; omega) (fun H7 s7 => SqL.of (s7 _ _ (s6 _ _ how5))) ?_ ?_
            · rintro t x D H7 H7' acc Ky Kn ht s7 hD hacc ⟨rfl, hx⟩ ky kn
              obtain ⟨⟨c3, p3⟩, e3, a3, rfl, h3⟩ := paired_at pow5 hx
              have h27 := s7 _ _ (s6 _ _ h2)
              refine ⟨a3, _, rfl, SqT.of (s7 _ _ (s6 _ _ h3)), rfl, _, _, rfl, _, _, rfl, rfl, rfl, iteT (B := Kn H7') ?_⟩
              have fin : ∀ c, Ky (.bl c) H7' := fun c => ky _ _ () (Same.refl _) rfl ⟨c, rfl⟩
              refine ⟨_, rfl, _, rfl, _, _, rfl, rfl, _, rfl, ite2 (fun z => ⟨_, rfl, a2, _, 0, _, rfl, rfl, SqT.of h27, rfl, _, _, rfl, rfl, _, rfl, ite2 (fun z2 => ?_) (fun z2 => ?_)⟩) (fun z => ⟨_, rfl, iteF (fin _)⟩)⟩
              · exact ⟨_, rfl, _, rfl, a2, _, 1, _, rfl, rfl, SqT.of h27, rfl, rfl, fin _⟩
              · exact fin _
            · intro D H7 ys hD s7 hl7 pr7
              obtain ⟨bs7, rfl⟩ := bls_of pr7
              refine ⟨D, _, rfl, SqL.of hl7, _, rfl, ite2 (fun c => ?_) (fun c => ?_)⟩
              · refine ⟨_, rfl, _, rfl, _, rfl, t2, fun kt8 H8 hkt8 s8 h8 => ?_⟩
                obtain ⟨o, put, tw, _⟩ := ((two6.same s7).same s8).putL lsp (i := p) (j := q) h8 hp hq
                exact ⟨lo, _, rfl, put, _, _, _, _, _, rfl, (f6.trans (Frame.of (s7.trans s8))).trans (Frame.upd (by simp)), tw⟩
              · exact ⟨_, _, _, _, _, rfl, f6.trans (Frame.of s7), two6.same s7⟩
          · rintro σ H5 ⟨o4, o5, o6, o7, o8, rfl, f5, two5⟩
            refine ⟨⟨_, _, _, _, _, _, rfl, f4.trans f5, _, two5, by omega⟩, ?_⟩
            show (600 - ((A.length : Int) + (Z.length : Int))).toNat < (600 - sz).toNat
            have ne1 : sz ≠ (A.length : Int) + (Z.length : Int) := fun z => by
              rw [List.length_map, List.length_map, z] at e
              simp at e
            omega
      · exact ⟨_, rfl, k H1 f1⟩
    · rintro σ H Q Q' h ⟨a1, e1, a2, e2, p1, kv1, x1, x2, a3, y1, p2, kv2, y2, y3, i, j, u1, u2, fl, k', v1, w1⟩
      exact ⟨a1, e1, a2, e2, p1, kv1, x1, x2, a3, y1, p2, kv2, y2, y3, i, j, u1, u2, fl, k', v1, h _ _ w1⟩
end
end K43

-- K43L7
set_option Elab.async false
set_option linter.all false
set_option maxRecDepth 100000
set_option maxHeartbeats 4000000
/-! the law: _law_web -/
namespace K43
open PySem PySem.Spec PyProof.Rows L2
theorem paired_maps {α β γ : Type} {R : β → γ → Prop} {g : α → β} {h : α → γ} : ∀ l : List α, (∀ j ∈ l, R (g j) (h j)) → Paired R (l.map g) (l.map h)
  | [], _ => .nil
  | x :: r, k => .cons (k x List.mem_cons_self) (paired_maps r fun j hj => k j (List.mem_cons_of_mem _ hj))
theorem kH_step (n : Nat) (f : Nat → Addr) : kH (n + 1) f = kH n f ++ [(Sum.inl (n : Int), V.ref (f n))] := by
  unfold kH
  rw [List.range_succ, List.map_append]
  rfl
theorem setA_self (f : Nat → Addr) (n : Nat) : setA f n (f n) = f := by
  funext q
  unfold setA
  split
  · rename_i h; rw [h]
  · rfl
theorem merge_kH (f : Nat → Addr) : ∀ n : Nat, mergeK [] (kH n f) = kH n f
  | 0 => rfl
  | n + 1 => by
    have : mergeK [] (kH (n + 1) f) = putK (mergeK [] (kH n f)) (Sum.inl (n : Int)) (V.ref (f n)) := by
      rw [kH_step]
      unfold mergeK
      rw [List.foldl_append]
      rfl
    rw [this, merge_kH f n, kH_more, setA_self]
theorem Two.upL {m m' : Nat} {H : Hp} {ne lo : Addr} {Z' : List Pr} (h : Two m 0 H ne lo) (hm : m ≤ m') (nd : Z'.Nodup) (bd : ∀ q ∈ Z', q.1 < m' ∧ q.2 < m') : Two m' 0 (upd H lo (.dT (Z'.map eT))) ne lo := by
  obtain ⟨A, Z, h1, h2, h3, hA, hZ, _⟩ := h
  exact ⟨A, Z', by rw [upd_ne h3]; exact h1, upd_same, h3, ⟨hA.1, fun p hp => ⟨by have := (hA.2 p hp).1; omega, by have := (hA.2 p hp).2; omega⟩⟩, ⟨nd, bd⟩, Nat.zero_le _⟩
theorem Two.upN {m : Nat} {H : Hp} {ne lo : Addr} {Z' : List Pr} (h : Two m 0 H ne lo) (nd : Z'.Nodup) (bd : ∀ q ∈ Z', q.1 < m ∧ q.2 < m) : Two m 0 (upd H ne (.dT (Z'.map eT))) ne lo := by
  obtain ⟨A, Z, h1, h2, h3, hA, hZ, _⟩ := h
  exact ⟨Z', Z, upd_same, by rw [upd_ne (Ne.symm h3)]; exact h2, h3, ⟨nd, bd⟩, hZ, Nat.zero_le _⟩
theorem HasL.mono {H : Hp} {D : Addr} {n m m' : Nat} {av : List Addr} (h : HasL H D n m av) (k : m ≤ m') : HasL H D n m' av := let ⟨f, hs, h1, h2⟩ := h; ⟨f, hs, h1, fun p hp => ⟨(h2 p hp).1, (h2 p hp).2.1.mono k, (h2 p hp).2.2⟩⟩
theorem HasL.away {H : Hp} {D x : Addr} {n m : Nat} {av : List Addr} {o : HO} (h : HasL H D n m av) (n1 : x ≠ D) (n2 : x ∈ av ∨ ∀ l, H x ≠ some (.lst l)) : HasL (upd H x o) D n m av := by
  obtain ⟨f, hs, h1, h2⟩ := h
  refine ⟨f, hs, by rw [upd_ne (Ne.symm n1)]; exact h1, fun p hp => ⟨?_, (h2 p hp).2⟩⟩
  have : f p ≠ x := fun z => by
    rcases n2 with n2 | n2
    · exact (h2 p hp).2.2 (z ▸ n2)
    · exact n2 _ (z ▸ (h2 p hp).1)
  show upd H x o (f p) = _
  rw [upd_ne this]
  exact (h2 p hp).1
theorem Two.away {m k : Nat} {H : Hp} {ne lo x : Addr} {o : HO} (h : Two m k H ne lo) (n : ∀ l, H x ≠ some (.dT l)) : Two m k (upd H x o) ne lo := by
  obtain ⟨A, Z, h1, h2, h3⟩ := h
  exact ⟨A, Z, by rw [upd_ne fun z => n _ (z ▸ h1)]; exact h1, by rw [upd_ne fun z => n _ (z ▸ h2)]; exact h2, h3⟩
theorem at_self {α : Type} (l : List α) : (List.range l.length).filterMap (fun k => l[k]?) = l := by
  have := map_at (fun x : α => x) l
  simpa using this
/-- the web as it grows -/
structure WS (n : Nat) (wd sp ow ha ne lo : Addr) (H : Hp) (sps os : List Pr) (m : Nat) : Prop where
  cwd : H wd = some (.dK (webL sp ow ha ne lo))
  csp : PrL H sp sps
  cow : PrL H ow os
  cha : HasL H ha n m [sp, ow]
  two : Two m 0 H ne lo
  nso : sp ≠ ow
  nwh : wd ≠ ha
section
variable {n : Nat} {wd sp ow ha ne lo : Addr} {H H' : Hp} {sps os : List Pr} {m : Nat}
theorem PrL.same' {a : Addr} {ps : List Pr} (s : Same H H') (h : PrL H a ps) : PrL H' a ps := let ⟨vs, q, r⟩ := h; ⟨vs, s _ _ q, paired_mono (fun _ _ z => PrAt.same s z) r⟩
theorem WS.same (s : Same H H') (o : WS n wd sp ow ha ne lo H sps os m) : WS n wd sp ow ha ne lo H' sps os m := ⟨s _ _ o.cwd, o.csp.same' s, o.cow.same' s, o.cha.same s, o.two.same s, o.nso, o.nwh⟩
theorem tups_upd {x : Addr} {u u' : HO} (h : H x = some u) (n : ∀ l, u ≠ .tup l) : Tups H (upd H x u') := fun b l e => by
  rw [upd_ne (ne_of e h (Ne.symm (n l)))]
  exact e
theorem WS.putLo (o : WS n wd sp ow ha ne lo H sps os m) {m' : Nat} (hm : m ≤ m') {Z' : List Pr} (nd : Z'.Nodup) (bd : ∀ q ∈ Z', q.1 < m' ∧ q.2 < m') : WS n wd sp ow ha ne lo (upd H lo (.dT (Z'.map eT))) sps os m' := by
  obtain ⟨A, Z, h1, h2, h3, hA, hZ, hk⟩ := id o.two
  obtain ⟨kvs, hha, _⟩ := o.cha.at
  have t := tups_upd (u' := .dT (Z'.map eT)) h2 (fun _ z => by cases z)
  refine ⟨?_, o.csp.tups t fun l h => ?_, o.cow.tups t fun l h => ?_, (o.cha.mono hm).away (ne_of h2 hha (by intro z; cases z)) (.inr fun l z => by rw [h2] at z; cases z), o.two.upL hm nd bd, o.nso, o.nwh⟩
  · rw [upd_ne (ne_of o.cwd h2 (by intro z; cases z))]; exact o.cwd
  · rw [upd_ne (ne_of h h2 (by intro z; cases z))]; exact h
  · rw [upd_ne (ne_of h h2 (by intro z; cases z))]; exact h
theorem WS.putNe (o : WS n wd sp ow ha ne lo H sps os m) {Z' : List Pr} (nd : Z'.Nodup) (bd : ∀ q ∈ Z', q.1 < m ∧ q.2 < m) : WS n wd sp ow ha ne lo (upd H ne (.dT (Z'.map eT))) sps os m := by
  obtain ⟨A, Z, h1, h2, h3, hA, hZ, hk⟩ := id o.two
  obtain ⟨kvs, hha, _⟩ := o.cha.at
  have t := tups_upd (u' := .dT (Z'.map eT)) h1 (fun _ z => by cases z)
  refine ⟨?_, o.csp.tups t fun l h => ?_, o.cow.tups t fun l h => ?_, o.cha.away (ne_of h1 hha (by intro z; cases z)) (.inr fun l z => by rw [h1] at z; cases z), o.two.upN nd bd, o.nso, o.nwh⟩
  · rw [upd_ne (ne_of o.cwd h1 (by intro z; cases z))]; exact o.cwd
  · rw [upd_ne (ne_of h h1 (by intro z; cases z))]; exact h
  · rw [upd_ne (ne_of h h1 (by intro z; cases z))]; exact h
/-- only the dict of who has what changes -/
theorem WS.putHa (o : WS n wd sp ow ha ne lo H sps os m) (f : Frame [ha] H H') {m' : Nat} (h : HasL H' ha n m' [sp, ow]) (hm : m ≤ m') : WS n wd sp ow ha ne lo H' sps os m' := by
  obtain ⟨kvs, hha, _⟩ := o.cha.at
  have kp : ∀ {b : Addr} {u : HO}, H b = some u → (∀ l, u ≠ .dK l) → H' b = some u := fun h n => f _ _ h (by simpa using ne_of h hha (n _))
  have t : Tups H H' := fun b l e => kp e (fun _ z => by cases z)
  obtain ⟨A, Z, h1, h2, h3, hA, hZ, hk⟩ := id o.two
  exact ⟨f _ _ o.cwd (by simpa using o.nwh), o.csp.tups t fun l h => kp h (fun _ z => by cases z), o.cow.tups t fun l h => kp h (fun _ z => by cases z), h,
    ⟨A, Z, kp h1 (fun _ z => by cases z), kp h2 (fun _ z => by cases z), h3, ⟨hA.1, fun p hp => ⟨by have := (hA.2 p hp).1; omega, by have := (hA.2 p hp).2; omega⟩⟩, ⟨hZ.1, fun p hp => ⟨by have := (hZ.2 p hp).1; omega, by have := (hZ.2 p hp).2; omega⟩⟩, hk⟩, o.nso, o.nwh⟩
theorem WS.pushSp (o : WS n wd sp ow ha ne lo H sps os m) {us : List V} (hus : H sp = some (.lst us)) (pr : Paired (PrAt H) us sps) {t : Addr} {q : Pr} (ht : H t = some (.tup (prV q))) : WS n wd sp ow ha ne lo (upd H sp (.lst (us ++ [V.ref t]))) (sps ++ [q]) os m := by
  obtain ⟨kvs, hha, _⟩ := o.cha.at
  have tp := tups_upd (u' := .lst (us ++ [V.ref t])) hus (fun _ z => by cases z)
  refine ⟨?_, ⟨_, upd_same, paired_snoc ⟨t, rfl, tp _ _ ht⟩ (paired_mono (fun _ _ z => PrAt.tups tp z) pr)⟩, o.cow.tups tp fun l h => ?_, o.cha.away (ne_of hus hha (by intro z; cases z)) (.inl (by simp)), o.two.away (fun l z => by rw [hus] at z; cases z), o.nso, o.nwh⟩
  · rw [upd_ne (ne_of o.cwd hus (by intro z; cases z))]; exact o.cwd
  · rw [upd_ne (Ne.symm o.nso)]; exact h
theorem WS.pushOw (o : WS n wd sp ow ha ne lo H sps os m) {us : List V} (hus : H ow = some (.lst us)) (pr : Paired (PrAt H) us os) {t : Addr} {q : Pr} (ht : H t = some (.tup (prV q))) : WS n wd sp ow ha ne lo (upd H ow (.lst (us ++ [V.ref t]))) sps (os ++ [q]) m := by
  obtain ⟨kvs, hha, _⟩ := o.cha.at
  have tp := tups_upd (u' := .lst (us ++ [V.ref t])) hus (fun _ z => by cases z)
  refine ⟨?_, o.csp.tups tp fun l h => ?_, ⟨_, upd_same, paired_snoc ⟨t, rfl, tp _ _ ht⟩ (paired_mono (fun _ _ z => PrAt.tups tp z) pr)⟩, o.cha.away (ne_of hus hha (by intro z; cases z)) (.inl (by simp)), o.two.away (fun l z => by rw [hus] at z; cases z), o.nso, o.nwh⟩
  · rw [upd_ne (ne_of o.cwd hus (by intro z; cases z))]; exact o.cwd
  · rw [upd_ne o.nso]; exact h
end
section
variable {P : Program} {w : World} {K : PySem.W.Frag} {mg : Str → Option Value} {base : Heap}
abbrev rLenQ (K : PySem.W.Frag) : List V → Hp → VK → Prop := fun xs H Q => ∃ p ys, xs = [V.ref p] ∧ (SqL K H p ys ∨ SqT K H p ys) ∧ Q (V.int ((ys.length : Nat) : Int)) H
/-- what a caller sees of the web -/
def WebAt (H : Hp) (v : V) (m n : Nat) (a : Addr) : Prop := ∃ wd sp ow ha ne lo us kvs, v = .ref wd ∧ H wd = some (.dK (webL sp ow ha ne lo)) ∧ H sp = some (.lst us) ∧ us.length = m ∧ H ha = some (.dK kvs) ∧ kvs.length = n ∧ sp ≠ a
def spWeb : Sp := fun vs H Q _ => ∃ v n es kd, vs = [v, .str kd] ∧ TabAt H v n es ∧ es.length ≤ 8 ∧ n ≤ 8 ∧ (∀ e ∈ es, e.okFor n) ∧ ∀ u H', Same H H' → (∀ a, H a ≠ none → WebAt H' u (looksF es).length n a) → Q u H'
theorem sc_web : FnScope ["_law_table_here", "_law_sort_so", "_law_web_here", "_law_spots", "_law_own", "_law_has", "_law_low", "_law_spot", "_law_deed", "_law_p", "_law_one", "_law_pair"] ["_law_table_here", "_law_sort_so"] (defScope s_law_web) := ⟨rfl, rfl, rfl, by decide +kernel, rfl, by decide +kernel, by decide +kernel⟩
theorem ok_web {f : Addr} {fd : FuncData} (F : FunD K "_law_web" "_law_web" (defArgs s_law_web) (defBody s_law_web) (defScope s_law_web) [] [] f fd) (T : Txt K mg) (GP : GOk P w K mg base 2 "_law_passed" ["_law_has", "_law_deed", "_law_sort_so"] spPassed)
    (GC : GOk P w K mg base 1 "_law_closed" ["_law_web_here"] spClosed) : FnOk P w K mg base CX0 3 f fd ["_law_table_here", "_law_sort_so"] spWeb := by
  refine okD F sc_web (fun vs H Q E h => ?_) (fun cdv A0 outer s H vs Q E hr h => ?_)
  · obtain ⟨v, n, es, kd, rfl, _⟩ := h
    rfl
  · obtain ⟨v, n, es, kd, rfl, ht, hle, hn8, hok, k⟩ := h
    have hu := hu_of hr
    have hr1 := hr.mono (show 1 ≤ 2 by decide)
    have hu2 : (A0.deeper (envOfC "_law_web" (defScope s_law_web) s.heap.objs.size f cdv)).units + 2 < cLine := by have := hr.un; omega
    refine ⟨_, pss_cons (ps_set (i := 2) sc_web.nd rfl (Or.inl rfl) (pe_disp (pps_cons pe_str (pe_lstS pa_nil) (pps_cons pe_str (pe_lstS pa_nil) (pps_cons pe_str
        (pe_callTy (call_dictP rfl) (by rfl) T.dict PyProof.Rows.boot_dict (pa_cons (pe_lc (own := [("_law_p", 9)]) (g := gName 9) (tt := tYes) (te := tTupS (tCons (tVar 9) (tCons (tLstS tNil) tNil))) rfl sc_web.nd
          (pi_range1 (by rfl) T.range (pa_cons (pe_ix ix_tup (pv 0) pe_int (fun _ _ => rfl)) pa_nil)) (blkOk_by (own := [("_law_p", 9)]) (N := ["_law_table_here", "_law_sort_so", "_law_web_here", "_law_spots", "_law_own", "_law_has", "_law_low", "_law_spot", "_law_deed", "_law_p", "_law_one", "_law_pair"]) (sc := defScope s_law_web) (by decide +kernel))
          (fun _ _ _ _ _ => pg_name (i := 9) sc_web.nd rfl (Or.inl rfl)) (fun _ _ _ _ _ => pts_nil) (fun _ _ _ _ _ => pe_tupS (pa_cons (pv 9) (pa_cons (pe_lstS pa_nil) pa_nil)))) pa_nil))
        (pps_cons pe_str pe_dnewTS (pps_cons pe_str pe_dnewTS pps_nil))))) rfl rfl (by simp) (by simp)))
      (pss_cons (ps_asg (pe_tupS (pa_cons (pe_dget hu (pv 2) pe_str (fun _ _ => rfl)) (pa_cons (pe_dget hu (pv 2) pe_str (fun _ _ => rfl)) pa_nil))) (pg_tup rfl (pgs_cons (pg_name (i := 3) sc_web.nd rfl (Or.inr rfl)) (pgs_cons (pg_name (i := 4) sc_web.nd rfl (Or.inl rfl)) pgs_nil))))
      (pss_cons (ps_par (i := 5) (j := 6) rfl sc_web.nd rfl rfl (by decide) rfl rfl (pa_cons (pe_dget hu (pv 2) pe_str (fun _ _ => rfl)) (pa_cons (pe_dget hu (pv 2) pe_str (fun _ _ => rfl)) pa_nil)) rfl)
      (pss_cons (ps_for PassesOwn.never rfl (pi_enumT (by rfl) T.enumerate (pa_cons (pe_ix ix_tup (pv 0) pe_int (fun _ _ => rfl)) pa_nil)) (pg_tup rfl (pgs_cons (pg_name (i := 7) sc_web.nd rfl (Or.inl rfl)) (pgs_cons (pg_name (i := 8) sc_web.nd rfl (Or.inl rfl)) pgs_nil)))
        (pss_one (ps_if (pt_cmpR op_eq (pe_ix ix_tup (pv 8) pe_int (fun _ _ => rfl)) pe_str (nomark _))
          (pss_cons (ps_expr (pe_bm PySem.F.plainAttrs_dict PySem.F.slot_dict_update PySem.F.type_dict_update (mt_updT hu) (pv 6) (pa_cons (pe_callTy (cr_dictT rfl hu2) (by rfl) T.dict PyProof.Rows.boot_dict (pa_cons
            (pe_lc (own := [("_law_one", 10)]) (g := gName 10) (tt := tYes) (te := tTupS (tCons (tTupS (tCons (tVar 10) (tCons (tCB (rLenQ K) (tCons (tVar 3) tNil)) tNil))) (tCons (tC (.bl true)) tNil))) rfl sc_web.nd
              (pi_list (pe_dget hu (pv 5) (pe_ix ix_tup (pv 8) pe_int (fun _ _ => rfl)) (fun _ _ => rfl))) (blkOk_by (own := [("_law_one", 10)]) (N := ["_law_table_here", "_law_sort_so", "_law_web_here", "_law_spots", "_law_own", "_law_has", "_law_low", "_law_spot", "_law_deed", "_law_p", "_law_one", "_law_pair"]) (sc := defScope s_law_web) (by decide +kernel))
              (fun _ _ _ _ _ => pg_name (i := 10) sc_web.nd rfl (Or.inl rfl)) (fun _ _ _ _ _ => pts_nil)
              (fun _ _ _ _ _ => pe_tupS (pa_cons (pe_tupS (pa_cons (pv 10) (pa_cons (pe_callB call_len_seq (by rfl) T.len PySem.boot_len (pa_cons (pv 3) pa_nil)) pa_nil))) (pa_cons pe_bl pa_nil)))) pa_nil)) pa_nil)))
          (pss_cons (ps_dput hu (pv 5) (pe_ix ix_tup (pv 8) pe_int (fun _ _ => rfl)) (pe_op op_catS (pe_dget hu (pv 5) (pe_ix ix_tup (pv 8) pe_int (fun _ _ => rfl)) (fun _ _ => rfl)) (pe_lstS (pa_cons (pe_callB call_len_seq (by rfl) T.len PySem.boot_len (pa_cons (pv 3) pa_nil)) pa_nil))) rfl)
          (pss_one (ps_expr (pe_bm PySem.F.plainAttrs_list PySem.F.slot_list_append PySem.F.type_list_append mt_append (pv 3) (pa_cons (pe_tupS (pa_cons (pv 7) (pa_cons (pe_ix ix_tup (pv 8) pe_int (fun _ _ => rfl)) pa_nil))) pa_nil))))))
          (pss_one (ps_if (pt_cmpR op_eq (pe_ix ix_tup (pv 8) pe_int (fun _ _ => rfl)) pe_str (nomark _))
            (pss_one (ps_expr (pe_bm PySem.F.plainAttrs_list PySem.F.slot_list_append PySem.F.type_list_append mt_append (pv 4) (pa_cons (pe_tupS (pa_cons (pv 7) (pa_cons (pe_ix ix_tup (pv 8) pe_int (fun _ _ => rfl)) pa_nil))) pa_nil))))
            (pss_one (ps_expr (pe_bm PySem.F.plainAttrs_dict PySem.F.slot_dict_update PySem.F.type_dict_update (mt_updT hu) (pe_dget hu (pv 2) pe_str (fun _ _ => rfl)) (pa_cons (pe_callTy (cr_dictT rfl hu2) (by rfl) T.dict PyProof.Rows.boot_dict (pa_cons
              (pe_lc (own := [("_law_pair", 11)]) (g := gName 11) (tt := tYes) (te := tTupS (tCons (tVar 11) (tCons (tC (.bl true)) tNil))) rfl sc_web.nd
                (pi_list (pe_g GP hr (pa_cons (pv 5) (pa_cons (pv 8) (pa_cons (pv 1) pa_nil))))) (blkOk_by (own := [("_law_pair", 11)]) (N := ["_law_table_here", "_law_sort_so", "_law_web_here", "_law_spots", "_law_own", "_law_has", "_law_low", "_law_spot", "_law_deed", "_law_p", "_law_one", "_law_pair"]) (sc := defScope s_law_web) (by decide +kernel))
                (fun _ _ _ _ _ => pg_name (i := 11) sc_web.nd rfl (Or.inl rfl)) (fun _ _ _ _ _ => pts_nil) (fun _ _ _ _ _ => pe_tupS (pa_cons (pv 11) (pa_cons pe_bl pa_nil)))) pa_nil)) pa_nil)))))))))
      (pss_one (ps_ret (pe_g GC hr1 (pa_cons (pv 2) pa_nil))))))), ?_⟩
    obtain ⟨ta, ev, rfl, hta, us, hus, pr⟩ := ht
    intro wd hwd
    have sw : Same H (upd H wd (.dK [])) := same_new hwd
    have hw0 : upd H wd (.dK []) wd = some (.dK []) := upd_same
    generalize upd H wd (.dK []) = H0 at sw hw0 ⊢
    refine ⟨t0, fun sp H1 hsp s1 h1 => ⟨t0, fun ow H2 how s2 h2 => ?_⟩⟩
    have s02 := (sw.trans s1).trans s2
    refine ⟨_, rfl, ta, _, 0, _, rfl, rfl, SqT.of (s02 _ _ hta), rfl, _, rfl, by omega, by omega, ?_⟩
    rw [Int.toNat_natCast]
    refine lc_out (α := Nat) walk_rg (fun H y j => ∃ t l, y = V.ref t ∧ H t = some (.tup [.int j, .ref l]) ∧ NL H l [] ∧ l ≠ sp ∧ l ≠ ow) (fun j => some j) (fun _ _ _ _ s ⟨t, l, a, b, c, d⟩ => ⟨t, l, a, s _ _ b, s _ _ c, d⟩) (by omega) (fun _ _ => trivial) ?_ ?_
    · rintro j x D H3 H4 acc Ky Kn hj s3 hD hacc ⟨rfl, rfl⟩ ky kn
      refine ⟨rfl, iteT (B := Kn H4) ⟨_, rfl, t0, fun l H5 hl s5 h5 => ⟨t2, fun t H6 ht s6 h6 => ky _ H6 j (s5.trans s6) rfl ⟨t, l, rfl, hid_get h6 (ne_of h6 ((s5.trans s6) _ _ hacc) (by intro z; cases z)), hid_get (s6 _ _ h5) (Ne.symm (ne_of_none hacc hl)), Ne.symm (ne_of_none (s3 _ _ (s2 _ _ h1)) hl), Ne.symm (ne_of_none (s3 _ _ h2) hl)⟩⟩⟩⟩
    · intro D H3 ys hD s3 hl3 pr3
      have e3 : (List.range n).filterMap (fun j => some j) = List.range n := by
        rw [List.filterMap_some]
      have pr3 : Paired (fun y j => ∃ t l, y = V.ref t ∧ H3 t = some (.tup [.int (j : Nat), .ref l]) ∧ NL H3 l [] ∧ l ≠ sp ∧ l ≠ ow) ys (List.range n) := by
        rw [← e3]; exact pr3
      have ex : ∀ j : Nat, ∃ tl : Addr × Addr, j < n → ys[j]? = some (V.ref tl.1) ∧ H3 tl.1 = some (.tup [.int j, .ref tl.2]) ∧ NL H3 tl.2 [] ∧ tl.2 ≠ sp ∧ tl.2 ≠ ow := fun j => by
        by_cases hj : j < n
        · obtain ⟨y, hy, t, l, rfl, q⟩ := paired_at' pr3 (range_at hj)
          exact ⟨(t, l), fun _ => ⟨hy, q⟩⟩
        · exact ⟨(0, 0), fun h => absurd h hj⟩
      obtain ⟨g, hg⟩ := Classical.axiomOfChoice ex
      have eys : ys = ((List.range n).map fun j => (g j).1).map V.ref := by
        refine List.ext_getElem? fun j => ?_
        by_cases hj : j < n
        · rw [(hg j hj).1, List.getElem?_map, List.getElem?_map, range_at hj]
          rfl
        · have l1 := paired_len pr3
          rw [List.length_range] at l1
          rw [List.getElem?_eq_none (by omega), List.getElem?_eq_none (by simp; omega)]
      rw [eys] at hl3
      refine ⟨D, (List.range n).map fun j => (g j).1, kH n fun j => (g j).2, rfl, SqL.of hl3, paired_maps _ fun j hj => SqT.of (hg j (List.mem_range.mp hj)).2.1, fun ha hha => ?_⟩
      rw [merge_kH]
      have s4 : Same H3 (upd H3 ha (.dK (kH n fun j => (g j).2))) := same_new hha
      have h4 : upd H3 ha (.dK (kH n fun j => (g j).2)) ha = some (.dK (kH n fun j => (g j).2)) := upd_same
      generalize upd H3 ha (.dK (kH n fun j => (g j).2)) = H4 at s4 h4 ⊢
      intro ne H5 hne s5 h5 lo H6 hlo s6 h6
      have s06 := ((s2.trans s3).trans s4).trans (s5.trans s6)
      refine ⟨(s1.trans s06) _ _ hw0, webL sp ow ha ne lo, rfl, by simp, ?_⟩
      have hmg : mergeK [] (webL sp ow ha ne lo) = webL sp ow ha ne lo := rfl
      rw [hmg]
      have s7 : ∀ {b : Addr} {o : HO}, H6 b = some o → b ≠ wd → upd H6 wd (.dK (webL sp ow ha ne lo)) b = some o := fun h n => by rw [upd_ne n]; exact h
      have fresh : ∀ {x : Addr} {Hx : Hp}, Same H0 Hx → Hx x = none → H x = none ∧ x ≠ wd := fun {x Hx} s h => by
        refine ⟨?_, fun z => ?_⟩
        · cases q : H x with
          | none => rfl
          | some o => rw [s _ _ (sw _ _ q)] at h; cases h
        · rw [z, s _ _ hw0] at h; cases h
      obtain ⟨nsp, nspw⟩ := fresh (Same.refl _) hsp
      obtain ⟨now, noww⟩ := fresh s1 how
      obtain ⟨nha, nhaw⟩ := fresh ((s1.trans s2).trans s3) hha
      obtain ⟨nne, nnew⟩ := fresh (((s1.trans s2).trans s3).trans s4) hne
      obtain ⟨nlo, nlow⟩ := fresh ((((s1.trans s2).trans s3).trans s4).trans s5) hlo
      have nso : sp ≠ ow := ne_of_none h1 how
      have hsp6 := s06 _ _ h1
      have how6 := ((s3.trans s4).trans (s5.trans s6)) _ _ h2
      have hha6 := (s5.trans s6) _ _ h4
      have ws7 : WS n wd sp ow ha ne lo (upd H6 wd (.dK (webL sp ow ha ne lo))) [] [] 0 := by
        refine ⟨upd_same, ⟨[], s7 hsp6 nspw, .nil⟩, ⟨[], s7 how6 noww, .nil⟩, ⟨fun j => (g j).2, fun _ => [], s7 hha6 nhaw, fun p hp => ?_⟩, ⟨[], [], s7 (s6 _ _ h5) nnew, s7 h6 nlow, ne_of_none h5 hlo, ⟨List.nodup_nil, fun p hp => (by cases hp)⟩, ⟨List.nodup_nil, fun p hp => (by cases hp)⟩, Nat.zero_le _⟩, nso, Ne.symm nhaw⟩
        obtain ⟨_, _, g3, g4, g5⟩ := hg p hp
        have g6 := (s4.trans (s5.trans s6)) _ _ g3
        refine ⟨s7 g6 ?_, Lo.nil, by simp; exact ⟨g4, g5⟩⟩
        exact ne_of g6 ((s1.trans s06) _ _ hw0) (by intro z; cases z)
      have sm7 : Same H (upd H6 wd (.dK (webL sp ow ha ne lo))) := fun b o e => s7 ((s1.trans s06) _ _ (sw _ _ e)) (ne_of_none e hwd)
      generalize upd H6 wd (.dK (webL sp ow ha ne lo)) = H7 at ws7 sm7 ⊢
      obtain ⟨gsp, gow, gha, gne, glo⟩ := webG ws7.cwd
      refine ⟨_, rfl, wd, _, rfl, gsp, _, rfl, wd, _, rfl, gow, t2, fun tt H8 htt s8 h8 => ⟨tt, _, rfl, SqT.of h8, rfl, _, _, rfl, _, _, rfl, rfl, ?_⟩⟩
      have ws8 := ws7.same s8
      have sm8 := sm7.trans s8
      obtain ⟨gsp, gow, gha, gne, glo⟩ := webG ws8.cwd
      refine ⟨_, rfl, wd, _, rfl, gha, _, rfl, wd, _, rfl, glo, _, _, rfl, ?_⟩
      refine ⟨_, rfl, ta, _, 1, _, rfl, rfl, SqT.of (sm8 _ _ hta), rfl, ev, us, rfl, SqT.of (sm8 _ _ hus), ?_⟩
      refine for_it walk_enumT (fun j σ H' => ∃ o7 o8 sps os, σ = [some (.ref ta), some (.str kd), some (.ref wd), some (.ref sp), some (.ref ow), some (.ref ha), some (.ref lo), o7, o8, none, none, none] ∧ Same H H' ∧ WS n wd sp ow ha ne lo H' sps os sps.length ∧ sps.length = (looksF (es.take j)).length ∧ os.length ≤ j)
        ⟨none, none, [], [], rfl, sm8, ws8, rfl, Nat.le_refl _⟩ (fun j σ H' _ ⟨_, _, _, _, _, sm, _⟩ => SqT.of (sm _ _ hus)) ?_ ?_
      · rintro j x σ H1' H2' hj ⟨o7, o8, sps, os, rfl, sm, ws, lsp, los⟩ ⟨T1, x1, y1, rfl, hT, rfl, e1', e2'⟩
        cases e1'
        obtain ⟨e, he, ea, rfl, hea⟩ := paired_at pr e2'
        have hokE := hok e (List.mem_of_getElem? he)
        have sT : Same H1' (upd H1' T1 (.tup [.int (j : Nat), .ref ea])) := same_new hT
        have hT2 : (upd H1' T1 (.tup [.int (j : Nat), .ref ea])) T1 = some (.tup [.int (j : Nat), .ref ea]) := upd_same
        have ws2 := ws.same sT
        have sm2 := sm.trans sT
        generalize upd H1' T1 (.tup [.int (j : Nat), .ref ea]) = H2 at sT hT2 ws2 sm2 ⊢
        have hjl : j < es.length := (List.getElem?_eq_some_iff.mp he).1
        have hea2 := sm2 _ _ hea
        refine ⟨T1, _, rfl, SqT.of hT2, rfl, _, _, rfl, _, _, rfl, rfl, ?_⟩
        refine ⟨_, rfl, ea, _, 0, _, rfl, rfl, SqT.of hea2, evV_0 e, rfl, _, rfl, ?_⟩
        have hsn := take_snoc he
        have nlk : ∀ z : Str, z ≠ "look" → ¬ decide (V.str z = V.str "look") = true := fun z h => decF fun q => h (V.str.inj q)
        have nad : ∀ z : Str, z ≠ "add" → ¬ decide (V.str z = V.str "add") = true := fun z h => decF fun q => h (V.str.inj q)
        have pass : ∀ {x : Str} {p q : Nat}, H2 ea = some (.tup [.str x, .int p, .int q]) → p < n → q < n → looksF (es.take (j + 1)) = looksF (es.take j) → True := fun _ _ _ _ => trivial
        cases e with
        | look p =>
          have hp : p < n := hokE
          have hlk : looksF (es.take (j + 1)) = looksF (es.take j) ++ [(j, p)] := by
            rw [hsn, looksF_app, List.length_take, Nat.min_eq_left (by omega)]
            rfl
          have hm8 : sps.length + 1 ≤ 8 := by
            have h1 := looksF_len (es.take (j + 1))
            rw [hlk, List.length_append, List.length_take] at h1
            simp only [List.length_cons, List.length_nil] at h1
            omega
          refine itP (decide_eq_true rfl) ?_
          obtain ⟨A2, Z2, hA2, hZ2, hne2, pA2, pZ2, _⟩ := id ws2.two
          obtain ⟨a, xs, hg2, hna, hlx⟩ := ws2.cha.get hp
          obtain ⟨us2, hus2, pr2⟩ := id ws2.csp
          have lus2 := paired_len pr2
          refine ⟨_, rfl, .inr (.inr (.inl ⟨rfl, .inr ⟨_, hZ2⟩⟩)), _, rfl, _, rfl, ea, _, 1, _, rfl, rfl, SqT.of hea2, rfl, ha, _, rfl, hg2, a, rfl, ⟨_, SqL.of hna⟩, ?_⟩
          refine lc_out walk_list PTAt (fun t => (xs[t]?).map fun x => ((x, sps.length) : Pr)) (fun _ _ _ _ s ⟨p, b, e, h1, h2⟩ => ⟨p, b, e, s _ _ h1, s _ _ h2⟩) (by rw [List.length_map]; have := hlx.2; omega) (fun H3 s3 => SqL.of (s3 _ _ hna)) ?_ ?_
          · rintro t v D H3 H4 acc Ky Kn ht s3 hD hacc ⟨rfl, hv⟩ ky kn
            rw [List.getElem?_map] at hv
            obtain ⟨x, hx, rfl⟩ := Option.map_eq_some_iff.mp hv
            refine ⟨rfl, iteT (B := Kn H4) ⟨_, rfl, _, rfl, sp, us2, rfl, .inl (SqL.of (s3 _ _ hus2)), t2, fun b H5 hb s5 h5 => ⟨t2, fun p H6 hp6 s6 h6 => ky _ H6 (x, sps.length) (s5.trans s6) (by rw [hx]; rfl) ⟨p, b, rfl, hid_get h6 (ne_of h6 ((s5.trans s6) _ _ hacc) (by intro z; cases z)), hid_get (by rw [lus2] at h5; exact s6 _ _ h5) (ne_of h5 (s5 _ _ hacc) (by intro z; cases z))⟩⟩⟩⟩
          · intro D H3 ys hD s3 hl3 pr3
            rw [List.length_map, map_at] at pr3
            refine ⟨D, ys, xs.map fun x => ((x, sps.length) : Pr), rfl, hl3, pr3, by rw [List.length_map]; have := hlx.2; omega, fun p4 A H4 hp4 ndA hA s4 h4 => ?_⟩
            have hbA : ∀ q ∈ A, q.1 < sps.length ∧ q.2 < sps.length + 1 := fun q hq => by
              obtain ⟨x, hx, rfl⟩ := List.mem_map.mp ((hA q).mp hq)
              exact ⟨hlx.1 x hx, Nat.lt_succ_self _⟩
            have lA : A.length ≤ 256 := Nat.le_trans (pairs_len (m := 16) ndA fun q hq => ⟨by have := (hbA q hq).1; omega, by have := (hbA q hq).2; omega⟩) (sq16 (Nat.le_refl _))
            have lZ := pZ2.len (by omega)
            have s24 := s3.trans s4
            refine ⟨lo, p4, Z2, A, rfl, rfl, s24 _ _ hZ2, h4, ne_of_none (s3 _ _ hZ2) hp4, pZ2.1, ndA, fun q hq => ⟨by have := (hbA q hq).1; omega, by have := (hbA q hq).2; omega⟩, by omega, by omega, fun Z' nd' mem' => ?_⟩
            have ws4 := ws2.same s24
            have ws5 := ws4.putLo (Nat.le_succ _) nd' fun q hq => by
              rcases (mem' q).mp hq with h | h
              · have := pZ2.2 q h; omega
              · have := hbA q h; omega
            have sm5 : Same H (upd H4 lo (.dT (Z'.map eT))) := fun b o e => by
              rw [upd_ne (ne_of_none e nlo)]
              exact (sm2.trans s24) _ _ e
            obtain ⟨kvs4, hha4, _⟩ := ws4.cha.at
            have hl5 : HasL (upd H4 lo (.dT (Z'.map eT))) ha n sps.length [sp, ow] := ws4.cha.away (ne_of (s24 _ _ hZ2) hha4 (by intro z; cases z)) (.inr fun l z => by rw [s24 _ _ hZ2] at z; cases z)
            generalize upd H4 lo (.dT (Z'.map eT)) = H5 at ws5 sm5 hl5 ⊢
            obtain ⟨a5, xs5, hg5, hna5, hlx5⟩ := hl5.get hp
            obtain ⟨us5, hus5, pr5⟩ := id ws5.csp
            obtain ⟨os5, hos5, _⟩ := id ws5.cow
            have lus5 := paired_len pr5
            refine ⟨_, rfl, _, rfl, ea, _, 1, _, rfl, rfl, SqT.of (sm5 _ _ hea), rfl, ha, _, rfl, hg5, _, rfl, sp, us5, rfl, .inl (SqL.of hus5), t1, fun l7 H7 hl7 s7 h7 => ⟨a5, l7, _, _, rfl, rfl, s7 _ _ hna5, h7, line64 (by rw [List.length_map]; have := hlx5.2; simp only [List.length_cons, List.length_nil]; omega), fun l8 H8 hl8 s8 h8 => ?_⟩⟩
            have s78 := s7.trans s8
            have h8 : NL H8 l8 (xs5 ++ [sps.length]) := by
              show H8 l8 = _
              rw [h8, lus5, List.map_append]
              rfl
            obtain ⟨o, put, hh9, _⟩ := (hl5.same s78).put (Nat.le_succ _) hp (by omega) h8 hlx5.more (by
              simp only [List.mem_cons, List.not_mem_nil, or_false, not_or]
              exact ⟨Ne.symm (ne_of_none (s7 _ _ hus5) hl8), Ne.symm (ne_of_none (s7 _ _ hos5) hl8)⟩)
            refine ⟨_, rfl, _, rfl, ea, _, 1, _, rfl, rfl, SqT.of ((sm5.trans s78) _ _ hea), rfl, ha, _, rfl, put, ?_⟩
            have ws9 := (ws5.same s78).putHa (Frame.upd (by simp)) hh9 (Nat.le_refl _)
            have sm9 : Same H (upd H8 ha o) := fun b o e => by
              rw [upd_ne (ne_of_none e nha)]
              exact (sm5.trans s78) _ _ e
            generalize upd H8 ha o = H9 at ws9 sm9 ⊢
            obtain ⟨us9, hus9, pr9⟩ := id ws9.csp
            have lus9 := paired_len pr9
            refine ⟨_, rfl, .inl ⟨rfl, _, SqL.of hus9⟩, _, rfl, _, rfl, ea, _, 1, _, rfl, rfl, SqT.of (sm9 _ _ hea), rfl, t2, fun t H10 _ s10 h10 => ⟨sp, us9, _, rfl, rfl, s10 _ _ hus9, line64' (by omega), ?_⟩⟩
            have ws11 := (ws9.same s10).pushSp (s10 _ _ hus9) (paired_mono (fun _ _ z => PrAt.same s10 z) pr9) (q := (j, p)) h10
            refine ⟨_, _, sps ++ [(j, p)], os, rfl, fun b o e => ?_, ?_, ?_, Nat.le_succ_of_le los⟩
            · rw [upd_ne (ne_of_none e nsp)]
              exact (sm9.trans s10) _ _ e
            · rw [List.length_append]
              exact ws11
            · rw [hlk, List.length_append, List.length_append, lsp]
        | add p =>
          have hlk : looksF (es.take (j + 1)) = looksF (es.take j) := by
            rw [hsn, looksF_app]
            exact List.append_nil _
          refine itN (nlk _ (by show ¬ (("add" : Str) = "look"); decide +kernel)) ?_
          refine ⟨_, rfl, ea, _, 0, _, rfl, rfl, SqT.of hea2, rfl, rfl, _, rfl, itP (decide_eq_true rfl) ?_⟩
          obtain ⟨us9, hus9, pr9⟩ := id ws2.cow
          have lus9 := paired_len pr9
          refine ⟨_, rfl, .inl ⟨rfl, _, SqL.of hus9⟩, _, rfl, _, rfl, ea, _, 1, _, rfl, rfl, SqT.of hea2, rfl, t2, fun t H10 _ s10 h10 => ⟨ow, us9, _, rfl, rfl, s10 _ _ hus9, line64' (by omega), ?_⟩⟩
          have ws11 := (ws2.same s10).pushOw (s10 _ _ hus9) (paired_mono (fun _ _ z => PrAt.same s10 z) pr9) (q := (j, p)) h10
          refine ⟨_, _, sps, os ++ [(j, p)], rfl, fun b o e => ?_, ws11, by rw [hlk]; exact lsp, by rw [List.length_append]; simp only [List.length_cons, List.length_nil]; omega⟩
          rw [upd_ne (ne_of_none e now)]
          exact (sm2.trans s10) _ _ e
        | meet p q =>
          have hlk : looksF (es.take (j + 1)) = looksF (es.take j) := by
            rw [hsn, looksF_app]
            exact List.append_nil _
          have hp : p < n := hokE.1
          have hq : q < n := hokE.2
          have hm8 : sps.length ≤ 8 := by
            have h1 := looksF_len (es.take j)
            rw [← lsp, List.length_take] at h1
            omega
          refine itN (nlk _ (by show ¬ (("meet" : Str) = "look"); decide +kernel)) ?_
          refine ⟨_, rfl, ea, _, 0, _, rfl, rfl, SqT.of hea2, rfl, rfl, _, rfl, itN (nad _ (by show ¬ (("meet" : Str) = "add"); decide +kernel)) ?_⟩
          obtain ⟨A2, Z2, hA2, hZ2, hne2, pA2, pZ2, _⟩ := id ws2.two
          obtain ⟨us2, hus2, pr2⟩ := id ws2.csp
          obtain ⟨os2, hos2, pro2⟩ := id ws2.cow
          refine ⟨_, rfl, wd, _, rfl, (webG ws2.cwd).2.2.2.1, .inr (.inr (.inl ⟨rfl, .inr ⟨_, hA2⟩⟩)), _, rfl, _, rfl, _, rfl, ha, ea, n, sps.length, p, q, "meet", kd, [sp, ow], rfl, ?_, ws2.cha, hea2, hp, hq, hn8, by omega, fun l H3 ps hl f3 hh3 ⟨vs3, hv3, pr3⟩ hps hlen => ⟨l, rfl, ⟨_, SqL.of hv3⟩, ?_⟩⟩
          · intro x hx
            simp only [List.mem_cons, List.not_mem_nil, or_false] at hx
            rcases hx with rfl | rfl
            · exact ⟨_, hus2⟩
            · exact ⟨_, hos2⟩
          have ws3 := ws2.putHa f3 hh3 (Nat.le_refl _)
          have sm3 : Same H H3 := fun b o e => f3 _ _ (sm2 _ _ e) (by simpa using ne_of_none e nha)
          have lv3 := paired_len pr3
          refine lc_out walk_list PTAt (fun t => ps[t]?) (fun _ _ _ _ s ⟨p, b, e, h1, h2⟩ => ⟨p, b, e, s _ _ h1, s _ _ h2⟩) (by omega) (fun H4 s4 => SqL.of (s4 _ _ hv3)) ?_ ?_
          · rintro t v D H4 H4' acc Ky Kn ht s4 hD hacc ⟨rfl, hv⟩ ky kn
            obtain ⟨x, hx, b, rfl, hb⟩ := paired_at pr3 hv
            refine ⟨rfl, iteT (B := Kn H4') ⟨_, rfl, t2, fun p H6 hp6 s6 h6 => ky _ H6 x s6 hx ⟨p, b, rfl, hid_get h6 (ne_of h6 (s6 _ _ hacc) (by intro z; cases z)), hid_get ((s4.trans s6) _ _ hb) (ne_of ((s4.trans s6) _ _ hb) (s6 _ _ hacc) (by intro z; cases z))⟩⟩⟩
          · intro D H4 ys hD s4 hl4 pr4
            rw [lv3, at_self] at pr4
            refine ⟨D, ys, ps, rfl, hl4, pr4, hlen, fun p5 A H5 hp5 ndA hA s5 h5 => ?_⟩
            have hbA : ∀ q ∈ A, q.1 < sps.length ∧ q.2 < sps.length := fun q hq => hps q ((hA q).mp hq)
            have lA : A.length ≤ 256 := Nat.le_trans (pairs_len ndA hbA) (sq16 (by omega))
            have s35 := s4.trans s5
            have ws5 := ws3.same s35
            obtain ⟨A5, Z5, hA5, hZ5, hne5, pA5, pZ5, _⟩ := id ws3.two
            have lA5 := pA5.len (by omega)
            refine ⟨ne, p5, A5, A, rfl, rfl, s35 _ _ hA5, h5, ne_of_none (s4 _ _ hA5) hp5, pA5.1, ndA, fun q hq => ⟨by have := (hbA q hq).1; omega, by have := (hbA q hq).2; omega⟩, by omega, by omega, fun Z' nd' mem' => ?_⟩
            have ws6 := ws5.putNe nd' fun q hq => by
              rcases (mem' q).mp hq with h | h
              · exact pA5.2 q h
              · exact hbA q h
            refine ⟨_, _, sps, os, rfl, fun b o e => ?_, ws6, by rw [hlk]; exact lsp, Nat.le_succ_of_le los⟩
            rw [upd_ne (ne_of_none e nne)]
            exact (sm3.trans s35) _ _ e
        | tell p q =>
          have hlk : looksF (es.take (j + 1)) = looksF (es.take j) := by
            rw [hsn, looksF_app]
            exact List.append_nil _
          have hp : p < n := hokE.1
          have hq : q < n := hokE.2
          have hm8 : sps.length ≤ 8 := by
            have h1 := looksF_len (es.take j)
            rw [← lsp, List.length_take] at h1
            omega
          refine itN (nlk _ (by show ¬ (("tell" : Str) = "look"); decide +kernel)) ?_
          refine ⟨_, rfl, ea, _, 0, _, rfl, rfl, SqT.of hea2, rfl, rfl, _, rfl, itN (nad _ (by show ¬ (("tell" : Str) = "add"); decide +kernel)) ?_⟩
          obtain ⟨A2, Z2, hA2, hZ2, hne2, pA2, pZ2, _⟩ := id ws2.two
          obtain ⟨us2, hus2, pr2⟩ := id ws2.csp
          obtain ⟨os2, hos2, pro2⟩ := id ws2.cow
          refine ⟨_, rfl, wd, _, rfl, (webG ws2.cwd).2.2.2.1, .inr (.inr (.inl ⟨rfl, .inr ⟨_, hA2⟩⟩)), _, rfl, _, rfl, _, rfl, ha, ea, n, sps.length, p, q, "tell", kd, [sp, ow], rfl, ?_, ws2.cha, hea2, hp, hq, hn8, by omega, fun l H3 ps hl f3 hh3 ⟨vs3, hv3, pr3⟩ hps hlen => ⟨l, rfl, ⟨_, SqL.of hv3⟩, ?_⟩⟩
          · intro x hx
            simp only [List.mem_cons, List.not_mem_nil, or_false] at hx
            rcases hx with rfl | rfl
            · exact ⟨_, hus2⟩
            · exact ⟨_, hos2⟩
          have ws3 := ws2.putHa f3 hh3 (Nat.le_refl _)
          have sm3 : Same H H3 := fun b o e => f3 _ _ (sm2 _ _ e) (by simpa using ne_of_none e nha)
          have lv3 := paired_len pr3
          refine lc_out walk_list PTAt (fun t => ps[t]?) (fun _ _ _ _ s ⟨p, b, e, h1, h2⟩ => ⟨p, b, e, s _ _ h1, s _ _ h2⟩) (by omega) (fun H4 s4 => SqL.of (s4 _ _ hv3)) ?_ ?_
          · rintro t v D H4 H4' acc Ky Kn ht s4 hD hacc ⟨rfl, hv⟩ ky kn
            obtain ⟨x, hx, b, rfl, hb⟩ := paired_at pr3 hv
            refine ⟨rfl, iteT (B := Kn H4') ⟨_, rfl, t2, fun p H6 hp6 s6 h6 => ky _ H6 x s6 hx ⟨p, b, rfl, hid_get h6 (ne_of h6 (s6 _ _ hacc) (by intro z; cases z)), hid_get ((s4.trans s6) _ _ hb) (ne_of ((s4.trans s6) _ _ hb) (s6 _ _ hacc) (by intro z; cases z))⟩⟩⟩
          · intro D H4 ys hD s4 hl4 pr4
            rw [lv3, at_self] at pr4
            refine ⟨D, ys, ps, rfl, hl4, pr4, hlen, fun p5 A H5 hp5 ndA hA s5 h5 => ?_⟩
            have hbA : ∀ q ∈ A, q.1 < sps.length ∧ q.2 < sps.length := fun q hq => hps q ((hA q).mp hq)
            have lA : A.length ≤ 256 := Nat.le_trans (pairs_len ndA hbA) (sq16 (by omega))
            have s35 := s4.trans s5
            have ws5 := ws3.same s35
            obtain ⟨A5, Z5, hA5, hZ5, hne5, pA5, pZ5, _⟩ := id ws3.two
            have lA5 := pA5.len (by omega)
            refine ⟨ne, p5, A5, A, rfl, rfl, s35 _ _ hA5, h5, ne_of_none (s4 _ _ hA5) hp5, pA5.1, ndA, fun q hq => ⟨by have := (hbA q hq).1; omega, by have := (hbA q hq).2; omega⟩, by omega, by omega, fun Z' nd' mem' => ?_⟩
            have ws6 := ws5.putNe nd' fun q hq => by
              rcases (mem' q).mp hq with h | h
              · exact pA5.2 q h
              · exact hbA q h
            refine ⟨_, _, sps, os, rfl, fun b o e => ?_, ws6, by rw [hlk]; exact lsp, Nat.le_succ_of_le los⟩
            rw [upd_ne (ne_of_none e nne)]
            exact (sm3.trans s35) _ _ e
      · rintro σ H2 ⟨o7, o8, sps, os, rfl, sm, ws, lsp, los⟩
        have lus := paired_len pr
        rw [lus, List.take_length] at lsp
        rw [lus] at los
        obtain ⟨us2, hus2, pr2⟩ := id ws.csp
        obtain ⟨kvs2, hha2, lkv2⟩ := ws.cha.at
        have h1 := looksF_len es
        refine ⟨_, rfl, wd, sp, ow, ha, ne, lo, sps, os, rfl, ws.cwd, ws.csp, ws.cow, by omega, by omega, ws.two, fun H3 f3 => k _ H3 (Frame.same sm f3 fun x hx => ?_) fun a hna => ?_⟩
        · simp only [List.mem_cons, List.not_mem_nil, or_false] at hx
          rcases hx with rfl | rfl
          · exact nne
          · exact nlo
        · have hwd3 := ws.two.keep f3 ws.cwd (fun _ z => by cases z)
          refine ⟨wd, sp, ow, ha, ne, lo, us2, kvs2, rfl, hwd3, ws.two.keep f3 hus2 (fun _ z => by cases z), ?_, ws.two.keep f3 hha2 (fun _ z => by cases z), lkv2, fun z => hna (z ▸ nsp)⟩
          rw [paired_len pr2, lsp]
end
end K43

-- K43L8
set_option Elab.async false
set_option linter.all false
set_option maxRecDepth 100000
set_option maxHeartbeats 4000000
/-! the law: _law_of, _law_draw_wants, _law_box -/
namespace K43
open PySem PySem.Spec PyProof.Rows L2
theorem hid_tups {D : Addr} {H H' : Hp} (t : Tups H H') : Tups (hid D H) (hid D H') := fun b l h => by
  unfold hid at h ⊢
  split at h
  · cases h
  · rename_i n
    rw [if_neg n]
    exact t b l h
theorem hid_tup (D : Addr) (H : Hp) : Tups (hid D H) H := fun b l h => hid_same D H b _ h
/-- a comprehension over a walk whose turns write elsewhere -/
theorem lc_fr {J : It} {n : Nat} {G : Hp → Prop} {Y : Nat → Hp → V → Hp → Prop} (w : Walk J n G Y) (Iv : Nat → Hp → Prop) (R : Hp → V → Prop) (hR : ∀ H H' v, Tups H H' → R H v → R H' v) (hn : n ≤ 100000)
    {g : TG} {tt : TT} {te : TE} {vs : List Nat} {σ : L2.St} {H1 : Hp} {Q : Addr → Hp → Prop} (h0 : Iv 0 H1) (hI : ∀ i H D o, H1 D = none → Iv i H → Iv i (upd H D o)) (hG : ∀ i H, Iv i H → G H)
    (hs : ∀ i x D H H' acc (Ky : V → Hp → Prop) (Kn : Hp → Prop), i < n → Iv i H → H1 D = none → H D = some (.lst acc) → Y i H x H' → (∀ y H4, Iv (i + 1) H4 → H4 D = some (.lst acc) → Tups H H4 → R (hid D H4) y → Ky y H4) →
      g x (wipe σ vs) H' fun σ2 H2 => wipe σ2 vs = wipe σ vs ∧ tt σ2 H2 fun b H3 => if b = true then te σ2 H3 Ky else Kn H3)
    (hd : ∀ D H' ys, H1 D = none → Iv n H' → H' D = some (.lst ys) → ys.length = n → (∀ y ∈ ys, R H' y) → Q D H') :
    ∀ D, H1 D = none → ∃ W : Nat → Nat → Hp → Prop, (∃ m, W 0 m (upd H1 D (.lst []))) ∧ ∀ i m H, W i m H →
      (J.stop i H ∧ Q D H) ∨ (J.go i H ∧ ∃ Nx : Hp → Prop, (∀ H', Nx H' → ∃ m', m' < m ∧ W (i + 1) m' H') ∧ ∀ x H', J.yld i H x H' → g x (wipe σ vs) H' fun σ2 H2 => wipe σ2 vs = wipe σ vs ∧ tt σ2 H2 fun b H3 =>
        if b = true then te σ2 H3 fun y H4 => ∃ acc, H4 D = some (.lst acc) ∧ acc.length < sizeLine ∧ Nx (upd H4 D (.lst (acc ++ [y]))) else Nx H3) := by
  intro D hD
  have line : (100000 : Nat) < sizeLine := by rw [sizeLine_eq]; decide
  refine lc_it w (fun i H => Iv i H ∧ ∃ acc, H D = some (.lst acc) ∧ acc.length = i ∧ ∀ y ∈ acc, R (hid D H) y) ⟨hI _ _ _ _ hD h0, [], upd_same, rfl, fun y hy => by cases hy⟩ (fun i H _ p => hG _ H p.1) ?_ ?_
  · rintro i x H H' hi ⟨iv, acc, hacc, hl, pr⟩ y
    refine hs i x D H H' acc _ _ hi iv hD hacc y (fun z H4 iv4 hacc4 t4 ra => ?_)
    refine ⟨acc, hacc4, by omega, ⟨hI _ _ _ _ hD iv4, _, upd_same, by rw [List.length_append, hl]; rfl, fun y hy => ?_⟩⟩
    rw [hid_upd]
    rcases List.mem_append.mp hy with hy | hy
    · exact hR _ _ _ (hid_tups t4) (pr y hy)
    · rw [List.mem_singleton.mp hy]; exact ra
  · rintro H ⟨iv, acc, hacc, hl, pr⟩
    exact hd D H acc hD iv hacc hl fun y hy => hR _ _ _ (hid_tup D H) (pr y hy)
theorem BoxAt.tups {H H' : Hp} {a : Addr} {c : Nat} (h : BoxAt H a c) (f : Frame [a] H H') : Tups H H' := fun b l e => by
  obtain ⟨_, _, _, q, _⟩ := h
  exact f _ _ e (by simpa using ne_of e q (by intro z; cases z))
section
variable {P : Program} {w : World} {K : PySem.W.Frag} {mg : Str → Option Value} {base : Heap}
def spOf : Sp := fun vs H Q _ => ∃ a l, ∃ c : Nat, ∃ us : List V, vs = [.ref a, .ref l] ∧ BoxAt H a c ∧ H l = some (.lst us) ∧ l ≠ a ∧ us ≠ [] ∧ us.length ≤ 1000 ∧ c ≤ 100000 ∧ ∀ v ∈ us, ∀ H', Frame [a] H H' → BoxAt H' a (c + 1) → Q v H'
theorem sc_of : FnScope ["_law_box_here", "_law_some"] ["_law_box_here", "_law_some"] (defScope s_law_of) := ⟨rfl, rfl, rfl, by decide +kernel, rfl, by decide +kernel, by decide +kernel⟩
theorem ok_of {f : Addr} {fd : FuncData} (F : FunD K "_law_of" "_law_of" (defArgs s_law_of) (defBody s_law_of) (defScope s_law_of) [] [] f fd) (T : Txt K mg) (GT : GOk P w K mg base 1 "_law_take" ["_law_box_here", "_law_below"] spTake) :
    FnOk P w K mg base CX0 2 f fd ["_law_box_here", "_law_some"] spOf := by
  refine okD F sc_of (fun vs H Q E h => ?_) (fun cdv A0 outer s H vs Q E hr h => ?_)
  · obtain ⟨a, l, c, us, rfl, _⟩ := h
    rfl
  · obtain ⟨a, l, c, us, rfl, hb, hl, nla, hne, hus, hc, k⟩ := h
    refine ⟨_, pss_one (ps_ret (pe_ix ix_list (pv 1) (pe_g GT hr (pa_cons (pv 0) (pa_cons (pe_callB call_len_seq (by rfl) T.len PySem.boot_len (pa_cons (pv 1) pa_nil)) pa_nil))) (fun _ _ => rfl))), ?_⟩
    have lus : 1 ≤ us.length := List.length_pos_iff.mpr hne
    refine ⟨_, rfl, _, rfl, _, rfl, l, us, rfl, .inl (SqL.of hl), a, c, us.length, rfl, hb, lus, hus, hc, fun r H1 hr1 f1 hb1 => ?_⟩
    obtain ⟨v, hv⟩ : ∃ v, us[r]? = some v := ⟨_, List.getElem?_eq_getElem hr1⟩
    exact ⟨l, us, _, v, rfl, rfl, SqL.of (f1 _ _ hl (by simpa using nla)), atI_nat hv, k v (List.mem_of_getElem? hv) H1 f1 hb1⟩
theorem WebAt.frame {H H' : Hp} {v : V} {m n c : Nat} {a : Addr} (hb : BoxAt H a c) (f : Frame [a] H H') (h : WebAt H v m n a) : WebAt H' v m n a := by
  obtain ⟨wd, sp, ow, ha, ne, lo, us, kvs, e, h1, h2, h3, h4, h5, h6⟩ := h
  obtain ⟨_, _, _, q, _⟩ := hb
  exact ⟨wd, sp, ow, ha, ne, lo, us, kvs, e, f _ _ h1 (by simpa using ne_of h1 q (by intro z; cases z)), f _ _ h2 (by simpa using h6), h3, f _ _ h4 (by simpa using ne_of h4 q (by intro z; cases z)), h5, h6⟩
def spDraw : Sp := fun vs H Q _ => ∃ a v, ∃ c m n k : Nat, vs = [.ref a, v, .int k] ∧ BoxAt H a c ∧ WebAt H v m n a ∧ 1 ≤ m ∧ m ≤ 1000 ∧ 1 ≤ n ∧ n ≤ 1000 ∧ k ≤ 100 ∧ c ≤ 90000 ∧
  ∀ l H' (ps : List Pr), Frame [a] H H' → BoxAt H' a (c + 4 + 2 * k) → PrL H' l ps → ps.length = k → (∀ p ∈ ps, p.1 < m ∧ p.2 < n) → Q (.ref l) H'
theorem prs_of {H : Hp} {m n : Nat} : ∀ {ys : List V}, (∀ y ∈ ys, ∃ q : Pr, PrAt H y q ∧ q.1 < m ∧ q.2 < n) → ∃ ps : List Pr, Paired (PrAt H) ys ps ∧ ∀ p ∈ ps, p.1 < m ∧ p.2 < n
  | [], _ => ⟨[], .nil, fun p hp => by cases hp⟩
  | y :: r, h => by
    obtain ⟨q, h1, h2⟩ := h y List.mem_cons_self
    obtain ⟨ps, g1, g2⟩ := prs_of (ys := r) fun z hz => h z (List.mem_cons_of_mem _ hz)
    exact ⟨q :: ps, .cons h1 g1, fun p hp => by
      rcases List.mem_cons.mp hp with rfl | hp
      · exact h2
      · exact g2 p hp⟩
abbrev rLenDK : List V → Hp → VK → Prop := fun xs H Q => ∃ a kvs, xs = [V.ref a] ∧ H a = some (.dK kvs) ∧ Q (.int kvs.length) H
theorem sc_draw : FnScope ["_law_box_here", "_law_web_here", "_law_many", "_law_some", "_law_lap"] ["_law_box_here", "_law_web_here", "_law_many"] (defScope s_law_draw_wants) := ⟨rfl, rfl, rfl, by decide +kernel, rfl, by decide +kernel, by decide +kernel⟩
theorem ok_draw {f : Addr} {fd : FuncData} (F : FunD K "_law_draw_wants" "_law_draw_wants" (defArgs s_law_draw_wants) (defBody s_law_draw_wants) (defScope s_law_draw_wants) [] [] f fd) (T : Txt K mg) (GT : GOk P w K mg base 1 "_law_take" ["_law_box_here", "_law_below"] spTake)
    (GO : GOk P w K mg base 2 "_law_of" ["_law_box_here", "_law_some"] spOf) : FnOk P w K mg base CX0 3 f fd ["_law_box_here", "_law_web_here", "_law_many"] spDraw := by
  refine okD F sc_draw (fun vs H Q E h => ?_) (fun cdv A0 outer s H vs Q E hr h => ?_)
  · obtain ⟨a, v, c, m, n, k, rfl, _⟩ := h
    rfl
  · obtain ⟨a, v, c, m, n, k, rfl, hb, hw, hm1, hm2, hn1, hn2, hk, hc, kk⟩ := h
    have hu := hu_of hr
    have hr1 := hr.mono (show 1 ≤ 2 by decide)
    refine ⟨_, pss_cons (ps_set (i := 3) sc_draw.nd rfl (Or.inr rfl) (pe_lc (own := [("_law_lap", 4)]) (g := gName 4) (tt := tYes)
        (te := tCall spTake [] E0 (tCons (tVar 0) (tCons (tCB (rLenQ K) (tCons (tDGet (tVar 1) (tC (.str "spots"))) tNil)) tNil))) rfl sc_draw.nd (pi_range1 (by rfl) T.range (pa_cons pe_int pa_nil))
        (blkOk_by (own := [("_law_lap", 4)]) (N := ["_law_box_here", "_law_web_here", "_law_many", "_law_some", "_law_lap"]) (sc := defScope s_law_draw_wants) (by decide +kernel)) (fun _ _ _ _ _ => pg_name (i := 4) sc_draw.nd rfl (Or.inl rfl)) (fun _ _ _ _ _ => pts_nil)
        (fun _ _ _ _ _ => pe_g GT hr1 (pa_cons (pv 0) (pa_cons (pe_callB call_len_seq (by rfl) T.len PySem.boot_len (pa_cons (pe_dget hu (pv 1) pe_str (fun _ _ => rfl)) pa_nil)) pa_nil)))))
      (pss_one (ps_ret (pe_lc (own := [("_law_lap", 4)]) (g := gName 4) (tt := tYes)
        (te := tTupS (tCons (tCall spOf [] E0 (tCons (tVar 0) (tCons (tVar 3) tNil))) (tCons (tCall spTake [] E0 (tCons (tVar 0) (tCons (tCB rLenDK (tCons (tDGet (tVar 1) (tC (.str "has"))) tNil)) tNil))) tNil))) rfl sc_draw.nd (pi_range1 (by rfl) T.range (pa_cons (pv 2) pa_nil))
        (blkOk_by (own := [("_law_lap", 4)]) (N := ["_law_box_here", "_law_web_here", "_law_many", "_law_some", "_law_lap"]) (sc := defScope s_law_draw_wants) (by decide +kernel)) (fun _ _ _ _ _ => pg_name (i := 4) sc_draw.nd rfl (Or.inl rfl)) (fun _ _ _ _ _ => pts_nil)
        (fun _ _ _ _ _ => pe_tupS (pa_cons (pe_g GO hr (pa_cons (pv 0) (pa_cons (pv 3) pa_nil))) (pa_cons (pe_g GT hr1 (pa_cons (pv 0) (pa_cons (pe_callB call_lenD (by rfl) T.len PySem.boot_len (pa_cons (pe_dget hu (pv 1) pe_str (fun _ _ => rfl)) pa_nil)) pa_nil))) pa_nil)))))), ?_⟩
    have hae : ∃ o, H a = some o := let ⟨_, _, _, q, _⟩ := hb; ⟨_, q⟩
    have keepI : ∀ {H' : Hp} {D : Addr} {o : HO} {e : Nat}, H D = none → Frame [a] H H' ∧ BoxAt H' a e → Frame [a] H (upd H' D o) ∧ BoxAt (upd H' D o) a e := fun {H' D o e} hD ⟨f, b⟩ => by
      refine ⟨f.new hD, ?_⟩
      obtain ⟨u, hu⟩ := hae
      obtain ⟨big, sd, q, h1, h2⟩ := b
      exact ⟨big, sd, q, by rw [upd_ne (ne_of_none hu hD)]; exact h1, h2⟩
    refine ⟨_, rfl, by decide, by decide, ?_⟩
    refine lc_fr (n := 4) walk_rg (fun i H' => Frame [a] H H' ∧ BoxAt H' a (c + i)) (fun _ v => ∃ r : Nat, v = V.int r ∧ r < m) (fun _ _ _ _ h => h) (by decide) ⟨Frame.refl _ _, hb⟩ (fun i H' D o hD h => keepI hD h) (fun _ _ _ => trivial) ?_ ?_
    · rintro i x D H2 H3 acc Ky Kn hi ⟨f2, hb2⟩ hD hacc ⟨rfl, rfl⟩ ky
      obtain ⟨wd, sp, ow, ha, ne, lo, us, kvs, rfl, h1, h2, h3, h4, h5, h6⟩ := hw.frame hb f2
      refine ⟨rfl, iteT (B := Kn H3) ⟨_, rfl, _, rfl, wd, _, rfl, (webG h1).1, sp, us, rfl, .inl (SqL.of h2), a, c + i, m, (by rw [h3]; rfl), hb2, hm1, hm2, by omega, fun r H4 hr4 f4 hb4 => ky _ H4 ⟨f2.trans f4, hb4⟩ (f4 _ _ hacc ?_) (hb2.tups f4) ⟨r, rfl, hr4⟩⟩⟩
      obtain ⟨u, hu⟩ := hae
      simpa using Ne.symm (ne_of_none hu hD)
    · intro D H2 ys hD ⟨f2, hb2⟩ hl2 hlen hys
      obtain ⟨u, hu'⟩ := id hae
      have nDa : D ≠ a := Ne.symm (ne_of_none hu' hD)
      refine ⟨_, rfl, _, rfl, by omega, by omega, ?_⟩
      rw [Int.toNat_natCast]
      have keepJ : ∀ {H' : Hp} {D' : Addr} {o : HO} {e : Nat}, H2 D' = none → Frame [a] H2 H' ∧ BoxAt H' a e → Frame [a] H2 (upd H' D' o) ∧ BoxAt (upd H' D' o) a e := fun {H' D' o e} hD ⟨f, b⟩ => by
        refine ⟨f.new hD, ?_⟩
        obtain ⟨_, _, _, q2, _⟩ := hb2
        obtain ⟨big, sd, q, h1, h2⟩ := b
        exact ⟨big, sd, q, by rw [upd_ne (ne_of_none q2 hD)]; exact h1, h2⟩
      refine lc_fr walk_rg (fun i H' => Frame [a] H2 H' ∧ BoxAt H' a (c + 4 + 2 * i)) (fun H' v => ∃ q : Pr, PrAt H' v q ∧ q.1 < m ∧ q.2 < n) (fun _ _ _ t ⟨q, h1, h2⟩ => ⟨q, h1.tups t, h2⟩) (by omega) ⟨Frame.refl _ _, hb2⟩ (fun i H' D o hD h => keepJ hD h) (fun _ _ _ => trivial) ?_ ?_
      · rintro i x D' H3 H4 acc Ky Kn hi ⟨f3, hb3⟩ hD' hacc ⟨rfl, rfl⟩ ky
        have nDa' : D' ≠ a := by
          obtain ⟨_, _, _, q2, _⟩ := hb2
          exact Ne.symm (ne_of_none q2 hD')
        refine ⟨rfl, iteT (B := Kn H4) ⟨_, rfl, _, rfl, a, D, c + 4 + 2 * i, ys, rfl, hb3, f3 _ _ hl2 (by simpa using nDa), nDa, (fun z => by rw [z] at hlen; cases hlen), by omega, by omega, fun y hy H5 f5 hb5 => ?_⟩⟩
        obtain ⟨r1, rfl, hr1m⟩ := hys y hy
        obtain ⟨wd, sp, ow, ha, ne, lo, us, kvs, rfl, h1, h2, h3, h4, h5, h6⟩ := hw.frame hb ((f2.trans f3).trans f5)
        refine ⟨_, rfl, _, rfl, wd, _, rfl, (webG h1).2.2.1, ha, kvs, rfl, h4, a, c + 4 + 2 * i + 1, n, (by rw [h5]; rfl), hb5, hn1, hn2, by omega, fun r2 H6 hr6 f6 hb6 => ⟨t2, fun t H7 ht s7 h7 => ?_⟩⟩
        have tp := (hb3.tups (f5.trans f6))
        refine ky _ H7 ⟨(f3.trans (f5.trans f6)).trans (Frame.of s7), hb6.same s7⟩ (s7 _ _ (f6 _ _ (f5 _ _ hacc (by simpa using nDa')) (by simpa using nDa'))) (fun b l e => s7 _ _ (tp b l e)) ⟨(r1, r2), ⟨t, rfl, hid_get h7 ?_⟩, hr1m, hr6⟩
        exact ne_of h7 (s7 _ _ (f6 _ _ (f5 _ _ hacc (by simpa using nDa')) (by simpa using nDa'))) (by intro z; cases z)
      · intro D' H3 ys' hD' ⟨f3, hb3⟩ hl3 hlen3 hys3
        obtain ⟨ps, pr, hps⟩ := prs_of hys3
        exact kk D' H3 ps (f2.trans f3) hb3 ⟨ys', hl3, pr⟩ (by rw [← paired_len pr, hlen3]) hps
end
end K43

-- K43L9
set_option Elab.async false
set_option linter.all false
set_option maxRecDepth 100000
set_option maxHeartbeats 4000000
/-! the law: _law_box -/
namespace K43
open PySem PySem.Spec PyProof.Rows L2
theorem bit01 (b : Bool) : 0 ≤ (if b = true then (1 : Int) else 0) ∧ (if b = true then (1 : Int) else 0) < 2 ^ 64 := by cases b <;> decide
section
variable {P : Program} {w : World} {K : PySem.W.Frag} {mg : Str → Option Value} {base : Heap}
theorem sql_same {K : PySem.W.Frag} {H H' : Hp} {a : Addr} {xs : List V} (s : Same H H') (h : SqL K H a xs) : SqL K H' a xs := h.imp (fun r => r.imp (s _ _) fun ⟨o, q⟩ => ⟨o, s _ _ q⟩) id
def spBox (K : PySem.W.Frag) : Sp := fun vs H Q _ => ∃ l, ∃ ns : List Int, ∃ j : Nat, vs = [.ref l, .int j] ∧ SqL K H l (ns.map V.int) ∧ j ≤ 100 ∧ ns.length ≤ 1000 ∧ ∀ a H', H a = none → Same H H' → BoxAt H' a 0 → Q (.ref a) H'
theorem sc_box : FnScope ["_law_script", "_law_lap", "_law_cell", "_law_seed"] ["_law_script", "_law_lap"] (defScope s_law_box) := ⟨rfl, rfl, rfl, by decide +kernel, rfl, by decide +kernel, by decide +kernel⟩
theorem ok_box {f : Addr} {fd : FuncData} (F : FunD K "_law_box" "_law_box" (defArgs s_law_box) (defBody s_law_box) (defScope s_law_box) [] [] f fd) (T : Txt K mg) : FnOk P w K mg base CX0 1 f fd ["_law_script", "_law_lap"] (spBox K) := by
  refine okD F sc_box (fun vs H Q E h => ?_) (fun cdv A0 outer s H vs Q E hr h => ?_)
  · obtain ⟨l, ns, j, rfl, _⟩ := h
    rfl
  · obtain ⟨l, ns, j, rfl, hl, hj, hn, k⟩ := h
    refine ⟨_, pss_cons (ps_set (i := 2) sc_box.nd rfl (Or.inl rfl) (PE.imp (t' := fun σ H Q => σ[0]? = some (some (.ref l)) ∧ σ[1]? = some (some (.int j)) ∧ SqL K H l (ns.map V.int) ∧ ∀ c : Int, Q (.int c) H) (pe_ifExp (pt_cmpR op_lt (pv 1) (pe_callB call_len_seq (by rfl) T.len PySem.boot_len (pa_cons (pv 0) pa_nil)) (nomark _)) (pe_ix ix_list (pv 0) (pv 1) (fun _ _ => rfl)) pe_int) ?_))
      (pss_cons (ps_set (i := 3) sc_box.nd rfl (Or.inl rfl) (pe_op op_mod (pe_callTy call_int1 (by rfl) T.int PyProof.Rows.boot_int (pa_cons (pe_op op_mul (pe_op op_add (pe_op op_add (pe_op op_mod (pe_callTy call_int1 (by rfl) T.int PyProof.Rows.boot_int (pa_cons (pv 2) pa_nil)) pe_int) (pe_op op_mul pe_int (pv 1))) pe_int) pe_int) pa_nil)) pe_int))
      (pss_one (ps_ret (pe_lstS (pa_cons (pe_op op_mul (pe_callB call_abs (by rfl) T.abs PyProof.Rows.boot_abs (pa_cons (pv 2) pa_nil)) (pe_callTy call_int1 (by rfl) T.int PyProof.Rows.boot_int (pa_cons (pe_cmpR op_ge (pe_callB call_abs (by rfl) T.abs PyProof.Rows.boot_abs (pa_cons (pv 2) pa_nil)) (pe_op op_pow pe_int pe_int) (nomark _)) pa_nil))) (pa_cons (pv 3) (pa_cons pe_int pa_nil))))))), ?_⟩
    · rintro σ H Q ⟨h0, h1, hl, q⟩
      refine ⟨_, h1, _, h0, l, _, rfl, .inl (hl), _, _, rfl, rfl, _, rfl, ite2 (fun e => ?_) (fun e => q 0)⟩
      have hj2 : j < ns.length := by have := of_decide_eq_true e; rw [List.length_map] at this; omega
      obtain ⟨x, hx⟩ : ∃ x, ns[j]? = some x := ⟨_, List.getElem?_eq_getElem hj2⟩
      exact ⟨_, h0, _, h1, l, _, _, .int x, rfl, rfl, hl, atI_nat (by rw [List.getElem?_map, hx]; rfl), q x⟩
    · refine ⟨rfl, rfl, hl, fun c => ?_⟩
      have hc : ∀ x y : Int, 0 ≤ y → y < 2 ^ 64 → CMul x y := fun x y h1 h2 => .inr ⟨by omega, h2⟩
      have hs1 := Int.emod_nonneg ((c % 2305843009213693921 + 41177 * (j : Int) + 53) * 38923) (show (2147483563 : Int) ≠ 0 by decide)
      have hs2 := Int.emod_lt_of_pos ((c % 2305843009213693921 + 41177 * (j : Int) + 53) * 38923) (show (0 : Int) < 2147483563 by decide)
      refine ⟨_, rfl, .inl ⟨_, rfl, _, _, rfl, rfl, (show (0 : Int) < 2305843009213693921 by decide), _, rfl, _, _, rfl, rfl, .inl ⟨by decide, by decide⟩, _, _, rfl, rfl, _, _, rfl, rfl, _, _, rfl, rfl, hc _ _ (by decide) (by decide), .inl ⟨_, rfl, _, _, rfl, rfl, (show (0 : Int) < 2147483563 by decide), ?_⟩⟩⟩
      refine ⟨_, rfl, c, rfl, _, rfl, c, rfl, _, _, rfl, rfl, ⟨by decide, by decide, by decide⟩, _, _, rfl, rfl, .inr ⟨_, rfl, _, _, rfl, rfl, ?_, ?_⟩⟩
      · exact .inr ⟨Int.lt_of_lt_of_le (by decide) (bit01 _).1, (bit01 _).2⟩
      refine ⟨_, rfl, t3, fun a H1 ha s1 h1 => k a H1 ha s1 ⟨_, _, 0, h1, ?_, hs1, by omega, Int.le_refl _, Int.le_refl _⟩⟩
      refine Int.mul_nonneg ?_ ?_
      · split <;> omega
      · exact (bit01 _).1
end
end K43

-- K43L10
set_option Elab.async false
set_option linter.all false
set_option maxRecDepth 100000
set_option maxHeartbeats 4000000
/-! the law: _law_state -/
namespace K43
open PySem PySem.Spec PyProof.Rows L2
def ipairs (m n : Nat) : List Pr := (List.range m).flatMap fun i => (List.range n).map fun p => (i, p)
theorem ipairs_succ (i n : Nat) : ipairs (i + 1) n = ipairs i n ++ (List.range n).map fun p => (i, p) := by
  unfold ipairs
  rw [List.range_succ, List.flatMap_append]
  simp
theorem ipairs_len (n : Nat) : ∀ m, (ipairs m n).length = m * n
  | 0 => by simp [ipairs]
  | m + 1 => by rw [ipairs_succ, List.length_append, ipairs_len n m, List.length_map, List.length_range, Nat.succ_mul]
def KeptAt (av : Addr) (long : Bool) (es : List Ev) (n : Nat) (H : Hp) (v : V) (i : Nat) : Prop := ∃ l ns, v = .ref l ∧ NL H l ns ∧ (∀ p, p ∈ ns ↔ p < n ∧ KeptF long es i p) ∧ ns.length ≤ 8 ∧ l ≠ av
def KnownAt (long : Bool) (es : List Ev) (v : V) (q : Pr) : Prop := ∃ r, v = optV r ∧ KnownF long es q.1 q.2 r
def WayAt (long : Bool) (es : List Ev) (v : V) (q : Pr) : Prop := ∃ z, v = .str z ∧ WayF long es [q] z
structure StAt (av : Addr) (H : Hp) (l : Addr) (long : Bool) (es : List Ev) (n m : Nat) (W : List Pr) : Prop where
  at_ : ∃ a b c x ks rs ws, H l = some (.lst [.ref a, .ref b, .ref c, x]) ∧ H a = some (.lst ks) ∧ Paired (KeptAt av long es n H) ks (List.range m) ∧ H b = some (.lst rs) ∧ Paired (KnownAt long es) rs (ipairs m n) ∧
    H c = some (.lst ws) ∧ Paired (WayAt long es) ws (ipairs m n) ∧ ((x = .non ∧ FineF long es W false) ∨ ((∃ a, x = .ref a) ∧ ¬ FineF long es W false)) ∧ l ≠ av ∧ a ≠ av ∧ b ≠ av ∧ c ≠ av
theorem KeptAt.same {av : Addr} {long : Bool} {es : List Ev} {n : Nat} {H H' : Hp} {v : V} {i : Nat} (s : Same H H') (h : KeptAt av long es n H v i) : KeptAt av long es n H' v i := let ⟨l, ns, a, b, c⟩ := h; ⟨l, ns, a, s _ _ b, c⟩
theorem KeptAt.frame {av : Addr} {long : Bool} {es : List Ev} {n : Nat} {H H' : Hp} {v : V} {i : Nat} (s : Frame [av] H H') (h : KeptAt av long es n H v i) : KeptAt av long es n H' v i := let ⟨l, ns, a, b, c, d, e⟩ := h; ⟨l, ns, a, s _ _ b (by simpa using e), c, d, e⟩
theorem StAt.frame {av : Addr} {H H' : Hp} {l : Addr} {long : Bool} {es : List Ev} {n m : Nat} {W : List Pr} (s : Frame [av] H H') (h : StAt av H l long es n m W) : StAt av H' l long es n m W :=
  let ⟨a, b, c, x, ks, rs, ws, h1, h2, h3, h4, h5, h6, h7, h8, n1, n2, n3, n4⟩ := h.at_
  ⟨a, b, c, x, ks, rs, ws, s _ _ h1 (by simpa using n1), s _ _ h2 (by simpa using n2), paired_mono (fun _ _ z => KeptAt.frame s z) h3, s _ _ h4 (by simpa using n3), h5, s _ _ h6 (by simpa using n4), h7, h8, n1, n2, n3, n4⟩
theorem StAt.same {av : Addr} {H H' : Hp} {l : Addr} {long : Bool} {es : List Ev} {n m : Nat} {W : List Pr} (s : Same H H') (h : StAt av H l long es n m W) : StAt av H' l long es n m W := h.frame (Frame.of s)
section
variable {P : Program} {w : World} {K : PySem.W.Frag} {mg : Str → Option Value} {base : Heap}
def spState : Sp := fun vs H Q _ => ∃ v n es kd wa, ∃ W : List Pr, ∃ m : Nat, ∃ av : Addr, vs = [v, .str kd, .int m, .ref wa] ∧ (∃ o, H av = some o) ∧ TabAt H v n es ∧ es.length ≤ 16 ∧ n ≤ 8 ∧ (∀ e ∈ es, e.okFor n) ∧ m ≤ (looksF es).length ∧ PrL H wa W ∧ 1 ≤ W.length ∧ W.length ≤ 6 ∧ (∀ p ∈ W, p.1 < (looksF es).length ∧ p.2 < n) ∧
  ∀ l H', Same H H' → StAt av H' l (decide (kd = "long")) es n m W → Q (.ref l) H'
theorem sc_state : FnScope ["_law_table_here", "_law_sort_so", "_law_many", "_law_wants_so", "_law_ways", "_law_i", "_law_whens", "_law_p"] ["_law_table_here", "_law_sort_so", "_law_many", "_law_wants_so"] (defScope s_law_state) := ⟨rfl, rfl, rfl, by decide +kernel, rfl, by decide +kernel, by decide +kernel⟩
theorem ok_state {f : Addr} {fd : FuncData} (F : FunD K "_law_state" "_law_state" (defArgs s_law_state) (defBody s_law_state) (defScope s_law_state) [] [] f fd) (T : Txt K mg) (GKe : GOk P w K mg base 8 "kept_from" ["timetable", "kind", "i"] (spKeptP K))
    (GKn : GOk P w K mg base 7 "known_at" ["timetable", "kind", "i", "person"] (spKnown K)) (GW : GOk P w K mg base 25 "keep_way" ["timetable", "kind", "i", "people"] spKeepWay) (GC : GOk P w K mg base 24 "clash" ["timetable", "kind", "wishes"] spClash) :
    FnOk P w K mg base CX0 26 f fd ["_law_table_here", "_law_sort_so", "_law_many", "_law_wants_so"] spState := by
  refine okD F sc_state (fun vs H Q E h => ?_) (fun cdv A0 outer s H vs Q E hr h => ?_)
  · obtain ⟨v, n, es, kd, wa, W, m, av, rfl, _⟩ := h
    rfl
  · obtain ⟨v, n, es, kd, wa, W, m, av, rfl, ⟨oav, hav⟩, ht, hle, hn8, hok, hm, hW, hW1, hW6, hWr, k⟩ := h
    have hr24 := hr.mono (show 24 ≤ 25 by decide)
    have hr8 := hr.mono (show 8 ≤ 25 by decide)
    have hr7 := hr.mono (show 7 ≤ 25 by decide)
    refine ⟨_, pss_cons (ps_set (i := 4) sc_state.nd rfl (Or.inl rfl) (pe_lstS pa_nil))
      (pss_cons (ps_for PassesOwn.never rfl (pi_range1 (by rfl) T.range (pa_cons (pv 2) pa_nil)) (pg_name (i := 5) sc_state.nd rfl (Or.inr rfl))
        (pss_one (ps_set (i := 4) sc_state.nd rfl (Or.inl rfl) (pe_op op_catS (pv 4)
          (pe_lc (own := [("_law_p", 7)]) (g := gName 7) (tt := tYes) (te := tCall spKeepWay [] E0 (tCons (tVar 0) (tCons (tVar 1) (tCons (tVar 5) (tCons (tLstS (tCons (tVar 7) tNil)) tNil))))) rfl sc_state.nd (pi_range1 (by rfl) T.range (pa_cons (pe_ix ix_tup (pv 0) pe_int (fun _ _ => rfl)) pa_nil))
            (blkOk_by (own := [("_law_p", 7)]) (N := ["_law_table_here", "_law_sort_so", "_law_many", "_law_wants_so", "_law_ways", "_law_i", "_law_whens", "_law_p"]) (sc := defScope s_law_state) (by decide +kernel)) (fun _ _ _ _ _ => pg_name (i := 7) sc_state.nd rfl (Or.inl rfl)) (fun _ _ _ _ _ => pts_nil)
            (fun _ _ _ _ _ => pe_g GW hr (pa_cons (pv 0) (pa_cons (pv 1) (pa_cons (pv 5) (pa_cons (pe_lstS (pa_cons (pv 7) pa_nil)) pa_nil))))))))))
      (pss_cons (ps_set (i := 6) sc_state.nd rfl (Or.inl rfl) (pe_lstS pa_nil))
      (pss_cons (ps_for PassesOwn.never rfl (pi_range1 (by rfl) T.range (pa_cons (pv 2) pa_nil)) (pg_name (i := 5) sc_state.nd rfl (Or.inr rfl))
        (pss_one (ps_set (i := 6) sc_state.nd rfl (Or.inl rfl) (pe_op op_catS (pv 6)
          (pe_lc (own := [("_law_p", 7)]) (g := gName 7) (tt := tYes) (te := tCall (spKnown K) [] E0 (tCons (tVar 0) (tCons (tVar 1) (tCons (tVar 5) (tCons (tVar 7) tNil))))) rfl sc_state.nd (pi_range1 (by rfl) T.range (pa_cons (pe_ix ix_tup (pv 0) pe_int (fun _ _ => rfl)) pa_nil))
            (blkOk_by (own := [("_law_p", 7)]) (N := ["_law_table_here", "_law_sort_so", "_law_many", "_law_wants_so", "_law_ways", "_law_i", "_law_whens", "_law_p"]) (sc := defScope s_law_state) (by decide +kernel)) (fun _ _ _ _ _ => pg_name (i := 7) sc_state.nd rfl (Or.inl rfl)) (fun _ _ _ _ _ => pts_nil)
            (fun _ _ _ _ _ => pe_g GKn hr7 (pa_cons (pv 0) (pa_cons (pv 1) (pa_cons (pv 5) (pa_cons (pv 7) pa_nil))))))))))
      (pss_one (ps_ret (pe_lstS (pa_cons (pe_lc (own := [("_law_i", 5)]) (g := gName 5) (tt := tYes) (te := tCall (spKeptP K) [] E0 (tCons (tVar 0) (tCons (tVar 1) (tCons (tVar 5) tNil)))) rfl sc_state.nd (pi_range1 (by rfl) T.range (pa_cons (pv 2) pa_nil))
            (blkOk_by (own := [("_law_i", 5)]) (N := ["_law_table_here", "_law_sort_so", "_law_many", "_law_wants_so", "_law_ways", "_law_i", "_law_whens", "_law_p"]) (sc := defScope s_law_state) (by decide +kernel)) (fun _ _ _ _ _ => pg_name (i := 5) sc_state.nd rfl (Or.inl rfl)) (fun _ _ _ _ _ => pts_nil)
            (fun _ _ _ _ _ => pe_g GKe hr8 (pa_cons (pv 0) (pa_cons (pv 1) (pa_cons (pv 5) pa_nil)))))
          (pa_cons (pv 6) (pa_cons (pv 4) (pa_cons (pe_g GC hr24 (pa_cons (pv 0) (pa_cons (pv 1) (pa_cons (pv 3) pa_nil)))) pa_nil)))))))))), ?_⟩
    generalize hlong : decide (kd = "long") = long at k
    have hm16 : m ≤ 16 := Nat.le_trans hm (Nat.le_trans (looksF_len es) hle)
    have hmul : ∀ i, i < m → i * n ≤ 16 * 8 := fun i hi => Nat.mul_le_mul (by omega) hn8
    have efm : ∀ i : Nat, (List.range n).filterMap (fun j => some ((i, j) : Pr)) = (List.range n).map fun p => (i, p) := fun i => by
      rw [← List.filterMap_eq_map]
      rfl
    obtain ⟨ta, ev, ev1, hta, hev⟩ := id ht
    subst ev1
    refine ⟨t0, fun l0 H1 hl0 s1 h1 => ⟨_, rfl, _, rfl, by omega, by omega, ?_⟩⟩
    rw [Int.toNat_natCast]
    refine for_it walk_rg (fun i σ H' => ∃ l o5 vs, σ = [some (.ref ta), some (.str kd), some (.int m), some (.ref wa), some (.ref l), o5, none, none] ∧ Same H H' ∧ H' l = some (.lst vs) ∧ Paired (WayAt long es) vs (ipairs i n) ∧ l ≠ av)
      ⟨l0, _, _, rfl, s1, h1, .nil, Ne.symm (ne_of_none hav hl0)⟩ (fun _ _ _ _ _ => trivial) ?_ ?_
    · rintro i x σ H2 H2' hi ⟨l, o5, vs, rfl, sm, hl, pr, _⟩ ⟨rfl, rfl⟩
      refine ⟨_, rfl, _, rfl, ta, _, 0, _, rfl, rfl, SqT.of (sm _ _ hta), rfl, _, rfl, by omega, by omega, ?_⟩
      rw [Int.toNat_natCast]
      refine lc_out walk_rg (fun _ y q => WayAt long es y q) (fun j => some (i, j)) (fun _ _ _ _ _ h => h) (by omega) (fun _ _ => trivial) ?_ ?_
      · rintro j x D H3 H4 acc Ky Kn hj s3 hD hacc ⟨rfl, rfl⟩ ky kn
        refine ⟨rfl, iteT (B := Kn H4) ⟨_, rfl, _, rfl, _, rfl, _, rfl, t1, fun l5 H5 _ s5 h5 => ⟨.ref ta, n, es, kd, i, j, l5, rfl, h5, ht.same ((sm.trans s3).trans s5), hle, hn8, hok, by omega, hj, fun z H6 s6 hz => ky _ H6 (i, j) (s5.trans s6) rfl ⟨z, rfl, by rw [← hlong]; exact hz⟩⟩⟩⟩
      · intro D H3 ys hD s3 hl3 pr3
        rw [efm] at pr3
        have e1 := paired_len pr
        have e2 := paired_len pr3
        rw [ipairs_len] at e1
        rw [List.length_map, List.length_range] at e2
        have e3 := hmul i hi
        refine ⟨l, D, vs, ys, rfl, rfl, s3 _ _ hl, hl3, line64 (by omega), fun l2 H4 hl2 s4 h4 => ⟨l2, _, _, rfl, (sm.trans s3).trans s4, h4, by rw [ipairs_succ]; exact paired_app pr pr3, Ne.symm (ne_of_none ((sm.trans s3) _ _ hav) hl2)⟩⟩
    rintro σ H2 ⟨lw, o5, ws, rfl, s2, hlw, prw, nlw⟩
    refine ⟨t0, fun l0 H3 hl0 s3 h3 => ⟨_, rfl, _, rfl, by omega, by omega, ?_⟩⟩
    rw [Int.toNat_natCast]
    have s23 := s2.trans s3
    refine for_it walk_rg (fun i σ H' => ∃ l o5 vs, σ = [some (.ref ta), some (.str kd), some (.int m), some (.ref wa), some (.ref lw), o5, some (.ref l), none] ∧ Same H3 H' ∧ H' l = some (.lst vs) ∧ Paired (KnownAt long es) vs (ipairs i n) ∧ l ≠ av)
      ⟨l0, _, _, rfl, Same.refl _, h3, .nil, Ne.symm (ne_of_none (s2 _ _ hav) hl0)⟩ (fun _ _ _ _ _ => trivial) ?_ ?_
    · rintro i x σ H4 H4' hi ⟨l, o5, vs, rfl, sm0, hl, pr, _⟩ ⟨rfl, rfl⟩
      have sm := s23.trans sm0
      refine ⟨_, rfl, _, rfl, ta, _, 0, _, rfl, rfl, SqT.of (sm _ _ hta), rfl, _, rfl, by omega, by omega, ?_⟩
      rw [Int.toNat_natCast]
      refine lc_out walk_rg (fun _ y q => KnownAt long es y q) (fun j => some (i, j)) (fun _ _ _ _ _ h => h) (by omega) (fun _ _ => trivial) ?_ ?_
      · rintro j x D H5 H6 acc Ky Kn hj s5 hD hacc ⟨rfl, rfl⟩ ky kn
        refine ⟨rfl, iteT (B := Kn H6) ⟨_, rfl, _, rfl, _, rfl, _, rfl, .ref ta, n, es, kd, i, j, rfl, ht.same (sm.trans s5), hle, hn8, hok, by omega, hj, fun r H6 s6 hz => ky _ H6 (i, j) s6 rfl ⟨r, rfl, by rw [← hlong]; exact hz⟩⟩⟩
      · intro D H5 ys hD s5 hl5 pr5
        rw [efm] at pr5
        have e1 := paired_len pr
        have e2 := paired_len pr5
        rw [ipairs_len] at e1
        rw [List.length_map, List.length_range] at e2
        have e3 := hmul i hi
        refine ⟨l, D, vs, ys, rfl, rfl, s5 _ _ hl, hl5, line64 (by omega), fun l2 H6 hl2 s6 h6 => ⟨l2, _, _, rfl, (sm0.trans s5).trans s6, h6, by rw [ipairs_succ]; exact paired_app pr pr5, Ne.symm (ne_of_none ((sm.trans s5) _ _ hav) hl2)⟩⟩
    rintro σ H4 ⟨lr, o5, rs, rfl, s4, hlr, prr, nlr⟩
    have s04 := s23.trans s4
    refine ⟨_, rfl, _, rfl, by omega, by omega, ?_⟩
    rw [Int.toNat_natCast]
    refine lc_out walk_rg (KeptAt av long es n) (fun j => some j) (fun _ _ _ _ s h => h.same s) (by omega) (fun _ _ => trivial) ?_ ?_
    · rintro j x D H5 H6 acc Ky Kn hj s5 hD hacc ⟨rfl, rfl⟩ ky kn
      refine ⟨rfl, iteT (B := Kn H6) ⟨_, rfl, _, rfl, _, rfl, .ref ta, n, es, kd, j, rfl, ht.same (s04.trans s5), hle, hn8, hok, by omega, fun l H7 ns hl s7 hns hmem hlen => ky _ H7 j s7 rfl ⟨l, ns, rfl, hid_get hns (Ne.symm (ne_of_none hacc hl)), by rw [← hlong]; exact hmem, hlen, Ne.symm (ne_of_none ((s04.trans s5) _ _ hav) hl)⟩⟩⟩
    · intro D H5 ys hD s5 hl5 pr5
      rw [List.filterMap_some] at pr5
      have s05 := s04.trans s5
      obtain ⟨ww, hw1, hw2⟩ := hW
      refine ⟨_, rfl, _, rfl, _, rfl, _, rfl, _, rfl, .ref ta, n, es, kd, wa, W, rfl, ht.same s05, hle, hn8, hok, ⟨ww, s05 _ _ hw1, paired_mono (fun _ _ z => PrAt.same s05 z) hw2⟩, hW1, hW6, hWr, fun r H6 s6 hr6 => ⟨t4, fun l7 H7 hl7 s7 h7 => k l7 H7 ((s05.trans s6).trans s7) ⟨⟨D, lr, lw, r, ys, rs, ws, h7, (s6.trans s7) _ _ hl5, paired_mono (fun _ _ z => KeptAt.same (s6.trans s7) z) pr5, (s5.trans (s6.trans s7)) _ _ hlr, prr, (((s3.trans s4).trans s5).trans (s6.trans s7)) _ _ hlw, prw, by rw [← hlong]; exact hr6, Ne.symm (ne_of_none ((s05.trans s6) _ _ hav) hl7), Ne.symm (ne_of_none (s04 _ _ hav) hD), nlr, nlw⟩⟩⟩⟩
end
end K43

-- K43L11
set_option Elab.async false
set_option linter.all false
set_option maxRecDepth 100000
set_option maxHeartbeats 4000000
/-! the law: _law_less -/
namespace K43
open PySem PySem.Spec PyProof.Rows L2
theorem yes_list (n : Nat) : (List.range n).filterMap (fun _ => some (V.bl true)) = ((List.range n).map fun _ => true).map V.bl := by
  rw [List.map_map, ← List.filterMap_eq_map]
  rfl
theorem yes_all (n : Nat) : ((List.range n).map fun _ => true).all id = true := by
  rw [List.all_map, List.all_eq_true]
  exact fun _ _ => rfl
section
variable {P : Program} {w : World} {K : PySem.W.Frag} {mg : Str → Option Value} {base : Heap}
abbrev rankL : List (Key × V) := [(Sum.inr "delay", .int 0), (Sum.inr "fork", .int 1), (Sum.inr "no", .int 2)]
theorem way_mono {H : Hp} {rk : Addr} (h : H rk = some (.dK rankL)) {long : Bool} {es : List Ev} {e : Ev} {W : List Pr} {z1 z2 : Str} (h1 : WayF long es W z1) (h2 : WayF long (es ++ [e]) W z2) :
    ∃ r1 r2 : Int, DGet H rk (.str z1) (some (.int r1)) ∧ DGet H rk (.str z2) (some (.int r2)) ∧ r1 ≤ r2 := by
  have gn : DGet H rk (.str "no") (some (.int 2)) := DGet.k (k := Sum.inr "no") h
  have gd : DGet H rk (.str "delay") (some (.int 0)) := DGet.k (k := Sum.inr "delay") h
  have gf : DGet H rk (.str "fork") (some (.int 1)) := DGet.k (k := Sum.inr "fork") h
  rcases h1 with ⟨rfl, a1⟩ | ⟨rfl, a1, b1⟩ | ⟨rfl, a1, b1⟩ <;> rcases h2 with ⟨rfl, a2⟩ | ⟨rfl, a2, b2⟩ | ⟨rfl, a2, b2⟩
  · exact ⟨2, 2, gn, gn, by decide⟩
  · exact absurd (fine_mono a2) a1
  · exact absurd (fine_mono a2) a1
  · exact ⟨0, 2, gd, gn, by decide⟩
  · exact ⟨0, 0, gd, gd, by decide⟩
  · exact ⟨0, 1, gd, gf, by decide⟩
  · exact ⟨1, 2, gf, gn, by decide⟩
  · exact absurd (fine_mono b2) b1
  · exact ⟨1, 1, gf, gf, by decide⟩
def spLess : Sp := fun vs H Q _ => ∃ l1 l2 long es e, ∃ n m : Nat, ∃ W : List Pr, ∃ av : Addr, vs = [.ref l1, .ref l2] ∧ StAt av H l1 long es n m W ∧ StAt av H l2 long (es ++ [e]) n m W ∧ n ≤ 8 ∧ m ≤ 16 ∧ ∀ H', Same H H' → Q (.bl true) H'
theorem sc_less : FnScope ["_law_one", "_law_two", "_law_rank", "_law_mine", "_law_its", "_law_p"] ["_law_one", "_law_two"] (defScope s_law_less) := ⟨rfl, rfl, rfl, by decide +kernel, rfl, by decide +kernel, by decide +kernel⟩
abbrev leSc : Scope := { kind := .function, names := [(".0", .local), ("_law_mine", .cell), ("_law_its", .local), ("all", .globalImplicit)], isGenerator := false, isCoroutine := false }
theorem ok_less {f : Addr} {fd : FuncData} (F : FunD K "_law_less" "_law_less" (defArgs s_law_less) (defBody s_law_less) (defScope s_law_less) [] [] f fd) (T : Txt K mg) : FnOk P w K mg base CX0 1 f fd ["_law_one", "_law_two"] spLess := by
  refine okD F sc_less (fun vs H Q E h => ?_) (fun cdv A0 outer s H vs Q E hr h => ?_)
  · obtain ⟨l1, l2, long, es, e, n, m, W, av, rfl, _⟩ := h
    rfl
  · obtain ⟨l1, l2, long, es, e, n, m, W, av, rfl, hs1, hs2, hn, hm, k⟩ := h
    have hu := hu_of hr
    refine ⟨_, pss_cons (ps_set (i := 2) sc_less.nd rfl (Or.inr rfl) (pe_disp (pps_cons pe_str pe_int (pps_cons pe_str pe_int (pps_cons pe_str pe_int pps_nil))) rfl rfl (by simp) (by simp)))
      (pss_cons (ps_if (pt_not (pt_val (pe_callB (cr_all rfl) (by rfl) T.all PyProof.Rows.boot_all (pa_cons
        (pe_lc (own := [("_law_mine", 3), ("_law_its", 4)]) (g := gTup K 2 (gCons (gName 3) (gCons (gName 4) gNil))) (tt := tYes) (te := tCB (rAll K) (tCons (tLc (iList K (tVar 4)) (gName 5) tYes (tOp (rIn K false) (tVar 5) (tVar 3)) [5]) tNil)) rfl sc_less.nd
          (pi_zip (by rfl) T.zip (pa_cons (pe_ix ix_list (pv 0) pe_int (fun _ _ => rfl)) (pa_cons (pe_ix ix_list (pv 1) pe_int (fun _ _ => rfl)) pa_nil)))
          (blkOk_by (own := [("_law_mine", 3), ("_law_its", 4)]) (N := ["_law_one", "_law_two", "_law_rank", "_law_mine", "_law_its", "_law_p"]) (sc := defScope s_law_less) (by decide +kernel))
          (fun _ _ _ _ _ => pg_tup rfl (pgs_cons (pg_name (i := 3) sc_less.nd rfl (Or.inr rfl)) (pgs_cons (pg_name (i := 4) sc_less.nd rfl (Or.inl rfl)) pgs_nil))) (fun _ _ _ _ _ => pts_nil)
          (fun _ _ _ _ _ => pe_callB (cr_all rfl) (by rfl) T.all PyProof.Rows.boot_all (pa_cons (pe_lc (own := [("_law_p", 5)]) rfl sc_less.nd (pi_list (pv 4))
            (blkOk_by (own := [("_law_p", 5)]) (N := ["_law_one", "_law_two", "_law_rank", "_law_mine", "_law_its", "_law_p"]) (sc := leSc) (by decide +kernel)) (fun _ _ _ _ _ => pg_name (i := 5) sc_less.nd rfl (Or.inl rfl)) (fun _ _ _ _ _ => pts_nil)
            (fun _ _ _ _ _ => pe_cmpR op_in_seq (pv 5) (pv 3) (by rfl))) pa_nil))) pa_nil)))) (pss_one (ps_ret pe_bl)) pss_nil)
      (pss_cons (ps_if (pt_not (pt_val (pe_callB (cr_all rfl) (by rfl) T.all PyProof.Rows.boot_all (pa_cons
        (pe_lc (own := [("_law_mine", 3), ("_law_its", 4)]) (g := gTup K 2 (gCons (gName 3) (gCons (gName 4) gNil))) (tt := tYes)
          (te := tOrV (tOp (fun x y H Q => y = V.non ∧ Q (.bl (decide (x = V.non))) H) (tVar 3) (tC .non)) (tAndV (tOp (fun x y H Q => y = V.non ∧ Q (.bl (!decide (x = V.non))) H) (tVar 4) (tC .non)) (tOp (rI0 fun i j => .bl (decide (i ≤ j))) (tVar 4) (tVar 3)))) rfl sc_less.nd
          (pi_zip (by rfl) T.zip (pa_cons (pe_ix ix_list (pv 0) pe_int (fun _ _ => rfl)) (pa_cons (pe_ix ix_list (pv 1) pe_int (fun _ _ => rfl)) pa_nil)))
          (blkOk_by (own := [("_law_mine", 3), ("_law_its", 4)]) (N := ["_law_one", "_law_two", "_law_rank", "_law_mine", "_law_its", "_law_p"]) (sc := defScope s_law_less) (by decide +kernel))
          (fun _ _ _ _ _ => pg_tup rfl (pgs_cons (pg_name (i := 3) sc_less.nd rfl (Or.inl rfl)) (pgs_cons (pg_name (i := 4) sc_less.nd rfl (Or.inl rfl)) pgs_nil))) (fun _ _ _ _ _ => pts_nil)
          (fun _ _ _ _ _ => pe_or (pe_cmpR op_isN (pv 3) pe_non (nomark _)) (pe_one (pe_and (pe_cmpR op_notN (pv 4) pe_non (nomark _)) (pe_one (pe_cmpR op_le (pv 4) (pv 3) (nomark _))))))) pa_nil)))) (pss_one (ps_ret pe_bl)) pss_nil)
      (pss_cons (ps_if (PW.pt (pw_and (pt_cmpR op_notN (pe_ix ix_list (pv 0) pe_int (fun _ _ => rfl)) pe_non (nomark _)) (pw_and1 (pt_cmpR op_isN (pe_ix ix_list (pv 1) pe_int (fun _ _ => rfl)) pe_non (nomark _))))) (pss_one (ps_ret pe_bl)) pss_nil)
      (pss_one (ps_ret (pe_callB (cr_all rfl) (by rfl) T.all PyProof.Rows.boot_all (pa_cons
        (pe_lc (own := [("_law_mine", 3), ("_law_its", 4)]) (g := gTup K 2 (gCons (gName 3) (gCons (gName 4) gNil))) (tt := tYes)
          (te := tOp (rI0 fun i j => .bl (decide (i ≤ j))) (tDGet (tVar 2) (tVar 3)) (tDGet (tVar 2) (tVar 4))) rfl sc_less.nd
          (pi_zip (by rfl) T.zip (pa_cons (pe_ix ix_list (pv 0) pe_int (fun _ _ => rfl)) (pa_cons (pe_ix ix_list (pv 1) pe_int (fun _ _ => rfl)) pa_nil)))
          (blkOk_by (own := [("_law_mine", 3), ("_law_its", 4)]) (N := ["_law_one", "_law_two", "_law_rank", "_law_mine", "_law_its", "_law_p"]) (sc := defScope s_law_less) (by decide +kernel))
          (fun _ _ _ _ _ => pg_tup rfl (pgs_cons (pg_name (i := 3) sc_less.nd rfl (Or.inl rfl)) (pgs_cons (pg_name (i := 4) sc_less.nd rfl (Or.inl rfl)) pgs_nil))) (fun _ _ _ _ _ => pts_nil)
          (fun _ _ _ _ _ => pe_cmpR op_le (pe_dget hu (pv 2) (pv 3) (fun _ _ => rfl)) (pe_dget hu (pv 2) (pv 4) (fun _ _ => rfl)) (nomark _))) pa_nil))))))), ?_⟩
    obtain ⟨a1, b1, c1, x1, ks1, rs1, ws1, h1, ha1, pk1, hb1, pr1, hc1, pw1, hx1, _⟩ := hs1.at_
    obtain ⟨a2, b2, c2, x2, ks2, rs2, ws2, h2, ha2, pk2, hb2, pr2, hc2, pw2, hx2, _⟩ := hs2.at_
    have hmn : m * n ≤ 16 * 8 := Nat.mul_le_mul hm hn
    have lk1 := paired_len pk1
    have lr1 := paired_len pr1
    have lw1 := paired_len pw1
    rw [List.length_range] at lk1
    rw [ipairs_len] at lr1 lw1
    intro rk hrk
    refine ⟨upd_same, rankL, rfl, by simp, ?_⟩
    have hr0 : upd (upd H rk (.dK [])) rk (.dK (mergeK [] rankL)) rk = some (.dK rankL) := upd_same
    have s0 : Same H (upd (upd H rk (.dK [])) rk (.dK (mergeK [] rankL))) := fun b o e => by
      rw [upd_ne (ne_of_none e hrk), upd_ne (ne_of_none e hrk)]
      exact e
    generalize upd (upd H rk (.dK [])) rk (.dK (mergeK [] rankL)) = H0 at hr0 s0 ⊢
    have nx1 : atI [V.ref a1, V.ref b1, V.ref c1, x1] 3 = some x1 := rfl
    have nx2 : atI [V.ref a2, V.ref b2, V.ref c2, x2] 3 = some x2 := rfl
    refine ⟨_, rfl, l1, _, 0, _, rfl, rfl, SqL.of (s0 _ _ h1), rfl, _, rfl, l2, _, 0, _, rfl, rfl, SqL.of (s0 _ _ h2), rfl, a1, a2, _, _, rfl, SqL.of (s0 _ _ ha1), SqL.of (s0 _ _ ha2), ?_⟩
    refine lc_flat (walk_zip rfl) (fun _ => some (.bl true)) (by omega) (fun H2 s2 => ⟨SqL.of (s2 _ _ (s0 _ _ ha1)), SqL.of (s2 _ _ (s0 _ _ ha2))⟩) ?_ ?_
    · rintro i v H2 H3 Ky Kn hi s2 ⟨T1, u1, u2, rfl, hT, rfl, e1, e2⟩ ky kn
      have sT : Same H2 (upd H2 T1 (.tup [u1, u2])) := same_new hT
      have hT2 : upd H2 T1 (.tup [u1, u2]) T1 = some (.tup [u1, u2]) := upd_same
      generalize upd H2 T1 (.tup [u1, u2]) = H3 at sT hT2 ⊢
      obtain ⟨i1, g1, k1, ns1, rfl, hn1, m1, z1, _⟩ := paired_at pk1 e1
      obtain ⟨i2, g2, k2, ns2, rfl, hn2, m2, z2, _⟩ := paired_at pk2 e2
      have ei : i1 = i2 := by rw [g1] at g2; exact Option.some.inj g2
      subst ei
      have s03 := (s0.trans s2).trans sT
      refine ⟨T1, _, rfl, SqT.of hT2, rfl, _, _, rfl, _, _, rfl, rfl, rfl, iteT (B := Kn H3) ⟨_, rfl, k2, rfl, ⟨_, SqL.of (s03 _ _ hn2)⟩, ?_⟩⟩
      refine lc_flat walk_list (fun _ => some (.bl true)) (by rw [List.length_map]; omega) (fun H4 s4 => SqL.of (s4 _ _ (s03 _ _ hn2))) ?_ ?_
      · rintro t v H4 H5 Ky2 Kn2 ht s4 ⟨rfl, hv⟩ ky2 kn2
        rw [List.getElem?_map] at hv
        obtain ⟨y, hy, rfl⟩ := Option.map_eq_some_iff.mp hv
        have hy1 : y ∈ ns1 := (m1 y).mpr ⟨((m2 y).mp (List.mem_of_getElem? hy)).1, kept_mono ((m2 y).mp (List.mem_of_getElem? hy)).2⟩
        refine ⟨rfl, iteT (B := Kn2 H5) ⟨_, rfl, _, rfl, k1, _, rfl, .inl (SqL.of ((s03.trans s4) _ _ hn1)), rfl, flat_nats ns1, ?_⟩⟩
        rw [if_neg Bool.false_ne_true, inV_nat, decide_eq_true hy1]
        exact ky2 _ _ (Same.refl _) rfl
      · intro D H4 hD s4 hl4
        rw [yes_list] at hl4
        refine ⟨D, _, rfl, SqL.of hl4, ?_⟩
        rw [yes_all]
        exact ky _ _ (sT.trans s4) rfl
    intro D1 H1 hD1 s1 hl1
    rw [yes_list] at hl1
    refine ⟨D1, _, rfl, SqL.of hl1, _, rfl, ?_⟩
    rw [yes_all]
    refine iteF ?_
    have s01 := s0.trans s1
    refine ⟨_, rfl, l1, _, 1, _, rfl, rfl, SqL.of (s01 _ _ h1), rfl, _, rfl, l2, _, 1, _, rfl, rfl, SqL.of (s01 _ _ h2), rfl, b1, b2, _, _, rfl, SqL.of (s01 _ _ hb1), SqL.of (s01 _ _ hb2), ?_⟩
    refine lc_flat (walk_zip rfl) (fun _ => some (.bl true)) (by omega) (fun H2 s2 => ⟨SqL.of (s2 _ _ (s01 _ _ hb1)), SqL.of (s2 _ _ (s01 _ _ hb2))⟩) ?_ ?_
    · rintro i v H2 H3 Ky Kn hi s2 ⟨T1, u1, u2, rfl, hT, rfl, e1, e2⟩ ky kn
      have sT : Same H2 (upd H2 T1 (.tup [u1, u2])) := same_new hT
      have hT2 : upd H2 T1 (.tup [u1, u2]) T1 = some (.tup [u1, u2]) := upd_same
      generalize upd H2 T1 (.tup [u1, u2]) = H3 at sT hT2 ⊢
      obtain ⟨i1, g1, r1, rfl, n1⟩ := paired_at pr1 e1
      obtain ⟨i2, g2, r2, rfl, n2⟩ := paired_at pr2 e2
      have ei : i1 = i2 := by rw [g1] at g2; exact Option.some.inj g2
      subst ei
      refine ⟨T1, _, rfl, SqT.of hT2, rfl, _, _, rfl, _, _, rfl, rfl, rfl, iteT (B := Kn H3) ?_⟩
      have fin : Ky (.bl true) H3 := ky _ _ sT rfl
      cases r1 with
      | none => exact ⟨_, rfl, rfl, _, rfl, itP (decide_eq_true rfl) fin⟩
      | some x =>
        obtain ⟨y, rfl, hy⟩ := known_mono n1 n2
        refine ⟨_, rfl, rfl, _, rfl, itN (decF (by intro z; cases z)) ⟨_, rfl, rfl, _, rfl, itP (by rw [decide_eq_false (by intro z; cases z)]; rfl) ⟨_, rfl, _, rfl, _, _, rfl, rfl, ?_⟩⟩⟩
        show Ky (.bl (decide ((y : Int) ≤ (x : Int)))) H3
        rw [decide_eq_true (show (y : Int) ≤ x by omega)]
        exact fin
    intro D2 H2 hD2 s2 hl2
    rw [yes_list] at hl2
    refine ⟨D2, _, rfl, SqL.of hl2, _, rfl, ?_⟩
    rw [yes_all]
    refine iteF ?_
    have s02 := s01.trans s2
    have last : ((tRet (tCB (rAll K) (tCons (tLc (iZip K (tCons (tOp (rIxL K) (tVar 0) (tC (.int 2))) (tCons (tOp (rIxL K) (tVar 1) (tC (.int 2))) tNil))) (gTup K 2 (gCons (gName 3) (gCons (gName 4) gNil))) tYes
        (tOp (rI0 fun i j => .bl (decide (i ≤ j))) (tDGet (tVar 2) (tVar 3)) (tDGet (tVar 2) (tVar 4))) [3, 4]) tNil))) { nx := fun _ H' => Q .non H', rt := Q } [some (.ref l1), some (.ref l2), some (.ref rk), none, none, none] H2) := by
      refine ⟨_, rfl, l1, _, 2, _, rfl, rfl, SqL.of (s02 _ _ h1), rfl, _, rfl, l2, _, 2, _, rfl, rfl, SqL.of (s02 _ _ h2), rfl, c1, c2, _, _, rfl, SqL.of (s02 _ _ hc1), SqL.of (s02 _ _ hc2), ?_⟩
      refine lc_flat (walk_zip rfl) (fun _ => some (.bl true)) (by omega) (fun H3 s3 => ⟨SqL.of (s3 _ _ (s02 _ _ hc1)), SqL.of (s3 _ _ (s02 _ _ hc2))⟩) ?_ ?_
      · rintro i v H3 H4 Ky Kn hi s3 ⟨T1, u1, u2, rfl, hT, rfl, e1, e2⟩ ky kn
        have sT : Same H3 (upd H3 T1 (.tup [u1, u2])) := same_new hT
        have hT2 : upd H3 T1 (.tup [u1, u2]) T1 = some (.tup [u1, u2]) := upd_same
        generalize upd H3 T1 (.tup [u1, u2]) = H4 at sT hT2 ⊢
        obtain ⟨i1, g1, z1, rfl, n1⟩ := paired_at pw1 e1
        obtain ⟨i2, g2, z2, rfl, n2⟩ := paired_at pw2 e2
        have ei : i1 = i2 := by rw [g1] at g2; exact Option.some.inj g2
        subst ei
        have hrk4 := (((s1.trans s2).trans s3).trans sT) _ _ hr0
        have fin : Ky (.bl true) H4 := ky _ _ sT rfl
        refine ⟨T1, _, rfl, SqT.of hT2, rfl, _, _, rfl, _, _, rfl, rfl, rfl, iteT (B := Kn H4) ?_⟩
        obtain ⟨r1, r2, q1, q2, hle⟩ := way_mono hrk4 n1 n2
        refine ⟨_, rfl, _, rfl, rk, _, rfl, q1, _, rfl, _, rfl, rk, _, rfl, q2, _, _, rfl, rfl, ?_⟩
        show Ky (.bl (decide (r1 ≤ r2))) H4
        rw [decide_eq_true hle]
        exact fin
      · intro D H3 hD s3 hl3
        rw [yes_list] at hl3
        refine ⟨D, _, rfl, SqL.of hl3, ?_⟩
        rw [yes_all]
        exact k _ (s02.trans s3)
    refine ⟨_, rfl, l1, _, 3, _, rfl, rfl, SqL.of (s02 _ _ h1), nx1, rfl, _, rfl, ?_⟩
    rcases hx1 with ⟨rfl, f1⟩ | ⟨⟨p1, rfl⟩, f1⟩
    · exact itN (by rw [decide_eq_true rfl]; exact Bool.false_ne_true) (iteF last)
    · refine itP (by rw [decide_eq_false (by intro z; cases z)]; rfl) ⟨_, rfl, l2, _, 3, _, rfl, rfl, SqL.of (s02 _ _ h2), nx2, rfl, _, rfl, ?_⟩
      rcases hx2 with ⟨rfl, f2⟩ | ⟨⟨p2, rfl⟩, f2⟩
      · exact absurd (fine_mono f2) f1
      · exact itN (decF (by intro z; cases z)) last
end
end K43

-- K43L12
set_option Elab.async false
set_option linter.all false
set_option maxRecDepth 100000
set_option maxHeartbeats 4000000
/-! the law: _law_right -/
namespace K43
open PySem PySem.Spec PyProof.Rows L2
section
variable {P : Program} {w : World} {K : PySem.W.Frag} {mg : Str → Option Value} {base : Heap}
theorem TabAt.tups {H H' : Hp} {v : V} {n : Nat} {es : List Ev} (t : Tups H H') (h : TabAt H v n es) : TabAt H' v n es := by
  obtain ⟨ta, ev, e, h1, us, h2, h3⟩ := h
  exact ⟨ta, ev, e, t _ _ h1, us, t _ _ h2, paired_mono (fun _ _ z => EvAt.tups t z) h3⟩
theorem prl_ne {H : Hp} {a l : Addr} {c : Nat} {ps : List Pr} (hb : BoxAt H a c) (h : PrL H l ps) (hn : ps ≠ []) : l ≠ a := fun z => by
  obtain ⟨x, y, w, q, _⟩ := hb
  obtain ⟨us, h1, h2⟩ := h
  rw [z, q] at h1
  cases h1
  cases h2 with
  | cons r _ => obtain ⟨_, e, _⟩ := r; cases e
theorem PrL.frame {H H' : Hp} {a l : Addr} {c : Nat} {ps : List Pr} (hb : BoxAt H a c) (h : PrL H l ps) (hn : ps ≠ []) (f : Frame [a] H H') : PrL H' l ps :=
  h.tups (hb.tups f) fun _ q => f _ _ q (by simpa using prl_ne hb h hn)
def spRight : Sp := fun vs H Q _ => ∃ a, vs = [.ref a] ∧ BoxAt H a 0 ∧ ∀ H', Frame [a] H H' → Q (.bl true) H'
theorem sc_right : FnScope ["_law_box_here", "_law_sort_so", "_law_table_here", "_law_web_here", "_law_many", "_law_wants_so", "_law_last", "_law_lap", "_law_deed", "_law_now"] ["_law_box_here"] (defScope s_law_right) := ⟨rfl, rfl, rfl, by decide +kernel, rfl, by decide +kernel, by decide +kernel⟩
theorem ok_right {f : Addr} {fd : FuncData} (F : FunD K "_law_right" "_law_right" (defArgs s_law_right) (defBody s_law_right) (defScope s_law_right) [] [] f fd) (T : Txt K mg) (GT : GOk P w K mg base 1 "_law_take" ["_law_box_here", "_law_below"] spTake)
    (GE : GOk P w K mg base 2 "_law_event" ["_law_box_here", "_law_folk", "_law_words"] spEvent) (GLi : GOk P w K mg base 4 "_law_live" ["_law_box_here", "_law_folk", "_law_laps", "_law_most"] spLive)
    (GWe : GOk P w K mg base 3 "_law_web" ["_law_table_here", "_law_sort_so"] spWeb) (GD : GOk P w K mg base 3 "_law_draw_wants" ["_law_box_here", "_law_web_here", "_law_many"] spDraw)
    (GS : GOk P w K mg base 26 "_law_state" ["_law_table_here", "_law_sort_so", "_law_many", "_law_wants_so"] spState) (GL : GOk P w K mg base 1 "_law_less" ["_law_one", "_law_two"] spLess) :
    FnOk P w K mg base CX0 27 f fd ["_law_box_here"] spRight := by
  refine okD F sc_right (fun vs H Q E h => ?_) (fun cdv A0 outer s H vs Q E hr h => ?_)
  · obtain ⟨a, rfl, _⟩ := h
    rfl
  · obtain ⟨a, rfl, hb, k⟩ := h
    have hu := hu_of hr
    have hr1 := hr.mono (show 1 ≤ 26 by decide)
    have hr2 := hr.mono (show 2 ≤ 26 by decide)
    have hr3 := hr.mono (show 3 ≤ 26 by decide)
    have hr4 := hr.mono (show 4 ≤ 26 by decide)
    refine ⟨_, pss_cons (ps_for PassesOwn.never rfl (pi_tup (pe_tupS (pa_cons pe_str (pa_cons pe_str pa_nil)))) (pg_name (i := 1) sc_right.nd rfl (Or.inl rfl))
        (pss_cons (ps_set (i := 2) sc_right.nd rfl (Or.inl rfl) (pe_g GLi hr4 (pa_cons (pv 0) (pa_cons (pe_op op_add pe_int (pe_g GT hr1 (pa_cons (pv 0) (pa_cons pe_int pa_nil)))) (pa_cons (pe_op op_add pe_int (pe_g GT hr1 (pa_cons (pv 0) (pa_cons pe_int pa_nil)))) (pa_cons pe_int pa_nil))))))
        (pss_cons (ps_set (i := 3) sc_right.nd rfl (Or.inl rfl) (pe_g GWe hr3 (pa_cons (pv 2) (pa_cons (pv 1) pa_nil))))
        (pss_cons (ps_par (i := 4) (j := 5) rfl sc_right.nd rfl rfl (by decide) rfl rfl (pa_cons (pe_callB call_len_seq (by rfl) T.len PySem.boot_len (pa_cons (pe_dget hu (pv 3) pe_str (fun _ _ => rfl)) pa_nil)) (pa_cons (pe_g GD hr3 (pa_cons (pv 0) (pa_cons (pv 3) (pa_cons pe_int pa_nil)))) pa_nil)) rfl)
        (pss_cons (ps_set (i := 6) sc_right.nd rfl (Or.inl rfl) (pe_g GS hr (pa_cons (pv 2) (pa_cons (pv 1) (pa_cons (pv 4) (pa_cons (pv 5) pa_nil))))))
        (pss_one (ps_for PassesOwn.never rfl (pi_range1 (by rfl) T.range (pa_cons pe_int pa_nil)) (pg_name (i := 7) sc_right.nd rfl (Or.inl rfl))
          (pss_cons (ps_set (i := 8) sc_right.nd rfl (Or.inl rfl) (pe_g GE hr2 (pa_cons (pv 0) (pa_cons (pe_ix ix_tup (pv 2) pe_int (fun _ _ => rfl)) (pa_cons pe_str pa_nil)))))
          (pss_cons (ps_set (i := 2) sc_right.nd rfl (Or.inl rfl) (pe_tupS (pa_cons (pe_ix ix_tup (pv 2) pe_int (fun _ _ => rfl)) (pa_cons (pe_op op_catT (pe_ix ix_tup (pv 2) pe_int (fun _ _ => rfl)) (pe_tupS (pa_cons (pv 8) pa_nil))) pa_nil))))
          (pss_cons (ps_set (i := 9) sc_right.nd rfl (Or.inl rfl) (pe_g GS hr (pa_cons (pv 2) (pa_cons (pv 1) (pa_cons (pv 4) (pa_cons (pv 5) pa_nil))))))
          (pss_cons (ps_if (pt_not (pt_val (pe_g GL hr1 (pa_cons (pv 6) (pa_cons (pv 9) pa_nil))))) (pss_one (ps_ret pe_bl)) pss_nil)
          (pss_one (ps_set (i := 6) sc_right.nd rfl (Or.inl rfl) (pv 9))))))))))))))
      (pss_one (ps_ret pe_bl)), ?_⟩
    refine ⟨t2, fun tp H1 htp s1 h1 => ⟨tp, rfl, ⟨_, SqT.of h1⟩, ?_⟩⟩
    refine for_it walk_tup (fun i σ H' => ∃ o1 o2 o3 o4 o5 o6 o7 o8 o9, σ = [some (.ref a), o1, o2, o3, o4, o5, o6, o7, o8, o9] ∧ BoxAt H' a (100 * i) ∧ Frame [a] H1 H')
      ⟨none, none, none, none, none, none, none, none, none, rfl, hb.same s1, Frame.refl _ _⟩ (fun i σ H' _ ⟨_, _, _, _, _, _, _, _, _, _, _, t⟩ => SqT.of ((hb.same s1).tups t _ _ h1)) ?_ ?_
    · rintro i x σ H2 H2' hi ⟨o1, o2, o3, o4, o5, o6, o7, o8, o9, rfl, hb2, tp2⟩ ⟨rfl, hx⟩
      obtain ⟨kd, rfl⟩ : ∃ kd, x = V.str kd := by
        match i, hx with
        | 0, hx => exact ⟨_, (Option.some.inj hx).symm⟩
        | 1, hx => exact ⟨_, (Option.some.inj hx).symm⟩
        | k + 2, hx => cases hx
      have hi2 : i < 2 := hi
      refine ⟨_, rfl, _, rfl, a, 100 * i, 2, rfl, hb2, by omega, by omega, by omega, fun r1 H3 hr1' f3 hb3 => ⟨_, _, rfl, rfl, _, rfl, a, 100 * i + 1, 3, rfl, hb3, by omega, by omega, by omega, fun r2 H4 hr2' f4 hb4 => ⟨_, _, rfl, rfl, a, 100 * i + 2, 3 + r1, 4 + r2, 4, rfl, hb4, by omega, by omega, by omega, by omega, by omega, by omega, by omega, fun v es H5 hok hlk hlen f5 hb5 ht5 => ?_⟩⟩⟩
      have tp5 : Frame [a] H1 H5 := ((tp2.trans f3).trans f4).trans f5
      refine ⟨_, rfl, _, rfl, v, 3 + r1, es, kd, rfl, ht5, by omega, by omega, hok, fun u H6 s6 hw6 => ?_⟩
      have hae5 : H5 a ≠ none := by
        obtain ⟨_, _, _, q, _⟩ := hb5
        rw [q]
        exact fun z => by cases z
      have hw6 := hw6 a hae5
      have hb6 := hb5.same s6
      obtain ⟨wd, sp, ow, ha, ne, lo, us, kvs, rfl, g1, g2, g3, _⟩ := id hw6
      generalize hm : (looksF es).length = m at hlk hw6 g3
      have hm16 : m ≤ 16 := by have := looksF_len es; omega
      refine ⟨_, rfl, wd, _, rfl, (webG g1).1, sp, us, rfl, .inl (SqL.of g2), ?_⟩
      rw [g3]
      refine ⟨_, rfl, _, rfl, a, .ref wd, 100 * i + 2 + 3 * (4 + r2) + 1, m, 3 + r1, 3, rfl, hb6, hw6, by omega, by omega, by omega, by omega, by omega, by omega, fun l H7 ps f7 hb7 hpr7 hpl hps => ⟨_, _, rfl, ?_⟩⟩
      have ht7 := (ht5.same s6).tups (hb6.tups f7)
      have hpne : ps ≠ [] := fun z => by rw [z] at hpl; cases hpl
      obtain ⟨ob, hob⟩ : ∃ o, H7 a = some o := let ⟨_, _, _, q, _⟩ := hb7; ⟨_, q⟩
      refine ⟨_, rfl, _, rfl, _, rfl, _, rfl, v, 3 + r1, es, kd, l, ps, m, a, rfl, ⟨ob, hob⟩, ht7, by omega, by omega, hok, by omega, hpr7, by omega, by omega, by rw [hm]; exact hps, fun ls H8 s8 st8 => ?_⟩
      have tp8 : Frame [a] H1 H8 := ((tp5.trans (Frame.of s6)).trans f7).trans (Frame.of s8)
      refine ⟨_, rfl, by decide, by decide, ?_⟩
      refine for_it (n := 2) walk_rg (fun j σ H' => ∃ v es ls o7 o8 o9, σ = [some (.ref a), some (.str kd), some v, some (.ref wd), some (.int m), some (.ref l), some (.ref ls), o7, o8, o9] ∧ BoxAt H' a (100 * i + 60 + 3 * j) ∧ TabAt H' v (3 + r1) es ∧ (∀ e ∈ es, e.okFor (3 + r1)) ∧ es.length ≤ 8 + j ∧ es ≠ [] ∧
          m ≤ (looksF es).length ∧ PrL H' l ps ∧ StAt a H' ls (decide (kd = "long")) es (3 + r1) m ps ∧ Frame [a] H1 H')
        ⟨v, es, ls, _, _, _, rfl, (hb7.same s8).mono (by omega), ht7.same s8, hok, by omega, (fun z => by rw [z] at hm; simp [looksF, looksK] at hm; omega), by omega, hpr7.same' s8, st8, tp8⟩ (fun _ _ _ _ _ => trivial) ?_ ?_
      · rintro j x σ H9 H9' hj ⟨v, es, ls, o7, o8, o9, rfl, hb9, ⟨ta, ev, rfl, hta, uv, huv, prv⟩, hok, hlen, hne, hml, hpr, st, tp9⟩ ⟨rfl, rfl⟩
        refine ⟨_, rfl, _, rfl, ta, _, 0, _, rfl, rfl, SqT.of hta, rfl, a, 100 * i + 60 + 3 * j, 3 + r1, "lammtt", rfl, hb9, by omega, by omega, by decide +kernel, by decide +kernel, by omega, fun ve e H10 hoke f10 hb10 ⟨ea, eve, hea⟩ => ?_⟩
        subst eve
        have t10 := hb9.tups f10
        have hta10 := t10 _ _ hta
        have huv10 := t10 _ _ huv
        have luv := paired_len prv
        have hune : uv ≠ [] := fun z => by
          rw [z] at luv
          exact hne (List.eq_nil_of_length_eq_zero luv.symm)
        refine ⟨_, rfl, ta, _, 0, _, rfl, rfl, SqT.of hta10, rfl, _, rfl, ta, _, 1, _, rfl, rfl, SqT.of hta10, rfl, _, rfl, t1, fun q H11 _ s11 h11 => ⟨ev, q, uv, _, rfl, rfl, SqT.of (s11 _ _ huv10), SqT.of h11, hune, by rw [sizeLine_eq]; simp only [List.length_cons, List.length_nil]; omega, fun z => (by cases z), fun _ p hp => ?_⟩⟩
        have s12 : Same H11 (upd H11 p (.tup (uv ++ [V.ref ea]))) := same_new hp
        have h12 : upd H11 p (.tup (uv ++ [V.ref ea])) p = some (.tup (uv ++ [V.ref ea])) := upd_same
        generalize upd H11 p (.tup (uv ++ [V.ref ea])) = H12 at s12 h12 ⊢
        refine ⟨t2, fun r2' H13 _ s13 h13 => ?_⟩
        have s1013 := (s11.trans s12).trans s13
        have ht13 : TabAt H13 (.ref r2') (3 + r1) (es ++ [e]) := ⟨r2', p, rfl, h13, uv ++ [.ref ea], s13 _ _ h12, paired_snoc ⟨ea, rfl, s1013 _ _ hea⟩ (paired_mono (fun _ _ z => (EvAt.tups t10 z).same s1013) prv)⟩
        have hok13 : ∀ x ∈ es ++ [e], x.okFor (3 + r1) := fun x hx => by
          rcases List.mem_append.mp hx with h | h
          · exact hok x h
          · rw [List.mem_singleton.mp h]; exact hoke
        have hlk13 : m ≤ (looksF (es ++ [e])).length := by
          rw [looksF_app, List.length_append]
          omega
        have hpr13 := (hpr.frame hb9 hpne f10).same' s1013
        have hb13 := hb10.same s1013
        obtain ⟨ob, hob⟩ : ∃ o, H13 a = some o := let ⟨_, _, _, q, _⟩ := hb13; ⟨_, q⟩
        have hlen13 : (es ++ [e]).length ≤ 8 + (j + 1) := by rw [List.length_append]; simp only [List.length_cons, List.length_nil]; omega
        refine ⟨_, rfl, _, rfl, _, rfl, _, rfl, .ref r2', 3 + r1, es ++ [e], kd, l, ps, m, a, rfl, ⟨ob, hob⟩, ht13, by omega, by omega, hok13, hlk13, hpr13, by omega, by omega, fun p hp => ⟨Nat.lt_of_lt_of_le (hps p hp).1 hlk13, (hps p hp).2⟩, fun ls2 H14 s14 st14 => ?_⟩
        have st13 := (st.frame f10).same (s1013.trans s14)
        refine ⟨_, rfl, _, rfl, ls, ls2, decide (kd = "long"), es, e, 3 + r1, m, ps, a, rfl, st13, st14, by omega, hm16, fun H15 s15 => ⟨_, rfl, iteF ?_⟩⟩
        have sF := (s1013.trans s14).trans s15
        exact ⟨_, rfl, .ref r2', es ++ [e], ls2, _, _, _, rfl, ((hb10.same sF).mono (by omega)), ht13.same (s14.trans s15), hok13, hlen13, by simp, hlk13, hpr13.same' (s14.trans s15), st14.same s15, (tp9.trans f10).trans (Frame.of sF)⟩
      · rintro σ H9 ⟨v, es, ls, o7, o8, o9, rfl, hb9, _, _, _, _, _, _, _, tp9⟩
        exact ⟨_, _, _, _, _, _, _, _, _, rfl, hb9.mono (by omega), tp9⟩
    · rintro σ H2 ⟨o1, o2, o3, o4, o5, o6, o7, o8, o9, rfl, hb2, tp2⟩
      exact k H2 ((Frame.of s1).trans tp2)
end
end K43

-- K43L13
set_option Elab.async false
set_option linter.all false
set_option maxRecDepth 100000
set_option maxHeartbeats 4000000
/-! the law: law -/
namespace K43
open PySem PySem.Spec PyProof.Rows L2
section
variable {P : Program} {w : World} {K : PySem.W.Frag} {mg : Str → Option Value} {base : Heap}
def spLaw (K : PySem.W.Frag) : Sp := fun vs H Q _ => ∃ l, ∃ ns : List Int, vs = [.ref l] ∧ SqL K H l (ns.map V.int) ∧ ns.length ≤ 1000 ∧ ∀ H', Same H H' → Q (.bl true) H'
theorem sc_law : FnScope ["_law_script", "_law_lap"] ["_law_script"] (defScope s_law) := ⟨rfl, rfl, rfl, by decide +kernel, rfl, by decide +kernel, by decide +kernel⟩
theorem ok_law {f : Addr} {fd : FuncData} (F : FunD K "law" "law" (defArgs s_law) (defBody s_law) (defScope s_law) [] [] f fd) (T : Txt K mg) (GB : GOk P w K mg base 1 "_law_box" ["_law_script", "_law_lap"] (spBox K)) (GR : GOk P w K mg base 27 "_law_right" ["_law_box_here"] spRight) :
    FnOk P w K mg base CX0 28 f fd ["_law_script"] (spLaw K) := by
  refine okD F sc_law (fun vs H Q E h => ?_) (fun cdv A0 outer s H vs Q E hr h => ?_)
  · obtain ⟨l, ns, rfl, _⟩ := h
    rfl
  · obtain ⟨l, ns, rfl, hl, hn, k⟩ := h
    have hr1 := hr.mono (show 1 ≤ 27 by decide)
    refine ⟨_, pss_one (ps_ret (pe_callB (cr_all rfl) (by rfl) T.all PyProof.Rows.boot_all (pa_cons
      (pe_lc (own := [("_law_lap", 1)]) (g := gName 1) (tt := tYes) (te := tCall spRight [] E0 (tCons (tCall (spBox K) [] E0 (tCons (tVar 0) (tCons (tVar 1) tNil))) tNil)) rfl sc_law.nd
        (pi_range1 (by rfl) T.range (pa_cons (pe_op op_add pe_int (pe_callB (call_min2 rfl) (by rfl) T.min PyProof.Rows.boot_min (pa_cons pe_int (pa_cons (pe_callB call_len_seq (by rfl) T.len PySem.boot_len (pa_cons (pv 0) pa_nil)) pa_nil)))) pa_nil))
        (blkOk_by (own := [("_law_lap", 1)]) (N := ["_law_script", "_law_lap"]) (sc := defScope s_law) (by decide +kernel)) (fun _ _ _ _ _ => pg_name (i := 1) sc_law.nd rfl (Or.inl rfl)) (fun _ _ _ _ _ => pts_nil)
        (fun _ _ _ _ _ => pe_g GR hr (pa_cons (pe_g GB hr1 (pa_cons (pv 0) (pa_cons (pv 1) pa_nil))) pa_nil))) pa_nil))), ?_⟩
    refine ⟨_, rfl, l, _, rfl, .inl hl, _, _, rfl, _, _, rfl, rfl, ?_⟩
    have hj : ∃ t : Nat, t ≤ 3 ∧ (1 + (if ((ns.map V.int).length : Int) < 2 then ((ns.map V.int).length : Int) else 2) : Int) = (t : Int) := by
      rw [List.length_map]
      by_cases c : (ns.length : Int) < 2
      · exact ⟨1 + ns.length, by omega, by rw [if_pos c]; omega⟩
      · exact ⟨3, by omega, by rw [if_neg c]; rfl⟩
    obtain ⟨t, ht, et⟩ := hj
    refine ⟨(t : Int), congrArg (fun z => [V.int z]) et, by omega, by omega, ?_⟩
    rw [Int.toNat_natCast]
    refine lc_flat walk_rg (fun _ => some (.bl true)) (by omega) (fun _ _ => trivial) ?_ ?_
    · rintro j v H2 H3 Ky Kn hj s2 ⟨rfl, rfl⟩ ky kn
      refine ⟨rfl, iteT (B := Kn H3) ⟨_, rfl, _, rfl, l, ns, j, rfl, sql_same s2 hl, by omega, hn, fun a H4 ha s4 hb => ⟨a, rfl, hb, fun H5 f5 => ky _ _ (Frame.same s4 f5 fun x hx => by rw [List.mem_singleton.mp hx]; exact ha) rfl⟩⟩⟩
    · intro D H2 hD s2 hl2
      rw [yes_list] at hl2
      refine ⟨D, _, rfl, SqL.of hl2, ?_⟩
      rw [yes_all]
      exact k H2 s2
end
end K43

-- K43Hook
set_option Elab.async false
set_option linter.all false
set_option maxRecDepth 100000
set_option maxHeartbeats 4000000
/-! what the top has made, beyond the head's own facts: defs with a __class__ cell, super's way, empty tuples among the defaults -/
namespace K43
open PySem PySem.Spec PyProof.Rows L2
abbrev FnC : Type := Option (Str × Str × Arguments × FuncBody × Scope × Addr × List Str × Addr)
def fnC (K : PySem.W.Frag) (p : Str × Option Str) : FnC := match K.lookup (He.fAd K p) with
  | some ⟨_, _, .func fd, _⟩ => some (fd.name, fd.qualname, fd.params, fd.body, fd.scope, fd.globals, fd.closure.map (·.1), fd.builtins)
  | _ => none
def valC (d : He.DefD) : FnC := some (d.name, d.qual, d.params, .stmts d.body, d.scope, mainGlobals, [nC], builtinsNs)
def cellB (K : PySem.W.Frag) (D : Addr) : List (Str × Addr) → Bool
  | [(_, cc)] => (match K.lookup cc with
    | some ⟨_, _, .cell (some (.ref x)), _⟩ => decide (x = D)
    | _ => false)
  | _ => false
def fileB (file : Str) (K : PySem.W.Frag) : Value → Bool
  | .ref cda => (match K.lookup cda with
    | some ⟨_, _, .fields fv, _⟩ => (match fv[2]? with
      | some (Value.str f _) => file == f
      | _ => false)
    | _ => false)
  | _ => false
def cloB (file : Str) (K : PySem.W.Frag) (D : Addr) (d : He.DefD) : Bool := PySem.W.keepIn K (.ref (He.fAd K d.at_)) && (match K.lookup (He.fAd K d.at_) with
  | some ⟨_, _, .func fd, _⟩ => PySem.W.codeIn K fd.code d.qual && (He.dflB K fd.defaults (d.dvs K) && (cellB K D fd.closure && fileB file K fd.code))
  | _ => false)
theorem cellB_ok {K : PySem.W.Frag} {D : Addr} {cl : List (Str × Addr)} (h : cellB K D cl = true) : ∃ x cc oc od osl, cl = [(x, cc)] ∧ K.lookup cc = some ⟨oc, od, .cell (some (.ref D)), osl⟩ := by
  unfold cellB at h
  split at h
  · rename_i x cc
    split at h
    · rename_i oc od y osl q
      rw [of_decide_eq_true h] at q
      exact ⟨_, _, _, _, _, rfl, q⟩
    · cases h
  · cases h
theorem fileB_ok {file : Str} {K : PySem.W.Frag} {v : Value} (h : fileB file K v = true) : ∃ cda oc od fv osl f t, v = .ref cda ∧ K.lookup cda = some ⟨oc, od, .fields fv, osl⟩ ∧ fv[2]? = some (.str f t) ∧ (file == f) = true := by
  unfold fileB at h
  split at h
  · split at h
    · rename_i q
      split at h
      · rename_i q2
        exact ⟨_, _, _, _, _, _, _, rfl, q, q2, h⟩
      · cases h
    · cases h
  · cases h
theorem funS_of {P : Program} {K : PySem.W.Frag} {D : Addr} {d : He.DefD} (e : fnC K d.at_ = valC d) (c : cloB P.main.file K D d = true) : ∃ fd, FunS P K D d.name d.qual d.params d.body d.scope (d.dvs K) (He.fAd K d.at_) fd := by
  obtain ⟨kp, c2⟩ := He.ba c
  unfold fnC at e
  cases q : K.lookup (He.fAd K d.at_) with
  | none =>
    rw [q] at c2
    cases c2
  | some o =>
    obtain ⟨oc, od, dt, osl⟩ := o
    rw [q] at c2 e
    cases dt with
    | func fd =>
      obtain ⟨n1, n2, n3, n4, n5, n6, n7, n8, n9, n10, n11, n12, n13, n14, n15⟩ := fd
      have e2 : (some (n1, n2, n3, n4, n5, n6, n7.map (·.1), n15) : FnC) = some (d.name, d.qual, d.params, .stmts d.body, d.scope, mainGlobals, [nC], builtinsNs) := e
      simp only [Option.some.injEq, Prod.mk.injEq] at e2
      obtain ⟨h1, h2, h3, h4, h5, h6, h7, h8⟩ := e2
      subst h1 h2 h3 h4 h5 h6 h8
      have c3 : (PySem.W.codeIn K n13 d.qual && (He.dflB K n8 (d.dvs K) && (cellB K D n7 && fileB P.main.file K n13))) = true := c2
      obtain ⟨k1, k2⟩ := He.ba c3
      obtain ⟨k3, k4⟩ := He.ba k2
      obtain ⟨k5, k6⟩ := He.ba k4
      obtain ⟨x, cc, cl, cdd, csl, rfl, lcc⟩ := cellB_ok k5
      obtain ⟨cda, ccl, ccd, fv, ccs, file, tf, rfl, lcda, hfv, hfile⟩ := fileB_ok k6
      have hx : x = nC := by
        have h7 : [x] = [nC] := h7
        exact List.head_eq_of_cons_eq h7
      subst hx
      exact ⟨_, ⟨oc, od, n8, n9, n10, n11, n12, cda, cc, n14, osl, cl, cdd, csl, ccl, ccd, fv, ccs, file, tf, rfl, q, k1, He.dflB_ok k3, lcc, lcda, hfv, hfile⟩, kp⟩
    | _ => cases c2
def supB (K : PySem.W.Frag) (C D g : Addr) (m : Str) : Bool := (PySem.W.clsIn K D).isSome && (decide (PySem.W.mroIn K C (.ref D) = some true) && (He.eqO (PySem.W.nsIn K cStatics "thirdparty.any") (some none) && (He.eqO (PySem.W.ks_superIn K C D m) (some (some (.ref g))) &&
  (decide (PySem.W.typeIn K (.ref g) = some (.type "function")) && PySem.W.fnIn K g))))
theorem supB_ok {P : Program} {K : PySem.W.Frag} {mg : Str → Option Value} {C D g : Addr} {m : Str} (h : supB K C D g m = true) (hm : mg "super" = none) (ht : (P.main.scope.names.lookup ("super" : Str)).isSome = false) : SupOk P K mg C D g m := by
  obtain ⟨h1, h⟩ := He.ba h
  obtain ⟨h2, h⟩ := He.ba h
  obtain ⟨h3, h⟩ := He.ba h
  obtain ⟨h4, h⟩ := He.ba h
  obtain ⟨h5, h6⟩ := He.ba h
  exact ⟨hm, ht, Option.isSome_iff_exists.mp h1, of_decide_eq_true h2, He.eqO_ok h3, He.eqO_ok h4, of_decide_eq_true h5, h6⟩
def empB (K : PySem.W.Frag) (a : Addr) : Bool := match K.lookup a with
  | some ⟨.type c, _, .seq its _, _⟩ => decide (c = "tuple") && its.toList.isEmpty
  | _ => false
theorem empB_ok {K : PySem.W.Frag} {a : Addr} (h : empB K a = true) (H : Hp) : SqT K H a [] := by
  unfold empB at h
  split at h
  · rename_i c od its n osl q
    obtain ⟨h1, h2⟩ := He.ba h
    have e := List.isEmpty_iff.mp h2
    refine .inr ⟨_, its, n, q, congrArg Value.type (of_decide_eq_true h1), rfl, ?_, ?_⟩
    · rw [← Array.length_toList, e]; exact Nat.zero_le _
    · rw [e]; exact .nil
  · cases h
/-! ### the Hook -/
abbrev AlK : Type := He.AlD × Bool × List FnC
def obsK (fa : List He.Fa) (fn clo : List He.DefD) (xb : PySem.W.Frag → Bool) (K : PySem.W.Frag) : AlK := (He.obsD fa fn K, xb K, clo.map fun d => fnC K d.at_)
def valK (fn clo : List He.DefD) : AlK := (He.valD fn, true, clo.map valC)
def frK (n : Nat) (g : Addr → Option Obj) : PySem.W.Frag := He.frG g (cStatics :: He.asD g n)
def hookK (n : Nat) (fa : List He.Fa) (fn clo : List He.DefD) (xb : PySem.W.Frag → Bool) : PySem.W.Hook where
  α := AlK
  obs := fun s => obsK fa fn clo xb (frK n s.heap.get?)
  val := fun _ => valK fn clo
  says := fun _ h => ∃ K : PySem.W.Frag, K.In h ∧ obsK fa fn clo xb K = valK fn clo
  of := fun _ _ e => ⟨_, He.frG_in, e⟩
  keeps := fun _ _ _ ⟨K, hK, c⟩ k => ⟨K, PySem.W.Frag.In.keeps hK k, c⟩
theorem obsK_eq {n : Nat} {fa : List He.Fa} {fn clo : List He.DefD} {xb : PySem.W.Frag → Bool} {g : Addr → Option Obj} {s : Shared} (h : ∀ a, g a = s.heap.get? a) : obsK fa fn clo xb (frK n g) = (hookK n fa fn clo xb).obs s := by
  have e : g = s.heap.get? := funext h
  rw [e] <;> rfl
end K43

-- K43Head
set_option Elab.async false
set_option linter.all false
set_option maxRecDepth 100000
set_option maxHeartbeats 0
/-! printed by gen_text.py: facts and defs for the head -/
namespace K43
open PySem L2
def d_as_tuples : He.DefD := ⟨("as_tuples", none), "as_tuples", "as_tuples", defArgs s_as_tuples, defBody s_as_tuples, defScope s_as_tuples, [], []⟩
def d_events_of : He.DefD := ⟨("events_of", none), "events_of", "events_of", defArgs s_events_of, defBody s_events_of, defScope s_events_of, [], []⟩
def d_looks : He.DefD := ⟨("looks", none), "looks", "looks", defArgs s_looks, defBody s_looks, defScope s_looks, [], []⟩
def d_adds : He.DefD := ⟨("adds", none), "adds", "adds", defArgs s_adds, defBody s_adds, defScope s_adds, [], []⟩
def dB_init : He.DefD := ⟨("Bonds", some "__init__"), "__init__", "Bonds.__init__", defArgs sB_init, defBody sB_init, defScope sB_init, [.adr (He.dflAt ("Bonds", some "__init__") 0), .adr (He.dflAt ("Bonds", some "__init__") 1)], []⟩
def dB_many : He.DefD := ⟨("Bonds", some "many"), "many", "Bonds.many", defArgs sB_many, defBody sB_many, defScope sB_many, [], []⟩
def dB_is_alike : He.DefD := ⟨("Bonds", some "is_alike"), "is_alike", "Bonds.is_alike", defArgs sB_is_alike, defBody sB_is_alike, defScope sB_is_alike, [], []⟩
def dB_is_below : He.DefD := ⟨("Bonds", some "is_below"), "is_below", "Bonds.is_below", defArgs sB_is_below, defBody sB_is_below, defScope sB_is_below, [], []⟩
def dB_has : He.DefD := ⟨("Bonds", some "has"), "has", "Bonds.has", defArgs sB_has, defBody sB_has, defScope sB_has, [], []⟩
def dB_bind : He.DefD := ⟨("Bonds", some "bind"), "bind", "Bonds.bind", defArgs sB_bind, defBody sB_bind, defScope sB_bind, [.adr (He.dflAt ("Bonds", some "bind") 0)], []⟩
def dB_lower : He.DefD := ⟨("Bonds", some "lower"), "lower", "Bonds.lower", defArgs sB_lower, defBody sB_lower, defScope sB_lower, [.adr (He.dflAt ("Bonds", some "lower") 0)], []⟩
def dB_go_through : He.DefD := ⟨("Bonds", some "go_through"), "go_through", "Bonds.go_through", defArgs sB_go_through, defBody sB_go_through, defScope sB_go_through, [], []⟩
def dB_looked : He.DefD := ⟨("Bonds", some "looked"), "looked", "Bonds.looked", defArgs sB_looked, defBody sB_looked, defScope sB_looked, [], []⟩
def dB_compared : He.DefD := ⟨("Bonds", some "compared"), "compared", "Bonds.compared", defArgs sB_compared, defBody sB_compared, defScope sB_compared, [], []⟩
def dB_is_late : He.DefD := ⟨("Bonds", some "is_late"), "is_late", "Bonds.is_late", defArgs sB_is_late, defBody sB_is_late, defScope sB_is_late, [], []⟩
def dB_close : He.DefD := ⟨("Bonds", some "close"), "close", "Bonds.close", defArgs sB_close, defBody sB_close, defScope sB_close, [], []⟩
def dB_rules : He.DefD := ⟨("Bonds", some "rules"), "rules", "Bonds.rules", defArgs sB_rules, defBody sB_rules, defScope sB_rules, [], []⟩
def d_check_look : He.DefD := ⟨("check_look", none), "check_look", "check_look", defArgs s_check_look, defBody s_check_look, defScope s_check_look, [], []⟩
def d_choices : He.DefD := ⟨("choices", none), "choices", "choices", defArgs s_choices, defBody s_choices, defScope s_choices, [], []⟩
def dP_init : He.DefD := ⟨("Peeling", some "__init__"), "__init__", "Peeling.__init__", defArgs sP_init, defBody sP_init, defScope sP_init, [.adr (He.dflAt ("Peeling", some "__init__") 0), .adr (He.dflAt ("Peeling", some "__init__") 1)], []⟩
def dP_everything : He.DefD := ⟨("Keeping", some "everything"), "everything", "Peeling.everything", defArgs sP_everything, defBody sP_everything, defScope sP_everything, [], []⟩
def dP_last_add : He.DefD := ⟨("Keeping", some "last_add"), "last_add", "Peeling.last_add", defArgs sP_last_add, defBody sP_last_add, defScope sP_last_add, [], []⟩
def dP_stops : He.DefD := ⟨("Peeling", some "stops"), "stops", "Peeling.stops", defArgs sP_stops, defBody sP_stops, defScope sP_stops, [], []⟩
def dP_is_first : He.DefD := ⟨("Keeping", some "is_first"), "is_first", "Peeling.is_first", defArgs sP_is_first, defBody sP_is_first, defScope sP_is_first, [], []⟩
def dP_parts : He.DefD := ⟨("Keeping", some "parts"), "parts", "Peeling.parts", defArgs sP_parts, defBody sP_parts, defScope sP_parts, [], []⟩
def dP_firsts : He.DefD := ⟨("Keeping", some "firsts"), "firsts", "Peeling.firsts", defArgs sP_firsts, defBody sP_firsts, defScope sP_firsts, [], []⟩
def dP_stuck : He.DefD := ⟨("Keeping", some "stuck"), "stuck", "Peeling.stuck", defArgs sP_stuck, defBody sP_stuck, defScope sP_stuck, [], []⟩
def dK_init : He.DefD := ⟨("Keeping", some "__init__"), "__init__", "Keeping.__init__", defArgs sK_init, defBody sK_init, defScope sK_init, [.bl false], []⟩
def dK_stops : He.DefD := ⟨("Keeping", some "stops"), "stops", "Keeping.stops", defArgs sK_stops, defBody sK_stops, defScope sK_stops, [], []⟩
def dK_is_fine : He.DefD := ⟨("Keeping", some "is_fine"), "is_fine", "Keeping.is_fine", defArgs sK_is_fine, defBody sK_is_fine, defScope sK_is_fine, [], []⟩
def d_check_people : He.DefD := ⟨("check_people", none), "check_people", "check_people", defArgs s_check_people, defBody s_check_people, defScope s_check_people, [], []⟩
def d_check_wishes : He.DefD := ⟨("check_wishes", none), "check_wishes", "check_wishes", defArgs s_check_wishes, defBody s_check_wishes, defScope s_check_wishes, [], []⟩
def d_branch : He.DefD := ⟨("branch", none), "branch", "branch", defArgs s_branch, defBody s_branch, defScope s_branch, [], []⟩
def d_kept_people : He.DefD := ⟨("kept_people", none), "kept_people", "kept_people", defArgs s_kept_people, defBody s_kept_people, defScope s_kept_people, [], []⟩
def d_kept_from : He.DefD := ⟨("kept_from", none), "kept_from", "kept_from", defArgs s_kept_from, defBody s_kept_from, defScope s_kept_from, [], []⟩
def d_known_at : He.DefD := ⟨("known_at", none), "known_at", "known_at", defArgs s_known_at, defBody s_known_at, defScope s_known_at, [], []⟩
def d_way_of : He.DefD := ⟨("way_of", none), "way_of", "way_of", defArgs s_way_of, defBody s_way_of, defScope s_way_of, [], []⟩
def d_keep_way : He.DefD := ⟨("keep_way", none), "keep_way", "keep_way", defArgs s_keep_way, defBody s_keep_way, defScope s_keep_way, [], []⟩
def d_clash : He.DefD := ⟨("clash", none), "clash", "clash", defArgs s_clash, defBody s_clash, defScope s_clash, [], []⟩
def d_law_take : He.DefD := ⟨("_law_take", none), "_law_take", "_law_take", defArgs s_law_take, defBody s_law_take, defScope s_law_take, [], []⟩
def d_law_event : He.DefD := ⟨("_law_event", none), "_law_event", "_law_event", defArgs s_law_event, defBody s_law_event, defScope s_law_event, [], []⟩
def d_law_table : He.DefD := ⟨("_law_table", none), "_law_table", "_law_table", defArgs s_law_table, defBody s_law_table, defScope s_law_table, [], []⟩
def d_law_live : He.DefD := ⟨("_law_live", none), "_law_live", "_law_live", defArgs s_law_live, defBody s_law_live, defScope s_law_live, [], []⟩
def d_law_crossed : He.DefD := ⟨("_law_crossed", none), "_law_crossed", "_law_crossed", defArgs s_law_crossed, defBody s_law_crossed, defScope s_law_crossed, [], []⟩
def d_law_passed : He.DefD := ⟨("_law_passed", none), "_law_passed", "_law_passed", defArgs s_law_passed, defBody s_law_passed, defScope s_law_passed, [], []⟩
def d_law_closed : He.DefD := ⟨("_law_closed", none), "_law_closed", "_law_closed", defArgs s_law_closed, defBody s_law_closed, defScope s_law_closed, [], []⟩
def d_law_web : He.DefD := ⟨("_law_web", none), "_law_web", "_law_web", defArgs s_law_web, defBody s_law_web, defScope s_law_web, [], []⟩
def d_law_of : He.DefD := ⟨("_law_of", none), "_law_of", "_law_of", defArgs s_law_of, defBody s_law_of, defScope s_law_of, [], []⟩
def d_law_draw_wants : He.DefD := ⟨("_law_draw_wants", none), "_law_draw_wants", "_law_draw_wants", defArgs s_law_draw_wants, defBody s_law_draw_wants, defScope s_law_draw_wants, [], []⟩
def d_law_box : He.DefD := ⟨("_law_box", none), "_law_box", "_law_box", defArgs s_law_box, defBody s_law_box, defScope s_law_box, [], []⟩
def d_law_state : He.DefD := ⟨("_law_state", none), "_law_state", "_law_state", defArgs s_law_state, defBody s_law_state, defScope s_law_state, [], []⟩
def d_law_less : He.DefD := ⟨("_law_less", none), "_law_less", "_law_less", defArgs s_law_less, defBody s_law_less, defScope s_law_less, [], []⟩
def d_law_right : He.DefD := ⟨("_law_right", none), "_law_right", "_law_right", defArgs s_law_right, defBody s_law_right, defScope s_law_right, [], []⟩
def d_law : He.DefD := ⟨("law", none), "law", "law", defArgs s_law, defBody s_law, defScope s_law, [], []⟩
def fnL : List He.DefD := [d_as_tuples, d_events_of, d_looks, d_adds, dB_init, dB_many, dB_is_alike, dB_is_below, dB_has, dB_bind, dB_lower, dB_go_through, dB_looked, dB_compared, dB_is_late, dB_close, dB_rules, d_check_look, d_choices, dP_init, dP_everything, dP_last_add, dP_stops, dP_is_first, dP_parts, dP_firsts, dP_stuck, dK_is_fine, d_check_people, d_check_wishes, d_branch, d_kept_people, d_kept_from, d_known_at, d_way_of, d_keep_way, d_clash, d_law_take, d_law_event, d_law_table, d_law_live, d_law_crossed, d_law_passed, d_law_closed, d_law_web, d_law_of, d_law_draw_wants, d_law_box, d_law_state, d_law_less, d_law_right, d_law]
def faL : List He.Fa := [.glo "as_tuples", .glo "events_of", .glo "looks", .glo "adds", .glo "check_look", .glo "choices", .glo "check_people", .glo "check_wishes", .glo "branch", .glo "kept_people", .glo "kept_from", .glo "known_at", .glo "way_of", .glo "keep_way", .glo "clash", .glo "_law_take", .glo "_law_event", .glo "_law_table", .glo "_law_live", .glo "_law_crossed", .glo "_law_passed", .glo "_law_closed", .glo "_law_web", .glo "_law_of", .glo "_law_draw_wants", .glo "_law_box", .glo "_law_state", .glo "_law_less", .glo "_law_right", .glo "law", .glo "Bonds", .glo "Peeling", .glo "Keeping", .free "isinstance", .free "list", .free "tuple", .free "enumerate", .free "range", .free "len", .free "any", .free "max", .free "sorted", .free "set", .free "int", .free "dict", .free "zip", .free "all", .free "abs", .free "min", .free "super", .str "LOOK" "look", .str "ADD" "add", .str "MEET" "meet", .str "TELL" "tell", .str "LONG" "long", .str "ALIKE" "alike", .str "BEGINS" "begins", .str "NO" "no", .str "DELAY" "delay", .str "FORK" "fork", .cls "Bonds", .noat "Bonds" "own_people", .noat "Bonds" "own_events", .noat "Bonds" "own_kind", .noat "Bonds" "own_gone", .noat "Bonds" "own_looks", .noat "Bonds" "own_adds", .noat "Bonds" "own_alike", .noat "Bonds" "own_below", .noat "Bonds" "own_has", .noat "Bonds" "own_facts", .mkr "Bonds", .cls "Keeping", .noat "Keeping" "own_looks", .noat "Keeping" "own_adds", .noat "Keeping" "own_bonds", .noat "Keeping" "own_unlike", .noat "Keeping" "own_barred", .mkr "Keeping", .meth "Bonds" "many", .meth "Bonds" "is_alike", .meth "Bonds" "is_below", .meth "Bonds" "has", .meth "Bonds" "bind", .meth "Bonds" "lower", .meth "Bonds" "go_through", .meth "Bonds" "looked", .meth "Bonds" "compared", .meth "Bonds" "is_late", .meth "Bonds" "close", .meth "Bonds" "rules", .meth "Keeping" "everything", .meth "Keeping" "last_add", .meth "Keeping" "stops", .meth "Keeping" "is_first", .meth "Keeping" "parts", .meth "Keeping" "firsts", .meth "Keeping" "stuck", .meth "Keeping" "is_fine"]
def looseA : List PySem.Str := ["_wall", "as_tuples", "NoPerson", "NoLook", "LOOK", "ADD", "MEET", "TELL", "LONG", "MADE_UP", "events_of", "looks", "adds", "ALIKE", "BEGINS", "Bonds", "check_look", "choices", "Peeling", "NO", "DELAY", "FORK", "Keeping", "check_people", "check_wishes", "branch", "kept_people", "kept_from", "known_at", "way_of"]
def looseB : List PySem.Str := ["keep_way", "clash", "_law_take", "_law_event", "_law_table", "_law_live", "_law_crossed", "_law_passed", "_law_closed", "_law_web", "_law_of", "_law_draw_wants", "_law_box", "_law_state", "_law_less", "_law_right"]
def looseL : List PySem.Str := looseA ++ looseB
end K43

namespace K43
open PySem PySem.Spec PyProof.Rows L2
abbrev Rw : PySem.W.OpenRow := PySem.W.OpenLaw.row PySem.Challenge.rw_hiddenforks_k43_whole_what_comes_later
def cloL : List He.DefD := [dK_init, dK_stops]
def xbL (K : PySem.W.Frag) : Bool := cloB Rw.prog.main.file K (He.ga K "Keeping") dK_init && (cloB Rw.prog.main.file K (He.ga K "Keeping") dK_stops && (supB K (He.ga K "Keeping") (He.ga K "Keeping") (He.ma K (He.ga K "Peeling") "stops") "stops" && (supB K (He.ga K "Keeping") (He.ga K "Keeping") (He.ma K (He.ga K "Peeling") "__init__") "__init__" &&
  (empB K (He.dflAt ("Bonds", some "__init__") 0 K) && (empB K (He.dflAt ("Bonds", some "__init__") 1 K) && (empB K (He.dflAt ("Bonds", some "bind") 0 K) && empB K (He.dflAt ("Bonds", some "lower") 0 K)))))))
abbrev hk : PySem.W.Hook := hookK 6 faL fnL cloL xbL
def ob (s : PySem.W.SharedT) : AlK := obsK faL fnL cloL xbL (frK 6 (HandSHeadRun.getT s))
theorem ob_eq (s : PySem.W.SharedT) : ob s = hk.obs s.abs := obsK_eq (HandSHeadRun.getT_eq s)
theorem run (w : World) : HandSHeadRun.RunEq Rw (PySem.W.view Rw.prog [53]) hk ob 4000 looseL w := by
  intro os
  kernel_rfl
end K43

-- K43Fin
set_option Elab.async false
set_option linter.all false
set_option maxRecDepth 100000
set_option maxHeartbeats 0
/-! printed by gen_fin.py: the head's facts to law -/
namespace K43
open PySem PySem.Spec PyProof.Rows L2
section
variable {P : Program} {w : World} {K : PySem.W.Frag} {h : Heap} {mg : Str → Option Value} {base : Heap}
theorem mkTxt (X : K.In h) (G : h.Ns mainGlobals mg) (c : He.SaysD faL fnL K) : Txt K mg where
  isinstance := He.free_ok X G (c.fact 33 (f := (.free "isinstance")) rfl)
  list := He.free_ok X G (c.fact 34 (f := (.free "list")) rfl)
  tuple := He.free_ok X G (c.fact 35 (f := (.free "tuple")) rfl)
  enumerate := He.free_ok X G (c.fact 36 (f := (.free "enumerate")) rfl)
  range := He.free_ok X G (c.fact 37 (f := (.free "range")) rfl)
  len := He.free_ok X G (c.fact 38 (f := (.free "len")) rfl)
  any := He.free_ok X G (c.fact 39 (f := (.free "any")) rfl)
  max := He.free_ok X G (c.fact 40 (f := (.free "max")) rfl)
  sorted := He.free_ok X G (c.fact 41 (f := (.free "sorted")) rfl)
  set := He.free_ok X G (c.fact 42 (f := (.free "set")) rfl)
  int := He.free_ok X G (c.fact 43 (f := (.free "int")) rfl)
  dict := He.free_ok X G (c.fact 44 (f := (.free "dict")) rfl)
  zip := He.free_ok X G (c.fact 45 (f := (.free "zip")) rfl)
  all := He.free_ok X G (c.fact 46 (f := (.free "all")) rfl)
  abs := He.free_ok X G (c.fact 47 (f := (.free "abs")) rfl)
  min := He.free_ok X G (c.fact 48 (f := (.free "min")) rfl)
  super := He.free_ok X G (c.fact 49 (f := (.free "super")) rfl)
  LOOK := He.str_ok X G (c.fact 50 (f := (.str "LOOK" "look")) rfl)
  ADD := He.str_ok X G (c.fact 51 (f := (.str "ADD" "add")) rfl)
  MEET := He.str_ok X G (c.fact 52 (f := (.str "MEET" "meet")) rfl)
  TELL := He.str_ok X G (c.fact 53 (f := (.str "TELL" "tell")) rfl)
  LONG := He.str_ok X G (c.fact 54 (f := (.str "LONG" "long")) rfl)
  ALIKE := He.str_ok X G (c.fact 55 (f := (.str "ALIKE" "alike")) rfl)
  BEGINS := He.str_ok X G (c.fact 56 (f := (.str "BEGINS" "begins")) rfl)
  NO := He.str_ok X G (c.fact 57 (f := (.str "NO" "no")) rfl)
  DELAY := He.str_ok X G (c.fact 58 (f := (.str "DELAY" "delay")) rfl)
  FORK := He.str_ok X G (c.fact 59 (f := (.str "FORK" "fork")) rfl)
  clB := He.cls_ok (c.fact 60 (f := (.cls "Bonds")) rfl)
  clK := He.cls_ok (c.fact 72 (f := (.cls "Keeping")) rfl)
  nB := fun f hf => by
    simp only [List.mem_cons, List.not_mem_nil, or_false] at hf
    rcases hf with rfl | rfl | rfl | rfl | rfl | rfl | rfl | rfl | rfl | rfl
    · exact He.noat_ok (c.fact 61 (f := (.noat "Bonds" "own_people")) rfl)
    · exact He.noat_ok (c.fact 62 (f := (.noat "Bonds" "own_events")) rfl)
    · exact He.noat_ok (c.fact 63 (f := (.noat "Bonds" "own_kind")) rfl)
    · exact He.noat_ok (c.fact 64 (f := (.noat "Bonds" "own_gone")) rfl)
    · exact He.noat_ok (c.fact 65 (f := (.noat "Bonds" "own_looks")) rfl)
    · exact He.noat_ok (c.fact 66 (f := (.noat "Bonds" "own_adds")) rfl)
    · exact He.noat_ok (c.fact 67 (f := (.noat "Bonds" "own_alike")) rfl)
    · exact He.noat_ok (c.fact 68 (f := (.noat "Bonds" "own_below")) rfl)
    · exact He.noat_ok (c.fact 69 (f := (.noat "Bonds" "own_has")) rfl)
    · exact He.noat_ok (c.fact 70 (f := (.noat "Bonds" "own_facts")) rfl)
  nK := fun f hf => by
    simp only [List.mem_cons, List.not_mem_nil, or_false] at hf
    rcases hf with rfl | rfl | rfl | rfl | rfl
    · exact He.noat_ok (c.fact 73 (f := (.noat "Keeping" "own_looks")) rfl)
    · exact He.noat_ok (c.fact 74 (f := (.noat "Keeping" "own_adds")) rfl)
    · exact He.noat_ok (c.fact 75 (f := (.noat "Keeping" "own_bonds")) rfl)
    · exact He.noat_ok (c.fact 76 (f := (.noat "Keeping" "own_unlike")) rfl)
    · exact He.noat_ok (c.fact 77 (f := (.noat "Keeping" "own_barred")) rfl)
variable {x qual : Str} {params : Arguments} {body : List Stmt} {scope : Scope} {dvs : List V} {f D : Addr} {fd : FuncData} {ps : List Str}
theorem FunS.binds1 (F : FunS P K D x qual params body scope dvs f fd) (n j : Nat) (hd : dvs ≠ []) (hn : n + (dvs.length - j) = ps.length)
    (h : ∀ (T cc : Addr) (kV doc pm : Value) (an : Option Addr) (cdv ct : Value) (us its : List Value), us.length = n → its.length = dvs.length →
      ∃ k, bindArgs (PySem.W.fnX x qual params body scope [(nC, cc)] (.ref T) kV doc pm an cdv ct) ⟨us, []⟩ = seqItems? (.ref T) >>= k ∧ k (some its.toArray) = pure (ps.zip (us ++ its.drop j))) : ∃ ds, Vals (dvs.drop j) ds ∧ Binds K fd ps ds := by
  obtain ⟨oc, od, dV, kV, doc, pm, an, cda, cc, ct, osl, cl, cdd, csl, ccl, ccd, fv, ccs, file, tf, rfl, lk, hcd, hD, _⟩ := F.ex
  rcases hD with ⟨e, _⟩ | ⟨_, T, o, its, m, rfl, lT, oT, rT⟩
  · exact absurd e hd
  · refine ⟨its.drop j, rT.drop j, fun s us X hlen => ?_⟩
    have l1 : its.length = dvs.length := rT.length.symm
    have l2 : us.length = n := by
      rw [List.length_append, List.length_drop, l1] at hlen
      omega
    obtain ⟨k, e1, e2⟩ := h T cc kV doc pm an (.ref cda) ct us its l2 l1
    refine BindsTo.of_looks fun M => ?_
    rw [e1]
    exact looks_items X lT oT (.of_pure e2)
theorem FunS.bindsN (F : FunS P K D x qual params body scope [] f fd)
    (h : ∀ (cc : Addr) (kV doc pm : Value) (an : Option Addr) (cdv ct : Value) (us : List Value), us.length = ps.length → bindArgs (PySem.W.fnX x qual params body scope [(nC, cc)] .none kV doc pm an cdv ct) ⟨us, []⟩ = pure (ps.zip us)) : Binds K fd ps [] := by
  obtain ⟨oc, od, dV, kV, doc, pm, an, cda, cc, ct, osl, cl, cdd, csl, ccl, ccd, fv, ccs, file, tf, rfl, lk, hcd, hD, _⟩ := F.ex
  rcases hD with ⟨_, rfl⟩ | ⟨e, _⟩
  · exact .all (h cc kV doc pm an (.ref cda) ct)
  · exact absurd rfl e
theorem vals_nil {us : List Value} (h : Vals [] us) : us = [] := by
  cases h
  rfl
/-- all parameters are given -/
theorem full {n : Nat} {sp : Sp} {k : Nat} {ds : List Value} {fd : FuncData} (v : Vals [] ds) (b : Binds K fd ps ds) : Binds K fd ps [] := by
  rw [vals_nil v] at b
  exact b
end
section
variable {w : World} {K : PySem.W.Frag} {h : Heap} {mg : Str → Option Value} {base : Heap}
theorem facts {f : Addr} (X : K.In h) (G : h.Ns mainGlobals mg) (hfa : mg ("law" : Str) = some (.ref f)) (cW : obsK faL fnL cloL xbL K = valK fnL cloL) :
    ∃ fd : FuncData, (∀ (s : Shared) (v : Value), BindsTo s fd ⟨[v], []⟩ [("_law_script", v)]) ∧ ∀ base : Heap, K.In base → base.Ns mainGlobals mg → FnOk Rw.prog w K mg base CX0 28 f fd ["_law_script"] (spLaw K) := by
  have c : He.SaysD faL fnL K := congrArg (fun z : AlK => z.1) cW
  have cx : xbL K = true := congrArg (fun z : AlK => z.2.1) cW
  have cc : cloL.map (fun d => fnC K d.at_) = cloL.map valC := congrArg (fun z : AlK => z.2.2) cW
  have e1 : fnC K dK_init.at_ = valC dK_init := List.head_eq_of_cons_eq cc
  have e2 : fnC K dK_stops.at_ = valC dK_stops := List.head_eq_of_cons_eq (List.tail_eq_of_cons_eq cc)
  clear cW cc
  obtain ⟨x1, cx⟩ := He.ba cx
  obtain ⟨x2, cx⟩ := He.ba cx
  obtain ⟨x3, cx⟩ := He.ba cx
  obtain ⟨x4, cx⟩ := He.ba cx
  obtain ⟨x5, cx⟩ := He.ba cx
  obtain ⟨x6, cx⟩ := He.ba cx
  obtain ⟨x7, x8⟩ := He.ba cx
  have T : Txt K mg := mkTxt X G c
  have se_a := empB_ok x5
  have se_b := empB_ok x6
  have se_bind := empB_ok x7
  have se_lower := empB_ok x8
  have top : (Rw.prog.main.scope.names.lookup ("super" : Str)).isSome = false := by decide +kernel
  have so_stops : SupOk Rw.prog K mg (cK K) (cK K) (He.ma K (He.ga K "Peeling") "stops") "stops" := supB_ok x3 T.super top
  have so_init : SupOk Rw.prog K mg (cK K) (cK K) (He.ma K (He.ga K "Peeling") "__init__") "__init__" := supB_ok x4 T.super top
  obtain ⟨f_d_law, F_d_law⟩ := c.def_ 51 (d := d_law) rfl
  replace F_d_law : FunD K "law" "law" (defArgs s_law) (defBody s_law) (defScope s_law) [] [] (He.ga K "law") f_d_law := F_d_law
  cases hfa.symm.trans (He.glo_ok X G (c.fact 29 (f := (.glo "law")) rfl))
  refine ⟨f_d_law, fun s v => FunD.bindsA (ps := ["_law_script"]) F_d_law (fun _ _ _ _ _ _ us hl => match us, hl with | [_], _ => rfl) s [v] rfl, fun base _ _ => ?_⟩
  obtain ⟨f_d_as_tuples, F_d_as_tuples⟩ := c.def_ 0 (d := d_as_tuples) rfl
  replace F_d_as_tuples : FunD K "as_tuples" "as_tuples" (defArgs s_as_tuples) (defBody s_as_tuples) (defScope s_as_tuples) [] [] (He.ga K "as_tuples") f_d_as_tuples := F_d_as_tuples
  have m_as : mg "as_tuples" = some (.ref (He.ga K "as_tuples")) := He.glo_ok X G (c.fact 0 (f := (.glo "as_tuples")) rfl)
  have bi_as : Binds K f_d_as_tuples ["thing"] [] := (F_d_as_tuples.bindsN (ps := ["thing"]) fun _ _ _ _ _ _ us hl => match us, hl with | [_], _ => rfl)
  have g_as_tab : GOk Rw.prog w K mg base 4 "as_tuples" ["thing"] spAsTab := asTab (gok_mk F_d_as_tuples (ok_as_tuples F_d_as_tuples T m_as 3) bi_as m_as)
  have g_as_wish : GOk Rw.prog w K mg base 3 "as_tuples" ["thing"] spAsWish := asWish (gok_mk F_d_as_tuples (ok_as_tuples F_d_as_tuples T m_as 2) bi_as m_as)
  obtain ⟨f_d_choices, F_d_choices⟩ := c.def_ 18 (d := d_choices) rfl
  replace F_d_choices : FunD K "choices" "choices" (defArgs s_choices) (defBody s_choices) (defScope s_choices) [] [] (He.ga K "choices") f_d_choices := F_d_choices
  have m_ch : mg "choices" = some (.ref (He.ga K "choices")) := He.glo_ok X G (c.fact 5 (f := (.glo "choices")) rfl)
  have g_choices : GOk Rw.prog w K mg base 7 "choices" ["some", "size"] spChU := gok_mk F_d_choices (okChU (ok_choices F_d_choices T m_ch)) (F_d_choices.bindsN (ps := ["some", "size"]) fun _ _ _ _ _ _ us hl => match us, hl with | [_, _], _ => rfl) m_ch
  obtain ⟨f_d_events_of, F_d_events_of⟩ := c.def_ 1 (d := d_events_of) rfl
  replace F_d_events_of : FunD K "events_of" "events_of" (defArgs s_events_of) (defBody s_events_of) (defScope s_events_of) [] [] (He.ga K "events_of") f_d_events_of := F_d_events_of
  have g_events_of : GOk Rw.prog w K mg base 1 "events_of" ["timetable", "word"] spEventsOf := gok_mk F_d_events_of (ok_events_of F_d_events_of T ) (F_d_events_of.bindsN (ps := ["timetable", "word"]) fun _ _ _ _ _ _ us hl => match us, hl with | [_, _], _ => rfl) (He.glo_ok X G (c.fact 1 (f := (.glo "events_of")) rfl))
  obtain ⟨f_d_looks, F_d_looks⟩ := c.def_ 2 (d := d_looks) rfl
  replace F_d_looks : FunD K "looks" "looks" (defArgs s_looks) (defBody s_looks) (defScope s_looks) [] [] (He.ga K "looks") f_d_looks := F_d_looks
  have g_looks : GOk Rw.prog w K mg base 2 "looks" ["timetable"] spLooks := gok_mk F_d_looks (ok_looks F_d_looks T g_events_of) (F_d_looks.bindsN (ps := ["timetable"]) fun _ _ _ _ _ _ us hl => match us, hl with | [_], _ => rfl) (He.glo_ok X G (c.fact 2 (f := (.glo "looks")) rfl))
  obtain ⟨f_d_adds, F_d_adds⟩ := c.def_ 3 (d := d_adds) rfl
  replace F_d_adds : FunD K "adds" "adds" (defArgs s_adds) (defBody s_adds) (defScope s_adds) [] [] (He.ga K "adds") f_d_adds := F_d_adds
  have g_adds : GOk Rw.prog w K mg base 2 "adds" ["timetable"] spAdds := gok_mk F_d_adds (ok_adds F_d_adds T g_events_of) (F_d_adds.bindsN (ps := ["timetable"]) fun _ _ _ _ _ _ us hl => match us, hl with | [_], _ => rfl) (He.glo_ok X G (c.fact 3 (f := (.glo "adds")) rfl))
  obtain ⟨f_d_check_look, F_d_check_look⟩ := c.def_ 17 (d := d_check_look) rfl
  replace F_d_check_look : FunD K "check_look" "check_look" (defArgs s_check_look) (defBody s_check_look) (defScope s_check_look) [] [] (He.ga K "check_look") f_d_check_look := F_d_check_look
  have g_check_look : GOk Rw.prog w K mg base 3 "check_look" ["timetable", "number"] spCheckLook := gok_mk F_d_check_look (ok_check_look F_d_check_look T g_looks) (F_d_check_look.bindsN (ps := ["timetable", "number"]) fun _ _ _ _ _ _ us hl => match us, hl with | [_, _], _ => rfl) (He.glo_ok X G (c.fact 4 (f := (.glo "check_look")) rfl))
  obtain ⟨f_d_check_people, F_d_check_people⟩ := c.def_ 28 (d := d_check_people) rfl
  replace F_d_check_people : FunD K "check_people" "check_people" (defArgs s_check_people) (defBody s_check_people) (defScope s_check_people) [] [] (He.ga K "check_people") f_d_check_people := F_d_check_people
  have g_check_people : GOk Rw.prog w K mg base 1 "check_people" ["timetable", "people"] spCheckPeople := gok_mk F_d_check_people (ok_check_people F_d_check_people T ) (F_d_check_people.bindsN (ps := ["timetable", "people"]) fun _ _ _ _ _ _ us hl => match us, hl with | [_, _], _ => rfl) (He.glo_ok X G (c.fact 6 (f := (.glo "check_people")) rfl))
  obtain ⟨f_d_check_wishes, F_d_check_wishes⟩ := c.def_ 29 (d := d_check_wishes) rfl
  replace F_d_check_wishes : FunD K "check_wishes" "check_wishes" (defArgs s_check_wishes) (defBody s_check_wishes) (defScope s_check_wishes) [] [] (He.ga K "check_wishes") f_d_check_wishes := F_d_check_wishes
  have g_check_wishes : GOk Rw.prog w K mg base 4 "check_wishes" ["timetable", "wishes"] spCheckWishes := gok_mk F_d_check_wishes (ok_check_wishes F_d_check_wishes T g_check_look g_check_people) (F_d_check_wishes.bindsN (ps := ["timetable", "wishes"]) fun _ _ _ _ _ _ us hl => match us, hl with | [_, _], _ => rfl) (He.glo_ok X G (c.fact 7 (f := (.glo "check_wishes")) rfl))
  obtain ⟨f_dB_many, F_dB_many⟩ := c.def_ 5 (d := dB_many) rfl
  replace F_dB_many : FunD K "many" "Bonds.many" (defArgs sB_many) (defBody sB_many) (defScope sB_many) [] [] (He.ma K (He.ga K "Bonds") "many") f_dB_many := F_dB_many
  have b_many : GB Rw.prog w K mg base 1 "many" ["self"] (spMany K) := ⟨⟨_, _, okB_many F_dB_many T , (F_dB_many.bindsN (ps := ["self"]) fun _ _ _ _ _ _ us hl => match us, hl with | [_], _ => rfl), .nil⟩, He.meth_ok (c.fact 79 (f := (.meth "Bonds" "many")) rfl)⟩
  obtain ⟨f_dB_is_alike, F_dB_is_alike⟩ := c.def_ 6 (d := dB_is_alike) rfl
  replace F_dB_is_alike : FunD K "is_alike" "Bonds.is_alike" (defArgs sB_is_alike) (defBody sB_is_alike) (defScope sB_is_alike) [] [] (He.ma K (He.ga K "Bonds") "is_alike") f_dB_is_alike := F_dB_is_alike
  have b_is_alike : GB Rw.prog w K mg base 1 "is_alike" ["self", "one", "other"] (spAlike K) := ⟨⟨_, _, okB_is_alike F_dB_is_alike T , (F_dB_is_alike.bindsN (ps := ["self", "one", "other"]) fun _ _ _ _ _ _ us hl => match us, hl with | [_, _, _], _ => rfl), .nil⟩, He.meth_ok (c.fact 80 (f := (.meth "Bonds" "is_alike")) rfl)⟩
  obtain ⟨f_dB_is_below, F_dB_is_below⟩ := c.def_ 7 (d := dB_is_below) rfl
  replace F_dB_is_below : FunD K "is_below" "Bonds.is_below" (defArgs sB_is_below) (defBody sB_is_below) (defScope sB_is_below) [] [] (He.ma K (He.ga K "Bonds") "is_below") f_dB_is_below := F_dB_is_below
  have b_is_below : GB Rw.prog w K mg base 1 "is_below" ["self", "one", "other"] (spBelow K) := ⟨⟨_, _, okB_is_below F_dB_is_below T , (F_dB_is_below.bindsN (ps := ["self", "one", "other"]) fun _ _ _ _ _ _ us hl => match us, hl with | [_, _, _], _ => rfl), .nil⟩, He.meth_ok (c.fact 81 (f := (.meth "Bonds" "is_below")) rfl)⟩
  obtain ⟨f_dB_has, F_dB_has⟩ := c.def_ 8 (d := dB_has) rfl
  replace F_dB_has : FunD K "has" "Bonds.has" (defArgs sB_has) (defBody sB_has) (defScope sB_has) [] [] (He.ma K (He.ga K "Bonds") "has") f_dB_has := F_dB_has
  have b_has : GB Rw.prog w K mg base 1 "has" ["self", "person"] (spHas K) := ⟨⟨_, _, okB_has F_dB_has T , (F_dB_has.bindsN (ps := ["self", "person"]) fun _ _ _ _ _ _ us hl => match us, hl with | [_, _], _ => rfl), .nil⟩, He.meth_ok (c.fact 82 (f := (.meth "Bonds" "has")) rfl)⟩
  obtain ⟨f_dB_bind, F_dB_bind⟩ := c.def_ 9 (d := dB_bind) rfl
  replace F_dB_bind : FunD K "bind" "Bonds.bind" (defArgs sB_bind) (defBody sB_bind) (defScope sB_bind) [.ref (He.dflAt ("Bonds", some "bind") 0 K)] [] (He.ma K (He.ga K "Bonds") "bind") f_dB_bind := F_dB_bind
  obtain ⟨ds_bind0, v_bind0, bi_bind0⟩ := F_dB_bind.binds1 (ps := ["self", "one", "other", "source"]) 4 1 (List.cons_ne_nil _ _) rfl fun _ _ _ _ _ _ _ us its h1 h2 => match us, its, h1, h2 with | [_, _, _, _], [_], _, _ => ⟨_, rfl, rfl⟩
  obtain ⟨ds_bind1, v_bind1, bi_bind1⟩ := F_dB_bind.binds1 (ps := ["self", "one", "other", "source"]) 3 0 (List.cons_ne_nil _ _) rfl fun _ _ _ _ _ _ _ us its h1 h2 => match us, its, h1, h2 with | [_, _, _], [_], _, _ => ⟨_, rfl, rfl⟩
  have o_bind := okB_bind (ds := []) (P := Rw.prog) (w := w) (base := base) F_dB_bind T b_is_alike
  have b_bind0 : MOk Rw.prog w K mg base 2 (cB K) "bind" ["self", "one", "other", "source"] [] (spBind K) := ⟨⟨_, _, o_bind, bi_bind0, v_bind0⟩, He.meth_ok (c.fact 83 (f := (.meth "Bonds" "bind")) rfl)⟩
  have b_bind1 : MOk Rw.prog w K mg base 2 (cB K) "bind" ["self", "one", "other", "source"] [.ref (He.dflAt ("Bonds", some "bind") 0 K)] (spBind K) := ⟨⟨_, _, o_bind, bi_bind1, v_bind1⟩, He.meth_ok (c.fact 83 (f := (.meth "Bonds" "bind")) rfl)⟩
  obtain ⟨f_dB_lower, F_dB_lower⟩ := c.def_ 10 (d := dB_lower) rfl
  replace F_dB_lower : FunD K "lower" "Bonds.lower" (defArgs sB_lower) (defBody sB_lower) (defScope sB_lower) [.ref (He.dflAt ("Bonds", some "lower") 0 K)] [] (He.ma K (He.ga K "Bonds") "lower") f_dB_lower := F_dB_lower
  obtain ⟨ds_lower0, v_lower0, bi_lower0⟩ := F_dB_lower.binds1 (ps := ["self", "one", "other", "source"]) 4 1 (List.cons_ne_nil _ _) rfl fun _ _ _ _ _ _ _ us its h1 h2 => match us, its, h1, h2 with | [_, _, _, _], [_], _, _ => ⟨_, rfl, rfl⟩
  obtain ⟨ds_lower1, v_lower1, bi_lower1⟩ := F_dB_lower.binds1 (ps := ["self", "one", "other", "source"]) 3 0 (List.cons_ne_nil _ _) rfl fun _ _ _ _ _ _ _ us its h1 h2 => match us, its, h1, h2 with | [_, _, _], [_], _, _ => ⟨_, rfl, rfl⟩
  have o_lower := okB_lower (P := Rw.prog) (w := w) (base := base) F_dB_lower T b_is_below
  have b_lower0 : MOk Rw.prog w K mg base 2 (cB K) "lower" ["self", "one", "other", "source"] [] (spLower K) := ⟨⟨_, _, o_lower, bi_lower0, v_lower0⟩, He.meth_ok (c.fact 84 (f := (.meth "Bonds" "lower")) rfl)⟩
  have b_lower1 : MOk Rw.prog w K mg base 2 (cB K) "lower" ["self", "one", "other", "source"] [.ref (He.dflAt ("Bonds", some "lower") 0 K)] (spLower K) := ⟨⟨_, _, o_lower, bi_lower1, v_lower1⟩, He.meth_ok (c.fact 84 (f := (.meth "Bonds" "lower")) rfl)⟩
  obtain ⟨f_dB_is_late, F_dB_is_late⟩ := c.def_ 14 (d := dB_is_late) rfl
  replace F_dB_is_late : FunD K "is_late" "Bonds.is_late" (defArgs sB_is_late) (defBody sB_is_late) (defScope sB_is_late) [] [] (He.ma K (He.ga K "Bonds") "is_late") f_dB_is_late := F_dB_is_late
  have b_is_late : GB Rw.prog w K mg base 1 "is_late" ["self", "one", "other"] (spLate K) := ⟨⟨_, _, okB_is_late F_dB_is_late T , (F_dB_is_late.bindsN (ps := ["self", "one", "other"]) fun _ _ _ _ _ _ us hl => match us, hl with | [_, _, _], _ => rfl), .nil⟩, He.meth_ok (c.fact 88 (f := (.meth "Bonds" "is_late")) rfl)⟩
  obtain ⟨f_dB_rules, F_dB_rules⟩ := c.def_ 16 (d := dB_rules) rfl
  replace F_dB_rules : FunD K "rules" "Bonds.rules" (defArgs sB_rules) (defBody sB_rules) (defScope sB_rules) [] [] (He.ma K (He.ga K "Bonds") "rules") f_dB_rules := F_dB_rules
  have b_rules : GB Rw.prog w K mg base 3 "rules" ["self", "one", "other"] (spRules K) := ⟨⟨_, _, okB_rules (dvs := []) (d1 := []) (d2 := []) F_dB_rules T b_many b_is_below b_is_alike b_bind0 b_lower0 b_is_late, (F_dB_rules.bindsN (ps := ["self", "one", "other"]) fun _ _ _ _ _ _ us hl => match us, hl with | [_, _, _], _ => rfl), .nil⟩, He.meth_ok (c.fact 90 (f := (.meth "Bonds" "rules")) rfl)⟩
  obtain ⟨f_dB_close, F_dB_close⟩ := c.def_ 15 (d := dB_close) rfl
  replace F_dB_close : FunD K "close" "Bonds.close" (defArgs sB_close) (defBody sB_close) (defScope sB_close) [] [] (He.ma K (He.ga K "Bonds") "close") f_dB_close := F_dB_close
  have b_close : GB Rw.prog w K mg base 4 "close" ["self"] (spClose K) := ⟨⟨_, _, okB_close F_dB_close T b_many b_rules, (F_dB_close.bindsN (ps := ["self"]) fun _ _ _ _ _ _ us hl => match us, hl with | [_], _ => rfl), .nil⟩, He.meth_ok (c.fact 89 (f := (.meth "Bonds" "close")) rfl)⟩
  obtain ⟨f_dB_looked, F_dB_looked⟩ := c.def_ 12 (d := dB_looked) rfl
  replace F_dB_looked : FunD K "looked" "Bonds.looked" (defArgs sB_looked) (defBody sB_looked) (defScope sB_looked) [] [] (He.ma K (He.ga K "Bonds") "looked") f_dB_looked := F_dB_looked
  have b_looked : GB Rw.prog w K mg base 3 "looked" ["self", "person", "number"] (spLooked K) := ⟨⟨_, _, okB_looked F_dB_looked T se_lower b_lower1, (F_dB_looked.bindsN (ps := ["self", "person", "number"]) fun _ _ _ _ _ _ us hl => match us, hl with | [_, _, _], _ => rfl), .nil⟩, He.meth_ok (c.fact 86 (f := (.meth "Bonds" "looked")) rfl)⟩
  obtain ⟨f_dB_compared, F_dB_compared⟩ := c.def_ 13 (d := dB_compared) rfl
  replace F_dB_compared : FunD K "compared" "Bonds.compared" (defArgs sB_compared) (defBody sB_compared) (defScope sB_compared) [] [] (He.ma K (He.ga K "Bonds") "compared") f_dB_compared := F_dB_compared
  have b_compared : GB Rw.prog w K mg base 3 "compared" ["self", "event"] (spCompared K) := ⟨⟨_, _, okB_compared F_dB_compared T se_bind b_bind1, (F_dB_compared.bindsN (ps := ["self", "event"]) fun _ _ _ _ _ _ us hl => match us, hl with | [_, _], _ => rfl), .nil⟩, He.meth_ok (c.fact 87 (f := (.meth "Bonds" "compared")) rfl)⟩
  obtain ⟨f_dB_go_through, F_dB_go_through⟩ := c.def_ 11 (d := dB_go_through) rfl
  replace F_dB_go_through : FunD K "go_through" "Bonds.go_through" (defArgs sB_go_through) (defBody sB_go_through) (defScope sB_go_through) [] [] (He.ma K (He.ga K "Bonds") "go_through") f_dB_go_through := F_dB_go_through
  have b_go_through : GB Rw.prog w K mg base 4 "go_through" ["self"] (spGo K) := ⟨⟨_, _, okB_go F_dB_go_through T b_looked b_compared, (F_dB_go_through.bindsN (ps := ["self"]) fun _ _ _ _ _ _ us hl => match us, hl with | [_], _ => rfl), .nil⟩, He.meth_ok (c.fact 85 (f := (.meth "Bonds" "go_through")) rfl)⟩
  obtain ⟨f_dB_init, F_dB_init⟩ := c.def_ 4 (d := dB_init) rfl
  replace F_dB_init : FunD K "__init__" "Bonds.__init__" (defArgs sB_init) (defBody sB_init) (defScope sB_init) [.ref (He.dflAt ("Bonds", some "__init__") 0 K), .ref (He.dflAt ("Bonds", some "__init__") 1 K)] [] (He.ma K (He.ga K "Bonds") "__init__") f_dB_init := F_dB_init
  have o_B := okB_init (P := Rw.prog) (w := w) (base := base) F_dB_init T se_bind g_looks g_adds b_go_through b_bind1 b_close
  obtain ⟨ds_B0, v_B0, bi_B0⟩ := F_dB_init.binds1 (ps := ["self", "timetable", "kind", "gone", "more"]) 5 2 (List.cons_ne_nil _ _) rfl fun _ _ _ _ _ _ _ us its h1 h2 => match us, its, h1, h2 with | [_, _, _, _, _], [_, _], _, _ => ⟨_, rfl, rfl⟩
  obtain ⟨ds_B2, v_B2, bi_B2⟩ := F_dB_init.binds1 (ps := ["self", "timetable", "kind", "gone", "more"]) 3 0 (List.cons_ne_nil _ _) rfl fun _ _ _ _ _ _ _ us its h1 h2 => match us, its, h1, h2 with | [_, _, _], [_, _], _, _ => ⟨_, rfl, rfl⟩
  have m_B : mg "Bonds" = some (.ref (He.ga K "Bonds")) := He.glo_ok X G (c.fact 30 (f := (.glo "Bonds")) rfl)
  have mk_B : Mk K (He.ga K "Bonds") (He.ma K (He.ga K "Bonds") "__init__") := He.mkr_ok (c.fact 71 (f := (.mkr "Bonds")) rfl)
  have k_B0 : MkOk Rw.prog w K mg base 5 "Bonds" ["self", "timetable", "kind", "gone", "more"] [] (spBInit K) := ⟨⟨_, _, _, mk_B, o_B, bi_B0, v_B0⟩, m_B⟩
  have k_B2 : MkOk Rw.prog w K mg base 5 "Bonds" ["self", "timetable", "kind", "gone", "more"] [.ref (He.dflAt ("Bonds", some "__init__") 0 K), .ref (He.dflAt ("Bonds", some "__init__") 1 K)] (spBInit K) := ⟨⟨_, _, _, mk_B, o_B, bi_B2, v_B2⟩, m_B⟩
  obtain ⟨f_dP_init, F_dP_init⟩ := c.def_ 19 (d := dP_init) rfl
  replace F_dP_init : FunD K "__init__" "Peeling.__init__" (defArgs sP_init) (defBody sP_init) (defScope sP_init) [.ref (He.dflAt ("Peeling", some "__init__") 0 K), .ref (He.dflAt ("Peeling", some "__init__") 1 K)] [] (He.ma K (He.ga K "Peeling") "__init__") f_dP_init := F_dP_init
  have o_P := okP_init (P := Rw.prog) (w := w) (base := base) F_dP_init T g_looks g_adds k_B0
  obtain ⟨ds_P, v_P, bi_P⟩ := F_dP_init.binds1 (ps := ["self", "timetable", "kind", "pairs", "alike"]) 5 2 (List.cons_ne_nil _ _) rfl fun _ _ _ _ _ _ _ us its h1 h2 => match us, its, h1, h2 with | [_, _, _, _, _], [_, _], _, _ => ⟨_, rfl, rfl⟩
  cases vals_nil v_P
  obtain ⟨f_dP_everything, F_dP_everything⟩ := c.def_ 20 (d := dP_everything) rfl
  replace F_dP_everything : FunD K "everything" "Peeling.everything" (defArgs sP_everything) (defBody sP_everything) (defScope sP_everything) [] [] (He.ma K (He.ga K "Keeping") "everything") f_dP_everything := F_dP_everything
  have k_everything : GP Rw.prog w K mg base 1 "everything" ["self"] (spEvery K) := ⟨⟨_, _, okP_everything F_dP_everything T , (F_dP_everything.bindsN (ps := ["self"]) fun _ _ _ _ _ _ us hl => match us, hl with | [_], _ => rfl), .nil⟩, He.meth_ok (c.fact 91 (f := (.meth "Keeping" "everything")) rfl)⟩
  obtain ⟨f_dP_last_add, F_dP_last_add⟩ := c.def_ 21 (d := dP_last_add) rfl
  replace F_dP_last_add : FunD K "last_add" "Peeling.last_add" (defArgs sP_last_add) (defBody sP_last_add) (defScope sP_last_add) [] [] (He.ma K (He.ga K "Keeping") "last_add") f_dP_last_add := F_dP_last_add
  have k_last_add : GP Rw.prog w K mg base 1 "last_add" ["self", "look"] (spLast K) := ⟨⟨_, _, okP_last F_dP_last_add T , (F_dP_last_add.bindsN (ps := ["self", "look"]) fun _ _ _ _ _ _ us hl => match us, hl with | [_, _], _ => rfl), .nil⟩, He.meth_ok (c.fact 92 (f := (.meth "Keeping" "last_add")) rfl)⟩
  obtain ⟨f_dP_stops, F_dP_stops⟩ := c.def_ 22 (d := dP_stops) rfl
  replace F_dP_stops : FunD K "stops" "Peeling.stops" (defArgs sP_stops) (defBody sP_stops) (defScope sP_stops) [] [] (He.ma K (He.ga K "Peeling") "stops") f_dP_stops := F_dP_stops
  have o_Ps := okP_stops (P := Rw.prog) (w := w) (base := base) F_dP_stops T b_is_below k_last_add
  have bi_Ps : Binds K f_dP_stops ["self", "look", "other"] [] := (F_dP_stops.bindsN (ps := ["self", "look", "other"]) fun _ _ _ _ _ _ us hl => match us, hl with | [_, _, _], _ => rfl)
  obtain ⟨f_Ks, F_Ks⟩ := funS_of (P := Rw.prog) (D := K43.cK K) e2 x2
  replace F_Ks : FunS Rw.prog K (K43.cK K) "stops" "Keeping.stops" (defArgs sK_stops) (defBody sK_stops) (defScope sK_stops) [] (He.ma K (He.ga K "Keeping") "stops") f_Ks := F_Ks
  have me_st : Meth K (K43.cK K) "stops" (He.ma K (K43.cK K) "stops") := He.meth_ok (c.fact 93 (f := (.meth "Keeping" "stops")) rfl)
  have k_stops : GP Rw.prog w K mg base 3 "stops" ["self", "look", "other"] (spStops K) := ⟨⟨_, _, okK_stops F_Ks T so_stops o_Ps bi_Ps, (F_Ks.bindsN (ps := ["self", "look", "other"]) fun _ _ _ _ _ _ _ us hl => match us, hl with | [_, _, _], _ => rfl), .nil⟩, me_st⟩
  obtain ⟨f_dP_is_first, F_dP_is_first⟩ := c.def_ 23 (d := dP_is_first) rfl
  replace F_dP_is_first : FunD K "is_first" "Peeling.is_first" (defArgs sP_is_first) (defBody sP_is_first) (defScope sP_is_first) [] [] (He.ma K (He.ga K "Keeping") "is_first") f_dP_is_first := F_dP_is_first
  have k_is_first : GP Rw.prog w K mg base 4 "is_first" ["self", "look", "part"] (spFirst K) := ⟨⟨_, _, okP_first F_dP_is_first T k_stops, (F_dP_is_first.bindsN (ps := ["self", "look", "part"]) fun _ _ _ _ _ _ us hl => match us, hl with | [_, _, _], _ => rfl), .nil⟩, He.meth_ok (c.fact 94 (f := (.meth "Keeping" "is_first")) rfl)⟩
  obtain ⟨f_dP_firsts, F_dP_firsts⟩ := c.def_ 25 (d := dP_firsts) rfl
  replace F_dP_firsts : FunD K "firsts" "Peeling.firsts" (defArgs sP_firsts) (defBody sP_firsts) (defScope sP_firsts) [] [] (He.ma K (He.ga K "Keeping") "firsts") f_dP_firsts := F_dP_firsts
  have k_firsts : GP Rw.prog w K mg base 5 "firsts" ["self", "part"] (spFirsts K) := ⟨⟨_, _, okP_firsts F_dP_firsts T k_is_first, (F_dP_firsts.bindsN (ps := ["self", "part"]) fun _ _ _ _ _ _ us hl => match us, hl with | [_, _], _ => rfl), .nil⟩, He.meth_ok (c.fact 96 (f := (.meth "Keeping" "firsts")) rfl)⟩
  obtain ⟨f_dP_parts, F_dP_parts⟩ := c.def_ 24 (d := dP_parts) rfl
  replace F_dP_parts : FunD K "parts" "Peeling.parts" (defArgs sP_parts) (defBody sP_parts) (defScope sP_parts) [] [] (He.ma K (He.ga K "Keeping") "parts") f_dP_parts := F_dP_parts
  have k_parts : GP Rw.prog w K mg base 2 "parts" ["self", "some"] (spParts K) := ⟨⟨_, _, okP_parts F_dP_parts T b_is_alike, (F_dP_parts.bindsN (ps := ["self", "some"]) fun _ _ _ _ _ _ us hl => match us, hl with | [_, _], _ => rfl), .nil⟩, He.meth_ok (c.fact 95 (f := (.meth "Keeping" "parts")) rfl)⟩
  obtain ⟨f_dP_stuck, F_dP_stuck⟩ := c.def_ 26 (d := dP_stuck) rfl
  replace F_dP_stuck : FunD K "stuck" "Peeling.stuck" (defArgs sP_stuck) (defBody sP_stuck) (defScope sP_stuck) [] [] (He.ma K (He.ga K "Keeping") "stuck") f_dP_stuck := F_dP_stuck
  have me_su : Meth K (K43.cK K) "stuck" (He.ma K (K43.cK K) "stuck") := He.meth_ok (c.fact 97 (f := (.meth "Keeping" "stuck")) rfl)
  have k_stuck : GP Rw.prog w K mg base 22 "stuck" ["self", "some"] (spStuck K 16) := ⟨⟨_, _, okP_stuck F_dP_stuck T me_su k_parts k_firsts 16, (F_dP_stuck.bindsN (ps := ["self", "some"]) fun _ _ _ _ _ _ us hl => match us, hl with | [_, _], _ => rfl), .nil⟩, me_su⟩
  obtain ⟨f_dK_is_fine, F_dK_is_fine⟩ := c.def_ 27 (d := dK_is_fine) rfl
  replace F_dK_is_fine : FunD K "is_fine" "Keeping.is_fine" (defArgs sK_is_fine) (defBody sK_is_fine) (defScope sK_is_fine) [] [] (He.ma K (He.ga K "Keeping") "is_fine") f_dK_is_fine := F_dK_is_fine
  have k_is_fine : GP Rw.prog w K mg base 23 "is_fine" ["self"] (spFine K) := ⟨⟨_, _, okK_fine F_dK_is_fine T k_everything k_stuck, (F_dK_is_fine.bindsN (ps := ["self"]) fun _ _ _ _ _ _ us hl => match us, hl with | [_], _ => rfl), .nil⟩, He.meth_ok (c.fact 98 (f := (.meth "Keeping" "is_fine")) rfl)⟩
  obtain ⟨f_Ki, F_Ki⟩ := funS_of (P := Rw.prog) (D := K43.cK K) e1 x1
  replace F_Ki : FunS Rw.prog K (K43.cK K) "__init__" "Keeping.__init__" (defArgs sK_init) (defBody sK_init) (defScope sK_init) [.bl false] (He.ma K (He.ga K "Keeping") "__init__") f_Ki := F_Ki
  have o_K := okK_init (dB := []) (w := w) (base := base) F_Ki T so_init o_P bi_P g_looks se_a se_b k_B2 b_has
  obtain ⟨ds_K0, v_K0, bi_K0⟩ := F_Ki.binds1 (ps := ["self", "timetable", "kind", "wishes", "is_chain"]) 5 1 (List.cons_ne_nil _ _) rfl fun _ _ _ _ _ _ _ _ us its h1 h2 => match us, its, h1, h2 with | [_, _, _, _, _], [_], _, _ => ⟨_, rfl, rfl⟩
  obtain ⟨ds_K1, v_K1, bi_K1⟩ := F_Ki.binds1 (ps := ["self", "timetable", "kind", "wishes", "is_chain"]) 4 0 (List.cons_ne_nil _ _) rfl fun _ _ _ _ _ _ _ _ us its h1 h2 => match us, its, h1, h2 with | [_, _, _, _], [_], _, _ => ⟨_, rfl, rfl⟩
  have m_K : mg "Keeping" = some (.ref (He.ga K "Keeping")) := He.glo_ok X G (c.fact 32 (f := (.glo "Keeping")) rfl)
  have mk_K : Mk K (He.ga K "Keeping") (He.ma K (He.ga K "Keeping") "__init__") := He.mkr_ok (c.fact 78 (f := (.mkr "Keeping")) rfl)
  have k_K0 : MkOk Rw.prog w K mg base 8 "Keeping" ["self", "timetable", "kind", "wishes", "is_chain"] [] (spKInit K) := ⟨⟨_, _, _, mk_K, o_K, bi_K0, v_K0⟩, m_K⟩
  have k_K1 : MkOk Rw.prog w K mg base 8 "Keeping" ["self", "timetable", "kind", "wishes", "is_chain"] [.bl false] (spKInit K) := ⟨⟨_, _, _, mk_K, o_K, bi_K1, v_K1⟩, m_K⟩
  obtain ⟨f_d_branch, F_d_branch⟩ := c.def_ 30 (d := d_branch) rfl
  replace F_d_branch : FunD K "branch" "branch" (defArgs s_branch) (defBody s_branch) (defScope s_branch) [] [] (He.ga K "branch") f_d_branch := F_d_branch
  have g_branch : GOk Rw.prog w K mg base 2 "branch" ["bonds", "number"] (spBranch K) := gok_mk F_d_branch (ok_branch F_d_branch T b_many b_is_below) (F_d_branch.bindsN (ps := ["bonds", "number"]) fun _ _ _ _ _ _ us hl => match us, hl with | [_, _], _ => rfl) (He.glo_ok X G (c.fact 8 (f := (.glo "branch")) rfl))
  obtain ⟨f_d_kept_people, F_d_kept_people⟩ := c.def_ 31 (d := d_kept_people) rfl
  replace F_d_kept_people : FunD K "kept_people" "kept_people" (defArgs s_kept_people) (defBody s_kept_people) (defScope s_kept_people) [] [] (He.ga K "kept_people") f_d_kept_people := F_d_kept_people
  have g_kept_people : GOk Rw.prog w K mg base 7 "kept_people" ["timetable", "kind", "number"] (spKeptP K) := gok_mk F_d_kept_people (ok_kept_people F_d_kept_people T se_a se_b k_B2 g_branch b_has) (F_d_kept_people.bindsN (ps := ["timetable", "kind", "number"]) fun _ _ _ _ _ _ us hl => match us, hl with | [_, _, _], _ => rfl) (He.glo_ok X G (c.fact 9 (f := (.glo "kept_people")) rfl))
  obtain ⟨f_d_kept_from, F_d_kept_from⟩ := c.def_ 32 (d := d_kept_from) rfl
  replace F_d_kept_from : FunD K "kept_from" "kept_from" (defArgs s_kept_from) (defBody s_kept_from) (defScope s_kept_from) [] [] (He.ga K "kept_from") f_d_kept_from := F_d_kept_from
  have g_kept_from : GOk Rw.prog w K mg base 8 "kept_from" ["timetable", "kind", "i"] (spKeptP K) := gok_mk F_d_kept_from (ok_kept_from F_d_kept_from T g_as_tab g_check_look g_kept_people) (F_d_kept_from.bindsN (ps := ["timetable", "kind", "i"]) fun _ _ _ _ _ _ us hl => match us, hl with | [_, _, _], _ => rfl) (He.glo_ok X G (c.fact 10 (f := (.glo "kept_from")) rfl))
  obtain ⟨f_d_known_at, F_d_known_at⟩ := c.def_ 33 (d := d_known_at) rfl
  replace F_d_known_at : FunD K "known_at" "known_at" (defArgs s_known_at) (defBody s_known_at) (defScope s_known_at) [] [] (He.ga K "known_at") f_d_known_at := F_d_known_at
  have g_known_at : GOk Rw.prog w K mg base 7 "known_at" ["timetable", "kind", "i", "person"] (spKnown K) := gok_mk F_d_known_at (ok_known F_d_known_at T se_a se_b g_as_tab g_check_look g_check_people k_B2 g_branch) (F_d_known_at.bindsN (ps := ["timetable", "kind", "i", "person"]) fun _ _ _ _ _ _ us hl => match us, hl with | [_, _, _, _], _ => rfl) (He.glo_ok X G (c.fact 11 (f := (.glo "known_at")) rfl))
  obtain ⟨f_d_way_of, F_d_way_of⟩ := c.def_ 34 (d := d_way_of) rfl
  replace F_d_way_of : FunD K "way_of" "way_of" (defArgs s_way_of) (defBody s_way_of) (defScope s_way_of) [] [] (He.ga K "way_of") f_d_way_of := F_d_way_of
  have g_way_of : GOk Rw.prog w K mg base 24 "way_of" ["timetable", "kind", "wishes"] spWay := gok_mk F_d_way_of (ok_way F_d_way_of T k_K1 k_K0 k_is_fine) (F_d_way_of.bindsN (ps := ["timetable", "kind", "wishes"]) fun _ _ _ _ _ _ us hl => match us, hl with | [_, _, _], _ => rfl) (He.glo_ok X G (c.fact 12 (f := (.glo "way_of")) rfl))
  obtain ⟨f_d_keep_way, F_d_keep_way⟩ := c.def_ 35 (d := d_keep_way) rfl
  replace F_d_keep_way : FunD K "keep_way" "keep_way" (defArgs s_keep_way) (defBody s_keep_way) (defScope s_keep_way) [] [] (He.ga K "keep_way") f_d_keep_way := F_d_keep_way
  have g_keep_way : GOk Rw.prog w K mg base 25 "keep_way" ["timetable", "kind", "i", "people"] spKeepWay := gok_mk F_d_keep_way (ok_keep_way F_d_keep_way T g_as_tab g_check_look g_check_people g_way_of) (F_d_keep_way.bindsN (ps := ["timetable", "kind", "i", "people"]) fun _ _ _ _ _ _ us hl => match us, hl with | [_, _, _, _], _ => rfl) (He.glo_ok X G (c.fact 13 (f := (.glo "keep_way")) rfl))
  obtain ⟨f_d_clash, F_d_clash⟩ := c.def_ 36 (d := d_clash) rfl
  replace F_d_clash : FunD K "clash" "clash" (defArgs s_clash) (defBody s_clash) (defScope s_clash) [] [] (He.ga K "clash") f_d_clash := F_d_clash
  have g_clash : GOk Rw.prog w K mg base 24 "clash" ["timetable", "kind", "wishes"] spClash := gok_mk F_d_clash (ok_clash F_d_clash T g_as_tab g_as_wish g_check_wishes g_choices k_K1 k_is_fine) (F_d_clash.bindsN (ps := ["timetable", "kind", "wishes"]) fun _ _ _ _ _ _ us hl => match us, hl with | [_, _, _], _ => rfl) (He.glo_ok X G (c.fact 14 (f := (.glo "clash")) rfl))
  obtain ⟨f_d_law_take, F_d_law_take⟩ := c.def_ 37 (d := d_law_take) rfl
  replace F_d_law_take : FunD K "_law_take" "_law_take" (defArgs s_law_take) (defBody s_law_take) (defScope s_law_take) [] [] (He.ga K "_law_take") f_d_law_take := F_d_law_take
  have g__law_take : GOk Rw.prog w K mg base 1 "_law_take" ["_law_box_here", "_law_below"] spTake := gok_mk F_d_law_take (ok_take F_d_law_take T ) (F_d_law_take.bindsN (ps := ["_law_box_here", "_law_below"]) fun _ _ _ _ _ _ us hl => match us, hl with | [_, _], _ => rfl) (He.glo_ok X G (c.fact 15 (f := (.glo "_law_take")) rfl))
  obtain ⟨f_d_law_event, F_d_law_event⟩ := c.def_ 38 (d := d_law_event) rfl
  replace F_d_law_event : FunD K "_law_event" "_law_event" (defArgs s_law_event) (defBody s_law_event) (defScope s_law_event) [] [] (He.ga K "_law_event") f_d_law_event := F_d_law_event
  have g__law_event : GOk Rw.prog w K mg base 2 "_law_event" ["_law_box_here", "_law_folk", "_law_words"] spEvent := gok_mk F_d_law_event (ok_event F_d_law_event T g__law_take) (F_d_law_event.bindsN (ps := ["_law_box_here", "_law_folk", "_law_words"]) fun _ _ _ _ _ _ us hl => match us, hl with | [_, _, _], _ => rfl) (He.glo_ok X G (c.fact 16 (f := (.glo "_law_event")) rfl))
  obtain ⟨f_d_law_table, F_d_law_table⟩ := c.def_ 39 (d := d_law_table) rfl
  replace F_d_law_table : FunD K "_law_table" "_law_table" (defArgs s_law_table) (defBody s_law_table) (defScope s_law_table) [] [] (He.ga K "_law_table") f_d_law_table := F_d_law_table
  have g__law_table : GOk Rw.prog w K mg base 3 "_law_table" ["_law_box_here", "_law_folk", "_law_laps", "_law_words", "_law_most"] spTable := gok_mk F_d_law_table (ok_table F_d_law_table T g__law_event) (F_d_law_table.bindsN (ps := ["_law_box_here", "_law_folk", "_law_laps", "_law_words", "_law_most"]) fun _ _ _ _ _ _ us hl => match us, hl with | [_, _, _, _, _], _ => rfl) (He.glo_ok X G (c.fact 17 (f := (.glo "_law_table")) rfl))
  obtain ⟨f_d_law_live, F_d_law_live⟩ := c.def_ 40 (d := d_law_live) rfl
  replace F_d_law_live : FunD K "_law_live" "_law_live" (defArgs s_law_live) (defBody s_law_live) (defScope s_law_live) [] [] (He.ga K "_law_live") f_d_law_live := F_d_law_live
  have g__law_live : GOk Rw.prog w K mg base 4 "_law_live" ["_law_box_here", "_law_folk", "_law_laps", "_law_most"] spLive := gok_mk F_d_law_live (ok_live F_d_law_live T g__law_take g__law_table) (F_d_law_live.bindsN (ps := ["_law_box_here", "_law_folk", "_law_laps", "_law_most"]) fun _ _ _ _ _ _ us hl => match us, hl with | [_, _, _, _], _ => rfl) (He.glo_ok X G (c.fact 18 (f := (.glo "_law_live")) rfl))
  obtain ⟨f_d_law_crossed, F_d_law_crossed⟩ := c.def_ 41 (d := d_law_crossed) rfl
  replace F_d_law_crossed : FunD K "_law_crossed" "_law_crossed" (defArgs s_law_crossed) (defBody s_law_crossed) (defScope s_law_crossed) [] [] (He.ga K "_law_crossed") f_d_law_crossed := F_d_law_crossed
  have g__law_crossed : GOk Rw.prog w K mg base 1 "_law_crossed" ["_law_some", "_law_more"] spCrossed := gok_mk F_d_law_crossed (ok_crossed F_d_law_crossed T ) (F_d_law_crossed.bindsN (ps := ["_law_some", "_law_more"]) fun _ _ _ _ _ _ us hl => match us, hl with | [_, _], _ => rfl) (He.glo_ok X G (c.fact 19 (f := (.glo "_law_crossed")) rfl))
  obtain ⟨f_d_law_passed, F_d_law_passed⟩ := c.def_ 42 (d := d_law_passed) rfl
  replace F_d_law_passed : FunD K "_law_passed" "_law_passed" (defArgs s_law_passed) (defBody s_law_passed) (defScope s_law_passed) [] [] (He.ga K "_law_passed") f_d_law_passed := F_d_law_passed
  have g__law_passed : GOk Rw.prog w K mg base 2 "_law_passed" ["_law_has", "_law_deed", "_law_sort_so"] spPassed := gok_mk F_d_law_passed (ok_passed F_d_law_passed T g__law_crossed) (F_d_law_passed.bindsN (ps := ["_law_has", "_law_deed", "_law_sort_so"]) fun _ _ _ _ _ _ us hl => match us, hl with | [_, _, _], _ => rfl) (He.glo_ok X G (c.fact 20 (f := (.glo "_law_passed")) rfl))
  obtain ⟨f_d_law_closed, F_d_law_closed⟩ := c.def_ 43 (d := d_law_closed) rfl
  replace F_d_law_closed : FunD K "_law_closed" "_law_closed" (defArgs s_law_closed) (defBody s_law_closed) (defScope s_law_closed) [] [] (He.ga K "_law_closed") f_d_law_closed := F_d_law_closed
  have g__law_closed : GOk Rw.prog w K mg base 1 "_law_closed" ["_law_web_here"] spClosed := gok_mk F_d_law_closed (ok_closed F_d_law_closed T ) (F_d_law_closed.bindsN (ps := ["_law_web_here"]) fun _ _ _ _ _ _ us hl => match us, hl with | [_], _ => rfl) (He.glo_ok X G (c.fact 21 (f := (.glo "_law_closed")) rfl))
  obtain ⟨f_d_law_web, F_d_law_web⟩ := c.def_ 44 (d := d_law_web) rfl
  replace F_d_law_web : FunD K "_law_web" "_law_web" (defArgs s_law_web) (defBody s_law_web) (defScope s_law_web) [] [] (He.ga K "_law_web") f_d_law_web := F_d_law_web
  have g__law_web : GOk Rw.prog w K mg base 3 "_law_web" ["_law_table_here", "_law_sort_so"] spWeb := gok_mk F_d_law_web (ok_web F_d_law_web T g__law_passed g__law_closed) (F_d_law_web.bindsN (ps := ["_law_table_here", "_law_sort_so"]) fun _ _ _ _ _ _ us hl => match us, hl with | [_, _], _ => rfl) (He.glo_ok X G (c.fact 22 (f := (.glo "_law_web")) rfl))
  obtain ⟨f_d_law_of, F_d_law_of⟩ := c.def_ 45 (d := d_law_of) rfl
  replace F_d_law_of : FunD K "_law_of" "_law_of" (defArgs s_law_of) (defBody s_law_of) (defScope s_law_of) [] [] (He.ga K "_law_of") f_d_law_of := F_d_law_of
  have g__law_of : GOk Rw.prog w K mg base 2 "_law_of" ["_law_box_here", "_law_some"] spOf := gok_mk F_d_law_of (ok_of F_d_law_of T g__law_take) (F_d_law_of.bindsN (ps := ["_law_box_here", "_law_some"]) fun _ _ _ _ _ _ us hl => match us, hl with | [_, _], _ => rfl) (He.glo_ok X G (c.fact 23 (f := (.glo "_law_of")) rfl))
  obtain ⟨f_d_law_draw_wants, F_d_law_draw_wants⟩ := c.def_ 46 (d := d_law_draw_wants) rfl
  replace F_d_law_draw_wants : FunD K "_law_draw_wants" "_law_draw_wants" (defArgs s_law_draw_wants) (defBody s_law_draw_wants) (defScope s_law_draw_wants) [] [] (He.ga K "_law_draw_wants") f_d_law_draw_wants := F_d_law_draw_wants
  have g__law_draw_wants : GOk Rw.prog w K mg base 3 "_law_draw_wants" ["_law_box_here", "_law_web_here", "_law_many"] spDraw := gok_mk F_d_law_draw_wants (ok_draw F_d_law_draw_wants T g__law_take g__law_of) (F_d_law_draw_wants.bindsN (ps := ["_law_box_here", "_law_web_here", "_law_many"]) fun _ _ _ _ _ _ us hl => match us, hl with | [_, _, _], _ => rfl) (He.glo_ok X G (c.fact 24 (f := (.glo "_law_draw_wants")) rfl))
  obtain ⟨f_d_law_box, F_d_law_box⟩ := c.def_ 47 (d := d_law_box) rfl
  replace F_d_law_box : FunD K "_law_box" "_law_box" (defArgs s_law_box) (defBody s_law_box) (defScope s_law_box) [] [] (He.ga K "_law_box") f_d_law_box := F_d_law_box
  have g__law_box : GOk Rw.prog w K mg base 1 "_law_box" ["_law_script", "_law_lap"] (spBox K) := gok_mk F_d_law_box (ok_box F_d_law_box T ) (F_d_law_box.bindsN (ps := ["_law_script", "_law_lap"]) fun _ _ _ _ _ _ us hl => match us, hl with | [_, _], _ => rfl) (He.glo_ok X G (c.fact 25 (f := (.glo "_law_box")) rfl))
  obtain ⟨f_d_law_state, F_d_law_state⟩ := c.def_ 48 (d := d_law_state) rfl
  replace F_d_law_state : FunD K "_law_state" "_law_state" (defArgs s_law_state) (defBody s_law_state) (defScope s_law_state) [] [] (He.ga K "_law_state") f_d_law_state := F_d_law_state
  have g__law_state : GOk Rw.prog w K mg base 26 "_law_state" ["_law_table_here", "_law_sort_so", "_law_many", "_law_wants_so"] spState := gok_mk F_d_law_state (ok_state F_d_law_state T g_kept_from g_known_at g_keep_way g_clash) (F_d_law_state.bindsN (ps := ["_law_table_here", "_law_sort_so", "_law_many", "_law_wants_so"]) fun _ _ _ _ _ _ us hl => match us, hl with | [_, _, _, _], _ => rfl) (He.glo_ok X G (c.fact 26 (f := (.glo "_law_state")) rfl))
  obtain ⟨f_d_law_less, F_d_law_less⟩ := c.def_ 49 (d := d_law_less) rfl
  replace F_d_law_less : FunD K "_law_less" "_law_less" (defArgs s_law_less) (defBody s_law_less) (defScope s_law_less) [] [] (He.ga K "_law_less") f_d_law_less := F_d_law_less
  have g__law_less : GOk Rw.prog w K mg base 1 "_law_less" ["_law_one", "_law_two"] spLess := gok_mk F_d_law_less (ok_less F_d_law_less T ) (F_d_law_less.bindsN (ps := ["_law_one", "_law_two"]) fun _ _ _ _ _ _ us hl => match us, hl with | [_, _], _ => rfl) (He.glo_ok X G (c.fact 27 (f := (.glo "_law_less")) rfl))
  obtain ⟨f_d_law_right, F_d_law_right⟩ := c.def_ 50 (d := d_law_right) rfl
  replace F_d_law_right : FunD K "_law_right" "_law_right" (defArgs s_law_right) (defBody s_law_right) (defScope s_law_right) [] [] (He.ga K "_law_right") f_d_law_right := F_d_law_right
  have g__law_right : GOk Rw.prog w K mg base 27 "_law_right" ["_law_box_here"] spRight := gok_mk F_d_law_right (ok_right F_d_law_right T g__law_take g__law_event g__law_live g__law_web g__law_draw_wants g__law_state g__law_less) (F_d_law_right.bindsN (ps := ["_law_box_here"]) fun _ _ _ _ _ _ us hl => match us, hl with | [_], _ => rfl) (He.glo_ok X G (c.fact 28 (f := (.glo "_law_right")) rfl))
  exact ok_law F_d_law T g__law_box g__law_right
end
end K43

-- K43End
set_option Elab.async false
set_option linter.all false
set_option maxRecDepth 100000
set_option maxHeartbeats 0
open PySem PySem.W PySem.Calls PyProof.Rows
theorem PySem.Challenge.cw_hiddenforks_k43_whole_what_comes_later_holds : PySem.Challenge.rw_hiddenforks_k43_whole_what_comes_later.Holds := by
  w_on; o_law
  refine HandSHeadRun.head_any (r := K43.Rw) (q := view K43.Rw.prog [53]) (H := K43.hk) (ob := K43.ob) (M := 4000) (loose := K43.looseL) (d := HandSHeadRun.topDef K43.Rw.prog 53) (kwd := []) K43.ob_eq
    (by kernel_rfl) (fun s => by kernel_rfl) K43.run (by kernel_rfl) (by kernel_rfl) (by kernel_rfl) (by rfl) (by first | assumption | decide +kernel) (by decide +kernel) ⟨rfl, rfl, rfl, rfl, rfl, by decide +kernel⟩ ?hw ?hc
  case hw => w_witness2
  case hc =>
    refine L2.walk_ofE (l := PySem.Challenge.rw_hiddenforks_k43_whole_what_comes_later) (n := 63) (k := 28) (x := "_law_script") (CX := L2.CX0) rfl (by decide) (by kernel_rfl) ⟨rfl, by decide, by decide⟩ ?F (fun _ _ _ _ z => z)
    intro w mg fa h Y G hmg0
    obtain ⟨K, KX, c⟩ := Y
    have hmg : mg ("law" : PySem.Str) = some (.ref fa) := by
      have e : (HandSHeadRun.topDef K43.Rw.prog 53).name = ("law" : PySem.Str) := by kernel_rfl
      rw [← e]
      exact hmg0
    obtain ⟨fd, hb, hF⟩ := K43.facts (w := w) KX G hmg c
    exact ⟨K, fd, K43.spLaw K, KX, hb, fun H a ns hl _ hS => ⟨a, ns, rfl, hS, by omega, fun _ _ => rfl⟩, hF⟩

