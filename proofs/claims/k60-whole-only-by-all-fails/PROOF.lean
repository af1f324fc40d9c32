import PyProof.Rows.All
import Wide.All
import OpenK.AllK
import Wide.FinOn
import HandS.ForMost
import HandS.Evl
import HandS.IsInst
import HandS.TupMul
import HandS.Zip
import HandS.TupAny
import HandS.Style
import HandS.DictComp
import HandS.Walk
import HandS.SetFor
import HandS.Wide
import HandS.Flow
import HandS.Codes
import PyProof.ListMulRoad
import PyProof.FactsAll.tuple_2
import KE.DataMinMax
import KE.GoesNew
import KE.GoesMore
import KE.GoesEnum
import PySem.Challenge.RW_comesback_k60_whole_only_by_all_fails
set_option Elab.async false
set_option linter.all false
set_option maxRecDepth 100000
namespace CB
set_option autoImplicit false

inductive Tr where
  | mk (sv : Int) (n : Nat) (any : Bool) (ps : List Tr)

abbrev S2 := List Int × List Int

def rep (att : S2 → Bool × S2) : Nat → S2 → Bool × S2
  | 0, s => (false, s)
  | n + 1, s => if (att s).1 = true then (true, (att s).2) else rep att n (att s).2

def attG (f : Nat → Bool) (sv : Int) (pr : S2 → Bool × S2) (s : S2) : Bool × S2 :=
  if (pr (s.1 ++ [sv], s.2)).1 = true then
    (!f (pr (s.1 ++ [sv], s.2)).2.2.length, ((pr (s.1 ++ [sv], s.2)).2.1, (pr (s.1 ++ [sv], s.2)).2.2 ++ [sv]))
  else (false, (pr (s.1 ++ [sv], s.2)).2)

mutual
def call (f : Nat → Bool) : Tr → S2 → Bool × S2
  | .mk sv n any ps, s => rep (attG f sv (parts f any (!any || ps.isEmpty) ps)) n s
def parts (f : Nat → Bool) (any e : Bool) : List Tr → S2 → Bool × S2
  | [], s => (e, s)
  | p :: r, s => if (call f p s).1 = any then (any, (call f p s).2) else parts f any e r (call f p s).2
end

def TrOk : Nat → Tr → Prop
  | 0, _ => False
  | d + 1, .mk sv n _ ps => 0 ≤ sv ∧ sv ≤ 3 ∧ 1 ≤ n ∧ n ≤ 3 ∧ ps.length ≤ 3 ∧ ∀ p ∈ ps, TrOk d p

mutual
def cc : Tr → Nat
  | .mk _ _ _ ps => 1 + ccs ps
def ccs : List Tr → Nat
  | [] => 0
  | p :: r => cc p + ccs r
end

def cnt (service : Option Int) (as : List Int) : Nat := match service with
  | none => as.length
  | some s => as.count s

theorem cnt_append (sv : Option Int) (a b : List Int) : cnt sv (a ++ b) = cnt sv a + cnt sv b := by
  cases sv with
  | none => simp [cnt]
  | some s => simp [cnt, List.count_append]
theorem cnt_nil (sv : Option Int) : cnt sv [] = 0 := by cases sv <;> simp [cnt]
def ownN (service : Option Int) (sv : Int) : Nat := if service = none ∨ service = some sv then 1 else 0
theorem cnt_one (service : Option Int) (sv : Int) : cnt service [sv] = ownN service sv := by
  cases service with
  | none => simp [cnt, ownN]
  | some s =>
    by_cases h : s = sv
    · simp [cnt, ownN, h]
    · have h' : ¬ sv = s := fun e => h e.symm
      simp [cnt, ownN, h, h']

/-! ### the numbers -/
inductive NT where
  | mk (a : Nat) (f : Option Nat) (ps : List NT)
def NT.a : NT → Nat | .mk a _ _ => a
def NT.f : NT → Option Nat | .mk _ f _ => f
def NT.ps : NT → List NT | .mk _ _ p => p
abbrev AF := Nat × Option Nat
def NT.af (x : NT) : AF := (x.a, x.f)

def pickN (p : AF) (g : Bool) : Option Nat := if g = true then some p.1 else p.2
def rowSum : List AF → List Bool → Option Nat
  | p :: ps, g :: gs => match pickN p g, rowSum ps gs with
    | some x, some y => some (x + y)
    | _, _ => none
  | _, _ => some 0
/-- which answers of the parts an attempt can have: any, what is told when all parts are through, the answers, how many parts, whether it comes to the decision -/
def Pat (any e : Bool) : List Bool → Nat → Bool → Prop
  | [], 0, c => c = e
  | [], _ + 1, _ => False
  | _ :: _, 0, _ => False
  | b :: r, m + 1, c => if b = any then r = [] ∧ c = any else Pat any e r m c

abbrev Rw := List Bool × Bool
def rowsOf (any : Bool) (m : Nat) : List Rw :=
  if any = false ∨ m = 0 then (List.replicate m true, true) :: (List.range m).map (fun a => (List.replicate a true ++ [false], false))
  else (List.range m).map (fun a => (List.replicate a false ++ [true], true)) ++ [(List.replicate m false, false)]

abbrev Row := Nat × List Bool × Bool
def endsOf (own : Nat) (any : Bool) (ps : List AF) : List Row :=
  (rowsOf any ps.length).filterMap (fun r => (rowSum ps r.1).map (fun x => (own + x, r.1, r.2)))

def maxN : List Nat → Nat
  | [] => 0
  | x :: r => max x (maxN r)
theorem le_maxN {x : Nat} : ∀ {l : List Nat}, x ∈ l → x ≤ maxN l
  | y :: r, h => by
    rcases List.mem_cons.mp h with e | h
    · rw [e]; exact Nat.le_max_left _ _
    · exact Nat.le_trans (le_maxN h) (Nat.le_max_right _ _)
theorem maxN_mem : ∀ {l : List Nat}, l ≠ [] → maxN l ∈ l
  | [x], _ => by simp [maxN]
  | x :: y :: r, _ => by
    have ih := maxN_mem (l := y :: r) (by simp)
    show max x (maxN (y :: r)) ∈ _
    rcases Nat.le_total x (maxN (y :: r)) with h | h
    · rw [Nat.max_eq_right h]; exact List.mem_cons_of_mem _ ih
    · rw [Nat.max_eq_left h]; exact List.mem_cons_self
def comeN (own : Nat) (any : Bool) (ps : List AF) : Nat := maxN (((endsOf own any ps).filter (·.2.2)).map (·.1))
def fallL (own : Nat) (any : Bool) (ps : List AF) (own_fails : Bool) : List Nat :=
  ((endsOf own any ps).filter (fun r => !r.2.2)).map (·.1) ++ (if own_fails = true then [comeN own any ps] else [])
def fallN (own : Nat) (any : Bool) (ps : List AF) (own_fails : Bool) : Option Nat :=
  if fallL own any ps own_fails = [] then none else some (maxN (fallL own any ps own_fails))

def repN (n : Nat) (c : Nat) : Option Nat → AF
  | none => (c, none)
  | some x => ((n - 1) * x + c, some (n * x))

section
variable (service : Option Int) (failing : List Int)
mutual
def nums : Tr → NT
  | .mk sv n any ps => 
    let q := numsL ps
    let r := repN n (comeN (ownN service sv) any (q.map NT.af)) (fallN (ownN service sv) any (q.map NT.af) (decide (sv ∈ failing)))
    .mk r.1 r.2 q
def numsL : List Tr → List NT
  | [] => []
  | p :: r => nums p :: numsL r
end
theorem numsL_map : ∀ ps : List Tr, numsL service failing ps = ps.map (nums service failing)
  | [] => rfl
  | p :: r => by rw [numsL, numsL_map r]; rfl
end

/-! ### rows and patterns -/
theorem pat_all_yes : ∀ (m : Nat) (e : Bool), Pat false e (List.replicate m true) m e
  | 0, e => rfl
  | m + 1, e => by
    show Pat false e (true :: List.replicate m true) (m + 1) e
    unfold Pat
    rw [if_neg (by decide)]
    exact pat_all_yes m e
theorem pat_all_no : ∀ (m : Nat) (e : Bool), Pat true e (List.replicate m false) m e
  | 0, e => rfl
  | m + 1, e => by
    show Pat true e (false :: List.replicate m false) (m + 1) e
    unfold Pat
    rw [if_neg (by decide)]
    exact pat_all_no m e
theorem pat_stop : ∀ (any e : Bool) (m a : Nat), a < m → Pat any e (List.replicate a (!any) ++ [any]) m any
  | any, e, 0, a, h => by omega
  | any, e, m + 1, 0, _ => by
    show Pat any e [any] (m + 1) any
    unfold Pat
    rw [if_pos rfl]
    exact ⟨rfl, rfl⟩
  | any, e, m + 1, a + 1, h => by
    show Pat any e ((!any) :: (List.replicate a (!any) ++ [any])) (m + 1) any
    unfold Pat
    rw [if_neg (by cases any <;> decide)]
    exact pat_stop any e m a (by omega)
theorem pat_of_row {any : Bool} {m : Nat} {r : Rw} (h : r ∈ rowsOf any m) : Pat any (!any || decide (m = 0)) r.1 m r.2 := by
  unfold rowsOf at h
  split at h
  · rename_i c
    rcases List.mem_cons.mp h with e | h
    · subst e
      rcases c with c | c
      · subst c; exact pat_all_yes m _
      · subst c
        show true = _
        simp
    · obtain ⟨a, ha, e⟩ := List.mem_map.mp h
      subst e
      rw [List.mem_range] at ha
      rcases c with c | c
      · subst c; exact pat_stop false _ m a ha
      · omega
  · rename_i c
    have ct : any = true := by cases any <;> simp_all
    have cm : ¬ m = 0 := fun z => c (.inr z)
    subst ct
    rcases List.mem_append.mp h with h | h
    · obtain ⟨a, ha, e⟩ := List.mem_map.mp h
      subst e
      rw [List.mem_range] at ha
      exact pat_stop true _ m a ha
    · have e := List.mem_singleton.mp h
      subst e
      have q := pat_all_no m (!true || decide (m = 0))
      have z : (!true || decide (m = 0)) = false := by simp [cm]
      rw [z] at q ⊢
      exact q
theorem pat_shape : ∀ (any e : Bool) (m : Nat) (as : List Bool) (c : Bool), Pat any e as m c → (as = List.replicate m (!any) ∧ c = e) ∨ (∃ a, a < m ∧ as = List.replicate a (!any) ++ [any] ∧ c = any)
  | any, e, 0, [], c, h => .inl ⟨rfl, h⟩
  | any, e, m + 1, [], c, h => h.elim
  | any, e, 0, _ :: _, c, h => h.elim
  | any, e, m + 1, b :: r, c, h => by
    unfold Pat at h
    split at h
    · rename_i eb
      obtain ⟨h1, h2⟩ := h
      subst eb h1
      exact .inr ⟨0, by omega, rfl, h2⟩
    · rename_i eb
      have eb' : b = !any := by cases b <;> cases any <;> simp_all
      subst eb'
      rcases pat_shape any e m r c h with ⟨h1, h2⟩ | ⟨a, ha, h1, h2⟩
      · exact .inl ⟨by rw [h1]; rfl, h2⟩
      · exact .inr ⟨a + 1, by omega, by rw [h1]; rfl, h2⟩
theorem row_of_pat {any : Bool} {m : Nat} {as : List Bool} {c : Bool} (h : Pat any (!any || decide (m = 0)) as m c) : (as, c) ∈ rowsOf any m := by
  unfold rowsOf
  rcases pat_shape _ _ _ _ _ h with ⟨h1, h2⟩ | ⟨a, ha, h1, h2⟩
  · subst h1 h2
    split
    · rename_i q
      rcases q with q | q
      · subst q; exact List.mem_cons_self
      · subst q; simp
    · rename_i q
      have ct : any = true := by cases any <;> simp_all
      have cm : ¬ m = 0 := fun z => q (.inr z)
      subst ct
      simp [cm]
  · subst h1 h2
    split
    · rename_i q
      have ct : c = false := by
        rcases q with q | q
        · exact q
        · omega
      subst ct
      refine List.mem_cons_of_mem _ (List.mem_map.mpr ⟨a, List.mem_range.mpr ha, rfl⟩)
    · rename_i q
      have ct : c = true := by cases c <;> simp_all
      subst ct
      exact List.mem_append_left _ (List.mem_map.mpr ⟨a, List.mem_range.mpr ha, rfl⟩)
theorem pat_len : ∀ (any e : Bool) (as : List Bool) (m : Nat) (c : Bool), Pat any e as m c → as.length ≤ m
  | any, e, [], m, c, h => Nat.zero_le _
  | any, e, _ :: _, 0, c, h => h.elim
  | any, e, b :: r, m + 1, c, h => by
    unfold Pat at h
    split at h
    · rw [h.1]; simp
    · exact Nat.succ_le_succ (pat_len any e r m c h)

theorem mem_ends {own : Nat} {any : Bool} {ps : List AF} {r : Row} : r ∈ endsOf own any ps ↔ ∃ x, (r.2.1, r.2.2) ∈ rowsOf any ps.length ∧ rowSum ps r.2.1 = some x ∧ r.1 = own + x := by
  unfold endsOf
  rw [List.mem_filterMap]
  constructor
  · rintro ⟨q, hq, e⟩
    cases h : rowSum ps q.1 with
    | none => rw [h] at e; cases e
    | some x =>
      rw [h] at e
      simp only [Option.map_some, Option.some.injEq] at e
      subst e
      exact ⟨x, hq, h, rfl⟩
  · rintro ⟨x, h1, h2, h3⟩
    refine ⟨_, h1, ?_⟩
    rw [h2]
    obtain ⟨a, b, c⟩ := r
    simp only at h3
    subst h3
    rfl

theorem rowSum_yes : ∀ (ps : List AF) (m : Nat), ∃ x, rowSum ps (List.replicate m true) = some x
  | [], m => by cases m <;> exact ⟨0, rfl⟩
  | p :: ps, 0 => ⟨0, rfl⟩
  | p :: ps, m + 1 => by
    obtain ⟨x, h⟩ := rowSum_yes ps m
    exact ⟨p.1 + x, by show (match pickN p true, rowSum ps (List.replicate m true) with | some x, some y => some (x + y) | _, _ => none) = _; rw [h]; rfl⟩
/-- one end comes to the decision -/
theorem come_some (own : Nat) (any : Bool) (ps : List AF) : ∃ r ∈ endsOf own any ps, r.2.2 = true := by
  cases any with
  | false =>
    obtain ⟨x, h⟩ := rowSum_yes ps ps.length
    exact ⟨(own + x, List.replicate ps.length true, true), mem_ends.mpr ⟨x, by simp [rowsOf], h, rfl⟩, rfl⟩
  | true =>
    cases ps with
    | nil => exact ⟨(own + 0, [], true), mem_ends.mpr ⟨0, by simp [rowsOf], rfl, rfl⟩, rfl⟩
    | cons p ps =>
      refine ⟨(own + (p.1 + 0), [true], true), mem_ends.mpr ⟨p.1 + 0, ?_, ?_, rfl⟩, rfl⟩
      · have q := row_of_pat (any := true) (m := (p :: ps).length) (as := [true]) (c := true) (by
          show Pat true _ [true] (ps.length + 1) true
          unfold Pat
          rw [if_pos rfl]
          exact ⟨rfl, rfl⟩)
        exact q
      · show (match pickN p true, rowSum ps [] with | some x, some y => some (x + y) | _, _ => none) = _
        cases ps <;> rfl

theorem comeN_le {own : Nat} {any : Bool} {ps : List AF} {r : Row} (h : r ∈ endsOf own any ps) (hd : r.2.2 = true) : r.1 ≤ comeN own any ps :=
  le_maxN (List.mem_map.mpr ⟨r, List.mem_filter.mpr ⟨h, hd⟩, rfl⟩)
theorem comeN_mem (own : Nat) (any : Bool) (ps : List AF) : ∃ r ∈ endsOf own any ps, r.2.2 = true ∧ r.1 = comeN own any ps := by
  obtain ⟨r, h1, h2⟩ := come_some own any ps
  have ne : ((endsOf own any ps).filter (·.2.2)).map (·.1) ≠ [] := by
    intro z
    have : r.1 ∈ ((endsOf own any ps).filter (·.2.2)).map (·.1) := List.mem_map.mpr ⟨r, List.mem_filter.mpr ⟨h1, h2⟩, rfl⟩
    rw [z] at this
    cases this
  obtain ⟨q, hq, e⟩ := List.mem_map.mp (maxN_mem ne)
  obtain ⟨q1, q2⟩ := List.mem_filter.mp hq
  exact ⟨q, q1, q2, e⟩
theorem fallN_of {own : Nat} {any : Bool} {ps : List AF} {ow : Bool} {x : Nat} (h : x ∈ fallL own any ps ow) : ∃ y, fallN own any ps ow = some y ∧ x ≤ y := by
  refine ⟨maxN (fallL own any ps ow), ?_, le_maxN h⟩
  unfold fallN
  rw [if_neg (fun z => by rw [z] at h; cases h)]
theorem fallL_row {own : Nat} {any : Bool} {ps : List AF} {ow : Bool} {r : Row} (h : r ∈ endsOf own any ps) (hd : r.2.2 = false) : r.1 ∈ fallL own any ps ow :=
  List.mem_append_left _ (List.mem_map.mpr ⟨r, List.mem_filter.mpr ⟨h, by simp [hd]⟩, rfl⟩)
theorem fallL_own {own : Nat} {any : Bool} {ps : List AF} : comeN own any ps ∈ fallL own any ps true :=
  List.mem_append_right _ (by simp)

/-! ### what a run adds -/
def Fine (f : Nat → Bool) (failing : List Int) (k : Nat) (dd : List Int) : Prop := ∀ (i : Nat) (x : Int), dd[i]? = some x → f (k + i) = true → x ∈ failing
theorem Fine.left {f : Nat → Bool} {failing : List Int} {k : Nat} {a b : List Int} (h : Fine f failing k (a ++ b)) : Fine f failing k a := fun i x e q =>
  h i x (by rw [List.getElem?_append_left (List.getElem?_eq_some_iff.mp e).1]; exact e) q
theorem Fine.right {f : Nat → Bool} {failing : List Int} {k : Nat} {a b : List Int} (h : Fine f failing k (a ++ b)) : Fine f failing (k + a.length) b := fun i x e q =>
  h (a.length + i) x (by rw [List.getElem?_append_right (by omega)]; rw [show a.length + i - a.length = i by omega]; exact e) (by rw [← Nat.add_assoc]; exact q)

section
variable {service : Option Int} {failing : List Int}
/-- at most so many asks where it answers, where it fails -/
def Bd (service : Option Int) (failing : List Int) (f : Nat → Bool) (n : AF) (g : S2 → Bool × S2) : Prop :=
  ∀ s, ∃ da dd, (g s).2.1 = s.1 ++ da ∧ (g s).2.2 = s.2 ++ dd ∧ (Fine f failing s.2.length dd → ∃ m, pickN n (g s).1 = some m ∧ cnt service da ≤ m)

theorem rep_ext {f : Nat → Bool} {c : Nat} {o : Option Nat} {g : S2 → Bool × S2} (h : Bd service failing f (c, o) g) : ∀ n s, ∃ da dd, (rep g n s).2.1 = s.1 ++ da ∧ (rep g n s).2.2 = s.2 ++ dd ∧
    (Fine f failing s.2.length dd → (1 ≤ n ∨ o ≠ none) → ((rep g n s).1 = true → cnt service da + (match o with | some x => x | none => 0) ≤ n * (match o with | some x => x | none => 0) + c) ∧ ((rep g n s).1 = false → ∃ x, o = some x ∧ cnt service da ≤ n * x))
  | 0, s => ⟨[], [], by simp [rep], by simp [rep], fun _ hn => by
    refine ⟨fun z => by simp [rep] at z, fun _ => ?_⟩
    cases o with
    | none => exact absurd rfl (hn.resolve_left (by omega))
    | some x => exact ⟨x, rfl, by rw [cnt_nil]; omega⟩⟩
  | n + 1, s => by
    obtain ⟨da, dd, h1, h2, h3⟩ := h s
    by_cases hg : (g s).1 = true
    · refine ⟨da, dd, ?_, ?_, fun hf _ => ?_⟩
      · unfold rep; rw [if_pos hg]; exact h1
      · unfold rep; rw [if_pos hg]; exact h2
      · obtain ⟨m, e, l⟩ := h3 hf
        rw [hg] at e
        simp only [pickN, if_true, Option.some.injEq] at e
        subst e
        have er : (rep g (n + 1) s).1 = true := by unfold rep; rw [if_pos hg]
        refine ⟨fun _ => ?_, fun z => by rw [er] at z; cases z⟩
        cases o with
        | none => simp only; omega
        | some x => simp only; rw [Nat.succ_mul]; omega
    · have hg' : (g s).1 = false := by cases q : (g s).1 <;> simp_all
      obtain ⟨da', dd', h1', h2', h3'⟩ := rep_ext h n (g s).2
      have er : rep g (n + 1) s = rep g n (g s).2 := by
        conv => lhs; unfold rep
        rw [if_neg hg]
      refine ⟨da ++ da', dd ++ dd', ?_, ?_, fun hf _ => ?_⟩
      · rw [er, h1', h1, List.append_assoc]
      · rw [er, h2', h2, List.append_assoc]
      · obtain ⟨m, e, l⟩ := h3 hf.left
        rw [hg'] at e
        simp only [pickN, Bool.false_eq_true, if_false] at e
        have hf2 := hf.right
        rw [← List.length_append, ← h2] at hf2
        obtain ⟨q1, q2⟩ := h3' hf2 (.inr (by rw [e]; simp))
        subst e
        rw [er]
        refine ⟨fun z => ?_, fun z => ?_⟩
        · have q := q1 z
          simp only at q ⊢
          rw [cnt_append, Nat.succ_mul]
          omega
        · obtain ⟨x, e, q⟩ := q2 z
          cases e
          exact ⟨m, rfl, by rw [cnt_append, Nat.succ_mul]; omega⟩
theorem rep_bd {f : Nat → Bool} {c : Nat} {o : Option Nat} {g : S2 → Bool × S2} (h : Bd service failing f (c, o) g) {n : Nat} (hn : 1 ≤ n) : Bd service failing f (repN n c o) (rep g n) := fun s => by
  obtain ⟨da, dd, h1, h2, h3⟩ := rep_ext h n s
  refine ⟨da, dd, h1, h2, fun hf => ?_⟩
  obtain ⟨q1, q2⟩ := h3 hf (.inl hn)
  cases hr : (rep g n s).1 with
  | true =>
    have q := q1 hr
    cases o with
    | none => exact ⟨c, rfl, by simpa using q⟩
    | some x =>
      refine ⟨(n - 1) * x + c, rfl, ?_⟩
      simp only at q
      obtain ⟨k, rfl⟩ : ∃ k, n = k + 1 := ⟨n - 1, by omega⟩
      rw [Nat.succ_mul] at q
      show cnt service da ≤ k * x + c
      omega
  | false =>
    obtain ⟨x, e, q⟩ := q2 hr
    subst e
    exact ⟨n * x, rfl, q⟩

/-- the parts: which answers they have, and at most so many asks -/
def BdP (service : Option Int) (failing : List Int) (f : Nat → Bool) (any e : Bool) (ps : List AF) (g : S2 → Bool × S2) : Prop :=
  ∀ s, ∃ da dd, (g s).2.1 = s.1 ++ da ∧ (g s).2.2 = s.2 ++ dd ∧ (Fine f failing s.2.length dd → ∃ as x, Pat any e as ps.length (g s).1 ∧ rowSum ps as = some x ∧ cnt service da ≤ x)
theorem att_bd {f : Nat → Bool} {any : Bool} {ps : List AF} {pr : S2 → Bool × S2} {sv : Int} (h : BdP service failing f any (!any || decide (ps.length = 0)) ps pr) :
    Bd service failing f (comeN (ownN service sv) any ps, fallN (ownN service sv) any ps (decide (sv ∈ failing))) (attG f sv pr) := fun s => by
  obtain ⟨da, dd, h1, h2, h3⟩ := h (s.1 ++ [sv], s.2)
  simp only at h1 h2 h3
  unfold attG
  by_cases hp : (pr (s.1 ++ [sv], s.2)).1 = true
  · rw [if_pos hp]
    refine ⟨[sv] ++ da, dd ++ [sv], by simp only; rw [h1, List.append_assoc], by simp only; rw [h2, List.append_assoc], fun hf => ?_⟩
    obtain ⟨as, x, q1, q2, q3⟩ := h3 hf.left
    rw [hp] at q1
    have hm : (ownN service sv + x, as, true) ∈ endsOf (ownN service sv) any ps := mem_ends.mpr ⟨x, row_of_pat q1, q2, rfl⟩
    have hc := comeN_le hm rfl
    simp only at hc
    have hx : cnt service ([sv] ++ da) ≤ comeN (ownN service sv) any ps := by rw [cnt_append, cnt_one]; omega
    simp only
    cases hfl : f (pr (s.1 ++ [sv], s.2)).2.2.length with
    | false => exact ⟨_, rfl, hx⟩
    | true =>
      have hin : sv ∈ failing := hf dd.length sv (by simp) (by rw [← List.length_append, ← h2]; exact hfl)
      rw [decide_eq_true hin]
      obtain ⟨y, e, l⟩ := fallN_of (fallL_own (own := ownN service sv) (any := any) (ps := ps))
      exact ⟨y, e, Nat.le_trans hx l⟩
  · have hp' : (pr (s.1 ++ [sv], s.2)).1 = false := by cases q : (pr (s.1 ++ [sv], s.2)).1 <;> simp_all
    rw [if_neg hp]
    refine ⟨[sv] ++ da, dd, by simp only; rw [h1, List.append_assoc], h2, fun hf => ?_⟩
    obtain ⟨as, x, q1, q2, q3⟩ := h3 hf
    rw [hp'] at q1
    have hm : (ownN service sv + x, as, false) ∈ endsOf (ownN service sv) any ps := mem_ends.mpr ⟨x, row_of_pat q1, q2, rfl⟩
    obtain ⟨y, e, l⟩ := fallN_of (fallL_row (ow := decide (sv ∈ failing)) hm rfl)
    exact ⟨y, e, by rw [cnt_append, cnt_one]; simp only at l; omega⟩
theorem parts_bd {f : Nat → Bool} {any e : Bool} : ∀ (ps : List Tr), (∀ p ∈ ps, Bd service failing f (nums service failing p).af (call f p)) → BdP service failing f any e ((numsL service failing ps).map NT.af) (parts f any e ps)
  | [], _ => fun s => ⟨[], [], by simp [parts], by simp [parts], fun _ => ⟨[], 0, rfl, rfl, by rw [cnt_nil]; exact Nat.le_refl _⟩⟩
  | p :: r, h => fun s => by
    obtain ⟨da, dd, h1, h2, h3⟩ := h p List.mem_cons_self s
    by_cases hc : (call f p s).1 = any
    · refine ⟨da, dd, by unfold parts; rw [if_pos hc]; exact h1, by unfold parts; rw [if_pos hc]; exact h2, fun hf => ?_⟩
      obtain ⟨m, e1, l⟩ := h3 hf
      refine ⟨[any], m + 0, ?_, ?_, l⟩
      · unfold parts
        rw [if_pos hc]
        show Pat any e [any] ((List.map NT.af (numsL service failing r)).length + 1) any
        unfold Pat
        rw [if_pos rfl]
        exact ⟨rfl, rfl⟩
      · rw [hc] at e1
        show (match pickN (nums service failing p).af any, rowSum _ [] with | some x, some y => some (x + y) | _, _ => none) = _
        rw [e1]
        cases (numsL service failing r).map NT.af <;> rfl
    · obtain ⟨da', dd', h1', h2', h3'⟩ := parts_bd r (fun q hq => h q (List.mem_cons_of_mem _ hq)) (any := any) (e := e) (call f p s).2
      have er : parts f any e (p :: r) s = parts f any e r (call f p s).2 := by
        conv => lhs; unfold parts
        rw [if_neg hc]
      refine ⟨da ++ da', dd ++ dd', by rw [er, h1', h1, List.append_assoc], by rw [er, h2', h2, List.append_assoc], fun hf => ?_⟩
      obtain ⟨m, e1, l⟩ := h3 hf.left
      have hf2 := hf.right
      rw [← List.length_append, ← h2] at hf2
      obtain ⟨as, x, q1, q2, q3⟩ := h3' hf2
      refine ⟨(call f p s).1 :: as, m + x, ?_, ?_, by rw [cnt_append]; omega⟩
      · rw [er]
        show Pat any e ((call f p s).1 :: as) ((List.map NT.af (numsL service failing r)).length + 1) _
        unfold Pat
        rw [if_neg hc]
        exact q1
      · show (match pickN (nums service failing p).af (call f p s).1, rowSum _ as with | some x, some y => some (x + y) | _, _ => none) = _
        rw [e1, q2]
theorem call_bd {f : Nat → Bool} : ∀ (d : Nat) (t : Tr), TrOk d t → Bd service failing f (nums service failing t).af (call f t)
  | d + 1, .mk sv n any ps, h => by
    obtain ⟨_, _, hn, _, _, hp⟩ := h
    have ih : ∀ p ∈ ps, Bd service failing f (nums service failing p).af (call f p) := fun p hm => call_bd d p (hp p hm)
    have hl : ((numsL service failing ps).map NT.af).length = ps.length := by rw [numsL_map]; simp
    have q := parts_bd (any := any) (e := !any || decide (((numsL service failing ps).map NT.af).length = 0)) ps ih
    have q2 := rep_bd (att_bd (sv := sv) q) hn
    have he : (!any || decide (((numsL service failing ps).map NT.af).length = 0)) = (!any || ps.isEmpty) := by rw [hl]; cases ps <;> simp
    rw [he] at q2
    intro s
    have e1 : call f (.mk sv n any ps) s = rep (attG f sv (parts f any (!any || ps.isEmpty) ps)) n s := by rw [call]
    have e2 : (nums service failing (.mk sv n any ps)).af = repN n (comeN (ownN service sv) any ((numsL service failing ps).map NT.af)) (fallN (ownN service sv) any ((numsL service failing ps).map NT.af) (decide (sv ∈ failing))) := by
      rw [nums]; rfl
    rw [e1, e2]
    exact q2 s

/-! ### so many asks can be had: decisions -/
def Agree (f : Nat → Bool) (k : Nat) (ds : List Bool) : Prop := ∀ (i : Nat) (b : Bool), ds[i]? = some b → f (k + i) = !b
theorem Agree.left {f : Nat → Bool} {k : Nat} {a b : List Bool} (h : Agree f k (a ++ b)) : Agree f k a := fun i x e =>
  h i x (by rw [List.getElem?_append_left (List.getElem?_eq_some_iff.mp e).1]; exact e)
theorem Agree.right {f : Nat → Bool} {k : Nat} {a b : List Bool} (h : Agree f k (a ++ b)) : Agree f (k + a.length) b := fun i x e => by
  rw [Nat.add_assoc]
  exact h (a.length + i) x (by rw [List.getElem?_append_right (by omega)]; rw [show a.length + i - a.length = i by omega]; exact e)
def Falls (failing : List Int) (ds : List Bool) (dd : List Int) : Prop := ∀ i : Nat, ds[i]? = some false → ∃ x, dd[i]? = some x ∧ x ∈ failing
theorem Falls.append {a b : List Bool} {x y : List Int} (h1 : Falls failing a x) (h2 : Falls failing b y) (hl : x.length = a.length) : Falls failing (a ++ b) (x ++ y) := fun i e => by
  by_cases hi : i < a.length
  · rw [List.getElem?_append_left hi] at e
    rw [List.getElem?_append_left (by omega)]
    exact h1 i e
  · rw [List.getElem?_append_right (by omega)] at e
    rw [List.getElem?_append_right (by omega), hl]
    exact h2 _ e
def Dec (service : Option Int) (failing : List Int) (g : (Nat → Bool) → S2 → Bool × S2) (ds : List Bool) (b : Bool) (N : Nat) : Prop :=
  ∀ f s, Agree f s.2.length ds → ∃ da dd, g f s = (b, (s.1 ++ da, s.2 ++ dd)) ∧ dd.length = ds.length ∧ Falls failing ds dd ∧ cnt service da = N
theorem dec_rep_no {g : (Nat → Bool) → S2 → Bool × S2} {d0 : List Bool} {x : Nat} (h0 : Dec service failing g d0 false x) : ∀ n, Dec service failing (fun f => rep (g f) n) (List.replicate n d0).flatten false (n * x)
  | 0 => fun f s _ => ⟨[], [], by simp [rep], rfl, fun i e => by simp at e, by rw [cnt_nil]; omega⟩
  | n + 1 => fun f s ha => by
    have ea : (List.replicate (n + 1) d0).flatten = d0 ++ (List.replicate n d0).flatten := by rw [List.replicate_succ, List.flatten_cons]
    rw [ea] at ha ⊢
    obtain ⟨da, dd, e, l, fl, c⟩ := h0 f s ha.left
    obtain ⟨da', dd', e', l', fl', c'⟩ := dec_rep_no h0 n f (s.1 ++ da, s.2 ++ dd) (by
      have q := ha.right
      simp only [List.length_append]
      rw [l]
      exact q)
    refine ⟨da ++ da', dd ++ dd', ?_, by rw [List.length_append, List.length_append, l, l'], fl.append fl' l, by rw [cnt_append, c, c', Nat.succ_mul]; omega⟩
    show rep (g f) (n + 1) s = _
    unfold rep
    rw [e, if_neg Bool.false_ne_true]
    simp only at e' ⊢
    rw [e', List.append_assoc, List.append_assoc]
theorem dec_rep_yes {g : (Nat → Bool) → S2 → Bool × S2} {d0 d1 : List Bool} {x c : Nat} (h0 : Dec service failing g d0 false x) (h1 : Dec service failing g d1 true c) : ∀ n, Dec service failing (fun f => rep (g f) (n + 1)) ((List.replicate n d0).flatten ++ d1) true (n * x + c)
  | 0 => fun f s ha => by
    obtain ⟨da, dd, e, l, fl, q⟩ := h1 f s (by simpa using ha)
    refine ⟨da, dd, ?_, by simpa using l, by simpa using fl, by simpa using q⟩
    show rep (g f) 1 s = _
    unfold rep
    rw [e, if_pos rfl]
  | n + 1 => fun f s ha => by
    have ea : (List.replicate (n + 1) d0).flatten ++ d1 = d0 ++ ((List.replicate n d0).flatten ++ d1) := by rw [List.replicate_succ, List.flatten_cons, List.append_assoc]
    rw [ea] at ha ⊢
    obtain ⟨da, dd, e, l, fl, c0⟩ := h0 f s ha.left
    obtain ⟨da', dd', e', l', fl', c'⟩ := dec_rep_yes h0 h1 n f (s.1 ++ da, s.2 ++ dd) (by
      have q := ha.right
      simp only [List.length_append]
      rw [l]
      exact q)
    refine ⟨da ++ da', dd ++ dd', ?_, by rw [List.length_append, List.length_append, l, l'], fl.append fl' l, by rw [cnt_append, c0, c', Nat.succ_mul]; omega⟩
    show rep (g f) (n + 1 + 1) s = _
    unfold rep
    rw [e, if_neg Bool.false_ne_true]
    simp only at e' ⊢
    rw [e', List.append_assoc, List.append_assoc]
theorem dec_rep_one {g : (Nat → Bool) → S2 → Bool × S2} {d1 : List Bool} {c : Nat} (h1 : Dec service failing g d1 true c) {n : Nat} (hn : 1 ≤ n) : Dec service failing (fun f => rep (g f) n) d1 true c := fun f s ha => by
  obtain ⟨k, rfl⟩ : ∃ k, n = k + 1 := ⟨n - 1, by omega⟩
  obtain ⟨da, dd, e, l, fl, q⟩ := h1 f s ha
  refine ⟨da, dd, ?_, l, fl, q⟩
  show rep (g f) (k + 1) s = _
  unfold rep
  rw [e, if_pos rfl]
/-- the parts' decisions, one list each -/
inductive DecL (service : Option Int) (failing : List Int) : List Tr → List Bool → List (List Bool) → Prop where
  | nil {ps : List Tr} : DecL service failing ps [] []
  | cons {p : Tr} {ps : List Tr} {b : Bool} {bs : List Bool} {ds : List Bool} {dss : List (List Bool)} {x : Nat} : pickN (nums service failing p).af b = some x → Dec service failing (fun f => call f p) ds b x → DecL service failing ps bs dss → DecL service failing (p :: ps) (b :: bs) (ds :: dss)
theorem dec_parts {any e : Bool} : ∀ (ps : List Tr) (bs : List Bool) (dss : List (List Bool)) (c : Bool), DecL service failing ps bs dss → Pat any e bs ps.length c → ∃ x, rowSum ((numsL service failing ps).map NT.af) bs = some x ∧
    Dec service failing (fun f => parts f any e ps) dss.flatten c x
  | [], _, _, c, .nil, hp => ⟨0, rfl, fun f s _ => ⟨[], [], by
      have hc : c = e := hp
      simp [parts, hc], rfl, fun i z => by simp at z, by rw [cnt_nil]⟩⟩
  | p :: ps, _, _, c, .nil, hp => hp.elim
  | p :: ps, _, _, c, .cons (b := b) (bs := bs) (ds := ds) (dss := dss) (x := x) hx hd hl, hp => by
    have hp0 : if b = any then bs = [] ∧ c = any else Pat any e bs ps.length c := hp
    by_cases hb : b = any
    · have hp' : bs = [] ∧ c = any := by
        rw [if_pos hb] at hp0
        exact hp0
      obtain ⟨rfl, rfl⟩ := hp'
      cases hl
      refine ⟨x + 0, ?_, fun f s ha => ?_⟩
      · show (match pickN (nums service failing p).af b, rowSum _ [] with | some x, some y => some (x + y) | _, _ => none) = _
        rw [hx]
        cases (numsL service failing ps).map NT.af <;> rfl
      · rw [List.flatten_singleton] at ha ⊢
        obtain ⟨da, dd, e1, l, fl, q⟩ := hd f s ha
        refine ⟨da, dd, ?_, l, fl, q⟩
        simp only at e1 ⊢
        unfold parts
        rw [e1, if_pos hb]
    · have hp' : Pat any e bs ps.length c := by
        rw [if_neg hb] at hp0
        exact hp0
      obtain ⟨y, hy, hd2⟩ := dec_parts ps bs dss c hl hp'
      refine ⟨x + y, ?_, fun f s ha => ?_⟩
      · show (match pickN (nums service failing p).af b, rowSum _ bs with | some x, some y => some (x + y) | _, _ => none) = _
        rw [hx, hy]
      · rw [List.flatten_cons] at ha ⊢
        obtain ⟨da, dd, e1, l, fl, q⟩ := hd f s ha.left
        obtain ⟨da', dd', e1', l', fl', q'⟩ := hd2 f (s.1 ++ da, s.2 ++ dd) (by
          have z := ha.right
          simp only [List.length_append]
          rw [l]
          exact z)
        refine ⟨da ++ da', dd ++ dd', ?_, by rw [List.length_append, List.length_append, l, l'], fl.append fl' l, by rw [cnt_append, q, q']⟩
        simp only at e1 e1' ⊢
        unfold parts
        rw [e1, if_neg hb]
        simp only
        rw [e1', List.append_assoc, List.append_assoc]
theorem dec_att_come {sv : Int} {pr : (Nat → Bool) → S2 → Bool × S2} {ds : List Bool} {x : Nat} {g : Bool} (h : Dec service failing pr ds true x) (hg : g = true ∨ sv ∈ failing) : Dec service failing (fun f => attG f sv (pr f)) (ds ++ [g]) g (ownN service sv + x) := fun f s ha => by
  obtain ⟨da, dd, e, l, fl, q⟩ := h f (s.1 ++ [sv], s.2) ha.left
  have hfl : f (s.2 ++ dd).length = !g := by
    have z := ha.right 0 g (by simp)
    rw [List.length_append, l]
    exact z
  refine ⟨[sv] ++ da, dd ++ [sv], ?_, by simp [l], fl.append (fun i z => ?_) l, by rw [cnt_append, cnt_one, q]⟩
  · show attG f sv (pr f) s = _
    unfold attG
    rw [e, if_pos rfl]
    simp only
    rw [hfl, Bool.not_not, List.append_assoc, List.append_assoc]
  · cases i with
    | zero =>
      refine ⟨sv, rfl, ?_⟩
      simp only [List.getElem?_cons_zero, Option.some.injEq] at z
      rcases hg with hg | hg
      · rw [hg] at z; cases z
      · exact hg
    | succ i => simp at z
theorem dec_att_fall {sv : Int} {pr : (Nat → Bool) → S2 → Bool × S2} {ds : List Bool} {x : Nat} (h : Dec service failing pr ds false x) : Dec service failing (fun f => attG f sv (pr f)) ds false (ownN service sv + x) := fun f s ha => by
  obtain ⟨da, dd, e, l, fl, q⟩ := h f (s.1 ++ [sv], s.2) ha
  refine ⟨[sv] ++ da, dd, ?_, l, fl, by rw [cnt_append, cnt_one, q]⟩
  show attG f sv (pr f) s = _
  unfold attG
  rw [e, if_neg Bool.false_ne_true]
  simp only
  rw [List.append_assoc]
end
end CB
namespace CB
set_option autoImplicit false
/-! ### what was decided first does not lean on what is said of later decisions -/
def Ext (g : S2 → Bool × S2) : Prop := ∀ s, s.2 <+: (g s).2.2
def Div (N : Nat) (s s' : S2) : Prop := N < s.2.length ∧ N < s'.2.length ∧ s.2.take (N + 1) = s'.2.take (N + 1)
theorem take_pre {N : Nat} {a b : List Int} (h : a <+: b) (hl : N < a.length) : b.take (N + 1) = a.take (N + 1) := by
  obtain ⟨c, rfl⟩ := h
  rw [List.take_append_of_le_length (by omega)]
theorem Div.ext {N : Nat} {s s' u u' : S2} (h : Div N s s') (e : s.2 <+: u.2) (e' : s'.2 <+: u'.2) : Div N u u' :=
  ⟨Nat.lt_of_lt_of_le h.1 e.length_le, Nat.lt_of_lt_of_le h.2.1 e'.length_le, by rw [take_pre e h.1, take_pre e' h.2.1]; exact h.2.2⟩
def Eqv (N : Nat) (r r' : Bool × S2) : Prop := (r = r' ∧ r.2.2.length ≤ N) ∨ Div N r.2 r'.2
def Cau (N : Nat) (g g' : S2 → Bool × S2) : Prop := ∀ s, s.2.length ≤ N → Eqv N (g s) (g' s)
theorem ext_rep {g : S2 → Bool × S2} (h : Ext g) : ∀ n, Ext (rep g n)
  | 0 => fun s => by unfold rep; exact List.prefix_refl _
  | n + 1 => fun s => by
    unfold rep
    split
    · exact h s
    · exact (h s).trans (ext_rep h n _)
theorem rep_from {g : S2 → Bool × S2} (h : Ext g) (n : Nat) (s : S2) : (g s).2.2 <+: (rep g (n + 1) s).2.2 := by
  unfold rep
  split
  · exact List.prefix_refl _
  · exact ext_rep h n _
theorem cau_rep {N : Nat} {g g' : S2 → Bool × S2} (c : Cau N g g') (h : Ext g) (h' : Ext g') : ∀ n, Cau N (rep g n) (rep g' n)
  | 0 => fun s hs => .inl ⟨by simp [rep], by simpa [rep] using hs⟩
  | n + 1 => fun s hs => by
    rcases c s hs with ⟨e, l⟩ | d
    · unfold rep
      rw [← e]
      by_cases q : (g s).1 = true
      · rw [if_pos q, if_pos q]; exact .inl ⟨rfl, l⟩
      · rw [if_neg q, if_neg q]; exact cau_rep c h h' n _ l
    · exact .inr (d.ext (rep_from h n s) (rep_from h' n s))
theorem att_from {f : Nat → Bool} {sv : Int} {pr : S2 → Bool × S2} (s : S2) : (pr (s.1 ++ [sv], s.2)).2.2 <+: (attG f sv pr s).2.2 := by
  unfold attG
  split
  · exact List.prefix_append _ _
  · exact List.prefix_refl _
theorem ext_att {f : Nat → Bool} {sv : Int} {pr : S2 → Bool × S2} (h : Ext pr) : Ext (attG f sv pr) := fun s => (h (s.1 ++ [sv], s.2)).trans (att_from s)
theorem cau_att {N : Nat} {f f' : Nat → Bool} {sv : Int} {pr pr' : S2 → Bool × S2} (hf : ∀ n, n < N → f n = f' n) (c : Cau N pr pr') : Cau N (attG f sv pr) (attG f' sv pr') := fun s hs => by
  rcases c (s.1 ++ [sv], s.2) hs with ⟨e, l⟩ | d
  · unfold attG
    rw [← e]
    by_cases q : (pr (s.1 ++ [sv], s.2)).1 = true
    · rw [if_pos q, if_pos q]
      by_cases z : (pr (s.1 ++ [sv], s.2)).2.2.length < N
      · rw [hf _ z]
        exact .inl ⟨rfl, by simp only [List.length_append, List.length_singleton]; omega⟩
      · exact .inr ⟨by simp only [List.length_append, List.length_singleton]; omega, by simp only [List.length_append, List.length_singleton]; omega, rfl⟩
    · rw [if_neg q, if_neg q]; exact .inl ⟨rfl, l⟩
  · exact .inr (d.ext (att_from s) (att_from s))
theorem ext_parts {f : Nat → Bool} {any e : Bool} : ∀ ps : List Tr, (∀ p ∈ ps, Ext (call f p)) → Ext (parts f any e ps)
  | [], _ => fun s => by unfold parts; exact List.prefix_refl _
  | p :: r, h => fun s => by
    unfold parts
    split
    · exact h p List.mem_cons_self s
    · exact (h p List.mem_cons_self s).trans (ext_parts r (fun q hq => h q (List.mem_cons_of_mem _ hq)) _)
theorem parts_from {f : Nat → Bool} {any e : Bool} {p : Tr} {r : List Tr} (h : ∀ q ∈ r, Ext (call f q)) (s : S2) : (call f p s).2.2 <+: (parts f any e (p :: r) s).2.2 := by
  conv => rhs; unfold parts
  split
  · exact List.prefix_refl _
  · exact ext_parts r h _
theorem cau_parts {N : Nat} {f f' : Nat → Bool} {any e : Bool} : ∀ ps : List Tr, (∀ p ∈ ps, Ext (call f p)) → (∀ p ∈ ps, Ext (call f' p)) → (∀ p ∈ ps, Cau N (call f p) (call f' p)) → Cau N (parts f any e ps) (parts f' any e ps)
  | [], _, _, _ => fun s hs => .inl ⟨by simp [parts], by simpa [parts] using hs⟩
  | p :: r, h, h', c => fun s hs => by
    have hr : ∀ q ∈ r, Ext (call f q) := fun q hq => h q (List.mem_cons_of_mem _ hq)
    have hr' : ∀ q ∈ r, Ext (call f' q) := fun q hq => h' q (List.mem_cons_of_mem _ hq)
    rcases c p List.mem_cons_self s hs with ⟨e1, l⟩ | d
    · unfold parts
      rw [← e1]
      by_cases q : (call f p s).1 = any
      · rw [if_pos q, if_pos q]; exact .inl ⟨rfl, l⟩
      · rw [if_neg q, if_neg q]
        exact cau_parts r hr hr' (fun q hq => c q (List.mem_cons_of_mem _ hq)) _ l
    · exact .inr (d.ext (parts_from hr s) (parts_from hr' s))
theorem call_eq (f : Nat → Bool) (sv : Int) (n : Nat) (any : Bool) (ps : List Tr) (s : S2) : call f (.mk sv n any ps) s = rep (attG f sv (parts f any (!any || ps.isEmpty) ps)) n s := by rw [call]
theorem call_eq' (f : Nat → Bool) (sv : Int) (n : Nat) (any : Bool) (ps : List Tr) : call f (.mk sv n any ps) = rep (attG f sv (parts f any (!any || ps.isEmpty) ps)) n := funext fun s => call_eq f sv n any ps s
theorem ext_call {f : Nat → Bool} : ∀ (d : Nat) (t : Tr), TrOk d t → Ext (call f t)
  | d + 1, .mk sv n any ps, h => by
    obtain ⟨_, _, _, _, _, hp⟩ := h
    rw [call_eq']
    exact ext_rep (ext_att (ext_parts ps fun p hm => ext_call d p (hp p hm))) n
theorem cau_call {N : Nat} {f f' : Nat → Bool} (hf : ∀ n, n < N → f n = f' n) : ∀ (d : Nat) (t : Tr), TrOk d t → Cau N (call f t) (call f' t)
  | d + 1, .mk sv n any ps, h => by
    obtain ⟨_, _, _, _, _, hp⟩ := h
    rw [call_eq', call_eq']
    have h1 := fun p hm => ext_call (f := f) d p (hp p hm)
    have h2 := fun p hm => ext_call (f := f') d p (hp p hm)
    exact cau_rep (cau_att hf (cau_parts ps h1 h2 fun p hm => cau_call hf d p (hp p hm))) (ext_att (ext_parts ps h1)) (ext_att (ext_parts ps h2)) n

def fOf (x : List Int) : Nat → Bool := fun n => decide ((n : Int) ∈ x)
def runT (t : Tr) (x : List Int) : Bool × S2 := call (fOf x) t ([], [])
theorem run_cau {N : Nat} {x y : List Int} {d : Nat} {t : Tr} (ht : TrOk d t) (h : ∀ n : Nat, n < N → (((n : Int) ∈ x) ↔ ((n : Int) ∈ y))) {b : Nat} (hb : b ≤ N) : (runT t x).2.2[b]? = (runT t y).2.2[b]? := by
  have c := cau_call (N := N) (f := fOf x) (f' := fOf y) (fun n hn => by unfold fOf; rw [decide_eq_decide]; exact h n hn) d t ht ([], []) (Nat.zero_le _)
  rcases c with ⟨e, _⟩ | ⟨_, _, e⟩
  · unfold runT; rw [e]
  · have z := congrArg (fun l => l[b]?) e
    simp only [List.getElem?_take] at z
    rw [if_pos (by omega), if_pos (by omega)] at z
    exact z

/-! ### the sets of fails, one by one -/
def Valid (failing : List Int) (t : Tr) (x : List Int) : Prop := x.Pairwise (· < ·) ∧ ∀ a ∈ x, 0 ≤ a ∧ ∃ sv, (runT t x).2.2[a.toNat]? = some sv ∧ sv ∈ failing
def beginOf (x : List Int) : Nat := match x.getLast? with | none => 0 | some a => a.toNat + 1
def kids (failing : List Int) (x : List Int) (dd : List Int) : List (List Int) :=
  ((List.range (dd.length - beginOf x)).filter (fun i => decide (dd.getD (beginOf x + i) 0 ∈ failing))).map (fun i => x ++ [((beginOf x + i : Nat) : Int)])
def everyL (t : Tr) (failing : List Int) (most : Nat) : Nat → List (List Int × List Int) → List (List Int) → Option (List (List Int × List Int))
  | 0, _, _ => none
  | fuel + 1, F, L => match L.getLast? with
    | none => some F
    | some x => if most < F.length + 1 then none else everyL t failing most fuel (F ++ [((runT t x).2.1, x)]) (L.dropLast ++ kids failing x (runT t x).2.2)
def every (t : Tr) (failing : List Int) (most : Nat) : Option (List (List Int × List Int)) := everyL t failing most (most + 2) [] [[]]

section
variable {failing : List Int} {t : Tr} {d : Nat}
theorem snoc_mem {x : List Int} {a b : Int} (h : (x ++ [a]).Pairwise (· < ·)) (hb : b < a) : b ∈ x ++ [a] ↔ b ∈ x := by
  rw [List.mem_append, List.mem_singleton]
  constructor
  · rintro (q | q)
    · exact q
    · omega
  · exact .inl
theorem valid_snoc (ht : TrOk d t) {x : List Int} {a : Int} : Valid failing t (x ++ [a]) ↔ (x ++ [a]).Pairwise (· < ·) ∧ 0 ≤ a ∧ Valid failing t x ∧ ∃ sv, (runT t x).2.2[a.toNat]? = some sv ∧ sv ∈ failing := by
  have key : (x ++ [a]).Pairwise (· < ·) → 0 ≤ a → ∀ b : Nat, b ≤ a.toNat → (runT t (x ++ [a])).2.2[b]? = (runT t x).2.2[b]? := fun hp ha b hb =>
    run_cau (N := a.toNat) ht (fun n hn => snoc_mem hp (by omega)) hb
  constructor
  · rintro ⟨hp, h⟩
    have ha := (h a (by simp)).1
    refine ⟨hp, ha, ⟨(List.pairwise_append.mp hp).1, fun b hb => ?_⟩, ?_⟩
    · obtain ⟨h0, sv, e, hs⟩ := h b (by simp [hb])
      have hlt : b < a := (List.pairwise_append.mp hp).2.2 b hb a (by simp)
      rw [key hp ha b.toNat (by omega)] at e
      exact ⟨h0, sv, e, hs⟩
    · obtain ⟨_, sv, e, hs⟩ := h a (by simp)
      rw [key hp ha a.toNat (Nat.le_refl _)] at e
      exact ⟨sv, e, hs⟩
  · rintro ⟨hp, ha, ⟨_, h⟩, sv, e, hs⟩
    refine ⟨hp, fun b hb => ?_⟩
    rcases List.mem_append.mp hb with hb | hb
    · obtain ⟨h0, sv, e, hs⟩ := h b hb
      have hlt : b < a := (List.pairwise_append.mp hp).2.2 b hb a (by simp)
      exact ⟨h0, sv, by rw [key hp ha b.toNat (by omega)]; exact e, hs⟩
    · have hb' := List.mem_singleton.mp hb
      subst hb'
      exact ⟨ha, sv, by rw [key hp ha _ (Nat.le_refl _)]; exact e, hs⟩
theorem begin_snoc {x : List Int} (hp : x.Pairwise (· < ·)) (h0 : ∀ b ∈ x, 0 ≤ b) {a : Int} : ((x ++ [a]).Pairwise (· < ·) ∧ 0 ≤ a) ↔ (beginOf x : Int) ≤ a := by
  unfold beginOf
  cases h : x.getLast? with
  | none =>
    have e := List.getLast?_eq_none_iff.mp h
    subst e
    simp
  | some l =>
    have hl : l ∈ x := List.mem_of_getLast? h
    obtain ⟨y, rfl⟩ : ∃ y, x = y ++ [l] := by
      obtain ⟨y, e⟩ := List.getLast?_eq_some_iff.mp h
      exact ⟨y, e⟩
    have l0 := h0 l hl
    constructor
    · rintro ⟨q, qa⟩
      have := (List.pairwise_append.mp q).2.2 l hl a (by simp)
      simp only
      omega
    · intro q
      simp only at q
      refine ⟨List.pairwise_append.mpr ⟨hp, List.pairwise_singleton _ _, fun b hb c hc => ?_⟩, by omega⟩
      have hc' := List.mem_singleton.mp hc
      subst hc'
      rcases List.mem_append.mp hb with hb | hb
      · have := (List.pairwise_append.mp hp).2.2 b hb l (by simp)
        omega
      · have hb' := List.mem_singleton.mp hb
        omega
theorem mem_kids {x dd : List Int} {y : List Int} : y ∈ kids failing x dd ↔ ∃ a : Int, (beginOf x : Int) ≤ a ∧ y = x ++ [a] ∧ ∃ sv, dd[a.toNat]? = some sv ∧ sv ∈ failing := by
  unfold kids
  rw [List.mem_map]
  constructor
  · rintro ⟨i, hi, rfl⟩
    obtain ⟨h1, h2⟩ := List.mem_filter.mp hi
    rw [List.mem_range] at h1
    refine ⟨((beginOf x + i : Nat) : Int), by omega, rfl, dd.getD (beginOf x + i) 0, ?_, of_decide_eq_true h2⟩
    have hlt : beginOf x + i < dd.length := by omega
    rw [Int.toNat_natCast, List.getElem?_eq_getElem hlt, List.getD_eq_getElem?_getD, List.getElem?_eq_getElem hlt]
    rfl
  · rintro ⟨a, ha, rfl, sv, e, hs⟩
    have hlt := (List.getElem?_eq_some_iff.mp e).1
    refine ⟨a.toNat - beginOf x, List.mem_filter.mpr ⟨List.mem_range.mpr (by omega), ?_⟩, ?_⟩
    · rw [show beginOf x + (a.toNat - beginOf x) = a.toNat by omega, List.getD_eq_getElem?_getD, e]
      exact decide_eq_true hs
    · rw [show ((beginOf x + (a.toNat - beginOf x) : Nat) : Int) = a by omega]
theorem valid_kids (ht : TrOk d t) {x : List Int} (hx : Valid failing t x) (a : Int) : Valid failing t (x ++ [a]) ↔ x ++ [a] ∈ kids failing x (runT t x).2.2 := by
  rw [valid_snoc ht, mem_kids]
  have hb := begin_snoc hx.1 (fun b hb => (hx.2 b hb).1) (a := a)
  constructor
  · rintro ⟨h1, h2, _, h3⟩
    exact ⟨a, hb.mp ⟨h1, h2⟩, rfl, h3⟩
  · rintro ⟨a', h1, e, h3⟩
    have e' : a = a' := by simpa using e
    subst e'
    obtain ⟨q1, q2⟩ := hb.mpr h1
    exact ⟨q1, q2, hx, h3⟩
theorem valid_nil : Valid failing t [] := ⟨.nil, fun _ h => by cases h⟩
theorem everyL_ok (ht : TrOk d t) {most : Nat} : ∀ (fuel : Nat) (F : List (List Int × List Int)) (L : List (List Int)) (R : List (List Int × List Int)), everyL t failing most fuel F L = some R →
    (∀ p ∈ F, Valid failing t p.2) → (∀ x ∈ L, Valid failing t x) → ([] ∈ F.map (·.2) ++ L) → (∀ p ∈ F, ∀ a, Valid failing t (p.2 ++ [a]) → p.2 ++ [a] ∈ F.map (·.2) ++ L) →
    (∀ p ∈ R, Valid failing t p.2) ∧ ([] ∈ R.map (·.2)) ∧ (∀ p ∈ R, ∀ a, Valid failing t (p.2 ++ [a]) → p.2 ++ [a] ∈ R.map (·.2))
  | 0, F, L, R, h, _, _, _, _ => by simp [everyL] at h
  | fuel + 1, F, L, R, h, hF, hL, hn, hc => by
    unfold everyL at h
    cases hl : L.getLast? with
    | none =>
      rw [hl] at h
      have e := List.getLast?_eq_none_iff.mp hl
      subst e
      simp only [Option.some.injEq] at h
      subst h
      rw [List.append_nil] at hn
      refine ⟨hF, hn, fun p hp a hv => ?_⟩
      have q := hc p hp a hv
      rw [List.append_nil] at q
      exact q
    | some x =>
      rw [hl] at h
      simp only at h
      obtain ⟨y, rfl⟩ : ∃ y, L = y ++ [x] := List.getLast?_eq_some_iff.mp hl
      split at h
      · cases h
      · have hx := hL x (by simp)
        rw [List.dropLast_concat] at h
        have go : ∀ z, z ∈ F.map (·.2) ++ (y ++ [x]) → z ∈ (F ++ [((runT t x).2.1, x)]).map (·.2) ++ (y ++ kids failing x (runT t x).2.2) := fun z hz => by
          simp only [List.map_append, List.map_cons, List.map_nil, List.mem_append, List.mem_singleton] at hz ⊢
          rcases hz with hz | hz | hz
          · exact .inl (.inl hz)
          · exact .inr (.inl hz)
          · exact .inl (.inr hz)
        refine everyL_ok ht fuel _ _ R h (fun p hp => ?_) (fun z hz => ?_) (go _ hn) fun p hp a hv => ?_
        · rcases List.mem_append.mp hp with hp | hp
          · exact hF p hp
          · rw [List.mem_singleton.mp hp]; exact hx
        · rcases List.mem_append.mp hz with hz | hz
          · exact hL z (List.mem_append_left _ hz)
          · obtain ⟨a, _, rfl, _⟩ := mem_kids.mp hz
            exact (valid_kids ht hx a).mpr hz
        · rcases List.mem_append.mp hp with hp | hp
          · exact go _ (hc p hp a hv)
          · rw [List.mem_singleton.mp hp] at hv ⊢
            exact List.mem_append_right _ (List.mem_append_right _ ((valid_kids ht hx a).mp hv))
theorem every_ok (ht : TrOk d t) {most : Nat} {R : List (List Int × List Int)} (h : every t failing most = some R) : (∀ p ∈ R, Valid failing t p.2) ∧ ∀ x, Valid failing t x → ∃ p ∈ R, p.2 = x := by
  obtain ⟨h1, h2, h3⟩ := everyL_ok ht _ _ _ _ h (fun p hp => by cases hp) (fun x hx => by rw [List.mem_singleton.mp hx]; exact valid_nil) (by simp) (fun p hp => by cases hp)
  refine ⟨h1, fun x hx => ?_⟩
  have all : ∀ n (x : List Int), x.length = n → Valid failing t x → x ∈ R.map (·.2) := by
    intro n
    induction n with
    | zero =>
      intro x e hx
      rw [List.eq_nil_of_length_eq_zero e]
      exact h2
    | succ n ih =>
      intro x e hx
      have hne : x ≠ [] := fun z => by rw [z] at e; cases e
      obtain ⟨y, a, rfl⟩ : ∃ y a, x = y ++ [a] := ⟨x.dropLast, x.getLast hne, (List.dropLast_concat_getLast hne).symm⟩
      have hy := ((valid_snoc ht).mp hx).2.2.1
      obtain ⟨p, hp, e2⟩ := List.mem_map.mp (ih y (by simpa using e) hy)
      have q := h3 p hp a (by rw [e2]; exact hx)
      rw [e2] at q
      exact q
  obtain ⟨p, hp, e⟩ := List.mem_map.mp (all _ x rfl hx)
  exact ⟨p, hp, e⟩
end

/-! ### the greatest numbers are had -/
section
variable {service : Option Int} {failing : List Int}
theorem decL_of : ∀ (ps : List Tr) (bs : List Bool) (x : Nat), (∀ p ∈ ps, ∀ b N, pickN (nums service failing p).af b = some N → ∃ ds, Dec service failing (fun f => call f p) ds b N) → bs.length ≤ ps.length → rowSum ((numsL service failing ps).map NT.af) bs = some x → ∃ dss, DecL service failing ps bs dss
  | ps, [], _, _, _, _ => ⟨[], .nil⟩
  | [], b :: bs, _, _, h, _ => by simp at h
  | p :: ps, b :: bs, x, hd, hl, h => by
    have h' : (match pickN (nums service failing p).af b, rowSum ((numsL service failing ps).map NT.af) bs with | some x, some y => some (x + y) | _, _ => none) = some x := h
    cases h1 : pickN (nums service failing p).af b with
    | none => rw [h1] at h'; simp at h'
    | some u =>
      cases h2 : rowSum ((numsL service failing ps).map NT.af) bs with
      | none => rw [h1, h2] at h'; simp at h'
      | some v =>
        obtain ⟨ds, q⟩ := hd p List.mem_cons_self b u h1
        obtain ⟨dss, q2⟩ := decL_of ps bs v (fun p hp => hd p (List.mem_cons_of_mem _ hp)) (by simpa using hl) h2
        exact ⟨ds :: dss, .cons h1 q q2⟩
/-- an attempt's decisions, told by its row -/
theorem dec_row {sv : Int} {any : Bool} {ps : List Tr} {dss : List (List Bool)} {r : Row} {g : Bool} (hr : r ∈ endsOf (ownN service sv) any ((numsL service failing ps).map NT.af)) (hd : DecL service failing ps r.2.1 dss) (hg : r.2.2 = true → g = true ∨ sv ∈ failing) (hg0 : r.2.2 = false → g = false) :
    Dec service failing (fun f => attG f sv (parts f any (!any || ps.isEmpty) ps)) (dss.flatten ++ (if r.2.2 = true then [g] else [])) g r.1 := by
  obtain ⟨x, h1, h2, h3⟩ := mem_ends.mp hr
  have hl : ((numsL service failing ps).map NT.af).length = ps.length := by rw [numsL_map]; simp
  have hp := pat_of_row h1
  have he : (!any || decide (((numsL service failing ps).map NT.af).length = 0)) = (!any || ps.isEmpty) := by rw [hl]; cases ps <;> simp
  rw [he, hl] at hp
  obtain ⟨y, e, q⟩ := dec_parts (e := !any || ps.isEmpty) ps _ _ _ hd hp
  rw [h2] at e
  cases e
  rw [h3]
  cases hc : r.2.2 with
  | true =>
    rw [hc] at q
    exact dec_att_come q (hg hc)
  | false =>
    rw [hc] at q
    rw [hg0 hc]
    have z := dec_att_fall (sv := sv) q
    simpa using z
theorem nums_eq (sv : Int) (n : Nat) (any : Bool) (ps : List Tr) : nums service failing (.mk sv n any ps) =
    .mk (repN n (comeN (ownN service sv) any ((numsL service failing ps).map NT.af)) (fallN (ownN service sv) any ((numsL service failing ps).map NT.af) (decide (sv ∈ failing)))).1
      (repN n (comeN (ownN service sv) any ((numsL service failing ps).map NT.af)) (fallN (ownN service sv) any ((numsL service failing ps).map NT.af) (decide (sv ∈ failing)))).2 (numsL service failing ps) := by rw [nums]
theorem nums_af (sv : Int) (n : Nat) (any : Bool) (ps : List Tr) : (nums service failing (.mk sv n any ps)).af =
    repN n (comeN (ownN service sv) any ((numsL service failing ps).map NT.af)) (fallN (ownN service sv) any ((numsL service failing ps).map NT.af) (decide (sv ∈ failing))) := by rw [nums_eq]; rfl
/-- the failing end with most: a failing row, or the best row whose own decision fails -/
theorem fall_row {own : Nat} {any : Bool} {ps : List AF} {ow : Bool} {x : Nat} (h : fallN own any ps ow = some x) : ∃ r ∈ endsOf own any ps, r.1 = x ∧ (r.2.2 = true → ow = true) := by
  unfold fallN at h
  split at h
  · cases h
  · rename_i ne
    simp only [Option.some.injEq] at h
    have hm := maxN_mem ne
    rw [h] at hm
    unfold fallL at hm
    rcases List.mem_append.mp hm with q | q
    · obtain ⟨r, hr, e⟩ := List.mem_map.mp q
      obtain ⟨r1, r2⟩ := List.mem_filter.mp hr
      exact ⟨r, r1, e, fun z => by rw [z] at r2; simp at r2⟩
    · cases ow with
      | false => simp at q
      | true =>
        simp only [if_true, List.mem_singleton] at q
        obtain ⟨r, h1, h2, h3⟩ := comeN_mem own any ps
        exact ⟨r, h1, by rw [h3, q], fun _ => rfl⟩
theorem row_le {own : Nat} {any : Bool} {ps : List AF} {r : Row} (hr : r ∈ endsOf own any ps) : r.2.1.length ≤ ps.length := by
  obtain ⟨x, h1, _, _⟩ := mem_ends.mp hr
  exact pat_len _ _ _ _ _ (pat_of_row h1)
theorem dec_call_no {sv : Int} {n : Nat} {any : Bool} {ps : List Tr} {d0 : List Bool} {x : Nat} (h : Dec service failing (fun f => attG f sv (parts f any (!any || ps.isEmpty) ps)) d0 false x) : Dec service failing (fun f => call f (.mk sv n any ps)) (List.replicate n d0).flatten false (n * x) := by
  have q := dec_rep_no h n
  have e : (fun f => call f (.mk sv n any ps)) = fun f => rep (attG f sv (parts f any (!any || ps.isEmpty) ps)) n := funext fun f => call_eq' f sv n any ps
  rw [e]
  exact q
theorem dec_call_yes {sv : Int} {n : Nat} {any : Bool} {ps : List Tr} {d0 d1 : List Bool} {x c : Nat} (hn : 1 ≤ n) (h : Dec service failing (fun f => attG f sv (parts f any (!any || ps.isEmpty) ps)) d0 false x) (h1 : Dec service failing (fun f => attG f sv (parts f any (!any || ps.isEmpty) ps)) d1 true c) :
    Dec service failing (fun f => call f (.mk sv n any ps)) ((List.replicate (n - 1) d0).flatten ++ d1) true ((n - 1) * x + c) := by
  have q := dec_rep_yes h h1 (n - 1)
  rw [show n - 1 + 1 = n by omega] at q
  have e : (fun f => call f (.mk sv n any ps)) = fun f => rep (attG f sv (parts f any (!any || ps.isEmpty) ps)) n := funext fun f => call_eq' f sv n any ps
  rw [e]
  exact q
theorem dec_call_one {sv : Int} {n : Nat} {any : Bool} {ps : List Tr} {d1 : List Bool} {c : Nat} (hn : 1 ≤ n) (h1 : Dec service failing (fun f => attG f sv (parts f any (!any || ps.isEmpty) ps)) d1 true c) :
    Dec service failing (fun f => call f (.mk sv n any ps)) d1 true c := by
  have q := dec_rep_one h1 hn
  have e : (fun f => call f (.mk sv n any ps)) = fun f => rep (attG f sv (parts f any (!any || ps.isEmpty) ps)) n := funext fun f => call_eq' f sv n any ps
  rw [e]
  exact q
theorem dec_exists : ∀ (d : Nat) (t : Tr), TrOk d t → ∀ (b : Bool) (N : Nat), pickN (nums service failing t).af b = some N → ∃ ds, Dec service failing (fun f => call f t) ds b N
  | d + 1, .mk sv n any ps, h, b, N, hN => by
    obtain ⟨_, _, hn, _, _, hp⟩ := h
    have hl : ((numsL service failing ps).map NT.af).length = ps.length := by rw [numsL_map]; simp
    have ih : ∀ p ∈ ps, ∀ b N, pickN (nums service failing p).af b = some N → ∃ ds, Dec service failing (fun f => call f p) ds b N := fun p hm b N q => dec_exists d p (hp p hm) b N q
    have rowD : ∀ r ∈ endsOf (ownN service sv) any ((numsL service failing ps).map NT.af), ∃ dss, DecL service failing ps r.2.1 dss := fun r hr => by
      obtain ⟨x, _, h2, _⟩ := mem_ends.mp hr
      exact decL_of ps r.2.1 x ih (by rw [← hl]; exact row_le hr) h2
    rw [nums_af] at hN
    obtain ⟨rc, c1, c2, c3⟩ := comeN_mem (ownN service sv) any ((numsL service failing ps).map NT.af)
    obtain ⟨dc, qc⟩ := rowD rc c1
    have dcome := dec_row (g := true) c1 qc (fun _ => .inl rfl) (fun z => by rw [z] at c2; cases c2)
    cases hf : fallN (ownN service sv) any ((numsL service failing ps).map NT.af) (decide (sv ∈ failing)) with
    | none =>
      rw [hf] at hN
      cases b with
      | false => simp [repN, pickN] at hN
      | true =>
        simp only [repN, pickN, if_true, Option.some.injEq] at hN
        rw [← hN, ← c3]
        exact ⟨_, dec_call_one hn dcome⟩
    | some x =>
      rw [hf] at hN
      obtain ⟨rf, f1, f2, f3⟩ := fall_row hf
      obtain ⟨df, qf⟩ := rowD rf f1
      have dfall := dec_row (g := false) f1 qf (fun z => .inr (of_decide_eq_true (f3 z))) (fun _ => rfl)
      rw [f2] at dfall
      rw [c3] at dcome
      cases b with
      | false =>
        simp only [repN, pickN, Bool.false_eq_true, if_false, Option.some.injEq] at hN
        rw [← hN]
        exact ⟨_, dec_call_no dfall⟩
      | true =>
        simp only [repN, pickN, if_true, Option.some.injEq] at hN
        rw [← hN]
        exact ⟨_, dec_call_yes hn dfall dcome⟩

/-- the numbers of the decisions that fail -/
def idxF (ds : List Bool) : List Int := ((List.range ds.length).filter (fun i => !ds.getD i true)).map (fun i : Nat => (i : Int))
theorem mem_idxF {ds : List Bool} {a : Int} : a ∈ idxF ds ↔ 0 ≤ a ∧ ds[a.toNat]? = some false := by
  unfold idxF
  rw [List.mem_map]
  constructor
  · rintro ⟨i, hi, rfl⟩
    obtain ⟨h1, h2⟩ := List.mem_filter.mp hi
    rw [List.mem_range] at h1
    refine ⟨by omega, ?_⟩
    rw [List.getD_eq_getElem?_getD, List.getElem?_eq_getElem h1] at h2
    rw [Int.toNat_natCast, List.getElem?_eq_getElem h1]
    simpa using h2
  · rintro ⟨h0, h⟩
    have hlt := (List.getElem?_eq_some_iff.mp h).1
    refine ⟨a.toNat, List.mem_filter.mpr ⟨List.mem_range.mpr hlt, ?_⟩, by omega⟩
    rw [List.getD_eq_getElem?_getD, h]
    rfl
theorem idxF_pw (ds : List Bool) : (idxF ds).Pairwise (· < ·) := by
  unfold idxF
  rw [List.pairwise_map]
  refine List.Pairwise.imp (R := fun a b : Nat => a < b) (fun h => by omega) ?_
  exact List.Pairwise.filter _ List.pairwise_lt_range
theorem idxF_agree (ds : List Bool) : Agree (fOf (idxF ds)) 0 ds := fun i b h => by
  unfold fOf
  rw [Nat.zero_add]
  cases b with
  | true =>
    refine decide_eq_false fun z => ?_
    have q := (mem_idxF.mp z).2
    rw [Int.toNat_natCast, h] at q
    cases q
  | false =>
    exact decide_eq_true (mem_idxF.mpr ⟨by omega, by rw [Int.toNat_natCast]; exact h⟩)
/-- a run by the decisions -/
theorem run_dec {t : Tr} {ds : List Bool} {b : Bool} {N : Nat} (h : Dec service failing (fun f => call f t) ds b N) : (runT t (idxF ds)).1 = b ∧ cnt service (runT t (idxF ds)).2.1 = N ∧ Valid failing t (idxF ds) := by
  obtain ⟨da, dd, e, l, fl, q⟩ := h (fOf (idxF ds)) ([], []) (by rw [List.length_nil]; exact idxF_agree ds)
  have e' : runT t (idxF ds) = (b, ([] ++ da, [] ++ dd)) := e
  rw [List.nil_append, List.nil_append] at e'
  refine ⟨by rw [e'], by rw [e']; exact q, idxF_pw ds, fun a ha => ?_⟩
  obtain ⟨h0, h1⟩ := mem_idxF.mp ha
  obtain ⟨x, hx, hi⟩ := fl _ h1
  exact ⟨h0, x, by rw [e']; exact hx, hi⟩
theorem fine_valid {t : Tr} {x : List Int} (h : Valid failing t x) : Fine (fOf x) failing 0 (runT t x).2.2 := fun i v e q => by
  rw [Nat.zero_add] at q
  have hm : ((i : Nat) : Int) ∈ x := of_decide_eq_true q
  obtain ⟨_, sv, e2, hs⟩ := h.2 _ hm
  rw [Int.toNat_natCast, e] at e2
  cases e2
  exact hs
/-- a valid run asks no more -/
theorem run_le {d : Nat} {t : Tr} (ht : TrOk d t) {x : List Int} (h : Valid failing t x) : ∃ m, pickN (nums service failing t).af (runT t x).1 = some m ∧ cnt service (runT t x).2.1 ≤ m := by
  obtain ⟨da, dd, h1, h2, h3⟩ := call_bd (service := service) (failing := failing) (f := fOf x) d t ht ([], [])
  have e1 : (runT t x).2.1 = da := by show (call (fOf x) t ([], [])).2.1 = da; rw [h1, List.nil_append]
  have e2 : (runT t x).2.2 = dd := by show (call (fOf x) t ([], [])).2.2 = dd; rw [h2, List.nil_append]
  have q := h3 (by rw [← e2]; exact fine_valid h)
  rw [e1]
  exact q
theorem run_had {d : Nat} {t : Tr} (ht : TrOk d t) {b : Bool} {N : Nat} (h : pickN (nums service failing t).af b = some N) : ∃ x, Valid failing t x ∧ (runT t x).1 = b ∧ cnt service (runT t x).2.1 = N := by
  obtain ⟨ds, q⟩ := dec_exists d t ht b N h
  obtain ⟨h1, h2, h3⟩ := run_dec q
  exact ⟨_, h3, h1, h2⟩
/-- the greatest number of all -/
def isGood (n : NT) : Bool := match n.f with | none => true | some x => decide (x ≤ n.a)
def top (n : NT) : Nat := match n.f with | none => n.a | some x => if x ≤ n.a then n.a else x
theorem top_pick (n : NT) : pickN n.af (isGood n) = some (top n) := by
  unfold isGood top pickN NT.af
  cases n.f with
  | none => rfl
  | some x =>
    simp only
    by_cases h : x ≤ n.a
    · rw [decide_eq_true h, if_pos rfl, if_pos h]
    · rw [decide_eq_false h, if_neg Bool.false_ne_true, if_neg h]
theorem pick_le_top {n : NT} {b : Bool} {m : Nat} (h : pickN n.af b = some m) : m ≤ top n := by
  unfold pickN NT.af at h
  unfold top
  cases b with
  | true =>
    simp only [if_true, Option.some.injEq] at h
    subst h
    cases n.f with
    | none => exact Nat.le_refl _
    | some x =>
      simp only
      split
      · exact Nat.le_refl _
      · omega
  | false =>
    simp only [Bool.false_eq_true, if_false] at h
    rw [h]
    simp only
    split
    · assumption
    · exact Nat.le_refl _
theorem valid_more {failing' : List Int} {t : Tr} {x : List Int} (hs : ∀ a ∈ failing, a ∈ failing') (h : Valid failing t x) : Valid failing' t x :=
  ⟨h.1, fun a ha => by
    obtain ⟨h0, sv, e, q⟩ := h.2 a ha
    exact ⟨h0, sv, e, hs _ q⟩⟩
theorem top_mono {failing' : List Int} {d : Nat} {t : Tr} (ht : TrOk d t) (hs : ∀ a ∈ failing, a ∈ failing') : top (nums service failing t) ≤ top (nums service failing' t) := by
  obtain ⟨x, h1, h2, h3⟩ := run_had ht (top_pick (nums service failing t))
  obtain ⟨m, e, l⟩ := run_le (service := service) ht (valid_more hs h1)
  rw [h3] at l
  exact Nat.le_trans l (pick_le_top e)
end
/-! ### sizes -/
def wtd : Nat → Nat
  | 0 => 0
  | d + 1 => 3 * (1 + 3 * wtd d)
def Grow (w : Nat) (g : S2 → Bool × S2) : Prop := ∀ s, (g s).2.1.length ≤ s.1.length + w ∧ (g s).2.2.length ≤ s.2.length + w
theorem grow_rep {w : Nat} {g : S2 → Bool × S2} (h : Grow w g) : ∀ n, Grow (n * w) (rep g n)
  | 0 => fun s => by simp [rep]
  | n + 1 => fun s => by
    unfold rep
    have q := h s
    rw [Nat.succ_mul]
    split
    · simp only; omega
    · have q2 := grow_rep h n (g s).2
      omega
theorem grow_att {w : Nat} {f : Nat → Bool} {sv : Int} {pr : S2 → Bool × S2} (h : Grow w pr) : Grow (1 + w) (attG f sv pr) := fun s => by
  have q := h (s.1 ++ [sv], s.2)
  simp only [List.length_append, List.length_singleton] at q
  unfold attG
  split
  · simp only [List.length_append, List.length_singleton]; omega
  · simp only; omega
theorem grow_parts {w : Nat} {f : Nat → Bool} {any e : Bool} : ∀ ps : List Tr, (∀ p ∈ ps, Grow w (call f p)) → Grow (ps.length * w) (parts f any e ps)
  | [], _ => fun s => by simp [parts]
  | p :: r, h => fun s => by
    have q := h p List.mem_cons_self s
    unfold parts
    rw [List.length_cons, Nat.succ_mul]
    split
    · simp only; omega
    · have q2 := grow_parts (any := any) (e := e) r (fun q hq => h q (List.mem_cons_of_mem _ hq)) (call f p s).2
      omega
theorem grow_call {f : Nat → Bool} : ∀ (d : Nat) (t : Tr), TrOk d t → Grow (wtd d) (call f t)
  | d + 1, .mk sv n any ps, h => fun s => by
    obtain ⟨_, _, _, hn, hl, hp⟩ := h
    rw [call_eq]
    have q := grow_rep (grow_att (f := f) (sv := sv) (grow_parts (f := f) (any := any) (e := !any || ps.isEmpty) ps fun p hm => grow_call d p (hp p hm))) n s
    have m1 : ps.length * wtd d ≤ 3 * wtd d := Nat.mul_le_mul_right _ hl
    have m2 : n * (1 + ps.length * wtd d) ≤ 3 * (1 + 3 * wtd d) := Nat.mul_le_mul hn (by omega)
    show _ ≤ _ + 3 * (1 + 3 * wtd d) ∧ _ ≤ _ + 3 * (1 + 3 * wtd d)
    omega
theorem trok_mono : ∀ {d : Nat} {t : Tr}, TrOk d t → TrOk (d + 1) t
  | d + 1, .mk sv n any ps, h => by
    obtain ⟨h1, h2, h3, h4, h5, hp⟩ := h
    exact ⟨h1, h2, h3, h4, h5, fun p hm => trok_mono (hp p hm)⟩
/-! ### the fixed tree -/
def leafT (n : Nat) : Tr := .mk 1 n true []
def fixT (n : Nat) (any : Bool) : Tr := .mk 0 2 any [leafT n, .mk 2 1 false [leafT n]]
theorem fix_some (n : Nat) (h1 : 1 ≤ n) (h2 : n ≤ 2) (any : Bool) : (every (fixT n any) [1] 5000).isSome = true := by
  have h : n = 1 ∨ n = 2 := by omega
  rcases h with rfl | rfl <;> cases any <;> decide +kernel
theorem fix_ok (n : Nat) (h1 : 1 ≤ n) (h2 : n ≤ 2) (any : Bool) : TrOk 3 (fixT n any) := by
  unfold fixT leafT TrOk
  refine ⟨by decide, by decide, by decide, by decide, by simp, fun p hp => ?_⟩
  simp only [List.mem_cons, List.not_mem_nil, or_false] at hp
  rcases hp with rfl | rfl
  · refine ⟨by decide, by decide, h1, by omega, by simp, fun p hp => by simp at hp⟩
  · refine ⟨by decide, by decide, by decide, by decide, by simp, fun p hp => ?_⟩
    simp only [List.mem_cons, List.not_mem_nil, or_false] at hp
    subst hp
    exact ⟨by decide, by decide, h1, by omega, by simp, fun p hp => by simp at hp⟩
end CB

namespace CB
open PySem PySem.Spec PyProof.Rows L2 Evl

/-! ### the text by places -/
def topS (i : Nat) : Stmt := PySem.Challenge.pw_comesback_k60_whole_only_by_all_fails.main.body.getD i (.Pass ⟨0, 0, 0, 0⟩)

/-! ### what stays -/
mutual
theorem dp_ex {K : PySem.W.Frag} {H H' : Hp} (e : Ex H H') {v : V} {d : PyData} : Dp K H v d → Dp K H' v d
  | .non => .non
  | .bl b => .bl b
  | .int i => .int i
  | .str x => .str x
  | .lst h a => .lst (ex_l e h) (dpa_ex e a)
  | .tup h a => .tup (ex_t e h) (dpa_ex e a)
theorem dpa_ex {K : PySem.W.Frag} {H H' : Hp} (e : Ex H H') {vs : List V} {ds : List PyData} : DpAll K H vs ds → DpAll K H' vs ds
  | .nil => .nil
  | .cons h t => .cons (dp_ex e h) (dpa_ex e t)
end
section
variable {K : PySem.W.Frag} {H H' : Hp} {v : V} {vs : List V} {d : PyData} {ds : List PyData}
theorem dp_tup (h : Dp K H v (.tuple ds)) : ∃ a xs, v = .ref a ∧ SqT K H a xs ∧ DpAll K H xs ds := by
  cases h with
  | tup h a => exact ⟨_, _, rfl, h, a⟩
theorem dp_lst (h : Dp K H v (.list ds)) : ∃ a xs, v = .ref a ∧ SqL K H a xs ∧ DpAll K H xs ds := by
  cases h with
  | lst h a => exact ⟨_, _, rfl, h, a⟩
theorem dp_int {i : Int} (h : Dp K H v (.int i)) : v = .int i := by cases h; rfl
theorem dp_bl {i : Bool} (h : Dp K H v (.bool i)) : v = .bl i := by cases h; rfl
theorem dp_str {i : Str} (h : Dp K H v (.str i)) : v = .str i := by cases h; rfl
theorem dp_non (h : Dp K H v .none) : v = .non := by cases h; rfl
theorem dpa_nil (h : DpAll K H vs []) : vs = [] := by cases h; rfl
theorem dpa_cons (h : DpAll K H vs (d :: ds)) : ∃ x r, vs = x :: r ∧ Dp K H x d ∧ DpAll K H r ds := by
  cases h with
  | cons h t => exact ⟨_, _, rfl, h, t⟩
theorem dpa_len : ∀ {vs : List V} {ds : List PyData}, DpAll K H vs ds → vs.length = ds.length
  | _, _, .nil => rfl
  | _, _, .cons _ t => by rw [List.length_cons, List.length_cons, dpa_len t]
theorem dpa_get : ∀ {vs : List V} {ds : List PyData} {i : Nat} {x : V}, DpAll K H vs ds → vs[i]? = some x → ∃ d, ds[i]? = some d ∧ Dp K H x d
  | _, _, _, _, .nil, e => by simp at e
  | _, _, 0, _, .cons h _, e => by
    simp only [List.getElem?_cons_zero, Option.some.injEq] at e
    subst e
    exact ⟨_, rfl, h⟩
  | _, _, i + 1, _, .cons _ t, e => by
    obtain ⟨d, h1, h2⟩ := dpa_get (i := i) t (by simpa using e)
    exact ⟨d, by simpa using h1, h2⟩
theorem dpa_get' : ∀ {vs : List V} {ds : List PyData} {i : Nat} {d : PyData}, DpAll K H vs ds → ds[i]? = some d → ∃ x, vs[i]? = some x ∧ Dp K H x d
  | _, _, _, _, .nil, e => by simp at e
  | _, _, 0, _, .cons h _, e => by
    simp only [List.getElem?_cons_zero, Option.some.injEq] at e
    subst e
    exact ⟨_, rfl, h⟩
  | _, _, i + 1, _, .cons _ t, e => by
    obtain ⟨d, h1, h2⟩ := dpa_get' (i := i) t (by simpa using e)
    exact ⟨d, by simpa using h1, h2⟩
theorem dpa_append : ∀ {vs ws : List V} {ds es : List PyData}, DpAll K H vs ds → DpAll K H ws es → DpAll K H (vs ++ ws) (ds ++ es)
  | _, _, _, _, .nil, h => h
  | _, _, _, _, .cons a t, h => .cons a (dpa_append t h)
theorem dpa_ints : ∀ (ns : List Int), DpAll K H (ns.map V.int) (ns.map PyData.int)
  | [] => .nil
  | n :: r => .cons (.int n) (dpa_ints r)
theorem ints_dpa : ∀ {vs : List V} {ns : List Int}, DpAll K H vs (ns.map PyData.int) → vs = ns.map V.int
  | _, [], h => dpa_nil h
  | _, n :: r, h => by
    obtain ⟨x, q, rfl, h1, h2⟩ := dpa_cons h
    rw [dp_int h1, ints_dpa h2]
    rfl
theorem dpa_bools : ∀ (ns : List Bool), DpAll K H (ns.map V.bl) (ns.map PyData.bool)
  | [] => .nil
  | n :: r => .cons (.bl n) (dpa_bools r)
theorem bools_dpa : ∀ {vs : List V} {ns : List Bool}, DpAll K H vs (ns.map PyData.bool) → vs = ns.map V.bl
  | _, [], h => dpa_nil h
  | _, n :: r, h => by
    obtain ⟨x, q, rfl, h1, h2⟩ := dpa_cons h
    rw [dp_bl h1, bools_dpa h2]
    rfl
end
theorem ex_new {H : Hp} {p : Addr} {o : HO} (h : H p = none) : Ex H (upd H p o) := Ex.new h
/-- what a call hands back, all that stood kept -/
def Ret (H : Hp) (Q : VK) (P : V → Hp → Prop) : Prop := ∀ v H', Ex H H' → P v H' → Q v H'
theorem Ret.go {H H' H2 : Hp} {Q : VK} {P : V → Hp → Prop} (k : Ret H Q P) (e : Ex H H') {v : V} (h : P v H') : Q v H' := k v H' e h

/-! ### tuples stay whatever is written elsewhere -/
def Tx (H H' : Hp) : Prop := ∀ a xs, (H a = some (.tup xs) → H' a = some (.tup xs)) ∧ ∀ ob, H a = some (.frz ob (.tup xs)) → H' a = some (.frz ob (.tup xs))
theorem Tx.of {H H' : Hp} (e : Ex H H') : Tx H H' := fun a xs => ⟨e a _, fun ob => e a _⟩
theorem Tx.trans {H H1 H2 : Hp} (a : Tx H H1) (b : Tx H1 H2) : Tx H H2 := fun x xs => ⟨fun h => (b x xs).1 ((a x xs).1 h), fun ob h => (b x xs).2 ob ((a x xs).2 ob h)⟩
theorem Tx.upd {H : Hp} {p : Addr} {o u : HO} (h : H p = some o) (h1 : ∀ xs, o ≠ .tup xs) (h2 : ∀ ob xs, o ≠ .frz ob (.tup xs)) : Tx H (upd H p u) := fun a xs =>
  ⟨fun q => by rw [upd_ne (ne_of q h (fun z => h1 xs z.symm))]; exact q, fun ob q => by rw [upd_ne (ne_of q h (fun z => h2 ob xs z.symm))]; exact q⟩
theorem Tx.lst {H : Hp} {p : Addr} {xs : List V} {u : HO} (h : H p = some (.lst xs)) : Tx H (L2.upd H p u) := Tx.upd h (fun _ z => by cases z) (fun _ _ z => by cases z)
theorem sqt_tx {K : PySem.W.Frag} {H H' : Hp} {a : Addr} {xs : List V} (e : Tx H H') (h : SqT K H a xs) : SqT K H' a xs := by
  rcases h with (h | ⟨o, h⟩) | h
  · exact .inl (.inl ((e a xs).1 h))
  · exact .inl (.inr ⟨o, (e a xs).2 o h⟩)
  · exact .inr h
mutual
def noL : PyData → Bool
  | .list _ => false
  | .dict _ => false
  | .tuple xs => noLs xs
  | _ => true
def noLs : List PyData → Bool
  | [] => true
  | d :: r => noL d && noLs r
end
theorem noLs_mem : ∀ {ds : List PyData}, noLs ds = true ↔ ∀ d ∈ ds, noL d = true
  | [] => by simp [noLs]
  | d :: r => by rw [noLs, Bool.and_eq_true, noLs_mem]; simp
mutual
theorem dp_tx {K : PySem.W.Frag} {H H' : Hp} (e : Tx H H') {v : V} {d : PyData} (hn : noL d = true) : Dp K H v d → Dp K H' v d
  | .non => .non
  | .bl b => .bl b
  | .int i => .int i
  | .str x => .str x
  | .lst h a => by simp [noL] at hn
  | .tup h a => .tup (sqt_tx e h) (dpa_tx e (by simpa [noL] using hn) a)
theorem dpa_tx {K : PySem.W.Frag} {H H' : Hp} (e : Tx H H') {vs : List V} {ds : List PyData} (hn : noLs ds = true) : DpAll K H vs ds → DpAll K H' vs ds
  | .nil => .nil
  | .cons h t => .cons (dp_tx e (by rw [noLs, Bool.and_eq_true] at hn; exact hn.1) h) (dpa_tx e (by rw [noLs, Bool.and_eq_true] at hn; exact hn.2) t)
end

/-! ### data of the program -/
def modeS (any : Bool) : Str := if any = true then "any" else "all"
mutual
def encT : Tr → PyData
  | .mk sv n any ps => .tuple [.int sv, .int (n : Int), .str (modeS any), .tuple (encTs ps)]
def encTs : List Tr → List PyData
  | [] => []
  | p :: r => encT p :: encTs r
end
theorem encTs_map : ∀ ps : List Tr, encTs ps = ps.map encT
  | [] => rfl
  | p :: r => by rw [encTs, encTs_map r]; rfl
def optI : Option Nat → PyData
  | none => .none
  | some x => .int (x : Int)
def optV : Option Nat → V
  | none => .non
  | some x => .int (x : Int)
mutual
def encN : NT → PyData
  | .mk a f ps => .tuple [.int (a : Int), optI f, .tuple (encNs ps)]
def encNs : List NT → List PyData
  | [] => []
  | p :: r => encN p :: encNs r
end
theorem encNs_map : ∀ ps : List NT, encNs ps = ps.map encN
  | [] => rfl
  | p :: r => by rw [encNs, encNs_map r]; rfl
def encI (ns : List Int) : PyData := .tuple (ns.map PyData.int)
def encB (bs : List Bool) : PyData := .tuple (bs.map PyData.bool)
def encR (r : Row) : PyData := .tuple [.int (r.1 : Int), encB r.2.1, .bool r.2.2]
section
variable {K : PySem.W.Frag} {H : Hp} {v : V}
theorem tr_at {sv : Int} {n : Nat} {any : Bool} {ps : List Tr} (h : Dp K H v (encT (.mk sv n any ps))) :
    ∃ a b xs, v = .ref a ∧ SqT K H a [.int sv, .int (n : Int), .str (modeS any), .ref b] ∧ SqT K H b xs ∧ DpAll K H xs (ps.map encT) := by
  rw [encT, encTs_map] at h
  obtain ⟨a, xs, rfl, h1, h2⟩ := dp_tup h
  obtain ⟨x1, r1, rfl, d1, h2⟩ := dpa_cons h2
  obtain ⟨x2, r2, rfl, d2, h2⟩ := dpa_cons h2
  obtain ⟨x3, r3, rfl, d3, h2⟩ := dpa_cons h2
  obtain ⟨x4, r4, rfl, d4, h2⟩ := dpa_cons h2
  have e := dpa_nil h2
  subst e
  obtain ⟨b, ys, rfl, h3, h4⟩ := dp_tup d4
  rw [dp_int d1, dp_int d2, dp_str d3] at h1
  exact ⟨a, b, ys, rfl, h1, h3, h4⟩
theorem at_tr {sv : Int} {n : Nat} {any : Bool} {ps : List Tr} {a b : Addr} {xs : List V} (h1 : SqT K H a [.int sv, .int (n : Int), .str (modeS any), .ref b]) (h2 : SqT K H b xs) (h3 : DpAll K H xs (ps.map encT)) : Dp K H (.ref a) (encT (.mk sv n any ps)) := by
  rw [encT, encTs_map]
  exact .tup h1 (.cons (.int _) (.cons (.int _) (.cons (.str _) (.cons (.tup h2 h3) .nil))))
theorem opt_dp : ∀ (o : Option Nat), Dp K H (optV o) (optI o)
  | none => .non
  | some x => .int _
theorem dp_opt : ∀ {o : Option Nat}, Dp K H v (optI o) → v = optV o
  | none, h => dp_non h
  | some x, h => dp_int h
theorem nt_at {n : NT} (h : Dp K H v (encN n)) : ∃ a b xs, v = .ref a ∧ SqT K H a [.int (n.a : Int), optV n.f, .ref b] ∧ SqT K H b xs ∧ DpAll K H xs (n.ps.map encN) := by
  obtain ⟨x, f, ps⟩ := n
  rw [encN, encNs_map] at h
  obtain ⟨a, xs, rfl, h1, h2⟩ := dp_tup h
  obtain ⟨x1, r1, rfl, d1, h2⟩ := dpa_cons h2
  obtain ⟨x2, r2, rfl, d2, h2⟩ := dpa_cons h2
  obtain ⟨x3, r3, rfl, d3, h2⟩ := dpa_cons h2
  have e := dpa_nil h2
  subst e
  obtain ⟨b, ys, rfl, h3, h4⟩ := dp_tup d3
  rw [dp_int d1, dp_opt d2] at h1
  exact ⟨a, b, ys, rfl, h1, h3, h4⟩
theorem at_nt {n : NT} {a b : Addr} {xs : List V} (h1 : SqT K H a [.int (n.a : Int), optV n.f, .ref b]) (h2 : SqT K H b xs) (h3 : DpAll K H xs (n.ps.map encN)) : Dp K H (.ref a) (encN n) := by
  obtain ⟨x, f, ps⟩ := n
  rw [encN, encNs_map]
  exact .tup h1 (.cons (.int _) (.cons (opt_dp _) (.cons (.tup h2 h3) .nil)))
theorem ints_at {ns : List Int} (h : Dp K H v (encI ns)) : ∃ a, v = .ref a ∧ SqT K H a (ns.map V.int) := by
  obtain ⟨a, xs, rfl, h1, h2⟩ := dp_tup h
  rw [ints_dpa h2] at h1
  exact ⟨a, rfl, h1⟩
theorem at_ints {ns : List Int} {a : Addr} (h : SqT K H a (ns.map V.int)) : Dp K H (.ref a) (encI ns) := .tup h (dpa_ints ns)
theorem bools_at {ns : List Bool} (h : Dp K H v (encB ns)) : ∃ a, v = .ref a ∧ SqT K H a (ns.map V.bl) := by
  obtain ⟨a, xs, rfl, h1, h2⟩ := dp_tup h
  rw [bools_dpa h2] at h1
  exact ⟨a, rfl, h1⟩
theorem at_bools {ns : List Bool} {a : Addr} (h : SqT K H a (ns.map V.bl)) : Dp K H (.ref a) (encB ns) := .tup h (dpa_bools ns)
theorem row_at {r : Row} (h : Dp K H v (encR r)) : ∃ a b, v = .ref a ∧ SqT K H a [.int (r.1 : Int), .ref b, .bl r.2.2] ∧ SqT K H b (r.2.1.map V.bl) := by
  obtain ⟨a, xs, rfl, h1, h2⟩ := dp_tup h
  obtain ⟨x1, r1, rfl, d1, h2⟩ := dpa_cons h2
  obtain ⟨x2, r2, rfl, d2, h2⟩ := dpa_cons h2
  obtain ⟨x3, r3, rfl, d3, h2⟩ := dpa_cons h2
  have e := dpa_nil h2
  subst e
  obtain ⟨b, rfl, h3⟩ := bools_at d2
  rw [dp_int d1, dp_bl d3] at h1
  exact ⟨a, b, rfl, h1, h3⟩
theorem at_row {r : Row} {a b : Addr} (h1 : SqT K H a [.int (r.1 : Int), .ref b, .bl r.2.2]) (h2 : SqT K H b (r.2.1.map V.bl)) : Dp K H (.ref a) (encR r) :=
  .tup h1 (.cons (.int _) (.cons (at_bools h2) (.cons (.bl _) .nil)))
theorem noL_ints (ns : List Int) : noL (encI ns) = true := by
  unfold encI
  rw [noL, noLs_mem]
  intro d hd
  obtain ⟨n, _, rfl⟩ := List.mem_map.mp hd
  rfl
theorem noL_bools (ns : List Bool) : noL (encB ns) = true := by
  unfold encB
  rw [noL, noLs_mem]
  intro d hd
  obtain ⟨n, _, rfl⟩ := List.mem_map.mp hd
  rfl
theorem noL_row (r : Row) : noL (encR r) = true := by
  unfold encR
  simp only [noL, noLs, noL_bools, Bool.and_true]
theorem noL_opt (o : Option Nat) : noL (optI o) = true := by cases o <;> rfl
mutual
theorem noL_nt : ∀ n : NT, noL (encN n) = true
  | .mk a f ps => by
    rw [encN]
    simp only [noL, noLs, noL_opt, Bool.and_true, Bool.true_and]
    exact noL_nts ps
theorem noL_nts : ∀ ns : List NT, noLs (encNs ns) = true
  | [] => rfl
  | n :: r => by rw [encNs, noLs, noL_nt n, noL_nts r]; rfl
end
mutual
theorem noL_tr : ∀ n : Tr, noL (encT n) = true
  | .mk sv n any ps => by
    rw [encT]
    simp only [noL, noLs, Bool.and_true, Bool.true_and]
    exact noL_trs ps
theorem noL_trs : ∀ ns : List Tr, noLs (encTs ns) = true
  | [] => rfl
  | n :: r => by rw [encTs, noLs, noL_tr n, noL_trs r]; rfl
end
theorem tyx_tup {a : Addr} {xs : List V} (h : SqT K H a xs) : TyX K H (.ref a) (.type "tuple") := by
  rcases h with (h | ⟨o, h⟩) | ⟨o, its, n, h, c, _⟩
  · exact .base (.tup h)
  · exact .fTuple h
  · exact .kTuple h c
end

/-! ### a def of the text, under its name -/
structure Dd (K : PySem.W.Frag) (mg : Str → Option Value) (x : Str) (st : Stmt) (ps : List Str) : Prop where
  ex : ∃ f fd, C8.Def K mg x st f fd ∧ Binds K fd ps []
/-- the built-in names, as the text leaves them -/
structure Bn (mg : Str → Option Value) : Prop where
  isi : mg "isinstance" = none
  int : mg "int" = none
  bool : mg "bool" = none
  tuple : mg "tuple" = none
  str : mg "str" = none
  len : mg "len" = none
  all : mg "all" = none
  sum : mg "sum" = none
  range : mg "range" = none
  zip : mg "zip" = none
  max : mg "max" = none
  min : mg "min" = none
  enum : mg "enumerate" = none
section
variable {P : Program} {w : World} {K : PySem.W.Frag} {mg : Str → Option Value} {base : Heap}
theorem dd_cal {x : Str} {st : Stmt} {N ps : List Str} {k : Nat} {sp : Sp} (D : Dd K mg x st ps) (S : FnScope N ps (C8.fnScope st)) (len : ∀ vs H Q E, sp vs H Q E → vs.length = ps.length)
    (hbody : ∀ (f : Addr) (cdv : Value) (A : Around) (outer : List Env) (s : Shared) (H : Hp) (vs : List V) (Q : VK) (E : XK), Room k (A.deeper (envOfC x (C8.fnScope st) s.heap.objs.size f cdv)) → sp vs H Q E →
      ∃ t, PSs (cxOf CX0 P w K mg base N x (C8.fnScope st) f cdv A outer s H E).nox (C8.fnBody st) t ∧ t { nx := fun _ H' => Q .non H', rt := Q } (start N vs) H) : C8.Cal P w K mg base (k + 1) x sp [] := by
  obtain ⟨f, fd, d, b⟩ := D.ex
  exact C8.cal0 d b .nil S len fun cdv A outer s H vs Q E hr hs => hbody f cdv A outer s H vs Q E hr hs
theorem cal_mono {j k : Nat} {x : Str} {sp : Sp} {dvs : List V} (c : C8.Cal P w K mg base j x sp dvs) (h : j ≤ k) : C8.Cal P w K mg base k x sp dvs := by
  obtain ⟨f, fd, ps, ds, F, r⟩ := c.ex
  exact ⟨f, fd, ps, ds, F.mono h, r⟩
end
/-! ### rules in short -/
section
variable {X : Cx}
theorem pe_to {e : Expr} {t t' : TE} (h : PE X e t) (c : ∀ σ H Q, t' σ H Q → t σ H Q) : PE X e t' := ⟨fun pins s σ H Q I q => h.run pins s σ H Q I (c σ H Q q)⟩
theorem pe_gi {x : Str} {i : Int} {t : Tok} {pos : Pos} (hg : Gl X x) (hm : X.mg x = some (.int i t)) (hd : (x == ("__debug__" : Str)) = false := by decide) : PE X (.Name x pos) (tC (.int i)) := pe_glob (v := .int i) hg hm ⟨t, rfl⟩ hd
theorem pe_gs {x : Str} {i : Str} {t : Tok} {pos : Pos} (hg : Gl X x) (hm : X.mg x = some (.str i t)) (hd : (x == ("__debug__" : Str)) = false := by decide) : PE X (.Name x pos) (tC (.str i)) := pe_glob (v := .str i) hg hm ⟨t, rfl⟩ hd
def rIsiB (K : PySem.W.Frag) : List V → Hp → VK → Prop := fun xs H Q => ∃ (x : V) (t T : String) (b : Bool), xs = [x, .ty T] ∧ TyX K H x (.type t) ∧ kitB t T = some b ∧ Q (.bl b) H
theorem call_isiB : CallR X (.builtin "isinstance") (rIsiB X.K) := by
  intro pins s σ H xs us Q I r h
  obtain ⟨x, t, T, b, rfl, ty, e, q⟩ := h
  exact call_isi pins s σ H _ us Q I r ⟨x, .ty T, .type t, .type T, b, rfl, .ty T, ty, kit_ty e, q⟩
/-- isinstance(e, T), T a built-in class -/
theorem pe_isi {e : Expr} {te : TE} {y : Str} {T : String} {p1 p2 p3 : Pos} (he : PE X e te) (h1 : Gl X "isinstance") (m1 : X.mg "isinstance" = none) (h2 : Gl X y) (m2 : X.mg y = none) (b2 : bootBuiltins y = some (.type T)) (n2 : y ≠ "__name__" := by decide)
    (d2 : (y == ("__debug__" : Str)) = false := by decide) (hs : starEach (e :: [.Name y p2]) X.env = (false, eval e X.env) :: starEach [.Name y p2] X.env := by rfl) (hpl : (backTo p3 (starEach [.Name y p2] X.env)).any (·.1) = false := by rfl) :
    PE X (.Call (.Name "isinstance" p1) [e, .Name y p2] [] p3) (tCB (rIsiB X.K) (tCons te (tCons (tC (.ty T)) tNil))) :=
  pe_callB call_isiB h1 m1 boot_isinstance (pa_cons (hs := hs) he (pa_cons (pe_bltn (v := .ty T) (u := .type T) h2 m2 b2 rfl n2 d2) pa_nil)) (he := hs) (hpl := hpl)
/-! .. with the written part told apart: for a comprehension's block -/
theorem pe_isiK (K : PySem.W.Frag) {e : Expr} {te : TE} {y : Str} {T : String} {p1 p2 p3 : Pos} (he : PE X e te) (h1 : Gl X "isinstance") (m1 : X.mg "isinstance" = none) (h2 : Gl X y) (m2 : X.mg y = none) (b2 : bootBuiltins y = some (.type T)) (hK : X.K = K := by rfl) (n2 : y ≠ "__name__" := by decide)
    (d2 : (y == ("__debug__" : Str)) = false := by decide) (hs : starEach (e :: [.Name y p2]) X.env = (false, eval e X.env) :: starEach [.Name y p2] X.env := by rfl) (hpl : (backTo p3 (starEach [.Name y p2] X.env)).any (·.1) = false := by rfl) :
    PE X (.Call (.Name "isinstance" p1) [e, .Name y p2] [] p3) (tCB (rIsiB K) (tCons te (tCons (tC (.ty T)) tNil))) := by
  subst hK
  exact pe_isi he h1 m1 h2 m2 b2 n2 d2 hs hpl
theorem ix_tupK (K : PySem.W.Frag) (hK : X.K = K := by rfl) : IxR X (rIxT K) := by subst hK; exact ix_tup
theorem pe_fldK (K : PySem.W.Frag) {e : Expr} {ta : TE} {f : Str} {pos : Pos} (he : PE X e ta) (hb : attributeBase e f X.env (eval e X.env) = eval e X.env) (hK : X.K = K := by rfl) : PE X (.Attribute e f pos) (tFld K ta f) := by subst hK; exact pe_fld he hb
theorem ix_listK (K : PySem.W.Frag) (hK : X.K = K := by rfl) : IxR X (rIxL K) := by subst hK; exact ix_list
theorem call_len_seqK (K : PySem.W.Frag) (hK : X.K = K := by rfl) : CallR X (.builtin "len") (fun xs H Q => ∃ p ys, xs = [.ref p] ∧ (SqL K H p ys ∨ SqT K H p ys) ∧ Q (.int ys.length) H) := by subst hK; exact call_len_seq
theorem op_in_seqK (K : PySem.W.Frag) (hK : X.K = K := by rfl) : OpR X (compareOp .In) (rIn K false) := by subst hK; exact op_in_seq
theorem op_notIn_seqK (K : PySem.W.Frag) (hK : X.K = K := by rfl) : OpR X (compareOp .NotIn) (rIn K true) := by subst hK; exact op_notIn_seq
theorem op_catAK (K : PySem.W.Frag) (hK : X.K = K := by rfl) : OpR X (binaryOp .Add) (rCatA K) := by subst hK; exact op_catA
theorem pg_tupK (K : PySem.W.Frag) {es : List Expr} {k : Nat} {t : TGs} {n : Nat} {pos : Pos} (hc : X.calm = true) (h : PGs X es t) (hK : X.K = K := by rfl)
    (hn : (assignEach es X.env).length = n := by rfl) (hst : (assignEach es X.env).findIdx? (·.1) = none := by rfl) : PG X (.Tuple es k pos) (gTup K n t) := by subst hK; exact pg_tup hc h hn hst
theorem bT_int : bootBuiltins "int" = some (.type "int") := by decide +kernel
theorem bT_bool : bootBuiltins "bool" = some (.type "bool") := by decide +kernel
theorem bT_tuple : bootBuiltins "tuple" = some (.type "tuple") := by decide +kernel
theorem bT_str : bootBuiltins "str" = some (.type "str") := by decide +kernel
theorem bB_all : bootBuiltins "all" = some (.builtin "all") := by decide +kernel
theorem bB_sum : bootBuiltins "sum" = some (.builtin "sum") := by decide +kernel
theorem bB_max : bootBuiltins "max" = some (.builtin "max") := by decide +kernel
theorem bB_min : bootBuiltins "min" = some (.builtin "min") := by decide +kernel
theorem k_tt : kitB "tuple" "tuple" = some true := by decide +kernel
theorem k_ii : kitB "int" "int" = some true := by decide +kernel
theorem k_ib : kitB "int" "bool" = some false := by decide +kernel
theorem k_bb : kitB "bool" "bool" = some true := by decide +kernel
theorem k_ss : kitB "str" "str" = some true := by decide +kernel
theorem tyx_int {K : PySem.W.Frag} {H : Hp} {i : Int} : TyX K H (.int i) (.type "int") := .base (.int _)
theorem tyx_bl {K : PySem.W.Frag} {H : Hp} {i : Bool} : TyX K H (.bl i) (.type "bool") := .base (.bl _)
theorem tyx_str {K : PySem.W.Frag} {H : Hp} {i : Str} : TyX K H (.str i) (.type "str") := .base (.str _)
end
theorem yes {A B : Hp → Prop} {σ : L2.St} {H : Hp} (h : A H) : tYes σ H (fun b H3 => if b = true then A H3 else B H3) := by
  show if true = true then A H else B H
  rw [if_pos rfl]
  exact h
theorem same_ex {H H' : Hp} (h : Ex H H') : Same H H' := h
theorem sz3 {n : Nat} (h : n ≤ 1000000) : n ≤ sizeLine := Nat.le_trans h (by decide)
theorem szl {n : Nat} (h : n ≤ 1000000) : n < sizeLine := Nat.lt_of_le_of_lt h (by decide)
end CB

namespace CB
open PySem PySem.Spec PyProof.Rows L2 Evl
section
variable {P : Program} {w : World} {K : PySem.W.Frag} {mg : Str → Option Value} {base : Heap}

/-! ### is_number -/
abbrev sIsNum : Stmt := topS 16
theorem scIsNum : FnScope ["thing", "low", "high"] ["thing", "low", "high"] (C8.fnScope sIsNum) := C8.fnScope_by (by decide +kernel)
def spIsNum : Sp := fun vs H Q _ => ∃ i lo hi : Int, vs = [.int i, .int lo, .int hi] ∧ ∀ b, (b = decide (lo ≤ i ∧ i ≤ hi)) → Q (.bl b) H
theorem ok_is_num (D : Dd K mg "is_number" sIsNum ["thing", "low", "high"]) (B : Bn mg) : C8.Cal P w K mg base 1 "is_number" spIsNum [] := by
  refine dd_cal D scIsNum (fun vs H Q E h => ?_) (fun f cdv A outer s H vs Q E hr h => ?_)
  · obtain ⟨i, lo, hi, rfl, _⟩ := h
    rfl
  obtain ⟨i, lo, hi, rfl, q⟩ := h
  refine ⟨_, pss_one (ps_ret (pe_and (pe_isi (pv 0) (by rfl) B.isi (by rfl) B.int bT_int) (pe_and (pe_not (pe_isi (pv 0) (by rfl) B.isi (by rfl) B.bool bT_bool)) (pe_one (pe_chain op_le op_le (pv 1) (pv 0) (pv 2)))))), ?_⟩
  refine ⟨_, rfl, _, _, _, true, rfl, tyx_int, k_ii, true, rfl, iteT ?_⟩
  refine ⟨_, rfl, _, _, _, false, rfl, tyx_int, k_ib, false, rfl, true, rfl, iteT ?_⟩
  refine ⟨_, rfl, _, rfl, _, _, rfl, rfl, _, rfl, ?_⟩
  refine ite2 (fun c => ?_) (fun c => ?_)
  · refine ⟨_, rfl, _, _, rfl, rfl, ?_⟩
    have c' := of_decide_eq_true c
    refine q _ ?_
    by_cases h2 : i ≤ hi
    · rw [decide_eq_true h2, decide_eq_true ⟨c', h2⟩]
    · rw [decide_eq_false h2, decide_eq_false fun z => h2 z.2]
  · have c' := of_decide_eq_false (Bool.eq_false_iff.mpr c)
    exact q _ (decide_eq_false fun z => c' z.1).symm

/-! ### is_call -/
abbrev sIsCall : Stmt := topS 17
abbrev nIsCall : List Str := ["thing", "deep", "service", "tries", "mode", "parts", "part"]
theorem scIsCall : FnScope nIsCall ["thing", "deep"] (C8.fnScope sIsCall) := C8.fnScope_by (by decide +kernel)
def spIsCall (K : PySem.W.Frag) (d : Nat) : Sp := fun vs H Q _ => ∃ (v : V) (t : Tr) (m : Int), vs = [v, .int m] ∧ Dp K H v (encT t) ∧ TrOk d t ∧ (d : Int) ≤ m ∧ Ret H Q fun r _ => r = .bl true
structure Consts (mg : Str → Option Value) : Prop where
  ms : ∃ t, mg "MOST_SERVICE" = some (.int 3 t)
  mt : ∃ t, mg "MOST_TRIES" = some (.int 3 t)
  mp : ∃ t, mg "MOST_PARTS" = some (.int 3 t)
  mc : ∃ t, mg "MOST_CALLS" = some (.int 12 t)
  md : ∃ t, mg "MOST_DEEP" = some (.int 4 t)
  mb : ∃ t, mg "MOST_BUDGET" = some (.int 4 t)
  al : ∃ t, mg "ALL" = some (.str "all" t)
  an : ∃ t, mg "ANY" = some (.str "any" t)
theorem flat_mode (any : Bool) : inV (.str (modeS any)) [.str "all", .str "any"] = true := by cases any <;> decide +kernel
theorem ok_is_call (D : Dd K mg "is_call" sIsCall ["thing", "deep"]) (B : Bn mg) (T : Consts mg) (cN : C8.Cal P w K mg base 1 "is_number" spIsNum []) : ∀ d : Nat, C8.Cal P w K mg base (d + 2) "is_call" (spIsCall K d) []
  | 0 => by
    have no : ∀ vs H Q E, ¬ spIsCall K 0 vs H Q E := fun vs H Q E h => by
      obtain ⟨v, t, m, _, _, h, _⟩ := h
      exact h
    obtain ⟨f, fd, d, b⟩ := D.ex
    exact ⟨f, fd, _, _, ⟨fun vs H Q E h => absurd h (no vs H Q E), fun A outer s H args us vs Q E _ _ _ _ h => absurd h (no vs H Q E)⟩, d.mgf, d.kp, b, .nil⟩
  | d + 1 => by
    have ih := ok_is_call D B T cN d
    refine dd_cal D scIsCall (fun vs H Q E h => ?_) (fun f cdv A outer s H vs Q E hr h => ?_)
    · obtain ⟨v, t, m, rfl, _⟩ := h
      rfl
    obtain ⟨v, ⟨sv, n, any, ps⟩, m, rfl, hv, ⟨k1, k2, k3, k4, k5, k6⟩, hm, q⟩ := h
    obtain ⟨a, b, xs, rfl, h1, h2, h3⟩ := tr_at hv
    obtain ⟨ts, ms⟩ := T.ms
    obtain ⟨tt, mt⟩ := T.mt
    obtain ⟨tp, mp⟩ := T.mp
    obtain ⟨ta, al⟩ := T.al
    obtain ⟨tn, an⟩ := T.an
    have hx : xs.length = ps.length := by rw [dpa_len h3, List.length_map]
    have nd := scIsCall.nd
    refine ⟨_, pss_cons (ps_if (PW.pt (pw_or (pt_cmpR op_eq (pv 1) pe_int (nomark _)) (pw_or (pt_not (pt_val (pe_isi (pv 0) (by rfl) B.isi (by rfl) B.tuple bT_tuple)))
        (pw_or1 (pt_cmpR op_ne (pe_callB call_len_seq (by rfl) B.len PySem.boot_len (pa_cons (pv 0) pa_nil)) pe_int (nomark _)))))) (pss_one (ps_ret pe_bl)) pss_nil)
      (pss_cons (ps_asg (pv 0) (pg_tup (by rfl) (pgs_cons (pg_name (i := 2) nd rfl (.inl rfl)) (pgs_cons (pg_name (i := 3) nd rfl (.inl rfl)) (pgs_cons (pg_name (i := 4) nd rfl (.inl rfl)) (pgs_cons (pg_name (i := 5) nd rfl (.inl rfl)) pgs_nil))))))
      (pss_cons (ps_if (PW.pt (pw_or (pt_not (pt_val (C8.pe_c cN hr (by omega) rfl (pa_cons (pv 2) (pa_cons pe_int (pa_cons (pe_gi rfl ms) pa_nil)))))) (pw_or1 (pt_not (pt_val (C8.pe_c cN hr (by omega) rfl (pa_cons (pv 3) (pa_cons pe_int (pa_cons (pe_gi rfl mt) pa_nil)))))))))
        (pss_one (ps_ret pe_bl)) pss_nil)
      (pss_cons (ps_if (PW.pt (pw_or (pt_not (pt_val (pe_isi (pv 4) (by rfl) B.isi (by rfl) B.str bT_str)))
        (pw_or1 (pt_cmpR op_notIn_seq (pv 4) (pe_tup (pa_cons (pe_gs rfl al) (pa_cons (pe_gs rfl an) pa_nil))) (by rfl))))) (pss_one (ps_ret pe_bl)) pss_nil)
      (pss_cons (ps_if (PW.pt (pw_or (pt_not (pt_val (pe_isi (pv 5) (by rfl) B.isi (by rfl) B.tuple bT_tuple)))
        (pw_or1 (pt_cmpR op_gt (pe_callB call_len_seq (by rfl) B.len PySem.boot_len (pa_cons (pv 5) pa_nil)) (pe_gi rfl mp) (nomark _))))) (pss_one (ps_ret pe_bl)) pss_nil)
      (pss_one (ps_ret (pe_callB (cr_all rfl) (by rfl) B.all (by decide +kernel) (pa_cons (pe_lc (own := [("part", 6)]) (g := gName 6) (tt := tYes) rfl nd (pi_tup (pv 5))
        (blkOk_by (own := [("part", 6)]) (N := nIsCall) (sc := C8.fnScope sIsCall) (by decide +kernel))
        (fun _ _ _ _ _ => pg_name (i := 6) nd rfl (Or.inl rfl)) (fun _ _ _ _ _ => pts_nil) (fun _ _ _ _ _ => C8.pe_c ih hr (by omega) rfl (pa_cons (pv 6) (pa_cons (pe_op op_sub (pv 1) pe_int) pa_nil)))) pa_nil)))))))), ?_⟩
    -- deep == 0 or not isinstance(thing, tuple) or len(thing) != 4
    refine ⟨_, rfl, rfl, _, rfl, ?_⟩
    rw [decide_eq_false (by intro z; injection z; omega)]
    refine iteF ?_
    refine ⟨_, rfl, _, _, _, true, rfl, tyx_tup h1, k_tt, true, rfl, iteF ?_⟩
    refine ⟨_, rfl, a, _, rfl, .inr h1, rfl, _, rfl, ?_⟩
    refine iteF ?_
    -- service, tries, mode, parts = thing
    refine ⟨_, rfl, a, _, rfl, h1, rfl, _, _, rfl, _, _, rfl, _, _, rfl, _, _, rfl, rfl, ?_⟩
    -- is_number
    refine ⟨_, rfl, sv, 0, 3, rfl, fun b1 e1 => ?_⟩
    rw [decide_eq_true ⟨k1, k2⟩] at e1
    subst e1
    refine ⟨true, rfl, iteF ?_⟩
    refine ⟨_, rfl, (n : Int), 1, 3, rfl, fun b1 e1 => ?_⟩
    rw [decide_eq_true ⟨by omega, by omega⟩] at e1
    subst e1
    refine ⟨true, rfl, iteF ?_⟩
    -- mode
    refine ⟨_, rfl, _, _, _, true, rfl, tyx_str, k_ss, true, rfl, iteF ?_⟩
    refine ⟨_, rfl, (by show 2 ≤ sizeLine; decide), fun p np => ?_⟩
    refine ⟨p, _, rfl, .inr (SqT.of upd_same), rfl, rfl, _, rfl, ?_⟩
    have ep := ex_new (o := .tup [.str "all", .str "any"]) np
    rw [if_pos rfl, flat_mode]
    refine iteF ?_
    -- parts
    refine ⟨_, rfl, _, _, _, true, rfl, tyx_tup (ex_t ep h2), k_tt, true, rfl, iteF ?_⟩
    refine ⟨_, rfl, b, _, rfl, .inr (ex_t ep h2), _, _, rfl, rfl, _, rfl, ?_⟩
    rw [decide_eq_false (by omega)]
    refine iteF ?_
    refine ⟨_, rfl, b, rfl, ⟨_, ex_t ep h2⟩, fun D nD => ?_⟩
    have nD0 : H D = none := fresh_back ep nD
    refine lc_tup (xs := xs) (fun i H' => Ex H H' ∧ H' D = some (.lst ((List.replicate i true).map V.bl))) ⟨ep.trans (ex_new nD), upd_same⟩ (fun i H' _ p => ex_t p.1 h2) (fun i x H' hi p => ?_) (fun H' p => ?_)
    · obtain ⟨e, hD⟩ := p
      obtain ⟨dd, hdd, hx2⟩ := dpa_get h3 hi
      rw [List.getElem?_map] at hdd
      cases hp : ps[i]? with
      | none => rw [hp] at hdd; cases hdd
      | some t =>
        rw [hp] at hdd
        simp only [Option.map_some, Option.some.injEq] at hdd
        subst hdd
        refine ⟨rfl, yes ?_⟩
        refine ⟨_, rfl, _, rfl, _, _, rfl, rfl, x, t, m - 1, rfl, dp_ex e hx2, k6 t (List.mem_of_getElem? hp), by omega, fun r H2 e2 er => ?_⟩
        subst er
        have hlt := (List.getElem?_eq_some_iff.mp hi).1
        refine ⟨_, e2 _ _ hD, szl (by rw [List.length_map, List.length_replicate]; omega), (e.trans e2).mut nD0, ?_⟩
        rw [upd_same, List.replicate_succ', List.map_append]
        rfl
    · obtain ⟨e, hD⟩ := p
      refine ⟨D, List.replicate xs.length true, rfl, SqL.of hD, ?_⟩
      refine q _ _ e ?_
      congr 1
      rw [List.all_eq_true]
      intro z hz
      exact (List.eq_of_mem_replicate hz)
end
end CB

namespace CB
open PySem PySem.Spec PyProof.Rows L2 Evl

/-! ### helpers: a tail, a pair walk -/
theorem sl_tail {K : PySem.W.Frag} {H : Hp} {Q : VK} {a : Addr} {xs : List V} (h : SqT K H a xs) (q : ∀ p H', Ex H H' → SqT K H' p (xs.drop 1) → Q (.ref p) H') : rSlA K (.ref a) (some 1) none H Q := by
  refine ⟨a, xs, rfl, h, fun z => ?_, fun z p np => ?_⟩
  · have e : HT.sIx xs.length 0 (some 1) = 0 := z.1
    have e2 : HT.sIx xs.length 0 (some ((1 : Nat) : Int)) = min 1 xs.length := HT.sIx_nat _ _ _
    have e3 : HT.sIx xs.length 0 (some (1 : Int)) = min 1 xs.length := e2
    rw [e3] at e
    have e4 : xs = [] := List.eq_nil_of_length_eq_zero (by omega)
    subst e4
    exact q a H (Ex.refl H) h
  · refine q p _ (ex_new np) ?_
    have e2 : HT.sIx xs.length 0 (some ((1 : Nat) : Int)) = min 1 xs.length := HT.sIx_nat _ _ _
    have e3 : HT.sIx xs.length 0 (some (1 : Int)) = min 1 xs.length := e2
    have e4 : cutV xs (some 1) none = xs.drop 1 := by
      unfold cutV
      rw [e3, HT.sIx_none]
      cases xs with
      | nil => rfl
      | cons x r =>
        rw [List.length_cons, show min 1 (r.length + 1) = 1 by omega, show r.length + 1 - 1 = r.length by omega]
        simp
    rw [e4]
    exact SqT.of upd_same
theorem sl_tailN {K : PySem.W.Frag} {σ : L2.St} {H : Hp} {Q : VK} {a : Addr} {xs : List V} (h : SqT K H a xs) (q : ∀ p H', Ex H H' → SqT K H' p (xs.drop 1) → Q (.ref p) H') : tNoPart σ H (fun u H3 => rSlA K (.ref a) (some 1) u H3 Q) := sl_tail h q
theorem walk_zipT {K : PySem.W.Frag} {a b : Addr} {xs ys : List V} {n : Nat} (hn : n = min xs.length ys.length) : Walk (RZ.ItzT K a b) n (fun H => SqT K H a xs ∧ SqT K H b ys) (YPair (fun i => xs[i]?) (fun i => ys[i]?)) := by
  subst hn
  refine ⟨fun i _ hi q => ?_, fun _ q => ⟨xs, ys, q.1, q.2, by omega⟩, fun i H v H' _ q y => ?_⟩
  · have h1 : i < xs.length := by omega
    have h2 : i < ys.length := by omega
    exact ⟨xs, ys, xs[i], ys[i], q.1, q.2, by simp [h1], by simp [h2]⟩
  · obtain ⟨T, x, z, h1, h2, h3, h4, h5⟩ := y
    exact ⟨T, x, z, h1, h2, h3, h4 xs q.1, h5 ys q.2⟩
theorem all_true (n : Nat) : (List.replicate n true).all id = true := by
  rw [List.all_eq_true]
  intro z hz
  exact List.eq_of_mem_replicate hz
/-- the list of truths so far -/
def Tr1 (H : Hp) (D : Addr) (i : Nat) (H' : Hp) : Prop := Ex H H' ∧ H' D = some (.lst ((List.replicate i true).map V.bl))
theorem tr1_start {H H1 : Hp} {D : Addr} (e : Ex H H1) (nD : H1 D = none) : Tr1 H D 0 (upd H1 D (.lst [])) := ⟨e.trans (ex_new nD), upd_same⟩
theorem tr1_turn {H H' H2 : Hp} {D : Addr} {i : Nat} (p : Tr1 H D i H') (nD : H D = none) (e : Ex H' H2) (hi : i < 100000) : ∃ acc, H2 D = some (.lst acc) ∧ acc.length < sizeLine ∧ Tr1 H D (i + 1) (upd H2 D (.lst (acc ++ [.bl true]))) := by
  refine ⟨_, e _ _ p.2, szl (by rw [List.length_map, List.length_replicate]; omega), (p.1.trans e).mut nD, ?_⟩
  rw [upd_same, List.replicate_succ', List.map_append]
  rfl
theorem ccs_sum : ∀ ps : List Tr, (ps.map (fun p => (cc p : Int))).sum = (ccs ps : Int)
  | [] => rfl
  | p :: r => by rw [List.map_cons, List.sum_cons, ccs_sum r, ccs]; omega
theorem take_snoc {α : Type} {xs : List α} {i : Nat} {x : α} (h : xs[i]? = some x) : xs.take (i + 1) = xs.take i ++ [x] := by
  obtain ⟨hlt, e⟩ := List.getElem?_eq_some_iff.mp h
  rw [List.take_succ_eq_append_getElem hlt, e]
/-- the i-th part of a tree and what stands for it -/
theorem tr_part {K : PySem.W.Frag} {H : Hp} {xs : List V} {ps : List Tr} {i : Nat} {x : V} (h : DpAll K H xs (ps.map encT)) (hi : xs[i]? = some x) : ∃ t, ps[i]? = some t ∧ t ∈ ps ∧ Dp K H x (encT t) := by
  obtain ⟨dd, hdd, hx2⟩ := dpa_get h hi
  rw [List.getElem?_map] at hdd
  cases hp : ps[i]? with
  | none => rw [hp] at hdd; cases hdd
  | some t =>
    rw [hp] at hdd
    simp only [Option.map_some, Option.some.injEq] at hdd
    subst hdd
    exact ⟨t, rfl, List.mem_of_getElem? hp, hx2⟩
theorem nt_part {K : PySem.W.Frag} {H : Hp} {xs : List V} {ps : List NT} {i : Nat} {x : V} (h : DpAll K H xs (ps.map encN)) (hi : xs[i]? = some x) : ∃ t, ps[i]? = some t ∧ t ∈ ps ∧ Dp K H x (encN t) := by
  obtain ⟨dd, hdd, hx2⟩ := dpa_get h hi
  rw [List.getElem?_map] at hdd
  cases hp : ps[i]? with
  | none => rw [hp] at hdd; cases hdd
  | some t =>
    rw [hp] at hdd
    simp only [Option.map_some, Option.some.injEq] at hdd
    subst hdd
    exact ⟨t, rfl, List.mem_of_getElem? hp, hx2⟩
theorem dead {P : Program} {w : World} {K : PySem.W.Frag} {mg : Str → Option Value} {base : Heap} {x : Str} {st : Stmt} {ps : List Str} {k : Nat} {sp : Sp} (D : Dd K mg x st ps) (no : ∀ vs H Q E, ¬ sp vs H Q E) : C8.Cal P w K mg base k x sp [] := by
  obtain ⟨f, fd, d, b⟩ := D.ex
  exact ⟨f, fd, _, _, ⟨fun vs H Q E h => absurd h (no vs H Q E), fun A outer s H args us vs Q E _ _ _ _ h => absurd h (no vs H Q E)⟩, d.mgf, d.kp, b, .nil⟩

section
variable {P : Program} {w : World} {K : PySem.W.Frag} {mg : Str → Option Value} {base : Heap}
/-! ### count_calls -/
abbrev sCount : Stmt := topS 18
abbrev nCount : List Str := ["call", "part"]
theorem scCount : FnScope nCount ["call"] (C8.fnScope sCount) := C8.fnScope_by (by decide +kernel)
def spCount (K : PySem.W.Frag) (d : Nat) : Sp := fun vs H Q _ => ∃ (v : V) (t : Tr), vs = [v] ∧ Dp K H v (encT t) ∧ TrOk d t ∧ Ret H Q fun r _ => r = .int (cc t : Int)
theorem ok_count (D : Dd K mg "count_calls" sCount ["call"]) (B : Bn mg) : ∀ d : Nat, C8.Cal P w K mg base (d + 1) "count_calls" (spCount K d) []
  | 0 => dead D fun vs H Q E h => by
    obtain ⟨v, t, _, _, h, _⟩ := h
    exact h
  | d + 1 => by
    have ih := ok_count D B d
    refine dd_cal D scCount (fun vs H Q E h => ?_) (fun f cdv A outer s H vs Q E hr h => ?_)
    · obtain ⟨v, t, rfl, _⟩ := h
      rfl
    obtain ⟨v, ⟨sv, n, any, ps⟩, rfl, hv, ⟨k1, k2, k3, k4, k5, k6⟩, q⟩ := h
    obtain ⟨a, b, xs, rfl, h1, h2, h3⟩ := tr_at hv
    have hx : xs.length = ps.length := by rw [dpa_len h3, List.length_map]
    have nd := scCount.nd
    refine ⟨_, pss_one (ps_ret (pe_op op_add pe_int (pe_callB (cr_sum rfl) (by rfl) B.sum bB_sum (pa_cons (pe_lc (own := [("part", 1)]) (g := gName 1) (tt := tYes) rfl nd (pi_tup (pe_ix ix_tup (pv 0) pe_int (fun _ _ => rfl)))
        (blkOk_by (own := [("part", 1)]) (N := nCount) (sc := C8.fnScope sCount) (by decide +kernel))
        (fun _ _ _ _ _ => pg_name (i := 1) nd rfl (Or.inl rfl)) (fun _ _ _ _ _ => pts_nil) (fun _ _ _ _ _ => C8.pe_c ih hr (by omega) rfl (pa_cons (pv 1) pa_nil))) pa_nil)))), ?_⟩
    refine ⟨_, rfl, a, _, 3, .ref b, rfl, rfl, h1, rfl, b, rfl, ⟨_, h2⟩, fun D nD => ?_⟩
    refine lc_tup (xs := xs) (fun i H' => Ex H H' ∧ H' D = some (.lst (((ps.take i).map (fun p => (cc p : Int))).map V.int))) ⟨ex_new nD, upd_same⟩ (fun i H' _ p => ex_t p.1 h2) (fun i x H' hi p => ?_) (fun H' p => ?_)
    · obtain ⟨e, hD⟩ := p
      obtain ⟨t, ht, hm, hx2⟩ := tr_part h3 hi
      refine ⟨rfl, yes ?_⟩
      refine ⟨_, rfl, x, t, rfl, dp_ex e hx2, k6 t hm, fun r H2 e2 er => ?_⟩
      subst er
      have hlt := (List.getElem?_eq_some_iff.mp hi).1
      refine ⟨_, e2 _ _ hD, szl (by simp only [List.length_map, List.length_take]; omega), (e.trans e2).mut nD, ?_⟩
      rw [upd_same, take_snoc ht, List.map_append, List.map_append]
      rfl
    · obtain ⟨e, hD⟩ := p
      refine ⟨D, _, rfl, SqL.of hD, _, _, rfl, rfl, ?_⟩
      refine q _ _ e ?_
      rw [List.take_of_length_le (by omega), ccs_sum, cc]
      congr 1

/-! ### is_tree, need_tree -/
abbrev sIsTree : Stmt := topS 19
theorem scIsTree : FnScope ["thing"] ["thing"] (C8.fnScope sIsTree) := C8.fnScope_by (by decide +kernel)
def TreeV (K : PySem.W.Frag) (H : Hp) (v : V) (t : Tr) : Prop := Dp K H v (encT t) ∧ TrOk 3 t ∧ cc t ≤ 12
def spIsTree (K : PySem.W.Frag) : Sp := fun vs H Q _ => ∃ (v : V) (t : Tr), vs = [v] ∧ TreeV K H v t ∧ Ret H Q fun r _ => r = .bl true
theorem ok_is_tree (D : Dd K mg "is_tree" sIsTree ["thing"]) (T : Consts mg) (c1 : C8.Cal P w K mg base 5 "is_call" (spIsCall K 3) []) (c2 : C8.Cal P w K mg base 4 "count_calls" (spCount K 3) []) : C8.Cal P w K mg base 6 "is_tree" (spIsTree K) [] := by
  refine dd_cal D scIsTree (fun vs H Q E h => ?_) (fun f cdv A outer s H vs Q E hr h => ?_)
  · obtain ⟨v, t, rfl, _⟩ := h
    rfl
  obtain ⟨v, t, rfl, ⟨hv, ht, hc⟩, q⟩ := h
  obtain ⟨td, md⟩ := T.md
  obtain ⟨tc, mc⟩ := T.mc
  refine ⟨_, pss_one (ps_ret (pe_and (C8.pe_c c1 hr (by omega) rfl (pa_cons (pv 0) (pa_cons (pe_gi rfl md) pa_nil))) (pe_one (pe_cmpR op_le (C8.pe_c c2 hr (by omega) rfl (pa_cons (pv 0) pa_nil)) (pe_gi rfl mc) (nomark _))))), ?_⟩
  refine ⟨_, rfl, v, t, 4, rfl, hv, ht, by decide, fun r H1 e1 er => ?_⟩
  subst er
  refine ⟨true, rfl, iteT ?_⟩
  refine ⟨_, rfl, v, t, rfl, dp_ex e1 hv, ht, fun r H2 e2 er => ?_⟩
  subst er
  refine ⟨_, _, rfl, rfl, q _ _ (e1.trans e2) ?_⟩
  show V.bl (decide (((cc t : Nat) : Int) ≤ 12)) = V.bl true
  rw [decide_eq_true (by omega)]
abbrev sNeedTree : Stmt := topS 20
theorem scNeedTree : FnScope ["tree"] ["tree"] (C8.fnScope sNeedTree) := C8.fnScope_by (by decide +kernel)
def spNeedTree (K : PySem.W.Frag) : Sp := fun vs H Q _ => ∃ (v : V) (t : Tr), vs = [v] ∧ TreeV K H v t ∧ Ret H Q fun _ _ => True
theorem ok_need_tree (D : Dd K mg "need_tree" sNeedTree ["tree"]) (c1 : C8.Cal P w K mg base 6 "is_tree" (spIsTree K) []) : C8.Cal P w K mg base 7 "need_tree" (spNeedTree K) [] := by
  refine dd_cal D scNeedTree (fun vs H Q E h => ?_) (fun f cdv A outer s H vs Q E hr h => ?_)
  · obtain ⟨v, t, rfl, _⟩ := h
    rfl
  obtain ⟨v, t, rfl, hv, q⟩ := h
  refine ⟨_, pss_one (ps_if (pt_not (pt_val (C8.pe_c c1 hr (by omega) rfl (pa_cons (pv 0) pa_nil)))) (pss_one ps_never) pss_nil), ?_⟩
  refine ⟨_, rfl, v, t, rfl, hv, fun r H1 e1 er => ?_⟩
  subst er
  exact ⟨true, rfl, iteF (q _ _ e1 trivial)⟩

/-! ### is_plan, need_plan -/
abbrev sIsPlan : Stmt := topS 21
theorem scIsPlan : FnScope ["thing"] ["thing"] (C8.fnScope sIsPlan) := C8.fnScope_by (by decide +kernel)
def spIsPlan (K : PySem.W.Frag) : Sp := fun vs H Q _ => ∃ (a : Addr), vs = [.ref a] ∧ SqT K H a [.non, .bl false] ∧ Ret H Q fun r _ => r = .bl true
theorem ok_is_plan (D : Dd K mg "is_plan" sIsPlan ["thing"]) (B : Bn mg) (T : Consts mg) (cN : C8.Cal P w K mg base 1 "is_number" spIsNum []) : C8.Cal P w K mg base 2 "is_plan" (spIsPlan K) [] := by
  refine dd_cal D scIsPlan (fun vs H Q E h => ?_) (fun f cdv A outer s H vs Q E hr h => ?_)
  · obtain ⟨a, rfl, _⟩ := h
    rfl
  obtain ⟨a, rfl, ha, q⟩ := h
  obtain ⟨tb, mb⟩ := T.mb
  refine ⟨_, pss_cons (ps_if (PW.pt (pw_or (pt_not (pt_val (pe_isi (pv 0) (by rfl) B.isi (by rfl) B.tuple bT_tuple))) (pw_or1 (pt_cmpR op_ne (pe_callB call_len_seq (by rfl) B.len PySem.boot_len (pa_cons (pv 0) pa_nil)) pe_int (nomark _))))) (pss_one (ps_ret pe_bl)) pss_nil)
    (pss_one (ps_ret (pe_and (pe_or (pe_cmpR op_isN (pe_ix ix_tup (pv 0) pe_int (fun _ _ => rfl)) pe_non (nomark _)) (pe_one (C8.pe_c cN hr (by omega) rfl (pa_cons (pe_ix ix_tup (pv 0) pe_int (fun _ _ => rfl)) (pa_cons pe_int (pa_cons (pe_gi rfl mb) pa_nil))))))
      (pe_one (pe_isi (pe_ix ix_tup (pv 0) pe_int (fun _ _ => rfl)) (by rfl) B.isi (by rfl) B.bool bT_bool))))), ?_⟩
  refine ⟨_, rfl, _, _, _, true, rfl, tyx_tup ha, k_tt, true, rfl, iteF ?_⟩
  refine ⟨_, rfl, a, _, rfl, .inr ha, rfl, _, rfl, ?_⟩
  refine iteF ?_
  refine ⟨_, rfl, a, _, 0, .non, rfl, rfl, ha, rfl, rfl, true, rfl, iteT ?_⟩
  refine ⟨true, rfl, iteT ?_⟩
  refine ⟨_, rfl, a, _, 1, .bl false, rfl, rfl, ha, rfl, _, _, _, true, rfl, tyx_bl, k_bb, ?_⟩
  exact q _ _ (Ex.refl H) rfl
abbrev sNeedPlan : Stmt := topS 22
theorem scNeedPlan : FnScope ["plan"] ["plan"] (C8.fnScope sNeedPlan) := C8.fnScope_by (by decide +kernel)
def spNeedPlan (K : PySem.W.Frag) : Sp := fun vs H Q _ => ∃ (a : Addr), vs = [.ref a] ∧ SqT K H a [.non, .bl false] ∧ Ret H Q fun _ _ => True
theorem ok_need_plan (D : Dd K mg "need_plan" sNeedPlan ["plan"]) (c1 : C8.Cal P w K mg base 2 "is_plan" (spIsPlan K) []) : C8.Cal P w K mg base 3 "need_plan" (spNeedPlan K) [] := by
  refine dd_cal D scNeedPlan (fun vs H Q E h => ?_) (fun f cdv A outer s H vs Q E hr h => ?_)
  · obtain ⟨a, rfl, _⟩ := h
    rfl
  obtain ⟨a, rfl, hv, q⟩ := h
  refine ⟨_, pss_one (ps_if (pt_not (pt_val (C8.pe_c c1 hr (by omega) rfl (pa_cons (pv 0) pa_nil)))) (pss_one ps_never) pss_nil), ?_⟩
  refine ⟨_, rfl, a, rfl, hv, fun r H1 e1 er => ?_⟩
  subst er
  exact ⟨true, rfl, iteF (q _ _ e1 trivial)⟩

/-! ### is_fails -/
abbrev sIsFails : Stmt := topS 23
abbrev nIsFails : List Str := ["thing", "one", "other"]
theorem scIsFails : FnScope nIsFails ["thing"] (C8.fnScope sIsFails) := C8.fnScope_by (by decide +kernel)
/-- a set of integers from 0 on, as a list -/
def SetL (ns : List Int) : Prop := ns.Pairwise (· < ·) ∧ (∀ n ∈ ns, 0 ≤ n) ∧ ns.length ≤ 10000
def spIsFails (K : PySem.W.Frag) : Sp := fun vs H Q _ => ∃ (v : V) (ns : List Int), vs = [v] ∧ Dp K H v (encI ns) ∧ SetL ns ∧ Ret H Q fun r _ => r = .bl true
theorem ok_is_fails (D : Dd K mg "is_fails" sIsFails ["thing"]) (B : Bn mg) : C8.Cal P w K mg base 1 "is_fails" (spIsFails K) [] := by
  refine dd_cal D scIsFails (fun vs H Q E h => ?_) (fun f cdv A outer s H vs Q E hr h => ?_)
  · obtain ⟨a, ns, rfl, _⟩ := h
    rfl
  obtain ⟨v, ns, rfl, hv, ⟨p1, p2, p3⟩, q⟩ := h
  obtain ⟨a, rfl, ha⟩ := ints_at hv
  have nd := scIsFails.nd
  have hlen : (ns.map V.int).length = ns.length := List.length_map _
  refine ⟨_, pss_cons (ps_if (pt_not (pt_val (pe_isi (pv 0) (by rfl) B.isi (by rfl) B.tuple bT_tuple))) (pss_one (ps_ret pe_bl)) pss_nil)
    (pss_cons (ps_if (pt_not (pt_val (pe_callB (cr_all rfl) (by rfl) B.all bB_all (pa_cons (pe_lc (own := [("one", 1)]) (g := gName 1) (tt := tYes) rfl nd (pi_tup (pv 0))
        (blkOk_by (own := [("one", 1)]) (N := nIsFails) (sc := C8.fnScope sIsFails) (by decide +kernel))
        (fun _ _ _ _ _ => pg_name (i := 1) nd rfl (Or.inl rfl)) (fun _ _ _ _ _ => pts_nil)
        (fun _ _ _ _ _ => pe_and (pe_isiK K (pv 1) (by rfl) B.isi (by rfl) B.int bT_int) (pe_and (pe_not (pe_isiK K (pv 1) (by rfl) B.isi (by rfl) B.bool bT_bool)) (pe_one (pe_cmpR op_ge (pv 1) pe_int (nomark _)))))) pa_nil)))) (pss_one (ps_ret pe_bl)) pss_nil)
    (pss_one (ps_ret (pe_callB (cr_all rfl) (by rfl) B.all bB_all (pa_cons (pe_lc (own := [("one", 1), ("other", 2)]) (tt := tYes) rfl nd (RZ.pi_zipA (by rfl) B.zip (pa_cons (pv 0) (pa_cons (pe_slice sl_tupA (pv 0) (po_some pe_int) po_none) pa_nil)))
        (blkOk_by (own := [("one", 1), ("other", 2)]) (N := nIsFails) (sc := C8.fnScope sIsFails) (by decide +kernel))
        (fun _ _ _ _ _ => pg_tupK K (n := 2) rfl (pgs_cons (pg_name (i := 1) nd rfl (Or.inl rfl)) (pgs_cons (pg_name (i := 2) nd rfl (Or.inl rfl)) pgs_nil))) (fun _ _ _ _ _ => pts_nil)
        (fun _ _ _ _ _ => pe_cmpR op_lt (pv 1) (pv 2) (nomark _))) pa_nil))))), ?_⟩
  refine ⟨_, rfl, _, _, _, true, rfl, tyx_tup ha, k_tt, true, rfl, iteF ?_⟩
  refine ⟨_, rfl, a, rfl, ⟨_, ha⟩, fun D nD => ?_⟩
  refine lc_tup (xs := ns.map V.int) (Tr1 H D) (tr1_start (Ex.refl H) nD) (fun i H' _ p => ex_t p.1 ha) (fun i x H' hi p => ?_) (fun H1 p => ?_)
  · obtain ⟨u, hu, rfl⟩ : ∃ u, ns[i]? = some u ∧ x = V.int u := by
      rw [List.getElem?_map] at hi
      cases e : ns[i]? with
      | none => rw [e] at hi; cases hi
      | some u => rw [e] at hi; exact ⟨u, rfl, (Option.some.inj hi).symm⟩
    have hlt := (List.getElem?_eq_some_iff.mp hu).1
    refine ⟨rfl, yes ?_⟩
    refine ⟨_, rfl, _, _, _, true, rfl, tyx_int, k_ii, true, rfl, iteT ?_⟩
    refine ⟨_, rfl, _, _, _, false, rfl, tyx_int, k_ib, false, rfl, true, rfl, iteT ?_⟩
    refine ⟨_, rfl, _, _, rfl, rfl, ?_⟩
    have e0 : decide ((0 : Int) ≤ u) = true := decide_eq_true (p2 u (List.mem_of_getElem? hu))
    simp only [e0]
    exact tr1_turn p nD (Ex.refl H') (by omega)
  refine ⟨D, _, rfl, SqL.of p.2, true, by rw [all_true], iteF ?_⟩
  obtain ⟨e1, _⟩ := p
  have ha1 := ex_t e1 ha
  refine ⟨_, rfl, _, rfl, 1, rfl, ?_⟩
  refine sl_tailN ha1 fun b H2 e2 hb => ?_
  have ha2 := ex_t e2 ha1
  refine ⟨a, b, _, _, rfl, .inr ⟨ha2, hb, fun D2 nD2 => ?_⟩⟩
  refine lc_it (walk_zipT rfl) (Tr1 H2 D2) (tr1_start (Ex.refl H2) nD2) (fun i H' _ p => ⟨ex_t p.1 ha2, ex_t p.1 hb⟩) (fun i x H' H'' hi p y => ?_) (fun H' p => ?_)
  · obtain ⟨T, x1, y1, rfl, hT, rfl, hx1, hy1⟩ := y
    have hx1 : (ns.map V.int)[i]? = some x1 := hx1
    have hy1 : ((ns.map V.int).drop 1)[i]? = some y1 := hy1
    rw [List.getElem?_drop] at hy1
    rw [List.getElem?_map] at hx1 hy1
    cases eu : ns[i]? with
    | none => rw [eu] at hx1; cases hx1
    | some u =>
      cases ew : ns[1 + i]? with
      | none => rw [ew] at hy1; cases hy1
      | some w' =>
        rw [eu] at hx1
        rw [ew] at hy1
        simp only [Option.map_some, Option.some.injEq] at hx1 hy1
        subst hx1 hy1
        have hlt := (List.getElem?_eq_some_iff.mp eu).1
        refine ⟨T, _, rfl, SqT.of upd_same, rfl, _, _, rfl, _, _, rfl, rfl, rfl, yes ?_⟩
        refine ⟨_, rfl, _, rfl, _, _, rfl, rfl, ?_⟩
        have hlt2 : u < w' := by
          obtain ⟨l1, g1⟩ := List.getElem?_eq_some_iff.mp eu
          obtain ⟨l2, g2⟩ := List.getElem?_eq_some_iff.mp ew
          have z := List.pairwise_iff_getElem.mp p1 i (1 + i) l1 l2 (by omega)
          rw [g1, g2] at z
          exact z
        have e0 : decide (u < w') = true := decide_eq_true hlt2
        simp only [e0]
        exact tr1_turn p nD2 (ex_new hT) (by omega)
  · refine ⟨D2, _, rfl, SqL.of p.2, ?_⟩
    exact q _ _ ((e1.trans e2).trans p.1) (by rw [all_true])
end
end CB

namespace CB
open PySem PySem.Spec PyProof.Rows L2 Evl

/-! ### a target that is an attribute -/
def gFld (K : PySem.W.Frag) (ta : TE) (f : Str) : TG := fun v σ H Q => ta σ H fun x H1 => ∃ a C dx fs, x = .ref a ∧ H1 a = some (.ins C dx fs) ∧ Cls K C ∧ NoAttr K C f ∧ fs.length < 1000 ∧ Q σ (upd H1 a (.ins C dx (putF f v fs)))
theorem pg_fld {X : Cx} {o : Expr} {ta : TE} {f : Str} {pos : Pos} (ha : PE X o ta) : PG X (.Attribute o f pos) (gFld X.K ta f) := by
  refine ⟨fun pins s σ H v u Q I r h => ?_⟩
  rw [arm_assign_Attribute]
  refine wpAny_bind (wpAny_holding (thn (ha.run pins s σ H _ I h) fun ov s1 ⟨x, H1, I1, r1, a, C, dx, fs, ex, ea, c, n, l, q⟩ => ?_))
  subst ex
  obtain rfl : ov = Value.ref a := r1
  refine wpAny_bind (wpAny_standAt (wpAny_bind (wpAny_holding (setattr_ok I1 ea c n l r fun s3 I3 => ?_))))
  exact wpAny_release ⟨σ, _, I3, q⟩

/-! ### the run as it stands -/
def runF (lf dk la ld : Addr) : List (Str × V) := [("left", .non), ("keeps", .bl false), ("fails", .ref lf), ("kept", .ref dk), ("asks", .ref la), ("deciders", .ref ld)]
theorem runF_left (lf dk la ld : Addr) : (runF lf dk la ld).lookup ("left" : Str) = some .non := rfl
theorem runF_keeps (lf dk la ld : Addr) : (runF lf dk la ld).lookup ("keeps" : Str) = some (.bl false) := rfl
theorem runF_fails (lf dk la ld : Addr) : (runF lf dk la ld).lookup ("fails" : Str) = some (.ref lf) := rfl
theorem runF_kept (lf dk la ld : Addr) : (runF lf dk la ld).lookup ("kept" : Str) = some (.ref dk) := rfl
theorem runF_asks (lf dk la ld : Addr) : (runF lf dk la ld).lookup ("asks" : Str) = some (.ref la) := rfl
theorem runF_deciders (lf dk la ld : Addr) : (runF lf dk la ld).lookup ("deciders" : Str) = some (.ref ld) := rfl
theorem runF_put (lf dk la ld : Addr) : putF "deciders" (.ref ld) (putF "asks" (.ref la) (putF "kept" (.ref dk) (putF "fails" (.ref lf) (putF "keeps" (.bl false) (putF "left" .non []))))) = runF lf dk la ld := rfl
def failD (x : List Int) : List (Key × V) := x.map fun n => (Sum.inl n, V.bl true)
theorem failD_val (x : List Int) (n : Int) : (valV (failD x) (Sum.inl n : Key)).isSome = decide (n ∈ x) := by
  induction x with
  | nil => rfl
  | cons m r ih =>
    by_cases e : m = n
    · subst e
      rw [show failD (m :: r) = (Sum.inl m, V.bl true) :: failD r from rfl, valV_pos rfl]
      simp
    · have e2 : ¬ (Sum.inl m : Key) = Sum.inl n := fun z => e (Sum.inl.inj z)
      rw [show failD (m :: r) = (Sum.inl m, V.bl true) :: failD r from rfl, valV_neg e2, ih]
      have e3 : ¬ n = m := fun z => e z.symm
      simp [e3]
structure Ra where
  dx : Addr
  lf : Addr
  dk : Addr
  la : Addr
  ld : Addr
/-- the run at p has asked and decided so far; k answers may still be kept -/
structure RunAt (C : Addr) (x : List Int) (R : Ra) (p : Addr) (k : Nat) (H0 H : Hp) (s : S2) : Prop where
  ex : Ex H0 H
  ndk : H0 R.dk = none
  nla : H0 R.la = none
  nld : H0 R.ld = none
  ins : H p = some (.ins C R.dx (runF R.lf R.dk R.la R.ld))
  lf : H R.lf = some (.dK (failD x))
  dk : ∃ kvs, H R.dk = some (.dK kvs) ∧ kvs.length + k ≤ s.1.length
  la : H R.la = some (.lst (s.1.map V.int))
  ld : H R.ld = some (.lst (s.2.map V.int))
  ne1 : R.la ≠ R.ld
  ne2 : R.lf ≠ R.dk
theorem ne_kind {H : Hp} {a b : Addr} {o u : HO} (h : H a = some o) (h' : H b = some u) (d : ∀ z : o = u, False) : a ≠ b := ne_of h h' d
section
variable {C : Addr} {x : List Int} {R : Ra} {p : Addr} {k : Nat} {H0 H : Hp} {s : S2}
theorem RunAt.ask (r : RunAt C x R p k H0 H s) (sv : Int) : RunAt C x R p (k + 1) H0 (upd H R.la (.lst (s.1.map V.int ++ [.int sv]))) (s.1 ++ [sv], s.2) := by
  obtain ⟨kvs, hk, hl⟩ := r.dk
  refine ⟨r.ex.mut r.nla, r.ndk, r.nla, r.nld, ?_, ?_, ⟨kvs, ?_, by simp; omega⟩, ?_, ?_, r.ne1, r.ne2⟩
  · rw [upd_ne (ne_kind r.ins r.la (by intro z; cases z))]; exact r.ins
  · rw [upd_ne (ne_kind r.lf r.la (by intro z; cases z))]; exact r.lf
  · rw [upd_ne (ne_kind hk r.la (by intro z; cases z))]; exact hk
  · rw [upd_same, List.map_append]; rfl
  · rw [upd_ne r.ne1.symm]; exact r.ld
theorem RunAt.dec (r : RunAt C x R p k H0 H s) (sv : Int) : RunAt C x R p k H0 (upd H R.ld (.lst (s.2.map V.int ++ [.int sv]))) (s.1, s.2 ++ [sv]) := by
  obtain ⟨kvs, hk, hl⟩ := r.dk
  refine ⟨r.ex.mut r.nld, r.ndk, r.nla, r.nld, ?_, ?_, ⟨kvs, ?_, hl⟩, ?_, ?_, r.ne1, r.ne2⟩
  · rw [upd_ne (ne_kind r.ins r.ld (by intro z; cases z))]; exact r.ins
  · rw [upd_ne (ne_kind r.lf r.ld (by intro z; cases z))]; exact r.lf
  · rw [upd_ne (ne_kind hk r.ld (by intro z; cases z))]; exact hk
  · rw [upd_ne r.ne1]; exact r.la
  · rw [upd_same, List.map_append]; rfl
theorem putK_len {κ : Type} [DecidableEq κ] (kvs : List (κ × V)) (j : κ) (v : V) : (putK kvs j v).length ≤ kvs.length + 1 := by
  unfold putK
  split
  · rw [List.length_map]; omega
  · rw [List.length_append]; exact Nat.le_refl _
theorem RunAt.put (r : RunAt C x R p (k + 1) H0 H s) {kvs : List (Key × V)} (hk : H R.dk = some (.dK kvs)) (j : Key) (v : V) : RunAt C x R p k H0 (upd H R.dk (.dK (putK kvs j v))) s := by
  obtain ⟨kvs', hk', hl⟩ := r.dk
  rw [hk] at hk'
  cases hk'
  refine ⟨r.ex.mut r.ndk, r.ndk, r.nla, r.nld, ?_, ?_, ⟨_, upd_same, ?_⟩, ?_, ?_, r.ne1, r.ne2⟩
  · rw [upd_ne (ne_kind r.ins hk (by intro z; cases z))]; exact r.ins
  · rw [upd_ne r.ne2]; exact r.lf
  · have := putK_len kvs j v
    omega
  · rw [upd_ne (ne_kind r.la hk (by intro z; cases z))]; exact r.la
  · rw [upd_ne (ne_kind r.ld hk (by intro z; cases z))]; exact r.ld
theorem RunAt.less (r : RunAt C x R p (k + 1) H0 H s) : RunAt C x R p k H0 H s := by
  obtain ⟨kvs', hk', hl⟩ := r.dk
  exact ⟨r.ex, r.ndk, r.nla, r.nld, r.ins, r.lf, ⟨kvs', hk', by omega⟩, r.la, r.ld, r.ne1, r.ne2⟩
end

/-- what the walk needs of the class Run -/
structure RunC (K : PySem.W.Frag) (C : Addr) : Prop where
  cl : Cls K C
  nLeft : NoAttr K C "left"
  nKeeps : NoAttr K C "keeps"
  nFails : NoAttr K C "fails"
  nKept : NoAttr K C "kept"
  nAsks : NoAttr K C "asks"
  nDec : NoAttr K C "deciders"
structure Dm (K : PySem.W.Frag) (C : Addr) (m qual : Str) (st : Stmt) (ps : List Str) : Prop where
  ex : ∃ f fd, C8.Fun K m qual st f fd ∧ Meth K C m f ∧ Binds K fd ps []
section
variable {P : Program} {w : World} {K : PySem.W.Frag} {mg : Str → Option Value} {base : Heap}
theorem dm_met {m qual : Str} {C : Addr} {st : Stmt} {N ps : List Str} {k : Nat} {sp : Sp} (c : Cls K C) (D : Dm K C m qual st ps) (S : FnScope N ps (C8.fnScope st)) (len : ∀ vs H Q E, sp vs H Q E → vs.length = ps.length)
    (hbody : ∀ (f : Addr) (cdv : Value) (A : Around) (outer : List Env) (s : Shared) (H : Hp) (vs : List V) (Q : VK) (E : XK), Room k (A.deeper (envOfC qual (C8.fnScope st) s.heap.objs.size f cdv)) → sp vs H Q E →
      ∃ t, PSs (cxOf CX0 P w K mg base N qual (C8.fnScope st) f cdv A outer s H E).nox (C8.fnBody st) t ∧ t { nx := fun _ H' => Q .non H', rt := Q } (start N vs) H) : C8.Met P w K mg base (k + 1) C m sp [] := by
  obtain ⟨f, fd, d, me, b⟩ := D.ex
  exact C8.met0 c me d b S len fun cdv A outer s H vs Q E hr hs => hbody f cdv A outer s H vs Q E hr hs
theorem dm_dead {m qual : Str} {C : Addr} {st : Stmt} {ps : List Str} {k : Nat} {sp : Sp} (c : Cls K C) (D : Dm K C m qual st ps) (no : ∀ vs H Q E, ¬ sp vs H Q E) : C8.Met P w K mg base k C m sp [] := by
  obtain ⟨f, fd, d, me, b⟩ := D.ex
  exact ⟨f, fd, _, _, c, me, ⟨fun vs H Q E h => absurd h (no vs H Q E), fun A outer s H args us vs Q E _ _ _ _ h => absurd h (no vs H Q E)⟩, b, .nil⟩

/-! ### take, decide -/
abbrev sRun : Stmt := topS 24
def inCls (s : Stmt) (j : Nat) : Stmt := (C8.clsBody s).getD j (.Pass ⟨0, 0, 0, 0⟩)
abbrev sInit : Stmt := inCls sRun 0
abbrev sRCall : Stmt := inCls sRun 1
abbrev sTake : Stmt := inCls sRun 2
abbrev sAttempt : Stmt := inCls sRun 3
abbrev sParts : Stmt := inCls sRun 4
abbrev sDecide : Stmt := inCls sRun 5
theorem scTake : FnScope ["self"] ["self"] (C8.fnScope sTake) := C8.fnScope_by (by decide +kernel)
def spTake (C : Addr) : Sp := fun vs H Q _ => ∃ (p : Addr) (R : Ra), vs = [.ref p] ∧ H p = some (.ins C R.dx (runF R.lf R.dk R.la R.ld)) ∧ Q (.bl true) H
theorem ok_take {C : Addr} (T : RunC K C) (D : Dm K C "take" "Run.take" sTake ["self"]) : C8.Met P w K mg base 1 C "take" (spTake C) [] := by
  refine dm_met T.cl D scTake (fun vs H Q E h => ?_) (fun f cdv A outer s H vs Q E hr h => ?_)
  · obtain ⟨p, R, rfl, _⟩ := h
    rfl
  obtain ⟨p, R, rfl, hp, q⟩ := h
  refine ⟨_, pss_cons (ps_if (pt_cmpR op_isN (pe_fld (pv 0) rfl) pe_non (nomark _)) (pss_one (ps_ret pe_bl)) pss_nil) pss_never, ?_⟩
  refine ⟨_, rfl, p, C, R.dx, _, _, rfl, hp, T.cl, T.nLeft, runF_left _ _ _ _, rfl, true, rfl, iteT ?_⟩
  exact q
theorem scDecide : FnScope ["self", "service"] ["self", "service"] (C8.fnScope sDecide) := C8.fnScope_by (by decide +kernel)
def spDecide (C : Addr) : Sp := fun vs H Q _ => ∃ (p : Addr) (sv : Int) (x : List Int) (R : Ra) (k : Nat) (H0 : Hp) (s : S2), vs = [.ref p, .int sv] ∧ RunAt C x R p k H0 H s ∧ s.2.length ≤ 10000 ∧
  ∀ H', RunAt C x R p k H0 H' (s.1, s.2 ++ [sv]) → Q (.bl (!fOf x s.2.length)) H'
theorem ok_decide {C : Addr} (T : RunC K C) (B : Bn mg) (D : Dm K C "decide" "Run.decide" sDecide ["self", "service"]) : C8.Met P w K mg base 1 C "decide" (spDecide C) [] := by
  refine dm_met T.cl D scDecide (fun vs H Q E h => ?_) (fun f cdv A outer s H vs Q E hr h => ?_)
  · obtain ⟨p, sv, x, R, k, H0, s, rfl, _⟩ := h
    rfl
  obtain ⟨p, sv, x, R, k, H0, s, rfl, r, hl, q⟩ := h
  refine ⟨_, pss_cons (ps_expr (pe_bm PySem.F.plainAttrs_list PySem.F.slot_list_append PySem.F.type_list_append mt_append (pe_fld (pv 0) rfl) (pa_cons (pv 1) pa_nil)))
    (pss_one (ps_ret (pe_cmp (pc_dnotin (hu_of hr) (pe_op op_sub (pe_callB call_len_seq (by rfl) B.len PySem.boot_len (pa_cons (pe_fld (pv 0) rfl) pa_nil)) pe_int) (pe_fld (pv 0) rfl)) rfl))), ?_⟩
  refine ⟨_, rfl, p, C, R.dx, _, _, rfl, r.ins, T.cl, T.nDec, runF_deciders _ _ _ _, .inl ⟨rfl, _, SqL.of r.ld⟩, _, rfl, R.ld, _, _, rfl, rfl, r.ld, szl (by rw [List.length_map]; omega), ?_⟩
  have r2 := r.dec sv
  refine ⟨_, rfl, p, C, R.dx, _, _, rfl, r2.ins, T.cl, T.nDec, runF_deciders _ _ _ _, R.ld, _, rfl, .inl (SqL.of r2.ld), _, _, rfl, rfl, ?_⟩
  refine ⟨_, rfl, p, C, R.dx, _, _, rfl, r2.ins, T.cl, T.nFails, runF_fails _ _ _ _, R.lf, valV (failD x) (Sum.inl ((s.2.length : Nat) : Int) : Key), rfl, ?_, ?_⟩
  · have e : V.int (((List.map V.int (s.1, s.2 ++ [sv]).2).length : Nat) - 1 : Int) = kV (Sum.inl ((s.2.length : Nat) : Int) : Key) := by
      show V.int _ = V.int _
      congr 1
      simp only [List.length_map, List.length_append, List.length_singleton]
      omega
    exact .inl ⟨_, _, .inl r2.lf, e, rfl⟩
  · rw [failD_val]
    exact q _ r2

/-! ### parts_let, attempt, call -/
theorem shape_all {d : Nat} (hd : ∀ t, TrOk d t → (encT t).canLay0 = true ∧ (encT t).depth ≤ 2 * d) : ∀ ps : List Tr, (∀ p ∈ ps, TrOk d p) → PyData.canLayAll0 (ps.map encT) = true ∧ PyData.depthAll (ps.map encT) ≤ 2 * d
  | [], _ => ⟨rfl, Nat.zero_le _⟩
  | p :: r, h => by
    have h1 := hd p (h p List.mem_cons_self)
    have h2 := shape_all hd r fun q hq => h q (List.mem_cons_of_mem _ hq)
    rw [List.map_cons]
    refine ⟨?_, ?_⟩
    · unfold PyData.canLayAll0
      rw [h1.1, h2.1]
      rfl
    · unfold PyData.depthAll
      exact Nat.max_le.mpr ⟨h1.2, h2.2⟩
theorem mode_ok (any : Bool) : PyData.strOk (modeS any) = true := by cases any <;> decide +kernel
theorem shape_tr : ∀ (d : Nat) (t : Tr), TrOk d t → (encT t).canLay0 = true ∧ (encT t).depth ≤ 2 * d
  | d + 1, .mk sv n any ps, h => by
    obtain ⟨_, _, _, _, _, hp⟩ := h
    obtain ⟨h1, h2⟩ := shape_all (fun t ht => shape_tr d t ht) ps hp
    rw [encT, encTs_map]
    refine ⟨?_, ?_⟩
    · simp only [PyData.canLay0, PyData.canLayAll0, Bool.true_and, Bool.and_true, mode_ok]
      exact h1
    · simp only [PyData.depth, PyData.depthAll]
      omega
theorem shape_parts {d : Nat} (hd : d ≤ 20) {ps : List Tr} (h : ∀ p ∈ ps, TrOk d p) : SeqAt.shaped (.tuple (ps.map encT)) = true := by
  obtain ⟨h1, h2⟩ := shape_all (fun t ht => shape_tr d t ht) ps h
  unfold SeqAt.shaped
  rw [Bool.and_eq_true]
  refine ⟨?_, decide_eq_true ?_⟩
  · simp only [PyData.canLay0]
    exact h1
  · simp only [PyData.depth]
    omega
theorem shape_nil : SeqAt.shaped (.tuple []) = true := by decide +kernel
theorem eqv_nil (ps : List Tr) : PyData.eqv (.tuple (ps.map encT)) (.tuple []) = ps.isEmpty := by
  cases ps <;> rfl
theorem mode_any (any : Bool) : decide (V.str (modeS any) = V.str "any") = any := by cases any <;> decide +kernel
/-- the parts from the i-th on -/
theorem parts_drop {f : Nat → Bool} {any e : Bool} {ps : List Tr} {i : Nat} {p : Tr} (h : ps[i]? = some p) (s : S2) : parts f any e (ps.drop i) s = if (call f p s).1 = any then (any, (call f p s).2) else parts f any e (ps.drop (i + 1)) (call f p s).2 := by
  obtain ⟨hlt, e1⟩ := List.getElem?_eq_some_iff.mp h
  rw [List.drop_eq_getElem_cons hlt, e1, parts]
theorem scParts : FnScope ["self", "call", "wanted", "part"] ["self", "call"] (C8.fnScope sParts) := C8.fnScope_by (by decide +kernel)
def Fits (w : Nat) (s : S2) : Prop := s.1.length + w ≤ 10000 ∧ s.2.length + w ≤ 10000
def spRCall (K : PySem.W.Frag) (C : Addr) (d : Nat) : Sp := fun vs H Q _ => ∃ (p : Addr) (v : V) (t : Tr) (x : List Int) (R : Ra) (k : Nat) (H0 : Hp) (s : S2), vs = [.ref p, v] ∧ Dp K H0 v (encT t) ∧ TrOk d t ∧ d ≤ 20 ∧ RunAt C x R p k H0 H s ∧ Fits (wtd d) s ∧
  ∀ H', RunAt C x R p k H0 H' (call (fOf x) t s).2 → Q (.bl (call (fOf x) t s).1) H'
def spParts (K : PySem.W.Frag) (C : Addr) (d : Nat) : Sp := fun vs H Q _ => ∃ (p : Addr) (v : V) (sv : Int) (n : Nat) (any : Bool) (ps : List Tr) (x : List Int) (R : Ra) (k : Nat) (H0 : Hp) (s : S2), vs = [.ref p, v] ∧ Dp K H0 v (encT (.mk sv n any ps)) ∧ TrOk (d + 1) (.mk sv n any ps) ∧ d ≤ 20 ∧ RunAt C x R p k H0 H s ∧ Fits (3 * wtd d) s ∧
  ∀ H', RunAt C x R p k H0 H' (parts (fOf x) any (!any || ps.isEmpty) ps s).2 → Q (.bl (parts (fOf x) any (!any || ps.isEmpty) ps s).1) H'
theorem runF_no (lf dk la ld : Addr) {m : Str} (h : (["left", "keeps", "fails", "kept", "asks", "deciders"] : List Str).contains m = false) : (runF lf dk la ld).lookup m = none := by
  simp only [List.contains_eq_mem, List.mem_cons, List.not_mem_nil, or_false, decide_eq_false_iff_not, not_or] at h
  obtain ⟨h1, h2, h3, h4, h5, h6⟩ := h
  have b : ∀ {a : Str}, ¬ m = a → (m == a) = false := fun z => beq_eq_false_iff_ne.mpr z
  unfold runF
  simp only [List.lookup_cons, b h1, b h2, b h3, b h4, b h5, b h6, List.lookup_nil]
theorem no_call (lf dk la ld : Addr) : (runF lf dk la ld).lookup ("call" : Str) = none := runF_no _ _ _ _ (by decide +kernel)
theorem no_take (lf dk la ld : Addr) : (runF lf dk la ld).lookup ("take" : Str) = none := runF_no _ _ _ _ (by decide +kernel)
theorem no_attempt (lf dk la ld : Addr) : (runF lf dk la ld).lookup ("attempt" : Str) = none := runF_no _ _ _ _ (by decide +kernel)
theorem no_parts (lf dk la ld : Addr) : (runF lf dk la ld).lookup ("parts_let" : Str) = none := runF_no _ _ _ _ (by decide +kernel)
theorem no_decide (lf dk la ld : Addr) : (runF lf dk la ld).lookup ("decide" : Str) = none := runF_no _ _ _ _ (by decide +kernel)
theorem ok_parts {C : Addr} (T : RunC K C) (B : Bn mg) (W : Consts mg) (D : Dm K C "parts_let" "Run.parts_let" sParts ["self", "call"]) {d k : Nat} (c : C8.Met P w K mg base k C "call" (spRCall K C d) []) : C8.Met P w K mg base (k + 1) C "parts_let" (spParts K C d) [] := by
  refine dm_met T.cl D scParts (fun vs H Q E h => ?_) (fun f cdv A outer s H vs Q E hr h => ?_)
  · obtain ⟨p, v, sv, n, any, ps, x, R, k, H0, s, rfl, _⟩ := h
    rfl
  obtain ⟨p, v, sv, n, any, ps, x, R, k', H0, s, rfl, hv, ⟨_, _, _, _, hl3, hps⟩, hd20, r, ⟨z1, z2⟩, q⟩ := h
  obtain ⟨a, b, xs, rfl, h1, h2, h3⟩ := tr_at hv
  obtain ⟨tn, an⟩ := W.an
  have hx : xs.length = ps.length := by rw [dpa_len h3, List.length_map]
  have nd := scParts.nd
  refine ⟨_, pss_cons (ps_set (i := 2) nd rfl (.inl rfl) (pe_cmpR op_eq (pe_ix ix_tup (pv 1) pe_int (fun _ _ => rfl)) (pe_gs rfl an) (nomark _)))
    (pss_cons (ps_for PassesOwn.never rfl (pi_tup (pe_ix ix_tup (pv 1) pe_int (fun _ _ => rfl))) (pg_name (i := 3) nd rfl (.inl rfl))
      (pss_one (ps_if (pt_cmpR op_eq (C8.pe_mt c hr (Nat.le_refl _) (pv 0) (pa_cons (pv 3) pa_nil)) (pv 2) (nomark _)) (pss_one (ps_ret (pv 2))) pss_nil)))
    (pss_one (ps_ret (pe_or (pe_not (pv 2)) (pe_one (pe_cmpR (op_eqD hr.units) (pe_ix ix_tup (pv 1) pe_int (fun _ _ => rfl)) (pe_tup pa_nil) (nomark _))))))), ?_⟩
  refine ⟨_, rfl, a, _, 2, .str (modeS any), rfl, rfl, ex_t r.ex h1, rfl, rfl, ?_⟩
  rw [mode_any]
  refine ⟨_, rfl, a, _, 3, .ref b, rfl, rfl, ex_t r.ex h1, rfl, b, rfl, ⟨_, ex_t r.ex h2⟩, ?_⟩
  refine for_tup (K := K) (a := b) (xs := xs) (fun i σ H' => ∃ (s' : S2) (o : Option V), σ = [some (.ref p), some (.ref a), some (.bl any), o] ∧ RunAt C x R p k' H0 H' s' ∧ Fits ((3 - i) * wtd d) s' ∧
    parts (fOf x) any (!any || ps.isEmpty) ps s = parts (fOf x) any (!any || ps.isEmpty) (ps.drop i) s') ⟨s, none, rfl, r, ⟨z1, z2⟩, rfl⟩ (fun i σ H' _ ⟨_, _, _, r', _⟩ => ex_t r'.ex h2) ?_ ?_
  · rintro i y σ H' hi ⟨s', o, rfl, r', ⟨y1, y2⟩, e⟩
    obtain ⟨t, ht, hm, hx2⟩ := tr_part h3 hi
    have hlt := (List.getElem?_eq_some_iff.mp hi).1
    have hi3 : i < 3 := by omega
    have ew : (3 - i) * wtd d = (3 - (i + 1)) * wtd d + wtd d := by
      rw [← Nat.succ_mul]
      congr 1
      omega
    refine ⟨_, rfl, p, R.dx, _, rfl, r'.ins, no_call _ _ _ _, _, rfl, p, y, t, x, R, k', H0, s', rfl, hx2, hps t hm, hd20, r', ⟨by omega, by omega⟩, fun H2 r2 => ?_⟩
    refine ⟨_, rfl, rfl, _, rfl, ?_⟩
    rw [parts_drop ht] at e
    refine ite2 (fun c => ?_) (fun c => ?_)
    · have c' : (call (fOf x) t s').1 = any := by
        have z := of_decide_eq_true c
        injection z
      rw [if_pos c'] at e
      refine ⟨_, rfl, ?_⟩
      have q2 := q H2 (by rw [e]; exact r2)
      rw [e] at q2
      exact q2
    · have c' : ¬ (call (fOf x) t s').1 = any := fun z => c (decide_eq_true (by rw [z]))
      rw [if_neg c'] at e
      have g := grow_call (f := fOf x) d t (hps t hm) s'
      refine ⟨_, _, rfl, r2, ⟨?_, ?_⟩, e⟩
      · omega
      · omega
  · rintro σ H' ⟨s', o, rfl, r', _, e⟩
    rw [List.drop_of_length_le (by omega), parts] at e
    have q2 := q H' (by rw [e]; exact r')
    rw [e] at q2
    refine ⟨_, rfl, any, rfl, !any, rfl, ?_⟩
    cases any with
    | false => exact iteT q2
    | true =>
      refine iteF ?_
      refine ⟨_, rfl, a, _, 3, .ref b, rfl, rfl, ex_t r'.ex h1, rfl, Nat.zero_le _, fun e2 ne2 => ?_⟩
      refine ⟨.tuple (ps.map encT), .tuple [], .tup (ex_t (r'.ex.trans (ex_new ne2)) h2) (dpa_ex (r'.ex.trans (ex_new ne2)) h3), .tup (SqT.of upd_same) .nil, shape_parts hd20 hps, shape_nil, ?_⟩
      rw [eqv_nil]
      have r3 : RunAt C x R p k' H0 (upd H' e2 (.tup [])) s' := by
        obtain ⟨kvs, hk, hl⟩ := r'.dk
        have g := ex_new (o := .tup []) ne2
        exact ⟨r'.ex.trans g, r'.ndk, r'.nla, r'.nld, g _ _ r'.ins, g _ _ r'.lf, ⟨kvs, g _ _ hk, hl⟩, g _ _ r'.la, g _ _ r'.ld, r'.ne1, r'.ne2⟩
      have q3 := q _ (by rw [e]; exact r3)
      rw [e] at q3
      exact q3

theorem scAttempt : FnScope ["self", "call"] ["self", "call"] (C8.fnScope sAttempt) := C8.fnScope_by (by decide +kernel)
def attT (f : Nat → Bool) (sv : Int) (any : Bool) (ps : List Tr) : S2 → Bool × S2 := attG f sv (parts f any (!any || ps.isEmpty) ps)
def spAttempt (K : PySem.W.Frag) (C : Addr) (d : Nat) : Sp := fun vs H Q _ => ∃ (p : Addr) (v : V) (sv : Int) (n : Nat) (any : Bool) (ps : List Tr) (x : List Int) (R : Ra) (k : Nat) (H0 : Hp) (s : S2), vs = [.ref p, v] ∧ Dp K H0 v (encT (.mk sv n any ps)) ∧ TrOk (d + 1) (.mk sv n any ps) ∧ d ≤ 20 ∧ RunAt C x R p k H0 H s ∧ Fits (1 + 3 * wtd d) s ∧
  ∀ H', RunAt C x R p (k + 1) H0 H' (attT (fOf x) sv any ps s).2 → Q (.bl (attT (fOf x) sv any ps s).1) H'
theorem ok_attempt {C : Addr} (T : RunC K C) (D : Dm K C "attempt" "Run.attempt" sAttempt ["self", "call"]) {d k : Nat} (hk : 1 ≤ k) (c : C8.Met P w K mg base k C "parts_let" (spParts K C d) []) (cD : C8.Met P w K mg base 1 C "decide" (spDecide C) []) : C8.Met P w K mg base (k + 1) C "attempt" (spAttempt K C d) [] := by
  refine dm_met T.cl D scAttempt (fun vs H Q E h => ?_) (fun f cdv A outer s H vs Q E hr h => ?_)
  · obtain ⟨p, v, sv, n, any, ps, x, R, k, H0, s, rfl, _⟩ := h
    rfl
  obtain ⟨p, v, sv, n, any, ps, x, R, k', H0, s, rfl, hv, ht, hd20, r, ⟨z1, z2⟩, q⟩ := h
  obtain ⟨a, b, xs, rfl, h1, h2, h3⟩ := tr_at hv
  have hl3 : ps.length ≤ 3 := ht.2.2.2.2.1
  have hps := ht.2.2.2.2.2
  refine ⟨_, pss_cons (ps_expr (pe_bm PySem.F.plainAttrs_list PySem.F.slot_list_append PySem.F.type_list_append mt_append (pe_fld (pv 0) rfl) (pa_cons (pe_ix ix_tup (pv 1) pe_int (fun _ _ => rfl)) pa_nil)))
    (pss_one (ps_ret (pe_and (C8.pe_mt c hr (Nat.le_refl _) (pv 0) (pa_cons (pv 1) pa_nil)) (pe_one (C8.pe_mt cD hr hk (pv 0) (pa_cons (pe_ix ix_tup (pv 1) pe_int (fun _ _ => rfl)) pa_nil)))))), ?_⟩
  refine ⟨_, rfl, p, C, R.dx, _, _, rfl, r.ins, T.cl, T.nAsks, runF_asks _ _ _ _, .inl ⟨rfl, _, SqL.of r.la⟩, _, rfl, a, _, 0, .int sv, rfl, rfl, ex_t r.ex h1, rfl, R.la, _, _, rfl, rfl, r.la, szl (by rw [List.length_map]; omega), ?_⟩
  have r1 := r.ask sv
  refine ⟨_, rfl, p, R.dx, _, rfl, r1.ins, no_parts _ _ _ _, _, rfl, p, .ref a, sv, n, any, ps, x, R, k' + 1, H0, _, rfl, hv, ht, hd20, r1, ⟨by simp only [List.length_append, List.length_singleton]; omega, by simp only; omega⟩, fun H2 r2 => ?_⟩
  have g := grow_parts (f := fOf x) (any := any) (e := !any || ps.isEmpty) ps (fun p hp => grow_call d p (hps p hp)) (s.1 ++ [sv], s.2)
  have gm : ps.length * wtd d ≤ 3 * wtd d := Nat.mul_le_mul_right _ hl3
  refine ⟨_, rfl, ?_⟩
  unfold attT attG at q
  refine ite2 (fun hc => ?_) (fun hc => ?_)
  · rw [if_pos hc] at q
    refine ⟨_, rfl, p, R.dx, _, rfl, r2.ins, no_decide _ _ _ _, _, rfl, a, _, 0, .int sv, rfl, rfl, ex_t r2.ex h1, rfl, p, sv, x, R, k' + 1, H0, _, rfl, r2, ?_, fun H3 r3 => q H3 r3⟩
    have g2 := g.2
    simp only at g2
    omega
  · rw [if_neg hc] at q
    have hf : (parts (fOf x) any (!any || ps.isEmpty) ps (s.1 ++ [sv], s.2)).1 = false := by
      cases z : (parts (fOf x) any (!any || ps.isEmpty) ps (s.1 ++ [sv], s.2)).1 with
      | false => rfl
      | true => exact absurd z hc
    exact q H2 r2

abbrev nRCall : List Str := ["self", "call", "service", "tries", "mode", "parts", "number"]
theorem scRCall : FnScope nRCall ["self", "call"] (C8.fnScope sRCall) := C8.fnScope_by (by decide +kernel)
theorem ok_rcall {C : Addr} (T : RunC K C) (B : Bn mg) (D : Dm K C "call" "Run.call" sRCall ["self", "call"]) {d k : Nat} (hk : 1 ≤ k) (c : C8.Met P w K mg base k C "attempt" (spAttempt K C d) []) (cT : C8.Met P w K mg base 1 C "take" (spTake C) []) : C8.Met P w K mg base (k + 1) C "call" (spRCall K C (d + 1)) [] := by
  refine dm_met T.cl D scRCall (fun vs H Q E h => ?_) (fun f cdv A outer s H vs Q E hr h => ?_)
  · obtain ⟨p, v, t, x, R, k, H0, s, rfl, _⟩ := h
    rfl
  obtain ⟨p, v, ⟨sv, n, any, ps⟩, x, R, k', H0, s, rfl, hv, ht, hd20, r, ⟨z1, z2⟩, q⟩ := h
  obtain ⟨a, b, xs, rfl, h1, h2, h3⟩ := tr_at hv
  have hn3 : n ≤ 3 := ht.2.2.2.1
  have hl3 : ps.length ≤ 3 := ht.2.2.2.2.1
  have hps := ht.2.2.2.2.2
  have nd := scRCall.nd
  refine ⟨_, pss_cons (ps_asg (pv 1) (pg_tup (by rfl) (pgs_cons (pg_name (i := 2) nd rfl (.inl rfl)) (pgs_cons (pg_name (i := 3) nd rfl (.inl rfl)) (pgs_cons (pg_name (i := 4) nd rfl (.inl rfl)) (pgs_cons (pg_name (i := 5) nd rfl (.inl rfl)) pgs_nil))))))
    (pss_cons (ps_if (PW.pt (pw_and (pt_val (pe_fld (pv 0) rfl)) (pw_and1 (pt_cmp (pc_din (hu_of hr) (pv 2) (pe_fld (pv 0) rfl)) rfl)))) (pss_one (ps_ret pe_bl)) pss_nil)
    (pss_cons (ps_for PassesOwn.never rfl (pi_range1 (by rfl) B.range (pa_cons (pv 3) pa_nil)) (pg_name (i := 6) nd rfl (.inl rfl))
      (pss_cons (ps_if (PW.pt (pw_and (pt_cmpR op_gt (pv 6) pe_int (nomark _)) (pw_and1 (pt_not (pt_val (C8.pe_mt0 cT hr hk (pv 0))))))) (pss_one (ps_ret pe_bl)) pss_nil)
      (pss_one (ps_if (pt_val (C8.pe_mt c hr (Nat.le_refl _) (pv 0) (pa_cons (pv 1) pa_nil))) (pss_cons (ps_dput (hu_of hr) (pe_fld (pv 0) rfl) (pv 2) pe_bl rfl) (pss_one (ps_ret pe_bl))) pss_nil))))
    (pss_one (ps_ret pe_bl)))), ?_⟩
  refine ⟨_, rfl, a, _, rfl, ex_t r.ex h1, rfl, _, _, rfl, _, _, rfl, _, _, rfl, _, _, rfl, rfl, ?_⟩
  refine ⟨_, rfl, p, C, R.dx, _, _, rfl, r.ins, T.cl, T.nKeeps, runF_keeps _ _ _ _, false, rfl, iteF (iteF ?_)⟩
  refine ⟨_, rfl, (n : Int), rfl, by omega, by omega, ?_⟩
  have ec : call (fOf x) (.mk sv n any ps) s = rep (attT (fOf x) sv any ps) n s := call_eq _ _ _ _ _ _
  rw [ec] at q
  have ew : wtd (d + 1) = 3 * (1 + 3 * wtd d) := rfl
  refine for_range (lo := 0) (n := (n : Int).toNat) (fun i σ H' => ∃ (s' : S2) (o : Option V), σ = [some (.ref p), some (.ref a), some (.int sv), some (.int (n : Int)), some (.str (modeS any)), some (.ref b), o] ∧ RunAt C x R p k' H0 H' s' ∧ Fits ((3 - i) * (1 + 3 * wtd d)) s' ∧
    rep (attT (fOf x) sv any ps) n s = rep (attT (fOf x) sv any ps) (n - i) s') ⟨s, none, rfl, r, ⟨by rw [ew] at z1; exact z1, by rw [ew] at z2; exact z2⟩, rfl⟩ ?_ ?_
  · rintro i σ H' hi ⟨s', o, rfl, r', ⟨y1, y2⟩, e⟩
    have hi3 : i < n := by omega
    have eq1 : (3 - i) * (1 + 3 * wtd d) = (3 - (i + 1)) * (1 + 3 * wtd d) + (1 + 3 * wtd d) := by
      rw [← Nat.succ_mul]
      congr 1
      omega
    have step : ∀ {Q' : Prop}, (Q' ) → Q' := fun z => z
    have go : ∀ (H1 : Hp), RunAt C x R p k' H0 H1 s' → 
        (tIfS (tB (tMeth C "attempt" (spAttempt K C d) [] C8.E0 (tVar 0) (tCons (tVar 1) tNil))) (tSeq (sDPut (tFld K (tVar 0) "kept") (tVar 2) (tC (.bl true))) (tRet (tC (.bl true)))) tNext)
          { nx := fun σ' H' => ∃ (s' : S2) (o : Option V), σ' = [some (.ref p), some (.ref a), some (.int sv), some (.int (n : Int)), some (.str (modeS any)), some (.ref b), o] ∧ RunAt C x R p k' H0 H' s' ∧ Fits ((3 - (i + 1)) * (1 + 3 * wtd d)) s' ∧ rep (attT (fOf x) sv any ps) n s = rep (attT (fOf x) sv any ps) (n - (i + 1)) s', rt := Q,
            ct := fun σ' H' => ∃ (s' : S2) (o : Option V), σ' = [some (.ref p), some (.ref a), some (.int sv), some (.int (n : Int)), some (.str (modeS any)), some (.ref b), o] ∧ RunAt C x R p k' H0 H' s' ∧ Fits ((3 - (i + 1)) * (1 + 3 * wtd d)) s' ∧ rep (attT (fOf x) sv any ps) n s = rep (attT (fOf x) sv any ps) (n - (i + 1)) s',
            bk := fun σ H => tRet (tC (.bl false)) { nx := fun _ H' => Q .non H', rt := Q } σ H }
          [some (.ref p), some (.ref a), some (.int sv), some (.int (n : Int)), some (.str (modeS any)), some (.ref b), some (.int (0 + (i : Int)))] H1 := fun H1 r1 => by
      refine ⟨_, rfl, p, R.dx, _, rfl, r1.ins, no_attempt _ _ _ _, _, rfl, p, .ref a, sv, n, any, ps, x, R, k', H0, s', rfl, hv, ht, by omega, r1, ⟨by omega, by omega⟩, fun H2 r2 => ?_⟩
      have er : rep (attT (fOf x) sv any ps) (n - i) s' = if (attT (fOf x) sv any ps s').1 = true then (true, (attT (fOf x) sv any ps s').2) else rep (attT (fOf x) sv any ps) (n - (i + 1)) (attT (fOf x) sv any ps s').2 := by
        rw [show n - i = (n - (i + 1)) + 1 by omega, rep]
      refine ⟨_, rfl, ?_⟩
      refine ite2 (fun hc => ?_) (fun hc => ?_)
      · rw [if_pos hc] at er
        obtain ⟨kvs, hkv, hkl⟩ := r2.dk
        have g := grow_att (f := fOf x) (sv := sv) (grow_parts (f := fOf x) (any := any) (e := !any || ps.isEmpty) ps fun p hp => grow_call d p (hps p hp)) s'
        have gm : ps.length * wtd d ≤ 3 * wtd d := Nat.mul_le_mul_right _ hl3
        have gl : (attT (fOf x) sv any ps s').2.1.length ≤ s'.1.length + (1 + ps.length * wtd d) := g.1
        refine ⟨_, rfl, p, C, R.dx, _, _, rfl, r2.ins, T.cl, T.nKept, runF_kept _ _ _ _, _, rfl, R.dk, _, rfl, DPut.k (k := (Sum.inl sv : Key)) hkv (szl (by omega)), ?_⟩
        have r3 := r2.put hkv (Sum.inl sv) (.bl true)
        have q2 := q _ (by rw [e, er]; exact r3)
        rw [e, er] at q2
        exact q2
      · rw [if_neg hc] at er
        have g := grow_att (f := fOf x) (sv := sv) (grow_parts (f := fOf x) (any := any) (e := !any || ps.isEmpty) ps fun p hp => grow_call d p (hps p hp)) s'
        have gm : ps.length * wtd d ≤ 3 * wtd d := Nat.mul_le_mul_right _ hl3
        have g1 : (attT (fOf x) sv any ps s').2.1.length ≤ s'.1.length + (1 + ps.length * wtd d) := g.1
        have g2 : (attT (fOf x) sv any ps s').2.2.length ≤ s'.2.length + (1 + ps.length * wtd d) := g.2
        exact ⟨_, _, rfl, r2.less, ⟨by omega, by omega⟩, by rw [e, er]⟩
    refine ⟨_, rfl, _, _, rfl, rfl, _, rfl, ?_⟩
    refine ite2 (fun hc => ?_) (fun hc => ?_)
    · refine ⟨_, rfl, p, R.dx, _, rfl, r'.ins, no_take _ _ _ _, p, R, rfl, r'.ins, true, rfl, ?_⟩
      refine iteF ?_
      exact go H' r'
    · exact iteF (go H' r')
  · rintro σ H' ⟨s', o, rfl, r', _, e⟩
    rw [show n - (n : Int).toNat = 0 by omega, rep] at e
    have q2 := q H' (by rw [e]; exact r')
    rw [e] at q2
    exact q2
end
end CB

namespace CB
open PySem PySem.Spec PyProof.Rows L2 Evl
theorem putK_new {κ : Type} [DecidableEq κ] {kvs : List (κ × V)} {k : κ} {v : V} (h : (valV kvs k).isSome = false) : putK kvs k v = kvs ++ [(k, v)] := by
  unfold putK
  rw [valV_any, h]
  simp
theorem failD_snoc {x : List Int} {i : Nat} {n : Int} (hp : x.Pairwise (· < ·)) (h : x[i]? = some n) : putK (failD (x.take i)) (Sum.inl n : Key) (.bl true) = failD (x.take (i + 1)) := by
  rw [putK_new]
  · rw [take_snoc h]
    unfold failD
    rw [List.map_append]
    rfl
  · rw [failD_val]
    refine decide_eq_false fun hm => ?_
    obtain ⟨hlt, e⟩ := List.getElem?_eq_some_iff.mp h
    obtain ⟨j, hj, e2⟩ := List.mem_take_iff_getElem.mp hm
    have z := List.pairwise_iff_getElem.mp hp j i (by omega) hlt (by omega)
    rw [e2, e] at z
    omega
section
variable {P : Program} {w : World} {K : PySem.W.Frag} {mg : Str → Option Value} {base : Heap}
/-! ### Run.__init__ -/
abbrev nInit : List Str := ["self", "plan", "fails", "number"]
theorem scInit : FnScope nInit ["self", "plan", "fails"] (C8.fnScope sInit) := C8.fnScope_by (by decide +kernel)
def spInit (K : PySem.W.Frag) (C : Addr) : Sp := fun vs H Q _ => ∃ (p dx a : Addr) (v : V) (x : List Int) (H0 : Hp), vs = [.ref p, .ref a, v] ∧ Ex H0 H ∧ H0 p = none ∧ H p = some (.ins C dx []) ∧ SqT K H0 a [.non, .bl false] ∧ Dp K H0 v (encI x) ∧ SetL x ∧
  ∀ H' R, RunAt C x R p 0 H0 H' ([], []) → Q .non H'
structure Di (K : PySem.W.Frag) (mg : Str → Option Value) (C : Addr) : Prop where
  ex : ∃ f fd, C8.Fun K "__init__" "Run.__init__" sInit f fd ∧ Mk K C f ∧ Binds K fd ["self", "plan", "fails"] []
  mgC : mg "Run" = some (.ref C)
theorem ok_init {C : Addr} (T : RunC K C) (D : Di K mg C) : C8.Mak P w K mg base 1 "Run" C (spInit K C) [] := by
  obtain ⟨f, fd, F, M, b⟩ := D.ex
  refine C8.mak0 M D.mgC F b .nil scInit (fun vs H Q E h => ?_) (fun cdv A outer s H vs Q E hr h => ?_)
  · obtain ⟨p, dx, a, v, x, H0, rfl, _⟩ := h
    rfl
  obtain ⟨p, dx, a, v, x, H0, rfl, e0, np, hp, ha, hv, hx, q⟩ := h
  obtain ⟨fa, rfl, hf⟩ := ints_at hv
  have nd := scInit.nd
  refine ⟨_, pss_cons (ps_asg (pv 1) (pg_tup (by rfl) (pgs_cons (pg_fld (pv 0)) (pgs_cons (pg_fld (pv 0)) pgs_nil))))
    (pss_cons (ps_fld (pv 0) (pe_dc (own := [("number", 3)]) (g := gName 3) (tt := tYes) rfl nd (pi_tup (pv 2)) (blkOk_by (own := [("number", 3)]) (N := nInit) (sc := C8.fnScope sInit) (by decide +kernel))
      (fun _ _ _ _ _ => pg_name (i := 3) nd rfl (Or.inl rfl)) (fun _ _ _ _ _ => pts_nil) (fun _ _ _ _ _ => pv 3) (fun _ _ _ _ _ => pe_bl)) rfl)
    (pss_cons (ps_fld (pv 0) pe_dnewK rfl)
    (pss_cons (ps_fld (pv 0) (pe_lst pa_nil) rfl)
    (pss_one (ps_fld (pv 0) (pe_lst pa_nil) rfl))))), ?_⟩
  refine ⟨_, rfl, a, _, rfl, ex_t e0 ha, rfl, _, _, rfl, _, rfl, p, C, dx, _, rfl, hp, T.cl, T.nLeft, (by show 0 < 1000; decide), ?_⟩
  refine ⟨_, _, rfl, _, rfl, p, C, dx, _, rfl, upd_same, T.cl, T.nKeeps, (by show 1 < 1000; decide), rfl, ?_⟩
  have e1 := (e0.mut (o := .ins C dx (putF "left" .non [])) np).mut (o := .ins C dx (putF "keeps" (.bl false) (putF "left" .non []))) np
  refine ⟨_, rfl, fa, rfl, ⟨_, ex_t e1 hf⟩, fun D nD => ?_⟩
  have nD0 : H0 D = none := fresh_back e1 nD
  have npD : p ≠ D := fun z => by
    subst z
    rw [upd_same] at nD
    cases nD
  refine dc_tup (K := K) (a := fa) (xs := x.map V.int) (fun i H' => Ex H0 H' ∧ H' p = some (.ins C dx (putF "keeps" (.bl false) (putF "left" .non []))) ∧ H' D = some (.dK (failD (x.take i)))) ⟨e1.trans (ex_new nD), by rw [upd_ne npD, upd_same], upd_same⟩ (fun i H' _ pv => ex_t pv.1 hf) (fun i y H' hi pv => ?_) (fun H' pv => ?_)
  · obtain ⟨u, hu, rfl⟩ : ∃ u, x[i]? = some u ∧ y = V.int u := by
      rw [List.getElem?_map] at hi
      cases e : x[i]? with
      | none => rw [e] at hi; cases hi
      | some u => rw [e] at hi; exact ⟨u, rfl, (Option.some.inj hi).symm⟩
    have hlt := (List.getElem?_eq_some_iff.mp hu).1
    have h3 := hx.2.2
    refine ⟨rfl, yes ?_⟩
    refine ⟨_, rfl, failD (x.take i), Sum.inl u, rfl, pv.2.2, szl (by unfold failD; rw [List.length_map, List.length_take]; omega), pv.1.mut nD0, by rw [upd_ne npD]; exact pv.2.1, by rw [upd_same, failD_snoc hx.1 hu]⟩
  obtain ⟨e2, hp2, hD⟩ := pv
  rw [List.length_map, List.take_of_length_le (Nat.le_refl _)] at hD
  refine ⟨_, rfl, p, C, dx, _, rfl, hp2, T.cl, T.nFails, (by show 2 < 1000; decide), ?_⟩
  -- {}
  intro dk ndk
  have npk : p ≠ dk := fun z => by
    subst z
    rw [upd_same] at ndk
    cases ndk
  have e3 := e2.mut (o := .ins C dx (putF "fails" (.ref D) (putF "keeps" (.bl false) (putF "left" .non [])))) np
  have ndk0 : H0 dk = none := fresh_back e3 ndk
  have hD3 : (upd H' p (.ins C dx (putF "fails" (.ref D) (putF "keeps" (.bl false) (putF "left" .non []))))) D = some (.dK (failD x)) := by rw [upd_ne npD.symm]; exact hD
  have nDk : D ≠ dk := ne_of_none hD3 ndk
  refine ⟨_, rfl, p, C, dx, _, rfl, by rw [upd_ne npk, upd_same], T.cl, T.nKept, (by show 3 < 1000; decide), ?_⟩
  -- []
  refine ⟨Nat.zero_le _, fun la nla => ?_⟩
  have npa : p ≠ la := fun z => by
    subst z
    rw [upd_same] at nla
    cases nla
  rw [upd_ne npa.symm] at nla
  have nka : dk ≠ la := fun z => by
    subst z
    rw [upd_same] at nla
    cases nla
  rw [upd_ne nka.symm, upd_ne npa.symm] at nla
  have nDa : D ≠ la := ne_of_none hD nla
  have nla0 : H0 la = none := fresh_back e2 nla
  refine ⟨_, rfl, p, C, dx, _, rfl, by rw [upd_ne npa, upd_same], T.cl, T.nAsks, (by show 4 < 1000; decide), ?_⟩
  refine ⟨Nat.zero_le _, fun ld nld => ?_⟩
  have npd : p ≠ ld := fun z => by
    subst z
    rw [upd_same] at nld
    cases nld
  rw [upd_ne npd.symm] at nld
  have nad : la ≠ ld := fun z => by
    subst z
    rw [upd_same] at nld
    cases nld
  rw [upd_ne nad.symm, upd_ne npd.symm] at nld
  have nkd : dk ≠ ld := fun z => by
    subst z
    rw [upd_same] at nld
    cases nld
  rw [upd_ne nkd.symm, upd_ne npd.symm] at nld
  have nDd : D ≠ ld := ne_of_none hD nld
  have nld0 : H0 ld = none := fresh_back e2 nld
  refine ⟨_, rfl, p, C, dx, _, rfl, by rw [upd_ne npd, upd_same], T.cl, T.nDec, (by show 5 < 1000; decide), ?_⟩
  refine q _ ⟨dx, D, dk, la, ld⟩ ⟨?_, ndk0, nla0, nld0, ?_, ?_, ⟨[], ?_, Nat.le_refl _⟩, ?_, ?_, nad, nDk⟩
  · exact ((((((e3.mut ndk0).mut np).mut nla0).mut np).mut nld0).mut np)
  · rw [upd_same]
    exact congrArg (fun z => some (HO.ins C dx z)) (runF_put D dk la ld)
  · rw [upd_ne npD.symm, upd_ne nDd, upd_ne npD.symm, upd_ne nDa, upd_ne npD.symm, upd_ne nDk, upd_ne npD.symm]
    exact hD
  · rw [upd_ne npk.symm, upd_ne nkd, upd_ne npk.symm, upd_ne nka, upd_ne npk.symm, upd_same]
  · rw [upd_ne npa.symm, upd_ne nad, upd_ne npa.symm, upd_same]; rfl
  · rw [upd_ne npd.symm, upd_same]; rfl

/-! ### ran -/
theorem rcall_all {C : Addr} (T : RunC K C) (B : Bn mg) (W : Consts mg) (D1 : Dm K C "call" "Run.call" sRCall ["self", "call"]) (D2 : Dm K C "attempt" "Run.attempt" sAttempt ["self", "call"]) (D3 : Dm K C "parts_let" "Run.parts_let" sParts ["self", "call"])
    (D4 : Dm K C "take" "Run.take" sTake ["self"]) (D5 : Dm K C "decide" "Run.decide" sDecide ["self", "service"]) : ∀ d : Nat, C8.Met P w K mg base (3 * d + 1) C "call" (spRCall K C d) []
  | 0 => dm_dead T.cl D1 fun vs H Q E h => by
    obtain ⟨p, v, t, x, R, k, H0, s, _, _, h, _⟩ := h
    exact h
  | d + 1 => by
    have ih := rcall_all T B W D1 D2 D3 D4 D5 d
    have h2 := ok_attempt T D2 (by omega) (ok_parts T B W D3 ih) (ok_decide T B D5)
    exact ok_rcall T B D1 (by omega) h2 (ok_take T D4)
abbrev sRan : Stmt := topS 25
theorem scRan : FnScope ["tree", "plan", "fails", "run", "answered"] ["tree", "plan", "fails"] (C8.fnScope sRan) := C8.fnScope_by (by decide +kernel)
def spRan (K : PySem.W.Frag) : Sp := fun vs H Q _ => ∃ (v : V) (a : Addr) (v3 : V) (t : Tr) (x : List Int), vs = [v, .ref a, v3] ∧ TreeV K H v t ∧ SqT K H a [.non, .bl false] ∧ Dp K H v3 (encI x) ∧ SetL x ∧
  Ret H Q fun r H' => Dp K H' r (.tuple [.bool (runT t x).1, encI (runT t x).2.1])
theorem wt3 : wtd 3 = 273 := rfl
theorem run_len1 {t : Tr} (ht : TrOk 3 t) {x : List Int} : (runT t x).2.1.length ≤ 273 := by
  have g := (grow_call (f := fOf x) 3 t ht ([], [])).1
  rw [wt3] at g
  show (call (fOf x) t ([], [])).2.1.length ≤ 273
  simpa using g
theorem run_len2 {t : Tr} (ht : TrOk 3 t) {x : List Int} : (runT t x).2.2.length ≤ 273 := by
  have g := (grow_call (f := fOf x) 3 t ht ([], [])).2
  rw [wt3] at g
  show (call (fOf x) t ([], [])).2.2.length ≤ 273
  simpa using g
theorem ok_ran {C : Addr} (D : Dd K mg "ran" sRan ["tree", "plan", "fails"]) (B : Bn mg) (T : RunC K C) (c1 : C8.Cal P w K mg base 7 "need_tree" (spNeedTree K) []) (c2 : C8.Cal P w K mg base 3 "need_plan" (spNeedPlan K) []) (c3 : C8.Cal P w K mg base 1 "is_fails" (spIsFails K) [])
    (cI : C8.Mak P w K mg base 1 "Run" C (spInit K C) []) (cR : C8.Met P w K mg base 10 C "call" (spRCall K C 3) []) : C8.Cal P w K mg base 11 "ran" (spRan K) [] := by
  refine dd_cal D scRan (fun vs H Q E h => ?_) (fun f cdv A outer s H vs Q E hr h => ?_)
  · obtain ⟨v, a, v3, t, x, rfl, _⟩ := h
    rfl
  obtain ⟨v, a, v3, t, x, rfl, ⟨hv, ht, hc⟩, ha, h3, hx, q⟩ := h
  have nd := scRan.nd
  refine ⟨_, pss_cons (ps_expr (C8.pe_c c1 hr (by omega) rfl (pa_cons (pv 0) pa_nil)))
    (pss_cons (ps_expr (C8.pe_c c2 hr (by omega) rfl (pa_cons (pv 1) pa_nil)))
    (pss_cons (ps_if (pt_not (pt_val (C8.pe_c c3 hr (by omega) rfl (pa_cons (pv 2) pa_nil)))) (pss_one ps_never) pss_nil)
    (pss_cons (ps_set (i := 3) nd rfl (.inl rfl) (C8.pe_mk cI hr (by omega) rfl (pa_cons (pv 1) (pa_cons (pv 2) pa_nil))))
    (pss_cons (ps_set (i := 4) nd rfl (.inl rfl) (C8.pe_mt cR hr (by omega) (pv 3) (pa_cons (pv 0) pa_nil)))
    (pss_one (ps_ret (pe_tup (pa_cons (pv 4) (pa_cons (pe_callTy call_tuple_of (by rfl) B.tuple bT_tuple (pa_cons (pe_fld (pv 3) rfl) pa_nil)) pa_nil))))))))), ?_⟩
  refine ⟨_, rfl, v, t, rfl, ⟨hv, ht, hc⟩, fun _ H1 e1 _ => ?_⟩
  refine ⟨_, rfl, a, rfl, ex_t e1 ha, fun _ H2 e2 _ => ?_⟩
  have e12 := e1.trans e2
  refine ⟨_, rfl, v3, x, rfl, dp_ex e12 h3, hx, fun r H3 e3 er => ?_⟩
  subst er
  have e13 := e12.trans e3
  refine ⟨true, rfl, iteF ?_⟩
  refine ⟨_, rfl, _, rfl, fun p dx np ndx nex => ?_⟩
  have s0 : Ex H3 (upd (upd H3 dx (.own p)) p (.ins C dx [])) := ((Ex.refl H3).mut ndx).mut np
  refine ⟨p, dx, a, v3, x, H3, rfl, s0, np, upd_same, ex_t e13 ha, dp_ex e13 h3, hx, fun H4 R r4 => ⟨rfl, ?_⟩⟩
  refine ⟨_, rfl, p, R.dx, _, rfl, r4.ins, no_call _ _ _ _, _, rfl, p, v, t, x, R, 0, H3, ([], []), rfl, dp_ex e13 hv, ht, by decide, r4, ⟨by rw [wt3]; decide, by rw [wt3]; decide⟩, fun H5 r5 => ?_⟩
  have e5 : Ex H H5 := e13.trans r5.ex
  refine ⟨_, rfl, _, rfl, p, C, R.dx, _, _, rfl, r5.ins, T.cl, T.nAsks, runF_asks _ _ _ _, R.la, _, rfl, .inl ⟨SqL.of r5.la, fun l nl => ?_⟩⟩
  refine ⟨(by show 2 ≤ sizeLine; decide), fun u nu => ?_⟩
  refine q _ _ ((e5.trans (ex_new nl)).trans (ex_new nu)) ?_
  exact .tup (SqT.of upd_same) (.cons (.bl _) (.cons (at_ints (ex_t (ex_new nu) (SqT.of upd_same))) .nil))

/-! ### count_asks, has_most -/
abbrev sCountAsks : Stmt := topS 40
theorem scCountAsks : FnScope ["asks", "service"] ["asks", "service"] (C8.fnScope sCountAsks) := C8.fnScope_by (by decide +kernel)
def svV : Option Int → V
  | none => .non
  | some s => .int s
def spCountAsks (K : PySem.W.Frag) : Sp := fun vs H Q _ => ∃ (l : Addr) (as : List Int) (sv : Option Int), vs = [.ref l, svV sv] ∧ SqL K H l (as.map V.int) ∧ Q (.int (cnt sv as : Int)) H
theorem ok_count_asks (D : Dd K mg "count_asks" sCountAsks ["asks", "service"]) (B : Bn mg) : C8.Cal P w K mg base 1 "count_asks" (spCountAsks K) [] := by
  refine dd_cal D scCountAsks (fun vs H Q E h => ?_) (fun f cdv A outer s H vs Q E hr h => ?_)
  · obtain ⟨l, as, sv, rfl, _⟩ := h
    rfl
  obtain ⟨l, as, sv, rfl, hl, q⟩ := h
  refine ⟨_, pss_one (ps_ret (pe_ifExp (pt_cmpR op_isN (pv 1) pe_non (nomark _)) (pe_callB call_len_seq (by rfl) B.len PySem.boot_len (pa_cons (pv 0) pa_nil))
    (pe_bm PySem.F.plainAttrs_list PySem.F.slot_list_count PySem.F.type_list_count mt_lcount (pv 0) (pa_cons (pv 1) pa_nil)))), ?_⟩
  refine ⟨_, rfl, rfl, _, rfl, ?_⟩
  cases sv with
  | none =>
    refine iteT ?_
    refine ⟨_, rfl, l, _, rfl, .inl hl, ?_⟩
    have e : ((as.map V.int).length : Nat) = cnt none as := by simp [cnt]
    rw [e]
    exact q
  | some k =>
    refine iteF ?_
    exact ⟨_, rfl, .inl ⟨rfl, _, hl⟩, _, rfl, l, as, k, rfl, rfl, hl, q⟩
abbrev sHasMost : Stmt := topS 41
abbrev nHasMost : List Str := ["tree", "failing", "service", "most", "fails", "run", "failed", "at", "one"]
theorem scHasMost : FnScope nHasMost ["tree", "failing", "service", "most", "fails"] (C8.fnScope sHasMost) := C8.fnScope_by (by decide +kernel)
def spHasMost (K : PySem.W.Frag) : Sp := fun vs H Q _ => ∃ (v v2 v5 : V) (t : Tr) (fl x : List Int) (sv : Option Int) (m : Int), vs = [v, v2, svV sv, .int m, v5] ∧ TreeV K H v t ∧ Dp K H v2 (encI fl) ∧ fl.length ≤ 1000 ∧ Dp K H v5 (encI x) ∧ SetL x ∧ Fine (fOf x) fl 0 (runT t x).2.2 ∧ (cnt sv (runT t x).2.1 : Int) = m ∧
  Ret H Q fun r _ => r = .bl true
structure PlainC (K : PySem.W.Frag) (mg : Str → Option Value) : Prop where
  pl : ∃ a, mg "PLAIN" = some (.ref a) ∧ ∀ H, SqT K H a [.non, .bl false]
theorem flat_ints (x : List Int) : (x.map V.int).all flatV = true := by
  rw [List.all_map]
  simp [flatV]
theorem inV_ints (n : Int) (x : List Int) : inV (.int n) (x.map V.int) = decide (n ∈ x) := by
  unfold inV
  rw [List.any_map]
  induction x with
  | nil => rfl
  | cons m r ih =>
    rw [List.any_cons, ih]
    simp only [Function.comp, eqV]
    by_cases e : m = n
    · subst e; simp
    · have e' : ¬ n = m := fun z => e z.symm
      simp [e, e']
theorem ok_has_most {C : Addr} (D : Dd K mg "has_most" sHasMost ["tree", "failing", "service", "most", "fails"]) (B : Bn mg) (T : RunC K C) (L : PlainC K mg) (c1 : C8.Cal P w K mg base 1 "count_asks" (spCountAsks K) [])
    (cI : C8.Mak P w K mg base 1 "Run" C (spInit K C) []) (cR : C8.Met P w K mg base 10 C "call" (spRCall K C 3) []) : C8.Cal P w K mg base 11 "has_most" (spHasMost K) [] := by
  refine dd_cal D scHasMost (fun vs H Q E h => ?_) (fun f cdv A outer s H vs Q E hr h => ?_)
  · obtain ⟨v, v2, v5, t, fl, x, sv, m, rfl, _⟩ := h
    rfl
  obtain ⟨v, v2, v5, t, fl, x, sv, m, rfl, ⟨hv, ht, hc⟩, h2, hfl, h5, hx, hfine, hm, q⟩ := h
  obtain ⟨aP, mP, hP⟩ := L.pl
  obtain ⟨af, rfl, hf⟩ := ints_at h2
  have nd := scHasMost.nd
  refine ⟨_, pss_cons (ps_set (i := 5) nd rfl (.inr rfl) (C8.pe_mk cI hr (by omega) rfl (pa_cons (pe_glob (v := .ref aP) rfl mP rfl) (pa_cons (pv 4) pa_nil))))
    (pss_cons (ps_expr (C8.pe_mt cR hr (by omega) (pv 5) (pa_cons (pv 0) pa_nil)))
    (pss_cons (ps_setLc (i := 6) (own := [("at", 7), ("one", 8)]) rfl nd rfl rfl (sw_true rfl rfl rfl (by decide +kernel)) (pi_enum (by rfl) B.enum (pa_cons (pe_fld (pv 5) rfl) pa_nil))
        (blkOk_by (own := [("at", 7), ("one", 8)]) (N := nHasMost) (sc := C8.fnScope sHasMost) (by decide +kernel))
        (fun _ _ _ _ _ => pg_tupK K (n := 2) rfl (pgs_cons (pg_name (i := 7) nd rfl (Or.inl rfl)) (pgs_cons (pg_name (i := 8) nd rfl (Or.inl rfl)) pgs_nil)))
        (fun _ _ _ _ _ => pts_one (pt_cmp (pc_din (hu_of hr) (pv 7) (pe_fldK K (pv 5) rfl)) rfl)) (fun _ _ _ _ _ => pv 8))
    (pss_one (ps_ret (pe_and (pe_callB (cr_all rfl) (by rfl) B.all bB_all (pa_cons (pe_lc (own := [("one", 8)]) (g := gName 8) (tt := tYes) rfl nd (pi_list (pv 6))
        (blkOk_by (own := [("one", 8)]) (N := nHasMost) (sc := C8.fnScope sHasMost) (by decide +kernel))
        (fun _ _ _ _ _ => pg_name (i := 8) nd rfl (Or.inl rfl)) (fun _ _ _ _ _ => pts_nil) (fun _ _ _ _ _ => pe_cmpR (op_in_seqK K) (pv 8) (pv 1) (by rfl))) pa_nil))
      (pe_one (pe_cmpR op_eq (C8.pe_c c1 hr (by omega) rfl (pa_cons (pe_fld (pv 5) rfl) (pa_cons (pv 2) pa_nil))) (pv 3) (nomark _)))))))), ?_⟩
  refine ⟨_, rfl, fun p dx np ndx nex => ?_⟩
  have s0 : Ex H (upd (upd H dx (.own p)) p (.ins C dx [])) := ((Ex.refl H).mut ndx).mut np
  refine ⟨p, dx, aP, v5, x, H, rfl, s0, np, upd_same, hP H, h5, hx, fun H4 R r4 => ⟨rfl, ?_⟩⟩
  refine ⟨_, rfl, p, R.dx, _, rfl, r4.ins, no_call _ _ _ _, _, rfl, p, v, t, x, R, 0, H, ([], []), rfl, hv, ht, by decide, r4, ⟨by rw [wt3]; decide, by rw [wt3]; decide⟩, fun H5 r5 => ?_⟩
  have r5 : RunAt C x R p 0 H H5 (runT t x).2 := r5
  have g2 : (runT t x).2.2.length ≤ 273 := run_len2 ht
  -- failed
  refine ⟨_, rfl, p, C, R.dx, _, _, rfl, r5.ins, T.cl, T.nDec, runF_deciders _ _ _ _, R.ld, _, rfl, SqL.of r5.ld, fun D nD => ?_⟩
  have nD0 : H D = none := fresh_back r5.ex nD
  refine lc_it (walk_enum (xs := (runT t x).2.2.map V.int)) (fun i H' => Ex H5 H' ∧ ∃ ys : List Int, H' D = some (.lst (ys.map V.int)) ∧ (∀ y ∈ ys, y ∈ fl) ∧ ys.length ≤ i) ⟨ex_new nD, [], upd_same, fun _ z => (by cases z), Nat.le_refl _⟩ (fun i H' _ p => SqL.of (p.1 _ _ r5.ld)) (fun i y H' H'' hi pv y => ?_) (fun H6 pv => ?_)
  · obtain ⟨T', x1, y1, rfl, hT, rfl, hx1, hy1⟩ := y
    have hx1 : some (V.int ((i : Nat) : Int)) = some x1 := hx1
    cases hx1
    have hy1 : ((runT t x).2.2.map V.int)[i]? = some y1 := hy1
    rw [List.getElem?_map] at hy1
    cases eu : (runT t x).2.2[i]? with
    | none => rw [eu] at hy1; cases hy1
    | some u =>
      rw [eu] at hy1
      simp only [Option.map_some, Option.some.injEq] at hy1
      subst hy1
      obtain ⟨ep, ys, hD, hys, hyl⟩ := pv
      have hlt := (List.getElem?_eq_some_iff.mp eu).1
      have eT := ex_new (o := .tup [.int ((i : Nat) : Int), .int u]) hT
      refine ⟨T', _, rfl, SqT.of upd_same, rfl, _, _, rfl, _, _, rfl, rfl, rfl, ?_⟩
      refine ⟨_, rfl, _, rfl, p, C, R.dx, _, _, rfl, eT _ _ (ep _ _ r5.ins), T.cl, T.nFails, runF_fails _ _ _ _, R.lf, valV (failD x) (Sum.inl ((i : Nat) : Int) : Key), rfl, .inl ⟨_, Sum.inl ((i : Nat) : Int), .inl (eT _ _ (ep _ _ r5.lf)), rfl, rfl⟩, _, rfl, ?_⟩
      rw [failD_val]
      refine ite2 (fun hcc => ?_) (fun hcc => ?_)
      · refine ⟨_, rfl, _, eT _ _ hD, szl (by rw [List.length_map]; omega), (ep.trans eT).mut nD, ys ++ [u], ?_, ?_, ?_⟩
        · rw [upd_same, List.map_append]; rfl
        · intro z hz
          rcases List.mem_append.mp hz with hz | hz
          · exact hys z hz
          · rw [List.mem_singleton.mp hz]
            exact hfine i u eu (by rw [Nat.zero_add]; exact hcc)
        · rw [List.length_append, List.length_singleton]; omega
      · exact ⟨ep.trans eT, ys, eT _ _ hD, hys, by omega⟩
  obtain ⟨e6, ys, hD, hys, hyl⟩ := pv
  rw [List.length_map] at hyl
  have eH6 : Ex H H6 := r5.ex.trans e6
  refine ⟨_, rfl, D, rfl, ⟨_, SqL.of hD⟩, fun D2 nD2 => ?_⟩
  refine lc_list (xs := ys.map V.int) (Tr1 H6 D2) (tr1_start (Ex.refl H6) nD2) (fun i H' _ p => SqL.of (p.1 _ _ hD)) (fun i y H' hi pv => ?_) (fun H7 pv => ?_)
  · rw [List.getElem?_map] at hi
    cases eu : ys[i]? with
    | none => rw [eu] at hi; cases hi
    | some u =>
      rw [eu] at hi
      simp only [Option.map_some, Option.some.injEq] at hi
      subst hi
      have hlt := (List.getElem?_eq_some_iff.mp eu).1
      refine ⟨rfl, yes ?_⟩
      refine ⟨_, rfl, _, rfl, af, _, rfl, .inr (ex_t (eH6.trans pv.1) hf), rfl, flat_ints _, ?_⟩
      rw [if_neg Bool.false_ne_true, inV_ints, decide_eq_true (hys u (List.mem_of_getElem? eu))]
      exact tr1_turn pv nD2 (Ex.refl H') (by omega)
  refine ⟨D2, _, rfl, SqL.of pv.2, true, by rw [all_true], iteT ?_⟩
  have e7 := e6.trans pv.1
  refine ⟨_, rfl, p, C, R.dx, _, _, rfl, e7 _ _ r5.ins, T.cl, T.nAsks, runF_asks _ _ _ _, _, rfl, R.la, _, sv, rfl, SqL.of (e7 _ _ r5.la), _, rfl, rfl, ?_⟩
  refine q _ _ (r5.ex.trans e7) ?_
  rw [hm, decide_eq_true rfl]
end
end CB

set_option maxHeartbeats 4000000
namespace CB
open PySem PySem.Spec PyProof.Rows L2 Evl
theorem tuple_mul1 (l : Addr) (items : Array Value) (n : Nat) (dd : Option Addr) (sl : Array (Option Value)) (u : Tok) :
    Meets (Builtin.«tuple.__mul__» ⟨[.ref l, .int 1 u], []⟩) (fun _ R s => s.heap.get? l = some { cls := .type "tuple", dict := dd, data := .seq items n, slots := sl } ∧ R (.ok (.ret (Value.ref l))) s) :=
  .of_wp fun prog w A R s h => by
    obtain ⟨hp, g, d, tk, os⟩ := s
    obtain ⟨hl, h⟩ := h
    have f1 := AutoSeq1.idx_int
    have c0 : (decide ((1 : Int) < -(2 ^ 63)) || decide ((1 : Int) ≥ 2 ^ 63)) = false := by decide
    have c1 : (items.isEmpty || (1 : Int) == 1) = true := by simp
    wp_walk using wpAny_loadPart' hl
    repeat (first
      | (refine wpAny_ite_false (decide_eq_false (by rw [c0]; exact Bool.false_ne_true)) ?_; wp_walk using wpAny_loadPart' hl)
      | (refine wpAny_ite_true (decide_eq_true (by rw [c1])) ?_; wp_walk using wpAny_loadPart' hl))
    exact ⟨_, rfl, h⟩
theorem tuple_mul0 (l : Addr) (items : Array Value) (n : Nat) (dd : Option Addr) (sl : Array (Option Value)) (u : Tok) (c1 : items.isEmpty = false) :
    Meets (Builtin.«tuple.__mul__» ⟨[.ref l, .int 0 u], []⟩) (fun _ R s => s.heap.get? l = some { cls := .type "tuple", dict := dd, data := .seq items n, slots := sl } ∧
      R (.ok (.ret (Value.ref s.heap.objs.size))) { s with heap := s.heap.push { cls := Value.type "tuple", data := Data.seq #[] }, toks := s.toks }) :=
  .of_wp fun prog w A R s h => by
    obtain ⟨hp, g, d, tk, os⟩ := s
    obtain ⟨hl, h⟩ := h
    have f1 := AutoSeq1.idx_int
    have c0 : (decide ((0 : Int) < -(2 ^ 63)) || decide ((0 : Int) ≥ 2 ^ 63)) = false := by decide
    have c2 : (items.isEmpty || (0 : Int) == 1) = false := by rw [c1]; rfl
    have c3 : (decide ((0 : Int) ≤ 0) || items.isEmpty) = true := by simp
    wp_walk using wpAny_loadPart' hl
    repeat (first
      | (refine wpAny_ite_false (decide_eq_false (by rw [c0]; exact Bool.false_ne_true)) ?_; wp_walk using wpAny_loadPart' hl)
      | (refine wpAny_ite_false (decide_eq_false (by rw [c2]; exact Bool.false_ne_true)) ?_; wp_walk using wpAny_loadPart' hl)
      | (refine wpAny_ite_true (decide_eq_true (by rw [c3])) ?_; wp_walk using wpAny_loadPart' hl))
    exact ⟨_, rfl, h⟩

/-- tuple * n, n from 0 on -/
def rRepA (K : PySem.W.Frag) : R2 := fun x y H Q => ∃ (l : Addr) (k : Nat) (xs : List V), x = .ref l ∧ y = .int (k : Int) ∧ SqT K H l xs ∧ xs ≠ [] ∧ k ≤ 1000 ∧ xs.length ≤ 1000 ∧ ∀ p H', Ex H H' → SqT K H' p (List.replicate k xs).flatten → Q (.ref p) H'
section
variable {X : Cx}
theorem op_repA : OpR X (binaryOp .Mult) (rRepA X.K) := by
  intro pins s σ H x y v u Q I rx ry h
  obtain ⟨l, k, xs, rfl, rfl, hT, hne, h2, hz, q⟩ := h
  by_cases hk2 : 2 ≤ k
  · refine op_repT pins s σ H _ _ v u Q I rx ry ⟨l, (k : Int), xs, rfl, rfl, hT, hne, by omega, by omega, hz, fun p hp => q p _ (ex_new hp) ?_⟩
    rw [Int.toNat_natCast]
    exact SqT.of upd_same
  · cases rx
    obtain ⟨t, rfl⟩ := ry
    obtain ⟨its, r, ⟨⟨cls, dd, data, sl⟩, ho, hc, n, hd⟩, hs⟩ := I.tuple hT
    simp only at hc hd
    subst hc hd
    have hle : its.length = xs.length := r.length.symm
    have hn : its ≠ [] := fun e => hne (by
      rw [e] at hle
      exact List.eq_nil_of_length_eq_zero hle.symm)
    have hi : its.toArray.isEmpty = false := by
      cases its with
      | nil => exact absurd rfl hn
      | cons a b => rfl
    by_cases hk1 : k = 1
    · subst hk1
      refine wpAny_binaryOp_repeat_ref (T := "tuple") (U := "int") (by decide) ⟨_, ho, rfl⟩ (fun s' => typeIs_int s' _ t) noFill_tuple_mul F.fills_int_mul F.slot_int_rmul repeat_tuple F.slot_int_index.lookup
        (call_meets F.slot_int_rmul (typeIs_int s _ t) F.entry_int_rmul (F.args_int_rmul_2 _ _) (int_rmul_tuple 1 t l its.toArray n dd sl)
          ⟨ho, rfl, ⟨_, ho, rfl⟩, call_meets F.slot_tuple_mul ⟨_, ho, rfl⟩ F.entry_tuple_mul (F.args_tuple_mul_2 _ _) (tuple_mul1 l its.toArray n dd sl t) ⟨ho, ?_⟩⟩)
      refine ⟨.ref l, H, I, rfl, q l H (Ex.refl H) ?_⟩
      rw [List.replicate_one, List.flatten_singleton]
      exact hT
    · have hk0 : k = 0 := by omega
      subst hk0
      refine wpAny_binaryOp_repeat_ref (T := "tuple") (U := "int") (by decide) ⟨_, ho, rfl⟩ (fun s' => typeIs_int s' _ t) noFill_tuple_mul F.fills_int_mul F.slot_int_rmul repeat_tuple F.slot_int_index.lookup
        (call_meets F.slot_int_rmul (typeIs_int s _ t) F.entry_int_rmul (F.args_int_rmul_2 _ _) (int_rmul_tuple 0 t l its.toArray n dd sl)
          ⟨ho, rfl, ⟨_, ho, rfl⟩, call_meets F.slot_tuple_mul ⟨_, ho, rfl⟩ F.entry_tuple_mul (F.args_tuple_mul_2 _ _) (tuple_mul0 l its.toArray n dd sl t hi) ⟨ho, ?_⟩⟩)
      have nH : H s.heap.objs.size = none := I.hok.fresh (Nat.le_refl _)
      refine ⟨.ref s.heap.objs.size, _, I.laid (t' := s.toks) (o := .tup []) (fun b ob q => Heap.get?_push_of_some _ q) (Nat.le_refl _) ?_, rfl, q _ _ (ex_new nH) (SqT.of upd_same)⟩
      exact ⟨Nat.zero_le _, [], .nil, IsTup.new _ _⟩
theorem op_repAK (K : PySem.W.Frag) (hK : X.K = K := by rfl) : OpR X (binaryOp .Mult) (rRepA K) := by subst hK; exact op_repA
end

/-! ### max of a list of rows -/
theorem row_alike (a b : Row) : PySem.W.alike (encR a) (encR b) = true := by
  have hb : ∀ xs ys : List Bool, PySem.W.alikeAll (xs.map PyData.bool) (ys.map PyData.bool) = true := by
    intro xs
    induction xs with
    | nil => intro ys; cases ys <;> rfl
    | cons x xs ih =>
      intro ys
      cases ys with
      | nil => rfl
      | cons y ys =>
        show (PySem.W.alike (.bool x) (.bool y) && PySem.W.alikeAll (xs.map PyData.bool) (ys.map PyData.bool)) = true
        rw [ih ys]
        rfl
  unfold encR encB
  simp only [PySem.W.alike, PySem.W.alikeAll, hb, Bool.and_true]
theorem row_lt {a b : Row} (h : a.1 ≠ b.1) : PySem.W.dataLt (encR a) (encR b) = decide (a.1 < b.1) := by
  unfold encR
  rw [PySem.W.dataLt_tuple, PySem.W.dataLt_all_no rfl, PySem.W.dataLt_int]
  · rw [decide_eq_decide]
    omega
  · show ((a.1 : Int) == (b.1 : Int)) = false
    rw [beq_eq_false_iff_ne]
    omega
theorem maxD_rows : ∀ (rs : List Row) (r0 : Row) (seen : List Row), r0 ∈ seen → (∀ y ∈ seen, y.1 ≤ r0.1) → ∃ r, r ∈ seen ++ rs ∧ (rs.map encR).foldl (fun a y => if PySem.W.dataLt a y then y else a) (encR r0) = encR r ∧ ∀ y ∈ seen ++ rs, y.1 ≤ r.1
  | [], r0, seen, h1, h2 => ⟨r0, by simp [h1], rfl, by simpa using h2⟩
  | x :: rs, r0, seen, h1, h2 => by
    rw [List.map_cons, List.foldl_cons]
    have e : seen ++ x :: rs = (seen ++ [x]) ++ rs := by simp
    by_cases hlt : PySem.W.dataLt (encR r0) (encR x) = true
    · rw [if_pos hlt, e]
      have hx : r0.1 ≤ x.1 := by
        by_cases hne : r0.1 = x.1
        · omega
        · rw [row_lt hne] at hlt
          have := of_decide_eq_true hlt
          omega
      refine maxD_rows rs x (seen ++ [x]) (by simp) (fun y hy => ?_)
      rcases List.mem_append.mp hy with hy | hy
      · exact Nat.le_trans (h2 y hy) hx
      · rw [List.mem_singleton.mp hy]; exact Nat.le_refl _
    · rw [if_neg hlt, e]
      have hx : x.1 ≤ r0.1 := by
        by_cases hne : r0.1 = x.1
        · omega
        · rw [row_lt hne] at hlt
          have : ¬ r0.1 < x.1 := fun z => hlt (decide_eq_true z)
          omega
      refine maxD_rows rs r0 (seen ++ [x]) (by simp [h1]) (fun y hy => ?_)
      rcases List.mem_append.mp hy with hy | hy
      · exact h2 y hy
      · rw [List.mem_singleton.mp hy]; exact hx
theorem row_depth (r : Row) : (encR r).depth ≤ 2 := by
  have hb : ∀ xs : List Bool, PyData.depthAll (xs.map PyData.bool) = 0 := by
    intro xs
    induction xs with
    | nil => rfl
    | cons x xs ih =>
      rw [List.map_cons, PyData.depthAll, ih]
      rfl
  unfold encR encB
  simp only [PyData.depth, PyData.depthAll, hb]
  decide
theorem rows_depth : ∀ rs : List Row, PyData.depthAll (rs.map encR) ≤ 2
  | [] => Nat.zero_le _
  | r :: rs => by
    rw [List.map_cons, PyData.depthAll]
    exact Nat.max_le.mpr ⟨row_depth r, rows_depth rs⟩
def rMaxR (K : PySem.W.Frag) : List V → Hp → VK → Prop := fun vs H Q => ∃ (a : Addr) (ys : List V) (rows : List Row), vs = [.ref a] ∧ SqL K H a ys ∧ DpAll K H ys (rows.map encR) ∧ rows ≠ [] ∧ ∀ v r, Dp K H v (encR r) → r ∈ rows → (∀ y ∈ rows, y.1 ≤ r.1) → Q v H
section
variable {X : Cx}
theorem cr_maxR (hc : X.calm = true) (hu : X.A.units + 64 < cLine) : CallR X (.builtin "max") (rMaxR X.K) := by
  intro pins s σ H vs us Q I r h
  obtain ⟨a, ys, rows, rfl, hs, hd, hne, q⟩ := h
  obtain ⟨its, rv, hl, _⟩ := I.list hs
  rw [Vals.ref1 r]
  cases rows with
  | nil => exact absurd rfl hne
  | cons r0 rs =>
    obtain ⟨as, hr⟩ := Dp.readsAll I _ _ _ hd rv
    rw [List.map_cons] at hr
    have hal : PySem.W.AlikeAll (encR r0 :: rs.map encR) := ⟨fun x hx y hy => by
      rw [← List.map_cons] at hx hy
      obtain ⟨x', _, rfl⟩ := List.mem_map.mp hx
      obtain ⟨y', _, rfl⟩ := List.mem_map.mp hy
      exact row_alike _ _, fun x hx z => by
      rw [← List.map_cons] at hx
      obtain ⟨x', _, rfl⟩ := List.mem_map.mp hx
      cases z⟩
    have hdep := rows_depth (r0 :: rs)
    rw [List.map_cons] at hdep
    refine PySem.W.max_list_data (I.ok.hd hc) hl.isList hr hal (by omega) fun i v h' tk bs hi hrd hk => ?_
    obtain ⟨r1, h1, h2, h3⟩ := maxD_rows rs r0 [r0] (by simp) (fun y hy => by rw [List.mem_singleton.mp hy]; exact Nat.le_refl _)
    have e0 : PySem.W.maxD (encR r0) (rs.map encR) = encR r1 := h2
    rw [e0] at hrd
    have hi' : its[i]? = some v := by simpa using hi
    cases hy : ys[i]? with
    | none =>
      have z := rv.none_of hy
      rw [z] at hi'
      cases hi'
    | some y =>
      obtain ⟨u, hu1, hu2⟩ := rv.get hy
      rw [hi'] at hu1
      cases hu1
      obtain ⟨dd, hdd, hdp⟩ := dpa_get hd hy
      obtain ⟨bs2, hrd2⟩ := Dp.reads I dd y v hdp hu2
      have e := reads_det (h := s.heap) (h' := h') (fun b o e _ => hk b o e) hrd2 hrd
      have e1 : dd = encR r1 := by first | exact e.symm | exact e.1.symm | exact e | exact e.1
      subst e1
      exact ⟨y, H, I.kept hk, hu2, q y r1 hdp h1 h3⟩
end
end CB

set_option maxHeartbeats 4000000
namespace CB
open PySem PySem.Spec PyProof.Rows L2 Evl
/-- zip of three tuples as they stand at each turn, the items in new tuples -/
def Itz3 (K : PySem.W.Frag) (a b c : Addr) : It :=
  ⟨fun i H => ∃ (xs ys zs : List V), SqT K H a xs ∧ SqT K H b ys ∧ SqT K H c zs ∧ i < min (min xs.length ys.length) zs.length,
    fun i H v H' => ∃ T x y z, v = .ref T ∧ H T = none ∧ H' = upd H T (.tup [x, y, z]) ∧ (∀ xs, SqT K H a xs → xs[i]? = some x) ∧ (∀ ys, SqT K H b ys → ys[i]? = some y) ∧ ∀ zs, SqT K H c zs → zs[i]? = some z,
    fun i H => ∃ xs ys zs : List V, SqT K H a xs ∧ SqT K H b ys ∧ SqT K H c zs ∧ i = min (min xs.length ys.length) zs.length⟩
theorem turn_zip3 {P : Program} {w : World} {K : PySem.W.Frag} {elts : List Expr} {kk : Nat} {tpos : Pos} {a b c z TI TO i1 i2 i3 : Addr} (D : ZipSep3 z TI TO i1 i2 i3 [i1, a] [i2, b] [i3, c]) (n1 : a ≠ i1) (n2 : b ≠ i2) (n3 : c ≠ i3) :
    Turn P w K (.Tuple elts kk tpos) (Itz3 K a b c) [z, TI, TO, i1, i2, i3] z (fun i h => IsZip h z TI TO .none ∧ IsTupOf3 h TI (.ref i1) (.ref i2) (.ref i3) ∧ (∃ x y u, IsTupOf3 h TO x y u) ∧ h.IsTupleIter i1 a i ∧ h.IsTupleIter i2 b i ∧ h.IsTupleIter i3 c i) where
  mem := by simp
  obj := fun i h st c hc => by
    obtain ⟨hz, hTI, ⟨x, y, u, hTO⟩, ⟨o1, e1, _, d1⟩, ⟨o2, e2, _, d2⟩, ⟨o3, e3, _, d3⟩⟩ := st
    have e' : c = z ∨ c = TI ∨ c = TO ∨ c = i1 ∨ c = i2 ∨ c = i3 := by simpa using hc
    rcases e' with q | q | q | q | q | q
    · rw [q]; exact ⟨_, hz, fun v q => nomatch q⟩
    · rw [q]; exact ⟨_, hTI, fun v q => nomatch q⟩
    · rw [q]; exact ⟨_, hTO, fun v q => nomatch q⟩
    · rw [q]; exact ⟨o1, e1, fun v q => by rw [d1] at q; cases q⟩
    · rw [q]; exact ⟨o2, e2, fun v q => by rw [d2] at q; cases q⟩
    · rw [q]; exact ⟨o3, e3, fun v q => by rw [d3] at q; cases q⟩
  keep := fun i h h' st k => by
    obtain ⟨hz, hTI, ⟨x, y, u, hTO⟩, h1, h2, h3⟩ := st
    exact ⟨k z (by simp) _ hz, k TI (by simp) _ hTI, ⟨x, y, u, k TO (by simp) _ hTO⟩, h1.at fun o q => k i1 (by simp) o q, h2.at fun o q => k i2 (by simp) o q, h3.at fun o q => k i3 (by simp) o q⟩
  item := by
    intro X hP hw hK hc i pins s σ H E I hf st hg
    subst hP hw hK
    obtain ⟨hz, hTI, hTO, h1, h2, h3⟩ := st
    obtain ⟨xs, ys, zs, hqx, hqy, hqz, hi⟩ := hg
    obtain ⟨its, rv, p, _⟩ := I.tuple hqx
    obtain ⟨its2, rv2, p2, _⟩ := I.tuple hqy
    obtain ⟨its3, rv3, p3, _⟩ := I.tuple hqz
    have l1 := rv.length
    have l2 := rv2.length
    have l3 := rv3.length
    have hh : X.A.in1.handled = none := I.ok.hd hc
    have G := GoesN.zip3 (prog := X.prog) (w := X.w) (elts := elts) (x1 := kk) (pos := tpos) D (Draws.tuple (A := X.A.in1) hh i1 a n1 its.toArray) (Draws.tuple (A := X.A.in1) hh i2 b n2 its2.toArray) (Draws.tuple (A := X.A.in1) hh i3 c n3 its3.toArray)
    have q1 : s.heap.IsTuple a its.toArray := by obtain ⟨o, e, c1, n, d⟩ := p; exact ⟨o, e, c1, n, d⟩
    have q2 : s.heap.IsTuple b its2.toArray := by obtain ⟨o, e, c1, n, d⟩ := p2; exact ⟨o, e, c1, n, d⟩
    have q3 : s.heap.IsTuple c its3.toArray := by obtain ⟨o, e, c1, n, d⟩ := p3; exact ⟨o, e, c1, n, d⟩
    refine G.goes i s _ E (by simp only [List.size_toArray]; omega) ⟨hz, hTI, hTO, ⟨h1, q1⟩, ⟨h2, q2⟩, ⟨h3, q3⟩⟩ fun v h' tk hY st' hk htk => ?_
    obtain ⟨T, x, y, u, rfl, hT, hx, hy, hu, hTT⟩ := hY
    have hx' : its[i]? = some x := by simpa using hx
    have hy' : its2[i]? = some y := by simpa using hy
    have hu' : its3[i]? = some u := by simpa using hu
    have g1 : ∃ vx, xs[i]? = some vx := ⟨xs[i]'(by omega), by simp [show i < xs.length by omega]⟩
    have g2 : ∃ vx, ys[i]? = some vx := ⟨ys[i]'(by omega), by simp [show i < ys.length by omega]⟩
    have g3 : ∃ vx, zs[i]? = some vx := ⟨zs[i]'(by omega), by simp [show i < zs.length by omega]⟩
    obtain ⟨vx, ex⟩ := g1
    obtain ⟨vy, ey⟩ := g2
    obtain ⟨vz, ez⟩ := g3
    obtain ⟨u1, a1, r1⟩ := rv.get ex
    obtain ⟨u2, a2, r2⟩ := rv2.get ey
    obtain ⟨u3, a3, r3⟩ := rv3.get ez
    rw [hx'] at a1
    rw [hy'] at a2
    rw [hu'] at a3
    cases a1
    cases a2
    cases a3
    have hf' : ∀ b ∈ [z, TO, i1, i2, i3], FpOk X pins H b := fun b hb => hf b (by
      simp only [List.mem_cons, List.not_mem_nil, or_false] at hb ⊢
      rcases hb with e | e | e | e | e <;> simp [e])
    have new : ObjOk X.prog X.w (upd H T (.tup [vx, vy, vz])) h' T (.tup [vx, vy, vz]) := by
      obtain ⟨o, e, c1, n, d⟩ := hTT
      exact ⟨by show 3 ≤ sizeLine; decide, [x, y, u], .cons r1 (.cons r2 (.cons r3 .nil)), ⟨o, e, c1, n, d⟩⟩
    have I1 : Inv X pins σ (upd H T (.tup [vx, vy, vz])) { s with heap := h', toks := tk } := I.turnedNew (ch := [z, TO, i1, i2, i3]) hk hf' hT new
    obtain ⟨hz', hTI', hTO', s1, s2, s3⟩ := st'
    refine ⟨.ref T, _, I1, rfl, ⟨T, vx, vy, vz, rfl, I.hok.fresh hT, rfl, fun l hl => by rw [I.tuple_inj hl hqx]; exact ex, fun l hl => by rw [I.tuple_inj hl hqy]; exact ey, fun l hl => by rw [I.tuple_inj hl hqz]; exact ez⟩, ⟨hz', hTI', hTO', s1.1, s2.1, s3.1⟩, fun b hb => ?_⟩
    have hlt : b < s.heap.objs.size := by
      simp only [List.mem_cons, List.not_mem_nil, or_false] at hb
      obtain ⟨xo, yo, uo, hTO⟩ := hTO
      rcases hb with q | q | q | q | q | q
      · rw [q]; exact Heap.lt_size hz
      · rw [q]; exact Heap.lt_size hTI
      · rw [q]; exact Heap.lt_size hTO
      · rw [q]; obtain ⟨_, e1, _⟩ := h1; exact Heap.lt_size e1
      · rw [q]; obtain ⟨_, e1, _⟩ := h2; exact Heap.lt_size e1
      · rw [q]; obtain ⟨_, e1, _⟩ := h3; exact Heap.lt_size e1
    rw [upd_ne (Nat.ne_of_lt (Nat.lt_of_lt_of_le hlt hT))]
    exact (hf b hb).1
  done := by
    intro X hP hw hK hc i pins s σ H E I hf st hg
    subst hP hw hK
    obtain ⟨hz, hTI, hTO, h1, h2, h3⟩ := st
    obtain ⟨xs, ys, zs, hqx, hqy, hqz, hi⟩ := hg
    obtain ⟨its, rv, p, _⟩ := I.tuple hqx
    obtain ⟨its2, rv2, p2, _⟩ := I.tuple hqy
    obtain ⟨its3, rv3, p3, _⟩ := I.tuple hqz
    have l1 := rv.length
    have l2 := rv2.length
    have l3 := rv3.length
    have hh : X.A.in1.handled = none := I.ok.hd hc
    have G := GoesN.zip3 (prog := X.prog) (w := X.w) (elts := elts) (x1 := kk) (pos := tpos) D (Draws.tuple (A := X.A.in1) hh i1 a n1 its.toArray) (Draws.tuple (A := X.A.in1) hh i2 b n2 its2.toArray) (Draws.tuple (A := X.A.in1) hh i3 c n3 its3.toArray)
    have q1 : s.heap.IsTuple a its.toArray := by obtain ⟨o, e, c1, n, d⟩ := p; exact ⟨o, e, c1, n, d⟩
    have q2 : s.heap.IsTuple b its2.toArray := by obtain ⟨o, e, c1, n, d⟩ := p2; exact ⟨o, e, c1, n, d⟩
    have q3 : s.heap.IsTuple c its3.toArray := by obtain ⟨o, e, c1, n, d⟩ := p3; exact ⟨o, e, c1, n, d⟩
    have en : i = min (min its.toArray.size its2.toArray.size) its3.toArray.size := by simp only [List.size_toArray]; omega
    subst en
    have hf' : ∀ b ∈ [z, TO, i1, i2, i3], FpOk X pins H b := fun b hb => hf b (by
      simp only [List.mem_cons, List.not_mem_nil, or_false] at hb ⊢
      rcases hb with e | e | e | e | e <;> simp [e])
    exact G.stops s _ E ⟨hz, hTI, hTO, ⟨h1, q1⟩, ⟨h2, q2⟩, ⟨h3, q3⟩⟩ fun h' tk hk htk => I.turnedL (ch := [z, TO, i1, i2, i3]) hk hf'
  self := fun A i s Q E st h => wpAny_pyIter_zip st.1 h
def iZip3 (K : PySem.W.Frag) (ta : TA) : TI := fun σ H R => ta σ H fun vs H1 => ∃ a b c xs ys zs, vs = [.ref a, .ref b, .ref c] ∧ SqT K H1 a xs ∧ SqT K H1 b ys ∧ SqT K H1 c zs ∧ R (Itz3 K a b c) H1
theorem pi_zip3 {X : Cx} {e e2 e3 : Expr} {ta : TA} {p pos tpos : Pos} {elts : List Expr} {kk : Nat} (hg : Gl X "zip") (hm : X.mg "zip" = none) (ha : PA X [e, e2, e3] ta)
    (hs : starEach [e, e2, e3] X.env = (false, eval e X.env) :: starEach [e2, e3] X.env := by rfl) (hpl : (backTo pos (starEach [e2, e3] X.env)).any (·.1) = false := by rfl) :
    PI X (.Tuple elts kk tpos) (.Call (.Name "zip" p) [e, e2, e3] [] pos) (iZip3 X.K ta) := by
  refine ⟨fun pins s σ H R I h => ?_⟩
  refine Call_ (ld_blt I hg hm PyProof.Rows.boot_zip (PyProof.Rows.callWith_type1 (thn (ha.run pos pins s σ H _ I h) fun us s1 ⟨vs, H1, I1, r1, q1⟩ => ?_) hs hpl))
  obtain ⟨a, b, c, xs, ys, zs, ex, hqx, hqy, hqz, q⟩ := q1
  subst ex
  cases r1 with
  | cons r rr =>
    cases rr with
    | cons r' rr =>
      cases rr with
      | cons r'' rr =>
        cases rr
        cases r
        cases r'
        cases r''
        obtain ⟨its, rv, p1, _⟩ := I1.tuple hqx
        obtain ⟨its2, rv2, p2, _⟩ := I1.tuple hqy
        obtain ⟨its3, rv3, p3, _⟩ := I1.tuple hqz
        have q1 : s1.heap.IsTuple a its.toArray := by obtain ⟨o, e, c1, n, d⟩ := p1; exact ⟨o, e, c1, n, d⟩
        have q2 : s1.heap.IsTuple b its2.toArray := by obtain ⟨o, e, c1, n, d⟩ := p2; exact ⟨o, e, c1, n, d⟩
        have q3 : s1.heap.IsTuple c its3.toArray := by obtain ⟨o, e, c1, n, d⟩ := p3; exact ⟨o, e, c1, n, d⟩
        have la : a < s1.heap.objs.size := p1.lt
        have lb : b < s1.heap.objs.size := p2.lt
        have lc : c < s1.heap.objs.size := p3.lt
        refine zip_begins3 (begins_tuple a its.toArray) (begins_tuple b its2.toArray) (begins_tuple c its3.toArray) q1 q2 q3 fun h' hz hTI hTO e1 e2' e3' hsz hk => wpAny_pyIter_zip hz ?_
        have I2 : Inv X pins σ H1 { s1 with heap := h' } := I1.kept (t' := s1.toks) hk
        have S : ZipSep3 (s1.heap.objs.size + 5) (s1.heap.objs.size + 3) (s1.heap.objs.size + 4) s1.heap.objs.size (s1.heap.objs.size + 1) (s1.heap.objs.size + 2) [s1.heap.objs.size, a] [s1.heap.objs.size + 1, b] [s1.heap.objs.size + 2, c] :=
          zip_sep3 (N := s1.heap.objs.size) (fp1 := [a]) (fp2 := [b]) (fp3 := [c]) (fun x hx => by rw [List.mem_singleton.mp hx]; exact la) (fun x hx => by rw [List.mem_singleton.mp hx]; exact lb) (fun x hx => by rw [List.mem_singleton.mp hx]; exact lc)
        refine ⟨s1.heap.objs.size + 5, [s1.heap.objs.size + 5, s1.heap.objs.size + 3, s1.heap.objs.size + 4, s1.heap.objs.size, s1.heap.objs.size + 1, s1.heap.objs.size + 2], _, _, H1, rfl, I2,
          turn_zip3 S (Nat.ne_of_lt la) (Nat.ne_of_lt (Nat.lt_succ_of_lt lb)) (Nat.ne_of_lt (Nat.lt_succ_of_lt (Nat.lt_succ_of_lt lc))), ⟨hz, hTI, ⟨_, _, _, hTO⟩, ⟨_, e1, rfl, rfl⟩, ⟨_, e2', rfl, rfl⟩, ⟨_, e3', rfl, rfl⟩⟩, fun x hx => ?_, q⟩
        have hle : s1.heap.objs.size ≤ x := by
          simp only [List.mem_cons, List.not_mem_nil, or_false] at hx
          rcases hx with z | z | z | z | z | z
          · rw [z]; exact Nat.le_add_right _ _
          · rw [z]; exact Nat.le_add_right _ _
          · rw [z]; exact Nat.le_add_right _ _
          · rw [z]; exact Nat.le_refl _
          · rw [z]; exact Nat.le_add_right _ _
          · rw [z]; exact Nat.le_add_right _ _
        exact I1.fpOk hle (I1.hok.fresh hle)
/-- a new tuple of three -/
def YTrip (xs ys zs : Nat → Option V) : Nat → Hp → V → Hp → Prop := fun i H v H' => ∃ T x y z, v = .ref T ∧ H T = none ∧ H' = upd H T (.tup [x, y, z]) ∧ xs i = some x ∧ ys i = some y ∧ zs i = some z
theorem walk_zip3 {K : PySem.W.Frag} {a b c : Addr} {xs ys zs : List V} {n : Nat} (hn : n = min (min xs.length ys.length) zs.length) : Walk (Itz3 K a b c) n (fun H => SqT K H a xs ∧ SqT K H b ys ∧ SqT K H c zs) (YTrip (fun i => xs[i]?) (fun i => ys[i]?) (fun i => zs[i]?)) := by
  subst hn
  refine ⟨fun i _ hi q => ⟨xs, ys, zs, q.1, q.2.1, q.2.2, hi⟩, fun _ q => ⟨xs, ys, zs, q.1, q.2.1, q.2.2, rfl⟩, fun i H v H' _ q y => ?_⟩
  obtain ⟨T, x, y, z, h1, h2, h3, h4, h5, h6⟩ := y
  exact ⟨T, x, y, z, h1, h2, h3, h4 xs q.1, h5 ys q.2.1, h6 zs q.2.2⟩
end CB

namespace CB
open PySem PySem.Spec PyProof.Rows L2 Evl

/-! ### what evaluates to something of which this holds -/
def EvP (te : TE) (σ : L2.St) (H : Hp) (P : V → Hp → Prop) : Prop := ∀ H1, Ex H H1 → ∀ Q : VK, (∀ v H2, Ex H1 H2 → P v H2 → Q v H2) → te σ H1 Q
section
variable {K : PySem.W.Frag} {σ : L2.St} {H : Hp}
theorem evp_tup1 (b : Bool) : EvP (tTup (tCons (tC (.bl b)) tNil)) σ H (fun v H' => Dp K H' v (encB [b])) := fun H1 e Q q =>
  ⟨(by show 1 ≤ sizeLine; decide), fun p np => q _ _ (ex_new np) (at_bools (ns := [b]) (SqT.of upd_same))⟩
theorem flat_rep (k : Nat) (b : Bool) : (List.replicate k [V.bl b]).flatten = (List.replicate k b).map V.bl := by
  induction k with
  | zero => rfl
  | succ k ih => rw [List.replicate_succ, List.flatten_cons, ih, List.replicate_succ]; rfl
theorem evp_rep {b : Bool} {i k : Nat} (hs : σ[i]? = some (some (.int (k : Int)))) (hk : k ≤ 1000) : EvP (tOp (rRepA K) (tTup (tCons (tC (.bl b)) tNil)) (tVar i)) σ H (fun v H' => Dp K H' v (encB (List.replicate k b))) := fun H1 e Q q => by
  refine ⟨(by show 1 ≤ sizeLine; decide), fun p np => ?_⟩
  refine ⟨_, hs, p, k, [.bl b], rfl, rfl, SqT.of upd_same, by simp, hk, by simp, fun p2 H2 e2 h2 => ?_⟩
  refine q _ _ ((ex_new np).trans e2) (at_bools ?_)
  rw [← flat_rep]
  exact h2
theorem evp_cat {ta tb : TE} {xs ys : List Bool} (ha : EvP ta σ H (fun v H' => Dp K H' v (encB xs))) (hb : EvP tb σ H (fun v H' => Dp K H' v (encB ys))) (hl : xs.length + ys.length ≤ 1000) : EvP (tOp (rCatA K) ta tb) σ H (fun v H' => Dp K H' v (encB (xs ++ ys))) := fun H1 e Q q => by
  refine ha H1 e _ fun v1 H2 e2 h2 => hb H2 (e.trans e2) _ fun v2 H3 e3 h3 => ?_
  obtain ⟨a, rfl, sa⟩ := bools_at (dp_ex e3 h2)
  obtain ⟨b, rfl, sb⟩ := bools_at h3
  have ee := e2.trans e3
  refine ⟨a, b, _, _, rfl, rfl, sa, sb, sz3 (by rw [List.length_map, List.length_map]; omega), fun z => ?_, fun z1 z2 => ?_, fun z1 z2 p np => ?_⟩
  · have : xs = [] := by cases xs with | nil => rfl | cons x r => cases z
    subst this
    exact q _ _ ee h3
  · have : ys = [] := by cases ys with | nil => rfl | cons x r => cases z2
    subst this
    rw [List.append_nil] at q
    exact q _ _ ee (dp_ex e3 h2)
  · refine q _ _ (ee.trans (ex_new np)) (at_bools ?_)
    rw [List.map_append]
    exact SqT.of upd_same
def encW (r : Rw) : PyData := .tuple [encB r.1, .bool r.2]
theorem evp_row {ta : TE} {xs : List Bool} {d : Bool} (ha : EvP ta σ H (fun v H' => Dp K H' v (encB xs))) : EvP (tTup (tCons ta (tCons (tC (.bl d)) tNil))) σ H (fun v H' => Dp K H' v (encW (xs, d))) := fun H1 e Q q => by
  refine ha H1 e _ fun v1 H2 e2 h2 => ⟨(by show 2 ≤ sizeLine; decide), fun p np => ?_⟩
  exact q _ _ (e2.trans (ex_new np)) (.tup (SqT.of upd_same) (.cons (dp_ex (ex_new np) h2) (.cons (.bl _) .nil)))
theorem asg_op {r : R2} {ta tb : TE} {g : TG} {D : Ends} (h : ta σ H fun x H1 => tb σ H1 fun y H2 => r x y H2 fun z H3 => g z σ H3 D.nx) : tAsg (tOp r ta tb) g D σ H := h
theorem lst1 {te : TE} {Q : VK} (h : te σ H fun x H1 => [x].length ≤ sizeLine ∧ ∀ p, H1 p = none → Q (.ref p) (upd H1 p (.lst [x]))) : tLst (tCons te tNil) σ H Q := h
/-- a list of data, in the heap for itself -/
def LsD (K : PySem.W.Frag) (ds : List PyData) (v : V) (H : Hp) : Prop := ∃ D ys, v = .ref D ∧ H D = some (.lst ys) ∧ DpAll K H ys ds
theorem LsD.ex {ds : List PyData} {v : V} {H' : Hp} (h : LsD K ds v H) (e : Ex H H') : LsD K ds v H' := by
  obtain ⟨D, ys, rfl, h1, h2⟩ := h
  exact ⟨D, ys, rfl, e _ _ h1, dpa_ex e h2⟩
theorem evp_rows {j m : Nat} {ta : TA} {tg : TE} {g : Nat → PyData} (vs : List Nat) (hm : m ≤ 1000) (ha : ∀ H1, Ex H H1 → ∀ Q : List V → Hp → Prop, Q [.int (m : Int)] H1 → ta σ H1 Q)
    (hw : ∀ x, wipe ((wipe σ vs).set j (some x)) vs = wipe σ vs) (hg : ∀ i, noL (g i) = true) (he : ∀ (i : Nat) H1, Ex H H1 → i < m → EvP tg ((wipe σ vs).set j (some (.int (i : Int)))) H1 (fun v H' => Dp K H' v (g i))) :
    EvP (tLc (iRng1 ta) (gName j) tYes tg vs) σ H (LsD K ((List.range m).map g)) := fun H1 e Q q => by
  refine ha H1 e _ ⟨(m : Int), rfl, by omega, by omega, fun D nD => ?_⟩
  refine lc_range (lo := 0) (n := (m : Int).toNat) (fun i H' => Ex H1 H' ∧ ∃ ys, H' D = some (.lst ys) ∧ ys.length ≤ i ∧ DpAll K H' ys ((List.range i).map g)) ⟨ex_new nD, [], upd_same, Nat.le_refl _, .nil⟩ (fun i H' hi p => ?_) (fun H' p => ?_)
  · obtain ⟨e1, ys, hD, hl, hd⟩ := p
    have e0 : (0 : Int) + (i : Int) = (i : Int) := Int.zero_add _
    rw [e0]
    refine ⟨hw _, yes ?_⟩
    refine he i H' (e.trans e1) (by omega) H' (Ex.refl H') _ fun v H2 e2 hv => ?_
    refine ⟨ys, e2 _ _ hD, szl (by omega), (e1.trans e2).mut nD, ys ++ [v], upd_same, by rw [List.length_append, List.length_singleton]; omega, ?_⟩
    rw [List.range_succ, List.map_append]
    have tx : Tx H2 (upd H2 D (.lst (ys ++ [v]))) := Tx.lst (e2 _ _ hD)
    refine dpa_append (dpa_tx tx ?_ (dpa_ex e2 hd)) (.cons (dp_tx tx (hg i) hv) .nil)
    rw [noLs_mem]
    intro d hd
    obtain ⟨k, _, rfl⟩ := List.mem_map.mp hd
    exact hg k
  · obtain ⟨e1, ys, hD, hl, hd⟩ := p
    rw [Int.toNat_natCast] at hd
    exact q _ _ e1 ⟨D, ys, rfl, hD, hd⟩
end

/-! ### the picks of a row -/
def picks (nts : List NT) (as : List Bool) : List (Option Nat) := List.zipWith (fun n g => pickN n.af g) nts as
theorem picks_sum : ∀ (nts : List NT) (as : List Bool), none ∉ picks nts as → rowSum (nts.map NT.af) as = some ((picks nts as).filterMap id).sum
  | [], as, _ => by cases as <;> rfl
  | n :: nts, [], _ => rfl
  | n :: nts, g :: as, h => by
    have h' : none ∉ pickN n.af g :: picks nts as := h
    show (match pickN n.af g, rowSum (nts.map NT.af) as with | some x, some y => some (x + y) | _, _ => none) = some ((pickN n.af g :: picks nts as).filterMap id).sum
    rw [picks_sum nts as (fun z => h' (List.mem_cons_of_mem _ z))]
    cases hp : pickN n.af g with
    | none => rw [hp] at h'; exact absurd List.mem_cons_self h'
    | some x => simp
theorem picks_none : ∀ (nts : List NT) (as : List Bool), none ∈ picks nts as → rowSum (nts.map NT.af) as = none
  | [], as, h => by cases as <;> cases h
  | n :: nts, [], h => by cases h
  | n :: nts, g :: as, h => by
    have h' : none ∈ pickN n.af g :: picks nts as := h
    show (match pickN n.af g, rowSum (nts.map NT.af) as with | some x, some y => some (x + y) | _, _ => none) = none
    rcases List.mem_cons.mp h' with e | h'
    · rw [← e]
    · rw [picks_none nts as h']
      cases pickN n.af g <;> rfl
theorem picks_get {nts : List NT} {as : List Bool} {i : Nat} {n : NT} {g : Bool} (h1 : nts[i]? = some n) (h2 : as[i]? = some g) : (picks nts as)[i]? = some (pickN n.af g) := by
  unfold picks
  rw [List.getElem?_zipWith, h1, h2]
theorem inV_none : ∀ ps : List (Option Nat), inV .non (ps.map optV) = decide (none ∈ ps)
  | [] => rfl
  | p :: r => by
    have ih := inV_none r
    unfold inV at ih ⊢
    rw [List.map_cons, List.any_cons, ih]
    cases p with
    | none => simp [optV, eqV]
    | some x => simp [optV, eqV]
theorem flat_opts (ps : List (Option Nat)) : (ps.map optV).all flatV = true := by
  rw [List.all_map, List.all_eq_true]
  intro x _
  cases x <;> rfl
theorem opts_ints : ∀ ps : List (Option Nat), none ∉ ps → ps.map optV = ((ps.filterMap id).map (fun n : Nat => (n : Int))).map V.int
  | [], _ => rfl
  | none :: r, h => absurd List.mem_cons_self h
  | some x :: r, h => by
    rw [List.map_cons, opts_ints r (fun z => h (List.mem_cons_of_mem _ z))]
    rfl
theorem sum_cast : ∀ ns : List Nat, (ns.map (fun n : Nat => (n : Int))).sum = (ns.sum : Int)
  | [] => rfl
  | n :: r => by rw [List.map_cons, List.sum_cons, List.sum_cons, sum_cast r]; omega
def endOf (own : Nat) (nts : List NT) (r : Rw) : Option Row := (rowSum (nts.map NT.af) r.1).map (fun x => (own + x, r.1, r.2))
theorem ends_eq (own : Nat) (any : Bool) (nts : List NT) : endsOf own any (nts.map NT.af) = (rowsOf any nts.length).filterMap (endOf own nts) := by
  unfold endsOf endOf
  rw [List.length_map]
theorem row_len {any : Bool} {m : Nat} {r : Rw} (h : r ∈ rowsOf any m) : r.1.length ≤ m := pat_len _ _ _ _ _ (pat_of_row h)

section
variable {P : Program} {w : World} {K : PySem.W.Frag} {mg : Str → Option Value} {base : Heap}
/-! ### need_service, need_failing -/
abbrev sNeedService : Stmt := topS 28
theorem scNeedService : FnScope ["service"] ["service"] (C8.fnScope sNeedService) := C8.fnScope_by (by decide +kernel)
def SvOk (sv : Option Int) : Prop := ∀ s, sv = some s → 0 ≤ s ∧ s ≤ 3
def spNeedService (K : PySem.W.Frag) : Sp := fun vs H Q _ => ∃ (sv : Option Int), vs = [svV sv] ∧ SvOk sv ∧ Ret H Q fun _ _ => True
theorem ok_need_service (D : Dd K mg "need_service" sNeedService ["service"]) (T : Consts mg) (cN : C8.Cal P w K mg base 1 "is_number" spIsNum []) : C8.Cal P w K mg base 2 "need_service" (spNeedService K) [] := by
  refine dd_cal D scNeedService (fun vs H Q E h => ?_) (fun f cdv A outer s H vs Q E hr h => ?_)
  · obtain ⟨sv, rfl, _⟩ := h
    rfl
  obtain ⟨sv, rfl, hs, q⟩ := h
  obtain ⟨ts, ms⟩ := T.ms
  refine ⟨_, pss_one (ps_if (PW.pt (pw_and (pt_cmpR op_notN (pv 0) pe_non (nomark _)) (pw_and1 (pt_not (pt_val (C8.pe_c cN hr (by omega) rfl (pa_cons (pv 0) (pa_cons pe_int (pa_cons (pe_gi rfl ms) pa_nil))))))))) (pss_one ps_never) pss_nil), ?_⟩
  refine ⟨_, rfl, rfl, _, rfl, ?_⟩
  cases sv with
  | none => exact iteF (iteF (q _ _ (Ex.refl H) trivial))
  | some k =>
    refine iteT ?_
    refine ⟨_, rfl, k, 0, 3, rfl, fun b e => ?_⟩
    rw [decide_eq_true (hs k rfl)] at e
    subst e
    exact ⟨true, rfl, iteF (q _ _ (Ex.refl H) trivial)⟩
abbrev sNeedFailing : Stmt := topS 29
abbrev nNeedFailing : List Str := ["tree", "failing", "service", "one"]
theorem scNeedFailing : FnScope nNeedFailing ["tree", "failing", "service"] (C8.fnScope sNeedFailing) := C8.fnScope_by (by decide +kernel)
def FailV (K : PySem.W.Frag) (H : Hp) (v : V) (fl : List Int) : Prop := Dp K H v (encI fl) ∧ SetL fl ∧ (∀ a ∈ fl, a ≤ 3) ∧ fl.length ≤ 1000
def spNeedFailing (K : PySem.W.Frag) : Sp := fun vs H Q _ => ∃ (v v2 : V) (t : Tr) (fl : List Int) (sv : Option Int), vs = [v, v2, svV sv] ∧ TreeV K H v t ∧ FailV K H v2 fl ∧ SvOk sv ∧ Ret H Q fun _ _ => True
theorem ok_need_failing (D : Dd K mg "need_failing" sNeedFailing ["tree", "failing", "service"]) (B : Bn mg) (T : Consts mg) (c1 : C8.Cal P w K mg base 7 "need_tree" (spNeedTree K) []) (c2 : C8.Cal P w K mg base 1 "is_fails" (spIsFails K) []) (c3 : C8.Cal P w K mg base 2 "need_service" (spNeedService K) []) :
    C8.Cal P w K mg base 8 "need_failing" (spNeedFailing K) [] := by
  refine dd_cal D scNeedFailing (fun vs H Q E h => ?_) (fun f cdv A outer s H vs Q E hr h => ?_)
  · obtain ⟨v, v2, t, fl, sv, rfl, _⟩ := h
    rfl
  obtain ⟨v, v2, t, fl, sv, rfl, hv, ⟨h2, hs, hb, hl⟩, hsv, q⟩ := h
  obtain ⟨af, rfl, hf⟩ := ints_at h2
  obtain ⟨ts, ms⟩ := T.ms
  have nd := scNeedFailing.nd
  refine ⟨_, pss_cons (ps_expr (C8.pe_c c1 hr (by omega) rfl (pa_cons (pv 0) pa_nil)))
    (pss_cons (ps_if (PW.pt (pw_or (pt_not (pt_val (C8.pe_c c2 hr (by omega) rfl (pa_cons (pv 1) pa_nil)))) (pw_or1 (pt_not (pt_val (pe_callB (cr_all rfl) (by rfl) B.all bB_all (pa_cons (pe_lc (own := [("one", 3)]) (g := gName 3) (tt := tYes) rfl nd (pi_tup (pv 1))
        (blkOk_by (own := [("one", 3)]) (N := nNeedFailing) (sc := C8.fnScope sNeedFailing) (by decide +kernel))
        (fun _ _ _ _ _ => pg_name (i := 3) nd rfl (Or.inl rfl)) (fun _ _ _ _ _ => pts_nil) (fun _ _ _ _ _ => pe_cmpR op_le (pv 3) (pe_gi rfl ms) (nomark _))) pa_nil))))))) (pss_one ps_never) pss_nil)
    (pss_one (ps_expr (C8.pe_c c3 hr (by omega) rfl (pa_cons (pv 2) pa_nil))))), ?_⟩
  refine ⟨_, rfl, v, t, rfl, hv, fun _ H1 e1 _ => ?_⟩
  refine ⟨_, rfl, .ref af, fl, rfl, dp_ex e1 h2, hs, fun r H2 e2 er => ?_⟩
  subst er
  have e12 := e1.trans e2
  refine ⟨true, rfl, iteF ?_⟩
  refine ⟨_, rfl, af, rfl, ⟨_, ex_t e12 hf⟩, fun D nD => ?_⟩
  refine lc_tup (xs := fl.map V.int) (Tr1 H2 D) (tr1_start (Ex.refl H2) nD) (fun i H' _ p => ex_t (e12.trans p.1) hf) (fun i x H' hi p => ?_) (fun H3 p => ?_)
  · rw [List.getElem?_map] at hi
    cases eu : fl[i]? with
    | none => rw [eu] at hi; cases hi
    | some u =>
      rw [eu] at hi
      simp only [Option.map_some, Option.some.injEq] at hi
      subst hi
      have hlt := (List.getElem?_eq_some_iff.mp eu).1
      refine ⟨rfl, yes ?_⟩
      refine ⟨_, rfl, _, _, rfl, rfl, ?_⟩
      have e0 : decide (u ≤ 3) = true := decide_eq_true (hb u (List.mem_of_getElem? eu))
      simp only [e0]
      exact tr1_turn p nD (Ex.refl H') (by omega)
  refine ⟨D, _, rfl, SqL.of p.2, true, by rw [all_true], iteF ?_⟩
  refine ⟨_, rfl, sv, rfl, hsv, fun _ H4 e4 _ => ?_⟩
  exact q _ _ ((e12.trans p.1).trans e4) trivial

/-! ### ends_of -/
abbrev sEnds : Stmt := topS 30
abbrev nEnds : List Str := ["call", "parts", "service", "own", "many", "rows", "found", "answers", "decides", "some", "at", "part", "is_good"]
theorem scEnds : FnScope nEnds ["call", "parts", "service"] (C8.fnScope sEnds) := C8.fnScope_by (by decide +kernel)
def NtsV (K : PySem.W.Frag) (H : Hp) (v : V) (nts : List NT) : Prop := Dp K H v (.tuple (nts.map encN))
theorem mode_all (any : Bool) : decide (V.str (modeS any) = V.str "all") = !any := by cases any <;> decide +kernel
def spEnds (K : PySem.W.Frag) : Sp := fun vs H Q _ => ∃ (v v2 : V) (s0 : Int) (n : Nat) (any : Bool) (ps : List Tr) (nts : List NT) (sv : Option Int), vs = [v, v2, svV sv] ∧ Dp K H v (encT (.mk s0 n any ps)) ∧ NtsV K H v2 nts ∧ nts.length ≤ 3 ∧
  Ret H Q (LsD K ((endsOf (ownN sv s0) any (nts.map NT.af)).map encR))
theorem encW_noL (r : Rw) : noL (encW r) = true := by
  unfold encW
  simp only [noL, noLs, noL_bools, Bool.and_true]
theorem encWs_noL (rs : List Rw) : noLs (rs.map encW) = true := by
  rw [noLs_mem]
  intro d hd
  obtain ⟨r, _, rfl⟩ := List.mem_map.mp hd
  exact encW_noL r
theorem encRs_noL (rs : List Row) : noLs (rs.map encR) = true := by
  rw [noLs_mem]
  intro d hd
  obtain ⟨r, _, rfl⟩ := List.mem_map.mp hd
  exact noL_row r
theorem w_at {H : Hp} {v : V} {r : Rw} (h : Dp K H v (encW r)) : ∃ a b, v = .ref a ∧ SqT K H a [.ref b, .bl r.2] ∧ SqT K H b (r.1.map V.bl) := by
  obtain ⟨a, xs, rfl, h1, h2⟩ := dp_tup h
  obtain ⟨x1, r1, rfl, d1, h2⟩ := dpa_cons h2
  obtain ⟨x2, r2, rfl, d2, h2⟩ := dpa_cons h2
  have e := dpa_nil h2
  subst e
  obtain ⟨b, rfl, h3⟩ := bools_at d1
  rw [dp_bl d2] at h1
  exact ⟨a, b, rfl, h1, h3⟩
theorem ok_ends (D : Dd K mg "ends_of" sEnds ["call", "parts", "service"]) (B : Bn mg) (T : Consts mg) : C8.Cal P w K mg base 1 "ends_of" (spEnds K) [] := by
  refine dd_cal D scEnds (fun vs H Q E h => ?_) (fun f cdv A outer s H vs Q E hr h => ?_)
  · obtain ⟨v, v2, s0, n, any, ps, nts, sv, rfl, _⟩ := h
    rfl
  obtain ⟨v, v2, s0, n, any, ps, nts, sv, rfl, hv, h2, hn3, q⟩ := h
  obtain ⟨a, b, xs, rfl, t1, t2, t3⟩ := tr_at hv
  obtain ⟨c, zs, rfl, n1, n2⟩ := dp_tup h2
  obtain ⟨ta, al⟩ := T.al
  have hz : zs.length = nts.length := by rw [dpa_len n2, List.length_map]
  have nd := scEnds.nd
  have hcomp : ∀ (X : Cx), X.K = K → True := fun _ _ => trivial
  refine ⟨_, Evl.pss_cut (ps_par (i := 3) (j := 4) rfl nd rfl rfl (by decide) rfl rfl (pa_cons (pe_callTy call_int1 (by rfl) B.int bT_int (pa_cons (pe_or (pe_cmpR op_isN (pv 2) pe_non (nomark _)) (pe_one (pe_cmpR op_eq (pe_ix ix_tup (pv 0) pe_int (fun _ _ => rfl)) (pv 2) (nomark _)))) pa_nil))
        (pa_cons (pe_callB call_len_seq (by rfl) B.len PySem.boot_len (pa_cons (pv 1) pa_nil)) pa_nil)) (by rfl))
    (Evl.pss_cut (ps_if (PW.pt (pw_or (pt_cmpR op_eq (pe_ix ix_tup (pv 0) pe_int (fun _ _ => rfl)) (pe_gs rfl al) (nomark _)) (pw_or1 (pt_cmpR op_eq (pv 4) pe_int (nomark _)))))
        (pss_one (ps_set (i := 5) nd rfl (.inl rfl) (pe_op op_cat (pe_lst (pa_cons (pe_tup (pa_cons (pe_op op_repA (pe_tup (pa_cons pe_bl pa_nil)) (pv 4)) (pa_cons pe_bl pa_nil))) pa_nil))
          (pe_lc (own := [("at", 10)]) (g := gName 10) (tt := tYes) rfl nd (pi_range1 (by rfl) B.range (pa_cons (pv 4) pa_nil)) (blkOk_by (own := [("at", 10)]) (N := nEnds) (sc := C8.fnScope sEnds) (by decide +kernel))
            (fun _ _ _ _ _ => pg_name (i := 10) nd rfl (Or.inl rfl)) (fun _ _ _ _ _ => pts_nil)
            (fun _ _ _ _ _ => pe_tup (pa_cons (pe_op (op_catAK K) (pe_op (op_repAK K) (pe_tup (pa_cons pe_bl pa_nil)) (pv 10)) (pe_tup (pa_cons pe_bl pa_nil))) (pa_cons pe_bl pa_nil)))))))
        (pss_one (ps_set (i := 5) nd rfl (.inl rfl) (pe_op op_cat 
          (pe_lc (own := [("at", 10)]) (g := gName 10) (tt := tYes) rfl nd (pi_range1 (by rfl) B.range (pa_cons (pv 4) pa_nil)) (blkOk_by (own := [("at", 10)]) (N := nEnds) (sc := C8.fnScope sEnds) (by decide +kernel))
            (fun _ _ _ _ _ => pg_name (i := 10) nd rfl (Or.inl rfl)) (fun _ _ _ _ _ => pts_nil)
            (fun _ _ _ _ _ => pe_tup (pa_cons (pe_op (op_catAK K) (pe_op (op_repAK K) (pe_tup (pa_cons pe_bl pa_nil)) (pv 10)) (pe_tup (pa_cons pe_bl pa_nil))) (pa_cons pe_bl pa_nil))))
          (pe_lst (pa_cons (pe_tup (pa_cons (pe_op op_repA (pe_tup (pa_cons pe_bl pa_nil)) (pv 4)) (pa_cons pe_bl pa_nil))) pa_nil))))))
    (pss_cons (ps_set (i := 6) nd rfl (.inl rfl) (pe_lst pa_nil))
    (pss_cons (ps_for PassesOwn.never rfl (pi_list (pv 5)) (pg_tup (by rfl) (pgs_cons (pg_name (i := 7) nd rfl (.inl rfl)) (pgs_cons (pg_name (i := 8) nd rfl (.inl rfl)) pgs_nil)))
      (pss_cons (ps_setLc (i := 9) (own := [("part", 11), ("is_good", 12)]) (tt := tYes) rfl nd rfl rfl (sw_true rfl rfl rfl (by decide +kernel)) (RZ.pi_zipA (by rfl) B.zip (pa_cons (pv 1) (pa_cons (pv 7) pa_nil)))
          (blkOk_by (own := [("part", 11), ("is_good", 12)]) (N := nEnds) (sc := C8.fnScope sEnds) (by decide +kernel))
          (fun _ _ _ _ _ => pg_tupK K (n := 2) rfl (pgs_cons (pg_name (i := 11) nd rfl (Or.inl rfl)) (pgs_cons (pg_name (i := 12) nd rfl (Or.inl rfl)) pgs_nil))) (fun _ _ _ _ _ => pts_nil)
          (fun _ _ _ _ _ => pe_ifExp (pt_val (pv 12)) (pe_ix (ix_tupK K) (pv 11) pe_int (fun _ _ => rfl)) (pe_ix (ix_tupK K) (pv 11) pe_int (fun _ _ => rfl))))
      (pss_one (ps_if (pt_cmpR op_notIn_seq pe_non (pv 9) (by rfl)) (pss_one (ps_expr (pe_bm PySem.F.plainAttrs_list PySem.F.slot_list_append PySem.F.type_list_append mt_append (pv 6)
          (pa_cons (pe_tup (pa_cons (pe_op op_add (pv 3) (pe_callB (cr_sum rfl) (by rfl) B.sum bB_sum (pa_cons (pv 9) pa_nil))) (pa_cons (pv 7) (pa_cons (pv 8) pa_nil)))) pa_nil)))) pss_nil))))
    (pss_one (ps_ret (pv 6)))))), ?_⟩
  refine ⟨fun σ' H' => H' = H ∧ σ' = [some (.ref a), some (.ref c), some (svV sv), some (.int (ownN sv s0 : Int)), some (.int (nts.length : Int)), none, none, none, none, none, none, none, none], ?_, ?_⟩
  · have fin : ∀ b : Bool, (b = true ↔ (sv = none ∨ sv = some s0)) → (if b = true then (1 : Int) else 0) = (ownN sv s0 : Int) := fun b hb => by
      unfold ownN
      by_cases h : sv = none ∨ sv = some s0
      · rw [if_pos (hb.mpr h), if_pos h]; rfl
      · rw [if_neg (fun z => h (hb.mp z)), if_neg h]; rfl
    refine ⟨_, rfl, rfl, _, rfl, ?_⟩
    cases sv with
    | none =>
      refine iteT ?_
      refine .inr ⟨true, rfl, ?_⟩
      refine ⟨_, rfl, c, _, rfl, .inr n1, _, _, rfl, rfl, ?_⟩
      rw [fin true (by simp), hz]
      rfl
    | some k =>
      refine iteF ?_
      refine ⟨_, rfl, a, _, 0, .int s0, rfl, rfl, t1, rfl, _, rfl, rfl, ?_⟩
      refine .inr ⟨_, rfl, ?_⟩
      refine ⟨_, rfl, c, _, rfl, .inr n1, _, _, rfl, rfl, ?_⟩
      rw [fin (decide (V.int s0 = svV (some k))) (by
        rw [decide_eq_true_eq]
        constructor
        · intro z; injection z with z; rw [z]; exact .inr rfl
        · rintro (z | z)
          · cases z
          · injection z with z; rw [z]; rfl), hz]
      rfl
  rintro σ' H' ⟨rfl, rfl⟩
  -- the rows
  have rowsT : ∀ (b1 b2 b3 : Bool) (H1 : Hp), Ex H' H1 → EvP (tLc (iRng1 (tCons (tVar 4) tNil)) (gName 10) tYes (tTup (tCons (tOp (rCatA K) (tOp (rRepA K) (tTup (tCons (tC (.bl b1)) tNil)) (tVar 10)) (tTup (tCons (tC (.bl b2)) tNil))) (tCons (tC (.bl b3)) tNil))) [10])
      [some (.ref a), some (.ref c), some (svV sv), some (.int (ownN sv s0 : Int)), some (.int (nts.length : Int)), none, none, none, none, none, none, none, none] H1 (LsD K ((List.range nts.length).map fun i => encW (List.replicate i b1 ++ [b2], b3))) := fun b1 b2 b3 H1 e1 =>
    evp_rows [10] (by omega) (fun H2 e2 Q' q' => ⟨_, rfl, q'⟩) (fun _ => rfl) (fun _ => encW_noL _) (fun i H2 e2 hi => evp_row (evp_cat (evp_rep rfl (by omega)) (evp_tup1 _) (by simp; omega)))
  refine ⟨fun σ' H1 => Ex H' H1 ∧ ∃ L ys, σ' = [some (.ref a), some (.ref c), some (svV sv), some (.int (ownN sv s0 : Int)), some (.int (nts.length : Int)), some (.ref L), none, none, none, none, none, none, none] ∧ H1 L = some (.lst ys) ∧ DpAll K H1 ys ((rowsOf any nts.length).map encW), ?_, ?_⟩
  · have yes1 : ∀ (H1 : Hp), Ex H' H1 → (any = false ∨ nts.length = 0) → (tAsg (tOp rCat (tLst (tCons (tTup (tCons (tOp (rRepA K) (tTup (tCons (tC (.bl true)) tNil)) (tVar 4)) (tCons (tC (.bl true)) tNil))) tNil))
        (tLc (iRng1 (tCons (tVar 4) tNil)) (gName 10) tYes (tTup (tCons (tOp (rCatA K) (tOp (rRepA K) (tTup (tCons (tC (.bl true)) tNil)) (tVar 10)) (tTup (tCons (tC (.bl false)) tNil))) (tCons (tC (.bl false)) tNil))) [10])) (gName 5))
        { nx := fun σ' H1 => Ex H' H1 ∧ ∃ L ys, σ' = [some (.ref a), some (.ref c), some (svV sv), some (.int (ownN sv s0 : Int)), some (.int (nts.length : Int)), some (.ref L), none, none, none, none, none, none, none] ∧ H1 L = some (.lst ys) ∧ DpAll K H1 ys ((rowsOf any nts.length).map encW), rt := Q }
        [some (.ref a), some (.ref c), some (svV sv), some (.int (ownN sv s0 : Int)), some (.int (nts.length : Int)), none, none, none, none, none, none, none, none] H1 := fun H1 e1 hc => by
      refine asg_op (lst1 ?_)
      refine evp_row (evp_rep (k := nts.length) rfl (by omega)) H1 (Ex.refl H1) _ fun v1 H2 e2 h2' => ?_
      refine ⟨(by show 1 ≤ sizeLine; decide), fun l1 nl1 => ?_⟩
      have e2n := e2.trans (ex_new (o := .lst [v1]) nl1)
      refine rowsT true false false _ (e1.trans e2n) _ (Ex.refl _) _ fun v2' H3 e3 h3 => ?_
      obtain ⟨l2, ys, rfl, hl2, hys⟩ := h3
      refine ⟨l1, l2, _, _, rfl, rfl, e3 _ _ upd_same, hl2, sz3 (by rw [dpa_len hys]; simp; omega), fun l3 nl3 => ?_⟩
      refine ⟨(e1.trans (e2n.trans e3)).trans (ex_new nl3), l3, _, rfl, upd_same, ?_⟩
      unfold rowsOf
      rw [if_pos hc, List.map_cons, List.map_map]
      exact .cons (dp_ex (((ex_new nl1).trans e3).trans (ex_new nl3)) h2') (dpa_ex (ex_new nl3) hys)
    have no1 : ∀ (H1 : Hp), Ex H' H1 → ¬ (any = false ∨ nts.length = 0) → (tAsg (tOp rCat (tLc (iRng1 (tCons (tVar 4) tNil)) (gName 10) tYes (tTup (tCons (tOp (rCatA K) (tOp (rRepA K) (tTup (tCons (tC (.bl false)) tNil)) (tVar 10)) (tTup (tCons (tC (.bl true)) tNil))) (tCons (tC (.bl true)) tNil))) [10])
        (tLst (tCons (tTup (tCons (tOp (rRepA K) (tTup (tCons (tC (.bl false)) tNil)) (tVar 4)) (tCons (tC (.bl false)) tNil))) tNil))) (gName 5))
        { nx := fun σ' H1 => Ex H' H1 ∧ ∃ L ys, σ' = [some (.ref a), some (.ref c), some (svV sv), some (.int (ownN sv s0 : Int)), some (.int (nts.length : Int)), some (.ref L), none, none, none, none, none, none, none] ∧ H1 L = some (.lst ys) ∧ DpAll K H1 ys ((rowsOf any nts.length).map encW), rt := Q }
        [some (.ref a), some (.ref c), some (svV sv), some (.int (ownN sv s0 : Int)), some (.int (nts.length : Int)), none, none, none, none, none, none, none, none] H1 := fun H1 e1 hc => by
      refine asg_op ?_
      refine rowsT false true true _ e1 _ (Ex.refl _) _ fun v2' H3 e3 h3 => ?_
      obtain ⟨l2, ys, rfl, hl2, hys⟩ := h3
      refine lst1 ?_
      refine evp_row (evp_rep (k := nts.length) rfl (by omega)) H3 (Ex.refl H3) _ fun v1 H2 e2 h2' => ?_
      refine ⟨(by show 1 ≤ sizeLine; decide), fun l1 nl1 => ?_⟩
      have e2n := e2.trans (ex_new (o := .lst [v1]) nl1)
      refine ⟨l2, l1, _, _, rfl, rfl, e2n _ _ hl2, upd_same, sz3 (by rw [dpa_len hys]; simp; omega), fun l3 nl3 => ?_⟩
      refine ⟨(e1.trans (e3.trans e2n)).trans (ex_new nl3), l3, _, rfl, upd_same, ?_⟩
      unfold rowsOf
      rw [if_neg hc, List.map_append, List.map_map]
      exact dpa_append (dpa_ex (e2n.trans (ex_new nl3)) hys) (.cons (dp_ex ((ex_new nl1).trans (ex_new nl3)) h2') .nil)
    refine ⟨_, rfl, a, _, 2, .str (modeS any), rfl, rfl, t1, rfl, rfl, _, rfl, ?_⟩
    rw [mode_all]
    cases any with
    | false => exact iteT (iteT (yes1 H' (Ex.refl _) (.inl rfl)))
    | true =>
      refine iteF ?_
      refine ⟨_, rfl, rfl, _, rfl, ?_⟩
      refine ite2 (fun hc => ?_) (fun hc => ?_)
      · have z := of_decide_eq_true hc
        injection z with z
        exact yes1 H' (Ex.refl _) (.inr (by omega))
      · refine no1 H' (Ex.refl _) fun z => ?_
        rcases z with z | z
        · cases z
        · exact hc (decide_eq_true (by rw [z]; rfl))
  rintro σ' H1 ⟨e1, L, ys, rfl, hL, hys⟩
  have hyl : ys.length = (rowsOf any nts.length).length := by rw [dpa_len hys, List.length_map]
  have hrl : (rowsOf any nts.length).length ≤ 10 := by
    unfold rowsOf
    split <;> simp <;> omega
  refine ⟨Nat.zero_le _, fun Fd nF => ?_⟩
  have nLF : L ≠ Fd := ne_of_none hL nF
  have nF0 : H' Fd = none := fresh_back e1 nF
  refine ⟨_, rfl, L, rfl, ⟨_, SqL.of (by rw [upd_ne nLF]; exact hL)⟩, ?_⟩
  refine for_list (K := K) (a := L) (xs := ys) (fun i σ' H2 => Ex H1 H2 ∧ ∃ (o7 o8 o9 : Option V) (fs : List V), σ' = [some (.ref a), some (.ref c), some (svV sv), some (.int (ownN sv s0 : Int)), some (.int (nts.length : Int)), some (.ref L), some (.ref Fd), o7, o8, o9, none, none, none] ∧
    H2 Fd = some (.lst fs) ∧ fs.length ≤ i ∧ DpAll K H2 fs ((((rowsOf any nts.length).take i).filterMap (endOf (ownN sv s0) nts)).map encR)) ⟨ex_new nF, none, none, none, [], rfl, upd_same, Nat.le_refl _, .nil⟩ (fun i σ' H2 _ ⟨e2, _⟩ => SqL.of (e2 _ _ hL)) ?_ ?_
  · rintro i y σ' H2 hi ⟨e2, o7, o8, o9, fs, rfl, hF, hfl, hfs⟩
    have hlt := (List.getElem?_eq_some_iff.mp hi).1
    obtain ⟨dd, hdd, hdy⟩ := dpa_get hys hi
    rw [List.getElem?_map] at hdd
    cases hrow : (rowsOf any nts.length)[i]? with
    | none => rw [hrow] at hdd; cases hdd
    | some rw0 =>
      rw [hrow] at hdd
      simp only [Option.map_some, Option.some.injEq] at hdd
      subst hdd
      obtain ⟨r1, r2, rfl, hr1, hr2⟩ := w_at (dp_ex e2 hdy)
      have e12 := e1.trans e2
      have hn1 := ex_t e12 n1
      have hln : rw0.1.length ≤ nts.length := row_len (List.mem_of_getElem? hrow)
      have htk : (((rowsOf any nts.length).take (i + 1)).filterMap (endOf (ownN sv s0) nts)) = (((rowsOf any nts.length).take i).filterMap (endOf (ownN sv s0) nts)) ++ (endOf (ownN sv s0) nts rw0).toList := by
        rw [take_snoc hrow, List.filterMap_append]
        cases h : endOf (ownN sv s0) nts rw0 <;> simp [h]
      refine ⟨r1, _, rfl, hr1, rfl, _, _, rfl, _, _, rfl, rfl, ?_⟩
      -- some
      refine ⟨_, rfl, _, rfl, c, r2, _, _, rfl, .inr ⟨hn1, hr2, fun D nD => ?_⟩⟩
      refine lc_it (walk_zipT rfl) (fun j H3 => Ex H2 H3 ∧ H3 D = some (.lst (((picks nts rw0.1).take j).map optV))) ⟨ex_new nD, upd_same⟩ (fun j H3 _ p => ⟨ex_t p.1 hn1, ex_t p.1 hr2⟩) (fun j y H3 H4 hj pv y => ?_) (fun H3 pv => ?_)
      · obtain ⟨T', x1, y1, rfl, hT, rfl, hx1, hy1⟩ := y
        have hx1 : zs[j]? = some x1 := hx1
        have hy1 : (rw0.1.map V.bl)[j]? = some y1 := hy1
        obtain ⟨eP, hD⟩ := pv
        obtain ⟨nt, hnt, _, hnd⟩ := nt_part n2 hx1
        rw [List.getElem?_map] at hy1
        cases eg : rw0.1[j]? with
        | none => rw [eg] at hy1; cases hy1
        | some g =>
          rw [eg] at hy1
          simp only [Option.map_some, Option.some.injEq] at hy1
          subst hy1
          have eT := ex_new (o := .tup [x1, .bl g]) hT
          obtain ⟨na, nb, nys, rfl, hna, _, _⟩ := nt_at (dp_ex (e12.trans (eP.trans eT)) hnd)
          have hpk := picks_get hnt eg
          have hlj := (List.getElem?_eq_some_iff.mp hnt).1
          have fin : ∃ acc, (upd H3 T' (.tup [.ref na, .bl g])) D = some (.lst acc) ∧ acc.length < sizeLine ∧ (Ex H2 (upd (upd H3 T' (.tup [.ref na, .bl g])) D (.lst (acc ++ [optV (pickN nt.af g)]))) ∧ (upd (upd H3 T' (.tup [.ref na, .bl g])) D (.lst (acc ++ [optV (pickN nt.af g)]))) D = some (.lst (((picks nts rw0.1).take (j + 1)).map optV))) := by
            refine ⟨_, eT _ _ hD, szl (by rw [List.length_map, List.length_take]; omega), (eP.trans eT).mut nD, ?_⟩
            rw [upd_same, take_snoc hpk, List.map_append]
            rfl
          refine ⟨T', _, rfl, SqT.of upd_same, rfl, _, _, rfl, _, _, rfl, rfl, rfl, yes ?_⟩
          refine ⟨_, rfl, g, rfl, ?_⟩
          cases g with
          | true =>
            refine iteT ?_
            exact ⟨_, rfl, na, _, 0, .int (nt.a : Int), rfl, rfl, hna, rfl, fin⟩
          | false =>
            refine iteF ?_
            exact ⟨_, rfl, na, _, 1, optV nt.f, rfl, rfl, hna, rfl, fin⟩
      obtain ⟨e3, hD⟩ := pv
      have hpl : (picks nts rw0.1).length = min zs.length (rw0.1.map V.bl).length := by
        unfold picks
        rw [List.length_zipWith, List.length_map, hz]
      rw [List.take_of_length_le (by omega)] at hD
      have nDF : D ≠ Fd := fun z => by
        subst z
        rw [hF] at nD
        cases nD
      have hF3 := e3 _ _ hF
      -- if None not in some
      refine ⟨_, rfl, D, _, rfl, .inl (SqL.of hD), rfl, flat_opts _, _, rfl, ?_⟩
      rw [if_pos rfl, inV_none]
      refine ite2 (fun hc => ?_) (fun hc => ?_)
      · have hnn : none ∉ picks nts rw0.1 := by simpa using hc
        have hsum := picks_sum nts rw0.1 hnn
        rw [opts_ints _ hnn] at hD
        refine ⟨_, rfl, .inl ⟨rfl, _, SqL.of hF3⟩, ?_⟩
        refine ⟨_, rfl, _, rfl, D, _, rfl, SqL.of hD, _, _, rfl, rfl, _, rfl, _, rfl, (by show 3 ≤ sizeLine; decide), fun tp ntp => ?_⟩
        have eT := ex_new (o := .tup [.int ((ownN sv s0 : Int) + (List.map (fun n : Nat => (n : Int)) (List.filterMap id (picks nts rw0.1))).sum), .ref r2, .bl rw0.2]) ntp
        refine ⟨Fd, fs, _, rfl, rfl, eT _ _ hF3, szl (by omega), ?_⟩
        have eo : endOf (ownN sv s0) nts rw0 = some (ownN sv s0 + (List.filterMap id (picks nts rw0.1)).sum, rw0.1, rw0.2) := by
          unfold endOf
          rw [hsum]
          rfl
        refine ⟨((e2.trans e3).trans eT).mut nF, _, _, _, _, rfl, upd_same, by rw [List.length_append, List.length_singleton]; omega, ?_⟩
        rw [htk, eo, List.map_append]
        have tx : Tx (upd H3 tp (.tup [.int ((ownN sv s0 : Int) + (List.map (fun n : Nat => (n : Int)) (List.filterMap id (picks nts rw0.1))).sum), .ref r2, .bl rw0.2])) (upd (upd H3 tp (.tup [.int ((ownN sv s0 : Int) + (List.map (fun n : Nat => (n : Int)) (List.filterMap id (picks nts rw0.1))).sum), .ref r2, .bl rw0.2])) Fd (.lst (fs ++ [.ref tp]))) := Tx.lst (eT _ _ hF3)
        refine dpa_append (dpa_tx tx (encRs_noL _) (dpa_ex (e3.trans eT) hfs)) (.cons (dp_tx tx (noL_row _) (at_row (a := tp) (b := r2) ?_ (ex_t (e3.trans eT) hr2))) .nil)
        rw [sum_cast]
        refine SqT.of ?_
        rw [upd_same]
        show some (HO.tup [V.int ((ownN sv s0 : Int) + ((List.filterMap id (picks nts rw0.1)).sum : Int)), .ref r2, .bl rw0.2]) = some (HO.tup [V.int ((ownN sv s0 + (List.filterMap id (picks nts rw0.1)).sum : Nat) : Int), .ref r2, .bl rw0.2])
        rw [Int.natCast_add]
      · have hnn : none ∈ picks nts rw0.1 := by simpa using hc
        have eo : endOf (ownN sv s0) nts rw0 = none := by
          unfold endOf
          rw [picks_none nts rw0.1 hnn]
          rfl
        refine ⟨e2.trans e3, _, _, _, fs, rfl, hF3, by omega, ?_⟩
        rw [htk, eo]
        simp only [Option.toList_none, List.append_nil]
        exact dpa_ex e3 hfs
  · rintro σ' H2 ⟨e2, o7, o8, o9, fs, rfl, hF, hfl, hfs⟩
    refine ⟨_, rfl, q _ _ (e1.trans e2) ⟨Fd, fs, rfl, hF, ?_⟩⟩
    rw [ends_eq]
    rw [List.take_of_length_le (by omega)] at hfs
    exact hfs
end
end CB

namespace CB
open PySem PySem.Spec PyProof.Rows L2 Evl

theorem maxN_eq {l : List Nat} {x : Nat} (h : x ∈ l) (hx : ∀ y ∈ l, y ≤ x) : maxN l = x := by
  have h1 := le_maxN h
  have h2 := hx _ (maxN_mem (l := l) (fun z => by rw [z] at h; cases h))
  omega
/-- what best_ends tells -/
def Best (own : Nat) (any : Bool) (ps : List AF) (ow : Bool) (rc : Row) (o : Option Row) : Prop :=
  rc ∈ endsOf own any ps ∧ rc.2.2 = true ∧ rc.1 = comeN own any ps ∧ (o = none → fallN own any ps ow = none) ∧ ∀ rf, o = some rf → rf ∈ endsOf own any ps ∧ fallN own any ps ow = some rf.1 ∧ (rf.2.2 = true → ow = true)
def optR : Option Row → PyData
  | none => .none
  | some r => encR r
theorem optR_noL (o : Option Row) : noL (optR o) = true := by
  cases o with
  | none => rfl
  | some r => exact noL_row r
theorem canRow (r : Row) : (encR r).canLay0 = true := by
  have hb : ∀ xs : List Bool, PyData.canLayAll0 (xs.map PyData.bool) = true := by
    intro xs
    induction xs with
    | nil => rfl
    | cons x xs ih => rw [List.map_cons, PyData.canLayAll0, ih]; rfl
  unfold encR encB
  simp only [PyData.canLay0, PyData.canLayAll0, hb, Bool.and_true]
theorem shape_rows (rs : List Row) : SeqAt.shaped (.list (rs.map encR)) = true := by
  have h1 : PyData.canLayAll0 (rs.map encR) = true := by
    induction rs with
    | nil => rfl
    | cons r rs ih => rw [List.map_cons, PyData.canLayAll0, canRow, ih]; rfl
  have h2 := rows_depth rs
  unfold SeqAt.shaped
  rw [Bool.and_eq_true]
  refine ⟨by simp only [PyData.canLay0]; exact h1, decide_eq_true ?_⟩
  simp only [PyData.depth]
  omega
theorem shape_lnil : SeqAt.shaped (.list []) = true := by decide +kernel
theorem eqv_lnil (ds : List PyData) : PyData.eqv (.list ds) (.list []) = ds.isEmpty := by cases ds <;> rfl
section
variable {K : PySem.W.Frag} {σ : L2.St} {H : Hp}
theorem evp_filter {j : Nat} {tl : TE} {tt : TT} {L : Addr} {ys : List V} {rows : List Row} (f : Row → Bool) (hl : ∀ H1 Q, Ex H H1 → Q (.ref L) H1 → tl σ H1 Q) (hL : H L = some (.lst ys)) (hd : DpAll K H ys (rows.map encR)) (hz : ys.length ≤ 1000)
    (hw : ∀ x, wipe ((wipe σ [j]).set j (some x)) [j] = wipe σ [j]) (hj : ∀ x, ((wipe σ [j]).set j (some x))[j]? = some (some x))
    (ht : ∀ (r : Row) (v : V) H1, Ex H H1 → Dp K H1 v (encR r) → ∀ Q : Bool → Hp → Prop, Q (f r) H1 → tt ((wipe σ [j]).set j (some v)) H1 Q) :
    EvP (tLc (iList K tl) (gName j) tt (tVar j) [j]) σ H (LsD K ((rows.filter f).map encR)) := fun H1 e Q q => by
  refine hl H1 _ e ⟨L, rfl, ⟨ys, SqL.of (e _ _ hL)⟩, fun D nD => ?_⟩
  refine lc_list (xs := ys) (fun i H' => Ex H1 H' ∧ ∃ acc, H' D = some (.lst acc) ∧ acc.length ≤ i ∧ DpAll K H' acc (((rows.take i).filter f).map encR)) ⟨ex_new nD, [], upd_same, Nat.le_refl _, .nil⟩ (fun i H' _ p => SqL.of (p.1 _ _ (e _ _ hL))) (fun i x H' hi p => ?_) (fun H' p => ?_)
  · obtain ⟨e1, acc, hD, hal, hacc⟩ := p
    have hlt := (List.getElem?_eq_some_iff.mp hi).1
    obtain ⟨dd, hdd, hdx⟩ := dpa_get hd hi
    rw [List.getElem?_map] at hdd
    cases hr : rows[i]? with
    | none => rw [hr] at hdd; cases hdd
    | some r =>
      rw [hr] at hdd
      simp only [Option.map_some, Option.some.injEq] at hdd
      subst hdd
      have ee := e.trans e1
      refine ⟨hw x, ?_⟩
      refine ht r x H' ee (dp_ex ee hdx) _ ?_
      refine ite2 (fun hf => ?_) (fun hf => ?_)
      · refine ⟨x, hj x, acc, hD, szl (by omega), e1.mut nD, _, upd_same, by rw [List.length_append, List.length_singleton]; omega, ?_⟩
        have tx : Tx H' (upd H' D (.lst (acc ++ [x]))) := Tx.lst hD
        rw [take_snoc hr, List.filter_append, List.map_append]
        have e9 : [r].filter f = [r] := by simp [hf]
        rw [e9]
        exact dpa_append (dpa_tx tx (encRs_noL _) hacc) (.cons (dp_tx tx (noL_row _) (dp_ex ee hdx)) .nil)
      · refine ⟨e1, acc, hD, by omega, ?_⟩
        rw [take_snoc hr, List.filter_append]
        have e9 : [r].filter f = [] := by simp [hf]
        rw [e9, List.append_nil]
        exact hacc
  · obtain ⟨e1, acc, hD, hal, hacc⟩ := p
    have hl2 : rows.length = ys.length := by rw [dpa_len hd, List.length_map]
    rw [List.take_of_length_le (by omega)] at hacc
    exact q _ _ e1 ⟨D, acc, rfl, hD, hacc⟩
theorem asg_cb1 {r : List V → Hp → VK → Prop} {ta : TE} {g : TG} {D : Ends} (h : ta σ H fun x H1 => r [x] H1 fun z H3 => g z σ H3 D.nx) : tAsg (tCB r (tCons ta tNil)) g D σ H := h
theorem sq_asg_op {r : R2} {ta tb : TE} {g : TG} {u : TS} {D : Ends} (h : ta σ H fun x H1 => tb σ H1 fun y H2 => r x y H2 fun z H3 => g z σ H3 (u D)) : tSeq (tAsg (tOp r ta tb) g) u D σ H := h
theorem sq_asg_cb1 {r : List V → Hp → VK → Prop} {ta : TE} {g : TG} {u : TS} {D : Ends} (h : ta σ H fun x H1 => r [x] H1 fun z H3 => g z σ H3 (u D)) : tSeq (tAsg (tCB r (tCons ta tNil)) g) u D σ H := h
end
theorem ends_len (own : Nat) (any : Bool) (nts : List NT) (h : nts.length ≤ 3) : (endsOf own any (nts.map NT.af)).length ≤ 10 := by
  unfold endsOf
  refine Nat.le_trans (List.length_filterMap_le _ _) ?_
  rw [List.length_map]
  unfold rowsOf
  split <;> simp <;> omega
section
variable {P : Program} {w : World} {K : PySem.W.Frag} {mg : Str → Option Value} {base : Heap}
/-! ### best_ends -/
abbrev sBest : Stmt := topS 31
abbrev nBest : List Str := ["call", "parts", "failing", "service", "ends", "come", "fall", "row"]
theorem scBest : FnScope nBest ["call", "parts", "failing", "service"] (C8.fnScope sBest) := C8.fnScope_by (by decide +kernel)
def spBest (K : PySem.W.Frag) : Sp := fun vs H Q _ => ∃ (v v2 v3 : V) (s0 : Int) (n : Nat) (any : Bool) (ps : List Tr) (nts : List NT) (fl : List Int) (sv : Option Int), vs = [v, v2, v3, svV sv] ∧ Dp K H v (encT (.mk s0 n any ps)) ∧ NtsV K H v2 nts ∧ nts.length ≤ 3 ∧ Dp K H v3 (encI fl) ∧
  Ret H Q (fun r H' => ∃ rc o, Best (ownN sv s0) any (nts.map NT.af) (decide (s0 ∈ fl)) rc o ∧ Dp K H' r (.tuple [encR rc, optR o]))
theorem ok_best (D : Dd K mg "best_ends" sBest ["call", "parts", "failing", "service"]) (B : Bn mg) (c1 : C8.Cal P w K mg base 1 "ends_of" (spEnds K) []) : C8.Cal P w K mg base 2 "best_ends" (spBest K) [] := by
  refine dd_cal D scBest (fun vs H Q E h => ?_) (fun f cdv A outer s H vs Q E hr h => ?_)
  · obtain ⟨v, v2, v3, s0, n, any, ps, nts, fl, sv, rfl, _⟩ := h
    rfl
  obtain ⟨v, v2, v3, s0, n, any, ps, nts, fl, sv, rfl, hv, h2, hn3, h3, q⟩ := h
  obtain ⟨a, b, xs, rfl, t1, t2, t3⟩ := tr_at hv
  obtain ⟨af, rfl, hf⟩ := ints_at h3
  have nd := scBest.nd
  refine ⟨_, Evl.pss_cut (ps_set (i := 4) nd rfl (.inl rfl) (C8.pe_c c1 hr (by omega) rfl (pa_cons (pv 0) (pa_cons (pv 1) (pa_cons (pv 3) pa_nil)))))
    (Evl.pss_cut (ps_set (i := 5) nd rfl (.inl rfl) (pe_callB (cr_maxR rfl hr.units) (by rfl) B.max bB_max (pa_cons (pe_lc (own := [("row", 7)]) (g := gName 7) rfl nd (pi_list (pv 4)) (blkOk_by (own := [("row", 7)]) (N := nBest) (sc := C8.fnScope sBest) (by decide +kernel))
        (fun _ _ _ _ _ => pg_name (i := 7) nd rfl (Or.inl rfl)) (fun _ _ _ _ _ => pts_one (pt_val (pe_ix (ix_tupK K) (pv 7) pe_int (fun _ _ => rfl)))) (fun _ _ _ _ _ => pv 7)) pa_nil)))
    (pss_cons (ps_set (i := 6) nd rfl (.inl rfl) (pe_op op_cat (pe_lc (own := [("row", 7)]) (g := gName 7) rfl nd (pi_list (pv 4)) (blkOk_by (own := [("row", 7)]) (N := nBest) (sc := C8.fnScope sBest) (by decide +kernel))
        (fun _ _ _ _ _ => pg_name (i := 7) nd rfl (Or.inl rfl)) (fun _ _ _ _ _ => pts_one (pt_not (pt_val (pe_ix (ix_tupK K) (pv 7) pe_int (fun _ _ => rfl))))) (fun _ _ _ _ _ => pv 7))
        (pe_ifExp (pt_cmpR op_in_seq (pe_ix ix_tup (pv 0) pe_int (fun _ _ => rfl)) (pv 2) (by rfl)) (pe_lst (pa_cons (pv 5) pa_nil)) (pe_lst pa_nil))))
    (pss_one (ps_ret (pe_tup (pa_cons (pv 5) (pa_cons (pe_ifExp (pt_cmpR (op_neD hr.units) (pv 6) (pe_lst pa_nil) (nomark _)) (pe_callB (cr_maxR rfl hr.units) (by rfl) B.max bB_max (pa_cons (pv 6) pa_nil)) pe_non) pa_nil))))))), ?_⟩
  refine ⟨fun σ' H1 => Ex H H1 ∧ ∃ L ys, σ' = [some (.ref a), some v2, some (.ref af), some (svV sv), some (.ref L), none, none, none] ∧ H1 L = some (.lst ys) ∧ DpAll K H1 ys ((endsOf (ownN sv s0) any (nts.map NT.af)).map encR), ?_, ?_⟩
  · refine ⟨_, rfl, _, rfl, _, rfl, .ref a, v2, s0, n, any, ps, nts, sv, rfl, hv, h2, hn3, fun r H1 e1 hr1 => ?_⟩
    obtain ⟨L, ys, rfl, hL, hys⟩ := hr1
    exact ⟨e1, L, ys, rfl, hL, hys⟩
  rintro σ' H1 ⟨e1, L, ys, rfl, hL, hys⟩
  have hyl : ys.length ≤ 10 := by rw [dpa_len hys, List.length_map]; exact ends_len _ _ _ hn3
  -- come
  refine ⟨fun σ' H2 => Ex H1 H2 ∧ ∃ vc rc, σ' = [some (.ref a), some v2, some (.ref af), some (svV sv), some (.ref L), some vc, none, none] ∧ Dp K H2 vc (encR rc) ∧ rc ∈ (endsOf (ownN sv s0) any (nts.map NT.af)).filter (fun r => r.2.2) ∧ ∀ y ∈ (endsOf (ownN sv s0) any (nts.map NT.af)).filter (fun r => r.2.2), y.1 ≤ rc.1, ?_, ?_⟩
  · refine asg_cb1 ?_
    refine evp_filter (K := K) (j := 7) (L := L) (ys := ys) (rows := endsOf (ownN sv s0) any (nts.map NT.af)) (fun r => r.2.2) (fun H2 Q' _ q' => ⟨_, rfl, q'⟩) hL hys (by omega) (fun _ => rfl) (fun _ => rfl) (fun r v H2 e2 hv2 Q' q' => ?_) H1 (Ex.refl H1) _ fun r2 H2 e2 hr2 => ?_
    · obtain ⟨ra, rb, rfl, hra, hrb⟩ := row_at hv2
      exact ⟨_, rfl, ra, _, 2, .bl r.2.2, rfl, rfl, hra, rfl, _, rfl, q'⟩
    obtain ⟨L2', ys2, rfl, hL2, hys2⟩ := hr2
    refine ⟨L2', ys2, _, rfl, SqL.of hL2, hys2, ?_, fun vc rc hvc hrc hmax => ⟨e2, vc, rc, rfl, hvc, hrc, hmax⟩⟩
    obtain ⟨r, hr1, hr2⟩ := come_some (ownN sv s0) any (nts.map NT.af)
    intro z
    have : r ∈ (endsOf (ownN sv s0) any (nts.map NT.af)).filter (fun r => r.2.2) := List.mem_filter.mpr ⟨hr1, hr2⟩
    rw [z] at this
    cases this
  rintro σ' H2 ⟨e2, vc, rc, rfl, hvc, hrc, hmax⟩
  obtain ⟨hrc1, hrc2⟩ := List.mem_filter.mp hrc
  have hcome : rc.1 = comeN (ownN sv s0) any (nts.map NT.af) := by
    symm
    refine maxN_eq (List.mem_map.mpr ⟨rc, hrc, rfl⟩) (fun y hy => ?_)
    obtain ⟨r, hr, rfl⟩ := List.mem_map.mp hy
    exact hmax r hr
  -- fall
  refine sq_asg_op ?_
  refine evp_filter (K := K) (j := 7) (L := L) (ys := ys) (rows := endsOf (ownN sv s0) any (nts.map NT.af)) (fun r => !r.2.2) (fun H3 Q' _ q' => ⟨_, rfl, q'⟩) (e2 _ _ hL) (dpa_ex e2 hys) (by omega) (fun _ => rfl) (fun _ => rfl) (fun r v H3 e3 hv3 Q' q' => ?_) H2 (Ex.refl H2) _ fun r3 H3 e3 hr3 => ?_
  · obtain ⟨ra, rb, rfl, hra, hrb⟩ := row_at hv3
    exact ⟨_, rfl, ra, _, 2, .bl r.2.2, rfl, rfl, hra, rfl, _, rfl, q'⟩
  obtain ⟨L3, ys3, rfl, hL3, hys3⟩ := hr3
  have hl3 : ys3.length ≤ 10 := by
    rw [dpa_len hys3, List.length_map]
    exact Nat.le_trans (List.length_filter_le _ _) (ends_len _ _ _ hn3)
  have e123 := (e1.trans e2).trans e3
  -- the rows of fall
  have rest : ∀ (ow : Bool) (H4 : Hp) (L4 : Addr) (ys4 : List V), ow = decide (s0 ∈ fl) → Ex H3 H4 → H4 L4 = some (.lst ys4) → DpAll K H4 ys4 (((endsOf (ownN sv s0) any (nts.map NT.af)).filter (fun r => !r.2.2) ++ (if ow = true then [rc] else [])).map encR) →
      (tRet (tTup (tCons (tVar 5) (tCons (tIf (tTest (tOp (rNeD K) (tVar 6) (tLst tNil))) (tCB (rMaxR K) (tCons (tVar 6) tNil)) (tC .non)) tNil)))) { nx := fun _ H' => Q .non H', rt := Q }
        [some (.ref a), some v2, some (.ref af), some (svV sv), some (.ref L), some vc, some (.ref L4), none] H4 := fun ow H4 L4 ys4 how e4 hL4 hys4 => by
    have hfl : fallL (ownN sv s0) any (nts.map NT.af) ow = ((endsOf (ownN sv s0) any (nts.map NT.af)).filter (fun r => !r.2.2) ++ (if ow = true then [rc] else [])).map (·.1) := by
      unfold fallL
      rw [List.map_append, ← hcome]
      congr 1
      cases ow <;> rfl
    refine ⟨_, rfl, _, rfl, Nat.zero_le _, fun l5 nl5 => ?_⟩
    have e5 := ex_new (o := .lst []) nl5
    refine ⟨.list (((endsOf (ownN sv s0) any (nts.map NT.af)).filter (fun r => !r.2.2) ++ (if ow = true then [rc] else [])).map encR), .list [], .lst (SqL.of (e5 _ _ hL4)) (dpa_ex e5 hys4), .lst (SqL.of upd_same) .nil, shape_rows _, shape_lnil, _, rfl, ?_⟩
    rw [eqv_lnil]
    refine ite2 (fun hc => ?_) (fun hc => ?_)
    · have hne : ((endsOf (ownN sv s0) any (nts.map NT.af)).filter (fun r => !r.2.2) ++ (if ow = true then [rc] else [])) ≠ [] := fun z => by
        rw [z] at hc
        cases hc
      refine ⟨_, rfl, L4, ys4, _, rfl, SqL.of (e5 _ _ hL4), dpa_ex e5 hys4, hne, fun vf rf hvf hrf hmf => ?_⟩
      refine ⟨(by show 2 ≤ sizeLine; decide), fun tp ntp => ?_⟩
      have e6 := ex_new (o := .tup [vc, vf]) ntp
      refine q _ _ (((e123.trans e4).trans e5).trans e6) ⟨rc, some rf, ⟨hrc1, hrc2, hcome, fun z => (by cases z), fun rf' z => ?_⟩, .tup (SqT.of upd_same) (.cons (dp_ex ((e3.trans e4).trans (e5.trans e6)) ?_) (.cons (dp_ex e6 hvf) .nil))⟩
      · cases z
        rw [← how]
        refine ⟨?_, ?_, ?_⟩
        · rcases List.mem_append.mp hrf with z | z
          · exact (List.mem_filter.mp z).1
          · cases ow with
            | false => cases z
            | true => rw [List.mem_singleton.mp z]; exact hrc1
        · unfold fallN
          rw [hfl, if_neg (fun z => hne (List.map_eq_nil_iff.mp z))]
          congr 1
          refine maxN_eq (List.mem_map.mpr ⟨rf, hrf, rfl⟩) (fun y hy => ?_)
          obtain ⟨r, hr, rfl⟩ := List.mem_map.mp hy
          exact hmf r hr
        · intro hd2
          rcases List.mem_append.mp hrf with z | z
          · have := (List.mem_filter.mp z).2
            rw [hd2] at this
            cases this
          · cases ow with
            | false => cases z
            | true => rfl
      · exact hvc
    · have hnil : ((endsOf (ownN sv s0) any (nts.map NT.af)).filter (fun r => !r.2.2) ++ (if ow = true then [rc] else [])) = [] := by
        cases z : ((endsOf (ownN sv s0) any (nts.map NT.af)).filter (fun r => !r.2.2) ++ (if ow = true then [rc] else [])) with
        | nil => rfl
        | cons x r => rw [z] at hc; exact absurd rfl hc
      refine ⟨(by show 2 ≤ sizeLine; decide), fun tp ntp => ?_⟩
      have e6 := ex_new (o := .tup [vc, .non]) ntp
      refine q _ _ (((e123.trans e4).trans e5).trans e6) ⟨rc, none, ⟨hrc1, hrc2, hcome, fun _ => ?_, fun rf' z => (by cases z)⟩, .tup (SqT.of upd_same) (.cons (dp_ex ((e3.trans e4).trans (e5.trans e6)) ?_) (.cons .non .nil))⟩
      · rw [← how]
        unfold fallN
        rw [hfl, hnil, List.map_nil, if_pos rfl]
      · exact hvc
  refine ⟨_, rfl, a, _, 0, .int s0, rfl, rfl, ex_t e123 t1, rfl, _, rfl, af, _, rfl, .inr (ex_t e123 hf), rfl, flat_ints _, _, rfl, ?_⟩
  rw [if_neg Bool.false_ne_true, inV_ints]
  refine ite2 (fun hc => ?_) (fun hc => ?_)
  · refine ⟨_, rfl, (by show 1 ≤ sizeLine; decide), fun l4 nl4 => ?_⟩
    have e4 := ex_new (o := .lst [vc]) nl4
    refine ⟨L3, l4, _, _, rfl, rfl, e4 _ _ hL3, upd_same, sz3 (by simp; omega), fun l5 nl5 => ?_⟩
    have e5 := e4.trans (ex_new (o := .lst (ys3 ++ [vc])) nl5)
    refine rest true _ l5 _ hc.symm e5 upd_same ?_
    rw [if_pos rfl, List.map_append]
    exact dpa_append (dpa_ex e5 hys3) (.cons (dp_ex (e3.trans e5) hvc) .nil)
  · refine ⟨Nat.zero_le _, fun l4 nl4 => ?_⟩
    have e4 := ex_new (o := .lst []) nl4
    refine ⟨L3, l4, _, _, rfl, rfl, e4 _ _ hL3, upd_same, sz3 (by simp; omega), fun l5 nl5 => ?_⟩
    have e5 := e4.trans (ex_new (o := .lst (ys3 ++ [])) nl5)
    refine rest false _ l5 _ (by cases z : decide (s0 ∈ fl) with | false => rfl | true => exact absurd z hc) e5 upd_same ?_
    rw [if_neg Bool.false_ne_true, List.map_append]
    exact dpa_append (dpa_ex e5 hys3) .nil
end
end CB

namespace CB
open PySem PySem.Spec PyProof.Rows L2 Evl

theorem best_at {K : PySem.W.Frag} {H : Hp} {v : V} {rc : Row} {o : Option Row} (h : Dp K H v (.tuple [encR rc, optR o])) : ∃ a vc vf, v = .ref a ∧ SqT K H a [vc, vf] ∧ Dp K H vc (encR rc) ∧ Dp K H vf (optR o) := by
  obtain ⟨a, xs, rfl, h1, h2⟩ := dp_tup h
  obtain ⟨x1, r1, rfl, d1, h2⟩ := dpa_cons h2
  obtain ⟨x2, r2, rfl, d2, h2⟩ := dpa_cons h2
  have e := dpa_nil h2
  subst e
  exact ⟨a, x1, x2, rfl, h1, d1, d2⟩
theorem nums_best {sv : Option Int} {fl : List Int} {s0 : Int} {n : Nat} {any : Bool} {ps : List Tr} {rc : Row} {o : Option Row} (h : Best (ownN sv s0) any ((numsL sv fl ps).map NT.af) (decide (s0 ∈ fl)) rc o) :
    nums sv fl (.mk s0 n any ps) = .mk (repN n rc.1 (o.map (·.1))).1 (repN n rc.1 (o.map (·.1))).2 (numsL sv fl ps) := by
  obtain ⟨_, _, h3, h4, h5⟩ := h
  rw [nums_eq, ← h3]
  have e : fallN (ownN sv s0) any ((numsL sv fl ps).map NT.af) (decide (s0 ∈ fl)) = o.map (·.1) := by
    cases o with
    | none => exact h4 rfl
    | some rf => exact (h5 rf rfl).2.1
  rw [e]
theorem numsL_len (sv : Option Int) (fl : List Int) (ps : List Tr) : (numsL sv fl ps).length = ps.length := by rw [numsL_map, List.length_map]
section
variable {P : Program} {w : World} {K : PySem.W.Frag} {mg : Str → Option Value} {base : Heap}
/-! ### numbers_of -/
abbrev sNumbersOf : Stmt := topS 32
abbrev nNumbersOf : List Str := ["call", "failing", "service", "parts", "come", "fall", "part"]
theorem scNumbersOf : FnScope nNumbersOf ["call", "failing", "service"] (C8.fnScope sNumbersOf) := C8.fnScope_by (by decide +kernel)
def spNumbersOf (K : PySem.W.Frag) (d : Nat) : Sp := fun vs H Q _ => ∃ (v v2 : V) (t : Tr) (fl : List Int) (sv : Option Int), vs = [v, v2, svV sv] ∧ Dp K H v (encT t) ∧ TrOk d t ∧ Dp K H v2 (encI fl) ∧ Ret H Q (fun r H' => Dp K H' r (encN (nums sv fl t)))
theorem ok_numbers_of (D : Dd K mg "numbers_of" sNumbersOf ["call", "failing", "service"]) (B : Bn mg) (c1 : C8.Cal P w K mg base 2 "best_ends" (spBest K) []) : ∀ d : Nat, C8.Cal P w K mg base (d + 3) "numbers_of" (spNumbersOf K d) []
  | 0 => dead D fun vs H Q E h => by
    obtain ⟨v, v2, t, fl, sv, _, _, h, _⟩ := h
    exact h
  | d + 1 => by
    have ih := ok_numbers_of D B c1 d
    refine dd_cal D scNumbersOf (fun vs H Q E h => ?_) (fun f cdv A outer s H vs Q E hr h => ?_)
    · obtain ⟨v, v2, t, fl, sv, rfl, _⟩ := h
      rfl
    obtain ⟨v, v2, ⟨s0, n, any, ps⟩, fl, sv, rfl, hv, ⟨_, _, hn1, hn3, hl3, hps⟩, h2, q⟩ := h
    obtain ⟨a, b, xs, rfl, t1, t2, t3⟩ := tr_at hv
    have hx : xs.length = ps.length := by rw [dpa_len t3, List.length_map]
    have nd := scNumbersOf.nd
    refine ⟨_, pss_cons (ps_set (i := 3) nd rfl (.inl rfl) (pe_callTy call_tuple_of (by rfl) B.tuple bT_tuple (pa_cons (pe_lc (own := [("part", 6)]) (g := gName 6) (tt := tYes) rfl nd (pi_tup (pe_ix ix_tup (pv 0) pe_int (fun _ _ => rfl)))
        (blkOk_by (own := [("part", 6)]) (N := nNumbersOf) (sc := C8.fnScope sNumbersOf) (by decide +kernel)) (fun _ _ _ _ _ => pg_name (i := 6) nd rfl (Or.inl rfl)) (fun _ _ _ _ _ => pts_nil)
        (fun _ _ _ _ _ => C8.pe_c ih hr (by omega) rfl (pa_cons (pv 6) (pa_cons (pv 1) (pa_cons (pv 2) pa_nil))))) pa_nil)))
      (pss_cons (ps_asg (C8.pe_c c1 hr (by omega) rfl (pa_cons (pv 0) (pa_cons (pv 3) (pa_cons (pv 1) (pa_cons (pv 2) pa_nil))))) (pg_tup (by rfl) (pgs_cons (pg_name (i := 4) nd rfl (.inl rfl)) (pgs_cons (pg_name (i := 5) nd rfl (.inl rfl)) pgs_nil))))
      (pss_cons (ps_if (pt_cmpR op_isN (pv 5) pe_non (nomark _)) (pss_one (ps_ret (pe_tup (pa_cons (pe_ix ix_tup (pv 4) pe_int (fun _ _ => rfl)) (pa_cons pe_non (pa_cons (pv 3) pa_nil)))))) pss_nil)
      (pss_one (ps_ret (pe_tup (pa_cons (pe_op op_add (pe_op op_mul (pe_op op_sub (pe_ix ix_tup (pv 0) pe_int (fun _ _ => rfl)) pe_int) (pe_ix ix_tup (pv 5) pe_int (fun _ _ => rfl))) (pe_ix ix_tup (pv 4) pe_int (fun _ _ => rfl)))
        (pa_cons (pe_op op_mul (pe_ix ix_tup (pv 0) pe_int (fun _ _ => rfl)) (pe_ix ix_tup (pv 5) pe_int (fun _ _ => rfl))) (pa_cons (pv 3) pa_nil)))))))), ?_⟩
    refine ⟨_, rfl, a, _, 3, .ref b, rfl, rfl, t1, rfl, b, rfl, ⟨_, t2⟩, fun D nD => ?_⟩
    refine lc_tup (xs := xs) (fun i H' => Ex H H' ∧ ∃ acc, H' D = some (.lst acc) ∧ acc.length ≤ i ∧ DpAll K H' acc (((numsL sv fl ps).take i).map encN)) ⟨ex_new nD, [], upd_same, Nat.le_refl _, .nil⟩ (fun i H' _ p => ex_t p.1 t2) (fun i x H' hi p => ?_) (fun H1 p => ?_)
    · obtain ⟨e, acc, hD, hal, hacc⟩ := p
      obtain ⟨t, ht, hm, hx2⟩ := tr_part t3 hi
      have hlt := (List.getElem?_eq_some_iff.mp hi).1
      refine ⟨rfl, yes ?_⟩
      refine ⟨_, rfl, _, rfl, _, rfl, x, v2, t, fl, sv, rfl, dp_ex e hx2, hps t hm, dp_ex e h2, fun r H2 e2 hr2 => ?_⟩
      have tx : Tx H2 (upd H2 D (.lst (acc ++ [r]))) := Tx.lst (e2 _ _ hD)
      have hni : (numsL sv fl ps)[i]? = some (nums sv fl t) := by rw [numsL_map, List.getElem?_map, ht]; rfl
      refine ⟨acc, e2 _ _ hD, szl (by omega), (e.trans e2).mut nD, acc ++ [r], upd_same, by rw [List.length_append, List.length_singleton]; omega, ?_⟩
      rw [take_snoc hni, List.map_append]
      refine dpa_append (dpa_tx tx ?_ (dpa_ex e2 hacc)) (.cons (dp_tx tx (noL_nt _) hr2) .nil)
      rw [noLs_mem]
      intro dd hd
      obtain ⟨nn, _, rfl⟩ := List.mem_map.mp hd
      exact noL_nt nn
    obtain ⟨e1, acc, hD, hal, hacc⟩ := p
    rw [List.take_of_length_le (by rw [numsL_len]; omega)] at hacc
    refine ⟨D, acc, rfl, .inl ⟨SqL.of hD, fun l nl => ?_⟩⟩
    have e2 := e1.trans (ex_new (o := .tup acc) nl)
    have hN : NtsV K (upd H1 l (.tup acc)) (.ref l) (numsL sv fl ps) := .tup (SqT.of upd_same) (dpa_ex (ex_new nl) hacc)
    refine ⟨_, rfl, _, rfl, _, rfl, _, rfl, .ref a, .ref l, v2, s0, n, any, ps, numsL sv fl ps, fl, sv, rfl, dp_ex e2 hv, hN, by rw [numsL_len]; exact hl3, dp_ex e2 h2, fun r H3 e3 hr3 => ?_⟩
    obtain ⟨rc, o, hb, hd⟩ := hr3
    obtain ⟨ba, vc, vf, rfl, s1, s2, s3⟩ := best_at hd
    obtain ⟨ca, cb, rfl, hca, hcb⟩ := row_at s2
    have e13 := e2.trans e3
    rw [nums_best hb] at q
    obtain ⟨ya, ys, eya, hya, hys⟩ := dp_tup (dp_ex e3 hN)
    cases eya
    refine ⟨ba, _, rfl, s1, rfl, _, _, rfl, _, _, rfl, rfl, ?_⟩
    refine ⟨_, rfl, rfl, _, rfl, ?_⟩
    cases o with
    | none =>
      have e := dp_non s3
      subst e
      refine iteT ?_
      refine ⟨_, rfl, ca, _, 0, _, rfl, rfl, hca, rfl, _, rfl, (by show 3 ≤ sizeLine; decide), fun tp ntp => ?_⟩
      have e4 := ex_new (o := .tup [.int (rc.1 : Int), .non, .ref l]) ntp
      exact q _ _ (e13.trans e4) (at_nt (n := .mk (repN n rc.1 none).1 (repN n rc.1 none).2 (numsL sv fl ps)) (SqT.of upd_same) (ex_t e4 hya) (dpa_ex e4 hys))
    | some rf =>
      obtain ⟨fa, fb, rfl, hfa, hfb⟩ := row_at (show Dp K H3 vf (encR rf) from s3)
      refine iteF ?_
      have ht1 := ex_t e13 t1
      refine ⟨_, rfl, a, _, 0 + 1, .int (n : Int), rfl, rfl, ht1, rfl, _, _, rfl, rfl, _, rfl, fa, _, 0, _, rfl, rfl, hfa, rfl, _, _, rfl, rfl, .inl ⟨by omega, by omega⟩, _, rfl, ca, _, 0, _, rfl, rfl, hca, rfl, _, _, rfl, rfl, ?_⟩
      refine ⟨_, rfl, a, _, 0 + 1, .int (n : Int), rfl, rfl, ht1, rfl, _, rfl, fa, _, 0, _, rfl, rfl, hfa, rfl, _, _, rfl, rfl, .inl ⟨by omega, by omega⟩, _, rfl, (by show 3 ≤ sizeLine; decide), fun tp ntp => ?_⟩
      have e4 := ex_new (o := .tup [.int (((n : Int) - 1) * (rf.1 : Int) + (rc.1 : Int)), .int ((n : Int) * (rf.1 : Int)), .ref l]) ntp
      refine q _ _ (e13.trans e4) (at_nt (n := .mk (repN n rc.1 (some rf.1)).1 (repN n rc.1 (some rf.1)).2 (numsL sv fl ps)) (SqT.of ?_) (ex_t e4 hya) (dpa_ex e4 hys))
      rw [upd_same]
      have z1 : ((n : Int) - 1) * (rf.1 : Int) + (rc.1 : Int) = (((n - 1) * rf.1 + rc.1 : Nat) : Int) := by
        rw [Int.natCast_add, Int.natCast_mul, Int.natCast_sub hn1]
        rfl
      have z2 : (n : Int) * (rf.1 : Int) = ((n * rf.1 : Nat) : Int) := by rw [Int.natCast_mul]
      show some (HO.tup [V.int (((n : Int) - 1) * (rf.1 : Int) + (rc.1 : Int)), V.int ((n : Int) * (rf.1 : Int)), V.ref l]) = _
      rw [z1, z2]
      rfl

/-! ### decisions_at, decisions_of -/
theorem dec_len {sv : Option Int} {fl : List Int} {d : Nat} {t : Tr} (ht : TrOk d t) {ds : List Bool} {b : Bool} {N : Nat} (h : Dec sv fl (fun f => call f t) ds b N) : ds.length ≤ wtd d := by
  obtain ⟨da, dd, e, l, _, _⟩ := h (fOf (idxF ds)) ([], []) (by rw [List.length_nil]; exact idxF_agree ds)
  have g := (grow_call (f := fOf (idxF ds)) d t ht ([], [])).2
  have e' : call (fOf (idxF ds)) t ([], []) = (b, ([] ++ da, [] ++ dd)) := e
  rw [e'] at g
  simp only [List.nil_append, List.length_nil, Nat.zero_add] at g
  omega
def LsB (ds : List Bool) (v : V) (H : Hp) : Prop := ∃ D, v = .ref D ∧ H D = some (.lst (ds.map V.bl))
abbrev sDecAt : Stmt := topS 33
abbrev nDecAt : List Str := ["call", "found", "row", "is_good", "failing", "service", "decisions", "part", "own", "answers"]
theorem scDecAt : FnScope nDecAt ["call", "found", "row", "is_good", "failing", "service"] (C8.fnScope sDecAt) := C8.fnScope_by (by decide +kernel)
abbrev sDecOf : Stmt := topS 34
abbrev nDecOf : List Str := ["call", "found", "is_good", "failing", "service", "come", "fall", "failed"]
theorem scDecOf : FnScope nDecOf ["call", "found", "is_good", "failing", "service"] (C8.fnScope sDecOf) := C8.fnScope_by (by decide +kernel)
def spDecOf (K : PySem.W.Frag) (d : Nat) : Sp := fun vs H Q _ => ∃ (v v2 v4 : V) (t : Tr) (fl : List Int) (sv : Option Int) (g : Bool) (N : Nat), vs = [v, v2, .bl g, v4, svV sv] ∧ Dp K H v (encT t) ∧ TrOk d t ∧ d ≤ 3 ∧ Dp K H v2 (encN (nums sv fl t)) ∧ Dp K H v4 (encI fl) ∧ pickN (nums sv fl t).af g = some N ∧
  Ret H Q (fun r H' => ∃ ds, LsB ds r H' ∧ Dec sv fl (fun f => call f t) ds g N)
def spDecAt (K : PySem.W.Frag) (d : Nat) : Sp := fun vs H Q _ => ∃ (v v2 v3 v5 : V) (s0 : Int) (n : Nat) (any : Bool) (ps : List Tr) (fl : List Int) (sv : Option Int) (g : Bool) (r : Row), vs = [v, v2, v3, .bl g, v5, svV sv] ∧ Dp K H v (encT (.mk s0 n any ps)) ∧ TrOk (d + 1) (.mk s0 n any ps) ∧ d ≤ 3 ∧
  Dp K H v2 (encN (nums sv fl (.mk s0 n any ps))) ∧ Dp K H v3 (encR r) ∧ Dp K H v5 (encI fl) ∧ r ∈ endsOf (ownN sv s0) any ((numsL sv fl ps).map NT.af) ∧
  Ret H Q (fun z H' => ∃ dss, LsB (dss.flatten ++ (if r.2.2 = true then [g] else [])) z H' ∧ DecL sv fl ps r.2.1 dss)
theorem wtd_le {d : Nat} (h : d ≤ 3) : wtd d ≤ 273 := by
  have : d = 0 ∨ d = 1 ∨ d = 2 ∨ d = 3 := by omega
  rcases this with rfl | rfl | rfl | rfl <;> decide
/-- the answers of a row, one by one, can be had -/
theorem rowSum_get : ∀ (ps : List AF) (bs : List Bool) (x : Nat), rowSum ps bs = some x → ∀ (i : Nat) (p : AF) (b : Bool), ps[i]? = some p → bs[i]? = some b → ∃ y, pickN p b = some y
  | [], _, _, _, i, p, b, h1, _ => by simp at h1
  | p0 :: ps, [], _, _, i, p, b, _, h2 => by simp at h2
  | p0 :: ps, b0 :: bs, x, h, i, p, b, h1, h2 => by
    have h' : (match pickN p0 b0, rowSum ps bs with | some x, some y => some (x + y) | _, _ => none) = some x := h
    cases e1 : pickN p0 b0 with
    | none => rw [e1] at h'; simp at h'
    | some u =>
      cases e2 : rowSum ps bs with
      | none => rw [e1, e2] at h'; simp at h'
      | some w =>
        cases i with
        | zero =>
          simp only [List.getElem?_cons_zero, Option.some.injEq] at h1 h2
          subst h1 h2
          exact ⟨u, e1⟩
        | succ i => exact rowSum_get ps bs w e2 i p b (by simpa using h1) (by simpa using h2)
theorem decL_snoc {sv : Option Int} {fl : List Int} : ∀ {ps : List Tr} {bs : List Bool} {dss : List (List Bool)}, DecL sv fl ps bs dss → ∀ {p : Tr} {b : Bool} {ds : List Bool} {x : Nat}, ps[bs.length]? = some p → pickN (nums sv fl p).af b = some x → Dec sv fl (fun f => call f p) ds b x → DecL sv fl ps (bs ++ [b]) (dss ++ [ds])
  | p0 :: ps, [], [], .nil, p, b, ds, x, hp, h1, h2 => by
    simp only [List.length_nil, List.getElem?_cons_zero, Option.some.injEq] at hp
    subst hp
    exact .cons h1 h2 .nil
  | [], [], [], .nil, p, b, ds, x, hp, h1, h2 => by simp at hp
  | _ :: _, _ :: _, _ :: _, .cons a1 a2 a3, p, b, ds, x, hp, h1, h2 => .cons a1 a2 (decL_snoc a3 (by simpa using hp) h1 h2)
theorem extend_b {ds1 ds2 : List Bool} : ds1.map V.bl ++ ds2.map V.bl = (ds1 ++ ds2).map V.bl := by rw [List.map_append]
theorem ok_dec_at (D : Dd K mg "decisions_at" sDecAt ["call", "found", "row", "is_good", "failing", "service"]) (B : Bn mg) {d k : Nat} (c1 : C8.Cal P w K mg base k "decisions_of" (spDecOf K d) []) : C8.Cal P w K mg base (k + 1) "decisions_at" (spDecAt K d) [] := by
  refine dd_cal D scDecAt (fun vs H Q E h => ?_) (fun f cdv A outer s H vs Q E hr h => ?_)
  · obtain ⟨v, v2, v3, v5, s0, n, any, ps, fl, sv, g, r, rfl, _⟩ := h
    rfl
  obtain ⟨v, v2, v3, v5, s0, n, any, ps, fl, sv, g, r, rfl, hv, ⟨_, _, hn1, hn3, hl3, hps⟩, hd3, h2, h3, h5, hr0, q⟩ := h
  obtain ⟨a, b, xs, rfl, t1, t2, t3⟩ := tr_at hv
  obtain ⟨na, nb, nys, rfl, m1, m2, m3⟩ := nt_at h2
  obtain ⟨ra, rb, rfl, r1, r2⟩ := row_at h3
  have enps : (nums sv fl (.mk s0 n any ps)).ps = numsL sv fl ps := by rw [nums_eq]; rfl
  rw [enps] at m3
  have hx : xs.length = ps.length := by rw [dpa_len t3, List.length_map]
  have hy : nys.length = ps.length := by rw [dpa_len m3, List.length_map, numsL_len]
  have nd := scDecAt.nd
  obtain ⟨xsum, hrow1, hrow2, hrow3⟩ := mem_ends.mp hr0
  have hrl : r.2.1.length ≤ ps.length := by
    have z := row_le hr0
    rw [List.length_map, numsL_len] at z
    exact z
  have hwt := wtd_le hd3
  refine ⟨_, pss_cons (ps_set (i := 6) nd rfl (.inl rfl) (pe_lst pa_nil))
    (pss_cons (ps_for PassesOwn.never rfl (pi_zip3 (by rfl) B.zip (pa_cons (pe_ix ix_tup (pv 0) pe_int (fun _ _ => rfl)) (pa_cons (pe_ix ix_tup (pv 1) pe_int (fun _ _ => rfl)) (pa_cons (pe_ix ix_tup (pv 2) pe_int (fun _ _ => rfl)) pa_nil))))
        (pg_tup (by rfl) (pgs_cons (pg_name (i := 7) nd rfl (.inl rfl)) (pgs_cons (pg_name (i := 8) nd rfl (.inl rfl)) (pgs_cons (pg_name (i := 9) nd rfl (.inl rfl)) pgs_nil))))
      (pss_one (ps_expr (pe_bm PySem.F.plainAttrs_list PySem.F.slot_list_extend PySem.F.type_list_extend mt_extend (pv 6) (pa_cons (C8.pe_c c1 hr (Nat.le_refl _) rfl (pa_cons (pv 7) (pa_cons (pv 8) (pa_cons (pv 9) (pa_cons (pv 4) (pa_cons (pv 5) pa_nil)))))) pa_nil)))))
    (pss_one (ps_ret (pe_op op_cat (pv 6) (pe_ifExp (pt_val (pe_ix ix_tup (pv 2) pe_int (fun _ _ => rfl))) (pe_lst (pa_cons (pv 3) pa_nil)) (pe_lst pa_nil)))))), ?_⟩
  refine ⟨Nat.zero_le _, fun Dl nD => ?_⟩
  have e0 := ex_new (o := .lst []) nD
  refine ⟨_, rfl, a, _, 3, .ref b, rfl, rfl, ex_t e0 t1, rfl, _, rfl, na, _, 2, .ref nb, rfl, rfl, ex_t e0 m1, rfl, _, rfl, ra, _, 1, .ref rb, rfl, rfl, ex_t e0 r1, rfl, b, nb, rb, xs, nys, r.2.1.map V.bl, rfl, ex_t e0 t2, ex_t e0 m2, ex_t e0 r2, ?_⟩
  refine for_it (walk_zip3 rfl) (fun i σ' H' => ∃ (o7 o8 o9 : Option V) (dss : List (List Bool)), σ' = [some (.ref a), some (.ref na), some (.ref ra), some (.bl g), some v5, some (svV sv), some (.ref Dl), o7, o8, o9] ∧ Ex H H' ∧ H' Dl = some (.lst (dss.flatten.map V.bl)) ∧ dss.flatten.length ≤ i * 273 ∧ DecL sv fl ps (r.2.1.take i) dss)
    ⟨none, none, none, [], rfl, e0, upd_same, Nat.zero_le _, by rw [List.take_zero]; exact .nil⟩ (fun i σ' H' _ ⟨_, _, _, _, _, e, _⟩ => ⟨ex_t e t2, ex_t e m2, ex_t e r2⟩) ?_ ?_
  · rintro i y σ' H1 H2 hi ⟨o7, o8, o9, dss, rfl, e1, hD, hdl, hdec⟩ yy
    obtain ⟨T, x1, y1, z1, rfl, hT, rfl, hx1, hy1, hz1⟩ := yy
    have hx1 : xs[i]? = some x1 := hx1
    have hy1 : nys[i]? = some y1 := hy1
    have hz1 : (r.2.1.map V.bl)[i]? = some z1 := hz1
    obtain ⟨t, ht, htm, htd⟩ := tr_part t3 hx1
    obtain ⟨nt, hnt, _, hnd⟩ := nt_part m3 hy1
    have hnt2 : nt = nums sv fl t := by
      rw [numsL_map, List.getElem?_map, ht] at hnt
      simpa using hnt.symm
    subst hnt2
    rw [List.getElem?_map] at hz1
    cases eg : r.2.1[i]? with
    | none => rw [eg] at hz1; cases hz1
    | some bg =>
      rw [eg] at hz1
      simp only [Option.map_some, Option.some.injEq] at hz1
      subst hz1
      have eT := ex_new (o := .tup [x1, y1, .bl bg]) hT
      have e2 := e1.trans eT
      obtain ⟨N, hN⟩ := rowSum_get _ _ _ hrow2 i (nums sv fl t).af bg (by rw [List.getElem?_map, hnt]; rfl) eg
      have hlt := (List.getElem?_eq_some_iff.mp eg).1
      refine ⟨T, _, rfl, SqT.of upd_same, rfl, _, _, rfl, _, _, rfl, _, _, rfl, rfl, ?_⟩
      refine ⟨_, rfl, .inl ⟨rfl, _, SqL.of (eT _ _ hD)⟩, ?_⟩
      refine ⟨_, rfl, _, rfl, _, rfl, _, rfl, _, rfl, x1, y1, v5, t, fl, sv, bg, N, rfl, dp_ex e2 htd, hps t htm, hd3, dp_ex e2 hnd, dp_ex e2 h5, hN, fun rr H3 e3 hrr => ?_⟩
      obtain ⟨ds, ⟨Dn, rfl, hDn⟩, hdec2⟩ := hrr
      have hdl2 := dec_len (hps t htm) hdec2
      have hD3 := e3 _ _ (eT _ _ hD)
      refine ⟨Dl, Dn, _, _, rfl, rfl, hD3, hDn, sz3 (by rw [List.length_map, List.length_map]; omega), ?_⟩
      rw [extend_b]
      refine ⟨_, _, _, dss ++ [ds], rfl, (e2.trans e3).mut nD, ?_, ?_, ?_⟩
      · rw [upd_same, List.flatten_append, List.flatten_singleton]
      · rw [List.flatten_append, List.flatten_singleton, List.length_append]; omega
      · rw [take_snoc eg]
        refine decL_snoc hdec ?_ hN hdec2
        rw [List.length_take, show min i r.2.1.length = i by omega]
        exact ht
  · rintro σ' H1 ⟨o7, o8, o9, dss, rfl, e1, hD, hdl, hdec⟩
    have emin : min (min xs.length nys.length) (r.2.1.map V.bl).length = r.2.1.length := by rw [List.length_map]; omega
    rw [emin, List.take_of_length_le (Nat.le_refl _)] at hdec
    rw [emin] at hdl
    refine ⟨_, rfl, _, rfl, ra, _, 2, .bl r.2.2, rfl, rfl, ex_t e1 r1, rfl, _, rfl, ?_⟩
    refine ite2 (fun hc => ?_) (fun hc => ?_)
    · rw [if_pos hc] at q
      refine ⟨_, rfl, (by show 1 ≤ sizeLine; decide), fun l1 nl1 => ?_⟩
      have e2 := ex_new (o := .lst [.bl g]) nl1
      refine ⟨Dl, l1, _, _, rfl, rfl, e2 _ _ hD, upd_same, sz3 (by simp only [List.length_map, List.length_cons, List.length_nil]; omega), fun l2 nl2 => ?_⟩
      refine q _ _ ((e1.trans e2).trans (ex_new nl2)) ⟨dss, ⟨l2, rfl, ?_⟩, hdec⟩
      rw [upd_same, List.map_append]
      rfl
    · rw [if_neg hc] at q
      refine ⟨Nat.zero_le _, fun l1 nl1 => ?_⟩
      have e2 := ex_new (o := .lst []) nl1
      refine ⟨Dl, l1, _, _, rfl, rfl, e2 _ _ hD, upd_same, sz3 (by simp only [List.length_map, List.length_nil]; omega), fun l2 nl2 => ?_⟩
      refine q _ _ ((e1.trans e2).trans (ex_new nl2)) ⟨dss, ⟨l2, rfl, ?_⟩, hdec⟩
      rw [upd_same, List.append_nil, List.append_nil]
theorem flat_repl (n : Nat) (ds : List Bool) : (List.replicate n (ds.map V.bl)).flatten = ((List.replicate n ds).flatten).map V.bl := by
  induction n with
  | zero => rfl
  | succ n ih => rw [List.replicate_succ, List.flatten_cons, ih, List.replicate_succ, List.flatten_cons, List.map_append]
theorem ok_dec_of (D : Dd K mg "decisions_of" sDecOf ["call", "found", "is_good", "failing", "service"]) (B : Bn mg) (c1 : C8.Cal P w K mg base 2 "best_ends" (spBest K) []) {d k : Nat} (hk : 2 ≤ k) (c2 : C8.Cal P w K mg base k "decisions_at" (spDecAt K d) []) : C8.Cal P w K mg base (k + 1) "decisions_of" (spDecOf K (d + 1)) [] := by
  refine dd_cal D scDecOf (fun vs H Q E h => ?_) (fun f cdv A outer s H vs Q E hr h => ?_)
  · obtain ⟨v, v2, v4, t, fl, sv, g, N, rfl, _⟩ := h
    rfl
  obtain ⟨v, v2, v4, ⟨s0, n, any, ps⟩, fl, sv, g, N, rfl, hv, htr, hd3, h2, h4, hN, q⟩ := h
  obtain ⟨a, b, xs, rfl, t1, t2, t3⟩ := tr_at hv
  obtain ⟨na, nb, nys, rfl, m1, m2, m3⟩ := nt_at h2
  have enps : (nums sv fl (.mk s0 n any ps)).ps = numsL sv fl ps := by rw [nums_eq]; rfl
  rw [enps] at m3
  have hNts : NtsV K H (.ref nb) (numsL sv fl ps) := .tup m2 m3
  have hn1 : 1 ≤ n := htr.2.2.1
  have hn3 : n ≤ 3 := htr.2.2.2.1
  have hl3 : ps.length ≤ 3 := htr.2.2.2.2.1
  have nd := scDecOf.nd
  have hwt := wtd_le hd3
  refine ⟨_, pss_cons (ps_asg (C8.pe_c c1 hr hk rfl (pa_cons (pv 0) (pa_cons (pe_ix ix_tup (pv 1) pe_int (fun _ _ => rfl)) (pa_cons (pv 3) (pa_cons (pv 4) pa_nil))))) (pg_tup (by rfl) (pgs_cons (pg_name (i := 5) nd rfl (.inl rfl)) (pgs_cons (pg_name (i := 6) nd rfl (.inl rfl)) pgs_nil))))
    (pss_cons (ps_set (i := 7) nd rfl (.inl rfl) (pe_ifExp (pt_cmpR op_isN (pv 6) pe_non (nomark _)) (pe_lst pa_nil) (C8.pe_c c2 hr (Nat.le_refl _) rfl (pa_cons (pv 0) (pa_cons (pv 1) (pa_cons (pv 6) (pa_cons pe_bl (pa_cons (pv 3) (pa_cons (pv 4) pa_nil)))))))))
    (pss_cons (ps_if (pt_not (pt_val (pv 2))) (pss_one (ps_ret (pe_op op_rep (pv 7) (pe_ix ix_tup (pv 0) pe_int (fun _ _ => rfl))))) pss_nil)
    (pss_one (ps_ret (pe_op op_cat (pe_op op_rep (pv 7) (pe_op op_sub (pe_ix ix_tup (pv 0) pe_int (fun _ _ => rfl)) pe_int)) (C8.pe_c c2 hr (Nat.le_refl _) rfl (pa_cons (pv 0) (pa_cons (pv 1) (pa_cons (pv 5) (pa_cons pe_bl (pa_cons (pv 3) (pa_cons (pv 4) pa_nil)))))))))))), ?_⟩
  refine ⟨_, rfl, _, rfl, na, _, 2, .ref nb, rfl, rfl, m1, rfl, _, rfl, _, rfl, .ref a, .ref nb, v4, s0, n, any, ps, numsL sv fl ps, fl, sv, rfl, hv, hNts, by rw [numsL_len]; exact hl3, h4, fun r H1 e1 hr1 => ?_⟩
  obtain ⟨rc, o, hb, hd⟩ := hr1
  obtain ⟨ba, vc, vf, rfl, s1, s2, s3⟩ := best_at hd
  have hnb := nums_best (n := n) hb
  have haf : (nums sv fl (.mk s0 n any ps)).af = repN n rc.1 (o.map (·.1)) := by rw [hnb]; rfl
  rw [haf] at hN
  obtain ⟨hb1, hb2, hb3, hb4, hb5⟩ := hb
  refine ⟨ba, _, rfl, s1, rfl, _, _, rfl, _, _, rfl, rfl, ?_⟩
  refine ⟨_, rfl, rfl, _, rfl, ?_⟩
  -- the attempt that comes, asked last
  have comeC : ∀ (H2 : Hp) (vfl : V), Ex H1 H2 → ∀ Q' : VK, (∀ H3 l1 ds1, Ex H2 H3 → H3 l1 = some (.lst (ds1.map V.bl)) → Dec sv fl (fun f => attG f s0 (parts f any (!any || ps.isEmpty) ps)) ds1 true rc.1 → Q' (.ref l1) H3) →
      tCall (spDecAt K d) [] C8.E0 (tCons (tVar 0) (tCons (tVar 1) (tCons (tVar 5) (tCons (tC (.bl true)) (tCons (tVar 3) (tCons (tVar 4) tNil))))))
        [some (.ref a), some (.ref na), some (.bl g), some v4, some (svV sv), some vc, some vf, some vfl] H2 Q' := fun H2 vfl e2 Q' q' => by
    have e12 := e1.trans e2
    refine ⟨_, rfl, _, rfl, _, rfl, _, rfl, _, rfl, .ref a, .ref na, vc, v4, s0, n, any, ps, fl, sv, true, rc, rfl, dp_ex e12 hv, htr, by omega, dp_ex e12 h2, dp_ex e2 s2, dp_ex e12 h4, hb1, fun z H3 e3 hz => ?_⟩
    obtain ⟨dss, ⟨l1, rfl, hl1⟩, hdl⟩ := hz
    exact q' H3 l1 _ e3 hl1 (dec_row hb1 hdl (fun _ => .inl rfl) (fun z => by rw [hb2] at z; cases z))
  have goodLen : ∀ ds1 : List Bool, Dec sv fl (fun f => attG f s0 (parts f any (!any || ps.isEmpty) ps)) ds1 true rc.1 → ds1.length ≤ 273 := fun ds1 h1 =>
    Nat.le_trans (dec_len htr (dec_call_one (any := any) (ps := ps) hn1 h1)) hwt
  cases o with
  | none =>
    have e := dp_non s3
    subst e
    refine iteT ?_
    refine ⟨Nat.zero_le _, fun lf nlf => ?_⟩
    have e2 := ex_new (o := .lst []) nlf
    refine ⟨_, rfl, g, rfl, ?_⟩
    cases g with
    | false => simp [repN, pickN] at hN
    | true =>
      refine iteF ?_
      refine ⟨_, rfl, _, rfl, a, _, 1, .int (n : Int), rfl, rfl, ex_t (e1.trans e2) t1, rfl, _, _, rfl, rfl, lf, _, [], rfl, rfl, upd_same, by omega, by omega, by simp, fun lr nlr => ?_⟩
      have e3 := e2.trans (ex_new (o := .lst (List.replicate ((n : Int) - 1).toNat []).flatten) nlr)
      refine comeC _ _ e3 _ fun H3 l1 ds1 e4 hl1 hdec => ?_
      have hlen := goodLen ds1 hdec
      have eflat : (List.replicate ((n : Int) - 1).toNat ([] : List V)).flatten = [] := by simp
      refine ⟨lr, l1, _, _, rfl, rfl, e4 _ _ upd_same, hl1, sz3 (by rw [eflat, List.length_map, List.length_nil]; omega), fun l2 nl2 => ?_⟩
      simp only [repN, pickN, if_true, Option.map_none, Option.some.injEq] at hN
      refine q _ _ (((e1.trans e3).trans e4).trans (ex_new nl2)) ⟨ds1, ⟨l2, rfl, ?_⟩, ?_⟩
      · rw [upd_same, eflat, List.nil_append]
      · rw [← hN]; exact dec_call_one hn1 hdec
  | some rf =>
    obtain ⟨hf1, hf2, hf3⟩ := hb5 rf rfl
    have s3' : Dp K H1 vf (encR rf) := s3
    have hvf : decide (vf = V.non) = false := by
      obtain ⟨fa, fb, rfl, _⟩ := row_at s3'
      rfl
    rw [hvf]
    refine iteF ?_
    refine ⟨_, rfl, _, rfl, _, rfl, _, rfl, _, rfl, .ref a, .ref na, vf, v4, s0, n, any, ps, fl, sv, false, rf, rfl, dp_ex e1 hv, htr, by omega, dp_ex e1 h2, s3', dp_ex e1 h4, hf1, fun z H2 e2 hz => ?_⟩
    obtain ⟨dss, ⟨lf, rfl, hlf⟩, hdl⟩ := hz
    have hfall := dec_row hf1 hdl (fun z => .inr (of_decide_eq_true (hf3 z))) (fun _ => rfl)
    have hflen : (dss.flatten ++ (if rf.2.2 = true then [false] else [])).length ≤ 273 := by
      have z := dec_len htr (dec_call_no (n := n) (any := any) (ps := ps) hfall)
      have z2 : (dss.flatten ++ (if rf.2.2 = true then [false] else [])).length ≤ ((List.replicate n (dss.flatten ++ (if rf.2.2 = true then [false] else []))).flatten).length := by
        obtain ⟨m, rfl⟩ : ∃ m, n = m + 1 := ⟨n - 1, by omega⟩
        rw [List.replicate_succ, List.flatten_cons]
        exact (List.prefix_append _ _).length_le
      omega
    refine ⟨_, rfl, g, rfl, ?_⟩
    cases g with
    | false =>
      refine iteT ?_
      simp only [repN, pickN, Bool.false_eq_true, if_false, Option.map_some, Option.some.injEq] at hN
      have hm : (dss.flatten ++ (if rf.2.2 = true then [false] else [])).length * n ≤ 273 * 3 := Nat.mul_le_mul hflen hn3
      refine ⟨_, rfl, _, rfl, a, _, 1, .int (n : Int), rfl, rfl, ex_t (e1.trans e2) t1, rfl, lf, _, _, rfl, rfl, hlf, by omega, by omega, sz3 (by rw [List.length_map, Int.toNat_natCast]; omega), fun lr nlr => ?_⟩
      refine q _ _ ((e1.trans e2).trans (ex_new nlr)) ⟨(List.replicate n (dss.flatten ++ (if rf.2.2 = true then [false] else []))).flatten, ⟨lr, rfl, ?_⟩, ?_⟩
      · rw [upd_same, Int.toNat_natCast, flat_repl]
      · rw [← hN]; exact dec_call_no hfall
    | true =>
      refine iteF ?_
      simp only [repN, pickN, if_true, Option.map_some, Option.some.injEq] at hN
      have en : ((n : Int) - 1).toNat = n - 1 := by omega
      have hm : (dss.flatten ++ (if rf.2.2 = true then [false] else [])).length * (n - 1) ≤ 273 * 2 := Nat.mul_le_mul hflen (by omega)
      have hrl : ((List.replicate (n - 1) (dss.flatten ++ (if rf.2.2 = true then [false] else []))).flatten).length ≤ 273 * 2 := by
        rw [List.length_flatten, List.map_replicate, List.sum_replicate_nat, Nat.mul_comm]
        exact hm
      refine ⟨_, rfl, _, rfl, a, _, 1, .int (n : Int), rfl, rfl, ex_t (e1.trans e2) t1, rfl, _, _, rfl, rfl, lf, _, _, rfl, rfl, hlf, by omega, by omega, sz3 (by rw [List.length_map, en]; omega), fun lr nlr => ?_⟩
      rw [en, flat_repl] at *
      have e3 := e2.trans (ex_new (o := .lst (((List.replicate (n - 1) (dss.flatten ++ (if rf.2.2 = true then [false] else []))).flatten).map V.bl)) nlr)
      refine comeC _ _ e3 _ fun H3 l1 ds1 e4 hl1 hdec => ?_
      have hlen := goodLen ds1 hdec
      refine ⟨lr, l1, _, _, rfl, rfl, e4 _ _ upd_same, hl1, sz3 (by rw [List.length_map, List.length_map]; omega), fun l2 nl2 => ?_⟩
      refine q _ _ (((e1.trans e3).trans e4).trans (ex_new nl2)) ⟨(List.replicate (n - 1) (dss.flatten ++ (if rf.2.2 = true then [false] else []))).flatten ++ ds1, ⟨l2, rfl, ?_⟩, ?_⟩
      · rw [upd_same, List.map_append]
      · rw [← hN]; exact dec_call_yes hn1 hfall hdec
end
end CB

namespace CB
open PySem PySem.Spec PyProof.Rows L2 Evl

theorem idx_snoc {ds : List Bool} {i : Nat} {g : Bool} (h : ds[i]? = some g) : ((List.range (i + 1)).filter (fun j => !ds.getD j true)).map (fun j : Nat => (j : Int)) = ((List.range i).filter (fun j => !ds.getD j true)).map (fun j : Nat => (j : Int)) ++ (if g = true then [] else [(i : Int)]) := by
  have hg : ds.getD i true = g := by rw [List.getD_eq_getElem?_getD, h]; rfl
  rw [List.range_succ, List.filter_append, List.map_append]
  congr 1
  cases g with
  | true => simp [List.filter_cons, h]
  | false => simp [List.filter_cons, h]
theorem idxF_len (ds : List Bool) : (idxF ds).length ≤ ds.length := by
  unfold idxF
  rw [List.length_map]
  refine Nat.le_trans (List.length_filter_le _ _) ?_
  rw [List.length_range]
  exact Nat.le_refl _
theorem valid_setL {fl : List Int} {t : Tr} {x : List Int} (h : Valid fl t x) (hl : x.length ≤ 10000) : SetL x := ⟨h.1, fun a ha => (h.2 a ha).1, hl⟩
theorem dp3_at {K : PySem.W.Frag} {H : Hp} {v : V} {a b c : PyData} (h : Dp K H v (.tuple [a, b, c])) : ∃ p x y z, v = .ref p ∧ SqT K H p [x, y, z] ∧ Dp K H x a ∧ Dp K H y b ∧ Dp K H z c := by
  obtain ⟨a, xs, rfl, h1, h2⟩ := dp_tup h
  obtain ⟨x1, r1, rfl, d1, h2⟩ := dpa_cons h2
  obtain ⟨x2, r2, rfl, d2, h2⟩ := dpa_cons h2
  obtain ⟨x3, r3, rfl, d3, h2⟩ := dpa_cons h2
  have e := dpa_nil h2
  subst e
  exact ⟨a, x1, x2, x3, rfl, h1, d1, d2, d3⟩
theorem dp2_at {K : PySem.W.Frag} {H : Hp} {v : V} {a b : PyData} (h : Dp K H v (.tuple [a, b])) : ∃ p x y, v = .ref p ∧ SqT K H p [x, y] ∧ Dp K H x a ∧ Dp K H y b := by
  obtain ⟨a, xs, rfl, h1, h2⟩ := dp_tup h
  obtain ⟨x1, r1, rfl, d1, h2⟩ := dpa_cons h2
  obtain ⟨x2, r2, rfl, d2, h2⟩ := dpa_cons h2
  have e := dpa_nil h2
  subst e
  exact ⟨a, x1, x2, rfl, h1, d1, d2⟩
section
variable {P : Program} {w : World} {K : PySem.W.Frag} {mg : Str → Option Value} {base : Heap}
theorem dec_all (D1 : Dd K mg "decisions_of" sDecOf ["call", "found", "is_good", "failing", "service"]) (D2 : Dd K mg "decisions_at" sDecAt ["call", "found", "row", "is_good", "failing", "service"]) (B : Bn mg) (c1 : C8.Cal P w K mg base 2 "best_ends" (spBest K) []) :
    ∀ d : Nat, C8.Cal P w K mg base (2 * d + 2) "decisions_of" (spDecOf K d) []
  | 0 => dead D1 fun vs H Q E h => by
    obtain ⟨v, v2, v4, t, fl, sv, g, N, _, _, h, _⟩ := h
    exact h
  | d + 1 => ok_dec_of D1 B c1 (by omega) (ok_dec_at D2 B (dec_all D1 D2 B c1 d))

/-! ### only_by, only, numbers -/
abbrev sOnlyBy : Stmt := topS 35
abbrev nOnlyBy : List Str := ["tree", "failing", "service", "found", "answered", "failed", "parts", "is_good", "decisions", "at", "good"]
theorem scOnlyBy : FnScope nOnlyBy ["tree", "failing", "service"] (C8.fnScope sOnlyBy) := C8.fnScope_by (by decide +kernel)
def OnlyR (K : PySem.W.Frag) (sv : Option Int) (fl : List Int) (t : Tr) (r : V) (H : Hp) : Prop := ∃ x, Dp K H r (.tuple [.int (top (nums sv fl t) : Int), encI x]) ∧ Valid fl t x ∧ cnt sv (runT t x).2.1 = top (nums sv fl t) ∧ x.length ≤ 273
def spOnlyBy (K : PySem.W.Frag) : Sp := fun vs H Q _ => ∃ (v v2 : V) (t : Tr) (fl : List Int) (sv : Option Int), vs = [v, v2, svV sv] ∧ Dp K H v (encT t) ∧ TrOk 3 t ∧ Dp K H v2 (encI fl) ∧ Ret H Q (OnlyR K sv fl t)
theorem ok_only_by (D : Dd K mg "only_by" sOnlyBy ["tree", "failing", "service"]) (B : Bn mg) (c1 : C8.Cal P w K mg base 6 "numbers_of" (spNumbersOf K 3) []) (c2 : C8.Cal P w K mg base 8 "decisions_of" (spDecOf K 3) []) : C8.Cal P w K mg base 9 "only_by" (spOnlyBy K) [] := by
  refine dd_cal D scOnlyBy (fun vs H Q E h => ?_) (fun f cdv A outer s H vs Q E hr h => ?_)
  · obtain ⟨v, v2, t, fl, sv, rfl, _⟩ := h
    rfl
  obtain ⟨v, v2, t, fl, sv, rfl, hv, ht, h2, q⟩ := h
  have nd := scOnlyBy.nd
  refine ⟨_, pss_cons (ps_set (i := 3) nd rfl (.inl rfl) (C8.pe_c c1 hr (by omega) rfl (pa_cons (pv 0) (pa_cons (pv 1) (pa_cons (pv 2) pa_nil)))))
    (pss_cons (ps_asg (pv 3) (pg_tup (by rfl) (pgs_cons (pg_name (i := 4) nd rfl (.inl rfl)) (pgs_cons (pg_name (i := 5) nd rfl (.inl rfl)) (pgs_cons (pg_name (i := 6) nd rfl (.inl rfl)) pgs_nil)))))
    (Evl.pss_cut (ps_set (i := 7) nd rfl (.inl rfl) (pe_or (pe_cmpR op_isN (pv 5) pe_non (nomark _)) (pe_one (pe_cmpR op_ge (pv 4) (pv 5) (nomark _)))))
    (pss_cons (ps_set (i := 8) nd rfl (.inl rfl) (C8.pe_c c2 hr (by omega) rfl (pa_cons (pv 0) (pa_cons (pv 3) (pa_cons (pv 7) (pa_cons (pv 1) (pa_cons (pv 2) pa_nil)))))))
    (pss_one (ps_ret (pe_tup (pa_cons (pe_ifExp (pt_val (pv 7)) (pv 4) (pv 5)) (pa_cons (pe_callTy call_tuple_of (by rfl) B.tuple bT_tuple (pa_cons (pe_lc (own := [("at", 9), ("good", 10)]) rfl nd (pi_enum (by rfl) B.enum (pa_cons (pv 8) pa_nil))
        (blkOk_by (own := [("at", 9), ("good", 10)]) (N := nOnlyBy) (sc := C8.fnScope sOnlyBy) (by decide +kernel)) (fun _ _ _ _ _ => pg_tupK K (n := 2) rfl (pgs_cons (pg_name (i := 9) nd rfl (Or.inl rfl)) (pgs_cons (pg_name (i := 10) nd rfl (Or.inl rfl)) pgs_nil)))
        (fun _ _ _ _ _ => pts_one (pt_not (pt_val (pv 10)))) (fun _ _ _ _ _ => pv 9)) pa_nil)) pa_nil)))))))), ?_⟩
  refine ⟨_, rfl, _, rfl, _, rfl, v, v2, t, fl, sv, rfl, hv, ht, h2, fun r H1 e1 hr1 => ?_⟩
  obtain ⟨na, nb, nys, rfl, m1, m2, m3⟩ := nt_at hr1
  refine ⟨_, rfl, na, _, rfl, m1, rfl, _, _, rfl, _, _, rfl, _, _, rfl, rfl, ?_⟩
  refine ⟨fun σ' H' => H' = H1 ∧ σ' = [some v, some v2, some (svV sv), some (.ref na), some (.int ((nums sv fl t).a : Int)), some (optV (nums sv fl t).f), some (.ref nb), some (.bl (isGood (nums sv fl t))), none, none, none], ?_, ?_⟩
  · refine ⟨_, rfl, rfl, _, rfl, ?_⟩
    unfold isGood
    cases hf : (nums sv fl t).f with
    | none => exact iteT ⟨rfl, rfl⟩
    | some x =>
      refine iteF ?_
      refine ⟨_, rfl, _, rfl, _, _, rfl, rfl, rfl, ?_⟩
      have e : decide ((x : Int) ≤ ((nums sv fl t).a : Int)) = decide (x ≤ (nums sv fl t).a) := by rw [decide_eq_decide]; omega
      dsimp only
      rw [e]
      rfl
  rintro σ' H' ⟨rfl, rfl⟩
  refine ⟨_, rfl, _, rfl, _, rfl, _, rfl, _, rfl, v, .ref na, v2, t, fl, sv, isGood (nums sv fl t), top (nums sv fl t), rfl, dp_ex e1 hv, ht, by decide, hr1, dp_ex e1 h2, top_pick _, fun r2 H2 e2 hr2 => ?_⟩
  obtain ⟨ds, ⟨Dd2, rfl, hD⟩, hdec⟩ := hr2
  have hdl := dec_len ht hdec
  rw [wt3] at hdl
  have e12 := e1.trans e2
  refine ⟨_, rfl, _, rfl, ?_⟩
  -- the answer's first part is the greatest number
  have fin : ∀ H3, Ex H' H3 → ∀ Q' : VK, Q' (.int (top (nums sv fl t) : Int)) H3 → (if isGood (nums sv fl t) = true then tVar 4 [some v, some v2, some (svV sv), some (.ref na), some (.int ((nums sv fl t).a : Int)), some (optV (nums sv fl t).f), some (.ref nb), some (.bl (isGood (nums sv fl t))), some (.ref Dd2), none, none] H3 Q' else tVar 5 [some v, some v2, some (svV sv), some (.ref na), some (.int ((nums sv fl t).a : Int)), some (optV (nums sv fl t).f), some (.ref nb), some (.bl (isGood (nums sv fl t))), some (.ref Dd2), none, none] H3 Q') := fun H3 e3 Q' q' => by
    unfold isGood top at *
    cases hf : (nums sv fl t).f with
    | none =>
      rw [hf] at q'
      exact iteT ⟨_, rfl, q'⟩
    | some x =>
      rw [hf] at q'
      simp only at q' ⊢
      by_cases hx : x ≤ (nums sv fl t).a
      · rw [if_pos hx] at q'
        rw [if_pos (decide_eq_true hx)]
        exact ⟨_, rfl, q'⟩
      · rw [if_neg hx] at q'
        rw [if_neg (by simpa using hx)]
        exact ⟨_, rfl, q'⟩
  refine fin H2 e2 _ ?_
  refine ⟨_, rfl, Dd2, _, rfl, SqL.of hD, fun L nL => ?_⟩
  refine lc_it (walk_enum (xs := ds.map V.bl)) (fun i H' => Ex H2 H' ∧ H' L = some (.lst ((((List.range i).filter (fun j => !ds.getD j true)).map (fun j : Nat => (j : Int))).map V.int))) ⟨ex_new nL, upd_same⟩ (fun i H' _ p => SqL.of (p.1 _ _ hD)) (fun i y H3 H4 hi pv y => ?_) (fun H3 pv => ?_)
  · obtain ⟨T', x1, y1, rfl, hT, rfl, hx1, hy1⟩ := y
    have hx1 : some (V.int ((i : Nat) : Int)) = some x1 := hx1
    cases hx1
    have hy1 : (ds.map V.bl)[i]? = some y1 := hy1
    rw [List.getElem?_map] at hy1
    cases eu : ds[i]? with
    | none => rw [eu] at hy1; cases hy1
    | some u =>
      rw [eu] at hy1
      simp only [Option.map_some, Option.some.injEq] at hy1
      subst hy1
      obtain ⟨eP, hL⟩ := pv
      have hlt := (List.getElem?_eq_some_iff.mp eu).1
      have eT := ex_new (o := .tup [.int ((i : Nat) : Int), .bl u]) hT
      refine ⟨T', _, rfl, SqT.of upd_same, rfl, _, _, rfl, _, _, rfl, rfl, rfl, ?_⟩
      refine ⟨_, rfl, u, rfl, ?_⟩
      cases u with
      | true =>
        refine iteF ⟨eP.trans eT, ?_⟩
        rw [idx_snoc eu, if_pos rfl, List.append_nil]
        exact eT _ _ hL
      | false =>
        refine iteT ⟨_, rfl, _, eT _ _ hL, szl ?_, (eP.trans eT).mut nL, ?_⟩
        · rw [List.length_map, List.length_map]
          have := List.length_filter_le (fun j => !ds.getD j true) (List.range i)
          rw [List.length_range] at this
          omega
        · rw [upd_same, idx_snoc eu, if_neg Bool.false_ne_true, List.map_append]
          rfl
  obtain ⟨e3, hL⟩ := pv
  rw [List.length_map] at hL
  refine ⟨L, _, rfl, .inl ⟨SqL.of hL, fun tp ntp => ?_⟩⟩
  refine ⟨(by show 2 ≤ sizeLine; decide), fun rp nrp => ?_⟩
  have eT := ex_new (o := .tup ((((List.range ds.length).filter (fun j => !ds.getD j true)).map (fun j : Nat => (j : Int))).map V.int)) ntp
  obtain ⟨g1, g2, g3⟩ := run_dec hdec
  refine q _ _ (((e12.trans e3).trans eT).trans (ex_new nrp)) ⟨idxF ds, .tup (SqT.of upd_same) (.cons (.int _) (.cons (at_ints (ns := idxF ds) (ex_t (ex_new nrp) (SqT.of upd_same))) .nil)), g3, g2, Nat.le_trans (idxF_len ds) hdl⟩
abbrev sOnly : Stmt := topS 36
theorem scOnly : FnScope ["tree", "failing", "service"] ["tree", "failing", "service"] (C8.fnScope sOnly) := C8.fnScope_by (by decide +kernel)
def spOnly (K : PySem.W.Frag) : Sp := fun vs H Q _ => ∃ (v v2 : V) (t : Tr) (fl : List Int) (sv : Option Int), vs = [v, v2, svV sv] ∧ TreeV K H v t ∧ FailV K H v2 fl ∧ SvOk sv ∧ Ret H Q (OnlyR K sv fl t)
theorem ok_only (D : Dd K mg "only" sOnly ["tree", "failing", "service"]) (c1 : C8.Cal P w K mg base 8 "need_failing" (spNeedFailing K) []) (c2 : C8.Cal P w K mg base 9 "only_by" (spOnlyBy K) []) : C8.Cal P w K mg base 10 "only" (spOnly K) [] := by
  refine dd_cal D scOnly (fun vs H Q E h => ?_) (fun f cdv A outer s H vs Q E hr h => ?_)
  · obtain ⟨v, v2, t, fl, sv, rfl, _⟩ := h
    rfl
  obtain ⟨v, v2, t, fl, sv, rfl, hv, h2, hs, q⟩ := h
  refine ⟨_, pss_cons (ps_expr (C8.pe_c c1 hr (by omega) rfl (pa_cons (pv 0) (pa_cons (pv 1) (pa_cons (pv 2) pa_nil))))) (pss_one (ps_ret (C8.pe_c c2 hr (by omega) rfl (pa_cons (pv 0) (pa_cons (pv 1) (pa_cons (pv 2) pa_nil)))))), ?_⟩
  refine ⟨_, rfl, _, rfl, _, rfl, v, v2, t, fl, sv, rfl, hv, h2, hs, fun _ H1 e1 _ => ?_⟩
  exact ⟨_, rfl, _, rfl, _, rfl, v, v2, t, fl, sv, rfl, dp_ex e1 hv.1, hv.2.1, dp_ex e1 h2.1, fun r H2 e2 hr2 => q r H2 (e1.trans e2) hr2⟩
abbrev sNumbers : Stmt := topS 37
theorem scNumbers : FnScope ["tree", "failing", "service"] ["tree", "failing", "service"] (C8.fnScope sNumbers) := C8.fnScope_by (by decide +kernel)
def spNumbers (K : PySem.W.Frag) : Sp := fun vs H Q _ => ∃ (v v2 : V) (t : Tr) (fl : List Int) (sv : Option Int), vs = [v, v2, svV sv] ∧ TreeV K H v t ∧ FailV K H v2 fl ∧ SvOk sv ∧ Ret H Q (fun r H' => Dp K H' r (encN (nums sv fl t)))
theorem ok_numbers (D : Dd K mg "numbers" sNumbers ["tree", "failing", "service"]) (c1 : C8.Cal P w K mg base 8 "need_failing" (spNeedFailing K) []) (c2 : C8.Cal P w K mg base 6 "numbers_of" (spNumbersOf K 3) []) : C8.Cal P w K mg base 9 "numbers" (spNumbers K) [] := by
  refine dd_cal D scNumbers (fun vs H Q E h => ?_) (fun f cdv A outer s H vs Q E hr h => ?_)
  · obtain ⟨v, v2, t, fl, sv, rfl, _⟩ := h
    rfl
  obtain ⟨v, v2, t, fl, sv, rfl, hv, h2, hs, q⟩ := h
  refine ⟨_, pss_cons (ps_expr (C8.pe_c c1 hr (by omega) rfl (pa_cons (pv 0) (pa_cons (pv 1) (pa_cons (pv 2) pa_nil))))) (pss_one (ps_ret (C8.pe_c c2 hr (by omega) rfl (pa_cons (pv 0) (pa_cons (pv 1) (pa_cons (pv 2) pa_nil)))))), ?_⟩
  refine ⟨_, rfl, _, rfl, _, rfl, v, v2, t, fl, sv, rfl, hv, h2, hs, fun _ H1 e1 _ => ?_⟩
  exact ⟨_, rfl, _, rfl, _, rfl, v, v2, t, fl, sv, rfl, dp_ex e1 hv.1, hv.2.1, dp_ex e1 h2.1, fun r H2 e2 hr2 => q r H2 (e1.trans e2) hr2⟩

/-! ### is_integer, are_bounds -/
abbrev sIsInteger : Stmt := topS 38
theorem scIsInteger : FnScope ["thing"] ["thing"] (C8.fnScope sIsInteger) := C8.fnScope_by (by decide +kernel)
def spIsInteger : Sp := fun vs H Q _ => ∃ i : Int, vs = [.int i] ∧ Q (.bl true) H
theorem ok_is_integer (D : Dd K mg "is_integer" sIsInteger ["thing"]) (B : Bn mg) : C8.Cal P w K mg base 1 "is_integer" spIsInteger [] := by
  refine dd_cal D scIsInteger (fun vs H Q E h => ?_) (fun f cdv A outer s H vs Q E hr h => ?_)
  · obtain ⟨i, rfl, _⟩ := h
    rfl
  obtain ⟨i, rfl, q⟩ := h
  refine ⟨_, pss_one (ps_ret (pe_and (pe_isi (pv 0) (by rfl) B.isi (by rfl) B.int bT_int) (pe_one (pe_not (pe_isi (pv 0) (by rfl) B.isi (by rfl) B.bool bT_bool))))), ?_⟩
  refine ⟨_, rfl, _, _, _, true, rfl, tyx_int, k_ii, true, rfl, iteT ?_⟩
  exact ⟨_, rfl, _, _, _, false, rfl, tyx_int, k_ib, false, rfl, q⟩
abbrev sBounds : Stmt := topS 39
abbrev nBounds : List Str := ["call", "thing", "failing", "service", "answered", "failed", "parts", "come", "fall", "part", "own"]
theorem scBounds : FnScope nBounds ["call", "thing", "failing", "service"] (C8.fnScope sBounds) := C8.fnScope_by (by decide +kernel)
def spBounds (K : PySem.W.Frag) (d : Nat) : Sp := fun vs H Q _ => ∃ (v v2 v3 : V) (t : Tr) (fl : List Int) (sv : Option Int), vs = [v, v2, v3, svV sv] ∧ Dp K H v (encT t) ∧ TrOk d t ∧ Dp K H v2 (encN (nums sv fl t)) ∧ Dp K H v3 (encI fl) ∧ Ret H Q fun r _ => r = .bl true
theorem ok_bounds (D : Dd K mg "are_bounds" sBounds ["call", "thing", "failing", "service"]) (B : Bn mg) (c0 : C8.Cal P w K mg base 1 "is_integer" spIsInteger []) (c1 : C8.Cal P w K mg base 2 "best_ends" (spBest K) []) : ∀ d : Nat, C8.Cal P w K mg base (d + 3) "are_bounds" (spBounds K d) []
  | 0 => dead D fun vs H Q E h => by
    obtain ⟨v, v2, v3, t, fl, sv, _, _, h, _⟩ := h
    exact h
  | d + 1 => by
    have ih := ok_bounds D B c0 c1 d
    refine dd_cal D scBounds (fun vs H Q E h => ?_) (fun f cdv A outer s H vs Q E hr h => ?_)
    · obtain ⟨v, v2, v3, t, fl, sv, rfl, _⟩ := h
      rfl
    obtain ⟨v, v2, v3, ⟨s0, n, any, ps⟩, fl, sv, rfl, hv, ⟨_, _, hn1, hn3, hl3, hps⟩, h2, h3, q⟩ := h
    obtain ⟨a, b, xs, rfl, t1, t2, t3⟩ := tr_at hv
    obtain ⟨na, nb, nys, rfl, m1, m2, m3⟩ := nt_at h2
    have enps : (nums sv fl (.mk s0 n any ps)).ps = numsL sv fl ps := by rw [nums_eq]; rfl
    rw [enps] at m3
    have hNts : NtsV K H (.ref nb) (numsL sv fl ps) := .tup m2 m3
    have hx : xs.length = ps.length := by rw [dpa_len t3, List.length_map]
    have hy : nys.length = ps.length := by rw [dpa_len m3, List.length_map, numsL_len]
    have nd := scBounds.nd
    refine ⟨_, pss_cons (ps_if (PW.pt (pw_or (pt_not (pt_val (pe_isi (pv 1) (by rfl) B.isi (by rfl) B.tuple bT_tuple))) (pw_or (pt_cmpR op_ne (pe_callB call_len_seq (by rfl) B.len PySem.boot_len (pa_cons (pv 1) pa_nil)) pe_int (nomark _))
          (pw_or1 (pt_not (pt_val (C8.pe_c c0 hr (by omega) rfl (pa_cons (pe_ix ix_tup (pv 1) pe_int (fun _ _ => rfl)) pa_nil)))))))) (pss_one (ps_ret pe_bl)) pss_nil)
      (pss_cons (ps_asg (pv 1) (pg_tup (by rfl) (pgs_cons (pg_name (i := 4) nd rfl (.inl rfl)) (pgs_cons (pg_name (i := 5) nd rfl (.inl rfl)) (pgs_cons (pg_name (i := 6) nd rfl (.inl rfl)) pgs_nil)))))
      (Evl.pss_cut (ps_if (PW.pt (pw_and (pt_cmpR op_notN (pv 5) pe_non (nomark _)) (pw_and1 (pt_not (pt_val (C8.pe_c c0 hr (by omega) rfl (pa_cons (pv 5) pa_nil))))))) (pss_one (ps_ret pe_bl)) pss_nil)
      (pss_cons (ps_if (PW.pt (pw_or (pt_not (pt_val (pe_isi (pv 6) (by rfl) B.isi (by rfl) B.tuple bT_tuple))) (pw_or1 (pt_cmpR op_ne (pe_callB call_len_seq (by rfl) B.len PySem.boot_len (pa_cons (pv 6) pa_nil)) (pe_callB call_len_seq (by rfl) B.len PySem.boot_len (pa_cons (pe_ix ix_tup (pv 0) pe_int (fun _ _ => rfl)) pa_nil)) (nomark _))))) (pss_one (ps_ret pe_bl)) pss_nil)
      (pss_cons (ps_if (pt_not (pt_val (pe_callB (cr_all rfl) (by rfl) B.all bB_all (pa_cons (pe_lc (own := [("part", 9), ("own", 10)]) (tt := tYes) rfl nd (RZ.pi_zipA (by rfl) B.zip (pa_cons (pe_ix ix_tup (pv 0) pe_int (fun _ _ => rfl)) (pa_cons (pv 6) pa_nil)))
          (blkOk_by (own := [("part", 9), ("own", 10)]) (N := nBounds) (sc := C8.fnScope sBounds) (by decide +kernel)) (fun _ _ _ _ _ => pg_tupK K (n := 2) rfl (pgs_cons (pg_name (i := 9) nd rfl (Or.inl rfl)) (pgs_cons (pg_name (i := 10) nd rfl (Or.inl rfl)) pgs_nil))) (fun _ _ _ _ _ => pts_nil)
          (fun _ _ _ _ _ => C8.pe_c ih hr (by omega) rfl (pa_cons (pv 9) (pa_cons (pv 10) (pa_cons (pv 2) (pa_cons (pv 3) pa_nil)))))) pa_nil)))) (pss_one (ps_ret pe_bl)) pss_nil)
      (pss_cons (ps_asg (C8.pe_c c1 hr (by omega) rfl (pa_cons (pv 0) (pa_cons (pv 6) (pa_cons (pv 2) (pa_cons (pv 3) pa_nil))))) (pg_tup (by rfl) (pgs_cons (pg_name (i := 7) nd rfl (.inl rfl)) (pgs_cons (pg_name (i := 8) nd rfl (.inl rfl)) pgs_nil))))
      (pss_cons (ps_if (pt_cmpR op_lt (pv 4) (pe_ix ix_tup (pv 7) pe_int (fun _ _ => rfl)) (nomark _)) (pss_one (ps_ret pe_bl)) pss_nil)
      (pss_cons (ps_if (pt_cmpR op_isN (pv 8) pe_non (nomark _)) (pss_one (ps_ret pe_bl)) pss_nil)
      (pss_one (ps_ret (pe_and (pe_cmpR op_notN (pv 5) pe_non (nomark _)) (pe_and (pe_cmpR op_ge (pv 5) (pe_op op_mul (pe_ix ix_tup (pv 0) pe_int (fun _ _ => rfl)) (pe_ix ix_tup (pv 8) pe_int (fun _ _ => rfl))) (nomark _))
        (pe_one (pe_cmpR op_ge (pv 4) (pe_op op_add (pe_op op_mul (pe_op op_sub (pe_ix ix_tup (pv 0) pe_int (fun _ _ => rfl)) pe_int) (pe_ix ix_tup (pv 8) pe_int (fun _ _ => rfl))) (pe_ix ix_tup (pv 7) pe_int (fun _ _ => rfl))) (nomark _)))))))))))))), ?_⟩
    refine ⟨_, rfl, _, _, _, true, rfl, tyx_tup m1, k_tt, true, rfl, iteF ?_⟩
    refine ⟨_, rfl, na, _, rfl, .inr m1, rfl, _, rfl, iteF ?_⟩
    refine ⟨_, rfl, na, _, 0, _, rfl, rfl, m1, rfl, _, rfl, true, rfl, iteF ?_⟩
    refine ⟨_, rfl, na, _, rfl, m1, rfl, _, _, rfl, _, _, rfl, _, _, rfl, rfl, ?_⟩
    refine ⟨fun σ' H' => H' = H ∧ σ' = [some (.ref a), some (.ref na), some v3, some (svV sv), some (.int ((nums sv fl (.mk s0 n any ps)).a : Int)), some (optV (nums sv fl (.mk s0 n any ps)).f), some (.ref nb), none, none, none, none], ?_, ?_⟩
    · refine ⟨_, rfl, rfl, _, rfl, ?_⟩
      cases hf : (nums sv fl (.mk s0 n any ps)).f with
      | none => exact iteF (iteF ⟨rfl, rfl⟩)
      | some z =>
        refine iteT ?_
        exact ⟨_, rfl, _, rfl, true, rfl, iteF ⟨rfl, rfl⟩⟩
    rintro σ' H' ⟨rfl, rfl⟩
    refine ⟨_, rfl, _, _, _, true, rfl, tyx_tup m2, k_tt, true, rfl, iteF ?_⟩
    refine ⟨_, rfl, nb, _, rfl, .inr m2, _, rfl, a, _, 3, .ref b, rfl, rfl, t1, rfl, b, _, rfl, .inr t2, rfl, _, rfl, ?_⟩
    rw [hx, hy, decide_eq_true rfl]
    refine iteF ?_
    -- the parts
    refine ⟨_, rfl, a, _, 3, .ref b, rfl, rfl, t1, rfl, _, rfl, b, nb, _, _, rfl, .inr ⟨t2, m2, fun L nL => ?_⟩⟩
    refine lc_it (walk_zipT rfl) (Tr1 H' L) (tr1_start (Ex.refl H') nL) (fun i H2 _ p => ⟨ex_t p.1 t2, ex_t p.1 m2⟩) (fun i x H2 H3 hi p y => ?_) (fun H1 p => ?_)
    · obtain ⟨T', x1, y1, rfl, hT, rfl, hx1, hy1⟩ := y
      have hx1 : xs[i]? = some x1 := hx1
      have hy1 : nys[i]? = some y1 := hy1
      obtain ⟨t, ht, htm, htd⟩ := tr_part t3 hx1
      obtain ⟨nt, hnt, _, hnd⟩ := nt_part m3 hy1
      have hnt2 : nt = nums sv fl t := by
        rw [numsL_map, List.getElem?_map, ht] at hnt
        simpa using hnt.symm
      subst hnt2
      have eT := p.1.trans (ex_new (o := .tup [x1, y1]) hT)
      refine ⟨T', _, rfl, SqT.of upd_same, rfl, _, _, rfl, _, _, rfl, rfl, rfl, yes ?_⟩
      refine ⟨_, rfl, _, rfl, _, rfl, _, rfl, x1, y1, v3, t, fl, sv, rfl, dp_ex eT htd, hps t htm, dp_ex eT hnd, dp_ex eT h3, fun r H4 e4 er => ?_⟩
      subst er
      exact tr1_turn p nL ((ex_new hT).trans e4) (by omega)
    refine ⟨L, _, rfl, SqL.of p.2, true, by rw [all_true], iteF ?_⟩
    have e1 := p.1
    refine ⟨_, rfl, _, rfl, _, rfl, _, rfl, .ref a, .ref nb, v3, s0, n, any, ps, numsL sv fl ps, fl, sv, rfl, dp_ex e1 hv, dp_ex e1 hNts, by rw [numsL_len]; exact hl3, dp_ex e1 h3, fun r H2 e2 hr2 => ?_⟩
    obtain ⟨rc, o, hb, hd⟩ := hr2
    obtain ⟨ba, vc, vf, rfl, s1, s2, s3⟩ := best_at hd
    obtain ⟨ca, cb, rfl, hca, hcb⟩ := row_at s2
    have hnb := nums_best (n := n) hb
    have e12 := e1.trans e2
    refine ⟨ba, _, rfl, s1, rfl, _, _, rfl, _, _, rfl, rfl, ?_⟩
    refine ⟨_, rfl, _, rfl, ca, _, 0, _, rfl, rfl, hca, rfl, _, _, rfl, rfl, _, rfl, ?_⟩
    have ea : (nums sv fl (.mk s0 n any ps)).a = (repN n rc.1 (o.map (·.1))).1 := by rw [hnb]; rfl
    have ef : (nums sv fl (.mk s0 n any ps)).f = (repN n rc.1 (o.map (·.1))).2 := by rw [hnb]; rfl
    have hge : rc.1 ≤ (nums sv fl (.mk s0 n any ps)).a := by
      rw [ea]
      cases o with
      | none => exact Nat.le_refl _
      | some rf => exact Nat.le_add_left _ _
    rw [decide_eq_false (by omega)]
    refine iteF ?_
    refine ⟨_, rfl, rfl, _, rfl, ?_⟩
    cases o with
    | none =>
      have e := dp_non s3
      subst e
      exact iteT (q _ _ e12 rfl)
    | some rf =>
      obtain ⟨fa, fb, rfl, hfa, hfb⟩ := row_at (show Dp K H2 vf (encR rf) from s3)
      refine iteF ?_
      have ht1 := ex_t e12 t1
      have ef' : (nums sv fl (.mk s0 n any ps)).f = some (n * rf.1) := ef
      have ea' : (nums sv fl (.mk s0 n any ps)).a = (n - 1) * rf.1 + rc.1 := ea
      have z1 : ((n : Int) - 1) * (rf.1 : Int) + (rc.1 : Int) = (((n - 1) * rf.1 + rc.1 : Nat) : Int) := by
        rw [Int.natCast_add, Int.natCast_mul, Int.natCast_sub hn1]
        rfl
      have z2 : (n : Int) * (rf.1 : Int) = ((n * rf.1 : Nat) : Int) := by rw [Int.natCast_mul]
      rw [ef', ea']
      refine ⟨_, rfl, rfl, true, rfl, iteT ?_⟩
      refine ⟨_, rfl, _, rfl, a, _, 0 + 1, .int (n : Int), rfl, rfl, ht1, rfl, _, rfl, fa, _, 0, _, rfl, rfl, hfa, rfl, _, _, rfl, rfl, .inl ⟨by omega, by omega⟩, _, _, rfl, rfl, true, ?_, iteT ?_⟩
      · show V.bl (decide ((n : Int) * (rf.1 : Int) ≤ ((n * rf.1 : Nat) : Int))) = V.bl true
        rw [z2, decide_eq_true (Int.le_refl _)]
      refine ⟨_, rfl, _, rfl, a, _, 0 + 1, .int (n : Int), rfl, rfl, ht1, rfl, _, _, rfl, rfl, _, rfl, fa, _, 0, _, rfl, rfl, hfa, rfl, _, _, rfl, rfl, .inl ⟨by omega, by omega⟩, _, rfl, ca, _, 0, _, rfl, rfl, hca, rfl, _, _, rfl, rfl, _, _, rfl, rfl, ?_⟩
      refine q _ _ e12 ?_
      show V.bl (decide (((n : Int) - 1) * (rf.1 : Int) + (rc.1 : Int) ≤ (((n - 1) * rf.1 + rc.1 : Nat) : Int))) = V.bl true
      rw [z1, decide_eq_true (Int.le_refl _)]
end
end CB

namespace CB
open PySem PySem.Spec PyProof.Rows L2 Evl
section
variable {P : Program} {w : World} {K : PySem.W.Frag} {mg : Str → Option Value} {base : Heap}
/-! ### shows_only -/
abbrev sShows : Stmt := topS 42
abbrev nShows : List Str := ["tree", "failing", "service", "thing", "most", "fails", "found"]
theorem scShows : FnScope nShows ["tree", "failing", "service", "thing"] (C8.fnScope sShows) := C8.fnScope_by (by decide +kernel)
def spShows (K : PySem.W.Frag) : Sp := fun vs H Q _ => ∃ (v v2 v4 : V) (t : Tr) (fl x : List Int) (sv : Option Int) (m : Int) (b : Bool), vs = [v, v2, svV sv, v4] ∧ TreeV K H v t ∧ FailV K H v2 fl ∧ SvOk sv ∧ Dp K H v4 (.tuple [.int m, encI x, encN (nums sv fl t)]) ∧ SetL x ∧
  ((b = true ∧ m = (top (nums sv fl t) : Int) ∧ Fine (fOf x) fl 0 (runT t x).2.2 ∧ cnt sv (runT t x).2.1 = top (nums sv fl t)) ∨ (b = false ∧ m < (top (nums sv fl t) : Int))) ∧ Ret H Q fun r _ => r = .bl b
theorem top_cases (n : NT) : (n.f = none ∧ top n = n.a) ∨ ∃ x, n.f = some x ∧ ((x ≤ n.a ∧ top n = n.a) ∨ (n.a < x ∧ top n = x)) := by
  unfold top
  cases hf : n.f with
  | none => exact .inl ⟨rfl, rfl⟩
  | some x =>
    refine .inr ⟨x, rfl, ?_⟩
    by_cases h : x ≤ n.a
    · exact .inl ⟨h, by simp only; rw [if_pos h]⟩
    · exact .inr ⟨by omega, by simp only; rw [if_neg h]⟩
theorem ok_shows (D : Dd K mg "shows_only" sShows ["tree", "failing", "service", "thing"]) (B : Bn mg) (c1 : C8.Cal P w K mg base 8 "need_failing" (spNeedFailing K) []) (c2 : C8.Cal P w K mg base 1 "is_integer" spIsInteger []) (c3 : C8.Cal P w K mg base 1 "is_fails" (spIsFails K) [])
    (c4 : C8.Cal P w K mg base 6 "are_bounds" (spBounds K 3) []) (c5 : C8.Cal P w K mg base 11 "has_most" (spHasMost K) []) : C8.Cal P w K mg base 12 "shows_only" (spShows K) [] := by
  refine dd_cal D scShows (fun vs H Q E h => ?_) (fun f cdv A outer s H vs Q E hr h => ?_)
  · obtain ⟨v, v2, v4, t, fl, x, sv, m, b, rfl, _⟩ := h
    rfl
  obtain ⟨v, v2, v4, t, fl, x, sv, m, b, rfl, hv, h2, hsv, h4, hx, hcase, q⟩ := h
  have nd := scShows.nd
  refine ⟨_, pss_cons (ps_expr (C8.pe_c c1 hr (by omega) rfl (pa_cons (pv 0) (pa_cons (pv 1) (pa_cons (pv 2) pa_nil)))))
    (pss_cons (ps_if (PW.pt (pw_or (pt_not (pt_val (pe_isi (pv 3) (by rfl) B.isi (by rfl) B.tuple bT_tuple))) (pw_or1 (pt_cmpR op_ne (pe_callB call_len_seq (by rfl) B.len PySem.boot_len (pa_cons (pv 3) pa_nil)) pe_int (nomark _))))) (pss_one (ps_ret pe_bl)) pss_nil)
    (pss_cons (ps_asg (pv 3) (pg_tup (by rfl) (pgs_cons (pg_name (i := 4) nd rfl (.inl rfl)) (pgs_cons (pg_name (i := 5) nd rfl (.inl rfl)) (pgs_cons (pg_name (i := 6) nd rfl (.inl rfl)) pgs_nil)))))
    (pss_cons (ps_if (PW.pt (pw_or (pt_not (pt_val (C8.pe_c c2 hr (by omega) rfl (pa_cons (pv 4) pa_nil)))) (pw_or (pt_not (pt_val (C8.pe_c c3 hr (by omega) rfl (pa_cons (pv 5) pa_nil)))) (pw_or1 (pt_not (pt_val (C8.pe_c c4 hr (by omega) rfl (pa_cons (pv 0) (pa_cons (pv 6) (pa_cons (pv 1) (pa_cons (pv 2) pa_nil))))))))))) (pss_one (ps_ret pe_bl)) pss_nil)
    (pss_cons (ps_if (PW.pt (pw_or (pt_cmpR op_lt (pv 4) (pe_ix ix_tup (pv 6) pe_int (fun _ _ => rfl)) (nomark _)) (pw_or1 (PW.pt (pw_and (pt_cmpR op_notN (pe_ix ix_tup (pv 6) pe_int (fun _ _ => rfl)) pe_non (nomark _)) (pw_and1 (pt_cmpR op_lt (pv 4) (pe_ix ix_tup (pv 6) pe_int (fun _ _ => rfl)) (nomark _)))))))) (pss_one (ps_ret pe_bl)) pss_nil)
    (pss_one (ps_ret (C8.pe_c c5 hr (by omega) rfl (pa_cons (pv 0) (pa_cons (pv 1) (pa_cons (pv 2) (pa_cons (pv 4) (pa_cons (pv 5) pa_nil)))))))))))), ?_⟩
  refine ⟨_, rfl, _, rfl, _, rfl, v, v2, t, fl, sv, rfl, hv, h2, hsv, fun _ H1 e1 _ => ?_⟩
  obtain ⟨ta, t1, t2, t3, rfl, s1, d1, d2, d3⟩ := dp3_at (dp_ex e1 h4)
  have em := dp_int d1
  subst em
  obtain ⟨na, nb, nys, rfl, m1, m2, m3⟩ := nt_at d3
  refine ⟨_, rfl, _, _, _, true, rfl, tyx_tup s1, k_tt, true, rfl, iteF ?_⟩
  refine ⟨_, rfl, ta, _, rfl, .inr s1, rfl, _, rfl, iteF ?_⟩
  refine ⟨_, rfl, ta, _, rfl, s1, rfl, _, _, rfl, _, _, rfl, _, _, rfl, rfl, ?_⟩
  refine ⟨_, rfl, m, rfl, true, rfl, iteF ?_⟩
  refine ⟨_, rfl, t2, x, rfl, d2, hx, fun r H2 e2 er => ?_⟩
  subst er
  refine ⟨true, rfl, iteF ?_⟩
  have e12 := e1.trans e2
  refine ⟨_, rfl, _, rfl, _, rfl, _, rfl, v, .ref na, v2, t, fl, sv, rfl, dp_ex e12 hv.1, hv.2.1, dp_ex e2 d3, dp_ex e12 h2.1, fun r H3 e3 er => ?_⟩
  subst er
  refine ⟨true, rfl, iteF ?_⟩
  have e13 := e12.trans e3
  have m13 := ex_t (e2.trans e3) m1
  refine ⟨_, rfl, _, rfl, na, _, 0, _, rfl, rfl, m13, rfl, _, _, rfl, rfl, _, rfl, ?_⟩
  have last : m = (top (nums sv fl t) : Int) → (tRet (tCall (spHasMost K) [] C8.E0 (tCons (tVar 0) (tCons (tVar 1) (tCons (tVar 2) (tCons (tVar 4) (tCons (tVar 5) tNil)))))))
      { nx := fun _ H' => Q .non H', rt := Q } [some v, some v2, some (svV sv), some (.ref ta), some (.int m), some t2, some (.ref na)] H3 := fun hm => by
    rcases hcase with ⟨rfl, h1, hf, hc⟩ | ⟨rfl, h1⟩
    · refine ⟨_, rfl, _, rfl, _, rfl, _, rfl, _, rfl, v, v2, t2, t, fl, x, sv, m, rfl, ⟨dp_ex e13 hv.1, hv.2⟩, dp_ex e13 h2.1, h2.2.2.2, dp_ex (e2.trans e3) d2, hx, hf, by rw [hc, h1], fun r H4 e4 er => ?_⟩
      exact q _ _ (e13.trans e4) er
    · omega
  have no : ¬ m = (top (nums sv fl t) : Int) → b = false ∧ m < (top (nums sv fl t) : Int) := fun hn => by
    rcases hcase with ⟨_, h1, _⟩ | h1
    · exact absurd h1 hn
    · exact h1
  have stop : b = false → Q (.bl false) H3 := fun hb => by
    subst hb
    exact q _ _ e13 rfl
  rcases top_cases (nums sv fl t) with ⟨hf, ht⟩ | ⟨z, hf, hz⟩
  · refine ite2 (fun hc => ?_) (fun hc => ?_)
    · have hlt := of_decide_eq_true hc
      have hn := no (by omega)
      exact iteT (stop hn.1)
    · have hge : ¬ m < ((nums sv fl t).a : Int) := fun z => hc (decide_eq_true z)
      refine ⟨_, rfl, na, _, 1, optV (nums sv fl t).f, rfl, rfl, m13, rfl, rfl, _, rfl, ?_⟩
      rw [hf]
      refine iteF (iteF ?_)
      by_cases hm : m = (top (nums sv fl t) : Int)
      · exact last hm
      · have hn := no hm
        omega
  · refine ite2 (fun hc => ?_) (fun hc => ?_)
    · have hlt := of_decide_eq_true hc
      have hn := no (by omega)
      exact iteT (stop hn.1)
    · have hge : ¬ m < ((nums sv fl t).a : Int) := fun z => hc (decide_eq_true z)
      refine ⟨_, rfl, na, _, 1, optV (nums sv fl t).f, rfl, rfl, m13, rfl, rfl, _, rfl, ?_⟩
      rw [hf]
      refine iteT ?_
      refine ⟨_, rfl, _, rfl, na, _, 1, optV (nums sv fl t).f, rfl, rfl, m13, rfl, ?_⟩
      rw [hf]
      refine ⟨_, _, rfl, rfl, _, rfl, ?_⟩
      refine ite2 (fun hc2 => ?_) (fun hc2 => ?_)
      · have hlt := of_decide_eq_true hc2
        have hn := no (by omega)
        exact stop hn.1
      · have hge2 : ¬ m < (z : Int) := fun y => hc2 (decide_eq_true y)
        by_cases hm : m = (top (nums sv fl t) : Int)
        · exact last hm
        · have hn := no hm
          omega
end
end CB

namespace CB
open PySem PySem.Spec PyProof.Rows L2 Evl

/-! ### the heap without some places -/
def hid (W : List Addr) (H : Hp) : Hp := fun a => if a ∈ W then none else H a
theorem hid_ex (W : List Addr) (H : Hp) : Ex (hid W H) H := fun a o h => by
  unfold hid at h
  split at h
  · cases h
  · exact h
theorem hid_none {W : List Addr} {H : Hp} {a : Addr} (h : a ∈ W) : hid W H a = none := by unfold hid; rw [if_pos h]
theorem hid_get {W : List Addr} {H : Hp} {a : Addr} {o : HO} (h : H a = some o) (hw : a ∉ W) : hid W H a = some o := by unfold hid; rw [if_neg hw]; exact h
theorem ex_hid {W : List Addr} {H0 H : Hp} (e : Ex H0 H) (hw : ∀ a ∈ W, H0 a = none) : Ex H0 (hid W H) := fun a o h => hid_get (e a o h) (fun z => by rw [hw a z] at h; cases h)
theorem tx_hid {W : List Addr} {H : Hp} (hw : ∀ a ∈ W, ∃ xs, H a = some (.lst xs)) : Tx H (hid W H) := fun a xs =>
  ⟨fun h => hid_get h (fun z => by obtain ⟨ys, e⟩ := hw a z; rw [h] at e; cases e), fun ob h => hid_get h (fun z => by obtain ⟨ys, e⟩ := hw a z; rw [h] at e; cases e)⟩

def PenAt (H : Hp) (l : Addr) (k : Nat) : Prop := ∃ p0 p1 p2 : Int, H l = some (.lst [.int p0, .int p1, .int p2]) ∧ 0 ≤ p0 ∧ 0 ≤ p1 ∧ p1 < 1000000007 ∧ 0 ≤ p2 ∧ p2 ≤ (k : Int)
theorem PenAt.ex {H H' : Hp} {l : Addr} {k : Nat} (h : PenAt H l k) (e : Ex H H') : PenAt H' l k := by
  obtain ⟨p0, p1, p2, h, r⟩ := h
  exact ⟨p0, p1, p2, e _ _ h, r⟩
theorem PenAt.le {H : Hp} {l : Addr} {k j : Nat} (h : PenAt H l k) (hj : k ≤ j) : PenAt H l j := by
  obtain ⟨p0, p1, p2, h, a, b, c, d, e⟩ := h
  exact ⟨p0, p1, p2, h, a, b, c, d, by omega⟩
theorem PenAt.lst {H : Hp} {l : Addr} {k : Nat} (h : PenAt H l k) : ∃ xs, H l = some (.lst xs) := by
  obtain ⟨p0, p1, p2, h, _⟩ := h
  exact ⟨_, h⟩
section
variable {P : Program} {w : World} {K : PySem.W.Frag} {mg : Str → Option Value} {base : Heap}
/-! ### _law_cell_at, _law_pen, _law_draw, _law_pick -/
abbrev sCellAt : Stmt := topS 44
theorem scCellAt : FnScope ["_law_script", "_law_k"] ["_law_script", "_law_k"] (C8.fnScope sCellAt) := C8.fnScope_by (by decide +kernel)
def spCellAt (K : PySem.W.Frag) : Sp := fun vs H Q _ => ∃ (a : Addr) (ns : List Int) (k : Nat), vs = [.ref a, .int (k : Int)] ∧ SqL K H a (ns.map V.int) ∧ ∀ i : Int, Q (.int i) H
theorem ok_cell_at (D : Dd K mg "_law_cell_at" sCellAt ["_law_script", "_law_k"]) (B : Bn mg) : C8.Cal P w K mg base 1 "_law_cell_at" (spCellAt K) [] := by
  refine dd_cal D scCellAt (fun vs H Q E h => ?_) (fun f cdv A outer s H vs Q E hr h => ?_)
  · obtain ⟨a, ns, k, rfl, _⟩ := h
    rfl
  obtain ⟨a, ns, k, rfl, hS, q⟩ := h
  refine ⟨_, pss_cons (ps_if (pt_cmpR op_lt (pv 1) (pe_callB call_len_seq (by rfl) B.len PySem.boot_len (pa_cons (pv 0) pa_nil)) (nomark _)) (pss_one (ps_ret (pe_ix ix_list (pv 0) (pv 1) (fun _ _ => rfl)))) pss_nil) (pss_one (ps_ret pe_int)), ?_⟩
  refine ⟨_, rfl, _, rfl, a, _, rfl, .inl hS, _, _, rfl, rfl, _, rfl, ?_⟩
  refine ite2 (fun hc => ?_) (fun hc => ?_)
  · have hlt := of_decide_eq_true hc
    rw [List.length_map] at hlt
    have hk : k < ns.length := by omega
    refine ⟨_, rfl, _, rfl, a, _, (k : Int), .int ns[k], rfl, rfl, hS, atI_nat (by rw [List.getElem?_map, List.getElem?_eq_getElem hk]; rfl), q _⟩
  · exact q 0
abbrev sPen : Stmt := topS 45
theorem scPen : FnScope ["_law_cell"] ["_law_cell"] (C8.fnScope sPen) := C8.fnScope_by (by decide +kernel)
def spPen : Sp := fun vs H Q _ => ∃ i : Int, vs = [.int i] ∧ ∀ l H', H l = none → Ex H H' → PenAt H' l 0 → Q (.ref l) H'
theorem ok_pen (D : Dd K mg "_law_pen" sPen ["_law_cell"]) (B : Bn mg) : C8.Cal P w K mg base 1 "_law_pen" spPen [] := by
  refine dd_cal D scPen (fun vs H Q E h => ?_) (fun f cdv A outer s H vs Q E hr h => ?_)
  · obtain ⟨i, rfl, _⟩ := h
    rfl
  obtain ⟨i, rfl, q⟩ := h
  refine ⟨_, pss_one (ps_ret (pe_lst (pa_cons (pe_callB (call_max2 rfl) (by rfl) B.max bB_max (pa_cons pe_int (pa_cons (pe_op op_sub (pv 0) (pe_op op_pow pe_int pe_int)) pa_nil))) (pa_cons (pe_op op_mod (pv 0) pe_int) (pa_cons pe_int pa_nil))))), ?_⟩
  refine ⟨_, rfl, _, _, rfl, rfl, ⟨by decide, by decide, by decide⟩, _, _, rfl, rfl, _, _, rfl, ?_⟩
  refine ⟨_, rfl, _, _, rfl, rfl, (by show (0 : Int) < 1000000007; decide), ?_⟩
  refine ⟨(by show 3 ≤ sizeLine; decide), fun l nl => ?_⟩
  refine q l _ nl (ex_new nl) ⟨_, _, _, upd_same, ?_, Int.emod_nonneg _ (by decide), Int.emod_lt_of_pos _ (by decide), by decide, by decide⟩
  split <;> omega
abbrev sDraw : Stmt := topS 46
theorem scDraw : FnScope ["_law_pen_here", "_law_many", "_law_digit", "_law_stir"] ["_law_pen_here", "_law_many"] (C8.fnScope sDraw) := C8.fnScope_by (by decide +kernel)
def spDraw : Sp := fun vs H Q _ => ∃ (H0 : Hp) (l : Addr) (k : Nat) (m : Int), vs = [.ref l, .int m] ∧ Ex H0 H ∧ H0 l = none ∧ PenAt H l k ∧ k ≤ 1000000 ∧ 1 ≤ m ∧ m ≤ 1000 ∧ ∀ (r : Int) H', 0 ≤ r → r < m → Ex H0 H' → PenAt H' l (k + 1) → Q (.int r) H'
theorem ok_draw (D : Dd K mg "_law_draw" sDraw ["_law_pen_here", "_law_many"]) (B : Bn mg) : C8.Cal P w K mg base 1 "_law_draw" spDraw [] := by
  refine dd_cal D scDraw (fun vs H Q E h => ?_) (fun f cdv A outer s H vs Q E hr h => ?_)
  · obtain ⟨H0, l, k, m, rfl, _⟩ := h
    rfl
  obtain ⟨H0, l, k, m, rfl, e0, nl, ⟨p0, p1, p2, hl, b0, b1, b2, b3, b4⟩, hk, m1, m2, q⟩ := h
  have nd := scDraw.nd
  refine ⟨_, pss_cons (ps_if (pt_cmpR op_gt (pe_ix ix_list (pv 0) pe_int (fun _ _ => rfl)) pe_int (nomark _))
      (pss_cons (ps_set (i := 2) nd rfl (.inl rfl) (pe_op op_mod (pe_ix ix_list (pv 0) pe_int (fun _ _ => rfl)) (pv 1))) (pss_cons (ps_asg (pe_op op_fdivN (pe_ix ix_list (pv 0) pe_int (fun _ _ => rfl)) (pv 1)) (pg_sub (pv 0) pe_int set_list)) (pss_one (ps_ret (pv 2))))) pss_nil)
    (pss_cons (ps_asg (pe_op op_add (pe_ix ix_list (pv 0) pe_int (fun _ _ => rfl)) pe_int) (pg_sub (pv 0) pe_int set_list))
    (pss_cons (ps_set (i := 3) nd rfl (.inl rfl) (pe_op op_mod (pe_op op_mul (pe_op op_add (pe_ix ix_list (pv 0) pe_int (fun _ _ => rfl)) (pe_op op_mul pe_int (pe_ix ix_list (pv 0) pe_int (fun _ _ => rfl)))) (pe_op op_add pe_int (pe_op op_mul pe_int (pe_ix ix_list (pv 0) pe_int (fun _ _ => rfl))))) pe_int))
    (pss_cons (ps_set (i := 3) nd rfl (.inl rfl) (pe_op op_mod (pe_op op_add (pe_op op_add (pe_op op_mul (pv 3) (pv 3)) (pe_op op_mul pe_int (pe_ix ix_list (pv 0) pe_int (fun _ _ => rfl)))) pe_int) pe_int))
    (pss_one (ps_ret (pe_op op_mod (pe_op op_fdivN (pe_op op_mod (pe_op op_mul (pv 3) pe_int) pe_int) pe_int) (pv 1))))))), ?_⟩
  refine ⟨_, rfl, l, _, 0, .int p0, rfl, rfl, SqL.of hl, rfl, _, _, rfl, rfl, _, rfl, ?_⟩
  refine ite2 (fun hc => ?_) (fun hc => ?_)
  · have hp := of_decide_eq_true hc
    refine ⟨_, rfl, l, _, 0, .int p0, rfl, rfl, SqL.of hl, rfl, _, rfl, _, _, rfl, rfl, (by show 0 < m; omega), ?_⟩
    refine ⟨_, rfl, l, _, 0, .int p0, rfl, rfl, SqL.of hl, rfl, _, rfl, _, _, rfl, rfl, ⟨by omega, by omega⟩, _, rfl, l, _, 0, 0, rfl, rfl, hl, rfl, ?_⟩
    refine ⟨_, rfl, q _ _ (Int.emod_nonneg _ (by omega)) (Int.emod_lt_of_pos _ (by omega)) (e0.mut nl) ⟨_, p1, p2, upd_same, ?_, b1, b2, b3, by omega⟩⟩
    rw [Int.fdiv_eq_ediv_of_nonneg _ (by omega)]
    exact Int.ediv_nonneg b0 (by omega)
  · refine ⟨_, rfl, l, _, 2, .int p2, rfl, rfl, SqL.of hl, rfl, _, _, rfl, rfl, _, rfl, l, _, 2, 2, rfl, rfl, hl, rfl, ?_⟩
    have hl2 : upd H l (.lst ([V.int p0, V.int p1, V.int p2].set 2 (.int (p2 + 1)))) l = some (.lst [.int p0, .int p1, .int (p2 + 1)]) := upd_same
    have s2 := SqL.of (K := K) hl2
    refine ⟨_, rfl, l, _, 1, .int p1, rfl, rfl, s2, rfl, _, rfl, l, _, 2, .int (p2 + 1), rfl, rfl, s2, rfl, _, _, rfl, rfl, .inl ⟨by decide, by decide⟩, _, _, rfl, rfl, ?_⟩
    refine ⟨_, rfl, l, _, 2, .int (p2 + 1), rfl, rfl, s2, rfl, _, _, rfl, rfl, .inl ⟨by decide, by decide⟩, _, _, rfl, rfl, ?_⟩
    refine ⟨_, _, rfl, rfl, .inl ⟨by omega, by omega⟩, _, _, rfl, rfl, (by show (0 : Int) < 2147483647; decide), ?_⟩
    have st1 := Int.emod_nonneg ((p1 + 17 * (p2 + 1)) * (69621 + 2 * (p2 + 1))) (show (2147483647 : Int) ≠ 0 by decide)
    have st2 := Int.emod_lt_of_pos ((p1 + 17 * (p2 + 1)) * (69621 + 2 * (p2 + 1))) (show (0 : Int) < 2147483647 by decide)
    generalize (p1 + 17 * (p2 + 1)) * (69621 + 2 * (p2 + 1)) % 2147483647 = st at *
    refine ⟨_, rfl, _, rfl, _, _, rfl, rfl, .inl ⟨by omega, by omega⟩, _, rfl, l, _, 2, .int (p2 + 1), rfl, rfl, s2, rfl, _, _, rfl, rfl, .inl ⟨by decide, by decide⟩, _, _, rfl, rfl, ?_⟩
    refine ⟨_, _, rfl, rfl, _, _, rfl, rfl, (by show (0 : Int) < 2147483629; decide), ?_⟩
    have st3 := Int.emod_nonneg (st * st + 40503 * (p2 + 1) + 5) (show (2147483629 : Int) ≠ 0 by decide)
    have st4 := Int.emod_lt_of_pos (st * st + 40503 * (p2 + 1) + 5) (show (0 : Int) < 2147483629 by decide)
    generalize (st * st + 40503 * (p2 + 1) + 5) % 2147483629 = st' at *
    refine ⟨_, rfl, _, _, rfl, rfl, .inl ⟨by omega, by omega⟩, _, _, rfl, rfl, (by show (0 : Int) < 2147483647; decide), _, _, rfl, rfl, ⟨by decide, by decide⟩, _, rfl, _, _, rfl, rfl, (by show 0 < m; omega), ?_⟩
    exact q _ _ (Int.emod_nonneg _ (by omega)) (Int.emod_lt_of_pos _ (by omega)) (e0.mut nl) ⟨p0, p1, p2 + 1, upd_same, b0, b1, b2, by omega, by omega⟩
abbrev sPick : Stmt := topS 47
theorem scPick : FnScope ["_law_pen_here", "_law_things"] ["_law_pen_here", "_law_things"] (C8.fnScope sPick) := C8.fnScope_by (by decide +kernel)
def spPick : Sp := fun vs H Q _ => ∃ (H0 : Hp) (l lt : Addr) (xs : List V) (k : Nat), vs = [.ref l, .ref lt] ∧ Ex H0 H ∧ H0 l = none ∧ PenAt H l k ∧ k ≤ 1000000 ∧ H0 lt = some (.lst xs) ∧ 1 ≤ xs.length ∧ xs.length ≤ 1000 ∧ ∀ x H', x ∈ xs → Ex H0 H' → PenAt H' l (k + 1) → Q x H'
theorem ok_pick (D : Dd K mg "_law_pick" sPick ["_law_pen_here", "_law_things"]) (B : Bn mg) (c1 : C8.Cal P w K mg base 1 "_law_draw" spDraw []) : C8.Cal P w K mg base 2 "_law_pick" spPick [] := by
  refine dd_cal D scPick (fun vs H Q E h => ?_) (fun f cdv A outer s H vs Q E hr h => ?_)
  · obtain ⟨H0, l, lt, xs, k, rfl, _⟩ := h
    rfl
  obtain ⟨H0, l, lt, xs, k, rfl, e0, nl, hp, hk, hx, x1, x2, q⟩ := h
  refine ⟨_, pss_one (ps_ret (pe_ix ix_list (pv 1) (C8.pe_c c1 hr (by omega) rfl (pa_cons (pv 0) (pa_cons (pe_callB call_len_seq (by rfl) B.len PySem.boot_len (pa_cons (pv 1) pa_nil)) pa_nil))) (fun _ _ => rfl))), ?_⟩
  refine ⟨_, rfl, _, rfl, _, rfl, lt, _, rfl, .inl (SqL.of (e0 _ _ hx)), H0, l, k, _, rfl, e0, nl, hp, hk, by omega, by omega, fun r H' r0 r1 e1 hp1 => ?_⟩
  have hi : r.toNat < xs.length := by omega
  refine ⟨lt, xs, r, xs[r.toNat], rfl, rfl, SqL.of (e1 _ _ hx), ?_, q _ _ (List.getElem_mem hi) e1 hp1⟩
  have z : atI xs ((r.toNat : Nat) : Int) = some xs[r.toNat] := atI_nat (List.getElem?_eq_getElem hi)
  rw [show ((r.toNat : Nat) : Int) = r by omega] at z
  exact z
end
end CB

namespace CB
open PySem PySem.Spec PyProof.Rows L2 Evl
def RoomAt (H : Hp) (r : Addr) (n : Int) : Prop := H r = some (.lst [.int n])
def drs : Nat → Nat
  | 0 => 0
  | d + 1 => 4 + 3 * drs d
theorem drs_le {d : Nat} (h : d ≤ 3) : drs d ≤ 52 := by
  have : d = 0 ∨ d = 1 ∨ d = 2 ∨ d = 3 := by omega
  rcases this with rfl | rfl | rfl | rfl <;> decide
section
variable {P : Program} {w : World} {K : PySem.W.Frag} {mg : Str → Option Value} {base : Heap}
/-! ### _law_call -/
abbrev sLCall : Stmt := topS 48
abbrev nLCall : List Str := ["_law_pen_here", "_law_deep", "_law_room", "_law_service", "_law_tries", "_law_mode", "_law_many", "_law_parts", "_law_turn"]
theorem scLCall : FnScope nLCall ["_law_pen_here", "_law_deep", "_law_room"] (C8.fnScope sLCall) := C8.fnScope_by (by decide +kernel)
def spLCall (K : PySem.W.Frag) (d : Nat) : Sp := fun vs H Q _ => ∃ (H0 : Hp) (l r : Addr) (k : Nat) (n : Int), vs = [.ref l, .int (d : Int), .ref r] ∧ 1 ≤ d ∧ d ≤ 3 ∧ Ex H0 H ∧ H0 l = none ∧ H0 r = none ∧ l ≠ r ∧ PenAt H l k ∧ k + drs d ≤ 900000 ∧ RoomAt H r n ∧ 1 ≤ n ∧
  ∀ v t H' n', Ex H0 H' → PenAt H' l (k + drs d) → RoomAt H' r n' → 0 ≤ n' → (cc t : Int) + n' = n → TrOk d t → Dp K H' v (encT t) → Q v H'
theorem ccs_snoc : ∀ (ps : List Tr) (t : Tr), ccs (ps ++ [t]) = ccs ps + cc t
  | [], t => by simp [ccs]
  | p :: r, t => by
    show ccs (p :: (r ++ [t])) = _
    rw [ccs, ccs, ccs_snoc r t]
    omega
theorem hid2 {l r : Addr} {H : Hp} (h1 : ∃ xs, H l = some (.lst xs)) (h2 : ∃ xs, H r = some (.lst xs)) : Tx H (hid [l, r] H) := tx_hid fun a ha => by
  rcases List.mem_cons.mp ha with e | ha
  · subst e; exact h1
  · rw [List.mem_singleton.mp ha]; exact h2
theorem noL_parts (ps : List Tr) : noL (.tuple (ps.map encT)) = true := by
  rw [noL, noLs_mem]
  intro d hd
  obtain ⟨t, _, rfl⟩ := List.mem_map.mp hd
  exact noL_tr t
theorem ok_lcall (D : Dd K mg "_law_call" sLCall ["_law_pen_here", "_law_deep", "_law_room"]) (B : Bn mg) (c1 : C8.Cal P w K mg base 1 "_law_draw" spDraw []) (c2 : C8.Cal P w K mg base 2 "_law_pick" spPick []) : ∀ d : Nat, C8.Cal P w K mg base (d + 2) "_law_call" (spLCall K d) []
  | 0 => dead D fun vs H Q E h => by
    obtain ⟨H0, l, r, k, n, _, h, _⟩ := h
    omega
  | d + 1 => by
    have ih := ok_lcall D B c1 c2 d
    refine dd_cal D scLCall (fun vs H Q E h => ?_) (fun f cdv A outer s H vs Q E hr h => ?_)
    · obtain ⟨H0, l, r, k, n, rfl, _⟩ := h
      rfl
    obtain ⟨H0, l, r, k, n, rfl, _, hd3, e0, nl, nr, nlr, hp, hk, hrm, hn, q⟩ := h
    have nd := scLCall.nd
    have hdr := drs_le (show d ≤ 3 by omega)
    have e1d : (((d + 1 : Nat) : Int) - 1) = (d : Int) := by omega
    have hk2 : k + (4 + 3 * drs d) ≤ 900000 := hk
    refine ⟨_, pss_cons (ps_asg (pe_op op_sub (pe_ix ix_list (pv 2) pe_int (fun _ _ => rfl)) pe_int) (pg_sub (pv 2) pe_int set_list))
      (pss_cons (ps_par3 (i := 3) (j := 4) (l := 5) rfl nd rfl rfl rfl (by decide) (by decide) (by decide) rfl rfl rfl
        (pa_cons (C8.pe_c c1 hr (by omega) rfl (pa_cons (pv 0) (pa_cons pe_int pa_nil))) (pa_cons (pe_op op_add pe_int (C8.pe_c c1 hr (by omega) rfl (pa_cons (pv 0) (pa_cons pe_int pa_nil))))
          (pa_cons (C8.pe_c c2 hr (by omega) rfl (pa_cons (pv 0) (pa_cons (pe_lst (pa_cons pe_str (pa_cons pe_str (pa_cons pe_str pa_nil)))) pa_nil))) pa_nil))) (by rfl))
      (pss_cons (ps_asg (pe_tup (pa_cons pe_int (pa_cons (pe_tup pa_nil) pa_nil))) (pg_tup (by rfl) (pgs_cons (pg_name (i := 6) nd rfl (.inl rfl)) (pgs_cons (pg_name (i := 7) nd rfl (.inl rfl)) pgs_nil))))
      (Evl.pss_cut (ps_if (pt_cmpR op_gt (pv 1) pe_int (nomark _)) (pss_one (ps_set (i := 6) nd rfl (.inl rfl) (C8.pe_c c1 hr (by omega) rfl (pa_cons (pv 0) (pa_cons pe_int pa_nil))))) pss_nil)
      (pss_cons (ps_for PassesOwn.never rfl (pi_range1 (by rfl) B.range (pa_cons (pv 6) pa_nil)) (pg_name (i := 8) nd rfl (.inl rfl))
        (pss_one (ps_if (pt_cmpR op_gt (pe_ix ix_list (pv 2) pe_int (fun _ _ => rfl)) pe_int (nomark _)) (pss_one (ps_set (i := 7) nd rfl (.inl rfl) (pe_op op_catA (pv 7) (pe_tup (pa_cons (C8.pe_c ih hr (by omega) rfl (pa_cons (pv 0) (pa_cons (pe_op op_sub (pv 1) pe_int) (pa_cons (pv 2) pa_nil)))) pa_nil))))) pss_nil)))
      (pss_one (ps_ret (pe_tup (pa_cons (pv 3) (pa_cons (pv 4) (pa_cons (pv 5) (pa_cons (pv 7) pa_nil))))))))))), ?_⟩
    -- room[0] = room[0] - 1
    refine ⟨_, rfl, r, _, 0, .int n, rfl, rfl, SqL.of hrm, rfl, _, _, rfl, rfl, _, rfl, r, _, 0, 0, rfl, rfl, hrm, rfl, ?_⟩
    have hrm1 : RoomAt (upd H r (.lst ([V.int n].set 0 (.int (n - 1))))) r (n - 1) := upd_same
    have hp1 : PenAt (upd H r (.lst ([V.int n].set 0 (.int (n - 1))))) l k := by
      obtain ⟨p0, p1, p2, h, rest⟩ := hp
      exact ⟨p0, p1, p2, by rw [upd_ne nlr]; exact h, rest⟩
    have e1 : Ex H0 (upd H r (.lst ([V.int n].set 0 (.int (n - 1))))) := e0.mut nr
    generalize upd H r (.lst ([V.int n].set 0 (.int (n - 1)))) = H1 at *
    -- service, tries, mode: three draws, the room known ahead of them
    have hid1 : ∀ (Hx : Hp), Ex (hid [l] H1) Hx → RoomAt Hx r (n - 1) ∧ Ex H0 Hx := fun Hx ex =>
      ⟨ex _ _ (hid_get hrm1 (by simpa using nlr.symm)), (ex_hid e1 (fun a ha => by rw [List.mem_singleton.mp ha]; exact nl)).trans ex⟩
    refine ⟨_, rfl, hid [l] H1, l, k, 4, rfl, hid_ex _ _, hid_none (by simp), hp1, by omega, by decide, by decide, fun sv H2 s0 s1 e2 hp2 => ?_⟩
    refine ⟨_, rfl, hid [l] H1, l, k + 1, 3, rfl, e2, hid_none (by simp), hp2, by omega, by decide, by decide, fun tr H3 t0 t1 e3 hp3 => ?_⟩
    refine ⟨_, _, rfl, rfl, ?_⟩
    refine ⟨_, rfl, (by show 3 ≤ sizeLine; decide), fun lt nlt => ?_⟩
    have nlt0 : hid [l] H1 lt = none := fresh_back e3 nlt
    have e4 := e3.trans (ex_new (o := .lst [V.str "all", V.str "all", V.str "any"]) nlt)
    have nllt : lt ≠ l := fun z => by
      subst z
      obtain ⟨_, _, _, h, _⟩ := hp3
      rw [h] at nlt
      cases nlt
    have e4h : Ex (upd (hid [l] H1) lt (.lst [V.str "all", V.str "all", V.str "any"])) (upd H3 lt (.lst [V.str "all", V.str "all", V.str "any"])) := fun a o h => by
      by_cases z : a = lt
      · subst z; rw [upd_same] at h ⊢; exact h
      · rw [upd_ne z] at h ⊢; exact e3 a o h
    refine ⟨upd (hid [l] H1) lt (.lst [V.str "all", V.str "all", V.str "any"]), l, lt, [V.str "all", V.str "all", V.str "any"], k + 2, rfl, e4h, by rw [upd_ne nllt.symm]; exact hid_none (by simp), hp3.ex (ex_new nlt), by omega, upd_same, by decide, by decide, fun md H5 hmd e5 hp5 => ?_⟩
    have e5' : Ex (hid [l] H1) H5 := (ex_new nlt0).trans e5
    obtain ⟨any, rfl⟩ : ∃ any, md = .str (modeS any) := by
      simp only [List.mem_cons, List.not_mem_nil, or_false] at hmd
      rcases hmd with e | e | e
      · exact ⟨false, e⟩
      · exact ⟨false, e⟩
      · exact ⟨true, e⟩
    have hp5 : PenAt H5 l (k + 3) := hp5
    obtain ⟨hrm5, e05⟩ := hid1 H5 e5'
    refine ⟨_, _, _, rfl, ?_⟩
    -- many, parts = 0, ()
    refine ⟨Nat.zero_le _, fun pp npp => ⟨(by show 2 ≤ sizeLine; decide), fun tq ntq => ?_⟩⟩
    refine ⟨tq, _, rfl, SqT.of upd_same, rfl, _, _, rfl, _, _, rfl, rfl, ?_⟩
    have eP := (ex_new (o := .tup []) npp).trans (ex_new (o := .tup [.int 0, .ref pp]) ntq)
    have hp6 := hp5.ex eP
    have hrm6 : RoomAt (upd (upd H5 pp (.tup [])) tq (.tup [.int 0, .ref pp])) r (n - 1) := eP _ _ hrm5
    have e06 := e05.trans eP
    have hparts0 : Dp K (upd (upd H5 pp (.tup [])) tq (.tup [.int 0, .ref pp])) (.ref pp) (.tuple (([] : List Tr).map encT)) := .tup (ex_t (ex_new ntq) (SqT.of upd_same)) .nil
    generalize upd (upd H5 pp (.tup [])) tq (.tup [.int 0, .ref pp]) = H6 at *
    refine ⟨fun σ' H7 => ∃ m : Nat, m ≤ 3 ∧ (m ≠ 0 → 1 ≤ d) ∧ σ' = [some (.ref l), some (.int ((d + 1 : Nat) : Int)), some (.ref r), some (.int sv), some (.int (1 + tr)), some (.str (modeS any)), some (.int (m : Int)), some (.ref pp), none] ∧ Ex H0 H7 ∧ PenAt H7 l (k + 4) ∧ RoomAt H7 r (n - 1) ∧ Dp K H7 (.ref pp) (.tuple (([] : List Tr).map encT)), ?_, ?_⟩
    · refine ⟨_, rfl, _, _, rfl, rfl, _, rfl, ?_⟩
      refine ite2 (fun hc => ?_) (fun hc => ?_)
      · have hdd := of_decide_eq_true hc
        refine ⟨_, rfl, hid [l] H6, l, k + 3, 4, rfl, hid_ex _ _, hid_none (by simp), hp6, by omega, by decide, by decide, fun m H7 m0 m1 e7 hp7 => ?_⟩
        have tx := tx_hid (W := [l]) (H := H6) (fun a ha => by rw [List.mem_singleton.mp ha]; exact hp6.lst)
        refine ⟨m.toNat, by omega, fun _ => by omega, ?_, (ex_hid e06 (fun a ha => by rw [List.mem_singleton.mp ha]; exact nl)).trans e7, hp7, e7 _ _ (hid_get hrm6 (by simpa using nlr.symm)), dp_ex e7 (dp_tx tx (noL_parts []) hparts0)⟩
        rw [show ((m.toNat : Nat) : Int) = m by omega]
        rfl
      · exact ⟨0, by omega, fun z => absurd rfl z, rfl, e06, hp6.le (by omega), hrm6, hparts0⟩
    rintro σ' H7 ⟨m, hm3, hmd1, rfl, e7, hp7, hrm7, hpt7⟩
    refine ⟨_, rfl, (m : Int), rfl, by omega, by omega, ?_⟩
    refine for_range (lo := 0) (n := (m : Int).toNat) (fun i σ' H8 => ∃ (o : Option V) (pv : V) (ps : List Tr) (n' : Int), σ' = [some (.ref l), some (.int ((d + 1 : Nat) : Int)), some (.ref r), some (.int sv), some (.int (1 + tr)), some (.str (modeS any)), some (.int (m : Int)), some pv, o] ∧ Ex H0 H8 ∧ PenAt H8 l (k + 4 + i * drs d) ∧ RoomAt H8 r n' ∧ 0 ≤ n' ∧
      (ccs ps : Int) + n' = n - 1 ∧ ps.length ≤ i ∧ (∀ p ∈ ps, TrOk d p) ∧ Dp K H8 pv (.tuple (ps.map encT))) ⟨none, _, [], n - 1, rfl, e7, hp7.le (by omega), hrm7, by omega, by simp [ccs], Nat.le_refl _, fun _ z => (by cases z), hpt7⟩ ?_ ?_
    · rintro i σ' H8 hi ⟨o, pv, ps, n', rfl, e8, hp8, hrm8, hn0, hcc, hpl, hpo, hpd⟩
      have him : i < m := by omega
      have hid8 : (i + 1) * drs d ≤ 3 * drs d := Nat.mul_le_mul_right _ (by omega)
      rw [Nat.succ_mul] at hid8
      refine ⟨_, rfl, r, _, 0, .int n', rfl, rfl, SqL.of hrm8, rfl, _, _, rfl, rfl, _, rfl, ?_⟩
      refine ite2 (fun hc => ?_) (fun hc => ?_)
      · have hn1 := of_decide_eq_true hc
        have tx := hid2 (l := l) (r := r) hp8.lst ⟨_, hrm8⟩
        have hpd' := dp_tx tx (noL_parts ps) hpd
        refine ⟨_, rfl, _, rfl, _, rfl, _, _, rfl, rfl, _, rfl, hid [l, r] H8, l, r, k + 4 + i * drs d, n', by show [V.ref l, V.int (((d + 1 : Nat) : Int) - 1), V.ref r] = _; rw [e1d], by have := hmd1 (by omega); omega, by omega, hid_ex _ _, hid_none (by simp), hid_none (by simp), nlr, hp8, by omega, hrm8, by omega, fun v t H9 n2 e9 hp9 hrm9 hn2 hct ht hv => ?_⟩
        refine ⟨(by show 1 ≤ sizeLine; decide), fun tp ntp => ?_⟩
        have eT := ex_new (o := .tup [v]) ntp
        have hpd9 := dp_ex (e9.trans eT) hpd'
        obtain ⟨pa, pxs, rfl, hpx, hpxd⟩ := dp_tup hpd9
        have hpl2 : pxs.length = ps.length := by rw [dpa_len hpxd, List.length_map]
        have e08 : Ex H0 (upd H9 tp (.tup [v])) := ((ex_hid e8 (fun a ha => by
          rcases List.mem_cons.mp ha with z | z
          · rw [z]; exact nl
          · rw [List.mem_singleton.mp z]; exact nr)).trans e9).trans eT
        have fin : ∀ (pv' : V) (H10 : Hp), Ex (upd H9 tp (.tup [v])) H10 → Dp K H10 pv' (.tuple ((ps ++ [t]).map encT)) → ∃ (o : Option V) (pv : V) (ps : List Tr) (n' : Int), [some (V.ref l), some (V.int ((d + 1 : Nat) : Int)), some (.ref r), some (.int sv), some (.int (1 + tr)), some (.str (modeS any)), some (.int (m : Int)), some pv', some (.int (0 + (i : Int)))] = [some (.ref l), some (.int ((d + 1 : Nat) : Int)), some (.ref r), some (.int sv), some (.int (1 + tr)), some (.str (modeS any)), some (.int (m : Int)), some pv, o] ∧ Ex H0 H10 ∧ PenAt H10 l (k + 4 + (i + 1) * drs d) ∧ RoomAt H10 r n' ∧ 0 ≤ n' ∧
            (ccs ps : Int) + n' = n - 1 ∧ ps.length ≤ i + 1 ∧ (∀ p ∈ ps, TrOk d p) ∧ Dp K H10 pv (.tuple (ps.map encT)) := fun pv' H10 e10 hd10 => by
          refine ⟨_, pv', ps ++ [t], n2, rfl, e08.trans e10, ((hp9.ex eT).ex e10).le (by rw [Nat.succ_mul]; omega), e10 _ _ (eT _ _ hrm9), hn2, by rw [ccs_snoc]; omega, by rw [List.length_append, List.length_singleton]; omega, fun p hp => ?_, hd10⟩
          rcases List.mem_append.mp hp with z | z
          · exact hpo p z
          · rw [List.mem_singleton.mp z]; exact ht
        refine ⟨pa, tp, pxs, [v], rfl, rfl, hpx, SqT.of upd_same, sz3 (by rw [List.length_singleton]; omega), fun z => ?_, fun _ z => (by cases z), fun _ _ np2 nnp2 => ?_⟩
        · subst z
          have hps0 : ps = [] := List.eq_nil_of_length_eq_zero hpl2.symm
          subst hps0
          exact fin (.ref tp) _ (Ex.refl _) (.tup (SqT.of upd_same) (.cons (dp_ex eT hv) .nil))
        · have e2n := ex_new (o := .tup (pxs ++ [v])) nnp2
          refine fin (.ref np2) _ e2n (.tup (SqT.of upd_same) ?_)
          rw [List.map_append]
          exact dpa_append (dpa_ex e2n hpxd) (.cons (dp_ex (eT.trans e2n) hv) .nil)
      · exact ⟨_, pv, ps, n', rfl, e8, hp8.le (by rw [Nat.succ_mul]; omega), hrm8, hn0, hcc, by omega, hpo, hpd⟩
    · rintro σ' H8 ⟨o, pv, ps, n', rfl, e8, hp8, hrm8, hn0, hcc, hpl, hpo, hpd⟩
      obtain ⟨pa, pxs, rfl, hpx, hpxd⟩ := dp_tup hpd
      have hmul : (m : Int).toNat * drs d ≤ 3 * drs d := Nat.mul_le_mul_right _ (by omega)
      refine ⟨_, rfl, _, rfl, _, rfl, _, rfl, (by show 4 ≤ sizeLine; decide), fun tp ntp => ?_⟩
      have eT := ex_new (o := .tup [.int sv, .int (1 + tr), .str (modeS any), .ref pa]) ntp
      refine q _ (.mk sv (1 + tr).toNat any ps) _ n' (e8.trans eT) ((hp8.ex eT).le (by show _ ≤ k + (4 + 3 * drs d); omega)) (eT _ _ hrm8) hn0 (by rw [cc]; omega) ⟨s0, by omega, by omega, by omega, by omega, hpo⟩ ?_
      refine at_tr (a := tp) (b := pa) (xs := pxs) ?_ (ex_t eT hpx) (dpa_ex eT hpxd)
      rw [show (((1 + tr).toNat : Nat) : Int) = 1 + tr by omega]
      exact SqT.of upd_same
end
end CB

namespace CB
open PySem PySem.Spec PyProof.Rows L2 Evl
/-- the hand: what was answered, asked, decided -/
structure Ha where
  h : Addr
  l1 : Addr
  l2 : Addr
  l3 : Addr
abbrev Ha.W (R : Ha) : List Addr := [R.h, R.l1, R.l2, R.l3]
structure HandAt (R : Ha) (k : Nat) (H0 H : Hp) (s : S2) : Prop where
  ex : Ex H0 H
  no : ∀ a ∈ R.W, H0 a = none
  h : H R.h = some (.lst [.non, .ref R.l1, .ref R.l2, .ref R.l3])
  l1 : ∃ as, H R.l1 = some (.lst as) ∧ as.length + k ≤ s.1.length
  l2 : H R.l2 = some (.lst (s.1.map V.int))
  l3 : H R.l3 = some (.lst (s.2.map V.int))
  nd : R.W.Nodup
section
variable {R : Ha} {k : Nat} {H0 H : Hp} {s : S2}
theorem HandAt.ne (r : HandAt R k H0 H s) : R.h ≠ R.l1 ∧ R.h ≠ R.l2 ∧ R.h ≠ R.l3 ∧ R.l1 ≠ R.l2 ∧ R.l1 ≠ R.l3 ∧ R.l2 ≠ R.l3 := by
  have h := r.nd
  simp only [Ha.W, List.nodup_cons, List.mem_cons, List.not_mem_nil, or_false, not_or, not_false_eq_true, List.nodup_nil, and_true] at h
  obtain ⟨⟨a, b, c⟩, ⟨d, e⟩, f⟩ := h
  exact ⟨a, b, c, d, e, f⟩
theorem HandAt.ask (r : HandAt R k H0 H s) (sv : Int) : HandAt R (k + 1) H0 (upd H R.l2 (.lst (s.1.map V.int ++ [.int sv]))) (s.1 ++ [sv], s.2) := by
  obtain ⟨n1, n2, n3, n4, n5, n6⟩ := r.ne
  obtain ⟨as, ha, hl⟩ := r.l1
  refine ⟨r.ex.mut (r.no _ (by simp)), r.no, by rw [upd_ne n2]; exact r.h, ⟨as, by rw [upd_ne n4]; exact ha, by simp; omega⟩, ?_, by rw [upd_ne n6.symm]; exact r.l3, r.nd⟩
  rw [upd_same, List.map_append]
  rfl
theorem HandAt.dec (r : HandAt R k H0 H s) (sv : Int) : HandAt R k H0 (upd H R.l3 (.lst (s.2.map V.int ++ [.int sv]))) (s.1, s.2 ++ [sv]) := by
  obtain ⟨n1, n2, n3, n4, n5, n6⟩ := r.ne
  obtain ⟨as, ha, hl⟩ := r.l1
  refine ⟨r.ex.mut (r.no _ (by simp)), r.no, by rw [upd_ne n3]; exact r.h, ⟨as, by rw [upd_ne n5]; exact ha, hl⟩, by rw [upd_ne n6]; exact r.l2, ?_, r.nd⟩
  rw [upd_same, List.map_append]
  rfl
theorem HandAt.put (r : HandAt R (k + 1) H0 H s) {as : List V} (ha : H R.l1 = some (.lst as)) (v : V) : HandAt R k H0 (upd H R.l1 (.lst (as ++ [v]))) s := by
  obtain ⟨n1, n2, n3, n4, n5, n6⟩ := r.ne
  obtain ⟨as', ha', hl⟩ := r.l1
  rw [ha] at ha'
  cases ha'
  exact ⟨r.ex.mut (r.no _ (by simp)), r.no, by rw [upd_ne n1]; exact r.h, ⟨_, upd_same, by rw [List.length_append, List.length_singleton]; omega⟩, by rw [upd_ne n4.symm]; exact r.l2, by rw [upd_ne n5.symm]; exact r.l3, r.nd⟩
theorem HandAt.less (r : HandAt R (k + 1) H0 H s) : HandAt R k H0 H s := by
  obtain ⟨as, ha, hl⟩ := r.l1
  exact ⟨r.ex, r.no, r.h, ⟨as, ha, by omega⟩, r.l2, r.l3, r.nd⟩
theorem HandAt.grow (r : HandAt R k H0 H s) {H' : Hp} (e : Ex H H') : HandAt R k H0 H' s := by
  obtain ⟨as, ha, hl⟩ := r.l1
  exact ⟨r.ex.trans e, r.no, e _ _ r.h, ⟨as, e _ _ ha, hl⟩, e _ _ r.l2, e _ _ r.l3, r.nd⟩
theorem HandAt.lst (r : HandAt R k H0 H s) : ∀ a ∈ R.W, ∃ xs, H a = some (.lst xs) := fun a ha => by
  obtain ⟨as, h1, hl⟩ := r.l1
  simp only [Ha.W, List.mem_cons, List.not_mem_nil, or_false] at ha
  rcases ha with e | e | e | e
  · rw [e]; exact ⟨_, r.h⟩
  · rw [e]; exact ⟨_, h1⟩
  · rw [e]; exact ⟨_, r.l2⟩
  · rw [e]; exact ⟨_, r.l3⟩
/-- all that stands beside the hand, known -/
theorem HandAt.hide (r : HandAt R k H0 H s) : HandAt R k (hid R.W H) H s := ⟨hid_ex _ _, fun a ha => hid_none ha, r.h, r.l1, r.l2, r.l3, r.nd⟩
theorem HandAt.back (r : HandAt R k H0 H s) {k' : Nat} {H' : Hp} {s' : S2} (r' : HandAt R k' (hid R.W H) H' s') : HandAt R k' H0 H' s' :=
  ⟨(ex_hid r.ex r.no).trans r'.ex, r.no, r'.h, r'.l1, r'.l2, r'.l3, r'.nd⟩
end
theorem eqv_bools (bs : List Bool) : PyData.eqv (.list (bs.map PyData.bool)) (.list []) = bs.isEmpty := by cases bs <;> rfl
theorem shape_bools (bs : List Bool) : SeqAt.shaped (.list (bs.map PyData.bool)) = true := by
  have h1 : PyData.canLayAll0 (bs.map PyData.bool) = true ∧ PyData.depthAll (bs.map PyData.bool) = 0 := by
    induction bs with
    | nil => exact ⟨rfl, rfl⟩
    | cons x xs ih =>
      rw [List.map_cons, PyData.canLayAll0, PyData.depthAll, ih.1, ih.2]
      exact ⟨rfl, rfl⟩
  unfold SeqAt.shaped
  rw [Bool.and_eq_true]
  refine ⟨by simp only [PyData.canLay0]; exact h1.1, decide_eq_true ?_⟩
  simp only [PyData.depth, h1.2]
  decide
section
variable {P : Program} {w : World} {K : PySem.W.Frag} {mg : Str → Option Value} {base : Heap}
/-! ### _law_tree, _law_set -/
abbrev sLTree : Stmt := topS 49
theorem scLTree : FnScope ["_law_pen_here", "_law_deep", "_law_most_here"] ["_law_pen_here", "_law_deep", "_law_most_here"] (C8.fnScope sLTree) := C8.fnScope_by (by decide +kernel)
def spLTree (K : PySem.W.Frag) : Sp := fun vs H Q _ => ∃ (H0 : Hp) (l : Addr) (k d : Nat) (n : Int), vs = [.ref l, .int (d : Int), .int n] ∧ 1 ≤ d ∧ d ≤ 3 ∧ Ex H0 H ∧ H0 l = none ∧ PenAt H l k ∧ k ≤ 800000 ∧ 1 ≤ n ∧ n ≤ 5 ∧
  ∀ v t H', Ex H0 H' → PenAt H' l (k + 52) → TreeV K H' v t → Q v H'
theorem trok_le {d e : Nat} (h : d ≤ e) {t : Tr} (ht : TrOk d t) : TrOk e t := by
  induction h with
  | refl => exact ht
  | step _ ih => exact trok_mono ih
theorem ok_ltree (D : Dd K mg "_law_tree" sLTree ["_law_pen_here", "_law_deep", "_law_most_here"]) (c1 : ∀ d, d ≤ 3 → C8.Cal P w K mg base 5 "_law_call" (spLCall K d) []) : C8.Cal P w K mg base 6 "_law_tree" (spLTree K) [] := by
  refine dd_cal D scLTree (fun vs H Q E h => ?_) (fun f cdv A outer s H vs Q E hr h => ?_)
  · obtain ⟨H0, l, k, d, n, rfl, _⟩ := h
    rfl
  obtain ⟨H0, l, k, d, n, rfl, hd1, hd3, e0, nl, hp, hk, hn1, hn5, q⟩ := h
  refine ⟨_, pss_one (ps_ret (C8.pe_c (c1 d hd3) hr (by omega) rfl (pa_cons (pv 0) (pa_cons (pv 1) (pa_cons (pe_lst (pa_cons (pv 2) pa_nil)) pa_nil))))), ?_⟩
  have hdr := drs_le hd3
  refine ⟨_, rfl, _, rfl, _, rfl, (by show 1 ≤ sizeLine; decide), fun r nr => ?_⟩
  have hlr : l ≠ r := fun z => by
    subst z
    obtain ⟨_, _, _, h, _⟩ := hp
    rw [h] at nr
    cases nr
  have nr0 : hid [l] H r = none := by
    unfold hid
    rw [if_neg (by simpa using hlr.symm)]
    exact nr
  refine ⟨hid [l] H, l, r, k, n, rfl, hd1, hd3, (hid_ex _ _).trans (ex_new nr), hid_none (by simp), nr0, hlr, hp.ex (ex_new nr), by omega, upd_same, hn1, fun v t H' n' e hp' hr' hn' hc ht hv => ?_⟩
  exact q v t H' ((ex_hid e0 (fun a ha => by rw [List.mem_singleton.mp ha]; exact nl)).trans e) (hp'.le (by omega)) ⟨hv, trok_le hd3 ht, by omega⟩
end
end CB

namespace CB
open PySem PySem.Spec PyProof.Rows L2 Evl
section
variable {P : Program} {w : World} {K : PySem.W.Frag} {mg : Str → Option Value} {base : Heap}
/-! ### _law_set -/
abbrev sLSet : Stmt := topS 54
abbrev nLSet : List Str := ["_law_pen_here", "_law_one"]
theorem scLSet : FnScope nLSet ["_law_pen_here"] (C8.fnScope sLSet) := C8.fnScope_by (by decide +kernel)
def spLSet (K : PySem.W.Frag) : Sp := fun vs H Q _ => ∃ (H0 : Hp) (l : Addr) (k : Nat), vs = [.ref l] ∧ Ex H0 H ∧ H0 l = none ∧ PenAt H l k ∧ k ≤ 900000 ∧
  ∀ v fl H', Ex H0 H' → PenAt H' l (k + 4) → FailV K H' v fl → Q v H'
theorem ok_lset (D : Dd K mg "_law_set" sLSet ["_law_pen_here"]) (B : Bn mg) (c1 : C8.Cal P w K mg base 1 "_law_draw" spDraw []) : C8.Cal P w K mg base 2 "_law_set" (spLSet K) [] := by
  refine dd_cal D scLSet (fun vs H Q E h => ?_) (fun f cdv A outer s H vs Q E hr h => ?_)
  · obtain ⟨H0, l, k, rfl, _⟩ := h
    rfl
  obtain ⟨H0, l, k, rfl, e0, nl, hp, hk, q⟩ := h
  have nd := scLSet.nd
  refine ⟨_, pss_one (ps_ret (pe_callTy call_tuple_of (by rfl) B.tuple bT_tuple (pa_cons (pe_lc (own := [("_law_one", 1)]) (g := gName 1) rfl nd (pi_range1 (by rfl) B.range (pa_cons pe_int pa_nil))
        (blkOk_by (own := [("_law_one", 1)]) (N := nLSet) (sc := C8.fnScope sLSet) (by decide +kernel)) (fun _ _ _ _ _ => pg_name (i := 1) nd rfl (Or.inl rfl))
        (fun _ _ _ _ _ => pts_one (pt_cmpR op_eq (C8.pe_c c1 hr (by omega) rfl (pa_cons (pv 0) (pa_cons pe_int pa_nil))) pe_int (nomark _)))
        (fun _ _ _ _ _ => pv 1)) pa_nil))), ?_⟩
  refine ⟨(4 : Int), rfl, by decide, by decide, fun D nD => ?_⟩
  have nD0 : H0 D = none := fresh_back e0 nD
  have nlD : l ≠ D := fun z => by
    subst z
    obtain ⟨_, _, _, h, _⟩ := hp
    rw [h] at nD
    cases nD
  refine lc_range (lo := 0) (n := (4 : Int).toNat) (fun i H' => Ex H0 H' ∧ PenAt H' l (k + i) ∧ ∃ fs : List Int, H' D = some (.lst (fs.map V.int)) ∧ fs.length ≤ i ∧ fs.Pairwise (· < ·) ∧ ∀ a ∈ fs, 0 ≤ a ∧ a < (i : Int)) ⟨e0.mut nD0, hp.ex (ex_new nD), [], upd_same, Nat.le_refl _, .nil, fun _ z => (by cases z)⟩ (fun i H' hi pv => ?_) (fun H1 pv => ?_)
  · obtain ⟨e1, hp1, fs, hD, hl, hpw, hb⟩ := pv
    have hi4 : i < 4 := hi
    refine ⟨rfl, ?_⟩
    refine ⟨_, rfl, hid [l] H', l, k + i, 2, rfl, hid_ex _ _, hid_none (by simp), hp1, by omega, by decide, by decide, fun r H2 _ _ e2 hp2 => ?_⟩
    have hD2 := e2 _ _ (hid_get hD (by simpa using nlD.symm))
    have e02 : Ex H0 H2 := (ex_hid e1 (fun a ha => by rw [List.mem_singleton.mp ha]; exact nl)).trans e2
    refine ⟨rfl, _, rfl, ?_⟩
    refine ite2 (fun hc => ?_) (fun hc => ?_)
    · refine ⟨_, rfl, _, hD2, szl (by rw [List.length_map]; omega), e02.mut nD0, ?_, fs ++ [(i : Int)], ?_, ?_, ?_, ?_⟩
      · obtain ⟨p0, p1, p2, h, rest⟩ := hp2
        exact ⟨p0, p1, p2, by rw [upd_ne nlD]; exact h, rest⟩
      · rw [upd_same, List.map_append, Int.zero_add]
        rfl
      · rw [List.length_append, List.length_singleton]; omega
      · refine List.pairwise_append.mpr ⟨hpw, List.pairwise_singleton _ _, fun a ha b hb' => ?_⟩
        rw [List.mem_singleton.mp hb']
        exact (hb a ha).2
      · intro a ha
        rcases List.mem_append.mp ha with ha | ha
        · have := hb a ha
          omega
        · rw [List.mem_singleton.mp ha]
          omega
    · exact ⟨e02, hp2, fs, hD2, by omega, hpw, fun a ha => by have := hb a ha; omega⟩
  obtain ⟨e1, hp1, fs, hD, hl, hpw, hb⟩ := pv
  refine ⟨D, _, rfl, .inl ⟨SqL.of hD, fun tp ntp => ?_⟩⟩
  have eT := ex_new (o := .tup (fs.map V.int)) ntp
  have hl4 : fs.length ≤ 4 := hl
  refine q _ fs _ (e1.trans eT) (hp1.ex eT) ⟨at_ints (SqT.of upd_same), ⟨hpw, fun a ha => (hb a ha).1, by omega⟩, fun a ha => ?_, by omega⟩
  have : a < 4 := (hb a ha).2
  omega
end
end CB

namespace CB
open PySem PySem.Spec PyProof.Rows L2 Evl
theorem cutT {tc : TT} {σ : L2.St} {H : Hp} {Q : Bool → Hp → Prop} (A : Bool → Hp → Prop) (h : ∀ Q' : Bool → Hp → Prop, (∀ b H1, A b H1 → Q' b H1) → tc σ H Q') (k : ∀ b H1, A b H1 → Q b H1) : tc σ H Q := h Q k
theorem HandAt.oth {R : Ha} {k : Nat} {H0 H : Hp} {s : S2} (r : HandAt R k H0 H s) {p : Addr} {o : HO} (np : H0 p = none) (hw : p ∉ R.W) : HandAt R k H0 (upd H p o) s := by
  obtain ⟨as, h1, hl⟩ := r.l1
  simp only [Ha.W, List.mem_cons, List.not_mem_nil, or_false, not_or] at hw
  obtain ⟨a, b, c, d⟩ := hw
  exact ⟨r.ex.mut np, r.no, by rw [upd_ne (Ne.symm a)]; exact r.h, ⟨as, by rw [upd_ne (Ne.symm b)]; exact h1, hl⟩, by rw [upd_ne (Ne.symm c)]; exact r.l2, by rw [upd_ne (Ne.symm d)]; exact r.l3, r.nd⟩
theorem HandAt.free {R : Ha} {k : Nat} {H0 H : Hp} {s : S2} (r : HandAt R k H0 H s) {p : Addr} (np : H p = none) : p ∉ R.W := fun z => by
  obtain ⟨xs, h⟩ := r.lst p z
  rw [np] at h
  cases h
section
variable {P : Program} {w : World} {K : PySem.W.Frag} {mg : Str → Option Value} {base : Heap}
/-! ### _law_tried, _law_asked -/
abbrev sAsked : Stmt := topS 50
abbrev nAsked : List Str := ["_law_call_here", "_law_plan", "_law_fails", "_law_hand", "_law_turn"]
abbrev pAsked : List Str := ["_law_call_here", "_law_plan", "_law_fails", "_law_hand"]
theorem scAsked : FnScope nAsked pAsked (C8.fnScope sAsked) := C8.fnScope_by (by decide +kernel)
abbrev sTried : Stmt := topS 51
abbrev nTried : List Str := ["_law_call_here", "_law_plan", "_law_fails", "_law_hand", "_law_told", "_law_at"]
theorem scTried : FnScope nTried pAsked (C8.fnScope sTried) := C8.fnScope_by (by decide +kernel)
def spAsked (K : PySem.W.Frag) (d : Nat) : Sp := fun vs H Q _ => ∃ (v : V) (a : Addr) (v3 : V) (t : Tr) (x : List Int) (R : Ha) (k : Nat) (H0 : Hp) (s : S2), vs = [v, .ref a, v3, .ref R.h] ∧ Dp K H0 v (encT t) ∧ TrOk d t ∧ d ≤ 3 ∧ SqT K H0 a [.non, .bl false] ∧ Dp K H0 v3 (encI x) ∧
  HandAt R k H0 H s ∧ Fits (wtd d) s ∧ ∀ H', HandAt R k H0 H' (call (fOf x) t s).2 → Q (.bl (call (fOf x) t s).1) H'
def spTried (K : PySem.W.Frag) (d : Nat) : Sp := fun vs H Q _ => ∃ (v : V) (a : Addr) (v3 : V) (sv : Int) (n : Nat) (any : Bool) (ps : List Tr) (x : List Int) (R : Ha) (k : Nat) (H0 : Hp) (s : S2), vs = [v, .ref a, v3, .ref R.h] ∧ Dp K H0 v (encT (.mk sv n any ps)) ∧ TrOk (d + 1) (.mk sv n any ps) ∧ d ≤ 3 ∧ SqT K H0 a [.non, .bl false] ∧ Dp K H0 v3 (encI x) ∧
  HandAt R k H0 H s ∧ Fits (1 + 3 * wtd d) s ∧ ∀ H', HandAt R (k + 1) H0 H' (attT (fOf x) sv any ps s).2 → Q (.bl (attT (fOf x) sv any ps s).1) H'
theorem last_cases (bs : List Bool) : bs = [] ∨ ∃ r b, bs = r ++ [b] := by
  rcases List.eq_nil_or_concat bs with h | ⟨r, b, h⟩
  · exact .inl h
  · exact .inr ⟨r, b, by rw [h, List.concat_eq_append]⟩
theorem ok_tried (D : Dd K mg "_law_tried" sTried pAsked) (B : Bn mg) {d k : Nat} (c : C8.Cal P w K mg base k "_law_asked" (spAsked K d) []) : C8.Cal P w K mg base (k + 1) "_law_tried" (spTried K d) [] := by
  refine dd_cal D scTried (fun vs H Q E h => ?_) (fun f cdv A outer s H vs Q E hr h => ?_)
  · obtain ⟨v, a, v3, sv, n, any, ps, x, R, k, H0, s, rfl, _⟩ := h
    rfl
  obtain ⟨v, pa, v3, sv, n, any, ps, x, R, k', H0, s, rfl, hv, ⟨_, _, hn1, hn3, hl3, hps⟩, hd3, hpl, h3, r, ⟨z1, z2⟩, q⟩ := h
  obtain ⟨a, b, xs, rfl, t1, t2, t3⟩ := tr_at hv
  obtain ⟨xa, rfl, hxa⟩ := ints_at h3
  have hx : xs.length = ps.length := by rw [dpa_len t3, List.length_map]
  have nd := scTried.nd
  refine ⟨_, pss_cons (ps_expr (pe_bm PySem.F.plainAttrs_list PySem.F.slot_list_append PySem.F.type_list_append mt_append (pe_ix ix_list (pv 3) pe_int (fun _ _ => rfl)) (pa_cons (pe_ix ix_tup (pv 0) pe_int (fun _ _ => rfl)) pa_nil)))
    (pss_cons (ps_par (i := 4) (j := 5) rfl nd rfl rfl (by decide) rfl rfl (pa_cons (pe_lst pa_nil) (pa_cons pe_int pa_nil)) (by rfl))
    (pss_cons (ps_while PassesOwn.never (PW.pt (pw_and (pt_cmpR op_lt (pv 5) (pe_callB call_len_seq (by rfl) B.len PySem.boot_len (pa_cons (pe_ix ix_tup (pv 0) pe_int (fun _ _ => rfl)) pa_nil)) (nomark _))
          (pw_and1 (PW.pt (pw_or (pt_cmpR (op_eqD hr.units) (pv 4) (pe_lst pa_nil) (nomark _)) (pw_or1 (pt_cmpR op_ne (pe_ix ix_list (pv 4) (pe_un un_neg pe_int) (fun _ _ => rfl)) (pe_cmpR op_eq (pe_ix ix_tup (pv 0) pe_int (fun _ _ => rfl)) pe_str (nomark _)) (nomark _))))))))
        (pss_cons (ps_expr (pe_bm PySem.F.plainAttrs_list PySem.F.slot_list_append PySem.F.type_list_append mt_append (pv 4) (pa_cons (C8.pe_c c hr (Nat.le_refl _) rfl (pa_cons (pe_ix ix_tup (pe_ix ix_tup (pv 0) pe_int (fun _ _ => rfl)) (pv 5) (fun _ _ => rfl)) (pa_cons (pv 1) (pa_cons (pv 2) (pa_cons (pv 3) pa_nil))))) pa_nil)))
          (pss_one (ps_set (i := 5) nd rfl (.inl rfl) (pe_op op_add (pv 5) pe_int)))))
    (Evl.pss_cut (ps_if (PW.pt (pw_and (pt_cmpR (op_neD hr.units) (pv 4) (pe_lst pa_nil) (nomark _)) (pw_and1 (pt_not (pt_val (pe_ix ix_list (pv 4) (pe_un un_neg pe_int) (fun _ _ => rfl))))))) (pss_one (ps_ret pe_bl)) pss_nil)
    (pss_cons (ps_expr (pe_bm PySem.F.plainAttrs_list PySem.F.slot_list_append PySem.F.type_list_append mt_append (pe_ix ix_list (pv 3) pe_int (fun _ _ => rfl)) (pa_cons (pe_ix ix_tup (pv 0) pe_int (fun _ _ => rfl)) pa_nil)))
    (pss_one (ps_ret (pe_cmpR op_notIn_seq (pe_op op_sub (pe_callB call_len_seq (by rfl) B.len PySem.boot_len (pa_cons (pe_ix ix_list (pv 3) pe_int (fun _ _ => rfl)) pa_nil)) pe_int) (pv 2) (by rfl)))))))), ?_⟩
  -- asked
  refine ⟨_, rfl, R.h, _, 2, .ref R.l2, rfl, rfl, SqL.of r.h, rfl, .inl ⟨rfl, _, SqL.of r.l2⟩, _, rfl, a, _, 0, .int sv, rfl, rfl, ex_t r.ex t1, rfl, R.l2, _, _, rfl, rfl, r.l2, szl (by rw [List.length_map]; omega), ?_⟩
  have r1 := r.ask sv
  generalize upd H R.l2 (.lst (List.map V.int s.1 ++ [V.int sv])) = H1 at *
  refine ⟨Nat.zero_le _, fun T nT => ⟨_, _, rfl, ?_⟩⟩
  have nT0 : H0 T = none := fresh_back r1.ex nT
  have nTW : T ∉ R.W := r1.free nT
  have r2 := r1.grow (ex_new (o := .lst []) nT)
  have hT2 : (upd H1 T (.lst [])) T = some (.lst (([] : List Bool).map V.bl)) := upd_same
  generalize upd H1 T (.lst []) = H2 at *
  have hfit : Fits (3 * wtd d) (s.1 ++ [sv], s.2) := ⟨by simp only [List.length_append, List.length_singleton]; omega, by simp only; omega⟩
  generalize hs1 : ((s.1 ++ [sv], s.2) : S2) = s1 at *
  -- the parts
  refine ⟨fun m σ' H' => ∃ (bs : List Bool) (s' : S2), σ' = [some (.ref a), some (.ref pa), some (.ref xa), some (.ref R.h), some (.ref T), some (.int (bs.length : Int))] ∧ m = ps.length - bs.length ∧ bs.length ≤ ps.length ∧ H' T = some (.lst (bs.map V.bl)) ∧ HandAt R (k' + 1) H0 H' s' ∧ Fits ((3 - bs.length) * wtd d) s' ∧
    ((bs.getLast? = some any ∧ parts (fOf x) any (!any || ps.isEmpty) ps s1 = (any, s')) ∨ (bs.getLast? ≠ some any ∧ parts (fOf x) any (!any || ps.isEmpty) ps s1 = parts (fOf x) any (!any || ps.isEmpty) (ps.drop bs.length) s')), ⟨_, [], s1, rfl, rfl, Nat.zero_le _, hT2, r2, hfit, .inr ⟨by simp, rfl⟩⟩, ?_⟩
  rintro m σ' H3 ⟨bs, s', rfl, rfl, hbl, hT, r3, ⟨y1, y2⟩, hrel⟩
  refine cutT (fun bb H4 => Ex H3 H4 ∧ (bb = true ↔ (bs.length < ps.length ∧ bs.getLast? ≠ some any))) (fun Q' q' => ?_) (fun bb H4 hA => ?_)
  · refine ⟨_, rfl, _, rfl, a, _, 3, .ref b, rfl, rfl, ex_t r3.ex t1, rfl, b, _, rfl, .inr (ex_t r3.ex t2), _, _, rfl, rfl, _, rfl, ?_⟩
    refine ite2 (fun hc => ?_) (fun hc => ?_)
    · have hlt := of_decide_eq_true hc
      have hlt2 : bs.length < ps.length := by omega
      refine ⟨_, rfl, Nat.zero_le _, fun e ne => ?_⟩
      have eE := ex_new (o := .lst []) ne
      have hT4 := eE _ _ hT
      refine ⟨.list (bs.map .bool), .list [], .lst (SqL.of hT4) (dpa_bools bs), .lst (SqL.of upd_same) .nil, shape_bools bs, shape_bools [], _, rfl, ?_⟩
      rw [eqv_bools]
      rcases last_cases bs with rfl | ⟨rr, bl, rfl⟩
      · exact iteT (q' _ _ ⟨eE, iff_of_true rfl ⟨hlt2, by simp⟩⟩)
      · refine ite2 (fun hc2 => ?_) (fun _ => ?_)
        · exact absurd hc2 (by cases rr <;> simp)
        refine ⟨_, rfl, _, rfl, T, _, -1, .bl bl, rfl, rfl, SqL.of hT4, ?_, _, rfl, a, _, 2, .str (modeS any), rfl, rfl, ex_t (r3.ex.trans eE) t1, rfl, rfl, ?_⟩
        · rw [List.map_append]; exact atI_last _ _
        refine ⟨rfl, _, rfl, ?_⟩
        rw [mode_any]
        refine q' _ _ ⟨eE, ?_⟩
        rw [List.getLast?_concat]
        by_cases hb : bl = any
        · subst hb; simp
        · have : ¬ V.bl bl = V.bl any := fun z => hb (by injection z)
          simp only [this, decide_false, Bool.not_false, true_iff]
          exact ⟨hlt2, fun z => hb (by injection z)⟩
    · exact q' _ _ ⟨Ex.refl _, by
        have : ¬ bs.length < ps.length := fun z => hc (decide_eq_true (by omega))
        simp [this]⟩
  obtain ⟨e4, hbb⟩ := hA
  have r4 := r3.grow e4
  have hT4 := e4 _ _ hT
  refine ite2 (fun hc => ?_) (fun hc => ?_)
  · obtain ⟨hlt, hne⟩ := hbb.mp hc
    obtain ⟨_, hrel⟩ := hrel.resolve_left (fun z => hne z.1)
    obtain ⟨p, hp⟩ : ∃ p, ps[bs.length]? = some p := ⟨_, List.getElem?_eq_getElem hlt⟩
    have hpx : (ps.map encT)[bs.length]? = some (encT p) := by rw [List.getElem?_map, hp]; rfl
    obtain ⟨xp, hxp, hdp⟩ := dpa_get' t3 hpx
    have hpk := hps p (List.mem_of_getElem? hp)
    have hi3 : bs.length < 3 := by omega
    have ew : (3 - bs.length) * wtd d = (3 - (bs.length + 1)) * wtd d + wtd d := by
      rw [← Nat.succ_mul]
      congr 1
      omega
    rw [parts_drop hp] at hrel
    refine ⟨fun σ' H' => ∃ m', m' < ps.length - bs.length ∧ ∃ (bs : List Bool) (s' : S2), σ' = [some (.ref a), some (.ref pa), some (.ref xa), some (.ref R.h), some (.ref T), some (.int (bs.length : Int))] ∧ m' = ps.length - bs.length ∧ bs.length ≤ ps.length ∧ H' T = some (.lst (bs.map V.bl)) ∧ HandAt R (k' + 1) H0 H' s' ∧ Fits ((3 - bs.length) * wtd d) s' ∧
      ((bs.getLast? = some any ∧ parts (fOf x) any (!any || ps.isEmpty) ps s1 = (any, s')) ∨ (bs.getLast? ≠ some any ∧ parts (fOf x) any (!any || ps.isEmpty) ps s1 = parts (fOf x) any (!any || ps.isEmpty) (ps.drop bs.length) s')), fun σ' H' z => z, ?_⟩
    refine ⟨_, rfl, .inl ⟨rfl, _, SqL.of hT4⟩, ?_⟩
    refine ⟨_, rfl, a, _, 3, .ref b, rfl, rfl, ex_t r4.ex t1, rfl, _, rfl, b, _, (bs.length : Int), xp, rfl, rfl, ex_t r4.ex t2, atI_nat hxp, _, rfl, _, rfl, _, rfl, ?_⟩
    have e0h := ex_hid r4.ex r4.no
    refine ⟨xp, pa, .ref xa, p, x, R, k' + 1, hid R.W H4, s', rfl, dp_ex e0h hdp, hpk, hd3, ex_t e0h hpl, dp_ex e0h h3, r4.hide, ⟨by omega, by omega⟩, fun H5 r5 => ?_⟩
    have hT5 := r5.ex _ _ (hid_get hT4 nTW)
    have r5' := r4.back r5
    have g := grow_call (f := fOf x) d p hpk s'
    refine ⟨T, _, _, rfl, rfl, hT5, szl (by rw [List.length_map]; omega), ?_⟩
    refine ⟨_, rfl, _, _, rfl, rfl, ?_⟩
    have key : ∀ n : Nat, ((bs ++ [(call (fOf x) p s').1]).length : Nat) = bs.length + 1 := fun _ => by simp
    refine ⟨ps.length - (bs.length + 1), by omega, bs ++ [(call (fOf x) p s').1], (call (fOf x) p s').2, ?_, by rw [key 0], by rw [key 0]; omega, by rw [upd_same, List.map_append]; rfl, r5'.oth nT0 nTW, ?_, ?_⟩
    · rw [key 0, Int.natCast_add]
      rfl
    · rw [key 0]
      exact ⟨by omega, by omega⟩
    · rw [List.getLast?_concat, key 0]
      by_cases hcb : (call (fOf x) p s').1 = any
      · rw [if_pos hcb] at hrel
        exact .inl ⟨by rw [hcb], hrel⟩
      · rw [if_neg hcb] at hrel
        exact .inr ⟨fun z => hcb (by injection z), hrel⟩
  -- what was told last
  have hfin : bs.length = ps.length ∨ bs.getLast? = some any := by
    by_cases z : bs.getLast? = some any
    · exact .inr z
    · by_cases z2 : bs.length < ps.length
      · exact absurd (hbb.mpr ⟨z2, z⟩) hc
      · exact .inl (by omega)
  have hps0 : bs = [] → ps = [] := fun z => by
    subst z
    rcases hfin with h | h
    · exact List.eq_nil_of_length_eq_zero h.symm
    · simp at h
  have hpar : parts (fOf x) any (!any || ps.isEmpty) ps s1 = ((match bs.getLast? with | none => true | some b => b), s') := by
    rcases hrel with ⟨h1, h2⟩ | ⟨h1, h2⟩
    · rw [h1, h2]
    · have hl := hfin.resolve_right h1
      rw [h2, List.drop_of_length_le (by omega), parts]
      rcases last_cases bs with rfl | ⟨rr, bl, rfl⟩
      · rw [hps0 rfl]; simp
      · rw [List.getLast?_concat] at h1 ⊢
        have hb : bl ≠ any := fun z => h1 (by rw [z])
        have hne : ps.isEmpty = false := by
          cases ps with
          | nil => simp at hl
          | cons => rfl
        rw [hne]
        cases any <;> cases bl <;> simp_all
  have fin0 : attT (fOf x) sv any ps s = if (parts (fOf x) any (!any || ps.isEmpty) ps s1).1 = true then (!fOf x (parts (fOf x) any (!any || ps.isEmpty) ps s1).2.2.length, ((parts (fOf x) any (!any || ps.isEmpty) ps s1).2.1, (parts (fOf x) any (!any || ps.isEmpty) ps s1).2.2 ++ [sv])) else (false, (parts (fOf x) any (!any || ps.isEmpty) ps s1).2) := by
    rw [← hs1]; rfl
  rw [hpar] at fin0
  simp only at fin0
  refine ⟨fun σ' H5 => Ex H4 H5 ∧ (match bs.getLast? with | none => true | some b => b) = true ∧ σ' = [some (.ref a), some (.ref pa), some (.ref xa), some (.ref R.h), some (.ref T), some (.int (bs.length : Int))], ?_, ?_⟩
  · refine ⟨_, rfl, Nat.zero_le _, fun e ne => ?_⟩
    have eE := ex_new (o := .lst []) ne
    refine ⟨.list (bs.map .bool), .list [], .lst (SqL.of (eE _ _ hT4)) (dpa_bools bs), .lst (SqL.of upd_same) .nil, shape_bools bs, shape_bools [], _, rfl, ?_⟩
    rw [eqv_bools]
    rcases last_cases bs with rfl | ⟨rr, bl, rfl⟩
    · exact iteF (iteF ⟨eE, rfl, rfl⟩)
    · refine ite2 (fun _ => ?_) (fun hc2 => absurd (by cases rr <;> rfl) hc2)
      refine ⟨_, rfl, _, rfl, T, _, -1, .bl bl, rfl, rfl, SqL.of (eE _ _ hT4), ?_, bl, rfl, ?_⟩
      · rw [List.map_append]; exact atI_last _ _
      rw [List.getLast?_concat] at fin0 ⊢
      cases bl with
      | true => exact iteF ⟨eE, rfl, rfl⟩
      | false =>
        refine iteT ?_
        rw [if_neg (by decide)] at fin0
        rw [fin0] at q
        exact q _ (r4.grow eE)
  rintro σ' H5 ⟨e5, hm, rfl⟩
  rw [if_pos hm] at fin0
  rw [fin0] at q
  have r5 := r4.grow e5
  have hs2 : s'.2.length ≤ 10000 := by omega
  refine ⟨_, rfl, R.h, _, 3, .ref R.l3, rfl, rfl, SqL.of r5.h, rfl, .inl ⟨rfl, _, SqL.of r5.l3⟩, _, rfl, a, _, 0, .int sv, rfl, rfl, ex_t r5.ex t1, rfl, R.l3, _, _, rfl, rfl, r5.l3, szl (by rw [List.length_map]; omega), ?_⟩
  have r6 := r5.dec sv
  refine ⟨_, rfl, R.h, _, 3, .ref R.l3, rfl, rfl, SqL.of r6.h, rfl, R.l3, _, rfl, .inl (SqL.of r6.l3), _, _, rfl, rfl, _, rfl, xa, _, rfl, .inr (ex_t r6.ex hxa), rfl, flat_ints _, ?_⟩
  rw [if_pos rfl, inV_ints]
  have el : ((List.map V.int (s'.1, s'.2 ++ [sv]).2).length : Int) - 1 = (s'.2.length : Int) := by
    simp only [List.length_map, List.length_append, List.length_singleton]
    omega
  rw [el]
  exact q _ r6
end
end CB

namespace CB
open PySem PySem.Spec PyProof.Rows L2 Evl
section
variable {P : Program} {w : World} {K : PySem.W.Frag} {mg : Str → Option Value} {base : Heap}
theorem ok_asked1 (D : Dd K mg "_law_asked" sAsked pAsked) (B : Bn mg) {d k : Nat} (c : C8.Cal P w K mg base k "_law_tried" (spTried K d) []) : C8.Cal P w K mg base (k + 1) "_law_asked" (spAsked K (d + 1)) [] := by
  refine dd_cal D scAsked (fun vs H Q E h => ?_) (fun f cdv A outer s H vs Q E hr h => ?_)
  · obtain ⟨v, a, v3, t, x, R, k, H0, s, rfl, _⟩ := h
    rfl
  obtain ⟨v, pa, v3, ⟨sv, n, any, ps⟩, x, R, k', H0, s, rfl, hv, ht, hd3, hpl, h3, r, ⟨z1, z2⟩, q⟩ := h
  obtain ⟨a, b, xs, rfl, t1, t2, t3⟩ := tr_at hv
  have hn3 : n ≤ 3 := ht.2.2.2.1
  have hl3 : ps.length ≤ 3 := ht.2.2.2.2.1
  have hps := ht.2.2.2.2.2
  have nd := scAsked.nd
  refine ⟨_, pss_cons (ps_if (PW.pt (pw_and (pt_val (pe_ix ix_tup (pv 1) pe_int (fun _ _ => rfl))) (pw_and1 (pt_cmpR op_in_seq (pe_ix ix_tup (pv 0) pe_int (fun _ _ => rfl)) (pe_ix ix_list (pv 3) pe_int (fun _ _ => rfl)) (by rfl))))) (pss_one (ps_ret pe_bl)) pss_nil)
    (pss_cons (ps_for PassesOwn.never rfl (pi_range1 (by rfl) B.range (pa_cons (pe_ix ix_tup (pv 0) pe_int (fun _ _ => rfl)) pa_nil)) (pg_name (i := 4) nd rfl (.inl rfl))
      (Evl.pss_cut (ps_if (PW.pt (pw_and (pt_cmpR op_gt (pv 4) pe_int (nomark _)) (pw_and1 (pt_cmpR op_eq (pe_ix ix_list (pv 3) pe_int (fun _ _ => rfl)) pe_int (nomark _))))) (pss_one (ps_ret pe_bl)) pss_nil)
      (Evl.pss_cut (ps_if (PW.pt (pw_and (pt_cmpR op_gt (pv 4) pe_int (nomark _)) (pw_and1 (pt_cmpR op_notN (pe_ix ix_list (pv 3) pe_int (fun _ _ => rfl)) pe_non (nomark _))))) (pss_one ps_never) pss_nil)
      (pss_one (ps_if (pt_val (C8.pe_c c hr (Nat.le_refl _) rfl (pa_cons (pv 0) (pa_cons (pv 1) (pa_cons (pv 2) (pa_cons (pv 3) pa_nil))))))
        (pss_cons (ps_expr (pe_bm PySem.F.plainAttrs_list PySem.F.slot_list_append PySem.F.type_list_append mt_append (pe_ix ix_list (pv 3) pe_int (fun _ _ => rfl)) (pa_cons (pe_ix ix_tup (pv 0) pe_int (fun _ _ => rfl)) pa_nil))) (pss_one (ps_ret pe_bl))) pss_nil)))))
    (pss_one (ps_ret pe_bl))), ?_⟩
  refine ⟨_, rfl, pa, _, 1, .bl false, rfl, rfl, ex_t r.ex hpl, rfl, false, rfl, iteF (iteF ?_)⟩
  refine ⟨_, rfl, a, _, 1, .int (n : Int), rfl, rfl, ex_t r.ex t1, rfl, (n : Int), rfl, by omega, by omega, ?_⟩
  have ec : call (fOf x) (.mk sv n any ps) s = rep (attT (fOf x) sv any ps) n s := call_eq _ _ _ _ _ _
  rw [ec] at q
  have ew : wtd (d + 1) = 3 * (1 + 3 * wtd d) := rfl
  refine for_range (lo := 0) (n := (n : Int).toNat) (fun i σ H' => ∃ (s' : S2) (o : Option V), σ = [some (.ref a), some (.ref pa), some v3, some (.ref R.h), o] ∧ HandAt R k' H0 H' s' ∧ Fits ((3 - i) * (1 + 3 * wtd d)) s' ∧
    rep (attT (fOf x) sv any ps) n s = rep (attT (fOf x) sv any ps) (n - i) s') ⟨s, none, rfl, r, ⟨by rw [ew] at z1; exact z1, by rw [ew] at z2; exact z2⟩, rfl⟩ ?_ ?_
  · rintro i σ H' hi ⟨s', o, rfl, r', ⟨y1, y2⟩, e⟩
    have hi3 : i < n := by omega
    have eq1 : (3 - i) * (1 + 3 * wtd d) = (3 - (i + 1)) * (1 + 3 * wtd d) + (1 + 3 * wtd d) := by
      rw [← Nat.succ_mul]
      congr 1
      omega
    have er : rep (attT (fOf x) sv any ps) (n - i) s' = if (attT (fOf x) sv any ps s').1 = true then (true, (attT (fOf x) sv any ps s').2) else rep (attT (fOf x) sv any ps) (n - (i + 1)) (attT (fOf x) sv any ps s').2 := by
      rw [show n - i = (n - (i + 1)) + 1 by omega, rep]
    have g := grow_att (f := fOf x) (sv := sv) (grow_parts (f := fOf x) (any := any) (e := !any || ps.isEmpty) ps fun p hp => grow_call d p (hps p hp)) s'
    have gm : ps.length * wtd d ≤ 3 * wtd d := Nat.mul_le_mul_right _ hl3
    have g1 : (attT (fOf x) sv any ps s').2.1.length ≤ s'.1.length + (1 + ps.length * wtd d) := g.1
    have g2 : (attT (fOf x) sv any ps s').2.2.length ≤ s'.2.length + (1 + ps.length * wtd d) := g.2
    refine ⟨fun σ1 H1 => H1 = H' ∧ σ1 = [some (.ref a), some (.ref pa), some v3, some (.ref R.h), some (.int (0 + (i : Int)))], ?_, ?_⟩
    · refine ⟨_, rfl, _, _, rfl, rfl, _, rfl, ?_⟩
      refine ite2 (fun _ => ?_) (fun _ => iteF ⟨rfl, rfl⟩)
      exact ⟨_, rfl, R.h, _, 0, .non, rfl, rfl, SqL.of r'.h, rfl, rfl, _, rfl, iteF ⟨rfl, rfl⟩⟩
    rintro σ1 H1 ⟨rfl, rfl⟩
    refine ⟨fun σ1 H2 => H2 = H1 ∧ σ1 = [some (.ref a), some (.ref pa), some v3, some (.ref R.h), some (.int (0 + (i : Int)))], ?_, ?_⟩
    · refine ⟨_, rfl, _, _, rfl, rfl, _, rfl, ?_⟩
      refine ite2 (fun _ => ?_) (fun _ => iteF ⟨rfl, rfl⟩)
      exact ⟨_, rfl, R.h, _, 0, .non, rfl, rfl, SqL.of r'.h, rfl, rfl, _, rfl, iteF ⟨rfl, rfl⟩⟩
    rintro σ1 H2 ⟨rfl, rfl⟩
    refine ⟨_, rfl, _, rfl, _, rfl, _, rfl, .ref a, pa, v3, sv, n, any, ps, x, R, k', H0, s', rfl, hv, ht, by omega, hpl, h3, r', ⟨by omega, by omega⟩, fun H3 r3 => ?_⟩
    refine ⟨_, rfl, ?_⟩
    refine ite2 (fun hc => ?_) (fun hc => ?_)
    · rw [if_pos hc] at er
      obtain ⟨as, has, hal⟩ := r3.l1
      refine ⟨_, rfl, R.h, _, 1, .ref R.l1, rfl, rfl, SqL.of r3.h, rfl, .inl ⟨rfl, _, SqL.of has⟩, _, rfl, a, _, 0, .int sv, rfl, rfl, ex_t r3.ex t1, rfl, R.l1, _, _, rfl, rfl, has, szl (by omega), ?_⟩
      have r4 := r3.put has (.int sv)
      have q2 := q _ (by rw [e, er]; exact r4)
      rw [e, er] at q2
      exact q2
    · rw [if_neg hc] at er
      exact ⟨_, _, rfl, r3.less, ⟨by omega, by omega⟩, by rw [e, er]⟩
  · rintro σ H' ⟨s', o, rfl, r', _, e⟩
    rw [show n - (n : Int).toNat = 0 by omega, rep] at e
    have q2 := q H' (by rw [e]; exact r')
    rw [e] at q2
    exact q2
theorem ok_asked (D : Dd K mg "_law_asked" sAsked pAsked) (D2 : Dd K mg "_law_tried" sTried pAsked) (B : Bn mg) : ∀ d : Nat, C8.Cal P w K mg base (2 * d + 1) "_law_asked" (spAsked K d) []
  | 0 => dead D fun vs H Q E h => by
    obtain ⟨v, pa, v3, t, x, R, k', H0, s, _, _, ht, _⟩ := h
    exact ht
  | d + 1 => ok_asked1 D B (ok_tried D2 B (ok_asked D D2 B d))
/-! ### _law_played -/
abbrev sPlayed : Stmt := topS 52
abbrev nPlayed : List Str := ["_law_tree_here", "_law_plan", "_law_fails", "_law_hand", "_law_is_good"]
theorem scPlayed : FnScope nPlayed ["_law_tree_here", "_law_plan", "_law_fails"] (C8.fnScope sPlayed) := C8.fnScope_by (by decide +kernel)
def spPlayed (K : PySem.W.Frag) : Sp := fun vs H Q _ => ∃ (v : V) (a : Addr) (v3 : V) (t : Tr) (x : List Int), vs = [v, .ref a, v3] ∧ Dp K H v (encT t) ∧ TrOk 3 t ∧ SqT K H a [.non, .bl false] ∧ Dp K H v3 (encI x) ∧
  Ret H Q fun r H' => Dp K H' r (.tuple [.bool (runT t x).1, encI (runT t x).2.1, encI (runT t x).2.2])
theorem ok_played (D : Dd K mg "_law_played" sPlayed ["_law_tree_here", "_law_plan", "_law_fails"]) (B : Bn mg) (c : C8.Cal P w K mg base 7 "_law_asked" (spAsked K 3) []) : C8.Cal P w K mg base 8 "_law_played" (spPlayed K) [] := by
  refine dd_cal D scPlayed (fun vs H Q E h => ?_) (fun f cdv A outer s H vs Q E hr h => ?_)
  · obtain ⟨v, a, v3, t, x, rfl, _⟩ := h
    rfl
  obtain ⟨v, a, v3, t, x, rfl, hv, ht, ha, h3, q⟩ := h
  have nd := scPlayed.nd
  refine ⟨_, pss_cons (ps_set (i := 3) nd rfl (.inl rfl) (pe_lst (pa_cons (pe_ix ix_tup (pv 1) pe_int (fun _ _ => rfl)) (pa_cons (pe_lst pa_nil) (pa_cons (pe_lst pa_nil) (pa_cons (pe_lst pa_nil) pa_nil))))))
    (pss_cons (ps_set (i := 4) nd rfl (.inl rfl) (C8.pe_c c hr (by omega) rfl (pa_cons (pv 0) (pa_cons (pv 1) (pa_cons (pv 2) (pa_cons (pv 3) pa_nil))))))
    (pss_one (ps_ret (pe_tup (pa_cons (pv 4) (pa_cons (pe_callTy call_tuple_of (by rfl) B.tuple bT_tuple (pa_cons (pe_ix ix_list (pv 3) pe_int (fun _ _ => rfl)) pa_nil)) (pa_cons (pe_callTy call_tuple_of (by rfl) B.tuple bT_tuple (pa_cons (pe_ix ix_list (pv 3) pe_int (fun _ _ => rfl)) pa_nil)) pa_nil))))))), ?_⟩
  refine ⟨_, rfl, a, _, 0, .non, rfl, rfl, ha, rfl, Nat.zero_le _, fun l1 n1 => ⟨Nat.zero_le _, fun l2 n2 => ⟨Nat.zero_le _, fun l3 n3 => ⟨(by show 4 ≤ sizeLine; decide), fun hh nh => ?_⟩⟩⟩⟩
  have e1 := ex_new (o := .lst []) n1
  have e2 := ex_new (o := .lst []) n2
  have e3 := ex_new (o := .lst []) n3
  have e4 := ex_new (o := .lst [.non, .ref l1, .ref l2, .ref l3]) nh
  have g1 : (upd H l1 (.lst [])) l1 = some (.lst []) := upd_same
  have g2 : (upd (upd H l1 (.lst [])) l2 (.lst [])) l2 = some (.lst []) := upd_same
  have g3 : (upd (upd (upd H l1 (.lst [])) l2 (.lst [])) l3 (.lst [])) l3 = some (.lst []) := upd_same
  have n12 : l1 ≠ l2 := ne_of_none g1 n2
  have n13 : l1 ≠ l3 := ne_of_none (e2 _ _ g1) n3
  have n23 : l2 ≠ l3 := ne_of_none g2 n3
  have n1h : l1 ≠ hh := ne_of_none ((e2.trans e3) _ _ g1) nh
  have n2h : l2 ≠ hh := ne_of_none (e3 _ _ g2) nh
  have n3h : l3 ≠ hh := ne_of_none g3 nh
  have z2 : H l2 = none := fresh_back e1 n2
  have z3 : H l3 = none := fresh_back (e1.trans e2) n3
  have zh : H hh = none := fresh_back ((e1.trans e2).trans e3) nh
  have r : HandAt ⟨hh, l1, l2, l3⟩ 0 H (upd (upd (upd (upd H l1 (.lst [])) l2 (.lst [])) l3 (.lst [])) hh (.lst [.non, .ref l1, .ref l2, .ref l3])) ([], []) := by
    refine ⟨((e1.trans e2).trans e3).trans e4, fun a ha => ?_, upd_same, ⟨[], ((e2.trans e3).trans e4) _ _ g1, Nat.le_refl _⟩, (e3.trans e4) _ _ g2, e4 _ _ g3, ?_⟩
    · simp only [Ha.W, List.mem_cons, List.not_mem_nil, or_false] at ha
      rcases ha with e | e | e | e
      · rw [e]; exact zh
      · rw [e]; exact n1
      · rw [e]; exact z2
      · rw [e]; exact z3
    · simp only [Ha.W, List.nodup_cons, List.mem_cons, List.not_mem_nil, or_false, not_or, not_false_eq_true, List.nodup_nil, and_true]
      exact ⟨⟨n1h.symm, n2h.symm, n3h.symm⟩, ⟨n12, n13⟩, n23⟩
  generalize upd (upd (upd (upd H l1 (.lst [])) l2 (.lst [])) l3 (.lst [])) hh (.lst [.non, .ref l1, .ref l2, .ref l3]) = H4 at *
  refine ⟨_, rfl, _, rfl, _, rfl, _, rfl, v, a, v3, t, x, ⟨hh, l1, l2, l3⟩, 0, H, ([], []), rfl, hv, ht, by decide, ha, h3, r, ⟨by rw [wt3]; decide, by rw [wt3]; decide⟩, fun H5 r5 => ?_⟩
  have r5 : HandAt ⟨hh, l1, l2, l3⟩ 0 H H5 (runT t x).2 := r5
  refine ⟨_, rfl, _, rfl, hh, _, 2, .ref l2, rfl, rfl, SqL.of r5.h, rfl, l2, _, rfl, .inl ⟨SqL.of r5.l2, fun u nu => ?_⟩⟩
  have eu := ex_new (o := .tup (List.map V.int (runT t x).2.1)) nu
  refine ⟨_, rfl, hh, _, 3, .ref l3, rfl, rfl, SqL.of (eu _ _ r5.h), rfl, l3, _, rfl, .inl ⟨SqL.of (eu _ _ r5.l3), fun u2 nu2 => ?_⟩⟩
  have eu2 := ex_new (o := .tup (List.map V.int (runT t x).2.2)) nu2
  refine ⟨(by show 3 ≤ sizeLine; decide), fun tp ntp => ?_⟩
  have et := ex_new (o := .tup [.bl (call (fOf x) t ([], [])).1, .ref u, .ref u2]) ntp
  refine q _ _ (((r5.ex.trans eu).trans eu2).trans et) (.tup (SqT.of upd_same) (.cons (.bl _) (.cons (at_ints (ex_t (eu2.trans et) (SqT.of upd_same))) (.cons (at_ints (ex_t et (SqT.of upd_same))) .nil))))
end
end CB

namespace CB
open PySem PySem.Spec PyProof.Rows L2 Evl
theorem dpa_split {K : PySem.W.Frag} {H : Hp} : ∀ {vs ws : List V} {ds es : List PyData}, vs.length = ds.length → DpAll K H (vs ++ ws) (ds ++ es) → DpAll K H vs ds ∧ DpAll K H ws es
  | [], _, [], _, _, h => ⟨.nil, h⟩
  | [], _, _ :: _, _, hl, _ => by simp at hl
  | _ :: _, _, [], _, hl, _ => by simp at hl
  | v :: vs, ws, d :: ds, es, hl, .cons h t => by
    obtain ⟨a, b⟩ := dpa_split (by simpa using hl) t
    exact ⟨.cons h a, b⟩
def encP (p : List Int × List Int) : PyData := .tuple [encI p.1, encI p.2]
theorem noL_P (p : List Int × List Int) : noL (encP p) = true := by
  unfold encP
  simp only [noL, noLs, noL_ints, Bool.and_true]
theorem noLs_P (F : List (List Int × List Int)) : noLs (F.map encP) = true := by
  rw [noLs_mem]
  intro d hd
  obtain ⟨p, _, rfl⟩ := List.mem_map.mp hd
  exact noL_P p
theorem noLs_I (F : List (List Int)) : noLs (F.map encI) = true := by
  rw [noLs_mem]
  intro d hd
  obtain ⟨p, _, rfl⟩ := List.mem_map.mp hd
  exact noL_ints p
theorem lay_ints : ∀ ns : List Int, PyData.canLayAll0 (ns.map PyData.int) = true ∧ PyData.depthAll (ns.map PyData.int) = 0
  | [] => ⟨rfl, rfl⟩
  | n :: r => by
    rw [List.map_cons, PyData.canLayAll0, PyData.depthAll, (lay_ints r).1, (lay_ints r).2]
    exact ⟨rfl, rfl⟩
theorem lay_encI (ns : List Int) : PyData.canLay0 (encI ns) = true ∧ PyData.depth (encI ns) = 1 := by
  unfold encI
  refine ⟨by simp only [PyData.canLay0]; exact (lay_ints ns).1, by simp only [PyData.depth, (lay_ints ns).2]⟩
theorem shape_encI (ns : List Int) : SeqAt.shaped (encI ns) = true := by
  unfold SeqAt.shaped
  rw [Bool.and_eq_true, (lay_encI ns).1, (lay_encI ns).2]
  exact ⟨rfl, rfl⟩
theorem shape_sets (L : List (List Int)) : SeqAt.shaped (.list (L.map encI)) = true := by
  have h : PyData.canLayAll0 (L.map encI) = true ∧ PyData.depthAll (L.map encI) ≤ 1 := by
    induction L with
    | nil => exact ⟨rfl, by decide⟩
    | cons x r ih =>
      rw [List.map_cons, PyData.canLayAll0, PyData.depthAll, (lay_encI x).1, (lay_encI x).2, ih.1]
      exact ⟨rfl, Nat.max_le.mpr ⟨Nat.le_refl _, ih.2⟩⟩
  unfold SeqAt.shaped
  rw [Bool.and_eq_true]
  refine ⟨by simp only [PyData.canLay0]; exact h.1, decide_eq_true ?_⟩
  simp only [PyData.depth]
  omega
theorem eqv_sets (L : List (List Int)) : PyData.eqv (.list (L.map encI)) (.list []) = L.isEmpty := by cases L <;> rfl
theorem eqv_encI0 (x : List Int) : PyData.eqv (encI x) (.tuple []) = x.isEmpty := by cases x <;> rfl
def kidsTo (failing : List Int) (x dd : List Int) (i : Nat) : List (List Int) := ((List.range i).filter (fun i => decide (dd.getD (beginOf x + i) 0 ∈ failing))).map (fun i => x ++ [((beginOf x + i : Nat) : Int)])
theorem kidsTo_snoc (failing x dd : List Int) (i : Nat) : kidsTo failing x dd (i + 1) = kidsTo failing x dd i ++ (if dd.getD (beginOf x + i) 0 ∈ failing then [x ++ [((beginOf x + i : Nat) : Int)]] else []) := by
  unfold kidsTo
  rw [List.range_succ, List.filter_append, List.map_append]
  congr 1
  by_cases h : dd.getD (beginOf x + i) 0 ∈ failing
  · rw [if_pos h, List.filter_cons_of_pos (by exact decide_eq_true h)]; rfl
  · rw [if_neg h, List.filter_cons_of_neg (by simpa using h)]; rfl
theorem kidsTo_len (failing x dd : List Int) (i : Nat) : (kidsTo failing x dd i).length ≤ i := by
  unfold kidsTo
  rw [List.length_map]
  exact Nat.le_trans (List.length_filter_le _ _) (by rw [List.length_range]; exact Nat.le_refl _)
theorem kidsTo_mem {failing x dd : List Int} {i : Nat} {y : List Int} (h : y ∈ kidsTo failing x dd i) : ∃ n : Nat, y = x ++ [(n : Int)] := by
  unfold kidsTo at h
  obtain ⟨j, _, rfl⟩ := List.mem_map.mp h
  exact ⟨_, rfl⟩
section
variable {P : Program} {w : World} {K : PySem.W.Frag} {mg : Str → Option Value} {base : Heap}
/-! ### _law_every -/
abbrev sEvery : Stmt := topS 53
abbrev pEvery : List Str := ["_law_tree_here", "_law_plan", "_law_failing", "_law_ends", "_law_most_here"]
abbrev nEvery : List Str := ["_law_tree_here", "_law_plan", "_law_failing", "_law_ends", "_law_most_here", "_law_found", "_law_left", "_law_fails", "_law_is_good", "_law_asks", "_law_deciders", "_law_begin", "_law_at"]
theorem scEvery : FnScope nEvery pEvery (C8.fnScope sEvery) := C8.fnScope_by (by decide +kernel)
def spEvery (K : PySem.W.Frag) : Sp := fun vs H Q _ => ∃ (v : V) (a : Addr) (v3 : V) (t : Tr) (fl : List Int) (most : Nat), vs = [v, .ref a, v3, .bl true, .int (most : Int)] ∧ Dp K H v (encT t) ∧ TrOk 3 t ∧ SqT K H a [.non, .bl false] ∧ FailV K H v3 fl ∧ most ≤ 5000 ∧
  Ret H Q fun r H' => (every t fl most = none ∧ r = .non) ∨ ∃ R, every t fl most = some R ∧ R.length ≤ most ∧ LsD K (R.map encP) r H'
abbrev EvI (K : PySem.W.Frag) (t : Tr) (fl : List Int) (most : Nat) (H : Hp) (v : V) (a fa Fa : Addr) (m : Nat) (σ' : L2.St) (H' : Hp) : Prop := ∃ (F : List (List Int × List Int)) (L : List (List Int)) (fs ls : List V) (La : Addr) (o7 o8 o9 o10 o11 : Option V), σ' = [some v, some (.ref a), some (.ref fa), some (.bl true), some (.int (most : Int)), some (.ref Fa), some (.ref La), o7, o8, o9, o10, o11, none] ∧
    Ex H H' ∧ H La = none ∧ La ≠ Fa ∧ H' Fa = some (.lst fs) ∧ DpAll K H' fs (F.map encP) ∧ H' La = some (.lst ls) ∧ DpAll K H' ls (L.map encI) ∧ every t fl most = everyL t fl most m F L ∧ F.length + m = most + 2 ∧ F.length ≤ most ∧ L.length ≤ 1 + 273 * F.length ∧ ∀ x ∈ L, x.length ≤ F.length ∧ ∀ i ∈ x, 0 ≤ i ∧ i < 273
theorem ok_every (D : Dd K mg "_law_every" sEvery pEvery) (B : Bn mg) (c : C8.Cal P w K mg base 8 "_law_played" (spPlayed K) []) : C8.Cal P w K mg base 9 "_law_every" (spEvery K) [] := by
  refine dd_cal D scEvery (fun vs H Q E h => ?_) (fun f cdv A outer s H vs Q E hr h => ?_)
  · obtain ⟨v, a, v3, t, fl, most, rfl, _⟩ := h
    rfl
  obtain ⟨v, a, v3, t, fl, most, rfl, hv, ht, ha, ⟨h3, hs3, hb3, hl3⟩, hm, q⟩ := h
  obtain ⟨fa, rfl, hfa⟩ := ints_at h3
  have nd := scEvery.nd
  refine ⟨_, pss_cons (ps_par (i := 5) (j := 6) rfl nd rfl rfl (by decide) rfl rfl (pa_cons (pe_lst pa_nil) (pa_cons (pe_lst (pa_cons (pe_tup pa_nil) pa_nil)) pa_nil)) (by rfl))
    (pss_cons (ps_while PassesOwn.never (pt_cmpR (op_neD hr.units) (pv 6) (pe_lst pa_nil) (nomark _))
      (pss_cons (ps_set (i := 7) nd rfl (.inr rfl) (pe_bm0 PySem.F.plainAttrs_list PySem.F.slot_list_pop PySem.F.type_list_pop mt_pop (pv 6)))
      (pss_cons (ps_asg (C8.pe_c c hr (by omega) rfl (pa_cons (pv 0) (pa_cons (pv 1) (pa_cons (pv 7) pa_nil)))) (pg_tup (by rfl) (pgs_cons (pg_name (i := 8) nd rfl (.inl rfl)) (pgs_cons (pg_name (i := 9) nd rfl (.inl rfl)) (pgs_cons (pg_name (i := 10) nd rfl (.inr rfl)) pgs_nil)))))
      (pss_cons (ps_expr (pe_bm PySem.F.plainAttrs_list PySem.F.slot_list_append PySem.F.type_list_append mt_append (pv 5) (pa_cons (pe_ifExp (pt_val (pv 3)) (pe_tup (pa_cons (pv 9) (pa_cons (pv 7) pa_nil))) (pv 9)) pa_nil)))
      (pss_cons (ps_if (pt_cmpR op_gt (pe_callB call_len_seq (by rfl) B.len PySem.boot_len (pa_cons (pv 5) pa_nil)) (pv 4) (nomark _)) (pss_one (ps_ret pe_non)) pss_nil)
      (Evl.pss_cut (ps_set (i := 11) nd rfl (.inl rfl) (pe_ifExp (pt_cmpR (op_neD hr.units) (pv 7) (pe_tup pa_nil) (nomark _)) (pe_op op_add (pe_ix ix_tup (pv 7) (pe_un un_neg pe_int) (fun _ _ => rfl)) pe_int) pe_int))
      (pss_one (ps_set (i := 6) nd rfl (.inl rfl) (pe_op op_cat (pv 6) (pe_lc (own := [("_law_at", 12)]) (g := gName 12) rfl nd (pi_range2 (by rfl) B.range (pa_cons (pv 11) (pa_cons (pe_callB call_len_seq (by rfl) B.len PySem.boot_len (pa_cons (pv 10) pa_nil)) pa_nil)))
          (blkOk_by (own := [("_law_at", 12)]) (N := nEvery) (sc := C8.fnScope sEvery) (by decide +kernel)) (fun _ _ _ _ _ => pg_name (i := 12) nd rfl (Or.inl rfl))
          (fun _ _ _ _ _ => pts_one (pt_cmpR (op_in_seqK K) (pe_ix (ix_tupK K) (pv 10) (pv 12) (fun _ _ => rfl)) (pv 2) (by rfl)))
          (fun _ _ _ _ _ => pe_op (op_catAK K) (pv 7) (pe_tup (pa_cons (pv 12) pa_nil)))))))))))))
    (pss_one (ps_ret (pv 5)))), ?_⟩
  refine ⟨Nat.zero_le _, fun Fa nF => ⟨Nat.zero_le _, fun p0 np0 => ⟨(by show 1 ≤ sizeLine; decide), fun La nL => ⟨_, _, rfl, ?_⟩⟩⟩⟩
  have e1 := ex_new (o := .lst []) nF
  have e2 := ex_new (o := .tup []) np0
  have e3 := ex_new (o := .lst [.ref p0]) nL
  have nL0 : H La = none := fresh_back (e1.trans e2) nL
  have hF0 : (upd (upd (upd H Fa (.lst [])) p0 (.tup [])) La (.lst [.ref p0])) Fa = some (.lst []) := (e2.trans e3) _ _ upd_same
  have hP0 : SqT K (upd (upd (upd H Fa (.lst [])) p0 (.tup [])) La (.lst [.ref p0])) p0 (([] : List Int).map V.int) := ex_t e3 (SqT.of upd_same)
  have hL0 : (upd (upd (upd H Fa (.lst [])) p0 (.tup [])) La (.lst [.ref p0])) La = some (.lst [.ref p0]) := upd_same
  have eH := (e1.trans e2).trans e3
  generalize upd (upd (upd H Fa (.lst [])) p0 (.tup [])) La (.lst [.ref p0]) = H1 at *
  refine ⟨EvI K t fl most H v a fa Fa, ⟨_, [], [[]], [], [.ref p0], La, none, none, none, none, none, rfl, eH, nL0, ne_of_none (e2 _ _ upd_same) nL |>.symm, hF0, .nil, hL0, .cons (at_ints hP0) .nil, rfl, by show 0 + (most + 2) = _; omega, Nat.zero_le _, by simp, fun x hx => ?_⟩, ?_⟩
  · rw [List.mem_singleton.mp hx]
    exact ⟨Nat.le_refl _, fun _ z => (by cases z)⟩
  rintro m σ' H2 ⟨F, L, fs, ls, La, o7, o8, o9, o10, o11, rfl, eH2, nLa, nLF, hF, hfs, hL, hls, hev, hfm, hFm, hLl, hLx⟩
  refine ⟨_, rfl, Nat.zero_le _, fun e ne => ?_⟩
  have eE := ex_new (o := .lst []) ne
  refine ⟨.list (L.map encI), .list [], .lst (SqL.of (eE _ _ hL)) (dpa_ex eE hls), .lst (SqL.of upd_same) .nil, shape_sets L, shape_sets [], _, rfl, ?_⟩
  rw [eqv_sets]
  have hF := eE _ _ hF
  have hL := eE _ _ hL
  have hfs := dpa_ex eE hfs
  have hls := dpa_ex eE hls
  have eH3 := eH2.trans eE
  generalize upd H2 e (.lst []) = H3 at *
  obtain ⟨m, rfl⟩ : ∃ m', m = m' + 1 := ⟨m - 1, by omega⟩
  rcases List.eq_nil_or_concat L with rfl | ⟨L', x, hLc⟩
  · refine iteF ?_
    refine ⟨_, rfl, q _ _ eH3 (.inr ⟨F, ?_, hFm, Fa, fs, rfl, hF, hfs⟩)⟩
    rw [hev, everyL]
    rfl
  rw [List.concat_eq_append] at hLc
  subst hLc
  refine ite2 (fun _ => ?_) (fun hc => absurd (by cases L' <;> rfl) hc)
  have hev2 : every t fl most = if most < F.length + 1 then none else everyL t fl most m (F ++ [((runT t x).2.1, x)]) (L' ++ kids fl x (runT t x).2.2) := by
    rw [hev, everyL, List.getLast?_concat, List.dropLast_concat]
  obtain ⟨hxl, hx0⟩ := hLx x (by simp)
  have g2 : (runT t x).2.2.length ≤ 273 := run_len2 ht
  -- pop
  obtain ⟨ls', xv, rfl, hls', hxv⟩ : ∃ ls' xv, ls = ls' ++ [xv] ∧ DpAll K H3 ls' (L'.map encI) ∧ Dp K H3 xv (encI x) := by
    have hll : ls.length = L'.length + 1 := by rw [dpa_len hls]; simp
    rcases List.eq_nil_or_concat ls with z | ⟨ls', xv, z⟩
    · rw [z] at hll; simp at hll
    rw [List.concat_eq_append] at z
    subst z
    rw [List.map_append] at hls
    obtain ⟨g1, g2⟩ := dpa_split (by rw [List.length_map]; simpa using hll) hls
    obtain ⟨y, r, e1, e2, _⟩ := dpa_cons g2
    have : xv = y := by injection e1
    subst this
    exact ⟨ls', xv, rfl, g1, e2⟩
  obtain ⟨xa, rfl, hxa⟩ := ints_at hxv
  have hfl : fs.length = F.length := by rw [dpa_len hfs, List.length_map]
  have hll : ls'.length = L'.length := by rw [dpa_len hls', List.length_map]
  have hL'l : L'.length ≤ 273 * F.length := by
    rw [List.length_append, List.length_singleton] at hLl
    omega
  refine ⟨fun σ' H' => ∃ m', m' < m + 1 ∧ EvI K t fl most H v a fa Fa m' σ' H', fun σ' H' z => z, ?_⟩
  refine ⟨_, rfl, .inl ⟨rfl, _, SqL.of hL⟩, La, _, .ref xa, rfl, rfl, hL, by simp, ?_⟩
  rw [List.dropLast_concat]
  have tx : Tx H3 (upd H3 La (.lst ls')) := Tx.lst hL
  have hL4 : (upd H3 La (.lst ls')) La = some (.lst ls') := upd_same
  have hF4 : (upd H3 La (.lst ls')) Fa = some (.lst fs) := by rw [upd_ne nLF.symm]; exact hF
  have hfs4 := dpa_tx tx (noLs_P F) hfs
  have hls4 := dpa_tx tx (noLs_I L') hls'
  have hxa4 := sqt_tx tx hxa
  have eH4 : Ex H (upd H3 La (.lst ls')) := eH3.mut nLa
  generalize upd H3 La (.lst ls') = H4 at *
  -- played
  refine ⟨_, rfl, _, rfl, _, rfl, v, a, .ref xa, t, x, rfl, dp_ex eH4 hv, ht, ex_t eH4 ha, at_ints hxa4, fun r H5 e5 hr5 => ?_⟩
  obtain ⟨ra, x1, x2, x3, rfl, s1, d1, d2, d3⟩ := dp3_at hr5
  have ed1 := dp_bl d1
  subst ed1
  obtain ⟨aa, rfl, haa⟩ := ints_at d2
  obtain ⟨da, rfl, hda⟩ := ints_at d3
  refine ⟨ra, _, rfl, s1, rfl, _, _, rfl, _, _, rfl, _, _, rfl, rfl, ?_⟩
  have hF5 := e5 _ _ hF4
  refine ⟨_, rfl, .inl ⟨rfl, _, SqL.of hF5⟩, ⟨_, rfl, true, rfl, iteT ?_⟩⟩
  refine ⟨_, rfl, _, rfl, (by show 2 ≤ sizeLine; decide), fun tp ntp => ?_⟩
  have eT := ex_new (o := .tup [.ref aa, .ref xa]) ntp
  have hF6 := eT _ _ hF5
  have hL6 := eT _ _ (e5 _ _ hL4)
  have hfs6 := dpa_ex (e5.trans eT) hfs4
  have hls6 := dpa_ex (e5.trans eT) hls4
  have hxa6 := ex_t (e5.trans eT) hxa4
  have haa6 := ex_t eT haa
  have hda6 := ex_t eT hda
  have htp6 : SqT K (upd H5 tp (.tup [.ref aa, .ref xa])) tp [.ref aa, .ref xa] := SqT.of upd_same
  have eH6 : Ex H (upd H5 tp (.tup [.ref aa, .ref xa])) := (eH4.trans e5).trans eT
  generalize upd H5 tp (.tup [.ref aa, .ref xa]) = H6 at *
  refine ⟨Fa, fs, _, rfl, rfl, hF6, szl (by omega), ?_⟩
  have tx7 : Tx H6 (upd H6 Fa (.lst (fs ++ [.ref tp]))) := Tx.lst hF6
  have hF7 : (upd H6 Fa (.lst (fs ++ [.ref tp]))) Fa = some (.lst (fs ++ [.ref tp])) := upd_same
  have hL7 : (upd H6 Fa (.lst (fs ++ [.ref tp]))) La = some (.lst ls') := by rw [upd_ne nLF]; exact hL6
  have hfs7 : DpAll K (upd H6 Fa (.lst (fs ++ [.ref tp]))) (fs ++ [.ref tp]) ((F ++ [((runT t x).2.1, x)]).map encP) := by
    rw [List.map_append]
    exact dpa_append (dpa_tx tx7 (noLs_P F) hfs6) (.cons (.tup (sqt_tx tx7 htp6) (.cons (at_ints (sqt_tx tx7 haa6)) (.cons (at_ints (sqt_tx tx7 hxa6)) .nil))) .nil)
  have hls7 := dpa_tx tx7 (noLs_I L') hls6
  have hxa7 := sqt_tx tx7 hxa6
  have hda7 := sqt_tx tx7 hda6
  have eH7 : Ex H (upd H6 Fa (.lst (fs ++ [.ref tp]))) := eH6.mut nF
  generalize upd H6 Fa (.lst (fs ++ [.ref tp])) = H7 at *
  refine ⟨_, rfl, Fa, _, rfl, .inl (SqL.of hF7), _, rfl, _, _, rfl, rfl, _, rfl, ?_⟩
  refine ite2 (fun hc => ?_) (fun hc => ?_)
  · have hlt := of_decide_eq_true hc
    rw [List.length_append, List.length_singleton] at hlt
    exact q _ _ eH7 (.inl ⟨by rw [hev2, if_pos (by omega)], rfl⟩)
  have hge : F.length + 1 ≤ most := by
    have : ¬ (most : Int) < ((fs ++ [V.ref tp]).length : Nat) := fun z => hc (decide_eq_true z)
    rw [List.length_append, List.length_singleton] at this
    omega
  rw [if_neg (by omega)] at hev2
  have hbl : beginOf x ≤ 273 := by
    rcases List.eq_nil_or_concat x with rfl | ⟨y, l, hy⟩
    · exact Nat.zero_le _
    · rw [List.concat_eq_append] at hy
      subst hy
      have h0 := hx0 l (by simp)
      unfold beginOf
      rw [List.getLast?_concat]
      simp only
      omega
  refine ⟨fun σ' H8 => Ex H7 H8 ∧ σ' = [some v, some (.ref a), some (.ref fa), some (.bl true), some (.int (most : Int)), some (.ref Fa), some (.ref La), some (.ref xa), some (.bl (runT t x).1), some (.ref aa), some (.ref da), some (.int (beginOf x : Int)), none], ?_, ?_⟩
  · refine ⟨_, rfl, Nat.zero_le _, fun e2 ne2 => ?_⟩
    have eE2 := ex_new (o := .tup []) ne2
    refine ⟨encI x, .tuple [], at_ints (ex_t eE2 hxa7), .tup (SqT.of upd_same) .nil, shape_encI x, shape_nil, _, rfl, ?_⟩
    rw [eqv_encI0]
    rcases List.eq_nil_or_concat x with rfl | ⟨y, l, hy⟩
    · exact iteF ⟨eE2, rfl⟩
    · rw [List.concat_eq_append] at hy
      subst hy
      refine ite2 (fun _ => ?_) (fun hc => absurd (by cases y <;> rfl) hc)
      have h0 := hx0 l (by simp)
      refine ⟨_, rfl, _, rfl, xa, _, -1, .int l, rfl, rfl, ex_t eE2 hxa7, ?_, _, _, rfl, rfl, eE2, ?_⟩
      · rw [List.map_append]; exact atI_last _ _
      have eb : l + 1 = ((beginOf (y ++ [l]) : Nat) : Int) := by
        unfold beginOf
        rw [List.getLast?_concat]
        simp only
        omega
      rw [← eb]
      rfl
  rintro σ' H8 ⟨e8, rfl⟩
  have hL8 := e8 _ _ hL7
  have hxa8 := ex_t e8 hxa7
  have hda8 := ex_t e8 hda7
  have eH8 := eH7.trans e8
  refine ⟨_, rfl, _, rfl, _, rfl, da, _, rfl, .inr hda8, (beginOf x : Int), _, rfl, ⟨by omega, by omega, by rw [List.length_map]; omega, by rw [List.length_map]; omega⟩, fun D nD => ?_⟩
  have en : (((List.map V.int (runT t x).2.2).length : Int) - (beginOf x : Int)).toNat = (runT t x).2.2.length - beginOf x := by
    rw [List.length_map]
    omega
  rw [en]
  refine lc_range (lo := (beginOf x : Int)) (n := (runT t x).2.2.length - beginOf x) (fun i H' => Ex H8 H' ∧ ∃ acc, H' D = some (.lst acc) ∧ DpAll K H' acc ((kidsTo fl x (runT t x).2.2 i).map encI)) ⟨ex_new nD, [], upd_same, .nil⟩ (fun i H' hi pv => ?_) (fun H9 pv => ?_)
  · obtain ⟨e9, acc, hD, hacc⟩ := pv
    have hal : acc.length ≤ i := by
      rw [dpa_len hacc, List.length_map]
      exact kidsTo_len _ _ _ _
    have hlt : beginOf x + i < (runT t x).2.2.length := by omega
    refine ⟨rfl, ?_⟩
    refine ⟨_, rfl, _, rfl, da, _, _, .int ((runT t x).2.2.getD (beginOf x + i) 0), rfl, rfl, ex_t e9 hda8, ?_, _, rfl, fa, _, rfl, .inr (ex_t (eH8.trans e9) hfa), rfl, flat_ints _, _, rfl, ?_⟩
    · rw [show (beginOf x : Int) + (i : Int) = ((beginOf x + i : Nat) : Int) by omega]
      refine atI_nat ?_
      rw [List.getElem?_map, List.getElem?_eq_getElem hlt, List.getD_eq_getElem?_getD, List.getElem?_eq_getElem hlt]
      rfl
    rw [if_neg Bool.false_ne_true, inV_ints]
    have hks := kidsTo_snoc fl x (runT t x).2.2 i
    refine ite2 (fun hc => ?_) (fun hc => ?_)
    · rw [if_pos (of_decide_eq_true hc)] at hks
      have fin : ∀ y Hy, Ex H' Hy → Dp K Hy y (encI (x ++ [((beginOf x + i : Nat) : Int)])) → ∃ acc, Hy D = some (.lst acc) ∧ acc.length < sizeLine ∧ (Ex H8 (upd Hy D (.lst (acc ++ [y]))) ∧ ∃ acc2, (upd Hy D (.lst (acc ++ [y]))) D = some (.lst acc2) ∧ DpAll K (upd Hy D (.lst (acc ++ [y]))) acc2 ((kidsTo fl x (runT t x).2.2 (i + 1)).map encI)) := fun y Hy ey hy => by
        refine ⟨acc, ey _ _ hD, szl (by omega), (e9.trans ey).mut nD, _, upd_same, ?_⟩
        have ty : Tx Hy (upd Hy D (.lst (acc ++ [y]))) := Tx.lst (ey _ _ hD)
        rw [hks, List.map_append]
        exact dpa_append (dpa_tx ty (noLs_I _) (dpa_ex ey hacc)) (.cons (dp_tx ty (noL_ints _) hy) .nil)
      refine ⟨_, rfl, _, rfl, (by show 1 ≤ sizeLine; decide), fun tq ntq => ?_⟩
      have eQ := ex_new (o := .tup [.int ((beginOf x : Int) + (i : Int))]) ntq
      have ez : (beginOf x : Int) + (i : Int) = ((beginOf x + i : Nat) : Int) := by omega
      refine ⟨xa, tq, _, _, rfl, rfl, ex_t (e9.trans eQ) hxa8, SqT.of upd_same, sz3 (by rw [List.length_map, List.length_singleton]; omega), fun z => ?_, fun _ z => (by cases z), fun _ _ p np => ?_⟩
      · have hx0 : x = [] := by cases x with | nil => rfl | cons => cases z
        refine fin _ _ eQ (at_ints (SqT.of ?_))
        rw [upd_same, ez, hx0]
        rfl
      · have eP := ex_new (o := .tup (List.map V.int x ++ [.int ((beginOf x : Int) + (i : Int))])) np
        refine fin _ _ (eQ.trans eP) (at_ints (SqT.of ?_))
        rw [upd_same, List.map_append, ez]
        rfl
    · rw [if_neg (fun z => hc (decide_eq_true z)), List.append_nil] at hks
      exact ⟨e9, acc, hD, by rw [hks]; exact hacc⟩
  obtain ⟨e9, acc, hD, hacc⟩ := pv
  have hal : acc.length ≤ 273 := by
    rw [dpa_len hacc, List.length_map]
    exact Nat.le_trans (kidsTo_len _ _ _ _) (by omega)
  have hkl : (kids fl x (runT t x).2.2).length ≤ 273 := Nat.le_trans (kidsTo_len fl x (runT t x).2.2 ((runT t x).2.2.length - beginOf x)) (by omega)
  have hL9 := e9 _ _ hL8
  refine ⟨La, D, _, _, rfl, rfl, hL9, hD, Nat.le_trans (show _ ≤ 2000000 by omega) (by decide), fun p np => ?_⟩
  have eP := ex_new (o := .lst (ls' ++ acc)) np
  have e7P := (e8.trans e9).trans eP
  have nFp : Fa ≠ p := ne_of_none ((e8.trans e9) _ _ hF7) np
  refine ⟨m, by omega, F ++ [((runT t x).2.1, x)], L' ++ kids fl x (runT t x).2.2, _, _, p, _, _, _, _, _, rfl, eH7.trans e7P, fresh_back (eH8.trans e9) np, nFp.symm, e7P _ _ hF7, dpa_ex e7P hfs7, upd_same, ?_, hev2, ?_, ?_, ?_, ?_⟩
  · rw [List.map_append]
    exact dpa_append (dpa_ex e7P hls7) (dpa_ex eP hacc)
  · rw [List.length_append, List.length_singleton]; omega
  · rw [List.length_append, List.length_singleton]; omega
  · rw [List.length_append, List.length_append, List.length_singleton]; omega
  · intro y hy
    rw [List.length_append, List.length_singleton]
    rcases List.mem_append.mp hy with hy | hy
    · have h := hLx y (List.mem_append_left _ hy)
      exact ⟨by omega, h.2⟩
    · obtain ⟨a1, h1, rfl, sv, h2, _⟩ := mem_kids.mp hy
      have h3 := (List.getElem?_eq_some_iff.mp h2).1
      refine ⟨by rw [List.length_append, List.length_singleton]; omega, fun i hi => ?_⟩
      rcases List.mem_append.mp hi with hi | hi
      · exact hx0 i hi
      · rw [List.mem_singleton.mp hi]
        omega
end
end CB

namespace CB
open PySem PySem.Spec PyProof.Rows L2 Evl
def wants (sv : Option Int) (a : Int) : Bool := decide (sv = none ∨ sv = some a)
theorem cnt_filter (sv : Option Int) (as : List Int) : (as.filter (wants sv)).length = cnt sv as := by
  cases sv with
  | none =>
    have : as.filter (wants none) = as := List.filter_eq_self.mpr (fun a _ => by simp [wants])
    rw [this]
    rfl
  | some s =>
    show _ = as.count s
    rw [List.count, List.countP_eq_length_filter]
    congr 1
    refine List.filter_congr fun a _ => ?_
    unfold wants
    by_cases h : a = s
    · subst h; simp
    · have h' : ¬ s = a := fun z => h z.symm
      simp [h, h']
def encRun (t : Tr) (x : List Int) : PyData := .tuple [.bool (runT t x).1, encI (runT t x).2.1]
theorem noLs_run (t : Tr) (F : List (List Int)) : noLs (F.map (encRun t)) = true := by
  rw [noLs_mem]
  intro d hd
  obtain ⟨p, _, rfl⟩ := List.mem_map.mp hd
  unfold encRun
  simp only [noL, noLs, noL_ints, Bool.and_true]
def mostL (t : Tr) (xs : List (List Int)) (sv : Option Int) (g : Bool) : List Nat := (xs.filter (fun x => decide ((runT t x).1 = g))).map (fun x => cnt sv (runT t x).2.1)
def mostN (t : Tr) (xs : List (List Int)) (sv : Option Int) (g : Bool) : Option Nat := if mostL t xs sv g = [] then none else some (maxN (mostL t xs sv g))
theorem mostL_snoc (t : Tr) (xs : List (List Int)) (x : List Int) (sv : Option Int) (g : Bool) : mostL t (xs ++ [x]) sv g = mostL t xs sv g ++ (if (runT t x).1 = g then [cnt sv (runT t x).2.1] else []) := by
  unfold mostL
  rw [List.filter_append, List.map_append]
  congr 1
  by_cases h : (runT t x).1 = g
  · rw [if_pos h, List.filter_cons_of_pos (by exact decide_eq_true h)]; rfl
  · rw [if_neg h, List.filter_cons_of_neg (by simpa using h)]; rfl
def natsI (l : List Nat) : List Int := l.map (fun n : Nat => (n : Int))
theorem shape_ints (ns : List Int) : SeqAt.shaped (.list (ns.map .int)) = true := by
  unfold SeqAt.shaped
  rw [Bool.and_eq_true]
  refine ⟨by simp only [PyData.canLay0]; exact (lay_ints ns).1, decide_eq_true ?_⟩
  simp only [PyData.depth, (lay_ints ns).2]
  decide
theorem eqv_ints (ns : List Int) : PyData.eqv (.list (ns.map .int)) (.list []) = ns.isEmpty := by cases ns <;> rfl
section
variable {P : Program} {w : World} {K : PySem.W.Frag} {mg : Str → Option Value} {base : Heap}
/-! ### _law_counted, _law_most -/
abbrev sCounted : Stmt := topS 55
abbrev nCounted : List Str := ["_law_asks", "_law_service", "_law_one"]
theorem scCounted : FnScope nCounted ["_law_asks", "_law_service"] (C8.fnScope sCounted) := C8.fnScope_by (by decide +kernel)
def spCounted (K : PySem.W.Frag) : Sp := fun vs H Q _ => ∃ (v : V) (as : List Int) (sv : Option Int), vs = [v, svV sv] ∧ Dp K H v (encI as) ∧ as.length ≤ 1000 ∧ Ret H Q fun r _ => r = .int (cnt sv as : Int)
theorem ok_counted (D : Dd K mg "_law_counted" sCounted ["_law_asks", "_law_service"]) (B : Bn mg) : C8.Cal P w K mg base 1 "_law_counted" (spCounted K) [] := by
  refine dd_cal D scCounted (fun vs H Q E h => ?_) (fun f cdv A outer s H vs Q E hr h => ?_)
  · obtain ⟨v, as, sv, rfl, _⟩ := h
    rfl
  obtain ⟨v, as, sv, rfl, hv, hl, q⟩ := h
  obtain ⟨a, rfl, ha⟩ := ints_at hv
  have nd := scCounted.nd
  refine ⟨_, pss_one (ps_ret (pe_callB call_len_seq (by rfl) B.len PySem.boot_len (pa_cons (pe_lc (own := [("_law_one", 2)]) (g := gName 2) rfl nd (pi_tup (pv 0))
        (blkOk_by (own := [("_law_one", 2)]) (N := nCounted) (sc := C8.fnScope sCounted) (by decide +kernel)) (fun _ _ _ _ _ => pg_name (i := 2) nd rfl (Or.inl rfl))
        (fun _ _ _ _ _ => pts_one (PW.pt (pw_or (pt_cmpR op_isN (pv 1) pe_non (nomark _)) (pw_or1 (pt_cmpR op_eq (pv 2) (pv 1) (nomark _))))))
        (fun _ _ _ _ _ => pv 2)) pa_nil))), ?_⟩
  refine ⟨_, rfl, a, rfl, ⟨_, ha⟩, fun D nD => ?_⟩
  refine lc_tup (xs := as.map V.int) (fun i H' => Ex H H' ∧ H' D = some (.lst (((as.take i).filter (wants sv)).map V.int))) ⟨ex_new nD, upd_same⟩ (fun i H' _ p => ex_t p.1 ha) (fun i x H' hi p => ?_) (fun H1 p => ?_)
  · obtain ⟨e, hD⟩ := p
    rw [List.getElem?_map] at hi
    cases eu : as[i]? with
    | none => rw [eu] at hi; cases hi
    | some u =>
      rw [eu] at hi
      simp only [Option.map_some, Option.some.injEq] at hi
      subst hi
      have hlt := (List.getElem?_eq_some_iff.mp eu).1
      have hlen : ((as.take i).filter (wants sv)).length ≤ i := Nat.le_trans (List.length_filter_le _ _) (by rw [List.length_take]; omega)
      have fin : wants sv u = true → ∃ acc, H' D = some (.lst acc) ∧ acc.length < sizeLine ∧ (Ex H (upd H' D (.lst (acc ++ [.int u]))) ∧ (upd H' D (.lst (acc ++ [.int u]))) D = some (.lst (((as.take (i + 1)).filter (wants sv)).map V.int))) := fun hw => by
        refine ⟨_, hD, szl (by rw [List.length_map]; omega), e.mut nD, ?_⟩
        rw [upd_same, take_snoc eu, List.filter_append, List.filter_cons_of_pos hw, List.map_append]
        rfl
      refine ⟨rfl, ?_⟩
      refine ⟨_, rfl, rfl, _, rfl, ?_⟩
      cases sv with
      | none => exact iteT (iteT ⟨_, rfl, fin (by simp [wants])⟩)
      | some k =>
        refine iteF ?_
        refine ⟨_, rfl, _, rfl, rfl, _, rfl, ?_⟩
        refine ite2 (fun hc => ?_) (fun hc => ?_)
        · have z := of_decide_eq_true hc
          injection z with z
          exact ⟨_, rfl, fin (by simp [wants, z])⟩
        · have hw : ¬ wants (some k) u = true := fun z => hc (decide_eq_true (by
            have : k = u := by simpa [wants] using z
            rw [this]; rfl))
          refine ⟨e, ?_⟩
          rw [take_snoc eu, List.filter_append, List.filter_cons_of_neg hw]
          simpa using hD
  obtain ⟨e, hD⟩ := p
  rw [List.length_map, List.take_of_length_le (Nat.le_refl _)] at hD
  refine ⟨D, _, rfl, .inl (SqL.of hD), q _ _ e ?_⟩
  rw [List.length_map, cnt_filter]
abbrev sMost : Stmt := topS 56
abbrev nMost : List Str := ["_law_runs", "_law_service", "_law_is_good", "_law_found", "_law_answered", "_law_asks"]
theorem scMost : FnScope nMost ["_law_runs", "_law_service", "_law_is_good"] (C8.fnScope sMost) := C8.fnScope_by (by decide +kernel)
def spMost (K : PySem.W.Frag) : Sp := fun vs H Q _ => ∃ (v : V) (t : Tr) (xs : List (List Int)) (sv : Option Int) (g : Bool), vs = [v, svV sv, .bl g] ∧ LsD K (xs.map (encRun t)) v H ∧ TrOk 3 t ∧ xs.length ≤ 5000 ∧ Ret H Q fun r _ => r = optV (mostN t xs sv g)
theorem ok_most (D : Dd K mg "_law_most" sMost ["_law_runs", "_law_service", "_law_is_good"]) (B : Bn mg) (c : C8.Cal P w K mg base 1 "_law_counted" (spCounted K) []) : C8.Cal P w K mg base 2 "_law_most" (spMost K) [] := by
  refine dd_cal D scMost (fun vs H Q E h => ?_) (fun f cdv A outer s H vs Q E hr h => ?_)
  · obtain ⟨v, t, xs, sv, g, rfl, _⟩ := h
    rfl
  obtain ⟨v, t, xs, sv, g, rfl, ⟨L, ys, rfl, hL, hys⟩, ht, hl, q⟩ := h
  have nd := scMost.nd
  have hyl : ys.length = xs.length := by rw [dpa_len hys, List.length_map]
  refine ⟨_, pss_cons (ps_setLc (i := 3) (own := [("_law_answered", 4), ("_law_asks", 5)]) rfl nd rfl rfl (sw_true rfl rfl rfl (by decide +kernel)) (pi_list (pv 0))
        (blkOk_by (own := [("_law_answered", 4), ("_law_asks", 5)]) (N := nMost) (sc := C8.fnScope sMost) (by decide +kernel))
        (fun _ _ _ _ _ => pg_tupK K (n := 2) rfl (pgs_cons (pg_name (i := 4) nd rfl (Or.inl rfl)) (pgs_cons (pg_name (i := 5) nd rfl (Or.inl rfl)) pgs_nil)))
        (fun _ _ _ _ _ => pts_one (pt_cmpR op_eq (pv 4) (pv 2) (nomark _))) (fun _ _ _ _ _ => C8.pe_c c hr (by omega) rfl (pa_cons (pv 5) (pa_cons (pv 1) pa_nil))))
    (pss_one (ps_ret (pe_ifExp (pt_cmpR (op_neD hr.units) (pv 3) (pe_lst pa_nil) (nomark _)) (pe_callB (cr_max rfl) (by rfl) B.max bB_max (pa_cons (pv 3) pa_nil)) pe_non))), ?_⟩
  refine ⟨_, rfl, L, rfl, ⟨_, SqL.of hL⟩, fun D nD => ?_⟩
  refine lc_list (xs := ys) (fun i H' => Ex H H' ∧ H' D = some (.lst ((natsI (mostL t (xs.take i) sv g)).map V.int))) ⟨ex_new nD, upd_same⟩ (fun i H' _ p => SqL.of (p.1 _ _ hL)) (fun i y H' hi p => ?_) (fun H1 p => ?_)
  · obtain ⟨e, hD⟩ := p
    have hlt := (List.getElem?_eq_some_iff.mp hi).1
    obtain ⟨dd, hdd, hdy⟩ := dpa_get hys hi
    rw [List.getElem?_map] at hdd
    cases ex : xs[i]? with
    | none => rw [ex] at hdd; cases hdd
    | some x =>
      rw [ex] at hdd
      simp only [Option.map_some, Option.some.injEq] at hdd
      subst hdd
      obtain ⟨ra, r1, r2, rfl, s1, d1, d2⟩ := dp2_at (dp_ex e (show Dp K H y (.tuple [.bool (runT t x).1, encI (runT t x).2.1]) from hdy))
      have ed := dp_bl d1
      subst ed
      have hml : (mostL t (xs.take i) sv g).length ≤ i := by
        unfold mostL
        rw [List.length_map]
        exact Nat.le_trans (List.length_filter_le _ _) (by rw [List.length_take]; omega)
      have hsn := mostL_snoc t (xs.take i) x sv g
      refine ⟨ra, _, rfl, s1, rfl, _, _, rfl, _, _, rfl, rfl, rfl, ?_⟩
      refine ⟨_, rfl, _, rfl, rfl, _, rfl, ?_⟩
      refine ite2 (fun hc => ?_) (fun hc => ?_)
      · have z := of_decide_eq_true hc
        injection z with z
        rw [if_pos z] at hsn
        refine ⟨_, rfl, _, rfl, r2, _, sv, rfl, d2, Nat.le_trans (run_len1 ht) (by decide), fun r H2 e2 er => ?_⟩
        subst er
        refine ⟨_, e2 _ _ hD, szl (by unfold natsI; rw [List.length_map, List.length_map]; omega), (e.trans e2).mut nD, ?_⟩
        rw [upd_same, take_snoc ex, hsn]
        unfold natsI
        rw [List.map_append, List.map_append]
        rfl
      · rw [if_neg (fun z => hc (decide_eq_true (by rw [z])))] at hsn
        refine ⟨e, ?_⟩
        rw [take_snoc ex, hsn, List.append_nil]
        exact hD
  obtain ⟨e, hD⟩ := p
  rw [hyl, List.take_of_length_le (Nat.le_refl _)] at hD
  refine ⟨_, rfl, Nat.zero_le _, fun z nz => ?_⟩
  have eZ := ex_new (o := .lst []) nz
  have hD := eZ _ _ hD
  refine ⟨.list ((natsI (mostL t xs sv g)).map .int), .list [], .lst (SqL.of hD) (dpa_ints _), .lst (SqL.of upd_same) .nil, shape_ints _, shape_ints [], _, rfl, ?_⟩
  rw [eqv_ints]
  by_cases hm : mostL t xs sv g = []
  · rw [hm]
    refine iteF (q _ _ (e.trans eZ) ?_)
    unfold mostN
    rw [if_pos hm]
    rfl
  · refine ite2 (fun _ => ?_) (fun hc => ?_)
    · refine ⟨_, rfl, D, _, rfl, SqL.of hD, ?_, fun m hm1 hm2 => q _ _ (e.trans eZ) ?_⟩
      · unfold natsI
        rw [List.length_map]
        exact List.length_pos_iff.mpr hm
      · unfold mostN
        rw [if_neg hm]
        obtain ⟨n, hn, rfl⟩ := List.mem_map.mp hm1
        have h1 := le_maxN hn
        have h2 := hm2 _ (List.mem_map.mpr ⟨_, maxN_mem hm, rfl⟩)
        have : n = maxN (mostL t xs sv g) := by omega
        rw [this]
        rfl
    · exact absurd (by cases h : mostL t xs sv g with | nil => exact absurd h hm | cons => rfl) hc
end
end CB

namespace CB
open PySem PySem.Spec PyProof.Rows L2 Evl
theorem pw_len : ∀ (x : List Int) (lo hi : Int), lo ≤ hi → x.Pairwise (· < ·) → (∀ a ∈ x, lo ≤ a ∧ a < hi) → (x.length : Int) ≤ hi - lo
  | [], lo, hi, h, _, _ => by simp; omega
  | a :: r, lo, hi, h, hp, hb => by
    obtain ⟨h1, h2⟩ := List.pairwise_cons.mp hp
    have ha := hb a List.mem_cons_self
    have ih := pw_len r (a + 1) hi (by omega) h2 fun b hb' => ⟨by have := h1 b hb'; omega, (hb b (List.mem_cons_of_mem _ hb')).2⟩
    rw [List.length_cons]
    omega
theorem valid_len {fl : List Int} {t : Tr} {x : List Int} (ht : TrOk 3 t) (h : Valid fl t x) : x.length ≤ 273 := by
  have g := pw_len x 0 273 (by decide) h.1 fun a ha => by
    obtain ⟨h0, sv, e, _⟩ := h.2 a ha
    have h1 := (List.getElem?_eq_some_iff.mp e).1
    have h2 := run_len2 ht (x := x)
    exact ⟨h0, by omega⟩
  omega
theorem noL_run (t : Tr) (x : List Int) : noL (encRun t x) = true := by
  unfold encRun
  simp only [noL, noLs, noL_ints, Bool.and_true]
theorem most_pick {d : Nat} {t : Tr} (ht : TrOk d t) {fl : List Int} {xs : List (List Int)} (h1 : ∀ x ∈ xs, Valid fl t x) (h2 : ∀ x, Valid fl t x → x ∈ xs) (sv : Option Int) (g : Bool) : mostN t xs sv g = pickN (nums sv fl t).af g := by
  have mem : ∀ n, n ∈ mostL t xs sv g ↔ ∃ x ∈ xs, (runT t x).1 = g ∧ cnt sv (runT t x).2.1 = n := fun n => by
    unfold mostL
    rw [List.mem_map]
    constructor
    · rintro ⟨x, hx, e⟩
      obtain ⟨q1, q2⟩ := List.mem_filter.mp hx
      exact ⟨x, q1, of_decide_eq_true q2, e⟩
    · rintro ⟨x, q1, q2, e⟩
      exact ⟨x, List.mem_filter.mpr ⟨q1, decide_eq_true q2⟩, e⟩
  have le : ∀ n, n ∈ mostL t xs sv g → ∃ m, pickN (nums sv fl t).af g = some m ∧ n ≤ m := fun n hn => by
    obtain ⟨x, q1, q2, e⟩ := (mem n).mp hn
    obtain ⟨m, e1, l⟩ := run_le (service := sv) ht (h1 x q1)
    rw [q2] at e1
    exact ⟨m, e1, by omega⟩
  unfold mostN
  cases hp : pickN (nums sv fl t).af g with
  | none =>
    rw [if_pos]
    cases hm : mostL t xs sv g with
    | nil => rfl
    | cons n r =>
      obtain ⟨m, e, _⟩ := le n (by rw [hm]; exact List.mem_cons_self)
      rw [hp] at e
      cases e
  | some N =>
    obtain ⟨x, hv, e1, e2⟩ := run_had ht hp
    have hN : N ∈ mostL t xs sv g := (mem N).mpr ⟨x, h2 x hv, e1, e2⟩
    have ne : mostL t xs sv g ≠ [] := fun z => by rw [z] at hN; cases hN
    rw [if_neg ne]
    obtain ⟨m, e, l⟩ := le _ (maxN_mem ne)
    rw [hp] at e
    cases e
    have := le_maxN hN
    congr 1
    omega
theorem max_top (n : NT) : ∀ j : Int, (n.f = none → j = -1) → (∀ x, n.f = some x → j = (x : Int)) → (if j > (n.a : Int) then j else (n.a : Int)) = (top n : Int) := fun j h1 h2 => by
  rcases top_cases n with ⟨hf, ht⟩ | ⟨x, hf, hz⟩
  · rw [h1 hf, ht, if_neg (by omega)]
  · rw [h2 x hf]
    rcases hz with ⟨l, ht⟩ | ⟨l, ht⟩
    · rw [ht, if_neg (by omega)]
    · rw [ht, if_pos (by omega)]
theorem shape_two (a : Int) (o : Option Nat) : SeqAt.shaped (.tuple [.int a, optI o]) = true := by cases o <;> rfl
theorem eqv_two (a : Int) (o : Option Nat) : PyData.eqv (.tuple [.int a, optI o]) (.tuple [.int a, optI o]) = true := by
  cases o <;> simp [PyData.eqv, optI, PyData.eqvAll]
theorem sv_mem {y : V} (h : y ∈ ([.non, .int 0, .int 1, .int 2, .int 3] : List V)) : ∃ sv, y = svV sv ∧ SvOk sv := by
  simp only [List.mem_cons, List.not_mem_nil, or_false] at h
  rcases h with e | e | e | e | e
  · exact ⟨none, e, fun s z => (by cases z)⟩
  · exact ⟨some 0, e, fun s z => by injection z; omega⟩
  · exact ⟨some 1, e, fun s z => by injection z; omega⟩
  · exact ⟨some 2, e, fun s z => by injection z; omega⟩
  · exact ⟨some 3, e, fun s z => by injection z; omega⟩
theorem two_test {K : PySem.W.Frag} {σ : L2.St} {H : Hp} {na : Addr} {a : Int} {o : Option Nat} {z : V} {Q : Bool → Hp → Prop} (h9 : σ[9]? = some (some (.ref na))) (h5 : σ[5]? = some (some (.int a))) (h6 : σ[6]? = some (some (optV o))) (hn : SqT K H na [.int a, optV o, z])
    (q : ∀ H', Ex H H' → Q false H') : (tTest (tOp (rNeD K) (tSl (rSlA K) (tVar 9) tNoPart (tPart (tC (.int 2)))) (tTup (tCons (tVar 5) (tCons (tVar 6) tNil))))) σ H Q := by
  refine ⟨_, h9, _, rfl, na, _, rfl, hn, fun z => absurd (show HT.sIx 3 3 (some 2) = 3 from z.2) (by decide), fun _ p np => ?_⟩
  have eP := ex_new (o := .tup [.int a, optV o]) np
  refine ⟨_, h5, _, h6, (by show 2 ≤ sizeLine; decide), fun p2 np2 => ?_⟩
  have eP2 := ex_new (o := .tup [.int a, optV o]) np2
  refine ⟨.tuple [.int a, optI o], .tuple [.int a, optI o], .tup (ex_t eP2 (SqT.of upd_same)) (.cons (.int _) (.cons (opt_dp _) .nil)), .tup (SqT.of upd_same) (.cons (.int _) (.cons (opt_dp _) .nil)), shape_two a o, shape_two a o, _, rfl, ?_⟩
  rw [eqv_two]
  exact q _ (eP.trans eP2)
section
variable {P : Program} {w : World} {K : PySem.W.Frag} {mg : Str → Option Value} {base : Heap}
theorem fail_all {H : Hp} {a : Addr} (h : SqT K H a [.int 0, .int 1, .int 2, .int 3]) : FailV K H (.ref a) [0, 1, 2, 3] :=
  ⟨at_ints h, ⟨by decide, by decide, by decide⟩, by decide, by decide⟩
theorem fail_nil {H : Hp} {a : Addr} (h : SqT K H a []) : FailV K H (.ref a) [] := ⟨at_ints h, ⟨.nil, fun _ z => (by cases z), by decide⟩, fun _ z => (by cases z), by decide⟩
/-! ### _law_right -/
abbrev sRight : Stmt := topS 57
abbrev pRight : List Str := ["_law_tree_here", "_law_failing", "_law_every_here"]
abbrev nRight : List Str := ["_law_tree_here", "_law_failing", "_law_every_here", "_law_runs", "_law_service", "_law_good", "_law_bad", "_law_most_here", "_law_fails", "_law_found", "_law_asks"]
theorem scRight : FnScope nRight pRight (C8.fnScope sRight) := C8.fnScope_by (by decide +kernel)
def spRight (K : PySem.W.Frag) : Sp := fun vs H Q _ => ∃ (v v2 v3 : V) (t : Tr) (fl : List Int) (R : List (List Int × List Int)), vs = [v, v2, v3] ∧ TreeV K H v t ∧ FailV K H v2 fl ∧ LsD K (R.map encP) v3 H ∧ R.length ≤ 5000 ∧
  (∀ p ∈ R, Valid fl t p.2) ∧ (∀ x, Valid fl t x → ∃ p ∈ R, p.2 = x) ∧ Ret H Q fun r _ => r = .bl true
theorem ok_right (D : Dd K mg "_law_right" sRight pRight) (B : Bn mg) (cR : C8.Cal P w K mg base 11 "ran" (spRan K) []) (cM : C8.Cal P w K mg base 2 "_law_most" (spMost K) []) (cO : C8.Cal P w K mg base 10 "only" (spOnly K) [])
    (cN : C8.Cal P w K mg base 9 "numbers" (spNumbers K) []) (cS : C8.Cal P w K mg base 12 "shows_only" (spShows K) []) : C8.Cal P w K mg base 13 "_law_right" (spRight K) [] := by
  refine dd_cal D scRight (fun vs H Q E h => ?_) (fun f cdv A outer s H vs Q E hr h => ?_)
  · obtain ⟨v, v2, v3, t, fl, R, rfl, _⟩ := h
    rfl
  obtain ⟨v, v2, v3, t, fl, R, rfl, hv, h2, ⟨L, ls, rfl, hL, hls⟩, hRl, hR1, hR2, q⟩ := h
  have nd := scRight.nd
  have hll : ls.length = R.length := by rw [dpa_len hls, List.length_map]
  refine ⟨_, pss_cons (ps_setLc (i := 3) (own := [("_law_asks", 10), ("_law_fails", 8)]) (tt := tYes) rfl nd rfl rfl (sw_true rfl rfl rfl (by decide +kernel)) (pi_list (pv 2))
        (blkOk_by (own := [("_law_asks", 10), ("_law_fails", 8)]) (N := nRight) (sc := C8.fnScope sRight) (by decide +kernel))
        (fun _ _ _ _ _ => pg_tupK K (n := 2) rfl (pgs_cons (pg_name (i := 10) nd rfl (Or.inl rfl)) (pgs_cons (pg_name (i := 8) nd rfl (Or.inl rfl)) pgs_nil)))
        (fun _ _ _ _ _ => pts_nil) (fun _ _ _ _ _ => C8.pe_c cR hr (by omega) rfl (pa_cons (pv 0) (pa_cons (pe_tup (pa_cons pe_non (pa_cons pe_bl pa_nil))) (pa_cons (pv 8) pa_nil)))))
    (pss_cons (ps_for PassesOwn.never rfl (pi_tup (pe_tup (pa_cons pe_non (pa_cons pe_int (pa_cons pe_int (pa_cons pe_int (pa_cons pe_int pa_nil))))))) (pg_name (i := 4) nd rfl (.inl rfl))
      (pss_cons (ps_par (i := 5) (j := 6) rfl nd rfl rfl (by decide) rfl rfl (pa_cons (C8.pe_c cM hr (by omega) rfl (pa_cons (pv 3) (pa_cons (pv 4) (pa_cons pe_bl pa_nil)))) (pa_cons (C8.pe_c cM hr (by omega) rfl (pa_cons (pv 3) (pa_cons (pv 4) (pa_cons pe_bl pa_nil)))) pa_nil)) (by rfl))
      (pss_cons (ps_asg (C8.pe_c cO hr (by omega) rfl (pa_cons (pv 0) (pa_cons (pv 1) (pa_cons (pv 4) pa_nil)))) (pg_tup (by rfl) (pgs_cons (pg_name (i := 7) nd rfl (.inl rfl)) (pgs_cons (pg_name (i := 8) nd rfl (.inl rfl)) pgs_nil))))
      (pss_cons (ps_set (i := 9) nd rfl (.inl rfl) (C8.pe_c cN hr (by omega) rfl (pa_cons (pv 0) (pa_cons (pv 1) (pa_cons (pv 4) pa_nil)))))
      (Evl.pss_cut (ps_if (PW.pt (pw_or (pt_cmpR op_ne (pv 7) (pe_callB (call_max2 rfl) (by rfl) B.max bB_max (pa_cons (pv 5) (pa_cons (pe_ifExp (pt_cmpR op_isN (pv 6) pe_non (nomark _)) (pe_un un_neg pe_int) (pv 6)) pa_nil))) (nomark _))
          (pw_or1 (pt_cmpR (op_neD hr.units) (pe_slice sl_tupA (pv 9) po_none (po_some pe_int)) (pe_tup (pa_cons (pv 5) (pa_cons (pv 6) pa_nil))) (nomark _))))) (pss_one (ps_ret pe_bl)) pss_nil)
      (pss_cons (ps_if (pt_cmpR op_notBl (C8.pe_c cS hr (by omega) rfl (pa_cons (pv 0) (pa_cons (pv 1) (pa_cons (pv 4) (pa_cons (pe_tup (pa_cons (pv 7) (pa_cons (pv 8) (pa_cons (pv 9) pa_nil)))) pa_nil))))) pe_bl (nomark _)) (pss_one (ps_ret pe_bl)) pss_nil)
      (pss_cons (ps_if (pt_cmpR op_notBl (C8.pe_c cS hr (by omega) rfl (pa_cons (pv 0) (pa_cons (pv 1) (pa_cons (pv 4) (pa_cons (pe_tup (pa_cons (pe_op op_sub (pv 7) pe_int) (pa_cons (pe_tup pa_nil) (pa_cons (pv 9) pa_nil)))) pa_nil))))) pe_bl (nomark _)) (pss_one (ps_ret pe_bl)) pss_nil)
      (pss_one (ps_if (PW.pt (pw_or (pt_cmpR op_lt (pe_ix ix_tup (C8.pe_c cO hr (by omega) rfl (pa_cons (pv 0) (pa_cons (pe_tup (pa_cons pe_int (pa_cons pe_int (pa_cons pe_int (pa_cons pe_int pa_nil))))) (pa_cons (pv 4) pa_nil)))) pe_int (fun _ _ => rfl)) (pv 7) (nomark _))
          (pw_or1 (pt_cmpR op_gt (pe_ix ix_tup (C8.pe_c cO hr (by omega) rfl (pa_cons (pv 0) (pa_cons (pe_tup pa_nil) (pa_cons (pv 4) pa_nil)))) pe_int (fun _ _ => rfl)) (pv 7) (nomark _))))) (pss_one (ps_ret pe_bl)) pss_nil)))))))))
    (pss_one (ps_ret pe_bl))), ?_⟩
  -- the runs
  refine ⟨_, rfl, L, rfl, ⟨_, SqL.of hL⟩, fun D nD => ?_⟩
  refine lc_list (xs := ls) (fun i H' => Ex H H' ∧ ∃ acc, H' D = some (.lst acc) ∧ acc.length ≤ i ∧ DpAll K H' acc (((R.map (·.2)).take i).map (encRun t))) ⟨ex_new nD, [], upd_same, Nat.le_refl _, .nil⟩ (fun i H' _ p => SqL.of (p.1 _ _ hL)) (fun i y H' hi p => ?_) (fun H1 p => ?_)
  · obtain ⟨e, acc, hD, hal, hacc⟩ := p
    have hlt := (List.getElem?_eq_some_iff.mp hi).1
    obtain ⟨dd, hdd, hdy⟩ := dpa_get hls hi
    rw [List.getElem?_map] at hdd
    cases ex : R[i]? with
    | none => rw [ex] at hdd; cases hdd
    | some p0 =>
      rw [ex] at hdd
      simp only [Option.map_some, Option.some.injEq] at hdd
      subst hdd
      have exx : (R.map (·.2))[i]? = some p0.2 := by rw [List.getElem?_map, ex]; rfl
      have hval := hR1 p0 (List.mem_of_getElem? ex)
      obtain ⟨ra, r1, r2, rfl, s1, d1, d2⟩ := dp2_at (dp_ex e (show Dp K H y (.tuple [encI p0.1, encI p0.2]) from hdy))
      refine ⟨ra, _, rfl, s1, rfl, _, _, rfl, _, _, rfl, rfl, rfl, yes ?_⟩
      refine ⟨_, rfl, (by show 2 ≤ sizeLine; decide), fun pp npp => ?_⟩
      have eP := ex_new (o := .tup [.non, .bl false]) npp
      have hx3 : p0.2.length ≤ 10000 := Nat.le_trans (valid_len hv.2.1 hval) (by decide)
      refine ⟨_, rfl, v, pp, r2, t, p0.2, rfl, ⟨dp_ex (e.trans eP) hv.1, hv.2⟩, SqT.of upd_same, dp_ex eP d2, valid_setL hval hx3, fun r H2 e2 hr2 => ?_⟩
      have hD2 := e2 _ _ (eP _ _ hD)
      have tx : Tx H2 (upd H2 D (.lst (acc ++ [r]))) := Tx.lst hD2
      refine ⟨acc, hD2, szl (by omega), ((e.trans eP).trans e2).mut nD, acc ++ [r], upd_same, by rw [List.length_append, List.length_singleton]; omega, ?_⟩
      rw [take_snoc exx, List.map_append]
      exact dpa_append (dpa_tx tx (noLs_run t _) (dpa_ex (eP.trans e2) hacc)) (.cons (dp_tx tx (noL_run t p0.2) hr2) .nil)
  obtain ⟨e1, acc, hD, hal, hacc⟩ := p
  rw [List.take_of_length_le (by rw [List.length_map]; omega)] at hacc
  -- the services, one by one
  refine ⟨(by show 5 ≤ sizeLine; decide), fun S nS => ?_⟩
  have eS := ex_new (o := .tup [.non, .int 0, .int 1, .int 2, .int 3]) nS
  have hS : SqT K (upd H1 S (.tup [.non, .int 0, .int 1, .int 2, .int 3])) S [.non, .int 0, .int 1, .int 2, .int 3] := SqT.of upd_same
  have hD2 := eS _ _ hD
  have hacc2 := dpa_ex eS hacc
  have e2 := e1.trans eS
  generalize upd H1 S (.tup [.non, .int 0, .int 1, .int 2, .int 3]) = H2 at *
  have hRx1 : ∀ x ∈ R.map (·.2), Valid fl t x := fun x hx => by
    obtain ⟨p, hp, rfl⟩ := List.mem_map.mp hx
    exact hR1 p hp
  have hRx2 : ∀ x, Valid fl t x → x ∈ R.map (·.2) := fun x hx => by
    obtain ⟨p, hp, rfl⟩ := hR2 x hx
    exact List.mem_map.mpr ⟨p, hp, rfl⟩
  have hRl2 : (R.map (·.2)).length ≤ 5000 := by rw [List.length_map]; exact hRl
  refine ⟨S, rfl, ⟨_, hS⟩, ?_⟩
  refine for_tup (K := K) (a := S) (xs := [.non, .int 0, .int 1, .int 2, .int 3]) (fun i σ' H' => Ex H2 H' ∧ ∃ o4 o5 o6 o7 o8 o9 : Option V, σ' = [some v, some v2, some (.ref L), some (.ref D), o4, o5, o6, o7, o8, o9, none]) ⟨Ex.refl _, none, none, none, none, none, none, rfl⟩ (fun i σ' H' _ p => ex_t p.1 hS) ?_ ?_
  · rintro i y σ' H3 hi ⟨e3, o4, o5, o6, o7, o8, o9, rfl⟩
    obtain ⟨sv, rfl, hsv⟩ := sv_mem (List.mem_of_getElem? hi)
    have e03 := e2.trans e3
    -- good, bad
    refine ⟨_, rfl, _, rfl, .ref D, t, R.map (·.2), sv, true, rfl, ⟨D, acc, rfl, e3 _ _ hD2, dpa_ex e3 hacc2⟩, hv.2.1, hRl2, fun rg H4 e4 eg => ?_⟩
    refine ⟨_, rfl, _, rfl, .ref D, t, R.map (·.2), sv, false, rfl, ⟨D, acc, rfl, (e3.trans e4) _ _ hD2, dpa_ex (e3.trans e4) hacc2⟩, hv.2.1, hRl2, fun rb H5 e5 eb => ?_⟩
    rw [most_pick hv.2.1 hRx1 hRx2] at eg eb
    have eg2 : rg = .int ((nums sv fl t).a : Int) := eg
    have eb2 : rb = optV (nums sv fl t).f := eb
    subst eg2 eb2
    refine ⟨_, _, rfl, ?_⟩
    have e05 := (e03.trans e4).trans e5
    -- only
    refine ⟨_, rfl, _, rfl, _, rfl, v, v2, t, fl, sv, rfl, ⟨dp_ex e05 hv.1, hv.2⟩, ⟨dp_ex e05 h2.1, h2.2⟩, hsv, fun ro H6 e6 hro => ?_⟩
    obtain ⟨x, hdx, hvx, hcx, hxl⟩ := hro
    obtain ⟨ta, t1, t2, rfl, s1, d1, d2⟩ := dp2_at hdx
    have ed := dp_int d1
    subst ed
    refine ⟨ta, _, rfl, s1, rfl, _, _, rfl, _, _, rfl, rfl, ?_⟩
    have e06 := e05.trans e6
    -- numbers
    refine ⟨_, rfl, _, rfl, _, rfl, v, v2, t, fl, sv, rfl, ⟨dp_ex e06 hv.1, hv.2⟩, ⟨dp_ex e06 h2.1, h2.2⟩, hsv, fun rn H7 e7 hn => ?_⟩
    obtain ⟨na, nb, nys, rfl, m1, m2, m3⟩ := nt_at hn
    have e07 := e06.trans e7
    refine ⟨fun σ' H8 => Ex H7 H8 ∧ σ' = [some v, some v2, some (.ref L), some (.ref D), some (svV sv), some (.int ((nums sv fl t).a : Int)), some (optV (nums sv fl t).f), some (.int (top (nums sv fl t) : Int)), some t2, some (.ref na), none], ?_, ?_⟩
    · refine ⟨_, rfl, _, rfl, _, rfl, rfl, _, rfl, ?_⟩
      have mt := max_top (nums sv fl t)
      cases hf : (nums sv fl t).f with
      | none =>
        rw [hf] at m1
        refine iteT ⟨_, rfl, _, _, rfl, rfl, _, rfl, ?_⟩
        have e0 := mt (-1) (fun _ => rfl) (fun x z => by rw [hf] at z; cases z)
        refine ite2 (fun hc => ?_) (fun _ => ?_)
        · exfalso
          have hc2 : (!decide (V.int (top (nums sv fl t) : Int) = V.int (if (-1 : Int) > ((nums sv fl t).a : Int) then (-1 : Int) else ((nums sv fl t).a : Int)))) = true := hc
          rw [e0] at hc2
          simp at hc2
        · exact two_test (K := K) (o := none) rfl rfl rfl m1 fun H8 e8 => iteF ⟨e8, rfl⟩
      | some u =>
        rw [hf] at m1
        refine iteF ⟨_, rfl, _, _, rfl, rfl, _, rfl, ?_⟩
        have e0 := mt (u : Int) (fun z => by rw [hf] at z; cases z) (fun x z => by rw [hf] at z; injection z with z; rw [z])
        refine ite2 (fun hc => ?_) (fun _ => ?_)
        · exfalso
          have hc2 : (!decide (V.int (top (nums sv fl t) : Int) = V.int (if (u : Int) > ((nums sv fl t).a : Int) then (u : Int) else ((nums sv fl t).a : Int)))) = true := hc
          rw [e0] at hc2
          simp at hc2
        · exact two_test (K := K) (o := some u) rfl rfl rfl m1 fun H8 e8 => iteF ⟨e8, rfl⟩
    rintro σ' H8 ⟨e8, rfl⟩
    have e08 := e07.trans e8
    have hd2 := dp_ex (e7.trans e8) d2
    have hn8 := dp_ex e8 hn
    -- shows
    refine ⟨_, rfl, _, rfl, _, rfl, _, rfl, _, rfl, _, rfl, (by show 3 ≤ sizeLine; decide), fun u nu => ?_⟩
    have eU := ex_new (o := .tup [.int (top (nums sv fl t) : Int), t2, .ref na]) nu
    have e8u := e08.trans eU
    refine ⟨v, v2, .ref u, t, fl, x, sv, (top (nums sv fl t) : Int), true, rfl, ⟨dp_ex e8u hv.1, hv.2⟩, ⟨dp_ex e8u h2.1, h2.2⟩, hsv, .tup (SqT.of upd_same) (.cons (.int _) (.cons (dp_ex eU hd2) (.cons (dp_ex eU hn8) .nil))), valid_setL hvx (Nat.le_trans hxl (by decide)), .inl ⟨rfl, rfl, fine_valid hvx, hcx⟩, fun r H9 e9 er => ?_⟩
    subst er
    refine ⟨true, true, rfl, rfl, _, rfl, iteF ?_⟩
    have e09 := e8u.trans e9
    have hn9 := dp_ex (eU.trans e9) hn8
    -- shows, of one less
    refine ⟨_, rfl, _, rfl, _, rfl, _, rfl, _, _, rfl, rfl, Nat.zero_le _, fun pe npe => ?_⟩
    have eE := ex_new (o := .tup []) npe
    refine ⟨_, rfl, (by show 3 ≤ sizeLine; decide), fun u2 nu2 => ?_⟩
    have eU2 := ex_new (o := .tup [.int ((top (nums sv fl t) : Int) - 1), .ref pe, .ref na]) nu2
    have e9u := (e09.trans eE).trans eU2
    refine ⟨v, v2, .ref u2, t, fl, [], sv, (top (nums sv fl t) : Int) - 1, false, rfl, ⟨dp_ex e9u hv.1, hv.2⟩, ⟨dp_ex e9u h2.1, h2.2⟩, hsv, .tup (SqT.of upd_same) (.cons (.int _) (.cons (at_ints (ns := []) (ex_t eU2 (SqT.of upd_same))) (.cons (dp_ex (eE.trans eU2) hn9) .nil))), ⟨.nil, fun _ z => (by cases z), by decide⟩, .inr ⟨rfl, by omega⟩, fun r H10 e10 er => ?_⟩
    subst er
    refine ⟨false, false, rfl, rfl, _, rfl, iteF ?_⟩
    have e010 := e9u.trans e10
    -- only, of all services and of none
    refine ⟨_, rfl, (by show 4 ≤ sizeLine; decide), fun pa npa => ?_⟩
    have eA := ex_new (o := .tup [.int 0, .int 1, .int 2, .int 3]) npa
    have e0a := e010.trans eA
    refine ⟨_, rfl, v, .ref pa, t, [0, 1, 2, 3], sv, rfl, ⟨dp_ex e0a hv.1, hv.2⟩, fail_all (SqT.of upd_same), hsv, fun ra H11 e11 hra => ?_⟩
    obtain ⟨xa, hda, hva, hca, hal2⟩ := hra
    obtain ⟨qa, q1, q2, rfl, sa, da1, da2⟩ := dp2_at hda
    have eda := dp_int da1
    subst eda
    have e011 := e0a.trans e11
    have hge : top (nums sv fl t) ≤ top (nums sv [0, 1, 2, 3] t) := top_mono hv.2.1 fun a ha => by
      have h0 := h2.2.1.2.1 a ha
      have h3 := h2.2.2.1 a ha
      have : a = 0 ∨ a = 1 ∨ a = 2 ∨ a = 3 := by omega
      rcases this with rfl | rfl | rfl | rfl <;> simp
    refine ⟨qa, _, 0, _, rfl, rfl, sa, rfl, _, rfl, _, _, rfl, rfl, _, rfl, ?_⟩
    rw [decide_eq_false (by omega)]
    refine iteF ?_
    refine ⟨_, rfl, Nat.zero_le _, fun pb npb => ?_⟩
    have eB := ex_new (o := .tup []) npb
    have e0b := e011.trans eB
    refine ⟨_, rfl, v, .ref pb, t, [], sv, rfl, ⟨dp_ex e0b hv.1, hv.2⟩, fail_nil (SqT.of upd_same), hsv, fun rc H12 e12 hrc => ?_⟩
    obtain ⟨xc, hdc, hvc, hcc, hcl⟩ := hrc
    obtain ⟨qc, c1, c2, rfl, sc, dc1, dc2⟩ := dp2_at hdc
    have edc := dp_int dc1
    subst edc
    have e012 := e0b.trans e12
    have hle : top (nums sv [] t) ≤ top (nums sv fl t) := top_mono hv.2.1 fun a ha => by cases ha
    refine ⟨qc, _, 0, _, rfl, rfl, sc, rfl, _, rfl, _, _, rfl, rfl, _, rfl, ?_⟩
    rw [decide_eq_false (by omega)]
    refine iteF ?_
    exact ⟨((((((((((((((e3.trans e4).trans e5).trans e6).trans e7).trans e8).trans eU).trans e9).trans eE).trans eU2).trans e10).trans eA).trans e11).trans eB).trans e12), _, _, _, _, _, _, rfl⟩
  · rintro σ' H3 ⟨e3, o4, o5, o6, o7, o8, o9, rfl⟩
    exact q _ _ (e2.trans e3) rfl
end
end CB

namespace CB
open PySem PySem.Spec PyProof.Rows L2 Evl
theorem cc_fix (n : Nat) (any : Bool) : cc (fixT n any) ≤ 12 := by
  unfold fixT leafT
  simp only [cc, ccs]
  omega
section
variable {P : Program} {w : World} {K : PySem.W.Frag} {mg : Str → Option Value} {base : Heap}
theorem pen_hid {H0 H : Hp} {l : Addr} {k : Nat} (e : Ex H0 H) (hp : PenAt H l k) : H0 l = none → Ex H0 (hid [l] H) := fun nl => ex_hid e fun a ha => by rw [List.mem_singleton.mp ha]; exact nl
theorem pen_tx {H : Hp} {l : Addr} {k : Nat} (hp : PenAt H l k) : Tx H (hid [l] H) := tx_hid fun a ha => by rw [List.mem_singleton.mp ha]; exact hp.lst
theorem pen_ne {H : Hp} {l r : Addr} {k : Nat} (hp : PenAt H l k) (nr : H r = none) : l ≠ r := fun z => by
  subst z
  obtain ⟨_, _, _, h, _⟩ := hp
  rw [h] at nr
  cases nr
/-! ### law -/
abbrev sLaw : Stmt := topS 58
abbrev nLaw : List Str := ["_law_script", "_law_k", "_law_pen_here", "_law_lap", "_law_tree_here", "_law_failing", "_law_every_here", "_law_leaf"]
theorem scLaw : FnScope nLaw ["_law_script"] (C8.fnScope sLaw) := C8.fnScope_by (by decide +kernel)
def spLaw (K : PySem.W.Frag) : Sp := fun vs H Q _ => ∃ (a : Addr) (ns : List Int), vs = [.ref a] ∧ SqL K H a (ns.map V.int) ∧ ns.length ≤ 63 ∧ ∀ H', Q (.bl true) H'
theorem ok_law {fa : Addr} {fd : FuncData} (D : C8.Fun K "law" "law" sLaw fa fd) (B : Bn mg) (cC : C8.Cal P w K mg base 1 "_law_cell_at" (spCellAt K) []) (cP : C8.Cal P w K mg base 1 "_law_pen" spPen []) (cD : C8.Cal P w K mg base 1 "_law_draw" spDraw []) (cK : C8.Cal P w K mg base 2 "_law_pick" spPick [])
    (cT : C8.Cal P w K mg base 6 "_law_tree" (spLTree K) []) (cS : C8.Cal P w K mg base 2 "_law_set" (spLSet K) []) (cE : C8.Cal P w K mg base 9 "_law_every" (spEvery K) []) (cR : C8.Cal P w K mg base 13 "_law_right" (spRight K) []) : FnOk P w K mg base CX0 14 fa fd ["_law_script"] (spLaw K) := by
  refine C8.fn0 D scLaw (fun vs H Q E h => ?_) (fun cdv A outer s H vs Q E hr h => ?_)
  · obtain ⟨a, ns, rfl, _⟩ := h
    rfl
  obtain ⟨a, ns, rfl, hS, h63, q⟩ := h
  have nd := scLaw.nd
  refine ⟨_, pss_cons (ps_for PassesOwn.never rfl (pi_range1 (by rfl) B.range (pa_cons (pe_callB (call_max2 rfl) (by rfl) B.max bB_max (pa_cons pe_int (pa_cons (pe_callB (call_min2 rfl) (by rfl) B.min bB_min (pa_cons (pe_callB call_len_seq (by rfl) B.len PySem.boot_len (pa_cons (pv 0) pa_nil)) (pa_cons pe_int pa_nil))) pa_nil))) pa_nil)) (pg_name (i := 1) nd rfl (.inl rfl))
      (pss_cons (ps_set (i := 2) nd rfl (.inl rfl) (C8.pe_c cP hr (by omega) rfl (pa_cons (C8.pe_c cC hr (by omega) rfl (pa_cons (pv 0) (pa_cons (pv 1) pa_nil))) pa_nil)))
      (Evl.pss_cut (ps_for PassesOwn.never rfl (pi_range1 (by rfl) B.range (pa_cons pe_int pa_nil)) (pg_name (i := 3) nd rfl (.inl rfl))
        (pss_cons (ps_par (i := 4) (j := 5) rfl nd rfl rfl (by decide) rfl rfl (pa_cons (C8.pe_c cT hr (by omega) rfl (pa_cons (pv 2) (pa_cons (pe_op op_add pe_int (C8.pe_c cD hr (by omega) rfl (pa_cons (pv 2) (pa_cons pe_int pa_nil)))) (pa_cons (pe_op op_add pe_int (C8.pe_c cD hr (by omega) rfl (pa_cons (pv 2) (pa_cons pe_int pa_nil)))) pa_nil))))
            (pa_cons (C8.pe_c cS hr (by omega) rfl (pa_cons (pv 2) pa_nil)) pa_nil)) (by rfl))
        (pss_cons (ps_set (i := 6) nd rfl (.inl rfl) (C8.pe_c cE hr (by omega) rfl (pa_cons (pv 4) (pa_cons (pe_tup (pa_cons pe_non (pa_cons pe_bl pa_nil))) (pa_cons (pv 5) (pa_cons pe_bl (pa_cons pe_int pa_nil)))))))
        (pss_one (ps_if (PW.pt (pw_and (pt_cmpR op_notN (pv 6) pe_non (nomark _)) (pw_and1 (pt_not (pt_val (C8.pe_c cR hr (by omega) rfl (pa_cons (pv 4) (pa_cons (pv 5) (pa_cons (pv 6) pa_nil))))))))) (pss_one (ps_ret pe_bl)) pss_nil)))))
      (pss_cons (ps_set (i := 7) nd rfl (.inl rfl) (pe_tup (pa_cons pe_int (pa_cons (pe_op op_add pe_int (C8.pe_c cD hr (by omega) rfl (pa_cons (pv 2) (pa_cons pe_int pa_nil)))) (pa_cons pe_str (pa_cons (pe_tup pa_nil) pa_nil))))))
      (pss_cons (ps_set (i := 4) nd rfl (.inl rfl) (pe_tup (pa_cons pe_int (pa_cons pe_int (pa_cons (C8.pe_c cK hr (by omega) rfl (pa_cons (pv 2) (pa_cons (pe_lst (pa_cons pe_str (pa_cons pe_str pa_nil))) pa_nil)))
          (pa_cons (pe_tup (pa_cons (pv 7) (pa_cons (pe_tup (pa_cons pe_int (pa_cons pe_int (pa_cons pe_str (pa_cons (pe_tup (pa_cons (pv 7) pa_nil)) pa_nil))))) pa_nil))) pa_nil))))))
      (pss_cons (ps_set (i := 6) nd rfl (.inl rfl) (C8.pe_c cE hr (by omega) rfl (pa_cons (pv 4) (pa_cons (pe_tup (pa_cons pe_non (pa_cons pe_bl pa_nil))) (pa_cons (pe_tup (pa_cons pe_int pa_nil)) (pa_cons pe_bl (pa_cons pe_int pa_nil)))))))
      (pss_one (ps_if (pt_not (pt_val (C8.pe_c cR hr (by omega) rfl (pa_cons (pv 4) (pa_cons (pe_tup (pa_cons pe_int pa_nil)) (pa_cons (pv 6) pa_nil)))))) (pss_one (ps_ret pe_bl)) pss_nil))))))))
    (pss_one (ps_ret pe_bl)), ?_⟩
  refine ⟨_, rfl, a, _, rfl, .inl hS, _, _, rfl, _, _, rfl, ?_⟩
  refine ⟨_, rfl, ?_, ?_, ?_⟩
  · split <;> omega
  · split <;> (try split) <;> omega
  generalize hn : (if (if (3 : Int) < (((ns.map V.int).length : Nat) : Int) then (3 : Int) else (((ns.map V.int).length : Nat) : Int)) > 1 then (if (3 : Int) < (((ns.map V.int).length : Nat) : Int) then (3 : Int) else (((ns.map V.int).length : Nat) : Int)) else (1 : Int)) = n
  refine for_range (lo := 0) (n := n.toNat) (fun i σ' H' => Ex H H' ∧ ∃ o1 o2 o3 o4 o5 o6 o7 : Option V, σ' = [some (.ref a), o1, o2, o3, o4, o5, o6, o7]) ⟨Ex.refl _, none, none, none, none, none, none, none, rfl⟩ ?_ ?_
  · rintro i σ' H1 hi ⟨e1, o1, o2, o3, o4, o5, o6, o7, rfl⟩
    -- the pen
    refine ⟨_, rfl, _, rfl, a, ns, (0 + (i : Int)).toNat, ?_, ?_⟩
    · rw [show (((0 + (i : Int)).toNat : Nat) : Int) = 0 + (i : Int) by omega]
      rfl
    refine ⟨ex_l e1 hS, fun c => ?_⟩
    refine ⟨c, rfl, fun l H2 nl e2 hp2 => ?_⟩
    -- the laps
    refine ⟨fun σ' H' => ∃ o3 o4 o5 o6 : Option V, σ' = [some (.ref a), some (.int (0 + (i : Int))), some (.ref l), o3, o4, o5, o6, o7] ∧ Ex H1 H' ∧ PenAt H' l 500, ?_, ?_⟩
    · refine ⟨(8 : Int), rfl, by decide, by decide, ?_⟩
      refine for_range (lo := 0) (n := (8 : Int).toNat) (fun j σ' H' => ∃ o3 o4 o5 o6 : Option V, σ' = [some (.ref a), some (.int (0 + (i : Int))), some (.ref l), o3, o4, o5, o6, o7] ∧ Ex H1 H' ∧ PenAt H' l (j * 58)) ⟨o3, o4, o5, o6, rfl, e2, hp2⟩ ?_ ?_
      · rintro j σ' H3 hj ⟨o3, o4, o5, o6, rfl, e3, hp3⟩
        have hj8 : j < 8 := hj
        refine ⟨_, rfl, ?_⟩
        refine ⟨_, rfl, hid [l] H3, l, j * 58, 3, rfl, hid_ex _ _, hid_none (by simp), hp3, by omega, by decide, by decide, fun d1 H4 d10 d13 e4 hp4 => ?_⟩
        refine ⟨_, _, rfl, rfl, ?_⟩
        refine ⟨_, rfl, hid [l] H3, l, j * 58 + 1, 5, rfl, e4, hid_none (by simp), hp4, by omega, by decide, by decide, fun d2 H5 d20 d25 e5 hp5 => ?_⟩
        refine ⟨_, _, rfl, rfl, ?_⟩
        refine ⟨hid [l] H3, l, j * 58 + 2, (1 + d1).toNat, 1 + d2, ?_, by omega, by omega, e5, hid_none (by simp), hp5, by omega, by omega, by omega, fun v t H6 e6 hp6 ht6 => ?_⟩
        · rw [show (((1 + d1).toNat : Nat) : Int) = 1 + d1 by omega]
          rfl
        refine ⟨_, rfl, hid [l] H6, l, j * 58 + 54, rfl, hid_ex _ _, hid_none (by simp), hp6, by omega, fun v2 fl H7 e7 hp7 hf7 => ?_⟩
        have hv7 : Dp K H7 v (encT t) := dp_ex e7 (dp_tx (pen_tx hp6) (noL_tr t) ht6.1)
        have e17 : Ex H1 H7 := (pen_hid ((pen_hid e3 hp3 nl).trans e6) hp6 nl).trans e7
        refine ⟨_, _, rfl, ?_⟩
        -- all the runs
        refine ⟨_, rfl, (by show 2 ≤ sizeLine; decide), fun pp npp => ?_⟩
        have eP := ex_new (o := .tup [.non, .bl false]) npp
        refine ⟨_, rfl, v, pp, v2, t, fl, 400, rfl, dp_ex eP hv7, ht6.2.1, SqT.of upd_same, ⟨dp_ex eP hf7.1, hf7.2⟩, by decide, fun re H8 e8 hre => ?_⟩
        have e18 := (e17.trans eP).trans e8
        have hp8 := (hp7.ex eP).ex e8
        refine ⟨_, rfl, rfl, _, rfl, ?_⟩
        rcases hre with ⟨_, rfl⟩ | ⟨R, hR, hRl, hLs⟩
        · exact iteF (iteF ⟨_, _, _, _, rfl, e18, hp8.le (by omega)⟩)
        · obtain ⟨Rl, ys, rfl, q1, q2⟩ := hLs
          obtain ⟨k1, k2⟩ := every_ok ht6.2.1 hR
          refine iteT ?_
          refine ⟨_, rfl, _, rfl, _, rfl, v, v2, .ref Rl, t, fl, R, rfl, ⟨dp_ex (eP.trans e8) hv7, ht6.2⟩, ⟨dp_ex (eP.trans e8) hf7.1, hf7.2⟩, ⟨Rl, ys, rfl, q1, q2⟩, by omega, k1, k2, fun rr H9 e9 er => ?_⟩
          subst er
          exact ⟨true, rfl, iteF ⟨_, _, _, _, rfl, e18.trans e9, (hp8.ex e9).le (by omega)⟩⟩
      · rintro σ' H3 ⟨o3, o4, o5, o6, rfl, e3, hp3⟩
        exact ⟨_, _, _, _, rfl, e3, hp3.le (by decide)⟩
    rintro σ' H3 ⟨o3, o4, o5, o6, rfl, e3, hp3⟩
    -- the fixed tree
    refine ⟨_, rfl, hid [l] H3, l, 500, 2, rfl, hid_ex _ _, hid_none (by simp), hp3, by decide, by decide, by decide, fun d1 H4 d10 d12 e4 hp4 => ?_⟩
    have e14 := (pen_hid e3 hp3 nl).trans e4
    refine ⟨_, _, rfl, rfl, Nat.zero_le _, fun p0 np0 => ⟨(by show 4 ≤ sizeLine; decide), fun lf nlf => ?_⟩⟩
    have eA := ex_new (o := .tup []) np0
    have eB := ex_new (o := .tup [.int 1, .int (1 + d1), .str "any", .ref p0]) nlf
    have hleaf : Dp K (upd (upd H4 p0 (.tup [])) lf (.tup [.int 1, .int (1 + d1), .str "any", .ref p0])) (.ref lf) (encT (leafT (1 + d1).toNat)) := by
      refine at_tr (any := true) (ps := []) (b := p0) (xs := []) (SqT.of ?_) (ex_t eB (SqT.of upd_same)) .nil
      rw [upd_same, show (((1 + d1).toNat : Nat) : Int) = 1 + d1 by omega]
      rfl
    have e15 := (e14.trans eA).trans eB
    have hp5 := (hp4.ex eA).ex eB
    generalize upd (upd H4 p0 (.tup [])) lf (.tup [.int 1, .int (1 + d1), .str "any", .ref p0]) = H5 at *
    refine ⟨_, rfl, (by show 2 ≤ sizeLine; decide), fun lt nlt => ?_⟩
    have eL := ex_new (o := .lst [V.str "all", V.str "any"]) nlt
    have nll := pen_ne hp5 nlt
    have hp6 := hp5.ex eL
    have hlt6 : (upd H5 lt (.lst [V.str "all", V.str "any"])) lt = some (.lst [V.str "all", V.str "any"]) := upd_same
    have e16 := e15.trans eL
    have hleaf6 := dp_ex eL hleaf
    generalize upd H5 lt (.lst [V.str "all", V.str "any"]) = H6 at *
    refine ⟨hid [l] H6, l, lt, [V.str "all", V.str "any"], 501, rfl, hid_ex _ _, hid_none (by simp), hp6, by decide, hid_get hlt6 (by simpa using nll.symm), by decide, by decide, fun md H7 hmd e7 hp7 => ?_⟩
    obtain ⟨any, rfl⟩ : ∃ any, md = .str (modeS any) := by
      simp only [List.mem_cons, List.not_mem_nil, or_false] at hmd
      rcases hmd with e | e
      · exact ⟨false, e⟩
      · exact ⟨true, e⟩
    have e17 := (pen_hid e16 hp6 nl).trans e7
    have hleaf7 := dp_ex e7 (dp_tx (pen_tx hp6) (noL_tr _) hleaf6)
    -- (leaf,), (2, 1, "all", (leaf,)), (leaf, ..), the tree
    refine ⟨_, rfl, _, rfl, (by show 1 ≤ sizeLine; decide), fun q1 nq1 => ⟨(by show 4 ≤ sizeLine; decide), fun q2 nq2 => ⟨(by show 2 ≤ sizeLine; decide), fun q3 nq3 => ⟨(by show 4 ≤ sizeLine; decide), fun q4 nq4 => ?_⟩⟩⟩⟩
    have f1 := ex_new (o := .tup [.ref lf]) nq1
    have f2 := ex_new (o := .tup [.int 2, .int 1, .str "all", .ref q1]) nq2
    have f3 := ex_new (o := .tup [.ref lf, .ref q2]) nq3
    have f4 := ex_new (o := .tup [.int 0, .int 2, .str (modeS any), .ref q3]) nq4
    have e18 := (((e17.trans f1).trans f2).trans f3).trans f4
    have hp8 := (((hp7.ex f1).ex f2).ex f3).ex f4
    have ht8 : TreeV K (upd (upd (upd (upd H7 q1 (.tup [.ref lf])) q2 (.tup [.int 2, .int 1, .str "all", .ref q1])) q3 (.tup [.ref lf, .ref q2])) q4 (.tup [.int 0, .int 2, .str (modeS any), .ref q3])) (.ref q4) (fixT (1 + d1).toNat any) := by
      refine ⟨?_, fix_ok _ (by omega) (by omega) any, cc_fix _ any⟩
      have g2 : Dp K (upd (upd (upd (upd H7 q1 (.tup [.ref lf])) q2 (.tup [.int 2, .int 1, .str "all", .ref q1])) q3 (.tup [.ref lf, .ref q2])) q4 (.tup [.int 0, .int 2, .str (modeS any), .ref q3])) (.ref q2) (encT (.mk 2 1 false [leafT (1 + d1).toNat])) :=
        at_tr (b := q1) (xs := [.ref lf]) (ex_t (f3.trans f4) (SqT.of upd_same)) (ex_t ((f2.trans f3).trans f4) (SqT.of upd_same)) (.cons (dp_ex (((f1.trans f2).trans f3).trans f4) hleaf7) .nil)
      exact at_tr (b := q3) (xs := [.ref lf, .ref q2]) (SqT.of upd_same) (ex_t f4 (SqT.of upd_same)) (.cons (dp_ex (((f1.trans f2).trans f3).trans f4) hleaf7) (.cons g2 .nil))
    generalize upd (upd (upd (upd H7 q1 (.tup [.ref lf])) q2 (.tup [.int 2, .int 1, .str "all", .ref q1])) q3 (.tup [.ref lf, .ref q2])) q4 (.tup [.int 0, .int 2, .str (modeS any), .ref q3]) = H8 at *
    have hfs := fix_some (1 + d1).toNat (by omega) (by omega) any
    generalize fixT (1 + d1).toNat any = t at *
    have f1n : ∀ {Hx : Hp} {u : Addr}, SqT K Hx u [.int 1] → FailV K Hx (.ref u) [1] := fun h => ⟨at_ints h, ⟨by decide, by decide, by decide⟩, by decide, by decide⟩
    -- all its runs
    refine ⟨_, rfl, (by show 2 ≤ sizeLine; decide), fun pp npp => ⟨(by show 1 ≤ sizeLine; decide), fun pf npf => ?_⟩⟩
    have g1 := ex_new (o := .tup [.non, .bl false]) npp
    have g2 := ex_new (o := .tup [.int 1]) npf
    refine ⟨.ref q4, pp, .ref pf, t, [1], 5000, rfl, dp_ex (g1.trans g2) ht8.1, ht8.2.1, ex_t g2 (SqT.of upd_same), f1n (SqT.of upd_same), by decide, fun re H9 e9 hre => ?_⟩
    have e89 := (g1.trans g2).trans e9
    rcases hre with ⟨z, _⟩ | ⟨R, hR, hRl, hLs⟩
    · rw [z] at hfs
      cases hfs
    obtain ⟨Rl, ys, rfl, q1, q2⟩ := hLs
    obtain ⟨k1, k2⟩ := every_ok ht8.2.1 hR
    refine ⟨_, rfl, (by show 1 ≤ sizeLine; decide), fun pg npg => ?_⟩
    have g3 := ex_new (o := .tup [.int 1]) npg
    refine ⟨_, rfl, .ref q4, .ref pg, .ref Rl, t, [1], R, rfl, ⟨dp_ex (e89.trans g3) ht8.1, ht8.2⟩, f1n (SqT.of upd_same), ⟨Rl, ys, rfl, g3 _ _ q1, dpa_ex g3 q2⟩, hRl, k1, k2, fun rr H10 e10 er => ?_⟩
    subst er
    exact ⟨true, rfl, iteF ⟨e1.trans ((e18.trans (e89.trans g3)).trans e10), _, _, _, _, _, _, _, rfl⟩⟩
  · rintro σ' H1 ⟨e1, o1, o2, o3, o4, o5, o6, o7, rfl⟩
    exact q _
end
end CB

namespace CB
open PySem PySem.Spec PyProof.Rows L2 Evl
section
variable {K : PySem.W.Frag} {h : Heap} {mg : Str → Option Value}
theorem fn_mk {x qual : Str} {st : Stmt} {f : Addr} {oc : Value} {od an : Option Addr} {sl : Array (Option Value)} {kV dc pm cd ct : Value}
    (l : K.lookup f = some ⟨oc, od, .func (PySem.W.fnOf x qual (C8.fnArgs st) (C8.fnBody st) (C8.fnScope st) .none kV dc pm an cd ct), sl⟩) (c : PySem.W.codeIn K cd qual = true) : C8.Fun K x qual st f (PySem.W.fnOf x qual (C8.fnArgs st) (C8.fnBody st) (C8.fnScope st) .none kV dc pm an cd ct) :=
  ⟨oc, od, .none, kV, dc, pm, an, cd, ct, sl, rfl, l, c⟩
/-- every parameter is given -/
abbrev BdOk (x qual : Str) (st : Stmt) (ps : List Str) : Prop := ∀ (kV doc pm : Value) (an : Option Addr) (cdv ct : Value) (us : List Value), us.length = ps.length → bindArgs (PySem.W.fnOf x qual (C8.fnArgs st) (C8.fnBody st) (C8.fnScope st) .none kV doc pm an cdv ct) ⟨us, []⟩ = pure (ps.zip us)
theorem dd_mk {x : Str} {st : Stmt} {ps : List Str} {f : Addr} {oc : Value} {od an : Option Addr} {sl : Array (Option Value)} {kV dc pm cd ct : Value} (X : K.In h) (G : h.Ns mainGlobals mg) (hb : BdOk x x st ps)
    (a : PySem.W.nsIn K mainGlobals x = some (some (.ref f))) (l : K.lookup f = some ⟨oc, od, .func (PySem.W.fnOf x x (C8.fnArgs st) (C8.fnBody st) (C8.fnScope st) .none kV dc pm an cd ct), sl⟩)
    (c : PySem.W.codeIn K cd x = true) (k : PySem.W.keepIn K (.ref f) = true) : Dd K mg x st ps := ⟨f, _, ⟨fn_mk l c, PySem.W.mg_of X G a, k⟩, (fn_mk l c).binds rfl hb⟩
theorem dm_mk {m qual : Str} {st : Stmt} {ps : List Str} {C f : Addr} {oc : Value} {od an : Option Addr} {sl : Array (Option Value)} {kV dc pm cd ct : Value} (hb : BdOk m qual st ps)
    (a : PySem.W.findIn K (.ref C) m = some (some (.ref f))) (i : PySem.W.isFn K (.ref f) = true) (l : K.lookup f = some ⟨oc, od, .func (PySem.W.fnOf m qual (C8.fnArgs st) (C8.fnBody st) (C8.fnScope st) .none kV dc pm an cd ct), sl⟩)
    (c : PySem.W.codeIn K cd qual = true) (k : PySem.W.keepIn K (.ref f) = true) : Dm K C m qual st ps := ⟨f, _, fn_mk l c, ⟨a, i, k⟩, (fn_mk l c).binds rfl hb⟩
theorem di_mk {C f : Addr} {oc : Value} {od an : Option Addr} {sl : Array (Option Value)} {kV dc pm cd ct : Value} (X : K.In h) (G : h.Ns mainGlobals mg) (hb : BdOk "__init__" "Run.__init__" sInit ["self", "plan", "fails"]) (aC : PySem.W.nsIn K mainGlobals "Run" = some (some (.ref C)))
    (a : PySem.W.findIn K (.ref C) "__init__" = some (some (.ref f))) (i : PySem.W.isFn K (.ref f) = true) (l : K.lookup f = some ⟨oc, od, .func (PySem.W.fnOf "__init__" "Run.__init__" (C8.fnArgs sInit) (C8.fnBody sInit) (C8.fnScope sInit) .none kV dc pm an cd ct), sl⟩)
    (c : PySem.W.codeIn K cd "Run.__init__" = true) (mk : PySem.W.makesIn K C = true) (kc : PySem.W.keepIn K (.ref C) = true) : Di K mg C := ⟨⟨f, _, fn_mk l c, ⟨mk, a, i, kc⟩, (fn_mk l c).binds rfl hb⟩, PySem.W.mg_of X G aC⟩
theorem pl_mk {a : Addr} {o : Obj} {n : Nat} {its : Array Value} (X : K.In h) (G : h.Ns mainGlobals mg) (m : PySem.W.nsIn K mainGlobals "PLAIN" = some (some (.ref a))) (l : K.lookup a = some o) (hc : o.cls = .type "tuple") (hs : o.data = .seq its n) (hi : its = #[.none, .bool false]) : PlainC K mg := by
  subst hi
  exact ⟨a, PySem.W.mg_of X G m, fun H => .inr ⟨o, _, n, l, hc, hs, by decide, .cons rfl (.cons rfl .nil)⟩⟩
theorem cs_mk {t1 t2 t3 t4 t5 t6 t7 t8 : Tok} (X : K.In h) (G : h.Ns mainGlobals mg) (y1 : PySem.W.nsIn K mainGlobals "MOST_SERVICE" = some (some (.int 3 t1))) (y2 : PySem.W.nsIn K mainGlobals "MOST_TRIES" = some (some (.int 3 t2))) (y3 : PySem.W.nsIn K mainGlobals "MOST_PARTS" = some (some (.int 3 t3)))
    (y4 : PySem.W.nsIn K mainGlobals "MOST_CALLS" = some (some (.int 12 t4))) (y5 : PySem.W.nsIn K mainGlobals "MOST_DEEP" = some (some (.int 4 t5))) (y6 : PySem.W.nsIn K mainGlobals "MOST_BUDGET" = some (some (.int 4 t6)))
    (y7 : PySem.W.nsIn K mainGlobals "ALL" = some (some (.str "all" t7))) (y8 : PySem.W.nsIn K mainGlobals "ANY" = some (some (.str "any" t8))) : Consts mg :=
  ⟨⟨_, PySem.W.mg_of X G y1⟩, ⟨_, PySem.W.mg_of X G y2⟩, ⟨_, PySem.W.mg_of X G y3⟩, ⟨_, PySem.W.mg_of X G y4⟩, ⟨_, PySem.W.mg_of X G y5⟩, ⟨_, PySem.W.mg_of X G y6⟩, ⟨_, PySem.W.mg_of X G y7⟩, ⟨_, PySem.W.mg_of X G y8⟩⟩
theorem rc_mk {C : Addr} (pg : PySem.W.plainGet K C Str.empty = true) (hd : PySem.W.hasDictIn K C = true) (po : PySem.W.plainOver K C = true) (sa : PySem.W.findIn K (.ref C) "__setattr__" = some (some (.builtin "object.__setattr__")))
    (n0 : PySem.W.findIn K (.ref C) "left" = some none) (n1 : PySem.W.findIn K (.ref C) "keeps" = some none) (n2 : PySem.W.findIn K (.ref C) "fails" = some none) (n3 : PySem.W.findIn K (.ref C) "kept" = some none)
    (n4 : PySem.W.findIn K (.ref C) "asks" = some none) (n5 : PySem.W.findIn K (.ref C) "deciders" = some none) : RunC K C := ⟨⟨pg, hd, po, sa⟩, n0, n1, n2, n3, n4, n5⟩
end
/-- all that the top has written -/
structure All (K : PySem.W.Frag) (mg : Str → Option Value) (C : Addr) : Prop where
  B : Bn mg
  W : Consts mg
  L : PlainC K mg
  T : RunC K C
  I : Di K mg C
  m_call : Dm K C "call" "Run.call" sRCall ["self", "call"]
  m_attempt : Dm K C "attempt" "Run.attempt" sAttempt ["self", "call"]
  m_parts_let : Dm K C "parts_let" "Run.parts_let" sParts ["self", "call"]
  m_take : Dm K C "take" "Run.take" sTake ["self"]
  m_decide : Dm K C "decide" "Run.decide" sDecide ["self", "service"]
  d_is_number : Dd K mg "is_number" sIsNum ["thing", "low", "high"]
  d_is_call : Dd K mg "is_call" sIsCall ["thing", "deep"]
  d_count_calls : Dd K mg "count_calls" sCount ["call"]
  d_is_tree : Dd K mg "is_tree" sIsTree ["thing"]
  d_need_tree : Dd K mg "need_tree" sNeedTree ["tree"]
  d_is_plan : Dd K mg "is_plan" sIsPlan ["thing"]
  d_need_plan : Dd K mg "need_plan" sNeedPlan ["plan"]
  d_is_fails : Dd K mg "is_fails" sIsFails ["thing"]
  d_ran : Dd K mg "ran" sRan ["tree", "plan", "fails"]
  d_count_asks : Dd K mg "count_asks" sCountAsks ["asks", "service"]
  d_has_most : Dd K mg "has_most" sHasMost ["tree", "failing", "service", "most", "fails"]
  d_need_service : Dd K mg "need_service" sNeedService ["service"]
  d_need_failing : Dd K mg "need_failing" sNeedFailing ["tree", "failing", "service"]
  d_ends_of : Dd K mg "ends_of" sEnds ["call", "parts", "service"]
  d_best_ends : Dd K mg "best_ends" sBest ["call", "parts", "failing", "service"]
  d_numbers_of : Dd K mg "numbers_of" sNumbersOf ["call", "failing", "service"]
  d_decisions_at : Dd K mg "decisions_at" sDecAt ["call", "found", "row", "is_good", "failing", "service"]
  d_decisions_of : Dd K mg "decisions_of" sDecOf ["call", "found", "is_good", "failing", "service"]
  d_only_by : Dd K mg "only_by" sOnlyBy ["tree", "failing", "service"]
  d_only : Dd K mg "only" sOnly ["tree", "failing", "service"]
  d_numbers : Dd K mg "numbers" sNumbers ["tree", "failing", "service"]
  d_is_integer : Dd K mg "is_integer" sIsInteger ["thing"]
  d_are_bounds : Dd K mg "are_bounds" sBounds ["call", "thing", "failing", "service"]
  d_shows_only : Dd K mg "shows_only" sShows ["tree", "failing", "service", "thing"]
  d_law_cell_at : Dd K mg "_law_cell_at" sCellAt ["_law_script", "_law_k"]
  d_law_pen : Dd K mg "_law_pen" sPen ["_law_cell"]
  d_law_draw : Dd K mg "_law_draw" sDraw ["_law_pen_here", "_law_many"]
  d_law_pick : Dd K mg "_law_pick" sPick ["_law_pen_here", "_law_things"]
  d_law_call : Dd K mg "_law_call" sLCall ["_law_pen_here", "_law_deep", "_law_room"]
  d_law_tree : Dd K mg "_law_tree" sLTree ["_law_pen_here", "_law_deep", "_law_most_here"]
  d_law_set : Dd K mg "_law_set" sLSet ["_law_pen_here"]
  d_law_tried : Dd K mg "_law_tried" sTried ["_law_call_here", "_law_plan", "_law_fails", "_law_hand"]
  d_law_asked : Dd K mg "_law_asked" sAsked ["_law_call_here", "_law_plan", "_law_fails", "_law_hand"]
  d_law_played : Dd K mg "_law_played" sPlayed ["_law_tree_here", "_law_plan", "_law_fails"]
  d_law_every : Dd K mg "_law_every" sEvery ["_law_tree_here", "_law_plan", "_law_failing", "_law_ends", "_law_most_here"]
  d_law_counted : Dd K mg "_law_counted" sCounted ["_law_asks", "_law_service"]
  d_law_most : Dd K mg "_law_most" sMost ["_law_runs", "_law_service", "_law_is_good"]
  d_law_right : Dd K mg "_law_right" sRight ["_law_tree_here", "_law_failing", "_law_every_here"]
section
variable {P : Program} {w : World} {K : PySem.W.Frag} {mg : Str → Option Value} {base : Heap} {C fa : Addr} {fd : FuncData}
theorem all_ok (A : All K mg C) (F : C8.Fun K "law" "law" sLaw fa fd) : FnOk P w K mg base CX0 14 fa fd ["_law_script"] (spLaw K) := by
  have num := ok_is_num (P := P) (w := w) (base := base) A.d_is_number A.B
  have call := ok_is_call A.d_is_call A.B A.W num 3
  have count := ok_count (P := P) (w := w) (base := base) A.d_count_calls A.B 3
  have tree := ok_need_tree A.d_need_tree (ok_is_tree A.d_is_tree A.W call count)
  have plan := ok_need_plan A.d_need_plan (ok_is_plan A.d_is_plan A.B A.W num)
  have fails := ok_is_fails (P := P) (w := w) (base := base) A.d_is_fails A.B
  have init := ok_init (P := P) (w := w) (base := base) A.T A.I
  have rcall := rcall_all (P := P) (w := w) (base := base) A.T A.B A.W A.m_call A.m_attempt A.m_parts_let A.m_take A.m_decide 3
  have ran := ok_ran A.d_ran A.B A.T tree plan fails init rcall
  have asks := ok_count_asks (P := P) (w := w) (base := base) A.d_count_asks A.B
  have most := ok_has_most A.d_has_most A.B A.T A.L asks init rcall
  have serv := ok_need_service A.d_need_service A.W num
  have failing := ok_need_failing A.d_need_failing A.B A.W tree fails serv
  have best := ok_best A.d_best_ends A.B (ok_ends (P := P) (w := w) (base := base) A.d_ends_of A.B A.W)
  have nums := ok_numbers_of A.d_numbers_of A.B best 3
  have decs := dec_all A.d_decisions_of A.d_decisions_at A.B best 3
  have only := ok_only A.d_only failing (ok_only_by A.d_only_by A.B nums decs)
  have numbers := ok_numbers A.d_numbers failing nums
  have int := ok_is_integer (P := P) (w := w) (base := base) A.d_is_integer A.B
  have bounds := ok_bounds A.d_are_bounds A.B int best 3
  have shows := ok_shows A.d_shows_only A.B failing int fails bounds most
  have cell := ok_cell_at (P := P) (w := w) (base := base) A.d_law_cell_at A.B
  have pen := ok_pen (P := P) (w := w) (base := base) A.d_law_pen A.B
  have draw := ok_draw (P := P) (w := w) (base := base) A.d_law_draw A.B
  have pick := ok_pick A.d_law_pick A.B draw
  have ltree := ok_ltree A.d_law_tree fun d hd => cal_mono (ok_lcall A.d_law_call A.B draw pick d) (by omega)
  have lset := ok_lset A.d_law_set A.B draw
  have asked := ok_asked (P := P) (w := w) (base := base) A.d_law_asked A.d_law_tried A.B 3
  have every := ok_every A.d_law_every A.B (ok_played A.d_law_played A.B asked)
  have lmost := ok_most A.d_law_most A.B (ok_counted (P := P) (w := w) (base := base) A.d_law_counted A.B)
  have right := ok_right A.d_law_right A.B ran lmost only numbers shows
  exact ok_law F A.B cell pen draw pick ltree lset every right
end
theorem all_mk {l : PySem.W.OpenLaw} {w : World} {K : PySem.W.Frag} {h : Heap} {mg : Str → Option Value} {fa C f : Addr} {oc : Value} {od an : Option Addr} {sl : Array (Option Value)} {kV dc pm cd ct : Value} (X : K.In h) (G : h.Ns mainGlobals mg) (hfa : mg "law" = some (.ref fa)) (A : All K mg C)
    (a : PySem.W.nsIn K mainGlobals "law" = some (some (.ref f))) (lk : K.lookup f = some ⟨oc, od, .func (PySem.W.fnOf "law" "law" (C8.fnArgs sLaw) (C8.fnBody sLaw) (C8.fnScope sLaw) .none kV dc pm an cd ct), sl⟩) (c : PySem.W.codeIn K cd "law" = true) :
    ∃ fd : FuncData, (∀ (s : Shared) (v : Value), BindsTo s fd ⟨[v], []⟩ [("_law_script", v)]) ∧ ∀ base : Heap, K.In base → base.Ns mainGlobals mg → FnOk l.prog w K mg base CX0 14 fa fd ["_law_script"] (spLaw K) := by
  have e := hfa.symm.trans (PySem.W.mg_of X G a)
  cases e
  exact ⟨_, fun s v => .of_eq rfl, fun base _ _ => all_ok A (fn_mk lk c)⟩
theorem walk {l : PySem.W.OpenLaw} {q : Program} {loose : List Str} {XP : (Str → Option Value) → Heap → Prop} {YP : World → Heap → Prop} {d : DefRec} {K : Params → PySem.W.Frag} (hn : l.most = some 63) (hdf : d.params.defaults = [])
    (hY : ∀ (w : World) (h : Heap), YP w h → (K w.params).In h)
    (F : ∀ (w : World) (mg : Str → Option Value) (fa : Addr) (h : Heap), (K w.params).In h → h.Ns mainGlobals mg → mg d.name = some (.ref fa) →
      ∃ fd : FuncData, (∀ (s : Shared) (u : Value), BindsTo s fd ⟨[u], []⟩ [("_law_script", u)]) ∧ ∀ base : Heap, (K w.params).In base → base.Ns mainGlobals mg → FnOk l.prog w (K w.params) mg base CX0 14 fa fd ["_law_script"] (spLaw (K w.params))) :
    PySem.W.WalkO q loose XP YP l.row.toRowW d [] (fun f vs => PySem.call f vs) :=
  L2.walk_of (n := 63) (k := 14) (x := "_law_script") (CX := fun _ => CX0) (sp := fun w => spLaw (K w.params)) hn (by decide) hdf ⟨rfl, by decide, by decide⟩ hY F (fun _ _ a ns hl _ hS => ⟨a, ns, rfl, hS, hl, fun _ => rfl⟩) fun _ _ _ _ _ z => z
theorem b_sInit : BdOk "__init__" "Run.__init__" sInit ["self", "plan", "fails"] := fun _ _ _ _ _ _ us hl => match us, hl with | [_, _, _], _ => rfl
theorem b_sRCall : BdOk "call" "Run.call" sRCall ["self", "call"] := fun _ _ _ _ _ _ us hl => match us, hl with | [_, _], _ => rfl
theorem b_sAttempt : BdOk "attempt" "Run.attempt" sAttempt ["self", "call"] := fun _ _ _ _ _ _ us hl => match us, hl with | [_, _], _ => rfl
theorem b_sParts : BdOk "parts_let" "Run.parts_let" sParts ["self", "call"] := fun _ _ _ _ _ _ us hl => match us, hl with | [_, _], _ => rfl
theorem b_sTake : BdOk "take" "Run.take" sTake ["self"] := fun _ _ _ _ _ _ us hl => match us, hl with | [_], _ => rfl
theorem b_sDecide : BdOk "decide" "Run.decide" sDecide ["self", "service"] := fun _ _ _ _ _ _ us hl => match us, hl with | [_, _], _ => rfl
theorem b_sIsNum : BdOk "is_number" "is_number" sIsNum ["thing", "low", "high"] := fun _ _ _ _ _ _ us hl => match us, hl with | [_, _, _], _ => rfl
theorem b_sIsCall : BdOk "is_call" "is_call" sIsCall ["thing", "deep"] := fun _ _ _ _ _ _ us hl => match us, hl with | [_, _], _ => rfl
theorem b_sCount : BdOk "count_calls" "count_calls" sCount ["call"] := fun _ _ _ _ _ _ us hl => match us, hl with | [_], _ => rfl
theorem b_sIsTree : BdOk "is_tree" "is_tree" sIsTree ["thing"] := fun _ _ _ _ _ _ us hl => match us, hl with | [_], _ => rfl
theorem b_sNeedTree : BdOk "need_tree" "need_tree" sNeedTree ["tree"] := fun _ _ _ _ _ _ us hl => match us, hl with | [_], _ => rfl
theorem b_sIsPlan : BdOk "is_plan" "is_plan" sIsPlan ["thing"] := fun _ _ _ _ _ _ us hl => match us, hl with | [_], _ => rfl
theorem b_sNeedPlan : BdOk "need_plan" "need_plan" sNeedPlan ["plan"] := fun _ _ _ _ _ _ us hl => match us, hl with | [_], _ => rfl
theorem b_sIsFails : BdOk "is_fails" "is_fails" sIsFails ["thing"] := fun _ _ _ _ _ _ us hl => match us, hl with | [_], _ => rfl
theorem b_sRan : BdOk "ran" "ran" sRan ["tree", "plan", "fails"] := fun _ _ _ _ _ _ us hl => match us, hl with | [_, _, _], _ => rfl
theorem b_sCountAsks : BdOk "count_asks" "count_asks" sCountAsks ["asks", "service"] := fun _ _ _ _ _ _ us hl => match us, hl with | [_, _], _ => rfl
theorem b_sHasMost : BdOk "has_most" "has_most" sHasMost ["tree", "failing", "service", "most", "fails"] := fun _ _ _ _ _ _ us hl => match us, hl with | [_, _, _, _, _], _ => rfl
theorem b_sNeedService : BdOk "need_service" "need_service" sNeedService ["service"] := fun _ _ _ _ _ _ us hl => match us, hl with | [_], _ => rfl
theorem b_sNeedFailing : BdOk "need_failing" "need_failing" sNeedFailing ["tree", "failing", "service"] := fun _ _ _ _ _ _ us hl => match us, hl with | [_, _, _], _ => rfl
theorem b_sEnds : BdOk "ends_of" "ends_of" sEnds ["call", "parts", "service"] := fun _ _ _ _ _ _ us hl => match us, hl with | [_, _, _], _ => rfl
theorem b_sBest : BdOk "best_ends" "best_ends" sBest ["call", "parts", "failing", "service"] := fun _ _ _ _ _ _ us hl => match us, hl with | [_, _, _, _], _ => rfl
theorem b_sNumbersOf : BdOk "numbers_of" "numbers_of" sNumbersOf ["call", "failing", "service"] := fun _ _ _ _ _ _ us hl => match us, hl with | [_, _, _], _ => rfl
theorem b_sDecAt : BdOk "decisions_at" "decisions_at" sDecAt ["call", "found", "row", "is_good", "failing", "service"] := fun _ _ _ _ _ _ us hl => match us, hl with | [_, _, _, _, _, _], _ => rfl
theorem b_sDecOf : BdOk "decisions_of" "decisions_of" sDecOf ["call", "found", "is_good", "failing", "service"] := fun _ _ _ _ _ _ us hl => match us, hl with | [_, _, _, _, _], _ => rfl
theorem b_sOnlyBy : BdOk "only_by" "only_by" sOnlyBy ["tree", "failing", "service"] := fun _ _ _ _ _ _ us hl => match us, hl with | [_, _, _], _ => rfl
theorem b_sOnly : BdOk "only" "only" sOnly ["tree", "failing", "service"] := fun _ _ _ _ _ _ us hl => match us, hl with | [_, _, _], _ => rfl
theorem b_sNumbers : BdOk "numbers" "numbers" sNumbers ["tree", "failing", "service"] := fun _ _ _ _ _ _ us hl => match us, hl with | [_, _, _], _ => rfl
theorem b_sIsInteger : BdOk "is_integer" "is_integer" sIsInteger ["thing"] := fun _ _ _ _ _ _ us hl => match us, hl with | [_], _ => rfl
theorem b_sBounds : BdOk "are_bounds" "are_bounds" sBounds ["call", "thing", "failing", "service"] := fun _ _ _ _ _ _ us hl => match us, hl with | [_, _, _, _], _ => rfl
theorem b_sShows : BdOk "shows_only" "shows_only" sShows ["tree", "failing", "service", "thing"] := fun _ _ _ _ _ _ us hl => match us, hl with | [_, _, _, _], _ => rfl
theorem b_sCellAt : BdOk "_law_cell_at" "_law_cell_at" sCellAt ["_law_script", "_law_k"] := fun _ _ _ _ _ _ us hl => match us, hl with | [_, _], _ => rfl
theorem b_sPen : BdOk "_law_pen" "_law_pen" sPen ["_law_cell"] := fun _ _ _ _ _ _ us hl => match us, hl with | [_], _ => rfl
theorem b_sDraw : BdOk "_law_draw" "_law_draw" sDraw ["_law_pen_here", "_law_many"] := fun _ _ _ _ _ _ us hl => match us, hl with | [_, _], _ => rfl
theorem b_sPick : BdOk "_law_pick" "_law_pick" sPick ["_law_pen_here", "_law_things"] := fun _ _ _ _ _ _ us hl => match us, hl with | [_, _], _ => rfl
theorem b_sLCall : BdOk "_law_call" "_law_call" sLCall ["_law_pen_here", "_law_deep", "_law_room"] := fun _ _ _ _ _ _ us hl => match us, hl with | [_, _, _], _ => rfl
theorem b_sLTree : BdOk "_law_tree" "_law_tree" sLTree ["_law_pen_here", "_law_deep", "_law_most_here"] := fun _ _ _ _ _ _ us hl => match us, hl with | [_, _, _], _ => rfl
theorem b_sLSet : BdOk "_law_set" "_law_set" sLSet ["_law_pen_here"] := fun _ _ _ _ _ _ us hl => match us, hl with | [_], _ => rfl
theorem b_sTried : BdOk "_law_tried" "_law_tried" sTried ["_law_call_here", "_law_plan", "_law_fails", "_law_hand"] := fun _ _ _ _ _ _ us hl => match us, hl with | [_, _, _, _], _ => rfl
theorem b_sAsked : BdOk "_law_asked" "_law_asked" sAsked ["_law_call_here", "_law_plan", "_law_fails", "_law_hand"] := fun _ _ _ _ _ _ us hl => match us, hl with | [_, _, _, _], _ => rfl
theorem b_sPlayed : BdOk "_law_played" "_law_played" sPlayed ["_law_tree_here", "_law_plan", "_law_fails"] := fun _ _ _ _ _ _ us hl => match us, hl with | [_, _, _], _ => rfl
theorem b_sEvery : BdOk "_law_every" "_law_every" sEvery ["_law_tree_here", "_law_plan", "_law_failing", "_law_ends", "_law_most_here"] := fun _ _ _ _ _ _ us hl => match us, hl with | [_, _, _, _, _], _ => rfl
theorem b_sCounted : BdOk "_law_counted" "_law_counted" sCounted ["_law_asks", "_law_service"] := fun _ _ _ _ _ _ us hl => match us, hl with | [_, _], _ => rfl
theorem b_sMost : BdOk "_law_most" "_law_most" sMost ["_law_runs", "_law_service", "_law_is_good"] := fun _ _ _ _ _ _ us hl => match us, hl with | [_, _, _], _ => rfl
theorem b_sRight : BdOk "_law_right" "_law_right" sRight ["_law_tree_here", "_law_failing", "_law_every_here"] := fun _ _ _ _ _ _ us hl => match us, hl with | [_, _, _], _ => rfl
end CB

open PySem PySem.W PyProof.Rows in
set_option maxRecDepth 100000 in
set_option maxHeartbeats 0 in
theorem PySem.Challenge.cw_comesback_k60_whole_only_by_all_fails_holds : PySem.Challenge.rw_comesback_k60_whole_only_by_all_fails.Holds := by
  w_on; o_law; k_head; (case hw => w_witness2)
  k_fill
  refine CB.walk (l := PySem.Challenge.rw_comesback_k60_whole_only_by_all_fails) rfl rfl (fun w h Y => PySem.W.kIn_of Y) ?F
  case F =>
    intro w mg fa h KX G hmg
    refine' CB.all_mk KX G hmg ⟨?B, ?W, ?L, ?T, ?I, ?m0, ?m1, ?m2, ?m3, ?m4, ?d0, ?d1, ?d2, ?d3, ?d4, ?d5, ?d6, ?d7, ?d8, ?d9, ?d10, ?d11, ?d12, ?d13, ?d14, ?d15, ?d16, ?d17, ?d18, ?d19, ?d20, ?d21, ?d22, ?d23, ?d24, ?d25, ?d26, ?d27, ?d28, ?d29, ?d30, ?d31, ?d32, ?d33, ?d34, ?d35, ?d36, ?d37⟩ ?aZ ?lZ ?cZ
    case I => (refine' CB.di_mk KX G CB.b_sInit ?aC ?a0 ?i0 ?l0 ?c0 ?mk ?kc; (case aC => k_is); (case a0 => k_is); (case i0 => k_is); (case l0 => k_is); (case c0 => k_is); (case mk => k_is); (case kc => k_is))
    case T => (refine' CB.rc_mk ?pg ?hd ?po ?sa ?n0 ?n1 ?n2 ?n3 ?n4 ?n5; (case pg => k_is); (case hd => k_is); (case po => k_is); (case sa => k_is); (case n0 => k_is); (case n1 => k_is); (case n2 => k_is); (case n3 => k_is); (case n4 => k_is); (case n5 => k_is))
    case B => (refine' ⟨PySem.W.mg_none_of KX G ?z0, PySem.W.mg_none_of KX G ?z1, PySem.W.mg_none_of KX G ?z2, PySem.W.mg_none_of KX G ?z3, PySem.W.mg_none_of KX G ?z4, PySem.W.mg_none_of KX G ?z5, PySem.W.mg_none_of KX G ?z6, PySem.W.mg_none_of KX G ?z7, PySem.W.mg_none_of KX G ?z8, PySem.W.mg_none_of KX G ?z9, PySem.W.mg_none_of KX G ?z10, PySem.W.mg_none_of KX G ?z11, PySem.W.mg_none_of KX G ?z12⟩; (case z0 => k_is); (case z1 => k_is); (case z2 => k_is); (case z3 => k_is); (case z4 => k_is); (case z5 => k_is); (case z6 => k_is); (case z7 => k_is); (case z8 => k_is); (case z9 => k_is); (case z10 => k_is); (case z11 => k_is); (case z12 => k_is))
    case W => (refine' CB.cs_mk KX G ?y0 ?y1 ?y2 ?y3 ?y4 ?y5 ?y6 ?y7; (case y0 => k_is); (case y1 => k_is); (case y2 => k_is); (case y3 => k_is); (case y4 => k_is); (case y5 => k_is); (case y6 => k_is); (case y7 => k_is))
    case L => (refine' CB.pl_mk KX G ?p0 ?p1 ?p2 ?p3 ?p4; (case p0 => k_is); (case p1 => k_is); (case p2 => exact rfl); (case p3 => exact rfl); (case p4 => exact rfl))
    case m0 => (refine' CB.dm_mk CB.b_sRCall ?am0 ?im0 ?lm0 ?cm0 ?km0; (case am0 => k_is); (case im0 => k_is); (case lm0 => k_is); (case cm0 => k_is); (case km0 => k_is))
    case m1 => (refine' CB.dm_mk CB.b_sAttempt ?am1 ?im1 ?lm1 ?cm1 ?km1; (case am1 => k_is); (case im1 => k_is); (case lm1 => k_is); (case cm1 => k_is); (case km1 => k_is))
    case m2 => (refine' CB.dm_mk CB.b_sParts ?am2 ?im2 ?lm2 ?cm2 ?km2; (case am2 => k_is); (case im2 => k_is); (case lm2 => k_is); (case cm2 => k_is); (case km2 => k_is))
    case m3 => (refine' CB.dm_mk CB.b_sTake ?am3 ?im3 ?lm3 ?cm3 ?km3; (case am3 => k_is); (case im3 => k_is); (case lm3 => k_is); (case cm3 => k_is); (case km3 => k_is))
    case m4 => (refine' CB.dm_mk CB.b_sDecide ?am4 ?im4 ?lm4 ?cm4 ?km4; (case am4 => k_is); (case im4 => k_is); (case lm4 => k_is); (case cm4 => k_is); (case km4 => k_is))
    case d0 => (refine' CB.dd_mk KX G CB.b_sIsNum ?ad0 ?ld0 ?cd0 ?kd0; (case ad0 => k_is); (case ld0 => k_is); (case cd0 => k_is); (case kd0 => k_is))
    case d1 => (refine' CB.dd_mk KX G CB.b_sIsCall ?ad1 ?ld1 ?cd1 ?kd1; (case ad1 => k_is); (case ld1 => k_is); (case cd1 => k_is); (case kd1 => k_is))
    case d2 => (refine' CB.dd_mk KX G CB.b_sCount ?ad2 ?ld2 ?cd2 ?kd2; (case ad2 => k_is); (case ld2 => k_is); (case cd2 => k_is); (case kd2 => k_is))
    case d3 => (refine' CB.dd_mk KX G CB.b_sIsTree ?ad3 ?ld3 ?cd3 ?kd3; (case ad3 => k_is); (case ld3 => k_is); (case cd3 => k_is); (case kd3 => k_is))
    case d4 => (refine' CB.dd_mk KX G CB.b_sNeedTree ?ad4 ?ld4 ?cd4 ?kd4; (case ad4 => k_is); (case ld4 => k_is); (case cd4 => k_is); (case kd4 => k_is))
    case d5 => (refine' CB.dd_mk KX G CB.b_sIsPlan ?ad5 ?ld5 ?cd5 ?kd5; (case ad5 => k_is); (case ld5 => k_is); (case cd5 => k_is); (case kd5 => k_is))
    case d6 => (refine' CB.dd_mk KX G CB.b_sNeedPlan ?ad6 ?ld6 ?cd6 ?kd6; (case ad6 => k_is); (case ld6 => k_is); (case cd6 => k_is); (case kd6 => k_is))
    case d7 => (refine' CB.dd_mk KX G CB.b_sIsFails ?ad7 ?ld7 ?cd7 ?kd7; (case ad7 => k_is); (case ld7 => k_is); (case cd7 => k_is); (case kd7 => k_is))
    case d8 => (refine' CB.dd_mk KX G CB.b_sRan ?ad8 ?ld8 ?cd8 ?kd8; (case ad8 => k_is); (case ld8 => k_is); (case cd8 => k_is); (case kd8 => k_is))
    case d9 => (refine' CB.dd_mk KX G CB.b_sCountAsks ?ad9 ?ld9 ?cd9 ?kd9; (case ad9 => k_is); (case ld9 => k_is); (case cd9 => k_is); (case kd9 => k_is))
    case d10 => (refine' CB.dd_mk KX G CB.b_sHasMost ?ad10 ?ld10 ?cd10 ?kd10; (case ad10 => k_is); (case ld10 => k_is); (case cd10 => k_is); (case kd10 => k_is))
    case d11 => (refine' CB.dd_mk KX G CB.b_sNeedService ?ad11 ?ld11 ?cd11 ?kd11; (case ad11 => k_is); (case ld11 => k_is); (case cd11 => k_is); (case kd11 => k_is))
    case d12 => (refine' CB.dd_mk KX G CB.b_sNeedFailing ?ad12 ?ld12 ?cd12 ?kd12; (case ad12 => k_is); (case ld12 => k_is); (case cd12 => k_is); (case kd12 => k_is))
    case d13 => (refine' CB.dd_mk KX G CB.b_sEnds ?ad13 ?ld13 ?cd13 ?kd13; (case ad13 => k_is); (case ld13 => k_is); (case cd13 => k_is); (case kd13 => k_is))
    case d14 => (refine' CB.dd_mk KX G CB.b_sBest ?ad14 ?ld14 ?cd14 ?kd14; (case ad14 => k_is); (case ld14 => k_is); (case cd14 => k_is); (case kd14 => k_is))
    case d15 => (refine' CB.dd_mk KX G CB.b_sNumbersOf ?ad15 ?ld15 ?cd15 ?kd15; (case ad15 => k_is); (case ld15 => k_is); (case cd15 => k_is); (case kd15 => k_is))
    case d16 => (refine' CB.dd_mk KX G CB.b_sDecAt ?ad16 ?ld16 ?cd16 ?kd16; (case ad16 => k_is); (case ld16 => k_is); (case cd16 => k_is); (case kd16 => k_is))
    case d17 => (refine' CB.dd_mk KX G CB.b_sDecOf ?ad17 ?ld17 ?cd17 ?kd17; (case ad17 => k_is); (case ld17 => k_is); (case cd17 => k_is); (case kd17 => k_is))
    case d18 => (refine' CB.dd_mk KX G CB.b_sOnlyBy ?ad18 ?ld18 ?cd18 ?kd18; (case ad18 => k_is); (case ld18 => k_is); (case cd18 => k_is); (case kd18 => k_is))
    case d19 => (refine' CB.dd_mk KX G CB.b_sOnly ?ad19 ?ld19 ?cd19 ?kd19; (case ad19 => k_is); (case ld19 => k_is); (case cd19 => k_is); (case kd19 => k_is))
    case d20 => (refine' CB.dd_mk KX G CB.b_sNumbers ?ad20 ?ld20 ?cd20 ?kd20; (case ad20 => k_is); (case ld20 => k_is); (case cd20 => k_is); (case kd20 => k_is))
    case d21 => (refine' CB.dd_mk KX G CB.b_sIsInteger ?ad21 ?ld21 ?cd21 ?kd21; (case ad21 => k_is); (case ld21 => k_is); (case cd21 => k_is); (case kd21 => k_is))
    case d22 => (refine' CB.dd_mk KX G CB.b_sBounds ?ad22 ?ld22 ?cd22 ?kd22; (case ad22 => k_is); (case ld22 => k_is); (case cd22 => k_is); (case kd22 => k_is))
    case d23 => (refine' CB.dd_mk KX G CB.b_sShows ?ad23 ?ld23 ?cd23 ?kd23; (case ad23 => k_is); (case ld23 => k_is); (case cd23 => k_is); (case kd23 => k_is))
    case d24 => (refine' CB.dd_mk KX G CB.b_sCellAt ?ad24 ?ld24 ?cd24 ?kd24; (case ad24 => k_is); (case ld24 => k_is); (case cd24 => k_is); (case kd24 => k_is))
    case d25 => (refine' CB.dd_mk KX G CB.b_sPen ?ad25 ?ld25 ?cd25 ?kd25; (case ad25 => k_is); (case ld25 => k_is); (case cd25 => k_is); (case kd25 => k_is))
    case d26 => (refine' CB.dd_mk KX G CB.b_sDraw ?ad26 ?ld26 ?cd26 ?kd26; (case ad26 => k_is); (case ld26 => k_is); (case cd26 => k_is); (case kd26 => k_is))
    case d27 => (refine' CB.dd_mk KX G CB.b_sPick ?ad27 ?ld27 ?cd27 ?kd27; (case ad27 => k_is); (case ld27 => k_is); (case cd27 => k_is); (case kd27 => k_is))
    case d28 => (refine' CB.dd_mk KX G CB.b_sLCall ?ad28 ?ld28 ?cd28 ?kd28; (case ad28 => k_is); (case ld28 => k_is); (case cd28 => k_is); (case kd28 => k_is))
    case d29 => (refine' CB.dd_mk KX G CB.b_sLTree ?ad29 ?ld29 ?cd29 ?kd29; (case ad29 => k_is); (case ld29 => k_is); (case cd29 => k_is); (case kd29 => k_is))
    case d30 => (refine' CB.dd_mk KX G CB.b_sLSet ?ad30 ?ld30 ?cd30 ?kd30; (case ad30 => k_is); (case ld30 => k_is); (case cd30 => k_is); (case kd30 => k_is))
    case d31 => (refine' CB.dd_mk KX G CB.b_sTried ?ad31 ?ld31 ?cd31 ?kd31; (case ad31 => k_is); (case ld31 => k_is); (case cd31 => k_is); (case kd31 => k_is))
    case d32 => (refine' CB.dd_mk KX G CB.b_sAsked ?ad32 ?ld32 ?cd32 ?kd32; (case ad32 => k_is); (case ld32 => k_is); (case cd32 => k_is); (case kd32 => k_is))
    case d33 => (refine' CB.dd_mk KX G CB.b_sPlayed ?ad33 ?ld33 ?cd33 ?kd33; (case ad33 => k_is); (case ld33 => k_is); (case cd33 => k_is); (case kd33 => k_is))
    case d34 => (refine' CB.dd_mk KX G CB.b_sEvery ?ad34 ?ld34 ?cd34 ?kd34; (case ad34 => k_is); (case ld34 => k_is); (case cd34 => k_is); (case kd34 => k_is))
    case d35 => (refine' CB.dd_mk KX G CB.b_sCounted ?ad35 ?ld35 ?cd35 ?kd35; (case ad35 => k_is); (case ld35 => k_is); (case cd35 => k_is); (case kd35 => k_is))
    case d36 => (refine' CB.dd_mk KX G CB.b_sMost ?ad36 ?ld36 ?cd36 ?kd36; (case ad36 => k_is); (case ld36 => k_is); (case cd36 => k_is); (case kd36 => k_is))
    case d37 => (refine' CB.dd_mk KX G CB.b_sRight ?ad37 ?ld37 ?cd37 ?kd37; (case ad37 => k_is); (case ld37 => k_is); (case cd37 => k_is); (case kd37 => k_is))
    (case aZ => k_is); (case lZ => k_is); (case cZ => k_is)
