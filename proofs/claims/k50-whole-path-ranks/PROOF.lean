import PyProof.Rows.All
import PyProof.P3Statements
import PyProof.EqLayable
import Wide.All
import OpenK.AllK
import Wide.FinOn
import HandS.ForMost
import HandS.DictComp
import HandS.RevRange
import HandS.Strs
import HandS.TupAny
import HandS.Conv
import HandS.IsInst
import HandS.Walk
import HandS.Zip
import HandS.Star
import HandS.Style
import HandS.Defaults
import HandS.Flow
import HandS.TupSets
import KE.GoesEnum
import KE.SortData
import PyProof.ReprRoads
import PyProof.StrLawsRepr
import HandS.Ends
import HandS.Evl
import PySem.Challenge.RW_rankweights_k50_whole_path_ranks
set_option Elab.async false
set_option linter.all false
set_option maxRecDepth 100000
set_option maxHeartbeats 4000000
/-! terms, the path order, the two readings of one step, no two ways -/
namespace Rk
open PySem

inductive Tm where
  | hole (n : Nat)
  | node (f : Str) (ps : List Tm)

mutual
def Tm.sz : Tm → Nat
  | .hole _ => 1
  | .node _ ps => 1 + szs ps
def szs : List Tm → Nat
  | [] => 0
  | p :: ps => p.sz + szs ps
end
def Tm.parts : Tm → List Tm
  | .hole _ => []
  | .node _ ps => ps
def Tm.isHole : Tm → Bool
  | .hole _ => true
  | .node _ _ => false

theorem Tm.sz_pos : ∀ t : Tm, 0 < t.sz
  | .hole _ => Nat.one_pos
  | .node _ ps => by rw [Tm.sz]; omega
theorem sz_mem : ∀ {ps : List Tm} {p : Tm}, p ∈ ps → p.sz ≤ szs ps
  | [], _, h => by cases h
  | q :: ps, p, h => by
    rw [szs]
    rcases List.mem_cons.mp h with e | h
    · rw [e]; omega
    · have := sz_mem h; omega
theorem szs_append : ∀ (a b : List Tm), szs (a ++ b) = szs a + szs b
  | [], b => by simp [szs]
  | p :: a, b => by rw [List.cons_append, szs, szs, szs_append a b]; omega
theorem len_le_szs : ∀ ps : List Tm, ps.length ≤ szs ps
  | [] => Nat.le_refl _
  | p :: ps => by
    rw [szs, List.length_cons]
    have := len_le_szs ps
    have := p.sz_pos
    omega

/-! ### as data -/
mutual
def Tm.toD : Tm → PyData
  | .hole n => .int n
  | .node f ps => .tuple (.str f :: toDs ps)
def toDs : List Tm → List PyData
  | [] => []
  | p :: ps => p.toD :: toDs ps
end
theorem toDs_map : ∀ ps : List Tm, toDs ps = ps.map Tm.toD
  | [] => rfl
  | p :: ps => by rw [toDs, toDs_map ps, List.map_cons]
theorem toD_node (f : Str) (ps : List Tm) : (Tm.node f ps).toD = .tuple (.str f :: ps.map Tm.toD) := by
  rw [Tm.toD, toDs_map]

theorem natInt_beq (m n : Nat) : ((m : Int) == (n : Int)) = true ↔ m = n := by
  rw [beq_iff_eq]; omega
mutual
theorem eqv_iff : ∀ (s t : Tm), PyData.eqv s.toD t.toD = true ↔ s = t
  | .hole m, .hole n => by
    rw [Tm.toD, Tm.toD, PyData.eqv, natInt_beq]
    exact ⟨fun e => by rw [e], fun e => by injection e⟩
  | .hole m, .node g qs => by
    rw [Tm.toD, Tm.toD, PyData.eqv]
    exact ⟨fun e => (nomatch e), fun e => (nomatch e)⟩
  | .node f ps, .hole n => by
    rw [Tm.toD, Tm.toD, PyData.eqv]
    exact ⟨fun e => (nomatch e), fun e => (nomatch e)⟩
  | .node f ps, .node g qs => by
    rw [Tm.toD, Tm.toD, PyData.eqv, PyData.eqvAll, PyData.eqv, Bool.and_eq_true, eqvs_iff ps qs, beq_iff_eq]
    exact ⟨fun ⟨a, b⟩ => by rw [a, b], fun e => by injection e with a b; exact ⟨a, b⟩⟩
theorem eqvs_iff : ∀ (ps qs : List Tm), PyData.eqvAll (toDs ps) (toDs qs) = true ↔ ps = qs
  | [], [] => by rw [toDs, PyData.eqvAll]; exact ⟨fun _ => rfl, fun _ => rfl⟩
  | [], q :: qs => by rw [toDs, toDs, PyData.eqvAll]; exact ⟨fun e => (nomatch e), fun e => (nomatch e)⟩
  | p :: ps, [] => by rw [toDs, toDs, PyData.eqvAll]; exact ⟨fun e => (nomatch e), fun e => (nomatch e)⟩
  | p :: ps, q :: qs => by
    rw [toDs, toDs, PyData.eqvAll, Bool.and_eq_true, eqv_iff p q, eqvs_iff ps qs]
    exact ⟨fun ⟨a, b⟩ => by rw [a, b], fun e => by injection e with a b; exact ⟨a, b⟩⟩
end

/-! ### the path order -/
inductive Gt (r : Str → Nat) : Tm → Tm → Prop
  | here {f : Str} {ps : List Tm} {p : Tm} : p ∈ ps → Gt r (.node f ps) p
  | part {f : Str} {ps : List Tm} {p t : Tm} : p ∈ ps → Gt r p t → Gt r (.node f ps) t
  | prec {f g : Str} {ps qs : List Tm} : f ≠ g → r f < r g → (∀ q ∈ qs, Gt r (.node f ps) q) → Gt r (.node f ps) (.node g qs)
  | lex {f : Str} {pre ps qs : List Tm} {p q : Tm} : p ≠ q → Gt r p q → (∀ u ∈ qs, Gt r (.node f (pre ++ p :: ps)) u) → Gt r (.node f (pre ++ p :: ps)) (.node f (pre ++ q :: qs))

section
variable {r : Str → Nat}
theorem gt_hole {n : Nat} {t : Tm} : ¬ Gt r (.hole n) t := fun h => by cases h
/-- what is more than a term is more than each part of it -/
theorem gt_parts {s t : Tm} (h : Gt r s t) : ∀ u ∈ t.parts, Gt r s u := by
  induction h with
  | @here f ps p hp =>
    intro u hu
    refine .part hp ?_
    cases p with
    | hole n => cases hu
    | node g qs => exact .here hu
  | @part f ps p t hp _ ih => exact fun u hu => .part hp (ih u hu)
  | prec _ _ h _ => exact h
  | @lex f pre ps qs p q hne hg h ihg ih =>
    intro u hu
    rcases List.mem_append.mp hu with hu | hu
    · exact .here (List.mem_append_left _ hu)
    · rcases List.mem_cons.mp hu with e | hu
      · rw [e]
        exact .part (List.mem_append_right _ List.mem_cons_self) hg
      · exact h u hu

/-- the first place at which two lists part -/
theorem split_unlike : ∀ {ps qs : List Tm}, ps.length = qs.length → ps ≠ qs → ∃ pre p q ps' qs', ps = pre ++ p :: ps' ∧ qs = pre ++ q :: qs' ∧ p ≠ q
  | [], [], _, h => absurd rfl h
  | [], _ :: _, h, _ => by cases h
  | _ :: _, [], h, _ => by cases h
  | p :: ps, q :: qs, hl, hn => by
    rcases Classical.em (p = q) with e | e
    · subst e
      obtain ⟨pre, a, b, ps', qs', h1, h2, h3⟩ := split_unlike (ps := ps) (qs := qs) (Nat.succ.inj hl) (fun z => hn (by rw [z]))
      exact ⟨p :: pre, a, b, ps', qs', by rw [h1]; rfl, by rw [h2]; rfl, h3⟩
    · exact ⟨[], p, q, ps, qs, rfl, rfl, e⟩
theorem split_inj : ∀ {pre pre' ps qs ps' qs' : List Tm} {p q p' q' : Tm}, pre ++ p :: ps = pre' ++ p' :: ps' → pre ++ q :: qs = pre' ++ q' :: qs' → p ≠ q → p' ≠ q' → pre = pre' ∧ p = p' ∧ q = q' ∧ ps = ps' ∧ qs = qs'
  | [], [], ps, qs, ps', qs', p, q, p', q', h1, h2, _, _ => by
    injection h1 with a b
    injection h2 with c d
    exact ⟨rfl, a, c, b, d⟩
  | [], u :: pre', ps, qs, ps', qs', p, q, p', q', h1, h2, n, _ => by
    injection h1 with a _
    injection h2 with b _
    exact absurd (a.trans b.symm) n
  | u :: pre, [], ps, qs, ps', qs', p, q, p', q', h1, h2, _, n => by
    injection h1 with a _
    injection h2 with b _
    exact absurd (a.symm.trans b) n
  | u :: pre, v :: pre', ps, qs, ps', qs', p, q, p', q', h1, h2, n, n' => by
    injection h1 with a b
    injection h2 with _ d
    obtain ⟨e1, e2⟩ := split_inj b d n n'
    exact ⟨by rw [a, e1], e2⟩

/-- NO TWO WAYS -/
theorem gt_asymm : ∀ (n : Nat) (s t : Tm), s.sz + t.sz ≤ n → Gt r s t → Gt r t s → False
  | 0, s, t, hn, _, _ => by
    have := s.sz_pos
    omega
  | n + 1, s, t, hn, h1, h2 => by
    have sub : ∀ {f : Str} {ps : List Tm} {p u : Tm}, (Tm.node f ps).sz + u.sz ≤ n + 1 → p ∈ ps → (p = u ∨ Gt r p u) → Gt r u (.node f ps) → False := by
      intro f ps p u hs hp h hu
      have hz := sz_mem hp
      rw [Tm.sz] at hs
      have hup : Gt r u p := gt_parts hu p hp
      rcases h with e | h
      · subst e
        exact gt_asymm n p p (by omega) hup hup
      · exact gt_asymm n p u (by omega) h hup
    cases h1 with
    | here hp => exact sub hn hp (.inl rfl) h2
    | part hp hg => exact sub hn hp (.inr hg) h2
    | @prec f g ps qs hfg hr hq =>
      have hn' : (Tm.node g qs).sz + (Tm.node f ps).sz ≤ n + 1 := by omega
      cases h2 with
      | here hp => exact sub hn' hp (.inl rfl) (.prec hfg hr hq)
      | part hp hg => exact sub hn' hp (.inr hg) (.prec hfg hr hq)
      | prec _ hr' _ => omega
      | lex => exact hfg rfl
    | @lex f pre ps qs p q hpq hg hq =>
      have hn' : (Tm.node f (pre ++ q :: qs)).sz + (Tm.node f (pre ++ p :: ps)).sz ≤ n + 1 := by omega
      have back : Gt r (.node f (pre ++ p :: ps)) (.node f (pre ++ q :: qs)) := .lex hpq hg hq
      generalize ep : pre ++ p :: ps = P at h2 hn' back
      generalize eq : pre ++ q :: qs = Q at h2 hn' back
      cases h2 with
      | here hp => exact sub hn' hp (.inl rfl) back
      | part hp hg' => exact sub hn' hp (.inr hg') back
      | prec hfg _ _ => exact hfg rfl
      | @lex _ pre' qs' ps' q' p' hqp hg' _ =>
        obtain ⟨_, e1, e2, _, _⟩ := split_inj ep eq hpq (Ne.symm hqp)
        subst e1
        subst e2
        rw [← ep, ← eq, Tm.sz, Tm.sz, szs_append, szs_append, szs, szs] at hn'
        exact gt_asymm n p q (by omega) hg hg'
theorem gt_not {s t : Tm} (h : Gt r s t) : ¬ Gt r t s := fun h' => gt_asymm _ s t (Nat.le_refl _) h h'
end

/-! ### one step, as a table's reader sees it -/
open Classical in
noncomputable def gtB (r : Str → Nat) (s t : Tm) : Bool := decide (Gt r s t)
open Classical in
noncomputable def eqB (s t : Tm) : Bool := decide (s = t)
theorem gtB_iff {r : Str → Nat} {s t : Tm} : gtB r s t = true ↔ Gt r s t := by
  unfold gtB
  exact @decide_eq_true_iff _ (Classical.propDecidable _)
theorem eqB_iff {s t : Tm} : eqB s t = true ↔ s = t := by
  unfold eqB
  exact @decide_eq_true_iff _ (Classical.propDecidable _)
theorem eqB_eqv (s t : Tm) : PyData.eqv s.toD t.toD = eqB s t := Bool.eq_iff_iff.mpr ((eqv_iff s t).trans eqB_iff.symm)
theorem gtB_hole {r : Str → Nat} {n : Nat} {t : Tm} : gtB r (.hole n) t = false := by
  rw [← Bool.not_eq_true, gtB_iff]
  exact gt_hole

section
variable {r : Str → Nat}
/-- a part that is equal or more -/
noncomputable def viaB (r : Str → Nat) (ps : List Tm) (t : Tm) : Bool := ps.any fun p => eqB p t || gtB r p t
theorem via_iff {ps : List Tm} {t : Tm} : viaB r ps t = true ↔ ∃ p ∈ ps, p = t ∨ Gt r p t := by
  unfold viaB
  rw [List.any_eq_true]
  constructor
  · rintro ⟨p, hp, h⟩
    rw [Bool.or_eq_true, eqB_iff, gtB_iff] at h
    exact ⟨p, hp, h⟩
  · rintro ⟨p, hp, h⟩
    exact ⟨p, hp, by rw [Bool.or_eq_true, eqB_iff, gtB_iff]; exact h⟩
theorem gtB_via {f : Str} {ps : List Tm} {t : Tm} (h : viaB r ps t = true) : gtB r (.node f ps) t = true := by
  obtain ⟨p, hp, e | h⟩ := via_iff.mp h
  · rw [gtB_iff, ← e]; exact .here hp
  · rw [gtB_iff]; exact .part hp h
theorem not_via {f : Str} {ps : List Tm} {t : Tm} (h : viaB r ps t = false) : (∀ p ∈ ps, p ≠ t) ∧ ∀ p ∈ ps, ¬ Gt r p t := by
  refine ⟨fun p hp e => ?_, fun p hp g => ?_⟩
  · have := via_iff (r := r).mpr ⟨p, hp, .inl e⟩
    rw [h] at this; cases this
  · have := via_iff.mpr ⟨p, hp, .inr g⟩
    rw [h] at this; cases this
theorem gtB_novia_hole {f : Str} {ps : List Tm} {n : Nat} (h : viaB r ps (.hole n) = false) : gtB r (.node f ps) (.hole n) = false := by
  obtain ⟨h1, h2⟩ := not_via h (f := f)
  rw [← Bool.not_eq_true, gtB_iff]
  intro g
  cases g with
  | here hp => exact h1 _ hp rfl
  | part hp g => exact h2 _ hp g
theorem gtB_novia_prec {f g : Str} {ps qs : List Tm} (h : viaB r ps (.node g qs) = false) (hfg : f ≠ g) : gtB r (.node f ps) (.node g qs) = (decide (r f < r g) && qs.all fun q => gtB r (.node f ps) q) := by
  obtain ⟨h1, h2⟩ := not_via h (f := f)
  rw [Bool.eq_iff_iff, gtB_iff, Bool.and_eq_true, decide_eq_true_iff, List.all_eq_true]
  constructor
  · intro k
    cases k with
    | here hp => exact absurd rfl (h1 _ hp)
    | part hp k => exact absurd k (h2 _ hp)
    | prec _ hr hq => exact ⟨hr, fun q hm => gtB_iff.mpr (hq q hm)⟩
    | lex => exact absurd rfl hfg
  · rintro ⟨hr, hq⟩
    exact .prec hfg hr fun q hm => gtB_iff.mp (hq q hm)
theorem gtB_novia_same {f : Str} {ps : List Tm} (h : viaB r ps (.node f ps) = false) : gtB r (.node f ps) (.node f ps) = false := by
  rw [← Bool.not_eq_true, gtB_iff]
  exact fun g => gt_not g g
theorem gtB_novia_lex {f : Str} {pre ps qs : List Tm} {p q : Tm} (h : viaB r (pre ++ p :: ps) (.node f (pre ++ q :: qs)) = false) (hpq : p ≠ q) :
    gtB r (.node f (pre ++ p :: ps)) (.node f (pre ++ q :: qs)) = (gtB r p q && qs.all fun u => gtB r (.node f (pre ++ p :: ps)) u) := by
  obtain ⟨h1, h2⟩ := not_via h (f := f)
  rw [Bool.eq_iff_iff, gtB_iff, Bool.and_eq_true, gtB_iff, List.all_eq_true]
  constructor
  · intro k
    generalize ep : pre ++ p :: ps = P at k h1 h2
    generalize eq : pre ++ q :: qs = Q at k h1 h2
    cases k with
    | here hp => exact absurd rfl (h1 _ hp)
    | part hp k => exact absurd k (h2 _ hp)
    | prec hfg _ _ => exact absurd rfl hfg
    | @lex _ pre' ps' qs' p' q' hne hg hu =>
      obtain ⟨e0, e1, e2, e3, e4⟩ := split_inj ep eq hpq hne
      subst e0 e1 e2 e3 e4
      exact ⟨hg, fun u hm => gtB_iff.mpr (hu u hm)⟩
  · rintro ⟨hg, hu⟩
    exact .lex hpq hg fun u hm => gtB_iff.mp (hu u hm)
/-- of the parts behind, those that are not equal are enough -/
theorem all_unlike {f : Str} {P : List Tm} : ∀ {ps qs : List Tm}, ps.length = qs.length → (∀ p ∈ ps, p ∈ P) →
    (qs.all fun u => gtB r (.node f P) u) = ((ps.zip qs).filter fun z => !eqB z.1 z.2).all fun z => gtB r (.node f P) z.2
  | [], [], _, _ => rfl
  | [], _ :: _, h, _ => by cases h
  | _ :: _, [], h, _ => by cases h
  | p :: ps, q :: qs, hl, hP => by
    have ih := all_unlike (f := f) (P := P) (ps := ps) (qs := qs) (Nat.succ.inj hl) fun x hx => hP x (List.mem_cons_of_mem _ hx)
    rw [List.all_cons, List.zip_cons_cons, List.filter_cons, ih]
    cases e : eqB p q with
    | true =>
      have e' : p = q := eqB_iff.mp e
      have g : gtB r (.node f P) q = true := by
        rw [gtB_iff, ← e']
        exact .here (hP p List.mem_cons_self)
      rw [g]; simp
    | false => simp
end
end Rk

/-! tables of nodes: by a stack (the program), by rows (the law); what a table of them tells -/
namespace Rk
open PySem

abbrev Nd := List (Tm × List Nat)
def tmAt (L : Nd) (k : Nat) : Option Tm := (L[k]?).map (·.1)
/-- each node has its parts at its kids, behind it -/
structure NdOk (L : Nd) : Prop where
  lt : ∀ (i : Nat) (t : Tm) (ks : List Nat), L[i]? = some (t, ks) → ∀ k ∈ ks, i < k ∧ k < L.length
  kid : ∀ (i : Nat) (t : Tm) (ks : List Nat), L[i]? = some (t, ks) → ks.map (tmAt L) = t.parts.map some
theorem NdOk.len {L : Nd} (h : NdOk L) {i : Nat} {t : Tm} {ks : List Nat} (e : L[i]? = some (t, ks)) : ks.length = t.parts.length := by
  have := congrArg List.length (h.kid i t ks e)
  rwa [List.length_map, List.length_map] at this
/-- the j-th kid holds the j-th part -/
theorem NdOk.get {L : Nd} (h : NdOk L) {i j k : Nat} {t : Tm} {ks : List Nat} (e : L[i]? = some (t, ks)) (ej : ks[j]? = some k) : ∃ p ks', t.parts[j]? = some p ∧ L[k]? = some (p, ks') ∧ i < k ∧ k < L.length := by
  have h1 := h.lt i t ks e k (List.mem_of_getElem? ej)
  have h2 : (ks.map (tmAt L))[j]? = some (tmAt L k) := by rw [List.getElem?_map, ej]; rfl
  rw [h.kid i t ks e, List.getElem?_map] at h2
  cases ep : t.parts[j]? with
  | none => rw [ep] at h2; cases h2
  | some p =>
    rw [ep] at h2
    have h3 : some p = tmAt L k := Option.some.inj h2
    unfold tmAt at h3
    cases eL : L[k]? with
    | none => rw [eL] at h3; cases h3
    | some q =>
      rw [eL] at h3
      have h4 : p = q.1 := Option.some.inj h3
      exact ⟨p, q.2, rfl, by rw [h4], h1.1, h1.2⟩

/-! ### by a stack -/
abbrev Stk := List (Tm × Int)
def addKid (L : Nd) (a : Int) (k : Nat) : Nd := if 0 ≤ a then L.modify a.toNat fun e => (e.1, e.2 ++ [k]) else L
def kidsOf (S : Stk) (i : Nat) : List Tm := (S.filter fun p => p.2 == (i : Int)).map (·.1)
structure Dfs (root : Tm) (L : Nd) (S : Stk) : Prop where
  ab : ∀ p ∈ S, p.2 < (L.length : Int)
  lt : ∀ (i : Nat) (t : Tm) (ks : List Nat), L[i]? = some (t, ks) → ∀ k ∈ ks, i < k ∧ k < L.length
  kid : ∀ (i : Nat) (t : Tm) (ks : List Nat), L[i]? = some (t, ks) → ks.map (tmAt L) ++ (kidsOf S i).map some = t.parts.map some
  top : (L = [] ∧ S = [(root, -1)]) ∨ tmAt L 0 = some root
  sz : L.length + szs (S.map (·.1)) = root.sz
theorem Dfs.init (root : Tm) : Dfs root [] [(root, -1)] where
  ab := fun p hp => by
    rw [List.mem_singleton.mp hp]
    show (-1 : Int) < 0
    decide
  lt := fun i t ks e => by simp at e
  kid := fun i t ks e => by simp at e
  top := .inl ⟨rfl, rfl⟩
  sz := by simp [szs]
theorem Dfs.done {root : Tm} {L : Nd} (h : Dfs root L []) : NdOk L ∧ tmAt L 0 = some root ∧ L.length = root.sz := by
  refine ⟨⟨h.lt, fun i t ks e => ?_⟩, ?_, ?_⟩
  · have := h.kid i t ks e
    unfold kidsOf at this
    simpa using this
  · rcases h.top with ⟨_, e⟩ | e
    · cases e
    · exact e
  · have := h.sz
    simpa [szs] using this
theorem tmAt_app {L : Nd} {x : Tm × List Nat} {k : Nat} (h : k < L.length) : tmAt (L ++ [x]) k = tmAt L k := by
  unfold tmAt
  rw [List.getElem?_append_left h]
theorem tmAt_add {L : Nd} {a : Int} {n k : Nat} : tmAt (addKid L a n) k = tmAt L k := by
  unfold addKid tmAt
  split
  · rw [List.getElem?_modify]
    cases L[k]? with
    | none => rfl
    | some q =>
      by_cases e : a.toNat = k <;> simp [e]
  · rfl
theorem len_add {L : Nd} {a : Int} {n : Nat} : (addKid L a n).length = L.length := by
  unfold addKid
  split
  · rw [List.length_modify]
  · rfl
theorem get_add {L : Nd} {a : Int} {n i : Nat} {t : Tm} {ks : List Nat} (e : (addKid L a n)[i]? = some (t, ks)) :
    (a = (i : Int) ∧ ∃ ks0, ks = ks0 ++ [n] ∧ L[i]? = some (t, ks0)) ∨ (a ≠ (i : Int) ∧ L[i]? = some (t, ks)) := by
  unfold addKid at e
  split at e
  · rename_i h
    rw [List.getElem?_modify] at e
    cases q : L[i]? with
    | none => rw [q] at e; cases e
    | some x =>
      rw [q] at e
      obtain ⟨u, vs⟩ := x
      have e : some (if a.toNat = i then (u, vs ++ [n]) else (u, vs)) = some (t, ks) := e
      by_cases c : a.toNat = i
      · rw [if_pos c] at e
        have e' : (u, vs ++ [n]) = (t, ks) := Option.some.inj e
        injection e' with e1 e2
        refine .inl ⟨by omega, vs, e2.symm, by rw [e1]⟩
      · rw [if_neg c] at e
        exact .inr ⟨by omega, e⟩
  · rename_i h
    exact .inr ⟨by omega, e⟩
theorem kidsOf_cons (p : Tm × Int) (S : Stk) (i : Nat) : kidsOf (p :: S) i = if p.2 = (i : Int) then p.1 :: kidsOf S i else kidsOf S i := by
  unfold kidsOf
  rw [List.filter_cons]
  by_cases c : p.2 = (i : Int)
  · simp [c]
  · simp [c]
theorem kidsOf_app (A B : Stk) (i : Nat) : kidsOf (A ++ B) i = kidsOf A i ++ kidsOf B i := by
  unfold kidsOf
  rw [List.filter_append, List.map_append]
theorem kidsOf_parts (ps : List Tm) (n i : Nat) : kidsOf (ps.map fun p => (p, (n : Int))) i = if n = i then ps else [] := by
  induction ps with
  | nil => simp [kidsOf]
  | cons p ps ih =>
    rw [List.map_cons, kidsOf_cons, ih]
    by_cases c : n = i
    · simp [c]
    · have : ¬ ((n : Int) = (i : Int)) := by omega
      simp [c, this]
theorem kidsOf_none {S : Stk} {n : Nat} (h : ∀ p ∈ S, p.2 < (n : Int)) : kidsOf S n = [] := by
  unfold kidsOf
  rw [List.map_eq_nil_iff, List.filter_eq_nil_iff]
  intro p hp e
  have h1 := h p hp
  have h2 : p.2 = (n : Int) := beq_iff_eq.mp e
  omega
/-- one turn -/
theorem Dfs.step {root : Tm} {L : Nd} {t : Tm} {a : Int} {S : Stk} (h : Dfs root L ((t, a) :: S)) :
    Dfs root (addKid (L ++ [(t, [])]) a L.length) ((t.parts.map fun p => (p, (L.length : Int))) ++ S) := by
  have hlen : (addKid (L ++ [(t, [])]) a L.length).length = L.length + 1 := by rw [len_add]; simp
  have ha : a < (L.length : Int) := h.ab (t, a) List.mem_cons_self
  have hab : ∀ p ∈ S, p.2 < (L.length : Int) := fun p hp => h.ab p (List.mem_cons_of_mem _ hp)
  have tm : ∀ k, k < L.length → tmAt (addKid (L ++ [(t, [])]) a L.length) k = tmAt L k := fun k hk => by rw [tmAt_add, tmAt_app hk]
  have tmN : tmAt (addKid (L ++ [(t, [])]) a L.length) L.length = some t := by
    rw [tmAt_add]
    unfold tmAt
    rw [List.getElem?_append_right (Nat.le_refl _)]
    simp
  have tms : ∀ ks : List Nat, (∀ k ∈ ks, k < L.length) → ks.map (tmAt (addKid (L ++ [(t, [])]) a L.length)) = ks.map (tmAt L) := fun ks hk => List.map_congr_left fun k hm => tm k (hk k hm)
  -- what stands at a place
  have cases_ : ∀ (i : Nat) (u : Tm) (ks : List Nat), (addKid (L ++ [(t, [])]) a L.length)[i]? = some (u, ks) →
      (i < L.length ∧ a = (i : Int) ∧ ∃ ks0, ks = ks0 ++ [L.length] ∧ L[i]? = some (u, ks0)) ∨ (i < L.length ∧ a ≠ (i : Int) ∧ L[i]? = some (u, ks)) ∨ (i = L.length ∧ u = t ∧ ks = []) := by
    intro i u ks e
    have hi : i < L.length + 1 := by
      have := (List.getElem?_eq_some_iff.mp e).1
      omega
    rcases get_add e with ⟨e1, ks0, e2, e3⟩ | ⟨e1, e3⟩
    · have hi' : i < L.length := by omega
      rw [List.getElem?_append_left hi'] at e3
      exact .inl ⟨hi', e1, ks0, e2, e3⟩
    · by_cases hi' : i < L.length
      · rw [List.getElem?_append_left hi'] at e3
        exact .inr (.inl ⟨hi', e1, e3⟩)
      · have ei : i = L.length := by omega
        subst ei
        rw [List.getElem?_append_right (Nat.le_refl _)] at e3
        simp at e3
        exact .inr (.inr ⟨rfl, e3.1.symm, e3.2⟩)
  refine ⟨fun p hp => ?_, fun i u ks e k hk => ?_, fun i u ks e => ?_, ?_, ?_⟩
  · rw [hlen]
    rcases List.mem_append.mp hp with hp | hp
    · obtain ⟨q, _, e⟩ := List.mem_map.mp hp
      rw [← e]
      show (L.length : Int) < ((L.length + 1 : Nat) : Int)
      omega
    · have := hab p hp
      omega
  · rw [hlen]
    rcases cases_ i u ks e with ⟨hi, e1, ks0, e2, e3⟩ | ⟨hi, e1, e3⟩ | ⟨_, _, e3⟩
    · rw [e2] at hk
      rcases List.mem_append.mp hk with hk | hk
      · have := h.lt i u ks0 e3 k hk
        omega
      · rw [List.mem_singleton.mp hk]
        omega
    · have := h.lt i u ks e3 k hk
      omega
    · rw [e3] at hk
      cases hk
  · rw [kidsOf_app, kidsOf_parts]
    rcases cases_ i u ks e with ⟨hi, e1, ks0, e2, e3⟩ | ⟨hi, e1, e3⟩ | ⟨hi, e2, e3⟩
    · have := h.kid i u ks0 e3
      rw [kidsOf_cons, if_pos e1] at this
      rw [if_neg (show ¬ L.length = i by omega), e2, List.map_append, tms ks0 fun k hk => (h.lt i u ks0 e3 k hk).2, List.map_singleton, tmN, ← this]
      simp
    · have := h.kid i u ks e3
      rw [kidsOf_cons, if_neg e1] at this
      rw [if_neg (show ¬ L.length = i by omega), tms ks fun k hk => (h.lt i u ks e3 k hk).2, ← this]
      simp
    · rw [if_pos hi.symm, e2, e3, hi, kidsOf_none hab]
      simp
  · refine .inr ?_
    rcases h.top with ⟨e1, e2⟩ | e
    · have e3 : (t, a) = (root, -1) := by injection e2
      have e4 : t = root := by injection e3
      have := tmN
      rw [e4] at this
      subst e1
      rw [e4]
      exact this
    · have h0 : 0 < L.length := by
        cases L with
        | nil => cases e
        | cons x r => exact Nat.succ_pos _
      rw [tm 0 h0]
      exact e
  · rw [hlen]
    have := h.sz
    rw [List.map_cons, szs] at this
    rw [List.map_append, szs_append, List.map_map]
    have e : ((fun x : Tm × Int => x.1) ∘ fun p => (p, (L.length : Int))) = id := rfl
    rw [e, List.map_id]
    cases t with
    | hole n =>
      rw [Tm.sz] at this
      show L.length + 1 + (szs [] + szs (S.map (·.1))) = root.sz
      rw [szs]
      omega
    | node f ps =>
      rw [Tm.sz] at this
      show L.length + 1 + (szs ps + szs (S.map (·.1))) = root.sz
      omega

/-! ### by rows -/
/-- the nodes T, the kids of the first lap of them -/
structure Bfs (root : Tm) (T : List Tm) (Ks : List (List Nat)) : Prop where
  le : Ks.length ≤ T.length
  kid : ∀ (i : Nat) (t : Tm) (ks : List Nat), T[i]? = some t → Ks[i]? = some ks → (∀ k ∈ ks, i < k ∧ k < T.length) ∧ ks.map (fun k => T[k]?) = t.parts.map some
  top : T[0]? = some root
  sz : T.length + szs ((T.drop Ks.length).flatMap Tm.parts) = root.sz
theorem Bfs.init (root : Tm) : Bfs root [root] [] where
  le := Nat.zero_le _
  kid := fun i t ks _ e => by simp at e
  top := rfl
  sz := by
    cases root with
    | hole n => simp [Tm.parts, szs, Tm.sz]
    | node f ps => simp [Tm.parts, szs, Tm.sz]
theorem map_range_get {T ps : List Tm} : (List.range' T.length ps.length).map (fun k => (T ++ ps)[k]?) = ps.map some := by
  apply List.ext_getElem?
  intro j
  rw [List.getElem?_map, List.getElem?_map]
  by_cases hj : j < ps.length
  · rw [List.getElem?_range' hj]
    simp [hj]
  · rw [List.getElem?_eq_none (by rw [List.length_range']; omega), List.getElem?_eq_none (by omega)]
    rfl
theorem Bfs.step {root : Tm} {T : List Tm} {Ks : List (List Nat)} {t : Tm} (h : Bfs root T Ks) (e : T[Ks.length]? = some t) :
    Bfs root (T ++ t.parts) (Ks ++ [List.range' T.length t.parts.length]) := by
  have hl : Ks.length < T.length := (List.getElem?_eq_some_iff.mp e).1
  refine ⟨by rw [List.length_append, List.length_append, List.length_singleton]; omega, fun i u ks e1 e2 => ?_, ?_, ?_⟩
  · by_cases hi : i < Ks.length
    · rw [List.getElem?_append_left hi] at e2
      rw [List.getElem?_append_left (by omega)] at e1
      obtain ⟨a, b⟩ := h.kid i u ks e1 e2
      refine ⟨fun k hk => ⟨(a k hk).1, by rw [List.length_append]; have := (a k hk).2; omega⟩, ?_⟩
      rw [← b]
      exact List.map_congr_left fun k hk => List.getElem?_append_left (a k hk).2
    · have hi' : i = Ks.length := by
        have := (List.getElem?_eq_some_iff.mp e2).1
        rw [List.length_append, List.length_singleton] at this
        omega
      subst hi'
      rw [List.getElem?_append_right (Nat.le_refl _)] at e2
      simp at e2
      rw [List.getElem?_append_left hl, e] at e1
      obtain rfl : t = u := Option.some.inj e1
      subst e2
      refine ⟨fun k hk => ?_, map_range_get⟩
      rw [List.mem_range'_1] at hk
      rw [List.length_append]
      omega
  · rw [List.getElem?_append_left (by omega)]
    exact h.top
  · have hd : T.drop Ks.length = t :: T.drop (Ks.length + 1) := by
      rw [List.drop_eq_getElem_cons hl]
      congr 1
      rw [List.getElem?_eq_getElem hl] at e
      exact Option.some.inj e
    have hs := h.sz
    rw [hd, List.flatMap_cons, szs_append] at hs
    rw [List.length_append, List.length_append, List.length_singleton, List.drop_append_of_le_length (by omega), List.flatMap_append, szs_append]
    have key : szs (t.parts.flatMap Tm.parts) + t.parts.length = szs t.parts := by
      have : ∀ ps : List Tm, szs (ps.flatMap Tm.parts) + ps.length = szs ps := by
        intro ps
        induction ps with
        | nil => rfl
        | cons p ps ih =>
          rw [List.flatMap_cons, szs_append, List.length_cons, szs, ← ih]
          cases p with
          | hole n => simp only [Tm.parts, szs, Tm.sz]; omega
          | node f qs => simp only [Tm.parts, Tm.sz]; omega
      exact this _
    omega
theorem Bfs.done {root : Tm} {T : List Tm} {Ks : List (List Nat)} (h : Bfs root T Ks) (e : Ks.length = T.length) : NdOk (T.zip Ks) ∧ tmAt (T.zip Ks) 0 = some root ∧ (T.zip Ks).length = root.sz := by
  have hz : (T.zip Ks).length = T.length := by rw [List.length_zip, e, Nat.min_self]
  have tm : ∀ k, tmAt (T.zip Ks) k = T[k]? := fun k => by
    unfold tmAt
    rw [← List.getElem?_map, List.map_fst_zip (by omega)]
  have sp : ∀ (i : Nat) (t : Tm) (ks : List Nat), (T.zip Ks)[i]? = some (t, ks) → T[i]? = some t ∧ Ks[i]? = some ks := fun i t ks h => by
    rw [List.getElem?_zip_eq_some] at h
    exact h
  refine ⟨⟨fun i t ks q => ?_, fun i t ks q => ?_⟩, ?_, ?_⟩
  · obtain ⟨a, b⟩ := sp i t ks q
    rw [hz]
    exact (h.kid i t ks a b).1
  · obtain ⟨a, b⟩ := sp i t ks q
    rw [← (h.kid i t ks a b).2]
    exact List.map_congr_left fun k _ => tm k
  · rw [tm]
    exact h.top
  · have hs := h.sz
    rw [e, List.drop_length, List.flatMap_nil, szs] at hs
    rw [hz]
    exact hs
end Rk

/-! ranks: those of the program stand ascending, those of the law are all arrangements; a list that stands strictly ascending is told by its members -/
namespace Rk
open PySem

/-! ### the order of texts and of rows of texts -/
abbrev sLt (x y : Str) : Prop := x.cps.toList < y.cps.toList
theorem str_ext {x y : Str} (h : x.cps.toList = y.cps.toList) : x = y := by
  obtain ⟨a⟩ := x
  obtain ⟨b⟩ := y
  have : a = b := Array.toList_inj.mp h
  rw [this]
theorem sLt_irrefl (x : Str) : ¬ sLt x x := List.lt_irrefl _
theorem sLt_asymm {x y : Str} (h : sLt x y) : ¬ sLt y x := List.lt_asymm h
theorem sLt_tri {x y : Str} (h : x ≠ y) : sLt x y ∨ sLt y x := by
  by_cases c : sLt x y
  · exact .inl c
  · by_cases d : sLt y x
    · exact .inr d
    · exact absurd (str_ext (List.le_antisymm (List.not_lt.mp d) (List.not_lt.mp c))) h
def rLt : List Str → List Str → Bool
  | [], [] => false
  | [], _ :: _ => true
  | _ :: _, [] => false
  | x :: xs, y :: ys => if x = y then rLt xs ys else decide (sLt x y)
theorem rLt_cons (x y : Str) (xs ys : List Str) : rLt (x :: xs) (y :: ys) = if x = y then rLt xs ys else decide (sLt x y) := rfl
theorem rLt_asymm : ∀ {xs ys : List Str}, rLt xs ys = true → rLt ys xs = true → False
  | [], [], h, _ => by cases h
  | [], _ :: _, _, h => by cases h
  | _ :: _, [], h, _ => by cases h
  | x :: xs, y :: ys, h1, h2 => by
    rw [rLt_cons] at h1 h2
    by_cases e : x = y
    · rw [if_pos e] at h1
      rw [if_pos e.symm] at h2
      exact rLt_asymm h1 h2
    · rw [if_neg e] at h1
      rw [if_neg (Ne.symm e)] at h2
      exact sLt_asymm (of_decide_eq_true h1) (of_decide_eq_true h2)
theorem rLt_tri : ∀ {xs ys : List Str}, xs ≠ ys → rLt xs ys = true ∨ rLt ys xs = true
  | [], [], h => absurd rfl h
  | [], _ :: _, _ => .inl rfl
  | _ :: _, [], _ => .inr rfl
  | x :: xs, y :: ys, h => by
    rw [rLt_cons, rLt_cons]
    by_cases e : x = y
    · rw [if_pos e, if_pos e.symm]
      exact rLt_tri fun z => h (by rw [e, z])
    · rw [if_neg e, if_neg (Ne.symm e), decide_eq_true_eq, decide_eq_true_eq]
      exact sLt_tri e
theorem rLt_app : ∀ {xs ys : List Str} (us vs : List Str), xs.length = ys.length → rLt xs ys = true → rLt (xs ++ us) (ys ++ vs) = true
  | [], [], _, _, _, h => by cases h
  | [], _ :: _, _, _, h, _ => by cases h
  | _ :: _, [], _, _, h, _ => by cases h
  | x :: xs, y :: ys, us, vs, hl, h => by
    rw [List.cons_append, List.cons_append, rLt_cons]
    rw [rLt_cons] at h
    by_cases e : x = y
    · rw [if_pos e] at h ⊢
      exact rLt_app us vs (Nat.succ.inj hl) h
    · rw [if_neg e] at h ⊢
      exact h
theorem rLt_last (x y : Str) (h : sLt x y) : ∀ r : List Str, rLt (r ++ [x]) (r ++ [y]) = true
  | [] => by
    show rLt [x] [y] = true
    have ne : x ≠ y := fun e => sLt_irrefl y (e ▸ h)
    rw [rLt_cons, if_neg ne, decide_eq_true_eq]
    exact h
  | z :: r => by
    rw [List.cons_append, List.cons_append, rLt_cons, if_pos rfl]
    exact rLt_last x y h r

/-! ### strictly ascending lists -/
theorem asc_inj {α : Type} {R : α → α → Prop} (as : ∀ {a b}, R a b → R b a → False) : ∀ {l m : List α}, l.Pairwise R → m.Pairwise R → (∀ x, x ∈ l ↔ x ∈ m) → l = m
  | [], [], _, _, _ => rfl
  | [], b :: m, _, _, h => by have := (h b).mpr List.mem_cons_self; cases this
  | a :: l, [], _, _, h => by have := (h a).mp List.mem_cons_self; cases this
  | a :: l, b :: m, hl, hm, h => by
    obtain ⟨h1, h2⟩ := List.pairwise_cons.mp hl
    obtain ⟨k1, k2⟩ := List.pairwise_cons.mp hm
    have e : a = b := by
      rcases List.mem_cons.mp ((h a).mp List.mem_cons_self) with e | ha
      · exact e
      · rcases List.mem_cons.mp ((h b).mpr List.mem_cons_self) with e | hb
        · exact e.symm
        · exact (as (h1 b hb) (k1 a ha)).elim
    subst e
    have : l = m := asc_inj as h2 k2 fun x => ⟨fun hx => by
      rcases List.mem_cons.mp ((h x).mp (List.mem_cons_of_mem _ hx)) with e | q
      · rw [e] at hx
        exact (as (h1 a hx) (h1 a hx)).elim
      · exact q, fun hx => by
      rcases List.mem_cons.mp ((h x).mpr (List.mem_cons_of_mem _ hx)) with e | q
      · rw [e] at hx
        exact (as (k1 a hx) (k1 a hx)).elim
      · exact q⟩
    rw [this]

/-! ### the program's ranks -/
def extR (ns : List Str) (F : List (List Str)) : List (List Str) := F.flatMap fun r => (ns.filter fun n => !decide (n ∈ r)).map fun n => r ++ [n]
def rks (ns : List Str) : Nat → List (List Str)
  | 0 => [[]]
  | k + 1 => extR ns (rks ns k)
theorem mem_rks {ns : List Str} : ∀ {k : Nat} {r : List Str}, r ∈ rks ns k ↔ r.Nodup ∧ (∀ x ∈ r, x ∈ ns) ∧ r.length = k
  | 0, r => by
    rw [rks, List.mem_singleton]
    constructor
    · intro e; subst e; exact ⟨List.nodup_nil, fun x hx => (by cases hx), rfl⟩
    · rintro ⟨_, _, h⟩; exact List.length_eq_zero_iff.mp h
  | k + 1, r => by
    rw [rks, extR, List.mem_flatMap]
    constructor
    · rintro ⟨q, hq, hr⟩
      obtain ⟨n, hn, e⟩ := List.mem_map.mp hr
      obtain ⟨hn1, hn2⟩ := List.mem_filter.mp hn
      obtain ⟨a, b, c⟩ := mem_rks.mp hq
      have nq : n ∉ q := by simpa using hn2
      subst e
      refine ⟨?_, fun x hx => ?_, by rw [List.length_append, c]; rfl⟩
      · rw [List.nodup_append]
        refine ⟨a, List.nodup_cons.mpr ⟨List.not_mem_nil, List.nodup_nil⟩, fun x hx y hy => ?_⟩
        rw [List.mem_singleton.mp hy]
        rintro rfl
        exact nq hx
      · rcases List.mem_append.mp hx with hx | hx
        · exact b x hx
        · rw [List.mem_singleton.mp hx]; exact hn1
    · rintro ⟨a, b, c⟩
      have hne : r ≠ [] := by rintro rfl; cases c
      have e := List.dropLast_concat_getLast hne
      rw [← e, List.nodup_append] at a
      refine ⟨r.dropLast, mem_rks.mpr ⟨a.1, fun x hx => b x (by rw [← e]; exact List.mem_append_left _ hx), by rw [List.length_dropLast, c]; rfl⟩, List.mem_map.mpr ⟨r.getLast hne, List.mem_filter.mpr ⟨b _ (List.getLast_mem hne), ?_⟩, e⟩⟩
      have : r.getLast hne ∉ r.dropLast := fun hm => a.2.2 _ hm _ (List.mem_singleton.mpr rfl) rfl
      simpa using this
theorem asc_rks {ns : List Str} (h : ns.Pairwise sLt) : ∀ k, (rks ns k).Pairwise fun a b => rLt a b = true
  | 0 => List.pairwise_singleton _ _
  | k + 1 => by
    rw [rks, extR, List.pairwise_flatMap]
    refine ⟨fun r hr => ?_, ?_⟩
    · rw [List.pairwise_map]
      exact (h.filter _).imp fun {a b} q => rLt_last a b q r
    · refine List.Pairwise.imp_of_mem (fun {a b} ha hb q x hx y hy => ?_) (asc_rks h k)
      obtain ⟨m, _, e1⟩ := List.mem_map.mp hx
      obtain ⟨n, _, e2⟩ := List.mem_map.mp hy
      rw [← e1, ← e2]
      exact rLt_app _ _ ((mem_rks.mp ha).2.2.trans (mem_rks.mp hb).2.2.symm) q
theorem perm_of_sub : ∀ {r ns : List Str}, r.Nodup → (∀ x ∈ r, x ∈ ns) → ns.length ≤ r.length → r.Perm ns
  | [], ns, _, _, h => by
    have : ns = [] := List.length_eq_zero_iff.mp (Nat.le_zero.mp h)
    rw [this]
  | x :: r, ns, hn, hs, hl => by
    obtain ⟨h1, h2⟩ := List.nodup_cons.mp hn
    have hx := hs x List.mem_cons_self
    have p := List.perm_cons_erase hx
    have ih := perm_of_sub (r := r) (ns := ns.erase x) h2 (fun y hy => (List.mem_erase_of_ne (fun e => h1 (by rw [← e]; exact hy))).mpr (hs y (List.mem_cons_of_mem _ hy))) (by
      rw [List.length_erase_of_mem hx]
      rw [List.length_cons] at hl
      omega)
    exact (ih.cons x).trans p.symm
theorem mem_rks_perm {ns : List Str} (h : ns.Nodup) {r : List Str} : r ∈ rks ns ns.length ↔ r.Perm ns := by
  rw [mem_rks]
  constructor
  · rintro ⟨a, b, c⟩
    exact perm_of_sub a b (by omega)
  · intro p
    exact ⟨p.nodup_iff.mpr h, fun x hx => p.mem_iff.mp hx, p.length_eq⟩

/-! ### the law's ranks -/
def insR (n : Str) (F : List (List Str)) : List (List Str) := F.flatMap fun o => (List.range (o.length + 1)).map fun k => o.take k ++ n :: o.drop k
def lawR : List Str → List (List Str) → List (List Str)
  | [], F => F
  | n :: ns, F => lawR ns (insR n F)
theorem mem_insR {n : Str} {pre : List Str} {F : List (List Str)} (h : ∀ o, o ∈ F ↔ o.Perm pre) (r : List Str) : r ∈ insR n F ↔ r.Perm (pre ++ [n]) := by
  have pn : (pre ++ [n]).Perm (n :: pre) := List.perm_append_singleton n pre
  rw [insR, List.mem_flatMap]
  constructor
  · rintro ⟨o, ho, hr⟩
    obtain ⟨k, _, e⟩ := List.mem_map.mp hr
    subst e
    refine List.perm_middle.trans ?_
    rw [List.take_append_drop]
    exact (((h o).mp ho).cons n).trans pn.symm
  · intro p
    have hn : n ∈ r := p.mem_iff.mpr (List.mem_append_right _ (List.mem_singleton.mpr rfl))
    obtain ⟨a, b, e⟩ := List.append_of_mem hn
    subst e
    refine ⟨a ++ b, (h _).mpr ?_, List.mem_map.mpr ⟨a.length, List.mem_range.mpr (by rw [List.length_append]; omega), ?_⟩⟩
    · exact ((List.perm_middle.symm.trans p).trans pn).cons_inv
    · rw [List.take_left, List.drop_left]
theorem mem_lawR : ∀ (ns pre : List Str) (F : List (List Str)), (∀ o, o ∈ F ↔ o.Perm pre) → ∀ r, r ∈ lawR ns F ↔ r.Perm (pre ++ ns)
  | [], pre, F, h, r => by rw [lawR, List.append_nil]; exact h r
  | n :: ns, pre, F, h, r => by
    rw [lawR, mem_lawR ns (pre ++ [n]) (insR n F) (mem_insR h) r, List.append_assoc]
    rfl
theorem mem_lawR_perm (ns : List Str) (r : List Str) : r ∈ lawR ns [[]] ↔ r.Perm ns := by
  rw [mem_lawR ns [] [[]] fun o => ?_]
  · rfl
  · rw [List.mem_singleton]
    exact ⟨fun e => by rw [e], fun p => List.perm_nil.mp p⟩
/-- THE TWO: what stands strictly ascending and has just those of the law's ranks that serve is the program's -/
theorem due_eq {ns : List Str} (hn : ns.Pairwise sLt) (hnd : ns.Nodup) (p q : List Str → Bool) (hpq : ∀ r, r.Perm ns → p r = q r) {due : List (List Str)} (ha : due.Pairwise fun a b => rLt a b = true)
    (hm : ∀ r, r ∈ due ↔ r ∈ (lawR ns [[]]).filter p) : due = (rks ns ns.length).filter q := by
  refine asc_inj (fun {a b} => rLt_asymm) ha ((asc_rks hn _).filter _) fun r => ?_
  rw [hm, List.mem_filter, List.mem_filter, mem_lawR_perm, mem_rks_perm hnd]
  constructor
  · rintro ⟨a, b⟩; exact ⟨a, by rw [← hpq r a]; exact b⟩
  · rintro ⟨a, b⟩; exact ⟨a, by rw [hpq r a]; exact b⟩
theorem asc_nodup {ns : List Str} (h : ns.Pairwise sLt) : ns.Nodup := by
  refine List.Pairwise.imp (fun {a b} q => ?_) h
  intro e
  rw [e] at q
  exact sLt_irrefl b q

/-! ### sizes -/
def fact : Nat → Nat
  | 0 => 1
  | n + 1 => (n + 1) * fact n
theorem len_rks_le {ns : List Str} : ∀ k, (rks ns k).length ≤ ns.length ^ k
  | 0 => Nat.le_refl _
  | k + 1 => by
    rw [rks, extR, Nat.pow_succ]
    have : ∀ F : List (List Str), (F.flatMap fun r => (ns.filter fun n => !decide (n ∈ r)).map fun n => r ++ [n]).length ≤ F.length * ns.length := by
      intro F
      induction F with
      | nil => simp
      | cons a F ih =>
        rw [List.flatMap_cons, List.length_append, List.length_map, List.length_cons, Nat.succ_mul]
        have := List.length_filter_le (fun n => !decide (n ∈ a)) ns
        omega
    exact Nat.le_trans (this _) (Nat.mul_le_mul_right _ (len_rks_le k))
end Rk

/-! places at which two lists part; books as lists by place -/
namespace Rk
open PySem
theorem range_map_get {α β : Type} (g : α → β) (d : β) (l : List α) : (List.range l.length).map (fun i => ((l[i]?).map g).getD d) = l.map g := by
  apply List.ext_getElem
  · rw [List.length_map, List.length_range, List.length_map]
  · intro i h1 h2
    rw [List.length_map] at h2
    rw [List.getElem_map, List.getElem_range, List.getElem_map, List.getElem?_eq_getElem h2]
    rfl
noncomputable def keepAt (ps qs : List Tm) (i : Nat) : Bool := match ps[i]?, qs[i]? with
  | some p, some q => !eqB p q
  | _, _ => false
noncomputable def uIdx (ps qs : List Tm) : List Nat := (List.range ps.length).filter (keepAt ps qs)
theorem uIdx_cons (p q : Tm) (ps qs : List Tm) : uIdx (p :: ps) (q :: qs) = if eqB p q = true then (uIdx ps qs).map (· + 1) else 0 :: (uIdx ps qs).map (· + 1) := by
  unfold uIdx
  rw [List.length_cons, List.range_succ_eq_map, List.filter_cons, List.filter_map]
  have e : (keepAt (p :: ps) (q :: qs) ∘ Nat.succ) = keepAt ps qs := by
    funext i
    show keepAt (p :: ps) (q :: qs) (i + 1) = _
    unfold keepAt
    rw [List.getElem?_cons_succ, List.getElem?_cons_succ]
  rw [e]
  have k0 : keepAt (p :: ps) (q :: qs) 0 = !eqB p q := rfl
  rw [k0]
  cases eqB p q <;> rfl
theorem uIdx_nil {ps qs : List Tm} : ∀ (hl : ps.length = qs.length), uIdx ps qs = [] → ps = qs := by
  induction ps generalizing qs with
  | nil => intro hl _; exact (List.length_eq_zero_iff.mp hl.symm).symm
  | cons p ps ih =>
    intro hl h
    cases qs with
    | nil => cases hl
    | cons q qs =>
      rw [uIdx_cons] at h
      cases e : eqB p q with
      | false => rw [e] at h; simp at h
      | true =>
        rw [e, if_pos rfl] at h
        rw [eqB_iff.mp e, ih (Nat.succ.inj hl) (List.map_eq_nil_iff.mp h)]
theorem uIdx_all (g : Tm → Bool) : ∀ {ps qs : List Tm}, ps.length = qs.length → ((uIdx ps qs).all fun i => ((qs[i]?).map g).getD true) = ((ps.zip qs).filter fun z => !eqB z.1 z.2).all fun z => g z.2
  | [], [], _ => rfl
  | [], _ :: _, h => by cases h
  | _ :: _, [], h => by cases h
  | p :: ps, q :: qs, hl => by
    have ih := uIdx_all g (ps := ps) (qs := qs) (Nat.succ.inj hl)
    have e1 : ((uIdx ps qs).map (· + 1)).all (fun i => (((q :: qs)[i]?).map g).getD true) = (uIdx ps qs).all fun i => ((qs[i]?).map g).getD true := by
      rw [List.all_map]
      rfl
    rw [uIdx_cons, List.zip_cons_cons, List.filter_cons]
    cases e : eqB p q with
    | true => simp only [if_true, e1, ih, Bool.not_true]; rfl
    | false =>
      simp only [Bool.false_eq_true, if_false, List.all_cons, e1, ih, Bool.not_false, if_true]
      rfl
theorem uIdx_split : ∀ {ps qs : List Tm} {i0 : Nat} {rest : List Nat}, ps.length = qs.length → uIdx ps qs = i0 :: rest →
    ∃ pre p q ps' qs', ps = pre ++ p :: ps' ∧ qs = pre ++ q :: qs' ∧ pre.length = i0 ∧ p ≠ q ∧ ps'.length = qs'.length ∧ ∀ g : Tm → Bool, (rest.all fun i => ((qs[i]?).map g).getD true) = ((ps'.zip qs').filter fun z => !eqB z.1 z.2).all fun z => g z.2
  | [], [], _, _, _, h => by cases h
  | [], _ :: _, _, _, h, _ => by cases h
  | _ :: _, [], _, _, h, _ => by cases h
  | p :: ps, q :: qs, i0, rest, hl, h => by
    rw [uIdx_cons] at h
    have e1 : ∀ (l : List Nat) (g : Tm → Bool), (l.map (· + 1)).all (fun i => (((q :: qs)[i]?).map g).getD true) = l.all fun i => ((qs[i]?).map g).getD true := fun l g => by
      rw [List.all_map]
      rfl
    cases e : eqB p q with
    | true =>
      rw [e, if_pos rfl] at h
      cases hu : uIdx ps qs with
      | nil => rw [hu] at h; cases h
      | cons j0 r =>
        rw [hu, List.map_cons] at h
        injection h with h1 h2
        obtain ⟨pre, a, b, ps', qs', q1, q2, q3, q4, q5, q6⟩ := uIdx_split (Nat.succ.inj hl) hu
        refine ⟨p :: pre, a, b, ps', qs', by rw [q1]; rfl, by rw [q2, eqB_iff.mp e]; rfl, by rw [List.length_cons, q3]; exact h1, q4, q5, fun g => ?_⟩
        rw [← h2, e1, q6]
    | false =>
      rw [e, if_neg (by decide)] at h
      injection h with h1 h2
      refine ⟨[], p, q, ps, qs, rfl, rfl, h1, fun c => ?_, Nat.succ.inj hl, fun g => ?_⟩
      · rw [eqB_iff.mpr c] at e; cases e
      · rw [← h2, e1]
        exact uIdx_all g (Nat.succ.inj hl)
end Rk

/-! rules of my own: a tuple's slice backwards; enumerate of a tuple -/
namespace Rk
open PySem PySem.Spec PyProof.Rows L2

/-! ### t[:0:-1], t[::-1] -/
section
variable {prog : Program} {w : World} {A : Around} {E : Value → Shared → Prop} {s : Shared}
theorem applied_back {sl : Addr} {vl vu vs : Value} {lo hi : Option Int} {n k : Nat} {a b : Int} {Q : Int × Int × Nat → Shared → Prop} (hs : s.heap.IsSliceOf sl vl vu vs) (pl : IsPart vl lo) (pu : IsPart vu hi) (ps : IsPart vs (some (-1)))
    (ha : Builtin.Slice.sliceAdjust lo hi (-1) (n : Int) = (a, b)) (hk : Builtin.Slice.slicePlaces a b (-1) = k) (h : Q (a, -1, k) s) : wpAny (model prog w) A (Builtin.Slice.sliceApplied (.ref sl) (pure (n : Int))) Q E s := by
  obtain ⟨os, hos, hcs, hds⟩ := id hs
  unfold Builtin.Slice.sliceApplied
  unfold Builtin.Slice.sliceFields
  refine wpAny_bind (wpAny_bind (wpAny_field hos hds (x := vl) rfl (wpAny_bind (wpAny_field hos hds (x := vu) rfl ?_))))
  refine wpAny_bind (wpAny_field hos hds (x := vs) rfl (wpAny_pure ?_))
  refine wpAny_bind (HT.slicePart_ ps ?_)
  show wpAny _ _ (if ((-1 : Int) == 0) = true then _ else _) _ _ s
  rw [if_neg (by decide : ¬ ((-1 : Int) == 0) = true)]
  refine wpAny_bind (HT.slicePart_ pl (wpAny_bind (HT.slicePart_ pu ?_)))
  refine wpAny_bind (wpAny_pure ?_)
  show wpAny _ _ (match Builtin.Slice.sliceAdjust lo hi (-1) (n : Int) with | (lo, hi) => pure (lo, (-1 : Int), Builtin.Slice.slicePlaces lo hi (-1))) _ _ s
  rw [ha]
  show wpAny _ _ (pure (a, (-1 : Int), Builtin.Slice.slicePlaces a b (-1))) _ _ s
  rw [hk]
  exact wpAny_pure h
theorem tup_back {t sl : Addr} {items : Array Value} {vl vu vs : Value} {lo hi : Option Int} {k : Nat} {a b : Int} {ys : List Value} {Q : Value → Shared → Prop} (ht : IsTup s.heap t items) (hs : s.heap.IsSliceOf sl vl vu vs)
    (pl : IsPart vl lo) (pu : IsPart vu hi) (ps : IsPart vs (some (-1))) (ha : Builtin.Slice.sliceAdjust lo hi (-1) (items.size : Int) = (a, b)) (hk : Builtin.Slice.slicePlaces a b (-1) = k)
    (hy : ((List.range k).filterMap fun (m : Nat) => items[(a + (m : Int) * (-1)).toNat]?) = ys) (hz : ys.length ≤ sizeLine)
    (h : Q (.ref s.heap.objs.size) { s with heap := s.heap.push { cls := .type "tuple", data := .seq ys.toArray } }) : wpAny (model prog w) A (getItem (.ref t) (.ref sl)) Q E s := by
  have hsz : sizeOk (.seq ys.toArray) := by
    show ys.toArray.size ≤ sizeLine
    rw [List.size_toArray]
    exact hz
  obtain ⟨os, hos, hcs, _⟩ := id hs
  have hTs : s.TypeIs (.ref sl) "slice" := ⟨os, hos, hcs⟩
  unfold getItem
  try with_reducible refine wpAny_holding ?_
  first | refine wpAny_bind (wpAny_pure ?_) | skip
  refine wpAny_bind (wpAny_sequenceKey ht.typeIs (by decide) ?_)
  refine wpAny_bind (wpAny_callSpecial?_slot (name := Str.ofString "__getitem__") ht.typeIs slot_tuple_getitem (wpAny_call_entry slot_tuple_getitem ht.typeIs entry_tuple_getitem ?_ (args_tuple_getitem _ _)))
  show wpAny _ _ (Builtin.Tuple.tupleItemsOf (.ref t) >>= _) _ _ s
  refine wpAny_bind (tupleItemsOf_ ht (wpAny_bind (wpAny_typeOf hTs ?_)))
  rw [if_pos (by decide)]
  refine wpAny_bind (applied_back hs pl pu ps ha hk ?_)
  show wpAny _ _ (if (a == 0 && (-1 : Int) == 1 && k == items.size) = true then _ else _) _ _ s
  rw [if_neg (by simp), hy]
  first
    | exact wpAny_bind (m := Builtin.Tuple.tupleExact _) (wpAny_newObj_type (wpAny_pure ⟨_, rfl, wpAny_pure h⟩) hsz)
    | exact wpAny_bind (m := Builtin.Tuple.tupleExact _) (wpAny_newObj_type (wpAny_bind (wpAny_pure (wpAny_pure ⟨_, rfl, wpAny_pure h⟩))) hsz)
    | exact wpAny_bind (wpAny_bind (m := Builtin.Tuple.tupleExact _) (wpAny_newObj_type (wpAny_pure (wpAny_pure ⟨_, rfl, wpAny_pure h⟩)) hsz))
    | exact wpAny_bind (wpAny_bind (m := Builtin.Tuple.tupleExact _) (wpAny_newObj_type (wpAny_pure ⟨_, rfl, wpAny_pure h⟩) hsz))
end
/-- the last k items, from the end -/
theorem pick_back (xs : List Value) : ∀ k, k ≤ xs.length → ((List.range k).filterMap fun (m : Nat) => xs.toArray[((xs.length : Int) - 1 + (m : Int) * (-1)).toNat]?) = (xs.drop (xs.length - k)).reverse
  | 0, _ => by simp
  | k + 1, h => by
    have hlt : xs.length - (k + 1) < xs.length := by omega
    rw [List.range_succ, List.filterMap_append, pick_back xs k (by omega)]
    have e : ((xs.length : Int) - 1 + (k : Int) * (-1)).toNat = xs.length - (k + 1) := by omega
    have e2 : xs.length - (k + 1) + 1 = xs.length - k := by omega
    rw [List.drop_eq_getElem_cons hlt, List.reverse_cons, e2]
    congr 1
    rw [List.filterMap_cons, e]
    simp [List.getElem?_eq_getElem hlt]
theorem adj_all (n : Nat) : Builtin.Slice.sliceAdjust none none (-1) (n : Int) = ((n : Int) - 1, -1) := rfl
theorem adj_one (n : Nat) (h : 1 ≤ n) : Builtin.Slice.sliceAdjust none (some 0) (-1) (n : Int) = ((n : Int) - 1, 0) := by
  show ((n : Int) - 1, if (0 : Int) < 0 then max (0 + (n : Int)) (-1) else min 0 ((n : Int) - 1)) = _
  rw [if_neg (by decide), Int.min_eq_left (by omega)]
theorem places_all (n : Nat) : Builtin.Slice.slicePlaces ((n : Int) - 1) (-1) (-1) = n := by
  unfold Builtin.Slice.slicePlaces
  rw [if_neg (by decide)]
  show (if (n : Int) - 1 > -1 then ((n : Int) - 1 - -1 - 1) / 1 + 1 else 0).toNat = n
  rw [Int.ediv_one]
  split <;> omega
theorem places_one (n : Nat) (h : 1 ≤ n) : Builtin.Slice.slicePlaces ((n : Int) - 1) 0 (-1) = n - 1 := by
  unfold Builtin.Slice.slicePlaces
  rw [if_neg (by decide)]
  show (if (n : Int) - 1 > 0 then ((n : Int) - 1 - 0 - 1) / 1 + 1 else 0).toNat = n - 1
  rw [Int.ediv_one]
  split <;> omega
section
variable {X : Cx}
def tRevT (K : PySem.W.Frag) (te : TE) : TE := fun σ H Q => te σ H fun x H1 => ∃ a xs, x = .ref a ∧ SqT K H1 a xs ∧ ∀ p, H1 p = none → Q (.ref p) (upd H1 p (.tup xs.reverse))
theorem pe_revT {e : Expr} {te : TE} {k : Nat} {p1 p2 p3 pos : Pos} (he : PE X e te) : PE X (.Subscript e (.Slice none none (some (.UnaryOp .USub (.Constant (.int 1) k p1) p2)) p3) pos) (tRevT X.K te) := by
  refine ⟨fun pins s σ H Q I h => Subscript_ (thn (he.run pins s σ H _ I h) fun v s1 ⟨x, H1, I1, r1, q1⟩ => ?_)⟩
  obtain ⟨a, xs, ex, hx, q⟩ := q1
  subst ex
  cases r1
  have hst : PO X (some (.UnaryOp .USub (.Constant (.int 1) k p1) p2)) (tPart (tUn (rU fun i => .int (-i)) (tC (.int 1)))) := po_some (pe_un un_neg pe_int)
  refine wpAny_Slice (thn (po_none.run pins s1 σ H1 (fun o H2 => o = none ∧ H2 = H1) I1 ⟨rfl, rfl⟩) fun vl s2 ⟨l, H2, I2, pl, el, e2⟩ => ?_)
  subst el e2
  refine thn (po_none.run pins s2 σ H2 (fun o H3 => o = none ∧ H3 = H2) I2 ⟨rfl, rfl⟩) fun vu s3 ⟨u, H3, I3, pu, eu, e3⟩ => ?_
  subst eu e3
  refine thn (hst.run pins s3 σ H3 (fun o H4 => o = some (-1) ∧ H4 = H3) I3 ⟨1, rfl, -1, rfl, rfl, rfl⟩) fun vs s4 ⟨o, H4, I4, ps, eo, e4⟩ => ?_
  subst eo e4
  have I5 : Inv X pins σ H4 { s4 with heap := s4.heap.push { cls := .type "slice", data := .fields #[vl, vu, vs] } } := I4.kept (t' := s4.toks) fun b ob q => Heap.get?_push_of_some _ q
  obtain ⟨its, r, ht, hz⟩ := I5.tuple hx
  have hlen := r.length
  refine tail_any (ops := [.ref a, .ref s4.heap.objs.size]) ht.typeIs (slot_tuple_getitem.lookup) ?_ (by with_unfolding_all rfl)
  refine tup_back (k := its.length) (ys := its.reverse) ht (Heap.IsSliceOf.new _ vl vu vs) pl pu ps (by rw [List.size_toArray]; exact adj_all _) (places_all _) ?_ (by rw [List.length_reverse]; omega) ?_
  · have := pick_back its its.length (Nat.le_refl _)
    rw [Nat.sub_self, List.drop_zero] at this
    exact this
  · refine ⟨.ref _, _, I5.laid (t' := s4.toks) (o := .tup xs.reverse) (fun b ob q => Heap.get?_push_of_some _ q) (Nat.le_refl _) ?_, rfl, q _ (I5.hok.fresh (Nat.le_refl _))⟩
    exact ⟨by rw [List.length_reverse]; exact hz, its.reverse, r.reverse, ⟨_, Heap.get?_push_size _ rfl, rfl, _, rfl⟩⟩
def tTailRev (K : PySem.W.Frag) (te : TE) : TE := fun σ H Q => te σ H fun x H1 => ∃ a y xs, x = .ref a ∧ SqT K H1 a (y :: xs) ∧ ∀ p, H1 p = none → Q (.ref p) (upd H1 p (.tup xs.reverse))
theorem pe_tailRev {e : Expr} {te : TE} {k k0 : Nat} {p0 p1 p2 p3 pos : Pos} (he : PE X e te) : PE X (.Subscript e (.Slice none (some (.Constant (.int 0) k0 p0)) (some (.UnaryOp .USub (.Constant (.int 1) k p1) p2)) p3) pos) (tTailRev X.K te) := by
  refine ⟨fun pins s σ H Q I h => Subscript_ (thn (he.run pins s σ H _ I h) fun v s1 ⟨x, H1, I1, r1, q1⟩ => ?_)⟩
  obtain ⟨a, y, xs, ex, hx, q⟩ := q1
  subst ex
  cases r1
  have hst : PO X (some (.UnaryOp .USub (.Constant (.int 1) k p1) p2)) (tPart (tUn (rU fun i => .int (-i)) (tC (.int 1)))) := po_some (pe_un un_neg pe_int)
  have h0 : PO X (some (.Constant (.int 0) k0 p0)) (tPart (tC (.int 0))) := po_some pe_int
  refine wpAny_Slice (thn (po_none.run pins s1 σ H1 (fun o H2 => o = none ∧ H2 = H1) I1 ⟨rfl, rfl⟩) fun vl s2 ⟨l, H2, I2, pl, el, e2⟩ => ?_)
  subst el e2
  refine thn (h0.run pins s2 σ H2 (fun o H3 => o = some 0 ∧ H3 = H2) I2 ⟨0, rfl, rfl, rfl⟩) fun vu s3 ⟨u, H3, I3, pu, eu, e3⟩ => ?_
  subst eu e3
  refine thn (hst.run pins s3 σ H3 (fun o H4 => o = some (-1) ∧ H4 = H3) I3 ⟨1, rfl, -1, rfl, rfl, rfl⟩) fun vs s4 ⟨o, H4, I4, ps, eo, e4⟩ => ?_
  subst eo e4
  have I5 : Inv X pins σ H4 { s4 with heap := s4.heap.push { cls := .type "slice", data := .fields #[vl, vu, vs] } } := I4.kept (t' := s4.toks) fun b ob q => Heap.get?_push_of_some _ q
  obtain ⟨its, r, ht, hz⟩ := I5.tuple hx
  cases r with
  | @cons _ u _ us r0 r =>
  have hlen := r.length
  rw [List.length_cons] at hz
  refine tail_any (ops := [.ref a, .ref s4.heap.objs.size]) ht.typeIs (slot_tuple_getitem.lookup) ?_ (by with_unfolding_all rfl)
  refine tup_back (a := ((u :: us).length : Int) - 1) (b := 0) (k := us.length) (ys := us.reverse) ht (Heap.IsSliceOf.new _ vl vu vs) pl pu ps (by rw [List.size_toArray]; exact adj_one _ (Nat.succ_pos _)) ?_ ?_ (by rw [List.length_reverse]; omega) ?_
  · rw [places_one (u :: us).length (Nat.succ_pos _), List.length_cons]
    omega
  · have := pick_back (u :: us) us.length (by rw [List.length_cons]; omega)
    have e : (u :: us).length - us.length = 1 := by rw [List.length_cons]; omega
    rw [e] at this
    exact this
  · refine ⟨.ref _, _, I5.laid (t' := s4.toks) (o := .tup xs.reverse) (fun b ob q => Heap.get?_push_of_some _ q) (Nat.le_refl _) ?_, rfl, q _ (I5.hok.fresh (Nat.le_refl _))⟩
    exact ⟨by rw [List.length_reverse]; omega, us.reverse, Vals.reverse r, ⟨_, Heap.get?_push_size _ rfl, rfl, _, rfl⟩⟩
end

/-! ### enumerate(t), t a tuple -/
open AutoSeq1 (wpAny_loadPart') in
theorem meets_enumT (l : Addr) (items : Array Value) (n : Nat) (dct : Option Addr) (sl : Array (Option Value)) :
    Meets (Builtin.«enumerate.__new__» ⟨[.type "enumerate", .ref l], []⟩) (fun _ R s => s.heap.get? l = some { cls := .type "tuple", dict := dct, data := .seq items n, slots := sl } ∧
      R (.ok (.ret (.ref (s.heap.push { cls := .type "tuple_iterator", data := .fields #[.ref l, .int 0 0] }).objs.size)))
        { s with heap := (s.heap.push { cls := .type "tuple_iterator", data := .fields #[.ref l, .int 0 0] }).push { cls := .type "enumerate", data := .fields #[.none, .bool false, .ref s.heap.objs.size, rawInt 0, .none, .none] } }) :=
  .of_wp fun prog w A R s h => by
    obtain ⟨hp, g, d, tk, os⟩ := s
    obtain ⟨hl, h⟩ := h
    have hsub := sub_enumerate
    have hL : Heap.IsTuple (Shared.heap ⟨hp, g, d, tk, os⟩) l items := ⟨_, hl, rfl, n, rfl⟩
    wp_walk using wpAny_loadPart' hl
    refine wpAny_stack_any fun st => wpAny_pure ?_
    split
    · rename_i c _ _ _ _ _
      cases (c == Value.type "enumerate") <;>
      · wp_walk using wpAny_loadPart' hl, wpAny_pyIter_tuple hL
        exact ⟨_, rfl, h⟩
    · wp_walk using wpAny_loadPart' hl, wpAny_pyIter_tuple hL
      exact ⟨_, rfl, h⟩
theorem call_enumT {prog : Program} {w : World} {A : Around} {E : Value → Shared → Prop} {s : Shared} {l : Addr} {items : Array Value} {Q : Value → Shared → Prop} (hL : IsTup s.heap l items)
    (h : ∀ h', IsEnum h' (s.heap.objs.size + 1) s.heap.objs.size 0 .none → h'.IsTupleIter s.heap.objs.size l 0 → h'.objs.size = s.heap.objs.size + 2 →
      (∀ b o, s.heap.get? b = some o → h'.get? b = some o) → Q (.ref (s.heap.objs.size + 1)) { s with heap := h' }) : wpAny (model prog w) A (call (.type "enumerate") [.ref l]) Q E s := by
  obtain ⟨⟨ocls, odict, odata, oslots⟩, hol, hcl, nl, hdl⟩ := hL
  simp only at hcl hdl
  subst hcl hdl
  refine callType_new F.called_enumerate (by decide) (F.typeCall_enumerate_1 _) (F.newCall_enumerate_1 _) (fun obj => F.args_object_init_2 obj _) F.entry_enumerate_new (meets_enumT l items nl odict oslots) ⟨hol, ?_⟩
  have hz : (s.heap.push { cls := .type "tuple_iterator", data := .fields #[.ref l, .int 0 0] }).objs.size = s.heap.objs.size + 1 := Heap.size_push ..
  have hi : (s.heap.push { cls := .type "tuple_iterator", data := .fields #[.ref l, .int 0 0] }).get? s.heap.objs.size = some { cls := .type "tuple_iterator", data := .fields #[.ref l, .int 0 0] } := Heap.get?_push_size _ rfl
  have he := Heap.get?_push_size (s.heap.push { cls := .type "tuple_iterator", data := .fields #[.ref l, .int 0 0] }) (o := { cls := .type "enumerate", data := .fields #[.none, .bool false, .ref s.heap.objs.size, rawInt 0, .none, .none] }) rfl
  rw [hz] at he ⊢
  exact ⟨⟨_, he, rfl⟩, h _ he ⟨_, Heap.get?_push_of_some _ hi, rfl, rfl⟩ (by rw [Heap.size_push, hz]) fun b o x => Heap.get?_push_of_some _ (Heap.get?_push_of_some _ x)⟩
/-- the items of the tuple at a, counted, in new pairs -/
def IteT (K : PySem.W.Frag) (a : Addr) : It :=
  ⟨fun i H => ∃ (xs : List V) (x : V), SqT K H a xs ∧ xs[i]? = some x, fun i H v H' => ∃ T x, v = .ref T ∧ H T = none ∧ H' = upd H T (.tup [.int (i : Nat), x]) ∧ ∀ xs, SqT K H a xs → xs[i]? = some x,
    fun i H => ∃ xs : List V, SqT K H a xs ∧ xs.length ≤ i⟩
theorem turn_enumT {P : Program} {w : World} {K : PySem.W.Frag} {elts : List Expr} {kk : Nat} {tpos : Pos} (a e it : Addr) (hae : a ≠ e) (hai : a ≠ it) :
    Turn P w K (.Tuple elts kk tpos) (IteT K a) [e, it] e (fun i h => (∃ old, IsEnum h e it ((i : Nat) : Int) old) ∧ h.IsTupleIter it a i ∧ e ≠ it) where
  mem := by simp
  obj := fun i h st b hb => by
    obtain ⟨⟨old, he⟩, ⟨o, ho, hc, hd⟩, _⟩ := st
    rcases List.mem_cons.mp hb with z | z
    · exact ⟨_, by rw [z]; exact he, fun v q => (by cases q)⟩
    · refine ⟨o, by rw [List.mem_singleton.mp z]; exact ho, fun v q => ?_⟩
      rw [hd] at q
      cases q
  keep := fun i h h' st k => let ⟨⟨old, he⟩, hi, hne⟩ := st; ⟨⟨old, k e (by simp) _ he⟩, hi.at fun o q => k it (by simp) o q, hne⟩
  item := by
    intro X hP hw hK hc i pins s σ H E I hf st hg
    subst hP hw hK
    obtain ⟨⟨old, he⟩, hit, hne⟩ := st
    obtain ⟨xs, x, hq, hx⟩ := hg
    obtain ⟨its, rv, p, hz⟩ := I.tuple hq
    obtain ⟨u, hu, ru⟩ := rv.get hx
    have hil : it < s.heap.objs.size := by obtain ⟨_, q, _⟩ := hit; exact Heap.lt_size q
    have hlt : i < its.length := (List.getElem?_eq_some_iff.mp hu).1
    refine wpAny_pyNext_enum_itemD (Draws.tuple (prog := X.prog) (w := X.w) (A := X.A.in1) (I.ok.hd hc) it a hai its.toArray) he ⟨hit, p⟩ (by rw [List.size_toArray]; exact hlt) hne (by simp [hne, Ne.symm hae]) fun y h' tk hy ho hst' hT hsz hk => ?_
    have ey : y = u := by
      have q : its[i]? = some y := by simpa using hy
      exact Option.some.inj (q.symm.trans hu)
    subst ey
    refine ⟨_, rfl, wpAny_letOwnedTupleGo_enum (s := { s with heap := h', toks := tk + 1 }) ho fun h'' he' sb => ?_⟩
    have hne2 : s.heap.objs.size ≠ e := Nat.ne_of_gt (Heap.lt_size he)
    have hT2 : h''.get? s.heap.objs.size = some { cls := .type "tuple", data := .seq #[.int i tk, y] } := (sb.2 _ hne2).trans hT
    have new : ObjOk X.prog X.w (upd H s.heap.objs.size (.tup [.int (i : Nat), x])) h'' s.heap.objs.size (.tup [.int (i : Nat), x]) :=
      ⟨(by decide : 2 ≤ sizeLine), [.int i tk, y], .cons ⟨_, rfl⟩ (.cons ru .nil), ⟨_, hT2, rfl, _, rfl⟩⟩
    have I1 : Inv X pins σ (upd H s.heap.objs.size (.tup [.int (i : Nat), x])) { s with heap := h'', toks := tk + 1 } :=
      I.turnedNew (ch := [e, it]) (fun b ob hb q => (sb.2 b (fun z => hb (by simp [z]))).trans (hk b ob (fun z => hb (by simp [z])) (fun z => hb (by simp [z])) q)) hf (Nat.le_refl _) new
    refine ⟨.ref s.heap.objs.size, _, I1, rfl, ⟨_, x, rfl, I.hok.fresh (Nat.le_refl _), rfl, fun ys hy' => by rw [I.tuple_inj hy' hq]; exact hx⟩, ⟨⟨y, ?_⟩, hst'.1.at fun o q => (sb.2 it (Ne.symm hne)).trans q, hne⟩, fun b hb => ?_⟩
    · rw [show ((i + 1 : Nat) : Int) = (i : Int) + 1 by omega]
      exact he'
    · have hb' : b < s.heap.objs.size := by
        rcases List.mem_cons.mp hb with z | z
        · rw [z]; exact Heap.lt_size he
        · rw [List.mem_singleton.mp z]; exact hil
      rw [upd_ne (Nat.ne_of_lt hb')]
      exact (hf b hb).1
  done := by
    intro X hP hw hK hc i pins s σ H E I hf st hg
    subst hP hw hK
    obtain ⟨⟨old, he⟩, hit, hne⟩ := st
    obtain ⟨xs, hq, hx⟩ := hg
    obtain ⟨its, rv, p, hz⟩ := I.tuple hq
    obtain ⟨f0, f1, f2, f3, f4, f5⟩ := hf it (by simp)
    have hl := rv.length
    have hT : s.TypeIs (.ref e) "enumerate" := ⟨_, he, rfl⟩
    unfold pyNext
    refine wpAny_bind (wpAny_attempt (wpAny_callSpecial?_slot (name := Str.ofString "__next__") hT F.slot_enumerate_next (wpAny_call_entry F.slot_enumerate_next hT F.entry_enumerate_next ?_ (F.args_enumerate_next_1 _))))
    show wpAny _ _ (field (.ref e) 2 >>= _) _ _ _
    refine wpAny_bind (wpAny_field he rfl (x := .ref it) rfl ?_)
    refine wpAny_bind (wpAny_nextOf_tuple_end (I.ok.hd hc) hit p (by simp; omega) fun h' x eb hx' => ?_)
    obtain ⟨o, ho, hcl⟩ := hx'
    refine wpAny_bind (wpAny_isInstance (T := "StopIteration") (b := true) ⟨o, ho, hcl⟩ isSubtype_stop ?_)
    exact wpAny_pure ⟨rfl, I.turned (t' := s.toks) (fun b o hb q => eb b o hb q) f0 f1 f3 f4 f5⟩
  self := fun A i s Q E st h => let ⟨⟨_, he⟩, _⟩ := st; wpAny_pyIter_enum he h
def iEnumT (K : PySem.W.Frag) (ta : TA) : TI := fun σ H R => ta σ H fun vs H1 => ∃ a xs, vs = [.ref a] ∧ SqT K H1 a xs ∧ R (IteT K a) H1
theorem pi_enumT {X : Cx} {e : Expr} {ta : TA} {p pos tpos : Pos} {elts : List Expr} {kk : Nat} (hg : Gl X "enumerate") (hm : X.mg "enumerate" = none) (ha : PA X [e] ta) (hs : starEach [e] X.env = [(false, eval e X.env)] := by rfl) :
    PI X (.Tuple elts kk tpos) (.Call (.Name "enumerate" p) [e] [] pos) (iEnumT X.K ta) := by
  refine ⟨fun pins s σ H R I h => ?_⟩
  refine Call_ (ld_blt I hg hm boot_enumerate (callWith_type1 (thn (ha.run pos pins s σ H _ I h) fun us s1 ⟨vs, H1, I1, r1, q1⟩ => ?_) hs rfl))
  obtain ⟨a, xs, ex, hq, q⟩ := q1
  subst ex
  rw [Vals.ref1 r1]
  obtain ⟨its, rv, p', hz⟩ := I1.tuple hq
  have hal : a < s1.heap.objs.size := by obtain ⟨_, q, _⟩ := p'; exact Heap.lt_size q
  refine call_enumT p' fun h' he hit hsz hk => wpAny_pyIter_enum he ?_
  have I2 : Inv X pins σ H1 { s1 with heap := h' } := I1.kept (t' := s1.toks) hk
  refine ⟨s1.heap.objs.size + 1, [s1.heap.objs.size + 1, s1.heap.objs.size], _, _, H1, rfl, I2, turn_enumT a (s1.heap.objs.size + 1) s1.heap.objs.size (Nat.ne_of_lt (Nat.lt_succ_of_lt hal)) (Nat.ne_of_lt hal), ⟨⟨.none, he⟩, hit, Nat.succ_ne_self _⟩, fun b hb => ?_, q⟩
  have hle : s1.heap.objs.size ≤ b := by
    rcases List.mem_cons.mp hb with z | z
    · rw [z]; exact Nat.le_succ _
    · rw [List.mem_singleton.mp z]; exact Nat.le_refl _
  exact I1.fpOk hle (I1.hok.fresh hle)
theorem walk_enumT {K : PySem.W.Frag} {a : Addr} {xs : List V} : Walk (IteT K a) xs.length (fun H => SqT K H a xs) (YPair (fun i => some (.int (i : Nat))) (fun i => xs[i]?)) where
  goes := fun i H hi h => ⟨xs, xs[i], h, List.getElem?_eq_getElem hi⟩
  stops := fun H h => ⟨xs, h, Nat.le_refl _⟩
  yields := fun i H x H' _ h ⟨T, y, e1, e2, e3, e4⟩ => ⟨T, .int (i : Nat), y, e1, e2, e3, rfl, e4 xs h⟩
end Rk

/-! repr of data, where no other repr is at work; how long it is -/
namespace Rk
open PySem PySem.Spec PyProof.Rows L2

mutual
/-- small data: ints from 0 to 9, texts of at most eight signs below 256 -/
def tiny : PyData → Bool
  | .int i => decide (0 ≤ i ∧ i < 10)
  | .str x => decide (x.length ≤ 8) && x.cps.toList.all fun c => decide (c < 256)
  | .list xs => tinyAll xs
  | .tuple xs => tinyAll xs
  | _ => false
def tinyAll : List PyData → Bool
  | [] => true
  | x :: xs => tiny x && tinyAll xs
end
mutual
def cnt : PyData → Nat
  | .list xs => 1 + cntAll xs
  | .tuple xs => 1 + cntAll xs
  | _ => 1
def cntAll : List PyData → Nat
  | [] => 0
  | x :: xs => cnt x + cntAll xs
end
theorem textFrom_le : ∀ (ts : List Str) (k : Nat) (acc : Str), (textFrom k acc ts).length ≤ acc.length + (ts.map fun t => t.length + 2).sum
  | [], k, acc => by
    show acc.length ≤ acc.length + 0
    exact Nat.le_refl _
  | t :: ts, k, acc => by
    have ih := textFrom_le ts (k + 1) (acc ++ (if k > 0 then ", " else "" : String) ++ t)
    have e : (acc ++ (if k > 0 then ", " else "" : String) ++ t).length ≤ acc.length + 2 + t.length := by
      rw [strLen_append, strLen_append]
      by_cases c : k > 0
      · rw [if_pos c]
        show acc.length + 2 + t.length ≤ _
        exact Nat.le_refl _
      · rw [if_neg c]
        show acc.length + 0 + t.length ≤ _
        omega
    rw [List.map_cons, List.sum_cons]
    show (textFrom (k + 1) (acc ++ (if k > 0 then ", " else "" : String) ++ t) ts).length ≤ _
    omega
theorem listText_le (ts : List Str) : (listText ts).length ≤ 2 + (ts.map fun t => t.length + 2).sum := by
  unfold listText
  rw [strLen_append]
  have h := textFrom_le ts 0 "["
  have e1 : (("[" : String) : Str).length = 1 := rfl
  have e2 : (("]" : String) : Str).length = 1 := rfl
  omega
theorem join_le : ∀ ts : List Str, (Str.join ", " ts).length ≤ (ts.map fun t => t.length + 2).sum
  | [] => Nat.zero_le _
  | [x] => by
    show x.length ≤ (x.length + 2) + 0
    omega
  | x :: y :: r => by
    have ih := join_le (y :: r)
    show (x ++ ", " ++ Str.join ", " (y :: r)).length ≤ _
    have e2 : ((", " : String) : Str).length = 2 := rfl
    rw [strLen_append, strLen_append, List.map_cons, List.sum_cons, e2]
    omega
theorem tupleText_le (ts : List Str) : (tupleText ts).length ≤ 3 + (ts.map fun t => t.length + 2).sum := by
  unfold tupleText
  rw [strLen_append, strLen_append]
  have h := join_le ts
  have e1 : (("(" : String) : Str).length = 1 := rfl
  have e2 : ((if (ts.length == 1) = true then ",)" else ")" : String) : Str).length ≤ 2 := by
    by_cases c : (ts.length == 1) = true
    · rw [if_pos c]; exact Nat.le_refl _
    · rw [if_neg c]; exact Nat.le_succ _
  omega
mutual
theorem shown_le : ∀ d : PyData, tiny d = true → d.shown.length + 2 ≤ 100 * cnt d
  | .none, h => by simp [tiny] at h
  | .bool _, h => by simp [tiny] at h
  | .dict _, h => by simp [tiny] at h
  | .int i, h => by
    rw [tiny, decide_eq_true_eq] at h
    obtain ⟨h0, h1⟩ := h
    rw [PyData.shown, show cnt (.int i) = 1 by simp [cnt]]
    have : i = 0 ∨ i = 1 ∨ i = 2 ∨ i = 3 ∨ i = 4 ∨ i = 5 ∨ i = 6 ∨ i = 7 ∨ i = 8 ∨ i = 9 := by omega
    rcases this with e | e | e | e | e | e | e | e | e | e <;> subst e <;> decide +kernel
  | .str x, h => by
    rw [tiny, Bool.and_eq_true, decide_eq_true_eq, List.all_eq_true] at h
    rw [PyData.shown, show cnt (.str x) = 1 by simp [cnt]]
    have := StrLaws.reprText_len x fun c hc => Nat.lt_of_lt_of_le (of_decide_eq_true (h.2 c hc)) (by decide)
    omega
  | .list xs, h => by
    rw [tiny] at h
    have := shownAll_le xs h
    have h2 := listText_le (PyData.shownAll xs)
    rw [PyData.shown, cnt]
    omega
  | .tuple xs, h => by
    rw [tiny] at h
    have := shownAll_le xs h
    have h2 := tupleText_le (PyData.shownAll xs)
    rw [PyData.shown, cnt]
    omega
theorem shownAll_le : ∀ xs : List PyData, tinyAll xs = true → ((PyData.shownAll xs).map fun t => t.length + 2).sum ≤ 100 * cntAll xs
  | [], _ => Nat.zero_le _
  | x :: xs, h => by
    rw [tinyAll, Bool.and_eq_true] at h
    have h1 := shown_le x h.1
    have h2 := shownAll_le xs h.2
    rw [PyData.shownAll, List.map_cons, List.sum_cons, cntAll]
    omega
end
mutual
theorem showable_of : ∀ d : PyData, tiny d = true → d.showable = true ∧ d.hasDict = false ∧ d.canLay0 = true
  | .none, h => by simp [tiny] at h
  | .bool _, h => by simp [tiny] at h
  | .dict _, h => by simp [tiny] at h
  | .int i, h => by
    rw [tiny, decide_eq_true_eq] at h
    refine ⟨?_, by rw [PyData.hasDict], by rw [PyData.canLay0]⟩
    rw [PyData.showable, decide_eq_true_eq]
    have : i.natAbs < 2 ^ 10 := by omega
    rcases Nat.eq_zero_or_pos i.natAbs with e | e
    · rw [e]; decide
    · exact Nat.lt_trans ((Nat.log2_lt (by omega)).mpr this) (by decide)
  | .str x, h => by
    rw [tiny, Bool.and_eq_true, decide_eq_true_eq, List.all_eq_true] at h
    refine ⟨by rw [PyData.showable], by rw [PyData.hasDict], ?_⟩
    rw [PyData.canLay0]
    unfold PyData.strOk
    rw [← Array.all_toList, List.all_eq_true]
    exact fun c hc => decide_eq_true (Nat.lt_of_lt_of_le (of_decide_eq_true (h.2 c hc)) (by decide))
  | .list xs, h => by
    rw [tiny] at h
    obtain ⟨a, b, c⟩ := showableAll_of xs h
    exact ⟨by rw [PyData.showable]; exact a, by rw [PyData.hasDict]; exact b, by rw [PyData.canLay0]; exact c⟩
  | .tuple xs, h => by
    rw [tiny] at h
    obtain ⟨a, b, c⟩ := showableAll_of xs h
    exact ⟨by rw [PyData.showable]; exact a, by rw [PyData.hasDict]; exact b, by rw [PyData.canLay0]; exact c⟩
theorem showableAll_of : ∀ xs : List PyData, tinyAll xs = true → PyData.showableAll xs = true ∧ PyData.hasDictAll xs = false ∧ PyData.canLayAll0 xs = true
  | [], _ => ⟨by rw [PyData.showableAll], by rw [PyData.hasDictAll], by rw [PyData.canLayAll0]⟩
  | x :: xs, h => by
    rw [tinyAll, Bool.and_eq_true] at h
    obtain ⟨a, b, c⟩ := showable_of x h.1
    obtain ⟨a', b', c'⟩ := showableAll_of xs h.2
    exact ⟨by rw [PyData.showableAll, a, a']; rfl, by rw [PyData.hasDictAll, b, b']; rfl, by rw [PyData.canLayAll0, c, c']; rfl⟩
end
/-- repr(x), x a list or tuple of small data -/
def rRepr (K : PySem.W.Frag) : List V → Hp → VK → Prop := fun xs H Q => ∃ a d, xs = [V.ref a] ∧ Dp K H (.ref a) d ∧ tiny d = true ∧ d.depth ≤ 60 ∧ cnt d ≤ 100000 ∧ Q (.str d.shown) H
theorem cr_repr {X : Cx} (hg : X.A.guards = some []) (hu : X.A.units + 64 < cLine) : CallR X (.builtin "repr") (rRepr X.K) := by
  intro pins s σ H xs us Q I r h
  obtain ⟨a, d, rfl, hd, ht, hdep, hc, q⟩ := h
  rw [Vals.ref1 r]
  obtain ⟨as, hr⟩ := Dp.reads I d _ _ hd (show RelV (V.ref a) (Value.ref a) from rfl)
  obtain ⟨h1, h2, _⟩ := showable_of d ht
  have h3 := shown_le d ht
  refine repr_of_reads' hr h1 (PyData.noDict_hsm h2) hg (by omega) (fun _ _ e => e) (fun h' u tk hk => ?_) (by rw [sizeLine_eq]; omega)
  exact ⟨.str d.shown, H, I.kept (t' := tk) hk, ⟨u, rfl⟩, q⟩
end Rk

/-! a dict comprehension that is bound to a local name -/
namespace Rk
open PySem PySem.Spec PyProof.Rows L2
section
variable {X : Cx}
theorem ps_setDc {i : Nat} {y : Str} {py : Pos} {kx vx tg iter : Expr} {ifs : List Expr} {scope : Scope} {own : List (Str × Nat)} {pos spos : Pos} {wi : TI} {g : TG} {tt : TT} {tk tv : TE} (hc : X.calm = true) (hN : X.N.Nodup) (hy : X.N[i]? = some y) (hyl : X.env.scope.names.lookup y = some .local)
    (hsw : swapsWith (.DictComp kx vx [⟨tg, iter, ifs, 0⟩] scope pos) (some (.Name y py)) spos.line X.env = pure true) (hi : PI X tg iter wi) (ok : BlkOk X.N X.env.scope scope own)
    (hg : ∀ (s : Shared) (H : Hp) (C : Addr) (cl : List (Str × Addr)) (fp : List Addr), PG (X.blk s H scope (compEnvC scope cl C X.env) fp) tg g) (ht : ∀ (s : Shared) (H : Hp) (C : Addr) (cl : List (Str × Addr)) (fp : List Addr), PTs (X.blk s H scope (compEnvC scope cl C X.env) fp) ifs tt)
    (hk : ∀ (s : Shared) (H : Hp) (C : Addr) (cl : List (Str × Addr)) (fp : List Addr), PE (X.blk s H scope (compEnvC scope cl C X.env) fp) kx tk)
    (he : ∀ (s : Shared) (H : Hp) (C : Addr) (cl : List (Str × Addr)) (fp : List Addr), PE (X.blk s H scope (compEnvC scope cl C X.env) fp) vx tv) (hs : ∀ x, foldedSetIterable iter X.env x = pure x := by intro _; rfl) :
    PS X (.Assign [.Name y py] (.DictComp kx vx [⟨tg, iter, ifs, 0⟩] scope pos) spos) (tAsg (tDc wi g tt tk tv (own.map (·.2))) (gName i)) := by
  refine ⟨fun pins s σ H D I h => ?_⟩
  rw [exec_Assign_Name_used _ _ _ _ hsw]
  refine wpAny_bind (wpAny_standAt (wpAny_bind ?_))
  show wpAny _ X.A (do let _ ← comprehension (.DictComp kx vx [⟨tg, iter, ifs, 0⟩] scope pos) scope X.env (firstIterPos [⟨tg, iter, ifs, 0⟩] pos) newDict false (eval iter X.env) (some (assign (.Name y py) X.env))) _ _ s
  have h : tDc wi g tt tk tv (own.map (·.2)) σ H (fun x H1 => gName i x σ H1 D.nx) := h
  refine wpAny_bind (thn (dc_core (Qf := fun _ s' => SP X pins D .next s') hc hN I hi ok hg ht hk he hs h fun L C s' m H' I' q hn f => ?_) fun _ s' hq => wpAny_pure (wpAny_pure hq))
  show wpAny _ _ (assign (.Name y py) X.env (.ref L)) _ _ _
  refine wpAny_assign_Name (store_ok2 (v := V.ref L) I' hN hy (.inl hyl) rfl (fun s2 I2 ⟨a, sb, ha⟩ => ?_) (.inr hyl))
  obtain ⟨f0, f1, f2, f3, f4, f5⟩ := f
  have haC : C ≠ a := by
    rcases ha with z | z
    · rw [z]; exact f1
    · exact fun e => f4 y a z e.symm
  refine ⟨m, hn.sameBut sb haC, fun h3 sb3 => ?_⟩
  exact ⟨_, H', I2.turned (t' := s2.toks) (fun b o hb e => (sb3.2 b hb).trans e) f0 f1 f3 f4 f5, q⟩
end
end Rk

/-! tuples whose object is known: made by a display or by +, asked by a method -/
namespace Rk
open PySem PySem.Spec PyProof.Rows L2
/-- a plain tuple object -/
def PlT (o : Obj) : Prop := o.cls = .type "tuple" ∧ o.dict = none
section
variable {X : Cx}
def tTupF (t : TA) : TE := fun σ H Q => t σ H fun xs H1 => xs.length ≤ sizeLine ∧ ∀ p o, H1 p = none → PlT o → Q (.ref p) (upd H1 p (.frz o (.tup xs)))
theorem pe_tupF {es : List Expr} {t : TA} {pos : Pos} {x1} (h : PA X es t) : PE X (.Tuple es x1 pos) (tTupF t) := by
  refine ⟨fun pins s σ H Q I hq => ?_⟩
  refine wpAny_Tuple_spliced (thn (h.run pos pins s σ H _ I hq) fun us s1 ⟨xs, H1, I1, r, z, q⟩ => ⟨by rw [← r.length]; exact z, ?_⟩)
  have hf : H1 s1.heap.objs.size = none := I1.hok.fresh (Nat.le_refl _)
  refine ⟨.ref s1.heap.objs.size, upd H1 s1.heap.objs.size (.frz { cls := .type "tuple", data := .seq us.toArray } (.tup xs)), I1.laid (t' := s1.toks) (fun b u e => Heap.get?_push_of_some _ e) (Nat.le_refl _) ?_, rfl, q _ _ hf ⟨rfl, rfl⟩⟩
  exact ⟨Heap.get?_push_size _ rfl, z, us, r, ⟨_, Heap.get?_push_size _ rfl, rfl, _, rfl⟩⟩
def rCatF (K : PySem.W.Frag) : R2 := fun x y H Q => ∃ a b xs ys, x = .ref a ∧ y = .ref b ∧ SqT K H a xs ∧ SqT K H b ys ∧ xs.length + ys.length ≤ sizeLine ∧
  (xs = [] → Q (.ref b) H) ∧ (xs ≠ [] → ys = [] → Q (.ref a) H) ∧ (xs ≠ [] → ys ≠ [] → ∀ p o, H p = none → PlT o → Q (.ref p) (upd H p (.frz o (.tup (xs ++ ys)))))
theorem op_catF : OpR X (binaryOp .Add) (rCatF X.K) := by
  intro pins s σ H x y v u Q I rx ry h
  obtain ⟨a, b, xs, ys, rfl, rfl, ha, hb, hz, q0, q1, q2⟩ := h
  cases rx
  cases ry
  obtain ⟨its, r1, p1, _⟩ := I.tuple ha
  obtain ⟨its2, r2, p2, _⟩ := I.tuple hb
  by_cases hx : xs = []
  · subst hx
    cases r1
    exact cat_tup0 p1 p2 ⟨.ref b, H, I, rfl, q0 rfl⟩
  · refine HT.cat_tup p1 p2 (fun z => hx (r1.nil_iff.mp z)) (fun z => ⟨.ref a, H, I, rfl, q1 hx (r2.nil_iff.mp z)⟩) (fun z => ?_) (by rw [← r1.length, ← r2.length]; exact hz)
    refine ⟨.ref s.heap.objs.size, _, I.laid (t' := s.toks) (o := .frz { cls := .type "tuple", data := .seq (its ++ its2).toArray } (.tup (xs ++ ys))) (fun b ob q => Heap.get?_push_of_some _ q) (Nat.le_refl _) ?_, rfl, q2 hx (fun w => z (r2.nil_iff.mpr w)) _ _ (I.hok.fresh (Nat.le_refl _)) ⟨rfl, rfl⟩⟩
    exact ⟨Heap.get?_push_size _ rfl, by rw [List.length_append]; exact hz, _, r1.append r2, IsTup.new _ _⟩
def tBMT (r : V → List V → Hp → VK → Prop) (to : TE) (t : TA) : TE := fun σ H Q => to σ H fun x H1 => (∃ p o xs, x = .ref p ∧ H1 p = some (.frz o (.tup xs)) ∧ PlT o) ∧ t σ H1 fun xs H2 => r x xs H2 Q
theorem pe_bmT {o e : Expr} {es : List Expr} {to : TE} {t : TA} {name : Str} {apos cpos : Pos} {id : String} {r : V → List V → Hp → VK → Prop} (slot : Slot "tuple" name id) (hty : typeOf (.builtin id) = pure (.type "method_descriptor")) (hm : MtR X id r) (ho : PE X o to) (ha : PA X (e :: es) t)
    (hbase : attributeBase o name X.env (eval o X.env) = eval o X.env := by rfl)
    (hfew : ((backTo cpos (starEach (e :: es) X.env)).all (fun x => !x.1) && (backToKw cpos (keywordEach [] X.env)).all (fun x => x.1.isSome)
      && decide ((e :: es).length + ([] : List Keyword).length + (if ([] : List Keyword).isEmpty then 0 else 1) < 30)) = true := by rfl)
    (hline : (apos.endLine == cpos.line) = true := by rfl) (hs : starEach (e :: es) X.env = (false, eval e X.env) :: starEach es X.env := by rfl) (hplain : (backTo cpos (starEach es X.env)).any (·.1) = false := by rfl) :
    PE X (.Call (.Attribute o name apos) (e :: es) [] cpos) (tBMT r to t) := by
  refine ⟨fun pins s σ H Q I h => ?_⟩
  refine wpAny_Call_method_late hbase hfew hline rfl (thn (ho.run pins s σ H _ I h) fun v s1 ⟨x, H1, I1, r1, ⟨p, ob, ys, ex, hp, pl⟩, q1⟩ => ?_)
  subst ex
  cases r1
  have hob : s1.heap.get? p = some ob := (I1.hok p _ hp).1
  refine ⟨"tuple", id, PySem.F.plainAttrs_tuple, slot, hty, ⟨ob, hob, pl.1⟩, fun a e => ?_, ?_⟩
  · cases e
    exact ⟨ob, hob, pl.2⟩
  have hA := ha.run cpos pins s1 σ H1 _ I1 q1
  rw [hs] at hA ⊢
  refine Calls.callWith_builtin (by show (false || (backTo cpos (starEach es X.env)).any (·.1)) = false; rw [hplain] <;> rfl) (Calls.evalArgs_plain ?_)
  exact thn hA fun us s2 ⟨vs, H2, I2, r2, q2⟩ => hm pins s2 σ H2 (.ref p) vs (.ref p) us Q I2 rfl r2 q2
end
end Rk

/-! a call by keywords alone; the law's def where no guard stands; the end -/
namespace Rk
open PySem PySem.Spec PyProof.Rows L2
section
variable {X : Cx} {CX : CXT} {k : Nat} {f : Addr} {fd : FuncData} {ps ks : List Str} {sp : Sp} {E : XK} {x : Str} {p pos : Pos} {kws : List Keyword} {tk : TA} {g : List Value → List Value → List Value} {gV : List V → List V → List V}
def tCallKw (sp : Sp) (gV : List V → List V → List V) (E : XK) (tk : TA) : TE := fun σ H Q => tk σ H fun zs H2 => sp (gV [] zs) H2 Q E
theorem pe_callKw (F : FnOk X.prog X.w X.K X.mg X.base CX k f fd ps sp) (hr : Room k X.A) (hg : Gl X x) (hm : X.mg x = some (.ref f)) (hk : PySem.W.keepIn X.K (.ref f) = true) (hb : KBinds X.K fd ps ks g gV) (hx : Passes CX X E)
    (hkw : PK X kws tk) (hall : (backToKw pos (keywordEach kws X.env)).all (·.1.isSome) = true := by rfl) (hks : (backToKw pos (keywordEach kws X.env)).filterMap (·.1) = ks := by rfl)
    (hdb : (x == ("__debug__" : Str)) = false := by decide) (hpl : ((backTo pos (starEach [] X.env)).any (·.1) || (backToKw pos (keywordEach kws X.env)).any (·.1.isNone)) = false := by rfl) :
    PE X (.Call (.Name x p) [] kws pos) (tCallKw sp gV E tk) := by
  refine ⟨fun pins s σ H Q I h => ?_⟩
  refine wpAny_Call_Name_kw (ld_glob I hg hm ?_ hdb)
  refine PySem.W.callWith_KW0 (h₀ := X.base) I.ok.mod.kin hk hall (thn (hkw.run pos pins s σ H _ I h) fun ws s2 ⟨zs, H2, I2, rz, q2⟩ => ⟨I2.kIn, ?_⟩) hpl
  rw [hks]
  exact run_fnk F hr hb hx I2 .nil rz q2
end
def swap2 {α : Type} : List α → List α → List α
  | [], [l, b] => [b, l]
  | _, _ => []
theorem swap2_rel {vs : List V} {us : List Value} {zs : List V} {ws : List Value} (h1 : Vals vs us) (h2 : Vals zs ws) : Vals (swap2 vs zs) (swap2 us ws) := by
  cases h1 with
  | nil =>
    cases h2 with
    | nil => exact .nil
    | cons a t =>
      cases t with
      | nil => exact .nil
      | cons b t =>
        cases t with
        | nil => exact .cons b (.cons a .nil)
        | cons c t => exact .nil
  | cons a t => exact .nil
theorem swap2_len {α : Type} {us ws : List α} (h : (swap2 us ws).length = 2) : us = [] ∧ ∃ l b, ws = [l, b] := by
  match us, ws, h with
  | [], [l, b], _ => exact ⟨rfl, l, b, rfl⟩
/-- what a def does where A holds it -/
def RunAt (P : Program) (w : World) (K : PySem.W.Frag) (mg : Str → Option Value) (base : Heap) (k : Nat) (A : Around) (f : Addr) (fd : FuncData) (ps : List Str) (sp : Sp) : Prop :=
  ∀ (outer : List Env) (s : Shared) (H : Hp) (args : Args) (us : List Value) (vs : List V) (Q : VK) (E : XK), Room k A → Env0 P w K mg base A outer s H → BindsTo s fd args (ps.zip us) → Vals vs us → sp vs H Q E →
    codeAny (model P w) A (.call (.ref f) args) (CR CX0 outer P w H s Q E) s
section
variable {P : Program} {w : World} {K : PySem.W.Frag} {mg : Str → Option Value} {base : Heap}
theorem run_at {A : Around} {k : Nat} {x qual : Str} {st : Stmt} {f : Addr} {fd : FuncData} {N ps : List Str} {sp : Sp} (F : Fun K x qual st f fd) (S : FnScope N ps (defScope st)) (len : ∀ vs H Q E, sp vs H Q E → vs.length = ps.length)
    (hbody : ∀ (cdv : Value) (outer : List Env) (s : Shared) (H : Hp) (vs : List V) (Q : VK) (E : XK), Room k (A.deeper (envOfC qual (defScope st) s.heap.objs.size f cdv)) → sp vs H Q E →
      ∃ t, PSs (cxOf CX0 P w K mg base N qual (defScope st) f cdv A outer s H E).nox (defBody st) t ∧ t { nx := fun _ H' => Q .non H', rt := Q } (start N vs) H) : RunAt P w K mg base (k + 1) A f fd ps sp := by
  obtain ⟨oc, od, kV, doc, pm, an, cdv, ct, osl, rfl, lk, hcd⟩ := F.ex
  intro outer s H args us vs Q E hr e0 hb r hsp
  have hl := len _ _ _ _ hsp
  have KX : K.In s.heap := e0.mod.kin.keeps fun b o e => (e0.bs b o e).1
  have lim : s.heap.NoLimit := e0.mod.nolimit.keeps fun b o e => (e0.bs b o e).1
  have hkind : ∀ y ∈ ps.zip us, (defScope st).names.lookup y.1 = some .local ∨ ((defScope st).names.lookup y.1 = some .cell ∧ ((cellsFrom (s.heap.objs.size + 1) (defScope st).names []).lookup y.1).isSome = true) := fun ⟨n, v⟩ hy => by
    rcases S.par n (List.of_mem_zip hy).1 with q | q
    · exact .inl q
    · exact .inr ⟨q, PySem.W.cellsFrom_some _ _ _ (.inl q)⟩
  refine codeAny_call_function hr.depth (KX _ _ lk) rfl S.co S.gen rfl (PySem.W.codeRec_of KX hcd) (hb _ _ _ _ ?_)
  refine wpAny_newFunctionEnv_cells S.kind hkind fun env he s1 x => ?_
  subst he
  refine ⟨lim.keeps x.toInCall.keep, codeAny_func ?_⟩
  obtain ⟨t, ht, hq⟩ := hbody cdv outer s H vs Q E (hr.deeper _) hsp
  have I : Inv (cxOf CX0 P w K mg base N qual (defScope st) f cdv A outer s H E) [] (start N vs) H s1 := inv_start S hr.hd e0 hl r x
  refine wpAny_mono (ht.nox.run [] s1 (start N vs) H _ I hq) (fun fl s' hs => ?_) fun e s' hs => hs
  cases fl with
  | ret u =>
    obtain ⟨v, σ', H', J, rv, q⟩ := hs
    exact ⟨v, H', J.os, J.bare, J.base, J.hok, rv, q⟩
  | next =>
    obtain ⟨σ', H', J, q⟩ := hs
    exact ⟨V.non, H', J.os, J.bare, J.base, J.hok, (show RelV V.non Value.none from rfl), q⟩
  | brk =>
    obtain ⟨_, _, _, q⟩ := hs
    exact False.elim q
  | cont =>
    obtain ⟨_, _, _, q⟩ := hs
    exact False.elim q
end
/-- the law's call from the claim's own place -/
theorem law_at {P : Program} {w : World} {K : PySem.W.Frag} {mg mb : Str → Option Value} {k : Nat} {fa a : Addr} {fd : FuncData} {x : Str} {sp : Sp} {s1 : Shared} {vs : List Value} {ns : List Int}
    (KX : K.In s1.heap) (hns : s1.heap.Ns mainGlobals mg) (hb : s1.heap.Ns builtinsNs mb) (hbb : ∀ x : Str, x ≠ "__name__" → mb x = bootBuiltins x) (hlim : s1.heap.NoLimit) (hg : s1.gens = #[])
    (ha : s1.heap.get? a = some { cls := .type "list", data := .seq vs.toArray }) (hi : IntsAre vs ns) (hl : ns.length ≤ sizeLine) (hr : Room k callerA)
    (F : ∀ base : Heap, K.In base → base.Ns mainGlobals mg → RunAt P w K mg base k callerA fa fd [x] sp) (hbind : ∀ (s : Shared) (u : Value), BindsTo s fd ⟨[u], []⟩ [(x, u)])
    (hsp : ∀ H : Hp, SqL K H a (ns.map V.int) → sp [.ref a] H (fun v _ => v = .bl true) fun _ _ _ => False) :
    codeAny (model P w) callerA (.call (.ref fa) ⟨[.ref a], []⟩) (fun r s' => r = .ok (.ret (.bool true)) ∧ OldK s1.heap s'.heap ∧ s'.os = s1.os ∧ AllBare s'.gens) s1 := by
  have rv := vals_ints hi
  have go : ∀ H : Hp, (∀ b u, H b = some u → b = a ∧ K.lookup a = none ∧ ∃ o xs, u = .frz o (.lst xs)) → SqL K H a (ns.map V.int) → HOk P w H s1.heap →
      codeAny (model P w) callerA (.call (.ref fa) ⟨[.ref a], []⟩) (fun r s' => r = .ok (.ret (.bool true)) ∧ OldK s1.heap s'.heap ∧ s'.os = s1.os ∧ AllBare s'.gens) s1 := by
    intro H hH hS hok
    have free : ∀ {b : Addr} {o : Obj} {es : Array DictEntry} {ep : Nat}, s1.heap.get? b = some o → o.data = .dict es ep → H b = none := fun {b o es ep} e d => by
      cases q : H b with
      | none => rfl
      | some u =>
        obtain ⟨rfl, _⟩ := hH b u q
        rw [ha] at e
        cases e
        cases (show Data.seq vs.toArray _ = Data.dict es ep from d)
    have nsK : ∀ {b : Addr} {m : Str → Option Value}, s1.heap.Ns b m → (hidT s1.heap H).Ns b m := fun {b m} ⟨o, es, ep, e, d, r⟩ => ⟨o, es, ep, hidT_get e (free e d), d, r⟩
    have hKb : K.In (hidT s1.heap H) := fun b o e => hidT_get (KX b o e) (by
      cases q : H b with
      | none => rfl
      | some u =>
        obtain ⟨rfl, z, _⟩ := hH b u q
        rw [z] at e
        cases e)
    have hM : Mod K mg (hidT s1.heap H) := ⟨hKb, nsK hns, ⟨mb, nsK hb, hbb⟩, let ⟨mc, h1, h2⟩ := hlim; ⟨mc, nsK h1, h2⟩⟩
    have e0 : Env0 P w K mg (hidT s1.heap H) callerA [] s1 H := ⟨rfl, hM, fun b o e => of_hidT e, Nat.le_of_eq (hidT_size _ _), trivial, fun b hb => absurd (show b ∈ ([] : List Addr) from hb) (by simp), hok, .of_eq hg⟩
    refine codeAny_mono (F _ hKb (nsK hns) [] s1 H ⟨[.ref a], []⟩ [.ref a] [.ref a] _ _ hr e0 (hbind s1 (.ref a)) (.cons rfl .nil) (hsp H hS)) fun r s' h => ?_
    cases r with
    | error e => exact False.elim h
    | ok fl =>
      cases fl with
      | next => exact False.elim h
      | brk => exact False.elim h
      | cont => exact False.elim h
      | ret u =>
        obtain ⟨v, H', os, bare, un, hok', r', q⟩ := h
        obtain rfl : v = .bl true := q
        obtain rfl : u = Value.bool true := r'
        refine ⟨rfl, OldK.of_keep fun b o e => ?_, os, bare⟩
        cases q : H b with
        | none => exact un.keep b o e q (by intro z; exact absurd (show b ∈ ([] : List Addr) from z) (by simp)) (by simp)
        | some u =>
          obtain ⟨rfl, _, ob, xs, rfl⟩ := hH b u q
          obtain ⟨e1, _⟩ := hok _ _ q
          obtain ⟨e2, _⟩ := hok' _ _ (un.frzs _ ob _ q)
          rw [e] at e1
          cases e1
          exact e2
  cases hk : K.lookup a with
  | some o =>
    have e := KX a o hk
    rw [ha] at e
    cases e
    exact go (fun _ => none) (fun b u z => nomatch z) (.inr ⟨_, vs.toArray, _, hk, rfl, rfl, rfl, by rw [List.size_toArray, hi.length]; exact hl, by simpa using rv⟩) fun b u z => nomatch z
  | none =>
    have at_ : ∀ b u, (if b = a then some (HO.frz { cls := .type "list", data := .seq vs.toArray } (.lst (ns.map V.int))) else none) = some u → b = a ∧ u = HO.frz { cls := .type "list", data := .seq vs.toArray } (.lst (ns.map V.int)) := fun b u z => by
      by_cases q : b = a
      · rw [if_pos q] at z
        exact ⟨q, (Option.some.inj z).symm⟩
      · rw [if_neg q] at z
        cases z
    refine go (fun b => if b = a then some (.frz { cls := .type "list", data := .seq vs.toArray } (.lst (ns.map V.int))) else none) (fun b u z => ?_) (.inl (.inr ⟨_, if_pos rfl⟩)) fun b u z => ?_
    · obtain ⟨q1, q2⟩ := at_ b u z
      exact ⟨q1, hk, _, _, q2⟩
    · obtain ⟨rfl, rfl⟩ := at_ b u z
      exact ⟨ha, by rw [List.length_map]; exact hl, vs, _, rv, ha⟩
theorem walk_at {l : PySem.W.OpenLaw} {n k : Nat} {q : Program} {loose : List Str} {XP : (Str → Option Value) → Heap → Prop} {YP : World → Heap → Prop} {d : DefRec} {K : Params → PySem.W.Frag} {sp : World → Sp} {x : Str}
    (hn : l.most = some n) (hn2 : n ≤ sizeLine) (hdf : d.params.defaults = []) (hr : Room k callerA)
    (hY : ∀ (w : World) (h : Heap), YP w h → (K w.params).In h)
    (F : ∀ (w : World) (mg : Str → Option Value) (fa : Addr) (h : Heap), (K w.params).In h → h.Ns mainGlobals mg → mg d.name = some (.ref fa) →
      ∃ fd : FuncData, (∀ (s : Shared) (u : Value), BindsTo s fd ⟨[u], []⟩ [(x, u)]) ∧
        ∀ base : Heap, (K w.params).In base → base.Ns mainGlobals mg → RunAt l.prog w (K w.params) mg base k callerA fa fd [x] (sp w))
    (hsp : ∀ (w : World) (H : Hp) (a : Addr) (ns : List Int), SqL (K w.params) H a (ns.map V.int) → sp w [.ref a] H (fun v _ => v = .bl true) fun _ _ _ => False) :
    PySem.W.WalkO q loose XP YP l.row.toRowW d [] (fun f vs => PySem.call f vs) := by
  refine Att.attach_call hn hdf fun w s0 s1 mg mb fa o pm cd doc a vs ns G Y ho hd hcd hmg hobj hints hlen hg => ?_
  have KX := hY w _ Y
  obtain ⟨fd, hb, hF⟩ := F w mg fa _ KX G.T.g hmg
  exact law_at KX G.T.g G.T.b G.T.builtins G.T.nolimit hg hobj hints (Nat.le_trans hlen hn2) hr hF hb fun H hS => hsp w H a ns hS
end Rk

/-! tables of sets up to 512 places: every place is met by a search, a table laid anew is in order -/
namespace Rk
open PySem PySem.Spec PyProof.Rows L2

/-! ### each place is met -/
def walkL (m : Nat) : Nat → Nat → List Nat
  | 0, x => [x]
  | n + 1, x => x :: walkL m n ((x * 5 + 1) % (m + 1))
theorem lcg_front (m : Nat) : ∀ (k i : Nat), lcgI m i (k + 1) = lcgI m ((i * 5 + 1) % (m + 1)) k
  | 0, _ => rfl
  | k + 1, i => by
    show (lcgI m i (k + 1) * 5 + 1) % (m + 1) = (lcgI m ((i * 5 + 1) % (m + 1)) k * 5 + 1) % (m + 1)
    rw [lcg_front m k i]
theorem mem_walkL (m : Nat) : ∀ (n x y : Nat), y ∈ walkL m n x → ∃ k, k ≤ n ∧ lcgI m x k = y
  | 0, x, y, h => ⟨0, Nat.le_refl _, (List.mem_singleton.mp h).symm⟩
  | n + 1, x, y, h => by
    rcases List.mem_cons.mp h with e | h
    · exact ⟨0, Nat.zero_le _, e.symm⟩
    · obtain ⟨k, hk, e⟩ := mem_walkL m n _ y h
      exact ⟨k + 1, Nat.succ_le_succ hk, by rw [lcg_front]; exact e⟩
def meetsAll (m : Nat) : Bool := ((List.range (m + 1)).all fun j => (walkL m m 0).contains j) && decide ((walkL m (m + 1) 0).getLast? = some 0)
theorem walkL_last (m : Nat) : ∀ n x, (walkL m n x).getLast? = some (lcgI m x n)
  | 0, _ => rfl
  | n + 1, x => by
    have h := walkL_last m n ((x * 5 + 1) % (m + 1))
    show (x :: walkL m n ((x * 5 + 1) % (m + 1))).getLast? = _
    rw [lcg_front, ← h]
    cases n <;> rfl
theorem lcgI_zero (m : Nat) : ∀ k, lcgI m 0 k = lcgN m k
  | 0 => rfl
  | k + 1 => by
    show (lcgI m 0 k * 5 + 1) % (m + 1) = (lcgN m k * 5 + 1) % (m + 1)
    rw [lcgI_zero m k]
/-- from anywhere to anywhere -/
theorem goes_all {m : Nat} (h : meetsAll m = true) {i j : Nat} (hi : i ≤ m) (hj : j ≤ m) : ∃ k, k ≤ m ∧ lcgI m i k = j := by
  unfold meetsAll at h
  rw [Bool.and_eq_true, List.all_eq_true, decide_eq_true_eq, walkL_last, lcgI_zero] at h
  obtain ⟨h1, h2⟩ := h
  have h3 : lcgN m (m + 1) = 0 := Option.some.inj h2
  have hit : ∀ x, x ≤ m → ∃ b, b ≤ m ∧ lcgN m b = x := fun x hx => by
    have c := h1 x (List.mem_range.mpr (Nat.lt_succ_of_le hx))
    obtain ⟨b, hb, e⟩ := mem_walkL m m 0 x (List.contains_iff_mem.mp c)
    exact ⟨b, hb, by rw [← lcgI_zero]; exact e⟩
  have per : ∀ k, lcgN m (m + 1 + k) = lcgN m k := fun k => by
    rw [← lcgN_add, h3, lcgI_zero]
  obtain ⟨a, ha, ea⟩ := hit i hi
  obtain ⟨b, hb, eb⟩ := hit j hj
  rw [← ea]
  by_cases c : a ≤ b
  · exact ⟨b - a, by omega, by rw [lcgN_add, show a + (b - a) = b by omega, eb]⟩
  · exact ⟨m + 1 + b - a, by omega, by rw [lcgN_add, show a + (m + 1 + b - a) = m + 1 + b by omega, per, eb]⟩
/-- the masks of sets of at most some three hundred -/
def MaskP (m : Nat) : Prop := m = 7 ∨ m = 31 ∨ m = 127 ∨ m = 511
theorem MaskP.odd {m : Nat} (h : MaskP m) : m % 2 = 1 := by
  rcases h with e | e | e | e <;> rw [e]
theorem MaskP.le {m : Nat} (h : MaskP m) : m ≤ 511 := by
  rcases h with e | e | e | e <;> rw [e] <;> decide
theorem meets7 : meetsAll 7 = true := by decide +kernel
theorem meets31 : meetsAll 31 = true := by decide +kernel
theorem meets127 : meetsAll 127 = true := by decide +kernel
theorem meets511 : meetsAll 511 = true := by decide +kernel
theorem MaskP.all {m : Nat} (h : MaskP m) : meetsAll m = true := by
  rcases h with e | e | e | e <;> rw [e]
  · exact meets7
  · exact meets31
  · exact meets127
  · exact meets511
theorem wayP_le {m : Nat} {h : Int} {k : Nat} : way m h k ≤ m := by
  have hi : SetTable.bits h % (m + 1) ≤ m := Nat.le_of_lt_succ (Nat.mod_lt _ (Nat.succ_pos _))
  have r := runEnd_bd hi
  have q := nth_in (m := m) k (runAt m (SetTable.bits h % (m + 1)) (SetTable.bits h))
  unfold runAt at q
  have q2 := q (by dsimp only; omega)
  unfold way runAt
  omega
theorem runP {m : Nat} (hm : MaskP m) (h : Int) {j : Nat} (hj : j ≤ m) : ∃ n, n ≤ m + 12 ∧ runI m (SetTable.bits h) n = j := by
  obtain ⟨k, hk, e⟩ := goes_all hm.all (runI_le m (SetTable.bits h) 12) hj
  refine ⟨12 + k, by omega, ?_⟩
  rw [runI_tail (bits_lt h)]
  exact e
theorem meetsP {m : Nat} (hm : MaskP m) (h : Int) {j : Nat} (hj : j ≤ m) : ∃ k, k < 10 * SetTable.turns m ∧ way m h k = j := by
  obtain ⟨n, hn, e⟩ := runP hm h hj
  obtain ⟨k, hk, e2⟩ := run_nth m (SetTable.bits h) n
  refine ⟨k, ?_, ?_⟩
  · unfold SetTable.turns
    omega
  · unfold way
    rw [e2]
    exact e

/-! ### a table in order -/
structure TabP (t : SetTable) (hs : List Int) : Prop where
  ris : Ris t.place.toList
  dm : t.dummies = #[]
  sz : t.place.size = hs.length
  mok : MaskP t.mask
  bd : ∀ x ∈ t.place.toList, x ≤ t.mask
  reach : ∀ (i : Nat) (h : Int) (j : Nat), hs[i]? = some h → t.place.toList[i]? = some j → ∃ k, way t.mask h k = j ∧ ∀ k', k' < k → way t.mask h k' ∈ t.place.toList
theorem TabP.first {t : SetTable} {hs : List Int} (T : TabP t hs) (hl : hs.length ≤ t.mask) (h : Int) :
    ∃ K, K < 10 * SetTable.turns t.mask ∧ way t.mask h K ∉ t.place.toList ∧ ∀ k, k < K → way t.mask h k ∈ t.place.toList := by
  obtain ⟨j, hj, hn⟩ := st_missing t.place.toList (t.mask + 1) (by rw [Array.length_toList, T.sz]; omega)
  obtain ⟨k, hk, e⟩ := meetsP T.mok h (Nat.le_of_lt_succ hj)
  obtain ⟨K, h1, h2, h3⟩ := st_least (p := fun k => way t.mask h k ∉ t.place.toList) k (by rw [e]; exact hn)
  exact ⟨K, by omega, h2, fun k' hk' => Classical.not_not.mp (h3 k' hk')⟩
theorem TabP.before {t : SetTable} {hs : List Int} (T : TabP t hs) {h : Int} {K i j : Nat} (hK : way t.mask h K ∉ t.place.toList) (hi : hs[i]? = some h) (hj : t.place.toList[i]? = some j) : ∃ k, k < K ∧ way t.mask h k = j := by
  obtain ⟨k, e, hb⟩ := T.reach i h j hi hj
  refine ⟨k, Nat.lt_of_not_le fun c => ?_, e⟩
  rcases Nat.lt_or_eq_of_le c with c | c
  · exact hK (hb K c)
  · rw [c, e] at hK
    exact hK (List.mem_of_getElem? hj)
theorem TabP.put {t : SetTable} {hs : List Int} (T : TabP t hs) {h : Int} {K : Nat} (hK : way t.mask h K ∉ t.place.toList) (hb : ∀ k, k < K → way t.mask h k ∈ t.place.toList) :
    (t.put (way t.mask h K)).2 = SetTable.below t.place (way t.mask h K) ∧ SetTable.below t.place (way t.mask h K) ≤ hs.length ∧
    TabP (t.put (way t.mask h K)).1 (hs.take (SetTable.below t.place (way t.mask h K)) ++ h :: hs.drop (SetTable.below t.place (way t.mask h K))) ∧
    (t.put (way t.mask h K)).1.fill = hs.length + 1 := by
  have hjm : way t.mask h K ≤ t.mask := wayP_le
  generalize ej : way t.mask h K = j at hK hjm ⊢
  obtain ⟨c1, _, _⟩ := below_cut T.ris j
  have hpl : SetTable.below t.place j ≤ t.place.toList.length := by rw [Array.length_toList]; exact c1
  have hph : SetTable.below t.place j ≤ hs.length := by rw [← T.sz]; exact c1
  have hnp : t.place[SetTable.below t.place j]? ≠ some j := fun e => hK (List.mem_of_getElem? (by rw [Array.getElem?_toList]; exact e))
  have hpp := put_place t j
  have hsize : (t.put j).1.place.size = hs.length + 1 := by
    rw [← Array.length_toList, hpp, len_ins _ hpl, Array.length_toList, T.sz]
  have up : ∀ {x : Nat}, x ∈ t.place.toList → x ∈ (t.put j).1.place.toList := fun hx => by rw [hpp]; exact mem_ins.2 (.inr hx)
  have old : ∀ {i' : Nat} {h' : Int} {j' : Nat}, hs[i']? = some h' → t.place.toList[i']? = some j' → ∃ k, way t.mask h' k = j' ∧ ∀ k', k' < k → way t.mask h' k' ∈ (t.put j).1.place.toList := fun a b => by
    obtain ⟨k, e, z⟩ := T.reach _ _ _ a b
    exact ⟨k, e, fun k' hk' => up (z k' hk')⟩
  refine ⟨rfl, hph, ⟨ris_insert T.ris hnp, put_dm T.dm j, by rw [len_ins _ hph]; exact hsize, T.mok, fun x hx => ?_, fun i h' j' h1 h2 => ?_⟩, ?_⟩
  · rw [hpp] at hx
    rcases mem_ins.1 hx with z | z
    · rw [z]; exact hjm
    · exact T.bd x z
  · rw [tins_get hs hph] at h1
    rw [hpp, tins_get _ hpl] at h2
    by_cases c : i < SetTable.below t.place j
    · rw [if_pos c] at h1 h2
      exact old h1 h2
    · rw [if_neg c] at h1 h2
      by_cases d : i = SetTable.below t.place j
      · rw [if_pos d] at h1 h2
        obtain rfl := Option.some.inj h1
        obtain rfl := Option.some.inj h2
        exact ⟨K, ej, fun k' hk' => up (hb k' hk')⟩
      · rw [if_neg d] at h1 h2
        exact old h1 h2
  · unfold SetTable.fill
    rw [hsize, put_dm T.dm j]
    rfl

/-! ### laid anew -/
theorem freeP {m : Nat} (hm : MaskP m) (owner : Array (Option Nat)) (h : Int) {j : Nat} (hj : j ≤ m) (hf : oAt owner j = none) :
    ∃ K, SetTable.layClean.free m owner (SetTable.turns m) (SetTable.bits h % (m + 1)) (SetTable.bits h) = some (way m h K) ∧ oAt owner (way m h K) = none ∧ ∀ k, k < K → oAt owner (way m h k) ≠ none := by
  obtain ⟨n, hn, e⟩ := runP hm h hj
  have hw : way m h (off m (SetTable.bits h % (m + 1)) (SetTable.bits h) n) = j := by
    unfold way
    rw [nth_off, itL_run]
    exact e
  obtain ⟨K, k1, k2, k3⟩ := st_least (p := fun k => oAt owner (way m h k) = none) _ (by rw [hw]; exact hf)
  refine ⟨K, free_spec m owner (SetTable.turns m) n _ _ K (by unfold SetTable.turns; omega) k1 (fun k hk => ?_) ?_, k2, k3⟩
  · have q := k3 k hk
    unfold way at q
    cases z : oAt owner (nth m (runAt m (SetTable.bits h % (m + 1)) (SetTable.bits h)) k).j with
    | none => exact absurd z q
    | some _ => rfl
  · have q : oAt owner (nth m (runAt m (SetTable.bits h % (m + 1)) (SetTable.bits h)) K).j = none := k2
    rw [q]
    rfl
theorem ownStep {m : Nat} (hm : MaskP m) {done : List Int} {owner : Array (Option Nat)} (W : Own m done owner) (hl : done.length ≤ m) (h : Int) :
    ∃ j, SetTable.layClean.free m owner (SetTable.turns m) (SetTable.bits h % (m + 1)) (SetTable.bits h) = some j ∧ Own m (done ++ [h]) (owner.setIfInBounds j (some done.length)) := by
  obtain ⟨ps, hps, hin⟩ := W.ps
  obtain ⟨j0, h0, hn0⟩ := st_missing ps (m + 1) (by omega)
  have hj0 : oAt owner j0 = none := Classical.not_not.mp fun z => hn0 (hin j0 (Nat.le_of_lt_succ h0) z)
  obtain ⟨K, e1, e2, e3⟩ := freeP hm owner h (Nat.le_of_lt_succ h0) hj0
  have hjm : way m h K ≤ m := wayP_le
  have hself := oAt_set_self (owner := owner) (some done.length) (show way m h K < owner.size by rw [W.sz]; omega)
  have mono : ∀ {i : Nat}, oAt owner i ≠ none → oAt (owner.setIfInBounds (way m h K) (some done.length)) i ≠ none := fun {i} hi => by
    by_cases c : i = way m h K
    · rw [c, hself]; intro z; cases z
    · rw [oAt_set_ne _ c]; exact hi
  refine ⟨way m h K, e1, by rw [Array.size_setIfInBounds]; exact W.sz, fun j k hj e => ?_, fun k hk => ?_, way m h K :: ps, by simp [hps], fun j hj e => ?_⟩
  · by_cases c : j = way m h K
    · rw [c, hself] at e
      obtain rfl := Option.some.inj e
      exact ⟨h, K, by simp, c.symm, fun k' hk' => mono (e3 k' hk')⟩
    · rw [oAt_set_ne _ c] at e
      obtain ⟨h', K', a1, a2, a3⟩ := W.at_ j k hj e
      exact ⟨h', K', by rw [List.getElem?_append_left (List.getElem?_eq_some_iff.mp a1).1]; exact a1, a2, fun k' hk' => mono (a3 k' hk')⟩
  · rw [List.length_append, List.length_singleton] at hk
    by_cases c : k < done.length
    · obtain ⟨j, hj, e⟩ := W.all k c
      refine ⟨j, hj, ?_⟩
      rw [oAt_set_ne _ (fun z => by rw [z, e2] at e; cases e)]
      exact e
    · obtain rfl : k = done.length := by omega
      exact ⟨way m h K, hjm, hself⟩
  · by_cases c : j = way m h K
    · rw [c]; exact List.mem_cons_self
    · rw [oAt_set_ne _ c] at e
      exact List.mem_cons_of_mem _ (hin j hj e)
theorem foldP {m : Nat} (hm : MaskP m) : ∀ (rest done : List Int) (owner : Array (Option Nat)), Own m done owner → done.length + rest.length ≤ m →
    ∃ owner', rest.foldl (stepF m) (some (owner, done.length)) = some (owner', done.length + rest.length) ∧ Own m (done ++ rest) owner'
  | [], done, owner, W, _ => ⟨owner, rfl, by rw [List.append_nil]; exact W⟩
  | h :: rest, done, owner, W, hl => by
    rw [List.length_cons] at hl
    obtain ⟨j, e, W'⟩ := ownStep hm W (by omega) h
    have hl' : (done ++ [h]).length = done.length + 1 := by simp
    obtain ⟨owner', f, W2⟩ := foldP hm rest (done ++ [h]) _ W' (by rw [hl']; omega)
    rw [List.append_assoc] at W2
    rw [hl'] at f
    refine ⟨owner', ?_, W2⟩
    rw [List.foldl_cons, stepF_some e, f, List.length_cons]
    congr 2
    omega
theorem cleanP {m : Nat} (hm : MaskP m) {hs : Array Int} (hn : hs.size ≤ m) : ∃ owner, SetTable.layClean m hs = some owner ∧ Own m hs.toList owner := by
  obtain ⟨owner, f, W⟩ := foldP hm hs.toList [] _ (Own.init m) (by rw [Array.length_toList]; show 0 + hs.size ≤ m; omega)
  refine ⟨owner, ?_, W⟩
  have f' : hs.toList.foldl (stepF m) (some (Array.replicate (m + 1) none, 0)) = some (owner, ([] : List Int).length + hs.toList.length) := f
  rw [layClean_eq, f']
  rfl
theorem relaidP (t : SetTable) {hs : Array Int} {wanted M : Nat} (hw : SetTable.sizeAbove wanted - 1 = M) (hM : MaskP M) (hn : hs.size ≤ M) :
    ∃ t' order, t.relaid hs wanted = some (t', order) ∧ order.toList.Perm (List.range hs.size) ∧ TabP t' (order.toList.map fun i => hs.getD i 0) ∧ t'.mask = M ∧ t'.led = t.led := by
  obtain ⟨owner, e, W⟩ := cleanP hM hn
  have ris := ris_live (fun j => owner.getD j none) (List.range (M + 1)) (by unfold Ris; first | exact List.pairwise_lt_range | exact List.pairwise_lt_range _)
  have r1 : Ris ((liveOf M owner).map (·.1)) := ris.1
  have nd : ((liveOf M owner).map (·.1)).Nodup := r1.imp fun h => Nat.ne_of_lt h
  have hlen : (liveOf M owner).length = hs.size := by
    obtain ⟨ps, p1, p2⟩ := W.ps
    have a := nat_nodup_len ((liveOf M owner).map (·.1)) ps nd fun x hx => by
      obtain ⟨⟨y, k⟩, hq, eq1⟩ := List.mem_map.mp hx
      obtain ⟨b1, b2⟩ := (mem_live W.sz).1 hq
      rw [← eq1]
      exact p2 y b1 (by rw [b2]; intro z; cases z)
    have b := nat_nodup_len (List.range hs.size) ((liveOf M owner).map (·.2)) List.nodup_range fun k hk => by
      obtain ⟨j, b1, b2⟩ := W.all k (by rw [Array.length_toList]; exact List.mem_range.mp hk)
      exact List.mem_map.mpr ⟨(j, k), (mem_live W.sz).2 ⟨b1, b2⟩, rfl⟩
    rw [List.length_map, p1] at a
    rw [List.length_map, List.length_range] at b
    have hz : hs.toList.length = hs.size := Array.length_toList
    omega
  refine ⟨tabOf t M owner, ((liveOf M owner).map (·.2)).toArray, by rw [relaid_eq, hw, e]; rfl, ?_, ⟨r1, rfl, ?_, hM, fun x hx => ?_, fun i h j h1 h2 => ?_⟩, rfl, rfl⟩
  · refine perm_range hs.size _ (by simp [hlen]) fun k hk => ?_
    obtain ⟨j, b1, b2⟩ := W.all k (by rw [Array.length_toList]; exact hk)
    exact List.mem_map.mpr ⟨(j, k), (mem_live W.sz).2 ⟨b1, b2⟩, rfl⟩
  · show ((liveOf M owner).map (·.1)).toArray.size = _
    simp
  · exact Nat.le_of_lt_succ (List.mem_range.mp (ris.2 x hx))
  · have h1' : (((liveOf M owner).map (·.2)).map fun i => hs.getD i 0)[i]? = some h := h1
    have h2' : ((liveOf M owner).map (·.1))[i]? = some j := h2
    rw [List.getElem?_map, List.getElem?_map] at h1'
    rw [List.getElem?_map] at h2'
    cases hq : (liveOf M owner)[i]? with
    | none => rw [hq] at h2'; cases h2'
    | some q =>
      obtain ⟨y, k⟩ := q
      rw [hq] at h1' h2'
      obtain rfl : y = j := Option.some.inj h2'
      have eh : hs.getD k 0 = h := Option.some.inj h1'
      obtain ⟨b1, b2⟩ := (mem_live W.sz).1 (List.mem_of_getElem? hq)
      obtain ⟨h0, K, a1, a2, a3⟩ := W.at_ y k b1 b2
      have e0 : hs.getD k 0 = h0 := by rw [Array.getD_eq_getD_getElem?, ← Array.getElem?_toList, a1]; rfl
      obtain rfl : h0 = h := e0.symm.trans eh
      refine ⟨K, a2, fun k' hk' => ?_⟩
      show way M h0 k' ∈ (liveOf M owner).map (·.1)
      cases z : oAt owner (way M h0 k') with
      | none => exact absurd z (a3 k' hk')
      | some k2 => exact List.mem_map.mpr ⟨(way M h0 k', k2), (mem_live W.sz).2 ⟨wayP_le, z⟩, rfl⟩
theorem above_20 : SetTable.sizeAbove (SetTable.grown 5) = 32 := by decide +kernel
theorem above_76 : SetTable.sizeAbove (SetTable.grown 19) = 128 := by decide +kernel
theorem above_308 : SetTable.sizeAbove (SetTable.grown 77) = 512 := by decide +kernel
end Rk

/-! sets of tuples of ints and texts: what adding does, set(xs), sorted(set) -/
namespace Rk
open PySem PySem.Spec PyProof.Rows L2

abbrev hK (P : Program) (w : World) (k : List Key) : Int := tupleKeyHash (mixKind P w) k
abbrev IsK (P : Program) (w : World) (h : Heap) (k : List Key) (a : Addr) : Prop := IsTupleKey (mixKind P w) h k a
abbrev Row := Addr × List Key

section
variable {P : Program} {w : World} {A : Around} {E : Value → Shared → Prop} {s : Shared}
/-! ### small questions -/
def IntStr (v : Value) : Prop := (∃ i t, v = Value.int i t) ∨ ∃ x t, v = Value.str x t
theorem items_flat {k : List Key} {vs : List Value} (h : ItemsAre (mixKind P w) k vs) : ∀ v ∈ vs, IntStr v := by
  induction h with
  | nil => intro v hv; cases hv
  | @cons k0 v' ks vs h1 _ ih =>
    intro v hv
    rcases List.mem_cons.mp hv with e | hv
    · rcases keyIs_shape h1 with ⟨i, t, _, e2⟩ | ⟨x, t, _, e2⟩
      · exact .inl ⟨i, t, e.trans e2⟩
      · exact .inr ⟨x, t, e.trans e2⟩
    · exact ih v hv
theorem noClass_flat (n : Nat) {v : Value} (h : IntStr v) : ofAClassStatement n v = pure false := by
  rcases h with ⟨i, t, rfl⟩ | ⟨x, t, rfl⟩ <;> cases n <;> rfl
theorem byVal_flat (n : Nat) {v : Value} (h : IntStr v) : ∃ b, hashByValue n v = pure b := by
  rcases h with ⟨i, t, rfl⟩ | ⟨x, t, rfl⟩ <;> cases n <;> exact ⟨_, rfl⟩
theorem noClass_tup {k : List Key} {b : Addr} {Q : Bool → Shared → Prop} (hk : IsK P w s.heap k b) (h : Q false s) : wpAny (model P w) A (ofAClassStatement 8 (.ref b)) Q E s := by
  have hT := hk.typeIs
  obtain ⟨o, items, n, ho, _, hd, hi⟩ := hk
  unfold ofAClassStatement
  refine wpAny_bind (wpAny_typeOf hT ?_)
  have e : (("tuple" : String) == "tuple") = true := by decide
  simp only [e, if_true, Bool.not_true, Bool.false_eq_true, if_false]
  try refine wpAny_bind (wpAny_pure ?_)
  try simp only [Bool.not_true, Bool.false_eq_true, if_false]
  refine wpAny_bind (wpAny_seqItems ho hd ?_)
  dsimp only
  refine wpAny_bind ?_
  rw [← Array.forIn_toList]
  refine wpAny_forIn_list _ (fun rest r s' => r.1 = none ∧ s' = s ∧ ∀ v ∈ rest, IntStr v) _ ?_ ?_ _ _ ⟨rfl, rfl, items_flat hi⟩
  · rintro v rest r s' ⟨hr, rfl, hall⟩
    rw [noClass_flat _ (hall v List.mem_cons_self)]
    refine wpAny_bind (wpAny_pure ?_)
    simp only [Bool.false_eq_true, if_false]
    exact wpAny_pure ⟨rfl, rfl, fun u hu' => hall u (List.mem_cons_of_mem _ hu')⟩
  · rintro ⟨r1, r2⟩ s' ⟨hr, rfl, _⟩
    simp only at hr
    subst hr
    exact wpAny_pure h
theorem byVal_tup {k : List Key} {b : Addr} {Q : Bool → Shared → Prop} (hk : IsK P w s.heap k b) (h : ∀ r, Q r s) : wpAny (model P w) A (hashByValue 8 (.ref b)) Q E s := by
  have hT := hk.typeIs
  obtain ⟨o, items, n, ho, _, hd, hi⟩ := hk
  unfold hashByValue
  refine wpAny_bind (wpAny_specialOf hT F.slot_tuple_hash.lookup ?_)
  refine wpAny_bind (wpAny_seqItems ho hd ?_)
  refine wpAny_bind ?_
  show wpAny _ _ (forIn items _ _) _ _ s
  rw [← Array.forIn_toList]
  refine wpAny_forIn_list _ (fun rest r s' => r.1 = none ∧ s' = s ∧ ∀ v ∈ rest, IntStr v) _ ?_ ?_ _ _ ⟨rfl, rfl, items_flat hi⟩
  · rintro v rest r s' ⟨hr, rfl, hall⟩
    obtain ⟨c, e⟩ := byVal_flat 7 (hall v List.mem_cons_self)
    rw [e]
    refine wpAny_bind (wpAny_pure ?_)
    cases c with
    | true =>
      simp only [Bool.not_true, Bool.false_eq_true, if_false]
      exact wpAny_pure ⟨rfl, rfl, fun u hu' => hall u (List.mem_cons_of_mem _ hu')⟩
    | false =>
      simp only [Bool.not_false, if_true]
      exact wpAny_pure (wpAny_pure (h false))
  · rintro ⟨r1, r2⟩ s' ⟨hr, rfl, _⟩
    simp only at hr
    subst hr
    exact wpAny_pure (h true)
/-- a search among such tuples shows nothing -/
theorem unseen {k : List Key} {b : Addr} {Q : Bool → Shared → Prop} (hk : IsK P w s.heap k b) {ys : List Value} (hy : ∀ y ∈ ys, ∃ k' c, y = Value.ref c ∧ IsK P w s.heap k' c) (h : Q false s) :
    wpAny (model P w) A (searchCouldBeSeen (.ref b) ys) Q E s := by
  unfold searchCouldBeSeen
  refine wpAny_bind (wpAny_forIn_list _ (fun rest r s' => r.1 = none ∧ s' = s ∧ ∀ y ∈ rest, ∃ k' c, y = Value.ref c ∧ IsK P w s.heap k' c) _ ?_ ?_ _ _ ⟨rfl, rfl, hy⟩)
  · rintro v rest r s' ⟨hr, rfl, hall⟩
    obtain ⟨k', c, rfl, hc⟩ := hall v List.mem_cons_self
    have more := fun u hu' => hall u (List.mem_cons_of_mem _ hu')
    dsimp only
    by_cases hv : (b == c || (carriedByValue (.ref b) && carriedByValue (.ref c))) = true
    · exact wp_if_pos hv (wpAny_pure ⟨rfl, rfl, more⟩)
    · refine wp_if_neg hv (wpAny_bind (wpAny_eqIsQuiet_tuple hk ?_))
      simp only [Bool.not_true, Bool.false_eq_true, if_false]
      refine wpAny_bind (wpAny_eqIsQuiet_tuple hc ?_)
      simp only [Bool.not_true, Bool.false_eq_true, if_false]
      refine wpAny_bind (noClass_tup hk ?_)
      simp only [Bool.false_eq_true, if_false]
      refine wpAny_bind (noClass_tup hc ?_)
      simp only [Bool.false_eq_true, if_false]
      exact wpAny_pure ⟨rfl, rfl, more⟩
  · rintro ⟨r1, r2⟩ s' ⟨hr, rfl, _⟩
    simp only at hr
    subst hr
    exact wpAny_pure h

/-! ### the set -/
def entK (P : Program) (w : World) (L : List Row) : List (Int × Value) := L.map fun p => (hK P w p.2, Value.ref p.1)
theorem entK_len (L : List Row) : (entK P w L).length = L.length := List.length_map _
structure SetP (P : Program) (w : World) (h : Heap) (a : Addr) (L : List Row) (es : Array (Int × Value)) (ep : Nat) (t : SetTable) : Prop where
  ob : ∃ o, h.get? a = some o ∧ o.ExactSet ∧ o.data = .set es ep t
  ent : es.toList = entK P w L
  tab : TabP t (L.map fun p => hK P w p.2)
  nd : (L.map (·.2)).Nodup
  tup : ∀ p ∈ L, IsK P w h p.2 p.1
  led : w.params.followText "set-order" = true ∨ t.led = true
  room : L.length * 5 < t.mask * 3
  few : L.length < 300
variable {a : Addr} {L : List Row} {es : Array (Int × Value)} {ep : Nat} {t : SetTable}
theorem SetP.size (R : SetP P w s.heap a L es ep t) : es.size = L.length := by
  rw [← entK_len (P := P) (w := w) L, ← R.ent, Array.length_toList]
theorem SetP.psize (R : SetP P w s.heap a L es ep t) : t.place.toList.length = L.length := by
  rw [Array.length_toList, R.tab.sz, List.length_map]
theorem SetP.fits (R : SetP P w s.heap a L es ep t) : t.fits es.size = true := by
  have h1 := R.psize
  have h2 := R.size
  have h3 := R.room
  rw [Array.length_toList] at h1
  unfold SetTable.fits SetTable.fill
  rw [R.tab.dm, Bool.and_eq_true, beq_iff_eq, decide_eq_true_eq]
  show t.place.size = es.size ∧ t.place.size + 0 ≤ t.mask
  omega
theorem SetP.entry (R : SetP P w s.heap a L es ep t) {i : Nat} {p : Row} (h : L[i]? = some p) : es[i]? = some (hK P w p.2, Value.ref p.1) := by
  rw [← Array.getElem?_toList, R.ent]
  unfold entK
  rw [List.getElem?_map, h]
  rfl
theorem SetP.held (R : SetP P w s.heap a L es ep t) : ¬ t.gaveWay = true := by
  unfold SetTable.gaveWay
  rw [R.tab.mok.odd]
  decide
theorem memory_same (t : SetTable) : t.sameMemory t.moves t.mask = some true := by
  unfold SetTable.sameMemory
  rw [if_pos (beq_self_eq_true _)]
theorem nth_noDummy (m : Nat) : ∀ (n : Nat) (p : SetTable.Probe), p.dummy = none → (nth m p n).dummy = none
  | 0, _, h => h
  | n + 1, p, h => nth_noDummy m n (adv m p) (by unfold adv; split <;> exact h)

/-- the search, from the c-th step of its way on -/
theorem seek (R : SetP P w s.heap a L es ep t) {x : Addr} {k : List Key} (hx : IsK P w s.heap k x) (hu : A.units < cLine) {K : Nat} (hKf : K < 10 * SetTable.turns t.mask)
    (hK1 : way t.mask (hK P w k) K ∉ t.place.toList) (hKb : ∀ c, c < K → way t.mask (hK P w k) c ∈ t.place.toList) {Q : SetFound → Shared → Prop}
    (hin : k ∈ L.map (·.2) → Q (.there none) s) (hout : k ∉ L.map (·.2) → Q (.free (way t.mask (hK P w k) K) false) s) :
    ∀ (f c : Nat) (stand : Option SetTable.Probe), stand.getD (t.probeStart (hK P w k)) = nth t.mask (runAt t.mask (SetTable.bits (hK P w k) % (t.mask + 1)) (SetTable.bits (hK P w k))) c → c ≤ K → K - c < f →
      (∀ (i : Nat) p, L[i]? = some p → p.2 = k → ∃ c', c ≤ c' ∧ c' < K ∧ t.place.toList[i]? = some (way t.mask (hK P w k) c')) →
      wpAny (model P w) A (setSearchFrom a (.ref x) (hK P w k) true f stand) Q E s
  | 0, _, _, _, _, hf, _ => absurd hf (Nat.not_lt_zero _)
  | f + 1, c, stand, hst, hc, hf, hre => by
    generalize eR : runAt t.mask (SetTable.bits (hK P w k) % (t.mask + 1)) (SetTable.bits (hK P w k)) = r0 at hst
    have ew : ∀ q, way t.mask (hK P w k) q = (nth t.mask r0 q).j := fun q => by unfold way; rw [eR]
    have hr0 : r0.dummy = none := by rw [← eR]; rfl
    obtain ⟨o, ho, hex, hd⟩ := R.ob
    rw [setSearchFrom_succ]
    refine wpAny_bind (wpAny_setState_of ho hd R.fits ?_)
    dsimp only
    refine wp_if_neg R.held ?_
    try refine wpAny_bind (wpAny_pure ?_)
    have sh : ∀ q, nth t.mask (nth t.mask r0 c) q = nth t.mask r0 (c + q) := fun q => (nth_add t.mask c _ q).symm
    have e1 : ∀ q, (nth t.mask (nth t.mask r0 c) q).j = way t.mask (hK P w k) (c + q) := fun q => by rw [sh, ew]
    have hashAt : ∀ (i : Nat) p, L[i]? = some p → (fun i => (es[i]?.map (·.1)).getD 0) i = hK P w p.2 := fun i p hp => by
      show (es[i]?.map (·.1)).getD 0 = _
      rw [R.entry hp]
      rfl
    rcases go_spec t R.tab.ris R.tab.dm (fun i => (es[i]?.map (·.1)).getD 0) (hK P w k) (10 * SetTable.turns t.mask) (K - c) (nth t.mask r0 c) (nth_noDummy _ _ _ hr0) (by omega)
      (fun q hq => by rw [e1]; exact hKb (c + q) (by omega)) (by rw [e1, show c + (K - c) = K by omega]; exact hK1) with ⟨q, i, hq, hi, hh, hno, hpr⟩ | ⟨hno, hpr⟩
    · rw [e1] at hi
      have hpr' : t.probe (fun i => (es[i]?.map (·.1)).getD 0) (hK P w k) (stand.getD (t.probeStart (hK P w k))) = some (.candidate (way t.mask (hK P w k) (c + q)) i (nth t.mask r0 (c + (q + 1)))) := by
        rw [hst, ← e1, ← sh]
        exact hpr
      rw [hpr']
      dsimp only
      have hil : i < L.length := by rw [← R.psize]; exact (List.getElem?_eq_some_iff.mp hi).1
      have hp : L[i]? = some L[i] := List.getElem?_eq_getElem hil
      generalize L[i] = p at hp
      have hmem : p ∈ L := List.mem_of_getElem? hp
      have rest : wpAny (model P w) A (searchRest a (.ref x) (hK P w k) true f es t (way t.mask (hK P w k) (c + q)) i (nth t.mask r0 (c + (q + 1)))) Q E s := by
        unfold searchRest
        rw [R.entry hp]
        dsimp only
        refine wpAny_bind (wpAny_holding (wpAny_eqBool_tuple hu (R.tup p hmem) hx ?_))
        refine wpAny_bind (wpAny_setState_of ho hd R.fits ?_)
        dsimp only
        by_cases hkk : p.2 = k
        · refine wp_if_pos (by simp [hkk]) (wpAny_pure (hin (List.mem_map.mpr ⟨p, hmem, hkk⟩)))
        · refine wp_if_neg (by simp [hkk]) ?_
          try refine wpAny_bind (wpAny_pure ?_)
          rw [memory_same]
          dsimp only
          have hsl : t.slot (way t.mask (hK P w k) (c + q)) = .live i := slot_live R.tab.ris hi
          simp only [if_true, hsl, R.entry hp]
          refine wpAny_bind (wpAny_isSame_ref_self (wpAny_bind (wpAny_pure ?_)))
          simp only [if_true]
          refine wp_if_neg (by simp [hkk]) ?_
          refine seek R hx hu hKf hK1 hKb hin hout f (c + (q + 1)) _ (by rw [eR]; rfl) (by omega) (by omega) fun i0 p0 h0 hk0 => ?_
          obtain ⟨c', a1, a2, a3⟩ := hre i0 p0 h0 hk0
          refine ⟨c', Nat.le_of_not_lt fun hlt => ?_, a2, a3⟩
          by_cases hcq : c' = c + q
          · rw [hcq] at a3
            have s0 := slot_live R.tab.ris a3
            rw [hsl] at s0
            injection s0 with s0
            rw [← s0, hp] at h0
            exact hkk ((congrArg Prod.snd (Option.some.inj h0)).trans hk0)
          · exact hno (c' - c) i0 (by omega) (by rw [e1, show c + (c' - c) = c' by omega]; exact a3) ((hashAt i0 p0 h0).trans (congrArg (hK P w) hk0))
      by_cases hl : t.led = true
      · refine wp_if_neg (by simp [hl]) ?_
        try refine wpAny_bind (wpAny_pure ?_)
        exact rest
      · refine wp_if_pos (by simp [hl]) ?_
        refine wpAny_bind (unseen hx (fun y hy => ?_) ?_)
        · obtain ⟨e, he, ee⟩ := List.mem_map.mp hy
          have he1 : e ∈ es ∧ e.1 = hK P w k := by simpa using he
          have he2 : e ∈ es.toList := by simpa using he1.1
          rw [R.ent] at he2
          obtain ⟨p2, hp2, e2⟩ := List.mem_map.mp he2
          exact ⟨p2.2, p2.1, by rw [← ee, ← e2], R.tup p2 hp2⟩
        · refine wp_if_neg (by decide) ?_
          try refine wpAny_bind (wpAny_pure ?_)
          exact rest
    · have hpr' : t.probe (fun i => (es[i]?.map (·.1)).getD 0) (hK P w k) (stand.getD (t.probeStart (hK P w k))) = some (.empty (way t.mask (hK P w k) K) none) := by
        rw [hst, show way t.mask (hK P w k) K = (nth t.mask (nth t.mask r0 c) (K - c)).j by rw [e1, show c + (K - c) = K by omega]]
        exact hpr
      rw [hpr']
      dsimp only
      refine wpAny_pure (hout fun hm => ?_)
      obtain ⟨p0, h0, hk0⟩ := List.mem_map.mp hm
      obtain ⟨i0, hi0, e0⟩ := List.getElem_of_mem h0
      have h00 : L[i0]? = some p0 := by rw [List.getElem?_eq_getElem hi0, e0]
      obtain ⟨c', a1, a2, a3⟩ := hre i0 p0 h00 hk0
      exact hno (c' - c) i0 (by omega) (by rw [e1, show c + (c' - c) = c' by omega]; exact a3) ((hashAt i0 p0 h00).trans (congrArg (hK P w) hk0))
theorem seek_all (R : SetP P w s.heap a L es ep t) {x : Addr} {k : List Key} (hx : IsK P w s.heap k x) (hu : A.units < cLine) {Q : SetFound → Shared → Prop} (hin : k ∈ L.map (·.2) → Q (.there none) s)
    (hout : ∀ K, k ∉ L.map (·.2) → way t.mask (hK P w k) K ∉ t.place.toList → (∀ c, c < K → way t.mask (hK P w k) c ∈ t.place.toList) → Q (.free (way t.mask (hK P w k) K) false) s) :
    wpAny (model P w) A (setSearch a (.ref x) (hK P w k) true) Q E s := by
  have hroom := R.room
  obtain ⟨K, hKf, hK1, hKb⟩ := R.tab.first (by rw [List.length_map]; omega) (hK P w k)
  have hbig : K < 100000 := by
    have := R.tab.mok.le
    unfold SetTable.turns at hKf
    omega
  unfold setSearch
  refine seek R hx hu hKf hK1 hKb hin (fun hn => hout K hn hK1 hKb) 100000 0 none rfl (Nat.zero_le _) (by omega) fun i p hp hk => ?_
  have hi : (L.map fun p => hK P w p.2)[i]? = some (hK P w k) := by rw [List.getElem?_map, hp, ← hk]; rfl
  have hil : i < t.place.toList.length := by rw [R.psize]; exact (List.getElem?_eq_some_iff.mp hp).1
  have hj := List.getElem?_eq_getElem hil
  obtain ⟨c, hc, e⟩ := R.tab.before hK1 hi hj
  exact ⟨c, Nat.zero_le _, hc, by rw [hj, e]⟩
end
end Rk

/-! sets of tuples of ints and texts: adding, set(xs), sorted(set) -/
namespace Rk
open PySem PySem.Spec PyProof.Rows L2
section
variable {P : Program} {w : World} {A : Around} {E : Value → Shared → Prop} {s : Shared}
theorem isK_same {h h' : Heap} {k : List Key} {a b : Addr} {o : Obj} {es : Array (Int × Value)} {ep : Nat} {t : SetTable} (hb : IsK P w h k b) (ho : h.get? a = some o) (hd : o.data = .set es ep t) (hs : Heap.SameBut a h h') : IsK P w h' k b := by
  obtain ⟨o', items, n, ho', hc, hd', hi⟩ := hb
  refine ⟨o', items, n, (hs.2 b fun e => ?_).trans ho', hc, hd', hi⟩
  rw [e, ho] at ho'
  cases ho'
  rw [hd] at hd'
  cases hd'
theorem isK_keep {h h' : Heap} {k : List Key} {b : Addr} (x : IsK P w h k b) (hk : ∀ c o, h.get? c = some o → h'.get? c = some o) : IsK P w h' k b := by
  obtain ⟨o, items, n, ho, r⟩ := x
  exact ⟨o, items, n, hk b o ho, r⟩
theorem entK_put (L : List Row) (p : Nat) (x : Addr) (k : List Key) : entK P w (L.take p ++ (x, k) :: L.drop p) = (entK P w L).take p ++ (hK P w k, Value.ref x) :: (entK P w L).drop p := by
  unfold entK
  rw [List.map_append, List.map_cons, List.map_take, List.map_drop]
theorem getAll {α : Type} (L : List α) : (List.range L.length).filterMap (fun i => L[i]?) = L := by
  have : ∀ n, n ≤ L.length → (List.range n).filterMap (fun i => L[i]?) = L.take n := by
    intro n
    induction n with
    | zero => intro _; rfl
    | succ n ih =>
      intro hn
      rw [List.range_succ, List.filterMap_append, ih (Nat.le_of_succ_le hn), List.take_add_one, List.filterMap_cons, List.getElem?_eq_getElem hn]
      rfl
  rw [this _ (Nat.le_refl _), List.take_length]
theorem order_ent (L : List Row) (es : Array (Int × Value)) (order : Array Nat) (hr : es.toList = entK P w L) (hp : order.toList.Perm (List.range L.length)) :
    ∃ L2 : List Row, (order.filterMap (es[·]?)).toList = entK P w L2 ∧ L2.Perm L ∧ (L2.map fun p => hK P w p.2) = order.toList.map fun i => (es.map (·.1)).getD i 0 := by
  have ent : ∀ i (h : i < L.length), es[i]? = some (hK P w (L[i]).2, Value.ref (L[i]).1) := fun i h => by
    rw [← Array.getElem?_toList, hr]
    unfold entK
    rw [List.getElem?_map, List.getElem?_eq_getElem h]
    rfl
  have key : ∀ l : List Nat, (∀ i ∈ l, i < L.length) → l.filterMap (fun i => es[i]?) = entK P w (l.filterMap fun i => L[i]?) ∧ ((l.filterMap fun i => L[i]?).map fun p => hK P w p.2) = l.map fun i => (es.map (·.1)).getD i 0 := by
    intro l
    induction l with
    | nil => intro _; exact ⟨rfl, rfl⟩
    | cons i l ih =>
      intro hl
      have hi := hl i List.mem_cons_self
      obtain ⟨e1, e3⟩ := ih fun j hj => hl j (List.mem_cons_of_mem _ hj)
      have e5 : (es.map (·.1))[i]? = some (hK P w (L[i]).2) := by rw [Array.getElem?_map, ent i hi]; rfl
      rw [List.filterMap_cons_some (ent i hi), List.filterMap_cons_some (List.getElem?_eq_getElem hi), e1, List.map_cons, List.map_cons, e3]
      refine ⟨rfl, ?_⟩
      congr 1
      rw [Array.getD_eq_getD_getElem?, e5]
      rfl
  obtain ⟨e1, e3⟩ := key order.toList fun i hi => List.mem_range.mp (hp.mem_iff.mp hi)
  refine ⟨_, by first | (rw [Array.toList_filterMap]; exact e1) | simpa using e1, ?_, e3⟩
  have := hp.filterMap (fun i => L[i]?)
  rw [getAll L] at this
  exact this
variable {a : Addr} {L : List Row} {es : Array (Int × Value)} {ep : Nat} {t : SetTable}
/-- laid anew, larger -/
theorem relayP {o : Obj} (ho : s.heap.get? a = some o) (hex : o.ExactSet) (hd : o.data = .set es ep t) (hent : es.toList = entK P w L) (hsz : t.place.size = es.size) (hdm : t.dummies = #[]) (hfl : es.size ≤ t.mask)
    (nd : (L.map (·.2)).Nodup) (tup : ∀ p ∈ L, IsK P w s.heap p.2 p.1) (ld : w.params.followText "set-order" = true ∨ t.led = true) (few : L.length < 300) {wanted M : Nat}
    (hw : SetTable.sizeAbove wanted - 1 = M) (hM : MaskP M) (hw2 : SetTable.sizeAbove wanted ≤ 512) (hn : L.length * 5 < M * 3) {Q : Unit → Shared → Prop}
    (hQ : ∀ h' L' es' ep' t', Heap.SameBut a s.heap h' → SetP P w h' a L' es' ep' t' → L'.Perm L → Q () { s with heap := h' }) : wpAny (model P w) A (setRelay a wanted) Q E s := by
  have hsl : es.size = L.length := by rw [← entK_len (P := P) (w := w) L, ← hent, Array.length_toList]
  have hfits : t.fits es.size = true := by
    unfold SetTable.fits SetTable.fill
    rw [hdm, Bool.and_eq_true, beq_iff_eq, decide_eq_true_eq]
    show t.place.size = es.size ∧ t.place.size + 0 ≤ t.mask
    omega
  obtain ⟨t', order, e, hp, T, em, el⟩ := relaidP t (hs := es.map (·.1)) (wanted := wanted) hw hM (by rw [Array.size_map, hsl]; omega)
  rw [Array.size_map, hsl] at hp
  obtain ⟨L2, r1, r2, r3⟩ := order_ent L es order hent hp
  rw [← r3] at T
  have hs2 : (order.filterMap (es[·]?)).size = es.size := by
    rw [← Array.length_toList, r1, entK_len, r2.length_eq, hsl]
  rw [setRelay_eq]
  refine wpAny_bind (wpAny_setState_of ho hd hfits ?_)
  dsimp only
  refine wp_if_neg (by rw [sizeLine_eq]; omega) ?_
  try refine wpAny_bind (wpAny_pure ?_)
  rw [e]
  dsimp only
  refine wpAny_bind (wp_if_neg (by rw [hs2]; simp) ?_)
  try refine wpAny_bind (wpAny_pure ?_)
  refine wpAny_pure ?_
  dsimp only
  refine wpAny_storeSet_of ho hd ?_ (by rw [hs2, hsl, sizeLine_eq]; omega)
  have sb : Heap.SameBut a s.heap (s.heap.update a (Obj.putSet (order.filterMap (es[·]?)) t')) := Heap.SameBut.update ..
  refine hQ _ L2 _ (ep + 1) t' sb ⟨⟨_, store_at ho hd, ⟨hex.1, hex.2.1, hex.2.2⟩, rfl⟩, r1, T, (r2.map (·.2)).nodup_iff.mpr nd, fun p hpm => isK_same (tup p (r2.mem_iff.mp hpm)) ho hd sb, by rw [el]; exact ld, ?_, by rw [r2.length_eq]; exact few⟩ r2
  rw [r2.length_eq, em]
  exact hn
/-- ADDING -/
theorem addP (R : SetP P w s.heap a L es ep t) {x : Addr} {k : List Key} (hx : IsK P w s.heap k x) (hu : A.units < cLine) (hfew : L.length + 1 < 300) {Q : Bool → Shared → Prop}
    (hQ : ∀ b h' L' es' ep' t', Heap.SameBut a s.heap h' → SetP P w h' a L' es' ep' t' → (k ∈ L.map (·.2) → L' = L) → (k ∉ L.map (·.2) → L'.Perm ((x, k) :: L)) → Q b { s with heap := h' }) :
    wpAny (model P w) A (setAddHashed a (.ref x) (hK P w k)) Q E s := by
  obtain ⟨o, ho, hex, hd⟩ := R.ob
  have hsl := R.size
  have hroom := R.room
  unfold setAddHashed
  refine wpAny_holding ?_
  rw [show (100000 : Nat) = 99999 + 1 from rfl, setAddHashedIn_succ]
  refine wpAny_bind (wpAny_setState_of ho hd R.fits ?_)
  dsimp only
  refine wp_if_neg (by simp [byScan, Value.scannable]) ?_
  try refine wpAny_bind (wpAny_pure ?_)
  refine wpAny_bind (seek_all R hx hu (fun hm => ?_) fun K hm hK1 hb => ?_)
  · dsimp only
    exact wpAny_pure (hQ false s.heap L es ep t (Heap.SameBut.refl a s.heap) R (fun _ => rfl) fun z => absurd hm z)
  dsimp only
  refine wpAny_bind (wpAny_setState_of ho hd R.fits ?_)
  dsimp only
  obtain ⟨q1, q2, q3, q9⟩ := R.tab.put hK1 hb
  have q4 : (t.put (way t.mask (hK P w k) K)).1.mask = t.mask := rfl
  have q5 : (t.put (way t.mask (hK P w k) K)).1.led = t.led := rfl
  generalize t.put (way t.mask (hK P w k) K) = pt at q1 q3 q4 q5 q9 ⊢
  obtain ⟨t0, p⟩ := pt
  dsimp only at q1 q3 q4 q5 q9 ⊢
  subst q1
  generalize SetTable.below t.place (way t.mask (hK P w k) K) = p at q2 q3 ⊢
  -- whatever is told of the hash, from here on
  have behind : ∀ t1 : SetTable, TabP t1 ((L.map fun p => hK P w p.2).take p ++ hK P w k :: (L.map fun p => hK P w p.2).drop p) → t1.mask = t.mask → t1.led = t.led → t1.fill = L.length + 1 →
      wpAny (model P w) A (do
        storeSet a (SetTable.insertAt es p (hK P w k, Value.ref x)) t1
        if (!false && t1.tooFull) = true then setRelay a (SetTable.grown (es.size + 1))
        return true) Q E s := by
    intro t1 T1 m1 l1 f1
    have hin : (SetTable.insertAt es p (hK P w k, Value.ref x)).toList = entK P w (L.take p ++ (x, k) :: L.drop p) := by rw [SetTable.toList_insertAt, entK_put, R.ent]
    have pm : (L.take p ++ (x, k) :: L.drop p).Perm ((x, k) :: L) := by
      have := List.perm_middle (a := (x, k)) (l₁ := L.take p) (l₂ := L.drop p)
      rwa [List.take_append_drop] at this
    have hhs : (L.take p ++ (x, k) :: L.drop p).map (fun p => hK P w p.2) = (L.map fun p => hK P w p.2).take p ++ hK P w k :: (L.map fun p => hK P w p.2).drop p := by
      rw [List.map_append, List.map_cons, List.map_take, List.map_drop]
    rw [← hhs] at T1
    generalize SetTable.insertAt es p (hK P w k, Value.ref x) = es1 at hin ⊢
    generalize L.take p ++ (x, k) :: L.drop p = L1 at pm T1 hin
    have hlen : L1.length = L.length + 1 := pm.length_eq
    have hes : es1.size = L.length + 1 := by rw [← Array.length_toList, hin, entK_len, hlen]
    have nd1 : (L1.map (·.2)).Nodup := (pm.map (·.2)).nodup_iff.mpr (List.nodup_cons.mpr ⟨hm, R.nd⟩)
    refine wpAny_bind (wpAny_storeSet_of ho hd ?_ (by rw [hes, sizeLine_eq]; omega))
    have sb : Heap.SameBut a s.heap (s.heap.update a (Obj.putSet es1 t1)) := Heap.SameBut.update ..
    have ho1 := store_at (es' := es1) (t' := t1) ho hd
    generalize s.heap.update a (Obj.putSet es1 t1) = h1 at sb ho1 ⊢
    have tup1 : ∀ p ∈ L1, IsK P w h1 p.2 p.1 := fun p hp => by
      rcases List.mem_cons.mp (pm.mem_iff.mp hp) with e | hp
      · rw [e]; exact isK_same hx ho hd sb
      · exact isK_same (R.tup p hp) ho hd sb
    have ld1 : w.params.followText "set-order" = true ∨ t1.led = true := by rw [l1]; exact R.led
    have hsz1 : t1.place.size = es1.size := by rw [T1.sz, List.length_map, hlen, hes]
    by_cases hf : t1.tooFull = true
    · have hfull : (L.length + 1) * 5 ≥ t1.mask * 3 := by
        unfold SetTable.tooFull at hf
        rw [decide_eq_true_eq, f1] at hf
        exact hf
      first
        | (refine wpAny_bind ?_; refine wp_if_pos (by simp [hf]) ?_)
        | (refine wp_if_pos (by simp [hf]) ?_; refine wpAny_bind ?_)
      rw [hsl]
      have go : ∀ M, SetTable.sizeAbove (SetTable.grown (L.length + 1)) - 1 = M → MaskP M → SetTable.sizeAbove (SetTable.grown (L.length + 1)) ≤ 512 → (L.length + 1) * 5 < M * 3 → L.length + 1 ≤ t.mask →
          wpAny (model P w) A (setRelay a (SetTable.grown (L.length + 1))) (fun _ s' => wpAny (model P w) A (pure true) Q E s') E { s with heap := h1 } := fun M h1' h2' h3' h4' h5' => by
        refine relayP (s := { s with heap := h1 }) ho1 ⟨hex.1, hex.2.1, hex.2.2⟩ rfl hin hsz1 T1.dm (by rw [hes, m1]; exact h5') nd1 tup1 ld1 (by rw [hlen]; exact hfew) h1' h2' h3' (by rw [hlen]; exact h4') ?_
        intro h2 L2 es2 ep2 t2 sb2 R2 pm2
        exact wpAny_pure (hQ true h2 L2 es2 ep2 t2 (sb.trans sb2) R2 (fun z => absurd z hm) fun _ => pm2.trans pm)
      rw [m1] at hfull
      rcases R.tab.mok with e | e | e | e <;> rw [e] at hfull hroom
      · have e2 : L.length = 4 := by omega
        exact go 31 (by rw [e2, above_20]) (.inr (.inl rfl)) (by rw [e2, above_20]; decide) (by omega) (by omega)
      · have e2 : L.length = 18 := by omega
        exact go 127 (by rw [e2, above_76]) (.inr (.inr (.inl rfl))) (by rw [e2, above_76]; decide) (by omega) (by omega)
      · have e2 : L.length = 76 := by omega
        exact go 511 (by rw [e2, above_308]) (.inr (.inr (.inr rfl))) (by rw [e2, above_308]; decide) (by omega) (by omega)
      · omega
    · first
        | refine wp_if_neg (by simp [hf]) ?_
        | (refine wpAny_bind ?_; refine wp_if_neg (by simp [hf]) ?_; refine wpAny_pure ?_)
      refine wpAny_pure (hQ true h1 L1 es1 (ep + 1) t1 sb ⟨⟨_, ho1, ⟨hex.1, hex.2.1, hex.2.2⟩, rfl⟩, hin, T1, nd1, tup1, ld1, ?_, by rw [hlen]; exact hfew⟩ (fun z => absurd z hm) fun _ => pm)
      unfold SetTable.tooFull at hf
      rw [decide_eq_true_eq, f1] at hf
      rw [hlen]
      omega
  rw [List.length_map] at q9
  have two : ∀ r : Bool, wpAny (model P w) A (do
        let t1 := if r then t0 else { t0 with plain := false }
        storeSet a (SetTable.insertAt es p (hK P w k, Value.ref x)) t1
        if (!false && t1.tooFull) = true then setRelay a (SetTable.grown (es.size + 1))
        return true) Q E s := fun r => by
    cases r with
    | true => exact behind t0 q3 q4 q5 q9
    | false => exact behind { t0 with plain := false } ⟨q3.ris, q3.dm, q3.sz, q3.mok, q3.bd, q3.reach⟩ q4 q5 q9
  by_cases hp1 : t0.plain = true
  · first
      | (refine wpAny_bind ?_; refine wp_if_pos hp1 ?_; exact byVal_tup hx two)
      | exact wp_if_pos hp1 (wpAny_bind (byVal_tup hx two))
  · first
      | (refine wpAny_bind ?_; refine wp_if_neg hp1 ?_; exact wpAny_pure (two true))
      | exact wp_if_neg hp1 (wpAny_bind (wpAny_pure (two true)))
      | exact wp_if_neg hp1 (two true)
end
end Rk

/-! set(xs) and sorted(set) of tuples of ints and texts -/
namespace Rk
open PySem PySem.Spec PyProof.Rows L2

/-- what the set has got from the first i items -/
structure GotP (ks : List Row) (i : Nat) (L : List Row) : Prop where
  sub : ∀ p ∈ L, p ∈ ks.take i
  all : ∀ p ∈ ks.take i, p.2 ∈ L.map (·.2)
  len : L.length ≤ i
theorem GotP.zero (ks : List Row) : GotP ks 0 [] := ⟨fun p h => (by cases h), fun p h => (by simp at h), Nat.le_refl _⟩
theorem GotP.next {ks L L' : List Row} {i : Nat} {x : Row} (g : GotP ks i L) (h : ks[i]? = some x) (c1 : x.2 ∈ L.map (·.2) → L' = L) (c2 : x.2 ∉ L.map (·.2) → L'.Perm (x :: L)) : GotP ks (i + 1) L' := by
  have ht : ks.take (i + 1) = ks.take i ++ [x] := by rw [List.take_add_one, h]; rfl
  by_cases c : x.2 ∈ L.map (·.2)
  · rw [c1 c]
    refine ⟨fun p hp => by rw [ht]; exact List.mem_append_left _ (g.sub p hp), fun p hp => ?_, Nat.le_succ_of_le g.len⟩
    rw [ht] at hp
    rcases List.mem_append.mp hp with z | z
    · exact g.all p z
    · rw [List.mem_singleton.mp z]; exact c
  · have pm := c2 c
    refine ⟨fun p hp => ?_, fun p hp => ?_, by rw [pm.length_eq, List.length_cons]; exact Nat.succ_le_succ g.len⟩
    · rw [ht]
      rcases List.mem_cons.mp (pm.mem_iff.mp hp) with e | z
      · rw [e]; exact List.mem_append_right _ (List.mem_singleton.mpr rfl)
      · exact List.mem_append_left _ (g.sub p z)
    · rw [(pm.map (·.2)).mem_iff, List.map_cons]
      rw [ht] at hp
      rcases List.mem_append.mp hp with z | z
      · exact List.mem_cons_of_mem _ (g.all p z)
      · rw [List.mem_singleton.mp z]; exact List.mem_cons_self
section
variable {P : Program} {w : World} {A : Around} {E : Value → Shared → Prop} {s : Shared}
theorem SetP.keep {h h' : Heap} {a : Addr} {L : List Row} {es : Array (Int × Value)} {ep : Nat} {t : SetTable} (R : SetP P w h a L es ep t) (ha : ∀ o, h.get? a = some o → h'.get? a = some o) (ht : ∀ p ∈ L, IsK P w h' p.2 p.1) : SetP P w h' a L es ep t := by
  obtain ⟨o, ho, r⟩ := R.ob
  exact ⟨⟨o, ha o ho, r⟩, R.ent, R.tab, R.nd, ht, R.led, R.room, R.few⟩
abbrev emptySet (w : World) : Obj := { cls := .type "set", dict := none, data := .set #[] 0 (.fresh 0 0 (!w.params.followText "set-order")) }
theorem setP_fresh {h : Heap} {a : Addr} (ho : h.get? a = some (emptySet w)) : SetP P w h a [] #[] 0 (.fresh 0 0 (!w.params.followText "set-order")) where
  ob := ⟨_, ho, ⟨rfl, rfl, rfl⟩, rfl⟩
  ent := rfl
  tab := ⟨List.Pairwise.nil, rfl, rfl, .inl rfl, fun x hx => (by cases hx), fun i h j hi => (by simp at hi)⟩
  nd := List.nodup_nil
  tup := fun p hp => (by cases hp)
  led := by
    show _ ∨ (!w.params.followText "set-order") = true
    cases w.params.followText "set-order"
    · exact .inr rfl
    · exact .inl rfl
  room := by
    show 0 * 5 < 7 * 3
    decide
  few := by
    show 0 < 300
    decide
/-- set.update's loop -/
theorem fillP {I : Addr} {fp wr : List Addr} {G : Array GenState → Array GenState → Prop} {n : Nat} {Pv : Nat → Value → Prop} {St : Nat → Shared → Prop} {R : Result → Shared → Prop}
    (W : WalksS P w A.in1 I fp wr G n Pv St) (S : Addr) (hSf : S ∉ fp) (ks : List Row) (hn : n = ks.length) (hfew : ks.length < 300) (hval : ∀ i v, Pv i v → ∃ p, ks[i]? = some p ∧ v = .ref p.1)
    (h0 : Heap) (hk : ∀ p ∈ ks, IsK P w h0 p.2 p.1) (hS0 : h0.get? S = none) (hw0 : ∀ b ∈ wr, h0.get? b = none) (hu : A.in1.units < cLine) :
    ∀ (k i : Nat) (s : Shared), n - i = k → i ≤ n → St i s → (∀ b o, h0.get? b = some o → s.heap.get? b = some o) → (∃ L es ep t, SetP P w s.heap S L es ep t ∧ GotP ks i L) →
      (∀ s' L es ep t, Moved (S :: wr) G s s' → SetP P w s'.heap S L es ep t → GotP ks n L → (∀ b o, h0.get? b = some o → s'.heap.get? b = some o) → R (.ok (.ret .none)) s') →
      codeAny (model P w) A (.builtin "set.update.loop" ⟨[.ref S, .ref I], []⟩) R s := by
  have hSw : S ∉ wr := fun h => hSf (W.sub _ h)
  have hsub : ∀ b ∈ wr, b ∈ S :: wr := fun b hb => List.mem_cons_of_mem _ hb
  have keepM : ∀ {s s' : Shared}, Moved wr G s s' → (∀ b o, h0.get? b = some o → s.heap.get? b = some o) → ∀ b o, h0.get? b = some o → s'.heap.get? b = some o := fun hm hkp b o e =>
    hm.heap b o (fun hb => by rw [hw0 b hb] at e; cases e) (hkp b o e)
  have still : ∀ {s s' : Shared} {i : Nat} {L es ep t}, Moved wr G s s' → (∀ b o, h0.get? b = some o → s.heap.get? b = some o) → SetP P w s.heap S L es ep t → GotP ks i L → SetP P w s'.heap S L es ep t := fun hm hkp hS g =>
    hS.keep (fun o e => hm.heap S o hSw e) fun p hp => isK_keep (hk p (List.mem_of_mem_take (g.sub p hp))) (keepM hm hkp)
  intro k
  induction k with
  | zero =>
    intro i s hk' hi hst hkp ⟨L, es, ep, t, hS, g⟩ hR
    obtain rfl : i = n := by omega
    refine codeAny_builtin F.entry_set_update_loop ?_
    rw [Around.under_plainId F.plain_set_update_loop _]
    show wpAny _ A.in1 (pyNext (.ref I) >>= _) _ _ s
    refine wpAny_bind (W.done s _ _ hst fun s' hm => ?_)
    exact wpAny_pure (hR s' L es ep t (hm.mono hsub) (still hm hkp hS g) g (keepM hm hkp))
  | succ k ih =>
    intro i s hk' hi hst hkp ⟨L, es, ep, t, hS, g⟩ hR
    have hlt : i < n := by omega
    refine codeAny_builtin F.entry_set_update_loop ?_
    rw [Around.under_plainId F.plain_set_update_loop _]
    show wpAny _ A.in1 (pyNext (.ref I) >>= _) _ _ s
    refine wpAny_bind (W.item i s _ _ hlt hst fun v s' hP hst' hm => ?_)
    obtain ⟨p, hp, rfl⟩ := hval i v hP
    have hkp' := keepM hm hkp
    have hx : IsK P w s'.heap p.2 p.1 := isK_keep (hk p (List.mem_of_getElem? hp)) hkp'
    have hS' : SetP P w s'.heap S L es ep t := still hm hkp hS g
    show wpAny _ A.in1 (holding [Value.ref p.1] (setAdd S (.ref p.1)) >>= _) _ _ s'
    refine wpAny_bind (wpAny_holding ?_)
    unfold setAdd
    refine wpAny_holding (wpAny_bind (wpAny_pyHash_tuple hu hx ?_))
    refine addP (s := { s' with toks := s'.toks + (p.2.length + 1) }) hS' hx hu (by have := g.len; omega) fun b h' L' es' ep' t' hsb hS2 c1 c2 => ?_
    have hkp2 : ∀ b o, h0.get? b = some o → h'.get? b = some o := fun b o e => (hsb.2 b (fun z => by rw [z, hS0] at e; cases e)).trans (hkp' b o e)
    refine wpAny_pure ⟨plainId_quiet F.plain_set_update_loop _, ih (i + 1) _ (by omega) hlt (W.frame _ s' _ _ hst' (Nat.le_add_right _ _) fun b hb o e => ?_) hkp2 ⟨L', es', ep', t', hS2, g.next hp c1 c2⟩ fun s'' L2 es2 ep2 t2 hm'' hS'' g'' hkp'' => ?_⟩
    · rw [hsb.2 b (fun h : b = S => hSf (by rw [← h]; exact hb))]
      exact e
    · refine hR s'' L2 es2 ep2 t2 (Moved.trans W.gtrans ((hm.mono hsub).then_heap (Nat.le_add_right _ _) fun b o hb e => ?_) hm'') hS'' g'' hkp''
      rw [hsb.2 b (fun h : b = S => hb (by rw [h]; exact List.mem_cons_self))]
      exact e
/-- set(xs) -/
theorem call_setP {l : Addr} {items : Array Value} (ks : List Row) {Q : Value → Shared → Prop} (hh : A.handled = none) (hl : s.heap.IsList l items) (hit : items.toList = ks.map fun p => Value.ref p.1)
    (hk : ∀ p ∈ ks, IsK P w s.heap p.2 p.1) (hfew : ks.length < 300) (hu : A.units + 3 < cLine)
    (h : ∀ (h' : Heap) (tk : Nat) L es ep t, SetP P w h' s.heap.objs.size L es ep t → GotP ks ks.length L → (∀ b o, s.heap.get? b = some o → h'.get? b = some o) → Q (.ref s.heap.objs.size) { s with heap := h', toks := tk }) :
    wpAny (model P w) A (call (.type "set") [.ref l]) Q E s := by
  have hisz : items.size = ks.length := by rw [← Array.length_toList, hit, List.length_map]
  obtain ⟨c, tl, hmro⟩ := F.called_set.mro
  have hmade := F.called_set.made
  have hsub := F.called_set.sub
  refine wpAny_call (codeAny_of_tree ?_)
  show wpAny _ _ (callAny (.type "set") _) _ _ _
  refine wpAny_pure ⟨Code.quiet_builtin _ (by decide +kernel), codeAny_builtin F.entry_type_call ?_⟩
  rw [Around.under_plain (weight_type_call_type "set" [.ref l] []) rfl]
  have h1 := F.called_set.notType
  have h2 := F.called_set.canCreate
  have hct := F.typeCall_set_1 (.ref l)
  repeat (any_goals (first | assumption | wp_step))
  refine codeAny_mono (code_set_led1 (.ref l) (E := E) (Q₁ := fun obj s₁ => obj = .ref s.heap.objs.size ∧ s₁ = { s with heap := s.heap.push (emptySet w) }) ⟨rfl, rfl⟩) fun r s₁ hr => ?_
  cases r with
  | error e => exact hr
  | ok fl =>
  cases fl with
  | next => exact hr.elim
  | brk => exact hr.elim
  | cont => exact hr.elim
  | ret obj =>
  obtain ⟨rfl, rfl⟩ := hr
  have hS : (s.heap.push (emptySet w)).get? s.heap.objs.size = some (emptySet w) := Heap.get?_push_size _ rfl
  have hT : Shared.TypeIs { s with heap := s.heap.push (emptySet w) } (.ref s.heap.objs.size) "set" := ⟨_, hS, rfl⟩
  have hli := F.called_set.init.lookup
  have hbi := F.called_set.init.bind (.ref s.heap.objs.size)
  repeat (any_goals (first | assumption | wp_step))
  refine codeAny_mono (codeAny_call_builtin (R := wants (fun r s₂ => r = .none ∧ ∃ h' tk L es ep t, s₂ = { s with heap := h', toks := tk } ∧ SetP P w h' s.heap.objs.size L es ep t ∧ GotP ks ks.length L ∧
      (∀ b o, s.heap.get? b = some o → h'.get? b = some o)) E) F.called_set.init.plain F.entry_set_init (check_set_init_1 hT ?_)) fun r₂ s₂ hr₂ => ?_
  · obtain ⟨⟨ocls, odict, odata, oslots⟩, hol, hcl, nl, hdl⟩ := hl
    simp only at hcl hdl
    subst hcl hdl
    have hol' : (s.heap.push (emptySet w)).get? l = some { cls := .type "list", dict := odict, data := .seq items nl, slots := oslots } := Heap.get?_push_of_some _ hol
    have hsls := F.sub_list_set
    have hslf := F.sub_list_frozenset
    have hne : (Value.type "list" == Value.type "dict") = false := by decide
    have hl1 : (s.heap.push (emptySet w)).IsList l items := ⟨_, hol', rfl, nl, rfl⟩
    unfold Builtin.«set.__init__» noKeywords Builtin.Frozenset.updateFrom
    generalize hPI : pyIter = PI
    wp_walk
    subst hPI
    refine wpAny_pyIter_list hl1 (wpAny_bind (wpAny_runValue ?_))
    have hlS : l < s.heap.objs.size := Heap.lt_size hol
    have hz1 : (s.heap.push (emptySet w)).objs.size = s.heap.objs.size + 1 := Heap.size_push ..
    have none_of : ∀ b, s.heap.objs.size ≤ b → s.heap.get? b = none := fun b hb => by
      cases q : s.heap.get? b with
      | none => rfl
      | some o => exact absurd (Nat.lt_of_lt_of_le (Heap.lt_size q) hb) (Nat.lt_irrefl _)
    have hneI : l ≠ (s.heap.push (emptySet w)).objs.size := by rw [hz1]; exact Nat.ne_of_lt (Nat.lt_succ_of_lt hlS)
    have hSf : s.heap.objs.size ∉ [(s.heap.push (emptySet w)).objs.size, l] := by
      rw [hz1]
      simp only [List.mem_cons, List.not_mem_nil, or_false, not_or]
      exact ⟨Nat.ne_of_lt (Nat.lt_succ_self _), Nat.ne_of_gt hlS⟩
    refine fillP ((Walks.list (show A.in1.in1.in1.handled = none by simp [hh]) _ l hneI items).toS) s.heap.objs.size hSf ks hisz hfew (fun i v hv => ?_) s.heap hk (none_of _ (Nat.le_refl _))
      (fun b hb => none_of b (by rw [List.mem_singleton.mp hb, hz1]; exact Nat.le_succ _)) hu (items.size - 0) 0 _ (by omega) (Nat.zero_le _)
      ⟨⟨_, Heap.get?_push_size _ rfl, rfl, rfl⟩, (hl1.push _)⟩ (fun b o e => Heap.get?_push_of_some _ (Heap.get?_push_of_some _ e)) ?_ ?_
    · have q : items.toList[i]? = some v := by rw [Array.getElem?_toList]; exact hv
      rw [hit, List.getElem?_map] at q
      cases hq : ks[i]? with
      | none => rw [hq] at q; cases q
      | some p =>
        rw [hq] at q
        exact ⟨p, rfl, (Option.some.inj q).symm⟩
    · exact ⟨[], #[], 0, _, setP_fresh (Heap.get?_push_of_some _ hS), GotP.zero ks⟩
    · intro s' L es ep t hm hS' g' hkp
      obtain ⟨h', g2, d', tk', os'⟩ := s'
      obtain rfl : g2 = s.gens := hm.gens
      obtain rfl : d' = s.drawn := hm.drawn
      obtain rfl : os' = s.os := hm.os
      refine wpAny_pure ?_
      rw [hisz] at g'
      exact wpAny_pure ⟨rfl, h', tk', L, es, ep, t, rfl, hS', g', hkp⟩
  · cases r₂ with
    | error e => exact hr₂
    | ok fl₂ =>
    cases fl₂ with
    | next => exact hr₂.elim
    | brk => exact hr₂.elim
    | cont => exact hr₂.elim
    | ret r =>
    obtain ⟨rfl, h', tk, L, es, ep, t, rfl, hS', g', hk'⟩ := hr₂
    repeat (any_goals (first | assumption | wp_step))
    exact h _ _ _ _ _ _ hS' g' hk'
end
end Rk

/-! set(xs) and sorted(set) as rules -/
namespace Rk
open PySem PySem.Spec PyProof.Rows L2

def keyD : Key → PyData
  | .inl i => .int i
  | .inr x => .str x
def encK (k : List Key) : PyData := .tuple (k.map keyD)
theorem depth_keys : ∀ k : List Key, PyData.depthAll (k.map keyD) = 0
  | [] => by simp [PyData.depthAll]
  | x :: k => by
    rw [List.map_cons, PyData.depthAll, depth_keys k]
    cases x <;> simp [keyD, PyData.depth]
theorem depth_enc (k : List Key) : (encK k).depth = 1 := by
  unfold encK
  rw [PyData.depth, depth_keys]
section
variable {P : Program} {w : World} {A : Around} {E : Value → Shared → Prop} {s : Shared}
theorem reads_items {h : Heap} {k : List Key} {vs : List Value} (hi : ItemsAre (mixKind P w) k vs) : ReadsAll h vs (k.map keyD) [] := by
  induction hi with
  | nil => exact .nil
  | @cons k0 v ks vs h1 _ ih =>
    rcases keyIs_shape h1 with ⟨i, t, e, e2⟩ | ⟨x, t, e, e2⟩ <;> subst e e2
    · exact .cons (as := []) (bs := []) (.int _ _) ih
    · exact .cons (as := []) (bs := []) (.str _ _) ih
theorem reads_isK {h : Heap} {k : List Key} {b : Addr} (x : IsK P w h k b) : Reads h (.ref b) (encK k) [] := by
  obtain ⟨o, items, n, ho, hc, hd, hi⟩ := x
  exact .tuple ho hc hd (reads_items hi)
/-- sorted(set) -/
theorem sorted_setP {a : Addr} {L : List Row} {es : Array (Int × Value)} {ep : Nat} {t : SetTable} {Q : Value → Shared → Prop} (R : SetP P w s.heap a L es ep t) (hh : A.handled = none) (hu : A.units + 64 < cLine)
    (hal : ∀ p ∈ L, ∀ q ∈ L, PySem.W.alike (encK p.2) (encK q.2) = true) (hne : ∀ p ∈ L, p.2 ≠ [])
    (hQ : ∀ s' p (out : Array Value) (c : Nat) (L' : List Row), (∀ b o, s.heap.get? b = some o → s'.heap.get? b = some o) → s'.gens = s.gens → s'.os = s.os → s.heap.objs.size ≤ p →
      s'.heap.get? p = some (seqObj "list" out c) → out.toList = L'.map (fun q => Value.ref q.1) → L'.Perm L → L'.Pairwise (fun q r => PySem.W.dataLt (encK r.2) (encK q.2) = false) → Q (.ref p) s') :
    wpAny (model P w) A (call (.builtin "sorted") [.ref a]) Q E s := by
  obtain ⟨o, ho, hex, hd⟩ := R.ob
  have hsz := R.size
  have hfew := R.few
  refine Calls.call_function_entry kind_sorted plain_sorted entry_sorted (args_sorted1 _) ?_
  unfold Builtin.«sorted»
  refine wpAny_bind (m := checkCount "sorted" 1 1 _) (wpAny_pure ?_)
  refine wpAny_bind (collect_set (A := A.in1) hh ⟨o, ho, hex.1, hd⟩ R.fits (by unfold scanBound; omega) R.tab.ris R.led fun s1 vs k1 hz g1 o1 pm => ?_)
  have hes : es.toList.map (·.2) = L.map fun q => Value.ref q.1 := by
    rw [R.ent]
    unfold entK
    rw [List.map_map]
    rfl
  rw [hes] at pm
  -- the values are the rows' addresses, in some order
  have one : ∀ q ∈ L, ∀ r ∈ L, q.1 = r.1 → q = r := fun q hq r hr e => by
    have a1 := R.tup q hq
    rw [e] at a1
    exact Prod.ext e (a1.inj (R.tup r hr))
  obtain ⟨L1, e1, p1⟩ : ∃ L1 : List Row, vs = L1.map (fun q => Value.ref q.1) ∧ L1.Perm L := by
    have mk : ∀ us : List Value, (∀ v ∈ us, ∃ q ∈ L, v = Value.ref q.1) → ∃ L1 : List Row, us = L1.map (fun q => Value.ref q.1) ∧ ∀ q ∈ L1, q ∈ L := by
      intro us
      induction us with
      | nil => intro _; exact ⟨[], rfl, fun q hq => (by cases hq)⟩
      | cons v us ih =>
        intro hv
        obtain ⟨q, hq, e⟩ := hv v List.mem_cons_self
        obtain ⟨L1, e1, hs⟩ := ih fun u hu => hv u (List.mem_cons_of_mem _ hu)
        exact ⟨q :: L1, by rw [List.map_cons, e, e1], fun r hr => (List.mem_cons.mp hr).elim (fun z => by rw [z]; exact hq) (hs r)⟩
    obtain ⟨L1, e1, hs⟩ := mk vs fun v hv => by
      obtain ⟨q, hq, e⟩ := List.mem_map.mp (pm.mem_iff.mp hv)
      exact ⟨q, hq, e.symm⟩
    refine ⟨L1, e1, ?_⟩
    rw [e1] at pm
    have nL : L.Nodup := List.Pairwise.of_map (fun p : Row => p.2) (fun _ _ hne e => hne (congrArg _ e)) R.nd
    have nref : (L.map fun q => Value.ref q.1).Nodup := List.pairwise_map.mpr (nL.imp_of_mem fun {q r} hq hr hne e => hne (one q hq r hr (by injection e)))
    have n1 : L1.Nodup := List.Pairwise.of_map (fun q : Row => Value.ref q.1) (fun _ _ hne e => hne (congrArg (fun q : Row => Value.ref q.1) e)) (pm.nodup_iff.mpr nref)
    refine (List.perm_ext_iff_of_nodup n1 nL).mpr fun q => ⟨hs q, fun hq => ?_⟩
    obtain ⟨r, hr, e⟩ := List.mem_map.mp (pm.mem_iff.mpr (List.mem_map.mpr ⟨q, hq, rfl⟩))
    rw [← one r (hs r hr) q hq (by injection e)]
    exact hr
  have hL1 : L1.length = L.length := p1.length_eq
  have hvl : vs.length = L.length := by rw [e1, List.length_map, hL1]
  refine wpAny_bind (wpAny_newList ?_ (by rw [sizeLine_eq]; omega))
  have hoL : (s1.heap.push (seqObj "list" vs.toArray 0)).get? s1.heap.objs.size = some (seqObj "list" vs.toArray 0) := Heap.get?_push_size _ rfl
  have hk2 : ∀ b u, s.heap.get? b = some u → (s1.heap.push (seqObj "list" vs.toArray 0)).get? b = some u := fun b u e => Heap.get?_push_of_some _ (k1 b u e)
  have each : ∀ {α : Type} (M : List Row) (f : Row → α) {Rl : α → Row → Prop}, (∀ q ∈ M, Rl (f q) q) → PySem.W.EachIs Rl (M.map f) M := by
    intro α M f Rl
    induction M with
    | nil => intro _; exact .nil
    | cons q M ih => intro hM; exact .cons (hM q List.mem_cons_self) (ih fun r hr => hM r (List.mem_cons_of_mem _ hr))
  have hmem : ∀ q ∈ L1, q ∈ L := fun q hq => p1.mem_iff.mp hq
  refine wpAny_bind (wpAny_holding (PySem.W.list_sort_data (s := { s1 with heap := s1.heap.push (seqObj "list" vs.toArray 0) }) (R := fun v (q : Row) => v = Value.ref q.1) (bs := L1) (enc := fun q : Row => encK q.2) hoL
    (by rw [e1]; exact each L1 (fun q => Value.ref q.1) fun q _ => rfl)
    (by
      have := each L1 (fun q => Value.ref q.1) (Rl := fun v (q : Row) => ∃ as, Reads (s1.heap.push (seqObj "list" vs.toArray 0)) v (encK q.2) as ∧ s1.heap.objs.size ∉ as) fun q hq => ⟨[], reads_isK (isK_keep (R.tup q (hmem q hq)) hk2), List.not_mem_nil⟩
      rw [← e1] at this
      exact this)
    (fun d hd d' hd' => by
      obtain ⟨q, hq, rfl⟩ := List.mem_map.mp hd
      obtain ⟨r, hr, rfl⟩ := List.mem_map.mp hd'
      exact hal q (hmem q hq) r (hmem r hr))
    (.inl fun d hd => by
      obtain ⟨q, hq, rfl⟩ := List.mem_map.mp hd
      have := hne q (hmem q hq)
      obtain ⟨q1, q2⟩ := q
      cases q2 with
      | nil => exact absurd rfl this
      | cons x r => exact ⟨keyD x, r.map keyD, rfl⟩)
    (by rw [sizeLine_eq]; omega) (fun q hq => by show A.in1.units + 1 + (encK q.2).depth < cLine; rw [depth_enc]; show A.units + 1 + 1 + 1 < cLine; omega) fun out a1 a2 => ?_))
  obtain ⟨c, hc⟩ := sortedHeap_at (vs := vs) (out := out.toArray) hoL
  have hout : out = (L1.mergeSort (PySem.W.dataLe false fun q : Row => encK q.2)).map fun q => Value.ref q.1 := by
    have : ∀ {us : List Value} {M : List Row}, PySem.W.EachIs (fun v (q : Row) => v = Value.ref q.1) us M → us = M.map fun q => Value.ref q.1 := fun h => by
      induction h with
      | nil => rfl
      | cons h1 _ ih => rw [List.map_cons, h1, ih]
    exact this a2
  refine wpAny_pure ⟨_, rfl, hQ _ s1.heap.objs.size out.toArray c (L1.mergeSort (PySem.W.dataLe false fun q : Row => encK q.2)) (fun b u e => ?_) g1 o1 hz hc (by rw [List.toList_toArray]; exact hout) ((List.mergeSort_perm _ _).trans p1) ?_⟩
  · have q := k1 b u e
    have hlt := Heap.lt_size q
    show (sortedHeap (s1.heap.push (seqObj "list" vs.toArray 0)) s1.heap.objs.size vs out.toArray).get? b = some u
    rw [sortedHeap_old (Nat.ne_of_lt hlt) (by rw [size_push']; exact Nat.lt_succ_of_lt hlt)]
    exact Heap.get?_push_of_some _ q
  · have := PySem.W.sort_pairwise (PySem.W.sortLe_total (listOrd itemOrd) false fun q : Row => PySem.W.keyToks (encK q.2)) L1
    refine List.Pairwise.imp (fun {q r} h => ?_) this
    have h' : (!PySem.W.dataLt (encK r.2) (encK q.2)) = true := h
    exact Bool.not_eq_true' _ ▸ h'
end

/-- the set at a, without the tuples themselves -/
structure SetP0 (P : Program) (w : World) (h : Heap) (a : Addr) (L : List Row) : Prop where
  ex : ∃ (es : Array (Int × Value)) (ep : Nat) (t : SetTable), (∃ o, h.get? a = some o ∧ o.ExactSet ∧ o.data = .set es ep t) ∧ es.toList = entK P w L ∧ TabP t (L.map fun p => hK P w p.2) ∧ (L.map (·.2)).Nodup ∧
    (w.params.followText "set-order" = true ∨ t.led = true) ∧ L.length * 5 < t.mask * 3 ∧ L.length < 300
def SetPO (P : Program) (w : World) (a : Addr) (L : List Row) : HO := .ext fun h => SetP0 P w h a L
theorem SetP0.full {P : Program} {w : World} {h : Heap} {a : Addr} {L : List Row} (R : SetP0 P w h a L) (ht : ∀ p ∈ L, IsK P w h p.2 p.1) : ∃ es ep t, SetP P w h a L es ep t := by
  obtain ⟨es, ep, t, h1, h2, h3, h4, h5, h6, h7⟩ := R.ex
  exact ⟨es, ep, t, h1, h2, h3, h4, ht, h5, h6, h7⟩
theorem setPO_new {P : Program} {w : World} {H : Hp} {h : Heap} {a : Addr} {L : List Row} (R : SetP0 P w h a L) : ObjOk P w H h a (SetPO P w a L) := by
  have ⟨es, ep, t, ⟨o, ho, r⟩, q⟩ := R.ex
  refine ⟨R, ⟨o, ho⟩, fun h1 h2 p k => ?_⟩
  have ⟨es', ep', t', ⟨o', ho', r'⟩, q'⟩ := SetP0.ex p
  exact ⟨es', ep', t', ⟨o', k o' ho', r'⟩, q'⟩
theorem refs_vals : ∀ {ks : List Row} {us : List Value}, Vals (ks.map fun p => V.ref p.1) us → us = ks.map fun p => Value.ref p.1
  | [], _, .nil => rfl
  | p :: ks, _, .cons r t => by
    cases r
    rw [refs_vals t]
    rfl
theorem vals_rows : ∀ ks : List Row, Vals (ks.map fun p => V.ref p.1) (ks.map fun p => Value.ref p.1)
  | [] => .nil
  | p :: ks => .cons rfl (vals_rows ks)
section
variable {X : Cx}
theorem inv_isK {pins : List (Addr × Obj)} {σ : L2.St} {H : Hp} {s : Shared} {b : Addr} {k : List Key} (I : Inv X pins σ H s) (h : SqT X.K H b (k.map kV)) : IsK X.prog X.w s.heap k b := by
  obtain ⟨its, r, ⟨o, ho, hc, n, hd⟩, _⟩ := I.tuple h
  exact ⟨o, its.toArray, n, ho, hc, hd, by simpa using items_are r⟩
def rSetP (K : PySem.W.Frag) (P : Program) (w : World) : List V → Hp → VK → Prop := fun xs H Q => ∃ (l : Addr) (ks : List Row), xs = [V.ref l] ∧ SqL K H l (ks.map fun p => V.ref p.1) ∧ (∀ p ∈ ks, SqT K H p.1 (p.2.map kV)) ∧ ks.length < 300 ∧
  ∀ a L, H a = none → (∀ p ∈ L, p ∈ ks) → (∀ p ∈ ks, p.2 ∈ L.map (·.2)) → (L.map (·.2)).Nodup → Q (.ref a) (upd H a (SetPO P w a L))
theorem cr_setP (hc : X.calm = true) (hu : X.A.units + 64 < cLine) : CallR X (.type "set") (rSetP X.K X.prog X.w) := by
  intro pins s σ H xs us Q I r h
  obtain ⟨l, ks, rfl, hl, hk, hf, q⟩ := h
  rw [Vals.ref1 r]
  obtain ⟨its, rv, pl, hz⟩ := I.list hl
  refine call_setP (P := X.prog) (w := X.w) ks (I.ok.hd hc) pl.isList (by simpa using refs_vals rv) (fun p hp => inv_isK I (hk p hp)) hf (by omega) fun h' tk L es ep t R g k => ?_
  have R0 : SetP0 X.prog X.w h' s.heap.objs.size L := ⟨es, ep, t, R.ob, R.ent, R.tab, R.nd, R.led, R.room, R.few⟩
  exact ⟨.ref s.heap.objs.size, upd H s.heap.objs.size (SetPO X.prog X.w s.heap.objs.size L), I.laid (t' := tk) k (Nat.le_refl _) (setPO_new R0), rfl,
    q _ L (I.hok.fresh (Nat.le_refl _)) (fun p hp => List.mem_of_mem_take (g.sub p hp)) (fun p hp => g.all p (by rw [List.take_length]; exact hp)) R.nd⟩
def rSortedP (K : PySem.W.Frag) (P : Program) (w : World) : List V → Hp → VK → Prop := fun vs H Q => ∃ (a : Addr) (L : List Row), vs = [V.ref a] ∧ H a = some (SetPO P w a L) ∧ (∀ p ∈ L, SqT K H p.1 (p.2.map kV)) ∧
  (∀ p ∈ L, ∀ q ∈ L, PySem.W.alike (encK p.2) (encK q.2) = true) ∧ (∀ p ∈ L, p.2 ≠ []) ∧
  ∀ (L' : List Row) (p : Addr), L'.Perm L → L'.Pairwise (fun q r => PySem.W.dataLt (encK r.2) (encK q.2) = false) → H p = none → Q (.ref p) (upd H p (.lst (L'.map fun q => V.ref q.1)))
theorem cr_sortedP (hc : X.calm = true) (hu : X.A.units + 64 < cLine) : CallR X (.builtin "sorted") (rSortedP X.K X.prog X.w) := by
  intro pins s σ H vs us Q I r h
  obtain ⟨a, L, rfl, ha, hk, hal, hne, q⟩ := h
  have R0 : SetP0 X.prog X.w s.heap a L := (I.hok a _ ha).1
  obtain ⟨es, ep, t, R⟩ := R0.full fun p hp => inv_isK I (hk p hp)
  rw [Vals.ref1 r]
  refine sorted_setP R (I.ok.hd hc) hu hal hne fun s' p out c L' k g o hp hg hout pm pw => ?_
  have hlen : (L'.map fun q => V.ref q.1).length ≤ sizeLine := by rw [List.length_map, pm.length_eq, sizeLine_eq]; have := R.few; omega
  have hn : H p = none := I.hok.fresh hp
  have hv : Vals (L'.map fun q => V.ref q.1) out.toList := by rw [hout]; exact vals_rows L'
  have J : Inv X pins σ (upd H p (.lst (L'.map fun q => V.ref q.1))) { s with heap := s'.heap, gens := s'.gens, drawn := s'.drawn, toks := s'.toks } :=
    I.call (ch := []) (Un.laid k hp hn) (I.hok.laid k hp ⟨hlen, out.toList, c, hv, hg⟩) (by rw [g]; exact I.bare) (fun _ z => nomatch z)
  have e : s' = { s with heap := s'.heap, gens := s'.gens, drawn := s'.drawn, toks := s'.toks } := by
    cases s'
    cases s
    cases o
    rfl
  rw [e]
  exact ⟨.ref p, _, J, rfl, q L' p pm pw hn⟩
end
end Rk

/-! the text by places, the scopes -/
namespace Rk
open PySem PySem.Spec PyProof.Rows L2
def topS (i : Nat) : Stmt := PySem.Challenge.pw_rankweights_k50_whole_path_ranks.main.body.getD i (.Pass ⟨0, 0, 0, 0⟩)
abbrev sInt : Stmt := topS 4
abbrev nInt : List Str := ["thing"]
abbrev pInt : List Str := ["thing"]
theorem scInt : FnScope nInt pInt (defScope sInt) := ⟨rfl, rfl, rfl, by decide +kernel, rfl, by decide +kernel, by decide +kernel⟩
abbrev sNum : Stmt := topS 5
abbrev nNum : List Str := ["thing"]
abbrev pNum : List Str := ["thing"]
theorem scNum : FnScope nNum pNum (defScope sNum) := ⟨rfl, rfl, rfl, by decide +kernel, rfl, by decide +kernel, by decide +kernel⟩
abbrev sNam : Stmt := topS 6
abbrev nNam : List Str := ["thing", "sign"]
abbrev pNam : List Str := ["thing"]
theorem scNam : FnScope nNam pNam (defScope sNam) := ⟨rfl, rfl, rfl, by decide +kernel, rfl, by decide +kernel, by decide +kernel⟩
abbrev sPair : Stmt := topS 7
abbrev nPair : List Str := ["thing"]
abbrev pPair : List Str := ["thing"]
theorem scPair : FnScope nPair pPair (defScope sPair) := ⟨rfl, rfl, rfl, by decide +kernel, rfl, by decide +kernel, by decide +kernel⟩
abbrev sSign : Stmt := topS 8
abbrev nSign : List Str := ["thing"]
abbrev pSign : List Str := ["thing"]
theorem scSign : FnScope nSign pSign (defScope sSign) := ⟨rfl, rfl, rfl, by decide +kernel, rfl, by decide +kernel, by decide +kernel⟩
abbrev sHole : Stmt := topS 9
abbrev nHole : List Str := ["thing"]
abbrev pHole : List Str := ["thing"]
theorem scHole : FnScope nHole pHole (defScope sHole) := ⟨rfl, rfl, rfl, by decide +kernel, rfl, by decide +kernel, by decide +kernel⟩
abbrev sPlc : Stmt := topS 11
abbrev nPlc : List Str := ["book", "name", "places"]
abbrev pPlc : List Str := ["book"]
theorem scPlc : FnScope nPlc pPlc (defScope sPlc) := ⟨rfl, rfl, rfl, by decide +kernel, rfl, by decide +kernel, by decide +kernel⟩
abbrev sBkF : Stmt := topS 17
abbrev nBkF : List Str := ["thing", "k", "sign", "name", "places"]
abbrev pBkF : List Str := ["thing"]
theorem scBkF : FnScope nBkF pBkF (defScope sBkF) := ⟨rfl, rfl, rfl, by decide +kernel, rfl, by decide +kernel, by decide +kernel⟩
abbrev sBk : Stmt := topS 18
abbrev nBk : List Str := ["thing"]
abbrev pBk : List Str := ["thing"]
theorem scBk : FnScope nBk pBk (defScope sBk) := ⟨rfl, rfl, rfl, by decide +kernel, rfl, by decide +kernel, by decide +kernel⟩
abbrev sWant : Stmt := topS 20
abbrev nWant : List Str := ["is_right", "word", "at"]
abbrev pWant : List Str := ["is_right", "word", "at"]
theorem scWant : FnScope nWant pWant (defScope sWant) := ⟨rfl, rfl, rfl, by decide +kernel, rfl, by decide +kernel, by decide +kernel⟩
abbrev sWBk : Stmt := topS 21
abbrev nWBk : List Str := ["book"]
abbrev pWBk : List Str := ["book"]
theorem scWBk : FnScope nWBk pWBk (defScope sWBk) := ⟨rfl, rfl, rfl, by decide +kernel, rfl, by decide +kernel, by decide +kernel⟩
abbrev sHd : Stmt := topS 23
abbrev nHd : List Str := ["places", "thing"]
abbrev pHd : List Str := ["places", "thing"]
theorem scHd : FnScope nHd pHd (defScope sHd) := ⟨rfl, rfl, rfl, by decide +kernel, rfl, by decide +kernel, by decide +kernel⟩
abbrev sTmF : Stmt := topS 24
abbrev nTmF : List Str := ["places", "thing", "k", "part", "path"]
abbrev pTmF : List Str := ["places", "thing"]
theorem scTmF : FnScope nTmF pTmF (defScope sTmF) := ⟨rfl, rfl, rfl, by decide +kernel, rfl, by decide +kernel, by decide +kernel⟩
abbrev sTmB : Stmt := topS 25
abbrev nTmB : List Str := ["places", "thing"]
abbrev pTmB : List Str := ["places", "thing"]
theorem scTmB : FnScope nTmB pTmB (defScope sTmB) := ⟨rfl, rfl, rfl, by decide +kernel, rfl, by decide +kernel, by decide +kernel⟩
abbrev sRlB : Stmt := topS 26
abbrev nRlB : List Str := ["places", "thing"]
abbrev pRlB : List Str := ["places", "thing"]
theorem scRlB : FnScope nRlB pRlB (defScope sRlB) := ⟨rfl, rfl, rfl, by decide +kernel, rfl, by decide +kernel, by decide +kernel⟩
abbrev sLot : Stmt := topS 27
abbrev nLot : List Str := ["book", "thing", "places", "rule"]
abbrev pLot : List Str := ["book", "thing"]
theorem scLot : FnScope nLot pLot (defScope sLot) := ⟨rfl, rfl, rfl, by decide +kernel, rfl, by decide +kernel, by decide +kernel⟩
abbrev sWLot : Stmt := topS 29
abbrev nWLot : List Str := ["book", "lot"]
abbrev pWLot : List Str := ["book", "lot"]
theorem scWLot : FnScope nWLot pWLot (defScope sWLot) := ⟨rfl, rfl, rfl, by decide +kernel, rfl, by decide +kernel, by decide +kernel⟩
abbrev sNds : Stmt := topS 31
abbrev nNds : List Str := ["term", "found", "tasks", "here", "above", "spot", "part"]
abbrev pNds : List Str := ["term"]
theorem scNds : FnScope nNds pNds (defScope sNds) := ⟨rfl, rfl, rfl, by decide +kernel, rfl, by decide +kernel, by decide +kernel⟩
abbrev sOver : Stmt := topS 32
abbrev nOver : List Str := ["ahead", "ones", "others", "table", "i", "j", "one", "parts", "other", "lates", "unlike", "k", "m"]
abbrev pOver : List Str := ["ahead", "ones", "others", "table", "i", "j"]
theorem scOver : FnScope nOver pOver (defScope sOver) := ⟨rfl, rfl, rfl, by decide +kernel, rfl, by decide +kernel, by decide +kernel⟩
abbrev sPMB : Stmt := topS 33
abbrev nPMB : List Str := ["rank", "one", "other", "ahead", "ones", "others", "table", "i", "j", "k", "name"]
abbrev pPMB : List Str := ["rank", "one", "other"]
theorem scPMB : FnScope nPMB pPMB (defScope sPMB) := ⟨rfl, rfl, rfl, by decide +kernel, rfl, by decide +kernel, by decide +kernel⟩
abbrev sPDn : Stmt := topS 34
abbrev nPDn : List Str := ["rank", "lot", "left", "right"]
abbrev pPDn : List Str := ["rank", "lot"]
theorem scPDn : FnScope nPDn pPDn (defScope sPDn) := ⟨rfl, rfl, rfl, by decide +kernel, rfl, by decide +kernel, by decide +kernel⟩
abbrev sRks : Stmt := topS 36
abbrev nRks : List Str := ["book", "names", "found", "lap", "name", "places", "rank"]
abbrev pRks : List Str := ["book"]
theorem scRks : FnScope nRks pRks (defScope sRks) := ⟨rfl, rfl, rfl, by decide +kernel, rfl, by decide +kernel, by decide +kernel⟩
abbrev sPRk : Stmt := topS 38
abbrev nPRk : List Str := ["book", "lot", "rank"]
abbrev pPRk : List Str := ["book", "lot"]
theorem scPRk : FnScope nPRk pPRk (defScope sPRk) := ⟨rfl, rfl, rfl, by decide +kernel, rfl, by decide +kernel, by decide +kernel⟩
abbrev sLFd : Stmt := topS 40
abbrev nLFd : List Str := ["_law_script", "_law_head"]
abbrev pLFd : List Str := ["_law_script"]
theorem scLFd : FnScope nLFd pLFd (defScope sLFd) := ⟨rfl, rfl, rfl, by decide +kernel, rfl, by decide +kernel, by decide +kernel⟩
abbrev sLDr : Stmt := topS 41
abbrev nLDr : List Str := ["_law_feed_here", "_law_many", "_law_digit", "_law_some", "_law_k", "_law_head", "_law_mixed"]
abbrev pLDr : List Str := ["_law_feed_here", "_law_many"]
theorem scLDr : FnScope nLDr pLDr (defScope sLDr) := ⟨rfl, rfl, rfl, by decide +kernel, rfl, by decide +kernel, by decide +kernel⟩
abbrev sLAn : Stmt := topS 42
abbrev nLAn : List Str := ["_law_feed_here", "_law_some"]
abbrev pLAn : List Str := ["_law_feed_here", "_law_some"]
theorem scLAn : FnScope nLAn pLAn (defScope sLAn) := ⟨rfl, rfl, rfl, by decide +kernel, rfl, by decide +kernel, by decide +kernel⟩
abbrev sLNm : Stmt := topS 43
abbrev nLNm : List Str := ["_law_feed_here", "_law_many", "_law_pools", "_law_pool_here", "_law_found", "_law_lap"]
abbrev pLNm : List Str := ["_law_feed_here", "_law_many"]
theorem scLNm : FnScope nLNm pLNm (defScope sLNm) := ⟨rfl, rfl, rfl, by decide +kernel, rfl, by decide +kernel, by decide +kernel⟩
abbrev sLBk : Stmt := topS 44
abbrev nLBk : List Str := ["_law_feed_here", "_law_plans", "_law_plan", "_law_names_here", "_law_k"]
abbrev pLBk : List Str := ["_law_feed_here", "_law_plans"]
theorem scLBk : FnScope nLBk pLBk (defScope sLBk) := ⟨rfl, rfl, rfl, by decide +kernel, rfl, by decide +kernel, by decide +kernel⟩
abbrev sLHo : Stmt := topS 45
abbrev nLHo : List Str := ["_law_item", "_law_found", "_law_tasks", "_law_lap", "_law_here"]
abbrev pLHo : List Str := ["_law_item"]
theorem scLHo : FnScope nLHo pLHo (defScope sLHo) := ⟨rfl, rfl, rfl, by decide +kernel, rfl, by decide +kernel, by decide +kernel⟩
abbrev sLSz : Stmt := topS 46
abbrev nLSz : List Str := ["_law_item", "_law_many", "_law_tasks", "_law_lap", "_law_here"]
abbrev pLSz : List Str := ["_law_item"]
theorem scLSz : FnScope nLSz pLSz (defScope sLSz) := ⟨rfl, rfl, rfl, by decide +kernel, rfl, by decide +kernel, by decide +kernel⟩
abbrev sLDp : Stmt := topS 47
abbrev nLDp : List Str := ["_law_item", "_law_deep", "_law_edge", "_law_lap", "_law_late", "_law_here"]
abbrev pLDp : List Str := ["_law_item"]
theorem scLDp : FnScope nLDp pLDp (defScope sLDp) := ⟨rfl, rfl, rfl, by decide +kernel, rfl, by decide +kernel, by decide +kernel⟩
abbrev sLPo : Stmt := topS 48
abbrev nLPo : List Str := ["_law_feed_here", "_law_tome", "_law_holes_here", "_law_laps", "_law_most", "_law_label", "_law_places", "_law_found", "_law_lap", "_law_late", "_law_turn"]
abbrev pLPo : List Str := ["_law_feed_here", "_law_tome", "_law_holes_here", "_law_laps", "_law_most"]
theorem scLPo : FnScope nLPo pLPo (defScope sLPo) := ⟨rfl, rfl, rfl, by decide +kernel, rfl, by decide +kernel, by decide +kernel⟩
abbrev sLRu : Stmt := topS 49
abbrev nLRu : List Str := ["_law_feed_here", "_law_tome", "_law_most", "_law_many", "_law_pool_here", "_law_found", "_law_lap", "_law_style", "_law_left", "_law_own", "_law_rights", "_law_rule", "_law_item", "_law_hole"]
abbrev pLRu : List Str := ["_law_feed_here", "_law_tome", "_law_most", "_law_many"]
theorem scLRu : FnScope nLRu pLRu (defScope sLRu) := ⟨rfl, rfl, rfl, by decide +kernel, rfl, by decide +kernel, by decide +kernel⟩
abbrev sLNd : Stmt := topS 50
abbrev nLNd : List Str := ["_law_item", "_law_nodes_here", "_law_kids", "_law_lap", "_law_here", "_law_parts"]
abbrev pLNd : List Str := ["_law_item"]
theorem scLNd : FnScope nLNd pLNd (defScope sLNd) := ⟨rfl, rfl, rfl, by decide +kernel, rfl, by decide +kernel, by decide +kernel⟩
abbrev sLCa : Stmt := topS 51
abbrev nLCa : List Str := ["_law_scale", "_law_near", "_law_far", "_law_table", "_law_spot", "_law_late", "_law_head", "_law_tail", "_law_rest", "_law_unlike", "_law_kid", "_law_k"]
abbrev pLCa : List Str := ["_law_scale", "_law_near", "_law_far", "_law_table", "_law_spot", "_law_late"]
theorem scLCa : FnScope nLCa pLCa (defScope sLCa) := ⟨rfl, rfl, rfl, by decide +kernel, rfl, by decide +kernel, by decide +kernel⟩
abbrev sLPM : Stmt := topS 52
abbrev nLPM : List Str := ["_law_scale", "_law_head", "_law_tail", "_law_near", "_law_far", "_law_table", "_law_spot", "_law_late"]
abbrev pLPM : List Str := ["_law_scale", "_law_head", "_law_tail"]
theorem scLPM : FnScope nLPM pLPM (defScope sLPM) := ⟨rfl, rfl, rfl, by decide +kernel, rfl, by decide +kernel, by decide +kernel⟩
abbrev sLRk : Stmt := topS 53
abbrev nLRk : List Str := ["_law_tome", "_law_found", "_law_label", "_law_places", "_law_late", "_law_own", "_law_k"]
abbrev pLRk : List Str := ["_law_tome"]
theorem scLRk : FnScope nLRk pLRk (defScope sLRk) := ⟨rfl, rfl, rfl, by decide +kernel, rfl, by decide +kernel, by decide +kernel⟩
abbrev sLSv : Stmt := topS 54
abbrev nLSv : List Str := ["_law_scale", "_law_load", "_law_rule"]
abbrev pLSv : List Str := ["_law_scale", "_law_load"]
theorem scLSv : FnScope nLSv pLSv (defScope sLSv) := ⟨rfl, rfl, rfl, by decide +kernel, rfl, by decide +kernel, by decide +kernel⟩
abbrev sLaw : Stmt := topS 55
abbrev nLaw : List Str := ["_law_script", "_law_feed_here", "_law_lap", "_law_plans", "_law_tome", "_law_load", "_law_every", "_law_due", "_law_shown", "_law_told", "_law_scale"]
abbrev pLaw : List Str := ["_law_script"]
theorem scLaw : FnScope nLaw pLaw (defScope sLaw) := ⟨rfl, rfl, rfl, by decide +kernel, rfl, by decide +kernel, by decide +kernel⟩
end Rk

/-! heaps, data on them; kinds -/
namespace Rk
open PySem PySem.Spec PyProof.Rows L2

/-! ### what stays -/
/-- tuples stay -/
def Tk (H H' : Hp) : Prop := ∀ b xs, Rd H b (.tup xs) → Rd H' b (.tup xs)
theorem Tk.refl (H : Hp) : Tk H H := fun _ _ h => h
theorem Tk.trans {H H1 H2 : Hp} (a : Tk H H1) (b : Tk H1 H2) : Tk H H2 := fun c xs h => b c xs (a c xs h)
theorem tk_same {H H' : Hp} (e : Same H H') : Tk H H' := fun b xs h => h.elim (fun h => .inl (e _ _ h)) fun ⟨o, h⟩ => .inr ⟨o, e _ _ h⟩
theorem same_new {H : Hp} {p : Addr} {o : HO} (h : H p = none) : Same H (upd H p o) := fun b x e => by
  rw [upd_ne (ne_of_none e h)]
  exact e
theorem same_mut {H H' : Hp} {p : Addr} {o : HO} (e : Same H H') (h : H p = none) : Same H (upd H' p o) := fun b x q => by
  rw [upd_ne (ne_of_none q h)]
  exact e b x q
theorem tk_new {H : Hp} {p : Addr} {o : HO} (h : H p = none) : Tk H (upd H p o) := tk_same (same_new h)
/-- a thing that is no tuple is changed -/
theorem tk_upd {H : Hp} {p : Addr} {o : HO} (h : ∀ xs, ¬ Rd H p (.tup xs)) : Tk H (upd H p o) := fun b xs r => by
  by_cases e : b = p
  · rw [e] at r
    exact absurd r (h xs)
  · rcases r with r | ⟨q, r⟩
    · exact .inl (by rw [upd_ne e]; exact r)
    · exact .inr ⟨q, by rw [upd_ne e]; exact r⟩
theorem tk_lst {H : Hp} {p : Addr} {o : HO} {ys : List V} (h : H p = some (.lst ys)) : Tk H (upd H p o) := tk_upd fun xs r => by
  rcases r with r | ⟨q, r⟩ <;> rw [h] at r <;> cases r
theorem tk_dK {H : Hp} {p : Addr} {o : HO} {ys : List (Key × V)} (h : H p = some (.dK ys)) : Tk H (upd H p o) := tk_upd fun xs r => by
  rcases r with r | ⟨q, r⟩ <;> rw [h] at r <;> cases r
theorem tk_dT {H : Hp} {p : Addr} {o : HO} {ys : List (List Key × V)} (h : H p = some (.dT ys)) : Tk H (upd H p o) := tk_upd fun xs r => by
  rcases r with r | ⟨q, r⟩ <;> rw [h] at r <;> cases r
theorem Tk.t {K : PySem.W.Frag} {H H' : Hp} {a : Addr} {xs : List V} (e : Tk H H') (h : SqT K H a xs) : SqT K H' a xs := h.elim (fun h => .inl (e _ _ h)) .inr
/-- all but one thing stay -/
def But (f : Addr) (H H' : Hp) : Prop := ∀ b o, b ≠ f → H b = some o → H' b = some o
theorem But.refl (f : Addr) (H : Hp) : But f H H := fun _ _ _ h => h
theorem But.trans {f : Addr} {H H1 H2 : Hp} (a : But f H H1) (b : But f H1 H2) : But f H H2 := fun c o n h => b c o n (a c o n h)
theorem but_same {f : Addr} {H H' : Hp} (e : Same H H') : But f H H' := fun b o _ h => e b o h
theorem but_upd {f : Addr} {H : Hp} {o : HO} : But f H (upd H f o) := fun b x n h => by rw [upd_ne n]; exact h
theorem but_mut {f : Addr} {H H' : Hp} {p : Addr} {o : HO} (e : But f H H') (h : H p = none) : But f H (upd H' p o) := fun b x n q => by
  rw [upd_ne (ne_of_none q h)]
  exact e b x n q
theorem But.free {f : Addr} {H H' : Hp} (e : But f H H') {l : Addr} (n : l ≠ f) (h : H' l = none) : H l = none := by
  cases q : H l with
  | none => rfl
  | some o =>
    rw [e l o n q] at h
    cases h
theorem But.tk {f : Addr} {H H' : Hp} (e : But f H H') {kvs : List (Key × V)} (h : H f = some (.dK kvs)) : Tk H H' := fun b xs r => by
  by_cases q : b = f
  · rw [q] at r
    rcases r with r | ⟨o, r⟩ <;> rw [h] at r <;> cases r
  · rcases r with r | ⟨o, r⟩
    · exact .inl (e b _ q r)
    · exact .inr ⟨o, e b _ q r⟩
theorem But.seq {K : PySem.W.Frag} {f : Addr} {H H' : Hp} (e : But f H H') {a : Addr} (n : a ≠ f) {xs : List V} (h : SqL K H a xs) : SqL K H' a xs := by
  rcases h with (h | ⟨o, h⟩) | h
  · exact .inl (.inl (e _ _ n h))
  · exact .inl (.inr ⟨o, e _ _ n h⟩)
  · exact .inr h

/-! ### data without lists -/
mutual
def noLst : PyData → Bool
  | .list _ => false
  | .dict _ => false
  | .tuple xs => noLsts xs
  | _ => true
def noLsts : List PyData → Bool
  | [] => true
  | x :: xs => noLst x && noLsts xs
end
section
variable {K : PySem.W.Frag} {H H' : Hp}
mutual
theorem Dp.mono (e : Tk H H') : ∀ {d : PyData} {v : V}, noLst d = true → Dp K H v d → Dp K H' v d
  | .none, _, _, h => by cases h; exact .non
  | .bool b, _, _, h => by cases h; exact .bl b
  | .int i, _, _, h => by cases h; exact .int i
  | .str x, _, _, h => by cases h; exact .str x
  | .list _, _, n, _ => by simp [noLst] at n
  | .dict _, _, n, _ => by simp [noLst] at n
  | .tuple ds, _, n, h => by
    rw [noLst] at n
    cases h with
    | tup h1 h2 => exact .tup (e.t h1) (Dp.monos e n h2)
theorem Dp.monos (e : Tk H H') : ∀ {ds : List PyData} {vs : List V}, noLsts ds = true → DpAll K H vs ds → DpAll K H' vs ds
  | [], _, _, h => by cases h; exact .nil
  | d :: ds, _, n, h => by
    rw [noLsts, Bool.and_eq_true] at n
    cases h with
    | cons h1 h2 => exact .cons (Dp.mono e n.1 h1) (Dp.monos e n.2 h2)
end
theorem DpAll.get {vs : List V} {ds : List PyData} (h : DpAll K H vs ds) : ∀ {i : Nat} {v : V}, vs[i]? = some v → ∃ d, ds[i]? = some d ∧ Dp K H v d := by
  induction vs generalizing ds with
  | nil => intro i v e; simp at e
  | cons x vs ih =>
    cases h with
    | cons h1 h2 =>
      intro i v e
      cases i with
      | zero =>
        obtain rfl : x = v := Option.some.inj e
        exact ⟨_, rfl, h1⟩
      | succ i => exact ih h2 (by simpa using e)
theorem DpAll.get' {vs : List V} {ds : List PyData} (h : DpAll K H vs ds) : ∀ {i : Nat} {d : PyData}, ds[i]? = some d → ∃ v, vs[i]? = some v ∧ Dp K H v d := by
  induction vs generalizing ds with
  | nil => cases h; intro i v e; simp at e
  | cons x vs ih =>
    cases h with
    | @cons _ _ d0 _ h1 h2 =>
      intro i d e
      cases i with
      | zero =>
        obtain rfl : d0 = d := Option.some.inj e
        exact ⟨_, rfl, h1⟩
      | succ i => exact ih h2 (by simpa using e)
theorem DpAll.len {vs : List V} {ds : List PyData} (h : DpAll K H vs ds) : vs.length = ds.length := by
  induction vs generalizing ds with
  | nil => cases h; rfl
  | cons x vs ih =>
    cases h with
    | cons h1 h2 => rw [List.length_cons, List.length_cons, ih h2]
theorem DpAll.app {vs ws : List V} {ds es : List PyData} (h : DpAll K H vs ds) (h' : DpAll K H ws es) : DpAll K H (vs ++ ws) (ds ++ es) := by
  induction vs generalizing ds with
  | nil => cases h; exact h'
  | cons x vs ih =>
    cases h with
    | cons h1 h2 => exact .cons h1 (ih h2)
theorem DpAll.of {vs : List V} {ds : List PyData} (hl : vs.length = ds.length) (h : ∀ (i : Nat) (v : V) (d : PyData), vs[i]? = some v → ds[i]? = some d → Dp K H v d) : DpAll K H vs ds := by
  induction vs generalizing ds with
  | nil =>
    cases ds with
    | nil => exact .nil
    | cons d ds => cases hl
  | cons x vs ih =>
    cases ds with
    | nil => cases hl
    | cons d ds => exact .cons (h 0 x d rfl rfl) (ih (Nat.succ.inj hl) fun i v d a b => h (i + 1) v d (by simpa using a) (by simpa using b))
theorem dp_tup {v : V} {ds : List PyData} (h : Dp K H v (.tuple ds)) : ∃ a xs, v = .ref a ∧ SqT K H a xs ∧ DpAll K H xs ds := by
  cases h with
  | tup h1 h2 => exact ⟨_, _, rfl, h1, h2⟩
theorem dp_lst {v : V} {ds : List PyData} (h : Dp K H v (.list ds)) : ∃ a xs, v = .ref a ∧ SqL K H a xs ∧ DpAll K H xs ds := by
  cases h with
  | lst h1 h2 => exact ⟨_, _, rfl, h1, h2⟩
theorem dp_int {v : V} {i : Int} (h : Dp K H v (.int i)) : v = .int i := by cases h; rfl
theorem dp_str {v : V} {x : Str} (h : Dp K H v (.str x)) : v = .str x := by cases h; rfl
end
theorem tyx_tup {K : PySem.W.Frag} {H : Hp} {a : Addr} {xs : List V} (h : SqT K H a xs) : TyX K H (.ref a) (.type "tuple") := by
  rcases h with (h | ⟨o, h⟩) | ⟨o, its, n, h1, h2, _⟩
  · exact .base (.tup h)
  · exact .fTuple h
  · exact .kTuple h1 h2

/-! ### which names are the built-ins' own -/
structure Txt (mg : Str → Option Value) : Prop where
  isinstance : mg "isinstance" = none
  int : mg "int" = none
  bool : mg "bool" = none
  str : mg "str" = none
  tuple : mg "tuple" = none
  list : mg "list" = none
  set : mg "set" = none
  len : mg "len" = none
  all : mg "all" = none
  any : mg "any" = none
  enumerate : mg "enumerate" = none
  zip : mg "zip" = none
  reversed : mg "reversed" = none
  range : mg "range" = none
  sorted : mg "sorted" = none
  repr : mg "repr" = none
  letters : ∃ t, mg "LETTERS" = some (.str "abcdefghijklmnopqrstuvwxyz" t)
  mostL : ∃ t, mg "MOST_LETTERS" = some (.int 8 t)
  mostP : ∃ t, mg "MOST_PLACES" = some (.int 3 t)
/-- a def of the text that keeps a promise -/
structure Def (P : Program) (w : World) (K : PySem.W.Frag) (mg : Str → Option Value) (base : Heap) (k : Nat) (x : Str) (ps : List Str) (sp : Sp) where
  f : Addr
  fd : FuncData
  G : FnOk P w K mg base CX0 k f fd ps sp
  g : mg x = some (.ref f)
  kp : PySem.W.keepIn K (.ref f) = true
  b : Binds K fd ps []

section
variable {P : Program} {w : World} {K : PySem.W.Frag} {mg : Str → Option Value} {base : Heap}
theorem kit_ii : kitB "int" "int" = some true := by decide +kernel
theorem kit_ib : kitB "int" "bool" = some false := by decide +kernel
theorem kit_is : kitB "int" "str" = some false := by decide +kernel
theorem kit_it : kitB "int" "tuple" = some false := by decide +kernel
theorem kit_si : kitB "str" "int" = some false := by decide +kernel
theorem kit_ss : kitB "str" "str" = some true := by decide +kernel
theorem kit_ti : kitB "tuple" "int" = some false := by decide +kernel
theorem kit_ts : kitB "tuple" "str" = some false := by decide +kernel
theorem kit_tt : kitB "tuple" "tuple" = some true := by decide +kernel
/-- an int, a text or a tuple -/
inductive Sort3 (K : PySem.W.Frag) (H : Hp) : V → String → Prop
  | int (i : Int) : Sort3 K H (.int i) "int"
  | str (x : Str) : Sort3 K H (.str x) "str"
  | tup {a : Addr} {xs : List V} (h : SqT K H a xs) : Sort3 K H (.ref a) "tuple"
theorem Sort3.ty {H : Hp} {x : V} {t : String} (h : Sort3 K H x t) : TyX K H x (.type t) := by
  cases h with
  | int i => exact .base (.int i)
  | str x => exact .base (.str x)
  | tup h => exact tyx_tup h
def intV : V → Bool
  | .int _ => true
  | _ => false
def numV : V → Bool
  | .int i => decide (0 ≤ i)
  | _ => false

/-! ### is_integer, is_number, is_hole, is_pair -/
def spInt (K : PySem.W.Frag) : Sp := fun vs H Q _ => ∃ x t, vs = [x] ∧ Sort3 K H x t ∧ Q (.bl (intV x)) H
theorem ok_int {f : Addr} {fd : FuncData} {k : Nat} (F : Fun K "is_integer" "is_integer" sInt f fd) (T : Txt mg) : FnOk P w K mg base CX0 (k + 1) f fd pInt (spInt K) := by
  refine F.ok scInt (fun vs H Q E h => ?_) (fun cdv A outer s H vs Q E hr h => ?_)
  · obtain ⟨x, t, rfl, _⟩ := h
    rfl
  · obtain ⟨x, t, rfl, hx, q⟩ := h
    refine ⟨_, pss_one (ps_ret (pe_and (pe_callB call_isi (by rfl) T.isinstance (by decide +kernel) (pa_cons (pv 0) (pa_cons (pe_bltn (v := .ty "int") (by rfl) T.int (by decide +kernel) rfl) pa_nil)))
      (pe_one (pe_not (pe_callB call_isi (by rfl) T.isinstance (by decide +kernel) (pa_cons (pv 0) (pa_cons (pe_bltn (v := .ty "bool") (by rfl) T.bool (by decide +kernel) rfl) pa_nil))))))), ?_⟩
    cases hx with
    | int i => exact ⟨_, rfl, _, _, _, _, _, rfl, .ty "int", Sort3.ty (.int i), kit_ty kit_ii, true, rfl, iteT ⟨_, rfl, _, _, _, _, _, rfl, .ty "bool", Sort3.ty (.int i), kit_ty kit_ib, false, rfl, q⟩⟩
    | str z => exact ⟨_, rfl, _, _, _, _, _, rfl, .ty "int", Sort3.ty (.str z), kit_ty kit_si, false, rfl, iteF q⟩
    | tup h => exact ⟨_, rfl, _, _, _, _, _, rfl, .ty "int", Sort3.ty (.tup h), kit_ty kit_ti, false, rfl, iteF q⟩
def spNum (K : PySem.W.Frag) : Sp := fun vs H Q _ => ∃ x t, vs = [x] ∧ Sort3 K H x t ∧ Q (.bl (numV x)) H
theorem ok_num {f : Addr} {fd : FuncData} {k : Nat} (F : Fun K "is_number" "is_number" sNum f fd) (T : Txt mg) (C : Def P w K mg base k "is_integer" pInt (spInt K)) : FnOk P w K mg base CX0 (k + 1) f fd pNum (spNum K) := by
  refine F.ok scNum (fun vs H Q E h => ?_) (fun cdv A outer s H vs Q E hr h => ?_)
  · obtain ⟨x, t, rfl, _⟩ := h
    rfl
  · obtain ⟨x, t, rfl, hx, q⟩ := h
    refine ⟨_, pss_one (ps_ret (pe_and (pe_call C.G hr (by rfl) C.g C.kp C.b .nil pass0 (pa_cons (pv 0) pa_nil)) (pe_one (pe_cmp (pc_ge (pv 0) pe_int) (by rfl))))), ?_⟩
    cases hx with
    | int i => exact ⟨_, rfl, _, _, rfl, .int i, true, rfl, iteT ⟨_, rfl, _, _, rfl, rfl, q⟩⟩
    | str z => exact ⟨_, rfl, _, _, rfl, .str z, false, rfl, iteF q⟩
    | tup h => exact ⟨_, rfl, _, _, rfl, .tup h, false, rfl, iteF q⟩
def spHole (K : PySem.W.Frag) : Sp := spNum K
theorem ok_hole {f : Addr} {fd : FuncData} {k : Nat} (F : Fun K "is_hole" "is_hole" sHole f fd) (C : Def P w K mg base k "is_number" pNum (spNum K)) : FnOk P w K mg base CX0 (k + 1) f fd pHole (spHole K) := by
  refine F.ok scHole (fun vs H Q E h => ?_) (fun cdv A outer s H vs Q E hr h => ?_)
  · obtain ⟨x, t, rfl, _⟩ := h
    rfl
  · obtain ⟨x, t, rfl, hx, q⟩ := h
    exact ⟨_, pss_one (ps_ret (pe_call C.G hr (by rfl) C.g C.kp C.b .nil pass0 (pa_cons (pv 0) pa_nil))), _, rfl, _, _, rfl, hx, q⟩
def spPair (K : PySem.W.Frag) : Sp := fun vs H Q _ => ∃ a xs, vs = [.ref a] ∧ SqT K H a xs ∧ Q (.bl (decide (xs.length = 2))) H
theorem ok_pair {f : Addr} {fd : FuncData} {k : Nat} (F : Fun K "is_pair" "is_pair" sPair f fd) (T : Txt mg) : FnOk P w K mg base CX0 (k + 1) f fd pPair (spPair K) := by
  refine F.ok scPair (fun vs H Q E h => ?_) (fun cdv A outer s H vs Q E hr h => ?_)
  · obtain ⟨a, xs, rfl, _⟩ := h
    rfl
  · obtain ⟨a, xs, rfl, hx, q⟩ := h
    refine ⟨_, pss_one (ps_ret (pe_and (pe_callB call_isi (by rfl) T.isinstance (by decide +kernel) (pa_cons (pv 0) (pa_cons (pe_bltn (v := .ty "tuple") (by rfl) T.tuple (by decide +kernel) rfl) pa_nil)))
      (pe_one (pe_cmp (pc_eqI (pe_callB call_len_seq (by rfl) T.len (by decide +kernel) (pa_cons (pv 0) pa_nil)) pe_int) (by rfl))))), ?_⟩
    refine ⟨_, rfl, _, _, _, _, _, rfl, .ty "tuple", tyx_tup hx, kit_ty kit_tt, true, rfl, iteT ⟨_, rfl, a, xs, rfl, .inr hx, _, _, rfl, rfl, ?_⟩⟩
    show Q (V.bl (decide ((xs.length : Int) = 2))) H
    rw [show decide ((xs.length : Int) = 2) = decide (xs.length = 2) from decide_eq_decide.mpr (by omega)]
    exact q
end
end Rk

/-! comprehensions, once for all; names, signs, books -/
namespace Rk
open PySem PySem.Spec PyProof.Rows L2

/-- what the items are, one by one -/
inductive RelL (Rel : Nat → V → Hp → Prop) (H : Hp) : List Nat → List V → Prop
  | nil : RelL Rel H [] []
  | cons {i : Nat} {y : V} {is : List Nat} {ys : List V} : Rel i y H → RelL Rel H is ys → RelL Rel H (i :: is) (y :: ys)
section
variable {Rel : Nat → V → Hp → Prop} {H H' : Hp}
theorem RelL.mono (m : ∀ i y, Rel i y H → Rel i y H') : ∀ {is : List Nat} {ys : List V}, RelL Rel H is ys → RelL Rel H' is ys
  | _, _, .nil => .nil
  | _, _, .cons h t => .cons (m _ _ h) (RelL.mono m t)
theorem RelL.snoc {i : Nat} {y : V} (h : Rel i y H) : ∀ {is : List Nat} {ys : List V}, RelL Rel H is ys → RelL Rel H (is ++ [i]) (ys ++ [y])
  | _, _, .nil => .cons h .nil
  | _, _, .cons a t => .cons a (RelL.snoc h t)
theorem RelL.len : ∀ {is : List Nat} {ys : List V}, RelL Rel H is ys → is.length = ys.length
  | _, _, .nil => rfl
  | _, _, .cons _ t => by rw [List.length_cons, List.length_cons, t.len]
theorem RelL.get : ∀ {is : List Nat} {ys : List V}, RelL Rel H is ys → ∀ {j : Nat} {y : V}, ys[j]? = some y → ∃ i, is[j]? = some i ∧ Rel i y H
  | _, _, .nil, j, y, e => by simp at e
  | _, _, .cons a t, 0, y, e => by
    simp at e
    subst e
    exact ⟨_, rfl, a⟩
  | _, _, .cons a t, j + 1, y, e => by
    obtain ⟨i, h1, h2⟩ := t.get (j := j) (by simpa using e)
    exact ⟨i, by simpa using h1, h2⟩
theorem RelL.eq {f : Nat → V} : ∀ {is : List Nat} {ys : List V}, RelL (fun i y _ => y = f i) H is ys → ys = is.map f
  | _, _, .nil => rfl
  | _, _, .cons a t => by rw [List.map_cons, a, t.eq]
end
theorem small_line {n : Nat} (h : n ≤ 1000000) : n < sizeLine := Nat.lt_of_le_of_lt h (by decide)
theorem small_line' {n : Nat} (h : n ≤ 1000000) : n ≤ sizeLine := Nat.le_of_lt (small_line h)
theorem filter_snoc (keep : Nat → Bool) (i : Nat) : (List.range (i + 1)).filter keep = if keep i = true then (List.range i).filter keep ++ [i] else (List.range i).filter keep := by
  rw [List.range_succ, List.filter_append, List.filter_cons]
  split <;> simp
section
variable {J : It} {n : Nat} {G : Hp → Prop} {Y : Nat → Hp → V → Hp → Prop}
/-- a list comprehension over what is walked: Z is what stays true of the heap -/
theorem lcZ (wk : Walk J n G Y) {g : TG} {tt : TT} {te : TE} {vs : List Nat} {σ : L2.St} {H1 : Hp} {D : Addr} {Qd : Hp → Prop} (Z : Hp → Prop) (Rel : Nat → V → Hp → Prop) (keep : Nat → Bool) (hn : n ≤ 1000000)
    (h0 : Z (upd H1 D (.lst []))) (hG : ∀ H, Z H → G H) (hD : ∀ H xs ys, Z H → H D = some (.lst xs) → Z (upd H D (.lst ys))) (mono : ∀ i y H H', Tk H H' → Rel i y H → Rel i y H')
    (hs : ∀ i x H H' acc (R : V → Hp → Prop) (R0 : Hp → Prop), i < n → Z H → H D = some (.lst acc) → Y i H x H' → (∀ y H'', keep i = true → Z H'' → Tk H H'' → H'' D = some (.lst acc) → Rel i y H'' → R y H'') →
      (∀ H'', keep i = false → Z H'' → Tk H H'' → H'' D = some (.lst acc) → R0 H'') → g x (wipe σ vs) H' fun σ2 H2 => wipe σ2 vs = wipe σ vs ∧ tt σ2 H2 fun b H3 => if b = true then te σ2 H3 R else R0 H3)
    (hd : ∀ H ys, Z H → H D = some (.lst ys) → RelL Rel H ((List.range n).filter keep) ys → Qd H) :
    ∃ W : Nat → Nat → Hp → Prop, (∃ m, W 0 m (upd H1 D (.lst []))) ∧ ∀ i m H, W i m H →
      (J.stop i H ∧ Qd H) ∨ (J.go i H ∧ ∃ Nx : Hp → Prop, (∀ H', Nx H' → ∃ m', m' < m ∧ W (i + 1) m' H') ∧ ∀ x H', J.yld i H x H' → g x (wipe σ vs) H' fun σ2 H2 => wipe σ2 vs = wipe σ vs ∧ tt σ2 H2 fun b H3 =>
        if b = true then te σ2 H3 fun y H4 => ∃ acc, H4 D = some (.lst acc) ∧ acc.length < sizeLine ∧ Nx (upd H4 D (.lst (acc ++ [y]))) else Nx H3) := by
  refine lc_it wk (fun i H => Z H ∧ ∃ ys, H D = some (.lst ys) ∧ RelL Rel H ((List.range i).filter keep) ys) ⟨h0, [], upd_same, .nil⟩ (fun i H _ h => hG H h.1) ?_ (fun H ⟨z, ys, e, r⟩ => hd H ys z e r)
  rintro i x H H' hi ⟨z, acc, e, r⟩ hy
  refine hs i x H H' acc _ _ hi z e hy (fun y H'' hk z'' tk e'' rel => ⟨acc, e'', ?_, hD _ _ _ z'' e'', acc ++ [y], upd_same, ?_⟩) (fun H'' hk z'' tk e'' => ⟨z'', acc, e'', ?_⟩)
  · have h1 := r.len
    have h2 := List.length_filter_le keep (List.range i)
    rw [List.length_range] at h2
    exact small_line (by omega)
  · rw [filter_snoc, if_pos hk]
    exact RelL.mono (fun j u => mono j u _ _ (tk_lst e'')) ((r.mono fun j u => mono j u _ _ tk).snoc rel)
  · rw [filter_snoc, if_neg (by rw [hk]; decide)]
    exact r.mono fun j u => mono j u _ _ tk
/-- the same where nothing is changed -/
theorem lcS (wk : Walk J n G Y) {g : TG} {tt : TT} {te : TE} {vs : List Nat} {σ : L2.St} {H1 : Hp} {D : Addr} {Qd : Hp → Prop} (Rel : Nat → V → Hp → Prop) (keep : Nat → Bool) (hn : n ≤ 1000000) (hnew : H1 D = none)
    (hG : ∀ H, Same H1 H → G H) (mono : ∀ i y H H', Tk H H' → Rel i y H → Rel i y H')
    (hs : ∀ i x H H' (R : V → Hp → Prop) (R0 : Hp → Prop), i < n → Same H1 H → Y i H x H' → (∀ y H'', keep i = true → Same H H'' → Rel i y H'' → R y H'') →
      (∀ H'', keep i = false → Same H H'' → R0 H'') → g x (wipe σ vs) H' fun σ2 H2 => wipe σ2 vs = wipe σ vs ∧ tt σ2 H2 fun b H3 => if b = true then te σ2 H3 R else R0 H3)
    (hd : ∀ H ys, Same H1 H → H D = some (.lst ys) → RelL Rel H ((List.range n).filter keep) ys → Qd H) :
    ∃ W : Nat → Nat → Hp → Prop, (∃ m, W 0 m (upd H1 D (.lst []))) ∧ ∀ i m H, W i m H →
      (J.stop i H ∧ Qd H) ∨ (J.go i H ∧ ∃ Nx : Hp → Prop, (∀ H', Nx H' → ∃ m', m' < m ∧ W (i + 1) m' H') ∧ ∀ x H', J.yld i H x H' → g x (wipe σ vs) H' fun σ2 H2 => wipe σ2 vs = wipe σ vs ∧ tt σ2 H2 fun b H3 =>
        if b = true then te σ2 H3 fun y H4 => ∃ acc, H4 D = some (.lst acc) ∧ acc.length < sizeLine ∧ Nx (upd H4 D (.lst (acc ++ [y]))) else Nx H3) :=
  lcZ wk (Same H1) Rel keep hn (same_mut (Same.refl H1) hnew) hG (fun H _ _ z _ => same_mut z hnew) mono
    (fun i x H H' acc R R0 hi z e hy h1 h2 => hs i x H H' R R0 hi z hy (fun y H'' hk s rel => h1 y H'' hk (z.trans s) (tk_same s) (s _ _ e) rel) (fun H'' hk s => h2 H'' hk (z.trans s) (tk_same s) (s _ _ e))) hd
end
theorem range_all (n : Nat) : (List.range n).filter (fun _ => true) = List.range n := List.filter_eq_self.mpr fun _ _ => rfl

section
variable {P : Program} {w : World} {K : PySem.W.Frag} {mg : Str → Option Value} {base : Heap}
/-! ### is_name, is_sign -/
def GoodName (x : Str) : Prop := 1 ≤ x.length ∧ x.length ≤ 8 ∧ ∀ c ∈ x.cps.toList, 97 ≤ c ∧ c ≤ 122
theorem letters_eq : (("abcdefghijklmnopqrstuvwxyz" : Str)).cps.toList = List.range' 97 26 := by decide +kernel
theorem letter_in {c : Nat} (h : 97 ≤ c ∧ c ≤ 122) : decide (c ∈ (("abcdefghijklmnopqrstuvwxyz" : Str)).cps.toList) = true := by
  rw [letters_eq, decide_eq_true_eq, List.mem_range'_1]
  omega
def spNam : Sp := fun vs H Q _ => ∃ x, vs = [.str x] ∧ GoodName x ∧ ∀ H', Same H H' → Q (.bl true) H'
theorem ok_nam {f : Addr} {fd : FuncData} {k : Nat} (F : Fun K "is_name" "is_name" sNam f fd) (T : Txt mg) : FnOk P w K mg base CX0 (k + 1) f fd pNam spNam := by
  refine F.ok scNam (fun vs H Q E h => ?_) (fun cdv A outer s H vs Q E hr h => ?_)
  · obtain ⟨x, rfl, _⟩ := h
    rfl
  · obtain ⟨x, rfl, ⟨g1, g2, g3⟩, q⟩ := h
    obtain ⟨t1, hL⟩ := T.letters
    obtain ⟨t2, hM⟩ := T.mostL
    refine ⟨_, pss_one (ps_ret (pe_and (pe_callB call_isi (by rfl) T.isinstance (by decide +kernel) (pa_cons (pv 0) (pa_cons (pe_bltn (v := .ty "str") (by rfl) T.str (by decide +kernel) rfl) pa_nil)))
      (pe_and (pe_chain op_le op_le pe_int (pe_callB call_len_str (by rfl) T.len (by decide +kernel) (pa_cons (pv 0) pa_nil)) (pe_glob (v := .int 8) (by rfl) hM ⟨_, rfl⟩))
      (pe_one (pe_callB (cr_all rfl) (by rfl) T.all (by decide +kernel) (pa_cons
        (pe_lc (own := [("sign", 1)]) (g := gName 1) (tt := tYes) rfl scNam.nd (pi_str (pv 0)) (blkOk_by (N := nNam) (sc := defScope sNam) (by decide +kernel))
          (fun _ _ _ _ _ => pg_name (i := 1) scNam.nd rfl (Or.inl rfl)) (fun _ _ _ _ _ => pts_nil)
          (fun _ _ _ _ _ => pe_cmpR op_in_sign (pv 1) (pe_glob (v := .str "abcdefghijklmnopqrstuvwxyz") (by rfl) hL ⟨_, rfl⟩) rfl)) pa_nil)))))), ?_⟩
    refine ⟨_, rfl, _, _, _, _, _, rfl, .ty "str", Sort3.ty (K := K) (H := H) (.str x), kit_ty kit_ss, true, rfl, iteT ?_⟩
    refine ⟨_, rfl, x, rfl, small_line' (by omega), _, _, rfl, rfl, true, congrArg V.bl (decide_eq_true (show (1 : Int) ≤ (x.length : Int) by omega)), iteT ⟨_, _, rfl, rfl, ?_⟩⟩
    refine ⟨true, congrArg V.bl (decide_eq_true (show (x.length : Int) ≤ 8 by omega)), iteT ⟨_, rfl, _, rfl, fun D hD => ?_⟩⟩
    refine lcS walk_str (fun _ y _ => y = .bl true) (fun _ => true) (by show x.length ≤ 1000000; omega) hD (fun _ _ => True.intro) (fun _ _ _ _ _ h => h) ?_ ?_
    · rintro i y H' H'' R R0 hi s ⟨rfl, c, hc, rfl⟩ k1 k2
      refine ⟨rfl, _, rfl, c, _, rfl, rfl, ?_⟩
      exact k1 _ _ rfl (Same.refl _) (congrArg V.bl (letter_in (g3 c (by rw [Array.mem_toList_iff]; exact Array.mem_of_getElem? hc))))
    · intro H' ys s e r
      rw [range_all] at r
      have ey := r.eq (f := fun _ => V.bl true)
      subst ey
      refine ⟨D, List.replicate x.cps.size true, rfl, SqL.of ?_, ?_⟩
      · rw [e, List.map_replicate]
        congr 2
        exact List.eq_replicate_iff.mpr ⟨by simp, fun b hb => by obtain ⟨_, _, e⟩ := List.mem_map.mp hb; exact e.symm⟩
      · rw [show (List.replicate x.cps.size true).all id = true by simp]
        exact q _ s
end
end Rk

/-! signs, books, what is wanted -/
namespace Rk
open PySem PySem.Spec PyProof.Rows L2

abbrev Bk := List (Str × Nat)
structure GoodBook (B : Bk) : Prop where
  signs : ∀ s ∈ B, GoodName s.1 ∧ s.2 ≤ 3
  asc : (B.map (·.1)).Pairwise sLt
  closed : ∃ s ∈ B, s.2 = 0
  wide : ∃ s ∈ B, 1 < s.2
  few : B.length ≤ 5
/-- a sign as it stands -/
def SignAt (K : PySem.W.Frag) (H : Hp) (v : V) (s : Str × Nat) : Prop := ∃ b, v = .ref b ∧ SqT K H b [.str s.1, .int (s.2 : Int)]
def BookAt (K : PySem.W.Frag) (H : Hp) (v : V) (B : Bk) : Prop := ∃ a xs, v = .ref a ∧ SqT K H a xs ∧ xs.length = B.length ∧ ∀ (i : Nat) x, xs[i]? = some x → ∃ s, B[i]? = some s ∧ SignAt K H x s
theorem SignAt.mono {K : PySem.W.Frag} {H H' : Hp} {v : V} {s : Str × Nat} (h : SignAt K H v s) (e : Tk H H') : SignAt K H' v s := by
  obtain ⟨b, h1, h2⟩ := h
  exact ⟨b, h1, e.t h2⟩
theorem BookAt.mono {K : PySem.W.Frag} {H H' : Hp} {v : V} {B : Bk} (h : BookAt K H v B) (e : Tk H H') : BookAt K H' v B := by
  obtain ⟨a, xs, h1, h2, h3, h4⟩ := h
  refine ⟨a, xs, h1, e.t h2, h3, fun i x hx => ?_⟩
  obtain ⟨s, q1, q2⟩ := h4 i x hx
  exact ⟨s, q1, q2.mono e⟩
theorem nat_int_eq (n : Nat) (m : Nat) : decide ((n : Int) = (m : Int)) = decide (n = m) := decide_eq_decide.mpr (by omega)

section
variable {P : Program} {w : World} {K : PySem.W.Frag} {mg : Str → Option Value} {base : Heap}
def spSign (K : PySem.W.Frag) : Sp := fun vs H Q _ => ∃ x s, vs = [x] ∧ SignAt K H x s ∧ GoodName s.1 ∧ s.2 ≤ 3 ∧ ∀ H', Same H H' → Q (.bl true) H'
theorem ok_sign {f : Addr} {fd : FuncData} {k : Nat} (F : Fun K "is_sign" "is_sign" sSign f fd) (T : Txt mg) (C1 : Def P w K mg base k "is_pair" pPair (spPair K)) (C2 : Def P w K mg base k "is_name" pNam spNam)
    (C3 : Def P w K mg base k "is_number" pNum (spNum K)) : FnOk P w K mg base CX0 (k + 1) f fd pSign (spSign K) := by
  refine F.ok scSign (fun vs H Q E h => ?_) (fun cdv A outer s H vs Q E hr h => ?_)
  · obtain ⟨x, s, rfl, _⟩ := h
    rfl
  · obtain ⟨x, sg, rfl, ⟨b, rfl, hb⟩, g1, g2, q⟩ := h
    obtain ⟨t2, hM⟩ := T.mostP
    refine ⟨_, pss_one (ps_ret (pe_and (pe_call C1.G hr (by rfl) C1.g C1.kp C1.b .nil pass0 (pa_cons (pv 0) pa_nil))
      (pe_and (pe_call C2.G hr (by rfl) C2.g C2.kp C2.b .nil pass0 (pa_cons (pe_ix ix_tup (pv 0) pe_int (fun _ _ => rfl)) pa_nil))
      (pe_and (pe_call C3.G hr (by rfl) C3.g C3.kp C3.b .nil pass0 (pa_cons (pe_ix ix_tup (pv 0) pe_int (fun _ _ => rfl)) pa_nil))
      (pe_one (pe_cmp (pc_le (pe_ix ix_tup (pv 0) pe_int (fun _ _ => rfl)) (pe_glob (v := .int 3) (by rfl) hM ⟨_, rfl⟩)) (by rfl))))))), ?_⟩
    refine ⟨_, rfl, b, _, rfl, hb, true, rfl, iteT ⟨_, rfl, b, _, 0, _, rfl, rfl, hb, atI_nat (j := 0) rfl, _, rfl, g1, fun H1 s1 => ⟨true, rfl, iteT ?_⟩⟩⟩
    have h1 := (tk_same s1).t hb
    refine ⟨_, rfl, b, _, 1, _, rfl, rfl, h1, atI_nat (j := 1) rfl, _, _, rfl, .int _, true, congrArg V.bl (show numV (V.int (sg.2 : Int)) = true from decide_eq_true (show (0 : Int) ≤ (sg.2 : Int) by omega)), iteT ⟨_, rfl, b, _, 1, _, rfl, rfl, h1, atI_nat (j := 1) rfl, _, _, rfl, rfl, ?_⟩⟩
    show Q (V.bl (decide ((sg.2 : Int) ≤ 3))) H1
    rw [decide_eq_true (by omega)]
    exact q H1 s1

/-! ### places_by -/
def plK (B : Bk) : List (Key × V) := B.map fun s => (Sum.inr s.1, V.int (s.2 : Int))
theorem valV_fresh {ns : List Str} {x : Str} {f : Str → V} (h : x ∉ ns) : valV (ns.map fun n => ((Sum.inr n : Key), f n)) (Sum.inr x) = none := by
  induction ns with
  | nil => rfl
  | cons n ns ih =>
    rw [List.map_cons, valV_neg (fun e => h (by injection e with e; rw [← e]; exact List.mem_cons_self))]
    exact ih fun z => h (List.mem_cons_of_mem _ z)
theorem plK_none {B : Bk} {x : Str} (h : x ∉ B.map (·.1)) : valV (plK B) (Sum.inr x) = none := by
  induction B with
  | nil => rfl
  | cons s B ih =>
    unfold plK
    rw [List.map_cons, valV_neg (fun e => h (by injection e with e; rw [← e]; exact List.mem_cons_self))]
    exact ih fun z => h (List.mem_cons_of_mem _ z)
theorem plK_some {B : Bk} (nd : (B.map (·.1)).Nodup) {s : Str × Nat} (h : s ∈ B) : valV (plK B) (Sum.inr s.1) = some (.int (s.2 : Int)) := by
  induction B with
  | nil => cases h
  | cons u B ih =>
    rw [List.map_cons, List.nodup_cons] at nd
    unfold plK
    rw [List.map_cons]
    rcases List.mem_cons.mp h with e | h
    · rw [e]
      exact valV_pos (p := ((Sum.inr u.1 : Key), V.int (u.2 : Int))) rfl
    · rw [valV_neg (fun e => nd.1 (by injection e with e; rw [e]; exact List.mem_map.mpr ⟨s, h, rfl⟩))]
      exact ih nd.2 h
theorem plK_snoc {B : Bk} {s : Str × Nat} (h : s.1 ∉ B.map (·.1)) : putK (plK B) (Sum.inr s.1) (.int (s.2 : Int)) = plK (B ++ [s]) := by
  rw [putK_new _ (plK_none h)]
  unfold plK
  rw [List.map_append]
  rfl
def spPlc (K : PySem.W.Frag) : Sp := fun vs H Q _ => ∃ x B, vs = [x] ∧ BookAt K H x B ∧ (B.map (·.1)).Nodup ∧ B.length ≤ 5 ∧ ∀ p H', H p = none → Same H H' → H' p = some (.dK (plK B)) → Q (.ref p) H'
theorem ok_plc {f : Addr} {fd : FuncData} {k : Nat} (F : Fun K "places_by" "places_by" sPlc f fd) : FnOk P w K mg base CX0 (k + 1) f fd pPlc (spPlc K) := by
  refine F.ok scPlc (fun vs H Q E h => ?_) (fun cdv A outer s H vs Q E hr h => ?_)
  · obtain ⟨x, s, rfl, _⟩ := h
    rfl
  · obtain ⟨x, B, rfl, hB, nd, hl, q⟩ := h
    obtain ⟨a, xs, rfl, h1, h2, h3⟩ := id hB
    refine ⟨_, pss_one (ps_ret (pe_dc (own := [("name", 1), ("places", 2)]) (g := gTup K 2 (gCons (gName 1) (gCons (gName 2) gNil))) (tt := tYes) rfl scPlc.nd (pi_tup (pv 0)) (blkOk_by (N := nPlc) (sc := defScope sPlc) (by decide +kernel))
      (fun _ _ _ _ _ => pg_tup rfl (pgs_cons (pg_name (i := 1) scPlc.nd rfl (Or.inl rfl)) (pgs_cons (pg_name (i := 2) scPlc.nd rfl (Or.inl rfl)) pgs_nil))) (fun _ _ _ _ _ => pts_nil) (fun _ _ _ _ _ => pv 1) (fun _ _ _ _ _ => pv 2))), ?_⟩
    refine ⟨_, rfl, a, rfl, ⟨_, h1⟩, fun D hD => ?_⟩
    refine dc_tup (K := K) (a := a) (xs := xs) (fun i H' => Same H H' ∧ H' D = some (.dK (plK (B.take i)))) ⟨same_new hD, upd_same⟩ (fun i H' _ h => (tk_same h.1).t h1) ?_ ?_
    · rintro i y H' hi ⟨sm, hd⟩
      obtain ⟨sg, e1, b, rfl, e2⟩ := h3 i y hi
      refine ⟨b, _, rfl, (tk_same sm).t e2, rfl, _, _, rfl, _, _, rfl, rfl, rfl, _, rfl, _, rfl, plK (B.take i), Sum.inr sg.1, rfl, hd, ?_, same_mut sm hD, ?_⟩
      · unfold plK
        rw [List.length_map, List.length_take]
        exact small_line (by omega)
      · rw [upd_same]
        have et : B.take (i + 1) = B.take i ++ [sg] := by rw [List.take_add_one, e1]; rfl
        have nin : sg.1 ∉ (B.take i).map (·.1) := fun hm => by
          have := nd
          rw [← List.take_append_drop (i + 1) B, List.map_append, et, List.map_append, List.nodup_append, List.nodup_append] at this
          exact this.1.2.2 _ hm _ (List.mem_singleton.mpr rfl) rfl
        rw [plK_snoc nin, et]
    · rintro H' ⟨sm, hd⟩
      rw [h2, List.take_length] at hd
      exact q D H' hD sm hd

/-! ### book_fault, is_book, want, want_book -/
def spBkF (K : PySem.W.Frag) : Sp := fun vs H Q _ => ∃ x B, vs = [x] ∧ BookAt K H x B ∧ GoodBook B ∧ ∀ H', Same H H' → Q .non H'
theorem any_of {α : Type} {l : List α} {p : α → Bool} (h : ∃ x ∈ l, p x = true) : (l.map p).any id = true := by
  rw [List.any_map]
  obtain ⟨x, h1, h2⟩ := h
  exact List.any_eq_true.mpr ⟨x, h1, h2⟩
theorem ok_bkF {f : Addr} {fd : FuncData} {k : Nat} (F : Fun K "book_fault" "book_fault" sBkF f fd) (T : Txt mg) (C : Def P w K mg base k "is_sign" pSign (spSign K)) : FnOk P w K mg base CX0 (k + 1) f fd pBkF (spBkF K) := by
  refine F.ok scBkF (fun vs H Q E h => ?_) (fun cdv A outer s H vs Q E hr h => ?_)
  · obtain ⟨x, s, rfl, _⟩ := h
    rfl
  · obtain ⟨x, B, rfl, hB, good, q⟩ := h
    obtain ⟨a, xs, rfl, h1, h2, h3⟩ := id hB
    have fewB := good.few
    refine ⟨_, pss_cons (ps_if (pt_not (pt_val (pe_callB call_isi (by rfl) T.isinstance (by decide +kernel) (pa_cons (pv 0) (pa_cons (pe_bltn (v := .ty "tuple") (by rfl) T.tuple (by decide +kernel) rfl) pa_nil))) (by intro _; rfl))) pss_never pss_nil)
      (pss_cons (ps_for PassesOwn.never rfl (pi_enumT (by rfl) T.enumerate (pa_cons (pv 0) pa_nil)) (pg_tup rfl (pgs_cons (pg_name (i := 1) scBkF.nd rfl (.inl rfl)) (pgs_cons (pg_name (i := 2) scBkF.nd rfl (.inl rfl)) pgs_nil)))
        (pss_cons (ps_if (pt_not (pt_val (pe_call C.G hr (by rfl) C.g C.kp C.b .nil pass0 (pa_cons (pv 2) pa_nil)) (by intro _; rfl))) pss_never pss_nil)
        (pss_one (ps_if (PW.pt (pw_and (pt_cmpR op_gt (pv 1) pe_int (nomark _)) (pw_and1 (pt_not (pt_cmpR op_lt_str (pe_ix ix_tup (pe_ix ix_tup (pv 0) (pe_op op_sub (pv 1) pe_int) (fun _ _ => rfl)) pe_int (fun _ _ => rfl)) (pe_ix ix_tup (pv 2) pe_int (fun _ _ => rfl)) (nomark _)))))) pss_never pss_nil))))
      (pss_cons (ps_if (pt_not (pt_val (pe_callB (cr_any rfl) (by rfl) T.any (by decide +kernel) (pa_cons
        (pe_lc (own := [("name", 3), ("places", 4)]) (g := gTup K 2 (gCons (gName 3) (gCons (gName 4) gNil))) (tt := tYes) rfl scBkF.nd (pi_tup (pv 0)) (blkOk_by (N := nBkF) (sc := defScope sBkF) (by decide +kernel))
          (fun _ _ _ _ _ => pg_tup rfl (pgs_cons (pg_name (i := 3) scBkF.nd rfl (Or.inl rfl)) (pgs_cons (pg_name (i := 4) scBkF.nd rfl (Or.inl rfl)) pgs_nil))) (fun _ _ _ _ _ => pts_nil) (fun _ _ _ _ _ => pe_cmp (pc_eqI (pv 4) pe_int) (by rfl))) pa_nil)) (by intro _; rfl))) pss_never pss_nil)
      (pss_one (ps_ret (pe_ifExp (pt_val (pe_callB (cr_any rfl) (by rfl) T.any (by decide +kernel) (pa_cons
        (pe_lc (own := [("name", 3), ("places", 4)]) (g := gTup K 2 (gCons (gName 3) (gCons (gName 4) gNil))) (tt := tYes) rfl scBkF.nd (pi_tup (pv 0)) (blkOk_by (N := nBkF) (sc := defScope sBkF) (by decide +kernel))
          (fun _ _ _ _ _ => pg_tup rfl (pgs_cons (pg_name (i := 3) scBkF.nd rfl (Or.inl rfl)) (pgs_cons (pg_name (i := 4) scBkF.nd rfl (Or.inl rfl)) pgs_nil))) (fun _ _ _ _ _ => pts_nil) (fun _ _ _ _ _ => pe_cmp (pc_gt (pv 4) pe_int) (by rfl))) pa_nil)) (by intro _; rfl)) pe_non (pe_tup (pa_cons pe_str (pa_cons (pe_un un_neg pe_int) pa_nil)))))))), ?_⟩
    refine ⟨_, rfl, _, _, _, _, _, rfl, .ty "tuple", tyx_tup h1, kit_ty kit_tt, true, rfl, iteF ?_⟩
    -- for k, sign in enumerate(thing)
    refine ⟨_, rfl, a, xs, rfl, h1, for_it walk_enumT (fun i σ H' => Same H H' ∧ ∃ y1 y2, σ = [some (.ref a), y1, y2, none, none]) ⟨Same.refl H, none, none, rfl⟩ (fun i σ H' _ h => (tk_same h.1).t h1) ?_ ?_⟩
    · rintro i y σ H1 H2 hi ⟨sm, y1, y2, rfl⟩ ⟨T', x1, x2, rfl, nT, rfl, e1, e2⟩
      obtain rfl : V.int (i : Nat) = x1 := Option.some.inj e1
      obtain ⟨sg, e3, b, rfl, e4⟩ := h3 i _ e2
      have sm2 : Same H1 (upd H1 T' (.tup [.int (i : Nat), .ref b])) := same_new nT
      have hsg := good.signs sg (List.mem_of_getElem? e3)
      refine ⟨T', _, rfl, SqT.of upd_same, rfl, _, _, rfl, _, _, rfl, rfl, ?_⟩
      refine ⟨_, rfl, _, sg, rfl, ⟨b, rfl, (tk_same (sm.trans sm2)).t e4⟩, hsg.1, hsg.2, fun H3 sm3 => ⟨true, rfl, iteF ?_⟩⟩
      have smA : Same H H3 := (sm.trans sm2).trans sm3
      refine ⟨_, rfl, _, _, rfl, rfl, decide (0 < (i : Int)), rfl, ite2 (fun hi0 => ?_) (fun _ => iteF ⟨smA, _, _, rfl⟩)⟩
      have hi1 : 0 < i := by have := of_decide_eq_true hi0; omega
      obtain ⟨j, rfl⟩ : ∃ j, i = j + 1 := ⟨i - 1, by omega⟩
      have hlt : j + 1 < B.length := (List.getElem?_eq_some_iff.mp e3).1
      have e5 : B[j]? = some B[j] := List.getElem?_eq_getElem (by omega)
      have e6 : xs[j]? = some xs[j] := List.getElem?_eq_getElem (by omega)
      obtain ⟨sg', e7, b', e8, e9⟩ := h3 j _ e6
      obtain rfl : B[j] = sg' := Option.some.inj (e5.symm.trans e7)
      rw [e8] at e6
      refine ⟨_, rfl, _, rfl, _, _, rfl, rfl, a, xs, _, _, rfl, rfl, (tk_same smA).t h1, at_of (j := j) (by omega) e6, b', _, 0, _, rfl, rfl, (tk_same smA).t e9, atI_nat (j := 0) rfl, _, rfl, b, _, 0, _, rfl, rfl, (tk_same smA).t e4, atI_nat (j := 0) rfl, _, _, rfl, rfl, true, ?_, iteF ⟨smA, _, _, rfl⟩⟩
      refine congrArg V.bl (decide_eq_true ?_)
      have := List.pairwise_iff_getElem.mp good.asc j (j + 1) (by rw [List.length_map]; omega) (by rw [List.length_map]; omega) (by omega)
      rw [List.getElem_map, List.getElem_map] at this
      rw [List.getElem?_eq_getElem hlt] at e3
      rw [← Option.some.inj e3]
      exact this
    · rintro σ H1 ⟨sm, y1, y2, rfl⟩
      have h1' := (tk_same sm).t h1
      -- any([places == 0 ..])
      refine ⟨_, rfl, a, rfl, ⟨_, h1'⟩, fun D hD => ?_⟩
      refine lcS (walk_tup (K := K) (a := a) (xs := xs)) (fun i y _ => y = .bl (decide ((B.getD i (Str.empty, 9)).2 = 0))) (fun _ => true) (by omega) hD (fun _ e => (tk_same e).t h1') (fun _ _ _ _ _ h => h) ?_ ?_
      · rintro i y H' H'' R R0 hi s1 ⟨rfl, hy⟩ k1 k2
        obtain ⟨sg, e3, b, rfl, e4⟩ := h3 i _ hy
        refine ⟨b, _, rfl, (tk_same (sm.trans s1)).t e4, rfl, _, _, rfl, _, _, rfl, rfl, rfl, _, rfl, _, _, rfl, rfl, k1 _ _ rfl (Same.refl _) ?_⟩
        show V.bl (decide ((sg.2 : Int) = 0)) = _
        rw [List.getD_eq_getElem?_getD, e3]
        exact congrArg V.bl (nat_int_eq sg.2 0)
      · intro H2 ys s2 e r
        rw [range_all] at r
        obtain rfl := r.eq (f := fun i => V.bl (decide ((B.getD i (Str.empty, 9)).2 = 0)))
        refine ⟨D, (List.range xs.length).map fun i => decide ((B.getD i (Str.empty, 9)).2 = 0), rfl, SqL.of (by rw [e, List.map_map]; rfl), true, ?_, iteF ?_⟩
        · obtain ⟨sg, m1, m2⟩ := good.closed
          obtain ⟨i, hi, ei⟩ := List.getElem_of_mem m1
          refine congrArg V.bl (any_of ⟨i, List.mem_range.mpr (by omega), ?_⟩)
          rw [List.getD_eq_getElem?_getD, List.getElem?_eq_getElem hi, ei]
          exact decide_eq_true m2
        have sm2 := sm.trans s2
        have h1'' := (tk_same sm2).t h1
        refine ⟨_, rfl, a, rfl, ⟨_, h1''⟩, fun D2 hD2 => ?_⟩
        refine lcS (walk_tup (K := K) (a := a) (xs := xs)) (fun i y _ => y = .bl (decide (1 < (B.getD i (Str.empty, 0)).2))) (fun _ => true) (by omega) hD2 (fun _ e => (tk_same e).t h1'') (fun _ _ _ _ _ h => h) ?_ ?_
        · rintro i y H' H'' R R0 hi s1 ⟨rfl, hy⟩ k1 k2
          obtain ⟨sg, e3, b, rfl, e4⟩ := h3 i _ hy
          refine ⟨b, _, rfl, (tk_same (sm2.trans s1)).t e4, rfl, _, _, rfl, _, _, rfl, rfl, rfl, _, rfl, _, _, rfl, rfl, k1 _ _ rfl (Same.refl _) ?_⟩
          show V.bl (decide (1 < (sg.2 : Int))) = _
          rw [List.getD_eq_getElem?_getD, e3]
          exact congrArg V.bl (decide_eq_decide.mpr (show (1 < (sg.2 : Int)) ↔ 1 < sg.2 by omega))
        · intro H3 ys s3 e r
          rw [range_all] at r
          obtain rfl := r.eq (f := fun i => V.bl (decide (1 < (B.getD i (Str.empty, 0)).2)))
          refine ⟨D2, (List.range xs.length).map fun i => decide (1 < (B.getD i (Str.empty, 0)).2), rfl, SqL.of (by rw [e, List.map_map]; rfl), true, ?_, iteT (q H3 (sm2.trans s3))⟩
          obtain ⟨sg, m1, m2⟩ := good.wide
          obtain ⟨i, hi, ei⟩ := List.getElem_of_mem m1
          refine congrArg V.bl (any_of ⟨i, List.mem_range.mpr (by omega), ?_⟩)
          rw [List.getD_eq_getElem?_getD, List.getElem?_eq_getElem hi, ei]
          exact decide_eq_true m2
end
end Rk

/-! want; terms, rules, lots are right -/
namespace Rk
open PySem PySem.Spec PyProof.Rows L2

mutual
/-- a term by a book -/
def okT (B : Bk) : Tm → Prop
  | .hole _ => True
  | .node f ps => (f, ps.length) ∈ B ∧ okTs B ps
def okTs (B : Bk) : List Tm → Prop
  | [] => True
  | p :: ps => okT B p ∧ okTs B ps
end
theorem okTs_mem {B : Bk} : ∀ {ps : List Tm}, okTs B ps → ∀ p ∈ ps, okT B p
  | [], _, p, h => by cases h
  | q :: ps, h, p, hp => by
    rw [okTs] at h
    rcases List.mem_cons.mp hp with e | hp
    · rw [e]; exact h.1
    · exact okTs_mem h.2 p hp
theorem okTs_of {B : Bk} : ∀ {ps : List Tm}, (∀ p ∈ ps, okT B p) → okTs B ps
  | [], _ => trivial
  | q :: ps, h => ⟨h q List.mem_cons_self, okTs_of fun p hp => h p (List.mem_cons_of_mem _ hp)⟩
mutual
theorem noLst_tm : ∀ t : Tm, noLst t.toD = true
  | .hole _ => rfl
  | .node f ps => by
    rw [Tm.toD, noLst, noLsts, noLsts_tm ps]
    rfl
theorem noLsts_tm : ∀ ps : List Tm, noLsts (toDs ps) = true
  | [] => rfl
  | p :: ps => by rw [toDs, noLsts, noLst_tm p, noLsts_tm ps]; rfl
end
/-- a term as it stands -/
def TmAt (K : PySem.W.Frag) (H : Hp) (v : V) (t : Tm) : Prop := Dp K H v t.toD
theorem TmAt.mono {K : PySem.W.Frag} {H H' : Hp} {v : V} {t : Tm} (h : TmAt K H v t) (e : Tk H H') : TmAt K H' v t := Dp.mono e (noLst_tm t) h
theorem TmAt.hole {K : PySem.W.Frag} {H : Hp} {v : V} {n : Nat} (h : TmAt K H v (.hole n)) : v = .int (n : Int) := dp_int h
theorem TmAt.node {K : PySem.W.Frag} {H : Hp} {v : V} {f : Str} {ps : List Tm} (h : TmAt K H v (.node f ps)) : ∃ a xs, v = .ref a ∧ SqT K H a (.str f :: xs) ∧ xs.length = ps.length ∧ ∀ (i : Nat) x, xs[i]? = some x → ∃ p, ps[i]? = some p ∧ TmAt K H x p := by
  unfold TmAt at h
  rw [toD_node] at h
  obtain ⟨a, xs, e, h1, h2⟩ := dp_tup h
  cases h2 with
  | @cons x _ _ ds h3 h4 =>
    obtain rfl := dp_str h3
    rename_i ys
    refine ⟨a, ys, e, h1, by rw [DpAll.len h4, List.length_map], fun i x hx => ?_⟩
    obtain ⟨d, hd, hp⟩ := DpAll.get h4 hx
    rw [List.getElem?_map] at hd
    cases e2 : ps[i]? with
    | none => rw [e2] at hd; cases hd
    | some p =>
      rw [e2] at hd
      refine ⟨p, rfl, ?_⟩
      have : p.toD = d := Option.some.inj hd
      unfold TmAt
      rw [this]
      exact hp
theorem TmAt.mkNode {K : PySem.W.Frag} {H : Hp} {f : Str} {ps : List Tm} {a : Addr} {xs : List V} (h : SqT K H a (.str f :: xs)) (hl : xs.length = ps.length) (hp : ∀ (i : Nat) x p, xs[i]? = some x → ps[i]? = some p → TmAt K H x p) : TmAt K H (.ref a) (.node f ps) := by
  unfold TmAt
  rw [toD_node]
  refine .tup h (.cons (.str f) (DpAll.of (by rw [List.length_map, hl]) fun i v d hv hd => ?_))
  rw [List.getElem?_map] at hd
  cases e2 : ps[i]? with
  | none => rw [e2] at hd; cases hd
  | some p =>
    rw [e2] at hd
    have : p.toD = d := Option.some.inj hd
    rw [← this]
    exact hp i v p hv e2
theorem TmAt.sort {K : PySem.W.Frag} {H : Hp} {v : V} {t : Tm} (h : TmAt K H v t) : ∃ s, Sort3 K H v s := by
  cases t with
  | hole n => exact ⟨_, by rw [h.hole]; exact .int _⟩
  | node f ps =>
    obtain ⟨a, xs, rfl, h1, _⟩ := h.node
    exact ⟨_, .tup h1⟩
theorem TmAt.num {K : PySem.W.Frag} {H : Hp} {v : V} {t : Tm} (h : TmAt K H v t) : numV v = t.isHole := by
  cases t with
  | hole n =>
    rw [h.hole]
    exact decide_eq_true (show (0 : Int) ≤ (n : Int) by omega)
  | node f ps =>
    obtain ⟨a, xs, rfl, h1, _⟩ := h.node
    rfl
theorem cut1 (x : V) (xs : List V) : cutV (x :: xs) (some 1) none = xs := by
  unfold cutV
  have e1 : HT.sIx (x :: xs).length 0 (some 1) = 1 := by
    show (if (1 : Int) < 0 then ((1 : Int) + ((x :: xs).length : Int)).toNat else min (1 : Int).toNat (x :: xs).length) = 1
    rw [if_neg (by decide), List.length_cons]
    show min 1 (xs.length + 1) = 1
    omega
  rw [e1, HT.sIx_none, List.drop_one, List.tail_cons, List.length_cons, List.take_of_length_le (by omega)]
theorem cut1_not {x : V} {xs : List V} : ¬ (HT.sIx (x :: xs).length 0 (some 1) = 0 ∧ HT.sIx (x :: xs).length (x :: xs).length none = (x :: xs).length) := fun h => by
  have e1 : HT.sIx (x :: xs).length 0 (some 1) = 1 := by
    show (if (1 : Int) < 0 then ((1 : Int) + ((x :: xs).length : Int)).toNat else min (1 : Int).toNat (x :: xs).length) = 1
    rw [if_neg (by decide), List.length_cons]
    show min 1 (xs.length + 1) = 1
    omega
  rw [e1] at h
  exact absurd h.1 (by decide)

/-- a rule, a lot -/
abbrev Rl := Tm × Tm
def RlAt (K : PySem.W.Frag) (H : Hp) (v : V) (r : Rl) : Prop := ∃ b x y, v = .ref b ∧ SqT K H b [x, y] ∧ TmAt K H x r.1 ∧ TmAt K H y r.2
theorem RlAt.mono {K : PySem.W.Frag} {H H' : Hp} {v : V} {r : Rl} (h : RlAt K H v r) (e : Tk H H') : RlAt K H' v r := by
  obtain ⟨b, x, y, h1, h2, h3, h4⟩ := h
  exact ⟨b, x, y, h1, e.t h2, h3.mono e, h4.mono e⟩
def LotAt (K : PySem.W.Frag) (H : Hp) (v : V) (L : List Rl) : Prop := ∃ a xs, v = .ref a ∧ SqT K H a xs ∧ xs.length = L.length ∧ ∀ (i : Nat) x, xs[i]? = some x → ∃ r, L[i]? = some r ∧ RlAt K H x r
theorem LotAt.mono {K : PySem.W.Frag} {H H' : Hp} {v : V} {L : List Rl} (h : LotAt K H v L) (e : Tk H H') : LotAt K H' v L := by
  obtain ⟨a, xs, h1, h2, h3, h4⟩ := h
  refine ⟨a, xs, h1, e.t h2, h3, fun i x hx => ?_⟩
  obtain ⟨s, q1, q2⟩ := h4 i x hx
  exact ⟨s, q1, q2.mono e⟩
/-- a lot by a book: small terms -/
structure GoodLot (B : Bk) (L : List Rl) : Prop where
  ok : ∀ r ∈ L, okT B r.1 ∧ okT B r.2
  sz : ∀ r ∈ L, r.1.sz ≤ 7 ∧ r.2.sz ≤ 7
  few : L.length ≤ 8

section
variable {P : Program} {w : World} {K : PySem.W.Frag} {mg : Str → Option Value} {base : Heap}
theorem Def.up {j k : Nat} {x : Str} {ps : List Str} {sp : Sp} (C : Def P w K mg base j x ps sp) (h : j ≤ k) : ∃ C' : Def P w K mg base k x ps sp, True := ⟨⟨C.f, C.fd, C.G.mono h, C.g, C.kp, C.b⟩, trivial⟩
def Def.le {j k : Nat} {x : Str} {ps : List Str} {sp : Sp} (C : Def P w K mg base j x ps sp) (h : j ≤ k) : Def P w K mg base k x ps sp := ⟨C.f, C.fd, C.G.mono h, C.g, C.kp, C.b⟩
/-- the same with defaults -/
structure DefD (P : Program) (w : World) (K : PySem.W.Frag) (mg : Str → Option Value) (base : Heap) (k : Nat) (x : Str) (ps : List Str) (dvs : List V) (sp : Sp) where
  f : Addr
  fd : FuncData
  ds : List Value
  G : FnOk P w K mg base CX0 k f fd ps sp
  g : mg x = some (.ref f)
  kp : PySem.W.keepIn K (.ref f) = true
  b : Binds K fd ps ds
  vs : Vals dvs ds
def DefD.le {j k : Nat} {x : Str} {ps : List Str} {dvs : List V} {sp : Sp} (C : DefD P w K mg base j x ps dvs sp) (h : j ≤ k) : DefD P w K mg base k x ps dvs sp := ⟨C.f, C.fd, C.ds, C.G.mono h, C.g, C.kp, C.b, C.vs⟩

/-! ### is_book, want, want_book -/
def spBk (K : PySem.W.Frag) : Sp := fun vs H Q _ => ∃ x B, vs = [x] ∧ BookAt K H x B ∧ GoodBook B ∧ ∀ H', Same H H' → Q (.bl true) H'
theorem ok_bk {f : Addr} {fd : FuncData} {k : Nat} (F : Fun K "is_book" "is_book" sBk f fd) (C : Def P w K mg base k "book_fault" pBkF (spBkF K)) : FnOk P w K mg base CX0 (k + 1) f fd pBk (spBk K) := by
  refine F.ok scBk (fun vs H Q E h => ?_) (fun cdv A outer s H vs Q E hr h => ?_)
  · obtain ⟨x, s, rfl, _⟩ := h
    rfl
  · obtain ⟨x, B, rfl, hB, good, q⟩ := h
    exact ⟨_, pss_one (ps_ret (pe_cmp (pc_isN (pe_call C.G hr (by rfl) C.g C.kp C.b .nil pass0 (pa_cons (pv 0) pa_nil))) (by rfl))), _, rfl, x, B, rfl, hB, good, fun H' s' => q H' s'⟩
def spWant : Sp := fun vs H Q _ => ∃ x y, vs = [.bl true, x, y] ∧ Q .non H
theorem ok_want {f : Addr} {fd : FuncData} {k : Nat} {dvs : List V} {kws : List (Str × V)} (F : FunD K "want" "want" (defArgs sWant) (defBody sWant) (defScope sWant) dvs kws f fd) : FnOk P w K mg base CX0 (k + 1) f fd pWant spWant := by
  refine F.ok scWant (fun vs H Q E h => ?_) (fun cdv A outer s H vs Q E hr h => ?_)
  · obtain ⟨x, y, rfl, _⟩ := h
    rfl
  · obtain ⟨x, y, rfl, q⟩ := h
    exact ⟨_, PSs.nox (pss_one (ps_if (pt_not (pt_val (pv 0) (by intro _; rfl))) pss_never pss_nil)), _, rfl, true, rfl, iteF q⟩
def spWBk (K : PySem.W.Frag) : Sp := fun vs H Q _ => ∃ x B, vs = [x] ∧ BookAt K H x B ∧ GoodBook B ∧ ∀ H', Same H H' → Q .non H'
theorem ok_wbk {f : Addr} {fd : FuncData} {k : Nat} (F : Fun K "want_book" "want_book" sWBk f fd) (C1 : DefD P w K mg base k "want" pWant [.int (-1)] spWant) (C2 : Def P w K mg base k "is_book" pBk (spBk K)) : FnOk P w K mg base CX0 (k + 1) f fd pWBk (spWBk K) := by
  refine F.ok scWBk (fun vs H Q E h => ?_) (fun cdv A outer s H vs Q E hr h => ?_)
  · obtain ⟨x, s, rfl, _⟩ := h
    rfl
  · obtain ⟨x, B, rfl, hB, good, q⟩ := h
    exact ⟨_, pss_one (ps_expr (pe_call C1.G hr (by rfl) C1.g C1.kp C1.b C1.vs pass0 (pa_cons (pe_call C2.G hr (by rfl) C2.g C2.kp C2.b .nil pass0 (pa_cons (pv 0) pa_nil)) (pa_cons pe_str pa_nil)))), _, rfl, x, B, rfl, hB, good, fun H' s' => ⟨_, _, rfl, q H' s'⟩⟩

/-! ### is_headed, term_fault, .. -/
def spHd (K : PySem.W.Frag) : Sp := fun vs H Q _ => ∃ d x B f ps, vs = [.ref d, x] ∧ H d = some (.dK (plK B)) ∧ (B.map (·.1)).Nodup ∧ TmAt K H x (.node f ps) ∧ (f, ps.length) ∈ B ∧ ps.length ≤ 3 ∧ ∀ H', Same H H' → Q (.bl true) H'
theorem ok_hd {f : Addr} {fd : FuncData} {k : Nat} (F : Fun K "is_headed" "is_headed" sHd f fd) (T : Txt mg) : FnOk P w K mg base CX0 (k + 1) f fd pHd (spHd K) := by
  refine F.ok scHd (fun vs H Q E h => ?_) (fun cdv A outer s H vs Q E hr h => ?_)
  · obtain ⟨d, x, B, f, ps, rfl, _⟩ := h
    rfl
  · obtain ⟨d, x, B, g, ps, rfl, hd, nd, ht, hm, h3, q⟩ := h
    obtain ⟨a, xs, rfl, h1, h2, _⟩ := ht.node
    have hu := hu_of hr
    refine ⟨_, pss_cons (ps_if (PW.pt (pw_or (pt_not (pt_val (pe_callB call_isi (by rfl) T.isinstance (by decide +kernel) (pa_cons (pv 1) (pa_cons (pe_bltn (v := .ty "tuple") (by rfl) T.tuple (by decide +kernel) rfl) pa_nil))) (by intro _; rfl)))
        (pw_or (pt_cmp (pc_eqI (pe_callB call_len_seq (by rfl) T.len (by decide +kernel) (pa_cons (pv 1) pa_nil)) pe_int) (by rfl))
        (pw_or1 (pt_not (pt_val (pe_callB call_isi (by rfl) T.isinstance (by decide +kernel) (pa_cons (pe_ix ix_tup (pv 1) pe_int (fun _ _ => rfl)) (pa_cons (pe_bltn (v := .ty "str") (by rfl) T.str (by decide +kernel) rfl) pa_nil))) (by intro _; rfl))))))) pss_never pss_nil)
      (pss_one (ps_ret (pe_and (pe_cmp (pc_din hu (pe_ix ix_tup (pv 1) pe_int (fun _ _ => rfl)) (pv 0)) (by rfl))
        (pe_one (pe_cmp (pc_eqI (pe_callB call_len_seq (by rfl) T.len (by decide +kernel) (pa_cons (pv 1) pa_nil)) (pe_op op_add (pe_dget hu (pv 0) (pe_ix ix_tup (pv 1) pe_int (fun _ _ => rfl)) (fun _ _ => rfl)) pe_int)) (by rfl)))))), ?_⟩
    have hl : (V.str g :: xs).length = ps.length + 1 := by rw [List.length_cons, h2]
    refine ⟨_, rfl, _, _, _, _, _, rfl, .ty "tuple", tyx_tup h1, kit_ty kit_tt, true, rfl, iteF ⟨_, rfl, a, _, rfl, .inr h1, _, _, rfl, rfl, false, ?_, iteF ⟨_, rfl, a, _, 0, _, rfl, rfl, h1, atI_nat (j := 0) rfl, _, _, _, _, _, rfl, .ty "str", Sort3.ty (K := K) (H := H) (.str g), kit_ty kit_ss, true, rfl, iteF ?_⟩⟩⟩
    · refine congrArg V.bl (decide_eq_false ?_)
      rw [hl]
      omega
    · have hv : valV (plK B) (Sum.inr g) = some (.int (ps.length : Int)) := plK_some nd hm
      refine ⟨_, rfl, a, _, 0, _, rfl, rfl, h1, atI_nat (j := 0) rfl, _, rfl, d, _, rfl, DGet.k (k := Sum.inr g) hd, true, ?_, iteT ?_⟩
      · rw [hv]
        rfl
      · refine ⟨_, rfl, a, _, rfl, .inr h1, _, rfl, _, rfl, a, _, 0, _, rfl, rfl, h1, atI_nat (j := 0) rfl, d, _, rfl, hv ▸ DGet.k (k := Sum.inr g) hd, _, _, rfl, rfl, _, _, rfl, rfl, ?_⟩
        rw [hl, show (((ps.length + 1 : Nat) : Int)) = (ps.length : Int) + 1 by omega]
        show Q (V.bl (decide ((ps.length : Int) + 1 = (ps.length : Int) + 1))) H
        rw [decide_eq_true rfl]
        exact q H (Same.refl H)
def spTmF (K : PySem.W.Frag) (m : Nat) : Sp := fun vs H Q _ => ∃ d x B t, vs = [.ref d, x] ∧ H d = some (.dK (plK B)) ∧ (B.map (·.1)).Nodup ∧ (∀ s ∈ B, s.2 ≤ 3) ∧ TmAt K H x t ∧ okT B t ∧ t.sz ≤ m ∧ ∀ H', Same H H' → Q .non H'
theorem ok_tmF {f : Addr} {fd : FuncData} {k : Nat} (F : Fun K "term_fault" "term_fault" sTmF f fd) (g : mg "term_fault" = some (.ref f)) (b : Binds K fd pTmF []) (T : Txt mg) (C1 : Def P w K mg base k "is_hole" pHole (spHole K)) (C2 : Def P w K mg base k "is_headed" pHd (spHd K)) :
    ∀ m, FnOk P w K mg base CX0 (k + 1 + m) f fd pTmF (spTmF K m)
  | 0 => F.ok scTmF (fun vs H Q E h => by
      obtain ⟨d, x, B, t, rfl, _⟩ := h
      rfl) (fun cdv A outer s H vs Q E hr h => by
      obtain ⟨d, x, B, t, rfl, _, _, _, _, _, hz, _⟩ := h
      have := t.sz_pos
      omega)
  | m + 1 => by
    have ih := ok_tmF F g b T C1 C2 m
    refine F.ok scTmF (fun vs H Q E h => ?_) (fun cdv A outer s H vs Q E hr h => ?_)
    · obtain ⟨d, x, B, t, rfl, _⟩ := h
      rfl
    · obtain ⟨d, x, B, t, rfl, hd, nd, h3, ht, hok, hz, q⟩ := h
      have hr1 := hr.mono (show k ≤ k + 1 + m by omega)
      refine ⟨_, pss_cons (ps_if (pt_val (pe_call C1.G hr1 (by rfl) C1.g C1.kp C1.b .nil pass0 (pa_cons (pv 1) pa_nil)) (by intro _; rfl)) (pss_one (ps_ret pe_non)) pss_nil)
        (pss_cons (ps_if (pt_not (pt_val (pe_call C2.G hr1 (by rfl) C2.g C2.kp C2.b .nil pass0 (pa_cons (pv 0) (pa_cons (pv 1) pa_nil))) (by intro _; rfl))) pss_never pss_nil)
        (pss_cons (ps_for PassesOwn.never rfl (pi_enumT (by rfl) T.enumerate (pa_cons (pe_slice sl_tupA (pv 1) (po_some pe_int) po_none) pa_nil)) (pg_tup rfl (pgs_cons (pg_name (i := 2) scTmF.nd rfl (.inl rfl)) (pgs_cons (pg_name (i := 3) scTmF.nd rfl (.inl rfl)) pgs_nil)))
          (pss_cons (ps_set (i := 4) scTmF.nd rfl (Or.inl rfl) (pe_call ih hr (by rfl) g F.kp b .nil pass0 (pa_cons (pv 0) (pa_cons (pv 3) pa_nil))))
          (pss_one (ps_if (pt_cmp (pc_notN (pv 4)) (by rfl)) pss_never pss_nil))))
        (pss_one (ps_ret pe_non)))), ?_⟩
      obtain ⟨so, hso⟩ := ht.sort
      refine ⟨_, rfl, _, _, rfl, hso, ?_⟩
      refine ⟨_, rfl, ?_⟩
      rw [ht.num]
      cases t with
      | hole n => exact iteT (q H (Same.refl H))
      | node u ps =>
        refine iteF ?_
        rw [okT] at hok
        refine ⟨_, rfl, _, rfl, d, x, B, u, ps, rfl, hd, nd, ht, hok.1, h3 _ hok.1, fun H1 s1 => ⟨true, rfl, iteF ?_⟩⟩
        obtain ⟨a, xs, rfl, h1, h2, h5⟩ := (ht.mono (tk_same s1)).node
        refine ⟨_, rfl, _, rfl, a, _, rfl, h1, fun hc => absurd hc cut1_not, fun _ p hp => ?_⟩
        rw [cut1]
        have s2 : Same H (upd H1 p (.tup xs)) := s1.trans (same_new hp)
        refine ⟨p, xs, rfl, SqT.of upd_same, for_it walk_enumT (fun i σ H' => Same (upd H1 p (.tup xs)) H' ∧ ∃ y1 y2 y3, σ = [some (.ref d), some (.ref a), y1, y2, y3]) ⟨Same.refl _, none, none, none, rfl⟩ (fun i σ H' _ h => (tk_same h.1).t (SqT.of upd_same)) ?_ ?_⟩
        · rintro i y σ H2 H3 hi ⟨sm, y1, y2, y3, rfl⟩ ⟨T', x1, x2, rfl, nT, rfl, e1, e2⟩
          obtain rfl : V.int (i : Nat) = x1 := Option.some.inj e1
          obtain ⟨pt, e3, e4⟩ := h5 i _ e2
          have sm2 : Same H2 (upd H2 T' (.tup [.int (i : Nat), x2])) := same_new nT
          have smA := (same_new hp).trans (sm.trans sm2)
          have hmem := List.mem_of_getElem? e3
          have hz2 := sz_mem hmem
          rw [Tm.sz] at hz
          refine ⟨T', _, rfl, SqT.of upd_same, rfl, _, _, rfl, _, _, rfl, rfl, ?_⟩
          refine ⟨_, rfl, _, rfl, d, x2, B, pt, rfl, (s1.trans smA) _ _ hd, nd, h3, e4.mono (tk_same smA), okTs_mem hok.2 _ hmem, by omega, fun H4 s4 => ⟨_, rfl, false, rfl, iteF ⟨sm.trans (sm2.trans s4), _, _, _, rfl⟩⟩⟩
        · rintro σ H2 ⟨sm, y1, y2, y3, rfl⟩
          exact q H2 (s2.trans sm)
def spTmB (K : PySem.W.Frag) : Sp := fun vs H Q _ => ∃ d x B t, vs = [.ref d, x] ∧ H d = some (.dK (plK B)) ∧ (B.map (·.1)).Nodup ∧ (∀ s ∈ B, s.2 ≤ 3) ∧ TmAt K H x t ∧ okT B t ∧ t.sz ≤ 7 ∧ ∀ H', Same H H' → Q (.bl true) H'
theorem ok_tmB {f : Addr} {fd : FuncData} {k : Nat} (F : Fun K "is_term_by" "is_term_by" sTmB f fd) (C : Def P w K mg base k "term_fault" pTmF (spTmF K 7)) : FnOk P w K mg base CX0 (k + 1) f fd pTmB (spTmB K) := by
  refine F.ok scTmB (fun vs H Q E h => ?_) (fun cdv A outer s H vs Q E hr h => ?_)
  · obtain ⟨d, x, B, t, rfl, _⟩ := h
    rfl
  · obtain ⟨d, x, B, t, rfl, hd, nd, h3, ht, hok, hz, q⟩ := h
    exact ⟨_, pss_one (ps_ret (pe_cmp (pc_isN (pe_call C.G hr (by rfl) C.g C.kp C.b .nil pass0 (pa_cons (pv 0) (pa_cons (pv 1) pa_nil)))) (by rfl))), _, rfl, _, rfl, d, x, B, t, rfl, hd, nd, h3, ht, hok, hz, fun H' s' => q H' s'⟩
def spRlB (K : PySem.W.Frag) : Sp := fun vs H Q _ => ∃ d x B r, vs = [.ref d, x] ∧ H d = some (.dK (plK B)) ∧ (B.map (·.1)).Nodup ∧ (∀ s ∈ B, s.2 ≤ 3) ∧ RlAt K H x r ∧ (okT B r.1 ∧ okT B r.2) ∧ (r.1.sz ≤ 7 ∧ r.2.sz ≤ 7) ∧ ∀ H', Same H H' → Q (.bl true) H'
theorem ok_rlB {f : Addr} {fd : FuncData} {k : Nat} (F : Fun K "is_rule_by" "is_rule_by" sRlB f fd) (C1 : Def P w K mg base k "is_pair" pPair (spPair K)) (C2 : Def P w K mg base k "is_term_by" pTmB (spTmB K)) : FnOk P w K mg base CX0 (k + 1) f fd pRlB (spRlB K) := by
  refine F.ok scRlB (fun vs H Q E h => ?_) (fun cdv A outer s H vs Q E hr h => ?_)
  · obtain ⟨d, x, B, t, rfl, _⟩ := h
    rfl
  · obtain ⟨d, x, B, r, rfl, hd, nd, h3, ⟨b, x, y, rfl, hb, t1, t2⟩, ho, hz, q⟩ := h
    exact ⟨_, pss_one (ps_ret (pe_and (pe_call C1.G hr (by rfl) C1.g C1.kp C1.b .nil pass0 (pa_cons (pv 1) pa_nil))
      (pe_and (pe_call C2.G hr (by rfl) C2.g C2.kp C2.b .nil pass0 (pa_cons (pv 0) (pa_cons (pe_ix ix_tup (pv 1) pe_int (fun _ _ => rfl)) pa_nil)))
      (pe_one (pe_call C2.G hr (by rfl) C2.g C2.kp C2.b .nil pass0 (pa_cons (pv 0) (pa_cons (pe_ix ix_tup (pv 1) pe_int (fun _ _ => rfl)) pa_nil))))))),
      _, rfl, b, _, rfl, hb, true, rfl, iteT ⟨_, rfl, _, rfl, b, _, 0, _, rfl, rfl, hb, atI_nat (j := 0) rfl, d, x, B, r.1, rfl, hd, nd, h3, t1, ho.1, hz.1, fun H1 s1 => ⟨true, rfl, iteT
        ⟨_, rfl, _, rfl, b, _, 1, _, rfl, rfl, (tk_same s1).t hb, atI_nat (j := 1) rfl, d, y, B, r.2, rfl, s1 _ _ hd, nd, h3, t2.mono (tk_same s1), ho.2, hz.2, fun H2 s2 => q H2 (s1.trans s2)⟩⟩⟩⟩
def spLot (K : PySem.W.Frag) : Sp := fun vs H Q _ => ∃ x y B L, vs = [x, y] ∧ BookAt K H x B ∧ GoodBook B ∧ LotAt K H y L ∧ GoodLot B L ∧ ∀ H', Same H H' → Q (.bl true) H'
theorem asc_nd {B : Bk} (h : GoodBook B) : (B.map (·.1)).Nodup := asc_nodup h.asc
theorem ok_lot {f : Addr} {fd : FuncData} {k : Nat} (F : Fun K "is_lot" "is_lot" sLot f fd) (T : Txt mg) (C1 : Def P w K mg base k "want_book" pWBk (spWBk K)) (C2 : Def P w K mg base k "places_by" pPlc (spPlc K)) (C3 : Def P w K mg base k "is_rule_by" pRlB (spRlB K)) : FnOk P w K mg base CX0 (k + 1) f fd pLot (spLot K) := by
  refine F.ok scLot (fun vs H Q E h => ?_) (fun cdv A outer s H vs Q E hr h => ?_)
  · obtain ⟨x, y, B, L, rfl, _⟩ := h
    rfl
  · obtain ⟨x, y, B, L, rfl, hB, gb, hL, gl, q⟩ := h
    obtain ⟨a, xs, rfl, h1, h2, h5⟩ := id hL
    refine ⟨_, pss_cons (ps_expr (pe_call C1.G hr (by rfl) C1.g C1.kp C1.b .nil pass0 (pa_cons (pv 0) pa_nil)))
      (pss_cons (ps_set (i := 2) scLot.nd rfl (Or.inr rfl) (pe_call C2.G hr (by rfl) C2.g C2.kp C2.b .nil pass0 (pa_cons (pv 0) pa_nil)))
      (pss_one (ps_ret (pe_and (pe_callB call_isi (by rfl) T.isinstance (by decide +kernel) (pa_cons (pv 1) (pa_cons (pe_bltn (v := .ty "tuple") (by rfl) T.tuple (by decide +kernel) rfl) pa_nil)))
        (pe_one (pe_callB (cr_all rfl) (by rfl) T.all (by decide +kernel) (pa_cons
          (pe_lc (own := [("rule", 3)]) (g := gName 3) (tt := tYes) rfl scLot.nd (pi_tup (pv 1)) (blkOk_by (N := nLot) (sc := defScope sLot) (by decide +kernel))
            (fun _ _ _ _ _ => pg_name (i := 3) scLot.nd rfl (Or.inl rfl)) (fun _ _ _ _ _ => pts_nil)
            (fun _ _ _ _ _ => pe_call C3.G hr (by rfl) C3.g C3.kp C3.b .nil pass0 (pa_cons (pv 2) (pa_cons (pv 3) pa_nil)))) pa_nil))))))), ?_⟩
    refine ⟨_, rfl, x, B, rfl, hB, gb, fun H1 s1 => ⟨_, rfl, x, B, rfl, hB.mono (tk_same s1), asc_nd gb, gb.few, fun p H2 hp s2 hd => ?_⟩⟩
    have s12 := s1.trans s2
    have h1' := (tk_same s12).t h1
    refine ⟨_, rfl, _, _, _, _, _, rfl, .ty "tuple", tyx_tup h1', kit_ty kit_tt, true, rfl, iteT ⟨_, rfl, a, rfl, ⟨_, h1'⟩, fun D hD => ?_⟩⟩
    have few := gl.few
    refine lcS (walk_tup (K := K) (a := a) (xs := xs)) (fun _ y _ => y = .bl true) (fun _ => true) (by omega) hD (fun _ e => (tk_same e).t h1') (fun _ _ _ _ _ h => h) ?_ ?_
    · rintro i z H' H'' R R0 hi s3 ⟨rfl, hz⟩ k1 k2
      obtain ⟨r, e3, e4⟩ := h5 i _ hz
      have hm := List.mem_of_getElem? e3
      have s13 := s12.trans s3
      exact ⟨rfl, _, rfl, _, rfl, p, z, B, r, rfl, s3 _ _ hd, asc_nd gb, fun s hs => (gb.signs s hs).2, e4.mono (tk_same s13), gl.ok r hm, gl.sz r hm, fun H3 s4 => k1 _ _ rfl s4 rfl⟩
    · intro H3 ys s3 e r
      rw [range_all] at r
      obtain rfl := r.eq (f := fun _ => V.bl true)
      refine ⟨D, List.replicate xs.length true, rfl, SqL.of ?_, ?_⟩
      · rw [e, List.map_replicate]
        congr 2
        exact List.eq_replicate_iff.mpr ⟨by simp, fun b hb => by obtain ⟨_, _, e⟩ := List.mem_map.mp hb; exact e.symm⟩
      · rw [show (List.replicate xs.length true).all id = true by simp]
        exact q _ (s12.trans s3)
def spWLot (K : PySem.W.Frag) : Sp := fun vs H Q _ => ∃ x y B L, vs = [x, y] ∧ BookAt K H x B ∧ GoodBook B ∧ LotAt K H y L ∧ GoodLot B L ∧ ∀ H', Same H H' → Q .non H'
theorem ok_wlot {f : Addr} {fd : FuncData} {k : Nat} (F : Fun K "want_lot" "want_lot" sWLot f fd) (C1 : DefD P w K mg base k "want" pWant [.int (-1)] spWant) (C2 : Def P w K mg base k "is_lot" pLot (spLot K)) : FnOk P w K mg base CX0 (k + 1) f fd pWLot (spWLot K) := by
  refine F.ok scWLot (fun vs H Q E h => ?_) (fun cdv A outer s H vs Q E hr h => ?_)
  · obtain ⟨x, y, B, L, rfl, _⟩ := h
    rfl
  · obtain ⟨x, y, B, L, rfl, hB, gb, hL, gl, q⟩ := h
    exact ⟨_, pss_one (ps_expr (pe_call C1.G hr (by rfl) C1.g C1.kp C1.b C1.vs pass0 (pa_cons (pe_call C2.G hr (by rfl) C2.g C2.kp C2.b .nil pass0 (pa_cons (pv 0) (pa_cons (pv 1) pa_nil))) (pa_cons pe_str pa_nil)))), _, rfl, _, rfl, x, y, B, L, rfl, hB, gb, hL, gl, fun H' s' => ⟨_, _, rfl, q H' s'⟩⟩
end
end Rk

/-! nodes_of -/
namespace Rk
open PySem PySem.Spec PyProof.Rows L2

def NdAt (K : PySem.W.Frag) (H : Hp) (x : V) (e : Tm × List Nat) (l : Addr) : Prop := ∃ n tv, x = .ref n ∧ SqT K H n [tv, .ref l] ∧ TmAt K H tv e.1 ∧ H l = some (.lst (e.2.map fun k => V.int ((k : Nat) : Int)))
theorem NdAt.same {K : PySem.W.Frag} {H H' : Hp} {x : V} {e : Tm × List Nat} {l : Addr} (h : NdAt K H x e l) (s : Same H H') : NdAt K H' x e l := by
  obtain ⟨n, tv, h1, h2, h3, h4⟩ := h
  exact ⟨n, tv, h1, (tk_same s).t h2, h3.mono (tk_same s), s _ _ h4⟩
/-- a table of nodes as it stands -/
def NdsAt (K : PySem.W.Frag) (H : Hp) (v : V) (L : Nd) : Prop := ∃ F xs, v = .ref F ∧ H F = some (.lst xs) ∧ xs.length = L.length ∧ ∀ (i : Nat) x, xs[i]? = some x → ∃ e l, L[i]? = some e ∧ NdAt K H x e l
theorem NdsAt.same {K : PySem.W.Frag} {H H' : Hp} {v : V} {L : Nd} (h : NdsAt K H v L) (s : Same H H') : NdsAt K H' v L := by
  obtain ⟨F, xs, h1, h2, h3, h4⟩ := h
  refine ⟨F, xs, h1, s _ _ h2, h3, fun i x hx => ?_⟩
  obtain ⟨e, l, q1, q2⟩ := h4 i x hx
  exact ⟨e, l, q1, q2.same s⟩
def StAt (K : PySem.W.Frag) (H : Hp) (u : V) (p : Tm × Int) : Prop := ∃ b tv, u = .ref b ∧ SqT K H b [tv, .int p.2] ∧ TmAt K H tv p.1
theorem StAt.tk {K : PySem.W.Frag} {H H' : Hp} {x : V} {p : Tm × Int} (h : StAt K H x p) (s : Tk H H') : StAt K H' x p := by
  obtain ⟨n, tv, h1, h2, h3⟩ := h
  exact ⟨n, tv, h1, s.t h2, h3.mono s⟩
structure NI (K : PySem.W.Frag) (H0 : Hp) (F T : Addr) (L : Nd) (S : Stk) (xs : List V) (ls : List Addr) (us : List V) (H : Hp) : Prop where
  same : Same H0 H
  f0 : H0 F = none
  t0 : H0 T = none
  ne : F ≠ T
  fnd : H F = some (.lst xs)
  xl : xs.length = L.length
  ll : ls.length = L.length
  nod : ∀ (i : Nat) x l e, xs[i]? = some x → ls[i]? = some l → L[i]? = some e → NdAt K H x e l
  fre : ∀ l ∈ ls, H0 l = none ∧ l ≠ F ∧ l ≠ T
  nd : ls.Nodup
  stk : H T = some (.lst us.reverse)
  ul : us.length = S.length
  st : ∀ (i : Nat) u p, us[i]? = some u → S[i]? = some p → StAt K H u p
section
variable {K : PySem.W.Frag} {H0 H H' : Hp} {F T : Addr} {L : Nd} {S : Stk} {xs : List V} {ls : List Addr} {us : List V}
theorem NI.alloc (n : NI K H0 F T L S xs ls us H) (s : Same H H') : NI K H0 F T L S xs ls us H' :=
  ⟨n.same.trans s, n.f0, n.t0, n.ne, s _ _ n.fnd, n.xl, n.ll, fun i x l e h1 h2 h3 => (n.nod i x l e h1 h2 h3).same s, n.fre, n.nd, s _ _ n.stk, n.ul, fun i u p h1 h2 => (n.st i u p h1 h2).tk (tk_same s)⟩
/-- the stack is changed -/
theorem NI.setT (n : NI K H0 F T L S xs ls us H) (us' : List V) (S' : Stk) (hl : us'.length = S'.length) (hs : ∀ (i : Nat) u p, us'[i]? = some u → S'[i]? = some p → StAt K H u p) : NI K H0 F T L S' xs ls us' (upd H T (.lst us'.reverse)) := by
  have tk : Tk H (upd H T (.lst us'.reverse)) := tk_lst n.stk
  refine ⟨same_mut n.same n.t0, n.f0, n.t0, n.ne, by rw [upd_ne n.ne]; exact n.fnd, n.xl, n.ll, fun i x l e h1 h2 h3 => ?_, n.fre, n.nd, upd_same, hl, fun i u p h1 h2 => (hs i u p h1 h2).tk tk⟩
  obtain ⟨m, tv, q1, q2, q3, q4⟩ := n.nod i x l e h1 h2 h3
  exact ⟨m, tv, q1, tk.t q2, q3.mono tk, by rw [upd_ne (n.fre l (List.mem_of_getElem? h2)).2.2]; exact q4⟩
theorem NI.has (n : NI K H0 F T L S xs ls us H) {l : Addr} (h : l ∈ ls) : H l ≠ none := by
  obtain ⟨i, hi, e⟩ := List.getElem_of_mem h
  have hiL : i < L.length := by rw [← n.ll]; exact hi
  have hiX : i < xs.length := by rw [n.xl]; exact hiL
  have h1 : xs[i]? = some (xs[i]'hiX) := List.getElem?_eq_getElem hiX
  have h2 : L[i]? = some (L[i]'hiL) := List.getElem?_eq_getElem hiL
  obtain ⟨m, tv, _, _, _, q⟩ := n.nod i _ l _ h1 (by rw [← e]; exact List.getElem?_eq_getElem hi) h2
  rw [q]
  exact fun z => nomatch z
/-- a node is put behind -/
theorem NI.push (n : NI K H0 F T L S xs ls us H) {l p : Addr} {tv : V} {t : Tm} (hl : H l = none) (hp : upd H l (.lst []) p = none) (ht : TmAt K H tv t) :
    NI K H0 F T (L ++ [(t, [])]) S (xs ++ [.ref p]) (ls ++ [l]) us (upd (upd (upd H l (.lst [])) p (.tup [tv, .ref l])) F (.lst (xs ++ [.ref p]))) := by
  have s1 : Same H (upd H l (.lst [])) := same_new hl
  have s2 : Same (upd H l (.lst [])) (upd (upd H l (.lst [])) p (.tup [tv, .ref l])) := same_new hp
  have n2 := n.alloc (s1.trans s2)
  have lF : l ≠ F := (ne_of_none n.fnd hl).symm
  have lT : l ≠ T := (ne_of_none n.stk hl).symm
  have tk : Tk (upd (upd H l (.lst [])) p (.tup [tv, .ref l])) (upd (upd (upd H l (.lst [])) p (.tup [tv, .ref l])) F (.lst (xs ++ [.ref p]))) := tk_lst n2.fnd
  have lls : l ∉ ls := fun h => n.has h hl
  have l2 : upd (upd H l (.lst [])) p (.tup [tv, .ref l]) l = some (.lst []) := s2 _ _ upd_same
  refine ⟨same_mut n2.same n.f0, n.f0, n.t0, n.ne, upd_same, by rw [List.length_append, List.length_append, n.xl]; rfl, by rw [List.length_append, List.length_append, n.ll]; rfl, fun i x l' e h1 h2 h3 => ?_, fun l' h => ?_, ?_, by rw [upd_ne n.ne.symm]; exact n2.stk, n.ul, fun i u q h1 h2 => (n2.st i u q h1 h2).tk tk⟩
  · by_cases hi : i < L.length
    · rw [List.getElem?_append_left (by rw [n.xl]; exact hi)] at h1
      rw [List.getElem?_append_left (by rw [n.ll]; exact hi)] at h2
      rw [List.getElem?_append_left hi] at h3
      obtain ⟨m, tv', q1, q2, q3, q4⟩ := n2.nod i x l' e h1 h2 h3
      exact ⟨m, tv', q1, tk.t q2, q3.mono tk, by rw [upd_ne (n.fre l' (List.mem_of_getElem? h2)).2.1]; exact q4⟩
    · have hi' : i = L.length := by
        have := (List.getElem?_eq_some_iff.mp h3).1
        rw [List.length_append] at this
        have e1 : [(t, ([] : List Nat))].length = 1 := rfl
        omega
      subst hi'
      rw [List.getElem?_append_right (by rw [n.xl]; exact Nat.le_refl _), n.xl, Nat.sub_self] at h1
      rw [List.getElem?_append_right (by rw [n.ll]; exact Nat.le_refl _), n.ll, Nat.sub_self] at h2
      rw [List.getElem?_append_right (Nat.le_refl _), Nat.sub_self] at h3
      obtain rfl : V.ref p = x := Option.some.inj h1
      obtain rfl : l = l' := Option.some.inj h2
      obtain rfl : (t, ([] : List Nat)) = e := Option.some.inj h3
      exact ⟨p, tv, rfl, tk.t (SqT.of upd_same), ((ht.mono (tk_same (s1.trans s2))).mono tk), by rw [upd_ne lF]; exact l2⟩
  · rcases List.mem_append.mp h with h | h
    · exact n.fre l' h
    · rw [List.mem_singleton.mp h]
      refine ⟨?_, lF, lT⟩
      cases q : H0 l with
      | none => rfl
      | some o => rw [n.same _ _ q] at hl; cases hl
  · rw [List.nodup_append]
    refine ⟨n.nd, List.nodup_cons.mpr ⟨List.not_mem_nil, List.nodup_nil⟩, fun a ha b hb => ?_⟩
    rw [List.mem_singleton.mp hb]
    rintro rfl
    exact lls ha
/-- a kid is put behind -/
theorem NI.kid (n : NI K H0 F T L S xs ls us H) {a k : Nat} {l : Addr} {t : Tm} {ks : List Nat} (hl : ls[a]? = some l) (hL : L[a]? = some (t, ks)) :
    NI K H0 F T (addKid L (a : Int) k) S xs ls us (upd H l (.lst ((ks ++ [k]).map fun k => V.int ((k : Nat) : Int)))) := by
  have hm := List.mem_of_getElem? hl
  obtain ⟨f1, f2, f3⟩ := n.fre l hm
  have ha : a < L.length := (List.getElem?_eq_some_iff.mp hL).1
  have h1 : xs[a]? = some (xs[a]'(by rw [n.xl]; exact ha)) := List.getElem?_eq_getElem _
  obtain ⟨m, tv, q1, q2, q3, q4⟩ := n.nod a _ l _ h1 hl hL
  have tk : Tk H (upd H l (.lst ((ks ++ [k]).map fun k => V.int ((k : Nat) : Int)))) := tk_lst q4
  refine ⟨same_mut n.same f1, n.f0, n.t0, n.ne, by rw [upd_ne f2.symm]; exact n.fnd, by rw [len_add]; exact n.xl, by rw [len_add]; exact n.ll, fun i x l' e h1 h2 h3 => ?_, n.fre, n.nd, by rw [upd_ne f3.symm]; exact n.stk, n.ul, fun i u p h1 h2 => (n.st i u p h1 h2).tk tk⟩
  obtain ⟨t', ks'⟩ := e
  rcases get_add h3 with ⟨e1, ks0, e2, e3⟩ | ⟨e1, e3⟩
  · have e1' : a = i := by omega
    subst e1'
    obtain rfl : l = l' := Option.some.inj (hl.symm.trans h2)
    have e4 : (t, ks) = (t', ks0) := Option.some.inj (hL.symm.trans e3)
    injection e4 with e5 e6
    subst e5 e6 e2
    obtain ⟨m, tv, q1, q2, q3, q4⟩ := n.nod a x l _ h1 h2 hL
    exact ⟨m, tv, q1, tk.t q2, q3.mono tk, upd_same⟩
  · obtain ⟨m, tv, q1, q2, q3, q4⟩ := n.nod i x l' _ h1 h2 e3
    refine ⟨m, tv, q1, tk.t q2, q3.mono tk, ?_⟩
    rw [upd_ne ?_]
    · exact q4
    · intro e
      subst e
      have hi := (List.getElem?_eq_some_iff.mp h2)
      have hj := (List.getElem?_eq_some_iff.mp hl)
      obtain ⟨hi1, hi2⟩ := hi
      obtain ⟨hj1, hj2⟩ := hj
      have hp := List.pairwise_iff_getElem.mp n.nd
      rcases Nat.lt_trichotomy a i with q | q | q
      · exact hp a i hj1 hi1 q (hj2.trans hi2.symm)
      · exact e1 (by omega)
      · exact hp i a hi1 hj1 q (hi2.trans hj2.symm)
theorem NI.nds (n : NI K H0 F T L S xs ls us H) : NdsAt K H (.ref F) L := by
  refine ⟨F, xs, rfl, n.fnd, n.xl, fun i x hx => ?_⟩
  have hi : i < L.length := by rw [← n.xl]; exact (List.getElem?_eq_some_iff.mp hx).1
  have h1 : L[i]? = some L[i] := List.getElem?_eq_getElem hi
  have h2 : ls[i]? = some (ls[i]'(by rw [n.ll]; exact hi)) := List.getElem?_eq_getElem _
  exact ⟨_, _, h1, n.nod i x _ _ hx h2 h1⟩
end
theorem getElem?_rev {α : Type} {l : List α} {i : Nat} {x : α} (h : l.reverse[i]? = some x) : i < l.length ∧ l[l.length - 1 - i]? = some x := by
  have hi := (List.getElem?_eq_some_iff.mp h).1
  rw [List.length_reverse] at hi
  rw [List.getElem?_reverse hi] at h
  exact ⟨hi, h⟩
section
variable {P : Program} {w : World} {K : PySem.W.Frag} {mg : Str → Option Value} {base : Heap}
theorem len1 (x : V) : [x].length ≤ sizeLine := show 1 ≤ sizeLine by decide
theorem len2 (x y : V) : [x, y].length ≤ sizeLine := show 2 ≤ sizeLine by decide
/-- what stands in a term -/
inductive Sub (root : Tm) : Tm → Prop
  | refl : Sub root root
  | part {f : Str} {ps : List Tm} {p : Tm} : Sub root (.node f ps) → p ∈ ps → Sub root p
theorem Sub.sz {root t : Tm} (h : Sub root t) : t.sz ≤ root.sz := by
  induction h with
  | refl => exact Nat.le_refl _
  | part _ hp ih =>
    have := sz_mem hp
    rw [Tm.sz] at ih
    omega
theorem Sub.parts {root t p : Tm} (h : Sub root t) (hp : p ∈ t.parts) : Sub root p := by
  cases t with
  | hole n => cases hp
  | node f ps => exact .part h hp
theorem Sub.ok {B : Bk} {root t : Tm} (h : Sub root t) (ho : okT B root) : okT B t := by
  induction h with
  | refl => exact ho
  | part _ hp ih =>
    rw [okT] at ih
    exact okTs_mem ih.2 _ hp
def SubNd (root : Tm) (L : Nd) (S : Stk) : Prop := (∀ (i : Nat) t ks, L[i]? = some (t, ks) → Sub root t) ∧ ∀ p ∈ S, Sub root p.1
theorem SubNd.step {root : Tm} {L : Nd} {t : Tm} {a : Int} {S : Stk} {n : Nat} {b : Int} (h : SubNd root L ((t, a) :: S)) : SubNd root (addKid (L ++ [(t, [])]) a n) ((t.parts.map fun p => (p, b)) ++ S) := by
  have ht : Sub root t := h.2 (t, a) List.mem_cons_self
  have app : ∀ (i : Nat) t' ks, (L ++ [(t, ([] : List Nat))])[i]? = some (t', ks) → Sub root t' := fun i t' ks e => by
    by_cases hi : i < L.length
    · rw [List.getElem?_append_left hi] at e
      exact h.1 i t' ks e
    · have hm := List.mem_of_getElem? e
      rcases List.mem_append.mp hm with hm | hm
      · obtain ⟨j, hj, e2⟩ := List.getElem_of_mem hm
        exact h.1 j t' ks (by rw [← e2]; exact List.getElem?_eq_getElem hj)
      · have := List.mem_singleton.mp hm
        injection this with e1 _
        rw [e1]
        exact ht
  refine ⟨fun i t' ks e => ?_, fun p hp => ?_⟩
  · rcases get_add e with ⟨_, ks0, _, e⟩ | ⟨_, e⟩
    · exact app i t' _ e
    · exact app i t' _ e
  · rcases List.mem_append.mp hp with hp | hp
    · obtain ⟨q, hq, e⟩ := List.mem_map.mp hp
      rw [← e]
      exact ht.parts hq
    · exact h.2 p (List.mem_cons_of_mem _ hp)
theorem subAt {root : Tm} {L : Nd} {S : Stk} (h : SubNd root L S) (k : Nat) (s : Tm) (e : tmAt L k = some s) : Sub root s := by
  unfold tmAt at e
  cases q : L[k]? with
  | none => rw [q] at e; cases e
  | some u =>
    rw [q] at e
    obtain ⟨t, ks⟩ := u
    obtain rfl : t = s := Option.some.inj e
    exact h.1 k t ks q
/-- what stands at the head of the loop -/
def NW (K : PySem.W.Frag) (H0 : Hp) (x : V) (root : Tm) (F T : Addr) (m : Nat) (σ : L2.St) (H : Hp) : Prop := ∃ L S xs ls us, Dfs root L S ∧ SubNd root L S ∧ m = szs (S.map (·.1)) ∧ NI K H0 F T L S xs ls us H ∧ ∃ y3 y4 y5 y6, σ = [some x, some (.ref F), some (.ref T), y3, y4, y5, y6]
theorem dfs_few {root : Tm} {L : Nd} {S : Stk} (d : Dfs root L S) : L.length + S.length ≤ root.sz := by
  have h1 := d.sz
  have h2 := len_le_szs (S.map (·.1))
  rw [List.length_map] at h2
  omega
theorem szs_parts (t : Tm) : szs t.parts + 1 = t.sz := by
  cases t with
  | hole n => rfl
  | node f ps => rw [Tm.sz, Tm.parts]; omega
def spNds (K : PySem.W.Frag) : Sp := fun vs H Q _ => ∃ x t, vs = [x] ∧ TmAt K H x t ∧ t.sz ≤ 7 ∧ ∀ v L H', Same H H' → NdsAt K H' v L → NdOk L → tmAt L 0 = some t → L.length = t.sz → (∀ k s, tmAt L k = some s → Sub t s) → Q v H'
theorem ok_nds {f : Addr} {fd : FuncData} {k : Nat} (F : Fun K "nodes_of" "nodes_of" sNds f fd) (T : Txt mg) (C : Def P w K mg base k "is_hole" pHole (spHole K)) : FnOk P w K mg base CX0 (k + 1) f fd pNds (spNds K) := by
  refine F.ok scNds (fun vs H Q E h => ?_) (fun cdv A outer s H vs Q E hr h => ?_)
  · obtain ⟨x, t, rfl, _⟩ := h
    rfl
  · obtain ⟨x, root, rfl, ht, hz, q⟩ := h
    refine ⟨_, pss_cons (ps_set (i := 1) scNds.nd rfl (Or.inl rfl) (pe_lst pa_nil))
      (pss_cons (ps_set (i := 2) scNds.nd rfl (Or.inl rfl) (pe_lst (pa_cons (pe_tup (pa_cons (pv 0) (pa_cons (pe_un un_neg pe_int) pa_nil))) pa_nil)))
      (pss_cons (ps_while PassesOwn.never (pt_cmp (pc_gt (pe_callB call_len_seq (by rfl) T.len (by decide +kernel) (pa_cons (pv 2) pa_nil)) pe_int) (by rfl))
        (pss_cons (ps_asg (pe_bm0 PySem.F.plainAttrs_list PySem.F.slot_list_pop PySem.F.type_list_pop mt_pop (pv 2)) (pg_tup rfl (pgs_cons (pg_name (i := 3) scNds.nd rfl (Or.inl rfl)) (pgs_cons (pg_name (i := 4) scNds.nd rfl (Or.inl rfl)) pgs_nil))))
        (pss_cons (ps_set (i := 5) scNds.nd rfl (Or.inr rfl) (pe_callB call_len_seq (by rfl) T.len (by decide +kernel) (pa_cons (pv 1) pa_nil)))
        (pss_cons (ps_expr (pe_bm PySem.F.plainAttrs_list PySem.F.slot_list_append PySem.F.type_list_append mt_append (pv 1) (pa_cons (pe_tup (pa_cons (pv 3) (pa_cons (pe_lst pa_nil) pa_nil))) pa_nil)))
        (Evl.pss_cut (ps_if (pt_cmp (pc_ge (pv 4) pe_int) (by rfl)) (pss_one (ps_expr (pe_bm PySem.F.plainAttrs_list PySem.F.slot_list_append PySem.F.type_list_append mt_append (pe_ix ix_tup (pe_ix ix_list (pv 1) (pv 4) (fun _ _ => rfl)) pe_int (fun _ _ => rfl)) (pa_cons (pv 5) pa_nil)))) pss_nil)
        (pss_one (ps_if (pt_not (pt_val (pe_call C.G hr (by rfl) C.g C.kp C.b .nil pass0 (pa_cons (pv 3) pa_nil)) (by intro _; rfl)))
          (pss_one (ps_expr (pe_bm PySem.F.plainAttrs_list PySem.F.slot_list_extend PySem.F.type_list_extend mt_extend (pv 2) (pa_cons
            (pe_lc (own := [("part", 6)]) (g := gName 6) (tt := tYes) rfl scNds.nd (pi_tup (pe_tailRev (pv 3))) (blkOk_by (N := nNds) (sc := defScope sNds) (by decide +kernel))
              (fun _ _ _ _ _ => pg_name (i := 6) scNds.nd rfl (Or.inl rfl)) (fun _ _ _ _ _ => pts_nil)
              (fun _ _ _ _ _ => pe_tup (pa_cons (pv 6) (pa_cons (pv 5) pa_nil)))) pa_nil)))) pss_nil)))))))
      (pss_one (ps_ret (pv 1))))), ?_⟩
    refine ⟨Nat.zero_le _, fun F hF => ⟨_, rfl, _, rfl, len2 _ _, fun b hb => ⟨len1 _, fun T hT => ?_⟩⟩⟩
    have s1 : Same H (upd H F (.lst [])) := same_new hF
    have s2 : Same (upd H F (.lst [])) (upd (upd H F (.lst [])) b (.tup [x, .int (-1)])) := same_new hb
    have s3 := s2.trans (same_new (o := .lst [.ref b]) hT)
    have TF : F ≠ T := ne_of_none (s2 _ _ upd_same) hT
    have hT0 : H T = none := by
      cases q : H T with
      | none => rfl
      | some o => rw [s2 _ _ (s1 _ _ q)] at hT; cases hT
    have n0 : NI K H F T [] [(root, -1)] [] [] [.ref b] (upd (upd (upd H F (.lst [])) b (.tup [x, .int (-1)])) T (.lst [.ref b])) := by
      refine ⟨s1.trans s3, hF, hT0, TF, s3 _ _ upd_same, rfl, rfl, fun i x l e h1 => (by cases h1), fun l hl => (by cases hl), List.nodup_nil, upd_same, rfl, fun i u p h1 h2 => ?_⟩
      cases i with
      | zero =>
        obtain rfl : V.ref b = u := Option.some.inj h1
        obtain rfl : (root, (-1 : Int)) = p := Option.some.inj h2
        exact ⟨b, x, rfl, (tk_new hT).t (SqT.of upd_same), ht.mono (tk_same (s1.trans s3))⟩
      | succ i => cases h1
    refine ⟨NW K H x root F T, ⟨_, [], [(root, -1)], [], [], [.ref b], Dfs.init root, ⟨fun i t ks e => (by simp at e), fun p hp => (by rw [List.mem_singleton.mp hp]; exact .refl)⟩, rfl, n0, none, none, none, none, rfl⟩, ?_⟩
    rintro m σ H1 ⟨L, S, xs, ls, us, df, sml, rfl, n, y3, y4, y5, y6, rfl⟩
    have few := dfs_few df
    refine ⟨_, rfl, T, _, rfl, .inl (SqL.of n.stk), _, _, rfl, rfl, decide (0 < ((us.reverse.length : Nat) : Int)), rfl, ite2 (fun hi => ?_) (fun hi => ?_)⟩
    · have hi := of_decide_eq_true hi
      rw [List.length_reverse, n.ul] at hi
      obtain ⟨⟨t, a⟩, S', rfl⟩ : ∃ p S', S = p :: S' := by
        cases S with
        | nil => exact absurd hi (by decide)
        | cons p S' => exact ⟨p, S', rfl⟩
      obtain ⟨u, us', rfl⟩ : ∃ u us', us = u :: us' := by
        cases us with
        | nil => have := n.ul; cases this
        | cons u us' => exact ⟨u, us', rfl⟩
      refine ⟨fun σ' H' => ∃ m', m' < szs (((t, a) :: S').map (·.1)) ∧ NW K H x root F T m' σ' H', fun _ _ h => h, ?_⟩
      obtain ⟨b', tv, rfl, hb', htv⟩ := n.st 0 u (t, a) rfl rfl
      have nP : NI K H F T L S' xs ls us' (upd H1 T (.lst us'.reverse)) := n.setT us' S' (Nat.succ.inj n.ul) fun i u p h1 h2 => n.st (i + 1) u p (by simpa using h1) (by simpa using h2)
      have tkP : Tk H1 (upd H1 T (.lst us'.reverse)) := tk_lst n.stk
      refine ⟨_, rfl, .inl ⟨rfl, _, SqL.of n.stk⟩, T, _, .ref b', rfl, rfl, n.stk, by simp, ?_⟩
      rw [show (V.ref b' :: us').reverse.dropLast = us'.reverse by simp]
      refine ⟨b', _, rfl, tkP.t hb', rfl, _, _, rfl, _, _, rfl, rfl, ?_⟩
      refine ⟨_, rfl, F, _, rfl, .inl (SqL.of nP.fnd), ?_⟩
      refine ⟨_, rfl, .inl ⟨rfl, _, SqL.of nP.fnd⟩, _, rfl, Nat.zero_le _, fun l hl => ⟨len2 _ _, fun p hp => ⟨F, xs, _, rfl, rfl, ((same_new hl).trans (same_new hp)) _ _ nP.fnd, ?_, ?_⟩⟩⟩
      · rw [n.xl]
        exact small_line (by rw [List.length_cons] at few; omega)
      have nQ := nP.push hl hp (htv.mono tkP)
      have tkQ : Tk (upd H1 T (.lst us'.reverse)) (upd (upd (upd (upd H1 T (.lst us'.reverse)) l (.lst [])) p (.tup [tv, .ref l])) F (.lst (xs ++ [.ref p]))) := (tk_same ((same_new hl).trans (same_new hp))).trans (tk_lst (((same_new hl).trans (same_new hp)) _ _ nP.fnd))
      have htQ := (htv.mono tkP).mono tkQ
      have step := df.step
      have smlS := sml.step (n := L.length) (b := ((L.length : Nat) : Int))
      have htz : t.sz ≤ 7 := Nat.le_trans (sml.2 (t, a) List.mem_cons_self).sz hz
      refine ⟨fun σ' H' => σ' = [some x, some (.ref F), some (.ref T), some tv, some (.int a), some (.int ((xs.length : Nat) : Int)), y6] ∧ TmAt K H' tv t ∧ NI K H F T (addKid (L ++ [(t, [])]) a L.length) S' (xs ++ [.ref p]) (ls ++ [l]) us' H', ?_, ?_⟩
      · refine ⟨_, rfl, _, _, rfl, rfl, decide (0 ≤ a), rfl, ite2 (fun ha => ?_) (fun ha => ?_)⟩
        · have ha := of_decide_eq_true ha
          have hab := df.ab (t, a) List.mem_cons_self
          obtain ⟨a', rfl⟩ : ∃ a' : Nat, a = (a' : Int) := ⟨a.toNat, by omega⟩
          have hab' : a' < L.length := by
            have : ((a' : Nat) : Int) < (L.length : Int) := hab
            omega
          have eL : (L ++ [(t, ([] : List Nat))])[a']? = some (L[a']'hab') := by rw [List.getElem?_append_left hab']; exact List.getElem?_eq_getElem hab'
          have el : (ls ++ [l])[a']? = some (ls[a']'(by rw [n.ll]; exact hab')) := by rw [List.getElem?_append_left (by rw [n.ll]; exact hab')]; exact List.getElem?_eq_getElem _
          have ex : (xs ++ [V.ref p])[a']? = some (xs[a']'(by rw [n.xl]; exact hab')) := by rw [List.getElem?_append_left (by rw [n.xl]; exact hab')]; exact List.getElem?_eq_getElem _
          have eLz : L[a']? = some (L[a']'hab') := List.getElem?_eq_getElem hab'
          generalize L[a']'hab' = e0 at eL eLz
          generalize ls[a']'(by rw [n.ll]; exact hab') = l0 at el
          generalize xs[a']'(by rw [n.xl]; exact hab') = x0 at ex
          obtain ⟨t0, ks0⟩ := e0
          obtain ⟨m, tv0, rfl, q2, q3, q4⟩ := nQ.nod a' _ _ _ ex el eL
          have nK := nQ.kid (k := L.length) el eL
          have tkK : Tk _ (upd _ l0 (.lst ((ks0 ++ [L.length]).map fun k => V.int ((k : Nat) : Int)))) := tk_lst q4
          have ee : (ks0.map fun k => V.int ((k : Nat) : Int)) ++ [V.int ((xs.length : Nat) : Int)] = (ks0 ++ [L.length]).map fun k => V.int ((k : Nat) : Int) := by rw [List.map_append, n.xl]; rfl
          refine ⟨_, rfl, _, rfl, F, _, (a' : Int), _, rfl, rfl, SqL.of nQ.fnd, atI_nat ex, m, _, 1, _, rfl, rfl, q2, atI_nat (j := 1) rfl, .inl ⟨rfl, _, SqL.of q4⟩, _, rfl, l0, _, _, rfl, rfl, q4, ?_, ?_⟩
          · rw [List.length_map]
            have k1 := congrArg List.length (df.kid a' t0 ks0 eLz)
            rw [List.length_append, List.length_map, List.length_map, List.length_map] at k1
            have k2 := (sml.1 a' t0 ks0 eLz).sz
            have k3 := len_le_szs t0.parts
            have k4 := szs_parts t0
            exact small_line (show ks0.length ≤ 1000000 by omega)
          · rw [ee]
            exact ⟨rfl, htQ.mono tkK, nK⟩
        · have ha : ¬ 0 ≤ a := of_decide_eq_false (by simpa using ha)
          exact ⟨rfl, htQ, by unfold addKid; rw [if_neg ha]; exact nQ⟩
      · rintro σ' H' ⟨rfl, ht', nK⟩
        obtain ⟨so, hso⟩ := ht'.sort
        refine ⟨_, rfl, _, _, rfl, hso, ?_⟩
        refine ⟨_, rfl, ?_⟩
        rw [ht'.num]
        cases t with
        | hole n0 =>
          refine iteF ⟨szs (S'.map (·.1)), ?_, _, S', _, _, us', step, smlS, rfl, nK, _, _, _, _, rfl⟩
          rw [List.map_cons, szs, Tm.sz]
          omega
        | node g ps =>
          refine iteT ?_
          obtain ⟨ta, txs, rfl, h1, h2, h5⟩ := ht'.node
          refine ⟨_, rfl, .inl ⟨rfl, _, SqL.of nK.stk⟩, _, rfl, ta, _, txs, rfl, h1, fun r hr' => ⟨r, rfl, ⟨_, SqT.of upd_same⟩, fun D hD => ?_⟩⟩
          have k3 := len_le_szs ps
          have k4 : szs ps + 1 = (Tm.node g ps).sz := szs_parts (Tm.node g ps)
          refine lcS (walk_tup (K := K) (a := r) (xs := txs.reverse)) (fun i y H => ∃ p, ps.reverse[i]? = some p ∧ StAt K H y (p, ((xs.length : Nat) : Int))) (fun _ => true) ?_ hD (fun _ e => (tk_same e).t (SqT.of upd_same)) (fun i y H H' tk ⟨p, h1, h2⟩ => ⟨p, h1, h2.tk tk⟩) ?_ ?_
          · rw [List.length_reverse, h2]
            omega
          · rintro i z H2 H3 R R0 hi s3 ⟨rfl, hz⟩ k1 k2
            refine ⟨rfl, _, rfl, _, rfl, len2 _ _, fun b hb => k1 _ _ rfl (same_new hb) ?_⟩
            obtain ⟨hi1, hz1⟩ := getElem?_rev hz
            obtain ⟨pt, e3, e4⟩ := h5 _ _ hz1
            refine ⟨pt, ?_, b, z, rfl, SqT.of upd_same, e4.mono (tk_same ((same_new hr').trans (s3.trans (same_new hb))))⟩
            have hip : i < ps.length := by rw [← h2]; exact hi1
            rw [List.getElem?_reverse hip, ← h2]
            exact e3
          · intro H3 ys s3 e r'
            rw [range_all] at r'
            have sA := (same_new (o := .tup txs.reverse) hr').trans s3
            have yl := r'.len
            rw [List.length_range, List.length_reverse] at yl
            have nE := nK.alloc sA
            refine ⟨T, D, _, ys, rfl, rfl, nE.stk, e, ?_, ?_⟩
            · rw [List.length_reverse, nK.ul, ← yl, h2]
              rw [List.length_cons] at few
              exact small_line' (by omega)
            · have eT : us'.reverse ++ ys = (ys.reverse ++ us').reverse := by simp
              rw [eT]
              refine ⟨szs ((((Tm.node g ps).parts.map fun p => (p, ((L.length : Nat) : Int))) ++ S').map (·.1)), ?_, _, _, _, _, ys.reverse ++ us', step, smlS, rfl, nE.setT _ _ ?_ ?_, _, _, _, _, rfl⟩
              · rw [List.map_append, szs_append, List.map_cons, szs, List.map_map]
                have := szs_parts (Tm.node g ps)
                rw [show ((fun p : Tm × Int => p.1) ∘ fun p => (p, ((L.length : Nat) : Int))) = id from rfl, List.map_id]
                show _ < (Tm.node g ps).sz + _
                omega
              · rw [List.length_append, List.length_append, List.length_reverse, List.length_map, nK.ul, ← yl, h2]
                rfl
              · intro i u p h6 h7
                by_cases hi : i < ps.length
                · rw [List.getElem?_append_left (by rw [List.length_reverse, ← yl, h2]; exact hi)] at h6
                  rw [List.getElem?_append_left (by rw [List.length_map]; exact hi), List.getElem?_map] at h7
                  obtain ⟨hi1, h8⟩ := getElem?_rev h6
                  obtain ⟨j, hj, p', h9, h10⟩ := r'.get h8
                  have hjl := (List.getElem?_eq_some_iff.mp hj).1
                  rw [List.length_range] at hjl
                  rw [List.getElem?_range hjl] at hj
                  have hj := Option.some.inj hj
                  obtain ⟨_, h11⟩ := getElem?_rev h9
                  rw [show ps.length - 1 - j = i by omega] at h11
                  rw [show (Tm.node g ps).parts = ps from rfl, h11] at h7
                  have h7 : (p', ((L.length : Nat) : Int)) = p := Option.some.inj h7
                  rw [← h7, ← n.xl]
                  exact h10
                · rw [List.getElem?_append_right (by rw [List.length_reverse, ← yl, h2]; omega), List.length_reverse, ← yl, h2] at h6
                  rw [List.getElem?_append_right (by rw [List.length_map]; show ps.length ≤ i; omega), List.length_map] at h7
                  exact nE.st _ _ _ h6 h7
    · have hi : us = [] := by simpa using hi
      subst hi
      obtain rfl : S = [] := List.length_eq_zero_iff.mp n.ul.symm
      obtain ⟨d1, d2, d3⟩ := df.done
      exact ⟨_, rfl, q _ L H1 n.same n.nds d1 d2 d3 (subAt sml)⟩
end
end Rk

/-! is_over -/
namespace Rk
open PySem PySem.Spec PyProof.Rows L2
theorem strOk_good {x : Str} (h : GoodName x) : PyData.strOk x = true := by
  unfold PyData.strOk
  rw [Array.all_eq_true]
  intro i hi
  have := h.2.2 x.cps[i] (by rw [Array.mem_toList_iff]; exact Array.getElem_mem hi)
  exact decide_eq_true (by omega)
mutual
theorem canLay_tm {B : Bk} (hB : ∀ s ∈ B, GoodName s.1) : ∀ t : Tm, okT B t → t.toD.canLay0 = true
  | .hole _, _ => by rw [Tm.toD, PyData.canLay0]
  | .node f ps, h => by
    rw [okT] at h
    rw [Tm.toD, PyData.canLay0, PyData.canLayAll0, PyData.canLay0, canLays_tm hB ps h.2, strOk_good (hB _ h.1)]
    rfl
theorem canLays_tm {B : Bk} (hB : ∀ s ∈ B, GoodName s.1) : ∀ ps : List Tm, okTs B ps → PyData.canLayAll0 (toDs ps) = true
  | [], _ => by rw [toDs, PyData.canLayAll0]
  | p :: ps, h => by
    rw [okTs] at h
    rw [toDs, PyData.canLayAll0, canLay_tm hB p h.1, canLays_tm hB ps h.2]; rfl
end
mutual
theorem depth_tm : ∀ t : Tm, t.toD.depth ≤ t.sz
  | .hole _ => by rw [Tm.toD, PyData.depth]; exact Nat.zero_le _
  | .node f ps => by
    have h := depths_tm ps
    rw [Tm.toD, PyData.depth, PyData.depthAll, PyData.depth, Tm.sz]
    omega
theorem depths_tm : ∀ ps : List Tm, PyData.depthAll (toDs ps) ≤ szs ps
  | [] => by rw [toDs, PyData.depthAll]; exact Nat.zero_le _
  | p :: ps => by
    have h1 := depth_tm p
    have h2 := depths_tm ps
    rw [toDs, PyData.depthAll, szs]
    omega
end
theorem shaped_tm {B : Bk} (hB : ∀ s ∈ B, GoodName s.1) {t : Tm} (ho : okT B t) (h : t.sz ≤ 7) : SeqAt.shaped t.toD = true := by
  unfold SeqAt.shaped
  rw [canLay_tm hB t ho]
  have := depth_tm t
  simp
  omega

/-- a node of a table, found -/
theorem NdsAt.get {K : PySem.W.Frag} {H : Hp} {v : V} {L : Nd} (h : NdsAt K H v L) {k : Nat} {s : Tm} (e : tmAt L k = some s) :
    ∃ F xs n l tv ks, v = .ref F ∧ H F = some (.lst xs) ∧ xs[k]? = some (.ref n) ∧ SqT K H n [tv, .ref l] ∧ TmAt K H tv s ∧ H l = some (.lst (ks.map fun k => V.int ((k : Nat) : Int))) ∧ L[k]? = some (s, ks) := by
  obtain ⟨F, xs, h1, h2, h3, h4⟩ := h
  unfold tmAt at e
  cases q : L[k]? with
  | none => rw [q] at e; cases e
  | some u =>
    rw [q] at e
    obtain ⟨t, ks⟩ := u
    obtain rfl : t = s := Option.some.inj e
    have hk : k < xs.length := by rw [h3]; exact (List.getElem?_eq_some_iff.mp q).1
    obtain ⟨u, l, q1, n, tv, q2, q3, q4, q5⟩ := h4 k _ (List.getElem?_eq_getElem hk)
    obtain rfl : (t, ks) = u := Option.some.inj (q.symm.trans q1)
    exact ⟨F, xs, n, l, tv, ks, h1, h2, by rw [← q2]; exact List.getElem?_eq_getElem hk, q3, q4, q5, rfl⟩
theorem NdsAt.getR {K : PySem.W.Frag} {H : Hp} {F : Addr} {L : Nd} (h : NdsAt K H (.ref F) L) {k : Nat} {s : Tm} (e : tmAt L k = some s) :
    ∃ xs n l tv ks, H F = some (.lst xs) ∧ xs[k]? = some (.ref n) ∧ SqT K H n [tv, .ref l] ∧ TmAt K H tv s ∧ H l = some (.lst (ks.map fun k => V.int ((k : Nat) : Int))) ∧ L[k]? = some (s, ks) := by
  obtain ⟨F', xs, n, l, tv, ks, h1, h2⟩ := h.get e
  injection h1 with h1
  subst h1
  exact ⟨xs, n, l, tv, ks, h2⟩
theorem kidAt {L : Nd} (ok : NdOk L) {i j : Nat} {t : Tm} {ks : List Nat} {z : V} (e : L[i]? = some (t, ks)) (hz : (ks.map fun k => V.int ((k : Nat) : Int))[j]? = some z) : ∃ k p, ks[j]? = some k ∧ z = .int ((k : Nat) : Int) ∧ t.parts[j]? = some p ∧ tmAt L k = some p ∧ i < k := by
  rw [List.getElem?_map] at hz
  cases q : ks[j]? with
  | none => rw [q] at hz; cases hz
  | some k =>
    rw [q] at hz
    obtain ⟨p, ks', h1, h2, h3, _⟩ := ok.get e q
    exact ⟨k, p, rfl, (Option.some.inj hz).symm, h1, by unfold tmAt; rw [h2]; rfl, h3⟩
section
variable {J : It} {n : Nat} {G : Hp → Prop} {Y : Nat → Hp → V → Hp → Prop}
/-- a list comprehension whose items are no lists -/
theorem lcN (wk : Walk J n G Y) {g : TG} {tt : TT} {te : TE} {vs : List Nat} {σ : L2.St} {H1 : Hp} {D : Addr} {Qd : Hp → Prop} (Rel : Nat → V → Hp → Prop) (keep : Nat → Bool) (hn : n ≤ 1000000) (hnew : H1 D = none)
    (hG : ∀ H, Same H1 H → G H) (mono : ∀ i y H H', Same H H' → Rel i y H → Rel i y H') (monoD : ∀ i y H xs ys, H D = some (.lst xs) → Rel i y H → Rel i y (upd H D (.lst ys)))
    (hs : ∀ i x H H' (R : V → Hp → Prop) (R0 : Hp → Prop), i < n → Same H1 H → Y i H x H' → (∀ y H'', keep i = true → Same H H'' → Rel i y H'' → R y H'') →
      (∀ H'', keep i = false → Same H H'' → R0 H'') → g x (wipe σ vs) H' fun σ2 H2 => wipe σ2 vs = wipe σ vs ∧ tt σ2 H2 fun b H3 => if b = true then te σ2 H3 R else R0 H3)
    (hd : ∀ H ys, Same H1 H → H D = some (.lst ys) → RelL Rel H ((List.range n).filter keep) ys → Qd H) :
    ∃ W : Nat → Nat → Hp → Prop, (∃ m, W 0 m (upd H1 D (.lst []))) ∧ ∀ i m H, W i m H →
      (J.stop i H ∧ Qd H) ∨ (J.go i H ∧ ∃ Nx : Hp → Prop, (∀ H', Nx H' → ∃ m', m' < m ∧ W (i + 1) m' H') ∧ ∀ x H', J.yld i H x H' → g x (wipe σ vs) H' fun σ2 H2 => wipe σ2 vs = wipe σ vs ∧ tt σ2 H2 fun b H3 =>
        if b = true then te σ2 H3 fun y H4 => ∃ acc, H4 D = some (.lst acc) ∧ acc.length < sizeLine ∧ Nx (upd H4 D (.lst (acc ++ [y]))) else Nx H3) := by
  refine lc_it wk (fun i H => Same H1 H ∧ ∃ ys, H D = some (.lst ys) ∧ RelL Rel H ((List.range i).filter keep) ys) ⟨same_mut (Same.refl H1) hnew, [], upd_same, .nil⟩ (fun i H _ h => hG H h.1) ?_ (fun H ⟨z, ys, e, r⟩ => hd H ys z e r)
  rintro i x H H' hi ⟨z, acc, e, r⟩ hy
  refine hs i x H H' _ _ hi z hy (fun y H'' hk s rel => ⟨acc, s _ _ e, ?_, same_mut (z.trans s) hnew, acc ++ [y], upd_same, ?_⟩) (fun H'' hk s => ⟨z.trans s, acc, s _ _ e, ?_⟩)
  · have h1 := r.len
    have h2 := List.length_filter_le keep (List.range i)
    rw [List.length_range] at h2
    exact small_line (by omega)
  · rw [filter_snoc, if_pos hk]
    exact ((r.mono fun j u => mono j u _ _ s).snoc rel).mono fun j u => monoD j u _ _ _ (s _ _ e)
  · rw [filter_snoc, if_neg (by rw [hk]; decide)]
    exact r.mono fun j u => mono j u _ _ s
end
/-- what a table of nodes is told by names -/
def Nm (ak : List (Key × V)) (r ar : Str → Nat) (L : Nd) : Prop := ∀ (k : Nat) f ps, tmAt L k = some (.node f ps) → ps.length = ar f ∧ valV ak (.inr f) = some (.int ((r f : Nat) : Int))
def TabV (r : Str → Nat) (kvs : List (List Key × V)) (L1 L2 : Nd) (i j : Nat) : Prop := ∀ (k m : Nat) s1 s2, tmAt L1 k = some s1 → tmAt L2 m = some s2 → (i < k ∨ (k = i ∧ j < m)) → valV kvs [.inl ((k : Nat) : Int), .inl ((m : Nat) : Int)] = some (.bl (gtB r s1 s2))
section
variable {P : Program} {w : World} {K : PySem.W.Frag} {mg : Str → Option Value} {base : Heap}
structure OvA (K : PySem.W.Frag) (H : Hp) (ad tb : Addr) (v1 v2 : V) (ak : List (Key × V)) (kvs : List (List Key × V)) (r ar : Str → Nat) (L1 L2 : Nd) (i j : Nat) : Prop where
  a : H ad = some (.dK ak)
  n1 : NdsAt K H v1 L1
  o1 : NdOk L1
  n2 : NdsAt K H v2 L2
  o2 : NdOk L2
  t : H tb = some (.dT kvs)
  m1 : Nm ak r ar L1
  m2 : Nm ak r ar L2
  s1 : ∀ k s, tmAt L1 k = some s → s.sz ≤ 7 ∧ SeqAt.shaped s.toD = true
  s2 : ∀ k s, tmAt L2 k = some s → s.sz ≤ 7 ∧ SeqAt.shaped s.toD = true
  tab : TabV r kvs L1 L2 i j
theorem OvA.same {K : PySem.W.Frag} {H H' : Hp} {ad tb : Addr} {v1 v2 : V} {ak : List (Key × V)} {kvs : List (List Key × V)} {r ar : Str → Nat} {L1 L2 : Nd} {i j : Nat} (h : OvA K H ad tb v1 v2 ak kvs r ar L1 L2 i j) (s : Same H H') : OvA K H' ad tb v1 v2 ak kvs r ar L1 L2 i j :=
  ⟨s _ _ h.a, h.n1.same s, h.o1, h.n2.same s, h.o2, s _ _ h.t, h.m1, h.m2, h.s1, h.s2, h.tab⟩
def spOver (K : PySem.W.Frag) : Sp := fun vs H Q _ => ∃ ad tb v1 v2 ak kvs r ar L1 L2 i j t1 t2, vs = [.ref ad, v1, v2, .ref tb, .int ((i : Nat) : Int), .int ((j : Nat) : Int)] ∧ OvA K H ad tb v1 v2 ak kvs r ar L1 L2 i j ∧ tmAt L1 i = some t1 ∧ tmAt L2 j = some t2 ∧
  ∀ H', Same H H' → Q (.bl (gtB r t1 t2)) H'
theorem cut1L (xs : List V) : cutV xs (some 1) none = xs.drop 1 := by
  cases xs with
  | nil => rfl
  | cons x xs => rw [cut1]; rfl
theorem ok_over {f : Addr} {fd : FuncData} {k : Nat} (F : Fun K "is_over" "is_over" sOver f fd) (T : Txt mg) (C : Def P w K mg base k "is_hole" pHole (spHole K)) : FnOk P w K mg base CX0 (k + 1) f fd pOver (spOver K) := by
  refine F.ok scOver (fun vs H Q E h => ?_) (fun cdv A outer s H vs Q E hr h => ?_)
  · obtain ⟨ad, tb, v1, v2, ak, kvs, r, ar, L1, L2, i, j, t1, t2, rfl, _⟩ := h
    rfl
  · obtain ⟨ad, tb, v1, v2, ak, kvs, r, ar, L1, L2, i, j, t1, t2, rfl, ov, e1, e2, q⟩ := h
    have hu := hu_of hr
    have hu64 := hr.units
    refine ⟨_, pss_cons (ps_asg (pe_ix ix_list (pv 1) (pv 4) (fun _ _ => rfl)) (pg_tup rfl (pgs_cons (pg_name (i := 6) scOver.nd rfl (Or.inl rfl)) (pgs_cons (pg_name (i := 7) scOver.nd rfl (Or.inl rfl)) pgs_nil))))
      (pss_cons (ps_asg (pe_ix ix_list (pv 2) (pv 5) (fun _ _ => rfl)) (pg_tup rfl (pgs_cons (pg_name (i := 8) scOver.nd rfl (Or.inr rfl)) (pgs_cons (pg_name (i := 9) scOver.nd rfl (Or.inl rfl)) pgs_nil))))
      (pss_cons (ps_if (pt_val (pe_call C.G hr (by rfl) C.g C.kp C.b .nil pass0 (pa_cons (pv 6) pa_nil)) (by intro _; rfl)) (pss_one (ps_ret pe_bl)) pss_nil)
      (pss_cons (ps_if (pt_val (pe_callB (cr_any rfl) (by rfl) T.any (by decide +kernel) (pa_cons
          (pe_lc (own := [("k", 11)]) (g := gName 11) (tt := tYes) (te := tOrV (tOp (rEqD K) (tOp (rIxT K) (tOp (rIxL K) (tVar 1) (tVar 11)) (tC (.int 0))) (tVar 8)) (tDGet (tVar 3) (tTup (tCons (tVar 11) (tCons (tVar 5) tNil))))) rfl scOver.nd (pi_list (pv 7)) (blkOk_by (N := nOver) (sc := defScope sOver) (by decide +kernel))
            (fun _ _ _ _ _ => pg_name (i := 11) scOver.nd rfl (Or.inl rfl)) (fun _ _ _ _ _ => pts_nil)
            (fun _ _ _ _ _ => pe_or (pe_cmpR (op_eqD hu64) (pe_ix ix_tup (pe_ix ix_list (pv 1) (pv 11) (fun _ _ => rfl)) pe_int (fun _ _ => rfl)) (pv 8) (nomark _))
              (pe_one (pe_dget hu (pv 3) (pe_tup (pa_cons (pv 11) (pa_cons (pv 5) pa_nil))) (fun _ _ => rfl))))) pa_nil)) (by intro _; rfl)) (pss_one (ps_ret pe_bl)) pss_nil)
      (pss_cons (ps_if (pt_val (pe_call C.G hr (by rfl) C.g C.kp C.b .nil pass0 (pa_cons (pv 8) pa_nil)) (by intro _; rfl)) (pss_one (ps_ret pe_bl)) pss_nil)
      (pss_cons (ps_if (pt_cmpR op_ne (pe_ix ix_tup (pv 6) pe_int (fun _ _ => rfl)) (pe_ix ix_tup (pv 8) pe_int (fun _ _ => rfl)) (nomark _))
        (pss_one (ps_ret (pe_and (pe_cmpR op_lt (pe_dget hu (pv 0) (pe_ix ix_tup (pv 6) pe_int (fun _ _ => rfl)) (fun _ _ => rfl)) (pe_dget hu (pv 0) (pe_ix ix_tup (pv 8) pe_int (fun _ _ => rfl)) (fun _ _ => rfl)) (nomark _))
          (pe_one (pe_callB (cr_all rfl) (by rfl) T.all (by decide +kernel) (pa_cons
            (pe_lc (own := [("m", 12)]) (g := gName 12) (tt := tYes) rfl scOver.nd (pi_list (pv 9)) (blkOk_by (N := nOver) (sc := defScope sOver) (by decide +kernel))
              (fun _ _ _ _ _ => pg_name (i := 12) scOver.nd rfl (Or.inl rfl)) (fun _ _ _ _ _ => pts_nil)
              (fun _ _ _ _ _ => pe_dget hu (pv 3) (pe_tup (pa_cons (pv 4) (pa_cons (pv 12) pa_nil))) (fun _ _ => rfl))) pa_nil)))))) pss_nil)
      (pss_cons (ps_setLc (i := 10) (own := [("k", 11), ("m", 12)]) (tt := tTest (tOp (rNeD K) (tOp (rIxT K) (tOp (rIxL K) (tVar 1) (tVar 11)) (tC (.int 0))) (tOp (rIxT K) (tOp (rIxL K) (tVar 2) (tVar 12)) (tC (.int 0))))) (g := gTup K 2 (gCons (gName 11) (gCons (gName 12) gNil))) rfl scOver.nd rfl rfl (by rfl) (pi_zip (by rfl) T.zip (pa_cons (pv 7) (pa_cons (pv 9) pa_nil))) (blkOk_by (N := nOver) (sc := defScope sOver) (by decide +kernel))
          (fun _ _ _ _ _ => pg_tup rfl (pgs_cons (pg_name (i := 11) scOver.nd rfl (Or.inl rfl)) (pgs_cons (pg_name (i := 12) scOver.nd rfl (Or.inl rfl)) pgs_nil)))
          (fun _ _ _ _ _ => pts_one (pt_cmpR (op_neD hu64) (pe_ix ix_tup (pe_ix ix_list (pv 1) (pv 11) (fun _ _ => rfl)) pe_int (fun _ _ => rfl)) (pe_ix ix_tup (pe_ix ix_list (pv 2) (pv 12) (fun _ _ => rfl)) pe_int (fun _ _ => rfl)) (nomark _)))
          (fun _ _ _ _ _ => pe_tup (pa_cons (pv 11) (pa_cons (pv 12) pa_nil))))
      (pss_cons (ps_if (PW.pt (pw_or (pt_cmp (pc_eqI (pe_callB call_len_seq (by rfl) T.len (by decide +kernel) (pa_cons (pv 10) pa_nil)) pe_int) (by rfl))
          (pw_or1 (pt_not (pt_val (pe_dget hu (pv 3) (pe_ix ix_list (pv 10) pe_int (fun _ _ => rfl)) (fun _ _ => rfl)) (by intro _; rfl)))))) (pss_one (ps_ret pe_bl)) pss_nil)
      (pss_one (ps_ret (pe_callB (cr_all rfl) (by rfl) T.all (by decide +kernel) (pa_cons
          (pe_lc (own := [("k", 11), ("m", 12)]) (g := gTup K 2 (gCons (gName 11) (gCons (gName 12) gNil))) (tt := tYes) rfl scOver.nd (pi_list (pe_slice sl_list (pv 10) (po_some pe_int) po_none)) (blkOk_by (N := nOver) (sc := defScope sOver) (by decide +kernel))
            (fun _ _ _ _ _ => pg_tup rfl (pgs_cons (pg_name (i := 11) scOver.nd rfl (Or.inl rfl)) (pgs_cons (pg_name (i := 12) scOver.nd rfl (Or.inl rfl)) pgs_nil))) (fun _ _ _ _ _ => pts_nil)
            (fun _ _ _ _ _ => pe_dget hu (pv 3) (pe_tup (pa_cons (pv 4) (pa_cons (pv 12) pa_nil))) (fun _ _ => rfl))) pa_nil))))))))))), ?_⟩
    obtain ⟨F1, _, _, _, _, _, rfl, _⟩ := ov.n1.get e1
    obtain ⟨F2, _, _, _, _, _, rfl, _⟩ := ov.n2.get e2
    obtain ⟨xs1, n1, l1, tv1, ks1, hF1, hx1, hn1, ht1, hl1, hL1⟩ := ov.n1.getR e1
    obtain ⟨xs2, n2, l2, tv2, ks2, hF2, hx2, hn2, ht2, hl2, hL2⟩ := ov.n2.getR e2
    obtain ⟨so1, hso1⟩ := ht1.sort
    refine ⟨_, rfl, _, rfl, F1, xs1, _, _, rfl, rfl, SqL.of hF1, atI_nat hx1, n1, _, rfl, hn1, rfl, _, _, rfl, _, _, rfl, rfl, ?_⟩
    refine ⟨_, rfl, _, rfl, F2, xs2, _, _, rfl, rfl, SqL.of hF2, atI_nat hx2, n2, _, rfl, hn2, rfl, _, _, rfl, _, _, rfl, rfl, ?_⟩
    refine ⟨_, rfl, _, _, rfl, hso1, ?_⟩
    refine ⟨_, rfl, ?_⟩
    rw [ht1.num]
    cases t1 with
    | hole n0 =>
      have q1 := q H (Same.refl H)
      rw [gtB_hole] at q1
      exact iteT q1
    | node f ps =>
      refine iteF ?_
      have hps : ks1.length = ps.length := ov.o1.len hL1
      have hps7 := (ov.s1 _ _ e1).1
      have hps8 := len_le_szs ps
      rw [Tm.sz] at hps7
      refine ⟨_, rfl, l1, rfl, ⟨_, SqL.of hl1⟩, fun D hD => ?_⟩
      refine lcS (walk_list (K := K) (a := l1) (xs := ks1.map fun k => V.int ((k : Nat) : Int))) (fun i y _ => y = .bl ((ps[i]?.map fun p => eqB p t2 || gtB r p t2).getD false)) (fun _ => true) (by rw [List.length_map]; omega) hD (fun _ e => SqL.of (e _ _ hl1)) (fun _ _ _ _ _ h => h) ?_ ?_
      · rintro i0 z H' H'' R R0 hi s1 ⟨rfl, hz⟩ k1 k2
        obtain ⟨kk, p, hk1, rfl, hp, htk, hlt⟩ := kidAt ov.o1 hL1 hz
        have hp : ps[i0]? = some p := hp
        have ovS := ov.same s1
        obtain ⟨xsk, nk, lk, tvk, ksk, hFk, hxk, hnk, htvk, _, _⟩ := ovS.n1.getR htk
        refine ⟨rfl, _, rfl, _, rfl, F1, xsk, _, _, rfl, rfl, SqL.of hFk, atI_nat hxk, nk, _, 0, _, rfl, rfl, hnk, atI_nat (j := 0) rfl, _, rfl, p.toD, t2.toD, htvk, ht2.mono (tk_same s1), (ov.s1 _ _ htk).2, (ov.s2 _ _ e2).2, eqB p t2, congrArg V.bl (eqB_eqv p t2), ?_⟩
        cases he : eqB p t2 with
        | true => exact iteT (k1 _ _ rfl (Same.refl _) (by rw [hp]; show V.bl true = V.bl (eqB p t2 || gtB r p t2); rw [he]; rfl))
        | false =>
          refine iteF ⟨_, rfl, _, rfl, _, rfl, len2 _ _, fun b hb => ⟨tb, _, rfl, .inr ⟨kvs, [.inl ((kk : Nat) : Int), .inl ((j : Nat) : Int)], b, .inl ((same_new hb) _ _ ovS.t), rfl, upd_same, (ov.tab _ _ _ _ htk e2 (.inl hlt)).symm⟩, k1 _ _ rfl (same_new hb) ?_⟩⟩
          rw [hp]
          show V.bl (gtB r p t2) = V.bl (eqB p t2 || gtB r p t2)
          rw [he]; rfl
      · intro H3 ys s3 e rr
        rw [range_all] at rr
        obtain rfl := rr.eq (f := fun i => V.bl ((ps[i]?.map fun p => eqB p t2 || gtB r p t2).getD false))
        have ov3 := ov.same s3
        have hvia : ((List.range (ks1.map fun k => V.int ((k : Nat) : Int)).length).map fun i => (ps[i]?.map fun p => eqB p t2 || gtB r p t2).getD false).any id = viaB r ps t2 := by
          rw [List.length_map, hps, range_map_get, List.any_map]
          rfl
        refine ⟨D, (List.range (ks1.map fun k => V.int ((k : Nat) : Int)).length).map fun i => (ps[i]?.map fun p => eqB p t2 || gtB r p t2).getD false, rfl, SqL.of (by rw [e, List.map_map]; rfl), viaB r ps t2, congrArg V.bl hvia, ?_⟩
        cases hv : viaB r ps t2 with
        | true =>
          have q1 := q H3 s3
          rw [gtB_via hv] at q1
          exact iteT q1
        | false =>
          refine iteF ?_
          have ht1' := ht1.mono (tk_same s3)
          have ht2' := ht2.mono (tk_same s3)
          obtain ⟨so2, hso2⟩ := ht2'.sort
          refine ⟨_, rfl, _, _, rfl, hso2, ?_⟩
          refine ⟨_, rfl, ?_⟩
          rw [ht2'.num]
          cases t2 with
          | hole n0 =>
            have q1 := q H3 s3
            rw [gtB_novia_hole hv] at q1
            exact iteT q1
          | node g qs =>
            refine iteF ?_
            have hqs : ks2.length = qs.length := ov.o2.len hL2
            have hqs7 := (ov.s2 _ _ e2).1
            have hqs8 := len_le_szs qs
            rw [Tm.sz] at hqs7
            obtain ⟨a1, w1, rfl, ha1, _, _⟩ := ht1'.node
            obtain ⟨a2, w2, rfl, ha2, _, _⟩ := ht2'.node
            have hm1 := ov.m1 _ _ _ e1
            have hm2 := ov.m2 _ _ _ e2
            have hl1' := s3 _ _ hl1
            have hl2' := s3 _ _ hl2
            refine ⟨_, rfl, a1, _, 0, _, rfl, rfl, ha1, atI_nat (j := 0) rfl, _, rfl, a2, _, 0, _, rfl, rfl, ha2, atI_nat (j := 0) rfl, rfl, !decide (f = g), congrArg V.bl (by rw [dec_str]; rfl), ?_⟩
            by_cases hfg : f = g
            · subst hfg
              rw [decide_eq_true rfl]
              refine iteF ?_
              have hlen : ps.length = qs.length := hm1.1.trans hm2.1.symm
              refine ⟨_, rfl, _, rfl, l1, l2, _, _, rfl, SqL.of hl1', SqL.of hl2', fun D4 hD4 => ?_⟩
              refine lcN (walk_zip (K := K) (a := l1) (b := l2) (xs := ks1.map fun k => V.int ((k : Nat) : Int)) (ys := ks2.map fun k => V.int ((k : Nat) : Int)) (n := ps.length) (by rw [List.length_map, List.length_map, hps, hqs, hlen, Nat.min_self]))
                (fun i y H => ∃ b k m, y = .ref b ∧ ks1[i]? = some k ∧ ks2[i]? = some m ∧ H b = some (.tup [.int ((k : Nat) : Int), .int ((m : Nat) : Int)])) (keepAt ps qs) (by omega) hD4 (fun _ e => ⟨SqL.of (e _ _ hl1'), SqL.of (e _ _ hl2')⟩)
                (fun i y H H' sm ⟨b, k, m, h1, h2, h3, h4⟩ => ⟨b, k, m, h1, h2, h3, sm _ _ h4⟩) (fun i y H us vs hD ⟨b, k, m, h1, h2, h3, h4⟩ => ⟨b, k, m, h1, h2, h3, by
                  rw [upd_ne (fun e => by rw [e, hD] at h4; cases h4)]
                  exact h4⟩) ?_ ?_
              · rintro i0 z H' H'' R R0 hi s4 ⟨T', x1, x2, rfl, nT, rfl, z1, z2⟩ k1 k2
                obtain ⟨kk, p, hk1, rfl, hp, htk, hlt⟩ := kidAt ov.o1 hL1 z1
                obtain ⟨mm, qq, hk2, rfl, hq, htm, hltm⟩ := kidAt ov.o2 hL2 z2
                have hp : ps[i0]? = some p := hp
                have hq : qs[i0]? = some qq := hq
                have sN : Same H' (upd H' T' (.tup [.int ((kk : Nat) : Int), .int ((mm : Nat) : Int)])) := same_new nT
                have ovS := ov3.same (s4.trans sN)
                obtain ⟨xsk, nk, lk, tvk, ksk, hFk, hxk, hnk, htvk, _, _⟩ := ovS.n1.getR htk
                obtain ⟨xsm, nm, lm, tvm, ksm, hFm, hxm, hnm, htvm, _, _⟩ := ovS.n2.getR htm
                refine ⟨T', _, rfl, SqT.of upd_same, rfl, _, _, rfl, _, _, rfl, rfl, rfl, ?_⟩
                refine ⟨_, rfl, _, rfl, F1, xsk, _, _, rfl, rfl, SqL.of hFk, atI_nat hxk, nk, _, 0, _, rfl, rfl, hnk, atI_nat (j := 0) rfl, _, rfl, _, rfl, F2, xsm, _, _, rfl, rfl, SqL.of hFm, atI_nat hxm, nm, _, 0, _, rfl, rfl, hnm, atI_nat (j := 0) rfl, p.toD, qq.toD, htvk, htvm, (ov.s1 _ _ htk).2, (ov.s2 _ _ htm).2, keepAt ps qs i0, congrArg V.bl (by unfold keepAt; rw [hp, hq, eqB_eqv]), ?_⟩
                cases hk : keepAt ps qs i0 with
                | true => exact iteT ⟨_, rfl, _, rfl, len2 _ _, fun b hb => k1 _ _ hk (sN.trans (same_new hb)) ⟨b, kk, mm, rfl, hk1, hk2, upd_same⟩⟩
                | false => exact iteF (k2 _ hk sN)
              · intro H4 ys s4 e4 r4
                have ov4 := ov3.same s4
                have s34 := s3.trans s4
                change RelL _ H4 (uIdx ps qs) ys at r4
                refine ⟨_, rfl, D4, ys, rfl, .inl (SqL.of e4), _, _, rfl, rfl, decide (((ys.length : Nat) : Int) = 0), rfl, ite2 (fun hc => ?_) (fun hc => ?_)⟩
                · have hc : ys.length = 0 := by have := of_decide_eq_true hc; omega
                  have hu0 : uIdx ps qs = [] := List.length_eq_zero_iff.mp (by rw [r4.len]; exact hc)
                  have := uIdx_nil hlen hu0
                  subst this
                  have q1 := q H4 s34
                  rw [gtB_novia_same hv] at q1
                  exact iteT q1
                · cases r4g : uIdx ps qs with
                  | nil =>
                    rw [r4g] at r4
                    cases r4
                    exact (hc (decide_eq_true (Eq.refl (0 : Int)))).elim
                  | cons i0 rest =>
                    rw [r4g] at r4
                    obtain ⟨pre, p, qq, ps', qs', c1, c2, c3, c4, c5, c6⟩ := uIdx_split hlen r4g
                    cases r4 with
                    | @cons _ y0 _ ys' hy0 hrest =>
                      obtain ⟨b0, k0, m0, rfl, hk0, hm0, hb0⟩ := hy0
                      have gk : (ks1.map fun k => V.int ((k : Nat) : Int))[i0]? = some (.int ((k0 : Nat) : Int)) := by rw [List.getElem?_map, hk0]; rfl
                      have gm : (ks2.map fun k => V.int ((k : Nat) : Int))[i0]? = some (.int ((m0 : Nat) : Int)) := by rw [List.getElem?_map, hm0]; rfl
                      obtain ⟨k0', p', d1, d2, d3, d4, d5⟩ := kidAt ov.o1 hL1 gk
                      obtain ⟨m0', q', f1, f2, f3, f4, f5⟩ := kidAt ov.o2 hL2 gm
                      obtain rfl : k0 = k0' := Option.some.inj (hk0.symm.trans d1)
                      obtain rfl : m0 = m0' := Option.some.inj (hm0.symm.trans f1)
                      have d3 : ps[i0]? = some p' := d3
                      have f3 : qs[i0]? = some q' := f3
                      rw [c1, ← c3, List.getElem?_append_right (Nat.le_refl _), Nat.sub_self] at d3
                      rw [c2, ← c3, List.getElem?_append_right (Nat.le_refl _), Nat.sub_self] at f3
                      obtain rfl : p = p' := Option.some.inj d3
                      obtain rfl : qq = q' := Option.some.inj f3
                      have lex : gtB r (.node f ps) (.node f qs) = (gtB r p qq && qs'.all fun u => gtB r (.node f ps) u) := by
                        have hv2 := hv
                        rw [c1, c2] at hv2
                        have := gtB_novia_lex hv2 c4
                        rw [← c1, ← c2] at this
                        exact this
                      refine ⟨_, rfl, _, rfl, D4, _, 0, .ref b0, rfl, rfl, SqL.of e4, atI_nat (j := 0) rfl, tb, .bl (gtB r p qq), rfl, .inr ⟨kvs, [.inl ((k0 : Nat) : Int), .inl ((m0 : Nat) : Int)], b0, .inl ov4.t, rfl, hb0, (ov.tab _ _ _ _ d4 f4 (.inl d5)).symm⟩, gtB r p qq, rfl, ?_⟩
                      cases hpq : gtB r p qq with
                      | false =>
                        have q1 := q H4 s34
                        rw [lex, hpq] at q1
                        exact iteT q1
                      | true =>
                        refine iteF ?_
                        refine ⟨_, rfl, _, rfl, D4, _, rfl, SqL.of e4, fun p5 hp5 => ⟨p5, rfl, ⟨_, SqL.of upd_same⟩, fun D5 hD5 => ?_⟩⟩
                        rw [cut1] at hD5 ⊢
                        have sp5 : Same H4 (upd H4 p5 (.lst ys')) := same_new hp5
                        have hrl := hrest.len
                        have hul : (uIdx ps qs).length ≤ ps.length := by
                          unfold uIdx
                          have := List.length_filter_le (keepAt ps qs) (List.range ps.length)
                          rwa [List.length_range] at this
                        rw [r4g, List.length_cons] at hul
                        refine lcS (walk_list (K := K) (a := p5) (xs := ys')) (fun j y _ => y = .bl ((rest[j]?.map fun i => ((qs[i]?).map fun u => gtB r (.node f ps) u).getD true).getD true)) (fun _ => true) (by omega) hD5 (fun _ e => SqL.of (e _ _ upd_same)) (fun _ _ _ _ _ h => h) ?_ ?_
                        · rintro j1 z H5 H6 R R0 hi s5 ⟨rfl, hz⟩ k1 k2
                          obtain ⟨i1, g1, b1, kk, mm, rfl, g2, g3, g4⟩ := hrest.get hz
                          have gm : (ks2.map fun k => V.int ((k : Nat) : Int))[i1]? = some (.int ((mm : Nat) : Int)) := by rw [List.getElem?_map, g3]; rfl
                          obtain ⟨mm', q', f1', f2', f3', f4', f5'⟩ := kidAt ov.o2 hL2 gm
                          obtain rfl : mm = mm' := Option.some.inj (g3.symm.trans f1')
                          have f3' : qs[i1]? = some q' := f3'
                          refine ⟨b1, _, rfl, SqT.of (s5 _ _ (sp5 _ _ g4)), rfl, _, _, rfl, _, _, rfl, rfl, rfl, ?_⟩
                          refine ⟨_, rfl, _, rfl, _, rfl, len2 _ _, fun b hb => ⟨tb, _, rfl, .inr ⟨kvs, [.inl ((i : Nat) : Int), .inl ((mm : Nat) : Int)], b, .inl ((same_new hb) _ _ (s5 _ _ (sp5 _ _ ov4.t))), rfl, upd_same, (ov.tab _ _ _ _ e1 f4' (.inr ⟨rfl, f5'⟩)).symm⟩, k1 _ _ rfl (same_new hb) ?_⟩⟩
                          rw [g1]
                          show _ = V.bl (((qs[i1]?).map fun u => gtB r (.node f ps) u).getD true)
                          rw [f3']
                          rfl
                        · intro H5 zs s5 e5 r5
                          rw [range_all] at r5
                          obtain rfl := r5.eq (f := fun j => V.bl ((rest[j]?.map fun i => ((qs[i]?).map fun u => gtB r (.node f ps) u).getD true).getD true))
                          refine ⟨D5, (List.range ys'.length).map fun j => (rest[j]?.map fun i => ((qs[i]?).map fun u => gtB r (.node f ps) u).getD true).getD true, rfl, SqL.of (by rw [e5, List.map_map]; rfl), ?_⟩
                          have q1 := q H5 (s34.trans (sp5.trans s5))
                          rw [lex, hpq, Bool.true_and, all_unlike (f := f) (P := ps) c5 (fun x hx => by rw [c1]; exact List.mem_append_right _ (List.mem_cons_of_mem _ hx)), ← c6 (fun u => gtB r (.node f ps) u)] at q1
                          rw [← hrl, range_map_get, List.all_map]
                          exact q1
            · rw [decide_eq_false hfg]
              refine iteT ?_
              refine ⟨_, rfl, _, rfl, a1, _, 0, _, rfl, rfl, ha1, atI_nat (j := 0) rfl, ad, _, rfl, hm1.2 ▸ DGet.k (k := Sum.inr f) ov3.a, _, rfl, _, rfl, a2, _, 0, _, rfl, rfl, ha2, atI_nat (j := 0) rfl, ad, _, rfl, hm2.2 ▸ DGet.k (k := Sum.inr g) ov3.a, _, _, rfl, rfl, decide (r f < r g), congrArg V.bl (decide_eq_decide.mpr (by omega)), ?_⟩
              cases hlt : decide (r f < r g) with
              | false =>
                have q1 := q H3 s3
                rw [gtB_novia_prec hv hfg, hlt] at q1
                exact iteF q1
              | true =>
                refine iteT ?_
                refine ⟨_, rfl, l2, rfl, ⟨_, SqL.of hl2'⟩, fun D4 hD4 => ?_⟩
                refine lcS (walk_list (K := K) (a := l2) (xs := ks2.map fun k => V.int ((k : Nat) : Int))) (fun i y _ => y = .bl ((qs[i]?.map fun u => gtB r (.node f ps) u).getD true)) (fun _ => true) (by rw [List.length_map]; omega) hD4 (fun _ e => SqL.of (e _ _ hl2')) (fun _ _ _ _ _ h => h) ?_ ?_
                · rintro i0 z H' H'' R R0 hi s4 ⟨rfl, hz⟩ k1 k2
                  obtain ⟨mm, qq, hk2, rfl, hq, htm, hltm⟩ := kidAt ov.o2 hL2 hz
                  have hq : qs[i0]? = some qq := hq
                  refine ⟨rfl, _, rfl, _, rfl, _, rfl, len2 _ _, fun b hb => ⟨tb, _, rfl, .inr ⟨kvs, [.inl ((i : Nat) : Int), .inl ((mm : Nat) : Int)], b, .inl ((same_new hb) _ _ (s4 _ _ ov3.t)), rfl, upd_same, (ov.tab _ _ _ _ e1 htm (.inr ⟨rfl, hltm⟩)).symm⟩, k1 _ _ rfl (same_new hb) ?_⟩⟩
                  rw [hq]
                  rfl
                · intro H4 ys s4 e4 r4
                  rw [range_all] at r4
                  obtain rfl := r4.eq (f := fun i => V.bl ((qs[i]?.map fun u => gtB r (.node f ps) u).getD true))
                  refine ⟨D4, (List.range (ks2.map fun k => V.int ((k : Nat) : Int)).length).map fun i => (qs[i]?.map fun u => gtB r (.node f ps) u).getD true, rfl, SqL.of (by rw [e4, List.map_map]; rfl), ?_⟩
                  have q1 := q H4 (s3.trans s4)
                  rw [gtB_novia_prec hv hfg, hlt, Bool.true_and] at q1
                  rw [List.length_map, hqs, range_map_get, List.all_map]
                  exact q1
end
end Rk

/-! path_more_by, is_path_down -/
namespace Rk
open PySem PySem.Spec PyProof.Rows L2

section
variable {J : It} {n : Nat} {G : Hp → Prop} {Y : Nat → Hp → V → Hp → Prop}
/-- a dict comprehension over what is walked -/
theorem dcW (wk : Walk J n G Y) {g : TG} {tt : TT} {tk tv : TE} {vs : List Nat} {σ : L2.St} {H1 : Hp} {D : Addr} {Qd : Hp → Prop} (Pv : Nat → Hp → Prop) (h0 : Pv 0 (upd H1 D (.dK []))) (hG : ∀ i H, i ≤ n → Pv i H → G H)
    (hs : ∀ i x H H', i < n → Pv i H → Y i H x H' → g x (wipe σ vs) H' fun σ2 H2 => wipe σ2 vs = wipe σ vs ∧ tt σ2 H2 fun b H3 =>
      if b = true then tk σ2 H3 fun y H4 => tv σ2 H4 fun z H5 => ∃ kvs k, y = kV k ∧ H5 D = some (.dK kvs) ∧ kvs.length < sizeLine ∧ Pv (i + 1) (upd H5 D (.dK (putK kvs k z))) else Pv (i + 1) H3) (hd : ∀ H, Pv n H → Qd H) :
    ∃ W : Nat → Nat → Hp → Prop, (∃ m, W 0 m (upd H1 D (.dK []))) ∧ ∀ i m H, W i m H →
      (J.stop i H ∧ Qd H) ∨ (J.go i H ∧ ∃ Nx : Hp → Prop, (∀ H', Nx H' → ∃ m', m' < m ∧ W (i + 1) m' H') ∧ ∀ x H', J.yld i H x H' → g x (wipe σ vs) H' fun σ2 H2 => wipe σ2 vs = wipe σ vs ∧ tt σ2 H2 fun b H3 =>
        if b = true then tk σ2 H3 fun y H4 => tv σ2 H4 fun z H5 => ∃ kvs k, y = kV k ∧ H5 D = some (.dK kvs) ∧ kvs.length < sizeLine ∧ Nx (upd H5 D (.dK (putK kvs k z))) else Nx H3) := by
  refine ⟨fun i m H => m = n - i ∧ i ≤ n ∧ Pv i H, ⟨n, rfl, Nat.zero_le _, h0⟩, ?_⟩
  rintro i m H ⟨rfl, hi, p⟩
  by_cases hlt : i < n
  · exact .inr ⟨wk.goes i H hlt (hG i H hi p), Pv (i + 1), fun H' p' => ⟨n - (i + 1), by omega, rfl, hlt, p'⟩, fun x H' y => hs i x H H' hlt p (wk.yields i H x H' hlt (hG i H hi p) y)⟩
  · have e : i = n := by omega
    subst e
    exact .inl ⟨wk.stops H (hG i H hi p), hd H p⟩
end
/-- a rank, its dict -/
def rkO : Nat → List Str → List (Key × V)
  | _, [] => []
  | o, x :: r => (Sum.inr x, V.int ((o : Nat) : Int)) :: rkO (o + 1) r
abbrev rkK (rk : List Str) : List (Key × V) := rkO 0 rk
theorem rkO_snoc : ∀ (rk : List Str) (o : Nat) (x : Str), rkO o (rk ++ [x]) = rkO o rk ++ [(Sum.inr x, V.int ((o + rk.length : Nat) : Int))]
  | [], o, x => rfl
  | y :: rk, o, x => by
    rw [List.cons_append, rkO, rkO_snoc rk (o + 1) x, rkO, List.cons_append, List.length_cons, show o + 1 + rk.length = o + (rk.length + 1) by omega]
theorem rkO_none : ∀ {rk : List Str} {o : Nat} {x : Str}, x ∉ rk → valV (rkO o rk) (Sum.inr x) = none
  | [], _, _, _ => rfl
  | y :: rk, o, x, h => by
    rw [rkO, valV_neg (fun e => h (by injection e with e; rw [e]; exact List.mem_cons_self))]
    exact rkO_none fun z => h (List.mem_cons_of_mem _ z)
theorem rkO_some : ∀ {rk : List Str} {o : Nat} {x : Str}, x ∈ rk → valV (rkO o rk) (Sum.inr x) = some (.int ((o + rk.idxOf x : Nat) : Int))
  | [], _, _, h => by cases h
  | y :: rk, o, x, h => by
    rw [rkO]
    by_cases e : y = x
    · rw [e, valV_pos rfl, List.idxOf_cons_self]
      rfl
    · rw [valV_neg (fun z => e (by injection z)), rkO_some (o := o + 1) (by
        rcases List.mem_cons.mp h with q | q
        · exact absurd q.symm e
        · exact q), List.idxOf_cons, show (y == x) = false by simp [e], cond_false]
      rw [show o + 1 + rk.idxOf x = o + (rk.idxOf x + 1) by omega]
theorem rkK_some {rk : List Str} {x : Str} (h : x ∈ rk) : valV (rkK rk) (Sum.inr x) = some (.int ((rk.idxOf x : Nat) : Int)) := by
  have := rkO_some (o := 0) h
  rwa [Nat.zero_add] at this
def RkAt (K : PySem.W.Frag) (H : Hp) (v : V) (rk : List Str) : Prop := ∃ a, v = .ref a ∧ SqT K H a (rk.map V.str)
theorem RkAt.mono {K : PySem.W.Frag} {H H' : Hp} {v : V} {rk : List Str} (h : RkAt K H v rk) (e : Tk H H') : RkAt K H' v rk := by
  obtain ⟨a, h1, h2⟩ := h
  exact ⟨a, h1, e.t h2⟩
abbrev ixR (rk : List Str) : Str → Nat := fun x => rk.idxOf x
theorem putT_len (c : List (List Key × V)) (k : List Key) (x : V) : (putK c k x).length ≤ c.length + 1 := by
  unfold putK
  split
  · rw [List.length_map]; omega
  · rw [List.length_append]; exact Nat.le_refl _
/-- the table as far as it is filled: all behind (i, j) -/
def TabI (r : Str → Nat) (kvs : List (List Key × V)) (L1 L2 : Nd) (i j : Int) : Prop := ∀ (k m : Nat) s1 s2, tmAt L1 k = some s1 → tmAt L2 m = some s2 → (i < (k : Int) ∨ ((k : Int) = i ∧ j < (m : Int))) → valV kvs [.inl ((k : Nat) : Int), .inl ((m : Nat) : Int)] = some (.bl (gtB r s1 s2))
theorem TabI.put {r : Str → Nat} {kvs : List (List Key × V)} {L1 L2 : Nd} {i j : Nat} {s1 s2 : Tm} (h : TabI r kvs L1 L2 i j) (e1 : tmAt L1 i = some s1) (e2 : tmAt L2 j = some s2) :
    TabI r (putK kvs [.inl ((i : Nat) : Int), .inl ((j : Nat) : Int)] (.bl (gtB r s1 s2))) L1 L2 i ((j : Int) - 1) := by
  intro k m t1 t2 h1 h2 hc
  rw [valV_put]
  by_cases e : [(Sum.inl ((k : Nat) : Int) : Key), .inl ((m : Nat) : Int)] = [.inl ((i : Nat) : Int), .inl ((j : Nat) : Int)]
  · rw [if_pos e]
    injection e with e3 e4
    injection e4 with e5 _
    injection e3 with e3
    injection e5 with e5
    have e3 : k = i := by omega
    have e5 : m = j := by omega
    subst e3 e5
    rw [Option.some.inj (e1.symm.trans h1), Option.some.inj (e2.symm.trans h2)]
  · rw [if_neg e]
    refine h k m t1 t2 h1 h2 ?_
    rcases hc with hc | ⟨hc1, hc2⟩
    · exact .inl hc
    · refine .inr ⟨hc1, ?_⟩
      have : m ≠ j := fun z => e (by rw [z, show k = i by omega])
      omega
theorem tmAt_lt {L : Nd} {k : Nat} {s : Tm} (h : tmAt L k = some s) : k < L.length := by
  unfold tmAt at h
  cases q : L[k]? with
  | none => rw [q] at h; cases h
  | some u => exact (List.getElem?_eq_some_iff.mp q).1
theorem tmAt_some {L : Nd} {k : Nat} (h : k < L.length) : ∃ s, tmAt L k = some s := ⟨_, by unfold tmAt; rw [List.getElem?_eq_getElem h]; rfl⟩
section
variable {P : Program} {w : World} {K : PySem.W.Frag} {mg : Str → Option Value} {base : Heap}
/-- terms over a good book, ranked names -/
structure GoodT (B : Bk) (rk : List Str) (t : Tm) : Prop where
  ok : okT B t
  sz : t.sz ≤ 7
theorem nm_of {B : Bk} {rk : List Str} {L : Nd} (nb : (B.map (·.1)).Nodup) (hin : ∀ s ∈ B, s.1 ∈ rk) (ho : ∀ k s, tmAt L k = some s → okT B s) : Nm (rkK rk) (ixR rk) (fun x => ((B.find? fun s => decide (s.1 = x)).map (·.2)).getD 0) L := by
  intro k f ps e
  have h := ho k _ e
  rw [okT] at h
  refine ⟨?_, rkK_some (hin _ h.1)⟩
  have : ∀ B : Bk, (B.map (·.1)).Nodup → (f, ps.length) ∈ B → (B.find? fun s => decide (s.1 = f)) = some (f, ps.length) := by
    intro B
    induction B with
    | nil => intro _ h; cases h
    | cons s B ih =>
      intro nb h
      rw [List.map_cons, List.nodup_cons] at nb
      rw [List.find?_cons]
      rcases List.mem_cons.mp h with e | h
      · rw [← e]; simp
      · have ne : s.1 ≠ f := fun e => nb.1 (by rw [e]; exact List.mem_map.mpr ⟨_, h, rfl⟩)
        simp only [ne, decide_false]
        exact ih nb.2 h
  show _ = (((B.find? fun s => decide (s.1 = f)).map (·.2)).getD 0)
  rw [this B nb h.1]
  rfl
def spPMB (K : PySem.W.Frag) : Sp := fun vs H Q _ => ∃ x y z B rk t1 t2, vs = [x, y, z] ∧ RkAt K H x rk ∧ rk.Nodup ∧ rk.length ≤ 5 ∧ GoodBook B ∧ (∀ s ∈ B, s.1 ∈ rk) ∧ TmAt K H y t1 ∧ TmAt K H z t2 ∧ okT B t1 ∧ okT B t2 ∧ t1.sz ≤ 7 ∧ t2.sz ≤ 7 ∧
  ∀ H', Same H H' → Q (.bl (gtB (ixR rk) t1 t2)) H'
theorem ok_pmb {f : Addr} {fd : FuncData} {k : Nat} (F : Fun K "path_more_by" "path_more_by" sPMB f fd) (T : Txt mg) (C1 : Def P w K mg base k "nodes_of" pNds (spNds K)) (C2 : Def P w K mg base k "is_over" pOver (spOver K)) : FnOk P w K mg base CX0 (k + 1) f fd pPMB (spPMB K) := by
  refine F.ok scPMB (fun vs H Q E h => ?_) (fun cdv A outer s H vs Q E hr h => ?_)
  · obtain ⟨x, y, z, B, rk, t1, t2, rfl, _⟩ := h
    rfl
  · obtain ⟨x, y, z, B, rk, t1, t2, rfl, ⟨ra, rfl, hra⟩, nd, hrl, gb, hin, hy, hz, ho1, ho2, hz1, hz2, q⟩ := h
    have hu := hu_of hr
    refine ⟨_, pss_cons (ps_setDc (i := 3) (own := [("k", 9), ("name", 10)]) (g := gTup K 2 (gCons (gName 9) (gCons (gName 10) gNil))) (tt := tYes) rfl scPMB.nd rfl rfl (by rfl) (pi_enumT (by rfl) T.enumerate (pa_cons (pv 0) pa_nil)) (blkOk_by (N := nPMB) (sc := defScope sPMB) (by decide +kernel))
        (fun _ _ _ _ _ => pg_tup rfl (pgs_cons (pg_name (i := 9) scPMB.nd rfl (Or.inl rfl)) (pgs_cons (pg_name (i := 10) scPMB.nd rfl (Or.inl rfl)) pgs_nil))) (fun _ _ _ _ _ => pts_nil) (fun _ _ _ _ _ => pv 10) (fun _ _ _ _ _ => pv 9))
      (pss_cons (ps_par (i := 4) (j := 5) rfl scPMB.nd rfl rfl (by decide) rfl rfl (pa_cons (pe_call C1.G hr (by rfl) C1.g C1.kp C1.b .nil pass0 (pa_cons (pv 1) pa_nil)) (pa_cons (pe_call C1.G hr (by rfl) C1.g C1.kp C1.b .nil pass0 (pa_cons (pv 2) pa_nil)) pa_nil)) (by rfl))
      (pss_cons (ps_set (i := 6) scPMB.nd rfl (Or.inl rfl) pe_dnewT)
      (pss_cons (ps_for PassesOwn.never rfl (pi_revR (by rfl) T.reversed (prg_1 (by rfl) T.range (pe_callB call_len_seq (by rfl) T.len (by decide +kernel) (pa_cons (pv 4) pa_nil)))) (pg_name (i := 7) scPMB.nd rfl (Or.inl rfl))
        (pss_one (ps_for PassesOwn.never rfl (pi_revR (by rfl) T.reversed (prg_1 (by rfl) T.range (pe_callB call_len_seq (by rfl) T.len (by decide +kernel) (pa_cons (pv 5) pa_nil)))) (pg_name (i := 8) scPMB.nd rfl (Or.inl rfl))
          (pss_one (ps_dput hu (pv 6) (pe_tup (pa_cons (pv 7) (pa_cons (pv 8) pa_nil))) (pe_call C2.G hr (by rfl) C2.g C2.kp C2.b .nil pass0 (pa_cons (pv 3) (pa_cons (pv 4) (pa_cons (pv 5) (pa_cons (pv 6) (pa_cons (pv 7) (pa_cons (pv 8) pa_nil))))))) (by rfl))))))
      (pss_one (ps_ret (pe_dget hu (pv 6) (pe_tup (pa_cons pe_int (pa_cons pe_int pa_nil))) (fun _ _ => rfl))))))), ?_⟩
    have hBg : ∀ s ∈ B, GoodName s.1 := fun s hs => (gb.signs s hs).1
    refine ⟨_, rfl, ra, _, rfl, hra, fun ad had => ?_⟩
    refine dcW (walk_enumT (K := K) (a := ra) (xs := rk.map V.str)) (fun i H' => Same H H' ∧ H' ad = some (.dK (rkK (rk.take i)))) ⟨same_new had, upd_same⟩ (fun i H' _ h => (tk_same h.1).t hra) ?_ ?_
    · rintro i x H1 H2 hi ⟨sm, hd⟩ ⟨T', x1, x2, rfl, nT, rfl, e1, e2⟩
      obtain rfl : V.int (i : Nat) = x1 := Option.some.inj e1
      rw [List.length_map] at hi
      have e2 : (rk.map V.str)[i]? = some x2 := e2
      rw [List.getElem?_map, List.getElem?_eq_getElem hi] at e2
      obtain rfl : V.str rk[i] = x2 := Option.some.inj e2
      have sN : Same H1 (upd H1 T' (.tup [.int (i : Nat), .str rk[i]])) := same_new nT
      refine ⟨T', _, rfl, SqT.of upd_same, rfl, _, _, rfl, _, _, rfl, rfl, rfl, _, rfl, _, rfl, rkK (rk.take i), Sum.inr rk[i], rfl, sN _ _ hd, ?_, same_mut (sm.trans sN) had, ?_⟩
      · have : ∀ (o : Nat) (l : List Str), (rkO o l).length = l.length := by
          intro o l
          induction l generalizing o with
          | nil => rfl
          | cons a l ih => rw [rkO, List.length_cons, ih, List.length_cons]
        rw [this, List.length_take]
        exact small_line (by omega)
      · rw [upd_same, putK_new _ (rkO_none (by
          intro hm
          rw [List.mem_iff_getElem] at hm
          obtain ⟨j, hj, e⟩ := hm
          rw [List.length_take] at hj
          rw [List.getElem_take] at e
          exact List.pairwise_iff_getElem.mp nd j i (by omega) hi (by omega) e)), List.take_add_one, List.getElem?_eq_getElem hi]
        show some (HO.dK _) = some (HO.dK (rkO 0 (rk.take i ++ [rk[i]])))
        rw [rkO_snoc, List.length_take, show 0 + min i rk.length = i by omega]
    · rintro H1 ⟨s1, hd⟩
      rw [List.length_map, List.take_length] at hd
      refine ⟨_, rfl, _, t1, rfl, hy.mono (tk_same s1), hz1, fun v1 L1 H2 s2 n1 o1 a1 l1 sub1 => ⟨_, rfl, _, t2, rfl, hz.mono (tk_same (s1.trans s2)), hz2, fun v2 L2 H3 s3 n2 o2 a2 l2 sub2 => ⟨v1, v2, rfl, fun tb htb => ?_⟩⟩⟩
      have n1' := n1.same s3
      have n1'' := n1'
      have n2'' := n2
      obtain ⟨F1, xs1, rfl, hF1, hx1, _⟩ := n1''
      obtain ⟨F2, xs2, rfl, hF2, hx2, _⟩ := n2''
      have hd3 := s3 _ _ (s2 _ _ hd)
      have nb := asc_nd gb
      have ovOf : ∀ (H' : Hp) (kvs : List (List Key × V)) (i j : Nat), Same H3 H' → H' tb = some (.dT kvs) → TabI (ixR rk) kvs L1 L2 i j → OvA K H' ad tb (.ref F1) (.ref F2) (rkK rk) kvs (ixR rk) (fun x => ((B.find? fun s => decide (s.1 = x)).map (·.2)).getD 0) L1 L2 i j := fun H' kvs i j sm ht tab =>
        ⟨sm _ _ hd3, n1'.same sm, o1, n2.same sm, o2, ht, nm_of nb hin fun k s e => (sub1 k s e).ok ho1, nm_of nb hin fun k s e => (sub2 k s e).ok ho2,
          fun k s e => ⟨Nat.le_trans (sub1 k s e).sz hz1, shaped_tm hBg ((sub1 k s e).ok ho1) (Nat.le_trans (sub1 k s e).sz hz1)⟩, fun k s e => ⟨Nat.le_trans (sub2 k s e).sz hz2, shaped_tm hBg ((sub2 k s e).ok ho2) (Nat.le_trans (sub2 k s e).sz hz2)⟩,
          fun k m s1 s2 e1 e2 hc => tab k m s1 s2 e1 e2 (by omega)⟩
      have n1e : ((xs1.length : Nat) : Int) = (L1.length : Int) := by rw [hx1]
      have n2e : ((xs2.length : Nat) : Int) = (L2.length : Int) := by rw [hx2]
      have sT : Same H3 (upd H3 tb (.dT [])) := same_new htb
      refine ⟨_, rfl, F1, _, rfl, .inl (SqL.of (sT _ _ hF1)), _, rfl, by omega, by omega, by omega, by omega, ?_⟩
      rw [hx1, show (((L1.length : Nat) : Int) - 0).toNat = L1.length by omega]
      refine for_it walk_rangeC (fun p σ H' => Same H3 H' ∧ (∃ kvs, H' tb = some (.dT kvs) ∧ TabI (ixR rk) kvs L1 L2 ((L1.length : Int) - 1 - p) (L2.length : Int) ∧ kvs.length ≤ p * 7) ∧ ∃ y7 y8, σ = [some (.ref ra), some y, some z, some (.ref ad), some (.ref F1), some (.ref F2), some (.ref tb), y7, y8, none, none]) ⟨sT, ⟨[], upd_same, fun k m s1 s2 e1 e2 hc => ?_, Nat.zero_le _⟩, none, none, rfl⟩ (fun _ _ _ _ _ => True.intro) ?_ ?_
      · have := tmAt_lt e1
        have := tmAt_lt e2
        omega
      · rintro p x σ H4 H5 hp ⟨sm, ⟨kvs, ht, tab, kl⟩, y7, y8, rfl⟩ ⟨rfl, hx⟩
        have hx : x = V.int ((L1.length - 1 - p : Nat) : Int) := hx.trans (congrArg V.int (show (0 + ((L1.length : Nat) : Int) - 1 + (p : Nat) * (-1)) = ((L1.length - 1 - p : Nat) : Int) by omega))
        subst hx
        have hp7 : p < 7 := by omega
        refine ⟨_, rfl, F2, _, rfl, .inl (SqL.of (sm _ _ hF2)), _, rfl, by omega, by omega, by omega, by omega, ?_⟩
        rw [hx2, show (((L2.length : Nat) : Int) - 0).toNat = L2.length by omega]
        refine for_it walk_rangeC (fun q σ H' => Same H3 H' ∧ (∃ kvs, H' tb = some (.dT kvs) ∧ TabI (ixR rk) kvs L1 L2 ((L1.length - 1 - p : Nat) : Int) ((L2.length : Int) - 1 - q) ∧ kvs.length ≤ p * 7 + q) ∧ ∃ y8, σ = [some (.ref ra), some y, some z, some (.ref ad), some (.ref F1), some (.ref F2), some (.ref tb), some (.int ((L1.length - 1 - p : Nat) : Int)), y8, none, none]) ⟨sm, ⟨kvs, ht, fun k m s1 s2 e1 e2 hc => tab k m s1 s2 e1 e2 ?_, by omega⟩, y8, rfl⟩ (fun _ _ _ _ _ => True.intro) ?_ ?_
        · have := tmAt_lt e1
          have := tmAt_lt e2
          omega
        · rintro q' x σ H6 H7 hq ⟨sm, ⟨kvs, ht, tab, kl⟩, y8, rfl⟩ ⟨rfl, hx⟩
          have hx : x = V.int ((L2.length - 1 - q' : Nat) : Int) := hx.trans (congrArg V.int (show (0 + ((L2.length : Nat) : Int) - 1 + (q' : Nat) * (-1)) = ((L2.length - 1 - q' : Nat) : Int) by omega))
          subst hx
          have hq7 : q' < 7 := by omega
          obtain ⟨u1, g1⟩ := tmAt_some (L := L1) (k := L1.length - 1 - p) (by omega)
          obtain ⟨u2, g2⟩ := tmAt_some (L := L2) (k := L2.length - 1 - q') (by omega)
          have tab' : TabI (ixR rk) kvs L1 L2 ((L1.length - 1 - p : Nat) : Int) ((L2.length - 1 - q' : Nat) : Int) := fun k m s1 s2 e1 e2 hc => tab k m s1 s2 e1 e2 (by omega)
          have tabN := tab'.put g1 g2
          refine ⟨_, rfl, _, rfl, _, rfl, _, rfl, _, rfl, _, rfl, ad, tb, _, _, rkK rk, kvs, ixR rk, _, L1, L2, _, _, u1, u2, rfl, ovOf _ kvs _ _ sm ht tab', g1, g2, fun H8 s8 => ⟨_, rfl, _, rfl, _, rfl, len2 _ _, fun b hb => ⟨tb, _, rfl, .inr ⟨kvs, [.inl _, .inl _], b, (same_new hb) _ _ (s8 _ _ ht), rfl, upd_same, small_line (by omega), rfl⟩, ?_⟩⟩⟩
          refine ⟨same_mut (sm.trans (s8.trans (same_new hb))) htb, ⟨_, upd_same, fun k m s1 s2 e1 e2 hc => tabN k m s1 s2 e1 e2 (by omega), ?_⟩, _, rfl⟩
          have := putT_len kvs [.inl ((L1.length - 1 - p : Nat) : Int), .inl ((L2.length - 1 - q' : Nat) : Int)] (.bl (gtB (ixR rk) u1 u2))
          omega
        · rintro σ H6 ⟨sm, ⟨kvs, ht, tab, kl⟩, y8, rfl⟩
          refine ⟨sm, ⟨kvs, ht, fun k m s1 s2 e1 e2 hc => tab k m s1 s2 e1 e2 ?_, by omega⟩, _, _, rfl⟩
          have := tmAt_lt e1
          have := tmAt_lt e2
          omega
      · rintro σ H4 ⟨sm, ⟨kvs, ht, tab, kl⟩, y7, y8, rfl⟩
        refine ⟨_, rfl, len2 _ _, fun b hb => ⟨tb, _, rfl, .inr ⟨kvs, [.inl ((0 : Nat) : Int), .inl ((0 : Nat) : Int)], b, .inl ((same_new hb) _ _ ht), rfl, upd_same, (tab 0 0 t1 t2 a1 a2 (by omega)).symm⟩, q _ (((s1.trans s2).trans s3).trans (sm.trans (same_new hb)))⟩⟩
end
end Rk

/-! is_path_down, ranks_by, path_ranks -/
namespace Rk
open PySem PySem.Spec PyProof.Rows L2

section
variable {J : It} {n : Nat} {G : Hp → Prop} {Y : Nat → Hp → V → Hp → Prop}
/-- two walks, one in the other: the outer one -/
theorem lc2_out (wk : Walk J n G Y) {g : TG} {tt : TT} {wi1 : TI} {g1 : TG} {tt1 : TT} {te : TE} {vs vs1 : List Nat} {σ : L2.St} {H1 : Hp} {D : Addr} {Qd : Hp → Prop} (Pv : Nat → Hp → Prop) (h0 : Pv 0 (upd H1 D (.lst []))) (hG : ∀ i H, i ≤ n → Pv i H → G H)
    (hs : ∀ i x H H', i < n → Pv i H → Y i H x H' → g x (wipe σ vs) H' fun σ2 H2 => wipe σ2 vs = wipe σ vs ∧ tt σ2 H2 fun b H3 =>
      if b = true then wi1 σ2 H3 fun J1 H4 => ∃ W1 : Nat → Nat → Hp → Prop, (∃ m, W1 0 m H4) ∧ ∀ j k H, W1 j k H →
        (J1.stop j H ∧ Pv (i + 1) H) ∨ (J1.go j H ∧ ∃ Nx1 : Hp → Prop, (∀ H', Nx1 H' → ∃ k', k' < k ∧ W1 (j + 1) k' H') ∧ ∀ x H', J1.yld j H x H' → g1 x (wipe σ2 vs1) H' fun σ3 H5 => wipe σ3 vs1 = wipe σ2 vs1 ∧ tt1 σ3 H5 fun b H6 =>
          if b = true then te σ3 H6 fun y H7 => ∃ acc, H7 D = some (.lst acc) ∧ acc.length < sizeLine ∧ Nx1 (upd H7 D (.lst (acc ++ [y]))) else Nx1 H6)
      else Pv (i + 1) H3) (hd : ∀ H, Pv n H → Qd H) :
    ∃ W : Nat → Nat → Hp → Prop, (∃ m, W 0 m (upd H1 D (.lst []))) ∧ ∀ i m H, W i m H →
      (J.stop i H ∧ Qd H) ∨ (J.go i H ∧ ∃ Nx : Hp → Prop, (∀ H', Nx H' → ∃ m', m' < m ∧ W (i + 1) m' H') ∧ ∀ x H', J.yld i H x H' → g x (wipe σ vs) H' fun σ2 H2 => wipe σ2 vs = wipe σ vs ∧ tt σ2 H2 fun b H3 =>
        if b = true then wi1 σ2 H3 fun J1 H4 => ∃ W1 : Nat → Nat → Hp → Prop, (∃ m, W1 0 m H4) ∧ ∀ j k H, W1 j k H →
          (J1.stop j H ∧ Nx H) ∨ (J1.go j H ∧ ∃ Nx1 : Hp → Prop, (∀ H', Nx1 H' → ∃ k', k' < k ∧ W1 (j + 1) k' H') ∧ ∀ x H', J1.yld j H x H' → g1 x (wipe σ2 vs1) H' fun σ3 H5 => wipe σ3 vs1 = wipe σ2 vs1 ∧ tt1 σ3 H5 fun b H6 =>
            if b = true then te σ3 H6 fun y H7 => ∃ acc, H7 D = some (.lst acc) ∧ acc.length < sizeLine ∧ Nx1 (upd H7 D (.lst (acc ++ [y]))) else Nx1 H6)
        else Nx H3) := by
  refine ⟨fun i m H => m = n - i ∧ i ≤ n ∧ Pv i H, ⟨n, rfl, Nat.zero_le _, h0⟩, ?_⟩
  rintro i m H ⟨rfl, hi, p⟩
  by_cases hlt : i < n
  · exact .inr ⟨wk.goes i H hlt (hG i H hi p), Pv (i + 1), fun H' p' => ⟨n - (i + 1), by omega, rfl, hlt, p'⟩, fun x H' y => hs i x H H' hlt p (wk.yields i H x H' hlt (hG i H hi p) y)⟩
  · have e : i = n := by omega
    subst e
    exact .inl ⟨wk.stops H (hG i H hi p), hd H p⟩
/-- .. the inner one -/
theorem lc2_in (wk : Walk J n G Y) {g1 : TG} {tt1 : TT} {te : TE} {vs1 : List Nat} {σ2 : L2.St} {H4 : Hp} {D : Addr} {Nx : Hp → Prop} (Pv : Nat → Hp → Prop) (h0 : Pv 0 H4) (hG : ∀ i H, i ≤ n → Pv i H → G H)
    (hs : ∀ i x H H', i < n → Pv i H → Y i H x H' → g1 x (wipe σ2 vs1) H' fun σ3 H5 => wipe σ3 vs1 = wipe σ2 vs1 ∧ tt1 σ3 H5 fun b H6 =>
      if b = true then te σ3 H6 fun y H7 => ∃ acc, H7 D = some (.lst acc) ∧ acc.length < sizeLine ∧ Pv (i + 1) (upd H7 D (.lst (acc ++ [y]))) else Pv (i + 1) H6) (hd : ∀ H, Pv n H → Nx H) :
    ∃ W1 : Nat → Nat → Hp → Prop, (∃ m, W1 0 m H4) ∧ ∀ j k H, W1 j k H →
      (J.stop j H ∧ Nx H) ∨ (J.go j H ∧ ∃ Nx1 : Hp → Prop, (∀ H', Nx1 H' → ∃ k', k' < k ∧ W1 (j + 1) k' H') ∧ ∀ x H', J.yld j H x H' → g1 x (wipe σ2 vs1) H' fun σ3 H5 => wipe σ3 vs1 = wipe σ2 vs1 ∧ tt1 σ3 H5 fun b H6 =>
        if b = true then te σ3 H6 fun y H7 => ∃ acc, H7 D = some (.lst acc) ∧ acc.length < sizeLine ∧ Nx1 (upd H7 D (.lst (acc ++ [y]))) else Nx1 H6) := by
  refine ⟨fun i m H => m = n - i ∧ i ≤ n ∧ Pv i H, ⟨n, rfl, Nat.zero_le _, h0⟩, ?_⟩
  rintro i m H ⟨rfl, hi, p⟩
  by_cases hlt : i < n
  · exact .inr ⟨wk.goes i H hlt (hG i H hi p), Pv (i + 1), fun H' p' => ⟨n - (i + 1), by omega, rfl, hlt, p'⟩, fun x H' y => hs i x H H' hlt p (wk.yields i H x H' hlt (hG i H hi p) y)⟩
  · have e : i = n := by omega
    subst e
    exact .inl ⟨wk.stops H (hG i H hi p), hd H p⟩
end

/-- ranks that stand in a row -/
def RkAll (K : PySem.W.Frag) (H : Hp) (xs : List V) (R : List (List Str)) : Prop := xs.length = R.length ∧ ∀ (i : Nat) x rk, xs[i]? = some x → R[i]? = some rk → RkAt K H x rk
theorem RkAll.tk {K : PySem.W.Frag} {H H' : Hp} {xs : List V} {R : List (List Str)} (h : RkAll K H xs R) (e : Tk H H') : RkAll K H' xs R := ⟨h.1, fun i x rk h1 h2 => (h.2 i x rk h1 h2).mono e⟩
theorem RkAll.snoc {K : PySem.W.Frag} {H : Hp} {xs : List V} {R : List (List Str)} (h : RkAll K H xs R) {x : V} {rk : List Str} (hx : RkAt K H x rk) : RkAll K H (xs ++ [x]) (R ++ [rk]) := by
  refine ⟨by rw [List.length_append, List.length_append, h.1]; rfl, fun i y r h1 h2 => ?_⟩
  by_cases hi : i < xs.length
  · rw [List.getElem?_append_left hi] at h1
    rw [List.getElem?_append_left (by rw [← h.1]; exact hi)] at h2
    exact h.2 i y r h1 h2
  · have hi' := (List.getElem?_eq_some_iff.mp h1).1
    rw [List.length_append] at hi'
    have e1 : [x].length = 1 := rfl
    have ei : i = xs.length := by omega
    subst ei
    rw [List.getElem?_append_right (Nat.le_refl _), Nat.sub_self] at h1
    rw [List.getElem?_append_right (by rw [h.1]; exact Nat.le_refl _), h.1, Nat.sub_self] at h2
    obtain rfl : x = y := Option.some.inj h1
    obtain rfl : rk = r := Option.some.inj h2
    exact hx
theorem RkAll.get {K : PySem.W.Frag} {H : Hp} {xs : List V} {R : List (List Str)} (h : RkAll K H xs R) {i : Nat} {x : V} (e : xs[i]? = some x) : ∃ rk, R[i]? = some rk ∧ RkAt K H x rk := by
  have hi : i < R.length := by rw [← h.1]; exact (List.getElem?_eq_some_iff.mp e).1
  exact ⟨_, List.getElem?_eq_getElem hi, h.2 i x _ e (List.getElem?_eq_getElem hi)⟩
theorem inV_strs (n : Str) (r : List Str) : inV (.str n) (r.map V.str) = decide (n ∈ r) := by
  unfold inV
  rw [List.any_map]
  induction r with
  | nil => rfl
  | cons a r ih =>
    rw [List.any_cons, ih]
    show (a == n || decide (n ∈ r)) = decide (n ∈ a :: r)
    by_cases e : n = a
    · subst e; simp
    · have : ¬ a = n := fun z => e z.symm
      simp [e, this]
theorem flat_strs (r : List Str) : (r.map V.str).all flatV = true := by
  rw [List.all_map]
  exact List.all_eq_true.mpr fun _ _ => rfl
section
variable {P : Program} {w : World} {K : PySem.W.Frag} {mg : Str → Option Value} {base : Heap}
theorem len_extR (ns : List Str) : ∀ F : List (List Str), (extR ns F).length ≤ F.length * ns.length
  | [] => Nat.zero_le _
  | r :: F => by
    have ih := len_extR ns F
    unfold extR at ih ⊢
    rw [List.flatMap_cons, List.length_append, List.length_map, List.length_cons, Nat.succ_mul]
    have := List.length_filter_le (fun n => !decide (n ∈ r)) ns
    omega
/-! ### is_path_down -/
def spPDn (K : PySem.W.Frag) : Sp := fun vs H Q _ => ∃ x y B rk L, vs = [x, y] ∧ RkAt K H x rk ∧ rk.Nodup ∧ rk.length ≤ 5 ∧ GoodBook B ∧ (∀ s ∈ B, s.1 ∈ rk) ∧ LotAt K H y L ∧ GoodLot B L ∧
  ∀ H', Same H H' → Q (.bl (L.all fun r => gtB (ixR rk) r.1 r.2)) H'
theorem ok_pdn {f : Addr} {fd : FuncData} {k : Nat} (F : Fun K "is_path_down" "is_path_down" sPDn f fd) (T : Txt mg) (C : Def P w K mg base k "path_more_by" pPMB (spPMB K)) : FnOk P w K mg base CX0 (k + 1) f fd pPDn (spPDn K) := by
  refine F.ok scPDn (fun vs H Q E h => ?_) (fun cdv A outer s H vs Q E hr h => ?_)
  · obtain ⟨x, y, B, rk, L, rfl, _⟩ := h
    rfl
  · obtain ⟨x, y, B, rk, L, rfl, hx, nd, hrl, gb, hin, ⟨a, xs, rfl, h1, h2, h5⟩, gl, q⟩ := h
    refine ⟨_, pss_one (ps_ret (pe_callB (cr_all rfl) (by rfl) T.all (by decide +kernel) (pa_cons
      (pe_lc (own := [("left", 2), ("right", 3)]) (g := gTup K 2 (gCons (gName 2) (gCons (gName 3) gNil))) (tt := tYes) rfl scPDn.nd (pi_tup (pv 1)) (blkOk_by (N := nPDn) (sc := defScope sPDn) (by decide +kernel))
        (fun _ _ _ _ _ => pg_tup rfl (pgs_cons (pg_name (i := 2) scPDn.nd rfl (Or.inl rfl)) (pgs_cons (pg_name (i := 3) scPDn.nd rfl (Or.inl rfl)) pgs_nil))) (fun _ _ _ _ _ => pts_nil)
        (fun _ _ _ _ _ => pe_call C.G hr (by rfl) C.g C.kp C.b .nil pass0 (pa_cons (pv 0) (pa_cons (pv 2) (pa_cons (pv 3) pa_nil))))) pa_nil))), ?_⟩
    have few := gl.few
    refine ⟨_, rfl, a, rfl, ⟨_, h1⟩, fun D hD => ?_⟩
    refine lcS (walk_tup (K := K) (a := a) (xs := xs)) (fun i y _ => y = .bl ((L[i]?.map fun r => gtB (ixR rk) r.1 r.2).getD true)) (fun _ => true) (by omega) hD (fun _ e => (tk_same e).t h1) (fun _ _ _ _ _ h => h) ?_ ?_
    · rintro i z H' H'' R R0 hi s3 ⟨rfl, hz⟩ k1 k2
      obtain ⟨r, e3, b, tl, tr, rfl, e4, e5, e6⟩ := h5 i _ hz
      have hm := List.mem_of_getElem? e3
      have ts := tk_same s3
      refine ⟨b, _, rfl, ts.t e4, rfl, _, _, rfl, _, _, rfl, rfl, rfl, ?_⟩
      refine ⟨_, rfl, _, rfl, _, rfl, _, _, _, B, rk, r.1, r.2, rfl, hx.mono ts, nd, hrl, gb, hin, e5.mono ts, e6.mono ts, (gl.ok r hm).1, (gl.ok r hm).2, (gl.sz r hm).1, (gl.sz r hm).2, fun H3 s4 => k1 _ _ rfl s4 ?_⟩
      rw [e3]
      rfl
    · intro H3 ys s3 e r
      rw [range_all] at r
      obtain rfl := r.eq (f := fun i => V.bl ((L[i]?.map fun r => gtB (ixR rk) r.1 r.2).getD true))
      refine ⟨D, (List.range xs.length).map fun i => (L[i]?.map fun r => gtB (ixR rk) r.1 r.2).getD true, rfl, SqL.of (by rw [e, List.map_map]; rfl), ?_⟩
      have q1 := q H3 s3
      rw [h2, range_map_get, List.all_map]
      exact q1
/-! ### ranks_by -/
def spRks (K : PySem.W.Frag) : Sp := fun vs H Q _ => ∃ x B, vs = [x] ∧ BookAt K H x B ∧ GoodBook B ∧ ∀ F xs H', Same H H' → H' F = some (.lst xs) → RkAll K H' xs (rks (B.map (·.1)) B.length) → Q (.ref F) H'
theorem ok_rks {f : Addr} {fd : FuncData} {k : Nat} (F : Fun K "ranks_by" "ranks_by" sRks f fd) (T : Txt mg) : FnOk P w K mg base CX0 (k + 1) f fd pRks (spRks K) := by
  refine F.ok scRks (fun vs H Q E h => ?_) (fun cdv A outer s H vs Q E hr h => ?_)
  · obtain ⟨x, B, rfl, _⟩ := h
    rfl
  · obtain ⟨x, B, rfl, hB, gb, q⟩ := h
    obtain ⟨a, xs, rfl, h1, h2, h3⟩ := id hB
    have fewB := gb.few
    refine ⟨_, pss_cons (ps_set (i := 1) scRks.nd rfl (Or.inr rfl)
        (pe_lc (own := [("name", 4), ("places", 5)]) (g := gTup K 2 (gCons (gName 4) (gCons (gName 5) gNil))) (tt := tYes) rfl scRks.nd (pi_tup (pv 0)) (blkOk_by (N := nRks) (sc := defScope sRks) (by decide +kernel))
          (fun _ _ _ _ _ => pg_tup rfl (pgs_cons (pg_name (i := 4) scRks.nd rfl (Or.inl rfl)) (pgs_cons (pg_name (i := 5) scRks.nd rfl (Or.inl rfl)) pgs_nil))) (fun _ _ _ _ _ => pts_nil) (fun _ _ _ _ _ => pv 4)))
      (pss_cons (ps_set (i := 2) scRks.nd rfl (Or.inl rfl) (pe_lst (pa_cons (pe_tup pa_nil) pa_nil)))
      (pss_cons (ps_for PassesOwn.never rfl (pi_range1 (by rfl) T.range (pa_cons (pe_callB call_len_seq (by rfl) T.len (by decide +kernel) (pa_cons (pv 1) pa_nil)) pa_nil)) (pg_name (i := 3) scRks.nd rfl (Or.inl rfl))
        (pss_one (ps_setLc2 (i := 2) (own := [("rank", 6), ("name", 4)]) (vs1 := [4]) (g := gName 6) (g1 := gName 4) (tt := tYes) (wi1 := iList K (tVar 1)) (tt1 := tTest (tOp (rIn K true) (tVar 4) (tVar 6))) (te := tTup (StX.tStar K (tVar 6) (tCons (tVar 4) tNil))) rfl scRks.nd rfl rfl (by rfl) (pi_list (pv 2)) (blkOk_by (N := nRks) (sc := defScope sRks) (by decide +kernel)) (by decide)
          (fun _ _ _ _ _ => pg_name (i := 6) scRks.nd rfl (Or.inl rfl)) (fun _ _ _ _ _ => pts_nil)
          (fun _ _ _ _ _ => pi_list (pv 1)) (fun _ _ _ _ _ => pg_name (i := 4) scRks.nd rfl (Or.inl rfl)) (fun _ _ _ _ _ => pts_one (pt_cmpR op_notIn_seq (pv 4) (pv 6) (by with_unfolding_all rfl)))
          (fun _ _ _ _ _ => pe_tup (StX.pa_star (pv 6) (pa_cons (pv 4) pa_nil))))))
      (pss_one (ps_ret (pv 2))))), ?_⟩
    have hns : (B.map (·.1)).length = B.length := List.length_map _
    have hnd := asc_nd gb
    refine ⟨_, rfl, a, rfl, ⟨_, h1⟩, fun Dn hDn => ?_⟩
    refine lcS (walk_tup (K := K) (a := a) (xs := xs)) (fun i y _ => y = .str ((B[i]?.map (·.1)).getD Str.empty)) (fun _ => true) (by omega) hDn (fun _ e => (tk_same e).t h1) (fun _ _ _ _ _ h => h) ?_ ?_
    · rintro i z H' H'' R R0 hi s3 ⟨rfl, hz⟩ k1 k2
      obtain ⟨sg, e3, b, rfl, e4⟩ := h3 i _ hz
      refine ⟨b, _, rfl, (tk_same s3).t e4, rfl, _, _, rfl, _, _, rfl, rfl, rfl, _, rfl, k1 _ _ rfl (Same.refl _) ?_⟩
      rw [e3]
      rfl
    · intro H1 ys s1 e r
      rw [range_all] at r
      have er := r.eq (f := fun i => V.str ((B[i]?.map (·.1)).getD Str.empty))
      have en : ys = (B.map (·.1)).map V.str := by
        rw [er, h2, ← range_map_get (·.1) Str.empty B, List.map_map]
        rfl
      subst en
      generalize hnsd : B.map (·.1) = ns at *
      have nsl : ns.length ≤ 5 := by omega
      clear er r
      refine ⟨Nat.zero_le _, fun p0 hp0 => ⟨len1 _, fun F0 hF0 => ?_⟩⟩
      have sA : Same H1 (upd (upd H1 p0 (.tup [])) F0 (.lst [.ref p0])) := (same_new hp0).trans (same_new hF0)
      refine ⟨_, rfl, Dn, _, rfl, .inl (SqL.of (sA _ _ e)), _, rfl, by rw [List.length_map]; omega, by rw [List.length_map]; omega, ?_⟩
      rw [List.length_map, show ((ns.length : Nat) : Int).toNat = ns.length by omega]
      refine for_it walk_range (fun p σ H' => Same H1 H' ∧ ∃ F xs, H' F = some (.lst xs) ∧ RkAll K H' xs (rks ns p) ∧ ∃ y3, σ = [some (.ref a), some (.ref Dn), some (.ref F), y3, none, none, none])
        ⟨sA, F0, _, upd_same, ⟨rfl, fun i x rk g1 g2 => ?_⟩, none, rfl⟩ (fun _ _ _ _ _ => True.intro) ?_ ?_
      · cases i with
        | zero =>
          obtain rfl : V.ref p0 = x := Option.some.inj g1
          obtain rfl : ([] : List Str) = rk := Option.some.inj g2
          exact ⟨p0, rfl, SqT.of ((same_new hF0) _ _ upd_same)⟩
        | succ i => cases g1
      · rintro p x σ H2 H3 hp ⟨sm, F, xs, hF, hR, y3, rfl⟩ ⟨rfl, rfl⟩
        have hpl : (rks ns p).length ≤ 3125 := by
          refine Nat.le_trans (len_rks_le p) (Nat.le_trans (Nat.pow_le_pow_left nsl p) ?_)
          exact Nat.le_trans (Nat.pow_le_pow_right (by decide) (show p ≤ 5 by omega)) (by decide)
        have hDn3 := sm _ _ e
        have hxl := hR.1
        refine ⟨_, rfl, F, rfl, ⟨_, SqL.of hF⟩, fun D hD => ?_⟩
        refine lc2_out (walk_list (K := K) (a := F) (xs := xs)) (fun i H' => Same H3 H' ∧ ∃ ys, H' D = some (.lst ys) ∧ RkAll K H' ys (extR ns ((rks ns p).take i))) ⟨same_new hD, [], upd_same, rfl, fun i x rk g1 => (by cases g1)⟩ (fun i H' _ h => SqL.of (h.1 _ _ hF)) ?_ ?_
        · rintro i z H4 H5 hi ⟨s4, ys, hy, ra⟩ ⟨rfl, hz⟩
          obtain ⟨rk, hrk, rb, rfl, hrb⟩ := hR.get hz
          have hil : i < (rks ns p).length := by rw [← hxl]; exact hi
          have hmk := mem_rks.mp (List.mem_of_getElem? hrk)
          refine ⟨rfl, ?_⟩
          refine ⟨_, rfl, Dn, rfl, ⟨_, SqL.of (s4 _ _ hDn3)⟩, ?_⟩
          refine lc2_in (walk_list (K := K) (a := Dn) (xs := ns.map V.str)) (fun j H' => Same H3 H' ∧ ∃ ys, H' D = some (.lst ys) ∧ RkAll K H' ys (extR ns ((rks ns p).take i) ++ (((ns.take j).filter fun n => !decide (n ∈ rk)).map fun n => rk ++ [n]))) ⟨s4, ys, hy, by simpa using ra⟩ (fun i H' _ h => SqL.of (h.1 _ _ hDn3)) ?_ ?_
          · rintro j z' H6 H7 hj ⟨s6, ys, hy, ra⟩ ⟨rfl, hz'⟩
            rw [List.length_map] at hj
            rw [List.getElem?_map, List.getElem?_eq_getElem hj] at hz'
            obtain rfl : V.str ns[j] = z' := Option.some.inj hz'
            have hrb6 := (tk_same s6).t hrb
            refine ⟨rfl, _, rfl, _, rfl, rb, rk.map V.str, rfl, .inr hrb6, rfl, flat_strs rk, !decide (ns[j] ∈ rk), congrArg V.bl (by rw [inV_strs]; rfl), ?_⟩
            have et : (ns.take (j + 1)).filter (fun n => !decide (n ∈ rk)) = (ns.take j).filter (fun n => !decide (n ∈ rk)) ++ (if (!decide (ns[j] ∈ rk)) = true then [ns[j]] else []) := by
              rw [List.take_add_one, List.getElem?_eq_getElem hj, List.filter_append]
              congr 1
              simp only [Option.toList_some, List.filter_cons, List.filter_nil]
            cases hk : !decide (ns[j] ∈ rk) with
            | true =>
              refine iteT ⟨_, rfl, rb, _, rfl, .inl hrb6, _, rfl, ?_, fun b hb => ⟨ys, (same_new hb) _ _ hy, ?_, same_mut (s6.trans (same_new hb)) hD, ys ++ [.ref b], upd_same, ?_⟩⟩
              · rw [List.length_append, List.length_map, hmk.2.2]
                exact small_line' (show p + 1 ≤ 1000000 by omega)
              · have h8 := ra.1
                rw [List.length_append, List.length_map] at h8
                have h9 := len_extR ns ((rks ns p).take i)
                rw [List.length_take] at h9
                have h10 := List.length_filter_le (fun n => !decide (n ∈ rk)) (ns.take j)
                rw [List.length_take] at h10
                have h11 : min i (rks ns p).length * ns.length ≤ 3125 * 5 := Nat.mul_le_mul (by omega) nsl
                exact small_line (by omega)
              · rw [et, hk, if_pos rfl, List.map_append, ← List.append_assoc]
                have tkb : Tk _ (upd (upd _ b (.tup (rk.map V.str ++ [.str ns[j]]))) D (.lst (ys ++ [.ref b]))) := (tk_same (same_new hb)).trans (tk_lst ((same_new hb) _ _ hy))
                refine (ra.tk tkb).snoc ⟨b, rfl, ?_⟩
                rw [List.map_append]
                exact (tk_lst ((same_new hb) _ _ hy)).t (SqT.of upd_same)
            | false =>
              refine iteF ⟨s6, ys, hy, ?_⟩
              rw [et, hk, if_neg (by decide), List.append_nil]
              exact ra
          · rintro H6 ⟨s6, ys, hy, ra⟩
            refine ⟨s6, ys, hy, ?_⟩
            rw [List.length_map, List.take_length] at ra
            rw [List.take_add_one, hrk]
            unfold extR at ra ⊢
            rw [List.flatMap_append]
            simpa using ra
        · rintro H4 ⟨s4, ys, hy, ra⟩
          rw [hxl, List.take_length] at ra
          exact ⟨sm.trans s4, D, ys, hy, ra, _, rfl⟩
      · rintro σ H2 ⟨sm, F, xs, hF, hR, y3, rfl⟩
        rw [hns] at hR
        exact ⟨_, rfl, q F xs H2 (s1.trans sm) hF hR⟩
/-! ### path_ranks -/
/-- a tuple of ranks -/
def RksT (K : PySem.W.Frag) (H : Hp) (v : V) (R : List (List Str)) : Prop := ∃ a xs, v = .ref a ∧ SqT K H a xs ∧ RkAll K H xs R
noncomputable def prks (B : Bk) (L : List Rl) : List (List Str) := (rks (B.map (·.1)) B.length).filter fun rk => L.all fun r => gtB (ixR rk) r.1 r.2
def spPRk (K : PySem.W.Frag) : Sp := fun vs H Q _ => ∃ x y B L, vs = [x, y] ∧ BookAt K H x B ∧ GoodBook B ∧ LotAt K H y L ∧ GoodLot B L ∧ ∀ v H', Same H H' → RksT K H' v (prks B L) → Q v H'
theorem ok_prk {f : Addr} {fd : FuncData} {k : Nat} (F : Fun K "path_ranks" "path_ranks" sPRk f fd) (T : Txt mg) (C1 : Def P w K mg base k "want_lot" pWLot (spWLot K)) (C2 : Def P w K mg base k "ranks_by" pRks (spRks K)) (C3 : Def P w K mg base k "is_path_down" pPDn (spPDn K)) : FnOk P w K mg base CX0 (k + 1) f fd pPRk (spPRk K) := by
  refine F.ok scPRk (fun vs H Q E h => ?_) (fun cdv A outer s H vs Q E hr h => ?_)
  · obtain ⟨x, y, B, L, rfl, _⟩ := h
    rfl
  · obtain ⟨x, y, B, L, rfl, hB, gb, hL, gl, q⟩ := h
    refine ⟨_, pss_cons (ps_expr (pe_call C1.G hr (by rfl) C1.g C1.kp C1.b .nil pass0 (pa_cons (pv 0) (pa_cons (pv 1) pa_nil))))
      (pss_one (ps_ret (pe_callTy call_tuple_of (by rfl) T.tuple (by decide +kernel) (pa_cons
        (pe_lc (own := [("rank", 2)]) (g := gName 2) rfl scPRk.nd (pi_list (pe_call C2.G hr (by rfl) C2.g C2.kp C2.b .nil pass0 (pa_cons (pv 0) pa_nil))) (blkOk_by (N := nPRk) (sc := defScope sPRk) (by decide +kernel))
          (fun _ _ _ _ _ => pg_name (i := 2) scPRk.nd rfl (Or.inl rfl)) (fun _ _ _ _ _ => pts_one (pt_val (pe_call C3.G hr (by rfl) C3.g C3.kp C3.b .nil pass0 (pa_cons (pv 2) (pa_cons (pv 1) pa_nil))) (by intro _; rfl)))
          (fun _ _ _ _ _ => pv 2)) pa_nil)))), ?_⟩
    refine ⟨_, rfl, _, rfl, x, y, B, L, rfl, hB, gb, hL, gl, fun H1 s1 => ?_⟩
    refine ⟨_, rfl, x, B, rfl, hB.mono (tk_same s1), gb, fun F xs H2 s2 hF hR => ⟨F, rfl, ⟨_, SqL.of hF⟩, fun D hD => ?_⟩⟩
    have s12 := s1.trans s2
    have fewB := gb.few
    have hns : (B.map (·.1)).length = B.length := List.length_map _
    have hRl := hR.1
    have hpl : (rks (B.map (·.1)) B.length).length ≤ 3125 := by
      refine Nat.le_trans (len_rks_le _) (Nat.le_trans (Nat.pow_le_pow_left (show (B.map (·.1)).length ≤ 5 by omega) _) ?_)
      exact Nat.le_trans (Nat.pow_le_pow_right (by decide) fewB) (by decide)
    let keep : Nat → Bool := fun i => (((rks (B.map (·.1)) B.length)[i]?).map fun rk => L.all fun r => gtB (ixR rk) r.1 r.2).getD false
    refine lcS (walk_list (K := K) (a := F) (xs := xs)) (fun i y H => ∃ rk, (rks (B.map (·.1)) B.length)[i]? = some rk ∧ RkAt K H y rk) keep (by omega) hD (fun _ e => SqL.of (e _ _ hF)) (fun i y H H' tk ⟨rk, g1, g2⟩ => ⟨rk, g1, g2.mono tk⟩) ?_ ?_
    · rintro i z H' H'' R R0 hi s3 ⟨rfl, hz⟩ k1 k2
      obtain ⟨rk, hrk, hrb⟩ := hR.get hz
      have hmk := mem_rks.mp (List.mem_of_getElem? hrk)
      have hperm : rk.Perm (B.map (·.1)) := perm_of_sub hmk.1 hmk.2.1 (by rw [hmk.2.2]; omega)
      refine ⟨rfl, _, rfl, _, rfl, z, _, B, rk, L, rfl, hrb.mono (tk_same s3), hmk.1, by rw [hmk.2.2]; exact fewB, gb, fun s hs => hperm.mem_iff.mpr (List.mem_map.mpr ⟨s, hs, rfl⟩), hL.mono (tk_same (s12.trans s3)), gl, fun H5 s5 => ⟨L.all fun r => gtB (ixR rk) r.1 r.2, rfl, ?_⟩⟩
      have ek : keep i = L.all fun r => gtB (ixR rk) r.1 r.2 := by
        show (((rks (B.map (·.1)) B.length)[i]?).map fun rk => L.all fun r => gtB (ixR rk) r.1 r.2).getD false = _
        rw [hrk]; rfl
      cases hk : L.all fun r => gtB (ixR rk) r.1 r.2 with
      | true => exact iteT ⟨_, rfl, k1 _ _ (ek.trans hk) s5 ⟨rk, hrk, hrb.mono (tk_same (s3.trans s5))⟩⟩
      | false => exact iteF (k2 _ (ek.trans hk) s5)
    · intro H3 ys s3 e r
      refine ⟨D, ys, rfl, .inl ⟨SqL.of e, fun t ht => q _ _ (s12.trans (s3.trans (same_new ht))) ⟨t, ys, rfl, SqT.of upd_same, ?_⟩⟩⟩
      have key : ∀ (R : List (List Str)) (p : List Str → Bool), ((List.range R.length).filter fun i => ((R[i]?).map p).getD false).map (fun i => R[i]?) = (R.filter p).map some := by
        intro R p
        induction R with
        | nil => rfl
        | cons r R ih =>
          rw [List.length_cons, List.range_succ_eq_map, List.filter_cons, List.filter_map, List.filter_cons]
          have e0 : (((r :: R)[0]?).map p).getD false = p r := rfl
          rw [e0]
          have e1 : ((fun i => (((r :: R)[i]?).map p).getD false) ∘ Nat.succ) = fun i => ((R[i]?).map p).getD false := rfl
          rw [e1]
          have e2 : ((List.filter (fun i => ((R[i]?).map p).getD false) (List.range R.length)).map Nat.succ).map (fun i => (r :: R)[i]?) = (R.filter p).map some := by
            rw [List.map_map, ← ih]
            rfl
          cases p r with
          | true => simp only [if_true, List.map_cons, e2]; rfl
          | false => simpa using e2
      have key2 := key (rks (B.map (·.1)) B.length) fun rk => L.all fun r => gtB (ixR rk) r.1 r.2
      rw [hRl] at r
      have tkT : Tk H3 (upd H3 t (.tup ys)) := tk_new ht
      refine ⟨?_, fun i x rk g1 g2 => ?_⟩
      · have l1 := r.len
        have l2 := congrArg List.length key2
        rw [List.length_map, List.length_map] at l2
        rw [← l1]
        exact l2
      · obtain ⟨j, hj, rk', g3, g4⟩ := r.get g1
        have g5 : (((List.range (rks (B.map (·.1)) B.length).length).filter keep).map (fun i => (rks (B.map (·.1)) B.length)[i]?))[i]? = some (some rk') := by rw [List.getElem?_map, hj, ← g3]; rfl
        have g6 : ((prks B L).map some)[i]? = some (some rk') := by
          rw [← g5]
          exact congrArg (·[i]?) key2.symm
        rw [List.getElem?_map, g2] at g6
        obtain rfl : rk = rk' := Option.some.inj (Option.some.inj g6)
        exact g4.mono tkT
end
end Rk

/-! the law's draws -/
namespace Rk
open PySem PySem.Spec PyProof.Rows L2

/-- the feed's dict -/
def fdK (c : Addr) (k l d : Int) : List (Key × V) := [(.inr "cells", .ref c), (.inr "spot", .int k), (.inr "left", .int l), (.inr "drawn", .int d)]
def FdAt (f c : Addr) (H : Hp) : Prop := ∃ k l d, H f = some (.dK (fdK c k l d))
structure Feed (K : PySem.W.Frag) (f c : Addr) (ns : List Int) (H : Hp) : Prop where
  at_ : FdAt f c H
  seq : SqL K H c (ns.map V.int)
  ne : c ≠ f
  few : ns.length ≤ 63
/-- all stays but the feed, which stays a feed -/
structure FdS (f c : Addr) (H H' : Hp) : Prop where
  but : But f H H'
  at_ : FdAt f c H'
section
variable {K : PySem.W.Frag} {f c : Addr} {ns : List Int} {H H' H'' : Hp}
theorem Feed.self (F : Feed K f c ns H) : FdS f c H H := ⟨But.refl f H, F.at_⟩
theorem FdS.trans (a : FdS f c H H') (b : FdS f c H' H'') : FdS f c H H'' := ⟨a.but.trans b.but, b.at_⟩
theorem FdAt.same (a : FdAt f c H) (s : Same H H') : FdAt f c H' := by
  obtain ⟨k, l, d, e⟩ := a
  exact ⟨k, l, d, s _ _ e⟩
theorem FdS.same (a : FdS f c H H') (s : Same H' H'') : FdS f c H H'' := ⟨a.but.trans (but_same s), a.at_.same s⟩
theorem Feed.step (F : Feed K f c ns H) (a : FdS f c H H') : Feed K f c ns H' := ⟨a.at_, a.but.seq F.ne F.seq, F.ne, F.few⟩
theorem FdAt.tk (F : FdAt f c H) (a : But f H H') : Tk H H' := by
  obtain ⟨k, l, d, e⟩ := F
  exact a.tk e
theorem FdAt.ne_lst (F : FdAt f c H) {a : Addr} {xs : List V} (e : H a = some (.lst xs)) : a ≠ f := fun z => by
  obtain ⟨k, l, d, q⟩ := F
  rw [z, q] at e
  cases e
theorem FdAt.ne_seq (F : FdAt f c H) {a : Addr} {xs : List V} (e : Rd H a (.lst xs)) : a ≠ f := fun z => by
  obtain ⟨k, l, d, q⟩ := F
  rcases e with e | ⟨o, e⟩ <;> rw [z, q] at e <;> cases e
theorem FdAt.ne_new (F : FdAt f c H) {a : Addr} (e : H a = none) : a ≠ f := fun z => by
  obtain ⟨k, l, d, q⟩ := F
  rw [z, q] at e
  cases e
theorem FdS.lst (F : FdAt f c H) (s : FdS f c H H') {a : Addr} {xs : List V} (e : H a = some (.lst xs)) : H' a = some (.lst xs) := s.but _ _ (F.ne_lst e) e
theorem FdS.tk (F : FdAt f c H) (s : FdS f c H H') : Tk H H' := F.tk s.but
/-- something new is changed -/
theorem FdS.mut (F : FdAt f c H) (s : FdS f c H H') {p : Addr} {o : HO} (h : H p = none) : FdS f c H (upd H' p o) := by
  refine ⟨but_mut s.but h, ?_⟩
  obtain ⟨k, l, d, q⟩ := s.at_
  exact ⟨k, l, d, by rw [upd_ne (F.ne_new h).symm]; exact q⟩
theorem FdS.free (F : FdAt f c H) (s : FdS f c H H') {p : Addr} (h : H' p = none) : H p = none := s.but.free (s.at_.ne_new h) h
end
theorem sp_seq {K : PySem.W.Frag} {H H' : Hp} {a : Addr} {xs : List V} (s : Same H H') (h : SqL K H a xs) : SqL K H' a xs := by
  rcases h with (h | ⟨o, h⟩) | h
  · exact .inl (.inl (s _ _ h))
  · exact .inl (.inr ⟨o, s _ _ h⟩)
  · exact .inr h
theorem eqv_nil (ds : List PyData) : PyData.eqv (.list ds) (.list []) = ds.isEmpty := by
  cases ds with
  | nil => simp [PyData.eqv, PyData.eqvAll]
  | cons d ds => simp [PyData.eqv, PyData.eqvAll]
theorem dpAll_ints {K : PySem.W.Frag} {H : Hp} : ∀ ns : List Int, DpAll K H (ns.map V.int) (ns.map PyData.int)
  | [] => .nil
  | n :: ns => .cons (.int n) (dpAll_ints ns)
theorem shaped_ints (ns : List Int) : SeqAt.shaped (.list (ns.map PyData.int)) = true := by
  unfold SeqAt.shaped
  have h1 : ∀ ns : List Int, PyData.canLayAll0 (ns.map PyData.int) = true := by
    intro ns
    induction ns with
    | nil => rw [List.map_nil, PyData.canLayAll0]
    | cons n ns ih => rw [List.map_cons, PyData.canLayAll0, PyData.canLay0, ih]; rfl
  have h2 : ∀ ns : List Int, PyData.depthAll (ns.map PyData.int) = 0 := by
    intro ns
    induction ns with
    | nil => rw [List.map_nil, PyData.depthAll]
    | cons n ns ih => rw [List.map_cons, PyData.depthAll, PyData.depth, ih]; rfl
  rw [PyData.canLay0, h1, PyData.depth, h2]
  rfl
section
variable {P : Program} {w : World} {K : PySem.W.Frag} {mg : Str → Option Value} {base : Heap}
/-! ### _law_feed -/
def spLFd (K : PySem.W.Frag) : Sp := fun vs H Q _ => ∃ (a : Addr) (ns : List Int), vs = [.ref a] ∧ SqL K H a (ns.map V.int) ∧ ∀ f c ms H', Same H H' → H f = none → Feed K f c ms H' → Q (.ref f) H'
theorem cut63 (xs : List V) : (cutV xs none (some 63)).length ≤ 63 ∧ ∃ k, cutV xs none (some 63) = xs.take k := by
  unfold cutV
  rw [HT.sIx_none, List.drop_zero, Nat.sub_zero]
  have e : HT.sIx xs.length xs.length (some 63) = min 63 xs.length := HT.sIx_nat xs.length xs.length 63
  rw [e]
  exact ⟨by rw [List.length_take]; omega, _, rfl⟩
theorem ok_lfd {f : Addr} {fd : FuncData} {k : Nat} (F : Fun K "_law_feed" "_law_feed" sLFd f fd) (T : Txt mg) : FnOk P w K mg base CX0 (k + 1) f fd pLFd (spLFd K) := by
  refine F.ok scLFd (fun vs H Q E h => ?_) (fun cdv A outer s H vs Q E hr h => ?_)
  · obtain ⟨a, ns, rfl, _⟩ := h
    rfl
  · obtain ⟨a, ns, rfl, hs, q⟩ := h
    refine ⟨_, pss_one (ps_ret (pe_disp (pps_cons pe_str
        (pe_lc (own := [("_law_head", 1)]) (g := gName 1) (tt := tYes) rfl scLFd.nd (pi_list (pe_slice sl_list (pv 0) po_none (po_some pe_int))) (blkOk_by (N := nLFd) (sc := defScope sLFd) (by decide +kernel))
          (fun _ _ _ _ _ => pg_name (i := 1) scLFd.nd rfl (Or.inl rfl)) (fun _ _ _ _ _ => pts_nil) (fun _ _ _ _ _ => pe_callTy call_int1 (by rfl) T.int (by decide +kernel) (pa_cons (pv 1) pa_nil)))
        (pps_cons pe_str pe_int (pps_cons pe_str pe_int (pps_cons pe_str pe_int pps_nil)))) (by rfl) (by rfl) (by simp) (by decide))), ?_⟩
    intro p hp
    have sp : Same H (upd H p (.dK [])) := same_new hp
    obtain ⟨c1, kk, c2⟩ := cut63 (ns.map V.int)
    refine ⟨_, rfl, _, rfl, a, _, rfl, sp_seq sp hs, fun l hl => ⟨l, rfl, ⟨_, SqL.of upd_same⟩, fun D hD => ?_⟩⟩
    rw [c2] at c1 hD ⊢
    have sl : Same (upd H p (.dK [])) (upd (upd H p (.dK [])) l (.lst ((ns.map V.int).take kk))) := same_new hl
    refine lcS (walk_list (K := K) (a := l) (xs := (ns.map V.int).take kk)) (fun i y _ => y = .int ((ns.take kk).getD i 0)) (fun _ => true) (by omega) hD (fun _ e => SqL.of (e _ _ upd_same)) (fun _ _ _ _ _ h => h) ?_ ?_
    · rintro i z H' H'' R R0 hi s3 ⟨rfl, hz⟩ k1 k2
      rw [← List.map_take, List.getElem?_map] at hz
      cases e : (ns.take kk)[i]? with
      | none => rw [e] at hz; cases hz
      | some n =>
        rw [e] at hz
        obtain rfl : V.int n = z := Option.some.inj hz
        refine ⟨rfl, _, rfl, .inl ⟨n, rfl, k1 _ _ rfl (Same.refl _) ?_⟩⟩
        rw [List.getD_eq_getElem?_getD, e]
        rfl
    · intro H3 ys s3 e r
      rw [range_all] at r
      have er := r.eq (f := fun i => V.int ((ns.take kk).getD i 0))
      have en : ys = (ns.take kk).map V.int := by
        rw [er, ← List.map_take, List.length_map]
        have := range_map_get V.int (V.int 0) (ns.take kk)
        rw [← this]
        refine List.map_congr_left fun i hi => ?_
        rw [List.getD_eq_getElem?_getD, List.getElem?_eq_getElem (List.mem_range.mp hi)]
        rfl
      subst en
      have sA := sl.trans s3
      have hp3 : H3 p = some (.dK []) := sA _ _ upd_same
      refine ⟨hp3, fdK D 0 0 0, rfl, show 4 ≤ 15 by decide, q p D (ns.take kk) _ ?_ hp ⟨⟨0, 0, 0, by rw [upd_same]; rfl⟩, ?_, ?_, ?_⟩⟩
      · exact same_mut (sp.trans sA) hp
      · exact SqL.of (by rw [upd_ne (fun z => by rw [z, hp3] at e; cases e)]; exact e)
      · exact fun z => by rw [z, hp3] at e; cases e
      · rw [← List.map_take, List.length_map] at c1
        exact c1
/-! ### _law_draw, _law_any -/
def spLDr (K : PySem.W.Frag) : Sp := fun vs H Q _ => ∃ f c ns many, vs = [.ref f, .int ((many : Nat) : Int)] ∧ Feed K f c ns H ∧ 1 ≤ many ∧ many ≤ 1000000 ∧ ∀ (r : Nat) H', r < many → FdS f c H H' → Q (.int (r : Int)) H'
theorem rng_of {x : Int} {m : Nat} (hm : 1 ≤ m) : ∃ r : Nat, x % (m : Int) = (r : Int) ∧ r < m := by
  have h1 := Int.emod_nonneg x (show ((m : Nat) : Int) ≠ 0 by omega)
  have h2 := Int.emod_lt_of_pos x (show (0 : Int) < (m : Int) by omega)
  exact ⟨(x % (m : Int)).toNat, by omega, by omega⟩
theorem cmul_mod {x j m : Int} (h0 : 0 < m) (h : m < 2 ^ 64) : CMul (x % m) j := by
  have h1 := Int.emod_nonneg x (show m ≠ 0 by omega)
  have h2 := Int.emod_lt_of_pos x h0
  exact .inl ⟨by omega, by omega⟩
theorem cmul_lit {i j : Int} (h0 : 0 ≤ i) (h : i < 2 ^ 64) : CMul i j := .inl ⟨by omega, by omega⟩
theorem ok_ldr {f : Addr} {fd : FuncData} {k : Nat} (F : Fun K "_law_draw" "_law_draw" sLDr f fd) (T : Txt mg) : FnOk P w K mg base CX0 (k + 1) f fd pLDr (spLDr K) := by
  refine F.ok scLDr (fun vs H Q E h => ?_) (fun cdv A outer s H vs Q E hr h => ?_)
  · obtain ⟨f, c, ns, many, rfl, _⟩ := h
    rfl
  · obtain ⟨f, c, ns, many, rfl, fe, hm1, hm2, q⟩ := h
    have hu := hu_of hr
    have hu64 := hr.units
    have int1 : ∀ {X : Cx}, CallR X (.type "int") (fun xs H Q => (∃ i, xs = [.int i] ∧ Q (.int i) H) ∨ ∃ k, xs = [.bl k] ∧ Q (.int (if k then 1 else 0)) H) := call_int1
    refine ⟨_, pss_cons (ps_dput hu (pv 0) pe_str (pe_op op_add (pe_dget hu (pv 0) pe_str (fun _ _ => rfl)) pe_int) (by rfl))
      (pss_cons (ps_if (pt_cmp (pc_gt (pe_dget hu (pv 0) pe_str (fun _ _ => rfl)) pe_int) (by rfl))
        (pss_cons (ps_set (i := 2) scLDr.nd rfl (Or.inl rfl) (pe_op op_mod (pe_callTy call_int1 (by rfl) T.int (by decide +kernel) (pa_cons (pe_dget hu (pv 0) pe_str (fun _ _ => rfl)) pa_nil)) (pv 1)))
        (pss_cons (ps_dput hu (pv 0) pe_str (pe_op op_fdiv (pe_dget hu (pv 0) pe_str (fun _ _ => rfl)) (pv 1)) (by rfl))
        (pss_one (ps_ret (pv 2))))) pss_nil)
      (pss_cons (ps_par (i := 3) (j := 4) rfl scLDr.nd rfl rfl (by decide) rfl rfl (pa_cons (pe_dget hu (pv 0) pe_str (fun _ _ => rfl)) (pa_cons (pe_dget hu (pv 0) pe_str (fun _ _ => rfl)) pa_nil)) (by rfl))
      (pss_cons (ps_dput hu (pv 0) pe_str (pe_op op_add (pv 4) pe_int) (by rfl))
      (Evl.pss_cut (ps_set (i := 5) scLDr.nd rfl (Or.inl rfl) (pe_ifExp (pt_cmpR (op_neD hu64) (pv 3) (pe_lst pa_nil) (nomark _))
        (pe_ix ix_list (pv 3) (pe_op op_mod (pe_callTy call_int1 (by rfl) T.int (by decide +kernel) (pa_cons (pv 4) pa_nil)) (pe_callB call_len_seq (by rfl) T.len (by decide +kernel) (pa_cons (pv 3) pa_nil))) (fun _ _ => rfl)) pe_int))
      (Evl.pss_cut (ps_if (PW.pt (pw_and (pt_cmpR op_ge (pv 5) (pe_op op_pow pe_int pe_int) (nomark _)) (pw_and1 (pt_cmpR op_lt (pv 4) (pe_callB call_len_seq (by rfl) T.len (by decide +kernel) (pa_cons (pv 3) pa_nil)) (nomark _)))))
        (pss_cons (ps_dput hu (pv 0) pe_str (pe_op op_fdiv (pv 5) (pv 1)) (by rfl))
        (pss_one (ps_ret (pe_op op_mod (pe_callTy call_int1 (by rfl) T.int (by decide +kernel) (pa_cons (pv 5) pa_nil)) (pv 1))))) pss_nil)
      (pss_cons (ps_set (i := 6) scLDr.nd rfl (Or.inl rfl) (pe_op op_mod (pe_callTy call_int1 (by rfl) T.int (by decide +kernel) (pa_cons
          (pe_op op_add (pe_op op_add (pe_op op_mod (pe_callTy call_int1 (by rfl) T.int (by decide +kernel) (pa_cons (pv 5) pa_nil)) pe_int) (pe_op op_mul pe_int (pe_dget hu (pv 0) pe_str (fun _ _ => rfl)))) pe_int) pa_nil)) pe_int))
      (pss_cons (ps_set (i := 6) scLDr.nd rfl (Or.inl rfl) (pe_op op_mod (pe_callTy call_int1 (by rfl) T.int (by decide +kernel) (pa_cons
          (pe_op op_add (pe_op op_add (pe_op op_mul (pv 6) (pv 6)) (pe_op op_mul pe_int (pe_dget hu (pv 0) pe_str (fun _ _ => rfl)))) pe_int) pa_nil)) pe_int))
      (pss_one (ps_ret (pe_op op_mod (pe_callTy call_int1 (by rfl) T.int (by decide +kernel) (pa_cons
          (pe_op op_fdiv (pe_op op_mod (pe_callTy call_int1 (by rfl) T.int (by decide +kernel) (pa_cons (pe_op op_add (pe_op op_mul (pv 6) (pv 6)) (pe_op op_mul pe_int (pv 6))) pa_nil)) pe_int) pe_int) pa_nil)) (pv 1))))))))))), ?_⟩
    have qq : ∀ (x : Int) H', FdS f c H H' → Q (.int (x % (many : Int))) H' := fun x H' s => by
      obtain ⟨r, e, h⟩ := rng_of (x := x) hm1
      rw [e]
      exact q r H' h s
    have pm : (0 : Int) < (many : Int) := by omega
    have cd : ∀ i : Int, CDiv i (many : Int) := fun i => ⟨pm, by omega⟩
    obtain ⟨k0, l0, d0, hf⟩ := fe.at_
    refine ⟨_, rfl, f, _, rfl, .inl ⟨_, .inr "drawn", .inl hf, rfl, rfl⟩, _, _, rfl, rfl, _, rfl, f, _, rfl, .inl ⟨_, .inr "drawn", hf, rfl, show 4 < sizeLine by decide, rfl⟩, ?_⟩
    show (tSeq _ _) _ _ (upd H f (.dK (fdK c k0 l0 (d0 + 1))))
    have hf1 : upd H f (.dK (fdK c k0 l0 (d0 + 1))) f = some (.dK (fdK c k0 l0 (d0 + 1))) := upd_same
    have b1 : But f H (upd H f (.dK (fdK c k0 l0 (d0 + 1)))) := but_upd
    generalize upd H f (.dK (fdK c k0 l0 (d0 + 1))) = H1 at hf1 b1 ⊢
    refine ⟨_, rfl, f, _, rfl, .inl ⟨_, .inr "left", .inl hf1, rfl, rfl⟩, _, _, rfl, rfl, decide (0 < l0), rfl, ite2 (fun _ => ?_) (fun _ => ?_)⟩
    · refine ⟨_, rfl, f, _, rfl, .inl ⟨_, .inr "left", .inl hf1, rfl, rfl⟩, .inl ⟨l0, rfl, _, rfl, _, _, rfl, rfl, pm, ?_⟩⟩
      refine ⟨_, rfl, f, _, rfl, .inl ⟨_, .inr "left", .inl hf1, rfl, rfl⟩, _, rfl, _, _, rfl, rfl, cd _, _, rfl, f, _, rfl, .inl ⟨_, .inr "left", hf1, rfl, show 4 < sizeLine by decide, rfl⟩, ?_⟩
      exact ⟨_, rfl, qq _ _ ⟨b1.trans but_upd, _, _, _, upd_same⟩⟩
    · refine ⟨_, rfl, f, _, rfl, .inl ⟨_, .inr "cells", .inl hf1, rfl, rfl⟩, _, rfl, f, _, rfl, .inl ⟨_, .inr "spot", .inl hf1, rfl, rfl⟩, _, _, rfl, ?_⟩
      refine ⟨_, rfl, _, _, rfl, rfl, _, rfl, f, _, rfl, .inl ⟨_, .inr "spot", hf1, rfl, show 4 < sizeLine by decide, rfl⟩, ?_⟩
      have s2 : FdS f c H (upd H1 f (.dK (fdK c (k0 + 1) l0 (d0 + 1)))) := ⟨b1.trans but_upd, _, _, _, upd_same⟩
      show (Evl.tCut _ _) _ _ (upd H1 f (.dK (fdK c (k0 + 1) l0 (d0 + 1))))
      generalize upd H1 f (.dK (fdK c (k0 + 1) l0 (d0 + 1))) = H2 at s2 ⊢
      have fe2 := fe.step s2
      refine ⟨fun σ' H' => ∃ hd : Int, σ' = [some (.ref f), some (.int ((many : Nat) : Int)), none, some (.ref c), some (.int k0), some (.int hd), none] ∧ FdS f c H H', ?_, ?_⟩
      · refine ⟨_, rfl, Nat.zero_le _, fun p hp => ⟨.list (ns.map PyData.int), .list [], .lst (sp_seq (same_new hp) fe2.seq) (dpAll_ints ns), .lst (SqL.of upd_same) .nil, shaped_ints ns, by decide, !(ns.map PyData.int).isEmpty, congrArg V.bl (by rw [eqv_nil]), ?_⟩⟩
        have s3 := s2.same (same_new (o := .lst []) hp)
        have fe3 := fe.step s3
        cases ns with
        | nil => exact iteF ⟨97553, rfl, s3⟩
        | cons n0 ns =>
          refine iteT ?_
          obtain ⟨r, e, hr⟩ := rng_of (x := k0) (m := ((n0 :: ns).map V.int).length) (by simp)
          have hg : ((n0 :: ns).map V.int)[r]? = some (.int ((n0 :: ns).getD r 0)) := by
            rw [List.length_map] at hr
            rw [List.getElem?_map, List.getElem?_eq_getElem hr, List.getD_eq_getElem?_getD, List.getElem?_eq_getElem hr]
            rfl
          refine ⟨_, rfl, _, rfl, .inl ⟨k0, rfl, _, rfl, c, _, rfl, .inl fe3.seq, _, _, rfl, rfl, show (0 : Int) < (((n0 :: ns).map V.int).length : Int) by simp, c, _, _, .int ((n0 :: ns).getD r 0), rfl, rfl, fe3.seq, ?_, (n0 :: ns).getD r 0, rfl, s3⟩⟩
          rw [e]
          exact atI_nat hg
      · rintro σ' H3 ⟨hd, rfl, s3⟩
        have fe3 := fe.step s3
        obtain ⟨k3, l3, d3, hf3⟩ := s3.at_
        refine ⟨fun σ' H' => σ' = [some (.ref f), some (.int ((many : Nat) : Int)), none, some (.ref c), some (.int k0), some (.int hd), none] ∧ H' = H3, ?_, ?_⟩
        · refine ⟨_, rfl, _, _, rfl, rfl, ⟨by decide, by decide, by decide⟩, _, _, rfl, rfl, _, rfl, ite2 (fun _ => ?_) (fun _ => iteF ⟨rfl, rfl⟩)⟩
          refine ⟨_, rfl, _, rfl, c, _, rfl, .inl fe3.seq, _, _, rfl, rfl, _, rfl, ite2 (fun _ => ?_) (fun _ => ⟨rfl, rfl⟩)⟩
          refine ⟨_, rfl, _, rfl, _, _, rfl, rfl, cd _, _, rfl, f, _, rfl, .inl ⟨_, .inr "left", hf3, rfl, show 4 < sizeLine by decide, rfl⟩, ?_⟩
          exact ⟨_, rfl, .inl ⟨_, rfl, _, rfl, _, _, rfl, rfl, pm, qq _ _ ⟨s3.but.trans but_upd, _, _, _, upd_same⟩⟩⟩
        · rintro σ' H' ⟨rfl, rfl⟩
          refine ⟨_, rfl, .inl ⟨_, rfl, _, _, rfl, rfl, (by decide : (0 : Int) < 1000021081), _, rfl, f, _, rfl, .inl ⟨_, .inr "drawn", .inl hf3, rfl, rfl⟩, _, _, rfl, rfl, cmul_lit (by decide) (by decide), _, _, rfl, rfl, _, _, rfl, rfl, .inl ⟨_, rfl, _, _, rfl, rfl, (by decide : (0 : Int) < 2147439709), ?_⟩⟩⟩
          refine ⟨_, rfl, _, rfl, _, _, rfl, rfl, cmul_mod (by decide) (by decide), _, rfl, f, _, rfl, .inl ⟨_, .inr "drawn", .inl hf3, rfl, rfl⟩, _, _, rfl, rfl, cmul_lit (by decide) (by decide), _, _, rfl, rfl, _, _, rfl, rfl, .inl ⟨_, rfl, _, _, rfl, rfl, (by decide : (0 : Int) < 2147439653), ?_⟩⟩
          refine ⟨_, rfl, _, rfl, _, _, rfl, rfl, cmul_mod (by decide) (by decide), _, rfl, _, _, rfl, rfl, cmul_lit (by decide) (by decide), _, _, rfl, rfl, .inl ⟨_, rfl, _, _, rfl, rfl, (by decide : (0 : Int) < 2147439599), _, _, rfl, rfl, ⟨by decide, by decide⟩, .inl ⟨_, rfl, _, rfl, _, _, rfl, rfl, pm, qq _ _ s3⟩⟩⟩
def spLAn (K : PySem.W.Frag) : Sp := fun vs H Q _ => ∃ f c ns a xs, vs = [.ref f, .ref a] ∧ Feed K f c ns H ∧ ((SqL K H a xs ∧ a ≠ f) ∨ SqT K H a xs) ∧ xs ≠ [] ∧ xs.length ≤ 1000000 ∧ ∀ (i : Nat) x H', xs[i]? = some x → FdS f c H H' → Q x H'
theorem ok_lan {f : Addr} {fd : FuncData} {k : Nat} (F : Fun K "_law_any" "_law_any" sLAn f fd) (T : Txt mg) (C : Def P w K mg base k "_law_draw" pLDr (spLDr K)) : FnOk P w K mg base CX0 (k + 1) f fd pLAn (spLAn K) := by
  refine F.ok scLAn (fun vs H Q E h => ?_) (fun cdv A outer s H vs Q E hr h => ?_)
  · obtain ⟨f, c, ns, a, xs, rfl, _⟩ := h
    rfl
  · obtain ⟨f, c, ns, a, xs, rfl, fe, hs, hne, hl, q⟩ := h
    have hpos : 1 ≤ xs.length := by
      cases xs with
      | nil => exact absurd rfl hne
      | cons x xs => rw [List.length_cons]; omega
    refine ⟨_, pss_one (ps_ret (pe_ix ix_seq (pv 1) (pe_call C.G hr (by rfl) C.g C.kp C.b .nil pass0 (pa_cons (pv 0) (pa_cons (pe_callB call_len_seq (by rfl) T.len (by decide +kernel) (pa_cons (pv 1) pa_nil)) pa_nil))) (fun _ _ => rfl))), ?_⟩
    refine ⟨_, rfl, _, rfl, _, rfl, a, xs, rfl, hs.imp (·.1) id, f, c, ns, xs.length, rfl, fe, hpos, hl, fun r H' hrl s => ?_⟩
    have hx : xs[r]? = some xs[r] := List.getElem?_eq_getElem hrl
    rcases hs with ⟨hs, hn⟩ | hs
    · exact .inl ⟨a, xs, _, _, rfl, rfl, s.but.seq hn hs, atI_nat hx, q r _ _ hx s⟩
    · exact .inr (.inl ⟨a, xs, _, _, rfl, rfl, (s.tk fe.at_).t hs, atI_nat hx, q r _ _ hx s⟩)
end
end Rk

/-! the law's names and books -/
namespace Rk
open PySem PySem.Spec PyProof.Rows L2

def pool1 : List Str := ["e", "inv", "mul", "a", "f", "g", "h", "i", "j", "k", "m", "zz"]
def pool2 : List Str := ["a", "aa", "aaa", "ab", "b", "ba", "z", "zz", "zzzzzzzz", "zzzzzzzy", "abcdefgh", "y"]
def pool3 : List Str := ["rank", "more", "less", "hole", "rule", "left", "right", "term", "sign", "book", "both", "path"]
def goodB (z : Str) : Bool := decide (1 ≤ z.length) && decide (z.length ≤ 8) && z.cps.toList.all fun c => decide (97 ≤ c) && decide (c ≤ 122)
theorem goodB_iff {z : Str} (h : goodB z = true) : GoodName z := by
  unfold goodB at h
  simp only [Bool.and_eq_true, decide_eq_true_eq, List.all_eq_true] at h
  exact ⟨h.1.1, h.1.2, fun c hc => h.2 c hc⟩
def GoodPool (p : List Str) : Prop := p.Nodup ∧ (∀ z ∈ p, GoodName z) ∧ p.length = 12
theorem good_of {p : List Str} (h1 : decide p.Nodup = true) (h2 : p.all goodB = true) (h3 : p.length = 12) : GoodPool p := ⟨of_decide_eq_true h1, fun z hz => goodB_iff (List.all_eq_true.mp h2 z hz), h3⟩
theorem good1 : GoodPool pool1 := good_of (by decide +kernel) (by decide +kernel) rfl
theorem good2 : GoodPool pool2 := good_of (by decide +kernel) (by decide +kernel) rfl
theorem good3 : GoodPool pool3 := good_of (by decide +kernel) (by decide +kernel) rfl
theorem erase_map {α β : Type} (g : α → β) : ∀ (l : List α) (i : Nat), (l.map g).eraseIdx i = (l.eraseIdx i).map g
  | [], _ => rfl
  | _ :: _, 0 => rfl
  | a :: l, i + 1 => by
    rw [List.map_cons, List.eraseIdx_cons_succ, List.eraseIdx_cons_succ, List.map_cons, erase_map g l i]
theorem erase_perm {α : Type} : ∀ (l : List α) (i : Nat) (h : i < l.length), (l[i] :: l.eraseIdx i).Perm l
  | a :: l, 0, h => List.Perm.refl _
  | a :: l, i + 1, h => by
    rw [List.getElem_cons_succ, List.eraseIdx_cons_succ]
    exact (List.Perm.swap _ _ _).trans ((erase_perm l i (by simpa using h)).cons a)
theorem seqIdx {n j : Nat} (h : j < n) : seqIndex? ((j : Nat) : Int) n = some j := by
  have e : ixN n ((j : Nat) : Int) = some j := by
    unfold ixN
    rw [if_pos (by omega), if_pos (by omega)]
    rfl
  exact (ixN_seq e).1
section
variable {P : Program} {w : World} {K : PySem.W.Frag} {mg : Str → Option Value} {base : Heap}
def spLNm (K : PySem.W.Frag) : Sp := fun vs H Q _ => ∃ f c ns many, vs = [.ref f, .int ((many : Nat) : Int)] ∧ Feed K f c ns H ∧ many ≤ 5 ∧ ∀ (F : Addr) (zs : List Str) H', FdS f c H H' → H F = none → H' F = some (.lst (zs.map V.str)) → zs.length = many → zs.Nodup → (∀ z ∈ zs, GoodName z) → Q (.ref F) H'
theorem ok_lnm {f : Addr} {fd : FuncData} {k : Nat} (F : Fun K "_law_names" "_law_names" sLNm f fd) (T : Txt mg) (C1 : Def P w K mg base k "_law_any" pLAn (spLAn K)) (C2 : Def P w K mg base k "_law_draw" pLDr (spLDr K)) : FnOk P w K mg base CX0 (k + 1) f fd pLNm (spLNm K) := by
  refine F.ok scLNm (fun vs H Q E h => ?_) (fun cdv A outer s H vs Q E hr h => ?_)
  · obtain ⟨f, c, ns, many, rfl, _⟩ := h
    rfl
  · obtain ⟨f, c, ns, many, rfl, fe, hm, q⟩ := h
    refine ⟨_, pss_cons (ps_set (i := 2) scLNm.nd rfl (Or.inl rfl) (pe_lst (pa_cons (pe_lst (pa_cons pe_str (pa_cons pe_str (pa_cons pe_str (pa_cons pe_str (pa_cons pe_str (pa_cons pe_str (pa_cons pe_str (pa_cons pe_str (pa_cons pe_str (pa_cons pe_str (pa_cons pe_str (pa_cons pe_str pa_nil))))))))))))) pa_nil)))
      (pss_cons (ps_expr (pe_bm PySem.F.plainAttrs_list PySem.F.slot_list_append PySem.F.type_list_append mt_append (pv 2) (pa_cons (pe_lst (pa_cons pe_str (pa_cons pe_str (pa_cons pe_str (pa_cons pe_str (pa_cons pe_str (pa_cons pe_str (pa_cons pe_str (pa_cons pe_str (pa_cons pe_str (pa_cons pe_str (pa_cons pe_str (pa_cons pe_str pa_nil))))))))))))) pa_nil)))
      (pss_cons (ps_expr (pe_bm PySem.F.plainAttrs_list PySem.F.slot_list_append PySem.F.type_list_append mt_append (pv 2) (pa_cons (pe_lst (pa_cons pe_str (pa_cons pe_str (pa_cons pe_str (pa_cons pe_str (pa_cons pe_str (pa_cons pe_str (pa_cons pe_str (pa_cons pe_str (pa_cons pe_str (pa_cons pe_str (pa_cons pe_str (pa_cons pe_str pa_nil))))))))))))) pa_nil)))
      (pss_cons (ps_par (i := 3) (j := 4) rfl scLNm.nd rfl rfl (by decide) rfl rfl (pa_cons (pe_callTy call_list_of (by rfl) T.list (by decide +kernel) (pa_cons (pe_call C1.G hr (by rfl) C1.g C1.kp C1.b .nil pass0 (pa_cons (pv 0) (pa_cons (pv 2) pa_nil))) pa_nil)) (pa_cons (pe_lst pa_nil) pa_nil)) (by rfl))
      (pss_cons (ps_for PassesOwn.never rfl (pi_range1 (by rfl) T.range (pa_cons (pv 1) pa_nil)) (pg_name (i := 5) scLNm.nd rfl (Or.inl rfl))
        (pss_one (ps_expr (pe_bm PySem.F.plainAttrs_list PySem.F.slot_list_append PySem.F.type_list_append mt_append (pv 4) (pa_cons
          (pe_bm PySem.F.plainAttrs_list PySem.F.slot_list_pop PySem.F.type_list_pop mt_popAt (pv 3) (pa_cons (pe_call C2.G hr (by rfl) C2.g C2.kp C2.b .nil pass0 (pa_cons (pv 0) (pa_cons (pe_callB call_len_seq (by rfl) T.len (by decide +kernel) (pa_cons (pv 3) pa_nil)) pa_nil))) pa_nil)) pa_nil)))))
      (pss_one (ps_ret (pv 4))))))), ?_⟩
    refine ⟨show 12 ≤ sizeLine by decide, fun l1 hl1 => ⟨len1 _, fun L hL => ?_⟩⟩
    have hL0 : H L = none := by
      cases z : H L with
      | none => rfl
      | some o => rw [(same_new hl1) _ _ z] at hL; cases hL
    have Lf : L ≠ f := fe.at_.ne_new hL0
    have n1 : l1 ≠ L := ne_of_none upd_same hL
    have g2 : FdS f c H (upd (upd H l1 (.lst (pool1.map V.str))) L (.lst [.ref l1])) := (fe.self.same (same_new hl1)).mut fe.at_ hL0
    have a2 : upd (upd H l1 (.lst (pool1.map V.str))) L (.lst [.ref l1]) L = some (.lst [.ref l1]) := upd_same
    have b2 : upd (upd H l1 (.lst (pool1.map V.str))) L (.lst [.ref l1]) l1 = some (.lst (pool1.map V.str)) := by rw [upd_ne n1]; exact upd_same
    show (tSeq _ _) _ _ (upd (upd H l1 (.lst (pool1.map V.str))) L (.lst [.ref l1]))
    generalize upd (upd H l1 (.lst (pool1.map V.str))) L (.lst [.ref l1]) = H2 at g2 a2 b2 ⊢
    refine ⟨_, rfl, .inl ⟨rfl, _, SqL.of a2⟩, show 12 ≤ sizeLine by decide, fun l2 hl2 => ⟨L, _, _, rfl, rfl, (same_new hl2) _ _ a2, show 1 < sizeLine by decide, ?_⟩⟩
    have n2 : l2 ≠ L := (ne_of_none a2 hl2).symm
    have g4 : FdS f c H (upd (upd H2 l2 (.lst (pool2.map V.str))) L (.lst [.ref l1, .ref l2])) := (g2.same (same_new hl2)).mut fe.at_ hL0
    have a4 : upd (upd H2 l2 (.lst (pool2.map V.str))) L (.lst [.ref l1, .ref l2]) L = some (.lst [.ref l1, .ref l2]) := upd_same
    have b4 : upd (upd H2 l2 (.lst (pool2.map V.str))) L (.lst [.ref l1, .ref l2]) l1 = some (.lst (pool1.map V.str)) := by rw [upd_ne n1]; exact (same_new hl2) _ _ b2
    have c4 : upd (upd H2 l2 (.lst (pool2.map V.str))) L (.lst [.ref l1, .ref l2]) l2 = some (.lst (pool2.map V.str)) := by rw [upd_ne n2]; exact upd_same
    show (tSeq _ _) _ _ (upd (upd H2 l2 (.lst (pool2.map V.str))) L (.lst [.ref l1, .ref l2]))
    generalize upd (upd H2 l2 (.lst (pool2.map V.str))) L (.lst [.ref l1, .ref l2]) = H4 at g4 a4 b4 c4 ⊢
    refine ⟨_, rfl, .inl ⟨rfl, _, SqL.of a4⟩, show 12 ≤ sizeLine by decide, fun l3 hl3 => ⟨L, _, _, rfl, rfl, (same_new hl3) _ _ a4, show 2 < sizeLine by decide, ?_⟩⟩
    have n3 : l3 ≠ L := (ne_of_none a4 hl3).symm
    have g6 : FdS f c H (upd (upd H4 l3 (.lst (pool3.map V.str))) L (.lst [.ref l1, .ref l2, .ref l3])) := (g4.same (same_new hl3)).mut fe.at_ hL0
    have a6 : upd (upd H4 l3 (.lst (pool3.map V.str))) L (.lst [.ref l1, .ref l2, .ref l3]) L = some (.lst [.ref l1, .ref l2, .ref l3]) := upd_same
    have b6 : upd (upd H4 l3 (.lst (pool3.map V.str))) L (.lst [.ref l1, .ref l2, .ref l3]) l1 = some (.lst (pool1.map V.str)) := by rw [upd_ne n1]; exact (same_new hl3) _ _ b4
    have c6 : upd (upd H4 l3 (.lst (pool3.map V.str))) L (.lst [.ref l1, .ref l2, .ref l3]) l2 = some (.lst (pool2.map V.str)) := by rw [upd_ne n2]; exact (same_new hl3) _ _ c4
    have d6 : upd (upd H4 l3 (.lst (pool3.map V.str))) L (.lst [.ref l1, .ref l2, .ref l3]) l3 = some (.lst (pool3.map V.str)) := by rw [upd_ne n3]; exact upd_same
    show (tSeq _ _) _ _ (upd (upd H4 l3 (.lst (pool3.map V.str))) L (.lst [.ref l1, .ref l2, .ref l3]))
    generalize upd (upd H4 l3 (.lst (pool3.map V.str))) L (.lst [.ref l1, .ref l2, .ref l3]) = H6 at g6 a6 b6 c6 d6 ⊢
    have fe6 := fe.step g6
    refine ⟨_, rfl, _, rfl, f, c, ns, L, _, rfl, fe6, .inl ⟨SqL.of a6, Lf⟩, (fun e => nomatch e), show 3 ≤ 1000000 by decide, fun i x H7 hx s7 => ?_⟩
    obtain ⟨l, p, rfl, gp, hl7⟩ : ∃ l p, x = .ref l ∧ GoodPool p ∧ H7 l = some (.lst (p.map V.str)) := by
      match i, hx with
      | 0, hx => exact ⟨l1, pool1, (Option.some.inj hx).symm, good1, s7.lst fe6.at_ b6⟩
      | 1, hx => exact ⟨l2, pool2, (Option.some.inj hx).symm, good2, s7.lst fe6.at_ c6⟩
      | 2, hx => exact ⟨l3, pool3, (Option.some.inj hx).symm, good3, s7.lst fe6.at_ d6⟩
      | n + 3, hx => simp at hx
    refine ⟨l, _, rfl, .inl (SqL.of hl7), fun Ph hPh => ⟨Nat.zero_le _, fun Fo hFo => ⟨_, _, rfl, ?_⟩⟩⟩
    have g7 := g6.trans s7
    have hPh0 : H Ph = none := g7.free fe.at_ hPh
    have g8 := g7.same (same_new (o := .lst (p.map V.str)) hPh)
    have hFo0 : H Fo = none := g8.free fe.at_ hFo
    have g9 := g8.same (same_new (o := .lst []) hFo)
    have nPF : Ph ≠ Fo := ne_of_none upd_same hFo
    refine ⟨_, rfl, _, rfl, by omega, by omega, ?_⟩
    rw [show ((many : Nat) : Int).toNat = many by omega]
    refine for_it walk_range (fun n σ H' => FdS f c H H' ∧ ∃ zs rest, H' Ph = some (.lst (rest.map V.str)) ∧ H' Fo = some (.lst (zs.map V.str)) ∧ zs.length = n ∧ (zs ++ rest).Perm p ∧ ∃ y5, σ = [some (.ref f), some (.int ((many : Nat) : Int)), some (.ref L), some (.ref Ph), some (.ref Fo), y5])
      ⟨g9, [], p, (same_new hFo) _ _ upd_same, upd_same, rfl, List.Perm.refl _, none, rfl⟩ (fun _ _ _ _ _ => True.intro) ?_ ?_
    · rintro n x σ H8 H9 hn ⟨g, zs, rest, hp8, hf8, hz, pm, y5, rfl⟩ ⟨rfl, rfl⟩
      have hrl : rest.length = 12 - n := by
        have := pm.length_eq
        rw [List.length_append, gp.2.2] at this
        omega
      refine ⟨_, rfl, .inl ⟨rfl, _, SqL.of hf8⟩, _, rfl, .inl ⟨rfl, _, SqL.of hp8⟩, _, rfl, _, rfl, Ph, _, rfl, .inl (SqL.of hp8), f, c, ns, (rest.map V.str).length, rfl, fe.step g, by rw [List.length_map]; omega, by rw [List.length_map]; omega, fun r H3 hr s3 => ?_⟩
      rw [List.length_map] at hr
      have g3 := g.trans s3
      have hp3 := s3.lst g.at_ hp8
      have hf3 := s3.lst g.at_ hf8
      refine ⟨Ph, _, ((r : Nat) : Int), r, .str (rest[r]'hr), rfl, rfl, hp3, by omega, by omega, seqIdx (by rw [List.length_map]; exact hr), by rw [List.getElem?_map, List.getElem?_eq_getElem hr]; rfl, ?_⟩
      refine ⟨Fo, _, _, rfl, rfl, by rw [upd_ne nPF.symm]; exact hf3, by rw [List.length_map, hz]; exact small_line (by omega), ?_⟩
      refine ⟨(g3.mut fe.at_ hPh0).mut fe.at_ hFo0, zs ++ [rest[r]'hr], rest.eraseIdx r, ?_, ?_, by rw [List.length_append, hz]; rfl, ?_, _, rfl⟩
      · rw [upd_ne nPF, upd_same, erase_map]
      · rw [upd_same, List.map_append]
        rfl
      · rw [List.append_assoc]
        exact ((erase_perm rest r hr).append_left zs).trans pm
    · rintro σ H8 ⟨g, zs, rest, hp8, hf8, hz, pm, y5, rfl⟩
      have nd := (pm.nodup_iff.mpr gp.1)
      exact ⟨_, rfl, q Fo zs H8 g hFo0 hf8 hz (List.nodup_append.mp nd).1 fun z h => gp.2.1 z (pm.mem_iff.mp (List.mem_append_left _ h))⟩
end
end Rk

/-! the law's books -/
namespace Rk
open PySem PySem.Spec PyProof.Rows L2

def rowOf (s : Str × Nat) : List Key := [.inr s.1, .inl ((s.2 : Nat) : Int)]
theorem rowOf_inj {s t : Str × Nat} (h : rowOf s = rowOf t) : s = t := by
  unfold rowOf at h
  injection h with h1 h2
  injection h2 with h2 _
  injection h1 with h1
  injection h2 with h2
  obtain ⟨a, b⟩ := s
  obtain ⟨a', b'⟩ := t
  have h2 : ((b : Nat) : Int) = ((b' : Nat) : Int) := h2
  have : b = b' := by omega
  rw [show a = a' from h1, this]
theorem alike_row (s t : Str × Nat) : PySem.W.alike (encK (rowOf s)) (encK (rowOf t)) = true := by
  show PySem.W.alike (.tuple [.str s.1, .int s.2]) (.tuple [.str t.1, .int t.2]) = true
  simp [PySem.W.alike, PySem.W.alikeAll]
theorem eqv_str (x y : Str) : PyData.eqv (.str x) (.str y) = (x == y) := by rw [PyData.eqv]
theorem lt_row {s t : Str × Nat} (h : s.1 ≠ t.1) : PySem.W.dataLt (encK (rowOf s)) (encK (rowOf t)) = decide (sLt s.1 t.1) := by
  show PySem.W.dataLt (.tuple [.str s.1, .int s.2]) (.tuple [.str t.1, .int t.2]) = _
  rw [PySem.W.dataLt_pair (by simp [PySem.W.alike]) (by simp [PySem.W.alike]), eqv_str, if_neg (by simpa using h), PySem.W.dataLt_str]
theorem nodup_le {α : Type} [DecidableEq α] : ∀ {r s : List α}, r.Nodup → (∀ x ∈ r, x ∈ s) → r.length ≤ s.length
  | [], _, _, _ => Nat.zero_le _
  | x :: r, s, hn, hs => by
    obtain ⟨h1, h2⟩ := List.nodup_cons.mp hn
    have hx := hs x List.mem_cons_self
    have ih := nodup_le (r := r) (s := s.erase x) h2 fun y hy => (List.mem_erase_of_ne (fun e => h1 (by rw [← e]; exact hy))).mpr (hs y (List.mem_cons_of_mem _ hy))
    rw [List.length_erase_of_mem hx] at ih
    have : 0 < s.length := List.length_pos_of_mem hx
    rw [List.length_cons]
    omega
theorem rows_of {S : List (Str × Nat)} : ∀ l : List (List Key), (∀ r ∈ l, ∃ s ∈ S, r = rowOf s) → ∃ B : Bk, l = B.map rowOf ∧ ∀ s ∈ B, s ∈ S
  | [], _ => ⟨[], rfl, fun s h => (by cases h)⟩
  | r :: l, h => by
    obtain ⟨s, hs, e⟩ := h r List.mem_cons_self
    obtain ⟨B, e2, hB⟩ := rows_of l fun r hr => h r (List.mem_cons_of_mem _ hr)
    refine ⟨s :: B, by rw [List.map_cons, e, e2], fun t ht => ?_⟩
    rcases List.mem_cons.mp ht with q | q
    · rw [q]; exact hs
    · exact hB t q
/-- the rows that a comprehension made -/
theorem rows_rel {K : PySem.W.Frag} {H : Hp} {row : Nat → List Key} : ∀ {is : List Nat} {ys : List V}, RelL (fun i y H => ∃ b, y = .ref b ∧ SqT K H b ((row i).map kV)) H is ys →
    ∃ ks : List Row, ys = (ks.map fun p => V.ref p.1) ∧ (ks.map fun p => p.2) = is.map row ∧ ∀ p ∈ ks, SqT K H p.1 (p.2.map kV)
  | _, _, .nil => ⟨[], rfl, rfl, fun p h => (by cases h)⟩
  | i :: is, _, .cons (ys := ys) ⟨b, e, h⟩ t => by
    obtain ⟨ks, e1, e2, e3⟩ := rows_rel t
    refine ⟨(b, row i) :: ks, by rw [e, e1]; rfl, by rw [List.map_cons, e2]; rfl, fun p hp => ?_⟩
    rcases List.mem_cons.mp hp with q | q
    · rw [q]; exact h
    · exact e3 p q
structure GoodPlan (pl : List Nat) : Prop where
  few : pl.length ≤ 5
  le : ∀ n ∈ pl, n ≤ 3
  closed : 0 ∈ pl
  wide : ∃ n ∈ pl, 1 < n
/-- the book of such rows -/
theorem good_book {zs : List Str} {pl : List Nat} {B : Bk} (gp : GoodPlan pl) (hl : zs.length = pl.length) (nd : zs.Nodup) (hg : ∀ z ∈ zs, GoodName z) (hB : ∀ s ∈ B, s ∈ zs.zip pl) (hA : ∀ s ∈ zs.zip pl, s ∈ B) (nB : B.Nodup)
    (pw : B.Pairwise fun q r => PySem.W.dataLt (encK (rowOf r)) (encK (rowOf q)) = false) : GoodBook B := by
  have same : ∀ s t, s ∈ zs.zip pl → t ∈ zs.zip pl → s.1 = t.1 → s = t := by
    intro s t hs ht e
    obtain ⟨i, hi, ei⟩ := List.getElem_of_mem hs
    obtain ⟨j, hj, ej⟩ := List.getElem_of_mem ht
    rw [List.getElem_zip] at ei ej
    rw [List.length_zip] at hi hj
    have e1 : zs[i]'(by omega) = zs[j]'(by omega) := by rw [← ei, ← ej] at e; exact e
    have hp := List.pairwise_iff_getElem.mp nd
    rcases Nat.lt_trichotomy i j with q | q | q
    · exact absurd e1 (hp i j (by omega) (by omega) q)
    · subst q; rw [← ei, ← ej]
    · exact absurd e1.symm (hp j i (by omega) (by omega) q)
  have at_ : ∀ n ∈ pl, ∃ s ∈ B, s.2 = n := by
    intro n hn
    obtain ⟨i, hi, e⟩ := List.getElem_of_mem hn
    have h2 : i < (zs.zip pl).length := by rw [List.length_zip]; omega
    exact ⟨_, hA _ (List.getElem_mem h2), by rw [List.getElem_zip]; exact e⟩
  refine ⟨fun s hs => ?_, ?_, at_ 0 gp.closed, ?_, ?_⟩
  · obtain ⟨h1, h2⟩ := List.of_mem_zip (hB s hs)
    exact ⟨hg _ h1, gp.le _ h2⟩
  · rw [List.pairwise_map]
    refine List.Pairwise.imp_of_mem (fun {q r} hq hr h => ?_) (List.Pairwise.and pw nB)
    have ne : r.1 ≠ q.1 := fun e => h.2 (same _ _ (hB _ hq) (hB _ hr) e.symm)
    rw [lt_row ne] at h
    rcases sLt_tri ne with h3 | h3
    · exact absurd h3 (of_decide_eq_false h.1)
    · exact h3
  · obtain ⟨n, hn, h1⟩ := gp.wide
    obtain ⟨s, hs, e⟩ := at_ n hn
    exact ⟨s, hs, by rw [e]; exact h1⟩
  · have := nodup_le nB hB
    rw [List.length_zip] at this
    have := gp.few
    omega
section
variable {P : Program} {w : World} {K : PySem.W.Frag} {mg : Str → Option Value} {base : Heap}
def PlanAt (K : PySem.W.Frag) (H : Hp) (x : V) : Prop := ∃ pl b, GoodPlan pl ∧ x = .ref b ∧ SqT K H b (pl.map fun n => V.int ((n : Nat) : Int))
def spLBk (K : PySem.W.Frag) : Sp := fun vs H Q _ => ∃ f c ns a xs, vs = [.ref f, .ref a] ∧ Feed K f c ns H ∧ SqL K H a xs ∧ a ≠ f ∧ xs ≠ [] ∧ xs.length ≤ 1000 ∧ (∀ x ∈ xs, PlanAt K H x) ∧ ∀ v B H', FdS f c H H' → BookAt K H' v B → GoodBook B → Q v H'
theorem ok_lbk {f : Addr} {fd : FuncData} {k : Nat} (F : Fun K "_law_book" "_law_book" sLBk f fd) (T : Txt mg) (C1 : Def P w K mg base k "_law_any" pLAn (spLAn K)) (C2 : Def P w K mg base k "_law_names" pLNm (spLNm K)) : FnOk P w K mg base CX0 (k + 1) f fd pLBk (spLBk K) := by
  refine F.ok scLBk (fun vs H Q E h => ?_) (fun cdv A outer s H vs Q E hr h => ?_)
  · obtain ⟨f, c, ns, a, xs, rfl, _⟩ := h
    rfl
  · obtain ⟨f, c, ns, a, xs, rfl, fe, hs, hne, hx0, hxl, hpl, q⟩ := h
    have hu64 := hr.units
    refine ⟨_, pss_cons (ps_set (i := 2) scLBk.nd rfl (Or.inr rfl) (pe_call C1.G hr (by rfl) C1.g C1.kp C1.b .nil pass0 (pa_cons (pv 0) (pa_cons (pv 1) pa_nil))))
      (pss_cons (ps_set (i := 3) scLBk.nd rfl (Or.inr rfl) (pe_call C2.G hr (by rfl) C2.g C2.kp C2.b .nil pass0 (pa_cons (pv 0) (pa_cons (pe_callB call_len_seq (by rfl) T.len (by decide +kernel) (pa_cons (pv 2) pa_nil)) pa_nil))))
      (pss_one (ps_ret (pe_callTy call_tuple_of (by rfl) T.tuple (by decide +kernel) (pa_cons (pe_callB (cr_sortedP rfl hu64) (by rfl) T.sorted (by decide +kernel) (pa_cons (pe_callTy (cr_setP rfl hu64) (by rfl) T.set (by decide +kernel) (pa_cons
        (pe_lc (own := [("_law_k", 4)]) (g := gName 4) (tt := tYes) (te := tTup (tCons (tOp (rIxL K) (tVar 3) (tVar 4)) (tCons (tOp (rIxT K) (tVar 2) (tVar 4)) tNil))) rfl scLBk.nd (pi_range1 (by rfl) T.range (pa_cons (pe_callB call_len_seq (by rfl) T.len (by decide +kernel) (pa_cons (pv 2) pa_nil)) pa_nil)) (blkOk_by (N := nLBk) (sc := defScope sLBk) (by decide +kernel))
          (fun _ _ _ _ _ => pg_name (i := 4) scLBk.nd rfl (Or.inl rfl)) (fun _ _ _ _ _ => pts_nil)
          (fun _ _ _ _ _ => pe_tup (pa_cons (pe_ix ix_list (pv 3) (pv 4) (fun _ _ => rfl)) (pa_cons (pe_ix ix_tup (pv 2) (pv 4) (fun _ _ => rfl)) pa_nil))))
        pa_nil)) pa_nil)) pa_nil))))), ?_⟩
    refine ⟨_, rfl, _, rfl, f, c, ns, a, xs, rfl, fe, .inl ⟨hs, hne⟩, hx0, by omega, fun i x H1 hx s1 => ?_⟩
    obtain ⟨pl, pb, gp, rfl, hpb⟩ := hpl x (List.mem_of_getElem? hx)
    have fe1 := fe.step s1
    have hpb1 := (s1.tk fe.at_).t hpb
    have few := gp.few
    refine ⟨_, rfl, _, rfl, pb, _, rfl, .inr hpb1, f, c, ns, pl.length, ?_, fe1, few, fun Fn zs H2 s2 hFn hz hzl hznd hzg => ?_⟩
    · rw [List.length_map]
      rfl
    have g2 := s1.trans s2
    have hpb2 := (s2.tk fe1.at_).t hpb1
    refine ⟨_, rfl, pb, _, rfl, .inr hpb2, _, rfl, by rw [List.length_map]; omega, by rw [List.length_map]; omega, fun D hD => ?_⟩
    rw [List.length_map, show ((pl.length : Nat) : Int).toNat = pl.length by omega]
    refine lcS walk_range (fun i y H => ∃ b, y = .ref b ∧ SqT K H b ((rowOf (zs.getD i Str.empty, pl.getD i 0)).map kV)) (fun _ => true) (by omega) hD (fun _ _ => True.intro) (fun i y H H' tk ⟨b, h1, h2⟩ => ⟨b, h1, tk.t h2⟩) ?_ ?_
    · rintro i z H' H'' R R0 hi s3 ⟨rfl, rfl⟩ k1 k2
      have hiz : i < zs.length := by omega
      refine ⟨rfl, _, rfl, _, rfl, Fn, _, _, .str (zs[i]'hiz), rfl, rfl, SqL.of (s3 _ _ hz), ?_, _, rfl, _, rfl, pb, _, _, .int ((pl[i]'hi : Nat) : Int), rfl, rfl, (tk_same s3).t hpb2, ?_, len2 _ _, fun b hb => k1 _ _ rfl (same_new hb) ⟨b, rfl, ?_⟩⟩
      · rw [Int.zero_add]
        exact atI_nat (by rw [List.getElem?_map, List.getElem?_eq_getElem hiz]; rfl)
      · rw [Int.zero_add]
        exact atI_nat (by rw [List.getElem?_map, List.getElem?_eq_getElem hi]; rfl)
      · rw [List.getD_eq_getElem?_getD, List.getD_eq_getElem?_getD, List.getElem?_eq_getElem hiz, List.getElem?_eq_getElem hi]
        exact SqT.of upd_same
    · intro H3 ys s3 e r
      rw [range_all] at r
      obtain ⟨ks, e1, e2, e3⟩ := rows_rel r
      subst e1
      have eS : (ks.map fun p => p.2) = (zs.zip pl).map rowOf := by
        rw [e2]
        apply List.ext_getElem
        · rw [List.length_map, List.length_range, List.length_map, List.length_zip]; omega
        · intro i h1 h2
          rw [List.length_map, List.length_range] at h1
          rw [List.getElem_map, List.getElem_range, List.getElem_map, List.getElem_zip, List.getD_eq_getElem?_getD, List.getD_eq_getElem?_getD, List.getElem?_eq_getElem h1, List.getElem?_eq_getElem (show i < zs.length by omega)]
          rfl
      have inS : ∀ p ∈ ks, ∃ s ∈ zs.zip pl, p.2 = rowOf s := fun p hp => by
        have : p.2 ∈ (zs.zip pl).map rowOf := by rw [← eS]; exact List.mem_map.mpr ⟨p, hp, rfl⟩
        obtain ⟨s, h1, h2⟩ := List.mem_map.mp this
        exact ⟨s, h1, h2.symm⟩
      have ksl : ks.length = pl.length := by
        have := congrArg List.length e2
        rw [List.length_map, List.length_map, List.length_range] at this
        exact this
      refine ⟨D, ks, rfl, SqL.of e, e3, by omega, fun sa L hsa lsub lall lnd => ?_⟩
      have s4 : Same H3 (upd H3 sa (SetPO P w sa L)) := same_new hsa
      refine ⟨sa, L, rfl, upd_same, fun p hp => (tk_same s4).t (e3 p (lsub p hp)), fun p hp q hq => ?_, fun p hp => ?_, fun L' pa pm pw hpa => ?_⟩
      · obtain ⟨s1, _, q1⟩ := inS p (lsub p hp)
        obtain ⟨s2, _, q2⟩ := inS q (lsub q hq)
        rw [q1, q2]
        exact alike_row _ _
      · obtain ⟨s1, _, q1⟩ := inS p (lsub p hp)
        rw [q1]
        exact fun e => nomatch e
      obtain ⟨B, eB, hBS⟩ := rows_of (S := zs.zip pl) (L'.map fun p => p.2) fun r hr => by
        obtain ⟨p, hp, e⟩ := List.mem_map.mp hr
        obtain ⟨s, h1, h2⟩ := inS p (lsub p (pm.mem_iff.mp hp))
        exact ⟨s, h1, by rw [← e]; exact h2⟩
      have nB : B.Nodup := by
        have : (L'.map fun p => p.2).Nodup := (pm.map _).nodup_iff.mpr lnd
        rw [eB] at this
        exact List.Pairwise.imp (fun {a b} h e => h (by rw [e])) (List.pairwise_map.mp this)
      have hA : ∀ s ∈ zs.zip pl, s ∈ B := fun s hs => by
        have h1 : rowOf s ∈ ks.map fun p => p.2 := by rw [eS]; exact List.mem_map.mpr ⟨s, hs, rfl⟩
        obtain ⟨p, hp, ep⟩ := List.mem_map.mp h1
        have h2 := lall p hp
        have h3 : p.2 ∈ L'.map fun p => p.2 := ((pm.map fun p => p.2).mem_iff).mpr h2
        rw [eB, ep] at h3
        obtain ⟨t, ht, et⟩ := List.mem_map.mp h3
        rw [← rowOf_inj et]
        exact ht
      have pwB : B.Pairwise fun q r => PySem.W.dataLt (encK (rowOf r)) (encK (rowOf q)) = false := by
        have h1 : (L'.map fun p => p.2).Pairwise fun q r => PySem.W.dataLt (encK r) (encK q) = false := List.pairwise_map.mpr pw
        rw [eB] at h1
        exact List.pairwise_map.mp h1
      have gb := good_book gp hzl hznd hzg hBS hA nB pwB
      have s5 : Same (upd H3 sa (SetPO P w sa L)) (upd (upd H3 sa (SetPO P w sa L)) pa (.lst (L'.map fun q => V.ref q.1))) := same_new hpa
      refine ⟨pa, _, rfl, .inl ⟨SqL.of upd_same, fun t ht => q _ B _ ?_ ⟨t, _, rfl, SqT.of upd_same, ?_, fun i x hx => ?_⟩ gb⟩⟩
      · exact (((g2.same s3).same s4).same s5).same (same_new ht)
      · have := congrArg List.length eB
        rw [List.length_map, List.length_map] at this
        rw [List.length_map]
        exact this
      · rw [List.getElem?_map] at hx
        cases hq : L'[i]? with
        | none => rw [hq] at hx; cases hx
        | some p =>
          rw [hq] at hx
          have hx : V.ref p.1 = x := Option.some.inj hx
          have h1 : (L'.map fun p => p.2)[i]? = some p.2 := by rw [List.getElem?_map, hq]; rfl
          rw [eB, List.getElem?_map] at h1
          cases hb : B[i]? with
          | none => rw [hb] at h1; cases h1
          | some s =>
            rw [hb] at h1
            have h1 : rowOf s = p.2 := Option.some.inj h1
            refine ⟨s, rfl, p.1, hx.symm, ?_⟩
            have h2 := e3 p (lsub p (pm.mem_iff.mp (List.mem_of_getElem? hq)))
            rw [← h1] at h2
            exact (tk_same (s4.trans (s5.trans (same_new ht)))).t h2
end
end Rk

/-! the law's holes, size, depth -/
namespace Rk
open PySem PySem.Spec PyProof.Rows L2

/-- one by one -/
inductive Al {α : Type} (R : V → α → Prop) : List V → List α → Prop
  | nil : Al R [] []
  | cons {u : V} {t : α} {us : List V} {S : List α} : R u t → Al R us S → Al R (u :: us) (t :: S)
section
variable {α : Type} {R R' : V → α → Prop}
theorem Al.len : ∀ {us : List V} {S : List α}, Al R us S → us.length = S.length
  | _, _, .nil => rfl
  | _, _, .cons _ t => by rw [List.length_cons, List.length_cons, t.len]
theorem Al.mono (m : ∀ u t, R u t → R' u t) : ∀ {us : List V} {S : List α}, Al R us S → Al R' us S
  | _, _, .nil => .nil
  | _, _, .cons h t => .cons (m _ _ h) (t.mono m)
theorem Al.app : ∀ {us vs : List V} {S T : List α}, Al R us S → Al R vs T → Al R (us ++ vs) (S ++ T)
  | _, _, _, _, .nil, h => h
  | _, _, _, _, .cons a t, h => .cons a (t.app h)
theorem Al.rev : ∀ {us : List V} {S : List α}, Al R us S → Al R us.reverse S.reverse
  | _, _, .nil => .nil
  | _, _, .cons a t => by
    rw [List.reverse_cons, List.reverse_cons]
    exact t.rev.app (.cons a .nil)
theorem Al.get : ∀ {us : List V} {S : List α}, Al R us S → ∀ {i : Nat} {u : V}, us[i]? = some u → ∃ t, S[i]? = some t ∧ R u t
  | _, _, .nil, i, u, e => by simp at e
  | _, _, .cons a t, 0, u, e => by
    simp at e
    subst e
    exact ⟨_, rfl, a⟩
  | _, _, .cons a t, i + 1, u, e => by
    obtain ⟨s, h1, h2⟩ := t.get (i := i) (by simpa using e)
    exact ⟨s, by simpa using h1, h2⟩
theorem Al.drop : ∀ {us : List V} {S : List α} (k : Nat), Al R us S → Al R (us.drop k) (S.drop k)
  | _, _, 0, h => h
  | _, _, _ + 1, .nil => .nil
  | _, _, k + 1, .cons _ t => t.drop k
theorem Al.of {us : List V} {S : List α} (hl : us.length = S.length) (h : ∀ (i : Nat) u t, us[i]? = some u → S[i]? = some t → R u t) : Al R us S := by
  induction us generalizing S with
  | nil =>
    cases S with
    | nil => exact .nil
    | cons t S => cases hl
  | cons u us ih =>
    cases S with
    | nil => cases hl
    | cons t S => exact .cons (h 0 u t rfl rfl) (ih (Nat.succ.inj hl) fun i u t a b => h (i + 1) u t (by simpa using a) (by simpa using b))
end
theorem dpAll_tms {K : PySem.W.Frag} {H : Hp} : ∀ {us : List V} {S : List Tm}, Al (TmAt K H) us S → DpAll K H us (S.map Tm.toD)
  | _, _, .nil => .nil
  | _, _, .cons a t => .cons a (dpAll_tms t)
theorem shaped_list {ds : List PyData} (h1 : ∀ d ∈ ds, d.canLay0 = true) (h2 : ∀ d ∈ ds, d.depth ≤ 60) : SeqAt.shaped (.list ds) = true := by
  unfold SeqAt.shaped
  have a1 : ∀ ds : List PyData, (∀ d ∈ ds, d.canLay0 = true) → PyData.canLayAll0 ds = true := by
    intro ds
    induction ds with
    | nil => intro _; rw [PyData.canLayAll0]
    | cons d ds ih => intro h; rw [PyData.canLayAll0, h d List.mem_cons_self, ih fun x hx => h x (List.mem_cons_of_mem _ hx)]; rfl
  have a2 : ∀ ds : List PyData, (∀ d ∈ ds, d.depth ≤ 60) → PyData.depthAll ds ≤ 60 := by
    intro ds
    induction ds with
    | nil => intro _; rw [PyData.depthAll]; omega
    | cons d ds ih =>
      intro h
      have := h d List.mem_cons_self
      have := ih fun x hx => h x (List.mem_cons_of_mem _ hx)
      rw [PyData.depthAll]
      omega
  have := a2 ds h2
  rw [PyData.canLay0, a1 ds h1, PyData.depth]
  simp
  omega
theorem shaped_nil : SeqAt.shaped (.list []) = true := by decide
theorem shaped_tms {B : Bk} (gb : GoodBook B) {S : List Tm} (h1 : ∀ t ∈ S, okT B t) (h2 : ∀ t ∈ S, t.sz ≤ 40) : SeqAt.shaped (.list (S.map Tm.toD)) = true := by
  refine shaped_list (fun d hd => ?_) fun d hd => ?_
  · obtain ⟨t, ht, e⟩ := List.mem_map.mp hd
    rw [← e]
    exact canLay_tm (fun s hs => (gb.signs s hs).1) t (h1 t ht)
  · obtain ⟨t, ht, e⟩ := List.mem_map.mp hd
    rw [← e]
    have := depth_tm t
    have := h2 t ht
    omega
/-- what terms stand on a stack within a term -/
def SubS (root : Tm) (S : List Tm) : Prop := ∀ t ∈ S, Sub root t
theorem node_al {K : PySem.W.Frag} {H : Hp} {v : V} {f : Str} {ps : List Tm} (h : TmAt K H v (.node f ps)) : ∃ a xs, v = .ref a ∧ SqT K H a (.str f :: xs) ∧ Al (TmAt K H) xs ps := by
  obtain ⟨a, xs, e, h1, h2, h3⟩ := h.node
  refine ⟨a, xs, e, h1, Al.of h2 fun i u t g1 g2 => ?_⟩
  obtain ⟨p, q1, q2⟩ := h3 i u g1
  rw [Option.some.inj (g2.symm.trans q1)]
  exact q2
mutual
/-- the holes, from the left -/
def hl : Tm → List Nat
  | .hole n => [n]
  | .node _ ps => hls ps
def hls : List Tm → List Nat
  | [] => []
  | p :: ps => hl p ++ hls ps
end
theorem hls_app : ∀ a b : List Tm, hls (a ++ b) = hls a ++ hls b
  | [], b => rfl
  | p :: a, b => by rw [List.cons_append, hls, hls_app a b, hls, List.append_assoc]
mutual
theorem hl_len : ∀ t : Tm, (hl t).length ≤ t.sz
  | .hole _ => Nat.le_refl _
  | .node f ps => by
    have := hls_len ps
    rw [hl, Tm.sz]
    omega
theorem hls_len : ∀ ps : List Tm, (hls ps).length ≤ szs ps
  | [] => Nat.le_refl _
  | p :: ps => by
    have := hl_len p
    have := hls_len ps
    rw [hls, List.length_append, szs]
    omega
end
section
variable {P : Program} {w : World} {K : PySem.W.Frag} {mg : Str → Option Value} {base : Heap}
def spLHo (K : PySem.W.Frag) : Sp := fun vs H Q _ => ∃ x t B, vs = [x] ∧ TmAt K H x t ∧ okT B t ∧ GoodBook B ∧ t.sz ≤ 40 ∧ ∀ F H', Same H H' → H F = none → H' F = some (.lst ((hl t).map fun n => V.int ((n : Nat) : Int))) → Q (.ref F) H'
theorem ok_lho {f : Addr} {fd : FuncData} {k : Nat} (F : Fun K "_law_holes" "_law_holes" sLHo f fd) (T : Txt mg) : FnOk P w K mg base CX0 (k + 1) f fd pLHo (spLHo K) := by
  refine F.ok scLHo (fun vs H Q E h => ?_) (fun cdv A outer s H vs Q E hr h => ?_)
  · obtain ⟨x, t, B, rfl, _⟩ := h
    rfl
  · obtain ⟨x, root, B, rfl, ht, hok, gb, hz, q⟩ := h
    have hu64 := hr.units
    refine ⟨_, pss_cons (ps_par (i := 1) (j := 2) rfl scLHo.nd rfl rfl (by decide) rfl rfl (pa_cons (pe_lst pa_nil) (pa_cons (pe_lst (pa_cons (pv 0) pa_nil)) pa_nil)) (by rfl))
      (pss_cons (ps_for PassesOwn.never rfl (pi_range1 (by rfl) T.range (pa_cons pe_int pa_nil)) (pg_name (i := 3) scLHo.nd rfl (Or.inl rfl))
        (pss_cons (ps_if (pt_cmpR (op_eqD hu64) (pv 2) (pe_lst pa_nil) (nomark _)) (pss_one ps_break) pss_nil)
        (pss_cons (ps_set (i := 4) scLHo.nd rfl (Or.inl rfl) (pe_bm0 PySem.F.plainAttrs_list PySem.F.slot_list_pop PySem.F.type_list_pop mt_pop (pv 2)))
        (pss_one (ps_if (pt_val (pe_callB call_isi (by rfl) T.isinstance (by decide +kernel) (pa_cons (pv 4) (pa_cons (pe_bltn (v := .ty "tuple") (by rfl) T.tuple (by decide +kernel) rfl) pa_nil))) (by intro _; rfl))
          (pss_one (ps_expr (pe_bm PySem.F.plainAttrs_list PySem.F.slot_list_extend PySem.F.type_list_extend mt_extend (pv 2) (pa_cons
            (pe_callTy call_list_of (by rfl) T.list (by decide +kernel) (pa_cons (pe_revT (pe_slice sl_tupA (pv 4) (po_some pe_int) po_none)) pa_nil)) pa_nil))))
          (pss_one (ps_expr (pe_bm PySem.F.plainAttrs_list PySem.F.slot_list_append PySem.F.type_list_append mt_append (pv 1) (pa_cons (pv 4) pa_nil)))))))))
      (pss_one (ps_ret (pv 1)))), ?_⟩
    refine ⟨Nat.zero_le _, fun Fo hFo => ⟨_, rfl, len1 _, fun Tk' hT => ⟨_, _, rfl, ?_⟩⟩⟩
    have hT0 : H Tk' = none := by
      cases z : H Tk' with
      | none => rfl
      | some o => rw [(same_new hFo) _ _ z] at hT; cases hT
    have nFT : Fo ≠ Tk' := ne_of_none upd_same hT
    have s0 : Same H (upd (upd H Fo (.lst [])) Tk' (.lst [x])) := (same_new hFo).trans (same_new hT)
    refine ⟨_, rfl, by decide, by decide, ?_⟩
    refine for_it walk_range (fun n σ H' => Same H H' ∧ ∃ us S fs, H' Tk' = some (.lst us.reverse) ∧ H' Fo = some (.lst (fs.map fun n => V.int ((n : Nat) : Int))) ∧ Al (TmAt K H') us S ∧ SubS root S ∧ n + szs S ≤ 40 ∧ fs ++ hls S = hl root ∧ ∃ y3 y4, σ = [some x, some (.ref Fo), some (.ref Tk'), y3, y4])
      ⟨s0, [x], [root], [], upd_same, by rw [upd_ne nFT]; exact upd_same, .cons (ht.mono (tk_same s0)) .nil, fun t h => by rw [List.mem_singleton.mp h]; exact .refl, by show 0 + (root.sz + 0) ≤ 40; omega, by show [] ++ (hl root ++ []) = _; simp, none, none, rfl⟩ (fun _ _ _ _ _ => True.intro) ?_ ?_
    · rintro n y σ H1 H2 hn ⟨sm, us, S, fs, hTk, hFs, al, sub, hsz, hfs, y3, y4, rfl⟩ ⟨rfl, rfl⟩
      have szm : ∀ t ∈ S, t.sz ≤ 40 := fun t h => Nat.le_trans (sub t h).sz hz
      refine ⟨_, rfl, Nat.zero_le _, fun p hp => ⟨.list (S.reverse.map Tm.toD), .list [], .lst (SqL.of ((same_new hp) _ _ hTk)) (dpAll_tms ((al.mono fun u t h => h.mono (tk_same (same_new hp))).rev)), .lst (SqL.of upd_same) .nil, shaped_tms gb (fun t h => (sub t (List.mem_reverse.mp h)).ok hok) (fun t h => szm t (List.mem_reverse.mp h)), shaped_nil, S.isEmpty, congrArg V.bl (by rw [eqv_nil, List.isEmpty_map, List.isEmpty_reverse]), ?_⟩⟩
      have sp := same_new (o := .lst []) hp
      cases al with
      | nil =>
        refine iteT ⟨_, rfl, q Fo _ (sm.trans sp) hFo ?_⟩
        rw [show hl root = fs by rw [← hfs]; simp [hls]]
        exact sp _ _ hFs
      | @cons u t us S hut al =>
        refine iteF ?_
        have hTk2 := sp _ _ hTk
        have hFs2 := sp _ _ hFs
        refine ⟨_, rfl, .inl ⟨rfl, _, SqL.of hTk2⟩, Tk', _, u, rfl, rfl, hTk2, by simp, ?_⟩
        rw [show (u :: us).reverse.dropLast = us.reverse by simp]
        have tk2 : Tk _ (upd _ Tk' (.lst us.reverse)) := tk_lst hTk2
        have ut := (hut.mono (tk_same sp)).mono tk2
        have al2 : Al (TmAt K _) us S := al.mono fun u t h => (h.mono (tk_same sp)).mono tk2
        have smP := same_mut (o := .lst us.reverse) (sm.trans sp) hT0
        rw [szs] at hsz
        have hsub : SubS root S := fun t h => sub t (List.mem_cons_of_mem _ h)
        have ht0 := sub t List.mem_cons_self
        cases t with
        | hole m =>
          obtain rfl := ut.hole
          refine ⟨_, rfl, _, _, _, _, _, rfl, .ty "tuple", Sort3.ty (K := K) (.int (m : Int)), kit_ty kit_it, false, rfl, iteF ?_⟩
          refine ⟨_, rfl, .inl ⟨rfl, _, SqL.of (by rw [upd_ne nFT]; exact hFs2)⟩, _, rfl, Fo, _, _, rfl, rfl, by rw [upd_ne nFT]; exact hFs2, ?_, same_mut smP hFo, us, S, fs ++ [m], by rw [upd_ne nFT.symm, upd_same], by rw [upd_same, List.map_append]; rfl, ?_, hsub, by rw [Tm.sz] at hsz; omega, ?_, _, _, rfl⟩
          · have h1 := congrArg List.length hfs
            rw [List.length_append] at h1
            have h2 := hl_len root
            rw [List.length_map]
            exact small_line (by omega)
          · exact al2.mono fun u t h => h.mono (tk_lst (by rw [upd_ne nFT]; exact hFs2))
          · rw [← hfs, hls, hl, List.append_assoc]
        | node g ps =>
          obtain ⟨ta, txs, rfl, h1, h2⟩ := node_al ut
          refine ⟨_, rfl, _, _, _, _, _, rfl, .ty "tuple", tyx_tup h1, kit_ty kit_tt, true, rfl, iteT ?_⟩
          refine ⟨_, rfl, .inl ⟨rfl, _, SqL.of upd_same⟩, _, rfl, _, rfl, ta, _, rfl, h1, fun hc => absurd hc cut1_not, fun _ p1 hp1 => ?_⟩
          rw [cut1]
          have sp1 := same_new (o := .tup txs) hp1
          refine ⟨p1, txs, rfl, SqT.of upd_same, fun p2 hp2 => ?_⟩
          have sp2 := same_new (o := .tup txs.reverse) hp2
          refine ⟨p2, _, rfl, .inr (SqT.of upd_same), fun p3 hp3 => ?_⟩
          have sp3 := same_new (o := .lst txs.reverse) hp3
          have sA := sp1.trans (sp2.trans sp3)
          have hT3 := sA _ _ (upd_same (H := _) (o := .lst us.reverse))
          have tkE := tk_lst (o := .lst (us.reverse ++ txs.reverse)) hT3
          have hlen := h2.len
          have hal := al2.len
          have k1 := len_le_szs ps
          have k2 := len_le_szs S
          rw [Tm.sz] at hsz
          refine ⟨Tk', p3, _, _, rfl, rfl, hT3, upd_same, ?_, same_mut (smP.trans sA) hT0, txs ++ us, ps ++ S, fs, by rw [upd_same, List.reverse_append], by rw [upd_ne nFT]; exact sA _ _ (by rw [upd_ne nFT]; exact hFs2), ?_, ?_, by rw [szs_append]; omega, ?_, _, _, rfl⟩
          · rw [List.length_reverse, List.length_reverse]
            exact small_line' (by omega)
          · exact (h2.app al2).mono fun u t h => (h.mono (tk_same sA)).mono tkE
          · intro t h
            rcases List.mem_append.mp h with h | h
            · exact ht0.parts h
            · exact hsub t h
          · rw [← hfs, hls_app, hls, hl]
    · rintro σ H1 ⟨sm, us, S, fs, hTk, hFs, al, sub, hsz, hfs, y3, y4, rfl⟩
      have hsz : (500 : Int).toNat + szs S ≤ 40 := hsz
      have : (500 : Int).toNat = 500 := rfl
      omega
end
end Rk

/-! the law's size, depth -/
namespace Rk
open PySem PySem.Spec PyProof.Rows L2
section
variable {P : Program} {w : World} {K : PySem.W.Frag} {mg : Str → Option Value} {base : Heap}
def spLSz (K : PySem.W.Frag) : Sp := fun vs H Q _ => ∃ x t B, vs = [x] ∧ TmAt K H x t ∧ okT B t ∧ GoodBook B ∧ t.sz ≤ 40 ∧ ∀ H', Same H H' → Q (.int ((t.sz : Nat) : Int)) H'
theorem ok_lsz {f : Addr} {fd : FuncData} {k : Nat} (F : Fun K "_law_size" "_law_size" sLSz f fd) (T : Txt mg) : FnOk P w K mg base CX0 (k + 1) f fd pLSz (spLSz K) := by
  refine F.ok scLSz (fun vs H Q E h => ?_) (fun cdv A outer s H vs Q E hr h => ?_)
  · obtain ⟨x, t, B, rfl, _⟩ := h
    rfl
  · obtain ⟨x, root, B, rfl, ht, hok, gb, hz, q⟩ := h
    have hu64 := hr.units
    refine ⟨_, pss_cons (ps_par (i := 1) (j := 2) rfl scLSz.nd rfl rfl (by decide) rfl rfl (pa_cons pe_int (pa_cons (pe_lst (pa_cons (pv 0) pa_nil)) pa_nil)) (by rfl))
      (pss_cons (ps_for PassesOwn.never rfl (pi_range1 (by rfl) T.range (pa_cons pe_int pa_nil)) (pg_name (i := 3) scLSz.nd rfl (Or.inl rfl))
        (pss_cons (ps_if (pt_cmpR (op_eqD hu64) (pv 2) (pe_lst pa_nil) (nomark _)) (pss_one ps_break) pss_nil)
        (pss_cons (ps_par (i := 4) (j := 1) rfl scLSz.nd rfl rfl (by decide) rfl rfl (pa_cons (pe_bm0 PySem.F.plainAttrs_list PySem.F.slot_list_pop PySem.F.type_list_pop mt_pop (pv 2)) (pa_cons (pe_op op_add (pv 1) pe_int) pa_nil)) (by rfl))
        (pss_one (ps_if (pt_val (pe_callB call_isi (by rfl) T.isinstance (by decide +kernel) (pa_cons (pv 4) (pa_cons (pe_bltn (v := .ty "tuple") (by rfl) T.tuple (by decide +kernel) rfl) pa_nil))) (by intro _; rfl))
          (pss_one (ps_expr (pe_bm PySem.F.plainAttrs_list PySem.F.slot_list_extend PySem.F.type_list_extend mt_extend (pv 2) (pa_cons
            (pe_callTy call_list_of (by rfl) T.list (by decide +kernel) (pa_cons (pe_slice sl_tupA (pv 4) (po_some pe_int) po_none) pa_nil)) pa_nil))))
          pss_nil)))))
      (pss_one (ps_ret (pv 1)))), ?_⟩
    refine ⟨_, rfl, len1 _, fun Tk' hT => ⟨_, _, rfl, ?_⟩⟩
    have s0 : Same H (upd H Tk' (.lst [x])) := same_new hT
    refine ⟨_, rfl, by decide, by decide, ?_⟩
    refine for_it walk_range (fun n σ H' => Same H H' ∧ ∃ us S, H' Tk' = some (.lst us.reverse) ∧ Al (TmAt K H') us S ∧ SubS root S ∧ n + szs S = root.sz ∧ ∃ y3 y4, σ = [some x, some (.int ((n : Nat) : Int)), some (.ref Tk'), y3, y4])
      ⟨s0, [x], [root], upd_same, .cons (ht.mono (tk_same s0)) .nil, fun t h => by rw [List.mem_singleton.mp h]; exact .refl, by show 0 + (root.sz + 0) = root.sz; omega, none, none, rfl⟩ (fun _ _ _ _ _ => True.intro) ?_ ?_
    · rintro n y σ H1 H2 hn ⟨sm, us, S, hTk, al, sub, hsz, y3, y4, rfl⟩ ⟨rfl, rfl⟩
      have szm : ∀ t ∈ S, t.sz ≤ 40 := fun t h => Nat.le_trans (sub t h).sz hz
      refine ⟨_, rfl, Nat.zero_le _, fun p hp => ⟨.list (S.reverse.map Tm.toD), .list [], .lst (SqL.of ((same_new hp) _ _ hTk)) (dpAll_tms ((al.mono fun u t h => h.mono (tk_same (same_new hp))).rev)), .lst (SqL.of upd_same) .nil, shaped_tms gb (fun t h => (sub t (List.mem_reverse.mp h)).ok hok) (fun t h => szm t (List.mem_reverse.mp h)), shaped_nil, S.isEmpty, congrArg V.bl (by rw [eqv_nil, List.isEmpty_map, List.isEmpty_reverse]), ?_⟩⟩
      have sp := same_new (o := .lst []) hp
      cases al with
      | nil =>
        have e : n = root.sz := by rw [← hsz]; rfl
        subst e
        exact iteT ⟨_, rfl, q _ (sm.trans sp)⟩
      | @cons u t us S hut al =>
        refine iteF ?_
        have hTk2 := sp _ _ hTk
        refine ⟨_, rfl, .inl ⟨rfl, _, SqL.of hTk2⟩, Tk', _, u, rfl, rfl, hTk2, by simp, ?_⟩
        rw [show (u :: us).reverse.dropLast = us.reverse by simp]
        refine ⟨_, rfl, _, _, rfl, rfl, _, _, rfl, ?_⟩
        have tk2 : Tk _ (upd _ Tk' (.lst us.reverse)) := tk_lst hTk2
        have ut := (hut.mono (tk_same sp)).mono tk2
        have al2 : Al (TmAt K _) us S := al.mono fun u t h => (h.mono (tk_same sp)).mono tk2
        have smP := same_mut (o := .lst us.reverse) (sm.trans sp) hT
        rw [szs] at hsz
        have hsub : SubS root S := fun t h => sub t (List.mem_cons_of_mem _ h)
        have ht0 := sub t List.mem_cons_self
        cases t with
        | hole m =>
          obtain rfl := ut.hole
          refine ⟨_, rfl, _, _, _, _, _, rfl, .ty "tuple", Sort3.ty (K := K) (.int (m : Int)), kit_ty kit_it, false, rfl, iteF ?_⟩
          exact ⟨smP, us, S, upd_same, al2, hsub, by rw [Tm.sz] at hsz; omega, _, _, rfl⟩
        | node g ps =>
          obtain ⟨ta, txs, rfl, h1, h2⟩ := node_al ut
          refine ⟨_, rfl, _, _, _, _, _, rfl, .ty "tuple", tyx_tup h1, kit_ty kit_tt, true, rfl, iteT ?_⟩
          refine ⟨_, rfl, .inl ⟨rfl, _, SqL.of upd_same⟩, _, rfl, _, rfl, ta, _, rfl, h1, fun hc => absurd hc cut1_not, fun _ p1 hp1 => ?_⟩
          rw [cut1]
          have sp1 := same_new (o := .tup txs) hp1
          refine ⟨p1, txs, rfl, .inr (SqT.of upd_same), fun p3 hp3 => ?_⟩
          have sp3 := same_new (o := .lst txs) hp3
          have sA := sp1.trans sp3
          have hT3 := sA _ _ (upd_same (H := _) (o := .lst us.reverse))
          have tkE := tk_lst (o := .lst (us.reverse ++ txs)) hT3
          have hlen := h2.len
          have hal := al2.len
          have k1 := len_le_szs ps
          have k2 := len_le_szs S
          rw [Tm.sz] at hsz
          refine ⟨Tk', p3, _, _, rfl, rfl, hT3, upd_same, ?_, same_mut (smP.trans sA) hT, txs.reverse ++ us, ps.reverse ++ S, by rw [upd_same, List.reverse_append, List.reverse_reverse], ?_, ?_, ?_, _, _, rfl⟩
          · rw [List.length_reverse]
            exact small_line' (by omega)
          · exact (h2.rev.app al2).mono fun u t h => (h.mono (tk_same sA)).mono tkE
          · intro t h
            rcases List.mem_append.mp h with h | h
            · exact ht0.parts (List.mem_reverse.mp h)
            · exact hsub t h
          · have szr : ∀ l : List Tm, szs l.reverse = szs l := by
              intro l
              induction l with
              | nil => rfl
              | cons a l ih => rw [List.reverse_cons, szs_append, ih, szs, szs, szs]; omega
            rw [szs_append, szr]
            omega
    · rintro σ H1 ⟨sm, us, S, hTk, al, sub, hsz, y3, y4, rfl⟩
      have hsz : (500 : Int).toNat + szs S = root.sz := hsz
      have : (500 : Int).toNat = 500 := rfl
      omega
def spLDp (K : PySem.W.Frag) : Sp := fun vs H Q _ => ∃ x t B, vs = [x] ∧ TmAt K H x t ∧ okT B t ∧ GoodBook B ∧ t.sz ≤ 40 ∧ ∀ (d : Int) H', Same H H' → Q (.int d) H'
/-- the parts of a row of terms -/
def rowP (S : List Tm) : List Tm := S.flatMap Tm.parts
theorem szs_rowP : ∀ S : List Tm, szs (rowP S) ≤ szs S
  | [] => Nat.le_refl _
  | t :: S => by
    have := szs_rowP S
    have := szs_parts t
    unfold rowP at *
    rw [List.flatMap_cons, szs_append, szs]
    omega
theorem ok_ldp {f : Addr} {fd : FuncData} {k : Nat} (F : Fun K "_law_depth" "_law_depth" sLDp f fd) (T : Txt mg) : FnOk P w K mg base CX0 (k + 1) f fd pLDp (spLDp K) := by
  refine F.ok scLDp (fun vs H Q E h => ?_) (fun cdv A outer s H vs Q E hr h => ?_)
  · obtain ⟨x, t, B, rfl, _⟩ := h
    rfl
  · obtain ⟨x, root, B, rfl, ht, hok, gb, hz, q⟩ := h
    have hu64 := hr.units
    refine ⟨_, pss_cons (ps_par (i := 1) (j := 2) rfl scLDp.nd rfl rfl (by decide) rfl rfl (pa_cons (pe_un un_neg pe_int) (pa_cons (pe_lst (pa_cons (pv 0) pa_nil)) pa_nil)) (by rfl))
      (pss_cons (ps_for PassesOwn.never rfl (pi_range1 (by rfl) T.range (pa_cons pe_int pa_nil)) (pg_name (i := 3) scLDp.nd rfl (Or.inl rfl))
        (pss_cons (ps_if (pt_cmpR (op_eqD hu64) (pv 2) (pe_lst pa_nil) (nomark _)) (pss_one ps_break) pss_nil)
        (pss_cons (ps_par (i := 1) (j := 4) rfl scLDp.nd rfl rfl (by decide) rfl rfl (pa_cons (pe_op op_add (pv 1) pe_int) (pa_cons (pe_lst pa_nil) pa_nil)) (by rfl))
        (pss_cons (ps_for PassesOwn.never rfl (pi_list (pe_callTy call_list_of (by rfl) T.list (by decide +kernel) (pa_cons (pv 2) pa_nil))) (pg_name (i := 5) scLDp.nd rfl (Or.inl rfl))
          (pss_one (ps_expr (pe_bm PySem.F.plainAttrs_list PySem.F.slot_list_extend PySem.F.type_list_extend mt_extend (pv 4) (pa_cons
            (pe_ifExp (pt_val (pe_callB call_isi (by rfl) T.isinstance (by decide +kernel) (pa_cons (pv 5) (pa_cons (pe_bltn (v := .ty "tuple") (by rfl) T.tuple (by decide +kernel) rfl) pa_nil))) (by intro _; rfl))
              (pe_callTy call_list_of (by rfl) T.list (by decide +kernel) (pa_cons (pe_slice sl_tupA (pv 5) (po_some pe_int) po_none) pa_nil)) (pe_lst pa_nil)) pa_nil)))))
        (pss_one (ps_set (i := 2) scLDp.nd rfl (Or.inl rfl) (pv 4)))))))
      (pss_one (ps_ret (pv 1)))), ?_⟩
    refine ⟨_, rfl, _, rfl, len1 _, fun E0' hE => ⟨_, _, rfl, ?_⟩⟩
    have s0 : Same H (upd H E0' (.lst [x])) := same_new hE
    refine ⟨_, rfl, by decide, by decide, ?_⟩
    refine for_it walk_range (fun n σ H' => Same H H' ∧ ∃ (d : Int) (Ed : Addr) (us : List V) (S : List Tm), H' Ed = some (.lst us) ∧ Al (TmAt K H') us S ∧ SubS root S ∧ szs S ≤ root.sz ∧ ∃ y3 y4 y5, σ = [some x, some (.int d), some (.ref Ed), y3, y4, y5])
      ⟨s0, _, E0', [x], [root], upd_same, .cons (ht.mono (tk_same s0)) .nil, fun t h => by rw [List.mem_singleton.mp h]; exact .refl, by show root.sz + 0 ≤ root.sz; omega, none, none, none, rfl⟩ (fun _ _ _ _ _ => True.intro) ?_ ?_
    · rintro n y σ H1 H2 hn ⟨sm, d, Ed, us, S, hE1, al, sub, hsz, y3, y4, y5, rfl⟩ ⟨rfl, rfl⟩
      have szm : ∀ t ∈ S, t.sz ≤ 40 := fun t h => Nat.le_trans (sub t h).sz hz
      refine ⟨_, rfl, Nat.zero_le _, fun p hp => ⟨.list (S.map Tm.toD), .list [], .lst (SqL.of ((same_new hp) _ _ hE1)) (dpAll_tms (al.mono fun u t h => h.mono (tk_same (same_new hp)))), .lst (SqL.of upd_same) .nil, shaped_tms gb (fun t h => (sub t h).ok hok) (fun t h => szm t h), shaped_nil, S.isEmpty, congrArg V.bl (by rw [eqv_nil, List.isEmpty_map]), ?_⟩⟩
      have sp := same_new (o := .lst []) hp
      refine ite2 (fun _ => ⟨_, rfl, q _ _ (sm.trans sp)⟩) (fun _ => ?_)
      refine ⟨_, rfl, _, _, rfl, rfl, Nat.zero_le _, fun La hLa => ⟨_, _, rfl, ?_⟩⟩
      have sp2 := same_new (o := .lst []) hLa
      refine ⟨_, rfl, Ed, us, rfl, .inl (SqL.of (sp2 _ _ (sp _ _ hE1))), fun Cp hCp => ⟨Cp, rfl, ⟨_, SqL.of upd_same⟩, ?_⟩⟩
      have sp3 := same_new (o := .lst us) hCp
      have s3 := sp.trans (sp2.trans sp3)
      have hLaH : H La = none := by
        cases z : H La with
        | none => rfl
        | some o => rw [sp _ _ (sm _ _ z)] at hLa; cases hLa
      have nCL : Cp ≠ La := (ne_of_none upd_same hCp).symm
      have al3 := al.mono fun u t h => h.mono (tk_same s3)
      have hus := al.len
      have hSl := len_le_szs S
      refine for_it (walk_list (K := K) (a := Cp) (xs := us)) (fun j σ H' => Same H H' ∧ H' Cp = some (.lst us) ∧ (∃ vs, H' La = some (.lst vs) ∧ Al (TmAt K H') vs (rowP (S.take j))) ∧ Al (TmAt K H') us S ∧ ∃ y5, σ = [some x, some (.int (d + 1)), some (.ref Ed), some (.int (0 + (n : Nat))), some (.ref La), y5])
        ⟨sm.trans s3, upd_same, ⟨[], sp3 _ _ upd_same, .nil⟩, al3, _, rfl⟩ (fun _ _ _ _ h => SqL.of h.2.1) ?_ ?_
      · rintro j u σ H4 H5 hj ⟨s4, hC4, ⟨vs, hv, av⟩, al4, y5, rfl⟩ ⟨rfl, hu⟩
        obtain ⟨t, ht4, hut⟩ := al4.get hu
        have hmem := List.mem_of_getElem? ht4
        have etk : rowP (S.take (j + 1)) = rowP (S.take j) ++ t.parts := by
          unfold rowP
          rw [List.take_add_one, ht4, List.flatMap_append]
          simp
        have lenb : (rowP (S.take (j + 1))).length ≤ 40 := by
          have h1 := len_le_szs (rowP (S.take (j + 1)))
          have h2 := szs_rowP (S.take (j + 1))
          have h3 : szs (S.take (j + 1)) ≤ szs S := by
            have := szs_append (S.take (j + 1)) (S.drop (j + 1))
            rw [List.take_append_drop] at this
            omega
          omega
        rw [etk, List.length_append] at lenb
        have hvl := av.len
        refine ⟨_, rfl, .inl ⟨rfl, _, SqL.of hv⟩, ?_⟩
        cases t with
        | hole m =>
          obtain rfl := hut.hole
          refine ⟨_, rfl, _, _, _, _, _, rfl, .ty "tuple", Sort3.ty (K := K) (.int (m : Int)), kit_ty kit_it, false, rfl, iteF ⟨Nat.zero_le _, fun p1 hp1 => ?_⟩⟩
          have q1 := same_new (o := .lst []) hp1
          refine ⟨La, p1, vs, [], rfl, rfl, q1 _ _ hv, upd_same, small_line' (show vs.length + 0 ≤ 1000000 by omega), same_mut (s4.trans q1) hLaH, by rw [upd_ne nCL]; exact q1 _ _ hC4, ⟨vs, by rw [upd_same, List.append_nil], ?_⟩, ?_, _, rfl⟩
          · rw [etk]
            show Al _ vs (rowP (S.take j) ++ [])
            rw [List.append_nil, List.append_nil]
            exact av.mono fun u t h => (h.mono (tk_same q1)).mono (tk_lst (q1 _ _ hv))
          · exact al4.mono fun u t h => (h.mono (tk_same q1)).mono (tk_lst (q1 _ _ hv))
        | node g ps =>
          obtain ⟨ta, txs, rfl, h1, h2⟩ := node_al hut
          refine ⟨_, rfl, _, _, _, _, _, rfl, .ty "tuple", tyx_tup h1, kit_ty kit_tt, true, rfl, iteT ⟨_, rfl, _, rfl, ta, _, rfl, h1, fun hc => absurd hc cut1_not, fun _ p1 hp1 => ?_⟩⟩
          rw [cut1]
          have q1 := same_new (o := .tup txs) hp1
          refine ⟨p1, txs, rfl, .inr (SqT.of upd_same), fun p3 hp3 => ?_⟩
          have q3 := same_new (o := .lst txs) hp3
          have qA := q1.trans q3
          have hlen := h2.len
          have lenb : (rowP (S.take j)).length + ps.length ≤ 40 := lenb
          refine ⟨La, p3, vs, txs, rfl, rfl, qA _ _ hv, upd_same, small_line' (by omega), same_mut (s4.trans qA) hLaH, by rw [upd_ne nCL]; exact qA _ _ hC4, ⟨vs ++ txs, upd_same, ?_⟩, ?_, _, rfl⟩
          · rw [etk]
            exact (av.app h2).mono fun u t h => (h.mono (tk_same qA)).mono (tk_lst (qA _ _ hv))
          · exact al4.mono fun u t h => (h.mono (tk_same qA)).mono (tk_lst (qA _ _ hv))
      · rintro σ H4 ⟨s4, hC4, ⟨vs, hv, av⟩, al4, y5, rfl⟩
        rw [hus, List.take_length] at av
        refine ⟨_, rfl, s4, d + 1, La, vs, rowP S, hv, av, fun t h => ?_, Nat.le_trans (szs_rowP S) hsz, _, _, _, rfl⟩
        obtain ⟨u, hu, h⟩ := List.mem_flatMap.mp h
        exact (sub u hu).parts h
    · rintro σ H1 ⟨sm, d, Ed, us, S, hE1, al, sub, hsz, y3, y4, y5, rfl⟩
      exact ⟨_, rfl, q _ _ sm⟩
end
end Rk

/-! the law's pool of terms -/
namespace Rk
open PySem PySem.Spec PyProof.Rows L2

/-- a term that the law draws -/
structure TmG (B : Bk) (t : Tm) : Prop where
  ok : okT B t
  sz : t.sz ≤ 7
  ho : ∀ n ∈ hl t, n ≤ 1
theorem hls_mem {n : Nat} : ∀ {ps : List Tm}, n ∈ hls ps → ∃ p ∈ ps, n ∈ hl p
  | [], h => by cases h
  | p :: ps, h => by
    rw [hls] at h
    rcases List.mem_append.mp h with h | h
    · exact ⟨p, List.mem_cons_self, h⟩
    · obtain ⟨q, h1, h2⟩ := hls_mem h
      exact ⟨q, List.mem_cons_of_mem _ h1, h2⟩
theorem al_rel {K : PySem.W.Frag} {H : Hp} {B : Bk} : ∀ {is : List Nat} {ys : List V}, RelL (fun _ y H => ∃ t, TmG B t ∧ TmAt K H y t) H is ys → ∃ Tl, Al (TmAt K H) ys Tl ∧ (∀ t ∈ Tl, TmG B t) ∧ Tl.length = is.length
  | _, _, .nil => ⟨[], .nil, fun t h => (by cases h), rfl⟩
  | _, _, .cons ⟨t, h1, h2⟩ r => by
    obtain ⟨Tl, q1, q2, q3⟩ := al_rel r
    refine ⟨t :: Tl, .cons h2 q1, fun s hs => ?_, by rw [List.length_cons, List.length_cons, q3]⟩
    rcases List.mem_cons.mp hs with e | hs
    · rw [e]; exact h1
    · exact q2 s hs
theorem szs_le {B : Bk} : ∀ {ps : List Tm}, (∀ p ∈ ps, TmG B p) → szs ps ≤ 7 * ps.length
  | [], _ => Nat.zero_le _
  | p :: ps, h => by
    have h1 := (h p List.mem_cons_self).sz
    have h2 := szs_le (ps := ps) fun q hq => h q (List.mem_cons_of_mem _ hq)
    rw [szs, List.length_cons]
    omega
theorem mkNodeAl {K : PySem.W.Frag} {H : Hp} {f : Str} {ps : List Tm} {a : Addr} {xs : List V} (h : SqT K H a (.str f :: xs)) (al : Al (TmAt K H) xs ps) : TmAt K H (.ref a) (.node f ps) :=
  TmAt.mkNode h al.len fun i x p hx hp => by
    obtain ⟨q, h1, h2⟩ := al.get hx
    rw [Option.some.inj (hp.symm.trans h1)]
    exact h2
theorem Al.memR {α : Type} {R : V → α → Prop} {us : List V} {S : List α} (h : Al R us S) {i : Nat} {u : V} (e : us[i]? = some u) : ∃ t ∈ S, R u t := by
  obtain ⟨t, h1, h2⟩ := h.get e
  exact ⟨t, List.mem_of_getElem? h1, h2⟩
theorem tmHole {K : PySem.W.Frag} {H : Hp} (n : Nat) : TmAt K H (.int (n : Int)) (.hole n) := by
  unfold TmAt
  rw [Tm.toD]
  exact .int _
theorem al01 {K : PySem.W.Frag} {H : Hp} : Al (TmAt K H) [.int 0, .int 1] [.hole 0, .hole 1] := .cons (tmHole 0) (.cons (tmHole 1) .nil)
section
variable {P : Program} {w : World} {K : PySem.W.Frag} {mg : Str → Option Value} {base : Heap}
def spLPo (K : PySem.W.Frag) : Sp := fun vs H Q _ => ∃ f c ns x ho B, vs = [.ref f, x, .ref ho, .int 9, .int 7] ∧ Feed K f c ns H ∧ BookAt K H x B ∧ GoodBook B ∧ SqL K H ho [.int 0, .int 1] ∧
  ∀ (F : Addr) us Tl H', FdS f c H H' → H F = none → H' F = some (.lst us) → Al (TmAt K H') us Tl → (∀ t ∈ Tl, TmG B t) → Tl ≠ [] → Tl.length ≤ 20 → Q (.ref F) H'
theorem ok_lpo {f : Addr} {fd : FuncData} {k : Nat} (F : Fun K "_law_pool" "_law_pool" sLPo f fd) (T : Txt mg) (C1 : Def P w K mg base k "_law_any" pLAn (spLAn K)) (C2 : Def P w K mg base k "_law_size" pLSz (spLSz K)) (C3 : Def P w K mg base k "_law_depth" pLDp (spLDp K)) : FnOk P w K mg base CX0 (k + 1) f fd pLPo (spLPo K) := by
  refine F.ok scLPo (fun vs H Q E h => ?_) (fun cdv A outer s H vs Q E hr h => ?_)
  · obtain ⟨f, c, ns, x, ho, B, rfl, _⟩ := h
    rfl
  · obtain ⟨f, c, ns, x, ho, B, rfl, fe, hB, gb, hho, q⟩ := h
    obtain ⟨a, xs, rfl, h1, h2, h3⟩ := id hB
    refine ⟨_, pss_cons (ps_set (i := 7) scLPo.nd rfl (Or.inr rfl) (pe_op op_cat (pe_callTy call_list_of (by rfl) T.list (by decide +kernel) (pa_cons (pv 2) pa_nil))
        (pe_lc (own := [("_law_label", 5), ("_law_places", 6)]) (g := gTup K 2 (gCons (gName 5) (gCons (gName 6) gNil))) rfl scLPo.nd (pi_tup (pv 1)) (blkOk_by (N := nLPo) (sc := defScope sLPo) (by decide +kernel))
          (fun _ _ _ _ _ => pg_tup rfl (pgs_cons (pg_name (i := 5) scLPo.nd rfl (Or.inl rfl)) (pgs_cons (pg_name (i := 6) scLPo.nd rfl (Or.inl rfl)) pgs_nil))) (fun _ _ _ _ _ => pts_one (pt_cmp (pc_eqI (pv 6) pe_int) (by rfl))) (fun _ _ _ _ _ => pe_tup (pa_cons (pv 5) pa_nil)))))
      (pss_cons (ps_for PassesOwn.never rfl (pi_range1 (by rfl) T.range (pa_cons (pv 3) pa_nil)) (pg_name (i := 8) scLPo.nd rfl (Or.inl rfl))
        (pss_cons (ps_asg (pe_call C1.G hr (by rfl) C1.g C1.kp C1.b .nil pass0 (pa_cons (pv 0) (pa_cons (pv 1) pa_nil))) (pg_tup rfl (pgs_cons (pg_name (i := 5) scLPo.nd rfl (Or.inl rfl)) (pgs_cons (pg_name (i := 6) scLPo.nd rfl (Or.inl rfl)) pgs_nil))))
        (Evl.pss_cut (ps_set (i := 9) scLPo.nd rfl (Or.inl rfl) (pe_op op_catA (pe_tup (pa_cons (pv 5) pa_nil)) (pe_callTy call_tuple_of (by rfl) T.tuple (by decide +kernel) (pa_cons
          (pe_lc (own := [("_law_turn", 10)]) (g := gName 10) (tt := tYes) rfl scLPo.nd (pi_range1 (by rfl) T.range (pa_cons (pv 6) pa_nil)) (blkOk_by (N := nLPo) (sc := defScope sLPo) (by decide +kernel))
            (fun _ _ _ _ _ => pg_name (i := 10) scLPo.nd rfl (Or.inl rfl)) (fun _ _ _ _ _ => pts_nil) (fun _ _ _ _ _ => pe_call C1.G hr (by rfl) C1.g C1.kp C1.b .nil pass0 (pa_cons (pv 0) (pa_cons (pv 7) pa_nil)))) pa_nil))))
        (pss_one (ps_if (PW.pt (pw_and (pt_cmpR op_le (pe_call C2.G hr (by rfl) C2.g C2.kp C2.b .nil pass0 (pa_cons (pv 9) pa_nil)) (pv 4) (nomark _)) (pw_and1 (pt_cmpR op_le (pe_call C3.G hr (by rfl) C3.g C3.kp C3.b .nil pass0 (pa_cons (pv 9) pa_nil)) pe_int (nomark _)))))
          (pss_one (ps_expr (pe_bm PySem.F.plainAttrs_list PySem.F.slot_list_append PySem.F.type_list_append mt_append (pv 7) (pa_cons (pv 9) pa_nil)))) pss_nil)))))
      (pss_one (ps_ret (pv 7)))), ?_⟩
    have fewB := gb.few
    refine ⟨_, rfl, ho, _, rfl, .inl hho, fun l hl' => ⟨_, rfl, a, rfl, ⟨_, (tk_new hl').t h1⟩, fun D hD => ?_⟩⟩
    have sl := same_new (o := .lst [.int 0, .int 1]) hl'
    refine lcS (walk_tup (K := K) (a := a) (xs := xs)) (fun _ y H => ∃ t, TmG B t ∧ TmAt K H y t) (fun i => decide ((B.getD i (Str.empty, 9)).2 = 0)) (by omega) hD (fun _ e => (tk_same e).t ((tk_new hl').t h1)) (fun i y H H' tk ⟨t, q1, q2⟩ => ⟨t, q1, q2.mono tk⟩) ?_ ?_
    · rintro i z H' H'' R R0 hi s1 ⟨rfl, hz⟩ k1 k2
      obtain ⟨sg, e3, b, rfl, e4⟩ := h3 i _ hz
      have eg : B.getD i (Str.empty, 9) = sg := by rw [List.getD_eq_getElem?_getD, e3]; rfl
      refine ⟨b, _, rfl, (tk_same (sl.trans s1)).t e4, rfl, _, _, rfl, _, _, rfl, rfl, rfl, ?_⟩
      refine ⟨_, rfl, _, _, rfl, rfl, decide ((B.getD i (Str.empty, 9)).2 = 0), congrArg V.bl (by rw [eg]; exact nat_int_eq sg.2 0), ?_⟩
      cases hk : decide ((B.getD i (Str.empty, 9)).2 = 0) with
      | false => exact iteF (k2 _ hk (Same.refl _))
      | true =>
        have h0 : sg.2 = 0 := by rw [← eg]; exact of_decide_eq_true hk
        refine iteT ⟨_, rfl, len1 _, fun b2 hb2 => k1 _ _ hk (same_new hb2) ⟨.node sg.1 [], ⟨⟨?_, trivial⟩, by show 1 + 0 ≤ 7; omega, fun n h => (by cases h)⟩, mkNodeAl (SqT.of upd_same) .nil⟩⟩
        show (sg.1, 0) ∈ B
        rw [← h0]
        exact List.mem_of_getElem? e3
    · intro H3 ys s3 e r
      obtain ⟨T0, al0, hT0, hT0l⟩ := al_rel (is := (List.range xs.length).filter fun i => decide ((B.getD i (Str.empty, 9)).2 = 0)) r
      have hT0n := List.length_filter_le (fun i => decide ((B.getD i (Str.empty, 9)).2 = 0)) (List.range xs.length)
      rw [List.length_range] at hT0n
      have hl3 := s3 _ _ (upd_same (H := H) (a := l) (o := .lst [.int 0, .int 1]))
      have hyl := al0.len
      refine ⟨l, D, _, ys, rfl, rfl, hl3, e, small_line' (show 2 + ys.length ≤ 1000000 by omega), fun F hF => ?_⟩
      have sA := sl.trans s3
      have hF0 : H F = none := by
        cases z : H F with
        | none => rfl
        | some o => rw [sA _ _ z] at hF; cases hF
      have Ff := fe.at_.ne_new hF0
      have sF := same_new (o := .lst ([V.int 0, .int 1] ++ ys)) hF
      have xs0 : xs ≠ [] := by
        obtain ⟨sg, hm, _⟩ := gb.closed
        intro e0
        rw [e0] at h2
        rw [List.length_eq_zero_iff.mp h2.symm] at hm
        cases hm
      refine ⟨_, rfl, _, rfl, by decide, by decide, ?_⟩
      refine for_it walk_range (fun n σ H' => FdS f c H H' ∧ (∃ us Tl, H' F = some (.lst us) ∧ Al (TmAt K H') us Tl ∧ (∀ t ∈ Tl, TmG B t) ∧ Tl ≠ [] ∧ Tl.length ≤ 7 + n) ∧ ∃ y5 y6 y8 y9, σ = [some (.ref f), some (.ref a), some (.ref ho), some (.int 9), some (.int 7), y5, y6, some (.ref F), y8, y9, none])
        ⟨fe.self.same (sA.trans sF), ⟨_, [.hole 0, .hole 1] ++ T0, upd_same, (Al.app al01 (al0.mono fun u t h => h.mono (tk_same sF))), ?_, (fun z => nomatch z), by rw [List.length_append, hT0l]; show 2 + _ ≤ 7; omega⟩, none, none, none, none, rfl⟩ (fun _ _ _ _ _ => True.intro) ?_ ?_
      · intro t ht
        rcases List.mem_append.mp ht with ht | ht
        · rcases List.mem_cons.mp ht with ht | ht
          · rw [ht]; exact ⟨trivial, by show 1 ≤ 7; omega, fun n h => by rw [hl] at h; rw [List.mem_singleton.mp h]; omega⟩
          · rw [List.mem_singleton.mp ht]; exact ⟨trivial, by show 1 ≤ 7; omega, fun n h => by rw [hl] at h; rw [List.mem_singleton.mp h]; omega⟩
        · exact hT0 t ht
      · rintro n y σ H1 H1' hn ⟨g1, ⟨us, Tl, hus, al, hTl, hTne, hTlen⟩, y5, y6, y8, y9, rfl⟩ ⟨rfl, rfl⟩
        have hn9 : n < 9 := hn
        have fe1 := fe.step g1
        have tk1 := g1.tk fe.at_
        refine ⟨_, rfl, _, rfl, f, c, ns, a, xs, rfl, fe1, .inr (tk1.t h1), xs0, by omega, fun i x H2 hx s2 => ?_⟩
        obtain ⟨sg, e3, b, rfl, e4⟩ := h3 i _ hx
        have g2 := g1.trans s2
        have fe2 := fe.step g2
        have tk2 := g2.tk fe.at_
        have hsg := gb.signs sg (List.mem_of_getElem? e3)
        refine ⟨b, _, rfl, tk2.t e4, rfl, _, _, rfl, _, _, rfl, rfl, ?_⟩
        have hus2 := s2.lst g1.at_ hus
        have al2 := al.mono fun u t h => h.mono (s2.tk g1.at_)
        have usl := al.len
        have us0 : us ≠ [] := fun z => hTne (List.length_eq_zero_iff.mp (by rw [← usl, z]; rfl))
        refine ⟨fun σ' H' => ∃ la ps, σ' = [some (.ref f), some (.ref a), some (.ref ho), some (.int 9), some (.int 7), some (.str sg.1), some (.int ((sg.2 : Nat) : Int)), some (.ref F), some (.int (0 + (n : Nat))), some (.ref la), none] ∧ FdS f c H H' ∧ H' F = some (.lst us) ∧ Al (TmAt K H') us Tl ∧ TmAt K H' (.ref la) (.node sg.1 ps) ∧ ps.length = sg.2 ∧ ∀ p ∈ ps, TmG B p, ?_, ?_⟩
        · refine ⟨_, rfl, len1 _, fun p1 hp1 => ⟨_, rfl, _, rfl, by omega, by omega, fun D2 hD2 => ?_⟩⟩
          rw [show ((sg.2 : Nat) : Int).toNat = sg.2 by omega]
          have sp1 := same_new (o := .tup [.str sg.1]) hp1
          have gs := g2.same sp1
          have feS := fe.step gs
          have husS := sp1 _ _ hus2
          have alS := al2.mono fun u t h => h.mono (tk_same sp1)
          refine lcZ walk_range (fun H' => FdS f c (upd H2 p1 (.tup [.str sg.1])) H') (fun _ y H => ∃ t, TmG B t ∧ TmAt K H y t) (fun _ => true) (by omega) (feS.self.mut feS.at_ hD2) (fun _ _ => True.intro) (fun H xs ys z _ => z.mut feS.at_ hD2) (fun i y H H' tk ⟨t, q1, q2⟩ => ⟨t, q1, q2.mono tk⟩) ?_ ?_
          · rintro i x H5 H6 acc R R0 hi z e ⟨rfl, rfl⟩ k1 k2
            have alZ := alS.mono fun u t h => h.mono (z.tk feS.at_)
            refine ⟨rfl, _, rfl, _, rfl, f, c, ns, F, us, rfl, feS.step z, .inl ⟨SqL.of (z.lst feS.at_ husS), Ff⟩, us0, by omega, fun i x H7 hx s7 => ?_⟩
            obtain ⟨t, ht, htx⟩ := alZ.memR hx
            exact k1 x H7 rfl (z.trans s7) (s7.tk z.at_) (s7.lst z.at_ e) ⟨t, hTl t ht, htx.mono (s7.tk z.at_)⟩
          · intro H5 zs z e5 r5
            obtain ⟨ps, alp, hps, hpl⟩ := al_rel r5
            rw [range_all, List.length_range] at hpl
            have hzl := alp.len
            refine ⟨D2, zs, rfl, .inl ⟨SqL.of e5, fun t ht => ?_⟩⟩
            have st := same_new (o := .tup zs) ht
            have gz := gs.trans z
            have hp5 : SqT K (upd H5 t (.tup zs)) p1 [.str sg.1] := (tk_same st).t ((z.tk feS.at_).t (SqT.of upd_same))
            have hus5 := z.lst feS.at_ husS
            have al5 := alS.mono fun u t h => h.mono (z.tk feS.at_)
            refine ⟨p1, t, _, zs, rfl, rfl, hp5, SqT.of upd_same, small_line' (show 1 + zs.length ≤ 1000000 by omega), (fun z => nomatch z), fun _ hz0 => ?_, fun _ hz0 pp hpp => ?_⟩
            · subst hz0
              cases alp
              exact ⟨p1, [], rfl, gz.same st, st _ _ hus5, al5.mono fun u t h => h.mono (tk_same st), mkNodeAl hp5 .nil, hpl, fun p h => (by cases h)⟩
            · have sq := same_new (o := .tup ([.str sg.1] ++ zs)) hpp
              have s2' := st.trans sq
              exact ⟨pp, ps, rfl, gz.same s2', s2' _ _ hus5, al5.mono fun u t h => h.mono (tk_same s2'), mkNodeAl (SqT.of upd_same) (alp.mono fun u t h => h.mono (tk_same s2')), hpl, hps⟩
        · rintro σ' H5 ⟨la, ps, rfl, g5, hus5, al5, hla, hpl, hps⟩
          have h7 := szs_le hps
          have okN : okT B (.node sg.1 ps) := ⟨by
            have := List.mem_of_getElem? e3
            rw [hpl]
            exact this, okTs_of fun p hp => (hps p hp).ok⟩
          have szN : (Tm.node sg.1 ps).sz ≤ 40 := by
            rw [Tm.sz]
            omega
          refine ⟨_, rfl, _, _, B, rfl, hla, okN, gb, szN, fun H6 s6 => ⟨_, rfl, _, _, rfl, rfl, _, rfl, ite2 (fun hle => ?_) (fun _ => iteF ?_)⟩⟩
          · refine ⟨_, rfl, _, _, B, rfl, hla.mono (tk_same s6), okN, gb, szN, fun d H7 s7 => ⟨_, _, rfl, rfl, _, rfl, ite2 (fun _ => ?_) (fun _ => ?_)⟩⟩
            · have s67 := s6.trans s7
              have hu7 := s67 _ _ hus5
              have tkE := tk_lst (o := .lst (us ++ [.ref la])) hu7
              refine ⟨_, rfl, .inl ⟨rfl, _, SqL.of hu7⟩, _, rfl, F, us, _, rfl, rfl, hu7, small_line (by omega), (g5.same s67).mut fe.at_ hF0, ⟨us ++ [.ref la], Tl ++ [.node sg.1 ps], upd_same, ?_, ?_, fun z => (by simp at z), by rw [List.length_append]; show Tl.length + 1 ≤ 7 + (n + 1); omega⟩, _, _, _, _, rfl⟩
              · exact ((al5.app (.cons hla .nil)).mono fun u t h => (h.mono (tk_same s67)).mono tkE)
              · intro t ht
                rcases List.mem_append.mp ht with ht | ht
                · exact hTl t ht
                · rw [List.mem_singleton.mp ht]
                  refine ⟨okN, ?_, fun m hm => ?_⟩
                  · have := of_decide_eq_true hle
                    omega
                  · rw [hl] at hm
                    obtain ⟨p, hp, hm⟩ := hls_mem hm
                    exact (hps p hp).ho m hm
            · have s67 := s6.trans s7
              exact ⟨g5.same s67, ⟨us, Tl, s67 _ _ hus5, al5.mono fun u t h => h.mono (tk_same s67), hTl, hTne, by omega⟩, _, _, _, _, rfl⟩
          · exact ⟨g5.same s6, ⟨us, Tl, s6 _ _ hus5, al5.mono fun u t h => h.mono (tk_same s6), hTl, hTne, by omega⟩, _, _, _, _, rfl⟩
      · rintro σ H1 ⟨g1, ⟨us, Tl, hus, al, hTl, hTne, hTlen⟩, y5, y6, y8, y9, rfl⟩
        exact ⟨_, rfl, q F us Tl H1 g1 hF0 hus al hTl hTne (by have : (9 : Int).toNat = 9 := rfl; omega)⟩
end
end Rk

/-! the law's rules -/
namespace Rk
open PySem PySem.Spec PyProof.Rows L2

def RlG (B : Bk) (r : Rl) : Prop := TmG B r.1 ∧ TmG B r.2
theorem lot_al {K : PySem.W.Frag} {H : Hp} {a : Addr} {us : List V} {L : List Rl} (h : SqT K H a us) (al : Al (RlAt K H) us L) : LotAt K H (.ref a) L :=
  ⟨a, us, rfl, h, al.len, fun i x hx => al.get hx⟩
theorem good_lot {B : Bk} {L : List Rl} (h : ∀ r ∈ L, RlG B r) (hl : L.length ≤ 8) : GoodLot B L :=
  ⟨fun r hr => ⟨(h r hr).1.ok, (h r hr).2.ok⟩, fun r hr => ⟨(h r hr).1.sz, (h r hr).2.sz⟩, hl⟩
def rlD (r : Rl) : PyData := .tuple [r.1.toD, r.2.toD]
theorem rl_dp {K : PySem.W.Frag} {H : Hp} {v : V} {r : Rl} (h : RlAt K H v r) : Dp K H v (rlD r) := by
  obtain ⟨b, x, y, rfl, h1, h2, h3⟩ := h
  exact .tup h1 (.cons h2 (.cons h3 .nil))
theorem dpAll_rls {K : PySem.W.Frag} {H : Hp} : ∀ {us : List V} {L : List Rl}, Al (RlAt K H) us L → DpAll K H us (L.map rlD)
  | _, _, .nil => .nil
  | _, _, .cons a t => .cons (rl_dp a) (dpAll_rls t)
theorem shaped_rls {B : Bk} (gb : GoodBook B) {L : List Rl} (h : ∀ r ∈ L, RlG B r) : SeqAt.shaped (.list (L.map rlD)) = true := by
  refine shaped_list (fun d hd => ?_) fun d hd => ?_
  · obtain ⟨r, hr, e⟩ := List.mem_map.mp hd
    rw [← e, rlD, PyData.canLay0, PyData.canLayAll0, PyData.canLayAll0, PyData.canLayAll0, canLay_tm (fun s hs => (gb.signs s hs).1) _ (h r hr).1.ok, canLay_tm (fun s hs => (gb.signs s hs).1) _ (h r hr).2.ok]
    rfl
  · obtain ⟨r, hr, e⟩ := List.mem_map.mp hd
    have h1 := depth_tm r.1
    have h2 := depth_tm r.2
    have h3 := (h r hr).1.sz
    have h4 := (h r hr).2.sz
    rw [← e, rlD, PyData.depth, PyData.depthAll, PyData.depthAll, PyData.depthAll]
    omega
theorem cutN7 (xs : List V) : ∃ k, cutV xs (some (-7)) none = xs.drop k ∧ (xs ≠ [] → k < xs.length) := by
  unfold cutV
  have e : HT.sIx xs.length 0 (some (-7)) = xs.length - 7 := by
    show (if (-7 : Int) < 0 then ((-7 : Int) + (xs.length : Int)).toNat else min (-7 : Int).toNat xs.length) = _
    rw [if_pos (by decide)]
    omega
  rw [e, HT.sIx_none]
  refine ⟨xs.length - 7, ?_, fun h => ?_⟩
  · rw [List.take_of_length_le (by rw [List.length_drop]; exact Nat.le_refl _)]
  · have : 0 < xs.length := List.length_pos_iff.mpr h
    omega
theorem inV_nats (n : Nat) (r : List Nat) : inV (.int (n : Int)) (r.map fun k => V.int ((k : Nat) : Int)) = decide (n ∈ r) := by
  unfold inV
  rw [List.any_map]
  induction r with
  | nil => rfl
  | cons a r ih =>
    rw [List.any_cons, ih]
    show (((a : Nat) : Int) == ((n : Nat) : Int) || decide (n ∈ r)) = decide (n ∈ a :: r)
    by_cases e : n = a
    · subst e; simp
    · have : ¬ ((a : Int) = (n : Int)) := by omega
      simp [e, this]
theorem flat_nats (r : List Nat) : (r.map fun k => V.int ((k : Nat) : Int)).all flatV = true := by
  rw [List.all_map]
  exact List.all_eq_true.mpr fun _ _ => rfl
/-- the holes of t that stand not in own -/
def offH (t : Tm) (own : List Nat) : List Nat := (List.range (hl t).length).filter fun i => !decide ((hl t).getD i 0 ∈ own)
theorem offH_self (t : Tm) : offH t (hl t) = [] := by
  unfold offH
  rw [List.filter_eq_nil_iff]
  intro i hi
  have hi := List.mem_range.mp hi
  have : (hl t).getD i 0 ∈ hl t := by
    rw [List.getD_eq_getElem?_getD, List.getElem?_eq_getElem hi]
    exact List.getElem_mem hi
  rw [decide_eq_true this]
  decide
theorem RelL.imp {Rel Rel' : Nat → V → Hp → Prop} {H : Hp} (m : ∀ i y, Rel i y H → Rel' i y H) : ∀ {is : List Nat} {ys : List V}, RelL Rel H is ys → RelL Rel' H is ys
  | _, _, .nil => .nil
  | _, _, .cons h t => .cons (m _ _ h) (RelL.imp m t)
/-- what stays from turn to turn -/
structure RuI (K : PySem.W.Frag) (f c : Addr) (H : Hp) (F : Addr) (us : List V) (Tl : List Tm) (Fo : Addr) (rs : List V) (L : List Rl) (H' : Hp) : Prop where
  g : FdS f c H H'
  p : H' F = some (.lst us)
  a : Al (TmAt K H') us Tl
  q : H' Fo = some (.lst rs)
  r : Al (RlAt K H') rs L
theorem RuI.step {K : PySem.W.Frag} {f c : Addr} {H : Hp} {F : Addr} {us : List V} {Tl : List Tm} {Fo : Addr} {rs : List V} {L : List Rl} {H1 H2 : Hp} (I : RuI K f c H F us Tl Fo rs L H1) (s : FdS f c H1 H2) : RuI K f c H F us Tl Fo rs L H2 :=
  ⟨I.g.trans s, s.lst I.g.at_ I.p, I.a.mono fun u t h => h.mono (s.tk I.g.at_), s.lst I.g.at_ I.q, I.r.mono fun u t h => h.mono (s.tk I.g.at_)⟩
theorem RuI.same {K : PySem.W.Frag} {f c : Addr} {H : Hp} {F : Addr} {us : List V} {Tl : List Tm} {Fo : Addr} {rs : List V} {L : List Rl} {H1 H2 : Hp} (I : RuI K f c H F us Tl Fo rs L H1) (s : Same H1 H2) : RuI K f c H F us Tl Fo rs L H2 :=
  I.step ⟨but_same s, I.g.at_.same s⟩
def RuM (K : PySem.W.Frag) (f c : Addr) (H : Hp) (F : Addr) (us : List V) (Tl : List Tm) (Fo : Addr) (rs : List V) (L : List Rl) (B : Bk) (x lap : V) (st : Nat) (lf : V) (Ow D : Addr) (σ' : L2.St) (H' : Hp) : Prop :=
  ∃ ru r, σ' = [some (.ref f), some x, some (.int 7), some (.int 3), some (.ref F), some (.ref Fo), some lap, some (.int ((st : Nat) : Int)), some lf, some (.ref Ow), some (.ref D), some ru, none, none] ∧ RuI K f c H F us Tl Fo rs L H' ∧ RlAt K H' ru r ∧ RlG B r
section
variable {P : Program} {w : World} {K : PySem.W.Frag} {mg : Str → Option Value} {base : Heap}
def spLRu (K : PySem.W.Frag) : Sp := fun vs H Q _ => ∃ f c ns x B, vs = [.ref f, x, .int 7, .int 3] ∧ Feed K f c ns H ∧ BookAt K H x B ∧ GoodBook B ∧
  ∀ v L H', FdS f c H H' → LotAt K H' v L → (∀ r ∈ L, RlG B r) → L ≠ [] → L.length ≤ 3 → Q v H'
theorem ok_lru {f : Addr} {fd : FuncData} {k : Nat} (F : Fun K "_law_rules" "_law_rules" sLRu f fd) (T : Txt mg) (C1 : Def P w K mg base k "_law_any" pLAn (spLAn K)) (C2 : Def P w K mg base k "_law_draw" pLDr (spLDr K))
    (C3 : Def P w K mg base k "_law_pool" pLPo (spLPo K)) (C4 : Def P w K mg base k "_law_holes" pLHo (spLHo K)) : FnOk P w K mg base CX0 (k + 1) f fd pLRu (spLRu K) := by
  refine F.ok scLRu (fun vs H Q E h => ?_) (fun cdv A outer s H vs Q E hr h => ?_)
  · obtain ⟨f, c, ns, x, B, rfl, _⟩ := h
    rfl
  · obtain ⟨f, c, ns, x, B, rfl, fe, hB, gb, q⟩ := h
    have hu64 := hr.units
    refine ⟨_, pss_cons (ps_par (i := 4) (j := 5) rfl scLRu.nd rfl rfl (by decide) rfl rfl (pa_cons (pe_call C3.G hr (by rfl) C3.g C3.kp C3.b .nil pass0 (pa_cons (pv 0) (pa_cons (pv 1) (pa_cons (pe_lst (pa_cons pe_int (pa_cons pe_int pa_nil))) (pa_cons pe_int (pa_cons (pv 2) pa_nil)))))) (pa_cons (pe_lst pa_nil) pa_nil)) (by rfl))
      (pss_cons (ps_for PassesOwn.never rfl (pi_range1 (by rfl) T.range (pa_cons (pe_op op_add pe_int (pe_call C2.G hr (by rfl) C2.g C2.kp C2.b .nil pass0 (pa_cons (pv 0) (pa_cons (pv 3) pa_nil)))) pa_nil)) (pg_name (i := 6) scLRu.nd rfl (Or.inl rfl))
        (pss_cons (ps_par (i := 7) (j := 8) rfl scLRu.nd rfl rfl (by decide) rfl rfl (pa_cons (pe_call C2.G hr (by rfl) C2.g C2.kp C2.b .nil pass0 (pa_cons (pv 0) (pa_cons pe_int pa_nil))) (pa_cons (pe_call C1.G hr (by rfl) C1.g C1.kp C1.b .nil pass0 (pa_cons (pv 0) (pa_cons (pe_slice sl_list (pv 4) (po_some (pe_un un_neg pe_int)) po_none) pa_nil))) pa_nil)) (by rfl))
        (pss_cons (ps_set (i := 9) scLRu.nd rfl (Or.inr rfl) (pe_call C4.G hr (by rfl) C4.g C4.kp C4.b .nil pass0 (pa_cons (pv 8) pa_nil)))
        (pss_cons (ps_setLc (i := 10) (own := [("_law_item", 12)]) (g := gName 12) (tt := tTest (tOp (rEqD K) (tLc (iList K (tCall (spLHo K) [] E0 (tCons (tVar 12) tNil))) (gName 13) (tTest (tOp (rIn K true) (tVar 13) (tVar 9))) (tVar 13) [13]) (tLst tNil))) rfl scLRu.nd rfl rfl (by rfl) (pi_list (pv 4)) (blkOk_by (N := nLRu) (sc := defScope sLRu) (by decide +kernel))
          (fun _ _ _ _ _ => pg_name (i := 12) scLRu.nd rfl (Or.inl rfl))
          (fun _ _ _ _ _ => pts_one (pt_cmpR (op_eqD hu64) (pe_lc (own := [("_law_hole", 13)]) (g := gName 13) rfl scLRu.nd (pi_list (pe_call C4.G hr (by rfl) C4.g C4.kp C4.b .nil pass0 (pa_cons (pv 12) pa_nil))) (blkOk_by (N := nLRu) (sc := { kind := .function, names := [(".0", .local), ("_law_item", .local), ("_law_holes", .globalImplicit), ("_law_own", .cell)], isGenerator := false, isCoroutine := false }) (by decide +kernel))
            (fun _ _ _ _ _ => pg_name (i := 13) scLRu.nd rfl (Or.inl rfl)) (fun _ _ _ _ _ => pts_one (pt_cmpR op_notIn_seq (pv 13) (pv 9) (by with_unfolding_all rfl))) (fun _ _ _ _ _ => pv 13)) (pe_lst pa_nil) (nomark _)))
          (fun _ _ _ _ _ => pv 12))
        (Evl.pss_cut (ps_set (i := 11) scLRu.nd rfl (Or.inl rfl) (pe_tup (pa_cons (pv 8) (pa_cons (pe_call C1.G hr (by rfl) C1.g C1.kp C1.b .nil pass0 (pa_cons (pv 0) (pa_cons (pe_ifExp (pt_cmp (pc_gt (pv 7) pe_int) (by rfl)) (pv 10) (pv 4)) pa_nil))) pa_nil))))
        (Evl.pss_cut (ps_if (PW.pt (pw_and (pt_cmpR (op_neD hu64) (pv 5) (pe_lst pa_nil) (nomark _)) (pw_and1 (pt_cmpR op_eq (pv 7) pe_int (nomark _)))))
          (pss_one (ps_set (i := 11) scLRu.nd rfl (Or.inl rfl) (pe_revT (pe_call C1.G hr (by rfl) C1.g C1.kp C1.b .nil pass0 (pa_cons (pv 0) (pa_cons (pv 5) pa_nil)))))) pss_nil)
        (Evl.pss_cut (ps_if (PW.pt (pw_and (pt_cmpR (op_neD hu64) (pv 5) (pe_lst pa_nil) (nomark _)) (pw_and1 (pt_cmpR op_eq (pv 7) pe_int (nomark _)))))
          (pss_one (ps_set (i := 11) scLRu.nd rfl (Or.inl rfl) (pe_call C1.G hr (by rfl) C1.g C1.kp C1.b .nil pass0 (pa_cons (pv 0) (pa_cons (pv 5) pa_nil))))) pss_nil)
        (pss_one (ps_expr (pe_bm PySem.F.plainAttrs_list PySem.F.slot_list_append PySem.F.type_list_append mt_append (pv 5) (pa_cons (pv 11) pa_nil)))))))))))
      (pss_one (ps_ret (pe_callTy call_tuple_of (by rfl) T.tuple (by decide +kernel) (pa_cons (pv 5) pa_nil))))), ?_⟩
    refine ⟨_, rfl, _, rfl, len2 _ _, fun ho hho => ⟨_, rfl, f, c, ns, x, ho, B, rfl, fe.step (fe.self.same (same_new hho)), hB.mono (tk_new hho), gb, SqL.of upd_same, fun F us Tl H1 s1 hF0 hus al hTl hTne hTlen => ⟨Nat.zero_le _, fun Fo hFo => ⟨_, _, rfl, ?_⟩⟩⟩⟩
    have g1 := (fe.self.same (same_new (o := .lst [.int 0, .int 1]) hho)).trans s1
    have hFo0 : H Fo = none := g1.free fe.at_ hFo
    have nFF : F ≠ Fo := ne_of_none hus hFo
    have sFo := same_new (o := .lst []) hFo
    have usl := al.len
    have us0 : us ≠ [] := fun z => hTne (List.length_eq_zero_iff.mp (by rw [← usl, z]; rfl))
    have Ff : F ≠ f := s1.at_.ne_lst hus
    have Fof : Fo ≠ f := fe.at_.ne_new hFo0
    have I0 : RuI K f c H F us Tl Fo [] [] (upd H1 Fo (.lst [])) := ⟨g1.same sFo, sFo _ _ hus, al.mono fun u t h => h.mono (tk_same sFo), upd_same, .nil⟩
    refine ⟨_, rfl, _, rfl, f, c, ns, 3, rfl, fe.step I0.g, by omega, by omega, fun nr H2 hnr s2 => ⟨_, _, rfl, rfl, _, rfl, by omega, by omega, ?_⟩⟩
    rw [show (1 + ((nr : Nat) : Int)).toNat = 1 + nr by omega]
    refine for_it walk_range (fun n σ H' => ∃ rs L, RuI K f c H F us Tl Fo rs L H' ∧ (∀ r ∈ L, RlG B r) ∧ L.length = n ∧ ∃ y6 y7 y8 y9 y10 y11, σ = [some (.ref f), some x, some (.int 7), some (.int 3), some (.ref F), some (.ref Fo), y6, y7, y8, y9, y10, y11, none, none])
      ⟨[], [], I0.step s2, fun r h => (by cases h), rfl, none, none, none, none, none, none, rfl⟩ (fun _ _ _ _ _ => True.intro) ?_ ?_
    · rintro n y σ H3 H3' hn ⟨rs, L, I3, hL, hLn, y6, y7, y8, y9, y10, y11, rfl⟩ ⟨rfl, rfl⟩
      have hrl := I3.r.len
      refine ⟨_, rfl, f, c, ns, 8, rfl, fe.step I3.g, by omega, by omega, fun st H4 hst s4 => ⟨_, rfl, _, rfl, _, rfl, _, rfl, F, us, rfl, SqL.of (I3.step s4).p, fun p hp => ?_⟩⟩
      have I4 := I3.step s4
      obtain ⟨kk, hcut, hkk⟩ := cutN7 us
      have hk := hkk us0
      refine ⟨f, c, ns, p, us.drop kk, rfl, (fe.step I4.g).step ((fe.step I4.g).self.same (same_new hp)), .inl ⟨SqL.of (by rw [upd_same]; exact congrArg (fun z => some (HO.lst z)) hcut), I4.g.at_.ne_new hp⟩, fun z => ?_, by rw [List.length_drop]; omega, fun i lf H5 hlf s5 => ⟨_, _, rfl, ?_⟩⟩
      · have := congrArg List.length z
        rw [List.length_drop] at this
        have e0 : ([] : List V).length = 0 := rfl
        omega
      have I5 := (I4.same (same_new hp)).step s5
      rw [List.getElem?_drop] at hlf
      obtain ⟨tl, htl, hlfT⟩ := I5.a.get hlf
      have gtl := hTl tl (List.mem_of_getElem? htl)
      refine ⟨_, rfl, lf, tl, B, rfl, hlfT, gtl.ok, gb, Nat.le_trans gtl.sz (by decide), fun Ow H6 s6 hOw0 hOw => ?_⟩
      have I6 := I5.same s6
      refine ⟨_, rfl, F, rfl, ⟨_, SqL.of I6.p⟩, fun D hD => ?_⟩
      let keep : Nat → Bool := fun i => ((Tl[i]?).map fun t => (offH t (hl tl)).isEmpty).getD false
      refine lcS (walk_list (K := K) (a := F) (xs := us)) (fun i y H => ∃ t, Tl[i]? = some t ∧ TmAt K H y t) keep (by omega) hD (fun _ e => SqL.of (e _ _ I6.p)) (fun i y H H' tk ⟨t, q1, q2⟩ => ⟨t, q1, q2.mono tk⟩) ?_ ?_
      · rintro i0 z H7 H7' R R0 hi s7 ⟨rfl, hz⟩ k1 k2
        have I7 := I6.same s7
        obtain ⟨t, ht, hzT⟩ := I7.a.get hz
        have gt := hTl t (List.mem_of_getElem? ht)
        have ek : keep i0 = (offH t (hl tl)).isEmpty := by
          show ((Tl[i0]?).map fun t => (offH t (hl tl)).isEmpty).getD false = _
          rw [ht]; rfl
        have hl40 := hl_len t
        have gtz := gt.sz
        refine ⟨rfl, _, rfl, z, t, B, rfl, hzT, gt.ok, gb, Nat.le_trans gt.sz (by decide), fun Hf H8 s8 hHf0 hHf => ⟨Hf, rfl, ⟨_, SqL.of hHf⟩, fun D8 hD8 => ?_⟩⟩
        have hOw8 := s8 _ _ (s7 _ _ hOw)
        refine lcS (walk_list (K := K) (a := Hf) (xs := (hl t).map fun n => V.int ((n : Nat) : Int))) (fun i y _ => y = .int (((hl t).getD i 0 : Nat) : Int)) (fun i => !decide ((hl t).getD i 0 ∈ hl tl)) (by rw [List.length_map]; omega) hD8 (fun _ e => SqL.of (e _ _ hHf)) (fun _ _ _ _ _ h => h) ?_ ?_
        · rintro i2 z2 H9 H9' R' R0' hi2 s9 ⟨rfl, hz2⟩ k1' k2'
          rw [List.length_map] at hi2
          rw [List.getElem?_map, List.getElem?_eq_getElem hi2] at hz2
          have ez : (hl t).getD i2 0 = (hl t)[i2] := by rw [List.getD_eq_getElem?_getD, List.getElem?_eq_getElem hi2]; rfl
          have hz2 : V.int (((hl t)[i2] : Nat) : Int) = z2 := Option.some.inj hz2
          rw [← ez] at hz2
          subst hz2
          refine ⟨rfl, _, rfl, _, rfl, Ow, _, rfl, .inl (SqL.of (s9 _ _ hOw8)), rfl, flat_nats _, !decide ((hl t).getD i2 0 ∈ hl tl), congrArg V.bl (by rw [inV_nats]; rfl), ?_⟩
          cases hk2 : !decide ((hl t).getD i2 0 ∈ hl tl) with
          | true => exact iteT ⟨_, rfl, k1' _ _ hk2 (Same.refl _) rfl⟩
          | false => exact iteF (k2' _ hk2 (Same.refl _))
        · intro H9 ys9 s9 e9 r9
          rw [List.length_map] at r9
          have ey := r9.eq (f := fun i => V.int (((hl t).getD i 0 : Nat) : Int))
          have ey2 : ys9 = ((offH t (hl tl)).map fun i => (((hl t).getD i 0 : Nat) : Int)).map V.int := by
            rw [ey, List.map_map]
            rfl
          rw [ey2] at e9
          refine ⟨Nat.zero_le _, fun p6 hp6 => ⟨.list (((offH t (hl tl)).map fun i => (((hl t).getD i 0 : Nat) : Int)).map PyData.int), .list [], .lst (SqL.of ((same_new hp6) _ _ e9)) (dpAll_ints _), .lst (SqL.of upd_same) .nil, shaped_ints _, shaped_nil, keep i0, congrArg V.bl (by rw [eqv_nil, List.isEmpty_map, List.isEmpty_map, ek]), ?_⟩⟩
          have sB := s8.trans (s9.trans (same_new (o := .lst []) hp6))
          cases hk0 : keep i0 with
          | true => exact iteT ⟨_, rfl, k1 _ _ hk0 sB ⟨t, ht, hzT.mono (tk_same sB)⟩⟩
          | false => exact iteF (k2 _ hk0 sB)
      · intro H7 ys s7 e7 r7
        have I7 := I6.same s7
        obtain ⟨Tr, alr, hTr, hTrl⟩ := al_rel (B := B) (K := K) (H := H7) (is := (List.range us.length).filter keep) (ys := ys) (RelL.imp (Rel := fun i y H => ∃ t, Tl[i]? = some t ∧ TmAt K H y t) (fun i y h => by
          obtain ⟨t, q1, q2⟩ := h
          exact ⟨t, hTl t (List.mem_of_getElem? q1), q2⟩) r7)
        have ysl := alr.len
        have hfl := List.length_filter_le keep (List.range us.length)
        rw [List.length_range] at hfl
        have ys0 : ys ≠ [] := fun z => by
          have h0 : ((List.range us.length).filter keep).length = 0 := by rw [← hTrl, ← ysl, z]; rfl
          have hi : kk + i < us.length := (List.getElem?_eq_some_iff.mp hlf).1
          have hm : (kk + i) ∈ (List.range us.length).filter keep := List.mem_filter.mpr ⟨List.mem_range.mpr hi, by
            show ((Tl[kk + i]?).map fun t => (offH t (hl tl)).isEmpty).getD false = true
            rw [htl]
            show (offH tl (hl tl)).isEmpty = true
            rw [offH_self]
            rfl⟩
          rw [List.length_eq_zero_iff.mp h0] at hm
          cases hm
        have Df : D ≠ f := I7.g.at_.ne_lst e7
        have hlf7 := hlfT.mono (tk_same (s6.trans s7))
        refine ⟨RuM K f c H F us Tl Fo rs L B x (.int (0 + (n : Nat))) st lf Ow D, ?_, ?_⟩
        · refine ⟨_, rfl, _, rfl, _, rfl, _, _, rfl, rfl, _, rfl, ite2 (fun _ => ⟨_, rfl, f, c, ns, D, ys, rfl, fe.step I7.g, .inl ⟨SqL.of e7, Df⟩, ys0, by omega, fun i3 x3 H8 hx3 s8 => ⟨len2 _ _, fun b hb => ?_⟩⟩) (fun _ => ⟨_, rfl, f, c, ns, F, us, rfl, fe.step I7.g, .inl ⟨SqL.of I7.p, Ff⟩, us0, by omega, fun i3 x3 H8 hx3 s8 => ⟨len2 _ _, fun b hb => ?_⟩⟩)⟩
          · obtain ⟨t3, ht3, hx3T⟩ := alr.memR hx3
            have tkb := s8.tk I7.g.at_
            exact ⟨_, (tl, t3), rfl, (I7.step s8).same (same_new hb), ⟨b, _, _, rfl, SqT.of upd_same, (hlf7.mono tkb).mono (tk_new hb), (hx3T.mono tkb).mono (tk_new hb)⟩, gtl, hTr t3 ht3⟩
          · obtain ⟨t3, ht3, hx3T⟩ := I7.a.memR hx3
            have tkb := s8.tk I7.g.at_
            exact ⟨_, (tl, t3), rfl, (I7.step s8).same (same_new hb), ⟨b, _, _, rfl, SqT.of upd_same, (hlf7.mono tkb).mono (tk_new hb), (hx3T.mono tkb).mono (tk_new hb)⟩, gtl, hTl t3 ht3⟩
        have rs0 : (!L.isEmpty) = true → rs ≠ [] := fun h z => by
          have : L.length = 0 := by rw [← hrl, z]; rfl
          rw [List.length_eq_zero_iff.mp this] at h
          cases h
        rintro σ' H8 ⟨ru, r, rfl, I8, hru, gru⟩
        refine ⟨RuM K f c H F us Tl Fo rs L B x (.int (0 + (n : Nat))) st lf Ow D, ?_, ?_⟩
        · refine ⟨_, rfl, Nat.zero_le _, fun p8 hp8 => ⟨.list (L.map rlD), .list [], .lst (SqL.of ((same_new hp8) _ _ I8.q)) (dpAll_rls (I8.r.mono fun u t h => h.mono (tk_new hp8))), .lst (SqL.of upd_same) .nil, shaped_rls gb hL, shaped_nil, !L.isEmpty, congrArg V.bl (by rw [eqv_nil, List.isEmpty_map]), ?_⟩⟩
          have I9 := I8.same (same_new (o := .lst []) hp8)
          have hru9 := hru.mono (tk_new (o := .lst []) hp8)
          refine ite2 (fun hne => ⟨_, rfl, rfl, _, rfl, ite2 (fun _ => ?_) (fun _ => ⟨ru, r, rfl, I9, hru9, gru⟩)⟩) (fun _ => iteF ⟨ru, r, rfl, I9, hru9, gru⟩)
          refine ⟨_, rfl, _, rfl, f, c, ns, Fo, rs, rfl, fe.step I9.g, .inl ⟨SqL.of I9.q, Fof⟩, rs0 hne, by omega, fun i3 x3 H10 hx3 s10 => ?_⟩
          obtain ⟨r3, hr3, b3, z1, z2, rfl, hb3, hz1, hz2⟩ := I9.r.memR hx3
          have tk10 := s10.tk I9.g.at_
          refine ⟨b3, _, rfl, tk10.t hb3, fun p9 hp9 => ⟨_, (r3.2, r3.1), rfl, (I9.step s10).same (same_new hp9), ⟨p9, z2, z1, rfl, SqT.of upd_same, (hz2.mono tk10).mono (tk_new hp9), (hz1.mono tk10).mono (tk_new hp9)⟩, (hL r3 hr3).2, (hL r3 hr3).1⟩⟩
        rintro σ' H9 ⟨ru, r, rfl, I9, hru, gru⟩
        refine ⟨RuM K f c H F us Tl Fo rs L B x (.int (0 + (n : Nat))) st lf Ow D, ?_, ?_⟩
        · refine ⟨_, rfl, Nat.zero_le _, fun p8 hp8 => ⟨.list (L.map rlD), .list [], .lst (SqL.of ((same_new hp8) _ _ I9.q)) (dpAll_rls (I9.r.mono fun u t h => h.mono (tk_new hp8))), .lst (SqL.of upd_same) .nil, shaped_rls gb hL, shaped_nil, !L.isEmpty, congrArg V.bl (by rw [eqv_nil, List.isEmpty_map]), ?_⟩⟩
          have I10 := I9.same (same_new (o := .lst []) hp8)
          have hru10 := hru.mono (tk_new (o := .lst []) hp8)
          refine ite2 (fun hne => ⟨_, rfl, rfl, _, rfl, ite2 (fun _ => ?_) (fun _ => ⟨ru, r, rfl, I10, hru10, gru⟩)⟩) (fun _ => iteF ⟨ru, r, rfl, I10, hru10, gru⟩)
          refine ⟨_, rfl, _, rfl, f, c, ns, Fo, rs, rfl, fe.step I10.g, .inl ⟨SqL.of I10.q, Fof⟩, rs0 hne, by omega, fun i3 x3 H10 hx3 s10 => ?_⟩
          obtain ⟨r3, hr3, hx3R⟩ := I10.r.memR hx3
          exact ⟨x3, r3, rfl, I10.step s10, hx3R.mono (s10.tk I10.g.at_), hL r3 hr3⟩
        rintro σ' H10 ⟨ru, r, rfl, I10, hru, gru⟩
        have tkE := tk_lst (o := .lst (rs ++ [ru])) I10.q
        refine ⟨_, rfl, .inl ⟨rfl, _, SqL.of I10.q⟩, _, rfl, Fo, rs, _, rfl, rfl, I10.q, small_line (by omega), rs ++ [ru], L ++ [r], ⟨I10.g.mut fe.at_ hFo0, by rw [upd_ne nFF]; exact I10.p, I10.a.mono fun u t h => h.mono tkE, upd_same, (I10.r.app (.cons hru .nil)).mono fun u t h => h.mono tkE⟩, ?_, by rw [List.length_append, hLn]; rfl, _, _, _, _, _, _, rfl⟩
        intro r' hr'
        rcases List.mem_append.mp hr' with h | h
        · exact hL r' h
        · rw [List.mem_singleton.mp h]; exact gru
    · rintro σ H3 ⟨rs, L, I3, hL, hLn, y6, y7, y8, y9, y10, y11, rfl⟩
      refine ⟨_, rfl, Fo, rs, rfl, .inl ⟨SqL.of I3.q, fun t ht => ?_⟩⟩
      have st := same_new (o := .tup rs) ht
      exact q _ L _ (I3.g.same st) (lot_al (SqT.of upd_same) (I3.r.mono fun u t h => h.mono (tk_same st))) hL (fun z => by rw [z] at hLn; have : ([] : List Rl).length = 0 := rfl; omega) (by omega)
end
end Rk

/-! the law's nodes -/
namespace Rk
open PySem PySem.Spec PyProof.Rows L2

def KidX (K0 : Addr) (H : Hp) (v : V) (ks : List Nat) : Prop := ∃ l, v = .ref l ∧ l ≠ K0 ∧ H l = some (.lst (ks.map fun k => V.int ((k : Nat) : Int)))
def LnAt (K : PySem.W.Frag) (H : Hp) (v : V) (T : List Tm) (Ks : List (List Nat)) : Prop := ∃ a n k us kv, v = .ref a ∧ SqT K H a [.ref n, .ref k] ∧ H n = some (.lst us) ∧ Al (TmAt K H) us T ∧ H k = some (.lst kv) ∧ Al (KidX k H) kv Ks
theorem KidX.same {K0 : Addr} {H H' : Hp} {v : V} {ks : List Nat} (h : KidX K0 H v ks) (s : Same H H') : KidX K0 H' v ks := by
  obtain ⟨l, h1, h2, h3⟩ := h
  exact ⟨l, h1, h2, s _ _ h3⟩
theorem KidX.upd {K0 : Addr} {H : Hp} {v : V} {ks : List Nat} (h : KidX K0 H v ks) {o : HO} : KidX K0 (upd H K0 o) v ks := by
  obtain ⟨l, h1, h2, h3⟩ := h
  exact ⟨l, h1, h2, by rw [upd_ne h2]; exact h3⟩
theorem LnAt.same {K : PySem.W.Frag} {H H' : Hp} {v : V} {T : List Tm} {Ks : List (List Nat)} (h : LnAt K H v T Ks) (s : Same H H') : LnAt K H' v T Ks := by
  obtain ⟨a, n, k, us, kv, h1, h2, h3, h4, h5, h6⟩ := h
  exact ⟨a, n, k, us, kv, h1, (tk_same s).t h2, s _ _ h3, h4.mono fun u t h => h.mono (tk_same s), s _ _ h5, h6.mono fun u t h => h.same s⟩
theorem sub_app {root t : Tm} {T : List Tm} (h : SubS root T) (ht : t ∈ T) : SubS root (T ++ t.parts) := fun s hs => by
  rcases List.mem_append.mp hs with hs | hs
  · exact h s hs
  · exact (h t ht).parts hs
section
variable {P : Program} {w : World} {K : PySem.W.Frag} {mg : Str → Option Value} {base : Heap}
def spLNd (K : PySem.W.Frag) : Sp := fun vs H Q _ => ∃ x t, vs = [x] ∧ TmAt K H x t ∧ t.sz ≤ 7 ∧ ∀ v T Ks H', Same H H' → LnAt K H' v T Ks → NdOk (T.zip Ks) → T[0]? = some t → T.length = Ks.length → T.length = t.sz → SubS t T → Q v H'
theorem ok_lnd {f : Addr} {fd : FuncData} {k : Nat} (F : Fun K "_law_nodes" "_law_nodes" sLNd f fd) (T : Txt mg) : FnOk P w K mg base CX0 (k + 1) f fd pLNd (spLNd K) := by
  refine F.ok scLNd (fun vs H Q E h => ?_) (fun cdv A outer s H vs Q E hr h => ?_)
  · obtain ⟨x, t, rfl, _⟩ := h
    rfl
  · obtain ⟨x, root, rfl, ht, hz, q⟩ := h
    refine ⟨_, pss_cons (ps_par (i := 1) (j := 2) rfl scLNd.nd rfl rfl (by decide) rfl rfl (pa_cons (pe_lst (pa_cons (pv 0) pa_nil)) (pa_cons (pe_lst pa_nil) pa_nil)) (by rfl))
      (pss_cons (ps_for PassesOwn.never rfl (pi_range1 (by rfl) T.range (pa_cons pe_int pa_nil)) (pg_name (i := 3) scLNd.nd rfl (Or.inl rfl))
        (pss_cons (ps_if (pt_cmp (pc_eqI (pv 3) (pe_callB call_len_seq (by rfl) T.len (by decide +kernel) (pa_cons (pv 1) pa_nil))) (by rfl)) (pss_one ps_break) pss_nil)
        (pss_cons (ps_set (i := 4) scLNd.nd rfl (Or.inl rfl) (pe_ix ix_list (pv 1) (pv 3) (fun _ _ => rfl)))
        (Evl.pss_cut (ps_set (i := 5) scLNd.nd rfl (Or.inl rfl) (pe_ifExp (pt_val (pe_callB call_isi (by rfl) T.isinstance (by decide +kernel) (pa_cons (pv 4) (pa_cons (pe_bltn (v := .ty "tuple") (by rfl) T.tuple (by decide +kernel) rfl) pa_nil))) (by intro _; rfl))
              (pe_callTy call_list_of (by rfl) T.list (by decide +kernel) (pa_cons (pe_slice sl_tupA (pv 4) (po_some pe_int) po_none) pa_nil)) (pe_lst pa_nil)))
        (pss_cons (ps_expr (pe_bm PySem.F.plainAttrs_list PySem.F.slot_list_append PySem.F.type_list_append mt_append (pv 2) (pa_cons
          (pe_listRg rfl (by rfl) T.list (prg_2 (by rfl) T.range (pe_callB call_len_seq (by rfl) T.len (by decide +kernel) (pa_cons (pv 1) pa_nil)) (pe_op op_add (pe_callB call_len_seq (by rfl) T.len (by decide +kernel) (pa_cons (pv 1) pa_nil)) (pe_callB call_len_seq (by rfl) T.len (by decide +kernel) (pa_cons (pv 5) pa_nil))))) pa_nil)))
        (pss_one (ps_set (i := 1) scLNd.nd rfl (Or.inl rfl) (pe_op op_cat (pv 1) (pv 5)))))))))
      (pss_one (ps_ret (pe_tup (pa_cons (pv 1) (pa_cons (pv 2) pa_nil)))))), ?_⟩
    refine ⟨_, rfl, len1 _, fun N0 hN0 => ⟨Nat.zero_le _, fun Kk hKk => ⟨_, _, rfl, ?_⟩⟩⟩
    have s1 := same_new (o := .lst [x]) hN0
    have s2 := same_new (o := .lst []) hKk
    have hKk0 : H Kk = none := by
      cases z : H Kk with
      | none => rfl
      | some o => rw [s1 _ _ z] at hKk; cases hKk
    have n0 : N0 ≠ Kk := ne_of_none upd_same hKk
    refine ⟨_, rfl, by decide, by decide, ?_⟩
    refine for_it walk_range (fun n σ H' => Same H H' ∧ ∃ (Nn : Addr) (us : List V) (T : List Tm) (kv : List V) (Ks : List (List Nat)), H' Nn = some (.lst us) ∧ Al (TmAt K H') us T ∧ H' Kk = some (.lst kv) ∧ Nn ≠ Kk ∧ Al (KidX Kk H') kv Ks ∧ Bfs root T Ks ∧ Ks.length = n ∧ SubS root T ∧ ∃ y3 y4 y5, σ = [some x, some (.ref Nn), some (.ref Kk), y3, y4, y5])
      ⟨s1.trans s2, N0, [x], [root], [], [], s2 _ _ upd_same, .cons (ht.mono (tk_same (s1.trans s2))) .nil, upd_same, n0, .nil, Bfs.init root, rfl, fun t h => by rw [List.mem_singleton.mp h]; exact .refl, none, none, none, rfl⟩ (fun _ _ _ _ _ => True.intro) ?_ ?_
    · rintro n y σ H1 H1' hn ⟨sm, Nn, us, T, kv, Ks, hus, al, hkv, nNK, alk, bf, hKs, sub, y3, y4, y5, rfl⟩ ⟨rfl, hy⟩
      have hy : y = V.int ((n : Nat) : Int) := hy.trans (congrArg V.int (Int.zero_add _))
      subst hy
      have usl := al.len
      have kvl := alk.len
      have ble := bf.le
      have bsz := bf.sz
      refine ⟨_, rfl, _, rfl, Nn, us, rfl, .inl (SqL.of hus), _, _, rfl, rfl, decide (((n : Nat) : Int) = ((us.length : Nat) : Int)), rfl, ite2 (fun he => ?_) (fun he => ?_)⟩
      · have he := of_decide_eq_true he
        have hd := bf.done (by omega)
        refine ⟨_, rfl, _, rfl, len2 _ _, fun p hp => q _ T Ks _ (sm.trans (same_new hp)) ⟨p, Nn, Kk, us, kv, rfl, SqT.of upd_same, same_new hp _ _ hus, al.mono fun u t h => h.mono (tk_new hp), same_new hp _ _ hkv, alk.mono fun u t h => h.same (same_new hp)⟩ hd.1 bf.top (by omega) ?_ sub⟩
        have := hd.2.2
        rw [List.length_zip] at this
        omega
      · have he : n ≠ us.length := fun z => he (decide_eq_true (by omega))
        have hnT : n < T.length := by omega
        have hx : us[n]? = some (us[n]'(by omega)) := List.getElem?_eq_getElem _
        obtain ⟨t, htT, hut⟩ := al.get hx
        have hmem := List.mem_of_getElem? htT
        refine ⟨_, rfl, _, rfl, Nn, us, _, _, rfl, rfl, SqL.of hus, atI_nat hx, ?_⟩
        generalize us[n]'(by omega) = u at hut hx
        refine ⟨fun σ' H' => ∃ Pp txs, σ' = [some x, some (.ref Nn), some (.ref Kk), some (.int ((n : Nat) : Int)), some u, some (.ref Pp)] ∧ Pp ≠ Kk ∧ Same H1' H' ∧ H' Pp = some (.lst txs) ∧ Al (TmAt K H') txs t.parts, ?_, ?_⟩
        · cases t with
          | hole m =>
            obtain rfl := hut.hole
            exact ⟨_, rfl, _, _, _, _, _, rfl, .ty "tuple", Sort3.ty (K := K) (.int (m : Int)), kit_ty kit_it, false, rfl, iteF ⟨Nat.zero_le _, fun p hp => ⟨p, [], rfl, (ne_of_none hkv hp).symm, same_new hp, upd_same, .nil⟩⟩⟩
          | node g ps =>
            obtain ⟨ta, txs, rfl, h1, h2⟩ := node_al hut
            refine ⟨_, rfl, _, _, _, _, _, rfl, .ty "tuple", tyx_tup h1, kit_ty kit_tt, true, rfl, iteT ⟨_, rfl, _, rfl, ta, _, rfl, h1, fun hc => absurd hc cut1_not, fun _ p1 hp1 => ?_⟩⟩
            rw [cut1]
            refine ⟨p1, txs, rfl, .inr (SqT.of upd_same), fun p3 hp3 => ⟨p3, txs, rfl, (ne_of_none (same_new hp1 _ _ hkv) hp3).symm, (same_new hp1).trans (same_new hp3), upd_same, h2.mono fun u t h => h.mono (tk_same ((same_new hp1).trans (same_new hp3)))⟩⟩
        · rintro σ' H2 ⟨Pp, txs, rfl, nPK, s12, hPp, alp⟩
          have hus2 := s12 _ _ hus
          have hkv2 := s12 _ _ hkv
          have tpl := alp.len
          have bst := bf.step (t := t) (by rw [hKs]; exact htT)
          have tle : (T ++ t.parts).length ≤ 7 := by
            have := bst.sz
            omega
          rw [List.length_append] at tle
          refine ⟨_, rfl, .inl ⟨rfl, _, SqL.of hkv2⟩, _, rfl, Nn, us, rfl, .inl (SqL.of hus2), _, rfl, Nn, us, rfl, .inl (SqL.of hus2), _, rfl, Pp, txs, rfl, .inl (SqL.of hPp), _, _, rfl, rfl, _, _, rfl, rfl, ⟨by omega, by omega, by omega, by omega, ?_⟩, fun l hl' => ⟨Kk, kv, _, rfl, rfl, same_new hl' _ _ hkv2, small_line (by omega), ?_⟩⟩
          · omega
          · have sL := same_new (o := .lst (rgV ((us.length : Nat) : Int) ((us.length : Nat) + (txs.length : Nat) : Int))) hl'
            have tkE := tk_lst (o := .lst (kv ++ [.ref l])) (sL _ _ hkv2)
            have erg : rgV ((us.length : Nat) : Int) ((us.length : Nat) + (txs.length : Nat) : Int) = (List.range' T.length t.parts.length).map fun k => V.int ((k : Nat) : Int) := by
              unfold rgV
              rw [show (((us.length : Nat) + (txs.length : Nat) : Int) - ((us.length : Nat) : Int)).toNat = t.parts.length by omega, List.range'_eq_map_range, List.map_map]
              refine List.map_congr_left fun i _ => ?_
              show V.int (((us.length : Nat) : Int) + (i : Nat)) = V.int ((T.length + i : Nat) : Int)
              congr 1
              omega
            have nl : l ≠ Kk := (ne_of_none hkv2 hl').symm
            refine ⟨_, rfl, _, rfl, Nn, Pp, us, txs, rfl, rfl, by rw [upd_ne nNK]; exact sL _ _ hus2, by rw [upd_ne nPK]; exact sL _ _ hPp, small_line' (by omega), fun p hp => ?_⟩
            have sP := same_new (o := .lst (us ++ txs)) hp
            have nPk : p ≠ Kk := (ne_of_none upd_same hp).symm
            refine ⟨(same_mut (sm.trans (s12.trans sL)) hKk0).trans sP, p, us ++ txs, T ++ t.parts, kv ++ [.ref l], Ks ++ [List.range' T.length t.parts.length], upd_same, ?_, sP _ _ upd_same, nPk, ?_, bst, by rw [List.length_append, hKs]; rfl, sub_app sub hmem, _, _, _, rfl⟩
            · exact ((al.mono fun u t h => h.mono (tk_same s12)).app alp).mono fun u t h => ((h.mono (tk_same sL)).mono tkE).mono (tk_same sP)
            · refine ((alk.mono fun u t h => h.same (s12.trans sL)).app (.cons ⟨l, rfl, nl, ?_⟩ .nil)).mono fun u t h => (h.upd).same sP
              rw [upd_same, erg]
    · rintro σ H1 ⟨sm, Nn, us, T, kv, Ks, hus, al, hkv, nNK, alk, bf, hKs, sub, y3, y4, y5, rfl⟩
      have h1 := bf.le
      have h2 := bf.sz
      have : (200 : Int).toNat = 200 := rfl
      omega
end
end Rk

/-! the law's path case -/
namespace Rk
open PySem PySem.Spec PyProof.Rows L2

def RkF (H : Hp) (v : V) (rk : List Str) : Prop := ∃ a o, v = .ref a ∧ H a = some (.frz o (.tup (rk.map V.str))) ∧ PlT o
theorem RkF.same {H H' : Hp} {v : V} {rk : List Str} (h : RkF H v rk) (s : Same H H') : RkF H' v rk := by
  obtain ⟨a, o, h1, h2, h3⟩ := h
  exact ⟨a, o, h1, s _ _ h2, h3⟩
theorem RkF.at_ {K : PySem.W.Frag} {H : Hp} {v : V} {rk : List Str} (h : RkF H v rk) : RkAt K H v rk := by
  obtain ⟨a, o, h1, h2, h3⟩ := h
  exact ⟨a, h1, .inl (.inr ⟨o, h2⟩)⟩
theorem tmAt_zip {T : List Tm} {Ks : List (List Nat)} (hl : T.length = Ks.length) (k : Nat) : tmAt (T.zip Ks) k = T[k]? := by
  unfold tmAt
  by_cases h : k < T.length
  · rw [List.getElem?_eq_getElem (by rw [List.length_zip]; omega), List.getElem_zip, List.getElem?_eq_getElem h]
    rfl
  · rw [List.getElem?_eq_none (by rw [List.length_zip]; omega), List.getElem?_eq_none (by omega)]
    rfl
theorem zip_get {T : List Tm} {Ks : List (List Nat)} (hl : T.length = Ks.length) {k : Nat} {t : Tm} (h : T[k]? = some t) : ∃ ks, Ks[k]? = some ks ∧ (T.zip Ks)[k]? = some (t, ks) := by
  have hk := (List.getElem?_eq_some_iff.mp h).1
  rw [List.getElem?_eq_getElem hk] at h
  have h := Option.some.inj h
  refine ⟨Ks[k]'(by omega), List.getElem?_eq_getElem _, ?_⟩
  rw [List.getElem?_eq_getElem (by rw [List.length_zip]; omega), List.getElem_zip, h]
/-- what the law's case is told -/
structure LcA (K : PySem.W.Frag) (H : Hp) (sc : V) (rk : List Str) (tb : Addr) (v1 v2 : V) (kvs : List (List Key × V)) (ar : Str → Nat) (T1 : List Tm) (K1 : List (List Nat)) (T2 : List Tm) (K2 : List (List Nat)) (i j : Nat) : Prop where
  sc : RkF H sc rk
  n1 : LnAt K H v1 T1 K1
  l1 : T1.length = K1.length
  o1 : NdOk (T1.zip K1)
  n2 : LnAt K H v2 T2 K2
  l2 : T2.length = K2.length
  o2 : NdOk (T2.zip K2)
  t : H tb = some (.dT kvs)
  m1 : ∀ (k : Nat) f ps, T1[k]? = some (.node f ps) → ps.length = ar f ∧ f ∈ rk
  m2 : ∀ (k : Nat) f ps, T2[k]? = some (.node f ps) → ps.length = ar f ∧ f ∈ rk
  s1 : ∀ (k : Nat) s, T1[k]? = some s → s.sz ≤ 7 ∧ SeqAt.shaped s.toD = true
  s2 : ∀ (k : Nat) s, T2[k]? = some s → s.sz ≤ 7 ∧ SeqAt.shaped s.toD = true
  tab : TabV (ixR rk) kvs (T1.zip K1) (T2.zip K2) i j
theorem LcA.same {K : PySem.W.Frag} {H H' : Hp} {sc : V} {rk : List Str} {tb : Addr} {v1 v2 : V} {kvs : List (List Key × V)} {ar : Str → Nat} {T1 : List Tm} {K1 : List (List Nat)} {T2 : List Tm} {K2 : List (List Nat)} {i j : Nat} (h : LcA K H sc rk tb v1 v2 kvs ar T1 K1 T2 K2 i j) (s : Same H H') : LcA K H' sc rk tb v1 v2 kvs ar T1 K1 T2 K2 i j :=
  ⟨h.sc.same s, h.n1.same s, h.l1, h.o1, h.n2.same s, h.l2, h.o2, s _ _ h.t, h.m1, h.m2, h.s1, h.s2, h.tab⟩
theorem Al.get' {α : Type} {R : V → α → Prop} : ∀ {us : List V} {S : List α}, Al R us S → ∀ {i : Nat} {t : α}, S[i]? = some t → ∃ u, us[i]? = some u ∧ R u t
  | _, _, .nil, i, t, e => by simp at e
  | _, _, .cons a _, 0, t, e => by
    simp at e
    subst e
    exact ⟨_, rfl, a⟩
  | _, _, .cons _ h, i + 1, t, e => by
    obtain ⟨u, h1, h2⟩ := h.get' (i := i) (by simpa using e)
    exact ⟨u, by simpa using h1, h2⟩
theorem flt_any {α : Type} (g : α → Bool) (l : List α) : ((List.range l.length).filter fun i => ((l[i]?).map g).getD false).isEmpty = !l.any g := by
  rw [Bool.eq_iff_iff, List.isEmpty_iff, List.filter_eq_nil_iff, Bool.not_eq_true', ← Bool.not_eq_true, List.any_eq_true]
  constructor
  · rintro h ⟨x, hx, gx⟩
    obtain ⟨i, hi, e⟩ := List.getElem_of_mem hx
    refine h i (List.mem_range.mpr hi) ?_
    rw [List.getElem?_eq_getElem hi, e]
    exact gx
  · intro h i hi gi
    have hi := List.mem_range.mp hi
    rw [List.getElem?_eq_getElem hi] at gi
    exact h ⟨_, List.getElem_mem hi, gi⟩
theorem idx_get : ∀ {l : List Str} {f : Str}, f ∈ l → l[l.idxOf f]? = some f ∧ ∀ m, m < l.idxOf f → l[m]? ≠ some f
  | [], _, h => by cases h
  | y :: l, f, h => by
    rw [List.idxOf_cons]
    by_cases e : y = f
    · subst e
      rw [show (y == y) = true from beq_self_eq_true y]
      exact ⟨rfl, fun m hm => absurd hm (Nat.not_lt_zero m)⟩
    · rw [show (y == f) = false by simp [e]]
      have hm : f ∈ l := by
        rcases List.mem_cons.mp h with q | q
        · exact absurd q.symm e
        · exact q
      obtain ⟨h1, h2⟩ := idx_get hm
      refine ⟨h1, fun m hm => ?_⟩
      cases m with
      | zero => exact fun z => e (Option.some.inj z)
      | succ m => exact h2 m (by have : m + 1 < l.idxOf f + 1 := hm; omega)
theorem idx_inj {l : List Str} {f g : Str} (hf : f ∈ l) (hg : g ∈ l) (h : l.idxOf f = l.idxOf g) : f = g := by
  have h1 := (idx_get hf).1
  have h2 := (idx_get hg).1
  rw [h] at h1
  exact Option.some.inj (h1.symm.trans h2)
theorem cutFrom (xs : List V) (k : Nat) : cutV xs (some ((k : Nat) : Int)) none = xs.drop k := by
  unfold cutV
  rw [HT.sIx_nat, HT.sIx_none, List.take_of_length_le (by rw [List.length_drop]; exact Nat.le_refl _)]
  by_cases h : k ≤ xs.length
  · rw [Nat.min_eq_left h]
  · rw [Nat.min_eq_right (by omega), List.drop_eq_nil_of_le (Nat.le_refl _), List.drop_eq_nil_of_le (by omega)]
section
variable {P : Program} {w : World} {K : PySem.W.Frag} {mg : Str → Option Value} {base : Heap}
def spLCa (K : PySem.W.Frag) : Sp := fun vs H Q _ => ∃ sc rk tb v1 v2 kvs ar T1 K1 T2 K2 i j t1 t2, vs = [sc, v1, v2, .ref tb, .int ((i : Nat) : Int), .int ((j : Nat) : Int)] ∧ LcA K H sc rk tb v1 v2 kvs ar T1 K1 T2 K2 i j ∧ T1[i]? = some t1 ∧ T2[j]? = some t2 ∧
  ∀ H', Same H H' → Q (.bl (gtB (ixR rk) t1 t2)) H'
theorem ok_lca {f : Addr} {fd : FuncData} {k : Nat} (F : Fun K "_law_path_case" "_law_path_case" sLCa f fd) (T : Txt mg) : FnOk P w K mg base CX0 (k + 1) f fd pLCa (spLCa K) := by
  refine F.ok scLCa (fun vs H Q E h => ?_) (fun cdv A outer s H vs Q E hr h => ?_)
  · obtain ⟨sc, rk, tb, v1, v2, kvs, ar, T1, K1, T2, K2, i, j, t1, t2, rfl, _⟩ := h
    rfl
  · obtain ⟨sc, rk, tb, v1, v2, kvs, ar, T1, K1, T2, K2, i, j, t1, t2, rfl, lc, e1, e2, q⟩ := h
    have hu := hu_of hr
    have hu64 := hr.units
    refine ⟨_, pss_cons (ps_asg (pe_tup (pa_cons (pe_ix ix_list (pe_ix ix_tup (pv 1) pe_int (fun _ _ => rfl)) (pv 4) (fun _ _ => rfl)) (pa_cons (pe_ix ix_list (pe_ix ix_tup (pv 2) pe_int (fun _ _ => rfl)) (pv 5) (fun _ _ => rfl)) pa_nil))) (pg_tup rfl (pgs_cons (pg_name (i := 6) scLCa.nd rfl (Or.inr rfl)) (pgs_cons (pg_name (i := 7) scLCa.nd rfl (Or.inr rfl)) pgs_nil))))
      (pss_cons (ps_if (pt_not (pt_val (pe_callB call_isi (by rfl) T.isinstance (by decide +kernel) (pa_cons (pv 6) (pa_cons (pe_bltn (v := .ty "tuple") (by rfl) T.tuple (by decide +kernel) rfl) pa_nil))) (by intro _; rfl))) (pss_one (ps_ret pe_bl)) pss_nil)
      (pss_cons (ps_if (pt_cmpR (op_neD hu64) (pe_lc (own := [("_law_kid", 10)]) (g := gName 10) (tt := tOr (tTest (tOp (rEqD K) (tOp (rIxL K) (tOp (rIxT K) (tVar 1) (tC (.int 0))) (tVar 10)) (tVar 7))) (tB (tDGet (tVar 3) (tTup (tCons (tVar 10) (tCons (tVar 5) tNil)))))) rfl scLCa.nd (pi_list (pe_ix ix_list (pe_ix ix_tup (pv 1) pe_int (fun _ _ => rfl)) (pv 4) (fun _ _ => rfl))) (blkOk_by (N := nLCa) (sc := defScope sLCa) (by decide +kernel))
          (fun _ _ _ _ _ => pg_name (i := 10) scLCa.nd rfl (Or.inl rfl))
          (fun _ _ _ _ _ => pts_one (PW.pt (pw_or (pt_cmpR (op_eqD hu64) (pe_ix ix_list (pe_ix ix_tup (pv 1) pe_int (fun _ _ => rfl)) (pv 10) (fun _ _ => rfl)) (pv 7) (nomark _)) (pw_or1 (pt_val (pe_dget hu (pv 3) (pe_tup (pa_cons (pv 10) (pa_cons (pv 5) pa_nil))) (fun _ _ => rfl)) (by intro _; rfl))))))
          (fun _ _ _ _ _ => pv 10)) (pe_lst pa_nil) (nomark _)) (pss_one (ps_ret pe_bl)) pss_nil)
      (pss_cons (ps_if (pt_not (pt_val (pe_callB call_isi (by rfl) T.isinstance (by decide +kernel) (pa_cons (pv 7) (pa_cons (pe_bltn (v := .ty "tuple") (by rfl) T.tuple (by decide +kernel) rfl) pa_nil))) (by intro _; rfl))) (pss_one (ps_ret pe_bl)) pss_nil)
      (pss_cons (ps_set (i := 8) scLCa.nd rfl (Or.inl rfl) (pe_ix ix_list (pe_ix ix_tup (pv 2) pe_int (fun _ _ => rfl)) (pv 5) (fun _ _ => rfl)))
      (Evl.pss_cut (ps_if (pt_cmpR op_eq (pe_ix ix_tup (pv 6) pe_int (fun _ _ => rfl)) (pe_ix ix_tup (pv 7) pe_int (fun _ _ => rfl)) (nomark _))
        (pss_cons (ps_setLc (i := 9) (own := [("_law_k", 11)]) (g := gName 11) (tt := tTest (tOp (rNeD K) (tOp (rIxT K) (tVar 6) (tOp (rI0 fun i j => .int (i + j)) (tVar 11) (tC (.int 1)))) (tOp (rIxT K) (tVar 7) (tOp (rI0 fun i j => .int (i + j)) (tVar 11) (tC (.int 1)))))) rfl scLCa.nd rfl rfl (by rfl) (pi_range1 (by rfl) T.range (pa_cons (pe_callB call_len_seq (by rfl) T.len (by decide +kernel) (pa_cons (pv 8) pa_nil)) pa_nil)) (blkOk_by (N := nLCa) (sc := defScope sLCa) (by decide +kernel))
          (fun _ _ _ _ _ => pg_name (i := 11) scLCa.nd rfl (Or.inl rfl))
          (fun _ _ _ _ _ => pts_one (pt_cmpR (op_neD hu64) (pe_ix ix_tup (pv 6) (pe_op op_add (pv 11) pe_int) (fun _ _ => rfl)) (pe_ix ix_tup (pv 7) (pe_op op_add (pv 11) pe_int) (fun _ _ => rfl)) (nomark _)))
          (fun _ _ _ _ _ => pv 11))
        (pss_cons (ps_if (PW.pt (pw_or (pt_cmpR (op_eqD hu64) (pv 9) (pe_lst pa_nil) (nomark _)) (pw_or1 (pt_not (pt_val (pe_dget hu (pv 3) (pe_tup (pa_cons (pe_ix ix_list (pe_ix ix_list (pe_ix ix_tup (pv 1) pe_int (fun _ _ => rfl)) (pv 4) (fun _ _ => rfl)) (pe_ix ix_list (pv 9) pe_int (fun _ _ => rfl)) (fun _ _ => rfl)) (pa_cons (pe_ix ix_list (pv 8) (pe_ix ix_list (pv 9) pe_int (fun _ _ => rfl)) (fun _ _ => rfl)) pa_nil))) (fun _ _ => rfl)) (by intro _; rfl)))))) (pss_one (ps_ret pe_bl)) pss_nil)
        (pss_one (ps_set (i := 8) scLCa.nd rfl (Or.inl rfl) (pe_slice sl_list (pv 8) (po_some (pe_op op_add (pe_ix ix_list (pv 9) pe_int (fun _ _ => rfl)) pe_int)) po_none)))))
        (pss_one (ps_if (pt_cmpR op_gt (pe_bmT PySem.F.slot_tuple_index PySem.F.type_tuple_index mt_tup_index (pv 0) (pa_cons (pe_ix ix_tup (pv 6) pe_int (fun _ _ => rfl)) pa_nil)) (pe_bmT PySem.F.slot_tuple_index PySem.F.type_tuple_index mt_tup_index (pv 0) (pa_cons (pe_ix ix_tup (pv 7) pe_int (fun _ _ => rfl)) pa_nil)) (nomark _)) (pss_one (ps_ret pe_bl)) pss_nil)))
      (pss_one (ps_ret (pe_cmpR (op_eqD hu64) (pe_lc (own := [("_law_kid", 10)]) (g := gName 10) (tt := tNot (tB (tDGet (tVar 3) (tTup (tCons (tVar 4) (tCons (tVar 10) tNil)))))) rfl scLCa.nd (pi_list (pv 8)) (blkOk_by (N := nLCa) (sc := defScope sLCa) (by decide +kernel))
          (fun _ _ _ _ _ => pg_name (i := 10) scLCa.nd rfl (Or.inl rfl))
          (fun _ _ _ _ _ => pts_one (pt_not (pt_val (pe_dget hu (pv 3) (pe_tup (pa_cons (pv 4) (pa_cons (pv 10) pa_nil))) (fun _ _ => rfl)) (by intro _; rfl))))
          (fun _ _ _ _ _ => pv 10)) (pe_lst pa_nil) (nomark _))))))))), ?_⟩
    obtain ⟨a1, n1, k1, us1, kv1, rfl, ha1, hn1, al1, hk1, alk1⟩ := lc.n1
    obtain ⟨a2, n2, k2, us2, kv2, rfl, ha2, hn2, al2, hk2, alk2⟩ := lc.n2
    obtain ⟨ks1, hks1, hL1⟩ := zip_get lc.l1 e1
    obtain ⟨ks2, hks2, hL2⟩ := zip_get lc.l2 e2
    obtain ⟨x1, hx1, ht1⟩ := al1.get' e1
    obtain ⟨x2, hx2, ht2⟩ := al2.get' e2
    obtain ⟨_, hv1, l1, rfl, _, hl1⟩ := alk1.get' hks1
    obtain ⟨_, hv2, l2, rfl, _, hl2⟩ := alk2.get' hks2
    refine ⟨_, rfl, a1, _, 0, _, rfl, rfl, ha1, atI_nat (j := 0) rfl, _, rfl, n1, us1, _, x1, rfl, rfl, SqL.of hn1, atI_nat hx1, _, rfl, a2, _, 0, _, rfl, rfl, ha2, atI_nat (j := 0) rfl, _, rfl, n2, us2, _, x2, rfl, rfl, SqL.of hn2, atI_nat hx2, len2 _ _, fun p hp => ⟨p, _, rfl, SqT.of upd_same, rfl, _, _, rfl, _, _, rfl, rfl, ?_⟩⟩
    have s01 := same_new (o := .tup [x1, x2]) hp
    generalize upd H p (.tup [x1, x2]) = H1 at s01 ⊢
    have ht1' := ht1.mono (tk_same s01)
    have ht2' := ht2.mono (tk_same s01)
    have part1 : ∀ (c : Nat) (pt : Tm), t1.parts[c]? = some pt → ∃ kk, ks1[c]? = some kk ∧ T1[kk]? = some pt ∧ i < kk := fun c pt h => by
      have hlen := lc.o1.len hL1
      have hc : c < ks1.length := by rw [hlen]; exact (List.getElem?_eq_some_iff.mp h).1
      obtain ⟨kk, p', q1, q2, q3, q4, q5⟩ := kidAt lc.o1 hL1 (j := c) (z := .int ((ks1[c] : Nat) : Int)) (by rw [List.getElem?_map, List.getElem?_eq_getElem hc]; rfl)
      rw [tmAt_zip lc.l1] at q4
      obtain rfl : pt = p' := Option.some.inj (h.symm.trans q3)
      exact ⟨kk, q1, q4, q5⟩
    have part2 : ∀ (c : Nat) (pt : Tm), t2.parts[c]? = some pt → ∃ kk, ks2[c]? = some kk ∧ T2[kk]? = some pt ∧ j < kk := fun c pt h => by
      have hlen := lc.o2.len hL2
      have hc : c < ks2.length := by rw [hlen]; exact (List.getElem?_eq_some_iff.mp h).1
      obtain ⟨kk, p', q1, q2, q3, q4, q5⟩ := kidAt lc.o2 hL2 (j := c) (z := .int ((ks2[c] : Nat) : Int)) (by rw [List.getElem?_map, List.getElem?_eq_getElem hc]; rfl)
      rw [tmAt_zip lc.l2] at q4
      obtain rfl : pt = p' := Option.some.inj (h.symm.trans q3)
      exact ⟨kk, q1, q4, q5⟩
    cases t1 with
    | hole n0 =>
      obtain rfl := ht1'.hole
      have q1 := q H1 s01
      rw [gtB_hole] at q1
      exact ⟨_, rfl, _, _, _, _, _, rfl, .ty "tuple", Sort3.ty (K := K) (.int (n0 : Int)), kit_ty kit_it, false, rfl, iteT q1⟩
    | node f ps =>
      obtain ⟨ta1, w1, rfl, hta1, alw1⟩ := node_al ht1'
      refine ⟨_, rfl, _, _, _, _, _, rfl, .ty "tuple", tyx_tup hta1, kit_ty kit_tt, true, rfl, iteF ?_⟩
      have hps : ks1.length = ps.length := lc.o1.len hL1
      have hps7 := (lc.s1 _ _ e1).1
      have hps8 := len_le_szs ps
      rw [Tm.sz] at hps7
      refine ⟨_, rfl, a1, _, 1, _, rfl, rfl, (tk_same s01).t ha1, atI_nat (j := 1) rfl, _, rfl, k1, kv1, _, .ref l1, rfl, rfl, SqL.of (s01 _ _ hk1), atI_nat hv1, l1, rfl, ⟨_, SqL.of (s01 _ _ hl1)⟩, fun D hD => ?_⟩
      refine lcS (walk_list (K := K) (a := l1) (xs := ks1.map fun k => V.int ((k : Nat) : Int))) (fun i y _ => y = .int ((ks1.getD i 0 : Nat) : Int)) (fun i => (ps[i]?.map fun p => eqB p t2 || gtB (ixR rk) p t2).getD false) (by rw [List.length_map]; omega) hD (fun _ e => SqL.of (e _ _ (s01 _ _ hl1))) (fun _ _ _ _ _ h => h) ?_ ?_
      · rintro i0 z H' H'' R R0 hi s1 ⟨rfl, hz⟩ k1' k2'
        obtain ⟨kk, p, hk, rfl, hp, htk, hlt⟩ := kidAt lc.o1 hL1 hz
        have hp : ps[i0]? = some p := hp
        have htk' := htk
        rw [tmAt_zip lc.l1] at htk'
        have sA := s01.trans s1
        obtain ⟨xk, hxk, hxkT⟩ := al1.get' htk'
        have egd : ks1.getD i0 0 = kk := by rw [List.getD_eq_getElem?_getD, hk]; rfl
        refine ⟨rfl, _, rfl, a1, _, 0, _, rfl, rfl, (tk_same sA).t ha1, atI_nat (j := 0) rfl, _, rfl, n1, us1, _, xk, rfl, rfl, SqL.of (sA _ _ hn1), atI_nat hxk, _, rfl, p.toD, t2.toD, hxkT.mono (tk_same sA), ht2.mono (tk_same sA), (lc.s1 _ _ htk').2, (lc.s2 _ _ e2).2, eqB p t2, congrArg V.bl (eqB_eqv p t2), ?_⟩
        have ek : ((ps[i0]?.map fun p => eqB p t2 || gtB (ixR rk) p t2).getD false) = (eqB p t2 || gtB (ixR rk) p t2) := by rw [hp]; rfl
        cases he : eqB p t2 with
        | true => exact iteT (iteT ⟨_, rfl, k1' _ _ (ek.trans (by rw [he]; rfl)) (Same.refl _) (by rw [egd])⟩)
        | false =>
          refine iteF ⟨_, rfl, _, rfl, _, rfl, len2 _ _, fun b hb => ⟨tb, _, rfl, .inr ⟨kvs, [.inl ((kk : Nat) : Int), .inl ((j : Nat) : Int)], b, .inl ((same_new hb) _ _ (sA _ _ lc.t)), rfl, upd_same, (lc.tab kk j p t2 htk (by rw [tmAt_zip lc.l2]; exact e2) (.inl hlt)).symm⟩, gtB (ixR rk) p t2, rfl, ?_⟩⟩
          cases hg : gtB (ixR rk) p t2 with
          | true => exact iteT ⟨_, rfl, k1' _ _ (ek.trans (by rw [he, hg]; rfl)) (same_new hb) (by rw [egd])⟩
          | false => exact iteF (k2' _ (ek.trans (by rw [he, hg]; rfl)) (same_new hb))
      · intro H3 ys s3 e rr
        have ey := rr.eq (f := fun i => V.int ((ks1.getD i 0 : Nat) : Int))
        rw [List.length_map, hps] at ey
        have ey2 : ys = (((List.range ps.length).filter fun i => (ps[i]?.map fun p => eqB p t2 || gtB (ixR rk) p t2).getD false).map fun i => ((ks1.getD i 0 : Nat) : Int)).map V.int := by
          rw [ey, List.map_map]
          rfl
        rw [ey2] at e
        have hvia := flt_any (fun p => eqB p t2 || gtB (ixR rk) p t2) ps
        refine ⟨Nat.zero_le _, fun p6 hp6 => ⟨.list ((((List.range ps.length).filter fun i => (ps[i]?.map fun p => eqB p t2 || gtB (ixR rk) p t2).getD false).map fun i => ((ks1.getD i 0 : Nat) : Int)).map PyData.int), .list [], .lst (SqL.of ((same_new hp6) _ _ e)) (dpAll_ints _), .lst (SqL.of upd_same) .nil, shaped_ints _, shaped_nil, viaB (ixR rk) ps t2, congrArg V.bl (by rw [eqv_nil, List.isEmpty_map, List.isEmpty_map, hvia, Bool.not_not]; rfl), ?_⟩⟩
        have s04 := s01.trans (s3.trans (same_new (o := .lst []) hp6))
        generalize upd H3 p6 (.lst []) = H4 at s04 ⊢
        cases hv : viaB (ixR rk) ps t2 with
        | true =>
          have q1 := q H4 s04
          rw [gtB_via hv] at q1
          exact iteT q1
        | false =>
          refine iteF ?_
          have ht1'' := ht1.mono (tk_same s04)
          have ht2'' := ht2.mono (tk_same s04)
          cases t2 with
          | hole n0 =>
            obtain rfl := ht2''.hole
            have q1 := q H4 s04
            rw [gtB_novia_hole hv] at q1
            exact ⟨_, rfl, _, _, _, _, _, rfl, .ty "tuple", Sort3.ty (K := K) (.int (n0 : Int)), kit_ty kit_it, false, rfl, iteT q1⟩
          | node g qs =>
            obtain ⟨ta2, w2, rfl, hta2, alw2⟩ := node_al ht2''
            obtain ⟨ta1', w1', e1', hta1, alw1⟩ := node_al ht1''
            obtain rfl : ta1 = ta1' := by injection e1'
            refine ⟨_, rfl, _, _, _, _, _, rfl, .ty "tuple", tyx_tup hta2, kit_ty kit_tt, true, rfl, iteF ?_⟩
            have hqs : ks2.length = qs.length := lc.o2.len hL2
            have hqs7 := (lc.s2 _ _ e2).1
            have hqs8 := len_le_szs qs
            rw [Tm.sz] at hqs7
            have hm1 := lc.m1 _ _ _ e1
            have hm2 := lc.m2 _ _ _ e2
            refine ⟨_, rfl, a2, _, 1, _, rfl, rfl, (tk_same s04).t ha2, atI_nat (j := 1) rfl, _, rfl, k2, kv2, _, .ref l2, rfl, rfl, SqL.of (s04 _ _ hk2), atI_nat hv2, ?_⟩
            refine ⟨fun σ' H' => ∃ lr c y9, σ' = [some sc, some (.ref a1), some (.ref a2), some (.ref tb), some (.int ((i : Nat) : Int)), some (.int ((j : Nat) : Int)), some (.ref ta1), some (.ref ta2), some (.ref lr), y9, none, none] ∧ Same H H' ∧ H' lr = some (.lst ((ks2.drop c).map fun k => V.int ((k : Nat) : Int))) ∧ gtB (ixR rk) (.node f ps) (.node g qs) = (qs.drop c).all fun u => gtB (ixR rk) (.node f ps) u, ?_, ?_⟩
            · refine ⟨_, rfl, ta1, _, 0, _, rfl, rfl, hta1, atI_nat (j := 0) rfl, _, rfl, ta2, _, 0, _, rfl, rfl, hta2, atI_nat (j := 0) rfl, rfl, decide (f = g), congrArg V.bl (by rw [dec_str]; rfl), ?_⟩
              by_cases hfg : f = g
              · subst hfg
                rw [decide_eq_true rfl]
                refine iteT ?_
                have hlen : ps.length = qs.length := hm1.1.trans hm2.1.symm
                have hl24 := s04 _ _ hl2
                refine ⟨_, rfl, l2, _, rfl, .inl (SqL.of hl24), _, rfl, by rw [List.length_map]; omega, by rw [List.length_map]; omega, fun D4 hD4 => ?_⟩
                rw [List.length_map, show ((ks2.length : Nat) : Int).toNat = ps.length by omega]
                refine lcS walk_range (fun i y _ => y = .int ((i : Nat) : Int)) (keepAt ps qs) (by omega) hD4 (fun _ _ => True.intro) (fun _ _ _ _ _ h => h) ?_ ?_
                · rintro i0 z H' H'' R R0 hi s5 ⟨rfl, hz⟩ k1' k2'
                  have hz : z = V.int ((i0 : Nat) : Int) := hz.trans (congrArg V.int (Int.zero_add _))
                  subst hz
                  have hp : ps[i0]? = some (ps[i0]'hi) := List.getElem?_eq_getElem hi
                  have hq : qs[i0]? = some (qs[i0]'(by omega)) := List.getElem?_eq_getElem _
                  obtain ⟨xp, hxp, hxpT⟩ := alw1.get' hp
                  obtain ⟨xq, hxq, hxqT⟩ := alw2.get' hq
                  obtain ⟨kp, _, hkp, _⟩ := part1 i0 _ hp
                  obtain ⟨kq, _, hkq, _⟩ := part2 i0 _ hq
                  have t5 := tk_same s5
                  refine ⟨rfl, _, rfl, _, rfl, _, _, rfl, rfl, ta1, _, _, xp, rfl, rfl, t5.t hta1, at_of (j := i0 + 1) (by omega) (by rw [List.getElem?_cons_succ]; exact hxp), _, rfl, _, rfl, _, _, rfl, rfl, ta2, _, _, xq, rfl, rfl, t5.t hta2, at_of (j := i0 + 1) (by omega) (by rw [List.getElem?_cons_succ]; exact hxq), _, _, hxpT.mono t5, hxqT.mono t5, (lc.s1 _ _ hkp).2, (lc.s2 _ _ hkq).2, keepAt ps qs i0, congrArg V.bl (by unfold keepAt; rw [hp, hq, eqB_eqv]), ?_⟩
                  cases hk : keepAt ps qs i0 with
                  | true => exact iteT ⟨_, rfl, k1' _ _ hk (Same.refl _) rfl⟩
                  | false => exact iteF (k2' _ hk (Same.refl _))
                · intro H5 zs s5 e5 r5
                  have ez := r5.eq (f := fun i => V.int ((i : Nat) : Int))
                  have ez : zs = (uIdx ps qs).map fun i => V.int ((i : Nat) : Int) := ez
                  subst ez
                  have s05 := s04.trans s5
                  have e5' : H5 D4 = some (.lst (((uIdx ps qs).map fun i => ((i : Nat) : Int)).map V.int)) := by rw [e5, List.map_map]; rfl
                  refine ⟨_, rfl, Nat.zero_le _, fun p5 hp5 => ⟨.list (((uIdx ps qs).map fun i => ((i : Nat) : Int)).map PyData.int), .list [], .lst (SqL.of ((same_new hp5) _ _ e5')) (dpAll_ints _), .lst (SqL.of upd_same) .nil, shaped_ints _, shaped_nil, (uIdx ps qs).isEmpty, congrArg V.bl (by rw [eqv_nil, List.isEmpty_map, List.isEmpty_map]), ?_⟩⟩
                  have s06 := s05.trans (same_new (o := .lst []) hp5)
                  have e6 := (same_new (o := .lst []) hp5) _ _ e5
                  generalize upd H5 p5 (.lst []) = H6 at s06 e6 ⊢
                  cases hU : uIdx ps qs with
                  | nil =>
                    have := uIdx_nil hlen hU
                    subst this
                    have q1 := q H6 s06
                    rw [gtB_novia_same hv] at q1
                    exact iteT (iteT q1)
                  | cons i0 rest =>
                    rw [hU] at e6
                    refine iteF ?_
                    obtain ⟨pre, p, qq, ps', qs', c1, c2, c3, c4, c5, c6⟩ := uIdx_split hlen hU
                    have hpi : ps[i0]? = some p := by rw [c1, ← c3, List.getElem?_append_right (Nat.le_refl _), Nat.sub_self]; rfl
                    have hqi : qs[i0]? = some qq := by rw [c2, ← c3, List.getElem?_append_right (Nat.le_refl _), Nat.sub_self]; rfl
                    obtain ⟨k0, hk0, hk0T, hk0l⟩ := part1 i0 _ hpi
                    obtain ⟨m0, hm0, hm0T, hm0l⟩ := part2 i0 _ hqi
                    have lex : gtB (ixR rk) (.node f ps) (.node f qs) = (gtB (ixR rk) p qq && qs'.all fun u => gtB (ixR rk) (.node f ps) u) := by
                      have hv2 := hv
                      rw [c1, c2] at hv2
                      have := gtB_novia_lex hv2 c4
                      rw [← c1, ← c2] at this
                      exact this
                    have gk : (ks1.map fun k => V.int ((k : Nat) : Int))[i0]? = some (.int ((k0 : Nat) : Int)) := by rw [List.getElem?_map, hk0]; rfl
                    have gm : (ks2.map fun k => V.int ((k : Nat) : Int))[i0]? = some (.int ((m0 : Nat) : Int)) := by rw [List.getElem?_map, hm0]; rfl
                    have hl26 := s06 _ _ hl2
                    refine ⟨_, rfl, _, rfl, a1, _, 1, _, rfl, rfl, (tk_same s06).t ha1, atI_nat (j := 1) rfl, _, rfl, k1, kv1, _, .ref l1, rfl, rfl, SqL.of (s06 _ _ hk1), atI_nat hv1, _, rfl, D4, _, 0, .int ((i0 : Nat) : Int), rfl, rfl, SqL.of e6, atI_nat (j := 0) rfl, l1, _, _, .int ((k0 : Nat) : Int), rfl, rfl, SqL.of (s06 _ _ hl1), atI_nat gk, _, rfl, _, rfl, D4, _, 0, .int ((i0 : Nat) : Int), rfl, rfl, SqL.of e6, atI_nat (j := 0) rfl, l2, _, _, .int ((m0 : Nat) : Int), rfl, rfl, SqL.of hl26, atI_nat gm, len2 _ _, fun b hb => ⟨tb, _, rfl, .inr ⟨kvs, [.inl ((k0 : Nat) : Int), .inl ((m0 : Nat) : Int)], b, .inl ((same_new hb) _ _ (s06 _ _ lc.t)), rfl, upd_same, (lc.tab k0 m0 p qq (by rw [tmAt_zip lc.l1]; exact hk0T) (by rw [tmAt_zip lc.l2]; exact hm0T) (.inl hk0l)).symm⟩, gtB (ixR rk) p qq, rfl, ?_⟩⟩
                    have s07 := s06.trans (same_new (o := .tup [.int ((k0 : Nat) : Int), .int ((m0 : Nat) : Int)]) hb)
                    have e7 := (same_new (o := .tup [.int ((k0 : Nat) : Int), .int ((m0 : Nat) : Int)]) hb) _ _ e6
                    cases hpq : gtB (ixR rk) p qq with
                    | false =>
                      have q1 := q _ s07
                      rw [lex, hpq] at q1
                      exact iteT q1
                    | true =>
                      refine iteF ⟨_, rfl, _, rfl, D4, _, 0, .int ((i0 : Nat) : Int), rfl, rfl, SqL.of e7, atI_nat (j := 0) rfl, _, _, rfl, rfl, _, rfl, l2, _, rfl, SqL.of (s07 _ _ hl2), fun pn hpn => ?_⟩
                      refine ⟨pn, i0 + 1, _, rfl, s07.trans (same_new hpn), ?_, ?_⟩
                      · rw [upd_same, List.map_drop]
                        exact congrArg (fun z => some (HO.lst z)) (cutFrom _ (i0 + 1))
                      · rw [lex, hpq, Bool.true_and, c2, ← c3, show pre.length + 1 = (pre ++ [qq]).length by rw [List.length_append]; rfl, show pre ++ qq :: qs' = (pre ++ [qq]) ++ qs' by simp, List.drop_left]
              · rw [decide_eq_false hfg]
                refine iteF ?_
                obtain ⟨pa, po, rfl, hpa, hpl⟩ := lc.sc
                have hpa4 := s04 _ _ hpa
                obtain ⟨g1, g2⟩ := idx_get hm1.2
                obtain ⟨g3, g4⟩ := idx_get hm2.2
                refine ⟨_, rfl, ⟨pa, po, _, rfl, hpa4, hpl⟩, _, rfl, ta1, _, 0, _, rfl, rfl, hta1, atI_nat (j := 0) rfl, pa, rk, f, rk.idxOf f, rfl, rfl, .inl (.inr ⟨po, hpa4⟩), g1, g2, _, rfl, ⟨pa, po, _, rfl, hpa4, hpl⟩, _, rfl, ta2, _, 0, _, rfl, rfl, hta2, atI_nat (j := 0) rfl, pa, rk, g, rk.idxOf g, rfl, rfl, .inl (.inr ⟨po, hpa4⟩), g3, g4, _, _, rfl, rfl, _, rfl, ite2 (fun hgt => ?_) (fun hgt => ?_)⟩
                · have hgt := of_decide_eq_true hgt
                  have q1 := q H4 s04
                  rw [gtB_novia_prec hv hfg, decide_eq_false (show ¬ rk.idxOf f < rk.idxOf g by omega)] at q1
                  exact q1
                · have hgt : ¬ (((rk.idxOf f : Nat) : Int) > ((rk.idxOf g : Nat) : Int)) := fun z => hgt (decide_eq_true z)
                  have hne : rk.idxOf f ≠ rk.idxOf g := fun z => hfg (idx_inj hm1.2 hm2.2 z)
                  refine ⟨l2, 0, _, rfl, s04, s04 _ _ hl2, ?_⟩
                  rw [gtB_novia_prec hv hfg, decide_eq_true (show rk.idxOf f < rk.idxOf g by omega), Bool.true_and]
                  rfl
            · rintro σ' H5 ⟨lr, c, y9, rfl, s05, hlr, hg⟩
              refine ⟨_, rfl, lr, rfl, ⟨_, SqL.of hlr⟩, fun D5 hD5 => ?_⟩
              have hdl : (ks2.drop c).length = (qs.drop c).length := by rw [List.length_drop, List.length_drop, hqs]
              refine lcS (walk_list (K := K) (a := lr) (xs := (ks2.drop c).map fun k => V.int ((k : Nat) : Int))) (fun i y _ => y = .int (((ks2.drop c).getD i 0 : Nat) : Int)) (fun i => ((qs.drop c)[i]?.map fun u => !gtB (ixR rk) (.node f ps) u).getD false) (by rw [List.length_map, List.length_drop]; omega) hD5 (fun _ e => SqL.of (e _ _ hlr)) (fun _ _ _ _ _ h => h) ?_ ?_
              · rintro i0 z H' H'' R R0 hi s6 ⟨rfl, hz⟩ k1' k2'
                have hz2 := hz
                rw [List.map_drop, List.getElem?_drop] at hz2
                obtain ⟨mm, qq, hk, rfl, hq, htm, hlt⟩ := kidAt lc.o2 hL2 hz2
                have hq : (qs.drop c)[i0]? = some qq := by rw [List.getElem?_drop]; exact hq
                have egd : (ks2.drop c).getD i0 0 = mm := by rw [List.getD_eq_getElem?_getD, List.getElem?_drop, hk]; rfl
                have ek : (((qs.drop c)[i0]?.map fun u => !gtB (ixR rk) (.node f ps) u).getD false) = !gtB (ixR rk) (.node f ps) qq := by rw [hq]; rfl
                refine ⟨rfl, _, rfl, _, rfl, _, rfl, len2 _ _, fun b hb => ⟨tb, _, rfl, .inr ⟨kvs, [.inl ((i : Nat) : Int), .inl ((mm : Nat) : Int)], b, .inl ((same_new hb) _ _ (s6 _ _ (s05 _ _ lc.t))), rfl, upd_same, (lc.tab i mm _ qq (by rw [tmAt_zip lc.l1]; exact e1) htm (.inr ⟨rfl, hlt⟩)).symm⟩, gtB (ixR rk) (.node f ps) qq, rfl, ?_⟩⟩
                cases hg : gtB (ixR rk) (.node f ps) qq with
                | true => exact iteF (k2' _ (ek.trans (by rw [hg]; rfl)) (same_new hb))
                | false => exact iteT ⟨_, rfl, k1' _ _ (ek.trans (by rw [hg]; rfl)) (same_new hb) (by rw [egd])⟩
              · intro H6 ys6 s6 e6 r6
                have ey := r6.eq (f := fun i => V.int (((ks2.drop c).getD i 0 : Nat) : Int))
                rw [List.length_map, hdl] at ey
                have ey2 : ys6 = (((List.range (qs.drop c).length).filter fun i => ((qs.drop c)[i]?.map fun u => !gtB (ixR rk) (.node f ps) u).getD false).map fun i => (((ks2.drop c).getD i 0 : Nat) : Int)).map V.int := by
                  rw [ey, List.map_map]
                  rfl
                rw [ey2] at e6
                have hall := flt_any (fun u => !gtB (ixR rk) (.node f ps) u) (qs.drop c)
                refine ⟨Nat.zero_le _, fun p6 hp6 => ⟨.list ((((List.range (qs.drop c).length).filter fun i => ((qs.drop c)[i]?.map fun u => !gtB (ixR rk) (.node f ps) u).getD false).map fun i => (((ks2.drop c).getD i 0 : Nat) : Int)).map PyData.int), .list [], .lst (SqL.of ((same_new hp6) _ _ e6)) (dpAll_ints _), .lst (SqL.of upd_same) .nil, shaped_ints _, shaped_nil, ?_⟩⟩
                have q1 := q _ (s05.trans (s6.trans (same_new (o := .lst []) hp6)))
                rw [hg, List.all_eq_not_any_not] at q1
                rw [eqv_nil, List.isEmpty_map, List.isEmpty_map, hall]
                exact q1
end
end Rk

/-! the law's path order, what serves -/
namespace Rk
open PySem PySem.Spec PyProof.Rows L2
section
variable {P : Program} {w : World} {K : PySem.W.Frag} {mg : Str → Option Value} {base : Heap}
def spLPM (K : PySem.W.Frag) : Sp := fun vs H Q _ => ∃ x y z B rk t1 t2, vs = [x, y, z] ∧ RkF H x rk ∧ GoodBook B ∧ (∀ s ∈ B, s.1 ∈ rk) ∧ TmAt K H y t1 ∧ TmAt K H z t2 ∧ okT B t1 ∧ okT B t2 ∧ t1.sz ≤ 7 ∧ t2.sz ≤ 7 ∧
  ∀ H', Same H H' → Q (.bl (gtB (ixR rk) t1 t2)) H'
theorem ok_lpm {f : Addr} {fd : FuncData} {k : Nat} (F : Fun K "_law_path_more" "_law_path_more" sLPM f fd) (T : Txt mg) (C1 : Def P w K mg base k "_law_nodes" pLNd (spLNd K)) (C2 : Def P w K mg base k "_law_path_case" pLCa (spLCa K)) : FnOk P w K mg base CX0 (k + 1) f fd pLPM (spLPM K) := by
  refine F.ok scLPM (fun vs H Q E h => ?_) (fun cdv A outer s H vs Q E hr h => ?_)
  · obtain ⟨x, y, z, B, rk, t1, t2, rfl, _⟩ := h
    rfl
  · obtain ⟨x, y, z, B, rk, t1, t2, rfl, hsc, gb, hin, hy, hz, ho1, ho2, hz1, hz2, q⟩ := h
    have hu := hu_of hr
    refine ⟨_, pss_cons (ps_par3 (i := 3) (j := 4) (l := 5) rfl scLPM.nd rfl rfl rfl (by decide) (by decide) (by decide) rfl rfl rfl (pa_cons (pe_call C1.G hr (by rfl) C1.g C1.kp C1.b .nil pass0 (pa_cons (pv 1) pa_nil)) (pa_cons (pe_call C1.G hr (by rfl) C1.g C1.kp C1.b .nil pass0 (pa_cons (pv 2) pa_nil)) (pa_cons pe_dnewT pa_nil))) (by rfl))
      (pss_cons (ps_for PassesOwn.never rfl (pi_range3 (by rfl) T.range (pa_cons (pe_op op_sub (pe_callB call_len_seq (by rfl) T.len (by decide +kernel) (pa_cons (pe_ix ix_tup (pv 3) pe_int (fun _ _ => rfl)) pa_nil)) pe_int) (pa_cons (pe_un un_neg pe_int) (pa_cons (pe_un un_neg pe_int) pa_nil)))) (pg_name (i := 6) scLPM.nd rfl (Or.inl rfl))
        (pss_one (ps_for PassesOwn.never rfl (pi_range3 (by rfl) T.range (pa_cons (pe_op op_sub (pe_callB call_len_seq (by rfl) T.len (by decide +kernel) (pa_cons (pe_ix ix_tup (pv 4) pe_int (fun _ _ => rfl)) pa_nil)) pe_int) (pa_cons (pe_un un_neg pe_int) (pa_cons (pe_un un_neg pe_int) pa_nil)))) (pg_name (i := 7) scLPM.nd rfl (Or.inl rfl))
          (pss_one (ps_dput hu (pv 5) (pe_tup (pa_cons (pv 6) (pa_cons (pv 7) pa_nil))) (pe_call C2.G hr (by rfl) C2.g C2.kp C2.b .nil pass0 (pa_cons (pv 0) (pa_cons (pv 3) (pa_cons (pv 4) (pa_cons (pv 5) (pa_cons (pv 6) (pa_cons (pv 7) pa_nil))))))) (by rfl))))))
      (pss_one (ps_ret (pe_dget hu (pv 5) (pe_tup (pa_cons pe_int (pa_cons pe_int pa_nil))) (fun _ _ => rfl))))), ?_⟩
    have hBg : ∀ s ∈ B, GoodName s.1 := fun s hs => (gb.signs s hs).1
    refine ⟨_, rfl, _, t1, rfl, hy, hz1, fun v1 T1 K1 H2 s2 n1 o1 a1 l1 z1 sub1 => ⟨_, rfl, _, t2, rfl, hz.mono (tk_same s2), hz2, fun v2 T2 K2 H3 s3 n2 o2 a2 l2 z2 sub2 => fun tb htb => ⟨_, _, _, rfl, ?_⟩⟩⟩
    have n1' := n1.same s3
    have n1'' := n1'
    have n2'' := n2
    obtain ⟨A1, N1, C1', us1, kv1, rfl, hA1, hN1, al1, _, _⟩ := n1''
    obtain ⟨A2, N2, C2', us2, kv2, rfl, hA2, hN2, al2, _, _⟩ := n2''
    have hl1 := al1.len
    have hl2 := al2.len
    have nb := asc_nd gb
    have s03 := s2.trans s3
    have tz1 := tmAt_zip l1
    have tz2 := tmAt_zip l2
    have mem1 : ∀ (k : Nat) s, T1[k]? = some s → Sub t1 s := fun k s e => sub1 s (List.mem_of_getElem? e)
    have mem2 : ∀ (k : Nat) s, T2[k]? = some s → Sub t2 s := fun k s e => sub2 s (List.mem_of_getElem? e)
    have nm1 := nm_of (rk := rk) (L := T1.zip K1) nb hin fun k s e => (mem1 k s (by rw [← tz1]; exact e)).ok ho1
    have nm2 := nm_of (rk := rk) (L := T2.zip K2) nb hin fun k s e => (mem2 k s (by rw [← tz2]; exact e)).ok ho2
    have inr : ∀ f ps, okT B (.node f ps) → f ∈ rk := fun f ps h => by
      rw [okT] at h
      exact hin _ h.1
    have lcOf : ∀ (H' : Hp) (kvs : List (List Key × V)) (i j : Nat), Same H3 H' → H' tb = some (.dT kvs) → TabI (ixR rk) kvs (T1.zip K1) (T2.zip K2) i j → LcA K H' x rk tb (.ref A1) (.ref A2) kvs (fun x => ((B.find? fun s => decide (s.1 = x)).map (·.2)).getD 0) T1 K1 T2 K2 i j := fun H' kvs i j sm ht tab =>
      ⟨hsc.same (s03.trans sm), n1'.same sm, l1, o1, n2.same sm, l2, o2, ht, fun k f ps e => ⟨(nm1 k f ps (by rw [tz1]; exact e)).1, inr f ps ((mem1 k _ e).ok ho1)⟩, fun k f ps e => ⟨(nm2 k f ps (by rw [tz2]; exact e)).1, inr f ps ((mem2 k _ e).ok ho2)⟩,
        fun k s e => ⟨Nat.le_trans (mem1 k s e).sz hz1, shaped_tm hBg ((mem1 k s e).ok ho1) (Nat.le_trans (mem1 k s e).sz hz1)⟩, fun k s e => ⟨Nat.le_trans (mem2 k s e).sz hz2, shaped_tm hBg ((mem2 k s e).ok ho2) (Nat.le_trans (mem2 k s e).sz hz2)⟩,
        fun k m s1 s2 e1 e2 hc => tab k m s1 s2 e1 e2 (by omega)⟩
    have sT : Same H3 (upd H3 tb (.dT [])) := same_new htb
    have lt1 : ∀ {k : Nat} {s : Tm}, tmAt (T1.zip K1) k = some s → k < T1.length := fun {k s} e => by
      rw [tz1] at e
      exact (List.getElem?_eq_some_iff.mp e).1
    have lt2 : ∀ {k : Nat} {s : Tm}, tmAt (T2.zip K2) k = some s → k < T2.length := fun {k s} e => by
      rw [tz2] at e
      exact (List.getElem?_eq_some_iff.mp e).1
    refine ⟨_, rfl, A1, _, 0, _, rfl, rfl, (tk_same sT).t hA1, atI_nat (j := 0) rfl, N1, us1, rfl, .inl (SqL.of (sT _ _ hN1)), _, _, rfl, rfl, _, rfl, _, rfl, _, _, _, T1.length, rfl, ?_, ?_⟩
    · have := RgC.neg (i := ((us1.length : Nat) : Int) - 1) (j := -1) (by omega) (by omega) (by omega) (by omega)
      rw [show (((us1.length : Nat) : Int) - 1 - (-1)).toNat = T1.length by omega] at this
      exact this
    refine for_it walk_rangeC (fun p σ H' => Same H3 H' ∧ (∃ kvs, H' tb = some (.dT kvs) ∧ TabI (ixR rk) kvs (T1.zip K1) (T2.zip K2) ((T1.length : Int) - 1 - p) (T2.length : Int) ∧ kvs.length ≤ p * 7) ∧ ∃ y6 y7, σ = [some x, some y, some z, some (.ref A1), some (.ref A2), some (.ref tb), y6, y7]) ⟨sT, ⟨[], upd_same, fun k m s1 s2 e1 e2 hc => ?_, Nat.zero_le _⟩, none, none, rfl⟩ (fun _ _ _ _ _ => True.intro) ?_ ?_
    · have := lt1 e1
      have := lt2 e2
      omega
    · rintro p xv σ H4 H5 hp ⟨sm, ⟨kvs, ht, tab, kl⟩, y6, y7, rfl⟩ ⟨rfl, hxv⟩
      have hxv : xv = V.int ((T1.length - 1 - p : Nat) : Int) := hxv.trans (congrArg V.int (show (((us1.length : Nat) : Int) - 1 + (p : Nat) * (-1)) = ((T1.length - 1 - p : Nat) : Int) by omega))
      subst hxv
      have hp7 : p < 7 := by omega
      refine ⟨_, rfl, A2, _, 0, _, rfl, rfl, (tk_same sm).t hA2, atI_nat (j := 0) rfl, N2, us2, rfl, .inl (SqL.of (sm _ _ hN2)), _, _, rfl, rfl, _, rfl, _, rfl, _, _, _, T2.length, rfl, ?_, ?_⟩
      · have := RgC.neg (i := ((us2.length : Nat) : Int) - 1) (j := -1) (by omega) (by omega) (by omega) (by omega)
        rw [show (((us2.length : Nat) : Int) - 1 - (-1)).toNat = T2.length by omega] at this
        exact this
      refine for_it walk_rangeC (fun q σ H' => Same H3 H' ∧ (∃ kvs, H' tb = some (.dT kvs) ∧ TabI (ixR rk) kvs (T1.zip K1) (T2.zip K2) ((T1.length - 1 - p : Nat) : Int) ((T2.length : Int) - 1 - q) ∧ kvs.length ≤ p * 7 + q) ∧ ∃ y7, σ = [some x, some y, some z, some (.ref A1), some (.ref A2), some (.ref tb), some (.int ((T1.length - 1 - p : Nat) : Int)), y7]) ⟨sm, ⟨kvs, ht, fun k m s1 s2 e1 e2 hc => tab k m s1 s2 e1 e2 ?_, by omega⟩, y7, rfl⟩ (fun _ _ _ _ _ => True.intro) ?_ ?_
      · have := lt1 e1
        have := lt2 e2
        omega
      · rintro q' xv σ H6 H7 hq ⟨sm, ⟨kvs, ht, tab, kl⟩, y7, rfl⟩ ⟨rfl, hxv⟩
        have hxv : xv = V.int ((T2.length - 1 - q' : Nat) : Int) := hxv.trans (congrArg V.int (show (((us2.length : Nat) : Int) - 1 + (q' : Nat) * (-1)) = ((T2.length - 1 - q' : Nat) : Int) by omega))
        subst hxv
        have hq7 : q' < 7 := by omega
        have g1 : T1[T1.length - 1 - p]? = some (T1[T1.length - 1 - p]'(by omega)) := List.getElem?_eq_getElem _
        have g2 : T2[T2.length - 1 - q']? = some (T2[T2.length - 1 - q']'(by omega)) := List.getElem?_eq_getElem _
        have tab' : TabI (ixR rk) kvs (T1.zip K1) (T2.zip K2) ((T1.length - 1 - p : Nat) : Int) ((T2.length - 1 - q' : Nat) : Int) := fun k m s1 s2 e1 e2 hc => tab k m s1 s2 e1 e2 (by omega)
        have tabN := tab'.put (by rw [tz1]; exact g1) (by rw [tz2]; exact g2)
        refine ⟨_, rfl, _, rfl, _, rfl, _, rfl, _, rfl, _, rfl, x, rk, tb, _, _, kvs, _, T1, K1, T2, K2, _, _, _, _, rfl, lcOf _ kvs _ _ sm ht tab', g1, g2, fun H8 s8 => ⟨_, rfl, _, rfl, _, rfl, len2 _ _, fun b hb => ⟨tb, _, rfl, .inr ⟨kvs, [.inl _, .inl _], b, (same_new hb) _ _ (s8 _ _ ht), rfl, upd_same, small_line (by omega), rfl⟩, ?_⟩⟩⟩
        refine ⟨same_mut (sm.trans (s8.trans (same_new hb))) htb, ⟨_, upd_same, fun k m s1 s2 e1 e2 hc => tabN k m s1 s2 e1 e2 (by omega), ?_⟩, _, rfl⟩
        have := putT_len kvs [.inl ((T1.length - 1 - p : Nat) : Int), .inl ((T2.length - 1 - q' : Nat) : Int)] (.bl (gtB (ixR rk) (T1[T1.length - 1 - p]'(by omega)) (T2[T2.length - 1 - q']'(by omega))))
        omega
      · rintro σ H6 ⟨sm, ⟨kvs, ht, tab, kl⟩, y7, rfl⟩
        refine ⟨sm, ⟨kvs, ht, fun k m s1 s2 e1 e2 hc => tab k m s1 s2 e1 e2 ?_, by omega⟩, _, _, rfl⟩
        have := lt1 e1
        have := lt2 e2
        omega
    · rintro σ H4 ⟨sm, ⟨kvs, ht, tab, kl⟩, y6, y7, rfl⟩
      refine ⟨_, rfl, len2 _ _, fun b hb => ⟨tb, _, rfl, .inr ⟨kvs, [.inl ((0 : Nat) : Int), .inl ((0 : Nat) : Int)], b, .inl ((same_new hb) _ _ ht), rfl, upd_same, (tab 0 0 t1 t2 (by rw [tz1]; exact a1) (by rw [tz2]; exact a2) (by omega)).symm⟩, q _ (s03.trans (sm.trans (same_new hb)))⟩⟩
/-! ### _law_serves -/
def spLSv (K : PySem.W.Frag) : Sp := fun vs H Q _ => ∃ x y B rk L, vs = [x, y] ∧ RkF H x rk ∧ GoodBook B ∧ (∀ s ∈ B, s.1 ∈ rk) ∧ LotAt K H y L ∧ (∀ r ∈ L, RlG B r) ∧ L.length ≤ 8 ∧ ∀ H', Same H H' → Q (.bl (L.all fun r => gtB (ixR rk) r.1 r.2)) H'
theorem rl_rel {K : PySem.W.Frag} {H : Hp} {L : List Rl} : ∀ {is : List Nat} {ys : List V}, RelL (fun i y H => ∃ r, L[i]? = some r ∧ RlAt K H y r) H is ys → ∃ L', Al (RlAt K H) ys L' ∧ (∀ r ∈ L', r ∈ L) ∧ L'.length = is.length
  | _, _, .nil => ⟨[], .nil, fun t h => (by cases h), rfl⟩
  | _, _, .cons ⟨t, h1, h2⟩ r => by
    obtain ⟨Tl, q1, q2, q3⟩ := rl_rel r
    refine ⟨t :: Tl, .cons h2 q1, fun s hs => ?_, by rw [List.length_cons, List.length_cons, q3]⟩
    rcases List.mem_cons.mp hs with e | hs
    · rw [e]; exact List.mem_of_getElem? h1
    · exact q2 s hs
theorem ok_lsv {f : Addr} {fd : FuncData} {k : Nat} (F : Fun K "_law_serves" "_law_serves" sLSv f fd) (T : Txt mg) (C : Def P w K mg base k "_law_path_more" pLPM (spLPM K)) : FnOk P w K mg base CX0 (k + 1) f fd pLSv (spLSv K) := by
  refine F.ok scLSv (fun vs H Q E h => ?_) (fun cdv A outer s H vs Q E hr h => ?_)
  · obtain ⟨x, y, B, rk, L, rfl, _⟩ := h
    rfl
  · obtain ⟨x, y, B, rk, L, rfl, hsc, gb, hin, ⟨a, xs, rfl, h1, h2, h5⟩, hL, hLl, q⟩ := h
    have hu64 := hr.units
    refine ⟨_, pss_one (ps_ret (pe_cmpR (op_eqD hu64) (pe_lc (own := [("_law_rule", 2)]) (g := gName 2) (tt := tNot (tB (tCall (spLPM K) [] E0 (tCons (tVar 0) (tCons (tOp (rIxT K) (tVar 2) (tC (.int 0))) (tCons (tOp (rIxT K) (tVar 2) (tC (.int 1))) tNil)))))) rfl scLSv.nd (pi_tup (pv 1)) (blkOk_by (N := nLSv) (sc := defScope sLSv) (by decide +kernel))
        (fun _ _ _ _ _ => pg_name (i := 2) scLSv.nd rfl (Or.inl rfl))
        (fun _ _ _ _ _ => pts_one (pt_not (pt_val (pe_call C.G hr (by rfl) C.g C.kp C.b .nil pass0 (pa_cons (pv 0) (pa_cons (pe_ix ix_tup (pv 2) pe_int (fun _ _ => rfl)) (pa_cons (pe_ix ix_tup (pv 2) pe_int (fun _ _ => rfl)) pa_nil)))) (by intro _; rfl))))
        (fun _ _ _ _ _ => pv 2)) (pe_lst pa_nil) (nomark _))), ?_⟩
    refine ⟨_, rfl, a, rfl, ⟨_, h1⟩, fun D hD => ?_⟩
    refine lcS (walk_tup (K := K) (a := a) (xs := xs)) (fun i y H => ∃ r, L[i]? = some r ∧ RlAt K H y r) (fun i => (L[i]?.map fun r => !gtB (ixR rk) r.1 r.2).getD false) (by omega) hD (fun _ e => (tk_same e).t h1) (fun i y H H' tk ⟨r, q1, q2⟩ => ⟨r, q1, q2.mono tk⟩) ?_ ?_
    · rintro i z H' H'' R R0 hi s3 ⟨rfl, hz⟩ k1 k2
      obtain ⟨r, e3, e4⟩ := h5 i _ hz
      have e4' := e4
      obtain ⟨b, tl, tr, rfl, e6, e7, e8⟩ := e4'
      have hm := List.mem_of_getElem? e3
      have ts := tk_same s3
      have ek : ((L[i]?.map fun r => !gtB (ixR rk) r.1 r.2).getD false) = !gtB (ixR rk) r.1 r.2 := by rw [e3]; rfl
      refine ⟨rfl, _, rfl, _, rfl, b, _, 0, _, rfl, rfl, ts.t e6, atI_nat (j := 0) rfl, _, rfl, b, _, 1, _, rfl, rfl, ts.t e6, atI_nat (j := 1) rfl, x, tl, tr, B, rk, r.1, r.2, rfl, hsc.same s3, gb, hin, e7.mono ts, e8.mono ts, (hL r hm).1.ok, (hL r hm).2.ok, (hL r hm).1.sz, (hL r hm).2.sz, fun H5 s5 => ⟨gtB (ixR rk) r.1 r.2, rfl, ?_⟩⟩
      cases hg : gtB (ixR rk) r.1 r.2 with
      | true => exact iteF (k2 _ (ek.trans (by rw [hg]; rfl)) s5)
      | false => exact iteT ⟨_, rfl, k1 _ _ (ek.trans (by rw [hg]; rfl)) s5 ⟨r, e3, e4.mono (tk_same (s3.trans s5))⟩⟩
    · intro H3 ys s3 e r
      obtain ⟨L', al, hsub, hlen⟩ := rl_rel r
      have sp : ∀ {p : Addr}, H3 p = none → Same H3 (upd H3 p (.lst [])) := fun h => same_new h
      refine ⟨Nat.zero_le _, fun p hp => ⟨.list (L'.map rlD), .list [], .lst (SqL.of (sp hp _ _ e)) (dpAll_rls (al.mono fun u t h => h.mono (tk_new hp))), .lst (SqL.of upd_same) .nil, shaped_rls gb (fun r hr => hL r (hsub r hr)), shaped_nil, ?_⟩⟩
      have q1 := q _ (s3.trans (sp hp))
      rw [eqv_nil, List.isEmpty_map]
      have hfa := flt_any (fun r : Rl => !gtB (ixR rk) r.1 r.2) L
      rw [h2] at hlen
      have : L'.isEmpty = ((List.range L.length).filter fun i => (L[i]?.map fun r => !gtB (ixR rk) r.1 r.2).getD false).isEmpty := by
        rw [Bool.eq_iff_iff, List.isEmpty_iff, List.isEmpty_iff, ← List.length_eq_zero_iff, ← List.length_eq_zero_iff, hlen]
      rw [this, hfa]
      rw [List.all_eq_not_any_not] at q1
      exact q1
end
end Rk

/-! the law's ranks -/
namespace Rk
open PySem PySem.Spec PyProof.Rows L2

/-- a tuple whose object is known -/
def FzT (H : Hp) (p : Addr) (xs : List V) : Prop := ∃ o, H p = some (.frz o (.tup xs)) ∧ PlT o
theorem FzT.t {K : PySem.W.Frag} {H : Hp} {p : Addr} {xs : List V} (h : FzT H p xs) : SqT K H p xs := by
  obtain ⟨o, h1, _⟩ := h
  exact .inl (.inr ⟨o, h1⟩)
theorem FzT.same {H H' : Hp} {p : Addr} {xs : List V} (h : FzT H p xs) (s : Same H H') : FzT H' p xs := by
  obtain ⟨o, h1, h2⟩ := h
  exact ⟨o, s _ _ h1, h2⟩
theorem slA_of {K : PySem.W.Frag} {H : Hp} {a : Addr} {xs : List V} {lo hi : Option Int} {Q : VK} (h : SqT K H a xs) (k : ∀ p H', Same H H' → SqT K H' p (cutV xs lo hi) → Q (.ref p) H') : rSlA K (.ref a) lo hi H Q := by
  refine ⟨a, xs, rfl, h, fun hw => k a H (Same.refl H) ?_, fun _ p hp => k p _ (same_new hp) (SqT.of upd_same)⟩
  have : cutV xs lo hi = xs := by
    unfold cutV
    rw [hw.1, hw.2, List.drop_zero, Nat.sub_zero, List.take_length]
  rw [this]
  exact h
theorem catF_of {K : PySem.W.Frag} {H : Hp} {a b : Addr} {xs ys : List V} {Q : VK} (h1 : SqT K H a xs) (h2 : SqT K H b ys) (hl : xs.length + ys.length ≤ sizeLine) (f1 : xs = [] → FzT H b ys) (f2 : ys = [] → FzT H a xs)
    (k : ∀ p H', Same H H' → FzT H' p (xs ++ ys) → Q (.ref p) H') : rCatF K (.ref a) (.ref b) H Q := by
  refine ⟨a, b, xs, ys, rfl, rfl, h1, h2, hl, fun e => k b H (Same.refl H) ?_, fun _ e => k a H (Same.refl H) ?_, fun _ _ p o hp ho => k p _ (same_new hp) ⟨o, upd_same, ho⟩⟩
  · have := f1 e
    rw [e]
    exact this
  · rw [e, List.append_nil]
    exact f2 e
theorem cutTo (xs : List V) (k : Nat) : cutV xs none (some ((k : Nat) : Int)) = xs.take k := by
  unfold cutV
  rw [HT.sIx_none, HT.sIx_nat, List.drop_zero, Nat.sub_zero]
  by_cases h : k ≤ xs.length
  · rw [Nat.min_eq_left h]
  · rw [Nat.min_eq_right (by omega), List.take_of_length_le (Nat.le_refl _), List.take_of_length_le (by omega)]
theorem rel_ranks {H : Hp} {g : Nat → List Str} : ∀ {is : List Nat} {ys : List V}, RelL (fun i y H => RkF H y (g i)) H is ys → Al (RkF H) ys (is.map g)
  | _, _, .nil => .nil
  | _, _, .cons h t => .cons h (rel_ranks t)
theorem fzr {H : Hp} {p : Addr} {xs : List V} {rk : List Str} (h : FzT H p xs) (e : xs = rk.map V.str) : RkF H (.ref p) rk := by
  obtain ⟨o, h1, h2⟩ := h
  exact ⟨p, o, rfl, by rw [h1, e], h2⟩
theorem len_insR (n : Str) (m : Nat) : ∀ R : List (List Str), (∀ r ∈ R, r.length = m) → (insR n R).length = R.length * (m + 1) ∧ ∀ r ∈ insR n R, r.length = m + 1
  | [], _ => ⟨by show 0 = 0 * (m + 1); omega, fun r h => (by cases h)⟩
  | o :: R, h => by
    have ho := h o List.mem_cons_self
    obtain ⟨h1, h2⟩ := len_insR n m R fun r hr => h r (List.mem_cons_of_mem _ hr)
    unfold insR at h1 h2 ⊢
    rw [List.flatMap_cons]
    refine ⟨?_, fun r hr => ?_⟩
    · rw [List.length_append, List.length_map, List.length_range, h1, List.length_cons, ho, Nat.succ_mul]
      omega
    · rcases List.mem_append.mp hr with hr | hr
      · obtain ⟨k, hk, e⟩ := List.mem_map.mp hr
        have hk := List.mem_range.mp hk
        rw [← e, List.length_append, List.length_cons, List.length_take, List.length_drop]
        omega
      · exact h2 r hr
section
variable {P : Program} {w : World} {K : PySem.W.Frag} {mg : Str → Option Value} {base : Heap}
def spLRk (K : PySem.W.Frag) : Sp := fun vs H Q _ => ∃ x B, vs = [x] ∧ BookAt K H x B ∧ GoodBook B ∧ ∀ F us H', Same H H' → H' F = some (.lst us) → Al (RkF H') us (lawR (B.map (·.1)) [[]]) → us.length ≤ 120 → Q (.ref F) H'
theorem ok_lrk {f : Addr} {fd : FuncData} {k : Nat} (F : Fun K "_law_ranks" "_law_ranks" sLRk f fd) (T : Txt mg) : FnOk P w K mg base CX0 (k + 1) f fd pLRk (spLRk K) := by
  refine F.ok scLRk (fun vs H Q E h => ?_) (fun cdv A outer s H vs Q E hr h => ?_)
  · obtain ⟨x, B, rfl, _⟩ := h
    rfl
  · obtain ⟨x, B, rfl, hB, gb, q⟩ := h
    obtain ⟨a, xs, rfl, h1, h2, h3⟩ := id hB
    have fewB := gb.few
    refine ⟨_, pss_cons (ps_set (i := 1) scLRk.nd rfl (Or.inl rfl) (pe_lst (pa_cons (pe_tupF pa_nil) pa_nil)))
      (pss_cons (ps_for PassesOwn.never rfl (pi_tup (pv 0)) (pg_tup rfl (pgs_cons (pg_name (i := 2) scLRk.nd rfl (Or.inr rfl)) (pgs_cons (pg_name (i := 3) scLRk.nd rfl (Or.inl rfl)) pgs_nil)))
        (pss_cons (ps_set (i := 4) scLRk.nd rfl (Or.inl rfl) (pe_lst pa_nil))
        (pss_cons (ps_for PassesOwn.never rfl (pi_list (pv 1)) (pg_name (i := 5) scLRk.nd rfl (Or.inr rfl))
          (pss_one (ps_set (i := 4) scLRk.nd rfl (Or.inl rfl) (pe_op op_cat (pv 4)
            (pe_lc (own := [("_law_k", 6)]) (g := gName 6) (tt := tYes) (te := tOp (rCatF K) (tOp (rCatF K) (tSl (rSlA K) (tVar 5) tNoPart (tPart (tVar 6))) (tTupF (tCons (tVar 2) tNil))) (tSl (rSlA K) (tVar 5) (tPart (tVar 6)) tNoPart)) rfl scLRk.nd (pi_range1 (by rfl) T.range (pa_cons (pe_op op_add (pe_callB call_len_seq (by rfl) T.len (by decide +kernel) (pa_cons (pv 5) pa_nil)) pe_int) pa_nil)) (blkOk_by (N := nLRk) (sc := defScope sLRk) (by decide +kernel))
              (fun _ _ _ _ _ => pg_name (i := 6) scLRk.nd rfl (Or.inl rfl)) (fun _ _ _ _ _ => pts_nil)
              (fun _ _ _ _ _ => pe_op op_catF (pe_op op_catF (pe_slice sl_tupA (pv 5) po_none (po_some (pv 6))) (pe_tupF (pa_cons (pv 2) pa_nil))) (pe_slice sl_tupA (pv 5) (po_some (pv 6)) po_none)))))))
        (pss_one (ps_set (i := 1) scLRk.nd rfl (Or.inl rfl) (pv 4))))))
      (pss_one (ps_ret (pv 1)))), ?_⟩
    refine ⟨Nat.zero_le _, fun p0 o0 hp0 ho0 => ⟨len1 _, fun F0 hF0 => ?_⟩⟩
    have s0 := same_new (o := .frz o0 (.tup [])) hp0
    have s1 := same_new (o := .lst [.ref p0]) hF0
    refine ⟨_, rfl, a, rfl, ⟨_, (tk_same (s0.trans s1)).t h1⟩, ?_⟩
    refine for_it (walk_tup (K := K) (a := a) (xs := xs)) (fun i σ H' => Same H H' ∧ (∃ Fo us R, H' Fo = some (.lst us) ∧ Al (RkF H') us R ∧ lawR ((B.map (·.1)).drop i) R = lawR (B.map (·.1)) [[]] ∧ (∀ r ∈ R, r.length = i) ∧ R.length ≤ fact i ∧ ∃ y2 y3 y4 y5, σ = [some (.ref a), some (.ref Fo), y2, y3, y4, y5, none]))
      ⟨s0.trans s1, F0, _, [[]], upd_same, .cons ⟨p0, o0, rfl, s1 _ _ upd_same, ho0⟩ .nil, rfl, fun r hr => by rw [List.mem_singleton.mp hr]; rfl, Nat.le_refl _, none, none, none, none, rfl⟩ (fun i σ H' _ h => (tk_same h.1).t h1) ?_ ?_
    · rintro i y σ H1 H1' hi ⟨sm, Fo, us, R, hFo, al, hlaw, hrl, hRl, y2, y3, y4, y5, rfl⟩ ⟨rfl, hy⟩
      obtain ⟨sg, e3, b, rfl, e4⟩ := h3 i _ hy
      have hi5 : i < 5 := by omega
      have eB : (B.map (·.1)).drop i = sg.1 :: (B.map (·.1)).drop (i + 1) := by
        have hlt : i < (B.map (·.1)).length := by rw [List.length_map, ← h2]; exact hi
        rw [List.drop_eq_getElem_cons hlt]
        congr 1
        rw [List.getElem_map]
        rw [List.getElem?_eq_getElem (by rw [← h2]; exact hi)] at e3
        rw [Option.some.inj e3]
      have fle : ∀ j, j ≤ 5 → fact j ≤ 120 := by
        intro j hj
        have : j = 0 ∨ j = 1 ∨ j = 2 ∨ j = 3 ∨ j = 4 ∨ j = 5 := by omega
        rcases this with e | e | e | e | e | e <;> subst e <;> decide
      obtain ⟨il1, il2⟩ := len_insR sg.1 i R hrl
      have hins : (insR sg.1 R).length ≤ fact (i + 1) := by
        rw [il1, fact, Nat.mul_comm]
        exact Nat.mul_le_mul_left _ hRl
      have hins' := fle (i + 1) (by omega)
      refine ⟨b, _, rfl, (tk_same sm).t e4, rfl, _, _, rfl, _, _, rfl, rfl, ?_⟩
      refine ⟨Nat.zero_le _, fun L0 hL0 => ?_⟩
      have sL := same_new (o := .lst []) hL0
      have usl := al.len
      refine ⟨_, rfl, Fo, rfl, ⟨_, SqL.of (sL _ _ hFo)⟩, ?_⟩
      refine for_it (walk_list (K := K) (a := Fo) (xs := us)) (fun j σ H' => Same H H' ∧ Same (upd H1' L0 (.lst [])) H' ∧ (∃ La vs, H' La = some (.lst vs) ∧ Al (RkF H') vs (insR sg.1 (R.take j)) ∧ ∃ y5, σ = [some (.ref a), some (.ref Fo), some (.str sg.1), some (.int ((sg.2 : Nat) : Int)), some (.ref La), y5, none]))
        ⟨sm.trans sL, Same.refl _, L0, [], upd_same, .nil, _, rfl⟩ (fun _ _ H' _ h => SqL.of (h.2.1 _ _ (sL _ _ hFo))) ?_ ?_
      · rintro j u σ H2 H2' hj ⟨s2, sl2, La, vs, hLa, alv, y5, rfl⟩ ⟨rfl, hu⟩
        obtain ⟨rk, hrk, hurk⟩ := al.get hu
        have hurk2 := hurk.same (sL.trans sl2)
        obtain ⟨ra, ro, rfl, hra, hro⟩ := hurk2
        have hraT : SqT K H2' ra (rk.map V.str) := .inl (.inr ⟨ro, hra⟩)
        have hrkl := hrl rk (List.mem_of_getElem? hrk)
        have hvl := alv.len
        have etk : insR sg.1 (R.take (j + 1)) = insR sg.1 (R.take j) ++ (List.range (rk.length + 1)).map fun k => rk.take k ++ sg.1 :: rk.drop k := by
          unfold insR
          rw [List.take_add_one, hrk, List.flatMap_append]
          simp
        have elen : (insR sg.1 (R.take (j + 1))).length ≤ 120 := by
          have h5 := (len_insR sg.1 i (R.take (j + 1)) fun r hr => hrl r (List.mem_of_mem_take hr)).1
          rw [h5, List.length_take]
          have : min (j + 1) R.length * (i + 1) ≤ R.length * (i + 1) := Nat.mul_le_mul_right _ (by omega)
          omega
        rw [etk, List.length_append, List.length_map, List.length_range] at elen
        refine ⟨_, rfl, _, rfl, ra, _, rfl, .inr hraT, _, _, rfl, rfl, _, rfl, by rw [List.length_map]; omega, by rw [List.length_map]; omega, fun D hD => ?_⟩
        rw [List.length_map, show (((rk.length : Nat) : Int) + 1).toNat = rk.length + 1 by omega]
        refine lcN walk_range (fun k y H => RkF H y (rk.take k ++ sg.1 :: rk.drop k)) (fun _ => true) (by omega) hD (fun _ _ => True.intro) (fun k y H H' sm h => h.same sm) (fun k y H xs ys hD ⟨p, o, g1, g2, g3⟩ => ⟨p, o, g1, by rw [upd_ne (fun e => by rw [e, hD] at g2; cases g2)]; exact g2, g3⟩) ?_ ?_
        · rintro k z H3 H3' R' R0' hk s3 ⟨rfl, hz⟩ k1 k2
          have hz : z = V.int ((k : Nat) : Int) := hz.trans (congrArg V.int (Int.zero_add _))
          subst hz
          have hra3 := (tk_same s3).t hraT
          refine ⟨rfl, _, rfl, _, rfl, _, rfl, slA_of hra3 fun p1 H4 s4 hp1 => ?_⟩
          rw [cutTo, ← List.map_take] at hp1
          refine ⟨_, rfl, len1 _, fun p2 o2 hp2 ho2 => ?_⟩
          have s5 := same_new (o := .frz o2 (.tup [.str sg.1])) hp2
          have f2 : FzT (upd H4 p2 (.frz o2 (.tup [.str sg.1]))) p2 [.str sg.1] := ⟨o2, upd_same, ho2⟩
          refine catF_of ((tk_same s5).t hp1) f2.t (small_line' (by rw [List.length_map, List.length_take]; show min k rk.length + 1 ≤ 1000000; omega)) (fun _ => f2) (fun e => (nomatch e)) fun p3 H6 s6 f3 => ?_
          refine ⟨_, rfl, _, rfl, _, rfl, ?_⟩
          dsimp only [tNoPart]
          refine slA_of ((tk_same (s4.trans (s5.trans s6))).t hra3) fun p4 H7 s7 hp4 => ?_
          rw [cutFrom, ← List.map_drop] at hp4
          refine catF_of ((tk_same s7).t f3.t) hp4 (small_line' (by rw [List.length_append, List.length_map, List.length_map, List.length_take, List.length_drop]; show min k rk.length + 1 + (rk.length - k) ≤ 1000000; omega)) (fun e => ?_) (fun _ => f3.same s7) fun p8 H8 s8 f8 => k1 _ _ rfl (s4.trans (s5.trans (s6.trans (s7.trans s8)))) (fzr f8 ?_)
          · simp at e
          · simp
        · intro H3 ys s3 e5 r5
          rw [range_all] at r5
          have ar := rel_ranks r5
          have hyl := ar.len
          rw [List.length_map, List.length_range] at hyl
          refine ⟨La, D, vs, ys, rfl, rfl, s3 _ _ hLa, e5, small_line' (by omega), fun p hp => ?_⟩
          have sp := same_new (o := .lst (vs ++ ys)) hp
          refine ⟨s2.trans (s3.trans sp), sl2.trans (s3.trans sp), p, vs ++ ys, upd_same, ?_, _, rfl⟩
          rw [etk]
          exact ((alv.mono fun u t h => h.same s3).app ar).mono fun u t h => h.same sp
      · rintro σ H2 ⟨s2, sl2, La, vs, hLa, alv, y5, rfl⟩
        rw [usl, List.take_length] at alv
        refine ⟨_, rfl, s2, La, vs, insR sg.1 R, hLa, alv, ?_, il2, hins, _, _, _, _, rfl⟩
        rw [← hlaw, eB]
        rfl
    · rintro σ H1 ⟨sm, Fo, us, R, hFo, al, hlaw, hrl, hRl, y2, y3, y4, y5, rfl⟩
      have e0 : (B.map (·.1)).drop xs.length = [] := List.drop_eq_nil_of_le (by rw [List.length_map, h2]; exact Nat.le_refl _)
      rw [e0] at hlaw
      have hlaw : R = lawR (B.map (·.1)) [[]] := hlaw
      have usl := al.len
      rw [hlaw] at al
      refine ⟨_, rfl, q Fo us H1 sm hFo al ?_⟩
      have hx5 : xs.length ≤ 5 := by omega
      have : fact xs.length ≤ 120 := by
        have : xs.length = 0 ∨ xs.length = 1 ∨ xs.length = 2 ∨ xs.length = 3 ∨ xs.length = 4 ∨ xs.length = 5 := by omega
        rcases this with e | e | e | e | e | e <;> rw [e] <;> decide
      omega
end
end Rk

/-! what is compared: data -/
namespace Rk
open PySem PySem.Spec PyProof.Rows L2

def rkD (rk : List Str) : PyData := .tuple (rk.map PyData.str)
def rksD (R : List (List Str)) : PyData := .tuple (R.map rkD)
def signD (s : Str × Nat) : PyData := .tuple [.str s.1, .int ((s.2 : Nat) : Int)]
def bookD (B : Bk) : PyData := .tuple (B.map signD)
def lotD (L : List Rl) : PyData := .tuple (L.map rlD)
section
variable {K : PySem.W.Frag} {H : Hp}
theorem dpAll_strs : ∀ rk : List Str, DpAll K H (rk.map V.str) (rk.map PyData.str)
  | [] => .nil
  | x :: rk => .cons (.str x) (dpAll_strs rk)
theorem rk_dp {v : V} {rk : List Str} (h : RkAt K H v rk) : Dp K H v (rkD rk) := by
  obtain ⟨a, rfl, h1⟩ := h
  exact .tup h1 (dpAll_strs rk)
theorem dpAll_al {α : Type} {R : V → α → Prop} {g : α → PyData} (hg : ∀ u t, R u t → Dp K H u (g t)) : ∀ {us : List V} {S : List α}, Al R us S → DpAll K H us (S.map g)
  | _, _, .nil => .nil
  | _, _, .cons a t => .cons (hg _ _ a) (dpAll_al hg t)
theorem al_rkall {xs : List V} {R : List (List Str)} (h : RkAll K H xs R) : Al (RkAt K H) xs R := Al.of h.1 h.2
theorem rks_dp {v : V} {R : List (List Str)} (h : RksT K H v R) : Dp K H v (rksD R) := by
  obtain ⟨a, xs, rfl, h1, h2⟩ := h
  exact .tup h1 (dpAll_al (fun _ _ h => rk_dp h) (al_rkall h2))
theorem rks_dpA {a : Addr} {xs : List V} {R : List (List Str)} (h1 : SqT K H a xs) (h2 : Al (RkAt K H) xs R) : Dp K H (.ref a) (rksD R) := .tup h1 (dpAll_al (fun _ _ h => rk_dp h) h2)
theorem book_dp {v : V} {B : Bk} (h : BookAt K H v B) : Dp K H v (bookD B) := by
  obtain ⟨a, xs, rfl, h1, h2, h3⟩ := h
  refine .tup h1 (dpAll_al (R := SignAt K H) (g := signD) (fun u t ⟨b, e, q⟩ => ?_) (Al.of h2 fun i u t g1 g2 => ?_))
  · rw [e]
    exact .tup q (.cons (.str _) (.cons (.int _) .nil))
  · obtain ⟨s, q1, q2⟩ := h3 i u g1
    rw [Option.some.inj (g2.symm.trans q1)]
    exact q2
theorem lot_dp {v : V} {L : List Rl} (h : LotAt K H v L) : Dp K H v (lotD L) := by
  obtain ⟨a, xs, rfl, h1, h2, h3⟩ := h
  refine .tup h1 (dpAll_al (R := RlAt K H) (g := rlD) (fun u t h => rl_dp h) (Al.of h2 fun i u t g1 g2 => ?_))
  obtain ⟨s, q1, q2⟩ := h3 i u g1
  rw [Option.some.inj (g2.symm.trans q1)]
  exact q2
end
theorem noLsts_map {α : Type} {g : α → PyData} (hg : ∀ x, noLst (g x) = true) : ∀ l : List α, noLsts (l.map g) = true
  | [] => rfl
  | x :: l => by rw [List.map_cons, noLsts, hg, noLsts_map hg l]; rfl
theorem noLst_rks (R : List (List Str)) : noLst (rksD R) = true := by
  rw [rksD, noLst]
  exact noLsts_map (fun rk => by rw [rkD, noLst]; exact noLsts_map (fun _ => rfl) rk) R
/-! ### small -/
theorem cnt_int (i : Int) : cnt (.int i) = 1 := by simp [cnt]
theorem cnt_str (x : Str) : cnt (.str x) = 1 := by simp [cnt]
theorem tinyAll_map {α : Type} {g : α → PyData} : ∀ {l : List α}, (∀ x ∈ l, tiny (g x) = true) → tinyAll (l.map g) = true
  | [], _ => rfl
  | x :: l, h => by rw [List.map_cons, tinyAll, h x List.mem_cons_self, tinyAll_map fun y hy => h y (List.mem_cons_of_mem _ hy)]; rfl
theorem cntAll_map {α : Type} {g : α → PyData} {m : Nat} : ∀ {l : List α}, (∀ x ∈ l, cnt (g x) ≤ m) → cntAll (l.map g) ≤ m * l.length
  | [], _ => Nat.zero_le _
  | x :: l, h => by
    have h1 := h x List.mem_cons_self
    have h2 := cntAll_map (l := l) fun y hy => h y (List.mem_cons_of_mem _ hy)
    rw [List.map_cons, cntAll, List.length_cons, Nat.mul_succ]
    omega
theorem depthAll_map {α : Type} {g : α → PyData} {m : Nat} : ∀ {l : List α}, (∀ x ∈ l, (g x).depth ≤ m) → PyData.depthAll (l.map g) ≤ m
  | [], _ => by rw [List.map_nil, PyData.depthAll]; exact Nat.zero_le _
  | x :: l, h => by
    have h1 := h x List.mem_cons_self
    have h2 := depthAll_map (l := l) fun y hy => h y (List.mem_cons_of_mem _ hy)
    rw [List.map_cons, PyData.depthAll]
    omega
theorem tiny_str {x : Str} (h : GoodName x) : tiny (.str x) = true := by
  rw [tiny, Bool.and_eq_true, decide_eq_true_eq, List.all_eq_true]
  exact ⟨h.2.1, fun c hc => decide_eq_true (by have := h.2.2 c hc; omega)⟩
def GoodRk (rk : List Str) : Prop := (∀ x ∈ rk, GoodName x) ∧ rk.length ≤ 5
theorem rkD_small {rk : List Str} (h : GoodRk rk) : tiny (rkD rk) = true ∧ cnt (rkD rk) ≤ 6 ∧ (rkD rk).depth ≤ 1 := by
  refine ⟨by rw [rkD, tiny]; exact tinyAll_map fun x hx => tiny_str (h.1 x hx), ?_, ?_⟩
  · have := cntAll_map (g := PyData.str) (m := 1) (l := rk) fun x _ => by rw [cnt_str]; exact Nat.le_refl _
    have := h.2
    rw [rkD, cnt]
    omega
  · have := depthAll_map (g := PyData.str) (m := 0) (l := rk) fun x _ => by rw [PyData.depth]; exact Nat.le_refl _
    rw [rkD, PyData.depth]
    omega
theorem rksD_small {R : List (List Str)} (h : ∀ rk ∈ R, GoodRk rk) (hl : R.length ≤ 3125) : tiny (rksD R) = true ∧ cnt (rksD R) ≤ 20000 ∧ (rksD R).depth ≤ 2 := by
  refine ⟨by rw [rksD, tiny]; exact tinyAll_map fun rk hrk => (rkD_small (h rk hrk)).1, ?_, ?_⟩
  · have := cntAll_map (g := rkD) (m := 6) (l := R) fun rk hrk => (rkD_small (h rk hrk)).2.1
    rw [rksD, cnt]
    omega
  · have := depthAll_map (g := rkD) (m := 1) (l := R) fun rk hrk => (rkD_small (h rk hrk)).2.2
    rw [rksD, PyData.depth]
    omega
theorem bookD_small {B : Bk} (gb : GoodBook B) : tiny (bookD B) = true ∧ cnt (bookD B) ≤ 100 ∧ (bookD B).depth ≤ 2 := by
  refine ⟨?_, ?_, ?_⟩
  · rw [bookD, tiny]
    refine tinyAll_map fun s hs => ?_
    have h1 := tiny_str (gb.signs s hs).1
    have h2 := (gb.signs s hs).2
    rw [signD, tiny, tinyAll, tinyAll, tinyAll, h1, show tiny (.int ((s.2 : Nat) : Int)) = true by rw [tiny, decide_eq_true_eq]; omega]
    rfl
  · have := cntAll_map (g := signD) (m := 3) (l := B) fun s _ => by rw [signD, cnt, cntAll, cntAll, cntAll, cnt_str, cnt_int]; exact Nat.le_refl _
    have := gb.few
    rw [bookD, cnt]
    omega
  · have := depthAll_map (g := signD) (m := 1) (l := B) fun s _ => by rw [signD, PyData.depth, PyData.depthAll, PyData.depthAll, PyData.depthAll, PyData.depth, PyData.depth]; omega
    rw [bookD, PyData.depth]
    omega
mutual
theorem tiny_tm {B : Bk} (hB : ∀ s ∈ B, GoodName s.1) : ∀ t : Tm, okT B t → (∀ n ∈ hl t, n ≤ 1) → tiny t.toD = true
  | .hole n, _, h => by
    have := h n (by rw [hl]; exact List.mem_singleton.mpr rfl)
    rw [Tm.toD, tiny, decide_eq_true_eq]
    omega
  | .node f ps, ho, h => by
    rw [okT] at ho
    rw [Tm.toD, tiny, tinyAll, tiny_str (hB _ ho.1), tiny_tms hB ps ho.2 (fun n hn => h n (by rw [hl]; exact hn))]
    rfl
theorem tiny_tms {B : Bk} (hB : ∀ s ∈ B, GoodName s.1) : ∀ ps : List Tm, okTs B ps → (∀ n ∈ hls ps, n ≤ 1) → tinyAll (toDs ps) = true
  | [], _, _ => rfl
  | p :: ps, ho, h => by
    rw [okTs] at ho
    rw [toDs, tinyAll, tiny_tm hB p ho.1 (fun n hn => h n (by rw [hls]; exact List.mem_append_left _ hn)), tiny_tms hB ps ho.2 (fun n hn => h n (by rw [hls]; exact List.mem_append_right _ hn))]
    rfl
end
mutual
theorem cnt_tm : ∀ t : Tm, cnt t.toD ≤ 2 * t.sz
  | .hole n => by rw [Tm.toD, cnt_int, Tm.sz]; omega
  | .node f ps => by
    have := cnt_tms ps
    rw [Tm.toD, cnt, cntAll, cnt_str, Tm.sz]
    omega
theorem cnt_tms : ∀ ps : List Tm, cntAll (toDs ps) ≤ 2 * szs ps
  | [] => by rw [toDs, cntAll]; exact Nat.zero_le _
  | p :: ps => by
    have := cnt_tm p
    have := cnt_tms ps
    rw [toDs, cntAll, szs]
    omega
end
theorem lotD_small {B : Bk} (gb : GoodBook B) {L : List Rl} (h : ∀ r ∈ L, RlG B r) (hl : L.length ≤ 8) : tiny (lotD L) = true ∧ cnt (lotD L) ≤ 400 ∧ (lotD L).depth ≤ 10 := by
  have hBg : ∀ s ∈ B, GoodName s.1 := fun s hs => (gb.signs s hs).1
  refine ⟨?_, ?_, ?_⟩
  · rw [lotD, tiny]
    refine tinyAll_map fun r hr => ?_
    rw [rlD, tiny, tinyAll, tinyAll, tinyAll, tiny_tm hBg _ (h r hr).1.ok (h r hr).1.ho, tiny_tm hBg _ (h r hr).2.ok (h r hr).2.ho]
    rfl
  · have := cntAll_map (g := rlD) (m := 29) (l := L) fun r hr => by
      have h1 := cnt_tm r.1
      have h2 := cnt_tm r.2
      have h3 := (h r hr).1.sz
      have h4 := (h r hr).2.sz
      rw [rlD, cnt, cntAll, cntAll, cntAll]
      omega
    rw [lotD, cnt]
    omega
  · have := depthAll_map (g := rlD) (m := 8) (l := L) fun r hr => by
      have h1 := depth_tm r.1
      have h2 := depth_tm r.2
      have h3 := (h r hr).1.sz
      have h4 := (h r hr).2.sz
      rw [rlD, PyData.depth, PyData.depthAll, PyData.depthAll, PyData.depthAll]
      omega
    rw [lotD, PyData.depth]
    omega
theorem list3_small {a b c : PyData} {m : Nat} (ha : tiny a = true ∧ cnt a ≤ m ∧ a.depth ≤ 50) (hb : tiny b = true ∧ cnt b ≤ m ∧ b.depth ≤ 50) (hc : tiny c = true ∧ cnt c ≤ m ∧ c.depth ≤ 50) (hm : m ≤ 30000) :
    tiny (.list [a, b, c]) = true ∧ (PyData.list [a, b, c]).depth ≤ 60 ∧ cnt (.list [a, b, c]) ≤ 100000 := by
  refine ⟨by rw [tiny, tinyAll, tinyAll, tinyAll, tinyAll, ha.1, hb.1, hc.1]; rfl, ?_, ?_⟩
  · rw [PyData.depth, PyData.depthAll, PyData.depthAll, PyData.depthAll, PyData.depthAll]; omega
  · rw [cnt, cntAll, cntAll, cntAll, cntAll]; omega
theorem list2_small {a b : PyData} {m : Nat} (ha : tiny a = true ∧ cnt a ≤ m ∧ a.depth ≤ 50) (hb : tiny b = true ∧ cnt b ≤ m ∧ b.depth ≤ 50) (hm : m ≤ 30000) :
    tiny (.list [a, b]) = true ∧ (PyData.list [a, b]).depth ≤ 60 ∧ cnt (.list [a, b]) ≤ 100000 := by
  refine ⟨by rw [tiny, tinyAll, tinyAll, tinyAll, ha.1, hb.1]; rfl, ?_, ?_⟩
  · rw [PyData.depth, PyData.depthAll, PyData.depthAll, PyData.depthAll]; omega
  · rw [cnt, cntAll, cntAll, cntAll]; omega
/-! ### equal to itself, shaped -/
theorem eqv_strs : ∀ rk : List Str, PyData.eqvAll (rk.map PyData.str) (rk.map PyData.str) = true
  | [] => by rw [List.map_nil, PyData.eqvAll]
  | x :: rk => by rw [List.map_cons, PyData.eqvAll, PyData.eqv, eqv_strs rk, beq_self_eq_true]; rfl
theorem eqv_rks (R : List (List Str)) : PyData.eqv (rksD R) (rksD R) = true := by
  rw [rksD, PyData.eqv]
  induction R with
  | nil => rw [List.map_nil, PyData.eqvAll]
  | cons r R ih =>
    rw [List.map_cons, PyData.eqvAll, ih, rkD, PyData.eqv, eqv_strs]
    rfl
theorem shaped_rks {R : List (List Str)} (h : ∀ rk ∈ R, GoodRk rk) (hl : R.length ≤ 3125) : SeqAt.shaped (rksD R) = true := by
  have h1 := rksD_small h hl
  have h2 := showable_of (rksD R) h1.1
  unfold SeqAt.shaped
  rw [h2.2.2, Bool.true_and, decide_eq_true_eq]
  omega
/-! ### ranks in a set, sorted -/
theorem rows_lt : ∀ xs ys : List Str, xs.length = ys.length → PySem.W.rowLt (xs.map PyData.str) (ys.map PyData.str) = rLt xs ys
  | [], [], _ => by first | rfl | decide | exact PyProof.Rows.lex_irrefl _
  | [], _ :: _, h => by cases h
  | _ :: _, [], h => by cases h
  | x :: xs, y :: ys, h => by
    have ih := rows_lt xs ys (Nat.succ.inj h)
    unfold PySem.W.rowLt at ih ⊢
    rw [List.map_cons, List.map_cons, PySem.W.dataLt_cons (by simp [PySem.W.alike]), ih, eqv_str, PySem.W.dataLt_str, rLt_cons]
    by_cases e : x = y
    · rw [if_pos e, if_pos (by rw [e]; exact beq_self_eq_true y)]
    · rw [if_neg e, if_neg (by simpa using e)]
def rkKey (rk : List Str) : List Key := rk.map Sum.inr
theorem enc_rk (rk : List Str) : encK (rkKey rk) = rkD rk := by
  unfold encK rkKey rkD
  rw [List.map_map]
  rfl
theorem kv_rk (rk : List Str) : (rkKey rk).map kV = rk.map V.str := by
  unfold rkKey
  rw [List.map_map]
  rfl
theorem lt_rk {xs ys : List Str} (h : xs.length = ys.length) : PySem.W.dataLt (encK (rkKey xs)) (encK (rkKey ys)) = rLt xs ys := by
  rw [enc_rk, enc_rk, rkD, rkD, PySem.W.dataLt_tuple]
  exact rows_lt xs ys h
theorem alike_strs : ∀ xs ys : List Str, PySem.W.alikeAll (xs.map PyData.str) (ys.map PyData.str) = true
  | [], _ => by simp [PySem.W.alikeAll]
  | _ :: _, [] => by simp [PySem.W.alikeAll]
  | x :: xs, y :: ys => by
    rw [List.map_cons, List.map_cons, PySem.W.alikeAll, alike_strs xs ys]
    simp [PySem.W.alike]
theorem alike_rk (xs ys : List Str) : PySem.W.alike (encK (rkKey xs)) (encK (rkKey ys)) = true := by
  rw [enc_rk, enc_rk, rkD, rkD]
  simp only [PySem.W.alike]
  exact alike_strs xs ys
theorem rkKey_inj {xs ys : List Str} (h : rkKey xs = rkKey ys) : xs = ys := by
  have := congrArg (List.map kV) h
  rw [kv_rk, kv_rk] at this
  have h2 : ∀ xs ys : List Str, xs.map V.str = ys.map V.str → xs = ys := by
    intro xs
    induction xs with
    | nil =>
      intro ys h
      cases ys with
      | nil => rfl
      | cons y ys => cases h
    | cons x xs ih =>
      intro ys h
      cases ys with
      | nil => cases h
      | cons y ys =>
        rw [List.map_cons, List.map_cons] at h
        injection h with h1 h2
        injection h1 with h1
        rw [h1, ih ys h2]
  exact h2 xs ys this
theorem rows_al {K : PySem.W.Frag} {H : Hp} : ∀ {ys : List V} {E : List (List Str)}, Al (RkAt K H) ys E → ∃ ks : List Row, ys = (ks.map fun p => V.ref p.1) ∧ (ks.map fun p => p.2) = E.map rkKey ∧ ∀ p ∈ ks, SqT K H p.1 (p.2.map kV)
  | _, _, .nil => ⟨[], rfl, rfl, fun p h => (by cases h)⟩
  | _, _, .cons (t := rk) ⟨a, e, h⟩ t => by
    obtain ⟨ks, e1, e2, e3⟩ := rows_al t
    refine ⟨(a, rkKey rk) :: ks, by rw [e, e1]; rfl, by rw [List.map_cons, e2]; rfl, fun p hp => ?_⟩
    rcases List.mem_cons.mp hp with q | q
    · rw [q]
      show SqT K H a ((rkKey rk).map kV)
      rw [kv_rk]
      exact h
    · exact e3 p q
theorem ranks_of {E : List (List Str)} : ∀ l : List (List Key), (∀ r ∈ l, r ∈ E.map rkKey) → ∃ D : List (List Str), l = D.map rkKey ∧ ∀ r ∈ D, r ∈ E
  | [], _ => ⟨[], rfl, fun s h => (by cases h)⟩
  | r :: l, h => by
    obtain ⟨s, hs, e⟩ := List.mem_map.mp (h r List.mem_cons_self)
    obtain ⟨D, e2, hD⟩ := ranks_of l fun r hr => h r (List.mem_cons_of_mem _ hr)
    refine ⟨s :: D, by rw [List.map_cons, e, e2], fun t ht => ?_⟩
    rcases List.mem_cons.mp ht with q | q
    · rw [q]; exact hs
    · exact hD t q
/-- sorted(set(..)) of ranks of one length -/
theorem set_sort {P : Program} {w : World} {K : PySem.W.Frag} {H : Hp} {l : Addr} {ys : List V} {E : List (List Str)} {m : Nat} {Q : VK} (hl : H l = some (.lst ys)) (al : Al (RkAt K H) ys E) (hE : E.length < 300) (hm : ∀ r ∈ E, r.length = m) (hm0 : 0 < m)
    (k : ∀ p us D H', Same H H' → H' p = some (.lst us) → Al (RkAt K H') us D → (D.Pairwise fun a b => rLt a b = true) → (∀ r, r ∈ D ↔ r ∈ E) → Q (.ref p) H') :
    rSetP K P w [.ref l] H fun y H2 => rSortedP K P w [y] H2 Q := by
  obtain ⟨ks, e1, e2, e3⟩ := rows_al al
  subst e1
  have kl : ks.length = E.length := by
    have := congrArg List.length e2
    rwa [List.length_map, List.length_map] at this
  refine ⟨l, ks, rfl, SqL.of hl, e3, by omega, fun sa L hsa lsub lall lnd => ?_⟩
  have s4 : Same H (upd H sa (SetPO P w sa L)) := same_new hsa
  have inE : ∀ p ∈ L, ∃ r ∈ E, p.2 = rkKey r := fun p hp => by
    have : p.2 ∈ E.map rkKey := by rw [← e2]; exact List.mem_map.mpr ⟨p, lsub p hp, rfl⟩
    obtain ⟨r, h1, h2⟩ := List.mem_map.mp this
    exact ⟨r, h1, h2.symm⟩
  refine ⟨sa, L, rfl, upd_same, fun p hp => (tk_same s4).t (e3 p (lsub p hp)), fun p hp q hq => ?_, fun p hp => ?_, fun L' pa pm pw hpa => ?_⟩
  · obtain ⟨r1, _, q1⟩ := inE p hp
    obtain ⟨r2, _, q2⟩ := inE q hq
    rw [q1, q2]
    exact alike_rk _ _
  · obtain ⟨r1, h1, q1⟩ := inE p hp
    have := hm r1 h1
    rw [q1]
    intro e
    have h2 := congrArg List.length e
    unfold rkKey at h2
    rw [List.length_map] at h2
    have : ([] : List Key).length = 0 := rfl
    omega
  · obtain ⟨D, eD, hDE⟩ := ranks_of (E := E) (L'.map fun p => p.2) fun r hr => by
      obtain ⟨p, hp, e⟩ := List.mem_map.mp hr
      obtain ⟨s, h1, h2⟩ := inE p (pm.mem_iff.mp hp)
      exact List.mem_map.mpr ⟨s, h1, by rw [← e]; exact h2.symm⟩
    have nD : D.Nodup := by
      have : (L'.map fun p => p.2).Nodup := (pm.map _).nodup_iff.mpr lnd
      rw [eD] at this
      exact List.Pairwise.imp (fun {a b} h e => h (by rw [e])) (List.pairwise_map.mp this)
    have pwD : D.Pairwise fun q r => PySem.W.dataLt (encK (rkKey r)) (encK (rkKey q)) = false := by
      have h1 : (L'.map fun p => p.2).Pairwise fun q r => PySem.W.dataLt (encK r) (encK q) = false := List.pairwise_map.mpr pw
      rw [eD] at h1
      exact List.pairwise_map.mp h1
    have s5 : Same (upd H sa (SetPO P w sa L)) (upd (upd H sa (SetPO P w sa L)) pa (.lst (L'.map fun q => V.ref q.1))) := same_new hpa
    refine k pa _ D _ (s4.trans s5) upd_same (Al.of ?_ fun i u t hu ht => ?_) ?_ fun r => ⟨hDE r, fun hr => ?_⟩
    · have := congrArg List.length eD
      rw [List.length_map, List.length_map] at this
      rw [List.length_map]
      exact this
    · rw [List.getElem?_map] at hu
      cases hq : L'[i]? with
      | none => rw [hq] at hu; cases hu
      | some p =>
        rw [hq] at hu
        have hu : V.ref p.1 = u := Option.some.inj hu
        have h1 : (L'.map fun p => p.2)[i]? = some p.2 := by rw [List.getElem?_map, hq]; rfl
        rw [eD, List.getElem?_map, ht] at h1
        have h1 : rkKey t = p.2 := Option.some.inj h1
        refine ⟨p.1, hu.symm, ?_⟩
        have h2 := e3 p (lsub p (pm.mem_iff.mp (List.mem_of_getElem? hq)))
        rw [← h1, kv_rk] at h2
        exact (tk_same (s4.trans s5)).t h2
    · refine List.Pairwise.imp_of_mem (fun {a b} ha hb h => ?_) (List.Pairwise.and pwD nD)
      have hlab : b.length = a.length := by rw [hm b (hDE b hb), hm a (hDE a ha)]
      rw [lt_rk hlab] at h
      rcases rLt_tri h.2 with h3 | h3
      · exact h3
      · rw [h3] at h
        cases h.1
    · have h1 : rkKey r ∈ ks.map fun p => p.2 := by rw [e2]; exact List.mem_map.mpr ⟨r, hr, rfl⟩
      obtain ⟨p, hp, ep⟩ := List.mem_map.mp h1
      have h2 := lall p hp
      have h3 : p.2 ∈ L'.map fun p => p.2 := ((pm.map fun p => p.2).mem_iff).mpr h2
      rw [eD, ep] at h3
      obtain ⟨t, ht, et⟩ := List.mem_map.mp h3
      rw [← rkKey_inj et]
      exact ht
end Rk

/-! the law -/
namespace Rk
open PySem PySem.Spec PyProof.Rows L2

theorem filter_idx {α : Type} (p : α → Bool) (R : List α) : ((List.range R.length).filter fun i => ((R[i]?).map p).getD false).map (fun i => R[i]?) = (R.filter p).map some := by
  induction R with
  | nil => rfl
  | cons r R ih =>
    rw [List.length_cons, List.range_succ_eq_map, List.filter_cons, List.filter_map, List.filter_cons]
    have e0 : (((r :: R)[0]?).map p).getD false = p r := rfl
    rw [e0]
    have e1 : ((fun i => (((r :: R)[i]?).map p).getD false) ∘ Nat.succ) = fun i => ((R[i]?).map p).getD false := rfl
    rw [e1]
    have e2 : ((List.filter (fun i => ((R[i]?).map p).getD false) (List.range R.length)).map Nat.succ).map (fun i => (r :: R)[i]?) = (R.filter p).map some := by
      rw [List.map_map, ← ih]
      rfl
    cases p r with
    | true => simp only [if_true, List.map_cons, e2]; rfl
    | false => simpa using e2
theorem rel_al {α : Type} {R : List α} {G : Hp → V → α → Prop} {H : Hp} : ∀ {is : List Nat} {ys : List V}, RelL (fun i y H => ∃ t, R[i]? = some t ∧ G H y t) H is ys → ∀ S : List α, is.map (fun i => R[i]?) = S.map some → Al (G H) ys S
  | _, _, .nil, S, h => by
    cases S with
    | nil => exact .nil
    | cons s S => cases h
  | _, _, .cons ⟨t, h1, h2⟩ r, S, h => by
    cases S with
    | nil => cases h
    | cons s S =>
      rw [List.map_cons, List.map_cons] at h
      injection h with h3 h4
      rw [h1] at h3
      rw [← Option.some.inj h3]
      exact .cons h2 (rel_al r S h4)
theorem prks_both {B : Bk} {L : List Rl} {r : Rl} (h : r ∈ L) : prks B (L ++ [(r.2, r.1)]) = [] := by
  unfold prks
  rw [List.filter_eq_nil_iff]
  intro rk _ ha
  rw [List.all_append, Bool.and_eq_true, List.all_eq_true] at ha
  have h1 := gtB_iff.mp (ha.1 r h)
  have h2 : gtB (ixR rk) r.2 r.1 = true := by
    have := ha.2
    simpa using this
  exact gt_not h1 (gtB_iff.mp h2)
theorem good_rks {B : Bk} (gb : GoodBook B) {L : List Rl} : (∀ rk ∈ prks B L, GoodRk rk) ∧ (prks B L).length ≤ 3125 := by
  have hns : (B.map (·.1)).length = B.length := List.length_map _
  have few := gb.few
  refine ⟨fun rk h => ?_, ?_⟩
  · have hm := mem_rks.mp (List.mem_filter.mp h).1
    refine ⟨fun x hx => ?_, by rw [hm.2.2]; exact few⟩
    obtain ⟨s, hs, e⟩ := List.mem_map.mp (hm.2.1 x hx)
    rw [← e]
    exact (gb.signs s hs).1
  · refine Nat.le_trans (List.length_filter_le _ _) (Nat.le_trans (len_rks_le _) (Nat.le_trans (Nat.pow_le_pow_left (show (B.map (·.1)).length ≤ 5 by omega) _) ?_))
    exact Nat.le_trans (Nat.pow_le_pow_right (by decide) few) (by decide)
theorem due_is {B : Bk} (gb : GoodBook B) {L : List Rl} {D : List (List Str)} (h1 : D.Pairwise fun a b => rLt a b = true) (h2 : ∀ r, r ∈ D ↔ r ∈ (lawR (B.map (·.1)) [[]]).filter fun rk => L.all fun r => gtB (ixR rk) r.1 r.2) : D = prks B L := by
  have := due_eq gb.asc (asc_nd gb) (fun rk => L.all fun r => gtB (ixR rk) r.1 r.2) (fun rk => L.all fun r => gtB (ixR rk) r.1 r.2) (fun _ _ => rfl) h1 h2
  rw [List.length_map] at this
  exact this
theorem law_len {B : Bk} {rk : List Str} (h : rk ∈ lawR (B.map (·.1)) [[]]) : rk.length = B.length ∧ ∀ s ∈ B, s.1 ∈ rk := by
  have p := (mem_lawR_perm _ _).mp h
  exact ⟨by rw [p.length_eq, List.length_map], fun s hs => p.mem_iff.mpr (List.mem_map.mpr ⟨s, hs, rfl⟩)⟩
theorem book_pos {B : Bk} (gb : GoodBook B) : 0 < B.length := by
  obtain ⟨s, hs, _⟩ := gb.closed
  exact List.length_pos_of_mem hs
theorem plan_at {K : PySem.W.Frag} {H : Hp} {b : Addr} (pl : List Nat) (gp : GoodPlan pl) (h : SqT K H b (pl.map fun n => V.int ((n : Nat) : Int))) : PlanAt K H (.ref b) := ⟨pl, b, gp, rfl, h⟩
theorem gp1 : GoodPlan [0, 1, 2] := ⟨by decide, by decide, by decide, ⟨2, by decide, by decide⟩⟩
theorem gp2 : GoodPlan [0, 0, 1, 2] := ⟨by decide, by decide, by decide, ⟨2, by decide, by decide⟩⟩
theorem gp3 : GoodPlan [0, 1, 1, 3] := ⟨by decide, by decide, by decide, ⟨3, by decide, by decide⟩⟩
theorem gp4 : GoodPlan [0, 1, 1, 2] := ⟨by decide, by decide, by decide, ⟨2, by decide, by decide⟩⟩
theorem gp5 : GoodPlan [0, 0, 1, 2, 2] := ⟨by decide, by decide, by decide, ⟨2, by decide, by decide⟩⟩
theorem plans5 {K : PySem.W.Frag} {H : Hp} {p1 p2 p3 p4 p5 Pl : Addr} (h1 : H p1 = none) (h2 : upd H p1 (.tup [.int 0, .int 1, .int 2]) p2 = none) (h3 : upd (upd H p1 (.tup [.int 0, .int 1, .int 2])) p2 (.tup [.int 0, .int 0, .int 1, .int 2]) p3 = none)
    (h4 : upd (upd (upd H p1 (.tup [.int 0, .int 1, .int 2])) p2 (.tup [.int 0, .int 0, .int 1, .int 2])) p3 (.tup [.int 0, .int 1, .int 1, .int 3]) p4 = none)
    (h5 : upd (upd (upd (upd H p1 (.tup [.int 0, .int 1, .int 2])) p2 (.tup [.int 0, .int 0, .int 1, .int 2])) p3 (.tup [.int 0, .int 1, .int 1, .int 3])) p4 (.tup [.int 0, .int 1, .int 1, .int 2]) p5 = none)
    (h6 : upd (upd (upd (upd (upd H p1 (.tup [.int 0, .int 1, .int 2])) p2 (.tup [.int 0, .int 0, .int 1, .int 2])) p3 (.tup [.int 0, .int 1, .int 1, .int 3])) p4 (.tup [.int 0, .int 1, .int 1, .int 2])) p5 (.tup [.int 0, .int 0, .int 1, .int 2, .int 2]) Pl = none) :
    Same H (upd (upd (upd (upd (upd (upd H p1 (.tup [.int 0, .int 1, .int 2])) p2 (.tup [.int 0, .int 0, .int 1, .int 2])) p3 (.tup [.int 0, .int 1, .int 1, .int 3])) p4 (.tup [.int 0, .int 1, .int 1, .int 2])) p5 (.tup [.int 0, .int 0, .int 1, .int 2, .int 2])) Pl (.lst [.ref p1, .ref p2, .ref p3, .ref p4, .ref p5])) ∧
    (upd (upd (upd (upd (upd (upd H p1 (.tup [.int 0, .int 1, .int 2])) p2 (.tup [.int 0, .int 0, .int 1, .int 2])) p3 (.tup [.int 0, .int 1, .int 1, .int 3])) p4 (.tup [.int 0, .int 1, .int 1, .int 2])) p5 (.tup [.int 0, .int 0, .int 1, .int 2, .int 2])) Pl (.lst [.ref p1, .ref p2, .ref p3, .ref p4, .ref p5])) Pl = some (.lst [.ref p1, .ref p2, .ref p3, .ref p4, .ref p5]) ∧
    ∀ x ∈ [V.ref p1, .ref p2, .ref p3, .ref p4, .ref p5], PlanAt K (upd (upd (upd (upd (upd (upd H p1 (.tup [.int 0, .int 1, .int 2])) p2 (.tup [.int 0, .int 0, .int 1, .int 2])) p3 (.tup [.int 0, .int 1, .int 1, .int 3])) p4 (.tup [.int 0, .int 1, .int 1, .int 2])) p5 (.tup [.int 0, .int 0, .int 1, .int 2, .int 2])) Pl (.lst [.ref p1, .ref p2, .ref p3, .ref p4, .ref p5])) x := by
  have q1 := same_new (o := .tup [.int 0, .int 1, .int 2]) h1
  have q2 := same_new (o := .tup [.int 0, .int 0, .int 1, .int 2]) h2
  have q3 := same_new (o := .tup [.int 0, .int 1, .int 1, .int 3]) h3
  have q4 := same_new (o := .tup [.int 0, .int 1, .int 1, .int 2]) h4
  have q5 := same_new (o := .tup [.int 0, .int 0, .int 1, .int 2, .int 2]) h5
  have q6 := same_new (o := .lst [.ref p1, .ref p2, .ref p3, .ref p4, .ref p5]) h6
  refine ⟨q1.trans (q2.trans (q3.trans (q4.trans (q5.trans q6)))), upd_same, fun x hx => ?_⟩
  simp only [List.mem_cons, List.not_mem_nil, or_false] at hx
  rcases hx with e | e | e | e | e
  · rw [e]
    exact plan_at _ gp1 ((tk_same (q2.trans (q3.trans (q4.trans (q5.trans q6))))).t (SqT.of upd_same))
  · rw [e]
    exact plan_at _ gp2 ((tk_same (q3.trans (q4.trans (q5.trans q6)))).t (SqT.of upd_same))
  · rw [e]
    exact plan_at _ gp3 ((tk_same (q4.trans (q5.trans q6))).t (SqT.of upd_same))
  · rw [e]
    exact plan_at _ gp4 ((tk_same (q5.trans q6)).t (SqT.of upd_same))
  · rw [e]
    exact plan_at _ gp5 ((tk_same q6).t (SqT.of upd_same))
section
variable {P : Program} {w : World} {K : PySem.W.Frag} {mg : Str → Option Value} {base : Heap}
def spLaw (K : PySem.W.Frag) : Sp := fun vs H Q _ => ∃ (a : Addr) (ns : List Int), vs = [.ref a] ∧ SqL K H a (ns.map V.int) ∧ ∀ H', Q (.bl true) H'
theorem ok_law {f : Addr} {fd : FuncData} {k : Nat} (F : Fun K "law" "law" sLaw f fd) (T : Txt mg) (C1 : Def P w K mg base k "_law_feed" pLFd (spLFd K)) (C2 : Def P w K mg base k "_law_book" pLBk (spLBk K)) (C3 : Def P w K mg base k "_law_rules" pLRu (spLRu K)) (C4 : Def P w K mg base k "_law_ranks" pLRk (spLRk K))
    (C5 : Def P w K mg base k "_law_serves" pLSv (spLSv K)) (C6 : Def P w K mg base k "path_ranks" pPRk (spPRk K)) (kb : KBinds K C6.fd pPRk ["lot", "book"] swap2 swap2) : RunAt P w K mg base (k + 1) callerA f fd pLaw (spLaw K) := by
  refine run_at F scLaw (fun vs H Q E h => ?_) (fun cdv outer s H vs Q E hr h => ?_)
  · obtain ⟨a, ns, rfl, _⟩ := h
    rfl
  · obtain ⟨a, ns, rfl, hs, q⟩ := h
    have hu64 := hr.units
    have hg : (callerA.deeper (envOfC "law" (defScope sLaw) s.heap.objs.size f cdv)).guards = some [] := rfl
    refine ⟨_, pss_cons (ps_set (i := 1) scLaw.nd rfl (Or.inl rfl) (pe_call C1.G hr (by rfl) C1.g C1.kp C1.b .nil pass0 (pa_cons (pv 0) pa_nil)))
      (pss_cons (ps_for PassesOwn.never rfl (pi_range1 (by rfl) T.range (pa_cons pe_int pa_nil)) (pg_name (i := 2) scLaw.nd rfl (Or.inl rfl))
        (pss_cons (ps_set (i := 3) scLaw.nd rfl (Or.inl rfl) (pe_lst (pa_cons (pe_tup (pa_cons pe_int (pa_cons pe_int (pa_cons pe_int pa_nil)))) (pa_cons (pe_tup (pa_cons pe_int (pa_cons pe_int (pa_cons pe_int (pa_cons pe_int pa_nil))))) (pa_cons (pe_tup (pa_cons pe_int (pa_cons pe_int (pa_cons pe_int (pa_cons pe_int pa_nil))))) (pa_cons (pe_tup (pa_cons pe_int (pa_cons pe_int (pa_cons pe_int (pa_cons pe_int pa_nil))))) (pa_cons (pe_tup (pa_cons pe_int (pa_cons pe_int (pa_cons pe_int (pa_cons pe_int (pa_cons pe_int pa_nil)))))) pa_nil)))))))
        (Evl.pss_cut (ps_set (i := 4) scLaw.nd rfl (Or.inl rfl) (pe_call C2.G hr (by rfl) C2.g C2.kp C2.b .nil pass0 (pa_cons (pv 1) (pa_cons (pe_ifExp (pt_cmp (pc_eqI (pv 2) pe_int) (by rfl)) (pv 3) (pe_slice sl_list (pv 3) po_none (po_some pe_int))) pa_nil))))
        (pss_cons (ps_asg (pe_tup (pa_cons (pe_call C3.G hr (by rfl) C3.g C3.kp C3.b .nil pass0 (pa_cons (pv 1) (pa_cons (pv 4) (pa_cons pe_int (pa_cons pe_int pa_nil))))) (pa_cons (pe_call C4.G hr (by rfl) C4.g C4.kp C4.b .nil pass0 (pa_cons (pv 4) pa_nil)) pa_nil))) (pg_tup rfl (pgs_cons (pg_name (i := 5) scLaw.nd rfl (Or.inr rfl)) (pgs_cons (pg_name (i := 6) scLaw.nd rfl (Or.inl rfl)) pgs_nil))))
        (pss_cons (ps_set (i := 7) scLaw.nd rfl (Or.inl rfl) (pe_callTy call_tuple_of (by rfl) T.tuple (by decide +kernel) (pa_cons (pe_callB (cr_sortedP rfl hu64) (by rfl) T.sorted (by decide +kernel) (pa_cons (pe_callTy (cr_setP rfl hu64) (by rfl) T.set (by decide +kernel) (pa_cons
          (pe_lc (own := [("_law_scale", 10)]) (g := gName 10) (tt := tB (tCall (spLSv K) [] E0 (tCons (tVar 10) (tCons (tVar 5) tNil)))) rfl scLaw.nd (pi_list (pv 6)) (blkOk_by (N := nLaw) (sc := defScope sLaw) (by decide +kernel))
            (fun _ _ _ _ _ => pg_name (i := 10) scLaw.nd rfl (Or.inl rfl)) (fun _ _ _ _ _ => pts_one (pt_val (pe_call C5.G hr (by rfl) C5.g C5.kp C5.b .nil pass0 (pa_cons (pv 10) (pa_cons (pv 5) pa_nil))) (by intro _; rfl))) (fun _ _ _ _ _ => pv 10)) pa_nil)) pa_nil)) pa_nil)))
        (pss_cons (ps_set (i := 8) scLaw.nd rfl (Or.inl rfl) (pe_callB (cr_repr hg hu64) (by rfl) T.repr (by decide +kernel) (pa_cons (pe_lst (pa_cons (pv 4) (pa_cons (pv 5) pa_nil))) pa_nil)))
        (pss_cons (ps_set (i := 9) scLaw.nd rfl (Or.inl rfl) (pe_lst (pa_cons (pe_call C6.G hr (by rfl) C6.g C6.kp C6.b .nil pass0 (pa_cons (pv 4) (pa_cons (pv 5) pa_nil))) (pa_cons (pe_callKw C6.G hr (by rfl) C6.g C6.kp kb pass0 (pk_cons (pv 5) (pk_cons (pv 4) pk_nil))) (pa_cons (pe_call C6.G hr (by rfl) C6.g C6.kp C6.b .nil pass0 (pa_cons (pv 4) (pa_cons (pe_op op_catA (pv 5) (pe_tup (pa_cons (pe_revT (pe_ix ix_tup (pv 5) pe_int (fun _ _ => rfl))) pa_nil))) pa_nil))) pa_nil)))))
        (pss_cons (ps_if (PW.pt (pw_or (pt_cmpR op_ne (pe_callB (cr_repr hg hu64) (by rfl) T.repr (by decide +kernel) (pa_cons (pv 9) pa_nil)) (pe_callB (cr_repr hg hu64) (by rfl) T.repr (by decide +kernel) (pa_cons (pe_lst (pa_cons (pv 7) (pa_cons (pv 7) (pa_cons (pe_tup pa_nil) pa_nil)))) pa_nil)) (nomark _))
            (pw_or1 (pt_cmpR op_ne (pe_callB (cr_repr hg hu64) (by rfl) T.repr (by decide +kernel) (pa_cons (pe_lst (pa_cons (pv 4) (pa_cons (pv 5) pa_nil))) pa_nil)) (pv 8) (nomark _))))) pss_never pss_nil)
        (pss_one (ps_if (pt_cmpR (op_neD hu64) (pe_call C6.G hr (by rfl) C6.g C6.kp C6.b .nil pass0 (pa_cons (pv 4) (pa_cons (pe_tup pa_nil) pa_nil))) (pe_callTy call_tuple_of (by rfl) T.tuple (by decide +kernel) (pa_cons (pe_callB (cr_sortedP rfl hu64) (by rfl) T.sorted (by decide +kernel) (pa_cons (pe_callTy (cr_setP rfl hu64) (by rfl) T.set (by decide +kernel) (pa_cons (pv 6) pa_nil)) pa_nil)) pa_nil)) (nomark _)) pss_never pss_nil))))))))))
      (pss_one (ps_ret pe_bl))), ?_⟩
    refine ⟨_, rfl, a, ns, rfl, hs, fun f c ms H1 s1 hf0 fe => ?_⟩
    refine ⟨_, rfl, by decide, by decide, ?_⟩
    refine for_it walk_range (fun n σ H' => FdS f c H1 H' ∧ ∃ y2 y3 y4 y5 y6 y7 y8 y9, σ = [some (.ref a), some (.ref f), y2, y3, y4, y5, y6, y7, y8, y9, none]) ⟨fe.self, none, none, none, none, none, none, none, none, rfl⟩ (fun _ _ _ _ _ => True.intro) ?_ ?_
    · rintro n y σ H2 H2' hn ⟨g2, y2, y3, y4, y5, y6, y7, y8, y9, rfl⟩ ⟨rfl, rfl⟩
      -- the plans
      refine ⟨show 3 ≤ sizeLine by decide, fun p1 hp1 => ⟨show 4 ≤ sizeLine by decide, fun p2 hp2 => ⟨show 4 ≤ sizeLine by decide, fun p3 hp3 => ⟨show 4 ≤ sizeLine by decide, fun p4 hp4 => ⟨show 5 ≤ sizeLine by decide, fun p5 hp5 => ⟨show 5 ≤ sizeLine by decide, fun Pl hPl => ?_⟩⟩⟩⟩⟩⟩
      obtain ⟨sP, hPl3, all5⟩ := plans5 (K := K) hp1 hp2 hp3 hp4 hp5 hPl
      have g3 := g2.same sP
      have fe3 := fe.step g3
      have Plf := g3.at_.ne_lst hPl3
      have pmono : ∀ {Ha Hb : Hp} {x : V}, PlanAt K Ha x → Same Ha Hb → PlanAt K Hb x := fun {Ha Hb x} ⟨pl, b, h1, h2, h3⟩ s => ⟨pl, b, h1, h2, (tk_same s).t h3⟩
      refine ⟨fun σ' H' => ∃ tm B, σ' = [some (.ref a), some (.ref f), some (.int (0 + (n : Nat))), some (.ref Pl), some tm, y5, y6, y7, y8, y9, none] ∧ FdS f c H1 H' ∧ BookAt K H' tm B ∧ GoodBook B, ?_, ?_⟩
      · refine ⟨_, rfl, _, rfl, _, _, rfl, rfl, decide ((0 + ((n : Nat) : Int)) = 0), rfl, ite2 (fun _ => ?_) (fun _ => ?_)⟩
        · exact ⟨_, rfl, f, c, ms, Pl, _, rfl, fe3, SqL.of hPl3, Plf, (fun z => nomatch z), show 5 ≤ 1000 by decide, all5, fun v B H' s' hB gb => ⟨v, B, rfl, g3.trans s', hB, gb⟩⟩
        · refine ⟨_, rfl, _, rfl, Pl, _, rfl, SqL.of hPl3, fun P6 hP6 => ?_⟩
          have s6 := same_new (o := .lst [V.ref p1, .ref p2, .ref p3, .ref p4]) hP6
          exact ⟨f, c, ms, P6, [V.ref p1, .ref p2, .ref p3, .ref p4], rfl, fe3.step (fe3.self.same s6), SqL.of upd_same, g3.at_.ne_new hP6, (fun z => nomatch z), show 4 ≤ 1000 by decide, fun x hx => pmono (all5 x (by
            simp only [List.mem_cons, List.not_mem_nil, or_false] at hx ⊢
            rcases hx with e | e | e | e
            · exact .inl e
            · exact .inr (.inl e)
            · exact .inr (.inr (.inl e))
            · exact .inr (.inr (.inr (.inl e))))) s6, fun v B H' s' hB gb => ⟨v, B, rfl, (g3.same s6).trans s', hB, gb⟩⟩
      rintro σ' H4 ⟨tm, B, rfl, g4, hB4, gb⟩
      have fe4 := fe.step g4
      refine ⟨_, rfl, _, rfl, f, c, ms, tm, B, rfl, fe4, hB4, gb, fun lv L H5 s5 hL5 hLg hL0 hL3 => ⟨_, rfl, tm, B, rfl, hB4.mono (s5.tk g4.at_), gb, fun Ev us H6 s6 hEv6 alE6 hE120 => ⟨len2 _ _, fun p hp => ⟨p, _, rfl, SqT.of upd_same, rfl, _, _, rfl, _, _, rfl, rfl, ?_⟩⟩⟩⟩
      have s67 := same_new (o := .tup [lv, .ref Ev]) hp
      have g7 := ((g4.trans s5).same s6).same s67
      have hB := ((hB4.mono (s5.tk g4.at_)).mono (tk_same s6)).mono (tk_same s67)
      have hL := (hL5.mono (tk_same s6)).mono (tk_same s67)
      have hEv := s67 _ _ hEv6
      have alE := alE6.mono fun u t h => h.same s67
      generalize upd H6 p (.tup [lv, .ref Ev]) = H7 at g7 hB hL hEv alE ⊢
      have gl := good_lot hLg (show L.length ≤ 8 by omega)
      have usl := alE.len
      have bpos := book_pos gb
      -- due
      refine ⟨_, rfl, Ev, rfl, ⟨_, SqL.of hEv⟩, fun D hD => ?_⟩
      refine lcS (walk_list (K := K) (a := Ev) (xs := us)) (fun i y H => ∃ rk, (lawR (B.map (·.1)) [[]])[i]? = some rk ∧ RkAt K H y rk) (fun i => (((lawR (B.map (·.1)) [[]])[i]?).map fun rk => L.all fun r => gtB (ixR rk) r.1 r.2).getD false) (by omega) hD (fun _ e => SqL.of (e _ _ hEv)) (fun i y H H' tk ⟨rk, z1, z2⟩ => ⟨rk, z1, z2.mono tk⟩) ?_ ?_
      · rintro i z H' H'' R R0 hi s8 ⟨rfl, hz⟩ k1 k2
        obtain ⟨rk, hrk, hrkF⟩ := alE.get hz
        have hin := law_len (List.mem_of_getElem? hrk)
        have ek : ((((lawR (B.map (·.1)) [[]])[i]?).map fun rk => L.all fun r => gtB (ixR rk) r.1 r.2).getD false) = L.all fun r => gtB (ixR rk) r.1 r.2 := by rw [hrk]; rfl
        refine ⟨rfl, _, rfl, _, rfl, z, lv, B, rk, L, rfl, hrkF.same s8, gb, hin.2, hL.mono (tk_same s8), hLg, by omega, fun H9 s9 => ⟨L.all fun r => gtB (ixR rk) r.1 r.2, rfl, ?_⟩⟩
        cases hk : L.all fun r => gtB (ixR rk) r.1 r.2 with
        | true => exact iteT ⟨_, rfl, k1 _ _ (ek.trans hk) s9 ⟨rk, hrk, (hrkF.same (s8.trans s9)).at_⟩⟩
        | false => exact iteF (k2 _ (ek.trans hk) s9)
      intro H8 ys s8 e8 r8
      rw [usl] at r8
      have alF := rel_al (G := fun H v rk => RkAt K H v rk) (R := lawR (B.map (·.1)) [[]]) r8 _ (filter_idx _ _)
      have lenF : ((lawR (B.map (·.1)) [[]]).filter fun rk => L.all fun r => gtB (ixR rk) r.1 r.2).length ≤ us.length := by
        rw [usl]
        exact List.length_filter_le _ _
      dsimp only [tNil]
      refine set_sort e8 alF (by omega) (fun r hr => (law_len (List.mem_filter.mp hr).1).1) bpos fun p9 us9 D9 H9 s9 hp9 alD pwD hmD => ?_
      have eD := due_is gb pwD hmD
      subst eD
      refine ⟨p9, us9, rfl, .inl ⟨SqL.of hp9, fun t ht => ?_⟩⟩
      have st := same_new (o := .tup us9) ht
      have S10 := s8.trans (s9.trans st)
      have due10 : Dp K (upd H9 t (.tup us9)) (.ref t) (rksD (prks B L)) := rks_dpA (SqT.of upd_same) (alD.mono fun u t h => h.mono (tk_same st))
      generalize upd H9 t (.tup us9) = H10 at S10 due10 ⊢
      -- shown
      have bs := bookD_small gb
      have ls := lotD_small gb hLg (show L.length ≤ 8 by omega)
      have sm2 := list2_small (m := 400) ⟨bs.1, by omega, by omega⟩ ⟨ls.1, ls.2.1, by omega⟩ (by decide)
      have dpBL : ∀ {H' : Hp} {p : Addr}, Same H7 H' → H' p = none → Dp K (upd H' p (.lst [tm, lv])) (.ref p) (.list [bookD B, lotD L]) := fun {H' p} s hp => .lst (SqL.of upd_same) (.cons (book_dp (hB.mono ((tk_same s).trans (tk_new hp)))) (.cons (lot_dp (hL.mono ((tk_same s).trans (tk_new hp)))) .nil))
      refine ⟨_, rfl, _, rfl, len2 _ _, fun q1 hq1 => ⟨q1, _, rfl, dpBL S10 hq1, sm2.1, sm2.2.1, sm2.2.2, ?_⟩⟩
      have S11 := S10.trans (same_new (o := .lst [tm, lv]) hq1)
      have due11 := Dp.mono (tk_same (same_new (o := .lst [tm, lv]) hq1)) (noLst_rks _) due10
      generalize upd H10 q1 (.lst [tm, lv]) = H11 at S11 due11 ⊢
      -- told
      refine ⟨_, rfl, _, rfl, tm, lv, B, L, rfl, hB.mono (tk_same S11), gb, hL.mono (tk_same S11), gl, fun v1 H12 s12 r1 => ?_⟩
      have S12 := S11.trans s12
      refine ⟨_, rfl, _, rfl, tm, lv, B, L, rfl, hB.mono (tk_same S12), gb, hL.mono (tk_same S12), gl, fun v2 H13 s13 r2 => ?_⟩
      have S13 := S12.trans s13
      obtain ⟨la, lxs, rfl, hla, hlen, hlat⟩ := hL
      obtain ⟨r0, L', rfl⟩ : ∃ r0 L', L = r0 :: L' := by
        cases L with
        | nil => exact absurd rfl hL0
        | cons r0 L' => exact ⟨r0, L', rfl⟩
      obtain ⟨x0, lxs', rfl⟩ : ∃ x0 lxs', lxs = x0 :: lxs' := by
        cases lxs with
        | nil => cases hlen
        | cons x0 lxs' => exact ⟨x0, lxs', rfl⟩
      obtain ⟨_, er, b0, z1, z2, rfl, hb0, hz1, hz2⟩ := hlat 0 _ rfl
      obtain rfl := Option.some.inj er
      have T13 := tk_same S13
      refine ⟨_, rfl, _, rfl, _, rfl, la, _, 0, .ref b0, rfl, rfl, T13.t hla, atI_nat (j := 0) rfl, b0, [z1, z2], rfl, T13.t hb0, fun pr hpr => ⟨len1 _, fun pt hpt => ⟨la, pt, .ref b0 :: lxs', [.ref pr], rfl, rfl, ?_, SqT.of upd_same, ?_, (fun e => nomatch e), (fun _ e => nomatch e), fun _ _ pc hpc => ?_⟩⟩⟩
      · exact (tk_same (S13.trans ((same_new hpr).trans (same_new hpt)))).t hla
      · rw [hlen, List.length_cons]
        exact small_line' (show L'.length + 1 + 1 ≤ 1000000 by rw [List.length_cons] at hL3; omega)
      have u1 := same_new (o := .tup [z1, z2].reverse) hpr
      have u2 := same_new (o := .tup [.ref pr]) hpt
      have u3 := same_new (o := .tup ((.ref b0 :: lxs') ++ [.ref pr])) hpc
      have S14 := S13.trans (u1.trans (u2.trans u3))
      have hLn : LotAt K _ (.ref pc) ((r0 :: L') ++ [(r0.2, r0.1)]) := lot_al (SqT.of upd_same) (Al.app (Al.of hlen fun i u t g1 g2 => by
        obtain ⟨r, w1, w2⟩ := hlat i u g1
        rw [Option.some.inj (g2.symm.trans w1)]
        exact w2.mono (tk_same S14)) (.cons ⟨pr, z2, z1, rfl, (tk_same (u2.trans u3)).t (SqT.of upd_same), hz2.mono (tk_same S14), hz1.mono (tk_same S14)⟩ .nil))
      have g0 := hLg r0 List.mem_cons_self
      have hLg2 : ∀ r ∈ (r0 :: L') ++ [(r0.2, r0.1)], RlG B r := fun r hr => by
        rcases List.mem_append.mp hr with h | h
        · exact hLg r h
        · rw [List.mem_singleton.mp h]
          exact ⟨g0.2, g0.1⟩
      refine ⟨tm, .ref pc, B, (r0 :: L') ++ [(r0.2, r0.1)], rfl, hB.mono (tk_same S14), gb, hLn, good_lot hLg2 (by rw [List.length_append]; show (r0 :: L').length + 1 ≤ 8; omega), fun v3 H15 s15 r3 => ⟨show 3 ≤ sizeLine by decide, fun To hTo => ?_⟩⟩
      rw [prks_both (List.mem_cons_self (a := r0) (l := L'))] at r3
      have S15 := S14.trans s15
      have s13' := u1.trans (u2.trans (u3.trans s15))
      have d1 : Dp K H15 v1 (rksD (prks B (r0 :: L'))) := Dp.mono (tk_same (s13.trans s13')) (noLst_rks _) (rks_dp r1)
      have d2 : Dp K H15 v2 (rksD (prks B (r0 :: L'))) := Dp.mono (tk_same s13') (noLst_rks _) (rks_dp r2)
      have d3 : Dp K H15 v3 (rksD []) := rks_dp r3
      have due15 : Dp K H15 (.ref t) (rksD (prks B (r0 :: L'))) := Dp.mono (tk_same (s12.trans (s13.trans s13'))) (noLst_rks _) due11
      have so := same_new (o := .lst [v1, v2, v3]) hTo
      have S16 := S15.trans so
      have grk := good_rks gb (L := r0 :: L')
      have rs := rksD_small grk.1 grk.2
      have rs0 := rksD_small (R := []) (fun rk h => (by cases h)) (by decide)
      have sm3 := list3_small (m := 20000) ⟨rs.1, rs.2.1, by omega⟩ ⟨rs.1, rs.2.1, by omega⟩ ⟨rs0.1, rs0.2.1, by omega⟩ (by decide)
      have told16 : Dp K (upd H15 To (.lst [v1, v2, v3])) (.ref To) (.list [rksD (prks B (r0 :: L')), rksD (prks B (r0 :: L')), rksD []]) := .lst (SqL.of upd_same) (.cons (Dp.mono (tk_same so) (noLst_rks _) d1) (.cons (Dp.mono (tk_same so) (noLst_rks _) d2) (.cons (Dp.mono (tk_same so) (noLst_rks _) d3) .nil)))
      have due16 := Dp.mono (tk_same so) (noLst_rks _) due15
      generalize upd H15 To (.lst [v1, v2, v3]) = H16 at S16 told16 due16 ⊢
      refine ⟨_, rfl, To, _, rfl, told16, sm3.1, sm3.2.1, sm3.2.2, _, rfl, _, rfl, Nat.zero_le _, fun pe hpe => ⟨show 3 ≤ sizeLine by decide, fun q2 hq2 => ⟨q2, .list [rksD (prks B (r0 :: L')), rksD (prks B (r0 :: L')), rksD []], rfl, ?_, sm3.1, sm3.2.1, sm3.2.2, rfl, false, congrArg V.bl (by rw [decide_eq_true rfl]; rfl), iteF ?_⟩⟩⟩
      · have e1 := tk_new (o := .tup []) hpe
        have e2 := tk_new (o := .lst [.ref t, .ref t, .ref pe]) hq2
        exact .lst (SqL.of upd_same) (.cons (Dp.mono (e1.trans e2) (noLst_rks _) due16) (.cons (Dp.mono (e1.trans e2) (noLst_rks _) due16) (.cons (rks_dpA (e2.t (SqT.of upd_same)) .nil) .nil)))
      have S18 := S16.trans ((same_new (o := .tup []) hpe).trans (same_new (o := .lst [.ref t, .ref t, .ref pe]) hq2))
      generalize upd (upd H16 pe (.tup [])) q2 (.lst [.ref t, .ref t, .ref pe]) = H18 at S18 ⊢
      refine ⟨_, rfl, _, rfl, len2 _ _, fun q3 hq3 => ⟨q3, _, rfl, dpBL S18 hq3, sm2.1, sm2.2.1, sm2.2.2, _, rfl, rfl, false, congrArg V.bl (by rw [decide_eq_true rfl]; rfl), iteF ?_⟩⟩
      have S19 := S18.trans (same_new (o := .lst [tm, .ref la]) hq3)
      generalize upd H18 q3 (.lst [tm, .ref la]) = H19 at S19 ⊢
      refine ⟨_, rfl, Nat.zero_le _, fun pu hpu => ⟨tm, .ref pu, B, [], rfl, hB.mono ((tk_same S19).trans (tk_new hpu)), gb, lot_al (SqT.of upd_same) .nil, good_lot (fun r h => (by cases h)) (by decide), fun v4 H20 s20 r4 => ?_⟩⟩
      have S20 := S19.trans ((same_new (o := .tup []) hpu).trans s20)
      have alE20 : Al (RkAt K H20) us (lawR (B.map (·.1)) [[]]) := alE.mono fun u t h => (h.same S20).at_
      refine ⟨_, rfl, ?_⟩
      dsimp only [tNil]
      refine set_sort (S20 _ _ hEv) alE20 (by omega) (fun r hr => (law_len hr).1) bpos fun p21 us21 D21 H21 s21 hp21 alD21 pwD21 hmD21 => ?_
      have eD21 := due_is (L := []) gb pwD21 fun r => (hmD21 r).trans (by
        rw [List.mem_filter]
        exact ⟨fun h => ⟨h, rfl⟩, fun h => h.1⟩)
      subst eD21
      refine ⟨p21, us21, rfl, .inl ⟨SqL.of hp21, fun t22 ht22 => ?_⟩⟩
      have s22 := same_new (o := .tup us21) ht22
      have grk0 := good_rks gb (L := [])
      have sh := shaped_rks grk0.1 grk0.2
      refine ⟨_, _, Dp.mono (tk_same (s21.trans s22)) (noLst_rks _) (rks_dp r4), rks_dpA (SqT.of upd_same) (alD21.mono fun u t h => h.mono (tk_same s22)), sh, sh, false, congrArg V.bl (by rw [eqv_rks]; rfl), iteF ?_⟩
      exact ⟨g7.same (S20.trans (s21.trans s22)), _, _, _, _, _, _, _, _, rfl⟩
    · rintro σ H2 ⟨g2, y2, y3, y4, y5, y6, y7, y8, y9, rfl⟩
      exact q H2
end
end Rk

/-! all together -/
namespace Rk
open PySem PySem.Spec PyProof.Rows L2
theorem all_mk {l : PySem.W.OpenLaw} {w : World} {K : PySem.W.Frag} {h : Heap} {mg : Str → Option Value} {fa : Addr} (X : K.In h) (G : h.Ns mainGlobals mg) (hfa : mg "law" = some (.ref fa))
    {fInt : Addr} {odInt anInt : Option Addr} {slInt : Array (Option Value)} {ocInt kVInt dcInt pmInt cdInt ctInt : Value} (aInt : PySem.W.nsIn K mainGlobals "is_integer" = some (some (.ref fInt)))
    (lInt : K.lookup fInt = some ⟨ocInt, odInt, .func (PySem.W.fnOf "is_integer" "is_integer" (defArgs sInt) (defBody sInt) (defScope sInt) .none kVInt dcInt pmInt anInt cdInt ctInt), slInt⟩) (cInt : PySem.W.codeIn K cdInt "is_integer" = true) (kInt : PySem.W.keepIn K (.ref fInt) = true)
    {fNum : Addr} {odNum anNum : Option Addr} {slNum : Array (Option Value)} {ocNum kVNum dcNum pmNum cdNum ctNum : Value} (aNum : PySem.W.nsIn K mainGlobals "is_number" = some (some (.ref fNum)))
    (lNum : K.lookup fNum = some ⟨ocNum, odNum, .func (PySem.W.fnOf "is_number" "is_number" (defArgs sNum) (defBody sNum) (defScope sNum) .none kVNum dcNum pmNum anNum cdNum ctNum), slNum⟩) (cNum : PySem.W.codeIn K cdNum "is_number" = true) (kNum : PySem.W.keepIn K (.ref fNum) = true)
    {fNam : Addr} {odNam anNam : Option Addr} {slNam : Array (Option Value)} {ocNam kVNam dcNam pmNam cdNam ctNam : Value} (aNam : PySem.W.nsIn K mainGlobals "is_name" = some (some (.ref fNam)))
    (lNam : K.lookup fNam = some ⟨ocNam, odNam, .func (PySem.W.fnOf "is_name" "is_name" (defArgs sNam) (defBody sNam) (defScope sNam) .none kVNam dcNam pmNam anNam cdNam ctNam), slNam⟩) (cNam : PySem.W.codeIn K cdNam "is_name" = true) (kNam : PySem.W.keepIn K (.ref fNam) = true)
    {fPair : Addr} {odPair anPair : Option Addr} {slPair : Array (Option Value)} {ocPair kVPair dcPair pmPair cdPair ctPair : Value} (aPair : PySem.W.nsIn K mainGlobals "is_pair" = some (some (.ref fPair)))
    (lPair : K.lookup fPair = some ⟨ocPair, odPair, .func (PySem.W.fnOf "is_pair" "is_pair" (defArgs sPair) (defBody sPair) (defScope sPair) .none kVPair dcPair pmPair anPair cdPair ctPair), slPair⟩) (cPair : PySem.W.codeIn K cdPair "is_pair" = true) (kPair : PySem.W.keepIn K (.ref fPair) = true)
    {fSign : Addr} {odSign anSign : Option Addr} {slSign : Array (Option Value)} {ocSign kVSign dcSign pmSign cdSign ctSign : Value} (aSign : PySem.W.nsIn K mainGlobals "is_sign" = some (some (.ref fSign)))
    (lSign : K.lookup fSign = some ⟨ocSign, odSign, .func (PySem.W.fnOf "is_sign" "is_sign" (defArgs sSign) (defBody sSign) (defScope sSign) .none kVSign dcSign pmSign anSign cdSign ctSign), slSign⟩) (cSign : PySem.W.codeIn K cdSign "is_sign" = true) (kSign : PySem.W.keepIn K (.ref fSign) = true)
    {fHole : Addr} {odHole anHole : Option Addr} {slHole : Array (Option Value)} {ocHole kVHole dcHole pmHole cdHole ctHole : Value} (aHole : PySem.W.nsIn K mainGlobals "is_hole" = some (some (.ref fHole)))
    (lHole : K.lookup fHole = some ⟨ocHole, odHole, .func (PySem.W.fnOf "is_hole" "is_hole" (defArgs sHole) (defBody sHole) (defScope sHole) .none kVHole dcHole pmHole anHole cdHole ctHole), slHole⟩) (cHole : PySem.W.codeIn K cdHole "is_hole" = true) (kHole : PySem.W.keepIn K (.ref fHole) = true)
    {fPlc : Addr} {odPlc anPlc : Option Addr} {slPlc : Array (Option Value)} {ocPlc kVPlc dcPlc pmPlc cdPlc ctPlc : Value} (aPlc : PySem.W.nsIn K mainGlobals "places_by" = some (some (.ref fPlc)))
    (lPlc : K.lookup fPlc = some ⟨ocPlc, odPlc, .func (PySem.W.fnOf "places_by" "places_by" (defArgs sPlc) (defBody sPlc) (defScope sPlc) .none kVPlc dcPlc pmPlc anPlc cdPlc ctPlc), slPlc⟩) (cPlc : PySem.W.codeIn K cdPlc "places_by" = true) (kPlc : PySem.W.keepIn K (.ref fPlc) = true)
    {fBkF : Addr} {odBkF anBkF : Option Addr} {slBkF : Array (Option Value)} {ocBkF kVBkF dcBkF pmBkF cdBkF ctBkF : Value} (aBkF : PySem.W.nsIn K mainGlobals "book_fault" = some (some (.ref fBkF)))
    (lBkF : K.lookup fBkF = some ⟨ocBkF, odBkF, .func (PySem.W.fnOf "book_fault" "book_fault" (defArgs sBkF) (defBody sBkF) (defScope sBkF) .none kVBkF dcBkF pmBkF anBkF cdBkF ctBkF), slBkF⟩) (cBkF : PySem.W.codeIn K cdBkF "book_fault" = true) (kBkF : PySem.W.keepIn K (.ref fBkF) = true)
    {fBk : Addr} {odBk anBk : Option Addr} {slBk : Array (Option Value)} {ocBk kVBk dcBk pmBk cdBk ctBk : Value} (aBk : PySem.W.nsIn K mainGlobals "is_book" = some (some (.ref fBk)))
    (lBk : K.lookup fBk = some ⟨ocBk, odBk, .func (PySem.W.fnOf "is_book" "is_book" (defArgs sBk) (defBody sBk) (defScope sBk) .none kVBk dcBk pmBk anBk cdBk ctBk), slBk⟩) (cBk : PySem.W.codeIn K cdBk "is_book" = true) (kBk : PySem.W.keepIn K (.ref fBk) = true)
    {fWant : Addr} {odWant anWant : Option Addr} {slWant : Array (Option Value)} {ocWant kVWant dcWant pmWant cdWant ctWant : Value} (aWant : PySem.W.nsIn K mainGlobals "want" = some (some (.ref fWant)))
    {tW : Addr} {tWc : Value} {tWd : Option Addr} {tWs : Array (Option Value)} {tWn : Nat} {tWt : Tok}
    (lWant : K.lookup fWant = some ⟨ocWant, odWant, .func (PySem.W.fnOf "want" "want" (defArgs sWant) (defBody sWant) (defScope sWant) (.ref tW) kVWant dcWant pmWant anWant cdWant ctWant), slWant⟩) (cWant : PySem.W.codeIn K cdWant "want" = true) (kWant : PySem.W.keepIn K (.ref fWant) = true)
    {fWBk : Addr} {odWBk anWBk : Option Addr} {slWBk : Array (Option Value)} {ocWBk kVWBk dcWBk pmWBk cdWBk ctWBk : Value} (aWBk : PySem.W.nsIn K mainGlobals "want_book" = some (some (.ref fWBk)))
    (lWBk : K.lookup fWBk = some ⟨ocWBk, odWBk, .func (PySem.W.fnOf "want_book" "want_book" (defArgs sWBk) (defBody sWBk) (defScope sWBk) .none kVWBk dcWBk pmWBk anWBk cdWBk ctWBk), slWBk⟩) (cWBk : PySem.W.codeIn K cdWBk "want_book" = true) (kWBk : PySem.W.keepIn K (.ref fWBk) = true)
    {fHd : Addr} {odHd anHd : Option Addr} {slHd : Array (Option Value)} {ocHd kVHd dcHd pmHd cdHd ctHd : Value} (aHd : PySem.W.nsIn K mainGlobals "is_headed" = some (some (.ref fHd)))
    (lHd : K.lookup fHd = some ⟨ocHd, odHd, .func (PySem.W.fnOf "is_headed" "is_headed" (defArgs sHd) (defBody sHd) (defScope sHd) .none kVHd dcHd pmHd anHd cdHd ctHd), slHd⟩) (cHd : PySem.W.codeIn K cdHd "is_headed" = true) (kHd : PySem.W.keepIn K (.ref fHd) = true)
    {fTmF : Addr} {odTmF anTmF : Option Addr} {slTmF : Array (Option Value)} {ocTmF kVTmF dcTmF pmTmF cdTmF ctTmF : Value} (aTmF : PySem.W.nsIn K mainGlobals "term_fault" = some (some (.ref fTmF)))
    (lTmF : K.lookup fTmF = some ⟨ocTmF, odTmF, .func (PySem.W.fnOf "term_fault" "term_fault" (defArgs sTmF) (defBody sTmF) (defScope sTmF) .none kVTmF dcTmF pmTmF anTmF cdTmF ctTmF), slTmF⟩) (cTmF : PySem.W.codeIn K cdTmF "term_fault" = true) (kTmF : PySem.W.keepIn K (.ref fTmF) = true)
    {fTmB : Addr} {odTmB anTmB : Option Addr} {slTmB : Array (Option Value)} {ocTmB kVTmB dcTmB pmTmB cdTmB ctTmB : Value} (aTmB : PySem.W.nsIn K mainGlobals "is_term_by" = some (some (.ref fTmB)))
    (lTmB : K.lookup fTmB = some ⟨ocTmB, odTmB, .func (PySem.W.fnOf "is_term_by" "is_term_by" (defArgs sTmB) (defBody sTmB) (defScope sTmB) .none kVTmB dcTmB pmTmB anTmB cdTmB ctTmB), slTmB⟩) (cTmB : PySem.W.codeIn K cdTmB "is_term_by" = true) (kTmB : PySem.W.keepIn K (.ref fTmB) = true)
    {fRlB : Addr} {odRlB anRlB : Option Addr} {slRlB : Array (Option Value)} {ocRlB kVRlB dcRlB pmRlB cdRlB ctRlB : Value} (aRlB : PySem.W.nsIn K mainGlobals "is_rule_by" = some (some (.ref fRlB)))
    (lRlB : K.lookup fRlB = some ⟨ocRlB, odRlB, .func (PySem.W.fnOf "is_rule_by" "is_rule_by" (defArgs sRlB) (defBody sRlB) (defScope sRlB) .none kVRlB dcRlB pmRlB anRlB cdRlB ctRlB), slRlB⟩) (cRlB : PySem.W.codeIn K cdRlB "is_rule_by" = true) (kRlB : PySem.W.keepIn K (.ref fRlB) = true)
    {fLot : Addr} {odLot anLot : Option Addr} {slLot : Array (Option Value)} {ocLot kVLot dcLot pmLot cdLot ctLot : Value} (aLot : PySem.W.nsIn K mainGlobals "is_lot" = some (some (.ref fLot)))
    (lLot : K.lookup fLot = some ⟨ocLot, odLot, .func (PySem.W.fnOf "is_lot" "is_lot" (defArgs sLot) (defBody sLot) (defScope sLot) .none kVLot dcLot pmLot anLot cdLot ctLot), slLot⟩) (cLot : PySem.W.codeIn K cdLot "is_lot" = true) (kLot : PySem.W.keepIn K (.ref fLot) = true)
    {fWLot : Addr} {odWLot anWLot : Option Addr} {slWLot : Array (Option Value)} {ocWLot kVWLot dcWLot pmWLot cdWLot ctWLot : Value} (aWLot : PySem.W.nsIn K mainGlobals "want_lot" = some (some (.ref fWLot)))
    (lWLot : K.lookup fWLot = some ⟨ocWLot, odWLot, .func (PySem.W.fnOf "want_lot" "want_lot" (defArgs sWLot) (defBody sWLot) (defScope sWLot) .none kVWLot dcWLot pmWLot anWLot cdWLot ctWLot), slWLot⟩) (cWLot : PySem.W.codeIn K cdWLot "want_lot" = true) (kWLot : PySem.W.keepIn K (.ref fWLot) = true)
    {fNds : Addr} {odNds anNds : Option Addr} {slNds : Array (Option Value)} {ocNds kVNds dcNds pmNds cdNds ctNds : Value} (aNds : PySem.W.nsIn K mainGlobals "nodes_of" = some (some (.ref fNds)))
    (lNds : K.lookup fNds = some ⟨ocNds, odNds, .func (PySem.W.fnOf "nodes_of" "nodes_of" (defArgs sNds) (defBody sNds) (defScope sNds) .none kVNds dcNds pmNds anNds cdNds ctNds), slNds⟩) (cNds : PySem.W.codeIn K cdNds "nodes_of" = true) (kNds : PySem.W.keepIn K (.ref fNds) = true)
    {fOver : Addr} {odOver anOver : Option Addr} {slOver : Array (Option Value)} {ocOver kVOver dcOver pmOver cdOver ctOver : Value} (aOver : PySem.W.nsIn K mainGlobals "is_over" = some (some (.ref fOver)))
    (lOver : K.lookup fOver = some ⟨ocOver, odOver, .func (PySem.W.fnOf "is_over" "is_over" (defArgs sOver) (defBody sOver) (defScope sOver) .none kVOver dcOver pmOver anOver cdOver ctOver), slOver⟩) (cOver : PySem.W.codeIn K cdOver "is_over" = true) (kOver : PySem.W.keepIn K (.ref fOver) = true)
    {fPMB : Addr} {odPMB anPMB : Option Addr} {slPMB : Array (Option Value)} {ocPMB kVPMB dcPMB pmPMB cdPMB ctPMB : Value} (aPMB : PySem.W.nsIn K mainGlobals "path_more_by" = some (some (.ref fPMB)))
    (lPMB : K.lookup fPMB = some ⟨ocPMB, odPMB, .func (PySem.W.fnOf "path_more_by" "path_more_by" (defArgs sPMB) (defBody sPMB) (defScope sPMB) .none kVPMB dcPMB pmPMB anPMB cdPMB ctPMB), slPMB⟩) (cPMB : PySem.W.codeIn K cdPMB "path_more_by" = true) (kPMB : PySem.W.keepIn K (.ref fPMB) = true)
    {fPDn : Addr} {odPDn anPDn : Option Addr} {slPDn : Array (Option Value)} {ocPDn kVPDn dcPDn pmPDn cdPDn ctPDn : Value} (aPDn : PySem.W.nsIn K mainGlobals "is_path_down" = some (some (.ref fPDn)))
    (lPDn : K.lookup fPDn = some ⟨ocPDn, odPDn, .func (PySem.W.fnOf "is_path_down" "is_path_down" (defArgs sPDn) (defBody sPDn) (defScope sPDn) .none kVPDn dcPDn pmPDn anPDn cdPDn ctPDn), slPDn⟩) (cPDn : PySem.W.codeIn K cdPDn "is_path_down" = true) (kPDn : PySem.W.keepIn K (.ref fPDn) = true)
    {fRks : Addr} {odRks anRks : Option Addr} {slRks : Array (Option Value)} {ocRks kVRks dcRks pmRks cdRks ctRks : Value} (aRks : PySem.W.nsIn K mainGlobals "ranks_by" = some (some (.ref fRks)))
    (lRks : K.lookup fRks = some ⟨ocRks, odRks, .func (PySem.W.fnOf "ranks_by" "ranks_by" (defArgs sRks) (defBody sRks) (defScope sRks) .none kVRks dcRks pmRks anRks cdRks ctRks), slRks⟩) (cRks : PySem.W.codeIn K cdRks "ranks_by" = true) (kRks : PySem.W.keepIn K (.ref fRks) = true)
    {fPRk : Addr} {odPRk anPRk : Option Addr} {slPRk : Array (Option Value)} {ocPRk kVPRk dcPRk pmPRk cdPRk ctPRk : Value} (aPRk : PySem.W.nsIn K mainGlobals "path_ranks" = some (some (.ref fPRk)))
    (lPRk : K.lookup fPRk = some ⟨ocPRk, odPRk, .func (PySem.W.fnOf "path_ranks" "path_ranks" (defArgs sPRk) (defBody sPRk) (defScope sPRk) .none kVPRk dcPRk pmPRk anPRk cdPRk ctPRk), slPRk⟩) (cPRk : PySem.W.codeIn K cdPRk "path_ranks" = true) (kPRk : PySem.W.keepIn K (.ref fPRk) = true)
    {fLFd : Addr} {odLFd anLFd : Option Addr} {slLFd : Array (Option Value)} {ocLFd kVLFd dcLFd pmLFd cdLFd ctLFd : Value} (aLFd : PySem.W.nsIn K mainGlobals "_law_feed" = some (some (.ref fLFd)))
    (lLFd : K.lookup fLFd = some ⟨ocLFd, odLFd, .func (PySem.W.fnOf "_law_feed" "_law_feed" (defArgs sLFd) (defBody sLFd) (defScope sLFd) .none kVLFd dcLFd pmLFd anLFd cdLFd ctLFd), slLFd⟩) (cLFd : PySem.W.codeIn K cdLFd "_law_feed" = true) (kLFd : PySem.W.keepIn K (.ref fLFd) = true)
    {fLDr : Addr} {odLDr anLDr : Option Addr} {slLDr : Array (Option Value)} {ocLDr kVLDr dcLDr pmLDr cdLDr ctLDr : Value} (aLDr : PySem.W.nsIn K mainGlobals "_law_draw" = some (some (.ref fLDr)))
    (lLDr : K.lookup fLDr = some ⟨ocLDr, odLDr, .func (PySem.W.fnOf "_law_draw" "_law_draw" (defArgs sLDr) (defBody sLDr) (defScope sLDr) .none kVLDr dcLDr pmLDr anLDr cdLDr ctLDr), slLDr⟩) (cLDr : PySem.W.codeIn K cdLDr "_law_draw" = true) (kLDr : PySem.W.keepIn K (.ref fLDr) = true)
    {fLAn : Addr} {odLAn anLAn : Option Addr} {slLAn : Array (Option Value)} {ocLAn kVLAn dcLAn pmLAn cdLAn ctLAn : Value} (aLAn : PySem.W.nsIn K mainGlobals "_law_any" = some (some (.ref fLAn)))
    (lLAn : K.lookup fLAn = some ⟨ocLAn, odLAn, .func (PySem.W.fnOf "_law_any" "_law_any" (defArgs sLAn) (defBody sLAn) (defScope sLAn) .none kVLAn dcLAn pmLAn anLAn cdLAn ctLAn), slLAn⟩) (cLAn : PySem.W.codeIn K cdLAn "_law_any" = true) (kLAn : PySem.W.keepIn K (.ref fLAn) = true)
    {fLNm : Addr} {odLNm anLNm : Option Addr} {slLNm : Array (Option Value)} {ocLNm kVLNm dcLNm pmLNm cdLNm ctLNm : Value} (aLNm : PySem.W.nsIn K mainGlobals "_law_names" = some (some (.ref fLNm)))
    (lLNm : K.lookup fLNm = some ⟨ocLNm, odLNm, .func (PySem.W.fnOf "_law_names" "_law_names" (defArgs sLNm) (defBody sLNm) (defScope sLNm) .none kVLNm dcLNm pmLNm anLNm cdLNm ctLNm), slLNm⟩) (cLNm : PySem.W.codeIn K cdLNm "_law_names" = true) (kLNm : PySem.W.keepIn K (.ref fLNm) = true)
    {fLBk : Addr} {odLBk anLBk : Option Addr} {slLBk : Array (Option Value)} {ocLBk kVLBk dcLBk pmLBk cdLBk ctLBk : Value} (aLBk : PySem.W.nsIn K mainGlobals "_law_book" = some (some (.ref fLBk)))
    (lLBk : K.lookup fLBk = some ⟨ocLBk, odLBk, .func (PySem.W.fnOf "_law_book" "_law_book" (defArgs sLBk) (defBody sLBk) (defScope sLBk) .none kVLBk dcLBk pmLBk anLBk cdLBk ctLBk), slLBk⟩) (cLBk : PySem.W.codeIn K cdLBk "_law_book" = true) (kLBk : PySem.W.keepIn K (.ref fLBk) = true)
    {fLHo : Addr} {odLHo anLHo : Option Addr} {slLHo : Array (Option Value)} {ocLHo kVLHo dcLHo pmLHo cdLHo ctLHo : Value} (aLHo : PySem.W.nsIn K mainGlobals "_law_holes" = some (some (.ref fLHo)))
    (lLHo : K.lookup fLHo = some ⟨ocLHo, odLHo, .func (PySem.W.fnOf "_law_holes" "_law_holes" (defArgs sLHo) (defBody sLHo) (defScope sLHo) .none kVLHo dcLHo pmLHo anLHo cdLHo ctLHo), slLHo⟩) (cLHo : PySem.W.codeIn K cdLHo "_law_holes" = true) (kLHo : PySem.W.keepIn K (.ref fLHo) = true)
    {fLSz : Addr} {odLSz anLSz : Option Addr} {slLSz : Array (Option Value)} {ocLSz kVLSz dcLSz pmLSz cdLSz ctLSz : Value} (aLSz : PySem.W.nsIn K mainGlobals "_law_size" = some (some (.ref fLSz)))
    (lLSz : K.lookup fLSz = some ⟨ocLSz, odLSz, .func (PySem.W.fnOf "_law_size" "_law_size" (defArgs sLSz) (defBody sLSz) (defScope sLSz) .none kVLSz dcLSz pmLSz anLSz cdLSz ctLSz), slLSz⟩) (cLSz : PySem.W.codeIn K cdLSz "_law_size" = true) (kLSz : PySem.W.keepIn K (.ref fLSz) = true)
    {fLDp : Addr} {odLDp anLDp : Option Addr} {slLDp : Array (Option Value)} {ocLDp kVLDp dcLDp pmLDp cdLDp ctLDp : Value} (aLDp : PySem.W.nsIn K mainGlobals "_law_depth" = some (some (.ref fLDp)))
    (lLDp : K.lookup fLDp = some ⟨ocLDp, odLDp, .func (PySem.W.fnOf "_law_depth" "_law_depth" (defArgs sLDp) (defBody sLDp) (defScope sLDp) .none kVLDp dcLDp pmLDp anLDp cdLDp ctLDp), slLDp⟩) (cLDp : PySem.W.codeIn K cdLDp "_law_depth" = true) (kLDp : PySem.W.keepIn K (.ref fLDp) = true)
    {fLPo : Addr} {odLPo anLPo : Option Addr} {slLPo : Array (Option Value)} {ocLPo kVLPo dcLPo pmLPo cdLPo ctLPo : Value} (aLPo : PySem.W.nsIn K mainGlobals "_law_pool" = some (some (.ref fLPo)))
    (lLPo : K.lookup fLPo = some ⟨ocLPo, odLPo, .func (PySem.W.fnOf "_law_pool" "_law_pool" (defArgs sLPo) (defBody sLPo) (defScope sLPo) .none kVLPo dcLPo pmLPo anLPo cdLPo ctLPo), slLPo⟩) (cLPo : PySem.W.codeIn K cdLPo "_law_pool" = true) (kLPo : PySem.W.keepIn K (.ref fLPo) = true)
    {fLRu : Addr} {odLRu anLRu : Option Addr} {slLRu : Array (Option Value)} {ocLRu kVLRu dcLRu pmLRu cdLRu ctLRu : Value} (aLRu : PySem.W.nsIn K mainGlobals "_law_rules" = some (some (.ref fLRu)))
    (lLRu : K.lookup fLRu = some ⟨ocLRu, odLRu, .func (PySem.W.fnOf "_law_rules" "_law_rules" (defArgs sLRu) (defBody sLRu) (defScope sLRu) .none kVLRu dcLRu pmLRu anLRu cdLRu ctLRu), slLRu⟩) (cLRu : PySem.W.codeIn K cdLRu "_law_rules" = true) (kLRu : PySem.W.keepIn K (.ref fLRu) = true)
    {fLNd : Addr} {odLNd anLNd : Option Addr} {slLNd : Array (Option Value)} {ocLNd kVLNd dcLNd pmLNd cdLNd ctLNd : Value} (aLNd : PySem.W.nsIn K mainGlobals "_law_nodes" = some (some (.ref fLNd)))
    (lLNd : K.lookup fLNd = some ⟨ocLNd, odLNd, .func (PySem.W.fnOf "_law_nodes" "_law_nodes" (defArgs sLNd) (defBody sLNd) (defScope sLNd) .none kVLNd dcLNd pmLNd anLNd cdLNd ctLNd), slLNd⟩) (cLNd : PySem.W.codeIn K cdLNd "_law_nodes" = true) (kLNd : PySem.W.keepIn K (.ref fLNd) = true)
    {fLCa : Addr} {odLCa anLCa : Option Addr} {slLCa : Array (Option Value)} {ocLCa kVLCa dcLCa pmLCa cdLCa ctLCa : Value} (aLCa : PySem.W.nsIn K mainGlobals "_law_path_case" = some (some (.ref fLCa)))
    (lLCa : K.lookup fLCa = some ⟨ocLCa, odLCa, .func (PySem.W.fnOf "_law_path_case" "_law_path_case" (defArgs sLCa) (defBody sLCa) (defScope sLCa) .none kVLCa dcLCa pmLCa anLCa cdLCa ctLCa), slLCa⟩) (cLCa : PySem.W.codeIn K cdLCa "_law_path_case" = true) (kLCa : PySem.W.keepIn K (.ref fLCa) = true)
    {fLPM : Addr} {odLPM anLPM : Option Addr} {slLPM : Array (Option Value)} {ocLPM kVLPM dcLPM pmLPM cdLPM ctLPM : Value} (aLPM : PySem.W.nsIn K mainGlobals "_law_path_more" = some (some (.ref fLPM)))
    (lLPM : K.lookup fLPM = some ⟨ocLPM, odLPM, .func (PySem.W.fnOf "_law_path_more" "_law_path_more" (defArgs sLPM) (defBody sLPM) (defScope sLPM) .none kVLPM dcLPM pmLPM anLPM cdLPM ctLPM), slLPM⟩) (cLPM : PySem.W.codeIn K cdLPM "_law_path_more" = true) (kLPM : PySem.W.keepIn K (.ref fLPM) = true)
    {fLRk : Addr} {odLRk anLRk : Option Addr} {slLRk : Array (Option Value)} {ocLRk kVLRk dcLRk pmLRk cdLRk ctLRk : Value} (aLRk : PySem.W.nsIn K mainGlobals "_law_ranks" = some (some (.ref fLRk)))
    (lLRk : K.lookup fLRk = some ⟨ocLRk, odLRk, .func (PySem.W.fnOf "_law_ranks" "_law_ranks" (defArgs sLRk) (defBody sLRk) (defScope sLRk) .none kVLRk dcLRk pmLRk anLRk cdLRk ctLRk), slLRk⟩) (cLRk : PySem.W.codeIn K cdLRk "_law_ranks" = true) (kLRk : PySem.W.keepIn K (.ref fLRk) = true)
    {fLSv : Addr} {odLSv anLSv : Option Addr} {slLSv : Array (Option Value)} {ocLSv kVLSv dcLSv pmLSv cdLSv ctLSv : Value} (aLSv : PySem.W.nsIn K mainGlobals "_law_serves" = some (some (.ref fLSv)))
    (lLSv : K.lookup fLSv = some ⟨ocLSv, odLSv, .func (PySem.W.fnOf "_law_serves" "_law_serves" (defArgs sLSv) (defBody sLSv) (defScope sLSv) .none kVLSv dcLSv pmLSv anLSv cdLSv ctLSv), slLSv⟩) (cLSv : PySem.W.codeIn K cdLSv "_law_serves" = true) (kLSv : PySem.W.keepIn K (.ref fLSv) = true)
    {fLaw : Addr} {odLaw anLaw : Option Addr} {slLaw : Array (Option Value)} {ocLaw kVLaw dcLaw pmLaw cdLaw ctLaw : Value} (aLaw : PySem.W.nsIn K mainGlobals "law" = some (some (.ref fLaw)))
    (lLaw : K.lookup fLaw = some ⟨ocLaw, odLaw, .func (PySem.W.fnOf "law" "law" (defArgs sLaw) (defBody sLaw) (defScope sLaw) .none kVLaw dcLaw pmLaw anLaw cdLaw ctLaw), slLaw⟩) (cLaw : PySem.W.codeIn K cdLaw "law" = true) (kLaw : PySem.W.keepIn K (.ref fLaw) = true)
    (lW : K.lookup tW = some ⟨tWc, tWd, .seq #[.int (-1) tWt] tWn, tWs⟩)
    {tL tML tMP : Tok} (mL : PySem.W.nsIn K mainGlobals "LETTERS" = some (some (.str "abcdefghijklmnopqrstuvwxyz" tL))) (mM : PySem.W.nsIn K mainGlobals "MOST_LETTERS" = some (some (.int 8 tML))) (mP : PySem.W.nsIn K mainGlobals "MOST_PLACES" = some (some (.int 3 tMP)))
    (zisinstance : PySem.W.nsIn K mainGlobals "isinstance" = some none) (zint : PySem.W.nsIn K mainGlobals "int" = some none) (zbool : PySem.W.nsIn K mainGlobals "bool" = some none) (zstr : PySem.W.nsIn K mainGlobals "str" = some none) (ztuple : PySem.W.nsIn K mainGlobals "tuple" = some none) (zlist : PySem.W.nsIn K mainGlobals "list" = some none) (zset : PySem.W.nsIn K mainGlobals "set" = some none) (zlen : PySem.W.nsIn K mainGlobals "len" = some none) (zall : PySem.W.nsIn K mainGlobals "all" = some none) (zany : PySem.W.nsIn K mainGlobals "any" = some none) (zenumerate : PySem.W.nsIn K mainGlobals "enumerate" = some none) (zzip : PySem.W.nsIn K mainGlobals "zip" = some none) (zreversed : PySem.W.nsIn K mainGlobals "reversed" = some none) (zrange : PySem.W.nsIn K mainGlobals "range" = some none) (zsorted : PySem.W.nsIn K mainGlobals "sorted" = some none) (zrepr : PySem.W.nsIn K mainGlobals "repr" = some none) :
    ∃ fd : FuncData, (∀ (s : Shared) (v : Value), BindsTo s fd ⟨[v], []⟩ [("_law_script", v)]) ∧ ∀ base : Heap, K.In base → base.Ns mainGlobals mg → RunAt l.prog w K mg base 17 callerA fa fd pLaw (spLaw K) := by
  have e := hfa.symm.trans (PySem.W.mg_of X G aLaw)
  cases e
  have T : Txt mg := ⟨PySem.W.mg_none_of X G zisinstance, PySem.W.mg_none_of X G zint, PySem.W.mg_none_of X G zbool, PySem.W.mg_none_of X G zstr, PySem.W.mg_none_of X G ztuple, PySem.W.mg_none_of X G zlist, PySem.W.mg_none_of X G zset, PySem.W.mg_none_of X G zlen, PySem.W.mg_none_of X G zall, PySem.W.mg_none_of X G zany, PySem.W.mg_none_of X G zenumerate, PySem.W.mg_none_of X G zzip, PySem.W.mg_none_of X G zreversed, PySem.W.mg_none_of X G zrange, PySem.W.mg_none_of X G zsorted, PySem.W.mg_none_of X G zrepr, ⟨_, PySem.W.mg_of X G mL⟩, ⟨_, PySem.W.mg_of X G mM⟩, ⟨_, PySem.W.mg_of X G mP⟩⟩
  have gInt := PySem.W.mg_of X G aInt
  have FInt := fun_mk (st := sInt) lInt cInt kInt
  have bInt := FInt.binds (ps := pInt) fun _ _ _ _ _ _ us hl => match us, hl with | [_], _ => rfl
  have gNum := PySem.W.mg_of X G aNum
  have FNum := fun_mk (st := sNum) lNum cNum kNum
  have bNum := FNum.binds (ps := pNum) fun _ _ _ _ _ _ us hl => match us, hl with | [_], _ => rfl
  have gNam := PySem.W.mg_of X G aNam
  have FNam := fun_mk (st := sNam) lNam cNam kNam
  have bNam := FNam.binds (ps := pNam) fun _ _ _ _ _ _ us hl => match us, hl with | [_], _ => rfl
  have gPair := PySem.W.mg_of X G aPair
  have FPair := fun_mk (st := sPair) lPair cPair kPair
  have bPair := FPair.binds (ps := pPair) fun _ _ _ _ _ _ us hl => match us, hl with | [_], _ => rfl
  have gSign := PySem.W.mg_of X G aSign
  have FSign := fun_mk (st := sSign) lSign cSign kSign
  have bSign := FSign.binds (ps := pSign) fun _ _ _ _ _ _ us hl => match us, hl with | [_], _ => rfl
  have gHole := PySem.W.mg_of X G aHole
  have FHole := fun_mk (st := sHole) lHole cHole kHole
  have bHole := FHole.binds (ps := pHole) fun _ _ _ _ _ _ us hl => match us, hl with | [_], _ => rfl
  have gPlc := PySem.W.mg_of X G aPlc
  have FPlc := fun_mk (st := sPlc) lPlc cPlc kPlc
  have bPlc := FPlc.binds (ps := pPlc) fun _ _ _ _ _ _ us hl => match us, hl with | [_], _ => rfl
  have gBkF := PySem.W.mg_of X G aBkF
  have FBkF := fun_mk (st := sBkF) lBkF cBkF kBkF
  have bBkF := FBkF.binds (ps := pBkF) fun _ _ _ _ _ _ us hl => match us, hl with | [_], _ => rfl
  have gBk := PySem.W.mg_of X G aBk
  have FBk := fun_mk (st := sBk) lBk cBk kBk
  have bBk := FBk.binds (ps := pBk) fun _ _ _ _ _ _ us hl => match us, hl with | [_], _ => rfl
  have gWant := PySem.W.mg_of X G aWant
  have gWBk := PySem.W.mg_of X G aWBk
  have FWBk := fun_mk (st := sWBk) lWBk cWBk kWBk
  have bWBk := FWBk.binds (ps := pWBk) fun _ _ _ _ _ _ us hl => match us, hl with | [_], _ => rfl
  have gHd := PySem.W.mg_of X G aHd
  have FHd := fun_mk (st := sHd) lHd cHd kHd
  have bHd := FHd.binds (ps := pHd) fun _ _ _ _ _ _ us hl => match us, hl with | [_, _], _ => rfl
  have gTmF := PySem.W.mg_of X G aTmF
  have FTmF := fun_mk (st := sTmF) lTmF cTmF kTmF
  have bTmF := FTmF.binds (ps := pTmF) fun _ _ _ _ _ _ us hl => match us, hl with | [_, _], _ => rfl
  have gTmB := PySem.W.mg_of X G aTmB
  have FTmB := fun_mk (st := sTmB) lTmB cTmB kTmB
  have bTmB := FTmB.binds (ps := pTmB) fun _ _ _ _ _ _ us hl => match us, hl with | [_, _], _ => rfl
  have gRlB := PySem.W.mg_of X G aRlB
  have FRlB := fun_mk (st := sRlB) lRlB cRlB kRlB
  have bRlB := FRlB.binds (ps := pRlB) fun _ _ _ _ _ _ us hl => match us, hl with | [_, _], _ => rfl
  have gLot := PySem.W.mg_of X G aLot
  have FLot := fun_mk (st := sLot) lLot cLot kLot
  have bLot := FLot.binds (ps := pLot) fun _ _ _ _ _ _ us hl => match us, hl with | [_, _], _ => rfl
  have gWLot := PySem.W.mg_of X G aWLot
  have FWLot := fun_mk (st := sWLot) lWLot cWLot kWLot
  have bWLot := FWLot.binds (ps := pWLot) fun _ _ _ _ _ _ us hl => match us, hl with | [_, _], _ => rfl
  have gNds := PySem.W.mg_of X G aNds
  have FNds := fun_mk (st := sNds) lNds cNds kNds
  have bNds := FNds.binds (ps := pNds) fun _ _ _ _ _ _ us hl => match us, hl with | [_], _ => rfl
  have gOver := PySem.W.mg_of X G aOver
  have FOver := fun_mk (st := sOver) lOver cOver kOver
  have bOver := FOver.binds (ps := pOver) fun _ _ _ _ _ _ us hl => match us, hl with | [_, _, _, _, _, _], _ => rfl
  have gPMB := PySem.W.mg_of X G aPMB
  have FPMB := fun_mk (st := sPMB) lPMB cPMB kPMB
  have bPMB := FPMB.binds (ps := pPMB) fun _ _ _ _ _ _ us hl => match us, hl with | [_, _, _], _ => rfl
  have gPDn := PySem.W.mg_of X G aPDn
  have FPDn := fun_mk (st := sPDn) lPDn cPDn kPDn
  have bPDn := FPDn.binds (ps := pPDn) fun _ _ _ _ _ _ us hl => match us, hl with | [_, _], _ => rfl
  have gRks := PySem.W.mg_of X G aRks
  have FRks := fun_mk (st := sRks) lRks cRks kRks
  have bRks := FRks.binds (ps := pRks) fun _ _ _ _ _ _ us hl => match us, hl with | [_], _ => rfl
  have gPRk := PySem.W.mg_of X G aPRk
  have FPRk := fun_mk (st := sPRk) lPRk cPRk kPRk
  have bPRk := FPRk.binds (ps := pPRk) fun _ _ _ _ _ _ us hl => match us, hl with | [_, _], _ => rfl
  have gLFd := PySem.W.mg_of X G aLFd
  have FLFd := fun_mk (st := sLFd) lLFd cLFd kLFd
  have bLFd := FLFd.binds (ps := pLFd) fun _ _ _ _ _ _ us hl => match us, hl with | [_], _ => rfl
  have gLDr := PySem.W.mg_of X G aLDr
  have FLDr := fun_mk (st := sLDr) lLDr cLDr kLDr
  have bLDr := FLDr.binds (ps := pLDr) fun _ _ _ _ _ _ us hl => match us, hl with | [_, _], _ => rfl
  have gLAn := PySem.W.mg_of X G aLAn
  have FLAn := fun_mk (st := sLAn) lLAn cLAn kLAn
  have bLAn := FLAn.binds (ps := pLAn) fun _ _ _ _ _ _ us hl => match us, hl with | [_, _], _ => rfl
  have gLNm := PySem.W.mg_of X G aLNm
  have FLNm := fun_mk (st := sLNm) lLNm cLNm kLNm
  have bLNm := FLNm.binds (ps := pLNm) fun _ _ _ _ _ _ us hl => match us, hl with | [_, _], _ => rfl
  have gLBk := PySem.W.mg_of X G aLBk
  have FLBk := fun_mk (st := sLBk) lLBk cLBk kLBk
  have bLBk := FLBk.binds (ps := pLBk) fun _ _ _ _ _ _ us hl => match us, hl with | [_, _], _ => rfl
  have gLHo := PySem.W.mg_of X G aLHo
  have FLHo := fun_mk (st := sLHo) lLHo cLHo kLHo
  have bLHo := FLHo.binds (ps := pLHo) fun _ _ _ _ _ _ us hl => match us, hl with | [_], _ => rfl
  have gLSz := PySem.W.mg_of X G aLSz
  have FLSz := fun_mk (st := sLSz) lLSz cLSz kLSz
  have bLSz := FLSz.binds (ps := pLSz) fun _ _ _ _ _ _ us hl => match us, hl with | [_], _ => rfl
  have gLDp := PySem.W.mg_of X G aLDp
  have FLDp := fun_mk (st := sLDp) lLDp cLDp kLDp
  have bLDp := FLDp.binds (ps := pLDp) fun _ _ _ _ _ _ us hl => match us, hl with | [_], _ => rfl
  have gLPo := PySem.W.mg_of X G aLPo
  have FLPo := fun_mk (st := sLPo) lLPo cLPo kLPo
  have bLPo := FLPo.binds (ps := pLPo) fun _ _ _ _ _ _ us hl => match us, hl with | [_, _, _, _, _], _ => rfl
  have gLRu := PySem.W.mg_of X G aLRu
  have FLRu := fun_mk (st := sLRu) lLRu cLRu kLRu
  have bLRu := FLRu.binds (ps := pLRu) fun _ _ _ _ _ _ us hl => match us, hl with | [_, _, _, _], _ => rfl
  have gLNd := PySem.W.mg_of X G aLNd
  have FLNd := fun_mk (st := sLNd) lLNd cLNd kLNd
  have bLNd := FLNd.binds (ps := pLNd) fun _ _ _ _ _ _ us hl => match us, hl with | [_], _ => rfl
  have gLCa := PySem.W.mg_of X G aLCa
  have FLCa := fun_mk (st := sLCa) lLCa cLCa kLCa
  have bLCa := FLCa.binds (ps := pLCa) fun _ _ _ _ _ _ us hl => match us, hl with | [_, _, _, _, _, _], _ => rfl
  have gLPM := PySem.W.mg_of X G aLPM
  have FLPM := fun_mk (st := sLPM) lLPM cLPM kLPM
  have bLPM := FLPM.binds (ps := pLPM) fun _ _ _ _ _ _ us hl => match us, hl with | [_, _, _], _ => rfl
  have gLRk := PySem.W.mg_of X G aLRk
  have FLRk := fun_mk (st := sLRk) lLRk cLRk kLRk
  have bLRk := FLRk.binds (ps := pLRk) fun _ _ _ _ _ _ us hl => match us, hl with | [_], _ => rfl
  have gLSv := PySem.W.mg_of X G aLSv
  have FLSv := fun_mk (st := sLSv) lLSv cLSv kLSv
  have bLSv := FLSv.binds (ps := pLSv) fun _ _ _ _ _ _ us hl => match us, hl with | [_, _], _ => rfl
  have gLaw := PySem.W.mg_of X G aLaw
  have FLaw := fun_mk (st := sLaw) lLaw cLaw kLaw
  have FWant : FunD K "want" "want" (defArgs sWant) (defBody sWant) (defScope sWant) [.int (-1)] [] fWant _ := ⟨⟨_, _, _, _, _, _, _, _, _, _, rfl, lWant, cWant, .inr ⟨(fun e => nomatch e), tW, _, [.int (-1) tWt], _, rfl, lW, rfl, .cons ⟨_, rfl⟩ .nil⟩, .inl rfl⟩, kWant⟩
  obtain ⟨dsW, vsW, bW⟩ := FWant.binds1 (ps := pWant) 2 0 (fun e => nomatch e) rfl fun _ _ _ _ _ _ _ us its h1 h2 => match us, its, h1, h2 with | [_, _], [_], _, _ => ⟨_, rfl, rfl⟩
  have kb : KBinds K _ pPRk ["lot", "book"] swap2 swap2 := ⟨fun s us ws XX hl => by
    obtain ⟨rfl, l', b', rfl⟩ := swap2_len (show (swap2 us ws).length = 2 from hl)
    exact BindsTo.of_eq (fd := PySem.W.fnOf "path_ranks" "path_ranks" (defArgs sPRk) (defBody sPRk) (defScope sPRk) .none kVPRk dcPRk pmPRk anPRk cdPRk ctPRk) rfl, swap2_rel⟩
  refine ⟨PySem.W.fnOf "law" "law" (defArgs sLaw) (defBody sLaw) (defScope sLaw) .none kVLaw dcLaw pmLaw anLaw cdLaw ctLaw, fun s v => .of_eq rfl, fun base _ _ => ?_⟩
  have DInt : Def l.prog w K mg base 1 "is_integer" pInt (spInt K) := ⟨fInt, _, ok_int (k := 0) FInt T, gInt, kInt, bInt⟩
  have DNum : Def l.prog w K mg base 2 "is_number" pNum (spNum K) := ⟨fNum, _, ok_num (k := 1) FNum T DInt, gNum, kNum, bNum⟩
  have DNam : Def l.prog w K mg base 1 "is_name" pNam (spNam) := ⟨fNam, _, ok_nam (k := 0) FNam T, gNam, kNam, bNam⟩
  have DPair : Def l.prog w K mg base 1 "is_pair" pPair (spPair K) := ⟨fPair, _, ok_pair (k := 0) FPair T, gPair, kPair, bPair⟩
  have DSign : Def l.prog w K mg base 3 "is_sign" pSign (spSign K) := ⟨fSign, _, ok_sign (k := 2) FSign T (DPair.le (by decide)) (DNam.le (by decide)) DNum, gSign, kSign, bSign⟩
  have DHole : Def l.prog w K mg base 3 "is_hole" pHole (spHole K) := ⟨fHole, _, ok_hole (k := 2) FHole DNum, gHole, kHole, bHole⟩
  have DPlc : Def l.prog w K mg base 1 "places_by" pPlc (spPlc K) := ⟨fPlc, _, ok_plc (k := 0) FPlc, gPlc, kPlc, bPlc⟩
  have DBkF : Def l.prog w K mg base 4 "book_fault" pBkF (spBkF K) := ⟨fBkF, _, ok_bkF (k := 3) FBkF T DSign, gBkF, kBkF, bBkF⟩
  have DBk : Def l.prog w K mg base 5 "is_book" pBk (spBk K) := ⟨fBk, _, ok_bk (k := 4) FBk DBkF, gBk, kBk, bBk⟩
  have DWant : DefD l.prog w K mg base 1 "want" pWant [.int (-1)] spWant := ⟨fWant, _, dsW, ok_want (k := 0) FWant, gWant, kWant, bW, vsW⟩
  have DWBk : Def l.prog w K mg base 6 "want_book" pWBk (spWBk K) := ⟨fWBk, _, ok_wbk (k := 5) FWBk (DWant.le (by decide)) DBk, gWBk, kWBk, bWBk⟩
  have DHd : Def l.prog w K mg base 1 "is_headed" pHd (spHd K) := ⟨fHd, _, ok_hd (k := 0) FHd T, gHd, kHd, bHd⟩
  have DTmF : Def l.prog w K mg base 11 "term_fault" pTmF (spTmF K 7) := ⟨fTmF, _, ok_tmF (k := 3) FTmF gTmF bTmF T DHole (DHd.le (by decide)) 7, gTmF, kTmF, bTmF⟩
  have DTmB : Def l.prog w K mg base 12 "is_term_by" pTmB (spTmB K) := ⟨fTmB, _, ok_tmB (k := 11) FTmB DTmF, gTmB, kTmB, bTmB⟩
  have DRlB : Def l.prog w K mg base 13 "is_rule_by" pRlB (spRlB K) := ⟨fRlB, _, ok_rlB (k := 12) FRlB (DPair.le (by decide)) DTmB, gRlB, kRlB, bRlB⟩
  have DLot : Def l.prog w K mg base 14 "is_lot" pLot (spLot K) := ⟨fLot, _, ok_lot (k := 13) FLot T (DWBk.le (by decide)) (DPlc.le (by decide)) DRlB, gLot, kLot, bLot⟩
  have DWLot : Def l.prog w K mg base 15 "want_lot" pWLot (spWLot K) := ⟨fWLot, _, ok_wlot (k := 14) FWLot (DWant.le (by decide)) DLot, gWLot, kWLot, bWLot⟩
  have DNds : Def l.prog w K mg base 4 "nodes_of" pNds (spNds K) := ⟨fNds, _, ok_nds (k := 3) FNds T DHole, gNds, kNds, bNds⟩
  have DOver : Def l.prog w K mg base 4 "is_over" pOver (spOver K) := ⟨fOver, _, ok_over (k := 3) FOver T DHole, gOver, kOver, bOver⟩
  have DPMB : Def l.prog w K mg base 5 "path_more_by" pPMB (spPMB K) := ⟨fPMB, _, ok_pmb (k := 4) FPMB T DNds DOver, gPMB, kPMB, bPMB⟩
  have DPDn : Def l.prog w K mg base 6 "is_path_down" pPDn (spPDn K) := ⟨fPDn, _, ok_pdn (k := 5) FPDn T DPMB, gPDn, kPDn, bPDn⟩
  have DRks : Def l.prog w K mg base 1 "ranks_by" pRks (spRks K) := ⟨fRks, _, ok_rks (k := 0) FRks T, gRks, kRks, bRks⟩
  have GPRk := ok_prk (k := 15) (base := base) (w := w) (P := l.prog) FPRk T DWLot (DRks.le (by decide)) (DPDn.le (by decide))
  have DLFd : Def l.prog w K mg base 1 "_law_feed" pLFd (spLFd K) := ⟨fLFd, _, ok_lfd (k := 0) FLFd T, gLFd, kLFd, bLFd⟩
  have DLDr : Def l.prog w K mg base 1 "_law_draw" pLDr (spLDr K) := ⟨fLDr, _, ok_ldr (k := 0) FLDr T, gLDr, kLDr, bLDr⟩
  have DLAn : Def l.prog w K mg base 2 "_law_any" pLAn (spLAn K) := ⟨fLAn, _, ok_lan (k := 1) FLAn T DLDr, gLAn, kLAn, bLAn⟩
  have DLNm : Def l.prog w K mg base 3 "_law_names" pLNm (spLNm K) := ⟨fLNm, _, ok_lnm (k := 2) FLNm T DLAn (DLDr.le (by decide)), gLNm, kLNm, bLNm⟩
  have DLBk : Def l.prog w K mg base 4 "_law_book" pLBk (spLBk K) := ⟨fLBk, _, ok_lbk (k := 3) FLBk T (DLAn.le (by decide)) DLNm, gLBk, kLBk, bLBk⟩
  have DLHo : Def l.prog w K mg base 1 "_law_holes" pLHo (spLHo K) := ⟨fLHo, _, ok_lho (k := 0) FLHo T, gLHo, kLHo, bLHo⟩
  have DLSz : Def l.prog w K mg base 1 "_law_size" pLSz (spLSz K) := ⟨fLSz, _, ok_lsz (k := 0) FLSz T, gLSz, kLSz, bLSz⟩
  have DLDp : Def l.prog w K mg base 1 "_law_depth" pLDp (spLDp K) := ⟨fLDp, _, ok_ldp (k := 0) FLDp T, gLDp, kLDp, bLDp⟩
  have DLPo : Def l.prog w K mg base 3 "_law_pool" pLPo (spLPo K) := ⟨fLPo, _, ok_lpo (k := 2) FLPo T DLAn (DLSz.le (by decide)) (DLDp.le (by decide)), gLPo, kLPo, bLPo⟩
  have DLRu : Def l.prog w K mg base 4 "_law_rules" pLRu (spLRu K) := ⟨fLRu, _, ok_lru (k := 3) FLRu T (DLAn.le (by decide)) (DLDr.le (by decide)) DLPo (DLHo.le (by decide)), gLRu, kLRu, bLRu⟩
  have DLNd : Def l.prog w K mg base 1 "_law_nodes" pLNd (spLNd K) := ⟨fLNd, _, ok_lnd (k := 0) FLNd T, gLNd, kLNd, bLNd⟩
  have DLCa : Def l.prog w K mg base 1 "_law_path_case" pLCa (spLCa K) := ⟨fLCa, _, ok_lca (k := 0) FLCa T, gLCa, kLCa, bLCa⟩
  have DLPM : Def l.prog w K mg base 2 "_law_path_more" pLPM (spLPM K) := ⟨fLPM, _, ok_lpm (k := 1) FLPM T DLNd DLCa, gLPM, kLPM, bLPM⟩
  have DLRk : Def l.prog w K mg base 1 "_law_ranks" pLRk (spLRk K) := ⟨fLRk, _, ok_lrk (k := 0) FLRk T, gLRk, kLRk, bLRk⟩
  have DLSv : Def l.prog w K mg base 3 "_law_serves" pLSv (spLSv K) := ⟨fLSv, _, ok_lsv (k := 2) FLSv T DLPM, gLSv, kLSv, bLSv⟩
  exact ok_law (k := 16) FLaw T (DLFd.le (by decide)) (DLBk.le (by decide)) (DLRu.le (by decide)) (DLRk.le (by decide)) (DLSv.le (by decide)) ⟨fPRk, _, GPRk, gPRk, kPRk, bPRk⟩ kb
theorem walk {l : PySem.W.OpenLaw} {q : Program} {loose : List Str} {XP : (Str → Option Value) → Heap → Prop} {YP : World → Heap → Prop} {d : DefRec} {K : Params → PySem.W.Frag} (hn : l.most = some 63) (hdf : d.params.defaults = [])
    (hY : ∀ (w : World) (h : Heap), YP w h → (K w.params).In h)
    (F : ∀ (w : World) (mg : Str → Option Value) (fa : Addr) (h : Heap), (K w.params).In h → h.Ns mainGlobals mg → mg d.name = some (.ref fa) →
      ∃ fd : FuncData, (∀ (s : Shared) (u : Value), BindsTo s fd ⟨[u], []⟩ [("_law_script", u)]) ∧ ∀ base : Heap, (K w.params).In base → base.Ns mainGlobals mg → RunAt l.prog w (K w.params) mg base 17 callerA fa fd pLaw (spLaw (K w.params))) :
    PySem.W.WalkO q loose XP YP l.row.toRowW d [] (fun f vs => PySem.call f vs) :=
  walk_at (n := 63) (k := 17) (x := "_law_script") (sp := fun w => spLaw (K w.params)) hn (by decide) hdf ⟨rfl, by decide, by decide⟩ hY F fun _ _ a ns hS => ⟨a, ns, rfl, hS, fun _ => rfl⟩
end Rk
open PySem PySem.W PyProof.Rows in
set_option maxRecDepth 100000 in
set_option maxHeartbeats 0 in
theorem PySem.Challenge.cw_rankweights_k50_whole_path_ranks_holds : PySem.Challenge.rw_rankweights_k50_whole_path_ranks.Holds := by
  w_on; o_law; k_head; (case hw => w_witness2)
  k_fill
  refine Rk.walk (l := PySem.Challenge.rw_rankweights_k50_whole_path_ranks) rfl rfl (fun w h Y => PySem.W.kIn_of Y) ?F
  case F =>
    intro w mg fa h KX G hmg
    refine' Rk.all_mk KX G hmg ?aInt ?lInt ?cInt ?kInt ?aNum ?lNum ?cNum ?kNum ?aNam ?lNam ?cNam ?kNam ?aPair ?lPair ?cPair ?kPair ?aSign ?lSign ?cSign ?kSign ?aHole ?lHole ?cHole ?kHole ?aPlc ?lPlc ?cPlc ?kPlc ?aBkF ?lBkF ?cBkF ?kBkF ?aBk ?lBk ?cBk ?kBk ?aWant ?lWant ?cWant ?kWant ?aWBk ?lWBk ?cWBk ?kWBk ?aHd ?lHd ?cHd ?kHd ?aTmF ?lTmF ?cTmF ?kTmF ?aTmB ?lTmB ?cTmB ?kTmB ?aRlB ?lRlB ?cRlB ?kRlB ?aLot ?lLot ?cLot ?kLot ?aWLot ?lWLot ?cWLot ?kWLot ?aNds ?lNds ?cNds ?kNds ?aOver ?lOver ?cOver ?kOver ?aPMB ?lPMB ?cPMB ?kPMB ?aPDn ?lPDn ?cPDn ?kPDn ?aRks ?lRks ?cRks ?kRks ?aPRk ?lPRk ?cPRk ?kPRk ?aLFd ?lLFd ?cLFd ?kLFd ?aLDr ?lLDr ?cLDr ?kLDr ?aLAn ?lLAn ?cLAn ?kLAn ?aLNm ?lLNm ?cLNm ?kLNm ?aLBk ?lLBk ?cLBk ?kLBk ?aLHo ?lLHo ?cLHo ?kLHo ?aLSz ?lLSz ?cLSz ?kLSz ?aLDp ?lLDp ?cLDp ?kLDp ?aLPo ?lLPo ?cLPo ?kLPo ?aLRu ?lLRu ?cLRu ?kLRu ?aLNd ?lLNd ?cLNd ?kLNd ?aLCa ?lLCa ?cLCa ?kLCa ?aLPM ?lLPM ?cLPM ?kLPM ?aLRk ?lLRk ?cLRk ?kLRk ?aLSv ?lLSv ?cLSv ?kLSv ?aLaw ?lLaw ?cLaw ?kLaw ?lW ?mL ?mM ?mP ?zisinstance ?zint ?zbool ?zstr ?ztuple ?zlist ?zset ?zlen ?zall ?zany ?zenumerate ?zzip ?zreversed ?zrange ?zsorted ?zrepr
    (case aInt => k_is)
    (case lInt => k_is)
    (case cInt => k_is)
    (case kInt => k_is)
    (case aNum => k_is)
    (case lNum => k_is)
    (case cNum => k_is)
    (case kNum => k_is)
    (case aNam => k_is)
    (case lNam => k_is)
    (case cNam => k_is)
    (case kNam => k_is)
    (case aPair => k_is)
    (case lPair => k_is)
    (case cPair => k_is)
    (case kPair => k_is)
    (case aSign => k_is)
    (case lSign => k_is)
    (case cSign => k_is)
    (case kSign => k_is)
    (case aHole => k_is)
    (case lHole => k_is)
    (case cHole => k_is)
    (case kHole => k_is)
    (case aPlc => k_is)
    (case lPlc => k_is)
    (case cPlc => k_is)
    (case kPlc => k_is)
    (case aBkF => k_is)
    (case lBkF => k_is)
    (case cBkF => k_is)
    (case kBkF => k_is)
    (case aBk => k_is)
    (case lBk => k_is)
    (case cBk => k_is)
    (case kBk => k_is)
    (case aWant => k_is)
    (case lWant => k_is)
    (case cWant => k_is)
    (case kWant => k_is)
    (case aWBk => k_is)
    (case lWBk => k_is)
    (case cWBk => k_is)
    (case kWBk => k_is)
    (case aHd => k_is)
    (case lHd => k_is)
    (case cHd => k_is)
    (case kHd => k_is)
    (case aTmF => k_is)
    (case lTmF => k_is)
    (case cTmF => k_is)
    (case kTmF => k_is)
    (case aTmB => k_is)
    (case lTmB => k_is)
    (case cTmB => k_is)
    (case kTmB => k_is)
    (case aRlB => k_is)
    (case lRlB => k_is)
    (case cRlB => k_is)
    (case kRlB => k_is)
    (case aLot => k_is)
    (case lLot => k_is)
    (case cLot => k_is)
    (case kLot => k_is)
    (case aWLot => k_is)
    (case lWLot => k_is)
    (case cWLot => k_is)
    (case kWLot => k_is)
    (case aNds => k_is)
    (case lNds => k_is)
    (case cNds => k_is)
    (case kNds => k_is)
    (case aOver => k_is)
    (case lOver => k_is)
    (case cOver => k_is)
    (case kOver => k_is)
    (case aPMB => k_is)
    (case lPMB => k_is)
    (case cPMB => k_is)
    (case kPMB => k_is)
    (case aPDn => k_is)
    (case lPDn => k_is)
    (case cPDn => k_is)
    (case kPDn => k_is)
    (case aRks => k_is)
    (case lRks => k_is)
    (case cRks => k_is)
    (case kRks => k_is)
    (case aPRk => k_is)
    (case lPRk => k_is)
    (case cPRk => k_is)
    (case kPRk => k_is)
    (case aLFd => k_is)
    (case lLFd => k_is)
    (case cLFd => k_is)
    (case kLFd => k_is)
    (case aLDr => k_is)
    (case lLDr => k_is)
    (case cLDr => k_is)
    (case kLDr => k_is)
    (case aLAn => k_is)
    (case lLAn => k_is)
    (case cLAn => k_is)
    (case kLAn => k_is)
    (case aLNm => k_is)
    (case lLNm => k_is)
    (case cLNm => k_is)
    (case kLNm => k_is)
    (case aLBk => k_is)
    (case lLBk => k_is)
    (case cLBk => k_is)
    (case kLBk => k_is)
    (case aLHo => k_is)
    (case lLHo => k_is)
    (case cLHo => k_is)
    (case kLHo => k_is)
    (case aLSz => k_is)
    (case lLSz => k_is)
    (case cLSz => k_is)
    (case kLSz => k_is)
    (case aLDp => k_is)
    (case lLDp => k_is)
    (case cLDp => k_is)
    (case kLDp => k_is)
    (case aLPo => k_is)
    (case lLPo => k_is)
    (case cLPo => k_is)
    (case kLPo => k_is)
    (case aLRu => k_is)
    (case lLRu => k_is)
    (case cLRu => k_is)
    (case kLRu => k_is)
    (case aLNd => k_is)
    (case lLNd => k_is)
    (case cLNd => k_is)
    (case kLNd => k_is)
    (case aLCa => k_is)
    (case lLCa => k_is)
    (case cLCa => k_is)
    (case kLCa => k_is)
    (case aLPM => k_is)
    (case lLPM => k_is)
    (case cLPM => k_is)
    (case kLPM => k_is)
    (case aLRk => k_is)
    (case lLRk => k_is)
    (case cLRk => k_is)
    (case kLRk => k_is)
    (case aLSv => k_is)
    (case lLSv => k_is)
    (case cLSv => k_is)
    (case kLSv => k_is)
    (case aLaw => k_is)
    (case lLaw => k_is)
    (case cLaw => k_is)
    (case kLaw => k_is)
    (case lW => k_is)
    (case mL => k_is)
    (case mM => k_is)
    (case mP => k_is)
    (case zisinstance => k_is)
    (case zint => k_is)
    (case zbool => k_is)
    (case zstr => k_is)
    (case ztuple => k_is)
    (case zlist => k_is)
    (case zset => k_is)
    (case zlen => k_is)
    (case zall => k_is)
    (case zany => k_is)
    (case zenumerate => k_is)
    (case zzip => k_is)
    (case zreversed => k_is)
    (case zrange => k_is)
    (case zsorted => k_is)
    (case zrepr => k_is)
