import PyProof.Rows.All
import Wide.All
import OpenK.AllK
import Wide.FinOn
import HandS.ForMost
import HandS.Wide
import HandS.Defaults
import PySem.Challenge.RW_slotkeep_k05_whole_sweeps_change_no_sigh
set_option Elab.async false
set_option linter.all false
set_option maxRecDepth 100000
set_option maxHeartbeats 4000000
/-! KM: the plain law over rows (address, number, writer, worth). -/
namespace SK
structure Row where
  ad : Nat
  num : Int
  wr : Int
  wo : Option Int

abbrev Pl := Int → Option Int
def lastOf (p : Row → Bool) (rs : List Row) : Option Row := (rs.filter p).getLast?
def within (P : Pl) (st : Int) (r : Row) : Bool := match P r.wr with
  | some p => decide (p ≤ st)
  | none => false
def sees (P : Pl) (st who : Int) (r : Row) : Bool := decide (r.wr = who) || within P st r
def seenM (P : Pl) (rs : List Row) (st who : Int) : Option Row := lastOf (sees P st who) rs
def sight (o : Option Row) : Option Int := o.bind Row.wo
def better (P : Pl) (acc : Option Row) (r : Row) : Bool := match P r.wr with
  | some p => match acc with
    | none => true
    | some a => match P a.wr with
      | some q => decide (q ≤ p)
      | none => false
  | none => false
def newStep (P : Pl) (acc : Option Row) (r : Row) : Option Row := if better P acc r = true then some r else acc
def newestM (P : Pl) (rs : List Row) : Option Row := rs.foldl (newStep P) none
def lastNum (P : Pl) (rs : List Row) (far : Int) : Option Int := (lastOf (within P far) rs).map Row.num
def isGone (P : Pl) (lost : List Int) (far : Int) (last : Option Int) (r : Row) : Bool :=
  lost.contains r.wr || (within P far r && (!decide (some r.num = last) || r.wo.isNone))
def goneM (P : Pl) (rs : List Row) (lost : List Int) (far : Int) : List Int := (rs.filter (isGone P lost far (lastNum P rs far))).map Row.num
def leftM (rs : List Row) (out : List Int) : List Row := rs.filter fun r => !out.contains r.num

structure Good (P : Pl) (rs : List Row) (lost : List Int) : Prop where
  ord : rs.Pairwise fun a b => a.num < b.num ∧ a.wr ≤ b.wr
  pos : ∀ r ∈ rs, 1 ≤ r.wr
  pmono : ∀ w w' p p', w ≤ w' → P w = some p → P w' = some p' → p ≤ p'
  pge : ∀ w p, P w = some p → 1 ≤ p
  lostP : ∀ w ∈ lost, P w = none

theorem lastOf_snoc (p : Row → Bool) (rs : List Row) (r : Row) : lastOf p (rs ++ [r]) = if p r = true then some r else lastOf p rs := by
  unfold lastOf
  rw [List.filter_append]
  cases h : p r with
  | true => simp [List.filter, h]
  | false => simp [List.filter, h]
theorem lastOf_none {p : Row → Bool} {rs : List Row} : lastOf p rs = none ↔ ∀ r ∈ rs, p r = false := by
  unfold lastOf
  rw [List.getLast?_eq_none_iff, List.filter_eq_nil_iff]
  constructor
  · intro h r hr
    have := h r hr
    simpa using this
  · intro h r hr
    rw [h r hr]
    simp
theorem lastOf_mem {p : Row → Bool} {rs : List Row} {x : Row} (h : lastOf p rs = some x) : x ∈ rs ∧ p x = true := by
  have m : x ∈ rs.filter p := List.mem_of_getLast? h
  exact List.mem_filter.mp m
theorem ord_filter {R : Row → Row → Prop} {rs : List Row} (h : rs.Pairwise R) (p : Row → Bool) : (rs.filter p).Pairwise R := h.sublist List.filter_sublist
/-- two rows of an ordered chain -/
theorem ord_of : ∀ {rs : List Row}, (rs.Pairwise fun a b => a.num < b.num ∧ a.wr ≤ b.wr) → ∀ a ∈ rs, ∀ b ∈ rs, a = b ∨ (a.num < b.num ∧ a.wr ≤ b.wr) ∨ (b.num < a.num ∧ b.wr ≤ a.wr)
  | [], _, a, ha, _, _ => by cases ha
  | r :: rs, h, a, ha, b, hb => by
    obtain ⟨h1, h2⟩ := List.pairwise_cons.mp h
    rcases List.mem_cons.mp ha with ea | ha'
    · rcases List.mem_cons.mp hb with eb | hb'
      · exact .inl (ea.trans eb.symm)
      · exact .inr (.inl (ea ▸ h1 b hb'))
    · rcases List.mem_cons.mp hb with eb | hb'
      · exact .inr (.inr (eb ▸ h1 a ha'))
      · exact ord_of h2 a ha' b hb'
theorem lastOf_ge : ∀ {p : Row → Bool} {rs : List Row} {x : Row}, (rs.Pairwise fun a b => a.num < b.num ∧ a.wr ≤ b.wr) → lastOf p rs = some x → ∀ y ∈ rs, p y = true → y.num ≤ x.num := by
  intro p rs x h e y hy py
  obtain ⟨pre, hp⟩ : ∃ pre, rs.filter p = pre ++ [x] := by
    have e : (rs.filter p).getLast? = some x := e
    exact ⟨(rs.filter p).dropLast, by
      have hne : rs.filter p ≠ [] := by
        intro z
        rw [z] at e
        cases e
      have e2 : (rs.filter p).getLast hne = x := by
        rw [List.getLast?_eq_some_getLast hne] at e
        exact Option.some.inj e
      rw [← e2]
      exact (List.dropLast_concat_getLast hne).symm⟩
  have m : y ∈ rs.filter p := List.mem_filter.mpr ⟨hy, py⟩
  have o := ord_filter h p
  rw [hp] at m o
  rcases List.mem_append.mp m with m | m
  · exact Int.le_of_lt ((List.pairwise_append.mp o).2.2 y m x (List.mem_singleton.mpr rfl)).1
  · rw [List.mem_singleton.mp m]
    exact Int.le_refl _
/-- the last one, by numbers -/
theorem lastOf_some {p : Row → Bool} {rs : List Row} {x : Row} (h : rs.Pairwise fun a b => a.num < b.num ∧ a.wr ≤ b.wr) (hx : x ∈ rs) (px : p x = true) (g : ∀ y ∈ rs, p y = true → y.num ≤ x.num) : lastOf p rs = some x := by
  cases e : lastOf p rs with
  | none =>
    rw [lastOf_none.mp e x hx] at px
    cases px
  | some y =>
    obtain ⟨hy, py⟩ := lastOf_mem e
    have h1 := lastOf_ge h e x hx px
    have h2 := g y hy py
    rcases ord_of h x hx y hy with q | q | q
    · rw [q]
    · omega
    · omega
section
variable {P : Pl} {rs : List Row} {lost : List Int} {far : Int}
theorem Good.uniq (g : Good P rs lost) {a b : Row} (ha : a ∈ rs) (hb : b ∈ rs) (e : a.num = b.num) : a = b := by
  rcases ord_of g.ord a ha b hb with q | q | q
  · exact q
  · omega
  · omega
theorem Good.le (g : Good P rs lost) {a b : Row} (ha : a ∈ rs) (hb : b ∈ rs) (e : a.num ≤ b.num) : a.wr ≤ b.wr := by
  rcases ord_of g.ord a ha b hb with q | q | q
  · rw [q]
    exact Int.le_refl _
  · exact q.2
  · omega
theorem within_iff {st : Int} {r : Row} : within P st r = true ↔ ∃ p, P r.wr = some p ∧ p ≤ st := by
  unfold within
  cases e : P r.wr with
  | none => simp
  | some p => simp
theorem within_le {st st' : Int} (h : st ≤ st') {r : Row} (w : within P st r = true) : within P st' r = true := by
  obtain ⟨p, e, l⟩ := within_iff.mp w
  exact within_iff.mpr ⟨p, e, Int.le_trans l h⟩
theorem mem_gone (g : Good P rs lost) {r : Row} (hr : r ∈ rs) : (goneM P rs lost far).contains r.num = isGone P lost far (lastNum P rs far) r := by
  cases e : isGone P lost far (lastNum P rs far) r with
  | true =>
    rw [List.contains_iff_mem]
    exact List.mem_map.mpr ⟨r, List.mem_filter.mpr ⟨hr, e⟩, rfl⟩
  | false =>
    cases e2 : (goneM P rs lost far).contains r.num with
    | false => rfl
    | true =>
      rw [List.contains_iff_mem] at e2
      obtain ⟨r', m, en⟩ := List.mem_map.mp e2
      obtain ⟨h1, h2⟩ := List.mem_filter.mp m
      have := g.uniq h1 hr en
      subst this
      rw [e] at h2
      cases h2
/-- what is left -/
abbrev lft (P : Pl) (rs : List Row) (lost : List Int) (far : Int) : List Row := leftM rs (goneM P rs lost far)
theorem mem_left (g : Good P rs lost) {r : Row} : r ∈ lft P rs lost far ↔ r ∈ rs ∧ isGone P lost far (lastNum P rs far) r = false := by
  unfold lft leftM
  rw [List.mem_filter]
  constructor
  · rintro ⟨h, e⟩
    rw [mem_gone g h] at e
    exact ⟨h, by simpa using e⟩
  · rintro ⟨h, e⟩
    refine ⟨h, ?_⟩
    rw [mem_gone g h, e]
    rfl
theorem Good.left (g : Good P rs lost) : Good P (lft P rs lost far) lost :=
  ⟨ord_filter g.ord _, fun r hr => g.pos r ((mem_left g).mp hr).1, g.pmono, g.pge, g.lostP⟩
theorem gone_iff {last : Option Int} {r : Row} : isGone P lost far last r = true ↔ r.wr ∈ lost ∨ (within P far r = true ∧ (some r.num ≠ last ∨ r.wo = none)) := by
  unfold isGone
  rw [Bool.or_eq_true, List.contains_iff_mem, Bool.and_eq_true, Bool.or_eq_true, Option.isNone_iff_eq_none]
  simp
theorem lost_out (g : Good P rs lost) {r : Row} {st : Int} (w : within P st r = true) : ¬ r.wr ∈ lost := by
  intro m
  obtain ⟨p, e, _⟩ := within_iff.mp w
  rw [g.lostP _ m] at e
  cases e
/-- A: whoever's stand is the horizon or more -/
theorem sight_far (g : Good P rs lost) {at_ : Int} (h : far ≤ at_) : sight (seenM P (lft P rs lost far) at_ 0) = sight (seenM P rs at_ 0) := by
  have se : ∀ r ∈ rs, sees P at_ 0 r = within P at_ r := fun r hr => by
    have := g.pos r hr
    unfold sees
    rw [decide_eq_false (by omega), Bool.false_or]
  cases e : seenM P rs at_ 0 with
  | none =>
    have a := lastOf_none.mp e
    have : seenM P (lft P rs lost far) at_ 0 = none := lastOf_none.mpr fun r hr => a r ((mem_left g).mp hr).1
    rw [this]
  | some x =>
    obtain ⟨hx, px⟩ := lastOf_mem e
    have mx := lastOf_ge g.ord e
    have wx : within P at_ x = true := (se x hx).symm.trans px
    cases ex : isGone P lost far (lastNum P rs far) x with
    | false =>
      have : seenM P (lft P rs lost far) at_ 0 = some x := lastOf_some g.left.ord ((mem_left g).mpr ⟨hx, ex⟩) px fun y hy py => mx y ((mem_left g).mp hy).1 py
      rw [this]
    | true =>
      rcases gone_iff.mp ex with q | ⟨wf, q⟩
      · exact absurd q (lost_out g wx)
      · have el : lastOf (within P far) rs = some x := lastOf_some g.ord hx wf fun y hy py => mx y hy ((se y hy).trans (within_le h py))
        have en : lastNum P rs far = some x.num := by
          unfold lastNum
          rw [el]
          rfl
        have ew : x.wo = none := q.resolve_left fun z => z en.symm
        have : seenM P (lft P rs lost far) at_ 0 = none := lastOf_none.mpr fun z hz => by
          obtain ⟨hz, nz⟩ := (mem_left g).mp hz
          cases ez : sees P at_ 0 z with
          | false => rfl
          | true =>
            have lz := mx z hz ez
            obtain ⟨p, ep, lp⟩ := within_iff.mp ((se z hz).symm.trans ez)
            obtain ⟨p', ep', lp'⟩ := within_iff.mp wf
            have := g.pmono _ _ _ _ (g.le hz hx lz) ep ep'
            have wz : within P far z = true := within_iff.mpr ⟨p, ep, by omega⟩
            have gz : isGone P lost far (lastNum P rs far) z = true := by
              by_cases hn : z.num = x.num
              · rw [g.uniq hz hx hn]
                exact ex
              · refine gone_iff.mpr (.inr ⟨wz, .inl fun q => hn ?_⟩)
                rw [en] at q
                exact Option.some.inj q
            rw [nz] at gz
            cases gz
        rw [this]
        exact ew.symm
/-- A: the open writer -/
theorem sight_own (g : Good P rs lost) {at_ who : Int} {x : Row} (hl : rs.getLast? = some x) (hw : x.wr = who) (hP : P who = none) (hn : ¬ who ∈ lost) : sight (seenM P (lft P rs lost far) at_ who) = sight (seenM P rs at_ who) := by
  have hx : x ∈ rs := List.mem_of_getLast? hl
  have mx : ∀ y ∈ rs, y.num ≤ x.num := fun y hy => lastOf_ge (p := fun _ => true) g.ord (by unfold lastOf; rw [List.filter_eq_self.mpr fun _ _ => rfl]; exact hl) y hy rfl
  have px : sees P at_ who x = true := by
    unfold sees
    rw [decide_eq_true hw, Bool.true_or]
  have ex : isGone P lost far (lastNum P rs far) x = false := by
    cases e : isGone P lost far (lastNum P rs far) x with
    | false => rfl
    | true =>
      rcases gone_iff.mp e with q | ⟨wf, _⟩
      · rw [hw] at q
        exact absurd q hn
      · obtain ⟨p, ep, _⟩ := within_iff.mp wf
        rw [hw, hP] at ep
        cases ep
  have e1 : seenM P rs at_ who = some x := lastOf_some g.ord hx px fun y hy _ => mx y hy
  have e2 : seenM P (lft P rs lost far) at_ who = some x := lastOf_some g.left.ord ((mem_left g).mpr ⟨hx, ex⟩) px fun y hy _ => mx y ((mem_left g).mp hy).1
  rw [e1, e2]
/-- A: nothing is seen -/
theorem sight_none (g : Good P rs lost) {who : Int} (hw : ∀ r ∈ rs, r.wr ≠ who) : sight (seenM P (lft P rs lost far) 0 who) = sight (seenM P rs 0 who) := by
  have a : ∀ r ∈ rs, sees P 0 who r = false := fun r hr => by
    unfold sees
    rw [decide_eq_false (hw r hr), Bool.false_or]
    cases e : within P 0 r with
    | false => rfl
    | true =>
      obtain ⟨p, ep, lp⟩ := within_iff.mp e
      have := g.pge _ _ ep
      omega
  have e1 : seenM P rs 0 who = none := lastOf_none.mpr a
  have e2 : seenM P (lft P rs lost far) 0 who = none := lastOf_none.mpr fun r hr => a r ((mem_left g).mp hr).1
  rw [e1, e2]
/-- the newest one is the last kept one -/
theorem newest_last : ∀ {rs : List Row}, Good P rs lost → newestM P rs = lastOf (fun r => (P r.wr).isSome) rs := by
  intro rs
  suffices h : ∀ (n : Nat) (rs : List Row), rs.length = n → Good P rs lost → newestM P rs = lastOf (fun r => (P r.wr).isSome) rs from h _ rs rfl
  intro n
  induction n with
  | zero =>
    intro rs hl _
    rw [List.length_eq_zero_iff.mp hl]
    rfl
  | succ n ih =>
    intro rs hl g
    have hne : rs ≠ [] := fun z => by
      rw [z] at hl
      cases hl
    obtain ⟨pre, x, rfl⟩ : ∃ pre x, rs = pre ++ [x] := ⟨rs.dropLast, rs.getLast hne, (List.dropLast_concat_getLast hne).symm⟩
    have gp : Good P pre lost := ⟨(List.pairwise_append.mp g.ord).1, fun r hr => g.pos r (List.mem_append_left _ hr), g.pmono, g.pge, g.lostP⟩
    have e := ih pre (by simpa using hl) gp
    have es : newestM P (pre ++ [x]) = newStep P (newestM P pre) x := by
      unfold newestM
      rw [List.foldl_append]
      rfl
    rw [es, lastOf_snoc]
    unfold newStep better
    cases ep : P x.wr with
    | none =>
      rw [if_neg (by simp), if_neg (by simp), e]
    | some p =>
      have t : (match newestM P pre with
        | none => true
        | some a => match P a.wr with
          | some q => decide (q ≤ p)
          | none => false) = true := by
        cases en : newestM P pre with
        | none => rfl
        | some a =>
          rw [e] at en
          obtain ⟨ha, pa⟩ := lastOf_mem en
          obtain ⟨q, eq⟩ := Option.isSome_iff_exists.mp pa
          have le : a.wr ≤ x.wr := ((List.pairwise_append.mp g.ord).2.2 a ha x (List.mem_singleton.mpr rfl)).2
          have := g.pmono _ _ _ _ le eq ep
          simp only [eq]
          exact decide_eq_true this
      rw [if_pos (show _ = true from t), if_pos (by rfl)]
/-- B -/
theorem newest_left (g : Good P rs lost) {x : Row} {p : Int} (h : newestM P rs = some x) (hp : P x.wr = some p) (hf : far < p) : newestM P (lft P rs lost far) = some x := by
  rw [newest_last g] at h
  rw [newest_last g.left]
  obtain ⟨hx, px⟩ := lastOf_mem h
  have mx := lastOf_ge g.ord h
  have ex : isGone P lost far (lastNum P rs far) x = false := by
    cases e : isGone P lost far (lastNum P rs far) x with
    | false => rfl
    | true =>
      rcases gone_iff.mp e with q | ⟨wf, _⟩
      · rw [g.lostP _ q] at hp
        cases hp
      · obtain ⟨p', ep, _⟩ := within_iff.mp wf
        rw [hp] at ep
        have := Option.some.inj ep
        omega
  exact lastOf_some g.left.ord ((mem_left g).mpr ⟨hx, ex⟩) px fun y hy py => mx y ((mem_left g).mp hy).1 py
theorem newest_mem (g : Good P rs lost) {x : Row} (h : newestM P rs = some x) : x ∈ rs ∧ ∃ p, P x.wr = some p := by
  rw [newest_last g] at h
  obtain ⟨hx, px⟩ := lastOf_mem h
  exact ⟨hx, Option.isSome_iff_exists.mp px⟩
/-- C: swept once more, nothing goes -/
theorem gone_again (g : Good P rs lost) : goneM P (lft P rs lost far) lost far = [] := by
  unfold goneM
  rw [List.map_eq_nil_iff, List.filter_eq_nil_iff]
  intro r hr hg
  obtain ⟨hr', nr⟩ := (mem_left g).mp hr
  have nl : ¬ r.wr ∈ lost := fun m => by
    rw [gone_iff.mpr (.inl m)] at nr
    cases nr
  rcases gone_iff.mp hg with q | ⟨wr, q⟩
  · exact nl q
  · have ng : ¬ isGone P lost far (lastNum P rs far) r = true := by
      rw [nr]
      simp
    have h1 : some r.num = lastNum P rs far := Classical.byContradiction fun z => ng (gone_iff.mpr (.inr ⟨wr, .inl z⟩))
    have h2 : ¬ r.wo = none := fun z => ng (gone_iff.mpr (.inr ⟨wr, .inr z⟩))
    have e1 : lastOf (within P far) rs = some r := by
      unfold lastNum at h1
      cases e : lastOf (within P far) rs with
      | none =>
        rw [e] at h1
        cases h1
      | some y =>
        rw [e] at h1
        rw [g.uniq (lastOf_mem e).1 hr' (Option.some.inj h1).symm]
    have mx := lastOf_ge g.ord e1
    have e2 : lastOf (within P far) (lft P rs lost far) = some r := lastOf_some g.left.ord hr wr fun y hy py => mx y ((mem_left g).mp hy).1 py
    have e3 : lastNum P (lft P rs lost far) far = some r.num := by
      unfold lastNum
      rw [e2]
      rfl
    rcases q with q | q
    · exact q e3.symm
    · exact h2 q
/-- D: at a greater horizon no less goes -/
theorem gone_grows (g : Good P rs lost) {n : Int} (h : n ∈ goneM P rs lost far) : n ∈ goneM P rs lost (far + 1) := by
  obtain ⟨r, m, en⟩ := List.mem_map.mp h
  obtain ⟨hr, e⟩ := List.mem_filter.mp m
  refine List.mem_map.mpr ⟨r, List.mem_filter.mpr ⟨hr, ?_⟩, en⟩
  rcases gone_iff.mp e with q | ⟨wf, q⟩
  · exact gone_iff.mpr (.inl q)
  · have w1 : within P (far + 1) r = true := within_le (by omega) wf
    refine gone_iff.mpr (.inr ⟨w1, ?_⟩)
    rcases q with q | q
    · refine .inl fun z => q ?_
      have e1 : lastOf (within P (far + 1)) rs = some r := by
        unfold lastNum at z
        cases e : lastOf (within P (far + 1)) rs with
        | none =>
          rw [e] at z
          cases z
        | some y =>
          rw [e] at z
          rw [g.uniq (lastOf_mem e).1 hr (Option.some.inj z).symm]
      have mx := lastOf_ge g.ord e1
      have e2 : lastOf (within P far) rs = some r := lastOf_some g.ord hr wf fun y hy py => mx y hy (within_le (by omega) py)
      unfold lastNum
      rw [e2]
      rfl
    · exact .inr q
end
end SK
/-! KW1: the text by places, the data, the walks of is_within, seen, newest, gone. -/
namespace SK
open PySem PySem.Spec PyProof.Rows L2
/-! ### the text -/
def topS (i : Nat) : Stmt := PySem.Challenge.pw_slotkeep_k05_whole_sweeps_change_no_sigh.main.body.getD i (.Pass ⟨0, 0, 0, 0⟩)
abbrev sWithin : Stmt := topS 1
abbrev sSeen : Stmt := topS 2
abbrev sNewest : Stmt := topS 3
abbrev sGone : Stmt := topS 4
theorem scW : FnScope ["version", "places", "stand"] ["version", "places", "stand"] (defScope sWithin) := ⟨rfl, rfl, rfl, by decide +kernel, rfl, by decide +kernel, by decide +kernel⟩
theorem scS : FnScope ["chain", "places", "stand", "dealing", "found", "version"] ["chain", "places", "stand", "dealing"] (defScope sSeen) := ⟨rfl, rfl, rfl, by decide +kernel, rfl, by decide +kernel, by decide +kernel⟩
theorem scN : FnScope ["chain", "places", "found", "version"] ["chain", "places"] (defScope sNewest) := ⟨rfl, rfl, rfl, by decide +kernel, rfl, by decide +kernel, by decide +kernel⟩
theorem scG : FnScope ["chain", "places", "undone", "horizon", "last", "version", "found", "number", "writer", "worth"] ["chain", "places", "undone", "horizon"] (defScope sGone) := ⟨rfl, rfl, rfl, by decide +kernel, rfl, by decide +kernel, by decide +kernel⟩
/-! ### the data -/
def optV : Option Int → V
  | none => .non
  | some i => .int i
def optRef : Option Row → V
  | none => .non
  | some r => .ref r.ad
def rowV (r : Row) : List V := [.int r.num, .int r.wr, optV r.wo]
def refs (rs : List Row) : List V := rs.map fun r => .ref r.ad
def RowsIn (H : Hp) (rs : List Row) : Prop := ∀ r ∈ rs, H r.ad = some (.tup (rowV r))
/-- a dict of dealings to places -/
def Tab (H : Hp) (t : Addr) (P : Pl) (n : Nat) : Prop := ∃ kvs : List (Key × V), H t = some (.dK kvs) ∧ kvs.length = n ∧ ∀ w : Int, valV kvs (Sum.inl w : Key) = (P w).map V.int
theorem Tab.get {H : Hp} {t : Addr} {P : Pl} {n : Nat} (h : Tab H t P n) (w : Int) : DGet H t (.int w) ((P w).map V.int) := by
  obtain ⟨kvs, e, _, g⟩ := h
  rw [← g w]
  exact DGet.k (k := Sum.inl w) e
theorem Tab.same {H H' : Hp} {t : Addr} {P : Pl} {n : Nat} (h : Tab H t P n) (s : Same H H') : Tab H' t P n := by
  obtain ⟨kvs, e, z⟩ := h
  exact ⟨kvs, s _ _ e, z⟩
theorem RowsIn.same {H H' : Hp} {rs : List Row} (h : RowsIn H rs) (s : Same H H') : RowsIn H' rs := fun r hr => s _ _ (h r hr)
theorem same_upd {H : Hp} {p : Addr} {o : HO} (h : H p = none) : Same H (upd H p o) := fun b x e => by
  rw [upd_ne (ne_of_none e h)]
  exact e
theorem refs_get {rs : List Row} {i : Nat} {x : V} (h : (refs rs)[i]? = some x) : ∃ r, rs[i]? = some r ∧ x = .ref r.ad ∧ r ∈ rs := by
  unfold refs at h
  rw [List.getElem?_map] at h
  cases e : rs[i]? with
  | none =>
    rw [e] at h
    cases h
  | some r =>
    rw [e] at h
    exact ⟨r, rfl, (Option.some.inj h).symm, List.mem_of_getElem? e⟩
theorem refs_length (rs : List Row) : (refs rs).length = rs.length := List.length_map ..
theorem take_snoc {α : Type} {l : List α} {i : Nat} {x : α} (h : l[i]? = some x) : l.take (i + 1) = l.take i ++ [x] := by
  rw [List.take_add_one, h]
  rfl
theorem iteB {k b : Bool} {A B : Prop} (e : k = b) (h : if b = true then A else B) : if k = true then A else B := by
  subst e
  exact h
theorem at0 (r : Row) : atI (rowV r) 0 = some (.int r.num) := atI_nat (j := 0) rfl
theorem at1 (r : Row) : atI (rowV r) 1 = some (.int r.wr) := atI_nat (j := 1) rfl
theorem at2 (r : Row) : atI (rowV r) 2 = some (optV r.wo) := atI_nat (j := 2) rfl
theorem inV_ints (w : Int) : ∀ ls : List Int, inV (.int w) (ls.map V.int) = ls.contains w
  | [] => rfl
  | x :: ls => by
    have ih := inV_ints w ls
    unfold inV at ih ⊢
    rw [List.map_cons, List.any_cons, ih, List.contains_cons]
    show ((x == w) || ls.contains w) = _
    rw [Bool.beq_comm]
theorem flat_ints : ∀ ls : List Int, (ls.map V.int).all flatV = true
  | [] => rfl
  | x :: ls => by
    rw [List.map_cons, List.all_cons, flat_ints ls]
    rfl
section
variable {P : Program} {w : World} {K : PySem.W.Frag} {mg : Str → Option Value} {base : Heap}
/-! ### is_within -/
def spWithin : Sp := fun vs H Q _ => ∃ (r : Row) (t : Addr) (st : Int) (pl : Pl) (n : Nat), vs = [.ref r.ad, .ref t, .int st] ∧ H r.ad = some (.tup (rowV r)) ∧ Tab H t pl n ∧ Q (.bl (within pl st r)) H
theorem ok_within {f : Addr} {fd : FuncData} (F : Fun K "is_within" "is_within" sWithin f fd) : FnOk P w K mg base CX0 1 f fd ["version", "places", "stand"] spWithin := by
  refine F.ok scW (fun vs H Q E h => ?_) (fun cdv A outer s H vs Q E hr h => ?_)
  · obtain ⟨r, t, st, pl, n, rfl, _⟩ := h
    rfl
  · obtain ⟨r, t, st, pl, n, rfl, h1, T, q⟩ := h
    have hu := hu_of hr
    refine ⟨_, pss_one (ps_ret (pe_and (pe_cmp (pc_din hu (pe_ix ix_tup (pv 0) pe_int (fun _ _ => rfl)) (pv 1)) rfl)
      (pe_one (pe_cmpR op_le (pe_dget hu (pv 1) (pe_ix ix_tup (pv 0) pe_int (fun _ _ => rfl)) (fun _ _ => rfl)) (pv 2) (nomark _))))), ?_⟩
    refine ⟨_, rfl, r.ad, rowV r, 1, .int r.wr, rfl, rfl, SqT.of h1, at1 r, _, rfl, t, _, rfl, T.get r.wr, _, rfl, ?_⟩
    have qe : within pl st r = (match pl r.wr with
      | some p => decide (p ≤ st)
      | none => false) := rfl
    have g := T.get r.wr
    rw [qe] at q
    cases e : pl r.wr with
    | none =>
      rw [e] at q
      exact iteF q
    | some p =>
      rw [e] at q g
      refine iteT ?_
      exact ⟨_, rfl, _, rfl, r.ad, rowV r, 1, .int r.wr, rfl, rfl, SqT.of h1, at1 r, t, .int p, rfl, g, _, rfl, p, st, rfl, rfl, q⟩
/-! ### seen -/
def spSeen (K : PySem.W.Frag) : Sp := fun vs H Q _ => ∃ (a t : Addr) (st who : Int) (rs : List Row) (pl : Pl) (n : Nat), vs = [.ref a, .ref t, .int st, .int who] ∧ SqL K H a (refs rs) ∧ RowsIn H rs ∧ Tab H t pl n ∧ Q (optRef (seenM pl rs st who)) H
theorem ok_seen {f fW : Addr} {fd fdW : FuncData} (F : FunD K "seen" "seen" (defArgs sSeen) (defBody sSeen) (defScope sSeen) [.int 0] [] f fd) (FW : Fun K "is_within" "is_within" sWithin fW fdW) (bW : Binds K fdW ["version", "places", "stand"] []) (gW : mg "is_within" = some (.ref fW)) :
    FnOk P w K mg base CX0 2 f fd ["chain", "places", "stand", "dealing"] (spSeen K) := by
  have GW : FnOk P w K mg base CX0 1 fW fdW ["version", "places", "stand"] spWithin := ok_within FW
  refine F.ok scS (fun vs H Q E h => ?_) (fun cdv A outer s H vs Q E hr h => ?_)
  · obtain ⟨a, t, st, who, rs, pl, n, rfl, _⟩ := h
    rfl
  · obtain ⟨a, t, st, who, rs, pl, n, rfl, hS, hR, T, q⟩ := h
    refine ⟨_, PSs.nox (pss_cons (ps_set (i := 4) scS.nd rfl (.inl rfl) pe_non)
      (pss_cons (ps_for PassesOwn.never rfl (pi_list (pv 0)) (pg_name (i := 5) scS.nd rfl (.inl rfl))
        (pss_one (ps_if (PW.pt (pw_or (pt_cmpR op_eq (pe_ix ix_tup (pv 5) pe_int (fun _ _ => rfl)) (pv 3) (nomark _))
            (pw_or1 (pt_val (pe_call GW hr (by rfl) gW FW.kp bW .nil pass0 (pa_cons (pv 5) (pa_cons (pv 1) (pa_cons (pv 2) pa_nil))))))))
          (pss_one (ps_set (i := 4) scS.nd rfl (.inl rfl) (pv 5))) pss_nil)))
      (pss_one (ps_ret (pv 4))))), ?_⟩
    refine ⟨_, rfl, a, rfl, ⟨_, hS⟩, for_list (K := K) (a := a) (xs := refs rs) (fun i σ H' => ∃ y, σ = [some (.ref a), some (.ref t), some (.int st), some (.int who), some (optRef (lastOf (sees pl st who) (rs.take i))), y] ∧ H' = H)
      ⟨none, rfl, rfl⟩ (fun i σ H' _ ⟨_, _, e⟩ => e ▸ hS) ?_ ?_⟩
    · rintro i x σ H' hi ⟨y, rfl, rfl⟩
      obtain ⟨r, er, rfl, hr'⟩ := refs_get hi
      have h1 := hR r hr'
      have fin : ∀ b : Bool, sees pl st who r = b → (if b = true then
          (∃ y, [some (V.ref a), some (.ref t), some (.int st), some (.int who), some (.ref r.ad), some (.ref r.ad)] = [some (V.ref a), some (.ref t), some (.int st), some (.int who), some (optRef (lastOf (sees pl st who) (rs.take (i + 1)))), y])
          else ∃ y, [some (V.ref a), some (.ref t), some (.int st), some (.int who), some (optRef (lastOf (sees pl st who) (rs.take i))), some (.ref r.ad)] = [some (V.ref a), some (.ref t), some (.int st), some (.int who), some (optRef (lastOf (sees pl st who) (rs.take (i + 1)))), y]) := by
        intro b eb
        rw [take_snoc er, lastOf_snoc, eb]
        cases b with
        | true => exact ⟨_, rfl⟩
        | false => exact ⟨_, rfl⟩
      refine ⟨_, rfl, r.ad, rowV r, 1, .int r.wr, rfl, rfl, SqT.of h1, at1 r, _, rfl, rfl, _, rfl, ?_⟩
      have es : sees pl st who r = (decide (r.wr = who) || within pl st r) := rfl
      by_cases e : r.wr = who
      · refine iteB (b := true) (by rw [e]; exact decide_eq_true rfl) (iteT (iteT ?_))
        obtain ⟨y, ey⟩ := fin true (by rw [es, decide_eq_true e]; rfl)
        exact ⟨_, rfl, y, ey, rfl⟩
      · refine iteB (b := false) (decide_eq_false fun z => e (V.int.inj z)) (iteF ?_)
        refine ⟨_, rfl, _, rfl, _, rfl, r, t, st, pl, n, rfl, h1, T, _, rfl, ?_⟩
        rw [decide_eq_false e, Bool.false_or] at es
        cases ew : within pl st r with
        | true =>
          obtain ⟨y, ey⟩ := fin true (es.trans ew)
          exact iteT ⟨_, rfl, y, ey, rfl⟩
        | false =>
          obtain ⟨y, ey⟩ := fin false (es.trans ew)
          exact iteF ⟨y, ey, rfl⟩
    · rintro σ H' ⟨y, rfl, rfl⟩
      rw [refs_length, List.take_length]
      exact ⟨_, rfl, q⟩
end
end SK
/-! KW2: the walks of newest, gone. -/
namespace SK
open PySem PySem.Spec PyProof.Rows L2
section
variable {P : Program} {w : World} {K : PySem.W.Frag} {mg : Str → Option Value} {base : Heap}
/-! ### newest -/
theorem newest_snoc (pl : Pl) (rs : List Row) (r : Row) : newestM pl (rs ++ [r]) = if better pl (newestM pl rs) r = true then some r else newestM pl rs := by
  unfold newestM
  rw [List.foldl_append]
  rfl
theorem newest_in {pl : Pl} : ∀ {rs : List Row} {x : Row}, newestM pl rs = some x → x ∈ rs ∧ ∃ p, pl x.wr = some p := by
  intro rs
  suffices h : ∀ (n : Nat) (rs : List Row), rs.length = n → ∀ x, newestM pl rs = some x → x ∈ rs ∧ ∃ p, pl x.wr = some p from fun {x} e => h _ rs rfl x e
  intro n
  induction n with
  | zero =>
    intro rs hl x e
    rw [List.length_eq_zero_iff.mp hl] at e
    cases e
  | succ n ih =>
    intro rs hl x e
    have hne : rs ≠ [] := fun z => by
      rw [z] at hl
      cases hl
    obtain ⟨pre, y, rfl⟩ : ∃ pre y, rs = pre ++ [y] := ⟨rs.dropLast, rs.getLast hne, (List.dropLast_concat_getLast hne).symm⟩
    rw [newest_snoc] at e
    by_cases b : better pl (newestM pl pre) y = true
    · rw [if_pos b] at e
      cases e
      refine ⟨List.mem_append_right _ (List.mem_singleton.mpr rfl), ?_⟩
      unfold better at b
      cases ep : pl x.wr with
      | none =>
        rw [ep] at b
        cases b
      | some p => exact ⟨p, rfl⟩
    · rw [if_neg b] at e
      obtain ⟨h1, h2⟩ := ih pre (by simpa using hl) x e
      exact ⟨List.mem_append_left _ h1, h2⟩
def spNewest (K : PySem.W.Frag) : Sp := fun vs H Q _ => ∃ (a t : Addr) (rs : List Row) (pl : Pl) (n : Nat), vs = [.ref a, .ref t] ∧ SqL K H a (refs rs) ∧ RowsIn H rs ∧ Tab H t pl n ∧ Q (optRef (newestM pl rs)) H
theorem ok_newest {f : Addr} {fd : FuncData} (F : Fun K "newest" "newest" sNewest f fd) : FnOk P w K mg base CX0 1 f fd ["chain", "places"] (spNewest K) := by
  refine F.ok scN (fun vs H Q E h => ?_) (fun cdv A outer s H vs Q E hr h => ?_)
  · obtain ⟨a, t, rs, pl, n, rfl, _⟩ := h
    rfl
  · obtain ⟨a, t, rs, pl, n, rfl, hS, hR, T, q⟩ := h
    have hu := hu_of hr
    refine ⟨_, pss_cons (ps_set (i := 2) scN.nd rfl (.inl rfl) pe_non)
      (pss_cons (ps_for PassesOwn.never rfl (pi_list (pv 0)) (pg_name (i := 3) scN.nd rfl (.inl rfl))
        (pss_one (ps_if (PW.pt (pw_and (pt_cmp (pc_din hu (pe_ix ix_tup (pv 3) pe_int (fun _ _ => rfl)) (pv 1)) rfl)
            (pw_and1 (PW.pt (pw_or (pt_cmp (pc_isN (pv 2)))
              (pw_or1 (pt_cmpR op_ge (pe_dget hu (pv 1) (pe_ix ix_tup (pv 3) pe_int (fun _ _ => rfl)) (fun _ _ => rfl)) (pe_dget hu (pv 1) (pe_ix ix_tup (pv 2) pe_int (fun _ _ => rfl)) (fun _ _ => rfl)) (nomark _))))))))
          (pss_one (ps_set (i := 2) scN.nd rfl (.inl rfl) (pv 3))) pss_nil)))
      (pss_one (ps_ret (pv 2)))), ?_⟩
    refine ⟨_, rfl, a, rfl, ⟨_, hS⟩, for_list (K := K) (a := a) (xs := refs rs) (fun i σ H' => ∃ y, σ = [some (.ref a), some (.ref t), some (optRef (newestM pl (rs.take i))), y] ∧ H' = H)
      ⟨none, rfl, rfl⟩ (fun i σ H' _ ⟨_, _, e⟩ => e ▸ hS) ?_ ?_⟩
    · rintro i x σ H' hi ⟨y, rfl, rfl⟩
      obtain ⟨r, er, rfl, hr'⟩ := refs_get hi
      have h1 := hR r hr'
      have g := T.get r.wr
      have fin1 : better pl (newestM pl (rs.take i)) r = true → optRef (newestM pl (rs.take (i + 1))) = .ref r.ad := fun b => by
        rw [take_snoc er, newest_snoc, if_pos b]
        rfl
      have fin0 : better pl (newestM pl (rs.take i)) r = false → optRef (newestM pl (rs.take (i + 1))) = optRef (newestM pl (rs.take i)) := fun b => by
        rw [take_snoc er, newest_snoc, if_neg (by rw [b]; exact Bool.false_ne_true)]
      refine ⟨_, rfl, r.ad, rowV r, 1, .int r.wr, rfl, rfl, SqT.of h1, at1 r, _, rfl, t, _, rfl, g, _, rfl, ?_⟩
      cases e : pl r.wr with
      | none =>
        refine iteF (iteF ?_)
        exact ⟨_, by rw [fin0 (by unfold better; rw [e])]; rfl, rfl⟩
      | some p =>
        rw [e] at g
        refine iteT ?_
        cases en : newestM pl (rs.take i) with
        | none =>
          refine ⟨_, rfl, _, rfl, ?_⟩
          refine iteB (b := true) (decide_eq_true rfl) (iteT (iteT ?_))
          exact ⟨_, rfl, _, by rw [fin1 (by unfold better; rw [e, en])]; rfl, rfl⟩
        | some b =>
          obtain ⟨hb, pb, epb⟩ := newest_in en
          have hb' : b ∈ rs := List.mem_of_mem_take hb
          have h2 := hR b hb'
          have g2 := T.get b.wr
          rw [epb] at g2
          refine ⟨_, rfl, _, rfl, ?_⟩
          refine iteB (b := false) (decide_eq_false fun z => by cases z) (iteF ?_)
          refine ⟨_, rfl, _, rfl, r.ad, rowV r, 1, .int r.wr, rfl, rfl, SqT.of h1, at1 r, t, .int p, rfl, g, _, rfl, _, rfl, b.ad, rowV b, 1, .int b.wr, rfl, rfl, SqT.of h2, at1 b, t, .int pb, rfl, g2, p, pb, rfl, rfl, _, rfl, ?_⟩
          have bt : better pl (newestM pl (rs.take i)) r = decide (pb ≤ p) := by
            unfold better
            rw [e, en]
            simp only [epb]
          by_cases le : pb ≤ p
          · refine iteB (b := true) (decide_eq_true le) (iteT ?_)
            exact ⟨_, rfl, _, by rw [fin1 (by rw [bt]; exact decide_eq_true le)]; rfl, rfl⟩
          · refine iteB (b := false) (decide_eq_false le) (iteF ?_)
            exact ⟨_, by rw [fin0 (by rw [bt]; exact decide_eq_false le), en]; rfl, rfl⟩
    · rintro σ H' ⟨y, rfl, rfl⟩
      rw [refs_length, List.take_length]
      exact ⟨_, rfl, q⟩
/-! ### gone -/
def spGone (K : PySem.W.Frag) : Sp := fun vs H Q _ => ∃ (a t u : Addr) (far : Int) (rs : List Row) (lost : List Int) (pl : Pl) (n : Nat), vs = [.ref a, .ref t, .ref u, .int far] ∧ SqL K H a (refs rs) ∧ RowsIn H rs ∧ Tab H t pl n ∧ SqL K H u (lost.map V.int) ∧ rs.length ≤ 1000 ∧
  ∀ p, H p = none → Q (.ref p) (upd H p (.lst ((goneM pl rs lost far).map V.int)))
theorem ok_gone {f fW : Addr} {fd fdW : FuncData} (F : Fun K "gone" "gone" sGone f fd) (FW : Fun K "is_within" "is_within" sWithin fW fdW) (bW : Binds K fdW ["version", "places", "stand"] []) (gW : mg "is_within" = some (.ref fW)) :
    FnOk P w K mg base CX0 2 f fd ["chain", "places", "undone", "horizon"] (spGone K) := by
  have GW : FnOk P w K mg base CX0 1 fW fdW ["version", "places", "stand"] spWithin := ok_within FW
  refine F.ok scG (fun vs H Q E h => ?_) (fun cdv A outer s H vs Q E hr h => ?_)
  · obtain ⟨a, t, u, far, rs, lost, pl, n, rfl, _⟩ := h
    rfl
  · obtain ⟨a, t, u, far, rs, lost, pl, n, rfl, hS, hR, T, hU, hlen, q⟩ := h
    refine ⟨_, pss_cons (ps_set (i := 4) scG.nd rfl (.inl rfl) pe_non)
      (pss_cons (ps_for PassesOwn.never rfl (pi_list (pv 0)) (pg_name (i := 5) scG.nd rfl (.inl rfl))
        (pss_one (ps_if (pt_val (pe_call GW hr (by rfl) gW FW.kp bW .nil pass0 (pa_cons (pv 5) (pa_cons (pv 1) (pa_cons (pv 3) pa_nil)))))
          (pss_one (ps_set (i := 4) scG.nd rfl (.inl rfl) (pe_ix ix_tup (pv 5) pe_int (fun _ _ => rfl)))) pss_nil)))
      (pss_cons (ps_set (i := 6) scG.nd rfl (.inl rfl) (pe_lst pa_nil))
      (pss_cons (ps_for PassesOwn.never rfl (pi_list (pv 0)) (pg_name (i := 5) scG.nd rfl (.inl rfl))
        (pss_cons (ps_asg (pv 5) (pg_tup rfl (pgs_cons (pg_name (i := 7) scG.nd rfl (.inl rfl)) (pgs_cons (pg_name (i := 8) scG.nd rfl (.inl rfl)) (pgs_cons (pg_name (i := 9) scG.nd rfl (.inl rfl)) pgs_nil)))))
        (pss_one (ps_if (pt_cmpR op_in_seq (pv 8) (pv 2) (by rfl))
          (pss_one (ps_expr (pe_bm PySem.F.plainAttrs_list PySem.F.slot_list_append PySem.F.type_list_append mt_append (pv 6) (pa_cons (pv 7) pa_nil))))
          (pss_one (ps_if (PW.pt (pw_and (pt_val (pe_call GW hr (by rfl) gW FW.kp bW .nil pass0 (pa_cons (pv 5) (pa_cons (pv 1) (pa_cons (pv 3) pa_nil)))))
              (pw_and1 (PW.pt (pw_or (pt_cmpR op_ne (pv 7) (pv 4) (nomark _)) (pw_or1 (pt_cmp (pc_isN (pv 9)))))))))
            (pss_one (ps_expr (pe_bm PySem.F.plainAttrs_list PySem.F.slot_list_append PySem.F.type_list_append mt_append (pv 6) (pa_cons (pv 7) pa_nil)))) pss_nil))))))
      (pss_one (ps_ret (pv 6)))))), ?_⟩
    refine ⟨_, rfl, a, rfl, ⟨_, hS⟩, for_list (K := K) (a := a) (xs := refs rs) (fun i σ H' => ∃ y, σ = [some (.ref a), some (.ref t), some (.ref u), some (.int far), some (optV (lastNum pl (rs.take i) far)), y, none, none, none, none] ∧ H' = H)
      ⟨none, rfl, rfl⟩ (fun i σ H' _ ⟨_, _, e⟩ => e ▸ hS) ?_ ?_⟩
    · rintro i x σ H' hi ⟨y, rfl, rfl⟩
      obtain ⟨r, er, rfl, hr'⟩ := refs_get hi
      have h1 := hR r hr'
      have el : lastNum pl (rs.take (i + 1)) far = if within pl far r = true then some r.num else lastNum pl (rs.take i) far := by
        unfold lastNum
        rw [take_snoc er, lastOf_snoc]
        cases within pl far r with
        | true => rfl
        | false => rfl
      refine ⟨_, rfl, _, rfl, _, rfl, r, t, far, pl, n, rfl, h1, T, _, rfl, ?_⟩
      cases ew : within pl far r with
      | true =>
        refine iteT ?_
        refine ⟨_, rfl, r.ad, rowV r, 0, .int r.num, rfl, rfl, SqT.of h1, at0 r, ?_⟩
        exact ⟨_, by rw [el, ew]; rfl, rfl⟩
      | false =>
        refine iteF ?_
        exact ⟨_, by rw [el, ew]; rfl, rfl⟩
    · rintro σ H' ⟨y, rfl, rfl⟩
      rw [refs_length, List.take_length]
      refine ⟨Nat.zero_le _, fun p np => ?_⟩
      have sm : ∀ o, Same H' (upd H' p o) := fun o => same_upd np
      refine ⟨_, rfl, a, rfl, ⟨_, (sm _).seq hS⟩, for_list (K := K) (a := a) (xs := refs rs) (fun i σ H2 => ∃ y5 y7 y8 y9, σ = [some (.ref a), some (.ref t), some (.ref u), some (.int far), some (optV (lastNum pl rs far)), y5, some (.ref p), y7, y8, y9] ∧
          H2 = upd H' p (.lst ((((rs.take i).filter (isGone pl lost far (lastNum pl rs far))).map Row.num).map V.int)))
        ⟨_, none, none, none, rfl, rfl⟩ (fun i σ H2 _ ⟨_, _, _, _, _, e⟩ => e ▸ (sm _).seq hS) ?_ ?_⟩
      · rintro i x σ H2 hi ⟨y5, y7, y8, y9, rfl, rfl⟩
        obtain ⟨r, er, rfl, hr'⟩ := refs_get hi
        have h1 := hR r hr'
        have h1' := sm (.lst ((((rs.take i).filter (isGone pl lost far (lastNum pl rs far))).map Row.num).map V.int)) _ _ h1
        have T' := T.same (sm (.lst ((((rs.take i).filter (isGone pl lost far (lastNum pl rs far))).map Row.num).map V.int)))
        have hU' := (sm (.lst ((((rs.take i).filter (isGone pl lost far (lastNum pl rs far))).map Row.num).map V.int))).seq hU
        have el : (rs.take (i + 1)).filter (isGone pl lost far (lastNum pl rs far)) = if isGone pl lost far (lastNum pl rs far) r = true then (rs.take i).filter (isGone pl lost far (lastNum pl rs far)) ++ [r] else (rs.take i).filter (isGone pl lost far (lastNum pl rs far)) := by
          rw [take_snoc er, List.filter_append]
          cases e : isGone pl lost far (lastNum pl rs far) r with
          | true => simp [List.filter, e]
          | false => simp [List.filter, e]
        have ll : ((((rs.take i).filter (isGone pl lost far (lastNum pl rs far))).map Row.num).map V.int).length < sizeLine := by
          rw [List.length_map, List.length_map]
          refine small1000 (Nat.le_trans (List.length_filter_le _ _) ?_)
          rw [List.length_take]
          omega
        have yes : isGone pl lost far (lastNum pl rs far) r = true → (((((rs.take i).filter (isGone pl lost far (lastNum pl rs far))).map Row.num).map V.int) ++ [.int r.num]) = ((((rs.take (i + 1)).filter (isGone pl lost far (lastNum pl rs far))).map Row.num).map V.int) := fun e => by
          rw [el, if_pos e, List.map_append, List.map_append]
          rfl
        have no : isGone pl lost far (lastNum pl rs far) r = false → ((((rs.take i).filter (isGone pl lost far (lastNum pl rs far))).map Row.num).map V.int) = ((((rs.take (i + 1)).filter (isGone pl lost far (lastNum pl rs far))).map Row.num).map V.int) := fun e => by
          rw [el, if_neg (by rw [e]; exact Bool.false_ne_true)]
        refine ⟨_, rfl, r.ad, rowV r, rfl, SqT.of h1', rfl, _, _, rfl, _, _, rfl, _, _, rfl, rfl, ?_⟩
        refine ⟨_, rfl, _, rfl, u, lost.map V.int, rfl, .inl hU', rfl, flat_ints _, _, rfl, ?_⟩
        refine iteB (b := lost.contains r.wr) (inV_ints _ _) ?_
        have eg : isGone pl lost far (lastNum pl rs far) r = (lost.contains r.wr || (within pl far r && (!decide (some r.num = lastNum pl rs far) || r.wo.isNone))) := rfl
        cases ec : lost.contains r.wr with
        | true =>
          rw [ec, Bool.true_or] at eg
          refine iteT ?_
          refine ⟨_, rfl, .inl ⟨rfl, _, .inl (.inl upd_same)⟩, _, rfl, p, _, _, rfl, rfl, upd_same, ll, ?_⟩
          exact ⟨_, _, _, _, rfl, by rw [upd_upd, yes eg]⟩
        | false =>
          rw [ec, Bool.false_or] at eg
          refine iteF ?_
          refine ⟨_, rfl, _, rfl, _, rfl, r, t, far, pl, n, rfl, h1', T', _, rfl, ?_⟩
          cases ew : within pl far r with
          | false =>
            rw [ew, Bool.false_and] at eg
            refine iteF (iteF ?_)
            exact ⟨_, _, _, _, rfl, by rw [no eg]⟩
          | true =>
            rw [ew, Bool.true_and] at eg
            refine iteT ?_
            refine ⟨_, rfl, _, rfl, ?sc, _, rfl, ?_⟩
            case sc =>
              cases lastNum pl rs far with
              | none => rfl
              | some z => rfl
            have en : decide (V.int r.num = optV (lastNum pl rs far)) = decide (some r.num = lastNum pl rs far) := by
              cases lastNum pl rs far with
              | none =>
                rw [decide_eq_false (fun z => by cases z), decide_eq_false (fun z => by cases z)]
              | some z =>
                by_cases e : r.num = z
                · rw [decide_eq_true (by rw [e]; rfl), decide_eq_true (by rw [e])]
                · show decide (V.int r.num = V.int z) = _
                  rw [decide_eq_false (fun q => e (V.int.inj q)), decide_eq_false (fun q => e (Option.some.inj q))]
            refine iteB (b := !decide (some r.num = lastNum pl rs far)) (congrArg (fun b => !b) en) ?_
            cases ed : decide (some r.num = lastNum pl rs far) with
            | false =>
              rw [ed] at eg
              refine iteT (iteT ?_)
              refine ⟨_, rfl, .inl ⟨rfl, _, .inl (.inl upd_same)⟩, _, rfl, p, _, _, rfl, rfl, upd_same, ll, ?_⟩
              exact ⟨_, _, _, _, rfl, by rw [upd_upd, yes eg]⟩
            | true =>
              rw [ed] at eg
              refine iteF ?_
              refine ⟨_, rfl, _, rfl, ?_⟩
              cases eo : r.wo with
              | none =>
                rw [eo] at eg
                refine iteB (b := true) (decide_eq_true rfl) (iteT ?_)
                refine ⟨_, rfl, .inl ⟨rfl, _, .inl (.inl upd_same)⟩, _, rfl, p, _, _, rfl, rfl, upd_same, ll, ?_⟩
                exact ⟨_, _, _, _, rfl, by rw [upd_upd, yes eg]⟩
              | some z =>
                rw [eo] at eg
                refine iteB (b := false) (decide_eq_false fun z => by cases z) (iteF ?_)
                exact ⟨_, _, _, _, rfl, by rw [no eg]⟩
      · rintro σ H2 ⟨y5, y7, y8, y9, rfl, rfl⟩
        rw [refs_length, List.take_length]
        exact ⟨_, rfl, q p np⟩
end
end SK
/-! KW3: the walks of _law_cell_at, _law_bag, _law_draw, _law_alike. -/
namespace SK
open PySem PySem.Spec PyProof.Rows L2
abbrev sCell : Stmt := topS 6
abbrev sBag : Stmt := topS 7
abbrev sDraw : Stmt := topS 8
abbrev sAlike : Stmt := topS 10
theorem scC : FnScope ["script", "k"] ["script", "k"] (defScope sCell) := ⟨rfl, rfl, rfl, by decide +kernel, rfl, by decide +kernel, by decide +kernel⟩
theorem scB : FnScope ["cell", "place"] ["cell", "place"] (defScope sBag) := ⟨rfl, rfl, rfl, by decide +kernel, rfl, by decide +kernel, by decide +kernel⟩
theorem scD : FnScope ["bag", "many", "found", "mixed"] ["bag", "many"] (defScope sDraw) := ⟨rfl, rfl, rfl, by decide +kernel, rfl, by decide +kernel, by decide +kernel⟩
theorem scA : FnScope ["rows", "left", "table", "at", "who", "found", "other"] ["rows", "left", "table", "at", "who"] (defScope sAlike) := ⟨rfl, rfl, rfl, by decide +kernel, rfl, by decide +kernel, by decide +kernel⟩
/-! ### powers of great ints -/
def CPowW (i j : Int) : Prop := 0 ≤ j ∧ (Builtin.Int.intBits i : Int) * j ≤ 2 ^ 27
theorem op_powW {X : Cx} : OpR X (binaryOp .Pow) (rI CPowW fun i j => .int (i ^ j.toNat)) := opI fun _ _ _ _ _ _ _ hc q => pow_int hc.1 hc.2 q
theorem bits_le (x : Int) : Builtin.Int.intBits x ≤ x.natAbs.log2 + 1 := by
  unfold Builtin.Int.intBits
  split <;> omega
theorem cube_ok {i : Int} {b : Nat} (hb : 0 < b) (h : i.natAbs < 2 ^ b) (h2 : b ≤ 1000) : CPowW i 3 := by
  refine ⟨by decide, ?_⟩
  have h1 := bits_le i
  have h3 := PySem.Flt.log2_lt_of hb h
  have e : (2 : Int) ^ 27 = 134217728 := by decide
  rw [e]
  omega
/-! ### the bag -/
def bagOk (y z : Int) (n : Nat) : Prop := 0 ≤ y ∧ y < 2 ^ 128 ∧ 0 ≤ z ∧ z ≤ (n : Int)
def BagAt (H : Hp) (b : Addr) (n : Nat) : Prop := ∃ x y z : Int, H b = some (.lst [.int x, .int y, .int z]) ∧ bagOk y z n
/-- all but what stands at b is as it was -/
def Keep (b : Addr) (H H' : Hp) : Prop := ∀ c o, H c = some o → c ≠ b → H' c = some o
section
variable {P : Program} {w : World} {K : PySem.W.Frag} {mg : Str → Option Value} {base : Heap}
/-! ### _law_cell_at -/
def spCell (K : PySem.W.Frag) : Sp := fun vs H Q _ => ∃ (a : Addr) (k : Int) (ns : List Int), vs = [.ref a, .int k] ∧ SqL K H a (ns.map V.int) ∧ 0 ≤ k ∧ ∀ c, Q (.int c) H
theorem ok_cell {f : Addr} {fd : FuncData} (F : Fun K "_law_cell_at" "_law_cell_at" sCell f fd) (ml : mg "len" = none) : FnOk P w K mg base CX0 1 f fd ["script", "k"] (spCell K) := by
  refine F.ok scC (fun vs H Q E h => ?_) (fun cdv A outer s H vs Q E hr h => ?_)
  · obtain ⟨a, k, ns, rfl, _⟩ := h
    rfl
  · obtain ⟨a, k, ns, rfl, hS, hk, q⟩ := h
    refine ⟨_, pss_cons (ps_if (pt_cmpR op_lt (pv 1) (pe_callB call_len_seq (by rfl) ml PySem.boot_len (pa_cons (pv 0) pa_nil)) (nomark _))
        (pss_one (ps_ret (pe_ix ix_list (pv 0) (pv 1) (fun _ _ => rfl)))) pss_nil)
      (pss_one (ps_ret pe_int)), ?_⟩
    refine ⟨_, rfl, _, rfl, a, ns.map V.int, rfl, .inl hS, _, _, rfl, rfl, _, rfl, ite2 (fun e => ?_) (fun _ => ?_)⟩
    · have e1 : k < ((ns.map V.int).length : Int) := of_decide_eq_true e
      rw [List.length_map] at e1
      have e2 : k.toNat < ns.length := by omega
      have e3 : k = (k.toNat : Int) := by omega
      refine ⟨_, rfl, _, rfl, a, ns.map V.int, k, .int ns[k.toNat], rfl, rfl, hS, at_of e3 ?_, q _⟩
      rw [List.getElem?_map, List.getElem?_eq_getElem e2]
      rfl
    · exact q _
/-! ### _law_bag -/
def spBag : Sp := fun vs H Q _ => ∃ (c pl : Int), vs = [.int c, .int pl] ∧ 0 ≤ pl ∧ pl ≤ 1000 ∧ ∀ (p : Addr) (x y z : Int), H p = none → bagOk y z 0 → Q (.ref p) (upd H p (.lst [.int x, .int y, .int z]))
theorem ok_bag {f : Addr} {fd : FuncData} (F : Fun K "_law_bag" "_law_bag" sBag f fd) (mm : mg "max" = none) : FnOk P w K mg base CX0 1 f fd ["cell", "place"] spBag := by
  refine F.ok scB (fun vs H Q E h => ?_) (fun cdv A outer s H vs Q E hr h => ?_)
  · obtain ⟨c, pl, rfl, _⟩ := h
    rfl
  · obtain ⟨c, pl, rfl, h0, h1, q⟩ := h
    refine ⟨_, pss_one (ps_ret (pe_lst (pa_cons (pe_callB (call_max2 rfl) (by rfl) mm (by decide +kernel) (pa_cons pe_int (pa_cons (pe_op op_sub (pv 0) (pe_op op_pow pe_int pe_int)) pa_nil)))
      (pa_cons (pe_op op_add (pe_op op_mod (pv 0) pe_int) (pe_op op_mul pe_int (pv 1))) (pa_cons pe_int pa_nil))))), ?_⟩
    refine ⟨_, rfl, _, _, rfl, rfl, ⟨by decide, by decide, by decide⟩, _, _, rfl, rfl, _, _, rfl, _, rfl, _, _, rfl, rfl, (by show (0 : Int) < 170141183460469231731687303715884105727; decide), _, rfl, _, _, rfl, rfl, .inl ⟨by decide, by decide⟩, _, _, rfl, rfl, (by show 3 ≤ sizeLine; decide), fun p hp => q p _ _ _ hp ?_⟩
    have m1 := Int.emod_nonneg c (b := 170141183460469231731687303715884105727) (by decide)
    have m2 := Int.emod_lt_of_pos c (b := 170141183460469231731687303715884105727) (by decide)
    have e : (2 : Int) ^ 128 = 340282366920938463463374607431768211456 := by decide
    unfold bagOk
    rw [e]
    refine ⟨by omega, by omega, by omega, by omega⟩
/-! ### _law_draw -/
def spDraw : Sp := fun vs H Q _ => ∃ (b : Addr) (m : Int) (n : Nat), vs = [.ref b, .int m] ∧ 0 < m ∧ m < 1000000 ∧ BagAt H b n ∧ n ≤ 100000 ∧
  ∀ r x y z : Int, 0 ≤ r → r < m → bagOk y z (n + 1) → Q (.int r) (upd H b (.lst [.int x, .int y, .int z]))
theorem ok_draw {f : Addr} {fd : FuncData} (F : Fun K "_law_draw" "_law_draw" sDraw f fd) : FnOk P w K mg base CX0 1 f fd ["bag", "many"] spDraw := by
  refine F.ok scD (fun vs H Q E h => ?_) (fun cdv A outer s H vs Q E hr h => ?_)
  · obtain ⟨b, m, n, rfl, _⟩ := h
    rfl
  · obtain ⟨b, m, n, rfl, m0, m1, ⟨x, y, z, hb, ok⟩, hn, q⟩ := h
    refine ⟨_, pss_cons (ps_if (pt_cmpR op_gt (pe_ix ix_list (pv 0) pe_int (fun _ _ => rfl)) pe_int (nomark _))
        (pss_cons (ps_set (i := 2) scD.nd rfl (.inl rfl) (pe_op op_mod (pe_ix ix_list (pv 0) pe_int (fun _ _ => rfl)) (pv 1)))
        (pss_cons (ps_asg (pe_op op_fdivN (pe_ix ix_list (pv 0) pe_int (fun _ _ => rfl)) (pv 1)) (pg_sub (pv 0) pe_int set_list))
        (pss_one (ps_ret (pv 2))))) pss_nil)
      (pss_cons (ps_asg (pe_op op_add (pe_ix ix_list (pv 0) pe_int (fun _ _ => rfl)) pe_int) (pg_sub (pv 0) pe_int set_list))
      (pss_cons (ps_set (i := 3) scD.nd rfl (.inl rfl) (pe_op op_mod (pe_op op_powW (pe_op op_add (pe_ix ix_list (pv 0) pe_int (fun _ _ => rfl)) (pe_op op_mul pe_int (pe_ix ix_list (pv 0) pe_int (fun _ _ => rfl)))) pe_int) pe_int))
      (pss_cons (ps_set (i := 3) scD.nd rfl (.inl rfl) (pe_op op_mod (pe_op op_powW (pe_op op_add (pv 3) (pe_op op_mul pe_int (pe_ix ix_list (pv 0) pe_int (fun _ _ => rfl)))) pe_int) pe_int))
      (pss_one (ps_ret (pe_op op_mod (pe_op op_fdiv (pv 3) pe_int) (pv 1))))))), ?_⟩
    refine ⟨_, rfl, b, _, 0, .int x, rfl, rfl, SqL.of hb, atI_nat (j := 0) rfl, x, 1, rfl, rfl, _, rfl, ite2 (fun e => ?_) (fun e => ?_)⟩
    · -- by the figures
      refine ⟨_, rfl, b, _, 0, .int x, rfl, rfl, SqL.of hb, atI_nat (j := 0) rfl, _, rfl, x, m, rfl, rfl, m0, ?_⟩
      refine ⟨_, rfl, b, _, 0, .int x, rfl, rfl, SqL.of hb, atI_nat (j := 0) rfl, _, rfl, x, m, rfl, rfl, ⟨by omega, by omega⟩, _, rfl, b, _, 0, 0, rfl, rfl, hb, rfl, ?_⟩
      refine ⟨_, rfl, ?_⟩
      exact q (x % m) _ y z (Int.emod_nonneg _ (by omega)) (Int.emod_lt_of_pos _ m0) ⟨ok.1, ok.2.1, ok.2.2.1, by have := ok.2.2.2; omega⟩
    · -- by the mixing
      obtain ⟨k1, k2, k3, k4⟩ := ok
      refine ⟨_, rfl, b, _, 2, .int z, rfl, rfl, SqL.of hb, atI_nat (j := 2) rfl, z, 1, rfl, rfl, _, rfl, b, _, 2, 2, rfl, rfl, hb, rfl, ?_⟩
      have hb' : (upd H b (.lst ([V.int x, .int y, .int z].set 2 (.int (z + 1))))) b = some (.lst [.int x, .int y, .int (z + 1)]) := upd_same
      have c1 : CPowW (y + 7368787 * (z + 1)) 3 := by
        refine cube_ok (b := 200) (by decide) ?_ (by decide)
        have e1 : (2 : Int) ^ 128 = 340282366920938463463374607431768211456 := by decide
        have e2 : (2 : Nat) ^ 200 = 1606938044258990275541962092341162602522202993782792835301376 := by decide
        rw [e1] at k2
        rw [e2]
        omega
      refine ⟨_, rfl, b, _, 1, .int y, rfl, rfl, SqL.of hb', atI_nat (j := 1) rfl, _, rfl, b, _, 2, .int (z + 1), rfl, rfl, SqL.of hb', atI_nat (j := 2) rfl, _, _, rfl, rfl, .inl ⟨by decide, by decide⟩, _, _, rfl, rfl, _, _, rfl, rfl, c1, _, _, rfl, rfl, (by show (0 : Int) < 170141183460469231731687303715884105727; decide), ?_⟩
      have c2 : ∀ M1 : Int, 0 ≤ M1 → M1 < 170141183460469231731687303715884105727 → CPowW (M1 + 15485863 * (z + 1)) 3 := fun M1 r1 r2 => by
        refine cube_ok (b := 200) (by decide) ?_ (by decide)
        have e2 : (2 : Nat) ^ 200 = 1606938044258990275541962092341162602522202993782792835301376 := by decide
        rw [e2]
        omega
      refine ⟨_, rfl, _, rfl, b, _, 2, .int (z + 1), rfl, rfl, SqL.of hb', atI_nat (j := 2) rfl, _, _, rfl, rfl, .inl ⟨by decide, by decide⟩, _, _, rfl, rfl, _, _, rfl, rfl, c2 _ (Int.emod_nonneg _ (by decide)) (Int.emod_lt_of_pos _ (by decide)), _, _, rfl, rfl, (by show (0 : Int) < 162259276829213363391578010288127; decide), ?_⟩
      refine ⟨_, rfl, _, _, rfl, rfl, ⟨by decide, by decide⟩, _, rfl, _, _, rfl, rfl, m0, ?_⟩
      exact q _ _ _ _ (Int.emod_nonneg _ (by omega)) (Int.emod_lt_of_pos _ m0) ⟨k1, k2, by omega, by omega⟩
/-! ### _law_alike -/
def spAlike (K : PySem.W.Frag) : Sp := fun vs H Q _ => ∃ (a l t : Addr) (at_ who : Int) (rs ls : List Row) (pl : Pl) (n : Nat), vs = [.ref a, .ref l, .ref t, .int at_, .int who] ∧ SqL K H a (refs rs) ∧ RowsIn H rs ∧ SqL K H l (refs ls) ∧ RowsIn H ls ∧ Tab H t pl n ∧
  sight (seenM pl ls at_ who) = sight (seenM pl rs at_ who) ∧ Q (.bl true) H
theorem seen_in {pl : Pl} {rs : List Row} {st who : Int} {x : Row} (h : seenM pl rs st who = some x) : x ∈ rs := (lastOf_mem h).1
theorem ok_alike {f fS : Addr} {fd fdS : FuncData} {dsS : List Value} (F : Fun K "_law_alike" "_law_alike" sAlike f fd) (GS : FnOk P w K mg base CX0 2 fS fdS ["chain", "places", "stand", "dealing"] (spSeen K)) (kS : PySem.W.keepIn K (.ref fS) = true) (bS : Binds K fdS ["chain", "places", "stand", "dealing"] []) (gS : mg "seen" = some (.ref fS)) :
    FnOk P w K mg base CX0 3 f fd ["rows", "left", "table", "at", "who"] (spAlike K) := by
  refine F.ok scA (fun vs H Q E h => ?_) (fun cdv A outer s H vs Q E hr h => ?_)
  · obtain ⟨a, l, t, at_, who, rs, ls, pl, n, rfl, _⟩ := h
    rfl
  · obtain ⟨a, l, t, at_, who, rs, ls, pl, n, rfl, hS, hR, hL, hM, T, e, q⟩ := h
    refine ⟨_, pss_cons (ps_set (i := 5) scA.nd rfl (.inl rfl) (pe_call GS hr (by rfl) gS kS bS .nil pass0 (pa_cons (pv 0) (pa_cons (pv 2) (pa_cons (pv 3) (pa_cons (pv 4) pa_nil))))))
      (pss_cons (ps_set (i := 6) scA.nd rfl (.inl rfl) (pe_call GS hr (by rfl) gS kS bS .nil pass0 (pa_cons (pv 1) (pa_cons (pv 2) (pa_cons (pv 3) (pa_cons (pv 4) pa_nil))))))
      (pss_one (ps_ret (pe_cmpR op_eq (pe_ifExp (pt_cmp (pc_isN (pv 5))) pe_non (pe_ix ix_tup (pv 5) pe_int (fun _ _ => rfl))) (pe_ifExp (pt_cmp (pc_isN (pv 6))) pe_non (pe_ix ix_tup (pv 6) pe_int (fun _ _ => rfl))) (nomark _))))), ?_⟩
    refine ⟨_, rfl, _, rfl, _, rfl, _, rfl, a, t, at_, who, rs, pl, n, rfl, hS, hR, T, ?_⟩
    refine ⟨_, rfl, _, rfl, _, rfl, _, rfl, l, t, at_, who, ls, pl, n, rfl, hL, hM, T, ?_⟩
    have fin : ∀ x y : Option Int, y = x → scal (optV x) (optV y) = true ∧ Q (.bl (decide (optV x = optV y))) H := fun x y z => by
      subst z
      rw [decide_eq_true rfl]
      refine ⟨?_, q⟩
      cases y <;> rfl
    have step2 : ∀ x : Option Int, sight (seenM pl ls at_ who) = x → tIf (tB (tIsN (tVar 6))) (tC .non) (tOp (rIxT K) (tVar 6) (tC (.int 2)))
        [some (.ref a), some (.ref l), some (.ref t), some (.int at_), some (.int who), some (optRef (seenM pl rs at_ who)), some (optRef (seenM pl ls at_ who))] H (fun v H2 => scal (optV x) v = true ∧ Q (.bl (decide (optV x = v))) H2) := fun x ex => by
      cases es : seenM pl ls at_ who with
      | none =>
        rw [es] at ex
        refine ⟨_, rfl, _, rfl, iteB (b := true) (decide_eq_true rfl) (iteT ?_)⟩
        exact fin x none ex
      | some r =>
        rw [es] at ex
        have h1 := hM r (seen_in es)
        refine ⟨_, rfl, _, rfl, iteB (b := false) (decide_eq_false fun z => by cases z) (iteF ?_)⟩
        refine ⟨_, rfl, r.ad, rowV r, 2, optV r.wo, rfl, rfl, SqT.of h1, at2 r, ?_⟩
        exact fin x r.wo ex
    cases es : seenM pl rs at_ who with
    | none =>
      rw [es] at e step2
      refine ⟨_, rfl, _, rfl, iteB (b := true) (decide_eq_true rfl) (iteT ?_)⟩
      exact step2 none e
    | some r =>
      rw [es] at e step2
      have h1 := hR r (seen_in es)
      refine ⟨_, rfl, _, rfl, iteB (b := false) (decide_eq_false fun z => by cases z) (iteF ?_)⟩
      refine ⟨_, rfl, r.ad, rowV r, 2, optV r.wo, rfl, rfl, SqT.of h1, at2 r, ?_⟩
      exact step2 r.wo e
end
end SK
/-! KW4: the walk of _law_house_chain. -/
namespace SK
open PySem PySem.Spec PyProof.Rows L2
abbrev sHouse : Stmt := topS 9
theorem scH : FnScope ["bag", "rows", "table", "lost", "writer", "number", "one", "k", "fate"] ["bag"] (defScope sHouse) := ⟨rfl, rfl, rfl, by decide +kernel, rfl, by decide +kernel, by decide +kernel⟩
/-! ### rows as data -/
def optD : Option Int → PyData
  | none => .none
  | some i => .int i
def rowD (r : Row) : PyData := .tuple [.int r.num, .int r.wr, optD r.wo]
theorem opt_dp {K : PySem.W.Frag} {H : Hp} : ∀ o : Option Int, Dp K H (optV o) (optD o)
  | none => .non
  | some i => .int i
theorem row_dp {K : PySem.W.Frag} {H : Hp} {r : Row} (h : H r.ad = some (.tup (rowV r))) : Dp K H (.ref r.ad) (rowD r) :=
  .tup (SqT.of h) (.cons (.int _) (.cons (.int _) (.cons (opt_dp _) .nil)))
theorem rows_dp {K : PySem.W.Frag} {H : Hp} : ∀ {rs : List Row}, RowsIn H rs → DpAll K H (refs rs) (rs.map rowD)
  | [], _ => .nil
  | r :: rs, h => .cons (row_dp (h r (List.mem_cons_self ..))) (rows_dp fun x hx => h x (List.mem_cons_of_mem _ hx))
theorem optD_ok (o : Option Int) : (optD o).canLay0 = true ∧ (optD o).depth = 0 := by
  cases o with
  | none => exact ⟨by simp [optD, PyData.canLay0], by simp [optD, PyData.depth]⟩
  | some i => exact ⟨by simp [optD, PyData.canLay0], by simp [optD, PyData.depth]⟩
theorem rowD_ok (r : Row) : (rowD r).canLay0 = true ∧ (rowD r).depth ≤ 1 := by
  obtain ⟨h1, h2⟩ := optD_ok r.wo
  refine ⟨?_, ?_⟩
  · simp [rowD, PyData.canLay0, PyData.canLayAll0, h1]
  · simp [rowD, PyData.depth, PyData.depthAll, h2]
theorem rowsD_ok : ∀ rs : List Row, PyData.canLayAll0 (rs.map rowD) = true ∧ PyData.depthAll (rs.map rowD) ≤ 1
  | [] => ⟨by simp [PyData.canLayAll0], by simp [PyData.depthAll]⟩
  | r :: rs => by
    obtain ⟨h1, h2⟩ := rowD_ok r
    obtain ⟨h3, h4⟩ := rowsD_ok rs
    refine ⟨?_, ?_⟩
    · rw [List.map_cons]
      simp [PyData.canLayAll0, h1, h3]
    · rw [List.map_cons]
      simp only [PyData.depthAll]
      omega
theorem shaped_row (r : Row) : SeqAt.shaped (rowD r) = true := by
  obtain ⟨h1, h2⟩ := rowD_ok r
  unfold SeqAt.shaped
  rw [h1, Bool.true_and]
  exact decide_eq_true (by omega)
theorem shaped_rows (rs : List Row) : SeqAt.shaped (.list (rs.map rowD)) = true := by
  obtain ⟨h1, h2⟩ := rowsD_ok rs
  unfold SeqAt.shaped
  have e1 : PyData.canLay0 (.list (rs.map rowD)) = true := by
    simp only [PyData.canLay0]
    exact h1
  rw [e1, Bool.true_and]
  refine decide_eq_true ?_
  simp only [PyData.depth]
  omega
theorem shaped_nil : SeqAt.shaped (.list []) = true := by
  unfold SeqAt.shaped
  rw [show PyData.canLay0 (.list []) = true by simp [PyData.canLay0, PyData.canLayAll0], Bool.true_and]
  exact decide_eq_true (by simp [PyData.depth, PyData.depthAll])
theorem eqv_nil (ds : List PyData) : PyData.eqv (.list ds) (.list []) = ds.isEmpty := by
  cases ds with
  | nil => simp [PyData.eqv, PyData.eqvAll]
  | cons d ds => simp [PyData.eqv, PyData.eqvAll]
theorem eqv_row (r : Row) : PyData.eqv (rowD r) (rowD r) = true := SeqAt.eqv_refl _ (rowD_ok r).1
/-! ### dicts -/
theorem valV_drop {κ : Type} [DecidableEq κ] (k j : κ) : ∀ kvs : List (κ × V), valV (dropK kvs k) j = if j = k then none else valV kvs j
  | [] => by
    split <;> rfl
  | p :: r => by
    have ih := valV_drop k j r
    by_cases e : p.1 = k
    · rw [dropK_pos e, ih]
      by_cases ej : j = k
      · rw [if_pos ej, if_pos ej]
      · rw [if_neg ej, if_neg ej, valV_neg (fun z => ej (z.symm.trans e))]
    · rw [dropK_neg e]
      by_cases ep : p.1 = j
      · rw [valV_pos ep, if_neg (fun z => e (ep.trans z)), valV_pos ep]
      · rw [valV_neg ep, ih, valV_neg ep]
/-! ### the state of a chain in the making -/
structure Hc (H0 H : Hp) (b r t l : Addr) (n : Nat) (rs : List Row) (pl : Pl) (m : Nat) (lost : List Int) : Prop where
  bag : BagAt H b n
  keep : Keep b H0 H
  rw : H r = some (.lst (refs rs))
  rows : RowsIn H rs
  tab : Tab H t pl m
  ls : H l = some (.lst (lost.map V.int))
  nr : H0 r = none
  nt : H0 t = none
  nl : H0 l = none
  br : b ≠ r
  bl : b ≠ l
  rl : r ≠ l
section
variable {H0 H : Hp} {b r t l : Addr} {n : Nat} {rs : List Row} {pl : Pl} {m : Nat} {lost : List Int}
theorem ne_tab {H : Hp} {a t : Addr} {pl : Pl} {m : Nat} {xs : List V} (T : Tab H t pl m) (h : H a = some (.lst xs)) : t ≠ a := by
  obtain ⟨kvs, e, _⟩ := T
  exact ne_of e h (by intro z; cases z)
theorem Tab.to {H H' : Hp} (T : Tab H t pl m) (e : H' t = H t) : Tab H' t pl m := by
  obtain ⟨kvs, h, z⟩ := T
  exact ⟨kvs, e.trans h, z⟩
theorem Hc.draw (h : Hc H0 H b r t l n rs pl m lost) {x y z : Int} (ok : bagOk y z (n + 1)) : Hc H0 (upd H b (.lst [.int x, .int y, .int z])) b r t l (n + 1) rs pl m lost := by
  obtain ⟨x0, y0, z0, hb, _⟩ := h.bag
  refine ⟨⟨x, y, z, upd_same, ok⟩, fun c o e ne => ?_, ?_, fun q hq => ?_, h.tab.to (upd_ne (ne_tab h.tab hb)), ?_, h.nr, h.nt, h.nl, h.br, h.bl, h.rl⟩
  · rw [upd_ne ne]
    exact h.keep c o e ne
  · rw [upd_ne h.br.symm]
    exact h.rw
  · rw [upd_ne (ne_of (h.rows q hq) hb (by intro z; cases z))]
    exact h.rows q hq
  · rw [upd_ne h.bl.symm]
    exact h.ls
theorem Hc.bag_at (h : Hc H0 H b r t l n rs pl m lost) : ∃ xs, H b = some (.lst xs) := by
  obtain ⟨x0, y0, z0, hb, _⟩ := h.bag
  exact ⟨_, hb⟩
theorem Hc.new (h : Hc H0 H b r t l n rs pl m lost) {p : Addr} {o : HO} (hp : H p = none) : Hc H0 (upd H p o) b r t l n rs pl m lost := by
  have s : Same H (upd H p o) := same_upd hp
  obtain ⟨x0, y0, z0, hb, ok⟩ := h.bag
  exact ⟨⟨x0, y0, z0, s _ _ hb, ok⟩, fun c o e ne => s _ _ (h.keep c o e ne), s _ _ h.rw, h.rows.same s, h.tab.same s, s _ _ h.ls, h.nr, h.nt, h.nl, h.br, h.bl, h.rl⟩
theorem Hc.row (h : Hc H0 H b r t l n rs pl m lost) {q : Row} (hq : H q.ad = some (.tup (rowV q))) : Hc H0 (upd H r (.lst (refs rs ++ [.ref q.ad]))) b r t l n (rs ++ [q]) pl m lost := by
  obtain ⟨x0, y0, z0, hb, ok⟩ := h.bag
  refine ⟨⟨x0, y0, z0, by rw [upd_ne h.br]; exact hb, ok⟩, fun c o e ne => ?_, ?_, fun q' hq' => ?_, h.tab.to (upd_ne (ne_tab h.tab h.rw)), ?_, h.nr, h.nt, h.nl, h.br, h.bl, h.rl⟩
  · rw [upd_ne (ne_of_none e h.nr)]
    exact h.keep c o e ne
  · rw [upd_same]
    unfold refs
    rw [List.map_append]
    rfl
  · have h1 : H q'.ad = some (.tup (rowV q')) := by
      rcases List.mem_append.mp hq' with z | z
      · exact h.rows q' z
      · rw [List.mem_singleton.mp z]
        exact hq
    rw [upd_ne (ne_of h1 h.rw (by intro z; cases z))]
    exact h1
  · rw [upd_ne h.rl.symm]
    exact h.ls
theorem Hc.lose (h : Hc H0 H b r t l n rs pl m lost) {w : Int} : Hc H0 (upd H l (.lst (lost.map V.int ++ [.int w]))) b r t l n rs pl m (lost ++ [w]) := by
  obtain ⟨x0, y0, z0, hb, ok⟩ := h.bag
  refine ⟨⟨x0, y0, z0, by rw [upd_ne h.bl]; exact hb, ok⟩, fun c o e ne => ?_, ?_, fun q hq => ?_, h.tab.to (upd_ne (ne_tab h.tab h.ls)), ?_, h.nr, h.nt, h.nl, h.br, h.bl, h.rl⟩
  · rw [upd_ne (ne_of_none e h.nl)]
    exact h.keep c o e ne
  · rw [upd_ne h.rl]
    exact h.rw
  · rw [upd_ne (ne_of (h.rows q hq) h.ls (by intro z; cases z))]
    exact h.rows q hq
  · rw [upd_same, List.map_append]
    rfl
theorem Hc.dict (h : Hc H0 H b r t l n rs pl m lost) {kvs : List (Key × V)} {pl' : Pl} (e : ∀ w : Int, valV kvs (Sum.inl w : Key) = (pl' w).map V.int) : Hc H0 (upd H t (.dK kvs)) b r t l n rs pl' kvs.length lost := by
  obtain ⟨x0, y0, z0, hb, ok⟩ := h.bag
  refine ⟨⟨x0, y0, z0, by rw [upd_ne (ne_tab h.tab hb).symm]; exact hb, ok⟩, fun c o e ne => ?_, ?_, fun q hq => ?_, ⟨kvs, upd_same, rfl, e⟩, ?_, h.nr, h.nt, h.nl, h.br, h.bl, h.rl⟩
  · rw [upd_ne (ne_of_none e h.nt)]
    exact h.keep c o e ne
  · rw [upd_ne (ne_tab h.tab h.rw).symm]
    exact h.rw
  · obtain ⟨kv0, e0, _⟩ := h.tab
    rw [upd_ne (ne_of (h.rows q hq) e0 (by intro z; cases z))]
    exact h.rows q hq
  · rw [upd_ne (ne_tab h.tab h.ls).symm]
    exact h.ls
/-- another list in the place of the lost ones -/
theorem Hc.lost2 (h : Hc H0 H b r t l n rs pl m lost) {D : Addr} {ls : List Int} (hD : H D = none) : Hc H0 (upd H D (.lst (ls.map V.int))) b r t D n rs pl m ls := by
  have s := h.new (o := .lst (ls.map V.int)) hD
  obtain ⟨xs, hb⟩ := h.bag_at
  refine ⟨s.bag, s.keep, s.rw, s.rows, s.tab, upd_same, h.nr, h.nt, ?_, h.br, ne_of_none hb hD, ne_of_none h.rw hD⟩
  cases e : H0 D with
  | none => rfl
  | some o =>
    by_cases c : D = b
    · rw [c, hb] at hD
      cases hD
    · rw [h.keep D o e c] at hD
      cases hD
end
/-! ### what a chain in the making is -/
structure Rws (j num : Int) (rs : List Row) : Prop where
  ord : rs.Pairwise fun a b => a.num < b.num ∧ a.wr ≤ b.wr
  wrs : ∀ r ∈ rs, 1 ≤ r.wr ∧ r.wr ≤ j
  nums : ∀ r ∈ rs, r.num ≤ num
structure Pls (j : Int) (pl : Pl) (m : Nat) (lost : List Int) : Prop where
  pls : ∀ w p, pl w = some p → w ≤ j ∧ 1 ≤ p ∧ p ≤ (m : Int)
  pmono : ∀ w w' p p', w ≤ w' → pl w = some p → pl w' = some p' → p ≤ p'
  lo : ∀ w ∈ lost, pl w = none
  loj : ∀ w ∈ lost, w ≤ j
def Lst (j : Int) (rs : List Row) : Prop := ∃ x, rs.getLast? = some x ∧ x.wr = j
theorem Rws.mono {j j' num num' : Int} {rs : List Row} (h : Rws j num rs) (e1 : j ≤ j') (e2 : num ≤ num') : Rws j' num' rs :=
  ⟨h.ord, fun r hr => ⟨(h.wrs r hr).1, Int.le_trans (h.wrs r hr).2 e1⟩, fun r hr => Int.le_trans (h.nums r hr) e2⟩
theorem Rws.snoc {j num : Int} {rs : List Row} (h : Rws j num rs) {q : Row} (h1 : num < q.num) (h2 : q.wr = j) (h3 : 1 ≤ j) : Rws j q.num (rs ++ [q]) := by
  refine ⟨List.pairwise_append.mpr ⟨h.ord, List.pairwise_singleton _ _, fun a ha b hb => ?_⟩, fun r hr => ?_, fun r hr => ?_⟩
  · rw [List.mem_singleton.mp hb, h2]
    exact ⟨Int.lt_of_le_of_lt (h.nums a ha) h1, (h.wrs a ha).2⟩
  · rcases List.mem_append.mp hr with z | z
    · exact h.wrs r z
    · rw [List.mem_singleton.mp z, h2]
      exact ⟨h3, Int.le_refl _⟩
  · rcases List.mem_append.mp hr with z | z
    · exact Int.le_trans (h.nums r z) (Int.le_of_lt h1)
    · rw [List.mem_singleton.mp z]
      exact Int.le_refl _
theorem Lst.snoc {rs : List Row} {q : Row} : Lst q.wr (rs ++ [q]) := ⟨q, by rw [List.getLast?_concat], rfl⟩
theorem Pls.mono {j j' : Int} {pl : Pl} {m : Nat} {lost : List Int} (h : Pls j pl m lost) (e : j ≤ j') : Pls j' pl m lost :=
  ⟨fun w p z => ⟨Int.le_trans (h.pls w p z).1 e, (h.pls w p z).2⟩, h.pmono, h.lo, fun w z => Int.le_trans (h.loj w z) e⟩
def putP (pl : Pl) (k p : Int) : Pl := fun w => if w = k then some p else pl w
def dropP (pl : Pl) (k : Int) : Pl := fun w => if w = k then none else pl w
theorem Pls.none {j k : Int} {pl : Pl} {m : Nat} {lost : List Int} (h : Pls j pl m lost) (e : j < k) : pl k = none := by
  cases z : pl k with
  | none => rfl
  | some p =>
    have := (h.pls k p z).1
    omega
theorem Pls.put {j : Int} {pl : Pl} {m : Nat} {lost : List Int} (h : Pls j pl m lost) : Pls (j + 1) (putP pl (j + 1) ((m : Int) + 1)) (m + 1) lost := by
  refine ⟨fun w p z => ?_, fun w w' p p' le z z' => ?_, fun w hw => ?_, fun w hw => ?_⟩
  · unfold putP at z
    by_cases e : w = j + 1
    · rw [if_pos e] at z
      have := Option.some.inj z
      refine ⟨by omega, by omega, by omega⟩
    · rw [if_neg e] at z
      obtain ⟨a, b, c⟩ := h.pls w p z
      refine ⟨by omega, by omega, by omega⟩
  · unfold putP at z z'
    by_cases e : w = j + 1
    · by_cases e' : w' = j + 1
      · rw [if_pos e] at z
        rw [if_pos e'] at z'
        rw [← Option.some.inj z, ← Option.some.inj z']
        exact Int.le_refl _
      · rw [if_neg e'] at z'
        have := (h.pls w' p' z').1
        omega
    · rw [if_neg e] at z
      by_cases e' : w' = j + 1
      · rw [if_pos e'] at z'
        have := Option.some.inj z'
        have := (h.pls w p z).2.2
        omega
      · rw [if_neg e'] at z'
        exact h.pmono w w' p p' le z z'
  · unfold putP
    rw [if_neg (by have := h.loj w hw; omega)]
    exact h.lo w hw
  · have := h.loj w hw
    omega
theorem Pls.lose {j : Int} {pl : Pl} {m : Nat} {lost : List Int} (h : Pls j pl m lost) : Pls (j + 1) pl m (lost ++ [j + 1]) := by
  refine ⟨fun w p z => ⟨Int.le_trans (h.pls w p z).1 (by omega), (h.pls w p z).2⟩, h.pmono, fun w hw => ?_, fun w hw => ?_⟩
  · rcases List.mem_append.mp hw with z | z
    · exact h.lo w z
    · rw [List.mem_singleton.mp z]
      exact h.none (by omega)
  · rcases List.mem_append.mp hw with z | z
    · have := h.loj w z
      omega
    · rw [List.mem_singleton.mp z]
      exact Int.le_refl _
theorem good_of {j num : Int} {rs : List Row} {pl : Pl} {m : Nat} {lost : List Int} (R : Rws j num rs) (L : Pls j pl m lost) : Good pl rs lost :=
  ⟨R.ord, fun r hr => (R.wrs r hr).1, L.pmono, fun w p z => (L.pls w p z).2.1, L.lo⟩
theorem Good.opened {rs : List Row} {pl : Pl} {lost : List Int} (g : Good pl rs lost) (k : Int) : Good (dropP pl k) rs (lost.filter fun w => !decide (w = k)) := by
  have sub : ∀ w p, dropP pl k w = some p → pl w = some p := fun w p z => by
    unfold dropP at z
    by_cases e : w = k
    · rw [if_pos e] at z
      cases z
    · rw [if_neg e] at z
      exact z
  refine ⟨g.ord, g.pos, fun w w' p p' le z z' => g.pmono w w' p p' le (sub _ _ z) (sub _ _ z'), fun w p z => g.pge w p (sub _ _ z), fun w hw => ?_⟩
  unfold dropP
  split
  · rfl
  · exact g.lostP w (List.mem_filter.mp hw).1
end SK
/-! KW5: the walk of _law_house_chain. -/
namespace SK
open PySem PySem.Spec PyProof.Rows L2
/-- a chain as the house has it, told by (rows, table, lost, writer) -/
structure House (H : Hp) (r t l : Addr) (who : Int) (rs : List Row) (pl : Pl) (m : Nat) (lost : List Int) : Prop where
  rw : H r = some (.lst (refs rs))
  rows : RowsIn H rs
  tab : Tab H t pl m
  ls : H l = some (.lst (lost.map V.int))
  good : Good pl rs lost
  short : rs.length ≤ 100
  few : m ≤ 100
  own : 0 < who → ∃ x, rs.getLast? = some x ∧ x.wr = who ∧ pl who = none ∧ ¬ who ∈ lost
theorem House.same {H H' : Hp} {r t l : Addr} {who : Int} {rs : List Row} {pl : Pl} {m : Nat} {lost : List Int} (h : House H r t l who rs pl m lost) (s : Same H H') : House H' r t l who rs pl m lost :=
  ⟨s _ _ h.rw, h.rows.same s, h.tab.same s, s _ _ h.ls, h.good, h.short, h.few, h.own⟩
theorem pick3 {d : Int} (h0 : 0 ≤ d) (h1 : d < 3) : ∃ v : Int, 0 ≤ v ∧ atI [V.int 1, .int 1, .int (10 ^ (19 : Int).toNat)] d = some (.int v) := by
  rcases (by omega : d = 0 ∨ d = 1 ∨ d = 2) with rfl | rfl | rfl
  · exact ⟨1, by decide, rfl⟩
  · exact ⟨1, by decide, rfl⟩
  · exact ⟨10 ^ (19 : Int).toNat, by decide, rfl⟩
theorem pickW {d a c : Int} (h0 : 0 ≤ d) (h1 : d < 3) : ∃ o : Option Int, atI [V.int a, .non, .int c] d = some (optV o) := by
  rcases (by omega : d = 0 ∨ d = 1 ∨ d = 2) with rfl | rfl | rfl
  · exact ⟨some a, rfl⟩
  · exact ⟨none, rfl⟩
  · exact ⟨some c, rfl⟩
section
variable {P : Program} {w : World} {K : PySem.W.Frag} {mg : Str → Option Value} {base : Heap}
def spHouse : Sp := fun vs H Q _ => ∃ b : Addr, vs = [.ref b] ∧ BagAt H b 0 ∧
  ∀ (H' : Hp) (T r t l : Addr) (who : Int) (rs : List Row) (pl : Pl) (m : Nat) (lost : List Int), Keep b H H' → H' T = some (.tup [.ref r, .ref t, .ref l, .int who]) → House H' r t l who rs pl m lost → Q (.ref T) H'
theorem ok_house {f fD : Addr} {fd fdD : FuncData} (F : Fun K "_law_house_chain" "_law_house_chain" sHouse f fd) (FD : Fun K "_law_draw" "_law_draw" sDraw fD fdD) (bD : Binds K fdD ["bag", "many"] []) (gD : mg "_law_draw" = some (.ref fD)) (ml : mg "len" = none) (mr : mg "range" = none) :
    FnOk P w K mg base CX0 2 f fd ["bag"] spHouse := by
  have GD : FnOk P w K mg base CX0 1 fD fdD ["bag", "many"] spDraw := ok_draw FD
  refine F.ok scH (fun vs H Q E h => ?_) (fun cdv A outer s H vs Q E hr h => ?_)
  · obtain ⟨b, rfl, _⟩ := h
    rfl
  · obtain ⟨b, rfl, hB, q⟩ := h
    have hu := hu_of hr
    refine ⟨_, pss_cons (ps_set (i := 1) scH.nd rfl (.inl rfl) (pe_lst pa_nil))
      (pss_cons (ps_set (i := 2) scH.nd rfl (.inl rfl) pe_dnewK)
      (pss_cons (ps_set (i := 3) scH.nd rfl (.inl rfl) (pe_lst pa_nil))
      (pss_cons (ps_set (i := 4) scH.nd rfl (.inr rfl) pe_int)
      (pss_cons (ps_set (i := 5) scH.nd rfl (.inl rfl) pe_int)
      (pss_cons (ps_for PassesOwn.never rfl (pi_range2 (by rfl) mr (pa_cons pe_int (pa_cons (pe_op op_add pe_int (pe_call GD hr (by rfl) gD FD.kp bD .nil pass0 (pa_cons (pv 0) (pa_cons pe_int pa_nil)))) pa_nil))) (pg_name (i := 6) scH.nd rfl (.inl rfl))
        (pss_cons (ps_for PassesOwn.never rfl (pi_range1 (by rfl) mr (pa_cons (pe_op op_add pe_int (pe_call GD hr (by rfl) gD FD.kp bD .nil pass0 (pa_cons (pv 0) (pa_cons pe_int pa_nil)))) pa_nil)) (pg_name (i := 7) scH.nd rfl (.inl rfl))
          (pss_cons (ps_set (i := 5) scH.nd rfl (.inl rfl) (pe_op op_add (pe_op op_add (pv 5) pe_int)
              (pe_op op_mul (pe_call GD hr (by rfl) gD FD.kp bD .nil pass0 (pa_cons (pv 0) (pa_cons pe_int pa_nil)))
                (pe_ix ix_list (pe_lst (pa_cons pe_int (pa_cons pe_int (pa_cons (pe_op op_pow pe_int pe_int) pa_nil)))) (pe_call GD hr (by rfl) gD FD.kp bD .nil pass0 (pa_cons (pv 0) (pa_cons pe_int pa_nil))) (fun _ _ => rfl)))))
          (pss_one (ps_expr (pe_bm PySem.F.plainAttrs_list PySem.F.slot_list_append PySem.F.type_list_append mt_append (pv 1) (pa_cons
              (pe_tup (pa_cons (pv 5) (pa_cons (pv 6) (pa_cons
                (pe_ix ix_list (pe_lst (pa_cons (pe_call GD hr (by rfl) gD FD.kp bD .nil pass0 (pa_cons (pv 0) (pa_cons pe_int pa_nil))) (pa_cons pe_non (pa_cons (pv 5) pa_nil)))) (pe_call GD hr (by rfl) gD FD.kp bD .nil pass0 (pa_cons (pv 0) (pa_cons pe_int pa_nil))) (fun _ _ => rfl)) pa_nil)))) pa_nil))))))
        (pss_cons (ps_set (i := 8) scH.nd rfl (.inl rfl) (pe_call GD hr (by rfl) gD FD.kp bD .nil pass0 (pa_cons (pv 0) (pa_cons pe_int pa_nil))))
        (pss_cons (ps_if (pt_cmpR op_eq (pv 8) pe_int (nomark _))
          (pss_one (ps_expr (pe_bm PySem.F.plainAttrs_list PySem.F.slot_list_append PySem.F.type_list_append mt_append (pv 3) (pa_cons (pv 6) pa_nil))))
          (pss_one (ps_dput hu (pv 2) (pv 6) (pe_op op_add (pe_callB call_lenD (by rfl) ml PySem.boot_len (pa_cons (pv 2) pa_nil)) pe_int) rfl)))
        (pss_one (ps_set (i := 4) scH.nd rfl (.inr rfl) (pv 6)))))))
      (pss_cons (ps_if (PW.pt (pw_and (pt_cmpR (op_neD hr.units) (pv 1) (pe_lst pa_nil) (nomark _)) (pw_and1 (pt_cmpR op_eq (pe_call GD hr (by rfl) gD FD.kp bD .nil pass0 (pa_cons (pv 0) (pa_cons pe_int pa_nil))) pe_int (nomark _)))))
        (pss_cons (ps_expr (pe_dpop2 (pv 2) (pv 4) pe_non ⟨rfl, rfl, rfl, rfl⟩))
        (pss_cons (ps_setLc (i := 3) (own := [("one", 6)]) (g := gName 6) rfl scH.nd rfl rfl (sw_true rfl rfl rfl (by decide +kernel)) (pi_list (pv 3)) (blkOk_by (own := [("one", 6)]) (N := ["bag", "rows", "table", "lost", "writer", "number", "one", "k", "fate"]) (sc := defScope sHouse) (by decide +kernel))
            (fun _ _ _ _ _ => pg_name (i := 6) scH.nd rfl (Or.inl rfl)) (fun _ _ _ _ _ => pts_one (pt_cmpR op_ne (pv 6) (pv 4) (nomark _))) (fun _ _ _ _ _ => pv 6))
        (pss_one (ps_ret (pe_tup (pa_cons (pv 1) (pa_cons (pv 2) (pa_cons (pv 3) (pa_cons (pv 4) pa_nil))))))))) pss_nil)
      (pss_one (ps_ret (pe_tup (pa_cons (pv 1) (pa_cons (pv 2) (pa_cons (pv 3) (pa_cons pe_int pa_nil))))))))))))), ?_⟩
    refine ⟨Nat.zero_le _, fun r nr => fun t nt => ⟨Nat.zero_le _, fun l nl => ?_⟩⟩
    have nt' : H t = none := by
      by_cases e : t = r
      · rw [e, upd_same] at nt
        cases nt
      · rw [upd_ne e] at nt
        exact nt
    have hl0 : upd H r (.lst []) l = none := by
      by_cases e : l = t
      · rw [e, upd_same] at nl
        cases nl
      · rw [upd_ne e] at nl
        exact nl
    have nl' : H l = none := by
      by_cases e : l = r
      · rw [e, upd_same] at hl0
        cases hl0
      · rw [upd_ne e] at hl0
        exact hl0
    have ntr : t ≠ r := fun e => by
      rw [e, upd_same] at nt
      cases nt
    have nlr : l ≠ r := fun e => by
      rw [e, upd_same] at hl0
      cases hl0
    have nlt : l ≠ t := fun e => by
      rw [e, upd_same] at nl
      cases nl
    have hc0 : Hc H (upd (upd (upd H r (.lst [])) t (.dK [])) l (.lst [])) b r t l 0 [] (fun _ => none) 0 [] := by
      obtain ⟨x0, y0, z0, hb, ok⟩ := hB
      have s1 : Same H (upd H r (.lst [])) := same_upd nr
      have s2 : Same (upd H r (.lst [])) (upd (upd H r (.lst [])) t (.dK [])) := same_upd nt
      have s3 : Same (upd (upd H r (.lst [])) t (.dK [])) (upd (upd (upd H r (.lst [])) t (.dK [])) l (.lst [])) := same_upd nl
      refine ⟨⟨x0, y0, z0, s3 _ _ (s2 _ _ (s1 _ _ hb)), ok⟩, fun c o e _ => s3 _ _ (s2 _ _ (s1 _ _ e)), s3 _ _ (s2 _ _ upd_same), fun q hq => (by cases hq), ⟨[], s3 _ _ upd_same, rfl, fun _ => rfl⟩, upd_same, nr, nt', nl', ne_of_none hb nr, ne_of_none hb nl', nlr.symm⟩
    refine ⟨_, rfl, b, 10, 0, rfl, by decide, by decide, hc0.bag, by decide, fun d x y z d0 d1 ok => ?_⟩
    refine ⟨_, _, rfl, rfl, _, _, rfl, ⟨by decide, by decide, by omega, by omega⟩, for_range (lo := 1) (n := (1 + d - 1).toNat) (fun i σ H' => ∃ (n : Nat) (num : Int) (rs : List Row) (pl : Pl) (m : Nat) (lost : List Int) (o6 o7 o8 : Option V),
      σ = [some (.ref b), some (.ref r), some (.ref t), some (.ref l), some (.int i), some (.int num), o6, o7, o8] ∧ Hc H H' b r t l n rs pl m lost ∧ Rws i num rs ∧ Pls i pl m lost ∧ (0 < i → Lst i rs) ∧ n ≤ 1 + 20 * i ∧ rs.length ≤ 4 * i ∧ m ≤ i ∧ lost.length ≤ i)
      ⟨1, 0, [], _, 0, [], none, none, none, rfl, hc0.draw (x := x) ok, ⟨List.Pairwise.nil, fun r hr => (by cases hr), fun r hr => (by cases hr)⟩, ⟨fun w p z => (by cases z), fun w w' p p' _ z => (by cases z), fun w hw => (by cases hw), fun w hw => (by cases hw)⟩, fun h => (by omega), (by omega), Nat.zero_le _, Nat.zero_le _, Nat.zero_le _⟩ ?_ ?_⟩
    · rintro i σ H1 hi ⟨n, num, rs, pl, m, lost, o6, o7, o8, rfl, hc, hR, hL, hl, hn, hlen, hm, hll⟩
      have hi9 : i < 9 := by omega
      refine ⟨_, rfl, b, 3, n, rfl, by decide, by decide, hc.bag, by omega, fun e x1 y1 z1 e0 e1 ok1 => ?_⟩
      refine ⟨_, _, rfl, rfl, _, rfl, by omega, by omega, for_range (lo := 0) (n := (1 + e).toNat) (fun i2 σ H' => ∃ (n : Nat) (num : Int) (rs : List Row) (o7 : Option V),
        σ = [some (.ref b), some (.ref r), some (.ref t), some (.ref l), some (.int i), some (.int num), some (.int (1 + i)), o7, o8] ∧ Hc H H' b r t l n rs pl m lost ∧ Rws (i + 1) num rs ∧ (0 < i2 → Lst (i + 1) rs) ∧ n ≤ 2 + 20 * i + 4 * i2 ∧ rs.length ≤ 4 * i + i2)
        ⟨n + 1, num, rs, o7, rfl, hc.draw (x := x1) ok1, hR.mono (by omega) (by omega), fun h => by omega, by omega, by omega⟩ ?_ ?_⟩
      · clear hn hlen hc hR hl
        rintro i2 σ H2 hi2 ⟨n, num, rs, o7, rfl, hc, hR, hl, hn, hlen⟩
        have hi3 : i2 < 3 := by omega
        refine ⟨_, rfl, _, _, rfl, rfl, ?_⟩
        refine ⟨_, rfl, b, 4, n, rfl, by decide, by decide, hc.bag, by omega, fun u x2 y2 z2 u0 u1 ok2 => ?_⟩
        have hc2 := hc.draw (x := x2) ok2
        refine ⟨_, _, rfl, rfl, ⟨by decide, by decide, by decide⟩, (by show 3 ≤ sizeLine; decide), fun p np => ?_⟩
        have hc3 := hc2.new (o := .lst [.int 1, .int 1, .int (10 ^ (19 : Int).toNat)]) np
        refine ⟨_, rfl, b, 3, n + 1, rfl, by decide, by decide, hc3.bag, by omega, fun v x3 y3 z3 v0 v1 ok3 => ?_⟩
        have hc4 := hc3.draw (x := x3) ok3
        obtain ⟨k, k0, hk⟩ := pick3 v0 v1
        have npb : p ≠ b := fun z => by
          obtain ⟨xs, hb⟩ := hc2.bag_at
          rw [z, hb] at np
          cases np
        refine ⟨p, _, _, _, rfl, rfl, SqL.of ((upd_ne npb).trans upd_same), hk, u, k, rfl, rfl, .inl ⟨by omega, by omega⟩, _, _, rfl, rfl, ?_⟩
        have hk2 : 0 ≤ u * k := Int.mul_nonneg u0 k0
        generalize ek : u * k = uk at hk2
        refine ⟨_, rfl, .inl ⟨rfl, _, .inl (.inl hc4.rw)⟩, _, rfl, _, rfl, _, rfl, b, 5, n + 2, rfl, by decide, by decide, hc4.bag, by omega, fun a5 x5 y5 z5 _ _ ok5 => ?_⟩
        have hc5 := hc4.draw (x := x5) ok5
        refine ⟨_, rfl, (by show 3 ≤ sizeLine; decide), fun p2 np2 => ?_⟩
        have hc6 := hc5.new (o := .lst [.int a5, .non, .int (num + 1 + uk)]) np2
        refine ⟨_, rfl, b, 3, n + 3, rfl, by decide, by decide, hc6.bag, by omega, fun a6 x6 y6 z6 a60 a61 ok6 => ?_⟩
        have hc7 := hc6.draw (x := x6) ok6
        obtain ⟨wo, hwo⟩ := pickW (a := a5) (c := num + 1 + uk) a60 a61
        have npb2 : p2 ≠ b := fun z => by
          obtain ⟨xs, hb⟩ := hc5.bag_at
          rw [z, hb] at np2
          cases np2
        refine ⟨p2, _, _, _, rfl, rfl, SqL.of ((upd_ne npb2).trans upd_same), hwo, (by show 3 ≤ sizeLine; decide), fun T nT => ?_⟩
        have hc8 := hc7.new (o := .tup (rowV ⟨T, num + 1 + uk, 1 + i, wo⟩)) nT
        have hc9 := hc8.row (q := ⟨T, num + 1 + uk, 1 + i, wo⟩) upd_same
        refine ⟨r, _, _, rfl, rfl, hc8.rw, ?_, ?_⟩
        · rw [refs_length]
          exact small1000 (by omega)
        · refine ⟨n + 4, num + 1 + uk, _, _, rfl, hc9, hR.snoc (q := ⟨T, num + 1 + uk, 1 + i, wo⟩) (by show num < num + 1 + uk; omega) (by show (1 : Int) + i = i + 1; omega) (by omega), fun _ => ?_, by omega, ?_⟩
          · have := Lst.snoc (rs := rs) (q := ⟨T, num + 1 + uk, 1 + i, wo⟩)
            have e : (1 : Int) + i = i + 1 := by omega
            rw [← e]
            exact this
          · rw [List.length_append, List.length_singleton]
            omega
      · clear hn hlen hc hR hl
        rintro σ H2 ⟨n, num, rs, o7, rfl, hc, hR, hl, hn, hlen⟩
        have hlst := hl (by omega)
        refine ⟨_, rfl, b, 4, n, rfl, by decide, by decide, hc.bag, by omega, fun fa x2 y2 z2 _ _ ok2 => ?_⟩
        have hc2 := hc.draw (x := x2) ok2
        refine ⟨_, rfl, rfl, _, rfl, ite2 (fun _ => ?_) (fun _ => ?_)⟩
        · -- undone
          refine ⟨_, rfl, .inl ⟨rfl, _, .inl (.inl hc2.ls)⟩, _, rfl, l, _, _, rfl, rfl, hc2.ls, ?_, ?_⟩
          · rw [List.length_map]
            exact small1000 (by omega)
          · refine ⟨_, rfl, n + 1, num, rs, pl, m, lost ++ [1 + (i : Int)], some (.int (1 + (i : Int))), o7, some (.int fa), ?_, hc2.lose, ?_, ?_, fun _ => ?_, by omega, by omega, by omega, ?_⟩
            · have e : (1 : Int) + i = ((i + 1 : Nat) : Int) := by omega
              rw [← e]
              rfl
            · exact hR.mono (by omega) (by omega)
            · have e : (1 : Int) + i = (i : Int) + 1 := by omega
              rw [e]
              exact hL.lose
            · exact hlst
            · rw [List.length_append, List.length_singleton]
              omega
        · -- kept
          obtain ⟨kvs, hk, kl, kv⟩ := hc2.tab
          refine ⟨_, rfl, t, kvs, rfl, hk, _, _, rfl, rfl, _, rfl, _, rfl, t, _, rfl, DPut.k (k := Sum.inl (1 + (i : Int))) hk (small1000 (by omega)), ?_⟩
          have nn : valV kvs (Sum.inl (1 + (i : Int)) : Key) = none := by
            rw [kv, hL.none (by omega)]
            rfl
          have e : (1 : Int) + i = (i : Int) + 1 := by omega
          have hc3 := hc2.dict (kvs := putK kvs (Sum.inl (1 + (i : Int))) (.int ((kvs.length : Int) + 1))) (pl' := putP pl ((i : Int) + 1) ((m : Int) + 1)) fun w => by
            rw [valV_put, kv]
            unfold putP
            by_cases ew : w = (i : Int) + 1
            · rw [if_pos ew, if_pos (by rw [ew, e]), kl]
              rfl
            · rw [if_neg ew, if_neg fun z => ew ((Sum.inl.inj z).trans e)]
          have el : (putK kvs (Sum.inl (1 + (i : Int)) : Key) (.int ((kvs.length : Int) + 1))).length = m + 1 := by
            rw [putK_new _ nn, List.length_append, kl]
            rfl
          rw [el] at hc3
          refine ⟨_, rfl, n + 1, num, rs, _, m + 1, lost, some (.int (1 + (i : Int))), o7, some (.int fa), ?_, hc3, ?_, ?_, fun _ => ?_, by omega, by omega, by omega, by omega⟩
          · have e : (1 : Int) + i = ((i + 1 : Nat) : Int) := by omega
            rw [← e]
            rfl
          · exact hR.mono (by omega) (by omega)
          · exact hL.put
          · exact hlst
    · rintro σ H1 ⟨n, num, rs, pl, m, lost, o6, o7, o8, rfl, hc, hR, hL, hl, hn, hlen, hm, hll⟩
      have hj : (1 + d - 1).toNat ≤ 9 := by omega
      generalize (1 + d - 1).toNat = j at *
      have fin : ∀ H2 n2, Hc H H2 b r t l n2 rs pl m lost → ∀ T, H2 T = none → Q (.ref T) (upd H2 T (.tup [.ref r, .ref t, .ref l, .int 0])) := fun H2 n2 hc2 T nT => by
        have hc3 := hc2.new (o := .tup [.ref r, .ref t, .ref l, .int 0]) nT
        exact q _ T r t l 0 rs pl m lost hc3.keep upd_same ⟨hc3.rw, hc3.rows, hc3.tab, hc3.ls, good_of hR hL, by omega, by omega, fun z => by omega⟩
      refine ⟨_, rfl, Nat.zero_le _, fun p np => ?_⟩
      have hc2 := hc.new (o := .lst []) np
      refine ⟨.list (rs.map rowD), .list [], .lst (SqL.of hc2.rw) (rows_dp hc2.rows), .lst (SqL.of upd_same) .nil, shaped_rows rs, shaped_nil, _, rfl, ?_⟩
      rw [eqv_nil]
      cases rs with
      | nil =>
        refine iteF (iteF ?_)
        exact ⟨_, rfl, _, rfl, _, rfl, (by show 4 ≤ sizeLine; decide), fun T nT => fin _ _ hc2 T nT⟩
      | cons r1 rs1 =>
        refine iteT ?_
        refine ⟨_, rfl, b, 2, n, rfl, by decide, by decide, hc2.bag, by omega, fun u x2 y2 z2 _ _ ok2 => ?_⟩
        have hc3 := hc2.draw (x := x2) ok2
        refine ⟨rfl, _, rfl, ite2 (fun _ => ?_) (fun _ => ?_)⟩
        · -- the last one is open again
          have j0 : 0 < j := by
            cases j with
            | zero =>
              have := (hR.wrs r1 (List.mem_cons_self ..))
              omega
            | succ j => exact Nat.succ_pos _
          obtain ⟨xl, el, ew⟩ := hl j0
          obtain ⟨kvs, hk, kl, kv⟩ := hc3.tab
          refine ⟨_, rfl, t, rfl, .inl ⟨kvs, .inl hk⟩, _, rfl, kvs, Sum.inl (j : Int), hk, rfl, ?_⟩
          have cont : ∀ (H4 : Hp) (m2 : Nat), m2 ≤ 100 → Hc H H4 b r t l (n + 1) (r1 :: rs1) (dropP pl j) m2 lost →
              tSeq (tAsg (tLc (iList K (tVar 3)) (gName 6) (tTest (tOp rNe (tVar 6) (tVar 4))) (tVar 6) [6]) (gName 3)) (tRet (tTup (tCons (tVar 1) (tCons (tVar 2) (tCons (tVar 3) (tCons (tVar 4) tNil))))))
                { nx := fun σ H' => tRet (tTup (tCons (tVar 1) (tCons (tVar 2) (tCons (tVar 3) (tCons (tC (.int 0)) tNil))))) { nx := fun _ H' => Q .non H', rt := Q } σ H', rt := Q }
                [some (.ref b), some (.ref r), some (.ref t), some (.ref l), some (.int j), some (.int num), o6, o7, o8] H4 := by
            intro H4 m2 hm2 hc4
            refine ⟨_, rfl, l, rfl, ⟨_, SqL.of hc4.ls⟩, fun D nD => lc_list (K := K) (a := l) (xs := lost.map V.int) (fun i H5 => H5 = upd H4 D (.lst (((lost.take i).filter fun w => !decide (w = (j : Int))).map V.int))) rfl (fun i H5 _ e => ?_) ?_ ?_⟩
            · subst e
              exact SqL.of (same_upd nD _ _ hc4.ls)
            · rintro i x H5 hx rfl
              obtain ⟨w, ex, rfl⟩ : ∃ w, lost[i]? = some w ∧ x = V.int w := by
                rw [List.getElem?_map] at hx
                cases e : lost[i]? with
                | none =>
                  rw [e] at hx
                  cases hx
                | some w =>
                  rw [e] at hx
                  exact ⟨w, rfl, (Option.some.inj hx).symm⟩
              refine ⟨rfl, _, rfl, _, rfl, rfl, _, rfl, ?_⟩
              have eb : (!decide (V.int w = V.int (j : Int))) = !decide (w = (j : Int)) := by
                by_cases e : w = (j : Int)
                · rw [decide_eq_true e, decide_eq_true (by rw [e])]
                · rw [decide_eq_false e, decide_eq_false fun z => e (V.int.inj z)]
              refine iteB eb ?_
              cases ec : decide (w = (j : Int)) with
              | true =>
                refine iteF ?_
                rw [take_snoc ex, List.filter_append]
                simp [List.filter, ec]
              | false =>
                refine iteT ?_
                refine ⟨_, rfl, _, upd_same, ?_, ?_⟩
                · rw [List.length_map]
                  refine small1000 (Nat.le_trans (List.length_filter_le _ _) ?_)
                  rw [List.length_take]
                  omega
                · rw [upd_upd, take_snoc ex, List.filter_append, List.map_append]
                  simp [List.filter, ec]
            · rintro H5 rfl
              rw [List.length_map, List.take_length]
              have hc5 := hc4.lost2 (ls := lost.filter fun w => !decide (w = (j : Int))) nD
              refine ⟨_, rfl, _, rfl, _, rfl, _, rfl, (by show 4 ≤ sizeLine; decide), fun T nT => ?_⟩
              have hc6 := hc5.new (o := .tup [.ref r, .ref t, .ref D, .int j]) nT
              refine q _ T r t D j _ _ m2 _ hc6.keep upd_same ⟨hc6.rw, hc6.rows, hc6.tab, hc6.ls, (good_of hR hL).opened j, by omega, hm2, fun _ => ⟨xl, el, ew, ?_, ?_⟩⟩
              · unfold dropP
                rw [if_pos rfl]
              · intro z
                have := (List.mem_filter.mp z).2
                rw [decide_eq_true rfl] at this
                cases this
          refine ⟨fun v _ => ?_, fun e => ?_⟩
          · refine cont _ _ ?_ (hc3.dict (kvs := dropK kvs (Sum.inl (j : Int))) (pl' := dropP pl j) fun w => ?_)
            · exact Nat.le_trans (dropK_le _ _) (by omega)
            · rw [valV_drop, kv]
              unfold dropP
              by_cases ew : w = (j : Int)
              · rw [if_pos ew, if_pos (by rw [ew])]
                rfl
              · rw [if_neg ew, if_neg fun z => ew (Sum.inl.inj z)]
          · refine cont _ m (by omega) ?_
            have en : pl j = none := by
              rw [kv] at e
              cases z : pl j with
              | none => rfl
              | some p =>
                rw [z] at e
                cases e
            have ep : dropP pl j = pl := by
              funext w
              unfold dropP
              by_cases ew : w = (j : Int)
              · rw [if_pos ew, ew, en]
              · rw [if_neg ew]
            rw [ep]
            exact hc3
        · refine ⟨_, rfl, _, rfl, _, rfl, (by show 4 ≤ sizeLine; decide), fun T nT => fin _ _ hc3 T nT⟩
end
end SK
/-! KW6: two comprehensions; the walk of _law_long. -/
namespace SK
open PySem PySem.Spec PyProof.Rows L2
abbrev sLong : Stmt := topS 11
theorem scO : FnScope ["bag", "rows", "table", "one", "k", "far", "out", "left", "at", "row"] ["bag"] (defScope sLong) := ⟨rfl, rfl, rfl, by decide +kernel, rfl, by decide +kernel, by decide +kernel⟩
/-! ### the comprehension of what is left -/
theorem set_read {σ : L2.St} {ix io : Nat} {v : V} {y z : Option V} (h : σ[io]? = some (some v)) (ne : ix ≠ io) : ((σ.set ix y).set ix z)[io]? = some (some v) := by
  rw [List.getElem?_set_ne ne, List.getElem?_set_ne ne]
  exact h
theorem set_self {σ : L2.St} {ix : Nat} {v : V} {y : Option V} (hl : ix < σ.length) : ((σ.set ix y).set ix (some v))[ix]? = some (some v) := by
  rw [List.getElem?_set_self]
  rw [List.length_set]
  exact hl
theorem wipe1 {σ : L2.St} {ix : Nat} {v : Option V} : wipe ((wipe σ [ix]).set ix v) [ix] = wipe σ [ix] := by
  show ((σ.set ix none).set ix v).set ix none = σ.set ix none
  rw [List.set_set, List.set_set]
theorem filt_snoc {α : Type} (p : α → Bool) (l : List α) (x : α) : (l ++ [x]).filter p = if p x = true then l.filter p ++ [x] else l.filter p := by
  rw [List.filter_append, List.filter_cons]
  cases p x with
  | true => rfl
  | false =>
    show l.filter p ++ [] = l.filter p
    rw [List.append_nil]
theorem left_comp {K : PySem.W.Frag} {σ : L2.St} {H : Hp} {Qd : Hp → Prop} {io ix : Nat} {a o D : Addr} {rs : List Row} {out : List Int} (h2 : σ[io]? = some (some (.ref o))) (ne : ix ≠ io) (hl : ix < σ.length)
    (hS : SqL K H a (refs rs)) (hR : RowsIn H rs) (hO : SqL K H o (out.map V.int)) (hlen : rs.length ≤ 1000) (nD : H D = none) (q : Qd (upd H D (.lst (refs (leftM rs out))))) :
    ∃ W : Nat → Nat → Hp → Prop, (∃ m, W 0 m (upd H D (.lst []))) ∧ ∀ i m H, W i m H →
      ((Itl K a).stop i H ∧ Qd H) ∨ ((Itl K a).go i H ∧ ∃ Nx : Hp → Prop, (∀ H', Nx H' → ∃ m', m' < m ∧ W (i + 1) m' H') ∧ ∀ x H', (Itl K a).yld i H x H' → gName ix x (wipe σ [ix]) H' fun σ2 H2 => wipe σ2 [ix] = wipe σ [ix] ∧ (tTest (tOp (rIn K true) (tOp (rIxT K) (tVar ix) (tC (.int 0))) (tVar io))) σ2 H2 fun b H3 =>
        if b = true then (tVar ix) σ2 H3 fun y H4 => ∃ acc, H4 D = some (.lst acc) ∧ acc.length < sizeLine ∧ Nx (upd H4 D (.lst (acc ++ [y]))) else Nx H3) := by
  refine lc_list (K := K) (a := a) (xs := refs rs) (fun i H5 => H5 = upd H D (.lst (refs ((rs.take i).filter fun r => !out.contains r.num)))) rfl (fun i H5 _ e => ?_) ?_ ?_
  · subst e
    exact (same_upd nD).seq hS
  · rintro i x H5 hx rfl
    obtain ⟨r, er, rfl, hr'⟩ := refs_get hx
    have s := same_upd (o := .lst (refs ((rs.take i).filter fun r => !out.contains r.num))) nD
    refine ⟨wipe1, _, set_self hl, r.ad, rowV r, 0, .int r.num, rfl, rfl, SqT.of (s _ _ (hR r hr')), at0 r, _, set_read h2 ne, o, out.map V.int, rfl, .inl (s.seq hO), rfl, flat_ints _, _, rfl, ?_⟩
    refine iteB (b := !out.contains r.num) (congrArg (fun b => !b) (inV_ints _ _)) ?_
    cases ec : out.contains r.num with
    | true =>
      refine iteF ?_
      show upd H D _ = upd H D _
      rw [take_snoc er, filt_snoc, if_neg (by rw [ec]; exact Bool.false_ne_true)]
    | false =>
      refine iteT ?_
      refine ⟨_, set_self hl, _, upd_same, ?_, ?_⟩
      · rw [refs_length]
        refine small1000 (Nat.le_trans (List.length_filter_le _ _) ?_)
        rw [List.length_take]
        omega
      · rw [upd_upd, take_snoc er, filt_snoc, if_pos (by rw [ec]; rfl)]
        unfold refs
        rw [List.map_append]
        rfl
  · rintro H5 rfl
    rw [refs_length, List.take_length]
    exact q
/-- the comprehension of what went before and does not go now -/
theorem rest_comp {K : PySem.W.Frag} {σ : L2.St} {H : Hp} {Qd : Hp → Prop} {io ix : Nat} {a o D : Addr} {bs out : List Int} (h2 : σ[io]? = some (some (.ref o))) (ne : ix ≠ io) (hl : ix < σ.length)
    (hS : SqL K H a (bs.map V.int)) (hO : SqL K H o (out.map V.int)) (hlen : bs.length ≤ 1000) (hin : ∀ n ∈ bs, n ∈ out) (nD : H D = none) (q : Qd (upd H D (.lst []))) :
    ∃ W : Nat → Nat → Hp → Prop, (∃ m, W 0 m (upd H D (.lst []))) ∧ ∀ i m H, W i m H →
      ((Itl K a).stop i H ∧ Qd H) ∨ ((Itl K a).go i H ∧ ∃ Nx : Hp → Prop, (∀ H', Nx H' → ∃ m', m' < m ∧ W (i + 1) m' H') ∧ ∀ x H', (Itl K a).yld i H x H' → gName ix x (wipe σ [ix]) H' fun σ2 H2 => wipe σ2 [ix] = wipe σ [ix] ∧ (tTest (tOp (rIn K true) (tVar ix) (tVar io))) σ2 H2 fun b H3 =>
        if b = true then (tVar ix) σ2 H3 fun y H4 => ∃ acc, H4 D = some (.lst acc) ∧ acc.length < sizeLine ∧ Nx (upd H4 D (.lst (acc ++ [y]))) else Nx H3) := by
  refine lc_list (K := K) (a := a) (xs := bs.map V.int) (fun i H5 => H5 = upd H D (.lst [])) rfl (fun i H5 _ e => ?_) ?_ ?_
  · subst e
    exact (same_upd nD).seq hS
  · rintro i x H5 hx rfl
    obtain ⟨n, en, rfl⟩ : ∃ n, bs[i]? = some n ∧ x = V.int n := by
      rw [List.getElem?_map] at hx
      cases e : bs[i]? with
      | none =>
        rw [e] at hx
        cases hx
      | some n =>
        rw [e] at hx
        exact ⟨n, rfl, (Option.some.inj hx).symm⟩
    have s := same_upd (o := .lst []) nD
    refine ⟨wipe1, _, set_self hl, _, set_read h2 ne, o, out.map V.int, rfl, .inl (s.seq hO), rfl, flat_ints _, _, rfl, ?_⟩
    refine iteB (b := false) ?_ (iteF rfl)
    show (!inV (.int n) (out.map V.int)) = false
    rw [inV_ints, List.contains_iff_mem.mpr (hin n (List.mem_of_getElem? en))]
    rfl
  · rintro H5 rfl
    exact q
/-! ### the state of _law_long -/
structure Hd (H0 H : Hp) (b r t : Addr) (n : Nat) (rs : List Row) (pl : Pl) (m : Nat) : Prop where
  bag : BagAt H b n
  keep : Keep b H0 H
  rw : H r = some (.lst (refs rs))
  rows : RowsIn H rs
  tab : Tab H t pl m
  nr : H0 r = none
  nt : H0 t = none
  br : b ≠ r
section
variable {H0 H : Hp} {b r t : Addr} {n : Nat} {rs : List Row} {pl : Pl} {m : Nat}
theorem Hd.bag_at (h : Hd H0 H b r t n rs pl m) : ∃ xs, H b = some (.lst xs) := by
  obtain ⟨x0, y0, z0, hb, _⟩ := h.bag
  exact ⟨_, hb⟩
theorem Hd.draw (h : Hd H0 H b r t n rs pl m) (x : Int) {y z : Int} (ok : bagOk y z (n + 1)) : Hd H0 (upd H b (.lst [.int x, .int y, .int z])) b r t (n + 1) rs pl m := by
  obtain ⟨x0, y0, z0, hb, _⟩ := h.bag
  refine ⟨⟨x, y, z, upd_same, ok⟩, fun c o e ne => ?_, ?_, fun q hq => ?_, h.tab.to (upd_ne (ne_tab h.tab hb)), h.nr, h.nt, h.br⟩
  · rw [upd_ne ne]
    exact h.keep c o e ne
  · rw [upd_ne h.br.symm]
    exact h.rw
  · rw [upd_ne (ne_of (h.rows q hq) hb (by intro z; cases z))]
    exact h.rows q hq
theorem Hd.new (h : Hd H0 H b r t n rs pl m) {p : Addr} (o : HO) (hp : H p = none) : Hd H0 (upd H p o) b r t n rs pl m := by
  have s : Same H (upd H p o) := same_upd hp
  obtain ⟨x0, y0, z0, hb, ok⟩ := h.bag
  exact ⟨⟨x0, y0, z0, s _ _ hb, ok⟩, fun c o e ne => s _ _ (h.keep c o e ne), s _ _ h.rw, h.rows.same s, h.tab.same s, h.nr, h.nt, h.br⟩
theorem Hd.ne (h : Hd H0 H b r t n rs pl m) {p : Addr} (hp : H p = none) : p ≠ b := fun z => by
  obtain ⟨xs, hb⟩ := h.bag_at
  rw [z, hb] at hp
  cases hp
theorem Hd.row (h : Hd H0 H b r t n rs pl m) {q : Row} (hq : H q.ad = some (.tup (rowV q))) : Hd H0 (upd H r (.lst (refs rs ++ [.ref q.ad]))) b r t n (rs ++ [q]) pl m := by
  obtain ⟨x0, y0, z0, hb, ok⟩ := h.bag
  refine ⟨⟨x0, y0, z0, by rw [upd_ne h.br]; exact hb, ok⟩, fun c o e ne => ?_, ?_, fun q' hq' => ?_, h.tab.to (upd_ne (ne_tab h.tab h.rw)), h.nr, h.nt, h.br⟩
  · rw [upd_ne (ne_of_none e h.nr)]
    exact h.keep c o e ne
  · rw [upd_same]
    unfold refs
    rw [List.map_append]
    rfl
  · have h1 : H q'.ad = some (.tup (rowV q')) := by
      rcases List.mem_append.mp hq' with z | z
      · exact h.rows q' z
      · rw [List.mem_singleton.mp z]
        exact hq
    rw [upd_ne (ne_of h1 h.rw (by intro z; cases z))]
    exact h1
theorem Hd.dict (h : Hd H0 H b r t n rs pl m) {kvs : List (Key × V)} {pl' : Pl} (e : ∀ w : Int, valV kvs (Sum.inl w : Key) = (pl' w).map V.int) : Hd H0 (upd H t (.dK kvs)) b r t n rs pl' kvs.length := by
  obtain ⟨x0, y0, z0, hb, ok⟩ := h.bag
  refine ⟨⟨x0, y0, z0, by rw [upd_ne (ne_tab h.tab hb).symm]; exact hb, ok⟩, fun c o e ne => ?_, ?_, fun q hq => ?_, ⟨kvs, upd_same, rfl, e⟩, h.nr, h.nt, h.br⟩
  · rw [upd_ne (ne_of_none e h.nt)]
    exact h.keep c o e ne
  · rw [upd_ne (ne_tab h.tab h.rw).symm]
    exact h.rw
  · obtain ⟨kv0, e0, _⟩ := h.tab
    rw [upd_ne (ne_of (h.rows q hq) e0 (by intro z; cases z))]
    exact h.rows q hq
end
/-- where the open writer stands -/
def Own (one : Int) (rs : List Row) : Prop := Lst one rs ∨ ∀ r ∈ rs, r.wr ≠ one
theorem pickF {d : Int} {c : Int} (h0 : 0 ≤ d) (h1 : d < 2) (hc : 0 < c) (hc2 : c < 1000) : ∃ v : Int, 0 < v ∧ v < 1000 ∧ atI [V.int 3, .int c] d = some (.int v) := by
  rcases (by omega : d = 0 ∨ d = 1) with rfl | rfl
  · exact ⟨3, by decide, by decide, rfl⟩
  · exact ⟨c, hc, hc2, rfl⟩
section
variable {P : Program} {w : World} {K : PySem.W.Frag} {mg : Str → Option Value} {base : Heap}
def spLong : Sp := fun vs H Q _ => ∃ b : Addr, vs = [.ref b] ∧ BagAt H b 0 ∧ ∀ H' : Hp, Keep b H H' → Q (.bl true) H'
theorem ok_long {f fD fG fA : Addr} {fd fdD fdG fdA : FuncData} (F : Fun K "_law_long" "_law_long" sLong f fd) (FD : Fun K "_law_draw" "_law_draw" sDraw fD fdD) (bD : Binds K fdD ["bag", "many"] []) (gD : mg "_law_draw" = some (.ref fD))
    (GG : FnOk P w K mg base CX0 2 fG fdG ["chain", "places", "undone", "horizon"] (spGone K)) (kG : PySem.W.keepIn K (.ref fG) = true) (bG : KBn K fdG ["chain", "places", "undone", "horizon"] 3 ["horizon"] (fun us ws => us ++ ws) (fun vs zs => vs ++ zs)) (gG : mg "gone" = some (.ref fG))
    (GA : FnOk P w K mg base CX0 3 fA fdA ["rows", "left", "table", "at", "who"] (spAlike K)) (kA : PySem.W.keepIn K (.ref fA) = true) (bA : Binds K fdA ["rows", "left", "table", "at", "who"] []) (gA : mg "_law_alike" = some (.ref fA)) (ml : mg "len" = none) (mr : mg "range" = none) :
    FnOk P w K mg base CX0 4 f fd ["bag"] spLong := by
  have GD : FnOk P w K mg base CX0 1 fD fdD ["bag", "many"] spDraw := ok_draw FD
  refine F.ok scO (fun vs H Q E h => ?_) (fun cdv A outer s H vs Q E hr h => ?_)
  · obtain ⟨b, rfl, _⟩ := h
    rfl
  · obtain ⟨b, rfl, hB, q⟩ := h
    have hu := hu_of hr
    have hr1 : Room 1 _ := hr.mono (by decide)
    have hr2 : Room 2 _ := hr.mono (by decide)
    refine ⟨_, pss_cons (ps_set (i := 1) scO.nd rfl (.inl rfl) (pe_lst pa_nil))
      (pss_cons (ps_set (i := 2) scO.nd rfl (.inl rfl) pe_dnewK)
      (pss_cons (ps_set (i := 3) scO.nd rfl (.inl rfl) pe_int)
      (pss_cons (ps_for PassesOwn.never rfl (pi_range1 (by rfl) mr (pa_cons (pe_call GD hr1 (by rfl) gD FD.kp bD .nil pass0 (pa_cons (pv 0) (pa_cons pe_int pa_nil))) pa_nil)) (pg_name (i := 4) scO.nd rfl (.inl rfl))
        (pss_cons (ps_expr (pe_bm PySem.F.plainAttrs_list PySem.F.slot_list_append PySem.F.type_list_append mt_append (pv 1) (pa_cons
            (pe_tup (pa_cons (pe_op op_add (pv 4) pe_int) (pa_cons (pv 3) (pa_cons
              (pe_ix ix_list (pe_lst (pa_cons (pv 4) (pa_cons pe_non (pa_cons pe_int pa_nil)))) (pe_call GD hr1 (by rfl) gD FD.kp bD .nil pass0 (pa_cons (pv 0) (pa_cons pe_int pa_nil))) (fun _ _ => rfl)) pa_nil)))) pa_nil)))
        (pss_one (ps_if (pt_cmpR op_eq (pe_call GD hr1 (by rfl) gD FD.kp bD .nil pass0 (pa_cons (pv 0) (pa_cons pe_int pa_nil))) pe_int (nomark _))
          (pss_cons (ps_dput hu (pv 2) (pv 3) (pe_op op_add (pe_callB call_lenD (by rfl) ml PySem.boot_len (pa_cons (pv 2) pa_nil)) pe_int) rfl)
          (pss_one (ps_set (i := 3) scO.nd rfl (.inl rfl) (pe_op op_add (pv 3) pe_int)))) pss_nil))))
      (pss_cons (ps_for PassesOwn.never rfl (pi_range1 (by rfl) mr (pa_cons pe_int pa_nil)) (pg_name (i := 4) scO.nd rfl (.inl rfl))
        (pss_cons (ps_set (i := 5) scO.nd rfl (.inl rfl) (pe_call GD hr1 (by rfl) gD FD.kp bD .nil pass0 (pa_cons (pv 0) (pa_cons
            (pe_ix ix_list (pe_lst (pa_cons pe_int (pa_cons (pe_op op_add (pe_callB call_lenD (by rfl) ml PySem.boot_len (pa_cons (pv 2) pa_nil)) pe_int) pa_nil))) (pe_call GD hr1 (by rfl) gD FD.kp bD .nil pass0 (pa_cons (pv 0) (pa_cons pe_int pa_nil))) (fun _ _ => rfl)) pa_nil))))
        (pss_cons (ps_set (i := 6) scO.nd rfl (.inr rfl) (pe_callN GG hr2 (by rfl) gG kG bG pass0 (pa_cons (pv 1) (pa_cons (pv 2) (pa_cons (pe_lst pa_nil) pa_nil))) (pk_cons (pv 5) pk_nil)))
        (pss_cons (ps_setLc (i := 7) (own := [("row", 9)]) (g := gName 9) (tt := tTest (tOp (rIn K true) (tOp (rIxT K) (tVar 9) (tC (.int 0))) (tVar 6))) rfl scO.nd rfl rfl (sw_true rfl rfl rfl (by decide +kernel)) (pi_list (pv 1)) (blkOk_by (own := [("row", 9)]) (N := ["bag", "rows", "table", "one", "k", "far", "out", "left", "at", "row"]) (sc := defScope sLong) (by decide +kernel))
            (fun _ _ _ _ _ => pg_name (i := 9) scO.nd rfl (Or.inl rfl)) (fun _ _ _ _ _ => pts_one (pt_cmpR op_notIn_seq (pe_ix ix_tup (pv 9) pe_int (fun _ _ => rfl)) (pv 6) (by rfl))) (fun _ _ _ _ _ => pv 9))
        (pss_cons (ps_set (i := 8) scO.nd rfl (.inl rfl) (pe_op op_add (pv 5) (pe_call GD hr1 (by rfl) gD FD.kp bD .nil pass0 (pa_cons (pv 0) (pa_cons pe_int pa_nil)))))
        (pss_one (ps_if (PW.pt (pw_or (pt_not (pt_val (pe_call GA hr (by rfl) gA kA bA .nil pass0 (pa_cons (pv 1) (pa_cons (pv 7) (pa_cons (pv 2) (pa_cons (pv 8) (pa_cons pe_int pa_nil))))))))
            (pw_or1 (pt_not (pt_val (pe_call GA hr (by rfl) gA kA bA .nil pass0 (pa_cons (pv 1) (pa_cons (pv 7) (pa_cons (pv 2) (pa_cons pe_int (pa_cons (pv 3) pa_nil)))))))))))
          (pss_one (ps_ret pe_bl)) pss_nil)))))))
      (pss_one (ps_ret pe_bl)))))), ?_⟩
    refine ⟨Nat.zero_le _, fun r nr => fun t nt => ?_⟩
    have nt' : H t = none := by
      by_cases e : t = r
      · rw [e, upd_same] at nt
        cases nt
      · rw [upd_ne e] at nt
        exact nt
    have hd0 : Hd H (upd (upd H r (.lst [])) t (.dK [])) b r t 0 [] (fun _ => none) 0 := by
      obtain ⟨x0, y0, z0, hb, ok⟩ := hB
      have s1 : Same H (upd H r (.lst [])) := same_upd nr
      have s2 : Same (upd H r (.lst [])) (upd (upd H r (.lst [])) t (.dK [])) := same_upd nt
      refine ⟨⟨x0, y0, z0, s2 _ _ (s1 _ _ hb), ok⟩, fun c o e _ => s2 _ _ (s1 _ _ e), s2 _ _ upd_same, fun q hq => (by cases hq), ⟨[], upd_same, rfl, fun _ => rfl⟩, nr, nt', ne_of_none hb nr⟩
    refine ⟨_, rfl, b, 401, 0, rfl, by decide, by decide, hd0.bag, by decide, fun d x y z d0 d1 ok => ?_⟩
    refine ⟨_, rfl, by omega, by omega, for_range (lo := 0) (n := d.toNat) (fun i σ H' => ∃ (n : Nat) (one : Int) (rs : List Row) (pl : Pl) (m : Nat) (o4 : Option V),
      σ = [some (.ref b), some (.ref r), some (.ref t), some (.int one), o4, none, none, none, none, none] ∧ Hd H H' b r t n rs pl m ∧ 1 ≤ one ∧ Rws one i rs ∧ Pls (one - 1) pl m [] ∧ Own one rs ∧ n ≤ 1 + 2 * i ∧ rs.length ≤ i ∧ m ≤ i)
      ⟨1, 1, [], _, 0, none, rfl, hd0.draw x ok, by decide, ⟨List.Pairwise.nil, fun r hr => (by cases hr), fun r hr => (by cases hr)⟩, ⟨fun w p z => (by cases z), fun w w' p p' _ z => (by cases z), fun w hw => (by cases hw), fun w hw => (by cases hw)⟩, .inr fun r hr => (by cases hr), by omega, Nat.zero_le _, Nat.zero_le _⟩ ?_ ?_⟩
    · rintro i σ H1 hi ⟨n, one, rs, pl, m, o4, rfl, hc, ho, hR, hL, hw, hn, hlen, hm⟩
      have hi4 : i < 401 := by omega
      refine ⟨_, rfl, .inl ⟨rfl, _, .inl (.inl hc.rw)⟩, _, rfl, _, _, rfl, rfl, _, rfl, _, rfl, (by show 3 ≤ sizeLine; decide), fun p np => ?_⟩
      have hc1 := hc.new (.lst [.int (0 + i), .non, .int 7]) np
      refine ⟨_, rfl, b, 3, n, rfl, by decide, by decide, hc1.bag, by omega, fun v x3 y3 z3 v0 v1 ok3 => ?_⟩
      have hc2 := hc1.draw x3 ok3
      obtain ⟨wo, hwo⟩ := pickW (a := 0 + i) (c := 7) v0 v1
      refine ⟨p, _, _, _, rfl, rfl, SqL.of ((upd_ne (hc.ne np)).trans upd_same), hwo, (by show 3 ≤ sizeLine; decide), fun T nT => ?_⟩
      have hc3 := hc2.new (.tup (rowV ⟨T, 0 + i + 1, one, wo⟩)) nT
      have hc4 := hc3.row (q := ⟨T, 0 + i + 1, one, wo⟩) upd_same
      have hR2 := hR.snoc (q := ⟨T, 0 + i + 1, one, wo⟩) (by show (i : Int) < 0 + i + 1; omega) rfl ho
      have ls2 : (rs ++ [(⟨T, 0 + i + 1, one, wo⟩ : Row)]).length ≤ i + 1 := by
        rw [List.length_append, List.length_singleton]
        omega
      refine ⟨r, _, _, rfl, rfl, hc3.rw, ?_, ?_⟩
      · rw [refs_length]
        exact small1000 (by omega)
      · -- is the dealing kept now
        refine ⟨_, rfl, b, 3, n + 1, rfl, by decide, by decide, hc4.bag, by omega, fun u x5 y5 z5 _ _ ok5 => ?_⟩
        have hc5 := hc4.draw x5 ok5
        refine ⟨rfl, _, rfl, ite2 (fun _ => ?_) (fun _ => ?_)⟩
        · obtain ⟨kvs, hk, kl, kv⟩ := hc5.tab
          refine ⟨_, rfl, t, kvs, rfl, hk, _, _, rfl, rfl, _, rfl, _, rfl, t, _, rfl, DPut.k (k := Sum.inl one) hk (small1000 (by omega)), ?_⟩
          have nn : valV kvs (Sum.inl one : Key) = none := by
            rw [kv, hL.none (by omega)]
            rfl
          have e : one = (one - 1) + 1 := by omega
          have hc6 := hc5.dict (kvs := putK kvs (Sum.inl one) (.int ((kvs.length : Int) + 1))) (pl' := putP pl ((one - 1) + 1) ((m : Int) + 1)) fun w => by
            rw [valV_put, kv, ← e]
            unfold putP
            by_cases ew : w = one
            · rw [if_pos ew, if_pos (by rw [ew]), kl]
              rfl
            · rw [if_neg ew, if_neg fun z => ew (Sum.inl.inj z)]
          have el : (putK kvs (Sum.inl one : Key) (.int ((kvs.length : Int) + 1))).length = m + 1 := by
            rw [putK_new _ nn, List.length_append, kl]
            rfl
          rw [el] at hc6
          refine ⟨_, rfl, _, _, rfl, rfl, n + 2, one + 1, _, _, m + 1, _, rfl, hc6, by omega, hR2.mono (by omega) (by show (0 : Int) + i + 1 ≤ ((i + 1 : Nat) : Int); omega), ?_, .inr fun r hr z => ?_, by omega, ls2, by omega⟩
          · have := hL.put
            rw [show one + 1 - 1 = one - 1 + 1 by omega]
            exact this
          · have := (hR2.wrs r hr).2
            omega
        · exact ⟨n + 2, one, _, pl, m, _, rfl, hc5, ho, hR2.mono (by omega) (by show (0 : Int) + i + 1 ≤ ((i + 1 : Nat) : Int); omega), hL, .inl (Lst.snoc (q := ⟨T, 0 + i + 1, one, wo⟩)), by omega, ls2, by omega⟩
    · rintro σ H1 ⟨n, one, rs, pl, m, o4, rfl, hc, ho, hR, hL, hw, hn, hlen, hm⟩
      have hn' : n ≤ 1000 := by omega
      have hlen' : rs.length ≤ 400 := by omega
      have hm' : m ≤ 400 := by omega
      have g : Good pl rs [] := good_of hR (hL.mono (by omega))
      have pn : pl one = none := hL.none (by omega)
      clear hn hlen hm hd0
      refine ⟨3, rfl, by decide, by decide, for_range (lo := 0) (n := 3) (fun i σ H' => ∃ (n : Nat) (o4 o5 o6 o7 o8 : Option V),
        σ = [some (.ref b), some (.ref r), some (.ref t), some (.int one), o4, o5, o6, o7, o8, none] ∧ Hd H H' b r t n rs pl m ∧ n ≤ 1000 + 3 * i)
        ⟨n, o4, none, none, none, none, rfl, hc, by omega⟩ ?_ ?_⟩
      · clear hn' hc
        rintro i σ H2 hi ⟨n, o4, o5, o6, o7, o8, rfl, hc, hn⟩
        obtain ⟨kvs, hk, kl, kv⟩ := hc.tab
        refine ⟨_, rfl, _, rfl, t, kvs, rfl, hk, _, _, rfl, rfl, (by show 2 ≤ sizeLine; decide), fun p np => ?_⟩
        have hc1 := hc.new (.lst [.int 3, .int ((kvs.length : Int) + 1)]) np
        refine ⟨_, rfl, b, 2, n, rfl, by decide, by decide, hc1.bag, by omega, fun v x3 y3 z3 v0 v1 ok3 => ?_⟩
        have hc2 := hc1.draw x3 ok3
        obtain ⟨u, u0, u1, hu2⟩ := pickF (c := (kvs.length : Int) + 1) v0 v1 (by omega) (by omega)
        refine ⟨p, _, _, _, rfl, rfl, SqL.of ((upd_ne (hc.ne np)).trans upd_same), hu2, b, u, n + 1, rfl, u0, by omega, hc2.bag, by omega, fun far x4 y4 z4 f0 f1 ok4 => ?_⟩
        have hc3 := hc2.draw x4 ok4
        refine ⟨_, rfl, _, rfl, Nat.zero_le _, fun e ne => ?_⟩
        have hc4 := hc3.new (.lst []) ne
        refine ⟨_, rfl, rfl, rfl, r, t, e, far, rs, [], pl, m, rfl, SqL.of hc4.rw, hc4.rows, hc4.tab, SqL.of upd_same, by omega, fun o no => ?_⟩
        have hc5 := hc4.new (.lst ((goneM pl rs [] far).map V.int)) no
        refine ⟨_, rfl, r, rfl, ⟨_, SqL.of hc5.rw⟩, fun D nD => left_comp (σ := [some (.ref b), some (.ref r), some (.ref t), some (.int one), some (.int (0 + i)), some (.int far), some (.ref o), o7, o8, none]) (io := 6) (ix := 9) (o := o) (rs := rs) (out := goneM pl rs [] far) rfl (by decide) (by show 9 < 10; decide) (SqL.of hc5.rw) hc5.rows (SqL.of upd_same) (by omega) nD ?_⟩
        have hc6 := hc5.new (.lst (refs (leftM rs (goneM pl rs [] far)))) nD
        have hleft : RowsIn (upd (upd (upd (upd (upd (upd H2 p (.lst [.int 3, .int ((kvs.length : Int) + 1)])) b (.lst [.int x3, .int y3, .int z3])) b (.lst [.int x4, .int y4, .int z4])) e (.lst [])) o (.lst ((goneM pl rs [] far).map V.int))) D (.lst (refs (leftM rs (goneM pl rs [] far))))) (leftM rs (goneM pl rs [] far)) := fun r hr => hc6.rows r (List.mem_filter.mp hr).1
        refine ⟨_, rfl, _, rfl, b, 60, n + 2, rfl, by decide, by decide, hc6.bag, by omega, fun s5 x5 y5 z5 s0 _ ok5 => ?_⟩
        have hc7 := hc6.draw x5 ok5
        have hDb : D ≠ b := hc5.ne nD
        have hb6 := hc6.bag_at
        obtain ⟨xs6, hb6⟩ := hb6
        refine ⟨_, _, rfl, rfl, ?_⟩
        have hD := SqL.of (K := K) ((upd_ne (H := upd (upd (upd (upd (upd (upd H2 p (.lst [.int 3, .int ((kvs.length : Int) + 1)])) b (.lst [.int x3, .int y3, .int z3])) b (.lst [.int x4, .int y4, .int z4])) e (.lst [])) o (.lst ((goneM pl rs [] far).map V.int))) D (.lst (refs (leftM rs (goneM pl rs [] far))))) (o := .lst [.int x5, .int y5, .int z5]) hDb).trans upd_same)
        have hleft7 := fun (r : Row) (hr : r ∈ leftM rs (goneM pl rs [] far)) => hc7.rows r (List.mem_filter.mp hr).1
        refine ⟨_, rfl, _, rfl, _, rfl, _, rfl, r, D, t, far + s5, 0, rs, leftM rs (goneM pl rs [] far), pl, m, rfl, SqL.of hc7.rw, hc7.rows, hD, hleft7, hc7.tab, sight_far g (by omega), _, rfl, ?_⟩
        refine iteF ?_
        refine ⟨_, rfl, _, rfl, _, rfl, _, rfl, r, D, t, 0, one, rs, leftM rs (goneM pl rs [] far), pl, m, rfl, SqL.of hc7.rw, hc7.rows, hD, hleft7, hc7.tab, ?_, _, rfl, ?_⟩
        · rcases hw with ⟨xl, el, ew⟩ | hw
          · exact sight_own g el ew pn (by simp)
          · exact sight_none g hw
        refine iteF ?_
        exact ⟨n + 3, _, _, _, _, _, rfl, hc7, by omega⟩
      · rintro σ H2 ⟨n, o4, o5, o6, o7, o8, rfl, hc, hn⟩
        exact q _ hc.keep
end
end SK
/-! KW7: the walk of law. -/
namespace SK
open PySem PySem.Spec PyProof.Rows L2
abbrev sLaw : Stmt := topS 12
theorem scL : FnScope ["script", "k", "rows", "table", "lost", "writer", "before", "far", "out", "left", "at", "top", "row", "one"] ["script"] (defScope sLaw) := ⟨rfl, rfl, rfl, by decide +kernel, rfl, by decide +kernel, by decide +kernel⟩
theorem turns_ok (n : Nat) : -(2 ^ 62) ≤ (if (if ((n : Int)) < 12 then (n : Int) else 12) > 1 then (if ((n : Int)) < 12 then (n : Int) else 12) else 1) ∧ (if (if ((n : Int)) < 12 then (n : Int) else 12) > 1 then (if ((n : Int)) < 12 then (n : Int) else 12) else 1) < 2 ^ 62 ∧
    (if (if ((n : Int)) < 12 then (n : Int) else 12) > 1 then (if ((n : Int)) < 12 then (n : Int) else 12) else 1) ≤ 12 := by
  by_cases h : (n : Int) < 12
  · rw [if_pos h]
    by_cases h2 : (n : Int) > 1
    · rw [if_pos h2]
      omega
    · rw [if_neg h2]
      omega
  · rw [if_neg h, if_pos (by decide)]
    omega
theorem keep_same {p : Addr} {H H1 : Hp} {o : HO} (np : H p = none) (k : Keep p (upd H p o) H1) : Same H H1 := fun b x e => k b x (same_upd np _ _ e) (ne_of_none e np)
section
variable {P : Program} {w : World} {K : PySem.W.Frag} {mg : Str → Option Value} {base : Heap}
def spLaw (K : PySem.W.Frag) : Sp := fun vs H Q _ => ∃ (a : Addr) (ns : List Int), vs = [.ref a] ∧ SqL K H a (ns.map V.int) ∧ ns.length ≤ 63 ∧ ∀ H', Q (.bl true) H'
theorem ok_law {f fC fB fL fH fG fA fN : Addr} {fd fdC fdB fdL fdH fdG fdA fdN : FuncData} (F : Fun K "law" "law" sLaw f fd)
    (GC : FnOk P w K mg base CX0 1 fC fdC ["script", "k"] (spCell K)) (kC : PySem.W.keepIn K (.ref fC) = true) (bC : Binds K fdC ["script", "k"] []) (gC : mg "_law_cell_at" = some (.ref fC))
    (GB : FnOk P w K mg base CX0 1 fB fdB ["cell", "place"] spBag) (kB : PySem.W.keepIn K (.ref fB) = true) (bB : Binds K fdB ["cell", "place"] []) (gB : mg "_law_bag" = some (.ref fB))
    (GL : FnOk P w K mg base CX0 4 fL fdL ["bag"] spLong) (kL : PySem.W.keepIn K (.ref fL) = true) (bL : Binds K fdL ["bag"] []) (gL : mg "_law_long" = some (.ref fL))
    (GH : FnOk P w K mg base CX0 2 fH fdH ["bag"] spHouse) (kH : PySem.W.keepIn K (.ref fH) = true) (bH : Binds K fdH ["bag"] []) (gH : mg "_law_house_chain" = some (.ref fH))
    (GG : FnOk P w K mg base CX0 2 fG fdG ["chain", "places", "undone", "horizon"] (spGone K)) (kG : PySem.W.keepIn K (.ref fG) = true) (bG : KBn K fdG ["chain", "places", "undone", "horizon"] 3 ["horizon"] (fun us ws => us ++ ws) (fun vs zs => vs ++ zs)) (gG : mg "gone" = some (.ref fG))
    (GA : FnOk P w K mg base CX0 3 fA fdA ["rows", "left", "table", "at", "who"] (spAlike K)) (kA : PySem.W.keepIn K (.ref fA) = true) (bA : Binds K fdA ["rows", "left", "table", "at", "who"] []) (gA : mg "_law_alike" = some (.ref fA))
    (GN : FnOk P w K mg base CX0 1 fN fdN ["chain", "places"] (spNewest K)) (kN : PySem.W.keepIn K (.ref fN) = true) (bN : Binds K fdN ["chain", "places"] []) (gN : mg "newest" = some (.ref fN))
    (ml : mg "len" = none) (mr : mg "range" = none) (mx : mg "max" = none) (mn : mg "min" = none) : FnOk P w K mg base CX0 5 f fd ["script"] (spLaw K) := by
  refine F.ok scL (fun vs H Q E h => ?_) (fun cdv A outer s H vs Q E hr h => ?_)
  · obtain ⟨a, ns, rfl, _⟩ := h
    rfl
  · obtain ⟨a, ns, rfl, hS, hlen, q⟩ := h
    have hu := hu_of hr
    have hr1 : Room 1 _ := hr.mono (by decide)
    have hr2 : Room 2 _ := hr.mono (by decide)
    have hr3 : Room 3 _ := hr.mono (by decide)
    refine ⟨_, pss_cons (ps_if (pt_not (pt_val (pe_call GL hr (by rfl) gL kL bL .nil pass0 (pa_cons (pe_call GB hr1 (by rfl) gB kB bB .nil pass0 (pa_cons (pe_call GC hr1 (by rfl) gC kC bC .nil pass0 (pa_cons (pv 0) (pa_cons pe_int pa_nil))) (pa_cons pe_int pa_nil))) pa_nil)))) (pss_one (ps_ret pe_bl)) pss_nil)
      (pss_cons (ps_for PassesOwn.never rfl (pi_range1 (by rfl) mr (pa_cons (pe_callB (call_max2 rfl) (by rfl) mx (by decide +kernel) (pa_cons pe_int (pa_cons (pe_callB (call_min2 rfl) (by rfl) mn (by decide +kernel) (pa_cons pe_int (pa_cons (pe_callB call_len_seq (by rfl) ml PySem.boot_len (pa_cons (pv 0) pa_nil)) pa_nil))) pa_nil))) pa_nil)) (pg_name (i := 1) scL.nd rfl (.inl rfl))
        (pss_cons (ps_asg (pe_call GH hr2 (by rfl) gH kH bH .nil pass0 (pa_cons (pe_call GB hr1 (by rfl) gB kB bB .nil pass0 (pa_cons (pe_call GC hr1 (by rfl) gC kC bC .nil pass0 (pa_cons (pv 0) (pa_cons (pv 1) pa_nil))) (pa_cons (pv 1) pa_nil))) pa_nil))
            (pg_tup rfl (pgs_cons (pg_name (i := 2) scL.nd rfl (.inl rfl)) (pgs_cons (pg_name (i := 3) scL.nd rfl (.inl rfl)) (pgs_cons (pg_name (i := 4) scL.nd rfl (.inl rfl)) (pgs_cons (pg_name (i := 5) scL.nd rfl (.inl rfl)) pgs_nil))))))
        (pss_cons (ps_set (i := 6) scL.nd rfl (.inl rfl) (pe_lst pa_nil))
        (pss_one (ps_for PassesOwn.never rfl (pi_range1 (by rfl) mr (pa_cons (pe_op op_add (pe_callB call_lenD (by rfl) ml PySem.boot_len (pa_cons (pv 3) pa_nil)) pe_int) pa_nil)) (pg_name (i := 7) scL.nd rfl (.inl rfl))
          (pss_cons (ps_set (i := 8) scL.nd rfl (.inr rfl) (pe_callN GG hr2 (by rfl) gG kG bG pass0 (pa_cons (pv 2) (pa_cons (pv 3) (pa_cons (pv 4) pa_nil))) (pk_cons (pv 7) pk_nil)))
          (pss_cons (ps_setLc (i := 9) (own := [("row", 12)]) (g := gName 12) (tt := tTest (tOp (rIn K true) (tOp (rIxT K) (tVar 12) (tC (.int 0))) (tVar 8))) rfl scL.nd rfl rfl (sw_true rfl rfl rfl (by decide +kernel)) (pi_list (pv 2)) (blkOk_by (own := [("row", 12)]) (N := ["script", "k", "rows", "table", "lost", "writer", "before", "far", "out", "left", "at", "top", "row", "one"]) (sc := defScope sLaw) (by decide +kernel))
              (fun _ _ _ _ _ => pg_name (i := 12) scL.nd rfl (Or.inl rfl)) (fun _ _ _ _ _ => pts_one (pt_cmpR op_notIn_seq (pe_ix ix_tup (pv 12) pe_int (fun _ _ => rfl)) (pv 8) (by rfl))) (fun _ _ _ _ _ => pv 12))
          (pss_cons (ps_for PassesOwn.never rfl (pi_range1 (by rfl) mr (pa_cons (pe_op op_add (pe_callB call_lenD (by rfl) ml PySem.boot_len (pa_cons (pv 3) pa_nil)) pe_int) pa_nil)) (pg_name (i := 10) scL.nd rfl (.inl rfl))
            (pss_cons (ps_if (PW.pt (pw_and (pt_cmpR op_ge (pv 10) (pv 7) (nomark _)) (pw_and1 (pt_not (pt_val (pe_call GA hr3 (by rfl) gA kA bA .nil pass0 (pa_cons (pv 2) (pa_cons (pv 9) (pa_cons (pv 3) (pa_cons (pv 10) (pa_cons pe_int pa_nil))))))))))) (pss_one (ps_ret pe_bl)) pss_nil)
            (pss_one (ps_if (PW.pt (pw_and (pt_cmpR op_gt (pv 5) pe_int (nomark _)) (pw_and1 (pt_not (pt_val (pe_call GA hr3 (by rfl) gA kA bA .nil pass0 (pa_cons (pv 2) (pa_cons (pv 9) (pa_cons (pv 3) (pa_cons (pv 10) (pa_cons (pv 5) pa_nil))))))))))) (pss_one (ps_ret pe_bl)) pss_nil))))
          (pss_cons (ps_set (i := 11) scL.nd rfl (.inl rfl) (pe_call GN hr1 (by rfl) gN kN bN .nil pass0 (pa_cons (pv 2) (pa_cons (pv 3) pa_nil))))
          (pss_cons (ps_if (PW.pt (pw_and (pt_cmp (pc_notN (pv 11))) (pw_and (pt_cmpR op_gt (pe_dget hu (pv 3) (pe_ix ix_tup (pv 11) pe_int (fun _ _ => rfl)) (fun _ _ => rfl)) (pv 7) (nomark _))
              (pw_and1 (pt_cmpR (op_neD hr.units) (pe_call GN hr1 (by rfl) gN kN bN .nil pass0 (pa_cons (pv 9) (pa_cons (pv 3) pa_nil))) (pv 11) (nomark _)))))) (pss_one (ps_ret pe_bl)) pss_nil)
          (pss_cons (ps_if (PW.pt (pw_or (pt_cmpR (op_neD hr.units) (pe_callN GG hr2 (by rfl) gG kG bG pass0 (pa_cons (pv 9) (pa_cons (pv 3) (pa_cons (pv 4) pa_nil))) (pk_cons (pv 7) pk_nil)) (pe_lst pa_nil) (nomark _))
              (pw_or1 (pt_cmpR (op_neD hr.units) (pe_lc (own := [("one", 13)]) (g := gName 13) (tt := tTest (tOp (rIn K true) (tVar 13) (tVar 8))) rfl scL.nd (pi_list (pv 6)) (blkOk_by (own := [("one", 13)]) (N := ["script", "k", "rows", "table", "lost", "writer", "before", "far", "out", "left", "at", "top", "row", "one"]) (sc := defScope sLaw) (by decide +kernel))
                (fun _ _ _ _ _ => pg_name (i := 13) scL.nd rfl (Or.inl rfl)) (fun _ _ _ _ _ => pts_one (pt_cmpR op_notIn_seq (pv 13) (pv 8) (by rfl))) (fun _ _ _ _ _ => pv 13)) (pe_lst pa_nil) (nomark _))))) (pss_one (ps_ret pe_bl)) pss_nil)
          (pss_one (ps_set (i := 6) scL.nd rfl (.inl rfl) (pv 8))))))))))))))
      (pss_one (ps_ret pe_bl))), ?_⟩
    refine ⟨_, rfl, a, 0, ns, rfl, hS, by decide, fun c => ⟨c, 99, rfl, by decide, by decide, fun p x y z np ok => ⟨p, rfl, ⟨x, y, z, upd_same, ok⟩, fun H1 kp => ⟨_, rfl, ?_⟩⟩⟩⟩
    refine iteF ?_
    have s1 : Same H H1 := keep_same np kp
    have ht := turns_ok (ns.map V.int).length
    refine ⟨_, rfl, a, ns.map V.int, rfl, .inl (s1.seq hS), _, _, rfl, _, _, rfl, _, rfl, ht.1, ht.2.1, for_range (lo := 0) (n := (if (if (((ns.map V.int).length : Int)) < 12 then ((ns.map V.int).length : Int) else 12) > 1 then (if (((ns.map V.int).length : Int)) < 12 then ((ns.map V.int).length : Int) else 12) else 1).toNat) (fun i σ H' => ∃ o1 o2 o3 o4 o5 o6 o7 o8 o9 o10 o11 : Option V,
      σ = [some (.ref a), o1, o2, o3, o4, o5, o6, o7, o8, o9, o10, o11, none, none] ∧ Same H H') ⟨none, none, none, none, none, none, none, none, none, none, none, rfl, s1⟩ ?_ ?_⟩
    · rintro i σ H2 hi ⟨o1, o2, o3, o4, o5, o6, o7, o8, o9, o10, o11, rfl, s2⟩
      have hi12 : i < 12 := by
        have := ht.2.2
        omega
      clear ht hi
      refine ⟨_, rfl, _, rfl, a, 0 + i, ns, rfl, s2.seq hS, by omega, fun c => ⟨_, rfl, c, 0 + i, rfl, by omega, by omega, fun p x y z np ok => ⟨p, rfl, ⟨x, y, z, upd_same, ok⟩, fun H3 T r t l who rs pl m lost kp hT hh => ?_⟩⟩⟩
      have s3 : Same H H3 := s2.trans (keep_same np kp)
      refine ⟨T, _, rfl, SqT.of hT, rfl, _, _, rfl, _, _, rfl, _, _, rfl, _, _, rfl, rfl, ?_⟩
      refine ⟨Nat.zero_le _, fun e ne => ?_⟩
      have hh4 := hh.same (same_upd (o := .lst []) ne)
      obtain ⟨kvs, hk, kl, kv⟩ := hh4.tab
      have few := hh.few
      refine ⟨_, rfl, t, kvs, rfl, hk, _, _, rfl, rfl, _, rfl, by omega, by omega, for_range (lo := 0) (n := ((kvs.length : Int) + 1).toNat) (fun far σ H' => ∃ (e : Addr) (bs : List Int) (o7 o8 o9 o10 o11 : Option V),
        σ = [some (.ref a), some (.int (0 + i)), some (.ref r), some (.ref t), some (.ref l), some (.int who), some (.ref e), o7, o8, o9, o10, o11, none, none] ∧ Same H H' ∧ House H' r t l who rs pl m lost ∧ H' e = some (.lst (bs.map V.int)) ∧ bs.length ≤ 100 ∧ ∀ n ∈ bs, n ∈ goneM pl rs lost far)
        ⟨e, [], _, _, _, _, _, rfl, s3.trans (same_upd ne), hh4, upd_same, Nat.zero_le _, fun n hn => (by cases hn)⟩ ?_ ?_⟩
      · clear hh4 hh kv hk
        clear hT ne
        rintro far σ H4 hfar ⟨e, bs, o7, o8, o9, o10, o11, rfl, s4, hh, he, hbs, hin⟩
        have g := hh.good
        have short := hh.short
        refine ⟨_, rfl, _, rfl, _, rfl, _, rfl, rfl, rfl, r, t, l, 0 + far, rs, lost, pl, m, rfl, SqL.of hh.rw, hh.rows, hh.tab, SqL.of hh.ls, by omega, fun o no => ?_⟩
        have e0 : (0 : Int) + far = far := by omega
        rw [e0]
        have s5 : Same H4 (upd H4 o (.lst ((goneM pl rs lost far).map V.int))) := same_upd no
        have hh5 := hh.same s5
        have ho5 : upd H4 o (.lst ((goneM pl rs lost far).map V.int)) o = some (.lst ((goneM pl rs lost far).map V.int)) := upd_same
        have he5 := s5 _ _ he
        generalize upd H4 o (.lst ((goneM pl rs lost far).map V.int)) = H5 at *
        refine ⟨_, rfl, r, rfl, ⟨_, SqL.of hh5.rw⟩, fun D nD => left_comp (σ := [some (.ref a), some (.int (0 + i)), some (.ref r), some (.ref t), some (.ref l), some (.int who), some (.ref e), some (.int far), some (.ref o), o9, o10, o11, none, none]) (io := 8) (ix := 12) (o := o) (rs := rs) (out := goneM pl rs lost far) rfl (by decide) (by show 12 < 14; decide) (SqL.of hh5.rw) hh5.rows (SqL.of ho5) (by omega) nD ?_⟩
        have s6 : Same H5 (upd H5 D (.lst (refs (leftM rs (goneM pl rs lost far))))) := same_upd nD
        have hh6 := hh5.same s6
        have ho6 := s6 _ _ ho5
        have he6 := s6 _ _ he5
        have hD6 : upd H5 D (.lst (refs (leftM rs (goneM pl rs lost far)))) D = some (.lst (refs (leftM rs (goneM pl rs lost far)))) := upd_same
        have s46 := s4.trans (s5.trans s6)
        generalize upd H5 D (.lst (refs (leftM rs (goneM pl rs lost far)))) = H6 at *
        have hl6 : RowsIn H6 (leftM rs (goneM pl rs lost far)) := fun r hr => hh6.rows r (List.mem_filter.mp hr).1
        have ll : (leftM rs (goneM pl rs lost far)).length ≤ 100 := Nat.le_trans (List.length_filter_le _ _) short
        obtain ⟨kvs6, hk6, kl6, kv6⟩ := hh6.tab
        refine ⟨_, rfl, t, kvs6, rfl, hk6, _, _, rfl, rfl, _, rfl, by omega, by omega, for_range (lo := 0) (n := ((kvs6.length : Int) + 2).toNat) (fun at_ σ H' => ∃ o10 : Option V,
          σ = [some (.ref a), some (.int (0 + i)), some (.ref r), some (.ref t), some (.ref l), some (.int who), some (.ref e), some (.int far), some (.ref o), some (.ref D), o10, o11, none, none] ∧ H' = H6) ⟨o10, rfl, rfl⟩ ?_ ?_⟩
        · rintro at_ σ H' hat ⟨o10, rfl, rfl⟩
          refine ⟨_, rfl, _, rfl, _, _, rfl, rfl, _, rfl, ite2 (fun e1 => ?a1) (fun e1 => iteF ?a2)⟩
          case' a1 =>
            have e2 : (far : Int) ≤ 0 + at_ := of_decide_eq_true e1
            refine ⟨_, rfl, _, rfl, _, rfl, _, rfl, r, D, t, 0 + at_, 0, rs, leftM rs (goneM pl rs lost far), pl, m, rfl, SqL.of hh6.rw, hh6.rows, SqL.of hD6, hl6, hh6.tab, sight_far g e2, _, rfl, iteF ?_⟩
          all_goals
            refine ⟨_, rfl, _, _, rfl, rfl, _, rfl, ite2 (fun e3 => ?_) (fun e3 => iteF ⟨_, rfl, rfl⟩)⟩
            have e4 : 0 < who := of_decide_eq_true e3
            obtain ⟨xl, el, ew, pn, nl⟩ := hh6.own e4
            exact ⟨_, rfl, _, rfl, _, rfl, _, rfl, _, rfl, r, D, t, 0 + at_, who, rs, leftM rs (goneM pl rs lost far), pl, m, rfl, SqL.of hh6.rw, hh6.rows, SqL.of hD6, hl6, hh6.tab, sight_own g el ew pn nl, _, rfl, iteF ⟨_, rfl, rfl⟩⟩
        · rintro σ H' ⟨o10, rfl, rfl⟩
          refine ⟨_, rfl, _, rfl, r, t, rs, pl, m, rfl, SqL.of hh6.rw, hh6.rows, hh6.tab, ?_⟩
          suffices rest : ∀ o11 : Option V, (tSeq (tIfS (tOr (tTest (tOp (rNeD K) (tCallN 3 1 (spGone K) (fun vs zs => vs ++ zs) E0 (tCons (tVar 9) (tCons (tVar 3) (tCons (tVar 4) tNil))) (tCons (tVar 7) tNil)) (tLst tNil)))
              (tTest (tOp (rNeD K) (tLc (iList K (tVar 6)) (gName 13) (tTest (tOp (rIn K true) (tVar 13) (tVar 8))) (tVar 13) [13]) (tLst tNil)))) (tRet (tC (.bl false))) tNext) (tAsg (tVar 8) (gName 6)))
              { nx := fun σ H' => ∃ (e : Addr) (bs : List Int) (o7 o8 o9 o10 o11 : Option V),
                  σ = [some (.ref a), some (.int (0 + i)), some (.ref r), some (.ref t), some (.ref l), some (.int who), some (.ref e), o7, o8, o9, o10, o11, none, none] ∧ Same H H' ∧ House H' r t l who rs pl m lost ∧ H' e = some (.lst (bs.map V.int)) ∧ bs.length ≤ 100 ∧ ∀ n ∈ bs, n ∈ goneM pl rs lost ((far + 1 : Nat) : Int),
                rt := Q }
              [some (.ref a), some (.int (0 + i)), some (.ref r), some (.ref t), some (.ref l), some (.int who), some (.ref e), some (.int far), some (.ref o), some (.ref D), o10, o11, none, none] H' by
            cases en : newestM pl rs with
            | none =>
              refine ⟨_, rfl, _, rfl, ?_⟩
              exact iteB (b := false) rfl (iteF (iteF (rest _)))
            | some xt =>
              obtain ⟨hx, px, ex⟩ := newest_in en
              have hxt := hh6.rows xt hx
              have gt := hh6.tab.get xt.wr
              rw [ex] at gt
              refine ⟨_, rfl, _, rfl, ?_⟩
              refine iteB (b := true) rfl (iteT ?_)
              refine ⟨_, rfl, _, rfl, xt.ad, rowV xt, 1, .int xt.wr, rfl, rfl, SqT.of hxt, at1 xt, t, .int px, rfl, gt, _, rfl, px, far, rfl, rfl, _, rfl, ?_⟩
              by_cases lt : (far : Int) < px
              · refine iteB (b := true) (decide_eq_true lt) (iteT ?_)
                refine ⟨_, rfl, _, rfl, D, t, leftM rs (goneM pl rs lost far), pl, m, rfl, SqL.of hD6, hl6, hh6.tab, ?_⟩
                rw [newest_left g en ex lt]
                refine ⟨_, rfl, rowD xt, rowD xt, row_dp hxt, row_dp hxt, shaped_row xt, shaped_row xt, _, rfl, ?_⟩
                exact iteB (b := false) (by rw [eqv_row]; rfl) (iteF (rest _))
              · exact iteB (b := false) (decide_eq_false lt) (iteF (iteF (rest _)))
          intro o11
          refine ⟨_, rfl, _, rfl, _, rfl, _, rfl, rfl, rfl, D, t, l, far, leftM rs (goneM pl rs lost far), lost, pl, m, rfl, SqL.of hD6, hl6, hh6.tab, SqL.of hh6.ls, by omega, fun p1 np1 => ?_⟩
          rw [show goneM pl (leftM rs (goneM pl rs lost far)) lost far = [] from gone_again g]
          have s7 : Same H' (upd H' p1 (.lst (([] : List Int).map V.int))) := same_upd np1
          have hp7 : upd H' p1 (.lst (([] : List Int).map V.int)) p1 = some (.lst []) := upd_same
          generalize upd H' p1 (.lst (([] : List Int).map V.int)) = H7 at *
          refine ⟨Nat.zero_le _, fun p2 np2 => ?_⟩
          have s8 : Same H7 (upd H7 p2 (.lst [])) := same_upd np2
          have hp8 := s8 _ _ hp7
          have hq8 : upd H7 p2 (.lst []) p2 = some (.lst []) := upd_same
          generalize upd H7 p2 (.lst []) = H8 at *
          refine ⟨.list [], .list [], .lst (SqL.of hp8) .nil, .lst (SqL.of hq8) .nil, shaped_nil, shaped_nil, _, rfl, ?_⟩
          refine iteB (b := false) (by rw [eqv_nil]; rfl) (iteF ?_)
          have s68 := s7.trans s8
          refine ⟨_, rfl, e, rfl, ⟨_, SqL.of (s68 _ _ he6)⟩, fun p3 np3 => rest_comp (σ := [some (.ref a), some (.int (0 + i)), some (.ref r), some (.ref t), some (.ref l), some (.int who), some (.ref e), some (.int far), some (.ref o), some (.ref D), o10, o11, none, none]) (io := 8) (ix := 13) (o := o) (bs := bs) (out := goneM pl rs lost far) rfl (by decide) (by show 13 < 14; decide) (SqL.of (s68 _ _ he6)) (SqL.of (s68 _ _ ho6)) (by omega) hin np3 ?_⟩
          have s9 : Same H8 (upd H8 p3 (.lst [])) := same_upd np3
          have hp9 : upd H8 p3 (.lst []) p3 = some (.lst []) := upd_same
          generalize upd H8 p3 (.lst []) = H9 at *
          refine ⟨Nat.zero_le _, fun p4 np4 => ?_⟩
          have s10 : Same H9 (upd H9 p4 (.lst [])) := same_upd np4
          have hp10 := s10 _ _ hp9
          have hq10 : upd H9 p4 (.lst []) p4 = some (.lst []) := upd_same
          generalize upd H9 p4 (.lst []) = H10 at *
          refine ⟨.list [], .list [], .lst (SqL.of hp10) .nil, .lst (SqL.of hq10) .nil, shaped_nil, shaped_nil, _, rfl, ?_⟩
          refine iteB (b := false) (by rw [eqv_nil]; rfl) (iteF ?_)
          have s610 := s68.trans (s9.trans s10)
          refine ⟨_, rfl, o, goneM pl rs lost far, _, _, _, _, _, rfl, s46.trans s610, hh6.same s610, s610 _ _ ho6, ?_, fun n hn => ?_⟩
          · unfold goneM
            rw [List.length_map]
            exact Nat.le_trans (List.length_filter_le _ _) short
          · exact gone_grows g hn
      · rintro σ H4 ⟨e, bs, o7, o8, o9, o10, o11, rfl, s4, _⟩
        exact ⟨_, _, _, _, _, _, _, _, _, _, _, rfl, s4⟩
    · rintro σ H2 ⟨o1, o2, o3, o4, o5, o6, o7, o8, o9, o10, o11, rfl, s2⟩
      exact q _
end
end SK
/-! KW8: what the top has written; the theorem. -/
namespace SK
open PySem PySem.Spec PyProof.Rows L2
theorem all_mk {l : PySem.W.OpenLaw} {w : World} {K : PySem.W.Frag} {h : Heap} {mg : Str → Option Value} {fa f1 f2 f3 f4 f5 f6 f7 f8 f9 f10 f11 T2 : Addr} (X : K.In h) (G : h.Ns mainGlobals mg) (hfa : mg "law" = some (.ref fa))
    {od1 an1 od2 an2 od3 an3 od4 an4 od5 an5 od6 an6 od7 an7 od8 an8 od9 an9 od10 an10 od11 an11 dT : Option Addr} {sl1 sl2 sl3 sl4 sl5 sl6 sl7 sl8 sl9 sl10 sl11 sT : Array (Option Value)} {oc1 kV1 dc1 pm1 cd1 ct1 oc2 kV2 dc2 pm2 cd2 ct2 oc3 kV3 dc3 pm3 cd3 ct3 oc4 kV4 dc4 pm4 cd4 ct4 oc5 kV5 dc5 pm5 cd5 ct5 oc6 kV6 dc6 pm6 cd6 ct6 oc7 kV7 dc7 pm7 cd7 ct7 oc8 kV8 dc8 pm8 cd8 ct8 oc9 kV9 dc9 pm9 cd9 ct9 oc10 kV10 dc10 pm10 cd10 ct10 oc11 kV11 dc11 pm11 cd11 ct11 oT : Value} {tk : Tok} {nT : Nat}
    (a1 : PySem.W.nsIn K mainGlobals "is_within" = some (some (.ref f1))) (l1 : K.lookup f1 = some ⟨oc1, od1, .func (PySem.W.fnOf "is_within" "is_within" (defArgs sWithin) (defBody sWithin) (defScope sWithin) .none kV1 dc1 pm1 an1 cd1 ct1), sl1⟩) (c1 : PySem.W.codeIn K cd1 "is_within" = true) (k1 : PySem.W.keepIn K (.ref f1) = true)
    (a2 : PySem.W.nsIn K mainGlobals "seen" = some (some (.ref f2))) (l2 : K.lookup f2 = some ⟨oc2, od2, .func (PySem.W.fnOf "seen" "seen" (defArgs sSeen) (defBody sSeen) (defScope sSeen) (.ref T2) kV2 dc2 pm2 an2 cd2 ct2), sl2⟩) (c2 : PySem.W.codeIn K cd2 "seen" = true) (k2 : PySem.W.keepIn K (.ref f2) = true)
    (lT : K.lookup T2 = some ⟨oT, dT, .seq #[.int 0 tk] nT, sT⟩)
    (a3 : PySem.W.nsIn K mainGlobals "newest" = some (some (.ref f3))) (l3 : K.lookup f3 = some ⟨oc3, od3, .func (PySem.W.fnOf "newest" "newest" (defArgs sNewest) (defBody sNewest) (defScope sNewest) .none kV3 dc3 pm3 an3 cd3 ct3), sl3⟩) (c3 : PySem.W.codeIn K cd3 "newest" = true) (k3 : PySem.W.keepIn K (.ref f3) = true)
    (a4 : PySem.W.nsIn K mainGlobals "gone" = some (some (.ref f4))) (l4 : K.lookup f4 = some ⟨oc4, od4, .func (PySem.W.fnOf "gone" "gone" (defArgs sGone) (defBody sGone) (defScope sGone) .none kV4 dc4 pm4 an4 cd4 ct4), sl4⟩) (c4 : PySem.W.codeIn K cd4 "gone" = true) (k4 : PySem.W.keepIn K (.ref f4) = true)
    (a5 : PySem.W.nsIn K mainGlobals "_law_cell_at" = some (some (.ref f5))) (l5 : K.lookup f5 = some ⟨oc5, od5, .func (PySem.W.fnOf "_law_cell_at" "_law_cell_at" (defArgs sCell) (defBody sCell) (defScope sCell) .none kV5 dc5 pm5 an5 cd5 ct5), sl5⟩) (c5 : PySem.W.codeIn K cd5 "_law_cell_at" = true) (k5 : PySem.W.keepIn K (.ref f5) = true)
    (a6 : PySem.W.nsIn K mainGlobals "_law_bag" = some (some (.ref f6))) (l6 : K.lookup f6 = some ⟨oc6, od6, .func (PySem.W.fnOf "_law_bag" "_law_bag" (defArgs sBag) (defBody sBag) (defScope sBag) .none kV6 dc6 pm6 an6 cd6 ct6), sl6⟩) (c6 : PySem.W.codeIn K cd6 "_law_bag" = true) (k6 : PySem.W.keepIn K (.ref f6) = true)
    (a7 : PySem.W.nsIn K mainGlobals "_law_draw" = some (some (.ref f7))) (l7 : K.lookup f7 = some ⟨oc7, od7, .func (PySem.W.fnOf "_law_draw" "_law_draw" (defArgs sDraw) (defBody sDraw) (defScope sDraw) .none kV7 dc7 pm7 an7 cd7 ct7), sl7⟩) (c7 : PySem.W.codeIn K cd7 "_law_draw" = true) (k7 : PySem.W.keepIn K (.ref f7) = true)
    (a8 : PySem.W.nsIn K mainGlobals "_law_house_chain" = some (some (.ref f8))) (l8 : K.lookup f8 = some ⟨oc8, od8, .func (PySem.W.fnOf "_law_house_chain" "_law_house_chain" (defArgs sHouse) (defBody sHouse) (defScope sHouse) .none kV8 dc8 pm8 an8 cd8 ct8), sl8⟩) (c8 : PySem.W.codeIn K cd8 "_law_house_chain" = true) (k8 : PySem.W.keepIn K (.ref f8) = true)
    (a9 : PySem.W.nsIn K mainGlobals "_law_alike" = some (some (.ref f9))) (l9 : K.lookup f9 = some ⟨oc9, od9, .func (PySem.W.fnOf "_law_alike" "_law_alike" (defArgs sAlike) (defBody sAlike) (defScope sAlike) .none kV9 dc9 pm9 an9 cd9 ct9), sl9⟩) (c9 : PySem.W.codeIn K cd9 "_law_alike" = true) (k9 : PySem.W.keepIn K (.ref f9) = true)
    (a10 : PySem.W.nsIn K mainGlobals "_law_long" = some (some (.ref f10))) (l10 : K.lookup f10 = some ⟨oc10, od10, .func (PySem.W.fnOf "_law_long" "_law_long" (defArgs sLong) (defBody sLong) (defScope sLong) .none kV10 dc10 pm10 an10 cd10 ct10), sl10⟩) (c10 : PySem.W.codeIn K cd10 "_law_long" = true) (k10 : PySem.W.keepIn K (.ref f10) = true)
    (a11 : PySem.W.nsIn K mainGlobals "law" = some (some (.ref f11))) (l11 : K.lookup f11 = some ⟨oc11, od11, .func (PySem.W.fnOf "law" "law" (defArgs sLaw) (defBody sLaw) (defScope sLaw) .none kV11 dc11 pm11 an11 cd11 ct11), sl11⟩) (c11 : PySem.W.codeIn K cd11 "law" = true) (k11 : PySem.W.keepIn K (.ref f11) = true)
    (z1 : PySem.W.nsIn K mainGlobals "len" = some none) (z2 : PySem.W.nsIn K mainGlobals "range" = some none) (z3 : PySem.W.nsIn K mainGlobals "max" = some none) (z4 : PySem.W.nsIn K mainGlobals "min" = some none) :
    ∃ fd : FuncData, (∀ (s : Shared) (v : Value), BindsTo s fd ⟨[v], []⟩ [("script", v)]) ∧ ∀ base : Heap, K.In base → base.Ns mainGlobals mg → FnOk l.prog w K mg base CX0 5 fa fd ["script"] (spLaw K) := by
  have e := hfa.symm.trans (PySem.W.mg_of X G a11)
  cases e
  have F1 := fun_mk (st := sWithin) l1 c1 k1
  have F3 := fun_mk (st := sNewest) l3 c3 k3
  have F4 := fun_mk (st := sGone) l4 c4 k4
  have F5 := fun_mk (st := sCell) l5 c5 k5
  have F6 := fun_mk (st := sBag) l6 c6 k6
  have F7 := fun_mk (st := sDraw) l7 c7 k7
  have F8 := fun_mk (st := sHouse) l8 c8 k8
  have F9 := fun_mk (st := sAlike) l9 c9 k9
  have F10 := fun_mk (st := sLong) l10 c10 k10
  have F11 := fun_mk (st := sLaw) l11 c11 k11
  have F2 : FunD K "seen" "seen" (defArgs sSeen) (defBody sSeen) (defScope sSeen) [.int 0] [] f2 _ := ⟨⟨oc2, od2, .ref T2, kV2, dc2, pm2, an2, cd2, ct2, sl2, rfl, l2, c2, .inr ⟨(fun z => by cases z), T2, _, [.int 0 tk], nT, rfl, lT, rfl, .cons ⟨tk, rfl⟩ .nil⟩, .inl rfl⟩, k2⟩
  have b1 := F1.binds (ps := ["version", "places", "stand"]) fun _ _ _ _ _ _ us hl => match us, hl with | [_, _, _], _ => rfl
  have b2 : Binds K (PySem.W.fnOf "seen" "seen" (defArgs sSeen) (defBody sSeen) (defScope sSeen) (.ref T2) kV2 dc2 pm2 an2 cd2 ct2) ["chain", "places", "stand", "dealing"] [] := by
    obtain ⟨ds, r, b⟩ := F2.binds1 (ps := ["chain", "places", "stand", "dealing"]) 4 1 (fun z => by cases z) rfl (fun T kV doc pm an cdv ct us its h1 h2 => by
      match us, h1, its, h2 with
      | [a, b, c, d], _, [x], _ => exact ⟨_, rfl, rfl⟩)
    cases r
    exact b
  have b3 := F3.binds (ps := ["chain", "places"]) fun _ _ _ _ _ _ us hl => match us, hl with | [_, _], _ => rfl
  have b4 : KBn K (PySem.W.fnOf "gone" "gone" (defArgs sGone) (defBody sGone) (defScope sGone) .none kV4 dc4 pm4 an4 cd4 ct4) ["chain", "places", "undone", "horizon"] 3 ["horizon"] (fun us ws => us ++ ws) (fun vs zs => vs ++ zs) :=
    ⟨fun s us ws _ h1 h2 => match us, h1, ws, h2 with | [_, _, _], _, [_], _ => .of_eq rfl, fun r1 r2 => r1.append r2⟩
  have b5 := F5.binds (ps := ["script", "k"]) fun _ _ _ _ _ _ us hl => match us, hl with | [_, _], _ => rfl
  have b6 := F6.binds (ps := ["cell", "place"]) fun _ _ _ _ _ _ us hl => match us, hl with | [_, _], _ => rfl
  have b7 := F7.binds (ps := ["bag", "many"]) fun _ _ _ _ _ _ us hl => match us, hl with | [_, _], _ => rfl
  have b8 := F8.binds (ps := ["bag"]) fun _ _ _ _ _ _ us hl => match us, hl with | [_], _ => rfl
  have b9 := F9.binds (ps := ["rows", "left", "table", "at", "who"]) fun _ _ _ _ _ _ us hl => match us, hl with | [_, _, _, _, _], _ => rfl
  have b10 := F10.binds (ps := ["bag"]) fun _ _ _ _ _ _ us hl => match us, hl with | [_], _ => rfl
  have g1 := PySem.W.mg_of X G a1
  have g2 := PySem.W.mg_of X G a2
  have g3 := PySem.W.mg_of X G a3
  have g4 := PySem.W.mg_of X G a4
  have g5 := PySem.W.mg_of X G a5
  have g6 := PySem.W.mg_of X G a6
  have g7 := PySem.W.mg_of X G a7
  have g8 := PySem.W.mg_of X G a8
  have g9 := PySem.W.mg_of X G a9
  have g10 := PySem.W.mg_of X G a10
  have g11 := PySem.W.mg_of X G a11
  have mz1 := PySem.W.mg_none_of X G z1
  have mz2 := PySem.W.mg_none_of X G z2
  have mz3 := PySem.W.mg_none_of X G z3
  have mz4 := PySem.W.mg_none_of X G z4
  refine ⟨PySem.W.fnOf "law" "law" (defArgs sLaw) (defBody sLaw) (defScope sLaw) .none kV11 dc11 pm11 an11 cd11 ct11, fun s v => .of_eq rfl, fun base _ _ => ?_⟩
  have GS := ok_seen (P := l.prog) (w := w) (base := base) F2 F1 b1 g1
  have GG := ok_gone (P := l.prog) (w := w) (base := base) F4 F1 b1 g1
  have GA := ok_alike (P := l.prog) (w := w) (base := base) (dsS := []) F9 GS k2 b2 g2
  exact ok_law F11 (ok_cell F5 mz1) k5 b5 g5 (ok_bag F6 mz3) k6 b6 g6 (ok_long F10 F7 b7 g7 GG k4 b4 g4 GA k9 b9 g9 mz1 mz2) k10 b10 g10 (ok_house F8 F7 b7 g7 mz1 mz2) k8 b8 g8 GG k4 b4 g4 GA k9 b9 g9 (ok_newest F3) k3 b3 g3 mz1 mz2 mz3 mz4
theorem walk {l : PySem.W.OpenLaw} {q : Program} {loose : List Str} {XP : (Str → Option Value) → Heap → Prop} {YP : World → Heap → Prop} {d : DefRec} {K : Params → PySem.W.Frag} (hn : l.most = some 63) (hdf : d.params.defaults = [])
    (hY : ∀ (w : World) (h : Heap), YP w h → (K w.params).In h)
    (F : ∀ (w : World) (mg : Str → Option Value) (fa : Addr) (h : Heap), (K w.params).In h → h.Ns mainGlobals mg → mg d.name = some (.ref fa) →
      ∃ fd : FuncData, (∀ (s : Shared) (u : Value), BindsTo s fd ⟨[u], []⟩ [("script", u)]) ∧ ∀ base : Heap, (K w.params).In base → base.Ns mainGlobals mg → FnOk l.prog w (K w.params) mg base CX0 5 fa fd ["script"] (spLaw (K w.params))) :
    PySem.W.WalkO q loose XP YP l.row.toRowW d [] (fun f vs => PySem.call f vs) :=
  L2.walk_of (n := 63) (k := 5) (x := "script") (CX := fun _ => CX0) (sp := fun w => spLaw (K w.params)) hn (by decide) hdf ⟨rfl, by decide, by decide⟩ hY F (fun _ _ a ns hl _ hS => ⟨a, ns, rfl, hS, hl, fun _ => rfl⟩) fun _ _ _ _ _ z => z
end SK
open PySem PySem.W PyProof.Rows
set_option maxRecDepth 100000 in
set_option maxHeartbeats 0 in
theorem PySem.Challenge.cw_slotkeep_k05_whole_sweeps_change_no_sigh_holds : PySem.Challenge.rw_slotkeep_k05_whole_sweeps_change_no_sigh.Holds := by
  w_on; o_law; k_head; (case hw => w_witness2)
  k_fill
  refine SK.walk (l := PySem.Challenge.rw_slotkeep_k05_whole_sweeps_change_no_sigh) rfl rfl (fun w h Y => PySem.W.kIn_of Y) ?F
  case F =>
    intro w mg fa h KX G hmg
    refine' SK.all_mk KX G hmg ?a1 ?l1 ?c1 ?k1 ?a2 ?l2 ?c2 ?k2 ?lT ?a3 ?l3 ?c3 ?k3 ?a4 ?l4 ?c4 ?k4 ?a5 ?l5 ?c5 ?k5 ?a6 ?l6 ?c6 ?k6 ?a7 ?l7 ?c7 ?k7 ?a8 ?l8 ?c8 ?k8 ?a9 ?l9 ?c9 ?k9 ?a10 ?l10 ?c10 ?k10 ?a11 ?l11 ?c11 ?k11 ?z1 ?z2 ?z3 ?z4
    (case a1 => k_is)
    (case l1 => k_is)
    (case c1 => k_is)
    (case k1 => k_is)
    (case a2 => k_is)
    (case l2 => k_is)
    (case c2 => k_is)
    (case k2 => k_is)
    (case lT => k_is)
    (case a3 => k_is)
    (case l3 => k_is)
    (case c3 => k_is)
    (case k3 => k_is)
    (case a4 => k_is)
    (case l4 => k_is)
    (case c4 => k_is)
    (case k4 => k_is)
    (case a5 => k_is)
    (case l5 => k_is)
    (case c5 => k_is)
    (case k5 => k_is)
    (case a6 => k_is)
    (case l6 => k_is)
    (case c6 => k_is)
    (case k6 => k_is)
    (case a7 => k_is)
    (case l7 => k_is)
    (case c7 => k_is)
    (case k7 => k_is)
    (case a8 => k_is)
    (case l8 => k_is)
    (case c8 => k_is)
    (case k8 => k_is)
    (case a9 => k_is)
    (case l9 => k_is)
    (case c9 => k_is)
    (case k9 => k_is)
    (case a10 => k_is)
    (case l10 => k_is)
    (case c10 => k_is)
    (case k10 => k_is)
    (case a11 => k_is)
    (case l11 => k_is)
    (case c11 => k_is)
    (case k11 => k_is)
    (case z1 => k_is)
    (case z2 => k_is)
    (case z3 => k_is)
    (case z4 => k_is)
