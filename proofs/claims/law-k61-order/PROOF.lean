import PyProof.Rows.All
import Wide.All
import OpenK.AllK
import Wide.FinOn
import PyProof.EqAt
import PyProof.EqKinds
import PyProof.TupleCall
import KE.KStateDown
import KE.KExcSuper
import Lean
import HandS.ForMost
import HandS.ForExc
import HandS.Defaults
import HandS.More
import HandS.Wide
import HandS.Flow
import HandS.Style
import HandS.Walk
import HandS.Deep
import HandS.TupAny
import HandS.CallLocal
import HandS.SetKeys
import HandS.SetFor
import HandS.Keys
import HandS.SortRule
import HandS.SortInts
import HandS.TupSets
import HandS.ListItems
import HandS.DictTup
import HandS.Property
import HandS.ExcIs
import HandS.ExcInit
import HandS.IsInst
import HandS.NoneIn
import HandS.Codes
import HandS.Head0
import HandS.Head1
import HandS.Head2
import HandS.HeadEnd
import HandS.HeadHook1
import HandS.HeadHook2
import HandS.HeadHook3
import HandS.HeadHook4
import PySem.Challenge.RW_ordershown_k61_whole_managers_keep_order
set_option Elab.async false
set_option linter.all false
set_option autoImplicit false
/-! The mathematics of strict two-phase locking: states, steps, invariants. Plain Lean. -/
namespace K61
inductive It | x | y | z deriving DecidableEq, Repr
inductive Md | sh | ex deriving DecidableEq, Repr
/-- the calls of a manager -/
inductive Call
  | rd (t : Int) (i : It)
  | wr (t : Int) (i : It) (n : Int)
  | cm (t : Int)
  | ab (t : Int)
  deriving DecidableEq, Repr
/-- the operations of a schedule -/
inductive Op
  | rd (t : Int) (i : It)
  | wr (t : Int) (i : It)
  | cm (t : Int)
  | ab (t : Int)
  deriving DecidableEq, Repr
def Call.tx : Call → Int
  | .rd t _ => t
  | .wr t _ _ => t
  | .cm t => t
  | .ab t => t
def Op.tx : Op → Int
  | .rd t _ => t
  | .wr t _ => t
  | .cm t => t
  | .ab t => t
def Call.isAb : Call → Bool
  | .ab _ => true
  | _ => false
/-- a read or a write -/
def Call.step? : Call → Option (Int × It × Md)
  | .rd t i => some (t, i, .sh)
  | .wr t i _ => some (t, i, .ex)
  | _ => none
def Op.item? : Op → Option It
  | .rd _ i => some i
  | .wr _ i => some i
  | _ => none
def Op.isWr : Op → Bool
  | .wr _ _ => true
  | _ => false
/-- a map with one place changed -/
def fput {α β : Type} [DecidableEq α] (f : α → β) (a : α) (b : β) : α → β := fun c => if c = a then b else f c
section
variable {α β : Type} [DecidableEq α] {f : α → β} {a c : α} {b : β}
theorem fput_same : fput f a b a = b := if_pos rfl
theorem fput_ne (h : c ≠ a) : fput f a b c = f c := if_neg h
end

/-! ### the lock of one item -/
structure LI where
  h : Int → Option Md
  q : List (Int × Md)
def LI.nil : LI := ⟨fun _ => none, []⟩
/-- the request of t is compatible with all holders but t itself -/
def compat (h : Int → Option Md) (t : Int) (m : Md) : Prop := ∀ u m', h u = some m' → u = t ∨ (m = .sh ∧ m' = .sh)
def hasIt (L : LI) (t : Int) (m : Md) : Prop := L.h t = some .ex ∨ L.h t = some m
def free (L : LI) (t : Int) (m : Md) : Prop := compat L.h t m ∧ (L.h t ≠ none ∨ L.q = [])
/-- asking: the new state, and whether the lock is held from then on -/
inductive Ask : LI → Int → Md → LI → Bool → Prop
  | held {L : LI} {t : Int} {m : Md} : hasIt L t m → Ask L t m L true
  | granted {L : LI} {t : Int} {m : Md} : ¬ hasIt L t m → free L t m → Ask L t m ⟨fput L.h t (some m), L.q⟩ true
  | waits {L : LI} {t : Int} {m : Md} (p : Nat) : ¬ hasIt L t m → ¬ free L t m → p ≤ L.q.length → Ask L t m ⟨L.h, L.q.take p ++ (t, m) :: L.q.drop p⟩ false
/-- granting from the front, some times -/
inductive Grant : LI → LI → Prop
  | done {L : LI} : Grant L L
  | step {L L' : LI} {t : Int} {m : Md} {q : List (Int × Md)} : L.q = (t, m) :: q → compat L.h t m → Grant ⟨fput L.h t (some m), q⟩ L' → Grant L L'
def Rel (L : LI) (t : Int) (L' : LI) : Prop := Grant ⟨fput L.h t none, L.q.filter fun p => decide (p.1 ≠ t)⟩ L'

/-- what holds of a lock -/
structure LOk (live : Int → Prop) (L : LI) : Prop where
  comp : ∀ u m v m', L.h u = some m → L.h v = some m' → u ≠ v → m = .sh ∧ m' = .sh
  nd : (L.q.map (·.1)).Nodup
  up : ∀ t, (t, Md.sh) ∈ L.q → L.h t ≠ some .ex
  lh : ∀ u m, L.h u = some m → live u
  lq : ∀ t m, (t, m) ∈ L.q → live t
theorem LOk.nil (live : Int → Prop) : LOk live LI.nil where
  comp := fun u m v m' h => by cases h
  nd := List.nodup_nil
  up := fun t h => by cases h
  lh := fun u m h => by cases h
  lq := fun t m h => by cases h
theorem LOk.mono {l l' : Int → Prop} {L : LI} (k : LOk l L) (h : ∀ t, l t → l' t) : LOk l' L := ⟨k.comp, k.nd, k.up, fun u m e => h u (k.lh u m e), fun t m e => h t (k.lq t m e)⟩
/-- locks only grow -/
def Grows (L L' : LI) : Prop := ∀ u m, L.h u = some m → ∃ m', L'.h u = some m' ∧ (m = .ex → m' = .ex)
theorem Grows.refl (L : LI) : Grows L L := fun _ m h => ⟨m, h, id⟩
theorem Grows.trans {A B C : LI} (a : Grows A B) (b : Grows B C) : Grows A C := fun u m h => by
  obtain ⟨m1, h1, e1⟩ := a u m h
  obtain ⟨m2, h2, e2⟩ := b u m1 h1
  exact ⟨m2, h2, fun e => e2 (e1 e)⟩
/-- the front's lock is given -/
theorem LOk.give {live : Int → Prop} {h : Int → Option Md} {q : List (Int × Md)} {t : Int} {m : Md} (lt : live t) (cp : compat h t m) (nx : m = .sh → h t ≠ some .ex)
    (k : LOk live ⟨h, q⟩) (nq : ∀ m', (t, m') ∉ q) : LOk live ⟨fput h t (some m), q⟩ ∧ Grows ⟨h, q⟩ ⟨fput h t (some m), q⟩ := by
  refine ⟨⟨fun u mu v mv hu hv ne => ?_, k.nd, fun u hu => ?_, fun u mu hu => ?_, k.lq⟩, fun u mu hu => ?_⟩
  · by_cases eu : u = t
    · subst eu
      have e1 : m = mu := by
        have z : fput h u (some m) u = some mu := hu
        rw [fput_same] at z
        exact Option.some.inj z
      have hv' : h v = some mv := by
        have z : fput h u (some m) v = some mv := hv
        rw [fput_ne (Ne.symm ne)] at z
        exact z
      rcases cp v mv hv' with e | ⟨e2, e3⟩
      · exact absurd e.symm ne
      · exact ⟨e1 ▸ e2, e3⟩
    · have hu' : h u = some mu := by
        have z : fput h t (some m) u = some mu := hu
        rw [fput_ne eu] at z
        exact z
      by_cases ev : v = t
      · subst ev
        have e1 : m = mv := by
          have z : fput h v (some m) v = some mv := hv
          rw [fput_same] at z
          exact Option.some.inj z
        rcases cp u mu hu' with e | ⟨e2, e3⟩
        · exact absurd e ne
        · exact ⟨e3, e1 ▸ e2⟩
      · have hv' : h v = some mv := by
          have z : fput h t (some m) v = some mv := hv
          rw [fput_ne ev] at z
          exact z
        exact k.comp u mu v mv hu' hv' ne
  · by_cases eu : u = t
    · subst eu
      exact absurd hu (nq .sh)
    · show fput h t (some m) u ≠ some .ex
      rw [fput_ne eu]
      exact k.up u hu
  · by_cases eu : u = t
    · rw [eu]
      exact lt
    · have z : fput h t (some m) u = some mu := hu
      rw [fput_ne eu] at z
      exact k.lh u mu z
  · by_cases eu : u = t
    · subst eu
      refine ⟨m, fput_same, fun e => ?_⟩
      subst e
      cases m with
      | ex => rfl
      | sh => exact absurd hu (nx rfl)
    · exact ⟨mu, (fput_ne eu).trans hu, id⟩
theorem mem_fst {q : List (Int × Md)} {t : Int} {m : Md} (h : (t, m) ∈ q) : t ∈ q.map (·.1) := List.mem_map.mpr ⟨_, h, rfl⟩
theorem Ask.ok {live : Int → Prop} {L L' : LI} {t : Int} {m : Md} {b : Bool} (a : Ask L t m L' b) (lt : live t) (nq : t ∉ L.q.map (·.1)) (k : LOk live L) :
    LOk live L' ∧ Grows L L' ∧ (b = true → ∃ m', L'.h t = some m' ∧ (m = .ex → m' = .ex)) := by
  cases a with
  | held h =>
    refine ⟨k, Grows.refl _, fun _ => ?_⟩
    rcases h with h | h
    · exact ⟨_, h, fun _ => rfl⟩
    · exact ⟨_, h, id⟩
  | granted h f =>
    obtain ⟨k', g⟩ := LOk.give (h := L.h) (q := L.q) lt f.1 (fun e z => h (.inl z)) k fun m' z => nq (mem_fst z)
    exact ⟨k', g, fun _ => ⟨m, fput_same, id⟩⟩
  | waits p h f hp =>
    have eq : L.q.take p ++ L.q.drop p = L.q := List.take_append_drop p L.q
    have perm : (L.q.take p ++ (t, m) :: L.q.drop p).Perm ((t, m) :: L.q) := by
      have z : (L.q.take p ++ (t, m) :: L.q.drop p).Perm ((t, m) :: (L.q.take p ++ L.q.drop p)) := List.perm_middle
      rw [eq] at z
      exact z
    refine ⟨⟨k.comp, ?_, fun u hu => ?_, k.lh, fun u mu hu => ?_⟩, fun u mu hu => ⟨mu, hu, id⟩, fun e => by cases e⟩
    · refine (perm.map (·.1)).nodup_iff.mpr ?_
      exact List.nodup_cons.mpr ⟨nq, k.nd⟩
    · rcases List.mem_cons.mp (perm.mem_iff.mp hu) with e | hu
      · injection e with e1 e2
        subst e1
        exact fun z => h (.inl z)
      · exact k.up u hu
    · rcases List.mem_cons.mp (perm.mem_iff.mp hu) with e | hu
      · injection e with e1 e2
        rw [e1]
        exact lt
      · exact k.lq u mu hu
theorem Grant.ok {live : Int → Prop} {L L' : LI} (g : Grant L L') (k : LOk live L) : LOk live L' ∧ Grows L L' := by
  induction g with
  | done => exact ⟨k, Grows.refl _⟩
  | @step L L' t m q e c g ih =>
    obtain ⟨h, q0⟩ := L
    have e : q0 = (t, m) :: q := e
    subst e
    have nd := List.nodup_cons.mp (show (t :: q.map (·.1)).Nodup from k.nd)
    have k1 : LOk live ⟨h, q⟩ := ⟨k.comp, nd.2, fun u hu => k.up u (List.mem_cons_of_mem _ hu), k.lh, fun u mu hu => k.lq u mu (List.mem_cons_of_mem _ hu)⟩
    obtain ⟨k2, g2⟩ := LOk.give (h := h) (q := q) (k.lq t m List.mem_cons_self) c (fun em => by subst em; exact k.up t List.mem_cons_self) k1 fun m' z => nd.1 (mem_fst z)
    obtain ⟨k3, g3⟩ := ih k2
    refine ⟨k3, fun u mu hu => ?_⟩
    exact Grows.trans g2 g3 u mu hu
/-- released: t is gone, the others' locks only grow -/
theorem Rel.ok {live live' : Int → Prop} {L L' : LI} {t : Int} (r : Rel L t L') (k : LOk live L) (h : ∀ u, live u → u ≠ t → live' u) :
    LOk live' L' ∧ ∀ u m, u ≠ t → L.h u = some m → ∃ m', L'.h u = some m' ∧ (m = .ex → m' = .ex) := by
  have hk : LOk live' ⟨fput L.h t none, L.q.filter fun p => decide (p.1 ≠ t)⟩ := by
    have off : ∀ {u : Int} {m : Md}, fput L.h t none u = some m → u ≠ t ∧ L.h u = some m := fun {u m} z => by
      by_cases e : u = t
      · subst e
        rw [fput_same] at z
        cases z
      · rw [fput_ne e] at z
        exact ⟨e, z⟩
    refine ⟨fun u mu v mv hu hv ne => k.comp u mu v mv (off hu).2 (off hv).2 ne, ?_, fun u hu z => ?_, fun u mu hu => ?_, fun u mu hu => ?_⟩
    · exact List.Nodup.sublist (List.Sublist.map _ List.filter_sublist) k.nd
    · exact k.up u (List.mem_filter.mp hu).1 (off z).2
    · exact h u (k.lh u mu (off hu).2) (off hu).1
    · obtain ⟨h1, h2⟩ := List.mem_filter.mp hu
      exact h u (k.lq u mu h1) (of_decide_eq_true h2)
  obtain ⟨k2, g2⟩ := Grant.ok r hk
  refine ⟨k2, fun u m ne hu => g2 u m ?_⟩
  show fput L.h t none u = some m
  rw [fput_ne ne]
  exact hu

/-! ### the state of a manager -/
structure St where
  lk : It → LI
  amt : It → Int
  sums : Int → Int
  bef : Int → It → Option Int
  sched : List Op
  over : List Int
  opn : List Int
  wtd : Int → Option Call
def St.new : St := ⟨fun _ => LI.nil, fun _ => 0, fun _ => 0, fun _ _ => none, [], [], [], fun _ => none⟩
def note (l : List Int) (t : Int) : List Int := if t ∈ l then l else l ++ [t]
theorem mem_note {l : List Int} {t u : Int} : u ∈ note l t ↔ u ∈ l ∨ u = t := by
  unfold note
  by_cases h : t ∈ l
  · rw [if_pos h]
    exact ⟨.inl, fun e => e.elim id fun e => e ▸ h⟩
  · rw [if_neg h, List.mem_append, List.mem_singleton]
def waits (s : St) (t : Int) : Prop := ∃ i, t ∈ (s.lk i).q.map (·.1)
/-- the call is refused -/
def Refused (s : St) (c : Call) : Prop := ¬ (1 ≤ c.tx ∧ c.tx ≤ 8) ∨ c.tx ∈ s.over ∨ (c.isAb = false ∧ (waits s c.tx ∨ ∃ c', s.wtd c.tx = some c' ∧ c' ≠ c))
def live (s : St) (t : Int) : Prop := t ∈ s.opn ∧ t ∉ s.over ∧ 1 ≤ t ∧ t ≤ 8
/-- the value that a step reads or writes -/
def doVal (s : St) : Call → Int
  | .rd _ i => s.amt i
  | .wr t _ n => s.sums t + n
  | _ => 0
/-- the step is made -/
def doStep (s : St) : Call → St
  | .rd t i => { s with sums := fput s.sums t (s.sums t + s.amt i), sched := s.sched ++ [.rd t i] }
  | .wr t i n => { s with amt := fput s.amt i (s.sums t + n), bef := fput s.bef t (fput (s.bef t) i (some ((s.bef t i).getD (s.amt i)))), sched := s.sched ++ [.wr t i] }
  | _ => s
/-- a call that is not refused -/
inductive Step : St → Call → St → Option Int → Prop
  | wait {s : St} {c : Call} {t : Int} {i : It} {m : Md} {L : LI} : ¬ Refused s c → c.step? = some (t, i, m) → Ask (s.lk i) t m L false →
      Step s c { s with lk := fput s.lk i L, opn := note s.opn t, wtd := fput s.wtd t (some c) } none
  | run {s : St} {c : Call} {t : Int} {i : It} {m : Md} {L : LI} : ¬ Refused s c → c.step? = some (t, i, m) → Ask (s.lk i) t m L true →
      Step s c (doStep { s with lk := fput s.lk i L, opn := note s.opn t, wtd := fput s.wtd t none } c) (some (doVal s c))
  | commit {s : St} {t : Int} {lk' : It → LI} : ¬ Refused s (.cm t) → (∀ i, Rel (s.lk i) t (lk' i)) →
      Step s (.cm t) { s with lk := lk', opn := note s.opn t, wtd := fput s.wtd t none, over := s.over ++ [t], sched := s.sched ++ [.cm t] } none
  | abort {s : St} {t : Int} {lk' : It → LI} : ¬ Refused s (.ab t) → (∀ i, Rel (s.lk i) t (lk' i)) →
      Step s (.ab t) { s with lk := lk', opn := note s.opn t, wtd := fput s.wtd t none, over := s.over ++ [t], sched := s.sched ++ [.ab t], amt := fun i => (s.bef t i).getD (s.amt i) } none
end K61
set_option Elab.async false
set_option linter.all false
set_option autoImplicit false
namespace K61
/-! ### strict schedules -/
def conf (a b : Op) : Prop := a.tx ≠ b.tx ∧ ∃ i, a.item? = some i ∧ b.item? = some i ∧ (a.isWr = true ∨ b.isWr = true)
def ends (t : Int) (o : Op) : Prop := o = .cm t ∨ o = .ab t
theorem get_snoc {α : Type} {s : List α} {o a : α} {k : Nat} (h : (s ++ [o])[k]? = some a) : (k < s.length ∧ s[k]? = some a) ∨ (k = s.length ∧ a = o) := by
  by_cases hk : k < s.length
  · rw [List.getElem?_append_left hk] at h
    exact .inl ⟨hk, h⟩
  · rw [List.getElem?_append_right (Nat.le_of_not_lt hk)] at h
    by_cases e : k - s.length = 0
    · rw [e] at h
      exact .inr ⟨by omega, (Option.some.inj h).symm⟩
    · rw [List.getElem?_eq_none (by simp; omega)] at h
      cases h
theorem get_old {α : Type} {s : List α} {o a : α} {k : Nat} (h : s[k]? = some a) : (s ++ [o])[k]? = some a := by
  rw [List.getElem?_append_left (List.getElem?_eq_some_iff.mp h).1]
  exact h
structure SchOk (s : List Op) (over : List Int) : Prop where
  ov : ∀ t, t ∈ over ↔ (Op.cm t ∈ s ∨ Op.ab t ∈ s)
  after : ∀ (l k : Nat) (a b : Op), l < k → s[l]? = some a → s[k]? = some b → ends b.tx a → False
  strict : ∀ (k j : Nat) (a b : Op), k < j → s[k]? = some a → s[j]? = some b → conf a b → ∃ (l : Nat) (e : Op), k < l ∧ l < j ∧ s[l]? = some e ∧ ends a.tx e
theorem SchOk.nil : SchOk [] [] where
  ov := fun t => ⟨fun h => (by cases h), fun h => (by rcases h with h | h <;> cases h)⟩
  after := fun l k a b _ h => by cases h
  strict := fun k j a b _ h => by cases h
theorem ends_item {t : Int} {o : Op} (h : ends t o) : o.item? = none := by rcases h with h | h <;> rw [h] <;> rfl
theorem SchOk.snoc {s : List Op} {over over' : List Int} {o : Op} (k : SchOk s over) (ht : o.tx ∉ over) (hc : ∀ a ∈ s, conf a o → a.tx ∈ over)
    (ho : ∀ t, t ∈ over' ↔ (t ∈ over ∨ ends t o)) : SchOk (s ++ [o]) over' := by
  refine ⟨fun t => ?_, fun l j a b hlj ha hb he => ?_, fun l j a b hlj ha hb hc' => ?_⟩
  · rw [ho, k.ov t]
    constructor
    · rintro (h | h)
      · rcases h with h | h
        · exact .inl (List.mem_append_left _ h)
        · exact .inr (List.mem_append_left _ h)
      · rcases h with h | h
        · exact .inl (by rw [h]; simp)
        · exact .inr (by rw [h]; simp)
    · rintro (h | h)
      · rcases List.mem_append.mp h with h | h
        · exact .inl (.inl h)
        · exact .inr (.inl (List.mem_singleton.mp h).symm)
      · rcases List.mem_append.mp h with h | h
        · exact .inl (.inr h)
        · exact .inr (.inr (List.mem_singleton.mp h).symm)
  · rcases get_snoc hb with ⟨hj, hb⟩ | ⟨hj, rfl⟩
    · rcases get_snoc ha with ⟨hl, ha⟩ | ⟨hl, _⟩
      · exact k.after l j a b hlj ha hb he
      · omega
    · rcases get_snoc ha with ⟨hl, ha⟩ | ⟨hl, _⟩
      · refine ht ((k.ov _).mpr ?_)
        rcases he with e | e
        · exact .inl (e ▸ List.mem_of_getElem? ha)
        · exact .inr (e ▸ List.mem_of_getElem? ha)
      · omega
  · rcases get_snoc hb with ⟨hj, hb⟩ | ⟨hj, rfl⟩
    · rcases get_snoc ha with ⟨hl, ha⟩ | ⟨hl, _⟩
      · obtain ⟨m, e, h1, h2, h3, h4⟩ := k.strict l j a b hlj ha hb hc'
        exact ⟨m, e, h1, h2, get_old h3, h4⟩
      · omega
    · rcases get_snoc ha with ⟨hl, ha⟩ | ⟨hl, _⟩
      · have hov := hc a (List.mem_of_getElem? ha) hc'
        obtain ⟨e, he, hm⟩ : ∃ e, ends a.tx e ∧ e ∈ s := by
          rcases (k.ov _).mp hov with h | h
          · exact ⟨_, .inl rfl, h⟩
          · exact ⟨_, .inr rfl, h⟩
        obtain ⟨m, hm⟩ := List.mem_iff_getElem?.mp hm
        have hml := (List.getElem?_eq_some_iff.mp hm).1
        refine ⟨m, e, ?_, by omega, get_old hm, he⟩
        rcases Nat.lt_trichotomy m l with h | h | h
        · exact (k.after m l e a h hm ha he).elim
        · subst h
          rw [hm] at ha
          have ea := Option.some.inj ha
          obtain ⟨_, i, hi, _⟩ := hc'
          rw [← ea, ends_item he] at hi
          cases hi
        · exact h
      · omega

/-! ### what a transaction's calls do alone -/
def exec1 (p : (It → Int) × Int) : Call → (It → Int) × Int
  | .rd _ i => (p.1, p.2 + p.1 i)
  | .wr _ i n => (fput p.1 i (p.2 + n), p.2)
  | _ => p
def exec (l : List Call) (p : (It → Int) × Int) : (It → Int) × Int := l.foldl exec1 p
def ofT (ans : List Call) (t : Int) : List Call := ans.filter fun c => decide (c.tx = t)
def commit? : Op → Option Int
  | .cm t => some t
  | _ => none
def commits (s : List Op) : List Int := s.filterMap commit?
def serial (ans : List Call) (cs : List Int) : It → Int := cs.foldl (fun S t => (exec (ofT ans t) (S, 0)).1) fun _ => 0
def wrote (ans : List Call) (t : Int) (i : It) : Prop := ∃ n, Call.wr t i n ∈ ans
theorem exec_snoc (l : List Call) (c : Call) (p : (It → Int) × Int) : exec (l ++ [c]) p = exec1 (exec l p) c := by
  unfold exec
  rw [List.foldl_append]
  rfl
theorem ofT_snoc_same (ans : List Call) (c : Call) : ofT (ans ++ [c]) c.tx = ofT ans c.tx ++ [c] := by
  unfold ofT
  rw [List.filter_append, List.filter_cons_of_pos (by simp)]
  rfl
theorem ofT_snoc_ne {ans : List Call} {c : Call} {t : Int} (h : t ≠ c.tx) : ofT (ans ++ [c]) t = ofT ans t := by
  unfold ofT
  rw [List.filter_append, List.filter_cons_of_neg (by simpa using Ne.symm h)]
  simp
theorem mem_ofT {ans : List Call} {t : Int} {c : Call} : c ∈ ofT ans t ↔ c ∈ ans ∧ c.tx = t := by
  unfold ofT
  rw [List.mem_filter, decide_eq_true_eq]
theorem serial_go_snoc {ans : List Call} {c : Call} : ∀ {cs : List Int} {S : It → Int}, c.tx ∉ cs → cs.foldl (fun S t => (exec (ofT (ans ++ [c]) t) (S, 0)).1) S = cs.foldl (fun S t => (exec (ofT ans t) (S, 0)).1) S
  | [], S, _ => rfl
  | t :: cs, S, h => by
    have h1 : t ≠ c.tx := fun e => h (by rw [e]; exact List.mem_cons_self)
    rw [List.foldl_cons, List.foldl_cons, ofT_snoc_ne h1]
    exact serial_go_snoc fun m => h (List.mem_cons_of_mem _ m)
theorem serial_snoc {ans : List Call} {c : Call} {cs : List Int} (h : c.tx ∉ cs) : serial (ans ++ [c]) cs = serial ans cs := serial_go_snoc h
theorem serial_commit (ans : List Call) (cs : List Int) (t : Int) : serial ans (cs ++ [t]) = (exec (ofT ans t) (serial ans cs, 0)).1 := by
  unfold serial
  rw [List.foldl_append]
  rfl
theorem commits_snoc (s : List Op) (o : Op) : commits (s ++ [o]) = commits s ++ (match commit? o with | some t => [t] | none => []) := by
  unfold commits
  rw [List.filterMap_append]
  cases h : commit? o with
  | none => simp [h]
  | some t => simp [h]
theorem mem_commits {s : List Op} {t : Int} : t ∈ commits s ↔ Op.cm t ∈ s := by
  unfold commits
  rw [List.mem_filterMap]
  constructor
  · rintro ⟨o, h, e⟩
    cases o with
    | cm u =>
      have e' : u = t := Option.some.inj e
      rw [← e']
      exact h
    | _ => cases e
  · exact fun h => ⟨_, h, rfl⟩
/-- places that are not written stay -/
theorem exec_off {i : It} : ∀ {l : List Call} {p : (It → Int) × Int}, (∀ t n, Call.wr t i n ∉ l) → (exec l p).1 i = p.1 i
  | [], p, _ => rfl
  | c :: l, p, h => by
    have ih : (exec l (exec1 p c)).1 i = (exec1 p c).1 i := exec_off fun t n m => h t n (List.mem_cons_of_mem _ m)
    show (exec l (exec1 p c)).1 i = p.1 i
    rw [ih]
    cases c with
    | wr t j n =>
      by_cases e : i = j
      · exact absurd List.mem_cons_self (e ▸ h t n)
      · exact fput_ne e
    | _ => rfl
/-- places that agree and hold all that is touched -/
theorem exec_congr {S S' : It → Int} : ∀ {l : List Call} {z : Int}, (∀ t i, Call.rd t i ∈ l → S i = S' i) →
    (exec l (S, z)).2 = (exec l (S', z)).2 ∧ ∀ i, S i = S' i → (exec l (S, z)).1 i = (exec l (S', z)).1 i
  | [], z, _ => ⟨rfl, fun i h => h⟩
  | c :: l, z, hr => by
    have hr' : ∀ t i, Call.rd t i ∈ l → S i = S' i := fun t i m => hr t i (List.mem_cons_of_mem _ m)
    cases c with
    | rd t i =>
      have e := hr t i List.mem_cons_self
      show (exec l (S, z + S i)).2 = (exec l (S', z + S' i)).2 ∧ ∀ j, S j = S' j → (exec l (S, z + S i)).1 j = (exec l (S', z + S' i)).1 j
      rw [e]
      exact exec_congr hr'
    | wr t i n =>
      show (exec l (fput S i (z + n), z)).2 = (exec l (fput S' i (z + n), z)).2 ∧ ∀ j, S j = S' j → (exec l (fput S i (z + n), z)).1 j = (exec l (fput S' i (z + n), z)).1 j
      have key : ∀ j, S j = S' j → fput S i (z + n) j = fput S' i (z + n) j := fun j e => by
        by_cases q : j = i
        · rw [q, fput_same, fput_same]
        · rw [fput_ne q, fput_ne q, e]
      obtain ⟨h1, h2⟩ := exec_congr (S := fput S i (z + n)) (S' := fput S' i (z + n)) (l := l) (z := z) fun u j m => key j (hr' u j m)
      exact ⟨h1, fun j e => h2 j (key j e)⟩
    | cm t => exact exec_congr (l := l) (z := z) hr'
    | ab t => exact exec_congr (l := l) (z := z) hr'

/-! ### the invariant of the manager's run -/
structure Inv1 (s : St) (ans : List Call) : Prop where
  lk : ∀ i, LOk (live s) (s.lk i)
  opn8 : ∀ t ∈ s.opn, 1 ≤ t ∧ t ≤ 8
  ansO : ∀ c ∈ ans, c.tx ∈ s.opn
  ansS : ∀ c ∈ ans, c.step?.isSome = true
  holdR : ∀ t i, t ∉ s.over → Call.rd t i ∈ ans → ∃ m, (s.lk i).h t = some m
  holdW : ∀ t i, t ∉ s.over → wrote ans t i → (s.lk i).h t = some .ex
  sums : ∀ t, t ∉ s.over → s.sums t = (exec (ofT ans t) (serial ans (commits s.sched), 0)).2
  own : ∀ t i, t ∉ s.over → wrote ans t i → s.amt i = (exec (ofT ans t) (serial ans (commits s.sched), 0)).1 i ∧ s.bef t i = some (serial ans (commits s.sched) i)
  nown : ∀ t i, t ∉ s.over → ¬ wrote ans t i → s.bef t i = none
  base : ∀ i, (∀ t, t ∉ s.over → ¬ wrote ans t i) → s.amt i = serial ans (commits s.sched) i
  sch : SchOk s.sched s.over
  schR : ∀ t i, Op.rd t i ∈ s.sched → Call.rd t i ∈ ans
  schW : ∀ t i, Op.wr t i ∈ s.sched → wrote ans t i
  schO : ∀ o ∈ s.sched, o.tx ∈ s.opn
theorem Inv1.new : Inv1 St.new [] where
  lk := fun i => LOk.nil _
  opn8 := fun t h => by cases h
  ansO := fun c h => by cases h
  ansS := fun c h => by cases h
  holdR := fun t i _ h => by cases h
  holdW := fun t i _ h => by obtain ⟨n, h⟩ := h; cases h
  sums := fun t _ => rfl
  own := fun t i _ h => by obtain ⟨n, h⟩ := h; cases h
  nown := fun t i _ _ => rfl
  base := fun i _ => rfl
  sch := SchOk.nil
  schR := fun t i h => by cases h
  schW := fun t i h => by cases h
  schO := fun o h => by cases h
/-- who holds exclusively is alone -/
theorem LOk.alone {l : Int → Prop} {L : LI} (k : LOk l L) {u v : Int} {m : Md} (hu : L.h u = some .ex) (hv : L.h v = some m) : u = v := by
  by_cases e : u = v
  · exact e
  · exact absurd (k.comp u .ex v m hu hv e).1 (by decide)
theorem nr1 {s : St} {c : Call} (h : ¬ Refused s c) : 1 ≤ c.tx ∧ c.tx ≤ 8 := Classical.byContradiction fun e => h (.inl e)
theorem nr2 {s : St} {c : Call} (h : ¬ Refused s c) : c.tx ∉ s.over := fun e => h (.inr (.inl e))
theorem nr3 {s : St} {c : Call} (h : ¬ Refused s c) (ha : c.isAb = false) : ¬ waits s c.tx := fun e => h (.inr (.inr ⟨ha, .inl e⟩))
theorem step_tx {c : Call} {t : Int} {i : It} {m : Md} (h : c.step? = some (t, i, m)) : c.tx = t ∧ c.isAb = false ∧ ((m = .sh ∧ c = .rd t i) ∨ (m = .ex ∧ ∃ n, c = .wr t i n)) := by
  cases c with
  | rd u j =>
    have e : (u, j, Md.sh) = (t, i, m) := Option.some.inj h
    injection e with e1 e2
    injection e2 with e2 e3
    subst e1 e2 e3
    exact ⟨rfl, rfl, .inl ⟨rfl, rfl⟩⟩
  | wr u j n =>
    have e : (u, j, Md.ex) = (t, i, m) := Option.some.inj h
    injection e with e1 e2
    injection e2 with e2 e3
    subst e1 e2 e3
    exact ⟨rfl, rfl, .inr ⟨rfl, n, rfl⟩⟩
  | cm u => cases h
  | ab u => cases h
theorem commits_over {s : St} {ans : List Call} (I : Inv1 s ans) {t : Int} (h : t ∉ s.over) : t ∉ commits s.sched := fun m => h ((I.sch.ov t).mpr (.inl (mem_commits.mp m)))
/-- the locks behind an asking -/
theorem ask_locks {s : St} {ans : List Call} (I : Inv1 s ans) {c : Call} {t : Int} {i : It} {m : Md} {L : LI} {b : Bool} (nr : ¬ Refused s c) (hs : c.step? = some (t, i, m)) (a : Ask (s.lk i) t m L b) :
    (∀ j, LOk (fun u => u ∈ note s.opn t ∧ u ∉ s.over ∧ 1 ≤ u ∧ u ≤ 8) (fput s.lk i L j)) ∧ (∀ j, Grows (s.lk j) (fput s.lk i L j)) ∧ (b = true → ∃ m', L.h t = some m' ∧ (m = .ex → m' = .ex)) := by
  obtain ⟨et, ea, _⟩ := step_tx hs
  have lv : ∀ u, live s u → u ∈ note s.opn t ∧ u ∉ s.over ∧ 1 ≤ u ∧ u ≤ 8 := fun u h => ⟨mem_note.mpr (.inl h.1), h.2⟩
  have lt : t ∈ note s.opn t ∧ t ∉ s.over ∧ 1 ≤ t ∧ t ≤ 8 := ⟨mem_note.mpr (.inr rfl), et ▸ nr2 nr, et ▸ nr1 nr⟩
  obtain ⟨k, g, w⟩ := a.ok (live := fun u => u ∈ note s.opn t ∧ u ∉ s.over ∧ 1 ≤ u ∧ u ≤ 8) lt (fun z => nr3 nr ea ⟨i, et.symm ▸ z⟩) ((I.lk i).mono lv)
  refine ⟨fun j => ?_, fun j => ?_, w⟩
  · by_cases e : j = i
    · rw [e, fput_same]
      exact k
    · rw [fput_ne e]
      exact (I.lk j).mono lv
  · by_cases e : j = i
    · subst e
      rw [fput_same]
      exact g
    · rw [fput_ne e]
      exact Grows.refl _
theorem Inv1.wait {s : St} {ans : List Call} (I : Inv1 s ans) {c : Call} {t : Int} {i : It} {m : Md} {L : LI} (nr : ¬ Refused s c) (hs : c.step? = some (t, i, m)) (a : Ask (s.lk i) t m L false) :
    Inv1 { s with lk := fput s.lk i L, opn := note s.opn t, wtd := fput s.wtd t (some c) } ans := by
  obtain ⟨k, g, _⟩ := ask_locks I nr hs a
  obtain ⟨et, _, _⟩ := step_tx hs
  refine { lk := k, opn8 := fun u h => ?_, ansO := fun c h => mem_note.mpr (.inl (I.ansO c h)), ansS := I.ansS, holdR := fun u j h1 h2 => ?_, holdW := fun u j h1 h2 => ?_, sums := I.sums, own := I.own, nown := I.nown, base := I.base, sch := I.sch, schR := I.schR, schW := I.schW, schO := fun o h => mem_note.mpr (.inl (I.schO o h)) }
  · rcases mem_note.mp h with h | h
    · exact I.opn8 u h
    · rw [h, ← et]
      exact nr1 nr
  · obtain ⟨m1, h3⟩ := I.holdR u j h1 h2
    obtain ⟨m2, h4, _⟩ := g j u m1 h3
    exact ⟨m2, h4⟩
  · obtain ⟨m2, h4, h5⟩ := g j u _ (I.holdW u j h1 h2)
    rw [h5 rfl] at h4
    exact h4
theorem mem_snoc {α : Type} {l : List α} {a b : α} : a ∈ l ++ [b] ↔ a ∈ l ∨ a = b := by rw [List.mem_append, List.mem_singleton]
theorem wrote_snoc {ans : List Call} {c : Call} {t : Int} {i : It} : wrote (ans ++ [c]) t i ↔ wrote ans t i ∨ ∃ n, c = .wr t i n := by
  constructor
  · rintro ⟨n, h⟩
    rcases mem_snoc.mp h with h | h
    · exact .inl ⟨n, h⟩
    · exact .inr ⟨n, h.symm⟩
  · rintro (⟨n, h⟩ | ⟨n, h⟩)
    · exact ⟨n, mem_snoc.mpr (.inl h)⟩
    · exact ⟨n, mem_snoc.mpr (.inr h.symm)⟩
theorem not_wr {ans : List Call} {t : Int} {i : It} (h : ¬ wrote ans t i) : ∀ u n, Call.wr u i n ∉ ofT ans t := fun u n m => by
  obtain ⟨m1, m2⟩ := mem_ofT.mp m
  have m2 : u = t := m2
  subst m2
  exact h ⟨n, m1⟩
/-- the read value and the committed one -/
theorem amt_here {s : St} {ans : List Call} (I : Inv1 s ans) {t : Int} {i : It} (ht : t ∉ s.over) (alone : ∀ u, u ∉ s.over → wrote ans u i → u = t) :
    s.amt i = (exec (ofT ans t) (serial ans (commits s.sched), 0)).1 i ∧ (¬ wrote ans t i → s.amt i = serial ans (commits s.sched) i) := by
  by_cases hw : wrote ans t i
  · exact ⟨(I.own t i ht hw).1, fun h => absurd hw h⟩
  · have e : s.amt i = serial ans (commits s.sched) i := I.base i fun u hu h => hw (alone u hu h ▸ h)
    refine ⟨?_, fun _ => e⟩
    rw [exec_off (not_wr hw)]
    exact e
theorem Inv1.run {s : St} {ans : List Call} (I : Inv1 s ans) {c : Call} {t : Int} {i : It} {m : Md} {L : LI} (nr : ¬ Refused s c) (hs : c.step? = some (t, i, m)) (a : Ask (s.lk i) t m L true) :
    Inv1 (doStep { s with lk := fput s.lk i L, opn := note s.opn t, wtd := fput s.wtd t none } c) (ans ++ [c]) := by
  obtain ⟨k, g, w⟩ := ask_locks I nr hs a
  obtain ⟨et, _, hc⟩ := step_tx hs
  obtain ⟨m', hL, hm'⟩ := w rfl
  have ht : t ∉ s.over := et ▸ nr2 nr
  have hLi : (fput s.lk i L i).h t = some m' := by rw [fput_same]; exact hL
  have oR : ∀ u j, u ∉ s.over → Call.rd u j ∈ ans → ∃ m, (fput s.lk i L j).h u = some m := fun u j h1 h2 => by
    obtain ⟨m1, h3⟩ := I.holdR u j h1 h2
    obtain ⟨m2, h4, _⟩ := g j u m1 h3
    exact ⟨m2, h4⟩
  have oW : ∀ u j, u ∉ s.over → wrote ans u j → (fput s.lk i L j).h u = some .ex := fun u j h1 h2 => by
    obtain ⟨m2, h4, h5⟩ := g j u _ (I.holdW u j h1 h2)
    rw [h5 rfl] at h4
    exact h4
  have alone : ∀ u, u ∉ s.over → wrote ans u i → u = t := fun u h1 h2 => (k i).alone (oW u i h1 h2) hLi
  obtain ⟨av, an⟩ := amt_here I ht alone
  have o8 : ∀ u ∈ note s.opn t, 1 ≤ u ∧ u ≤ 8 := fun u h => by
    rcases mem_note.mp h with h | h
    · exact I.opn8 u h
    · rw [h, ← et]
      exact nr1 nr
  have aO : ∀ d ∈ ans ++ [c], d.tx ∈ note s.opn t := fun d h => by
    rcases mem_snoc.mp h with h | h
    · exact mem_note.mpr (.inl (I.ansO d h))
    · rw [h, et]
      exact mem_note.mpr (.inr rfl)
  have aS : ∀ d ∈ ans ++ [c], d.step?.isSome = true := fun d h => by
    rcases mem_snoc.mp h with h | h
    · exact I.ansS d h
    · rw [h, hs]
      rfl
  have hser : serial (ans ++ [c]) (commits s.sched) = serial ans (commits s.sched) := serial_snoc (et ▸ commits_over I ht)
  have sO : ∀ o : Op, o.tx = t → ∀ p ∈ s.sched ++ [o], p.tx ∈ note s.opn t := fun o ho p h => by
    rcases mem_snoc.mp h with h | h
    · exact mem_note.mpr (.inl (I.schO p h))
    · rw [h, ho]
      exact mem_note.mpr (.inr rfl)
  rcases hc with ⟨rfl, rfl⟩ | ⟨rfl, n, rfl⟩
  · -- a read
    have hcm : commits (s.sched ++ [Op.rd t i]) = commits s.sched := by rw [commits_snoc]; simp [commit?]
    have wsn : ∀ u j, wrote (ans ++ [Call.rd t i]) u j ↔ wrote ans u j := fun u j => by
      rw [wrote_snoc]
      exact ⟨fun h => h.elim id fun ⟨n, e⟩ => (by cases e), .inl⟩
    have ofu : ∀ u, u ≠ t → ofT (ans ++ [Call.rd t i]) u = ofT ans u := fun u h => ofT_snoc_ne h
    have oft : ofT (ans ++ [Call.rd t i]) t = ofT ans t ++ [Call.rd t i] := ofT_snoc_same ans (Call.rd t i)
    have ex1 : ∀ u, (exec (ofT (ans ++ [Call.rd t i]) u) (serial ans (commits s.sched), 0)).1 = (exec (ofT ans u) (serial ans (commits s.sched), 0)).1 := fun u => by
      by_cases e : u = t
      · rw [e, oft, exec_snoc]
        rfl
      · rw [ofu u e]
    refine { lk := k, opn8 := o8, ansO := aO, ansS := aS, holdR := fun u j h1 h2 => ?_, holdW := fun u j h1 h2 => oW u j h1 ((wsn u j).mp h2), sums := fun u h => ?_, own := fun u j h1 h2 => ?_, nown := fun u j h1 h2 => I.nown u j h1 fun z => h2 ((wsn u j).mpr z), base := fun j h => ?_, sch := ?_, schR := fun u j h => ?_, schW := fun u j h => ?_, schO := sO _ rfl }
    · rcases mem_snoc.mp h2 with h2 | h2
      · exact oR u j h1 h2
      · injection h2 with e1 e2
        subst e1 e2
        exact ⟨m', hLi⟩
    · show fput s.sums t (s.sums t + s.amt i) u = (exec (ofT (ans ++ [Call.rd t i]) u) (serial (ans ++ [Call.rd t i]) (commits (s.sched ++ [Op.rd t i])), 0)).2
      rw [hcm, hser]
      by_cases e : u = t
      · subst e
        rw [fput_same, oft, exec_snoc]
        show _ = (exec (ofT ans u) (serial ans (commits s.sched), 0)).2 + (exec (ofT ans u) (serial ans (commits s.sched), 0)).1 i
        rw [I.sums u ht, ← av]
      · rw [fput_ne e, ofu u e]
        exact I.sums u h
    · show s.amt j = (exec (ofT (ans ++ [Call.rd t i]) u) (serial (ans ++ [Call.rd t i]) (commits (s.sched ++ [Op.rd t i])), 0)).1 j ∧ s.bef u j = some (serial (ans ++ [Call.rd t i]) (commits (s.sched ++ [Op.rd t i])) j)
      rw [hcm, hser, ex1]
      exact I.own u j h1 ((wsn u j).mp h2)
    · show s.amt j = serial (ans ++ [Call.rd t i]) (commits (s.sched ++ [Op.rd t i])) j
      rw [hcm, hser]
      exact I.base j fun u h1 h2 => h u h1 ((wsn u j).mpr h2)
    · refine I.sch.snoc ht (fun b hb hc => ?_) fun u => ⟨.inl, fun h => h.elim id fun h => by rcases h with h | h <;> cases h⟩
      obtain ⟨ne, j, hj, hj2, hw⟩ := hc
      have ej : i = j := Option.some.inj hj2
      subst ej
      refine Classical.byContradiction fun no => ?_
      rcases hw with hw | hw
      · cases b with
        | wr u j' =>
          have e2 : j' = i := Option.some.inj hj
          subst e2
          exact ne ((k j').alone (oW u j' no (I.schW u j' hb)) hLi)
        | _ => cases hw
      · cases hw
    · rcases mem_snoc.mp h with h | h
      · exact mem_snoc.mpr (.inl (I.schR u j h))
      · injection h with e1 e2
        subst e1 e2
        exact mem_snoc.mpr (.inr rfl)
    · rcases mem_snoc.mp h with h | h
      · exact (wsn u j).mpr (I.schW u j h)
      · cases h
  · -- a write
    have hcm : commits (s.sched ++ [Op.wr t i]) = commits s.sched := by rw [commits_snoc]; simp [commit?]
    have wsn : ∀ u j, wrote (ans ++ [Call.wr t i n]) u j ↔ wrote ans u j ∨ (u = t ∧ j = i) := fun u j => by
      rw [wrote_snoc]
      refine ⟨fun h => h.elim .inl fun ⟨n', e⟩ => ?_, fun h => h.elim .inl fun ⟨e1, e2⟩ => .inr ⟨n, by rw [e1, e2]⟩⟩
      injection e with e1 e2
      exact .inr ⟨e1.symm, e2.symm⟩
    have ofu : ∀ u, u ≠ t → ofT (ans ++ [Call.wr t i n]) u = ofT ans u := fun u h => ofT_snoc_ne h
    have oft : ofT (ans ++ [Call.wr t i n]) t = ofT ans t ++ [Call.wr t i n] := ofT_snoc_same ans (Call.wr t i n)
    have hm2 : m' = .ex := hm' rfl
    subst hm2
    refine { lk := k, opn8 := o8, ansO := aO, ansS := aS, holdR := fun u j h1 h2 => ?_, holdW := fun u j h1 h2 => ?_, sums := fun u h => ?_, own := fun u j h1 h2 => ?_, nown := fun u j h1 h2 => ?_, base := fun j h => ?_, sch := ?_, schR := fun u j h => ?_, schW := fun u j h => ?_, schO := sO _ rfl }
    · rcases mem_snoc.mp h2 with h2 | h2
      · exact oR u j h1 h2
      · cases h2
    · rcases (wsn u j).mp h2 with h2 | ⟨e1, e2⟩
      · exact oW u j h1 h2
      · rw [e1, e2]
        exact hLi
    · show s.sums u = (exec (ofT (ans ++ [Call.wr t i n]) u) (serial (ans ++ [Call.wr t i n]) (commits (s.sched ++ [Op.wr t i])), 0)).2
      rw [hcm, hser]
      by_cases e : u = t
      · subst e
        rw [oft, exec_snoc]
        exact I.sums u ht
      · rw [ofu u e]
        exact I.sums u h
    · show fput s.amt i (s.sums t + n) j = (exec (ofT (ans ++ [Call.wr t i n]) u) (serial (ans ++ [Call.wr t i n]) (commits (s.sched ++ [Op.wr t i])), 0)).1 j ∧
        fput s.bef t (fput (s.bef t) i (some ((s.bef t i).getD (s.amt i)))) u j = some (serial (ans ++ [Call.wr t i n]) (commits (s.sched ++ [Op.wr t i])) j)
      rw [hcm, hser]
      by_cases e : u = t
      · subst e
        rw [oft, exec_snoc, fput_same]
        show fput s.amt i (s.sums u + n) j = fput (exec (ofT ans u) (serial ans (commits s.sched), 0)).1 i ((exec (ofT ans u) (serial ans (commits s.sched), 0)).2 + n) j ∧ _
        by_cases ej : j = i
        · subst ej
          rw [fput_same, fput_same, fput_same, I.sums u ht]
          refine ⟨rfl, ?_⟩
          by_cases hw : wrote ans u j
          · rw [(I.own u j ht hw).2]
            rfl
          · rw [I.nown u j ht hw]
            exact congrArg some (an hw)
        · rw [fput_ne ej, fput_ne ej, fput_ne ej]
          rcases (wsn u j).mp h2 with h2 | ⟨_, e2⟩
          · exact I.own u j h1 h2
          · exact absurd e2 ej
      · rw [ofu u e, fput_ne e]
        rcases (wsn u j).mp h2 with h2 | ⟨e1, _⟩
        · have ej : j ≠ i := fun z => e (alone u h1 (z ▸ h2))
          rw [fput_ne ej]
          exact I.own u j h1 h2
        · exact absurd e1 e
    · show fput s.bef t (fput (s.bef t) i (some ((s.bef t i).getD (s.amt i)))) u j = none
      have hw : ¬ wrote ans u j := fun z => h2 ((wsn u j).mpr (.inl z))
      by_cases e : u = t
      · subst e
        have ej : j ≠ i := fun z => h2 ((wsn u j).mpr (.inr ⟨rfl, z⟩))
        rw [fput_same, fput_ne ej]
        exact I.nown u j h1 hw
      · rw [fput_ne e]
        exact I.nown u j h1 hw
    · show fput s.amt i (s.sums t + n) j = serial (ans ++ [Call.wr t i n]) (commits (s.sched ++ [Op.wr t i])) j
      rw [hcm, hser]
      have ej : j ≠ i := fun z => h t ht ((wsn t j).mpr (.inr ⟨rfl, z⟩))
      rw [fput_ne ej]
      exact I.base j fun u h1 h2 => h u h1 ((wsn u j).mpr (.inl h2))
    · refine I.sch.snoc ht (fun b hb hc => ?_) fun u => ⟨.inl, fun h => h.elim id fun h => by rcases h with h | h <;> cases h⟩
      obtain ⟨ne, j, hj, hj2, hw⟩ := hc
      have ej : i = j := Option.some.inj hj2
      subst ej
      refine Classical.byContradiction fun no => ?_
      cases b with
      | wr u j' =>
        have e2 : j' = i := Option.some.inj hj
        subst e2
        exact ne ((k j').alone (oW u j' no (I.schW u j' hb)) hLi)
      | rd u j' =>
        have e2 : j' = i := Option.some.inj hj
        subst e2
        obtain ⟨m2, h4⟩ := oR u j' no (I.schR u j' hb)
        exact ne ((k j').alone hLi h4).symm
      | cm u => cases hj
      | ab u => cases hj
    · rcases mem_snoc.mp h with h | h
      · exact mem_snoc.mpr (.inl (I.schR u j h))
      · cases h
    · rcases mem_snoc.mp h with h | h
      · exact (wsn u j).mpr (.inl (I.schW u j h))
      · injection h with e1 e2
        exact (wsn u j).mpr (.inr ⟨e1, e2⟩)
/-- the locks behind an end -/
theorem rel_locks {s : St} {ans : List Call} (I : Inv1 s ans) {t : Int} {lk' : It → LI} (h : ∀ i, Rel (s.lk i) t (lk' i)) :
    (∀ j, LOk (fun u => u ∈ note s.opn t ∧ u ∉ s.over ++ [t] ∧ 1 ≤ u ∧ u ≤ 8) (lk' j)) ∧ (∀ j u m, u ≠ t → (s.lk j).h u = some m → ∃ m', (lk' j).h u = some m' ∧ (m = .ex → m' = .ex)) := by
  have key : ∀ j, _ := fun j => (h j).ok (live' := fun u => u ∈ note s.opn t ∧ u ∉ s.over ++ [t] ∧ 1 ≤ u ∧ u ≤ 8) (I.lk j) fun u lu ne =>
    ⟨mem_note.mpr (.inl lu.1), fun z => (mem_snoc.mp z).elim lu.2.1 ne, lu.2.2⟩
  exact ⟨fun j => (key j).1, fun j => (key j).2⟩
theorem Inv1.commit {s : St} {ans : List Call} (I : Inv1 s ans) {t : Int} {lk' : It → LI} (nr : ¬ Refused s (.cm t)) (h : ∀ i, Rel (s.lk i) t (lk' i)) :
    Inv1 { s with lk := lk', opn := note s.opn t, wtd := fput s.wtd t none, over := s.over ++ [t], sched := s.sched ++ [.cm t] } ans := by
  obtain ⟨k, g⟩ := rel_locks I h
  have ht : t ∉ s.over := nr2 nr
  have hcm : serial ans (commits (s.sched ++ [Op.cm t])) = (exec (ofT ans t) (serial ans (commits s.sched), 0)).1 := by
    have e : commits (s.sched ++ [Op.cm t]) = commits s.sched ++ [t] := by rw [commits_snoc] <;> rfl
    rw [e, serial_commit]
  have ov : ∀ u, u ∉ s.over ++ [t] → u ∉ s.over ∧ u ≠ t := fun u hu => ⟨fun z => hu (mem_snoc.mpr (.inl z)), fun z => hu (mem_snoc.mpr (.inr z))⟩
  have same : ∀ i, ¬ wrote ans t i → serial ans (commits s.sched) i = (exec (ofT ans t) (serial ans (commits s.sched), 0)).1 i := fun i hw => (exec_off (p := (serial ans (commits s.sched), 0)) (not_wr hw)).symm
  -- what others have touched, t has not written
  have tR : ∀ u i, u ∉ s.over → u ≠ t → Call.rd u i ∈ ans → ¬ wrote ans t i := fun u i h1 ne h2 hw => by
    obtain ⟨m, hm⟩ := I.holdR u i h1 h2
    exact ne ((I.lk i).alone (I.holdW t i ht hw) hm).symm
  have tW : ∀ u i, u ∉ s.over → u ≠ t → wrote ans u i → ¬ wrote ans t i := fun u i h1 ne h2 hw => ne ((I.lk i).alone (I.holdW t i ht hw) (I.holdW u i h1 h2)).symm
  have cg : ∀ u, u ∉ s.over → u ≠ t → _ := fun u h1 ne => exec_congr (S := serial ans (commits s.sched)) (S' := (exec (ofT ans t) (serial ans (commits s.sched), 0)).1) (l := ofT ans u) (z := 0) fun v i hv => by
    obtain ⟨hv1, hv2⟩ := mem_ofT.mp hv
    have hv2 : v = u := hv2
    subst hv2
    exact same i (tR v i h1 ne hv1)
  refine { lk := k, opn8 := fun u h => ?_, ansO := fun c h => mem_note.mpr (.inl (I.ansO c h)), ansS := I.ansS, holdR := fun u j h1 h2 => ?_, holdW := fun u j h1 h2 => ?_, sums := fun u h => ?_, own := fun u j h1 h2 => ?_, nown := fun u j h1 h2 => I.nown u j (ov u h1).1 h2, base := fun j h => ?_, sch := ?_, schR := fun u j h => ?_, schW := fun u j h => ?_, schO := fun o h => ?_ }
  · rcases mem_note.mp h with h | h
    · exact I.opn8 u h
    · rw [h]
      exact nr1 nr
  · obtain ⟨h1, ne⟩ := ov u h1
    obtain ⟨m, h3⟩ := I.holdR u j h1 h2
    obtain ⟨m2, h4, _⟩ := g j u m ne h3
    exact ⟨m2, h4⟩
  · obtain ⟨h1, ne⟩ := ov u h1
    obtain ⟨m2, h4, h5⟩ := g j u _ ne (I.holdW u j h1 h2)
    rw [h5 rfl] at h4
    exact h4
  · obtain ⟨h1, ne⟩ := ov u h
    show s.sums u = (exec (ofT ans u) (serial ans (commits (s.sched ++ [Op.cm t])), 0)).2
    rw [hcm, ← (cg u h1 ne).1]
    exact I.sums u h1
  · obtain ⟨h1, ne⟩ := ov u h1
    show s.amt j = (exec (ofT ans u) (serial ans (commits (s.sched ++ [Op.cm t])), 0)).1 j ∧ s.bef u j = some (serial ans (commits (s.sched ++ [Op.cm t])) j)
    have e := same j (tW u j h1 ne h2)
    rw [hcm, ← (cg u h1 ne).2 j e, ← e]
    exact I.own u j h1 h2
  · show s.amt j = serial ans (commits (s.sched ++ [Op.cm t])) j
    rw [hcm]
    by_cases hw : wrote ans t j
    · exact (I.own t j ht hw).1
    · rw [← same j hw]
      refine I.base j fun u h1 h2 => ?_
      by_cases e : u = t
      · exact hw (e ▸ h2)
      · exact h u (fun z => (mem_snoc.mp z).elim h1 e) h2
  · refine I.sch.snoc ht (fun b hb hc => ?_) fun u => ?_
    · obtain ⟨_, j, _, hj, _⟩ := hc
      cases hj
    · rw [mem_snoc]
      refine ⟨fun z => z.elim .inl fun e => .inr (.inl (by rw [e])), fun z => z.elim .inl fun z => .inr ?_⟩
      rcases z with z | z
      · injection z with z
        exact z.symm
      · cases z
  · rcases mem_snoc.mp h with h | h
    · exact I.schR u j h
    · cases h
  · rcases mem_snoc.mp h with h | h
    · exact I.schW u j h
    · cases h
  · rcases mem_snoc.mp h with h | h
    · exact mem_note.mpr (.inl (I.schO o h))
    · rw [h]
      exact mem_note.mpr (.inr rfl)
theorem Inv1.abort {s : St} {ans : List Call} (I : Inv1 s ans) {t : Int} {lk' : It → LI} (nr : ¬ Refused s (.ab t)) (h : ∀ i, Rel (s.lk i) t (lk' i)) :
    Inv1 { s with lk := lk', opn := note s.opn t, wtd := fput s.wtd t none, over := s.over ++ [t], sched := s.sched ++ [.ab t], amt := fun i => (s.bef t i).getD (s.amt i) } ans := by
  obtain ⟨k, g⟩ := rel_locks I h
  have ht : t ∉ s.over := nr2 nr
  have hcm : commits (s.sched ++ [Op.ab t]) = commits s.sched := by rw [commits_snoc]; simp [commit?]
  have ov : ∀ u, u ∉ s.over ++ [t] → u ∉ s.over ∧ u ≠ t := fun u hu => ⟨fun z => hu (mem_snoc.mpr (.inl z)), fun z => hu (mem_snoc.mpr (.inr z))⟩
  have tW : ∀ u i, u ∉ s.over → u ≠ t → wrote ans u i → ¬ wrote ans t i := fun u i h1 ne h2 hw => ne ((I.lk i).alone (I.holdW t i ht hw) (I.holdW u i h1 h2)).symm
  have sameA : ∀ i, ¬ wrote ans t i → (s.bef t i).getD (s.amt i) = s.amt i := fun i hw => by
    rw [I.nown t i ht hw]
    rfl
  refine { lk := k, opn8 := fun u h => ?_, ansO := fun c h => mem_note.mpr (.inl (I.ansO c h)), ansS := I.ansS, holdR := fun u j h1 h2 => ?_, holdW := fun u j h1 h2 => ?_, sums := fun u h => ?_, own := fun u j h1 h2 => ?_, nown := fun u j h1 h2 => I.nown u j (ov u h1).1 h2, base := fun j h => ?_, sch := ?_, schR := fun u j h => ?_, schW := fun u j h => ?_, schO := fun o h => ?_ }
  · rcases mem_note.mp h with h | h
    · exact I.opn8 u h
    · rw [h]
      exact nr1 nr
  · obtain ⟨h1, ne⟩ := ov u h1
    obtain ⟨m, h3⟩ := I.holdR u j h1 h2
    obtain ⟨m2, h4, _⟩ := g j u m ne h3
    exact ⟨m2, h4⟩
  · obtain ⟨h1, ne⟩ := ov u h1
    obtain ⟨m2, h4, h5⟩ := g j u _ ne (I.holdW u j h1 h2)
    rw [h5 rfl] at h4
    exact h4
  · obtain ⟨h1, ne⟩ := ov u h
    show s.sums u = (exec (ofT ans u) (serial ans (commits (s.sched ++ [Op.ab t])), 0)).2
    rw [hcm]
    exact I.sums u h1
  · obtain ⟨h1, ne⟩ := ov u h1
    show (s.bef t j).getD (s.amt j) = (exec (ofT ans u) (serial ans (commits (s.sched ++ [Op.ab t])), 0)).1 j ∧ s.bef u j = some (serial ans (commits (s.sched ++ [Op.ab t])) j)
    rw [hcm, sameA j (tW u j h1 ne h2)]
    exact I.own u j h1 h2
  · show (s.bef t j).getD (s.amt j) = serial ans (commits (s.sched ++ [Op.ab t])) j
    rw [hcm]
    by_cases hw : wrote ans t j
    · rw [(I.own t j ht hw).2]
      rfl
    · rw [sameA j hw]
      refine I.base j fun u h1 h2 => ?_
      by_cases e : u = t
      · exact hw (e ▸ h2)
      · exact h u (fun z => (mem_snoc.mp z).elim h1 e) h2
  · refine I.sch.snoc ht (fun b hb hc => ?_) fun u => ?_
    · obtain ⟨_, j, _, hj, _⟩ := hc
      cases hj
    · rw [mem_snoc]
      refine ⟨fun z => z.elim .inl fun e => .inr (.inr (by rw [e])), fun z => z.elim .inl fun z => .inr ?_⟩
      rcases z with z | z
      · cases z
      · injection z with z
        exact z.symm
  · rcases mem_snoc.mp h with h | h
    · exact I.schR u j h
    · cases h
  · rcases mem_snoc.mp h with h | h
    · exact I.schW u j h
    · cases h
  · rcases mem_snoc.mp h with h | h
    · exact mem_note.mpr (.inl (I.schO o h))
    · rw [h]
      exact mem_note.mpr (.inr rfl)
/-- one step keeps it -/
theorem Inv1.step {s s' : St} {ans : List Call} {c : Call} {r : Option Int} (I : Inv1 s ans) (h : Step s c s' r) : Inv1 s' (if r.isSome = true then ans ++ [c] else ans) := by
  cases h with
  | wait nr hs a => exact I.wait nr hs a
  | run nr hs a => exact I.run nr hs a
  | commit nr h => exact I.commit nr h
  | abort nr h => exact I.abort nr h
end K61
set_option Elab.async false
set_option linter.all false
set_option autoImplicit false
namespace K61
/-! ### what a strict schedule gives -/
/-- a writer is the transaction itself, or has committed -/
theorem SchOk.clean {s : List Op} {over : List Int} (K : SchOk s over) {j k : Nat} {b : Op} {i : It} {w : Int} (hb : s[j]? = some b) (hi : b.item? = some i) (hw : s[k]? = some (.wr w i)) (lt : k < j)
    (na : Op.ab w ∉ s.take j) : w = b.tx ∨ Op.cm w ∈ s.take j := by
  by_cases e : w = b.tx
  · exact .inl e
  · obtain ⟨l, o, h1, h2, h3, h4⟩ := K.strict k j _ b lt hw hb ⟨e, i, rfl, hi, .inl rfl⟩
    have hm : o ∈ s.take j := List.mem_of_getElem? (i := l) (by rw [List.getElem?_take_of_lt h2]; exact h3)
    rcases h4 with h4 | h4
    · exact .inr (h4 ▸ hm)
    · exact absurd (h4 ▸ hm) na
/-- the place of a commit -/
def rank : List Op → Int → Nat
  | [], _ => 0
  | o :: s, t => if o = .cm t then 0 else rank s t + 1
theorem rank_le {t : Int} : ∀ {s : List Op} {l : Nat}, s[l]? = some (.cm t) → rank s t ≤ l
  | [], l, h => by cases h
  | o :: s, 0, h => by
    have e : o = .cm t := Option.some.inj h
    show (if o = .cm t then 0 else rank s t + 1) ≤ 0
    rw [if_pos e]
    exact Nat.le_refl 0
  | o :: s, l + 1, h => by
    show (if o = .cm t then 0 else rank s t + 1) ≤ l + 1
    by_cases e : o = .cm t
    · rw [if_pos e]
      exact Nat.zero_le _
    · rw [if_neg e]
      exact Nat.succ_le_succ (rank_le (s := s) h)
theorem rank_at {t : Int} : ∀ {s : List Op}, Op.cm t ∈ s → s[rank s t]? = some (.cm t)
  | [], h => by cases h
  | o :: s, h => by
    show (o :: s)[if o = .cm t then 0 else rank s t + 1]? = _
    by_cases e : o = .cm t
    · rw [if_pos e, e]
      rfl
    · rw [if_neg e]
      show s[rank s t]? = _
      exact rank_at ((List.mem_cons.mp h).resolve_left fun z => e z.symm)
theorem SchOk.rank {s : List Op} {over : List Int} (K : SchOk s over) (fin : ∀ o ∈ s, o.tx ∈ over) {k j : Nat} {a b : Op} (lt : k < j) (ha : s[k]? = some a) (hb : s[j]? = some b) (c : conf a b)
    (na : Op.ab a.tx ∉ s) (nb : Op.ab b.tx ∉ s) : rank s a.tx < rank s b.tx := by
  obtain ⟨l, o, h1, h2, h3, h4⟩ := K.strict k j a b lt ha hb c
  have h5 : o = .cm a.tx := h4.elim id fun z => absurd (z ▸ List.mem_of_getElem? h3) na
  subst h5
  have r1 := rank_le h3
  have hc : Op.cm b.tx ∈ s := ((K.ov b.tx).mp (fin b (List.mem_of_getElem? hb))).elim id fun z => absurd z nb
  have r2 := rank_at hc
  have : j < K61.rank s b.tx := by
    rcases Nat.lt_trichotomy (K61.rank s b.tx) j with h | h | h
    · exact (K.after _ _ _ b h r2 hb (.inl rfl)).elim
    · rw [h, hb] at r2
      have e := Option.some.inj r2
      obtain ⟨_, i, _, hi, _⟩ := c
      rw [e] at hi
      cases hi
    · exact h
  omega
/-- the operations of transactions that are not aborted -/
def kept (s : List Op) : List Op := s.filter fun o => decide (Op.ab o.tx ∉ s)
theorem SchOk.kept {s : List Op} {over : List Int} (K : SchOk s over) (fin : ∀ o ∈ s, o.tx ∈ over) {k j : Nat} {a b : Op} (lt : k < j) (ha : (kept s)[k]? = some a) (hb : (kept s)[j]? = some b) (c : conf a b) : K61.rank s a.tx < K61.rank s b.tx := by
  have P : s.Pairwise fun a b => conf a b → Op.ab a.tx ∉ s → Op.ab b.tx ∉ s → K61.rank s a.tx < K61.rank s b.tx := by
    rw [List.pairwise_iff_getElem]
    intro i j hi hj hij c na nb
    exact K.rank fin hij (List.getElem?_eq_getElem hi) (List.getElem?_eq_getElem hj) c na nb
  have Q := List.pairwise_iff_getElem.mp (P.sublist (List.filter_sublist (l := s) (p := fun o => decide (Op.ab o.tx ∉ s))))
  obtain ⟨h1, e1⟩ := List.getElem?_eq_some_iff.mp ha
  obtain ⟨h2, e2⟩ := List.getElem?_eq_some_iff.mp hb
  have m : ∀ o, o ∈ K61.kept s → Op.ab o.tx ∉ s := fun o h => of_decide_eq_true (List.mem_filter.mp h).2
  have q := Q k j h1 h2 lt
  have e1' : (s.filter fun o => decide (Op.ab o.tx ∉ s))[k] = a := e1
  have e2' : (s.filter fun o => decide (Op.ab o.tx ∉ s))[j] = b := e2
  rw [e1', e2'] at q
  exact q c (m a (List.mem_of_getElem? ha)) (m b (List.mem_of_getElem? hb))
theorem SchOk.commits_nd {s : List Op} {over : List Int} (K : SchOk s over) : (commits s).Nodup := by
  have P : s.Pairwise fun a b => ends b.tx a → False := by
    rw [List.pairwise_iff_getElem]
    intro i j hi hj hij e
    exact K.after i j _ _ hij (List.getElem?_eq_getElem hi) (List.getElem?_eq_getElem hj) e
  show (s.filterMap commit?).Nodup
  rw [List.Nodup, List.pairwise_filterMap]
  refine P.imp fun {a b} h t ht u hu e => h ?_
  cases a with
  | cm t' =>
    cases b with
    | cm u' =>
      have e1 : t' = t := Option.some.inj ht
      have e2 : u' = u := Option.some.inj hu
      exact .inl (by show Op.cm t' = Op.cm u'; rw [e1, e2, e])
    | _ => cases hu
  | _ => cases ht

/-! ### the end of the first run -/
structure End1 (s : St) (ans : List Call) : Prop where
  inv : Inv1 s ans
  all : ∀ t ∈ s.opn, t ∈ s.over
section
variable {s : St} {ans : List Call}
theorem End1.q (E : End1 s ans) (i : It) : (s.lk i).q = [] := by
  cases h : (s.lk i).q with
  | nil => rfl
  | cons p r =>
    have l := (E.inv.lk i).lq p.1 p.2 (by rw [h]; exact List.mem_cons_self)
    exact absurd (E.all _ l.1) l.2.1
theorem End1.fin (E : End1 s ans) : ∀ o ∈ s.sched, o.tx ∈ s.over := fun o h => E.all _ (E.inv.schO o h)
theorem End1.amt (E : End1 s ans) : s.amt = serial ans (commits s.sched) := funext fun i => E.inv.base i fun t ht ⟨n, h⟩ => ht (E.all _ (E.inv.ansO _ h))
theorem End1.cm (E : End1 s ans) {t : Int} (h : t ∈ commits s.sched) : 1 ≤ t ∧ t ≤ 8 := E.inv.opn8 t (E.inv.schO _ (mem_commits.mp h))
end
theorem ab_ok {s : St} {t : Int} (h1 : 1 ≤ t) (h8 : t ≤ 8) (h : t ∉ s.over) : ¬ Refused s (.ab t) := by
  rintro (z | z | ⟨z, _⟩)
  · exact z ⟨h1, h8⟩
  · exact h z
  · cases z
/-- what an abort leaves open -/
theorem ab_opn {s s' : St} {t : Int} {r : Option Int} (h : Step s (.ab t) s' r) : s'.opn = note s.opn t ∧ s'.over = s.over ++ [t] ∧ r = none := by
  cases h with
  | wait _ hs => cases hs
  | run _ hs => cases hs
  | abort nr h => exact ⟨rfl, rfl, rfl⟩

/-! ### the second run -/
structure Idle (s : St) (S : It → Int) (done : List Int) : Prop where
  h : ∀ i u, (s.lk i).h u = none
  q : ∀ i, (s.lk i).q = []
  w : ∀ u, s.wtd u = none
  over : s.over = done
  amt : s.amt = S
  sums : ∀ u, u ∉ done → s.sums u = 0
theorem Idle.new : Idle St.new (fun _ => 0) [] := ⟨fun _ _ => rfl, fun _ => rfl, fun _ => rfl, rfl, rfl, fun _ _ => rfl⟩
structure Busy (s : St) (S : It → Int) (done : List Int) (t : Int) (l : List Call) : Prop where
  h : ∀ i u m, (s.lk i).h u = some m → u = t
  q : ∀ i, (s.lk i).q = []
  w : ∀ u, s.wtd u = none
  over : s.over = done
  amt : s.amt = (exec l (S, 0)).1
  sumt : s.sums t = (exec l (S, 0)).2
  sums : ∀ u, u ∉ done → u ≠ t → s.sums u = 0
theorem Idle.busy {s : St} {S : It → Int} {done : List Int} (I : Idle s S done) {t : Int} (h : t ∉ done) : Busy s S done t [] where
  h := fun i u m e => by rw [I.h i u] at e; cases e
  q := I.q
  w := I.w
  over := I.over
  amt := I.amt
  sumt := I.sums t h
  sums := fun u hu _ => I.sums u hu
section
variable {s : St} {S : It → Int} {done : List Int} {t : Int} {l : List Call}
theorem Busy.ok (B : Busy s S done t l) (h1 : 1 ≤ t ∧ t ≤ 8) (h : t ∉ done) {c : Call} (hc : c.tx = t) : ¬ Refused s c := by
  rintro (z | z | ⟨_, z | z⟩)
  · exact z (hc ▸ h1)
  · rw [B.over, hc] at z
    exact h z
  · obtain ⟨i, z⟩ := z
    rw [B.q i] at z
    cases z
  · obtain ⟨c', z, _⟩ := z
    rw [B.w] at z
    cases z
theorem Busy.ask (B : Busy s S done t l) {i : It} {m : Md} {L : LI} {b : Bool} (a : Ask (s.lk i) t m L b) : b = true ∧ L.q = [] ∧ ∀ u m', L.h u = some m' → u = t := by
  cases a with
  | held h => exact ⟨rfl, B.q i, B.h i⟩
  | granted h f =>
    refine ⟨rfl, B.q i, fun u m' e => ?_⟩
    by_cases z : u = t
    · exact z
    · have e' : fput (s.lk i).h t (some m) u = some m' := e
      rw [fput_ne z] at e'
      exact B.h i u m' e'
  | waits p h f hp => exact absurd ⟨fun u m' e => .inl (B.h i u m' e), .inr (B.q i)⟩ f
theorem Busy.step (B : Busy s S done t l) {c : Call} (hc : c.step?.isSome = true) (ht : c.tx = t) {s' : St} {r : Option Int} (h : Step s c s' r) : r.isSome = true ∧ Busy s' S done t (l ++ [c]) := by
  cases h with
  | wait nr hs a =>
    obtain ⟨e, _, _⟩ := step_tx hs
    rw [← e, ht] at a
    cases (B.ask a).1
  | run nr hs a =>
    rename_i t' i m L
    obtain ⟨e, _, hk⟩ := step_tx hs
    have et : t' = t := e.symm.trans ht
    subst et
    obtain ⟨_, a1, a2⟩ := B.ask a
    have hh : ∀ j u m, (fput s.lk i L j).h u = some m → u = t' := fun j u m z => by
      by_cases q : j = i
      · rw [q, fput_same] at z
        exact a2 u m z
      · rw [fput_ne q] at z
        exact B.h j u m z
    have hq : ∀ j, (fput s.lk i L j).q = [] := fun j => by
      by_cases q : j = i
      · rw [q, fput_same]
        exact a1
      · rw [fput_ne q]
        exact B.q j
    have hw : ∀ u, fput s.wtd t' none u = none := fun u => by
      by_cases q : u = t'
      · rw [q, fput_same]
      · rw [fput_ne q]
        exact B.w u
    rcases hk with ⟨rfl, rfl⟩ | ⟨rfl, n, rfl⟩
    · refine ⟨rfl, hh, hq, hw, B.over, ?_, ?_, fun u hu ne => ?_⟩
      · rw [exec_snoc]
        exact B.amt
      · rw [exec_snoc]
        show fput s.sums t' (s.sums t' + s.amt i) t' = (exec l (S, 0)).2 + (exec l (S, 0)).1 i
        rw [fput_same, B.sumt, B.amt]
      · show fput s.sums t' (s.sums t' + s.amt i) u = 0
        rw [fput_ne ne]
        exact B.sums u hu ne
    · refine ⟨rfl, hh, hq, hw, B.over, ?_, ?_, B.sums⟩
      · rw [exec_snoc]
        show fput s.amt i (s.sums t' + n) = fput (exec l (S, 0)).1 i ((exec l (S, 0)).2 + n)
        rw [B.sumt, B.amt]
      · rw [exec_snoc]
        exact B.sumt
  | commit nr h => cases hc
  | abort nr h => cases hc
theorem Grant.nil {L L' : LI} (g : Grant L L') (h : L.q = []) : L' = L := by
  cases g with
  | done => rfl
  | step e => rw [h] at e; cases e
theorem Busy.commit (B : Busy s S done t l) {s' : St} {r : Option Int} (h : Step s (.cm t) s' r) : Idle s' (exec l (S, 0)).1 (done ++ [t]) := by
  cases h with
  | wait _ hs => cases hs
  | run _ hs => cases hs
  | commit nr h =>
    rename_i lk'
    have e : ∀ i, lk' i = ⟨fput (s.lk i).h t none, (s.lk i).q.filter fun p => decide (p.1 ≠ t)⟩ := fun i => Grant.nil (h i) (by show List.filter _ (s.lk i).q = []; rw [B.q i]; rfl)
    refine ⟨fun i u => ?_, fun i => ?_, fun u => ?_, ?_, B.amt, fun u hu => ?_⟩
    · show (lk' i).h u = none
      rw [e i]
      show fput (s.lk i).h t none u = none
      by_cases q : u = t
      · rw [q, fput_same]
      · rw [fput_ne q]
        cases z : (s.lk i).h u with
        | none => rfl
        | some m => exact absurd (B.h i u m z) q
    · show (lk' i).q = []
      rw [e i]
      show List.filter _ (s.lk i).q = []
      rw [B.q i] <;> rfl
    · show fput s.wtd t none u = none
      by_cases q : u = t
      · rw [q, fput_same]
      · rw [fput_ne q]
        exact B.w u
    · show s.over ++ [t] = done ++ [t]
      rw [B.over]
    · exact B.sums u (fun z => hu (mem_snoc.mpr (.inl z))) fun z => hu (mem_snoc.mpr (.inr z))
end
end K61
set_option Elab.async false
set_option linter.all false
set_option maxRecDepth 100000
set_option maxHeartbeats 4000000
/-! The text by places, the data. -/
namespace K61
open PySem L2
abbrev rwk : PySem.W.OpenLaw := PySem.Challenge.rw_ordershown_k61_whole_managers_keep_order
def top (i : Nat) : Stmt := PySem.Challenge.pw_ordershown_k61_whole_managers_keep_order.main.body.getD i (.Pass ⟨0, 0, 0, 0⟩)
abbrev sMErr : Stmt := inClass (top 4) 0
abbrev sNoAb : Stmt := top 7
abbrev sConf : Stmt := top 9
abbrev sGraph : Stmt := top 10
abbrev sClos : Stmt := top 11
abbrev sRing : Stmt := top 12
abbrev sRingOf : Stmt := top 13
abbrev sCompat : Stmt := top 15
abbrev sLT (j : Nat) : Stmt := inClass (top 16) j
abbrev sTold : Stmt := top 19
abbrev sWk (j : Nat) : Stmt := inClass (top 20) j
abbrev sMg (j : Nat) : Stmt := inClass (top 22) j
abbrev sEnded : Stmt := top 24
abbrev sWriter : Stmt := top 25
abbrev sDirty : Stmt := top 26
abbrev sEarly : Stmt := top 27
abbrev sFirst : Stmt := top 28
abbrev sBreaks : Stmt := top 29
abbrev sCell : Stmt := top 31
abbrev sDraw : Stmt := top 32
abbrev sDo : Stmt := top 33
abbrev sCalls : Stmt := top 34
abbrev sLaw : Stmt := top 35
/-- a def as it stands behind the top, of no default -/
abbrev FnP (K : PySem.W.Frag) (x q : Str) (st : Stmt) (f : Addr) (fd : FuncData) : Prop := FunD K x q (defArgs st) (defBody st) (defScope st) [] [] f fd
end K61
set_option Elab.async false
set_option linter.all false
set_option maxRecDepth 100000
set_option maxHeartbeats 4000000
namespace K61
open PySem L2
def It.s : It → Str
  | .x => "x"
  | .y => "y"
  | .z => "z"
def Md.s : Md → Str
  | .sh => "shared"
  | .ex => "exclusive"
def Op.word : Op → Str
  | .rd _ _ => "read"
  | .wr _ _ => "write"
  | .cm _ => "commit"
  | .ab _ => "abort"
def opVs : Op → List V
  | .rd t i => [.str "read", .int t, .str i.s]
  | .wr t i => [.str "write", .int t, .str i.s]
  | .cm t => [.str "commit", .int t]
  | .ab t => [.str "abort", .int t]
def callVs : Call → List V
  | .rd t i => [.str "read", .int t, .str i.s]
  | .wr t i n => [.str "write", .int t, .str i.s, .int n]
  | .cm t => [.str "commit", .int t]
  | .ab t => [.str "abort", .int t]
theorem opVs_0 (o : Op) : (opVs o)[0]? = some (.str o.word) := by cases o <;> rfl
theorem opVs_1 (o : Op) : (opVs o)[1]? = some (.int o.tx) := by cases o <;> rfl
theorem opVs_2 {o : Op} {i : It} (h : o.item? = some i) : (opVs o)[2]? = some (.str i.s) := by
  cases o with
  | rd t j => cases h; rfl
  | wr t j => cases h; rfl
  | cm t => cases h
  | ab t => cases h
/-- an operation's tuple, a list of them -/
def OpV (H : Hp) (v : V) (o : Op) : Prop := ∃ a, v = .ref a ∧ H a = some (.tup (opVs o))
def OpsV (H : Hp) (xs : List V) (ops : List Op) : Prop := Paired (OpV H) xs ops
theorem OpV.same {H H' : Hp} {v : V} {o : Op} (h : OpV H v o) (s : Same H H') : OpV H' v o := by
  obtain ⟨a, e, h⟩ := h
  exact ⟨a, e, s _ _ h⟩
theorem OpsV.same {H H' : Hp} {xs : List V} {ops : List Op} (h : OpsV H xs ops) (s : Same H H') : OpsV H' xs ops := Paired.mono (fun _ _ k => OpV.same k s) h
theorem pget {α β : Type} {F : α → β → Prop} : ∀ {xs : List α} {ys : List β}, Paired F xs ys → ∀ {i : Nat} {x : α}, xs[i]? = some x → ∃ y, ys[i]? = some y ∧ F x y
  | _, _, .nil, i, x, h => by cases h
  | _, _, .cons r t, 0, x, h => by
    have e := Option.some.inj h
    subst e
    exact ⟨_, rfl, r⟩
  | _, _, .cons r t, i + 1, x, h => pget t h
theorem pget' {α β : Type} {F : α → β → Prop} : ∀ {xs : List α} {ys : List β}, Paired F xs ys → ∀ {i : Nat} {y : β}, ys[i]? = some y → ∃ x, xs[i]? = some x ∧ F x y
  | _, _, .nil, i, x, h => by cases h
  | _, _, .cons r t, 0, x, h => by
    have e := Option.some.inj h
    subst e
    exact ⟨_, rfl, r⟩
  | _, _, .cons r t, i + 1, x, h => pget' t h
theorem ptake {α β : Type} {F : α → β → Prop} : ∀ {xs : List α} {ys : List β} (n : Nat), Paired F xs ys → Paired F (xs.take n) (ys.take n)
  | _, _, 0, _ => by rw [List.take_zero, List.take_zero]; exact .nil
  | _, _, n + 1, .nil => by rw [List.take_nil, List.take_nil]; exact .nil
  | _, _, n + 1, .cons r t => by rw [List.take_succ_cons, List.take_succ_cons]; exact .cons r (ptake n t)
theorem pappend {α β : Type} {F : α → β → Prop} : ∀ {xs xs' : List α} {ys ys' : List β}, Paired F xs ys → Paired F xs' ys' → Paired F (xs ++ xs') (ys ++ ys')
  | _, _, _, _, .nil, h => h
  | _, _, _, _, .cons r t, h => .cons r (pappend t h)
theorem preverse {α β : Type} {F : α → β → Prop} : ∀ {xs : List α} {ys : List β}, Paired F xs ys → Paired F xs.reverse ys.reverse
  | _, _, .nil => .nil
  | _, _, .cons r t => by
    rw [List.reverse_cons, List.reverse_cons]
    exact pappend (preverse t) (.cons r .nil)
theorem take_more {α : Type} : ∀ {l : List α} {i : Nat} {x : α}, l[i]? = some x → l.take (i + 1) = l.take i ++ [x]
  | [], i, x, h => by simp at h
  | a :: l, 0, x, h => by
    have e : a = x := Option.some.inj h
    subst e
    rfl
  | a :: l, i + 1, x, h => by
    have ih := take_more (l := l) (i := i) (x := x) h
    show a :: l.take (i + 1) = a :: l.take i ++ [x]
    rw [ih]
    rfl
theorem same_upd {H : Hp} {p : Addr} {o : HO} (h : H p = none) : Same H (upd H p o) := fun b u e => by rw [upd_ne (ne_of_none e h)]; exact e
theorem same_put {H H2 : Hp} {p : Addr} {o : HO} (s : Same H H2) (h : H p = none) : Same H (L2.upd H2 p o) := fun b u e => by rw [upd_ne (ne_of_none e h)]; exact s b u e
theorem none_of {H : Hp} {p q : Addr} {o : HO} (h : L2.upd H q o p = none) : H p = none ∧ p ≠ q := by
  have e : p ≠ q := fun z => by rw [z, upd_same] at h; cases h
  rw [upd_ne e] at h
  exact ⟨h, e⟩
theorem iteDec {c A B : Prop} [Decidable c] (h1 : c → A) (h2 : ¬ c → B) : if decide c = true then A else B := by
  by_cases h : c
  · rw [if_pos (decide_eq_true h)]
    exact h1 h
  · rw [if_neg (by rw [decide_eq_false h]; decide)]
    exact h2 h
theorem iteNDec {c A B : Prop} [Decidable c] (h1 : ¬ c → A) (h2 : c → B) : if (!decide c) = true then A else B := by
  by_cases h : c
  · rw [if_neg (by rw [decide_eq_true h]; decide)]
    exact h2 h
  · rw [if_pos (by rw [decide_eq_false h]; decide)]
    exact h1 h
theorem iteB {b : Bool} {A B : Prop} (h1 : b = true → A) (h2 : b = false → B) : if b = true then A else B := by
  cases b with
  | true => rw [if_pos rfl]; exact h1 rfl
  | false => rw [if_neg (by decide)]; exact h2 rfl
theorem filter_snoc {α : Type} (p : α → Bool) (l : List α) (a : α) : (l ++ [a]).filter p = if p a = true then l.filter p ++ [a] else l.filter p := by
  rw [List.filter_append]
  by_cases h : p a = true
  · rw [if_pos h, List.filter_cons_of_pos h]
    rfl
  · rw [if_neg h, List.filter_cons_of_neg h]
    simp
theorem inV_int (t : Int) (l : List Int) : inV (.int t) (l.map V.int) = decide (t ∈ l) := by
  unfold inV
  rw [List.any_map]
  by_cases h : t ∈ l
  · rw [decide_eq_true h]
    exact List.any_eq_true.mpr ⟨t, h, by show (t == t) = true; simp⟩
  · rw [decide_eq_false h]
    refine List.any_eq_false.mpr fun u hu e => h ?_
    have e : (u == t) = true := e
    rw [← eq_of_beq e]
    exact hu
theorem inV_str (t : Str) (l : List Str) : inV (.str t) (l.map V.str) = decide (t ∈ l) := by
  unfold inV
  rw [List.any_map]
  by_cases h : t ∈ l
  · rw [decide_eq_true h]
    exact List.any_eq_true.mpr ⟨t, h, by show (t == t) = true; simp⟩
  · rw [decide_eq_false h]
    refine List.any_eq_false.mpr fun u hu e => h ?_
    have e : (u == t) = true := e
    rw [← eq_of_beq e]
    exact hu
theorem flat_int (l : List Int) : (l.map V.int).all flatV = true := by
  rw [List.all_map]
  exact List.all_eq_true.mpr fun _ _ => rfl
theorem flat_str (l : List Str) : (l.map V.str).all flatV = true := by
  rw [List.all_map]
  exact List.all_eq_true.mpr fun _ _ => rfl
/-- a def of the module, a method, as a caller knows it -/
def GFn (P : Program) (w : World) (K : PySem.W.Frag) (mg : Str → Option Value) (base : Heap) (CX : CXT) (k : Nat) (x : Str) (ps : List Str) (sp : Sp) : Prop :=
  ∃ f fd, mg x = some (.ref f) ∧ PySem.W.keepIn K (.ref f) = true ∧ Binds K fd ps [] ∧ FnOk P w K mg base CX k f fd ps sp
def MFn (P : Program) (w : World) (K : PySem.W.Frag) (mg : Str → Option Value) (base : Heap) (CX : CXT) (k : Nat) (C : Addr) (m : Str) (ps : List Str) (sp : Sp) : Prop :=
  ∃ f fd, Meth K C m f ∧ Binds K fd ps [] ∧ FnOk P w K mg base CX k f fd ps sp
theorem cutV_to (xs : List V) (n : Nat) : cutV xs none (some (n : Int)) = xs.take n := by
  unfold cutV
  rw [HT.sIx_none, HT.sIx_nat, List.drop_zero, Nat.sub_zero, List.take_eq_take_iff]
  omega
theorem strI {a b : Str} : V.str a = V.str b ↔ a = b := ⟨fun h => V.str.inj h, fun h => by rw [h]⟩
theorem intI {a b : Int} : V.int a = V.int b ↔ a = b := ⟨fun h => V.int.inj h, fun h => by rw [h]⟩
theorem lt_line {n : Nat} (h : n ≤ 1000000) : n < sizeLine := Nat.lt_of_le_of_lt h (by decide)
end K61
set_option Elab.async false
set_option linter.all false
set_option maxRecDepth 100000
set_option maxHeartbeats 4000000
namespace K61
open PySem PySem.Spec PyProof.Rows L2
section
variable {P : Program} {w : World} {K : PySem.W.Frag} {mg : Str → Option Value} {base : Heap} {f : Addr} {fd : FuncData}
/-- the transactions of the operations of a word ahead of a place -/
def endedL (ops : List Op) (n : Nat) (x : Str) : List Int := ((ops.take n).filter fun o => decide (o.word = x)).map Op.tx
def spEnded (K : PySem.W.Frag) : Sp := fun vs H Q _ => ∃ (a : Addr) (n : Nat) (x : Str) (xs : List V) (ops : List Op), vs = [.ref a, .int n, .str x] ∧ SqL K H a xs ∧ OpsV H xs ops ∧ n ≤ ops.length ∧ ops.length ≤ 1000 ∧
  ∀ H' p, Same H H' → H' p = some (.lst ((endedL ops n x).map V.int)) → Q (.ref p) H'
theorem scEnded : FnScope ["schedule", "place", "word", "operation"] ["schedule", "place", "word"] (defScope sEnded) := ⟨rfl, rfl, rfl, by decide +kernel, rfl, by decide +kernel, by decide +kernel⟩
theorem ok_ended (F : FnP K "ended_before" "ended_before" sEnded f fd) : FnOk P w K mg base CX0 1 f fd ["schedule", "place", "word"] (spEnded K) := by
  refine F.ok scEnded (fun vs H Q E h => ?_) (fun cdv A outer s H vs Q E hr h => ?_)
  · obtain ⟨a, n, x, xs, ops, rfl, _⟩ := h
    rfl
  · obtain ⟨a, n, x, xs, ops, rfl, hS, hO, hn, hl, k⟩ := h
    refine ⟨_, PSs.nox (pss_one (ps_ret (pe_lc (own := [("operation", 3)]) (g := gName 3) (by rfl) scEnded.nd (pi_list (pe_slice sl_list (pv 0) po_none (po_some (pv 1))))
      (blkOk_by (own := [("operation", 3)]) (N := ["schedule", "place", "word", "operation"]) (sc := defScope sEnded) (by decide +kernel))
      (fun _ _ _ _ _ => pg_name (i := 3) scEnded.nd rfl (Or.inl rfl)) (fun _ _ _ _ _ => pts_one (pt_cmpR op_eq (pe_ix (r := rIxT K) ix_tup (pv 3) pe_int (fun _ _ => rfl)) (pv 2) (nomark _)))
      (fun _ _ _ _ _ => pe_ix (r := rIxT K) ix_tup (pv 3) pe_int (fun _ _ => rfl))))), ?_⟩
    refine ⟨_, rfl, _, rfl, _, rfl, a, xs, rfl, hS, fun p hp => ?_⟩
    rw [cutV_to xs n]
    refine ⟨p, rfl, ⟨_, SqL.of upd_same⟩, fun D hD => ?_⟩
    have hO' := ptake n hO
    refine lc_list (K := K) (a := p) (xs := xs.take n) (fun i H2 => Same H H2 ∧ H2 p = some (.lst (xs.take n)) ∧ H2 D = some (.lst ((endedL (ops.take n) i x).map V.int)))
      ⟨(same_upd hp).trans (same_upd hD), (same_upd hD) _ _ upd_same, upd_same⟩ (fun i H2 _ h => SqL.of h.2.1) ?_ ?_
    · rintro i v H2 hi ⟨s2, e2, e3⟩
      obtain ⟨o, ho, q, rfl, hq⟩ := pget hO' hi
      refine ⟨rfl, _, rfl, _, _, _, _, rfl, rfl, SqT.of (s2 _ _ hq), at_of (j := 0) rfl (opVs_0 o), _, rfl, rfl, _, rfl, ?_⟩
      have tk : endedL (ops.take n) (i + 1) x = endedL (ops.take n) i x ++ (if o.word = x then [o.tx] else []) := by
        unfold endedL
        rw [take_more ho, filter_snoc]
        by_cases e : o.word = x
        · rw [if_pos e, if_pos (decide_eq_true e), List.map_append]
          rfl
        · rw [if_neg e, if_neg (by rw [decide_eq_false e]; decide), List.append_nil]
      have ln : ∀ l : List Op, ((endedL l i x).map V.int).length ≤ l.length := fun l => by
        unfold endedL
        rw [List.length_map, List.length_map]
        refine Nat.le_trans (List.length_filter_le _ _) ?_
        rw [List.length_take]
        omega
      refine iteDec (fun e => ?_) (fun e => ?_)
      · refine ⟨_, rfl, _, _, _, _, rfl, rfl, SqT.of (s2 _ _ hq), at_of (j := 1) rfl (opVs_1 o), _, e3, lt_line ?_, same_put s2 (none_of hD).1, ?_, ?_⟩
        · have := ln (ops.take n)
          rw [List.length_take] at this
          omega
        · rw [upd_ne (none_of hD).2.symm]
          exact e2
        · rw [upd_same, tk, if_pos (strI.mp e), List.map_append]
          rfl
      · refine ⟨s2, e2, ?_⟩
        rw [e3, tk, if_neg fun z => e (strI.mpr z), List.append_nil]
    · rintro H2 ⟨s2, e2, e3⟩
      refine k H2 D s2 ?_
      rw [e3]
      unfold endedL
      rw [hO'.length, List.take_length]
theorem word_cm {o : Op} : o.word = "commit" ↔ o = .cm o.tx := by
  cases o with
  | cm t => exact ⟨fun _ => rfl, fun _ => rfl⟩
  | rd t i => exact ⟨fun h => absurd h (by show ¬ (("read" : Str) = "commit"); decide +kernel), fun h => by cases h⟩
  | wr t i => exact ⟨fun h => absurd h (by show ¬ (("write" : Str) = "commit"); decide +kernel), fun h => by cases h⟩
  | ab t => exact ⟨fun h => absurd h (by show ¬ (("abort" : Str) = "commit"); decide +kernel), fun h => by cases h⟩
theorem word_ab {o : Op} : o.word = "abort" ↔ o = .ab o.tx := by
  cases o with
  | ab t => exact ⟨fun _ => rfl, fun _ => rfl⟩
  | rd t i => exact ⟨fun h => absurd h (by show ¬ (("read" : Str) = "abort"); decide +kernel), fun h => by cases h⟩
  | wr t i => exact ⟨fun h => absurd h (by show ¬ (("write" : Str) = "abort"); decide +kernel), fun h => by cases h⟩
  | cm t => exact ⟨fun h => absurd h (by show ¬ (("commit" : Str) = "abort"); decide +kernel), fun h => by cases h⟩
theorem word_wr {o : Op} : o.word = "write" ↔ ∃ i, o = .wr o.tx i := by
  cases o with
  | wr t i => exact ⟨fun _ => ⟨i, rfl⟩, fun _ => rfl⟩
  | rd t i => exact ⟨fun h => absurd h (by show ¬ (("read" : Str) = "write"); decide +kernel), fun ⟨_, h⟩ => by cases h⟩
  | ab t => exact ⟨fun h => absurd h (by show ¬ (("abort" : Str) = "write"); decide +kernel), fun ⟨_, h⟩ => by cases h⟩
  | cm t => exact ⟨fun h => absurd h (by show ¬ (("commit" : Str) = "write"); decide +kernel), fun ⟨_, h⟩ => by cases h⟩
theorem word_rd {o : Op} : o.word = "read" ↔ ∃ i, o = .rd o.tx i := by
  cases o with
  | rd t i => exact ⟨fun _ => ⟨i, rfl⟩, fun _ => rfl⟩
  | wr t i => exact ⟨fun h => absurd h (by show ¬ (("write" : Str) = "read"); decide +kernel), fun ⟨_, h⟩ => by cases h⟩
  | ab t => exact ⟨fun h => absurd h (by show ¬ (("abort" : Str) = "read"); decide +kernel), fun ⟨_, h⟩ => by cases h⟩
  | cm t => exact ⟨fun h => absurd h (by show ¬ (("commit" : Str) = "read"); decide +kernel), fun ⟨_, h⟩ => by cases h⟩
theorem mem_ended_cm {ops : List Op} {n : Nat} {t : Int} : t ∈ endedL ops n "commit" ↔ Op.cm t ∈ ops.take n := by
  unfold endedL
  rw [List.mem_map]
  constructor
  · rintro ⟨o, h, e⟩
    obtain ⟨h1, h2⟩ := List.mem_filter.mp h
    have e2 := word_cm.mp (of_decide_eq_true h2)
    rw [e] at e2
    rw [← e2]
    exact h1
  · exact fun h => ⟨_, List.mem_filter.mpr ⟨h, decide_eq_true rfl⟩, rfl⟩
theorem mem_ended_ab {ops : List Op} {n : Nat} {t : Int} : t ∈ endedL ops n "abort" ↔ Op.ab t ∈ ops.take n := by
  unfold endedL
  rw [List.mem_map]
  constructor
  · rintro ⟨o, h, e⟩
    obtain ⟨h1, h2⟩ := List.mem_filter.mp h
    have e2 := word_ab.mp (of_decide_eq_true h2)
    rw [e] at e2
    rw [← e2]
    exact h1
  · exact fun h => ⟨_, List.mem_filter.mpr ⟨h, decide_eq_true rfl⟩, rfl⟩
theorem it_inj {i j : It} (h : i.s = j.s) : i = j := by
  cases i <;> cases j <;> first | rfl | exact absurd h (by decide +kernel)
/-- 0, or a write of the item that counts -/
def spWriter (K : PySem.W.Frag) : Sp := fun vs H Q _ => ∃ (a : Addr) (n : Nat) (i : It) (xs : List V) (ops : List Op), vs = [.ref a, .int n, .str i.s] ∧ SqL K H a xs ∧ OpsV H xs ops ∧ n ≤ ops.length ∧ ops.length ≤ 1000 ∧
  ∀ H' v, Same H H' → (v = 0 ∨ ∃ k, k < n ∧ ops[k]? = some (.wr v i) ∧ Op.ab v ∉ ops.take n) → Q (.int v) H'
theorem scWriter : FnScope ["schedule", "place", "item", "aborted", "operation"] ["schedule", "place", "item"] (defScope sWriter) := ⟨rfl, rfl, rfl, by decide +kernel, rfl, by decide +kernel, by decide +kernel⟩
theorem ok_writer (F : FnP K "writer_at" "writer_at" sWriter f fd) (GE : GFn P w K mg base CX0 1 "ended_before" ["schedule", "place", "word"] (spEnded K)) : FnOk P w K mg base CX0 2 f fd ["schedule", "place", "item"] (spWriter K) := by
  obtain ⟨fE, fdE, mE, kE, bE, GE⟩ := GE
  refine F.ok scWriter (fun vs H Q E h => ?_) (fun cdv A outer s H vs Q E hr h => ?_)
  · obtain ⟨a, n, x, xs, ops, rfl, _⟩ := h
    rfl
  · obtain ⟨a, n, i, xs, ops, rfl, hS, hO, hn, hl, k⟩ := h
    refine ⟨_, PSs.nox (pss_cons (ps_set (i := 3) scWriter.nd rfl (Or.inl rfl) (pe_call GE hr rfl mE kE bE .nil pass0 (pa_cons (pv 0) (pa_cons (pv 1) (pa_cons pe_str pa_nil)))))
      (pss_cons (ps_for PassesOwn.never rfl (pi_list (pe_revL (pe_slice sl_list (pv 0) po_none (po_some (pv 1))))) (pg_name (i := 4) scWriter.nd rfl (Or.inl rfl))
        (pss_one (ps_if (PW.pt (pw_and (pt_cmpR op_eq (pe_ix (r := rIxT K) ix_tup (pv 4) pe_int (fun _ _ => rfl)) pe_str (nomark _))
            (pw_and (pt_cmpR op_eq (pe_ix (r := rIxT K) ix_tup (pv 4) pe_int (fun _ _ => rfl)) (pv 2) (nomark _))
            (pw_and1 (pt_cmpR op_notIn_seq (pe_ix (r := rIxT K) ix_tup (pv 4) pe_int (fun _ _ => rfl)) (pv 3) (by rfl)))))) (pss_one (ps_ret (pe_ix (r := rIxT K) ix_tup (pv 4) pe_int (fun _ _ => rfl)))) pss_nil)))
      (pss_one (ps_ret pe_int)))), ?_⟩
    refine ⟨_, rfl, _, rfl, a, n, _, xs, ops, rfl, hS, hO, hn, hl, fun H1 p s1 e1 => ?_⟩
    refine ⟨_, rfl, _, rfl, _, rfl, a, xs, rfl, s1.seq hS, fun p1 h1 => ?_⟩
    rw [cutV_to xs n]
    refine ⟨p1, _, rfl, SqL.of upd_same, fun p2 h2 => ?_⟩
    have hO1 : OpsV H (xs.take n).reverse (ops.take n).reverse := preverse (ptake n hO)
    refine ⟨p2, rfl, ⟨_, SqL.of upd_same⟩, for_list (K := K) (a := p2) (xs := (xs.take n).reverse) (fun j σ H2 => ∃ v : Option V, σ = [some (.ref a), some (.int n), some (.str i.s), some (.ref p), v] ∧ Same H H2 ∧ H2 p2 = some (.lst (xs.take n).reverse) ∧ H2 p = some (.lst ((endedL ops n "abort").map V.int)))
      ⟨none, rfl, s1.trans ((same_upd h1).trans (same_upd h2)), upd_same, ((same_upd h1).trans (same_upd h2)) _ _ e1⟩ (fun j σ H2 _ h => by obtain ⟨v, _, _, h, _⟩ := h; exact SqL.of h) ?_ ?_⟩
    · rintro j y σ H2 hj ⟨v, rfl, s2, e2, e3⟩
      obtain ⟨o, ho, q, rfl, hq⟩ := pget hO1 hj
      have nx : ∀ v', ∃ v : Option V, [some (V.ref a), some (.int n), some (.str i.s), some (.ref p), some v'] = [some (.ref a), some (.int n), some (.str i.s), some (.ref p), v] ∧ Same H H2 ∧ H2 p2 = some (.lst (xs.take n).reverse) ∧ H2 p = some (.lst ((endedL ops n "abort").map V.int)) := fun v' => ⟨some v', rfl, s2, e2, e3⟩
      have tq := SqT.of (K := K) (s2 _ _ hq)
      refine ⟨_, rfl, _, _, _, _, rfl, rfl, tq, at_of (j := 0) rfl (opVs_0 o), rfl, _, rfl, ?_⟩
      refine iteDec (fun c1 => ?_) (fun c1 => iteF (nx _))
      obtain ⟨i', ei⟩ := word_wr.mp (strI.mp c1)
      have o2 : (opVs o)[2]? = some (.str i'.s) := opVs_2 (i := i') (by rw [ei]; rfl)
      refine ⟨_, rfl, _, _, _, _, rfl, rfl, tq, at_of (j := 2) rfl o2, _, rfl, rfl, _, rfl, ?_⟩
      refine iteDec (fun c2 => ?_) (fun c2 => iteF (nx _))
      refine ⟨_, rfl, _, _, _, _, rfl, rfl, tq, at_of (j := 1) rfl (opVs_1 o), _, rfl, p, _, rfl, .inl (SqL.of e3), rfl, flat_int _, _, rfl, ?_⟩
      rw [inV_int]
      refine iteNDec (fun c3 => ?_) (fun c3 => nx _)
      refine ⟨_, rfl, _, _, _, _, rfl, rfl, tq, at_of (j := 1) rfl (opVs_1 o), k H2 _ s2 (.inr ?_)⟩
      have hm : o ∈ ops.take n := List.mem_reverse.mp (List.mem_of_getElem? ho)
      obtain ⟨m, hm⟩ := List.mem_iff_getElem?.mp hm
      have hml := (List.getElem?_eq_some_iff.mp hm).1
      rw [List.length_take] at hml
      refine ⟨m, by omega, ?_, fun z => c3 (mem_ended_ab.mpr z)⟩
      rw [List.getElem?_take_of_lt (by omega)] at hm
      rw [hm, ← it_inj (strI.mp c2), ← ei]
    · rintro σ H2 ⟨v, rfl, s2, e2, e3⟩
      exact k H2 0 s2 (.inl rfl)
end
end K61
set_option Elab.async false
set_option linter.all false
set_option maxRecDepth 100000
set_option maxHeartbeats 4000000
namespace K61
open PySem PySem.Spec PyProof.Rows L2
section
variable {P : Program} {w : World} {K : PySem.W.Frag} {mg : Str → Option Value} {base : Heap} {f : Addr} {fd : FuncData}
/-- every writer of the item ahead of the place that counts is t, or has committed -/
def Clean (ops : List Op) (n : Nat) (t : Int) (i : It) : Prop := ∀ v k, k < n → ops[k]? = some (.wr v i) → Op.ab v ∉ ops.take n → v = t ∨ Op.cm v ∈ ops.take n
def spDirty (K : PySem.W.Frag) : Sp := fun vs H Q _ => ∃ (a : Addr) (n : Nat) (xs : List V) (ops : List Op) (o : Op) (i : It), vs = [.ref a, .int n] ∧ SqL K H a xs ∧ OpsV H xs ops ∧ ops.length ≤ 1000 ∧
  ops[n]? = some o ∧ o.item? = some i ∧ Clean ops n o.tx i ∧ ∀ H', Same H H' → Q (.bl false) H'
theorem scDirty : FnScope ["schedule", "place", "_", "transaction", "item", "writer"] ["schedule", "place"] (defScope sDirty) := ⟨rfl, rfl, rfl, by decide +kernel, rfl, by decide +kernel, by decide +kernel⟩
theorem opVs_len {o : Op} {i : It} (h : o.item? = some i) : opVs o = [.str o.word, .int o.tx, .str i.s] := by
  cases o with
  | rd t j => cases h; rfl
  | wr t j => cases h; rfl
  | cm t => cases h
  | ab t => cases h
theorem ok_dirty (F : FnP K "is_dirty" "is_dirty" sDirty f fd) (GE : GFn P w K mg base CX0 1 "ended_before" ["schedule", "place", "word"] (spEnded K)) (GW : GFn P w K mg base CX0 2 "writer_at" ["schedule", "place", "item"] (spWriter K)) :
    FnOk P w K mg base CX0 3 f fd ["schedule", "place"] (spDirty K) := by
  obtain ⟨fE, fdE, mE, kE, bE, GE⟩ := GE
  obtain ⟨fW, fdW, mW, kW, bW, GW⟩ := GW
  refine F.ok scDirty (fun vs H Q E h => ?_) (fun cdv A outer s H vs Q E hr h => ?_)
  · obtain ⟨a, n, xs, ops, o, i, rfl, _⟩ := h
    rfl
  · obtain ⟨a, n, xs, ops, o, i, rfl, hS, hO, hl, ho, hi, cl, k⟩ := h
    have hn := (List.getElem?_eq_some_iff.mp ho).1
    refine ⟨_, PSs.nox (pss_cons (ps_asg (pe_ix (r := rIxL K) ix_list (pv 0) (pv 1) (fun _ _ => rfl)) (pg_tup rfl (pgs_cons (pg_name (i := 2) scDirty.nd rfl (Or.inl rfl)) (pgs_cons (pg_name (i := 3) scDirty.nd rfl (Or.inl rfl)) (pgs_cons (pg_name (i := 4) scDirty.nd rfl (Or.inl rfl)) pgs_nil)))))
      (pss_cons (ps_set (i := 5) scDirty.nd rfl (Or.inl rfl) (pe_call GW hr rfl mW kW bW .nil pass0 (pa_cons (pv 0) (pa_cons (pv 1) (pa_cons (pv 4) pa_nil)))))
      (pss_one (ps_ret (pe_and (pe_cmpR op_notIn_seq (pv 5) (pe_tup (pa_cons pe_int (pa_cons (pv 3) pa_nil))) (by rfl))
        (pe_one (pe_cmpR op_notIn_seq (pv 5) (pe_call GE (hr.mono (by decide)) rfl mE kE bE .nil pass0 (pa_cons (pv 0) (pa_cons (pv 1) (pa_cons pe_str pa_nil)))) (by rfl)))))))), ?_⟩
    obtain ⟨x, hx, q, rfl, hq⟩ := pget' hO ho
    refine ⟨_, rfl, _, rfl, _, _, _, _, rfl, rfl, hS, at_of rfl hx, q, _, rfl, SqT.of hq, by rw [opVs_len hi]; rfl, ?_⟩
    rw [opVs_len hi]
    refine ⟨_, _, rfl, _, _, rfl, _, _, rfl, rfl, _, rfl, _, rfl, _, rfl, a, n, i, xs, ops, rfl, hS, hO, by omega, hl, fun H1 v s1 hv => ?_⟩
    refine ⟨_, rfl, _, rfl, (by show 2 ≤ sizeLine; decide), fun t ht => ⟨t, _, rfl, .inr (SqT.of upd_same), rfl, rfl, _, rfl, ?_⟩⟩
    have e1 : inV (V.int v) [V.int 0, V.int o.tx] = decide (v ∈ [0, o.tx]) := inV_int v [0, o.tx]
    have s2 := s1.trans (same_upd (o := .tup [V.int 0, V.int o.tx]) ht)
    show if (!inV (V.int v) [V.int 0, V.int o.tx]) = true then _ else _
    rw [e1]
    refine iteNDec (fun c => ?_) (fun _ => k _ s2)
    refine ⟨_, rfl, _, rfl, _, rfl, a, n, "commit", xs, ops, rfl, s2.seq hS, hO.same s2, by omega, hl, fun H2 p s3 e3 => ?_⟩
    refine ⟨p, _, rfl, .inl (SqL.of e3), rfl, flat_int _, ?_⟩
    have hm : v ∈ endedL ops n "commit" := by
      rcases hv with hv | ⟨m, h1, h2, h3⟩
      · exact absurd (hv ▸ List.mem_cons_self) c
      · rcases cl v m h1 h2 h3 with e | e
        · exact absurd (e ▸ List.mem_cons_of_mem _ List.mem_cons_self) c
        · exact mem_ended_cm.mpr e
    have e2 : inV (V.int v) ((endedL ops n "commit").map V.int) = true := by
      rw [inV_int]
      exact decide_eq_true hm
    show Q (.bl (!inV (V.int v) ((endedL ops n "commit").map V.int))) H2
    rw [e2]
    exact k H2 (s2.trans s3)
def spEarly (K : PySem.W.Frag) : Sp := fun vs H Q _ => ∃ (a : Addr) (n : Nat) (xs : List V) (ops : List Op) (o : Op), vs = [.ref a, .int n] ∧ SqL K H a xs ∧ OpsV H xs ops ∧ ops.length ≤ 1000 ∧
  ops[n]? = some o ∧ (∀ k i, k < n → ops[k]? = some (.rd o.tx i) → Clean ops k o.tx i) ∧ ∀ H', Same H H' → Q (.bl false) H'
theorem scEarly : FnScope ["schedule", "place", "transaction", "committed", "k", "writer"] ["schedule", "place"] (defScope sEarly) := ⟨rfl, rfl, rfl, by decide +kernel, rfl, by decide +kernel, by decide +kernel⟩
theorem ok_early (F : FnP K "commits_early" "commits_early" sEarly f fd) (GE : GFn P w K mg base CX0 1 "ended_before" ["schedule", "place", "word"] (spEnded K)) (GW : GFn P w K mg base CX0 2 "writer_at" ["schedule", "place", "item"] (spWriter K)) (mR : mg "range" = none) :
    FnOk P w K mg base CX0 3 f fd ["schedule", "place"] (spEarly K) := by
  obtain ⟨fE, fdE, mE, kE, bE, GE⟩ := GE
  obtain ⟨fW, fdW, mW, kW, bW, GW⟩ := GW
  refine F.ok scEarly (fun vs H Q E h => ?_) (fun cdv A outer s H vs Q E hr h => ?_)
  · obtain ⟨a, n, xs, ops, o, rfl, _⟩ := h
    rfl
  · obtain ⟨a, n, xs, ops, o, rfl, hS, hO, hl, ho, cl, k⟩ := h
    have hn := (List.getElem?_eq_some_iff.mp ho).1
    refine ⟨_, PSs.nox (pss_cons (ps_set (i := 2) scEarly.nd rfl (Or.inl rfl) (pe_ix (r := rIxT K) ix_tup (pe_ix (r := rIxL K) ix_list (pv 0) (pv 1) (fun _ _ => rfl)) pe_int (fun _ _ => rfl)))
      (pss_cons (ps_set (i := 3) scEarly.nd rfl (Or.inl rfl) (pe_call GE (hr.mono (by decide)) rfl mE kE bE .nil pass0 (pa_cons (pv 0) (pa_cons (pv 1) (pa_cons pe_str pa_nil)))))
      (pss_cons (ps_for PassesOwn.never rfl (pi_range1 rfl mR (pa_cons (pv 1) pa_nil)) (pg_name (i := 4) scEarly.nd rfl (Or.inl rfl))
        (pss_one (ps_if (PW.pt (pw_and (pt_cmpR op_eq (pe_ix (r := rIxT K) ix_tup (pe_ix (r := rIxL K) ix_list (pv 0) (pv 4) (fun _ _ => rfl)) pe_int (fun _ _ => rfl)) pe_str (nomark _))
            (pw_and1 (pt_cmpR op_eq (pe_ix (r := rIxT K) ix_tup (pe_ix (r := rIxL K) ix_list (pv 0) (pv 4) (fun _ _ => rfl)) pe_int (fun _ _ => rfl)) (pv 2) (nomark _)))))
          (pss_cons (ps_set (i := 5) scEarly.nd rfl (Or.inl rfl) (pe_call GW hr rfl mW kW bW .nil pass0 (pa_cons (pv 0) (pa_cons (pv 4) (pa_cons (pe_ix (r := rIxT K) ix_tup (pe_ix (r := rIxL K) ix_list (pv 0) (pv 4) (fun _ _ => rfl)) pe_int (fun _ _ => rfl)) pa_nil)))))
          (pss_one (ps_if (PW.pt (pw_and (pt_cmpR op_notIn_seq (pv 5) (pe_tup (pa_cons pe_int (pa_cons (pv 2) pa_nil))) (by rfl)) (pw_and1 (pt_cmpR op_notIn_seq (pv 5) (pv 3) (by rfl))))) (pss_one (ps_ret pe_bl)) pss_nil))) pss_nil)))
      (pss_one (ps_ret pe_bl))))), ?_⟩
    obtain ⟨x, hx, q, rfl, hq⟩ := pget' hO ho
    refine ⟨_, rfl, _, rfl, _, _, _, _, rfl, rfl, hS, at_of rfl hx, _, _, _, _, rfl, rfl, SqT.of hq, at_of (j := 1) rfl (opVs_1 o), ?_⟩
    refine ⟨_, rfl, _, rfl, a, n, "commit", xs, ops, rfl, hS, hO, by omega, hl, fun H1 p s1 e1 => ?_⟩
    refine ⟨_, rfl, _, rfl, by omega, by omega, for_range (n := n) (fun j σ H2 => ∃ v u : Option V, σ = [some (.ref a), some (.int n), some (.int o.tx), some (.ref p), v, u] ∧ Same H H2 ∧ H2 p = some (.lst ((endedL ops n "commit").map V.int)))
      ⟨none, none, rfl, s1, e1⟩ ?_ ?_⟩
    · rintro j σ H2 hj ⟨v, u, rfl, s2, e2⟩
      rw [Int.zero_add]
      obtain ⟨b, hb⟩ : ∃ b, ops[j]? = some b := ⟨_, List.getElem?_eq_getElem (by omega)⟩
      obtain ⟨y, hy, r, rfl, hr2⟩ := pget' hO hb
      have tq := SqT.of (K := K) (s2 _ _ hr2)
      have sl := s2.seq hS
      have nx : ∀ u', ∃ v u : Option V, [some (V.ref a), some (.int n), some (.int o.tx), some (.ref p), some (.int j), u'] = [some (.ref a), some (.int n), some (.int o.tx), some (.ref p), v, u] ∧ Same H H2 ∧ H2 p = some (.lst ((endedL ops n "commit").map V.int)) := fun u' => ⟨_, _, rfl, s2, e2⟩
      refine ⟨_, rfl, _, rfl, _, _, _, _, rfl, rfl, sl, at_of rfl hy, _, _, _, _, rfl, rfl, tq, at_of (j := 0) rfl (opVs_0 b), rfl, _, rfl, ?_⟩
      refine iteDec (fun c1 => ?_) (fun c1 => iteF (nx _))
      refine ⟨_, rfl, _, rfl, _, _, _, _, rfl, rfl, sl, at_of rfl hy, _, _, _, _, rfl, rfl, tq, at_of (j := 1) rfl (opVs_1 b), _, rfl, rfl, _, rfl, ?_⟩
      refine iteDec (fun c2 => ?_) (fun c2 => nx _)
      obtain ⟨i, ei⟩ := word_rd.mp (strI.mp c1)
      have et : b.tx = o.tx := intI.mp c2
      have o2 : (opVs b)[2]? = some (.str i.s) := opVs_2 (i := i) (by rw [ei]; rfl)
      refine ⟨_, rfl, _, rfl, _, rfl, _, rfl, _, _, _, _, rfl, rfl, sl, at_of rfl hy, _, _, _, _, rfl, rfl, tq, at_of (j := 2) rfl o2, a, j, i, xs, ops, rfl, sl, hO.same s2, by omega, hl, fun H3 x s3 hx3 => ?_⟩
      have s4 := s2.trans s3
      have e4 := s3 _ _ e2
      refine ⟨_, rfl, _, rfl, (by show 2 ≤ sizeLine; decide), fun t ht => ⟨t, _, rfl, .inr (SqT.of upd_same), rfl, rfl, _, rfl, ?_⟩⟩
      have s5 := s4.trans (same_upd (o := .tup [V.int 0, V.int o.tx]) ht)
      have e5 := (same_upd (o := .tup [V.int 0, V.int o.tx]) ht) _ _ e4
      have q1 : inV (V.int x) [V.int 0, V.int o.tx] = decide (x ∈ [0, o.tx]) := inV_int x [0, o.tx]
      show if (!inV (V.int x) [V.int 0, V.int o.tx]) = true then _ else _
      rw [q1]
      refine iteNDec (fun c => ?_) (fun _ => iteF ⟨_, _, rfl, s5, e5⟩)
      have hm : x ∈ endedL ops n "commit" := by
        rcases hx3 with hv | ⟨m, h1, h2, h3⟩
        · exact absurd (hv ▸ List.mem_cons_self) c
        · rcases cl j i hj (by rw [hb, ei, et]) x m h1 h2 h3 with e | e
          · exact absurd (e ▸ List.mem_cons_of_mem _ List.mem_cons_self) c
          · refine mem_ended_cm.mpr (List.mem_of_mem_take (i := j) ?_)
            rw [List.take_take, show min j n = j by omega]
            exact e
      have q2 : inV (V.int x) ((endedL ops n "commit").map V.int) = true := by
        rw [inV_int]
        exact decide_eq_true hm
      refine ⟨_, rfl, _, rfl, p, _, rfl, .inl (SqL.of e5), rfl, flat_int _, _, rfl, ?_⟩
      show if (!inV (V.int x) ((endedL ops n "commit").map V.int)) = true then _ else _
      rw [q2]
      exact iteF ⟨_, _, rfl, s5, e5⟩
    · rintro σ H2 ⟨v, u, rfl, s2, e2⟩
      exact k H2 s2
end
end K61
set_option Elab.async false
set_option linter.all false
set_option maxRecDepth 100000
set_option maxHeartbeats 4000000
namespace K61
open PySem PySem.Spec PyProof.Rows L2
section
variable {P : Program} {w : World} {K : PySem.W.Frag} {mg : Str → Option Value} {base : Heap} {f : Addr} {fd : FuncData}
def spFirst (K : PySem.W.Frag) (g : Addr) (sp : Sp) : Sp := fun vs H Q _ => ∃ (a wt : Addr) (xs : List V) (ops : List Op) (ws : List Str), vs = [.ref a, .ref g, .ref wt] ∧ SqL K H a xs ∧ OpsV H xs ops ∧ ops.length ≤ 1000 ∧ SqT K H wt (ws.map V.str) ∧
  (∀ (n : Nat) (o : Op), ops[n]? = some o → o.word ∈ ws → ∀ (H1 : Hp) (Q1 : VK), Same H H1 → (∀ H2, Same H1 H2 → Q1 (.bl false) H2) → sp [.ref a, .int n] H1 Q1 E0) ∧ ∀ H', Same H H' → Q .non H'
theorem seqT {K : PySem.W.Frag} {H H' : Hp} {a : Addr} {xs : List V} (e : Same H H') (h : SqT K H a xs) : SqT K H' a xs := by
  rcases h with (h | ⟨o, h⟩) | h
  · exact .inl (.inl (e _ _ h))
  · exact .inl (.inr ⟨o, e _ _ h⟩)
  · exact .inr h
theorem scFirst : FnScope ["schedule", "test", "words", "place"] ["schedule", "test", "words"] (defScope sFirst) := ⟨rfl, rfl, rfl, by decide +kernel, rfl, by decide +kernel, by decide +kernel⟩
theorem ok_first {g : Addr} {fdg : FuncData} {sp : Sp} (F : FnP K "first_place" "first_place" sFirst f fd) (G : FnOk P w K mg base CX0 3 g fdg ["schedule", "place"] sp) (kG : PySem.W.keepIn K (.ref g) = true) (bG : Binds K fdg ["schedule", "place"] [])
    (mR : mg "range" = none) (mL : mg "len" = none) : FnOk P w K mg base CX0 4 f fd ["schedule", "test", "words"] (spFirst K g sp) := by
  refine F.ok scFirst (fun vs H Q E h => ?_) (fun cdv A outer s H vs Q E hr h => ?_)
  · obtain ⟨a, wt, xs, ops, ws, rfl, _⟩ := h
    rfl
  · obtain ⟨a, wt, xs, ops, ws, rfl, hS, hO, hl, hW, ht, k⟩ := h
    have hxl : xs.length = ops.length := hO.length
    refine ⟨_, PSs.nox (pss_cons (ps_for PassesOwn.never rfl (pi_range1 rfl mR (pa_cons (pe_callB call_len (by rfl) mL PySem.boot_len (pa_cons (pv 0) pa_nil)) pa_nil)) (pg_name (i := 3) scFirst.nd rfl (Or.inl rfl))
        (pss_one (ps_if (PW.pt (pw_and (pt_cmpR op_in_seq (pe_ix (r := rIxT K) ix_tup (pe_ix (r := rIxL K) ix_list (pv 0) (pv 3) (fun _ _ => rfl)) pe_int (fun _ _ => rfl)) (pv 2) (by rfl))
            (pw_and1 (pt_val (pe_callL (i := 1) G hr rfl (Or.inl rfl) kG bG .nil pass0 (pa_cons (pv 0) (pa_cons (pv 3) pa_nil)))))))
          (pss_one (ps_ret (pv 3))) pss_nil)))
      (pss_one (ps_ret pe_non))), ?_⟩
    refine ⟨_, rfl, _, xs.length, rfl, .inl ⟨_, hS, rfl⟩, (xs.length : Int), rfl, by omega, by omega, for_range (n := xs.length) (fun j σ H2 => ∃ v : Option V, σ = [some (.ref a), some (.ref g), some (.ref wt), v] ∧ Same H H2)
      ⟨none, rfl, Same.refl H⟩ ?_ ?_⟩
    · rintro j σ H2 hj ⟨v, rfl, s2⟩
      rw [Int.zero_add]
      obtain ⟨b, hb⟩ : ∃ b, ops[j]? = some b := ⟨_, List.getElem?_eq_getElem (by omega)⟩
      obtain ⟨y, hy, r, rfl, hr2⟩ := pget' hO hb
      refine ⟨_, rfl, _, rfl, _, _, _, _, rfl, rfl, s2.seq hS, at_of rfl hy, _, _, _, _, rfl, rfl, SqT.of (s2 _ _ hr2), at_of (j := 0) rfl (opVs_0 b), _, rfl, wt, _, rfl, .inr (seqT s2 hW), rfl, flat_str _, _, rfl, ?_⟩
      rw [inV_str]
      refine iteDec (fun c1 => ?_) (fun c1 => iteF ⟨_, rfl, s2⟩)
      refine ⟨rfl, _, rfl, _, rfl, ht j b hb c1 H2 _ s2 fun H3 s3 => ⟨_, rfl, ?_⟩⟩
      exact iteF ⟨_, rfl, s2.trans s3⟩
    · rintro σ H2 ⟨v, rfl, s2⟩
      exact k H2 s2
/-- a def of the module, its text -/
def GTx (K : PySem.W.Frag) (mg : Str → Option Value) (x : Str) (st : Stmt) (ps : List Str) : Prop := ∃ f fd, mg x = some (.ref f) ∧ FnP K x x st f fd ∧ Binds K fd ps []
def spBreaks (K : PySem.W.Frag) : Sp := fun vs H Q _ => ∃ (a : Addr) (xs : List V) (ops : List Op) (over : List Int), vs = [.ref a] ∧ SqL K H a xs ∧ OpsV H xs ops ∧ ops.length ≤ 1000 ∧ SchOk ops over ∧
  ∀ H' p, Same H H' → H' p = some (.tup [.non, .non, .non]) → Q (.ref p) H'
theorem SchOk.cl {ops : List Op} {over : List Int} (S : SchOk ops over) {n : Nat} {o : Op} {i : It} (ho : ops[n]? = some o) (hi : o.item? = some i) : Clean ops n o.tx i := fun v k hk hw na => S.clean ho hi hw hk na
theorem scBreaks : FnScope ["schedule", "recoverable", "cascadeless"] ["schedule"] (defScope sBreaks) := ⟨rfl, rfl, rfl, by decide +kernel, rfl, by decide +kernel, by decide +kernel⟩
theorem ok_breaks (F : FnP K "breaks" "breaks" sBreaks f fd) (GF : GTx K mg "first_place" sFirst ["schedule", "test", "words"]) (GD : GFn P w K mg base CX0 3 "is_dirty" ["schedule", "place"] (spDirty K)) (GE : GFn P w K mg base CX0 3 "commits_early" ["schedule", "place"] (spEarly K))
    (mR : mg "range" = none) (mL : mg "len" = none) : FnOk P w K mg base CX0 5 f fd ["schedule"] (spBreaks K) := by
  obtain ⟨fF, fdF, mF, FF, bF⟩ := GF
  obtain ⟨fD, fdD, mD, kD, bD, GD⟩ := GD
  obtain ⟨fE, fdE, mE, kE, bE, GE⟩ := GE
  have FD := ok_first FF GD kD bD mR mL
  have FE := ok_first FF GE kE bE mR mL
  refine F.ok scBreaks (fun vs H Q E h => ?_) (fun cdv A outer s H vs Q E hr h => ?_)
  · obtain ⟨a, xs, ops, ov, rfl, _⟩ := h
    rfl
  · obtain ⟨a, xs, ops, ov, rfl, hS, hO, hl, S, k⟩ := h
    refine ⟨_, PSs.nox (pss_cons (ps_set (i := 1) scBreaks.nd rfl (Or.inl rfl) (pe_call FE hr rfl mF FF.kp bF .nil pass0 (pa_cons (pv 0) (pa_cons (pe_glob (v := V.ref fE) rfl mE rfl) (pa_cons (pe_tup (pa_cons pe_str pa_nil)) pa_nil)))))
      (pss_cons (ps_set (i := 2) scBreaks.nd rfl (Or.inl rfl) (pe_call FD hr rfl mF FF.kp bF .nil pass0 (pa_cons (pv 0) (pa_cons (pe_glob (v := V.ref fD) rfl mD rfl) (pa_cons (pe_tup (pa_cons pe_str pa_nil)) pa_nil)))))
      (pss_one (ps_ret (pe_tup (pa_cons (pv 1) (pa_cons (pv 2) (pa_cons (pe_call FD hr rfl mF FF.kp bF .nil pass0 (pa_cons (pv 0) (pa_cons (pe_glob (v := V.ref fD) rfl mD rfl) (pa_cons (pe_tup (pa_cons pe_str (pa_cons pe_str pa_nil))) pa_nil)))) pa_nil)))))))), ?_⟩
    have dirty : ∀ (n : Nat) (o : Op), ops[n]? = some o → (∃ i, o.item? = some i) → ∀ (H1 : Hp) (Q1 : VK), Same H H1 → (∀ H2, Same H1 H2 → Q1 (.bl false) H2) → spDirty K [.ref a, .int n] H1 Q1 E0 := fun n o ho ⟨i, hi⟩ H1 Q1 s1 k1 =>
      ⟨a, n, xs, ops, o, i, rfl, s1.seq hS, hO.same s1, hl, ho, hi, S.cl ho hi, k1⟩
    refine ⟨_, rfl, (by show 1 ≤ sizeLine; decide), fun t1 h1 => ?_⟩
    have s1 := same_upd (o := .tup [V.str "commit"]) h1
    refine ⟨a, t1, xs, ops, ["commit"], rfl, s1.seq hS, hO.same s1, hl, SqT.of upd_same, fun n o ho hw H1 Q1 s k1 => ?_, fun H1 s2 => ?_⟩
    · refine ⟨a, n, xs, ops, o, rfl, (s1.trans s).seq hS, hO.same (s1.trans s), hl, ho, fun m i hm hb => ?_, k1⟩
      exact S.cl (o := .rd o.tx i) hb rfl
    have s2' := s1.trans s2
    refine ⟨_, rfl, (by show 1 ≤ sizeLine; decide), fun t2 h2 => ?_⟩
    have s3 := s2'.trans (same_upd (o := .tup [V.str "read"]) h2)
    refine ⟨a, t2, xs, ops, ["read"], rfl, s3.seq hS, hO.same s3, hl, SqT.of upd_same, fun n o ho hw H1 Q1 s k1 => ?_, fun H2 s4 => ?_⟩
    · obtain ⟨i, ei⟩ := word_rd.mp (List.mem_singleton.mp hw)
      exact dirty n o ho ⟨i, by rw [ei]; rfl⟩ H1 Q1 (s3.trans s) k1
    have s4' := s3.trans s4
    refine ⟨_, rfl, _, rfl, _, rfl, (by show 2 ≤ sizeLine; decide), fun t3 h3 => ?_⟩
    have s5 := s4'.trans (same_upd (o := .tup [V.str "read", V.str "write"]) h3)
    refine ⟨a, t3, xs, ops, ["read", "write"], rfl, s5.seq hS, hO.same s5, hl, SqT.of upd_same, fun n o ho hw H1 Q1 s k1 => ?_, fun H3 s6 => ?_⟩
    · rcases List.mem_cons.mp hw with hw | hw
      · obtain ⟨i, ei⟩ := word_rd.mp hw
        exact dirty n o ho ⟨i, by rw [ei]; rfl⟩ H1 Q1 (s5.trans s) k1
      · obtain ⟨i, ei⟩ := word_wr.mp (List.mem_singleton.mp hw)
        exact dirty n o ho ⟨i, by rw [ei]; rfl⟩ H1 Q1 (s5.trans s) k1
    refine ⟨(by show 3 ≤ sizeLine; decide), fun p hp => ?_⟩
    exact k _ p ((s5.trans s6).trans (same_upd hp)) upd_same
end
end K61
set_option Elab.async false
set_option linter.all false
set_option maxRecDepth 100000
set_option maxHeartbeats 4000000
namespace K61
open PySem PySem.Spec PyProof.Rows L2
section
variable {P : Program} {w : World} {K : PySem.W.Frag} {mg : Str → Option Value} {base : Heap} {f : Addr} {fd : FuncData}
def abL (ops : List Op) : List Int := (ops.filter fun o => decide (o.word = ("abort" : Str))).map Op.tx
theorem mem_abL {ops : List Op} {t : Int} : t ∈ abL ops ↔ Op.ab t ∈ ops := by
  unfold abL
  rw [List.mem_map]
  constructor
  · rintro ⟨o, h, e⟩
    obtain ⟨h1, h2⟩ := List.mem_filter.mp h
    have e2 := word_ab.mp (of_decide_eq_true h2)
    rw [e] at e2
    rw [← e2]
    exact h1
  · exact fun h => ⟨_, List.mem_filter.mpr ⟨h, decide_eq_true rfl⟩, rfl⟩
def spNoAb (K : PySem.W.Frag) : Sp := fun vs H Q _ => ∃ (a : Addr) (xs : List V) (ops : List Op), vs = [.ref a] ∧ SqL K H a xs ∧ OpsV H xs ops ∧ ops.length ≤ 1000 ∧
  ∀ H' p ys, Same H H' → H' p = some (.lst ys) → OpsV H' ys (kept ops) → Q (.ref p) H'
theorem scNoAb : FnScope ["schedule", "aborted", "operation"] ["schedule"] (defScope sNoAb) := ⟨rfl, rfl, rfl, by decide +kernel, rfl, by decide +kernel, by decide +kernel⟩
theorem map_snoc {α β : Type} (g : α → β) (l : List α) (a : α) : (l ++ [a]).map g = l.map g ++ [g a] := by rw [List.map_append] <;> rfl
theorem ok_noab (F : FnP K "without_aborted" "without_aborted" sNoAb f fd) : FnOk P w K mg base CX0 1 f fd ["schedule"] (spNoAb K) := by
  refine F.ok scNoAb (fun vs H Q E h => ?_) (fun cdv A outer s H vs Q E hr h => ?_)
  · obtain ⟨a, xs, ops, rfl, _⟩ := h
    rfl
  · obtain ⟨a, xs, ops, rfl, hS, hO, hl, k⟩ := h
    refine ⟨_, PSs.nox (pss_cons (ps_asg (pe_lc (own := [("operation", 2)]) (g := gName 2) (by rfl) scNoAb.nd (pi_list (pv 0))
        (blkOk_by (own := [("operation", 2)]) (N := ["schedule", "aborted", "operation"]) (sc := defScope sNoAb) (by decide +kernel))
        (fun _ _ _ _ _ => pg_name (i := 2) scNoAb.nd rfl (Or.inl rfl)) (fun _ _ _ _ _ => pts_one (pt_cmpR op_eq (pe_ix (r := rIxT K) ix_tup (pv 2) pe_int (fun _ _ => rfl)) pe_str (nomark _)))
        (fun _ _ _ _ _ => pe_ix (r := rIxT K) ix_tup (pv 2) pe_int (fun _ _ => rfl))) (pg_name (i := 1) scNoAb.nd rfl (Or.inr rfl)))
      (pss_one (ps_ret (pe_lc (own := [("operation", 2)]) (g := gName 2) (by rfl) scNoAb.nd (pi_list (pv 0))
        (blkOk_by (own := [("operation", 2)]) (N := ["schedule", "aborted", "operation"]) (sc := defScope sNoAb) (by decide +kernel))
        (fun _ _ _ _ _ => pg_name (i := 2) scNoAb.nd rfl (Or.inl rfl)) (fun _ _ _ _ _ => pts_one (pt_cmpR (r := rIn K true) op_notIn_seq (pe_ix (r := rIxT K) ix_tup (pv 2) pe_int (fun _ _ => rfl)) (pv 1) (by rfl)))
        (fun _ _ _ _ _ => pv 2))))), ?_⟩
    refine ⟨_, rfl, a, rfl, ⟨_, hS⟩, fun D hD => ?_⟩
    refine lc_list (K := K) (a := a) (xs := xs) (fun i H2 => Same H H2 ∧ H2 D = some (.lst ((abL (ops.take i)).map V.int))) ⟨same_upd hD, upd_same⟩ (fun i H2 _ h => h.1.seq hS) ?_ ?_
    · rintro i v H2 hi ⟨s2, e3⟩
      obtain ⟨o, ho, q, rfl, hq⟩ := pget hO hi
      refine ⟨rfl, _, rfl, _, _, _, _, rfl, rfl, SqT.of (s2 _ _ hq), at_of (j := 0) rfl (opVs_0 o), rfl, _, rfl, ?_⟩
      have ln : ((abL (ops.take i)).map V.int).length ≤ ops.length := by
        unfold abL
        rw [List.length_map, List.length_map]
        refine Nat.le_trans (List.length_filter_le _ _) ?_
        rw [List.length_take]
        omega
      refine iteDec (fun e => ?_) (fun e => ?_)
      · refine ⟨_, rfl, _, _, _, _, rfl, rfl, SqT.of (s2 _ _ hq), at_of (j := 1) rfl (opVs_1 o), _, e3, lt_line (by omega), same_put s2 hD, ?_⟩
        rw [upd_same, take_more ho]
        unfold abL
        rw [filter_snoc, if_pos (decide_eq_true (strI.mp e)), map_snoc, map_snoc]
      · refine ⟨s2, ?_⟩
        rw [e3, take_more ho]
        unfold abL
        rw [filter_snoc, if_neg (by rw [decide_eq_false fun z => e (strI.mpr z)]; decide)]
    · rintro H2 ⟨s2, e3⟩
      rw [hO.length, List.take_length] at e3
      refine ⟨_, rfl, a, rfl, ⟨_, s2.seq hS⟩, fun D2 hD2 => ?_⟩
      have hD0 : H D2 = none := s2.free hD2
      have nDD : D ≠ D2 := ne_of_none e3 hD2
      refine lc_list (K := K) (a := a) (xs := xs) (fun i H3 => ∃ ys, Same H H3 ∧ H3 D = some (.lst ((abL ops).map V.int)) ∧ H3 D2 = some (.lst ys) ∧ OpsV H3 ys ((ops.take i).filter fun o => decide (Op.ab o.tx ∉ ops)))
        ⟨[], same_put s2 hD0, by rw [upd_ne nDD]; exact e3, upd_same, .nil⟩ (fun i H3 _ h => by obtain ⟨ys, s3, _⟩ := h; exact s3.seq hS) ?_ ?_
      · rintro i v H3 hi ⟨ys, s3, e4, e5, hY⟩
        obtain ⟨o, ho, q, rfl, hq⟩ := pget hO hi
        refine ⟨rfl, _, rfl, _, _, _, _, rfl, rfl, SqT.of (s3 _ _ hq), at_of (j := 1) rfl (opVs_1 o), _, rfl, D, _, rfl, .inl (SqL.of e4), rfl, flat_int _, _, rfl, ?_⟩
        rw [inV_int]
        refine iteNDec (fun e => ?_) (fun e => ?_)
        · have lY : ys.length ≤ ops.length := by
            rw [hY.length]
            refine Nat.le_trans (List.length_filter_le _ _) ?_
            rw [List.length_take]
            omega
          refine ⟨_, rfl, _, e5, lt_line (by omega), ys ++ [.ref q], same_put s3 hD0, ?_, upd_same, ?_⟩
          · rw [upd_ne nDD]
            exact e4
          · have e' : Op.ab o.tx ∉ ops := fun z => e (mem_abL.mpr z)
            rw [take_more ho, filter_snoc, if_pos (decide_eq_true e')]
            have cv : ∀ (v : V) (o : Op), OpV H3 v o → OpV (upd H3 D2 (.lst (ys ++ [.ref q]))) v o := fun v o ⟨b, e, hb⟩ => ⟨b, e, by rw [upd_ne (ne_of hb e5 (by intro z; cases z))]; exact hb⟩
            exact Paired.snoc (Paired.mono cv hY) (cv _ _ ⟨q, rfl, s3 _ _ hq⟩)
        · refine ⟨ys, s3, e4, e5, ?_⟩
          rw [take_more ho, filter_snoc, if_neg (by rw [decide_eq_false fun z => z (mem_abL.mp e)]; decide)]
          exact hY
      · rintro H3 ⟨ys, s3, e4, e5, hY⟩
        rw [hO.length, List.take_length] at hY
        exact k H3 D2 ys s3 e5 hY
/-- do_conflict -/
def spConf (K : PySem.W.Frag) : Sp := fun vs H Q _ => ∃ (a b : Addr) (o u : Op), vs = [.ref a, .ref b] ∧ H a = some (.tup (opVs o)) ∧ H b = some (.tup (opVs u)) ∧
  ∀ H' c, Same H H' → (c = true → conf o u) → Q (.bl c) H'
theorem scConf : FnScope ["first", "second"] ["first", "second"] (defScope sConf) := ⟨rfl, rfl, rfl, by decide +kernel, rfl, by decide +kernel, by decide +kernel⟩
theorem opVs_short {o : Op} : (opVs o).length = if o.item?.isSome = true then 3 else 2 := by cases o <;> rfl
theorem ok_conf (F : FnP K "do_conflict" "do_conflict" sConf f fd) (mL : mg "len" = none) : FnOk P w K mg base CX0 1 f fd ["first", "second"] (spConf K) := by
  refine F.ok scConf (fun vs H Q E h => ?_) (fun cdv A outer s H vs Q E hr h => ?_)
  · obtain ⟨a, b, o, u, rfl, _⟩ := h
    rfl
  · obtain ⟨a, b, o, u, rfl, ha, hb, k⟩ := h
    have ta := SqT.of (K := K) ha
    have tb := SqT.of (K := K) hb
    refine ⟨_, PSs.nox (pss_cons (ps_if (PW.pt (pw_or (pt_cmpR op_lt (pe_callB call_len (by rfl) mL PySem.boot_len (pa_cons (pv 0) pa_nil)) pe_int (nomark _))
        (pw_or (pt_cmpR op_lt (pe_callB call_len (by rfl) mL PySem.boot_len (pa_cons (pv 1) pa_nil)) pe_int (nomark _))
        (pw_or (pt_cmpR op_eq (pe_ix (r := rIxT K) ix_tup (pv 0) pe_int (fun _ _ => rfl)) (pe_ix (r := rIxT K) ix_tup (pv 1) pe_int (fun _ _ => rfl)) (nomark _))
        (pw_or1 (pt_cmpR op_ne (pe_ix (r := rIxT K) ix_tup (pv 0) pe_int (fun _ _ => rfl)) (pe_ix (r := rIxT K) ix_tup (pv 1) pe_int (fun _ _ => rfl)) (nomark _))))))) (pss_one (ps_ret pe_bl)) pss_nil)
      (pss_one (ps_ret (pe_cmpR op_in_seq pe_str (pe_tup (pa_cons (pe_ix (r := rIxT K) ix_tup (pv 0) pe_int (fun _ _ => rfl)) (pa_cons (pe_ix (r := rIxT K) ix_tup (pv 1) pe_int (fun _ _ => rfl)) pa_nil))) (by rfl))))), ?_⟩
    refine ⟨_, rfl, _, _, rfl, .inr ⟨_, ta, rfl⟩, _, _, rfl, rfl, _, rfl, ?_⟩
    have no : ∀ c, c = false → (c = true → conf o u) := fun c e z => by rw [e] at z; cases z
    refine iteDec (fun _ => iteT (k H false (Same.refl H) (no _ rfl))) (fun c1 => ?_)
    refine ⟨_, rfl, _, _, rfl, .inr ⟨_, tb, rfl⟩, _, _, rfl, rfl, _, rfl, ?_⟩
    refine iteDec (fun _ => iteT (k H false (Same.refl H) (no _ rfl))) (fun c2 => ?_)
    refine ⟨_, rfl, _, _, _, _, rfl, rfl, ta, at_of (j := 1) rfl (opVs_1 o), _, rfl, _, _, _, _, rfl, rfl, tb, at_of (j := 1) rfl (opVs_1 u), rfl, _, rfl, ?_⟩
    refine iteDec (fun _ => iteT (k H false (Same.refl H) (no _ rfl))) (fun c3 => ?_)
    obtain ⟨i, hi⟩ : ∃ i, o.item? = some i := by
      rw [opVs_short] at c1
      cases e : o.item? with
      | some i => exact ⟨i, rfl⟩
      | none => rw [e] at c1; exact absurd (by decide) c1
    obtain ⟨j, hj⟩ : ∃ i, u.item? = some i := by
      rw [opVs_short] at c2
      cases e : u.item? with
      | some i => exact ⟨i, rfl⟩
      | none => rw [e] at c2; exact absurd (by decide) c2
    refine ⟨_, rfl, _, _, _, _, rfl, rfl, ta, at_of (j := 2) rfl (opVs_2 hi), _, rfl, _, _, _, _, rfl, rfl, tb, at_of (j := 2) rfl (opVs_2 hj), rfl, _, rfl, ?_⟩
    refine iteNDec (fun _ => k H false (Same.refl H) (no _ rfl)) (fun c4 => ?_)
    refine ⟨_, rfl, _, _, _, _, rfl, rfl, ta, at_of (j := 0) rfl (opVs_0 o), _, rfl, _, _, _, _, rfl, rfl, tb, at_of (j := 0) rfl (opVs_0 u), (by show 2 ≤ sizeLine; decide), fun t ht => ?_⟩
    refine ⟨t, _, rfl, .inr (SqT.of upd_same), rfl, rfl, k _ _ (same_upd ht) fun z => ?_⟩
    have q1 : inV (V.str "write") [V.str o.word, V.str u.word] = decide (("write" : Str) ∈ [o.word, u.word]) := inV_str "write" [o.word, u.word]
    have z : inV (V.str "write") [V.str o.word, V.str u.word] = true := z
    rw [q1] at z
    have z := of_decide_eq_true z
    refine ⟨fun e => c3 (intI.mpr e), i, hi, ?_, ?_⟩
    · rw [hj, it_inj (strI.mp c4)]
    · rcases List.mem_cons.mp z with z | z
      · obtain ⟨x, e⟩ := word_wr.mp z.symm
        left
        rw [e]
        rfl
      · obtain ⟨x, e⟩ := word_wr.mp (List.mem_singleton.mp z).symm
        right
        rw [e]
        rfl
end
end K61
set_option Elab.async false
set_option linter.all false
set_option maxRecDepth 100000
set_option maxHeartbeats 4000000
namespace K61
open PySem PySem.Spec PyProof.Rows L2
/-- a pair of transactions in a relation -/
def PrV (R : Int → Int → Prop) (H : Hp) (v : V) : Prop := ∃ q t u, v = .ref q ∧ H q = some (.tup [.int t, .int u]) ∧ R t u
theorem PrV.same {R : Int → Int → Prop} {H H' : Hp} {v : V} (h : PrV R H v) (s : Same H H') : PrV R H' v := by
  obtain ⟨q, t, u, e, hq, r⟩ := h
  exact ⟨q, t, u, e, s _ _ hq, r⟩
theorem PrV.put {R : Int → Int → Prop} {H : Hp} {v : V} {D : Addr} {l : List V} {o : HO} (h : PrV R H v) (hD : H D = some (.lst l)) : PrV R (upd H D o) v := by
  obtain ⟨q, t, u, e, hq, r⟩ := h
  exact ⟨q, t, u, e, by rw [upd_ne (ne_of hq hD (by intro z; cases z))]; exact hq, r⟩
def prD (p : Int × Int) : PyData := .tuple [.int p.1, .int p.2]
theorem prs_shaped : ∀ ps : List (Int × Int), PyData.canLayAll0 (ps.map prD) = true ∧ PyData.depthAll (ps.map prD) ≤ 1
  | [] => ⟨rfl, by decide⟩
  | p :: ps => by
    obtain ⟨h1, h2⟩ := prs_shaped ps
    refine ⟨?_, ?_⟩
    · simp only [List.map_cons, PyData.canLayAll0, h1, Bool.and_true]
      rfl
    · simp only [List.map_cons, PyData.depthAll]
      have : (prD p).depth ≤ 1 := by simp [prD, PyData.depth, PyData.depthAll]
      omega
theorem prs_data {K : PySem.W.Frag} {R : Int → Int → Prop} {H : Hp} : ∀ {ys : List V}, (∀ y ∈ ys, PrV R H y) → ∃ ps : List (Int × Int), DpAll K H ys (ps.map prD) ∧ ∀ p ∈ ps, R p.1 p.2
  | [], _ => ⟨[], .nil, fun _ h => by cases h⟩
  | y :: ys, h => by
    obtain ⟨ps, h1, h2⟩ := prs_data (K := K) (fun z hz => h z (List.mem_cons_of_mem _ hz))
    obtain ⟨q, t, u, rfl, hq, r⟩ := h y List.mem_cons_self
    refine ⟨(t, u) :: ps, .cons (.tup (SqT.of hq) (.cons (.int t) (.cons (.int u) .nil))) h1, fun p hp => ?_⟩
    rcases List.mem_cons.mp hp with e | hp
    · rw [e]
      exact r
    · exact h2 p hp
theorem prs_list (ps : List (Int × Int)) : SeqAt.shaped (.list (ps.map prD)) = true := by
  obtain ⟨h1, h2⟩ := prs_shaped ps
  unfold SeqAt.shaped
  rw [Bool.and_eq_true]
  refine ⟨?_, decide_eq_true ?_⟩
  · simpa [PyData.canLay0] using h1
  · simp only [PyData.depth]
    omega
theorem pr_one (t u : Int) : SeqAt.shaped (prD (t, u)) = true := rfl
theorem pr_any {ps : List (Int × Int)} {t u : Int} (h : (ps.map prD).any (fun z => PyData.eqv z (prD (t, u))) = true) : (t, u) ∈ ps := by
  rw [List.any_map] at h
  obtain ⟨p, hp, e⟩ := List.any_eq_true.mp h
  have e : PyData.eqv (prD p) (prD (t, u)) = true := e
  simp only [prD, PyData.eqv, PyData.eqvAll, Bool.and_true, Bool.and_eq_true, beq_iff_eq] at e
  have : p = (t, u) := Prod.ext e.1 e.2
  rw [← this]
  exact hp
/-- the pair at an address -/
def prK (H : Hp) : V → Int × Int
  | .ref q => match H q with
    | some (.tup [.int t, .int u]) => (t, u)
    | _ => (0, 0)
  | _ => (0, 0)
theorem prK_at {R : Int → Int → Prop} {H : Hp} {v : V} (h : PrV R H v) : ∃ t, v = V.ref t ∧ H t = some (.tup [.int (prK H v).1, .int (prK H v).2]) := by
  obtain ⟨q, t, u, rfl, hq, _⟩ := h
  refine ⟨q, rfl, ?_⟩
  have e : prK H (.ref q) = (t, u) := by
    simp only [prK, hq]
  rw [e]
  exact hq
section
variable {P : Program} {w : World} {K : PySem.W.Frag} {mg : Str → Option Value} {base : Heap} {f : Addr} {fd : FuncData}
def spGraph (K : PySem.W.Frag) (R : Int → Int → Prop) : Sp := fun vs H Q _ => ∃ (a : Addr) (xs : List V) (ops : List Op), vs = [.ref a] ∧ SqL K H a xs ∧ OpsV H xs ops ∧ ops.length ≤ 900 ∧
  (∀ (k j : Nat) (o u : Op), k < j → (kept ops)[k]? = some o → (kept ops)[j]? = some u → conf o u → R o.tx u.tx) ∧
  ∀ H' p ys, Same H H' → H' p = some (.lst ys) → (∀ y ∈ ys, PrV R H' y) → Q (.ref p) H'
theorem scGraph : FnScope ["schedule", "kept", "pairs", "j", "i", "pair"] ["schedule"] (defScope sGraph) := ⟨rfl, rfl, rfl, by decide +kernel, rfl, by decide +kernel, by decide +kernel⟩
theorem ok_graph {R : Int → Int → Prop} (F : FnP K "conflict_graph" "conflict_graph" sGraph f fd) (GN : GFn P w K mg base CX0 1 "without_aborted" ["schedule"] (spNoAb K)) (GC : GFn P w K mg base CX0 1 "do_conflict" ["first", "second"] (spConf K))
    (mR : mg "range" = none) (mL : mg "len" = none) (mS : mg "sorted" = none) : FnOk P w K mg base CX0 2 f fd ["schedule"] (spGraph K R) := by
  obtain ⟨fN, fdN, mN, kN, bN, GN⟩ := GN
  obtain ⟨fC, fdC, mC, kC, bC, GC⟩ := GC
  refine F.ok scGraph (fun vs H Q E h => ?_) (fun cdv A outer s H vs Q E hr h => ?_)
  · obtain ⟨a, xs, ops, rfl, _⟩ := h
    rfl
  · obtain ⟨a, xs, ops, rfl, hS, hO, hl, hR, k⟩ := h
    have hu : A.units + 3 + 65 < cLine := by
      have := hr.un
      have e : (A.deeper (envOfC "conflict_graph" (defScope sGraph) s.heap.objs.size f cdv)).units = A.units + 3 := rfl
      omega
    refine ⟨_, PSs.nox (pss_cons (ps_set (i := 1) scGraph.nd rfl (Or.inl rfl) (pe_call GN hr rfl mN kN bN .nil pass0 (pa_cons (pv 0) pa_nil)))
      (pss_cons (ps_set (i := 2) scGraph.nd rfl (Or.inl rfl) (pe_lst pa_nil))
      (pss_cons (ps_for PassesOwn.never rfl (pi_range1 rfl mR (pa_cons (pe_callB call_len (by rfl) mL PySem.boot_len (pa_cons (pv 1) pa_nil)) pa_nil)) (pg_name (i := 3) scGraph.nd rfl (Or.inl rfl))
        (pss_one (ps_for PassesOwn.never rfl (pi_range1 rfl mR (pa_cons (pv 3) pa_nil)) (pg_name (i := 4) scGraph.nd rfl (Or.inl rfl))
          (pss_cons (ps_set (i := 5) scGraph.nd rfl (Or.inl rfl) (pe_tup (pa_cons (pe_ix (r := rIxT K) ix_tup (pe_ix (r := rIxL K) ix_list (pv 1) (pv 4) (fun _ _ => rfl)) pe_int (fun _ _ => rfl)) (pa_cons (pe_ix (r := rIxT K) ix_tup (pe_ix (r := rIxL K) ix_list (pv 1) (pv 3) (fun _ _ => rfl)) pe_int (fun _ _ => rfl)) pa_nil))))
          (pss_one (ps_if (PW.pt (pw_and (pt_val (pe_call GC hr rfl mC kC bC .nil pass0 (pa_cons (pe_ix (r := rIxL K) ix_list (pv 1) (pv 4) (fun _ _ => rfl)) (pa_cons (pe_ix (r := rIxL K) ix_list (pv 1) (pv 3) (fun _ _ => rfl)) pa_nil))))
              (pw_and1 (pt_cmpR (op_notInD (by exact hu)) (pv 5) (pv 2) (by rfl)))))
            (pss_one (ps_expr (pe_bm PySem.F.plainAttrs_list PySem.F.slot_list_append PySem.F.type_list_append mt_append (pv 2) (pa_cons (pv 5) pa_nil)))) pss_nil))))))
      (pss_one (ps_ret (pe_callB cr_sortedPO (by rfl) mS (by decide +kernel) (pa_cons (pv 2) pa_nil))))))), ?_⟩
    refine ⟨_, rfl, a, xs, ops, rfl, hS, hO, by omega, fun H1 p ks s1 e1 hK => ?_⟩
    refine ⟨Nat.zero_le _, fun P hP => ?_⟩
    have nP : H P = none := s1.free hP
    have hkl : ks.length = (kept ops).length := hK.length
    have hk9 : (kept ops).length ≤ 900 := Nat.le_trans (List.length_filter_le _ _) hl
    -- what stands through both loops
    have keep : ∀ (H2 : Hp), Same H1 H2 → Same H H2 := fun H2 s => s1.trans s
    refine ⟨_, rfl, _, ks.length, rfl, .inl ⟨_, SqL.of ((same_upd hP) _ _ e1), rfl⟩, (ks.length : Int), rfl, by omega, by omega,
      for_range (n := ks.length) (fun j σ H2 => ∃ (u v z : Option V) (ys : List V), σ = [some (.ref a), some (.ref p), some (.ref P), u, v, z] ∧ Same H1 H2 ∧ H2 P = some (.lst ys) ∧ ys.length ≤ j * 1000 ∧ ∀ y ∈ ys, PrV R H2 y)
      ⟨none, none, none, [], rfl, same_upd hP, upd_same, Nat.zero_le _, fun y h => by cases h⟩ ?_ ?_⟩
    · rintro j σ H2 hj ⟨u, v, z, ys, rfl, s2, e2, l2, p2⟩
      rw [Int.zero_add]
      obtain ⟨b, hb⟩ : ∃ b, (kept ops)[j]? = some b := ⟨_, List.getElem?_eq_getElem (by omega)⟩
      obtain ⟨y, hy, r, rfl, hr2⟩ := pget' hK hb
      refine ⟨_, rfl, (j : Int), rfl, by omega, by omega, for_range (n := j) (fun i σ H3 => ∃ (v z : Option V) (ys : List V), σ = [some (.ref a), some (.ref p), some (.ref P), some (.int j), v, z] ∧ Same H1 H3 ∧ H3 P = some (.lst ys) ∧ ys.length ≤ j * 1000 + i ∧ ∀ y ∈ ys, PrV R H3 y)
        ⟨v, z, ys, rfl, s2, e2, l2, p2⟩ ?_ ?_⟩
      · rintro i σ H3 hi ⟨v3, z3, ys3, rfl, s3, e3, l3, p3⟩
        rw [Int.zero_add]
        obtain ⟨c, hc⟩ : ∃ b, (kept ops)[i]? = some b := ⟨_, List.getElem?_eq_getElem (by omega)⟩
        obtain ⟨yc, hyc, rc, rfl, hrc⟩ := pget' hK hc
        have lk := SqL.of (K := K) (s3 _ _ e1)
        refine ⟨_, rfl, _, rfl, _, _, _, _, rfl, rfl, lk, at_of rfl hyc, _, _, _, _, rfl, rfl, SqT.of (s3 _ _ hrc), at_of (j := 1) rfl (opVs_1 c), _, rfl, _, rfl, _, _, _, _, rfl, rfl, lk, at_of rfl hy, _, _, _, _, rfl, rfl, SqT.of (s3 _ _ hr2), at_of (j := 1) rfl (opVs_1 b), (by show 2 ≤ sizeLine; decide), fun T hT => ?_⟩
        have sT := same_upd (o := .tup [V.int c.tx, V.int b.tx]) hT
        have s4 := s3.trans sT
        have lk4 := SqL.of (K := K) (s4 _ _ e1)
        refine ⟨_, rfl, _, rfl, _, _, _, _, rfl, rfl, lk4, at_of rfl hyc, _, rfl, _, rfl, _, _, _, _, rfl, rfl, lk4, at_of rfl hy, rc, r, c, b, rfl, s4 _ _ hrc, s4 _ _ hr2, fun H5 cf s5 hcf => ⟨cf, rfl, ?_⟩⟩
        have s6 := s4.trans s5
        have e6 : H5 P = some (.lst ys3) := s5 _ _ (sT _ _ e3)
        have p6 : ∀ y ∈ ys3, PrV R H5 y := fun y h => (p3 y h).same (sT.trans s5)
        have eT : H5 T = some (.tup [.int c.tx, .int b.tx]) := s5 _ _ upd_same
        have stay : ∃ (v z : Option V) (ys : List V), [some (V.ref a), some (.ref p), some (.ref P), some (.int j), some (.int i), some (.ref T)] = [some (.ref a), some (.ref p), some (.ref P), some (.int j), v, z] ∧ Same H1 H5 ∧ H5 P = some (.lst ys) ∧ ys.length ≤ j * 1000 + (i + 1) ∧ ∀ y ∈ ys, PrV R H5 y := ⟨_, _, ys3, rfl, s6, e6, by omega, p6⟩
        refine iteB (fun hc1 => ?_) (fun _ => iteF stay)
        obtain ⟨ps, hd, _⟩ := prs_data (K := K) p6
        refine ⟨_, rfl, _, rfl, prD (c.tx, b.tx), ps.map prD, .tup (SqT.of eT) (.cons (.int _) (.cons (.int _) .nil)), .lst (SqL.of e6) hd, pr_one _ _, prs_list ps, _, rfl, ?_⟩
        refine iteB (fun _ => ?_) (fun _ => stay)
        refine ⟨_, rfl, .inl ⟨rfl, _, SqL.of e6⟩, _, rfl, P, _, _, rfl, rfl, e6, lt_line ?_, ?_⟩
        · have : j * 1000 ≤ 900 * 1000 := Nat.mul_le_mul_right _ (by omega)
          omega
        refine ⟨_, _, ys3 ++ [.ref T], rfl, ?_, upd_same, ?_, fun y h => ?_⟩
        · exact same_put s6 hP
        · rw [List.length_append, List.length_singleton]
          omega
        · rcases List.mem_append.mp h with h | h
          · exact (p6 y h).put e6
          · rw [List.mem_singleton.mp h]
            exact PrV.put ⟨T, _, _, rfl, eT, hR i j c b hi hc hb (hcf hc1)⟩ e6
      · rintro σ H3 ⟨v3, z3, ys3, rfl, s3, e3, l3, p3⟩
        refine ⟨_, _, _, ys3, rfl, s3, e3, ?_, p3⟩
        have : (j + 1) * 1000 = j * 1000 + 1000 := by rw [Nat.add_mul]
        omega
    · rintro σ H2 ⟨u, v, z, ys, rfl, s2, e2, l2, p2⟩
      refine ⟨_, rfl, P, ys, prK H2, rfl, SqL.of e2, fun x hx => prK_at (p2 x hx), fun zs p' _ hb hp' => ?_⟩
      refine k _ p' zs (s1.trans (s2.trans (same_upd hp'))) upd_same fun y hy => ?_
      exact (p2 y (hb.perm.mem_iff.mp hy)).same (same_upd hp')
end
end K61
set_option Elab.async false
set_option linter.all false
set_option maxRecDepth 100000
set_option maxHeartbeats 4000000
namespace K61
open PySem PySem.Spec PyProof.Rows L2
section
variable {P : Program} {w : World} {K : PySem.W.Frag} {mg : Str → Option Value} {base : Heap} {f : Addr} {fd : FuncData}
/-- no ring: a row that climbs in ρ is not closed -/
def spClos (K : PySem.W.Frag) (R : Int → Int → Prop) (ρ : Int → Nat) (d : Nat) : Sp := fun vs H Q _ => ∃ (a b : Addr) (n : Nat) (ys : List V) (x0 l : Int) (ini : List Int), vs = [.ref a, .ref b, .int n] ∧ SqL K H a ys ∧ (∀ y ∈ ys, PrV R H y) ∧
  H b = some (.lst ((ini ++ [l]).map V.int)) ∧ (ini ++ [l])[0]? = some x0 ∧ ρ x0 ≤ ρ l ∧ ini.length + 1 ≤ n ∧ n ≤ ini.length + 1 + d ∧ n ≤ 100 ∧ ∀ H', Same H H' → Q .non H'
theorem scClos : FnScope ["pairs", "row", "size", "first", "second", "found"] ["pairs", "row", "size"] (defScope sClos) := ⟨rfl, rfl, rfl, by decide +kernel, rfl, by decide +kernel, by decide +kernel⟩
theorem at_last {xs : List Int} {l : Int} : atI ((xs ++ [l]).map V.int) (-1) = some (V.int l) := by
  rw [map_snoc]
  exact atI_last _ _
theorem at_zero {xs : List Int} {x : Int} (h : xs[0]? = some x) : atI (xs.map V.int) 0 = some (V.int x) := at_of (j := 0) rfl (by rw [List.getElem?_map, h]; rfl)
theorem ok_clos {R : Int → Int → Prop} {ρ : Int → Nat} (hρ : ∀ t u, R t u → ρ t < ρ u) (F : FnP K "closing" "closing" sClos f fd) (mC : mg "closing" = some (.ref f)) (bC : Binds K fd ["pairs", "row", "size"] []) (mL : mg "len" = none) :
    ∀ d, FnOk P w K mg base CX0 (d + 1) f fd ["pairs", "row", "size"] (spClos K R ρ d) := by
  intro d
  induction d with
  | zero =>
    refine F.ok scClos (fun vs H Q E h => ?_) (fun cdv A outer s H vs Q E hr h => ?_)
    · obtain ⟨a, b, n, ys, x0, l, ini, rfl, _⟩ := h
      rfl
    · obtain ⟨a, b, n, ys, x0, l, ini, rfl, hS, hP, hb, h0, hx, h1, h2, h3, k⟩ := h
      have hu : A.units + 3 + 65 < cLine := by
        have := hr.un
        have e : (A.deeper (envOfC "closing" (defScope sClos) s.heap.objs.size f cdv)).units = A.units + 3 := rfl
        omega
      refine ⟨_, PSs.nox (pss_cons (ps_if (pt_cmpR op_eq (pe_callB call_len (by rfl) mL PySem.boot_len (pa_cons (pv 1) pa_nil)) (pv 2) (nomark _))
          (pss_one (ps_ret (pe_ifExp (pt_cmpR (op_inD (by exact hu)) (pe_tup (pa_cons (pe_ix (r := rIxL K) ix_list (pv 1) (pe_un un_neg pe_int) (fun _ _ => rfl)) (pa_cons (pe_ix (r := rIxL K) ix_list (pv 1) pe_int (fun _ _ => rfl)) pa_nil))) (pv 0) (by rfl)) (pv 1) pe_non))) pss_nil)
        pss_never), ?_⟩
      refine ⟨_, rfl, _, _, rfl, .inl ⟨_, SqL.of hb, rfl⟩, _, rfl, rfl, _, rfl, ?_⟩
      refine iteDec (fun _ => ?_) (fun c => absurd ?_ c)
      · refine ⟨_, rfl, _, rfl, _, _, _, _, rfl, rfl, SqL.of hb, at_last, _, rfl, _, _, _, _, rfl, rfl, SqL.of hb, at_zero h0, (by show 2 ≤ sizeLine; decide), fun T hT => ?_⟩
        have sT := same_upd (o := .tup [V.int l, V.int x0]) hT
        obtain ⟨ps, hd, hR⟩ := prs_data (K := K) fun y hy => (hP y hy).same sT
        refine ⟨_, rfl, prD (l, x0), ps.map prD, .tup (SqT.of upd_same) (.cons (.int _) (.cons (.int _) .nil)), .lst (sT.seq hS) hd, pr_one _ _, prs_list ps, _, rfl, ?_⟩
        have no : ((ps.map prD).any fun z => PyData.eqv z (prD (l, x0))) = false := by
          cases e : ((ps.map prD).any fun z => PyData.eqv z (prD (l, x0))) with
          | false => rfl
          | true =>
            have := hρ _ _ (hR _ (pr_any e))
            have : ρ l < ρ x0 := this
            omega
        rw [no]
        exact iteF (k _ sT)
      · rw [intI, List.length_map, List.length_append, List.length_singleton]
        omega
  | succ d ih =>
    refine F.ok scClos (fun vs H Q E h => ?_) (fun cdv A outer s H vs Q E hr h => ?_)
    · obtain ⟨a, b, n, ys, x0, l, ini, rfl, _⟩ := h
      rfl
    · obtain ⟨a, b, n, ys, x0, l, ini, rfl, hS, hP, hb, h0, hx, h1, h2, h3, k⟩ := h
      have hu : A.units + 3 + 65 < cLine := by
        have := hr.un
        have e : (A.deeper (envOfC "closing" (defScope sClos) s.heap.objs.size f cdv)).units = A.units + 3 := rfl
        omega
      refine ⟨_, PSs.nox (pss_cons (ps_if (pt_cmpR op_eq (pe_callB call_len (by rfl) mL PySem.boot_len (pa_cons (pv 1) pa_nil)) (pv 2) (nomark _))
          (pss_one (ps_ret (pe_ifExp (pt_cmpR (op_inD (by exact hu)) (pe_tup (pa_cons (pe_ix (r := rIxL K) ix_list (pv 1) (pe_un un_neg pe_int) (fun _ _ => rfl)) (pa_cons (pe_ix (r := rIxL K) ix_list (pv 1) pe_int (fun _ _ => rfl)) pa_nil))) (pv 0) (by rfl)) (pv 1) pe_non))) pss_nil)
        (pss_cons (ps_for PassesOwn.never rfl (pi_list (pv 0)) (pg_tup rfl (pgs_cons (pg_name (i := 3) scClos.nd rfl (Or.inl rfl)) (pgs_cons (pg_name (i := 4) scClos.nd rfl (Or.inl rfl)) pgs_nil)))
          (pss_one (ps_if (PW.pt (pw_and (pt_cmpR op_eq (pv 3) (pe_ix (r := rIxL K) ix_list (pv 1) (pe_un un_neg pe_int) (fun _ _ => rfl)) (nomark _))
              (pw_and (pt_cmpR op_gt (pv 4) (pe_ix (r := rIxL K) ix_list (pv 1) pe_int (fun _ _ => rfl)) (nomark _))
              (pw_and1 (pt_cmpR op_notIn_seq (pv 4) (pv 1) (by rfl))))))
            (pss_cons (ps_set (i := 5) scClos.nd rfl (Or.inl rfl) (pe_call ih hr rfl mC F.kp bC .nil pass0 (pa_cons (pv 0) (pa_cons (pe_op op_cat (pv 1) (pe_lst (pa_cons (pv 4) pa_nil))) (pa_cons (pv 2) pa_nil)))))
            (pss_one (ps_if (pt_cmpR op_notN (pv 5) pe_non (nomark _)) (pss_one (ps_ret (pv 5))) pss_nil))) pss_nil)))
        (pss_one (ps_ret pe_non)))), ?_⟩
      refine ⟨_, rfl, _, _, rfl, .inl ⟨_, SqL.of hb, rfl⟩, _, rfl, rfl, _, rfl, ?_⟩
      refine iteDec (fun _ => ?_) (fun c => ?_)
      · refine ⟨_, rfl, _, rfl, _, _, _, _, rfl, rfl, SqL.of hb, at_last, _, rfl, _, _, _, _, rfl, rfl, SqL.of hb, at_zero h0, (by show 2 ≤ sizeLine; decide), fun T hT => ?_⟩
        have sT := same_upd (o := .tup [V.int l, V.int x0]) hT
        obtain ⟨ps, hd, hR⟩ := prs_data (K := K) fun y hy => (hP y hy).same sT
        refine ⟨_, rfl, prD (l, x0), ps.map prD, .tup (SqT.of upd_same) (.cons (.int _) (.cons (.int _) .nil)), .lst (sT.seq hS) hd, pr_one _ _, prs_list ps, _, rfl, ?_⟩
        have no : ((ps.map prD).any fun z => PyData.eqv z (prD (l, x0))) = false := by
          cases e : ((ps.map prD).any fun z => PyData.eqv z (prD (l, x0))) with
          | false => rfl
          | true =>
            have := hρ _ _ (hR _ (pr_any e))
            have : ρ l < ρ x0 := this
            omega
        rw [no]
        exact iteF (k _ sT)
      · rw [intI, List.length_map, List.length_append, List.length_singleton] at c
        refine ⟨_, rfl, a, rfl, ⟨_, hS⟩, for_list (K := K) (a := a) (xs := ys) (fun i σ H2 => ∃ (u v z : Option V), σ = [some (.ref a), some (.ref b), some (.int n), u, v, z] ∧ Same H H2)
          ⟨none, none, none, rfl, Same.refl H⟩ (fun i σ H2 _ h => by obtain ⟨_, _, _, _, h⟩ := h; exact h.seq hS) ?_ ?_⟩
        · rintro i y σ H2 hi ⟨u, v, z, rfl, s2⟩
          obtain ⟨q, t, x, rfl, hq, hR⟩ := hP y (List.mem_of_getElem? hi)
          have hb2 := s2 _ _ hb
          refine ⟨q, _, rfl, SqT.of (s2 _ _ hq), rfl, _, _, rfl, _, _, rfl, rfl, ?_⟩
          have nx : ∀ z' H', Same H H' → ∃ (u v z : Option V), [some (V.ref a), some (.ref b), some (.int n), some (.int t), some (.int x), z'] = [some (.ref a), some (.ref b), some (.int n), u, v, z] ∧ Same H H' := fun z' H' s => ⟨_, _, _, rfl, s⟩
          refine ⟨_, rfl, _, rfl, _, rfl, _, _, _, _, rfl, rfl, SqL.of hb2, at_last, rfl, _, rfl, ?_⟩
          refine iteDec (fun c1 => ?_) (fun _ => iteF (nx _ _ s2))
          refine ⟨_, rfl, _, rfl, _, _, _, _, rfl, rfl, SqL.of hb2, at_zero h0, _, _, rfl, rfl, _, rfl, ?_⟩
          refine iteDec (fun c2 => ?_) (fun _ => iteF (nx _ _ s2))
          refine ⟨_, rfl, _, rfl, b, _, rfl, .inl (SqL.of hb2), rfl, flat_int _, _, rfl, ?_⟩
          refine iteB (fun c3 => ?_) (fun _ => nx _ _ s2)
          refine ⟨_, rfl, _, rfl, _, rfl, (by show 1 ≤ sizeLine; decide), fun p1 hp1 => ?_⟩
          refine ⟨b, p1, _, _, rfl, rfl, (same_upd hp1) _ _ hb2, upd_same, Nat.le_of_lt (lt_line ?_), fun p2 hp2 => ?_⟩
          · rw [List.length_map, List.length_append]
            simp
            omega
          have e1 : t = l := intI.mp c1
          have sA := (same_upd (o := .lst [V.int x]) hp1).trans (same_upd (o := .lst ((ini ++ [l]).map V.int ++ [V.int x])) hp2)
          have s4 := s2.trans sA
          refine ⟨_, rfl, a, p2, n, ys, x0, x, ini ++ [l], rfl, s4.seq hS, fun y hy => (hP y hy).same s4, ?_, ?_, ?_, ?_, ?_, h3, fun H5 s5 => ⟨_, rfl, rfl, _, rfl, ?_⟩⟩
          · exact upd_same.trans (by rw [map_snoc V.int (ini ++ [l]) x])
          · rw [List.getElem?_append_left (List.getElem?_eq_some_iff.mp h0).1]
            exact h0
          · have := hρ _ _ hR
            rw [e1] at this
            omega
          · rw [List.length_append, List.length_singleton]
            omega
          · rw [List.length_append, List.length_singleton]
            omega
          · exact iteF (nx _ _ (s4.trans s5))
        · rintro σ H2 ⟨u, v, z, rfl, s2⟩
          exact k H2 s2
/-- a list of different numbers between lo and lo + n is no longer than that -/
theorem nodup_le : ∀ (n : Nat) (lo : Int) (l : List Int), l.Nodup → (∀ x ∈ l, lo ≤ x ∧ x < lo + n) → l.length ≤ n
  | 0, lo, l, _, h => by
    cases l with
    | nil => exact Nat.le_refl _
    | cons x r =>
      have := h x List.mem_cons_self
      omega
  | n + 1, lo, l, nd, h => by
    have h1 := nodup_le n lo (l.filter fun x => decide (x ≠ lo + n)) (List.Nodup.sublist List.filter_sublist nd) fun x hx => by
      obtain ⟨h1, h2⟩ := List.mem_filter.mp hx
      have := h x h1
      have := of_decide_eq_true h2
      omega
    have h2 : l.length ≤ (l.filter fun x => decide (x ≠ lo + n)).length + 1 := by
      clear h h1
      induction l with
      | nil => exact Nat.zero_le _
      | cons x r ih =>
        obtain ⟨n1, n2⟩ := List.nodup_cons.mp nd
        by_cases e : x = lo + n
        · rw [List.filter_cons_of_neg (by simpa using e)]
          have e2 : (r.filter fun x => decide (x ≠ lo + n)) = r := List.filter_eq_self.mpr fun y hy => decide_eq_true fun z => n1 (by rw [e, ← z]; exact hy)
          rw [e2]
          exact Nat.le_refl _
        · rw [List.filter_cons_of_pos (by simpa using e), List.length_cons, List.length_cons]
          have := ih n2
          omega
    omega
/-- ring_in of pairs that climb: None -/
def spRing (K : PySem.W.Frag) (R : Int → Int → Prop) : Sp := fun vs H Q _ => ∃ (a : Addr) (ys : List V), vs = [.ref a] ∧ SqL K H a ys ∧ (∀ y ∈ ys, PrV R H y) ∧ ∀ H', Same H H' → Q .non H'
theorem scRing : FnScope ["pairs", "ordered", "starts", "first", "_", "size", "start", "found"] ["pairs"] (defScope sRing) := ⟨rfl, rfl, rfl, by decide +kernel, rfl, by decide +kernel, by decide +kernel⟩
theorem ok_ring {R : Int → Int → Prop} {ρ : Int → Nat} (hρ : ∀ t u, R t u → ρ t < ρ u) (h8 : ∀ t u, R t u → 1 ≤ t ∧ t ≤ 8) (F : FnP K "ring_in" "ring_in" sRing f fd) (GC : GTx K mg "closing" sClos ["pairs", "row", "size"]) (mR : mg "range" = none) (mL : mg "len" = none) (mS : mg "sorted" = none) :
    FnOk P w K mg base CX0 10 f fd ["pairs"] (spRing K R) := by
  obtain ⟨fC, fdC, mC, FC, bC⟩ := GC
  have GC := ok_clos (P := P) (w := w) (base := base) hρ FC mC bC mL 8
  refine F.ok scRing (fun vs H Q E h => ?_) (fun cdv A outer s H vs Q E hr h => ?_)
  · obtain ⟨a, ys, rfl, _⟩ := h
    rfl
  · obtain ⟨a, ys, rfl, hS, hP, k⟩ := h
    refine ⟨_, PSs.nox (pss_cons (ps_set (i := 1) scRing.nd rfl (Or.inl rfl) (pe_callB cr_sortedPO (by rfl) mS (by decide +kernel) (pa_cons (pv 0) pa_nil)))
      (pss_cons (ps_set (i := 2) scRing.nd rfl (Or.inl rfl) (pe_lst pa_nil))
      (pss_cons (ps_for PassesOwn.never rfl (pi_list (pv 1)) (pg_tup rfl (pgs_cons (pg_name (i := 3) scRing.nd rfl (Or.inl rfl)) (pgs_cons (pg_name (i := 4) scRing.nd rfl (Or.inl rfl)) pgs_nil)))
        (pss_one (ps_if (pt_cmpR op_notIn_seq (pv 3) (pv 2) (by rfl)) (pss_one (ps_expr (pe_bm PySem.F.plainAttrs_list PySem.F.slot_list_append PySem.F.type_list_append mt_append (pv 2) (pa_cons (pv 3) pa_nil)))) pss_nil)))
      (pss_cons (ps_for PassesOwn.never rfl (pi_range2 rfl mR (pa_cons pe_int (pa_cons (pe_op op_add (pe_callB call_len (by rfl) mL PySem.boot_len (pa_cons (pv 2) pa_nil)) pe_int) pa_nil))) (pg_name (i := 5) scRing.nd rfl (Or.inl rfl))
        (pss_one (ps_for PassesOwn.never rfl (pi_list (pv 2)) (pg_name (i := 6) scRing.nd rfl (Or.inl rfl))
          (pss_cons (ps_set (i := 7) scRing.nd rfl (Or.inl rfl) (pe_call GC hr rfl mC FC.kp bC .nil pass0 (pa_cons (pv 1) (pa_cons (pe_lst (pa_cons (pv 6) pa_nil)) (pa_cons (pv 5) pa_nil)))))
          (pss_one (ps_if (pt_cmpR op_notN (pv 7) pe_non (nomark _)) (pss_one (ps_ret (pv 7))) pss_nil))))))
      (pss_one (ps_ret pe_non)))))), ?_⟩
    refine ⟨_, rfl, a, ys, prK H, rfl, hS, fun x hx => prK_at (hP x hx), fun zs p _ hb hp => ?_⟩
    have s1 := same_upd (o := .lst zs) hp
    have hZ : ∀ y ∈ zs, PrV R H y := fun y hy => hP y (hb.perm.mem_iff.mp hy)
    refine ⟨Nat.zero_le _, fun S hS' => ?_⟩
    have nS : H S = none := (none_of hS').1
    refine ⟨_, rfl, p, rfl, ⟨_, SqL.of ((same_upd hS') _ _ upd_same)⟩, for_list (K := K) (a := p) (xs := zs) (fun i σ H2 => ∃ (u v : Option V) (l : List Int), σ = [some (.ref a), some (.ref p), some (.ref S), u, v, none, none, none] ∧ Same (upd H p (.lst zs)) H2 ∧ H2 S = some (.lst (l.map V.int)) ∧ l.Nodup ∧ ∀ x ∈ l, 1 ≤ x ∧ x ≤ 8)
      ⟨none, none, [], rfl, same_upd hS', upd_same, List.nodup_nil, fun x h => by cases h⟩ (fun i σ H2 _ h => by obtain ⟨_, _, _, _, h, _⟩ := h; exact SqL.of (h _ _ upd_same)) ?_ ?_⟩
    · rintro i y σ H2 hi ⟨u, v, l, rfl, s2, e2, nd, l8⟩
      obtain ⟨q, t, x, rfl, hq, hR⟩ := hZ y (List.mem_of_getElem? hi)
      refine ⟨q, _, rfl, SqT.of (s2 _ _ (s1 _ _ hq)), rfl, _, _, rfl, _, _, rfl, rfl, ?_⟩
      refine ⟨_, rfl, _, rfl, S, _, rfl, .inl (SqL.of e2), rfl, flat_int _, _, rfl, ?_⟩
      have b8 : l.length ≤ 8 := nodup_le 8 1 l nd fun x hx => by have := l8 x hx; omega
      rw [inV_int]
      refine iteNDec (fun c => ?_) (fun _ => ⟨_, _, l, rfl, s2, e2, nd, l8⟩)
      refine ⟨_, rfl, .inl ⟨rfl, _, SqL.of e2⟩, _, rfl, S, _, _, rfl, rfl, e2, lt_line (by rw [List.length_map]; omega), ?_⟩
      refine ⟨_, _, l ++ [t], rfl, same_put s2 hS', by rw [upd_same, map_snoc], ?_, fun x hx => ?_⟩
      · exact (List.perm_append_singleton t l).nodup_iff.mpr (List.nodup_cons.mpr ⟨c, nd⟩)
      · rcases mem_snoc.mp hx with hx | hx
        · exact l8 x hx
        · rw [hx]
          exact h8 _ _ hR
    · rintro σ H2 ⟨u, v, l, rfl, s2, e2, nd, l8⟩
      have b8 : l.length ≤ 8 := nodup_le 8 1 l nd fun x hx => by have := l8 x hx; omega
      have e2p := s2 _ _ (upd_same (H := H) (a := p) (o := .lst zs))
      refine ⟨_, rfl, _, _, rfl, .inl ⟨_, SqL.of e2, rfl⟩, _, _, rfl, rfl, 2, _, rfl, ⟨by decide, by decide, by rw [List.length_map]; omega, by rw [List.length_map]; omega⟩, ?_⟩
      refine for_range (n := _) (fun j σ H3 => ∃ (u v z x y : Option V), σ = [some (.ref a), some (.ref p), some (.ref S), u, v, z, x, y] ∧ Same H2 H3) ⟨_, _, _, _, _, rfl, Same.refl H2⟩ ?_ ?_
      · rintro j σ H3 hj ⟨u3, v3, z3, x3, y3, rfl, s3⟩
        rw [List.length_map] at hj
        refine ⟨_, rfl, S, rfl, ⟨_, SqL.of (s3 _ _ e2)⟩, for_list (K := K) (a := S) (xs := l.map V.int) (fun i σ H4 => ∃ (u v x y : Option V), σ = [some (.ref a), some (.ref p), some (.ref S), u, v, some (.int (2 + j)), x, y] ∧ Same H2 H4)
          ⟨_, _, _, _, rfl, s3⟩ (fun i σ H4 _ h => by obtain ⟨_, _, _, _, _, h⟩ := h; exact SqL.of (h _ _ e2)) ?_ ?_⟩
        · rintro i y σ H4 hi ⟨u4, v4, x4, y4, rfl, s4⟩
          rw [List.getElem?_map] at hi
          obtain ⟨t, ht, rfl⟩ := Option.map_eq_some_iff.mp hi
          refine ⟨_, rfl, _, rfl, (by show 1 ≤ sizeLine; decide), fun p1 hp1 => ?_⟩
          have s5 := same_upd (o := .lst [V.int t]) hp1
          have s0 : Same H H4 := s1.trans (s2.trans s4)
          refine ⟨_, rfl, p, p1, 2 + j, zs, t, t, [], by rw [show ((2 : Int) + (j : Int)) = ((2 + j : Nat) : Int) by omega]; rfl, SqL.of (s5 _ _ (s4 _ _ e2p)), fun y hy => (hZ y hy).same (s0.trans s5), upd_same, rfl, Nat.le_refl _, by simp; omega, by simp; omega, by omega, fun H5 s6 => ?_⟩
          refine ⟨_, rfl, rfl, _, rfl, ?_⟩
          exact iteF ⟨_, _, _, _, rfl, s4.trans (s5.trans s6)⟩
        · rintro σ H4 ⟨u4, v4, x4, y4, rfl, s4⟩
          exact ⟨_, _, _, _, _, rfl, s4⟩
      · rintro σ H3 ⟨u3, v3, z3, x3, y3, rfl, s3⟩
        exact k H3 (s1.trans (s2.trans s3))
/-- ring_of a strict schedule whose transactions have ended: None -/
def spRingOf (K : PySem.W.Frag) : Sp := fun vs H Q _ => ∃ (a : Addr) (xs : List V) (ops : List Op) (over : List Int), vs = [.ref a] ∧ SqL K H a xs ∧ OpsV H xs ops ∧ ops.length ≤ 900 ∧ SchOk ops over ∧ (∀ o ∈ ops, o.tx ∈ over) ∧ (∀ o ∈ ops, 1 ≤ o.tx ∧ o.tx ≤ 8) ∧
  ∀ H', Same H H' → Q .non H'
theorem scRingOf : FnScope ["schedule"] ["schedule"] (defScope sRingOf) := ⟨rfl, rfl, rfl, by decide +kernel, rfl, by decide +kernel, by decide +kernel⟩
theorem ok_ringof (F : FnP K "ring_of" "ring_of" sRingOf f fd)
    (GR : ∀ (R : Int → Int → Prop) (ρ : Int → Nat), (∀ t u, R t u → ρ t < ρ u) → (∀ t u, R t u → 1 ≤ t ∧ t ≤ 8) → GFn P w K mg base CX0 10 "ring_in" ["pairs"] (spRing K R))
    (GG : ∀ (R : Int → Int → Prop), GFn P w K mg base CX0 2 "conflict_graph" ["schedule"] (spGraph K R)) : FnOk P w K mg base CX0 11 f fd ["schedule"] (spRingOf K) := by
  refine F.ok scRingOf (fun vs H Q E h => ?_) (fun cdv A outer s H vs Q E hr h => ?_)
  · obtain ⟨a, xs, ops, ov, rfl, _⟩ := h
    rfl
  · obtain ⟨a, xs, ops, ov, rfl, hS, hO, hl, S, fin, h8, k⟩ := h
    obtain ⟨fR, fdR, mR, kR, bR, GR⟩ := GR (fun t u => rank ops t < rank ops u ∧ 1 ≤ t ∧ t ≤ 8) (rank ops) (fun t u h => h.1) (fun t u h => h.2)
    obtain ⟨fG, fdG, mG, kG, bG, GG⟩ := GG (fun t u => rank ops t < rank ops u ∧ 1 ≤ t ∧ t ≤ 8)
    refine ⟨_, PSs.nox (pss_one (ps_ret (pe_call GR hr rfl mR kR bR .nil pass0 (pa_cons (pe_call GG (hr.mono (by decide)) rfl mG kG bG .nil pass0 (pa_cons (pv 0) pa_nil)) pa_nil)))), ?_⟩
    refine ⟨_, rfl, a, xs, ops, rfl, hS, hO, hl, fun m j o u hm ho hu' c => ⟨S.kept fin hm ho hu' c, h8 o ?_⟩, fun H1 p ys s1 e1 hy => ⟨p, ys, rfl, SqL.of e1, hy, fun H2 s2 => k H2 (s1.trans s2)⟩⟩
    exact (List.mem_filter.mp (List.mem_of_getElem? ho)).1
end
end K61
set_option Elab.async false
set_option linter.all false
set_option maxRecDepth 100000
set_option maxHeartbeats 4000000
/-! sorted(d.items()) of a dict with int keys and text values: some arrangement of its pairs, as new tuples. -/
namespace K61
open PySem PySem.Spec PyProof.Rows L2 SrtO Srt
/-- at v: a pair of an int and a text -/
def IsIS (h : Heap) (v : Value) (x : Int) (y : Str) : Prop := ∃ a o t u n, v = .ref a ∧ h.get? a = some o ∧ o.cls = .type "tuple" ∧ o.data = .seq #[.int x t, .str y u] n
theorem IsIS.keeps {h h' : Heap} {v : Value} {x : Int} {y : Str} (p : IsIS h v x y) (k : ∀ b o, h.get? b = some o → o.cls = .type "tuple" → h'.get? b = some o) : IsIS h' v x y := by
  obtain ⟨a, o, t, u, n, e, ho, hc, hd⟩ := p
  exact ⟨a, o, t, u, n, e, k _ _ ho hc, hc, hd⟩
section
variable {prog : Program} {w : World} {A : Around} {E : Value → Shared → Prop} {s : Shared}
theorem swo_key (k : Value → Int) : Swo fun v u => decide (k v < k u) := by
  refine ⟨fun x y h => ?_, fun x y z h1 h2 => ?_⟩
  · have a := of_decide_eq_true h
    exact decide_eq_false (by omega)
  · have a := of_decide_eq_false h1
    have b := of_decide_eq_false h2
    exact decide_eq_false (by omega)
theorem is_cmp {vs : List Value} {k : Value → Int} {z : Value → Str} (hp : ∀ v ∈ vs, IsIS s.heap v (k v) (z v)) (one : ∀ v ∈ vs, ∀ u ∈ vs, k v = k u → z v = z u) : Cmp prog w A s (tuples' true) (fun p => p.1 ∈ vs) (lt2 fun v u => decide (k v < k u)) := by
  intro p q hm hm'
  have h1 := hp _ hm
  have h2 := hp _ hm'
  have h3 := one _ hm _ hm'
  show wpAny (model prog w) A (keyLt' (tuples' true) p.1 q.1) (fun r s' => s' = s ∧ r = decide (k p.1 < k q.1)) (fun _ _ => False) s
  generalize k p.1 = x at h1 h3 ⊢
  generalize z p.1 = y at h1 h3
  generalize k q.1 = x' at h2 h3 ⊢
  generalize z q.1 = y' at h2 h3
  obtain ⟨a, o, t, u, n, e, ho, hc, hd⟩ := h1
  obtain ⟨a', o', t', u', n', e', ho', hc', hd'⟩ := h2
  rw [e, e']
  refine PySem.W.kat_lt ho hd ho' hd' ?_
  show PySem.W.KatLex prog w A true (decide (2 < 2)) _ [(.int x t, .int x' t'), (.str y u, .str y' u')] 0 s
  refine PySem.W.kat_cons (SeqAt.EqAt.int_int x t x' t' prog w _ _ ?_)
  refine PySem.W.kat_go (fun e1 => ?_) (fun e1 => ?_)
  · have ex : x = x' := by simpa using e1
    have ey := h3 ex
    refine PySem.W.kat_yes (PySem.W.kat_cons (SeqAt.EqAt.str_str y u y' u' prog w _ _ ?_))
    refine PySem.W.kat_go (fun _ => ?_) (fun e2 => ?_)
    · refine PySem.W.kat_yes (PySem.W.kat_nil ⟨rfl, ?_⟩)
      rw [ex]
      exact (decide_eq_false (Int.lt_irrefl _)).symm
    · rw [ey] at e2
      simp at e2
  · exact PySem.W.kat_no (oneLt_int ⟨rfl, rfl⟩)
theorem is_firsts {h : Heap} : ∀ {vs : List Value}, (∀ v ∈ vs, ∃ x y, IsIS h v x y) → ∃ fs : List Value, PySem.W.KatTups h vs fs ∧ fs.length = vs.length ∧ ∀ f ∈ fs, ∃ x t, f = Value.int x t
  | [], _ => ⟨[], PySem.W.KatTups.nil, rfl, fun _ hm => by simp at hm⟩
  | v :: vs, hp => by
    obtain ⟨fs, h1, h2, h3⟩ := is_firsts (vs := vs) fun v' hm => hp v' (List.mem_cons_of_mem _ hm)
    obtain ⟨x, y, a, o, t, u, n, e, ho, hc, hd⟩ := hp v (List.mem_cons_self ..)
    subst e
    refine ⟨.int x t :: fs, PySem.W.KatTups.cons ho hc hd rfl h1, by rw [List.length_cons, List.length_cons, h2], fun f hm => ?_⟩
    rcases List.mem_cons.mp hm with rfl | hm
    · exact ⟨x, t, rfl⟩
    · exact h3 f hm
theorem is_sortable {a : Addr} {vs : List Value} {k : Value → Int} {z : Value → Str} (h0 : 0 < vs.length) (hp : ∀ v ∈ vs, IsIS s.heap v (k v) (z v)) (one : ∀ v ∈ vs, ∀ u ∈ vs, k v = k u → z v = z u) (ha : ∀ o, s.heap.get? a = some o → o.cls ≠ .type "tuple") :
    SortableO prog w A s a vs fun v u => decide (k v < k u) := by
  intro h' keep
  have hp' : ∀ v ∈ vs, IsIS h' v (k v) (z v) := fun v hm => (hp v hm).keeps fun b o e c => keep b o (fun z => by subst z; exact ha o e c) e
  obtain ⟨fs, h1, h2, h3⟩ := is_firsts fun v hm => ⟨_, _, hp' v hm⟩
  refine ⟨tuples' true, fun Q E hq => ?_, is_cmp hp' one⟩
  refine PySem.W.kat_kind (T := .type "int") h1 (by omega) (fun f hm => ?_) (by rfl) ?_
  · obtain ⟨x, t, rfl⟩ := h3 f hm
    exact PySem.W.Looks.now
  · have e : (Value.type "int" != Value.type "tuple") = true := by first | decide +kernel | rfl | decide
    rw [e]
    exact hq
end
/-- what stands at a pair -/
def itsAt (h : Heap) : Value → List Value
  | .ref a => match h.get? a with
    | some o => match o.data with
      | .seq its _ => its.toList
      | _ => []
    | none => []
  | _ => []
def intOf : Option Value → Int
  | some (.int i _) => i
  | _ => 0
def txtOf : Option Value → Str
  | some (.str z _) => z
  | _ => Str.empty
def keyI (h : Heap) (v : Value) : Int := intOf (itsAt h v)[0]?
def keyZ (h : Heap) (v : Value) : Str := txtOf (itsAt h v)[1]?
theorem its_at {h : Heap} {b : Addr} {l : Array Value} {n : Nat} {c : Value} {d : Option Addr} {sl : Array (Option Value)} (e : h.get? b = some ⟨c, d, .seq l n, sl⟩) : itsAt h (.ref b) = l.toList := by
  simp only [itsAt, e]
section
variable {X : Cx}
def rItemsK : V → List V → Hp → VK → Prop := fun x xs H Q => ∃ (a : Addr) (kvs : List (Key × V)), x = .ref a ∧ xs = [] ∧ H a = some (.dK kvs) ∧ ∀ p, H p = none → Q (.ref p) (upd H p (DX.itemsO p a))
theorem mt_itemsK : MtR X "dict.items" rItemsK := by
  intro pins s σ H x xs v us Q I rx rxs h
  obtain ⟨a, kvs, rfl, rfl, ha, q⟩ := h
  cases rx
  cases rxs
  obtain ⟨z, hd, vs, kv, o, es, ep, ho, hx, hdat, _⟩ := dk_of I.hok ha
  refine DT.callItems (es := es) (ep := ep) hd ⟨o, ho, hx, hdat⟩ ?_
  have hf : H s.heap.objs.size = none := I.hok.fresh (Nat.le_refl _)
  exact ⟨.ref s.heap.objs.size, upd H s.heap.objs.size (DX.itemsO s.heap.objs.size a), I.laid (t' := s.toks) (fun b u e => Heap.get?_push_of_some _ e) (Nat.le_refl _) (DX.itemsO_ok (Heap.get?_push_size _ rfl)), rfl, q _ hf⟩
def rSortIK : List V → Hp → VK → Prop := fun vs H Q => ∃ (p a : Addr) (kvs : List (Key × V)), vs = [.ref p] ∧ H p = some (DX.itemsO p a) ∧ H a = some (.dK kvs) ∧ (∀ q ∈ kvs, ∃ t z, q = (Sum.inl t, V.str z)) ∧
  ∀ (H' : Hp) (l : Addr) (ys : List V), Same H H' → H l = none → H' l = some (.lst ys) → (∀ y ∈ ys, ∃ b t z, y = V.ref b ∧ H' b = some (.tup [.int t, .str z]) ∧ (Sum.inl t, V.str z) ∈ kvs) →
    (∀ t z, (Sum.inl t, V.str z) ∈ kvs → ∃ b, V.ref b ∈ ys ∧ H' b = some (.tup [.int t, .str z])) → ys.length = kvs.length → Q (.ref l) H'
theorem cr_sortedIK (hc : X.calm = true) : CallR X (.builtin "sorted") rSortIK := by
  intro pins s σ H xs us Q I r h
  obtain ⟨p, a, kvs, rfl, hp, ha, hv, q⟩ := h
  obtain rfl := Vals.ref1 r
  have view : s.heap.IsItemsView p a := (show ObjOk X.prog X.w H s.heap p (DX.itemsO p a) from I.hok p _ hp).1
  obtain ⟨z, hd, vs, kv, o, es, ep, ho, hx, hdat, hko, hpr, hn⟩ := dk_of I.hok ha
  have l1 : kvs.length = vs.length := Paired.length kv
  have l2 : es.size = vs.length := by rw [← hpr.length]; simp
  have hh : X.A.handled = none := I.ok.hd hc
  refine DT.sortedI (es := es) (ep := ep) hh view ⟨o, ho, hx, hdat⟩ (by rw [l2, ← l1]; exact z) fun h' tk as hk hlt hl hG => ?_
  have lak : as.length = kvs.length := by omega
  have nd : as.Nodup := List.Pairwise.imp (fun h => Nat.ne_of_lt h) hG.rise
  -- the pairs that were made
  have pr : ∀ (j : Nat) (b : Addr), as[j]? = some b → ∃ (t : Int) (y : Str) (u1 u2 : Tok), kvs[j]? = some (Sum.inl t, V.str y) ∧ h'.get? b = some { cls := .type "tuple", data := .seq #[Value.int t u1, Value.str y u2] } := by
    intro j b hj
    obtain ⟨en, he, hg⟩ := hG.pairs j b hj
    have hjl : j < kvs.length := by rw [← lak]; exact (List.getElem?_eq_some_iff.mp hj).1
    obtain ⟨t, y, e1⟩ := hv _ (List.getElem_mem hjl)
    have e1' : kvs[j]? = some (Sum.inl t, V.str y) := by rw [List.getElem?_eq_getElem hjl, e1]
    obtain ⟨kw, hkw, r1, r2⟩ := pget kv e1'
    obtain ⟨key, val⟩ := kw
    have r1 : Sum.inl t = key := r1
    obtain ⟨u2, r2⟩ := (show ∃ u2, val = Value.str y u2 from r2)
    obtain ⟨hkey, hval⟩ := hpr.get? (e := en) (by simpa using he) hkw
    have hkey : keyIs key en.key = true := hkey
    rw [← r1] at hkey
    rcases keyIs_shape hkey with ⟨i, u1, e2, e3⟩ | ⟨x, u1, e2, _⟩
    · have e2 : t = i := Sum.inl.inj e2
      refine ⟨t, y, u1, u2, e1', ?_⟩
      rw [hg, hval, e3, ← e2]
      rw [r2]
    · cases e2
  have kn : (kvs.map (·.1)).Nodup := by
    have e : kvs.map (·.1) = vs.map (·.1) := by
      clear hn hpr l1 l2 hv pr z lak ha q
      induction kv with
      | nil => rfl
      | cons h _ ih => rw [List.map_cons, List.map_cons, ih, h.1]
    rw [e]
    exact hn
  -- the heap of the sort
  have hob : (h'.push { cls := .type "list", data := .seq (as.map Value.ref).toArray }).get? h'.objs.size = some (seqObj "list" (as.map Value.ref).toArray 0) := Heap.get?_push_size _ rfl
  have kb : ∀ b o, s.heap.get? b = some o → (h'.push { cls := .type "list", data := .seq (as.map Value.ref).toArray }).get? b = some o := fun b o e => Heap.get?_push_of_some _ (hk b o e)
  have ne0 : ∀ b o, h'.get? b = some o → b ≠ h'.objs.size := fun b o e => Nat.ne_of_lt (Heap.lt_size e)
  generalize hh2 : h'.push { cls := .type "list", data := .seq (as.map Value.ref).toArray } = h2 at hob kb ⊢
  have ka : ∀ b o, h'.get? b = some o → h2.get? b = some o := fun b o e => by rw [← hh2]; exact Heap.get?_push_of_some _ e
  have at_ : ∀ v ∈ as.map Value.ref, ∃ (j : Nat) (b : Addr) (t : Int) (y : Str) (u1 u2 : Tok), v = .ref b ∧ as[j]? = some b ∧ kvs[j]? = some (Sum.inl t, V.str y) ∧ h2.get? b = some { cls := .type "tuple", data := .seq #[Value.int t u1, Value.str y u2] } ∧ keyI h2 v = t ∧ keyZ h2 v = y := by
    intro v hv'
    obtain ⟨b, hb, rfl⟩ := List.mem_map.mp hv'
    obtain ⟨j, hj⟩ := List.mem_iff_getElem?.mp hb
    obtain ⟨t, y, u1, u2, he, hg⟩ := pr j b hj
    have hg2 := ka _ _ hg
    refine ⟨j, b, t, y, u1, u2, rfl, hj, he, hg2, ?_, ?_⟩
    · unfold keyI
      rw [its_at hg2]
      rfl
    · unfold keyZ
      rw [its_at hg2]
      rfl
  refine wpAny_call_entry PyProof.Rows.slot_list_sort ⟨_, hob, rfl⟩ PyProof.Rows.entry_list_sort
    (list_sort_ord (s := { s with heap := h2, toks := tk }) (swo_key (keyI h2)) hob (by rw [List.length_map, lak]; exact z) (fun h2' => is_sortable (s := { s with heap := h2, toks := tk }) (k := keyI h2) (z := keyZ h2) (by omega) (fun v hv' => ?_) (fun v hv' u hu' e => ?_) (fun o e => ?_)) fun out hs hb => ⟨.none, rfl, ?_⟩) (PyProof.Rows.args_list_sort _)
  · obtain ⟨j, b, t, y, u1, u2, rfl, hj, he, hg, e1, e2⟩ := at_ v hv'
    rw [e1, e2]
    exact ⟨b, _, u1, u2, 0, rfl, hg, rfl, rfl⟩
  · obtain ⟨j, b, t, y, u1, u2, rfl, hj, he, hg, e1, e2⟩ := at_ v hv'
    obtain ⟨j', b', t', y', u1', u2', rfl, hj', he', hg', e1', e2'⟩ := at_ u hu'
    rw [e1, e1'] at e
    rw [e2, e2']
    subst e
    have g1 : (kvs.map (·.1))[j]? = some (Sum.inl t) := by rw [List.getElem?_map, he]; rfl
    have g2 : (kvs.map (·.1))[j']? = some (Sum.inl t) := by rw [List.getElem?_map, he']; rfl
    have ej := nd_ix kn g1 g2
    subst ej
    rw [he] at he'
    have z1 := Option.some.inj he'
    injection z1 with _ z2
    exact V.str.inj z2
  · have e' : some o = some (seqObj "list" (as.map Value.ref).toArray 0) := e.symm.trans hob
    cases e'
    intro c
    exact absurd (Value.type.inj c) (by decide)
  · show EP X pins σ Q (.ref h'.objs.size) { s with heap := sortedHeap h2 h'.objs.size (as.map Value.ref) out.toArray, toks := tk }
    have hm : ∀ v, v ∈ out ↔ v ∈ as.map Value.ref := fun v => hb.perm.mem_iff
    have h3 : ∀ u ∈ out, ∃ a, u = Value.ref a := fun u hu => by
      obtain ⟨_, b, _, _, _, _, e, _⟩ := at_ u ((hm u).mp hu)
      exact ⟨b, e⟩
    -- behind the sort
    have kF : ∀ b o, b ≠ h'.objs.size → h2.get? b = some o → (sortedHeap h2 h'.objs.size (as.map Value.ref) out.toArray).get? b = some o := fun b o hb e => (PyProof.Rows.sortedHeap_old hb (Heap.lt_size e)).trans e
    have kS : ∀ b o, s.heap.get? b = some o → (sortedHeap h2 h'.objs.size (as.map Value.ref) out.toArray).get? b = some o := fun b o e => kF b o (ne0 _ _ (hk b o e)) (kb b o e)
    obtain ⟨eF, heF⟩ := PyProof.Rows.sortedHeap_at (vs := as.map Value.ref) (out := out.toArray) hob
    have I1 : Inv X pins σ H { s with heap := sortedHeap h2 h'.objs.size (as.map Value.ref) out.toArray, toks := tk } := I.kept (t' := tk) kS
    have hn0 : H h'.objs.size = none := I.hok.fresh (Nat.le_of_lt hlt)
    have hlen : (out.map backV).length ≤ sizeLine := by
      have e := hb.perm.length_eq
      rw [List.length_map] at e
      rw [List.length_map, e, lak]
      exact z
    have I2 : Inv X pins σ (upd H h'.objs.size (.lst (out.map backV))) { s with heap := sortedHeap h2 h'.objs.size (as.map Value.ref) out.toArray, toks := tk } :=
      I1.take (h' := sortedHeap h2 h'.objs.size (as.map Value.ref) out.toArray) (t' := tk) (fun b ob _ e => e) (I.fpOk (Nat.le_of_lt hlt) hn0) ⟨hlen, out, eF, vals_back h3, heF⟩
    obtain ⟨H2, I3, g, qt⟩ := DX.takeT (P := fun b vs => ∃ (j : Nat) (t : Int) (y : Str), as[j]? = some b ∧ kvs[j]? = some (Sum.inl t, V.str y) ∧ vs = [.int t, .str y]) I as _ I2 nd fun b hb => by
      obtain ⟨j, hj⟩ := List.mem_iff_getElem?.mp hb
      obtain ⟨t, y, u1, u2, he, hg⟩ := pr j b hj
      have hbl : s.heap.objs.size ≤ b := Nat.le_of_lt (hG.above b hb)
      refine ⟨hbl, ?_, [.int t, .str y], ⟨j, t, y, hj, he, rfl⟩, fun H3 => ⟨(by rw [sizeLine_eq]; show 2 ≤ 16777216; omega), [Value.int t u1, Value.str y u2], .cons ⟨_, rfl⟩ (.cons ⟨_, rfl⟩ .nil), ⟨_, kF _ _ (ne0 _ _ hg) (ka _ _ hg), rfl, 0, rfl⟩⟩⟩
      rw [upd_ne (ne0 _ _ hg)]
      exact I.hok.fresh hbl
    have gr : ∀ b o, H b = some o → H2 b = some o := fun b o e => g b o (by rw [upd_ne (ne_of_none e hn0)]; exact e)
    refine ⟨.ref h'.objs.size, H2, I3, rfl, q H2 h'.objs.size (out.map backV) gr hn0 (g _ _ upd_same) (fun v hv' => ?_) (fun t y hty => ?_) (by have e := hb.perm.length_eq; rw [List.length_map] at e; rw [List.length_map, e, lak])⟩
    · obtain ⟨u, hu, rfl⟩ := List.mem_map.mp hv'
      obtain ⟨j, b, t, y, u1, u2, rfl, hj, he, _⟩ := at_ u ((hm u).mp hu)
      obtain ⟨vs', ⟨j', t', y', hj', he', rfl⟩, hH⟩ := qt b (List.mem_of_getElem? hj)
      exact ⟨b, t', y', rfl, hH, List.mem_of_getElem? he'⟩
    · obtain ⟨j, hj⟩ := List.mem_iff_getElem?.mp hty
      have hjl : j < as.length := by rw [lak]; exact (List.getElem?_eq_some_iff.mp hj).1
      have hb' : as[j]? = some as[j] := List.getElem?_eq_getElem hjl
      obtain ⟨vs', ⟨j', t', y', hj', he', rfl⟩, hH⟩ := qt as[j] (List.getElem_mem hjl)
      have ej : j = j' := nd_ix nd hb' hj'
      subst ej
      rw [hj] at he'
      have z1 := Option.some.inj he'
      injection z1 with z2 z3
      have z2 : t = t' := Sum.inl.inj z2
      have z3 : y = y' := V.str.inj z3
      subst z2 z3
      exact ⟨as[j], List.mem_map.mpr ⟨.ref as[j], (hm _).mpr (List.mem_map.mpr ⟨_, List.getElem_mem hjl, rfl⟩), rfl⟩, hH⟩
end
end K61
set_option Elab.async false
set_option linter.all false
set_option maxRecDepth 100000
set_option maxHeartbeats 4000000
/-! How the objects stand in the heap. -/
namespace K61
open PySem PySem.Spec PyProof.Rows L2
/-! ### dicts -/
section
variable {κ : Type} [DecidableEq κ]
theorem valV_drop (kvs : List (κ × V)) (k j : κ) : valV (dropK kvs k) j = if j = k then none else valV kvs j := by
  unfold valV dropK
  induction kvs with
  | nil => by_cases e : j = k <;> simp [e]
  | cons p r ih =>
    by_cases e : p.1 = k
    · rw [List.filter_cons_of_neg (by simp [e]), ih]
      by_cases ej : j = k
      · rw [if_pos ej, if_pos ej]
      · rw [if_neg ej, if_neg ej, List.find?_cons_of_neg (by simp [e]; exact fun z => ej z.symm)]
    · rw [List.filter_cons_of_pos (by simp [e])]
      by_cases e2 : p.1 = j
      · rw [List.find?_cons_of_pos (by simp [e2])]
        have ej : ¬ j = k := fun z => e (e2.trans z)
        rw [if_neg ej, List.find?_cons_of_pos (by simp [e2])]
      · rw [List.find?_cons_of_neg (by simp [e2]), List.find?_cons_of_neg (by simp [e2])]
        exact ih
theorem keys_put {kvs : List (κ × V)} {k : κ} {v : V} (h : (kvs.map (·.1)).Nodup) : ((putK kvs k v).map (·.1)).Nodup := by
  cases e : valV kvs k with
  | none => exact nd_putK v h e
  | some u =>
    have q : (kvs.any fun kv => decide (kv.1 = k)) = true := by
      rw [valV_any, e]
      rfl
    unfold putK
    rw [if_pos q, List.map_map]
    have e2 : ((fun x : κ × V => x.1) ∘ fun kv => if kv.1 = k then (kv.1, v) else kv) = fun x => x.1 := by
      funext x
      show (if x.1 = k then (x.1, v) else x).1 = x.1
      by_cases z : x.1 = k
      · rw [if_pos z]
      · rw [if_neg z]
    rw [e2]
    exact h
theorem mem_put {kvs : List (κ × V)} {k : κ} {v : V} {p : κ × V} (h : p ∈ putK kvs k v) : p ∈ kvs ∨ p = (k, v) := by
  unfold putK at h
  by_cases q : (kvs.any fun kv => decide (kv.1 = k)) = true
  · rw [if_pos q] at h
    obtain ⟨x, hx, e⟩ := List.mem_map.mp h
    by_cases z : x.1 = k
    · rw [if_pos z] at e
      exact .inr (by rw [← e, z])
    · rw [if_neg z] at e
      exact .inl (e ▸ hx)
  · rw [if_neg q] at h
    rcases List.mem_append.mp h with h | h
    · exact .inl h
    · exact .inr (List.mem_singleton.mp h)
theorem mem_valV {kvs : List (κ × V)} (h : (kvs.map (·.1)).Nodup) {k : κ} {v : V} : (k, v) ∈ kvs ↔ valV kvs k = some v := by
  unfold valV
  induction kvs with
  | nil => simp
  | cons p r ih =>
    obtain ⟨n1, n2⟩ := List.nodup_cons.mp (show (p.1 :: r.map (·.1)).Nodup from h)
    by_cases e : p.1 = k
    · rw [List.find?_cons_of_pos (by simp [e])]
      constructor
      · intro m
        rcases List.mem_cons.mp m with m | m
        · rw [← m]
          rfl
        · exact absurd (List.mem_map.mpr ⟨_, m, e.symm⟩) n1
      · intro m
        have m : p.2 = v := Option.some.inj m
        rw [← m, ← e]
        exact List.mem_cons_self
    · rw [List.find?_cons_of_neg (by simp [e]), ← ih n2]
      constructor
      · intro m
        rcases List.mem_cons.mp m with m | m
        · exact absurd (by rw [← m]) e
        · exact m
      · exact fun m => List.mem_cons_of_mem _ m
end
/-! ### the holders of an item: a dict of ints and modes -/
def keyT : Key → Int
  | .inl t => t
  | .inr _ => 0
structure HoldRep (kvs : List (Key × V)) (h : Int → Option Md) : Prop where
  nd : (kvs.map (·.1)).Nodup
  en : ∀ q ∈ kvs, ∃ (t : Int) (m : Md), q = (Sum.inl t, V.str m.s) ∧ 1 ≤ t ∧ t ≤ 8
  at_ : ∀ t, valV kvs (Sum.inl t) = (h t).map fun m => V.str m.s
theorem md_inj {m n : Md} (h : m.s = n.s) : m = n := by
  cases m <;> cases n <;> first | rfl | exact absurd h (by decide +kernel)
theorem HoldRep.nil : HoldRep [] (fun _ => none) where
  nd := List.nodup_nil
  en := fun q h => by cases h
  at_ := fun t => rfl
theorem HoldRep.len {kvs : List (Key × V)} {h : Int → Option Md} (r : HoldRep kvs h) : kvs.length ≤ 8 := by
  have e : ∀ l : List (Key × V), (∀ q ∈ l, ∃ (t : Int) (m : Md), q = (Sum.inl t, V.str m.s) ∧ 1 ≤ t ∧ t ≤ 8) → (l.map (·.1)).Nodup → (l.map fun q => keyT q.1).Nodup := by
    intro l
    induction l with
    | nil => intro _ _; exact List.nodup_nil
    | cons p l ih =>
      intro en nd
      obtain ⟨n1, n2⟩ := List.nodup_cons.mp (show (p.1 :: l.map (·.1)).Nodup from nd)
      refine List.nodup_cons.mpr ⟨fun m => ?_, ih (fun q hq => en q (List.mem_cons_of_mem _ hq)) n2⟩
      obtain ⟨q, hq, eq⟩ := List.mem_map.mp m
      obtain ⟨t, m, e1, _⟩ := en p List.mem_cons_self
      obtain ⟨u, m', e2, _⟩ := en q (List.mem_cons_of_mem _ hq)
      rw [e1, e2] at eq
      have eq : u = t := eq
      refine n1 (List.mem_map.mpr ⟨q, hq, ?_⟩)
      rw [e1, e2, eq]
  have := nodup_le 8 1 (kvs.map fun q => keyT q.1) (e kvs r.en r.nd) fun x hx => by
    obtain ⟨q, hq, rfl⟩ := List.mem_map.mp hx
    obtain ⟨t, m, e, h1, h2⟩ := r.en q hq
    rw [e]
    show 1 ≤ t ∧ t < 1 + 8
    omega
  rw [List.length_map] at this
  exact this
theorem HoldRep.put {kvs : List (Key × V)} {h : Int → Option Md} (r : HoldRep kvs h) {t : Int} (m : Md) (h1 : 1 ≤ t) (h8 : t ≤ 8) : HoldRep (putK kvs (Sum.inl t) (.str m.s)) (fput h t (some m)) := by
  refine ⟨keys_put r.nd, fun q hq => ?_, fun u => ?_⟩
  · rcases mem_put hq with hq | hq
    · exact r.en q hq
    · exact ⟨t, m, hq, h1, h8⟩
  · rw [valV_put]
    by_cases e : u = t
    · subst e
      rw [if_pos rfl, fput_same]
      rfl
    · rw [if_neg (fun z => e (Sum.inl.inj z)), fput_ne e]
      exact r.at_ u
theorem HoldRep.drop {kvs : List (Key × V)} {h : Int → Option Md} (r : HoldRep kvs h) (t : Int) : HoldRep (dropK kvs (Sum.inl t)) (fput h t none) := by
  refine ⟨nd_dropK r.nd, fun q hq => r.en q (dropK_mem hq), fun u => ?_⟩
  rw [valV_drop]
  by_cases e : u = t
  · subst e
    rw [if_pos rfl, fput_same]
    rfl
  · rw [if_neg (fun z => e (Sum.inl.inj z)), fput_ne e]
    exact r.at_ u
theorem HoldRep.mem {kvs : List (Key × V)} {h : Int → Option Md} (r : HoldRep kvs h) {t : Int} {z : Str} : (Sum.inl t, V.str z) ∈ kvs ↔ ∃ m, h t = some m ∧ z = m.s := by
  rw [mem_valV r.nd, r.at_]
  cases e : h t with
  | none => simp
  | some m =>
    show some (V.str m.s) = some (V.str z) ↔ _
    constructor
    · intro q
      exact ⟨m, rfl, (V.str.inj (Option.some.inj q)).symm⟩
    · rintro ⟨m', e1, e2⟩
      rw [Option.some.inj e1, e2]
/-! ### a queue -/
def ReqV (H : Hp) (v : V) (p : Int × Md) : Prop := ∃ a, v = .ref a ∧ H a = some (.tup [.int p.1, .str p.2.s])
def QRep (H : Hp) (xs : List V) (q : List (Int × Md)) : Prop := Paired (ReqV H) xs q
theorem ReqV.same {H H' : Hp} {v : V} {p : Int × Md} (h : ReqV H v p) (s : Same H H') : ReqV H' v p := by
  obtain ⟨a, e, h⟩ := h
  exact ⟨a, e, s _ _ h⟩
theorem QRep.same {H H' : Hp} {xs : List V} {q : List (Int × Md)} (h : QRep H xs q) (s : Same H H') : QRep H' xs q := Paired.mono (fun _ _ k => ReqV.same k s) h
/-! ### who owns what -/
inductive Role | obj | d1 | d2 | di (i : It) | li (i : It) | bt (t : Int) | l1 | l2 | l3 deriving DecidableEq
abbrev Lbl := Addr → Option Role
def MutO : HO → Prop
  | .lst _ => True
  | .dK _ => True
  | .ins _ _ _ => True
  | _ => False
structure Own (H0 H : Hp) (τ : Lbl) : Prop where
  sub : Same H0 H
  off : ∀ b r, τ b = some r → H0 b = none
  on : ∀ b r, τ b = some r → ∃ o, H b = some o ∧ MutO o
section
variable {H0 H H' : Hp} {τ : Lbl} {a b c : Addr} {r r' : Role} {o : HO}
theorem role_ne (ha : τ a = some r) (hb : τ b = some r') (h : r ≠ r') : a ≠ b := fun e => by
  rw [e, hb] at ha
  exact h (Option.some.inj ha).symm
theorem Own.new (O : Own H0 H τ) (h : H c = none) : τ c = none := by
  cases e : τ c with
  | none => rfl
  | some r =>
    obtain ⟨o, ho, _⟩ := O.on c r e
    rw [h] at ho
    cases ho
theorem Own.put (O : Own H0 H τ) (hc : τ c = some r) (m : MutO o) : Own H0 (upd H c o) τ := by
  refine ⟨fun b u e => ?_, O.off, fun b r' e => ?_⟩
  · have ne : b ≠ c := fun z => by
      rw [z, O.off c r hc] at e
      cases e
    rw [upd_ne ne]
    exact O.sub b u e
  · by_cases z : b = c
    · rw [z, upd_same]
      exact ⟨_, rfl, m⟩
    · rw [upd_ne z]
      exact O.on b r' e
/-- a new object, owned -/
theorem Own.add (O : Own H0 H τ) (h : H c = none) (m : MutO o) (r : Role) : Own H0 (upd H c o) (fput τ c (some r)) := by
  refine ⟨fun b u e => ?_, fun b r' e => ?_, fun b r' e => ?_⟩
  · rw [upd_ne (ne_of_none (O.sub b u e) h)]
    exact O.sub b u e
  · by_cases z : b = c
    · rw [z]
      exact O.sub.free h
    · rw [fput_ne z] at e
      exact O.off b r' e
  · by_cases z : b = c
    · rw [z, upd_same]
      exact ⟨_, rfl, m⟩
    · rw [fput_ne z] at e
      rw [upd_ne z]
      exact O.on b r' e
theorem Own.same (O : Own H0 H τ) (s : Same H H') : Own H0 H' τ := ⟨O.sub.trans s, O.off, fun b r e => by
  obtain ⟨o, ho, m⟩ := O.on b r e
  exact ⟨o, s _ _ ho, m⟩⟩
/-- a tuple is not owned -/
theorem Own.tup {xs : List V} (O : Own H0 H τ) (h : H a = some (.tup xs)) : τ a = none := by
  cases e : τ a with
  | none => rfl
  | some r =>
    obtain ⟨o, ho, m⟩ := O.on a r e
    rw [h] at ho
    cases ho
    exact m.elim
/-- what is owned, taken out of the heap -/
def wipeL (τ : Lbl) (H : Hp) : Hp := fun b => if τ b = none then H b else none
theorem wipeL_none (h : τ b = none) : wipeL τ H b = H b := if_pos h
theorem wipeL_some (h : τ b = some r) : wipeL τ H b = none := if_neg (by rw [h]; simp)
theorem Own.base (O : Own H0 H τ) : Own (wipeL τ H) H τ where
  sub := fun b u e => by
    by_cases z : τ b = none
    · rw [wipeL_none z] at e
      exact e
    · rw [show wipeL τ H b = none from if_neg z] at e
      cases e
  off := fun b r e => wipeL_some e
  on := O.on
theorem upd_role (ha : τ a = some r) (hb : τ b = some r') (h : r' ≠ r) : upd H a o b = H b := upd_ne (role_ne hb ha h)
end
/-! ### the lock table -/
theorem hq_ne : ¬ (("_holders" : Str) = "_queues") := by decide +kernel
def tf (ha qa : Addr) : List (Str × V) := [("_holders", .ref ha), ("_queues", .ref qa)]
theorem tf_h (ha qa : Addr) : (tf ha qa).lookup ("_holders" : Str) = some (.ref ha) := by simp [tf, List.lookup]
theorem tf_q (ha qa : Addr) : (tf ha qa).lookup ("_queues" : Str) = some (.ref qa) := by
  have e : (("_queues" : Str) == "_holders") = false := by decide +kernel
  simp [tf, List.lookup, e]
theorem tf_no (ha qa : Addr) {m : Str} (h1 : (m == ("_holders" : Str)) = false) (h2 : (m == ("_queues" : Str)) = false) : (tf ha qa).lookup m = none := by simp [tf, List.lookup, h1, h2]
/-- a dict of addresses by items -/
def tabD (kn : List It) (da : It → Addr) : List (Key × V) := kn.map fun i => (Sum.inr i.s, V.ref (da i))
theorem tabD_valV (kn : List It) (da : It → Addr) (j : It) : valV (tabD kn da) (Sum.inr j.s) = if j ∈ kn then some (V.ref (da j)) else none := by
  unfold valV tabD
  induction kn with
  | nil => simp
  | cons i r ih =>
    rw [List.map_cons]
    by_cases e : i = j
    · subst e
      rw [List.find?_cons_of_pos (by simp), if_pos List.mem_cons_self]
      rfl
    · have e2 : ¬ ((Sum.inr i.s : Key) = Sum.inr j.s) := fun z => e (it_inj (Sum.inr.inj z))
      rw [List.find?_cons_of_neg (by simpa using e2), ih]
      by_cases m : j ∈ r
      · rw [if_pos m, if_pos (List.mem_cons_of_mem _ m)]
      · rw [if_neg m, if_neg (fun z => (List.mem_cons.mp z).elim (fun q => e q.symm) m)]
theorem tabD_in {kn : List It} {da : It → Addr} {j : It} (h : j ∈ kn) : valV (tabD kn da) (Sum.inr j.s) = some (V.ref (da j)) := by rw [tabD_valV, if_pos h]
theorem tabD_out {kn : List It} {da : It → Addr} {j : It} (h : j ∉ kn) : valV (tabD kn da) (Sum.inr j.s) = none := by rw [tabD_valV, if_neg h]
theorem tabD_congr {kn : List It} {da db : It → Addr} (h : ∀ i ∈ kn, da i = db i) : tabD kn da = tabD kn db := List.map_congr_left fun i hi => by rw [h i hi]
theorem tabD_new {kn : List It} {da : It → Addr} {j : It} {D : Addr} (h : j ∉ kn) : putK (tabD kn da) (Sum.inr j.s) (.ref D) = tabD (kn ++ [j]) (fput da j D) := by
  rw [putK_new _ (tabD_out h)]
  have e : tabD kn da = tabD kn (fput da j D) := tabD_congr fun i hi => (fput_ne (fun (z : i = j) => h (z ▸ hi))).symm
  rw [e]
  unfold tabD
  rw [List.map_append]
  show _ ++ [(Sum.inr j.s, V.ref D)] = _ ++ [(Sum.inr j.s, V.ref (fput da j D j))]
  rw [fput_same]
theorem tabD_old {kn : List It} {da : It → Addr} {j : It} {D : Addr} (h : j ∈ kn) : putK (tabD kn da) (Sum.inr j.s) (.ref D) = tabD kn (fput da j D) := by
  have q : ((tabD kn da).any fun kv => decide (kv.1 = Sum.inr j.s)) = true := by
    rw [valV_any, tabD_in h]
    rfl
  unfold putK
  rw [if_pos q]
  unfold tabD
  rw [List.map_map]
  refine List.map_congr_left fun i hi => ?_
  show (if (Sum.inr i.s : Key) = Sum.inr j.s then ((Sum.inr i.s : Key), V.ref D) else (Sum.inr i.s, V.ref (da i))) = (Sum.inr i.s, V.ref (fput da j D i))
  by_cases e : i = j
  · rw [if_pos (by rw [e]), e, fput_same]
  · rw [if_neg fun z => e (it_inj (Sum.inr.inj z)), fput_ne e]
theorem tabD_keys (kn : List It) (da : It → Addr) : (tabD kn da).map (·.1) = (kn.map It.s).map Sum.inr := by
  unfold tabD
  rw [List.map_map, List.map_map]
  rfl
theorem it_len {kn : List It} (h : kn.Nodup) : kn.length ≤ 3 := by
  have := nodup_le 3 0 (kn.map fun i => match i with | .x => (0 : Int) | .y => 1 | .z => 2) (by
    rw [List.Nodup, List.pairwise_map]
    refine h.imp fun {a b} ne e => ne ?_
    cases a <;> cases b <;> first | rfl | exact absurd e (by decide)) fun x hx => by
      obtain ⟨i, _, rfl⟩ := List.mem_map.mp hx
      cases i <;> decide
  rw [List.length_map] at this
  exact this
/-- a lock table of the class C stands at T: what it owns, its two dicts, their items (hn of holders, kn of queues; the same but within ask) -/
structure TabX (C : Addr) (H0 H : Hp) (τ : Lbl) (T : Addr) (L : It → LI) (n : Nat) (dx ha qa : Addr) (da la : It → Addr) (hn kn : List It) : Prop where
  own : Own H0 H τ
  eT : H T = some (.ins C dx (tf ha qa))
  rT : τ T = some .obj
  eh : H ha = some (.dK (tabD hn da))
  rh : τ ha = some .d1
  eq : H qa = some (.dK (tabD kn la))
  rq : τ qa = some .d2
  ndh : hn.Nodup
  ndk : kn.Nodup
  kh : ∀ i ∈ kn, i ∈ hn
  rd : ∀ i ∈ hn, τ (da i) = some (.di i)
  hd : ∀ i ∈ hn, ∃ kvs, H (da i) = some (.dK kvs) ∧ HoldRep kvs (L i).h
  rl : ∀ i ∈ kn, τ (la i) = some (.li i)
  hq : ∀ i ∈ kn, ∃ xs, H (la i) = some (.lst xs) ∧ QRep H xs (L i).q ∧ xs.length ≤ n
  unh : ∀ i, i ∉ hn → (L i).h = fun _ => none
  unq : ∀ i, i ∉ kn → (L i).q = []
def TabAt (C : Addr) (H0 H : Hp) (τ : Lbl) (T : Addr) (L : It → LI) (n : Nat) : Prop := ∃ dx ha qa da la kn, TabX C H0 H τ T L n dx ha qa da la kn kn
section
variable {C : Addr} {H0 H H' : Hp} {τ : Lbl} {T : Addr} {L : It → LI} {n : Nat} {dx ha qa : Addr} {da la : It → Addr} {hn kn : List It}
theorem TabX.same (t : TabX C H0 H τ T L n dx ha qa da la hn kn) (s : Same H H') : TabX C H0 H' τ T L n dx ha qa da la hn kn where
  own := t.own.same s
  eT := s _ _ t.eT
  rT := t.rT
  eh := s _ _ t.eh
  rh := t.rh
  eq := s _ _ t.eq
  rq := t.rq
  ndh := t.ndh
  ndk := t.ndk
  kh := t.kh
  rd := t.rd
  hd := fun i hi => by
    obtain ⟨kvs, e, r⟩ := t.hd i hi
    exact ⟨kvs, s _ _ e, r⟩
  rl := t.rl
  hq := fun i hi => by
    obtain ⟨xs, e, r, l⟩ := t.hq i hi
    exact ⟨xs, s _ _ e, r.same s, l⟩
  unh := t.unh
  unq := t.unq
theorem TabX.mono {m : Nat} (t : TabX C H0 H τ T L n dx ha qa da la hn kn) (h : n ≤ m) : TabX C H0 H τ T L m dx ha qa da la hn kn :=
  { t with hq := fun i hi => (t.hq i hi).imp fun xs q => ⟨q.1, q.2.1, Nat.le_trans q.2.2 h⟩ }
/-- a queue's requests stand, whatever owned thing is written -/
theorem QRep.put {xs : List V} {q : List (Int × Md)} {c : Addr} {r : Role} {o : HO} (h : QRep H xs q) (O : Own H0 H τ) (hc : τ c = some r) : QRep (upd H c o) xs q := Paired.mono (fun v p ⟨a, e, ha⟩ => ⟨a, e, by
  have ne : a ≠ c := fun z => by
    rw [← z, O.tup ha] at hc
    cases hc
  rw [upd_ne ne]
  exact ha⟩) h
/-- the holders of an item are changed -/
theorem TabX.setH (t : TabX C H0 H τ T L n dx ha qa da la hn kn) {i : It} (hi : i ∈ hn) {kvs : List (Key × V)} {h : Int → Option Md} (r : HoldRep kvs h) :
    TabX C H0 (upd H (da i) (.dK kvs)) τ T (fput L i ⟨h, (L i).q⟩) n dx ha qa da la hn kn where
  own := t.own.put (t.rd i hi) True.intro
  eT := by rw [upd_role (t.rd i hi) t.rT (by intro z; cases z)]; exact t.eT
  rT := t.rT
  eh := by rw [upd_role (t.rd i hi) t.rh (by intro z; cases z)]; exact t.eh
  rh := t.rh
  eq := by rw [upd_role (t.rd i hi) t.rq (by intro z; cases z)]; exact t.eq
  rq := t.rq
  ndh := t.ndh
  ndk := t.ndk
  kh := t.kh
  rd := t.rd
  hd := fun j hj => by
    by_cases e : j = i
    · subst e
      exact ⟨kvs, upd_same, by rw [fput_same]; exact r⟩
    · obtain ⟨kv, e1, r1⟩ := t.hd j hj
      exact ⟨kv, by rw [upd_role (t.rd i hi) (t.rd j hj) (fun z => e (Role.di.inj z))]; exact e1, by rw [fput_ne e]; exact r1⟩
  rl := t.rl
  hq := fun j hj => by
    obtain ⟨xs, e1, r1, l⟩ := t.hq j hj
    refine ⟨xs, by rw [upd_role (t.rd i hi) (t.rl j hj) (by intro z; cases z)]; exact e1, ?_, l⟩
    have q : (fput L i ⟨h, (L i).q⟩ j).q = (L j).q := by
      by_cases e : j = i
      · rw [e, fput_same]
      · rw [fput_ne e]
    rw [q]
    exact r1.put t.own (t.rd i hi)
  unh := fun j hj => by
    have e : j ≠ i := fun z => hj (z ▸ hi)
    rw [fput_ne e]
    exact t.unh j hj
  unq := fun j hj => by
    by_cases e : j = i
    · rw [e, fput_same]
      exact t.unq i (e ▸ hj)
    · rw [fput_ne e]
      exact t.unq j hj
/-- the queue of an item is changed, in its list -/
theorem TabX.setQ (t : TabX C H0 H τ T L n dx ha qa da la hn kn) {i : It} (hi : i ∈ kn) {xs : List V} {q : List (Int × Md)} (r : QRep H xs q) (l : xs.length ≤ n) :
    TabX C H0 (upd H (la i) (.lst xs)) τ T (fput L i ⟨(L i).h, q⟩) n dx ha qa da la hn kn where
  own := t.own.put (t.rl i hi) True.intro
  eT := by rw [upd_role (t.rl i hi) t.rT (by intro z; cases z)]; exact t.eT
  rT := t.rT
  eh := by rw [upd_role (t.rl i hi) t.rh (by intro z; cases z)]; exact t.eh
  rh := t.rh
  eq := by rw [upd_role (t.rl i hi) t.rq (by intro z; cases z)]; exact t.eq
  rq := t.rq
  ndh := t.ndh
  ndk := t.ndk
  kh := t.kh
  rd := t.rd
  hd := fun j hj => by
    obtain ⟨kv, e1, r1⟩ := t.hd j hj
    refine ⟨kv, by rw [upd_role (t.rl i hi) (t.rd j hj) (by intro z; cases z)]; exact e1, ?_⟩
    have q : (fput L i ⟨(L i).h, q⟩ j).h = (L j).h := by
      by_cases e : j = i
      · rw [e, fput_same]
      · rw [fput_ne e]
    rw [q]
    exact r1
  rl := t.rl
  hq := fun j hj => by
    by_cases e : j = i
    · subst e
      exact ⟨xs, upd_same, by rw [fput_same]; exact r.put t.own (t.rl j hi), l⟩
    · obtain ⟨ys, e1, r1, l1⟩ := t.hq j hj
      exact ⟨ys, by rw [upd_role (t.rl i hi) (t.rl j hj) (fun z => e (Role.li.inj z))]; exact e1, by rw [fput_ne e]; exact r1.put t.own (t.rl i hi), l1⟩
  unh := fun j hj => by
    by_cases e : j = i
    · rw [e, fput_same]
      exact t.unh i (e ▸ hj)
    · rw [fput_ne e]
      exact t.unh j hj
  unq := fun j hj => by
    have e : j ≠ i := fun z => hj (z ▸ hi)
    rw [fput_ne e]
    exact t.unq j hj
/-- the holders of a new item -/
theorem TabX.newH (t : TabX C H0 H τ T L n dx ha qa da la hn kn) {i : It} (hi : i ∉ hn) {D : Addr} (e : H D = some (.dK [])) (hD : τ D = none) (h0 : H0 D = none) :
    TabX C H0 (upd H ha (.dK (tabD (hn ++ [i]) (fput da i D)))) (fput τ D (some (.di i))) T L n dx ha qa (fput da i D) la (hn ++ [i]) kn := by
  have nD : ∀ {b : Addr} {r : Role}, τ b = some r → b ≠ D := fun {b r} hb z => by rw [z, hD] at hb; cases hb
  have kp : ∀ {b : Addr} {r : Role}, τ b = some r → fput τ D (some (.di i)) b = some r := fun {b r} hb => by rw [fput_ne (nD hb)]; exact hb
  have nj : ∀ j ∈ hn, j ≠ i := fun j hj z => hi (z ▸ hj)
  have dne : D ≠ ha := fun z => by rw [z, t.rh] at hD; cases hD
  refine { own := ?_, eT := ?_, rT := kp t.rT, eh := upd_same, rh := kp t.rh, eq := ?_, rq := kp t.rq, ndh := ?_, ndk := t.ndk, kh := fun j hj => List.mem_append_left _ (t.kh j hj), rd := fun j hj => ?_, hd := fun j hj => ?_, rl := fun j hj => kp (t.rl j hj), hq := fun j hj => ?_, unh := fun j hj => ?_, unq := t.unq }
  · have O := t.own.put (o := .dK (tabD (hn ++ [i]) (fput da i D))) t.rh True.intro
    refine ⟨O.sub, fun b r hb => ?_, fun b r hb => ?_⟩
    · by_cases z : b = D
      · rw [z]
        exact h0
      · rw [fput_ne z] at hb
        exact O.off b r hb
    · by_cases z : b = D
      · rw [z, upd_ne dne]
        exact ⟨_, e, True.intro⟩
      · rw [fput_ne z] at hb
        exact O.on b r hb
  · rw [upd_role t.rh t.rT (by intro z; cases z)]
    exact t.eT
  · rw [upd_role t.rh t.rq (by intro z; cases z)]
    exact t.eq
  · exact (List.perm_append_singleton i hn).nodup_iff.mpr (List.nodup_cons.mpr ⟨hi, t.ndh⟩)
  · rcases mem_snoc.mp hj with hj | hj
    · rw [fput_ne (nj j hj)]
      exact kp (t.rd j hj)
    · rw [hj, fput_same, fput_same]
  · rcases mem_snoc.mp hj with hj | hj
    · rw [fput_ne (nj j hj)]
      obtain ⟨kv, e1, r1⟩ := t.hd j hj
      exact ⟨kv, by rw [upd_role t.rh (t.rd j hj) (by intro z; cases z)]; exact e1, r1⟩
    · subst hj
      rw [fput_same]
      refine ⟨[], by rw [upd_ne dne]; exact e, ?_⟩
      rw [t.unh j hi]
      exact HoldRep.nil
  · obtain ⟨xs, e1, r1, l⟩ := t.hq j hj
    exact ⟨xs, by rw [upd_role t.rh (t.rl j hj) (by intro z; cases z)]; exact e1, r1.put t.own t.rh, l⟩
  · exact t.unh j fun z => hj (List.mem_append_left _ z)
/-- the queue of an item in a new list -/
theorem TabX.newQ (t : TabX C H0 H τ T L n dx ha qa da la hn kn) {i : It} {D : Addr} {xs : List V} {q : List (Int × Md)} (e : H D = some (.lst xs)) (hD : τ D = none) (h0 : H0 D = none) (r : QRep H xs q) (l : xs.length ≤ n)
    {kn' : List It} (nk : kn'.Nodup) (hk : ∀ j, j ∈ kn' ↔ j ∈ kn ∨ j = i) (hi : i ∈ hn) :
    TabX C H0 (upd H qa (.dK (tabD kn' (fput la i D)))) (fput τ D (some (.li i))) T (fput L i ⟨(L i).h, q⟩) n dx ha qa da (fput la i D) hn kn' := by
  have nD : ∀ {b : Addr} {r : Role}, τ b = some r → b ≠ D := fun {b r} hb z => by rw [z, hD] at hb; cases hb
  have kp : ∀ {b : Addr} {r : Role}, τ b = some r → fput τ D (some (.li i)) b = some r := fun {b r} hb => by rw [fput_ne (nD hb)]; exact hb
  have dne : D ≠ qa := fun z => by rw [z, t.rq] at hD; cases hD
  have hh : ∀ j, (fput L i ⟨(L i).h, q⟩ j).h = (L j).h := fun j => by
    by_cases e : j = i
    · rw [e, fput_same]
    · rw [fput_ne e]
  refine { own := ?_, eT := ?_, rT := kp t.rT, eh := ?_, rh := kp t.rh, eq := upd_same, rq := kp t.rq, ndh := t.ndh, ndk := nk, kh := fun j hj => ?_, rd := fun j hj => kp (t.rd j hj), hd := fun j hj => ?_, rl := fun j hj => ?_, hq := fun j hj => ?_, unh := fun j hj => by rw [hh]; exact t.unh j hj, unq := fun j hj => ?_ }
  · have O := t.own.put (o := .dK (tabD kn' (fput la i D))) t.rq True.intro
    refine ⟨O.sub, fun b r hb => ?_, fun b r hb => ?_⟩
    · by_cases z : b = D
      · rw [z]
        exact h0
      · rw [fput_ne z] at hb
        exact O.off b r hb
    · by_cases z : b = D
      · rw [z, upd_ne dne]
        exact ⟨_, e, True.intro⟩
      · rw [fput_ne z] at hb
        exact O.on b r hb
  · rw [upd_role t.rq t.rT (by intro z; cases z)]
    exact t.eT
  · rw [upd_role t.rq t.rh (by intro z; cases z)]
    exact t.eh
  · rcases (hk j).mp hj with h | h
    · exact t.kh j h
    · rw [h]
      exact hi
  · obtain ⟨kv, e1, r1⟩ := t.hd j hj
    exact ⟨kv, by rw [upd_role t.rq (t.rd j hj) (by intro z; cases z)]; exact e1, by rw [hh]; exact r1⟩
  · by_cases z : j = i
    · rw [z, fput_same, fput_same]
    · rw [fput_ne z]
      exact kp (t.rl j (((hk j).mp hj).resolve_right z))
  · by_cases z : j = i
    · subst z
      rw [fput_same, fput_same]
      exact ⟨xs, by rw [upd_ne dne]; exact e, r.put t.own t.rq, l⟩
    · have hj' := ((hk j).mp hj).resolve_right z
      obtain ⟨ys, e1, r1, l1⟩ := t.hq j hj'
      rw [fput_ne z, fput_ne z]
      exact ⟨ys, by rw [upd_role t.rq (t.rl j hj') (by intro z; cases z)]; exact e1, r1.put t.own t.rq, l1⟩
  · have h1 : j ∉ kn := fun z => hj ((hk j).mpr (.inl z))
    have h2 : j ≠ i := fun z => hj ((hk j).mpr (.inr z))
    rw [fput_ne h2]
    exact t.unq j h1
end
end K61
set_option Elab.async false
set_option linter.all false
set_option maxRecDepth 100000
set_option maxHeartbeats 4000000
namespace K61
open PySem PySem.Spec PyProof.Rows L2
/-- what the walk asks of the class LockTable -/
structure TxT (K : PySem.W.Frag) (C : Addr) : Prop where
  cl : Cls K C
  nH : NoAttr K C "_holders"
  nQ : NoAttr K C "_queues"
section
variable {P : Program} {w : World} {K : PySem.W.Frag} {mg : Str → Option Value} {base : Heap} {f C : Addr} {fd : FuncData}
/-! ### are_compatible -/
def spCompat : Sp := fun vs H Q _ => ∃ m n : Str, vs = [.str m, .str n] ∧ Q (.bl (decide (m = "shared" ∧ n = "shared"))) H
theorem scCompat : FnScope ["mode", "other"] ["mode", "other"] (defScope sCompat) := ⟨rfl, rfl, rfl, by decide +kernel, rfl, by decide +kernel, by decide +kernel⟩
theorem ok_compat (F : FnP K "are_compatible" "are_compatible" sCompat f fd) : FnOk P w K mg base CX0 1 f fd ["mode", "other"] spCompat := by
  refine F.ok scCompat (fun vs H Q E h => ?_) (fun cdv A outer s H vs Q E hr h => ?_)
  · obtain ⟨m, n, rfl, _⟩ := h
    rfl
  · obtain ⟨m, n, rfl, k⟩ := h
    refine ⟨_, PSs.nox (pss_one (ps_ret (pe_and (pe_cmpR op_eq (pv 0) pe_str (nomark _)) (pe_one (pe_cmpR op_eq (pv 1) pe_str (nomark _)))))), ?_⟩
    refine ⟨_, rfl, rfl, _, rfl, ?_⟩
    refine iteDec (fun c1 => ⟨_, rfl, rfl, ?_⟩) (fun c1 => ?_)
    · show Q (.bl (decide (V.str n = V.str "shared"))) H
      have e : decide (V.str n = V.str ("shared" : Str)) = decide (m = "shared" ∧ n = "shared") := by
        by_cases z : n = "shared"
        · rw [decide_eq_true (congrArg V.str z), decide_eq_true ⟨strI.mp c1, z⟩]
        · rw [decide_eq_false fun q => z (strI.mp q), decide_eq_false fun q => z q.2]
      rw [e]
      exact k
    · have e : decide (m = "shared" ∧ n = ("shared" : Str)) = false := decide_eq_false fun q => c1 (congrArg V.str q.1)
      rw [e] at k
      exact k
/-! ### LockTable() -/
def spTI (C : Addr) : Sp := fun vs H Q _ => ∃ (p dx : Addr) (H0 : Hp), vs = [.ref p] ∧ H p = some (.ins C dx []) ∧ Same H0 H ∧ H0 p = none ∧ ∀ H' τ, TabAt C H0 H' τ p (fun _ => LI.nil) 0 → Q .non H'
theorem scTI : FnScope ["self"] ["self"] (defScope (sLT 0)) := ⟨rfl, rfl, rfl, by decide +kernel, rfl, by decide +kernel, by decide +kernel⟩
theorem tf_put (ha qa : Addr) : putF "_queues" (V.ref qa) (putF "_holders" (.ref ha) []) = tf ha qa := by
  show (if ("_holders" : Str) = "_queues" then [(("_holders" : Str), V.ref qa)] else (("_holders" : Str), V.ref ha) :: putF "_queues" (V.ref qa) []) = tf ha qa
  rw [if_neg hq_ne]
  rfl
theorem ok_TI (F : FnP K "__init__" "LockTable.__init__" (sLT 0) f fd) (T : TxT K C) : FnOk P w K mg base CX0 1 f fd ["self"] (spTI C) := by
  refine F.ok scTI (fun vs H Q E h => ?_) (fun cdv A outer s H vs Q E hr h => ?_)
  · obtain ⟨p, dx, H0, rfl, _⟩ := h
    rfl
  · obtain ⟨p, dx, H0, rfl, hp, s0, h0, k⟩ := h
    refine ⟨_, PSs.nox (pss_cons (ps_fld (pv 0) pe_dnewK rfl) (pss_one (ps_fld (pv 0) pe_dnewK rfl))), ?_⟩
    intro ha hha
    have n1 : p ≠ ha := ne_of_none hp hha
    refine ⟨_, rfl, p, C, dx, [], rfl, (by rw [upd_ne n1]; exact hp), T.cl, T.nH, (by show 0 < 1000; decide), ?_⟩
    intro qa hqa
    obtain ⟨q1, q2⟩ := none_of hqa
    obtain ⟨q3, q4⟩ := none_of q1
    refine ⟨_, rfl, p, C, dx, _, rfl, (by rw [upd_ne q2.symm, upd_same]), T.cl, T.nQ, (by show 1 < 1000; decide), ?_⟩
    rw [tf_put]
    refine k _ (fput (fput (fput (fun _ => none) p (some .obj)) ha (some .d1)) qa (some .d2)) ⟨dx, ha, qa, fun _ => 0, fun _ => 0, [], ?_⟩
    have eT : upd (upd (upd (upd H ha (.dK [])) p (.ins C dx (putF "_holders" (.ref ha) []))) qa (.dK [])) p (.ins C dx (tf ha qa)) p = some (.ins C dx (tf ha qa)) := upd_same
    have eh : upd (upd (upd (upd H ha (.dK [])) p (.ins C dx (putF "_holders" (.ref ha) []))) qa (.dK [])) p (.ins C dx (tf ha qa)) ha = some (.dK []) := by rw [upd_ne n1.symm, upd_ne q4.symm, upd_ne n1.symm, upd_same]
    have eq : upd (upd (upd (upd H ha (.dK [])) p (.ins C dx (putF "_holders" (.ref ha) []))) qa (.dK [])) p (.ins C dx (tf ha qa)) qa = some (.dK []) := by rw [upd_ne q2, upd_same]
    have no : ∀ {b : Addr} {u : HO}, H0 b = some u → b ≠ p ∧ b ≠ ha ∧ b ≠ qa := fun {b u} e => ⟨fun z => (by rw [z, h0] at e; cases e), fun z => (by rw [z, s0.free hha] at e; cases e), fun z => (by rw [z, s0.free q3] at e; cases e)⟩
    refine { own := ⟨fun b u e => ?_, fun b r hb => ?_, fun b r hb => ?_⟩, eT := eT, rT := ?_, eh := eh, rh := ?_, eq := eq, rq := fput_same, ndh := List.nodup_nil, ndk := List.nodup_nil, kh := fun i h => h, rd := fun i h => (by cases h), hd := fun i h => (by cases h), rl := fun i h => (by cases h), hq := fun i h => (by cases h), unh := fun i _ => rfl, unq := fun i _ => rfl }
    · obtain ⟨m1, m2, m3⟩ := no e
      rw [upd_ne m1, upd_ne m3, upd_ne m1, upd_ne m2]
      exact s0 b u e
    · by_cases z : b = qa
      · rw [z]; exact s0.free q3
      rw [fput_ne z] at hb
      by_cases z2 : b = ha
      · rw [z2]; exact s0.free hha
      rw [fput_ne z2] at hb
      by_cases z3 : b = p
      · rw [z3]; exact h0
      rw [fput_ne z3] at hb
      cases hb
    · by_cases z : b = qa
      · rw [z]; exact ⟨_, eq, True.intro⟩
      rw [fput_ne z] at hb
      by_cases z2 : b = ha
      · rw [z2]; exact ⟨_, eh, True.intro⟩
      rw [fput_ne z2] at hb
      by_cases z3 : b = p
      · rw [z3]; exact ⟨_, eT, True.intro⟩
      rw [fput_ne z3] at hb
      cases hb
    · rw [fput_ne q2.symm, fput_ne n1, fput_same]
    · rw [fput_ne q4.symm, fput_same]
/-! ### items -/
def It.of (z : Str) : It := if z = "x" then .x else if z = "y" then .y else .z
theorem It.of_s (i : It) : It.of i.s = i := by
  cases i
  · exact if_pos rfl
  · exact (if_neg (by decide +kernel)).trans (if_pos rfl)
  · exact (if_neg (by decide +kernel)).trans (if_neg (by decide +kernel))
def spItems (C : Addr) : Sp := fun vs H Q _ => ∃ (T : Addr) (dx ha qa : Addr) (da : It → Addr) (hn : List It), vs = [.ref T] ∧ H T = some (.ins C dx (tf ha qa)) ∧ H ha = some (.dK (tabD hn da)) ∧ hn.Nodup ∧
  ∀ H' p (ys : List It), Same H H' → H p = none → H' p = some (.lst (ys.map fun i => V.str i.s)) → ys.Perm hn → Q (.ref p) H'
theorem scItems : FnScope ["self"] ["self"] (defScope (sLT 3)) := ⟨rfl, rfl, rfl, by decide +kernel, rfl, by decide +kernel, by decide +kernel⟩
theorem ok_items (F : FnP K "items" "LockTable.items" (sLT 3) f fd) (T : TxT K C) (mS : mg "sorted" = none) : FnOk P w K mg base CX0 1 f fd ["self"] (spItems C) := by
  refine F.ok scItems (fun vs H Q E h => ?_) (fun cdv A outer s H vs Q E hr h => ?_)
  · obtain ⟨a, dx, ha, qa, da, hn, rfl, _⟩ := h
    rfl
  · obtain ⟨a, dx, ha, qa, da, hn, rfl, eT, eh, nd, k⟩ := h
    refine ⟨_, PSs.nox (pss_one (ps_ret (pe_callB (call_sortedD rfl) (by rfl) mS (by decide +kernel) (pa_cons (pe_fld (pv 0) rfl) pa_nil)))), ?_⟩
    refine ⟨_, rfl, a, C, dx, _, _, rfl, eT, T.cl, T.nH, tf_h ha qa, ha, _, hn.map It.s, rfl, .inl eh, tabD_keys hn da, ?_, fun ys p pm _ hp => ?_⟩
    · have := it_len nd
      rw [List.length_map]
      omega
    · have e1 : ys = (ys.map It.of).map It.s := by
        rw [List.map_map]
        refine (List.map_id ys).symm.trans (List.map_congr_left fun y hy => ?_)
        obtain ⟨i, _, e⟩ := List.mem_map.mp (pm.mem_iff.mp hy)
        show y = (It.of y).s
        rw [← e, It.of_s]
      have e2 : (ys.map It.of).Perm hn := by
        have := pm.map It.of
        rw [List.map_map] at this
        have e3 : hn.map (It.of ∘ It.s) = hn := (List.map_congr_left fun i _ => It.of_s i).trans (List.map_id hn)
        rw [e3] at this
        exact this
      refine k _ p (ys.map It.of) (same_upd hp) hp ?_ e2
      rw [upd_same]
      have e4 : ys.map V.str = ((ys.map It.of).map It.s).map V.str := by rw [← e1]
      rw [e4, List.map_map]
      rfl
/-! ### holders -/
def spHold (C : Addr) : Sp := fun vs H Q _ => ∃ (T dx ha qa d : Addr) (i : It) (hk kvs : List (Key × V)) (h : Int → Option Md), vs = [.ref T, .str i.s] ∧ H T = some (.ins C dx (tf ha qa)) ∧ H ha = some (.dK hk) ∧ valV hk (Sum.inr i.s) = some (.ref d) ∧
  H d = some (.dK kvs) ∧ HoldRep kvs h ∧ ∀ H' p ys, Same H H' → H' p = some (.lst ys) → (∀ y ∈ ys, ∃ b t m, y = V.ref b ∧ H' b = some (.tup [.int t, .str (Md.s m)]) ∧ h t = some m) →
    (∀ t m, h t = some m → ∃ b, V.ref b ∈ ys ∧ H' b = some (.tup [.int t, .str m.s])) → ys.length ≤ 8 → Q (.ref p) H'
theorem scHold : FnScope ["self", "item"] ["self", "item"] (defScope (sLT 1)) := ⟨rfl, rfl, rfl, by decide +kernel, rfl, by decide +kernel, by decide +kernel⟩
theorem ok_hold (F : FnP K "holders" "LockTable.holders" (sLT 1) f fd) (T : TxT K C) (mS : mg "sorted" = none) : FnOk P w K mg base CX0 1 f fd ["self", "item"] (spHold C) := by
  refine F.ok scHold (fun vs H Q E h => ?_) (fun cdv A outer s H vs Q E hr h => ?_)
  · obtain ⟨a, dx, ha, qa, d, i, hk, kvs, h, rfl, _⟩ := h
    rfl
  · obtain ⟨a, dx, ha, qa, d, i, hk, kvs, h, rfl, eT, eh, el, ed, r, k⟩ := h
    have hu := hu_of hr
    refine ⟨_, PSs.nox (pss_one (ps_ret (pe_callB (cr_sortedIK rfl) (by rfl) mS (by decide +kernel) (pa_cons
      (pe_bm0 PySem.F.plainAttrs_dict PySem.F.slot_dict_items PySem.F.type_dict_items mt_itemsK (pe_dget2 hu (pe_fld (pv 0) rfl) (pv 1) pe_dnewK ⟨rfl, rfl, rfl, rfl⟩)) pa_nil)))), ?_⟩
    refine ⟨_, rfl, a, C, dx, _, _, rfl, eT, T.cl, T.nH, tf_h ha qa, ha, rfl, .inl ⟨_, .inl eh⟩, _, rfl, fun e he => ?_⟩
    have s1 := same_upd (o := .dK []) he
    refine ⟨_, DGet.k (k := Sum.inr i.s) (s1 _ _ eh), ?_⟩
    rw [el]
    refine ⟨.inr (.inr (.inl ⟨rfl, .inl ⟨_, s1 _ _ ed⟩⟩)), d, kvs, rfl, rfl, s1 _ _ ed, fun p hp => ?_⟩
    have s2 := s1.trans (same_upd (o := DX.itemsO p d) hp)
    refine ⟨p, d, kvs, rfl, upd_same, s2 _ _ ed, fun q hq => ?_, fun H' l ys s3 hl el' h1 h2 h3 => ?_⟩
    · obtain ⟨t, m, e, _⟩ := r.en q hq
      exact ⟨t, m.s, e⟩
    · refine k H' l ys (s2.trans s3) el' (fun y hy => ?_) (fun t m hm => ?_) (by rw [h3]; exact r.len)
      · obtain ⟨b, t, z, e1, e2, e3⟩ := h1 y hy
        obtain ⟨m, e4, e5⟩ := r.mem.mp e3
        exact ⟨b, t, m, e1, by rw [← e5]; exact e2, e4⟩
      · exact h2 t m.s (r.mem.mpr ⟨m, hm, rfl⟩)
/-! ### waiting -/
def wq (L : It → LI) (t : Int) : Prop := ∃ i, t ∈ (L i).q.map (·.1)
def spWaiting (C : Addr) : Sp := fun vs H Q _ => ∃ (T : Addr) (t : Int) (H0 : Hp) (τ : Lbl) (L : It → LI) (n : Nat), vs = [.ref T, .int t] ∧ TabAt C H0 H τ T L n ∧
  ∀ H' v, Same H H' → (wq L t → ∃ q, v = V.ref q) → (¬ wq L t → v = .non) → Q v H'
theorem scWaiting : FnScope ["self", "t", "item", "other", "mode"] ["self", "t"] (defScope (sLT 4)) := ⟨rfl, rfl, rfl, by decide +kernel, rfl, by decide +kernel, by decide +kernel⟩
theorem ok_waiting (F : FnP K "waiting" "LockTable.waiting" (sLT 4) f fd) (T : TxT K C) (GI : MFn P w K mg base CX0 1 C "items" ["self"] (spItems C)) : FnOk P w K mg base CX0 2 f fd ["self", "t"] (spWaiting C) := by
  obtain ⟨fI, fdI, mI, bI, GI⟩ := GI
  refine F.ok scWaiting (fun vs H Q E h => ?_) (fun cdv A outer s H vs Q E hr h => ?_)
  · obtain ⟨a, t, H0, τ, L, n, rfl, _⟩ := h
    rfl
  · obtain ⟨a, t, H0, τ, L, n, rfl, ⟨dx, ha, qa, da, la, kn, X⟩, k⟩ := h
    have hu := hu_of hr
    refine ⟨_, PSs.nox (pss_cons (ps_for PassesOwn.never rfl (pi_list (pe_meth0 (pv 0) T.cl mI GI hr bI .nil pass0)) (pg_name (i := 2) scWaiting.nd rfl (Or.inl rfl))
        (pss_one (ps_for PassesOwn.never rfl (pi_list (pe_dget hu (pe_fld (pv 0) rfl) (pv 2) (fun _ _ => rfl))) (pg_tup rfl (pgs_cons (pg_name (i := 3) scWaiting.nd rfl (Or.inl rfl)) (pgs_cons (pg_name (i := 4) scWaiting.nd rfl (Or.inl rfl)) pgs_nil)))
          (pss_one (ps_if (pt_cmpR op_eq (pv 3) (pv 1) (nomark _)) (pss_one (ps_ret (pe_tup (pa_cons (pv 2) (pa_cons (pv 4) pa_nil))))) pss_nil)))))
      (pss_one (ps_ret pe_non))), ?_⟩
    refine ⟨_, rfl, a, dx, _, rfl, X.eT, tf_no ha qa (by decide +kernel) (by decide +kernel), a, dx, ha, qa, da, kn, rfl, X.eT, X.eh, X.ndh, fun H1 p ys s1 hp e1 pm => ?_⟩
    refine ⟨p, rfl, ⟨_, SqL.of e1⟩, for_list (K := K) (a := p) (xs := ys.map fun i => V.str i.s) (fun i σ H2 => ∃ (u v z : Option V), σ = [some (.ref a), some (.int t), u, v, z] ∧ Same H1 H2 ∧ ∀ j ∈ ys.take i, t ∉ (L j).q.map (·.1))
      ⟨none, none, none, rfl, Same.refl H1, fun j h => by cases h⟩ (fun i σ H2 _ h => by obtain ⟨_, _, _, _, h, _⟩ := h; exact SqL.of (h _ _ e1)) ?_ ?_⟩
    · rintro i y σ H2 hi ⟨u, v, z, rfl, s2, no⟩
      rw [List.getElem?_map] at hi
      obtain ⟨j, hj, rfl⟩ := Option.map_eq_some_iff.mp hi
      have jm : j ∈ kn := pm.mem_iff.mp (List.mem_of_getElem? hj)
      have X2 := X.same (s1.trans s2)
      obtain ⟨xs, e2, r2, _⟩ := X2.hq j jm
      have tk := take_more hj
      refine ⟨_, rfl, a, C, dx, _, _, rfl, X2.eT, T.cl, T.nQ, tf_q ha qa, _, rfl, qa, _, rfl, by have := DGet.k (k := Sum.inr j.s) X2.eq; rw [tabD_in jm] at this; exact this, la j, rfl, ⟨_, SqL.of e2⟩,
        for_list (K := K) (a := la j) (xs := xs) (fun m σ H3 => ∃ (v z : Option V), σ = [some (.ref a), some (.int t), some (.str j.s), v, z] ∧ Same H1 H3 ∧ H3 (la j) = some (.lst xs) ∧ QRep H3 xs (L j).q ∧ t ∉ ((L j).q.take m).map (·.1))
        ⟨v, z, rfl, s2, e2, r2, by simp⟩ (fun m σ H3 _ h => by obtain ⟨_, _, _, _, h, _⟩ := h; exact SqL.of h) ?_ ?_⟩
      · rintro m y σ H3 hm ⟨v, z, rfl, s3, e3, r3, no3⟩
        obtain ⟨q, hq, b, rfl, hb⟩ := pget r3 hm
        refine ⟨b, _, rfl, SqT.of hb, rfl, _, _, rfl, _, _, rfl, rfl, ?_⟩
        refine ⟨_, rfl, _, rfl, rfl, _, rfl, ?_⟩
        refine iteDec (fun c => ?_) (fun c => ?_)
        · refine ⟨_, rfl, _, rfl, (by show 2 ≤ sizeLine; decide), fun T2 hT2 => ?_⟩
          have hw : wq L t := ⟨j, List.mem_map.mpr ⟨q, List.mem_of_getElem? hq, intI.mp c⟩⟩
          exact k _ _ (s1.trans (s3.trans (same_upd hT2))) (fun _ => ⟨_, rfl⟩) (fun z => absurd hw z)
        · refine ⟨_, _, rfl, s3, e3, r3, ?_⟩
          rw [take_more hq, map_snoc]
          exact fun z => (mem_snoc.mp z).elim no3 fun e => c (intI.mpr e.symm)
      · rintro σ H3 ⟨v, z, rfl, s3, e3, r3, no3⟩
        rw [r3.length, List.take_length] at no3
        refine ⟨_, _, _, rfl, s3, fun j' hj' => ?_⟩
        rw [tk] at hj'
        rcases mem_snoc.mp hj' with h | h
        · exact no j' h
        · rw [h]
          exact no3
    · rintro σ H2 ⟨u, v, z, rfl, s2, no⟩
      rw [List.length_map, List.take_length] at no
      have nw : ¬ wq L t := fun ⟨j, hj⟩ => by
        by_cases jm : j ∈ kn
        · exact no j (pm.mem_iff.mpr jm) hj
        · rw [X.unq j jm] at hj
          cases hj
      exact k H2 _ (s1.trans s2) (fun h => absurd h nw) (fun _ => rfl)
end
end K61
set_option Elab.async false
set_option linter.all false
set_option maxRecDepth 100000
set_option maxHeartbeats 4000000
namespace K61
open PySem PySem.Spec PyProof.Rows L2
section
variable {P : Program} {w : World} {K : PySem.W.Frag} {mg : Str → Option Value} {base : Heap} {f C : Addr} {fd : FuncData}
/-! ### is_free -/
def spFree (C : Addr) : Sp := fun vs H Q _ => ∃ (T dx ha qa d : Addr) (t : Int) (i : It) (m : Md) (hk kvs : List (Key × V)) (h : Int → Option Md), vs = [.ref T, .int t, .str i.s, .str m.s] ∧ H T = some (.ins C dx (tf ha qa)) ∧ H ha = some (.dK hk) ∧ valV hk (Sum.inr i.s) = some (.ref d) ∧
  H d = some (.dK kvs) ∧ HoldRep kvs h ∧ ∀ H' b, Same H H' → (b = true ↔ compat h t m) → Q (.bl b) H'
theorem scFree : FnScope ["self", "t", "item", "mode", "other", "held"] ["self", "t", "item", "mode"] (defScope (sLT 5)) := ⟨rfl, rfl, rfl, by decide +kernel, rfl, by decide +kernel, by decide +kernel⟩
theorem md_sh {m : Md} : m.s = ("shared" : Str) ↔ m = .sh := by
  cases m with
  | sh => exact ⟨fun _ => rfl, fun _ => rfl⟩
  | ex => exact ⟨fun h => absurd h (by decide +kernel), fun h => by cases h⟩
theorem ok_free (F : FnP K "is_free" "LockTable.is_free" (sLT 5) f fd) (T : TxT K C) (GH : MFn P w K mg base CX0 1 C "holders" ["self", "item"] (spHold C)) (GC : GFn P w K mg base CX0 1 "are_compatible" ["mode", "other"] spCompat) (mA : mg "all" = none) :
    FnOk P w K mg base CX0 3 f fd ["self", "t", "item", "mode"] (spFree C) := by
  obtain ⟨fH, fdH, mH, bH, GH⟩ := GH
  obtain ⟨fC, fdC, mC, kC, bC, GC⟩ := GC
  refine F.ok scFree (fun vs H Q E h => ?_) (fun cdv A outer s H vs Q E hr h => ?_)
  · obtain ⟨a, dx, ha, qa, d, t, i, m, hk, kvs, h, rfl, _⟩ := h
    rfl
  · obtain ⟨a, dx, ha, qa, d, t, i, m, hk, kvs, h, rfl, eT, eh, el, ed, r, k⟩ := h
    refine ⟨_, PSs.nox (pss_one (ps_ret (pe_callB (cr_all rfl) (by rfl) mA (by decide +kernel) (pa_cons
      (pe_lc (own := [("other", 4), ("held", 5)]) (g := gTup K 2 (gCons (gName 4) (gCons (gName 5) gNil))) (by rfl) scFree.nd (pi_list (pe_meth (pv 0) T.cl mH GH (hr.mono (by decide)) bH .nil pass0 (pa_cons (pv 2) pa_nil)))
        (blkOk_by (own := [("other", 4), ("held", 5)]) (N := ["self", "t", "item", "mode", "other", "held"]) (sc := defScope (sLT 5)) (by decide +kernel))
        (fun _ _ _ _ _ => pg_tup rfl (pgs_cons (pg_name (i := 4) scFree.nd rfl (Or.inl rfl)) (pgs_cons (pg_name (i := 5) scFree.nd rfl (Or.inl rfl)) pgs_nil))) (fun _ _ _ _ _ => pts_nil)
        (fun _ _ _ _ _ => pe_or (pe_cmpR op_eq (pv 4) (pv 1) (nomark _)) (pe_one (pe_call GC (hr.mono (by decide)) rfl mC kC bC .nil pass0 (pa_cons (pv 3) (pa_cons (pv 5) pa_nil)))))) pa_nil)))), ?_⟩
    refine ⟨_, rfl, a, dx, _, rfl, eT, tf_no ha qa (by decide +kernel) (by decide +kernel), _, rfl, a, dx, ha, qa, d, i, hk, kvs, h, rfl, eT, eh, el, ed, r, fun H1 p ys s1 e1 h1 h2 h8 => ?_⟩
    refine ⟨p, rfl, ⟨_, SqL.of e1⟩, fun D hD => ?_⟩
    refine lc_list (K := K) (a := p) (xs := ys) (fun j H2 => Same H1 H2 ∧ ∃ bs : List Bool, H2 D = some (.lst (bs.map V.bl)) ∧ bs.length = j ∧ (bs.all id = true ↔ ∀ y ∈ ys.take j, ∀ b u n, y = V.ref b → H1 b = some (.tup [.int u, .str (Md.s n)]) → u = t ∨ (m = .sh ∧ n = .sh)))
      ⟨same_upd hD, [], upd_same, rfl, ⟨fun _ y hy => (by cases hy), fun _ => rfl⟩⟩ (fun j H2 _ q => SqL.of (q.1 _ _ e1)) ?_ ?_
    · rintro j y H2 hj ⟨s2, bs, e2, lb, ib⟩
      obtain ⟨b, u, n, rfl, hb, hu⟩ := h1 y (List.mem_of_getElem? hj)
      refine ⟨b, _, rfl, SqT.of (s2 _ _ hb), rfl, _, _, rfl, _, _, rfl, rfl, rfl, ?_⟩
      have hl : j < ys.length := (List.getElem?_eq_some_iff.mp hj).1
      have step : ∀ c : Bool, (c = true ↔ u = t ∨ (m = .sh ∧ n = .sh)) → ((bs ++ [c]).all id = true ↔ ∀ y ∈ ys.take (j + 1), ∀ b u n, y = V.ref b → H1 b = some (.tup [.int u, .str (Md.s n)]) → u = t ∨ (m = .sh ∧ n = .sh)) := fun c hc => by
        rw [List.all_append, Bool.and_eq_true, ib, take_more hj]
        constructor
        · rintro ⟨q1, q2⟩ y hy b' u' n' e3 e4
          rcases mem_snoc.mp hy with hy | hy
          · exact q1 y hy b' u' n' e3 e4
          · have eb : b = b' := V.ref.inj (hy.symm.trans e3)
            subst eb
            rw [hb] at e4
            injection e4 with e4
            injection e4 with e4
            injection e4 with e5 e6
            injection e6 with e6 _
            have e5 := V.int.inj e5
            have e6 := md_inj (V.str.inj e6)
            subst e5 e6
            have q2 : (c && true) = true := q2
            rw [Bool.and_true] at q2
            exact hc.mp q2
        · intro q
          refine ⟨fun y hy => q y (mem_snoc.mpr (.inl hy)), ?_⟩
          show (c && true) = true
          rw [Bool.and_true]
          exact hc.mpr (q _ (mem_snoc.mpr (.inr rfl)) b u n rfl hb)
      refine ⟨_, rfl, _, rfl, rfl, _, rfl, ?_⟩
      refine iteDec (fun c => ?_) (fun c => ?_)
      · refine ⟨_, e2, lt_line (by rw [List.length_map]; omega), same_put s2 hD, bs ++ [true], by rw [upd_same, map_snoc], by rw [List.length_append, lb]; rfl, step true ⟨fun _ => .inl (intI.mp c), fun _ => rfl⟩⟩
      · refine ⟨_, rfl, _, rfl, _, _, rfl, ?_⟩
        refine ⟨_, e2, lt_line (by rw [List.length_map]; omega), same_put s2 hD, bs ++ [decide (m.s = "shared" ∧ n.s = "shared")], by rw [upd_same, map_snoc], by rw [List.length_append, lb]; rfl, step _ ?_⟩
        rw [decide_eq_true_iff, md_sh, md_sh]
        exact ⟨.inr, fun z => z.resolve_left fun e => c (intI.mpr e)⟩
    · rintro H2 ⟨s2, bs, e2, lb, ib⟩
      refine ⟨D, bs, rfl, SqL.of e2, k H2 _ (s1.trans s2) ?_⟩
      rw [ib, List.take_length]
      constructor
      · intro q u n hu
        obtain ⟨b, hb, eb⟩ := h2 u n hu
        exact q _ hb b u n rfl eb
      · intro q y hy b u n e3 e4
        obtain ⟨b', u', n', e5, e6, e7⟩ := h1 y hy
        have eb : b = b' := V.ref.inj (e3.symm.trans e5)
        subst eb
        rw [e4] at e6
        injection e6 with e6
        injection e6 with e6
        injection e6 with e8 e9
        injection e9 with e9 _
        have e8 := V.int.inj e8
        have e9 := md_inj (V.str.inj e9)
        subst e8 e9
        exact q u n e7
end
end K61
set_option Elab.async false
set_option linter.all false
set_option maxRecDepth 100000
set_option maxHeartbeats 4000000
namespace K61
open PySem PySem.Spec PyProof.Rows L2
theorem fput_self {α β : Type} [DecidableEq α] (f : α → β) (a : α) : fput f a (f a) = f := by
  funext c
  by_cases e : c = a
  · rw [e, fput_same]
  · rw [fput_ne e]
theorem fput_fput {α β : Type} [DecidableEq α] (f : α → β) (a : α) (x y : β) : fput (fput f a x) a y = fput f a y := by
  funext c
  by_cases e : c = a
  · rw [e, fput_same, fput_same]
  · rw [fput_ne e, fput_ne e, fput_ne e]
theorem pdrop {α β : Type} {F : α → β → Prop} : ∀ {xs : List α} {ys : List β} (n : Nat), Paired F xs ys → Paired F (xs.drop n) (ys.drop n)
  | _, _, 0, h => h
  | _, _, n + 1, .nil => .nil
  | _, _, n + 1, .cons r t => pdrop n t
/-- the mode that is held, as a value -/
def hv : Option Md → V
  | none => .non
  | some m => .str m.s
theorem hv_get (o : Option Md) : (o.map fun m => V.str m.s).getD .non = hv o := by cases o <;> rfl
theorem hv_scal (o : Option Md) (z : Str) : scal (hv o) (.str z) = true := by cases o <;> rfl
theorem hv_md {o : Option Md} {m : Md} : hv o = V.str m.s ↔ o = some m := by
  cases o with
  | none => exact ⟨fun h => (by cases h), fun h => (by cases h)⟩
  | some n =>
    constructor
    · intro h
      rw [md_inj (V.str.inj h)]
    · intro h
      rw [Option.some.inj h]
      rfl
theorem hv_non {o : Option Md} : hv o = V.non ↔ o = none := by
  cases o with
  | none => exact ⟨fun _ => rfl, fun _ => rfl⟩
  | some n => exact ⟨fun h => (by cases h), fun h => (by cases h)⟩
/-- a test, weakened: what is known of the answer is said once -/
def tMonoT (t : TT) : TT := fun σ H Q => ∃ Q0 : Bool → Hp → Prop, t σ H Q0 ∧ ∀ b H1, Q0 b H1 → Q b H1
theorem pt_mono {X : Cx} {e : Expr} {t : TT} (h : PT X e t) : PT X e (tMonoT t) := by
  refine ⟨fun pins s σ H Q I q => ?_⟩
  obtain ⟨Q0, q0, w⟩ := q
  exact thn (h.run pins s σ H Q0 I q0) fun d s1 ⟨H1, I1, q1⟩ => ⟨H1, I1, w d H1 q1⟩
section
variable {P : Program} {w : World} {K : PySem.W.Frag} {mg : Str → Option Value} {base : Heap} {f C : Addr} {fd : FuncData}
def spAsk (C : Addr) : Sp := fun vs H Q _ => ∃ (T : Addr) (t : Int) (i : It) (m : Md) (H0 : Hp) (τ : Lbl) (L : It → LI) (n : Nat), vs = [.ref T, .int t, .str i.s, .str m.s] ∧ TabAt C H0 H τ T L n ∧ ¬ wq L t ∧ 1 ≤ t ∧ t ≤ 8 ∧ n ≤ 9000 ∧
  ∀ H' τ' L' z b, TabAt C H0 H' τ' T (fput L i L') (n + 1) → Ask (L i) t m L' b → (z = ("waits" : Str) ↔ b = false) → Q (.str z) H'
theorem scAsk : FnScope ["self", "t", "item", "mode", "held", "place", "other", "_"] ["self", "t", "item", "mode"] (defScope (sLT 6)) := ⟨rfl, rfl, rfl, by decide +kernel, rfl, by decide +kernel, by decide +kernel⟩
theorem ok_ask (F : FnP K "ask" "LockTable.ask" (sLT 6) f fd) (T : TxT K C) (GW : MFn P w K mg base CX0 2 C "waiting" ["self", "t"] (spWaiting C)) (GF : MFn P w K mg base CX0 3 C "is_free" ["self", "t", "item", "mode"] (spFree C)) (mL : mg "len" = none) :
    FnOk P w K mg base CX0 4 f fd ["self", "t", "item", "mode"] (spAsk C) := by
  obtain ⟨fW, fdW, mW, bW, GW⟩ := GW
  obtain ⟨fF, fdF, mF, bF, GF⟩ := GF
  refine F.ok scAsk (fun vs H Q E h => ?_) (fun cdv A outer s H vs Q E hr h => ?_)
  · obtain ⟨a, t, i, m, H0, τ, L, n, rfl, _⟩ := h
    rfl
  · obtain ⟨a, t, i, m, H0, τ, L, n, rfl, ⟨dx, ha, qa, da, la, kn, X⟩, nw, t1, t8, hn, k⟩ := h
    have hu := hu_of hr
    refine ⟨_, PSs.nox (pss_cons (ps_if (pt_cmpR op_notN (pe_meth (pv 0) T.cl mW GW (hr.mono (by decide)) bW .nil pass0 (pa_cons (pv 1) pa_nil)) pe_non (nomark _)) (pss_one ps_never) pss_nil)
      (C8.pss_cut (ps_expr (pe_dsetd (pe_fld (pv 0) rfl) (pv 2) pe_dnewK ⟨rfl, rfl, rfl, rfl⟩))
      (C8.pss_cut (ps_expr (pe_dsetd (pe_fld (pv 0) rfl) (pv 2) (pe_lst pa_nil) ⟨rfl, rfl, rfl, rfl⟩))
      (pss_cons (ps_set (i := 4) scAsk.nd rfl (Or.inl rfl) (pe_dget1 hu (pe_dget hu (pe_fld (pv 0) rfl) (pv 2) (fun _ _ => rfl)) (pv 1) ⟨rfl, rfl, rfl, rfl⟩))
      (pss_cons (ps_if (PW.pt (pw_or (pt_cmpR op_eq (pv 4) pe_str (nomark _)) (pw_or1 (pt_cmpR op_eq (pv 4) (pv 3) (nomark _))))) (pss_one (ps_ret pe_str)) pss_nil)
      (pss_cons (ps_if (pt_mono (PW.pt (pw_and (pt_val (pe_meth (pv 0) T.cl mF GF hr bF .nil pass0 (pa_cons (pv 1) (pa_cons (pv 2) (pa_cons (pv 3) pa_nil)))))
          (pw_and1 (PW.pt (pw_or (pt_cmpR op_notN (pv 4) pe_non (nomark _)) (pw_or1 (pt_cmpR op_eq (pe_callB call_len (by rfl) mL PySem.boot_len (pa_cons (pe_dget hu (pe_fld (pv 0) rfl) (pv 2) (fun _ _ => rfl)) pa_nil)) pe_int (nomark _)))))))))
        (pss_cons (ps_dput hu (pe_dget hu (pe_fld (pv 0) rfl) (pv 2) (fun _ _ => rfl)) (pv 1) (pv 3) rfl) (pss_one (ps_ret pe_str))) pss_nil)
      (pss_cons (ps_set (i := 5) scAsk.nd rfl (Or.inl rfl) (pe_callB call_len (by rfl) mL PySem.boot_len (pa_cons (pe_dget hu (pe_fld (pv 0) rfl) (pv 2) (fun _ _ => rfl)) pa_nil)))
      (C8.pss_cut (ps_if (pt_cmpR op_notN (pv 4) pe_non (nomark _)) (pss_one (ps_set (i := 5) scAsk.nd rfl (Or.inl rfl) (pe_callB call_len (by rfl) mL PySem.boot_len (pa_cons
          (pe_lc (own := [("other", 6), ("_", 7)]) (g := gTup K 2 (gCons (gName 6) (gCons (gName 7) gNil))) (by rfl) scAsk.nd (pi_list (pe_dget hu (pe_fld (pv 0) rfl) (pv 2) (fun _ _ => rfl)))
            (blkOk_by (own := [("other", 6), ("_", 7)]) (N := ["self", "t", "item", "mode", "held", "place", "other", "_"]) (sc := defScope (sLT 6)) (by decide +kernel))
            (fun _ _ _ _ _ => pg_tup rfl (pgs_cons (pg_name (i := 6) scAsk.nd rfl (Or.inl rfl)) (pgs_cons (pg_name (i := 7) scAsk.nd rfl (Or.inl rfl)) pgs_nil)))
            (fun _ _ _ _ _ => pts_one (pt_cmp (pc_din hu (pv 6) (pe_dget hu (td := tFld K (tVar 0) "_holders") (pe_fld (pv 0) rfl) (pv 2) (fun _ _ => rfl)))))
            (fun _ _ _ _ _ => pv 6)) pa_nil)))) pss_nil)
      (pss_cons (ps_expr (pe_bm PySem.F.plainAttrs_list PySem.F.slot_list_insert PySem.F.type_list_insert mt_insert (pe_dget hu (pe_fld (pv 0) rfl) (pv 2) (fun _ _ => rfl)) (pa_cons (pv 5) (pa_cons (pe_tup (pa_cons (pv 1) (pa_cons (pv 3) pa_nil))) pa_nil))))
      (pss_one (ps_ret pe_str))))))))))), ?_⟩
    -- if self.waiting(t) is not None
    refine ⟨_, rfl, a, dx, _, rfl, X.eT, tf_no ha qa (by decide +kernel) (by decide +kernel), _, rfl, a, t, H0, τ, L, n, rfl, ⟨dx, ha, qa, da, la, kn, X⟩, fun H1 v s1 _ hv0 => ?_⟩
    obtain rfl := hv0 nw
    refine ⟨rfl, _, rfl, iteNS rfl ?_⟩
    have X1 := X.same s1
    -- self._holders.setdefault(item, {})
    refine ⟨fun σ H2 => σ = [some (.ref a), some (.int t), some (.str i.s), some (.str m.s), none, none, none, none] ∧ ∃ τ' da' hn', TabX C H0 H2 τ' a L n dx ha qa da' la hn' kn ∧ ((i ∈ kn ∧ hn' = kn) ∨ (i ∉ kn ∧ hn' = kn ++ [i])), ?_, ?_⟩
    · refine ⟨_, rfl, a, C, dx, _, _, rfl, X1.eT, T.cl, T.nH, tf_h ha qa, ha, rfl, .inl ⟨_, .inl X1.eh⟩, _, rfl, fun e he => ?_⟩
      have se := same_upd (o := .dK []) he
      have Xe := X1.same se
      refine ⟨_, Sum.inr i.s, Xe.eh, rfl, lt_line (by unfold tabD; rw [List.length_map]; have := it_len X.ndk; omega), fun v hv' => ?_, fun hv' => ?_⟩
      · by_cases hi : i ∈ kn
        · exact ⟨rfl, τ, da, kn, Xe, .inl ⟨hi, rfl⟩⟩
        · rw [tabD_out hi] at hv'
          cases hv'
      · have hi : i ∉ kn := fun z => by rw [tabD_in z] at hv'; cases hv'
        rw [tabD_new hi]
        exact ⟨rfl, _, _, _, Xe.newH hi upd_same (X1.own.new he) (X1.own.sub.free he), .inr ⟨hi, rfl⟩⟩
    rintro σ H2 ⟨rfl, τ2, da2, hn2, X2, hi2⟩
    -- self._queues.setdefault(item, [])
    refine ⟨fun σ H3 => σ = [some (.ref a), some (.int t), some (.str i.s), some (.str m.s), none, none, none, none] ∧ ∃ τ' da' la' kn', TabX C H0 H3 τ' a L n dx ha qa da' la' kn' kn' ∧ i ∈ kn', ?_, ?_⟩
    · refine ⟨_, rfl, a, C, dx, _, _, rfl, X2.eT, T.cl, T.nQ, tf_q ha qa, qa, rfl, .inl ⟨_, .inl X2.eq⟩, _, rfl, Nat.zero_le _, fun e he => ?_⟩
      have se := same_upd (o := .lst []) he
      have Xe := X2.same se
      refine ⟨_, Sum.inr i.s, Xe.eq, rfl, lt_line (by unfold tabD; rw [List.length_map]; have := it_len X.ndk; omega), fun v hv' => ?_, fun hv' => ?_⟩
      · rcases hi2 with ⟨hi, rfl⟩ | ⟨hi, _⟩
        · exact ⟨rfl, τ2, da2, la, _, Xe, hi⟩
        · rw [tabD_out hi] at hv'
          cases hv'
      · rcases hi2 with ⟨hi, _⟩ | ⟨hi, rfl⟩
        · rw [tabD_in hi] at hv'
          cases hv'
        · rw [tabD_new hi]
          have Y := Xe.newQ (i := i) (q := []) (kn' := kn ++ [i]) upd_same (X2.own.new he) (X2.own.sub.free he) .nil (Nat.zero_le _) X2.ndh (fun j => mem_snoc) (mem_snoc.mpr (.inr rfl))
          have eL : fput L i ⟨(L i).h, []⟩ = L := by
            have e : (⟨(L i).h, []⟩ : LI) = L i := by rw [← X.unq i hi]
            rw [e, fput_self]
          rw [eL] at Y
          exact ⟨rfl, _, _, _, _, Y, mem_snoc.mpr (.inr rfl)⟩
    rintro σ H3 ⟨rfl, τ3, da3, la3, kn3, X3, hi3⟩
    obtain ⟨kvs, ed, r⟩ := X3.hd i hi3
    obtain ⟨xs, el, rq, ll⟩ := X3.hq i hi3
    have gH : ∀ {H' : Hp}, Same H3 H' → DGet H' ha (.str i.s) (some (.ref (da3 i))) := fun {H'} s => by
      have := DGet.k (k := Sum.inr i.s) (s _ _ X3.eh)
      rw [tabD_in hi3] at this
      exact this
    have gQ : ∀ {H' : Hp}, Same H3 H' → DGet H' qa (.str i.s) (some (.ref (la3 i))) := fun {H'} s => by
      have := DGet.k (k := Sum.inr i.s) (s _ _ X3.eq)
      rw [tabD_in hi3] at this
      exact this
    -- held = self._holders[item].get(t)
    refine ⟨_, rfl, a, C, dx, _, _, rfl, X3.eT, T.cl, T.nH, tf_h ha qa, _, rfl, ha, _, rfl, gH (Same.refl _), da3 i, rfl, .inl ⟨_, .inl ed⟩, _, rfl, _, DGet.k (k := Sum.inl t) ed, ?_⟩
    rw [r.at_, hv_get]
    -- if held == 'exclusive' or held == mode
    have same3 : fput L i (L i) = L := fput_self L i
    have heldQ : hasIt (L i) t m → Q (.str "held") H3 := fun h => k H3 τ3 (L i) "held" true (by rw [same3]; exact ⟨_, _, _, _, _, _, X3.mono (Nat.le_succ n)⟩) (.held h) ⟨fun z => absurd z (by decide +kernel), fun z => by cases z⟩
    refine ⟨_, rfl, hv_scal _ _, _, rfl, ?_⟩
    refine iteDec (fun c1 => iteT (heldQ (.inl ?_))) (fun c1 => ?_)
    · exact (hv_md (m := .ex)).mp c1
    refine ⟨_, rfl, _, rfl, hv_scal _ _, _, rfl, ?_⟩
    refine iteDec (fun c2 => heldQ (.inr (hv_md.mp c2))) (fun c2 => ?_)
    have nh : ¬ hasIt (L i) t m := fun h => h.elim (fun h => c1 ((hv_md (m := .ex)).mpr h)) fun h => c2 (hv_md.mpr h)
    -- if self.is_free(t, item, mode) and (..)
    refine ⟨fun b H4 => Same H3 H4 ∧ (b = true ↔ free (L i) t m), ?_, ?_⟩
    · refine ⟨_, rfl, a, dx, _, rfl, X3.eT, tf_no ha qa (by decide +kernel) (by decide +kernel), _, rfl, _, rfl, _, rfl, a, dx, ha, qa, da3 i, t, i, m, _, kvs, (L i).h, rfl, X3.eT, X3.eh, tabD_in hi3, ed, r, fun H4 b s4 hb => ⟨b, rfl, ?_⟩⟩
      refine iteB (fun b1 => ?_) (fun b0 => ⟨s4, ⟨fun z => (by cases z), fun z => (by rw [b0] at hb; exact absurd (hb.mpr z.1) (by decide))⟩⟩)
      have cp := hb.mp b1
      refine ⟨_, rfl, rfl, _, rfl, ?_⟩
      refine iteNDec (fun c3 => ⟨s4, ⟨fun _ => ⟨cp, .inl fun z => c3 (hv_non.mpr z)⟩, fun _ => rfl⟩⟩) (fun c3 => ?_)
      have X4 := X3.same s4
      refine ⟨_, rfl, a, C, dx, _, _, rfl, X4.eT, T.cl, T.nQ, tf_q ha qa, _, rfl, qa, _, rfl, gQ s4, _, _, rfl, .inl ⟨_, SqL.of (s4 _ _ el), rfl⟩, rfl, _, rfl, s4, ?_⟩
      rw [decide_eq_true_iff, intI]
      constructor
      · intro z
        refine ⟨cp, .inr ?_⟩
        have : xs.length = 0 := by exact_mod_cast z
        rw [rq.length] at this
        exact List.eq_nil_of_length_eq_zero this
      · rintro ⟨_, z | z⟩
        · exact absurd (hv_non.mp c3) z
        · have : xs.length = 0 := by rw [rq.length, z]; rfl
          exact_mod_cast this
    rintro b H4 ⟨s4, hb⟩
    have X4 := X3.same s4
    refine iteB (fun b1 => ?_) (fun b0 => ?_)
    · -- granted
      refine ⟨_, rfl, _, rfl, a, C, dx, _, _, rfl, X4.eT, T.cl, T.nH, tf_h ha qa, _, rfl, ha, _, rfl, gH s4, _, rfl, da3 i, _, rfl, DPut.k (k := Sum.inl t) (s4 _ _ ed) (lt_line (by have := r.len; omega)), ?_⟩
      have Y := (X4.setH hi3 (r.put m t1 t8)).mono (Nat.le_succ n)
      exact k _ τ3 _ "granted" true ⟨_, _, _, _, _, _, Y⟩ (.granted nh (hb.mp b1)) ⟨fun z => absurd z (by decide +kernel), fun z => by cases z⟩
    · -- waits
      have nf : ¬ free (L i) t m := fun z => by rw [b0] at hb; exact absurd (hb.mpr z) (by decide)
      refine ⟨_, rfl, a, C, dx, _, _, rfl, X4.eT, T.cl, T.nQ, tf_q ha qa, _, rfl, qa, _, rfl, gQ s4, _, _, rfl, .inl ⟨_, SqL.of (s4 _ _ el), rfl⟩, ?_⟩
      refine ⟨fun σ H5 => Same H3 H5 ∧ ∃ (p : Nat), p ≤ xs.length ∧ σ = [some (.ref a), some (.int t), some (.str i.s), some (.str m.s), some (hv ((L i).h t)), some (.int p), none, none], ?_, ?_⟩
      · refine ⟨_, rfl, rfl, _, rfl, ?_⟩
        refine iteNDec (fun c3 => ?_) (fun c3 => ⟨s4, xs.length, Nat.le_refl _, rfl⟩)
        refine ⟨_, rfl, a, C, dx, _, _, rfl, X4.eT, T.cl, T.nQ, tf_q ha qa, _, rfl, qa, _, rfl, gQ s4, la3 i, rfl, ⟨_, SqL.of (s4 _ _ el)⟩, fun D hD => ?_⟩
        refine lc_list (K := K) (a := la3 i) (xs := xs) (fun j H5 => Same H4 H5 ∧ ∃ acc, H5 D = some (.lst acc) ∧ acc.length ≤ j) ⟨same_upd hD, [], upd_same, Nat.zero_le _⟩ (fun j H5 _ h => SqL.of (h.1 _ _ (s4 _ _ el))) ?_ ?_
        · rintro j y H5 hj ⟨s5, acc, e5, l5⟩
          obtain ⟨q, _, b', rfl, hb'⟩ := pget rq hj
          have jl : j < xs.length := (List.getElem?_eq_some_iff.mp hj).1
          refine ⟨b', _, rfl, SqT.of (s5 _ _ (s4 _ _ hb')), rfl, _, _, rfl, _, _, rfl, rfl, rfl, ?_⟩
          have X5 := X4.same s5
          refine ⟨_, rfl, _, rfl, a, C, dx, _, _, rfl, X5.eT, T.cl, T.nH, tf_h ha qa, _, rfl, ha, _, rfl, gH (s4.trans s5), da3 i, _, rfl, DGet.k (k := Sum.inl q.1) (s5 _ _ (s4 _ _ ed)), _, rfl, ?_⟩
          refine iteB (fun _ => ?_) (fun _ => ⟨s5, acc, e5, by omega⟩)
          exact ⟨_, rfl, acc, e5, lt_line (by omega), same_put s5 hD, _, upd_same, by rw [List.length_append, List.length_singleton]; omega⟩
        · rintro H5 ⟨s5, acc, e5, l5⟩
          exact ⟨_, _, rfl, .inl ⟨_, SqL.of e5, rfl⟩, s4.trans s5, acc.length, l5, rfl⟩
      rintro σ H5 ⟨s5, p, hp, rfl⟩
      have X5 := X3.same s5
      refine ⟨_, rfl, a, C, dx, _, _, rfl, X5.eT, T.cl, T.nQ, tf_q ha qa, _, rfl, qa, _, rfl, gQ s5, .inl ⟨rfl, _, SqL.of (s5 _ _ el)⟩, _, rfl, _, rfl, _, rfl, (by show 2 ≤ sizeLine; decide), fun R hR => ?_⟩
      have s6 := s5.trans (same_upd (o := .tup [V.int t, V.str m.s]) hR)
      have X6 := X3.same s6
      refine ⟨la3 i, xs, p, _, rfl, rfl, s6 _ _ el, lt_line (by omega), by omega, by omega, ?_⟩
      have rq6 := rq.same s6
      have nq : QRep (upd H5 R (.tup [V.int t, V.str m.s])) (xs.take (p : Int).toNat ++ [.ref R] ++ xs.drop (p : Int).toNat) ((L i).q.take p ++ (t, m) :: (L i).q.drop p) := by
        rw [List.append_assoc, Int.toNat_natCast]
        exact pappend (ptake p rq6) (.cons ⟨R, rfl, upd_same⟩ (pdrop p rq6))
      have Y := (X6.mono (Nat.le_succ n)).setQ hi3 nq (by
        rw [List.length_append, List.length_append, List.length_take, List.length_drop, Int.toNat_natCast, List.length_singleton]
        omega)
      exact k _ τ3 _ "waits" false ⟨_, _, _, _, _, _, Y⟩ (.waits p nh nf (by rw [← rq.length]; exact hp)) ⟨fun _ => rfl, fun _ => rfl⟩
end
end K61
set_option Elab.async false
set_option linter.all false
set_option maxRecDepth 100000
set_option maxHeartbeats 4000000
namespace K61
open PySem PySem.Spec PyProof.Rows L2
theorem Own.weak {H0 H1 H : Hp} {τ : Lbl} (O : Own H1 H τ) (s : Same H0 H1) : Own H0 H τ := ⟨s.trans O.sub, fun b r e => s.free (O.off b r e), O.on⟩
theorem Own.other {H0 H : Hp} {τ : Lbl} {R : Addr} {o : HO} (O : Own H0 H τ) (h : τ R = none) : Own (upd H0 R o) (upd H R o) τ := by
  have ne : ∀ {b : Addr} {r : Role}, τ b = some r → b ≠ R := fun {b r} e z => by rw [z, h] at e; cases e
  refine ⟨fun b u e => ?_, fun b r e => ?_, fun b r e => ?_⟩
  · by_cases z : b = R
    · rw [z, upd_same] at e
      rw [z, upd_same]
      exact e
    · rw [upd_ne z] at e
      rw [upd_ne z]
      exact O.sub b u e
  · rw [upd_ne (ne e)]
    exact O.off b r e
  · rw [upd_ne (ne e)]
    exact O.on b r e
section
variable {C : Addr} {H0 H H' : Hp} {τ : Lbl} {T : Addr} {L : It → LI} {n : Nat} {dx ha qa : Addr} {da la : It → Addr} {hn kn : List It}
theorem TabX.weak {H1 : Hp} (t : TabX C H1 H τ T L n dx ha qa da la hn kn) (s : Same H0 H1) : TabX C H0 H τ T L n dx ha qa da la hn kn := { t with own := t.own.weak s }
theorem TabX.base (t : TabX C H0 H τ T L n dx ha qa da la hn kn) : TabX C (wipeL τ H) H τ T L n dx ha qa da la hn kn := { t with own := t.own.base }
/-- a list that is not the table's is written -/
theorem TabX.other (t : TabX C H0 H τ T L n dx ha qa da la hn kn) {R : Addr} {l : List V} {o : HO} (h : τ R = none) (hR : H R = some (.lst l)) : TabX C (upd H0 R o) (upd H R o) τ T L n dx ha qa da la hn kn where
  own := t.own.other h
  eT := by rw [upd_ne (fun z => by have := t.rT; rw [z, h] at this; cases this)]; exact t.eT
  rT := t.rT
  eh := by rw [upd_ne (fun z => by have := t.rh; rw [z, h] at this; cases this)]; exact t.eh
  rh := t.rh
  eq := by rw [upd_ne (fun z => by have := t.rq; rw [z, h] at this; cases this)]; exact t.eq
  rq := t.rq
  ndh := t.ndh
  ndk := t.ndk
  kh := t.kh
  rd := t.rd
  hd := fun i hi => by
    obtain ⟨kvs, e, r⟩ := t.hd i hi
    exact ⟨kvs, by rw [upd_ne (fun z => by have := t.rd i hi; rw [z, h] at this; cases this)]; exact e, r⟩
  rl := t.rl
  hq := fun i hi => by
    obtain ⟨xs, e, r, l'⟩ := t.hq i hi
    refine ⟨xs, by rw [upd_ne (fun z => by have := t.rl i hi; rw [z, h] at this; cases this)]; exact e, ?_, l'⟩
    exact Paired.mono (fun v p ⟨a, e, ha⟩ => ⟨a, e, by rw [upd_ne (ne_of ha hR (by intro z; cases z))]; exact ha⟩) r
  unh := t.unh
  unq := t.unq
end
section
variable {P : Program} {w : World} {K : PySem.W.Frag} {mg : Str → Option Value} {base : Heap} {f C : Addr} {fd : FuncData}
def spGrant (C : Addr) : Sp := fun vs H Q _ => ∃ (T : Addr) (i : It) (H0 : Hp) (τ : Lbl) (L : It → LI) (n : Nat) (dx ha qa : Addr) (da la : It → Addr) (kn : List It), vs = [.ref T, .str i.s] ∧ TabX C H0 H τ T L n dx ha qa da la kn kn ∧ i ∈ kn ∧
  (∀ p ∈ (L i).q, 1 ≤ p.1 ∧ p.1 ≤ 8) ∧ n ≤ 9000 ∧
  ∀ H' L' p (l : List Int), TabX C H0 H' τ T (fput L i L') n dx ha qa da la kn kn → Grant (L i) L' → H p = none → H' p = some (.lst (l.map V.int)) → l.length ≤ n → Q (.ref p) H'
theorem scGrant : FnScope ["self", "item", "granted", "queue", "t", "mode"] ["self", "item"] (defScope (sLT 7)) := ⟨rfl, rfl, rfl, by decide +kernel, rfl, by decide +kernel, by decide +kernel⟩
theorem Grant.snoc {A B : LI} (g : Grant A B) {t : Int} {m : Md} {q : List (Int × Md)} (e : B.q = (t, m) :: q) (c : compat B.h t m) : Grant A ⟨fput B.h t (some m), q⟩ := by
  induction g with
  | done => exact .step e c .done
  | step e1 c1 _ ih => exact .step e1 c1 (ih e c)
theorem ok_grant (F : FnP K "grant" "LockTable.grant" (sLT 7) f fd) (T : TxT K C) (GF : MFn P w K mg base CX0 3 C "is_free" ["self", "t", "item", "mode"] (spFree C)) (mL : mg "len" = none) :
    FnOk P w K mg base CX0 4 f fd ["self", "item"] (spGrant C) := by
  obtain ⟨fF, fdF, mF, bF, GF⟩ := GF
  refine F.ok scGrant (fun vs H Q E h => ?_) (fun cdv A outer s H vs Q E hr h => ?_)
  · obtain ⟨a, i, H0, τ, L, n, dx, ha, qa, da, la, kn, rfl, _⟩ := h
    rfl
  · obtain ⟨a, i, H0, τ, L, n, dx, ha, qa, da, la, kn, rfl, X, hi, h8, hn, k⟩ := h
    have hu := hu_of hr
    refine ⟨_, PSs.nox (pss_cons (ps_set (i := 2) scGrant.nd rfl (Or.inl rfl) (pe_lst pa_nil))
      (pss_cons (ps_set (i := 3) scGrant.nd rfl (Or.inl rfl) (pe_dget hu (pe_fld (pv 0) rfl) (pv 1) (fun _ _ => rfl)))
      (pss_cons (ps_while PassesOwn.never (pt_mono (PW.pt (pw_and (pt_cmpR op_gt (pe_callB call_len (by rfl) mL PySem.boot_len (pa_cons (pv 3) pa_nil)) pe_int (nomark _))
          (pw_and1 (pt_val (pe_meth (pv 0) T.cl mF GF hr bF .nil pass0 (pa_cons (pe_ix (r := rIxT K) ix_tup (pe_ix (r := rIxL K) ix_list (pv 3) pe_int (fun _ _ => rfl)) pe_int (fun _ _ => rfl)) (pa_cons (pv 1) (pa_cons (pe_ix (r := rIxT K) ix_tup (pe_ix (r := rIxL K) ix_list (pv 3) pe_int (fun _ _ => rfl)) pe_int (fun _ _ => rfl)) pa_nil)))))))))
        (pss_cons (ps_asg (pe_bm PySem.F.plainAttrs_list PySem.F.slot_list_pop PySem.F.type_list_pop mt_popAt (pv 3) (pa_cons pe_int pa_nil)) (pg_tup rfl (pgs_cons (pg_name (i := 4) scGrant.nd rfl (Or.inl rfl)) (pgs_cons (pg_name (i := 5) scGrant.nd rfl (Or.inl rfl)) pgs_nil))))
        (pss_cons (ps_dput hu (pe_dget hu (pe_fld (pv 0) rfl) (pv 1) (fun _ _ => rfl)) (pv 4) (pv 5) rfl)
        (pss_one (ps_expr (pe_bm PySem.F.plainAttrs_list PySem.F.slot_list_append PySem.F.type_list_append mt_append (pv 2) (pa_cons (pv 4) pa_nil)))))))
      (pss_one (ps_ret (pv 2)))))), ?_⟩
    refine ⟨Nat.zero_le _, fun p hp => ?_⟩
    have X1 := X.same (same_upd (o := .lst []) hp)
    have gH : ∀ {H' : Hp}, H' ha = some (.dK (tabD kn da)) → DGet H' ha (.str i.s) (some (.ref (da i))) := fun {H'} e => by
      have := DGet.k (k := Sum.inr i.s) e
      rw [tabD_in hi] at this
      exact this
    have gQ : DGet (upd H p (.lst [])) qa (.str i.s) (some (.ref (la i))) := by
      have := DGet.k (k := Sum.inr i.s) X1.eq
      rw [tabD_in hi] at this
      exact this
    have τp : τ p = none := X.own.new hp
    obtain ⟨xs0, e0, r0, l0⟩ := X1.hq i hi
    refine ⟨_, rfl, a, C, dx, _, _, rfl, X1.eT, T.cl, T.nQ, tf_q ha qa, _, rfl, qa, _, rfl, gQ, ?_⟩
    refine while_by (fun σ H2 => ∃ (u v : Option V) (B : LI) (l : List Int), σ = [some (.ref a), some (.str i.s), some (.ref p), some (.ref (la i)), u, v] ∧ TabX C H0 H2 τ a (fput L i B) n dx ha qa da la kn kn ∧ Grant (L i) B ∧
        H2 p = some (.lst (l.map V.int)) ∧ l.length + B.q.length ≤ n ∧ (∀ q ∈ B.q, 1 ≤ q.1 ∧ q.1 ≤ 8))
      (fun σ H2 => match H2 (la i) with | some (.lst xs) => xs.length | _ => 0)
      ⟨none, none, L i, [], rfl, by rw [fput_self]; exact X1, .done, upd_same, by rw [← r0.length]; simpa using l0, h8⟩ ?_ (fun σ H Q Q' w ⟨Q0, q0, z⟩ => ⟨Q0, q0, fun b H1 h => w b H1 (z b H1 h)⟩)
    rintro σ H2 ⟨u, v, B, l, rfl, X2, g2, e2, ll, b8⟩
    obtain ⟨xs, eq2, rq, lq⟩ := X2.hq i hi
    rw [fput_same] at rq
    obtain ⟨kvs, ed, rh⟩ := X2.hd i hi
    rw [fput_same] at rh
    -- the test
    refine ⟨fun b H3 => Same H2 H3 ∧ (b = true → ∃ t m q, B.q = (t, m) :: q ∧ compat B.h t m), ?_, ?_⟩
    · refine ⟨_, rfl, _, _, rfl, .inl ⟨_, SqL.of eq2, rfl⟩, _, _, rfl, rfl, _, rfl, ?_⟩
      refine iteDec (fun c1 => ?_) (fun _ => ⟨Same.refl _, fun z => by cases z⟩)
      cases hB : B.q with
      | nil =>
        have : xs.length = 0 := by rw [rq.length, hB]; rfl
        omega
      | cons pr q =>
        obtain ⟨t, m⟩ := pr
        rw [hB] at rq
        obtain ⟨y, hy, b, rfl, hb⟩ := pget' rq (i := 0) (y := (t, m)) rfl
        have fst : atI [V.int t, V.str m.s] 0 = some (V.int t) := at_of (j := 0) rfl rfl
        have snd : atI [V.int t, V.str m.s] 1 = some (V.str m.s) := at_of (j := 1) rfl rfl
        refine ⟨_, rfl, a, dx, _, rfl, X2.eT, tf_no ha qa (by decide +kernel) (by decide +kernel), _, rfl, _, _, _, _, rfl, rfl, SqL.of eq2, at_of (j := 0) rfl hy, _, _, _, _, rfl, rfl, SqT.of hb, fst, _, rfl, _, rfl, _, _, _, _, rfl, rfl, SqL.of eq2, at_of (j := 0) rfl hy, _, _, _, _, rfl, rfl, SqT.of hb, snd,
          a, dx, ha, qa, da i, t, i, m, _, kvs, B.h, rfl, X2.eT, X2.eh, tabD_in hi, ed, rh, fun H4 c s4 hc => ⟨c, rfl, s4, fun z => ⟨t, m, q, rfl, hc.mp z⟩⟩⟩
    rintro b H3 ⟨s3, hb⟩
    have X3 := X2.same s3
    refine iteB (fun b1 => ?_) (fun b0 => ?_)
    · obtain ⟨t, m, q, hB, cp⟩ := hb b1
      rw [hB] at rq
      obtain ⟨y, hy, b', rfl, hb'⟩ := pget' rq (i := 0) (y := (t, m)) rfl
      obtain ⟨xs', rfl⟩ : ∃ xs', xs = V.ref b' :: xs' := by
        cases xs with
        | nil => cases hy
        | cons x xs' =>
          have e : x = V.ref b' := Option.some.inj hy
          exact ⟨xs', by rw [e]⟩
      have rq' : QRep H2 xs' q := by
        cases rq with
        | cons _ r => exact r
      have eq3 := s3 _ _ eq2
      have tb8 := b8 (t, m) (by rw [hB]; exact List.mem_cons_self)
      have hb3 : upd H3 (la i) (.lst ((V.ref b' :: xs').eraseIdx 0)) b' = some (.tup [.int t, .str m.s]) := by
        have ne : b' ≠ la i := ne_of (s3 _ _ hb') eq3 (by intro z; cases z)
        rw [upd_ne ne]
        exact s3 _ _ hb'
      refine ⟨_, rfl, .inl ⟨rfl, _, SqL.of eq3⟩, la i, _, 0, 0, .ref b', rfl, rfl, eq3, by decide, by decide, ?_, rfl, b', _, rfl, SqT.of hb3, rfl, _, _, rfl, _, _, rfl, rfl, ?_⟩
      · show (let j := if (0 : Int) < 0 then (0 : Int) + ((V.ref b' :: xs').length : Int) else 0; if (0 ≤ j && j < ((V.ref b' :: xs').length : Int)) = true then some j.toNat else none) = some 0
        have e : (0 : Int) < ((V.ref b' :: xs').length : Int) := by rw [List.length_cons]; omega
        simp [e]
      have Y := X3.setQ hi (xs := xs') (q := q) (rq'.same s3) (by have := lq; rw [List.length_cons] at this; omega)
      rw [fput_fput, fput_same] at Y
      obtain ⟨kvs', ed', rh'⟩ := Y.hd i hi
      rw [fput_same] at rh'
      refine ⟨_, rfl, _, rfl, a, C, dx, _, _, rfl, Y.eT, T.cl, T.nH, tf_h ha qa, _, rfl, ha, _, rfl, gH Y.eh, _, rfl, da i, _, rfl, DPut.k (k := Sum.inl t) ed' (lt_line (by have := rh'.len; omega)), ?_⟩
      have Z := Y.setH hi (rh'.put m tb8.1 tb8.2)
      rw [fput_fput, fput_same] at Z
      have npl : p ≠ la i := fun z => by have := X.rl i hi; rw [← z, τp] at this; cases this
      have npd : p ≠ da i := fun z => by have := X.rd i hi; rw [← z, τp] at this; cases this
      have ep : upd (upd H3 (la i) (.lst xs')) (da i) (.dK (putK kvs' (Sum.inl t) (.str m.s))) p = some (.lst (l.map V.int)) := by
        rw [upd_ne npd, upd_ne npl]
        exact s3 _ _ e2
      refine ⟨_, rfl, .inl ⟨rfl, _, SqL.of ep⟩, _, rfl, p, _, _, rfl, rfl, ep, lt_line (by rw [List.length_map]; omega), ?_⟩
      have W := (Z.other (o := .lst (l.map V.int ++ [V.int t])) τp ep).weak (H0 := H0) (same_upd (X.own.sub.free hp))
      refine ⟨⟨_, _, ⟨fput B.h t (some m), q⟩, l ++ [t], rfl, W, g2.snoc hB cp, by rw [upd_same, map_snoc], ?_, fun z hz => b8 z (by rw [hB]; exact List.mem_cons_of_mem _ hz)⟩, ?_⟩
      · rw [hB, List.length_cons] at ll
        rw [List.length_append, List.length_singleton]
        show l.length + 1 + q.length ≤ n
        omega
      · have nld : la i ≠ da i := role_ne (X.rl i hi) (X.rd i hi) (by intro z; cases z)
        have e1 : upd (upd (upd H3 (la i) (.lst xs')) (da i) (.dK (putK kvs' (Sum.inl t) (.str m.s)))) p (.lst (l.map V.int ++ [V.int t])) (la i) = some (.lst xs') := by rw [upd_ne npl.symm, upd_ne nld, upd_same]
        show (match upd (upd (upd H3 (la i) (.lst xs')) (da i) (.dK (putK kvs' (Sum.inl t) (.str m.s)))) p (.lst (l.map V.int ++ [V.int t])) (la i) with | some (.lst xs) => xs.length | _ => 0) < (match H2 (la i) with | some (.lst xs) => xs.length | _ => 0)
        rw [e1, eq2]
        show xs'.length < (V.ref b' :: xs').length
        rw [List.length_cons]
        exact Nat.lt_succ_self _
    · exact ⟨_, rfl, k H3 B p l X3 g2 hp (s3 _ _ e2) (by omega)⟩
end
end K61
set_option Elab.async false
set_option linter.all false
set_option maxRecDepth 100000
set_option maxHeartbeats 4000000
namespace K61
open PySem PySem.Spec PyProof.Rows L2
theorem Own.toBase {H0 H : Hp} {τ : Lbl} (O : Own H0 H τ) : Same H0 (wipeL τ H) := fun b u e => by
  have n : τ b = none := by
    cases z : τ b with
    | none => rfl
    | some r => rw [O.off b r z] at e; cases e
  rw [wipeL_none n]
  exact O.sub b u e
/-- what stood beside the table stands, and is not the table's -/
theorem keep_of {H H' : Hp} {τ τ' : Lbl} (O' : Own (wipeL τ H) H' τ') {b : Addr} {u : HO} (n : τ b = none) (e : H b = some u) : H' b = some u ∧ τ' b = none := by
  have e1 : wipeL τ H b = some u := by rw [wipeL_none n]; exact e
  refine ⟨O'.sub b u e1, ?_⟩
  cases z : τ' b with
  | none => rfl
  | some r => rw [O'.off b r z] at e1; cases e1
theorem none_put (h : Int → Option Md) (t : Int) (e : h t = none) : fput h t none = h := by
  have := fput_self h t
  rw [e] at this
  exact this
section
variable {P : Program} {w : World} {K : PySem.W.Frag} {mg : Str → Option Value} {base : Heap} {f C : Addr} {fd : FuncData}
def spRel (C : Addr) : Sp := fun vs H Q _ => ∃ (T : Addr) (t : Int) (H0 : Hp) (τ : Lbl) (L : It → LI) (n : Nat), vs = [.ref T, .int t] ∧ TabAt C H0 H τ T L n ∧ (∀ i, ∀ p ∈ (L i).q, 1 ≤ p.1 ∧ p.1 ≤ 8) ∧ n ≤ 9000 ∧
  ∀ H' τ' L' p xs, TabAt C H0 H' τ' T L' n → (∀ i, Rel (L i) t (L' i)) → H' p = some (.lst xs) → Q (.ref p) H'
theorem scRel : FnScope ["self", "t", "granted", "item", "pair"] ["self", "t"] (defScope (sLT 8)) := ⟨rfl, rfl, rfl, by decide +kernel, rfl, by decide +kernel, by decide +kernel⟩
theorem ok_rel (F : FnP K "release" "LockTable.release" (sLT 8) f fd) (T : TxT K C) (GI : MFn P w K mg base CX0 1 C "items" ["self"] (spItems C)) (GG : MFn P w K mg base CX0 4 C "grant" ["self", "item"] (spGrant C)) :
    FnOk P w K mg base CX0 5 f fd ["self", "t"] (spRel C) := by
  obtain ⟨fI, fdI, mI, bI, GI⟩ := GI
  obtain ⟨fG, fdG, mG, bG, GG⟩ := GG
  refine F.ok scRel (fun vs H Q E h => ?_) (fun cdv A outer s H vs Q E hr h => ?_)
  · obtain ⟨a, t, H0, τ, L, n, rfl, _⟩ := h
    rfl
  · obtain ⟨a, t, H0, τ, L, n, rfl, ⟨dx, ha, qa, da, la, kn, X⟩, h8, hn, k⟩ := h
    have hu := hu_of hr
    refine ⟨_, PSs.nox (pss_cons (ps_set (i := 2) scRel.nd rfl (Or.inl rfl) (pe_lst pa_nil))
      (pss_cons (ps_for PassesOwn.never rfl (pi_list (pe_meth0 (pv 0) T.cl mI GI (hr.mono (by decide)) bI .nil pass0)) (pg_name (i := 3) scRel.nd rfl (Or.inl rfl))
        (C8.pss_cut (ps_if (pt_cmp (pc_din hu (pv 1) (pe_dget hu (td := tFld K (tVar 0) "_holders") (pe_fld (pv 0) rfl) (pv 3) (fun _ _ => rfl))))
            (pss_one (ps_ddel (pe_dget hu (td := tFld K (tVar 0) "_holders") (pe_fld (pv 0) rfl) (pv 3) (fun _ _ => rfl)) (pv 1))) pss_nil)
        (pss_cons (ps_dput hu (pe_fld (pv 0) rfl) (pv 3) (pe_lc (own := [("pair", 4)]) (g := gName 4) (by rfl) scRel.nd (pi_list (pe_dget hu (pe_fld (pv 0) rfl) (pv 3) (fun _ _ => rfl)))
            (blkOk_by (own := [("pair", 4)]) (N := ["self", "t", "granted", "item", "pair"]) (sc := defScope (sLT 8)) (by decide +kernel))
            (fun _ _ _ _ _ => pg_name (i := 4) scRel.nd rfl (Or.inl rfl))
            (fun _ _ _ _ _ => pts_one (pt_cmpR op_ne (pe_ix (r := rIxT K) ix_tup (pv 4) pe_int (fun _ _ => rfl)) (pv 1) (nomark _)))
            (fun _ _ _ _ _ => pv 4)) rfl)
        (pss_one (ps_expr (pe_bm PySem.F.plainAttrs_list PySem.F.slot_list_extend PySem.F.type_list_extend mt_extend (pv 2) (pa_cons (pe_meth (pv 0) T.cl mG GG hr bG .nil pass0 (pa_cons (pv 3) pa_nil)) pa_nil)))))))
      (pss_one (ps_ret (pv 2))))), ?_⟩
    refine ⟨Nat.zero_le _, fun R hR => ?_⟩
    have hR0 : H0 R = none := X.own.sub.free hR
    have X0 := X.same (same_upd (o := .lst []) hR)
    refine ⟨_, rfl, a, dx, _, rfl, X0.eT, tf_no ha qa (by decide +kernel) (by decide +kernel), a, dx, ha, qa, da, kn, rfl, X0.eT, X0.eh, X0.ndh, fun H1 p ys s1 hp e1 pm => ?_⟩
    have X1 := X0.same s1
    have nd : ys.Nodup := pm.nodup_iff.mpr X.ndk
    have y3 : ys.length ≤ 3 := it_len nd
    refine ⟨p, rfl, ⟨_, SqL.of e1⟩, for_list (K := K) (a := p) (xs := ys.map fun i => V.str i.s) (fun i σ H2 => ∃ (u : Option V) (l : List V) (τ2 : Lbl) (L2 : It → LI) (la2 : It → Addr), σ = [some (.ref a), some (.int t), some (.ref R), u, none] ∧ TabX C H0 H2 τ2 a L2 n dx ha qa da la2 kn kn ∧
        (∀ j ∈ ys.take i, Rel (L j) t (L2 j)) ∧ (∀ j, j ∉ ys.take i → L2 j = L j) ∧ τ2 R = none ∧ H2 R = some (.lst l) ∧ l.length ≤ i * n ∧ τ2 p = none ∧ H2 p = some (.lst (ys.map fun i => V.str i.s)))
      ⟨none, [], τ, L, la, rfl, X1, fun j h => (by cases h), fun j _ => rfl, X.own.new hR, s1 _ _ upd_same, Nat.zero_le _, X0.own.new hp, e1⟩ (fun i σ H2 _ h => by obtain ⟨_, _, _, _, _, _, _, _, _, _, _, _, _, h⟩ := h; exact SqL.of h) ?_ ?_⟩
    · rintro i y σ H2 hi ⟨u, l, τ2, L2, la2, rfl, X2, rel, un, τR, eR, lR, τp, ep⟩
      rw [List.getElem?_map] at hi
      obtain ⟨j, hj, rfl⟩ := Option.map_eq_some_iff.mp hi
      have il : i < ys.length := (List.getElem?_eq_some_iff.mp hj).1
      have jm : j ∈ kn := pm.mem_iff.mp (List.mem_of_getElem? hj)
      have tk := take_more hj
      have jn : j ∉ ys.take i := fun z => by
        have nd2 : (ys.take (i + 1)).Nodup := List.Nodup.sublist (List.take_sublist _ _) nd
        rw [tk] at nd2
        exact (List.nodup_append.mp nd2).2.2 j z j (List.mem_singleton.mpr rfl) rfl
      have ej := un j jn
      obtain ⟨kvs, ed, rh⟩ := X2.hd j jm
      have gH : DGet H2 ha (.str j.s) (some (.ref (da j))) := by
        have := DGet.k (k := Sum.inr j.s) X2.eh
        rw [tabD_in jm] at this
        exact this
      -- if t in self._holders[item]: del self._holders[item][t]
      refine ⟨fun σ H3 => σ = [some (.ref a), some (.int t), some (.ref R), some (.str j.s), none] ∧ TabX C H0 H3 τ2 a (fput L2 j ⟨fput (L2 j).h t none, (L2 j).q⟩) n dx ha qa da la2 kn kn ∧ H3 R = some (.lst l) ∧ H3 p = some (.lst (ys.map fun i => V.str i.s)), ?_, ?_⟩
      · refine ⟨_, rfl, _, rfl, a, C, dx, _, _, rfl, X2.eT, T.cl, T.nH, tf_h ha qa, _, rfl, ha, _, rfl, gH, da j, _, rfl, DGet.k (k := Sum.inl t) ed, _, rfl, ?_⟩
        rw [rh.at_]
        refine iteB (fun c => ?_) (fun c => ⟨rfl, ?_, eR, ep⟩)
        · refine ⟨_, rfl, a, C, dx, _, _, rfl, X2.eT, T.cl, T.nH, tf_h ha qa, _, rfl, ha, _, rfl, gH, _, rfl, da j, kvs, Sum.inl t, rfl, ed, rfl, (by rw [rh.at_]; exact c), rfl, X2.setH jm (rh.drop t), ?_, ?_⟩
          · rw [upd_ne (fun z => by rw [z, X2.rd j jm] at τR; cases τR)]
            exact eR
          · rw [upd_ne (fun z => by rw [z, X2.rd j jm] at τp; cases τp)]
            exact ep
        · have hn0 : (L2 j).h t = none := by
            cases z : (L2 j).h t with
            | none => rfl
            | some m => rw [z] at c; cases c
          rw [none_put _ _ hn0]
          have e : (⟨(L2 j).h, (L2 j).q⟩ : LI) = L2 j := rfl
          rw [e, fput_self]
          exact X2
      rintro σ H3 ⟨rfl, X3, eR3, ep3⟩
      obtain ⟨xs, el, rq, lq⟩ := X3.hq j jm
      rw [fput_same] at rq
      have gQ : DGet H3 qa (.str j.s) (some (.ref (la2 j))) := by
        have := DGet.k (k := Sum.inr j.s) X3.eq
        rw [tabD_in jm] at this
        exact this
      -- the queue without t
      refine ⟨_, rfl, a, C, dx, _, _, rfl, X3.eT, T.cl, T.nQ, tf_q ha qa, _, rfl, qa, _, rfl, gQ, la2 j, rfl, ⟨_, SqL.of el⟩, fun D hD => ?_⟩
      refine lc_list (K := K) (a := la2 j) (xs := xs) (fun m H5 => Same H3 H5 ∧ ∃ acc, H5 D = some (.lst acc) ∧ acc.length ≤ m ∧ QRep H3 acc (((L2 j).q.take m).filter fun p => decide (p.1 ≠ t))) ⟨same_upd hD, [], upd_same, Nat.zero_le _, .nil⟩ (fun m H5 _ h => SqL.of (h.1 _ _ el)) ?_ ?_
      · rintro m y H5 hm ⟨s5, acc, e5, l5, r5⟩
        obtain ⟨q, hq, b', rfl, hb'⟩ := pget rq hm
        have ml : m < xs.length := (List.getElem?_eq_some_iff.mp hm).1
        refine ⟨rfl, ?_⟩
        refine ⟨_, rfl, _, _, _, _, rfl, rfl, SqT.of (s5 _ _ hb'), at_of (j := 0) rfl rfl, _, rfl, rfl, _, rfl, ?_⟩
        refine iteNDec (fun c => ?_) (fun c => ?_)
        · refine ⟨_, rfl, acc, e5, lt_line (by omega), same_put s5 hD, _, upd_same, by rw [List.length_append, List.length_singleton]; omega, ?_⟩
          rw [take_more hq, filter_snoc, if_pos (decide_eq_true (show q.1 ≠ t from fun z => c (intI.mpr z)))]
          exact pappend r5 (.cons ⟨b', rfl, hb'⟩ .nil)
        · refine ⟨s5, acc, e5, by omega, ?_⟩
          rw [take_more hq, filter_snoc, if_neg (by rw [decide_eq_true_iff]; exact fun z => z (intI.mp c))]
          exact r5
      rintro H5 ⟨s5, acc, e5, l5, r5⟩
      rw [rq.length, List.take_length] at r5
      have X5 := X3.same s5
      have τD : τ2 D = none := X3.own.new hD
      refine ⟨_, rfl, a, C, dx, _, _, rfl, X5.eT, T.cl, T.nQ, tf_q ha qa, _, rfl, qa, _, rfl, DPut.k (k := Sum.inr j.s) X5.eq (lt_line (by unfold tabD; rw [List.length_map]; have := it_len X.ndk; omega)), ?_⟩
      rw [tabD_old jm]
      have Y := X5.newQ (i := j) (kn' := kn) e5 τD (X3.own.sub.free hD) (r5.same s5) (Nat.le_trans l5 lq) X.ndk (fun z => ⟨.inl, fun z => z.elim id fun e => e ▸ jm⟩) jm
      rw [fput_fput, fput_same] at Y
      have qR : R ≠ qa := fun z => by rw [z, X3.rq] at τR; cases τR
      have qp : p ≠ qa := fun z => by rw [z, X3.rq] at τp; cases τp
      have DR : R ≠ D := ne_of_none eR3 hD
      have Dp : p ≠ D := ne_of_none ep3 hD
      have eR5 : upd H5 qa (.dK (tabD kn (fput la2 j D))) R = some (.lst l) := by rw [upd_ne qR]; exact s5 _ _ eR3
      have ep5 : upd H5 qa (.dK (tabD kn (fput la2 j D))) p = some (.lst (ys.map fun i => V.str i.s)) := by rw [upd_ne qp]; exact s5 _ _ ep3
      have τR5 : fput τ2 D (some (.li j)) R = none := by rw [fput_ne DR]; exact τR
      have τp5 : fput τ2 D (some (.li j)) p = none := by rw [fput_ne Dp]; exact τp
      -- granted.extend(self.grant(item))
      refine ⟨_, rfl, .inl ⟨rfl, _, SqL.of eR5⟩, _, rfl, a, dx, _, rfl, Y.eT, tf_no ha qa (by decide +kernel) (by decide +kernel), _, rfl, a, j, _, _, _, n, dx, ha, qa, da, _, kn, rfl, Y.base, jm, ?_, hn, fun H7 L' p' l' X7 g hp' ep' ll' => ?_⟩
      · rw [fput_same]
        intro q hq
        have hq := (List.mem_filter.mp hq).1
        rw [ej] at hq
        exact h8 j q hq
      rw [fput_same] at g
      rw [fput_fput] at X7
      obtain ⟨eR7, τR7⟩ := keep_of X7.own τR5 eR5
      obtain ⟨ep7, τp7⟩ := keep_of X7.own τp5 ep5
      have X8 := X7.weak Y.own.toBase
      refine ⟨R, p', l, _, rfl, rfl, eR7, ep', ?_, ?_⟩
      · have : i * n ≤ 3 * n := Nat.mul_le_mul_right _ (by omega)
        rw [List.length_map]
        show l.length + l'.length ≤ 16777216
        omega
      have X9 := (X8.other (o := .lst (l ++ l'.map V.int)) τR7 eR7).weak (same_upd hR0)
      have pR : p ≠ R := (none_of hp).2
      refine ⟨_, _, _, _, _, rfl, X9, fun z hz => ?_, fun z hz => ?_, τR7, upd_same, ?_, τp7, by rw [upd_ne pR]; exact ep7⟩
      · rw [tk] at hz
        by_cases e : z = j
        · subst e
          rw [fput_same, ← ej]
          exact g
        · rw [fput_ne e]
          exact rel z ((mem_snoc.mp hz).resolve_right e)
      · rw [tk] at hz
        have e : z ≠ j := fun e => hz (mem_snoc.mpr (.inr e))
        rw [fput_ne e]
        exact un z fun m => hz (mem_snoc.mpr (.inl m))
      · rw [List.length_append, List.length_map, Nat.add_mul]
        omega
    · rintro σ H2 ⟨u, l, τ2, L2, la2, rfl, X2, rel, un, τR, eR, lR, τp, ep⟩
      rw [List.length_map, List.take_length] at rel un
      refine ⟨_, rfl, k H2 τ2 L2 R l ⟨_, _, _, _, _, _, X2⟩ (fun i => ?_) eR⟩
      by_cases hi : i ∈ ys
      · exact rel i hi
      · rw [un i hi]
        have ik : i ∉ kn := fun z => hi (pm.mem_iff.mpr z)
        have e : (⟨fput (L i).h t none, (L i).q.filter fun p => decide (p.1 ≠ t)⟩ : LI) = L i := by
          rw [X.unq i ik, none_put _ _ (by rw [X.unh i ik])]
          show (⟨(L i).h, []⟩ : LI) = L i
          rw [← X.unq i ik]
        show Grant _ (L i)
        rw [e]
        exact .done
end
end K61
set_option Elab.async false
set_option linter.all false
set_option maxRecDepth 100000
set_option maxHeartbeats 4000000
namespace K61
open PySem PySem.Spec PyProof.Rows L2
section
variable {P : Program} {w : World} {K : PySem.W.Frag} {mg : Str → Option Value} {base : Heap} {f C : Addr} {fd : FuncData}
/-- pairs() where nobody waits: none -/
def spPairs (C : Addr) : Sp := fun vs H Q _ => ∃ (T : Addr) (H0 : Hp) (τ : Lbl) (L : It → LI) (n : Nat), vs = [.ref T] ∧ TabAt C H0 H τ T L n ∧ (∀ i, (L i).q = []) ∧ ∀ H' p, Same H H' → H' p = some (.lst []) → Q (.ref p) H'
theorem scPairs : FnScope ["self", "found", "item", "queue", "k", "t", "mode", "others", "other", "held", "asked"] ["self"] (defScope (sLT 9)) := ⟨rfl, rfl, rfl, by decide +kernel, rfl, by decide +kernel, by decide +kernel⟩
theorem ok_pairs (F : FnP K "pairs" "LockTable.pairs" (sLT 9) f fd) (T : TxT K C) (GI : MFn P w K mg base CX0 1 C "items" ["self"] (spItems C)) (mL : mg "len" = none) (mR : mg "range" = none) (mS : mg "sorted" = none) (mE : mg "set" = none) :
    FnOk P w K mg base CX0 2 f fd ["self"] (spPairs C) := by
  obtain ⟨fI, fdI, mI, bI, GI⟩ := GI
  refine F.ok scPairs (fun vs H Q E h => ?_) (fun cdv A outer s H vs Q E hr h => ?_)
  · obtain ⟨a, H0, τ, L, n, rfl, _⟩ := h
    rfl
  · obtain ⟨a, H0, τ, L, n, rfl, ⟨dx, ha, qa, da, la, kn, X⟩, q0, k⟩ := h
    have hu := hu_of hr
    have hu64 : A.units + 3 + 64 < cLine := by
      have := hr.un
      have e : (A.deeper (envOfC "LockTable.pairs" (defScope (sLT 9)) s.heap.objs.size f cdv)).units = A.units + 3 := rfl
      omega
    refine ⟨_, PSs.nox (pss_cons (ps_set (i := 1) scPairs.nd rfl (Or.inl rfl) (pe_lst pa_nil))
      (pss_cons (ps_for PassesOwn.never rfl (pi_list (pe_meth0 (pv 0) T.cl mI GI hr bI .nil pass0)) (pg_name (i := 2) scPairs.nd rfl (Or.inl rfl))
        (pss_cons (ps_set (i := 3) scPairs.nd rfl (Or.inl rfl) (pe_dget hu (pe_fld (pv 0) rfl) (pv 2) (fun _ _ => rfl)))
        (pss_one (ps_for PassesOwn.never rfl (pi_range1 rfl mR (pa_cons (pe_callB call_len (by rfl) mL PySem.boot_len (pa_cons (pv 3) pa_nil)) pa_nil)) (pg_name (i := 4) scPairs.nd rfl (Or.inl rfl)) pss_never))))
      (pss_one (ps_ret (pe_callB (cr_sortedT rfl) (by rfl) mS (by decide +kernel) (pa_cons (pe_callTy (cr_setOfT rfl (by exact hu64)) (by rfl) mE (by decide +kernel) (pa_cons (pv 1) pa_nil)) pa_nil)))))), ?_⟩
    refine ⟨Nat.zero_le _, fun R hR => ?_⟩
    have sR := same_upd (o := .lst []) hR
    have X0 := X.same sR
    refine ⟨_, rfl, a, dx, _, rfl, X0.eT, tf_no ha qa (by decide +kernel) (by decide +kernel), a, dx, ha, qa, da, kn, rfl, X0.eT, X0.eh, X0.ndh, fun H1 p ys s1 hp e1 pm => ?_⟩
    have X1 := X0.same s1
    refine ⟨p, rfl, ⟨_, SqL.of e1⟩, for_list (K := K) (a := p) (xs := ys.map fun i => V.str i.s) (fun i σ H2 => ∃ (u v z : Option V), σ = [some (.ref a), some (.ref R), u, v, z, none, none, none, none, none, none] ∧ Same H1 H2)
      ⟨none, none, none, rfl, Same.refl H1⟩ (fun i σ H2 _ h => by obtain ⟨_, _, _, _, h⟩ := h; exact SqL.of (h _ _ e1)) ?_ ?_⟩
    · rintro i y σ H2 hi ⟨u, v, z, rfl, s2⟩
      rw [List.getElem?_map] at hi
      obtain ⟨j, hj, rfl⟩ := Option.map_eq_some_iff.mp hi
      have jm : j ∈ kn := pm.mem_iff.mp (List.mem_of_getElem? hj)
      have X2 := X1.same s2
      obtain ⟨xs, e2, r2, _⟩ := X2.hq j jm
      have x0 : xs.length = 0 := by rw [r2.length, q0 j]; rfl
      have gQ : DGet H2 qa (.str j.s) (some (.ref (la j))) := by
        have := DGet.k (k := Sum.inr j.s) X2.eq
        rw [tabD_in jm] at this
        exact this
      refine ⟨_, rfl, a, C, dx, _, _, rfl, X2.eT, T.cl, T.nQ, tf_q ha qa, _, rfl, qa, _, rfl, gQ, ?_⟩
      refine ⟨_, rfl, _, xs.length, rfl, .inl ⟨_, SqL.of e2, rfl⟩, (xs.length : Int), rfl, by omega, by omega, ?_⟩
      rw [x0]
      refine for_range (n := 0) (fun j' σ H3 => ∃ (u v z : Option V), σ = [some (.ref a), some (.ref R), u, v, z, none, none, none, none, none, none] ∧ Same H1 H3) ⟨_, _, _, rfl, s2⟩ (fun j' σ H3 hj' _ => absurd hj' (Nat.not_lt_zero _)) ?_
      rintro σ H3 ⟨u3, v3, z3, rfl, s3⟩
      exact ⟨_, _, _, rfl, s3⟩
    · rintro σ H2 ⟨u, v, z, rfl, s2⟩
      have e2 := s2 _ _ (s1 _ _ (upd_same (H := H) (a := R) (o := .lst [])))
      refine ⟨_, rfl, R, [], rfl, SqL.of e2, fun q hq => (by cases hq), by decide, fun S L' hS hL _ => ?_⟩
      have eL : L' = [] := List.eq_nil_iff_forall_not_mem.mpr fun q hq => by cases hL q hq
      subst eL
      refine ⟨S, [], 1, 1, rfl, upd_same, fun q hq => (by cases hq), by decide, fun q hq => (by cases hq), fun L'' p' pm' _ _ _ hp' => ?_⟩
      have e3 : L'' = [] := List.Perm.eq_nil pm'
      subst e3
      exact k _ p' (sR.trans (s1.trans (s2.trans ((same_upd hS).trans (same_upd hp'))))) upd_same
/-- deadlock() where nobody waits: None -/
def spDead (C : Addr) : Sp := fun vs H Q _ => ∃ (T : Addr) (H0 : Hp) (τ : Lbl) (L : It → LI) (n : Nat), vs = [.ref T] ∧ TabAt C H0 H τ T L n ∧ (∀ i, (L i).q = []) ∧ ∀ H', Same H H' → Q .non H'
theorem scDead : FnScope ["self"] ["self"] (defScope (sLT 10)) := ⟨rfl, rfl, rfl, by decide +kernel, rfl, by decide +kernel, by decide +kernel⟩
theorem ok_dead (F : FnP K "deadlock" "LockTable.deadlock" (sLT 10) f fd) (T : TxT K C) (GP : MFn P w K mg base CX0 2 C "pairs" ["self"] (spPairs C)) (GR : GFn P w K mg base CX0 10 "ring_in" ["pairs"] (spRing K fun _ _ => False)) :
    FnOk P w K mg base CX0 11 f fd ["self"] (spDead C) := by
  obtain ⟨fP, fdP, mP, bP, GP⟩ := GP
  obtain ⟨fR, fdR, mR, kR, bR, GR⟩ := GR
  refine F.ok scDead (fun vs H Q E h => ?_) (fun cdv A outer s H vs Q E hr h => ?_)
  · obtain ⟨a, H0, τ, L, n, rfl, _⟩ := h
    rfl
  · obtain ⟨a, H0, τ, L, n, rfl, X, q0, k⟩ := h
    have X' := X
    obtain ⟨dx, ha, qa, da, la, kn, X'⟩ := X'
    refine ⟨_, PSs.nox (pss_one (ps_ret (pe_call GR hr rfl mR kR bR .nil pass0 (pa_cons (pe_meth0 (pv 0) T.cl mP GP (hr.mono (by decide)) bP .nil pass0) pa_nil)))), ?_⟩
    refine ⟨_, rfl, a, dx, _, rfl, X'.eT, tf_no ha qa (by decide +kernel) (by decide +kernel), a, H0, τ, L, n, rfl, X, q0, fun H1 p s1 e1 => ?_⟩
    exact ⟨p, [], rfl, SqL.of e1, fun y hy => (by cases hy), fun H2 s2 => k H2 (s1.trans s2)⟩
end
end K61
set_option Elab.async false
set_option linter.all false
set_option maxRecDepth 100000
set_option maxHeartbeats 4000000
/-! What a manager's work is in the heap; told_values. -/
namespace K61
open PySem PySem.Spec PyProof.Rows L2
/-! ### a dict of ints -/
structure NumRep {κ : Type} (key : κ → Key) (A : List (Key × V)) (val : κ → Option Int) : Prop where
  nd : (A.map (·.1)).Nodup
  en : ∀ q ∈ A, ∃ k n, q = (key k, V.int n)
  at_ : ∀ k, valV A (key k) = (val k).map V.int
section
variable {κ : Type} {key : κ → Key} {A : List (Key × V)} {val : κ → Option Int}
theorem NumRep.nil : NumRep key [] (fun _ => none) := ⟨List.nodup_nil, fun q h => (by cases h), fun k => rfl⟩
theorem NumRep.put [DecidableEq κ] (r : NumRep key A val) (inj : ∀ j k, key j = key k → j = k) (k : κ) (n : Int) : NumRep key (putK A (key k) (.int n)) (fput val k (some n)) := by
  refine ⟨keys_put r.nd, fun q hq => ?_, fun j => ?_⟩
  · rcases mem_put hq with hq | hq
    · exact r.en q hq
    · exact ⟨k, n, hq⟩
  · rw [valV_put]
    by_cases e : j = k
    · subst e
      rw [if_pos rfl, fput_same]
      rfl
    · rw [if_neg (fun z => e (inj _ _ z)), fput_ne e]
      exact r.at_ j
theorem NumRep.mem (r : NumRep key A val) {k : κ} {n : Int} : (key k, V.int n) ∈ A ↔ val k = some n := by
  rw [mem_valV r.nd, r.at_]
  cases val k with
  | none => simp
  | some m => exact ⟨fun e => congrArg some (V.int.inj (Option.some.inj e)), fun e => congrArg (Option.map V.int) e⟩
theorem NumRep.get0 (r : NumRep key A val) (k : κ) : (valV A (key k)).getD (.int 0) = .int ((val k).getD 0) := by
  rw [r.at_]
  cases val k <;> rfl
end
def kI : It → Key := fun i => Sum.inr i.s
def kT : Int → Key := fun t => Sum.inl t
theorem NumRep.len3 {A : List (Key × V)} {val : It → Option Int} (r : NumRep kI A val) : A.length ≤ 3 := by
  obtain ⟨kn, hk⟩ : ∃ kn : List It, A.map (·.1) = kn.map kI := by
    have en := r.en
    clear r
    induction A with
    | nil => exact ⟨[], rfl⟩
    | cons q D ih =>
      obtain ⟨i, n, e⟩ := en q List.mem_cons_self
      obtain ⟨kn, h⟩ := ih fun q' hq => en q' (List.mem_cons_of_mem _ hq)
      exact ⟨i :: kn, by rw [List.map_cons, List.map_cons, h, e]⟩
  have nk : kn.Nodup := by
    have := r.nd
    rw [hk, List.Nodup, List.pairwise_map] at this
    exact this.imp fun h z => h (by rw [z])
  have l1 := it_len nk
  have l2 := congrArg List.length hk
  rw [List.length_map, List.length_map] at l2
  omega
theorem kI_inj (j k : It) (h : kI j = kI k) : j = k := it_inj (Sum.inr.inj h)
theorem kT_inj (j k : Int) (h : kT j = kT k) : j = k := Sum.inl.inj h
/-! ### a dict of addresses by transactions -/
def tabB (kb : List Int) (db : Int → Addr) : List (Key × V) := kb.map fun t => (Sum.inl t, V.ref (db t))
theorem tabB_valV (kb : List Int) (db : Int → Addr) (j : Int) : valV (tabB kb db) (Sum.inl j) = if j ∈ kb then some (V.ref (db j)) else none := by
  unfold valV tabB
  induction kb with
  | nil => simp
  | cons i r ih =>
    rw [List.map_cons]
    by_cases e : i = j
    · subst e
      rw [List.find?_cons_of_pos (by simp), if_pos List.mem_cons_self]
      rfl
    · have e2 : ¬ ((Sum.inl i : Key) = Sum.inl j) := fun z => e (Sum.inl.inj z)
      rw [List.find?_cons_of_neg (by simpa using e2), ih]
      by_cases m : j ∈ r
      · rw [if_pos m, if_pos (List.mem_cons_of_mem _ m)]
      · rw [if_neg m, if_neg (fun z => (List.mem_cons.mp z).elim (fun q => e q.symm) m)]
theorem tabB_in {kb : List Int} {db : Int → Addr} {j : Int} (h : j ∈ kb) : valV (tabB kb db) (Sum.inl j) = some (V.ref (db j)) := by rw [tabB_valV, if_pos h]
theorem tabB_out {kb : List Int} {db : Int → Addr} {j : Int} (h : j ∉ kb) : valV (tabB kb db) (Sum.inl j) = none := by rw [tabB_valV, if_neg h]
theorem tabB_new {kb : List Int} {db : Int → Addr} {j : Int} {D : Addr} (h : j ∉ kb) : putK (tabB kb db) (Sum.inl j) (.ref D) = tabB (kb ++ [j]) (fput db j D) := by
  rw [putK_new _ (tabB_out h)]
  have e : tabB kb db = tabB kb (fput db j D) := List.map_congr_left fun i hi => by rw [fput_ne (fun (z : i = j) => h (z ▸ hi))]
  rw [e]
  unfold tabB
  rw [List.map_append]
  show _ ++ [(Sum.inl j, V.ref D)] = _ ++ [(Sum.inl j, V.ref (fput db j D j))]
  rw [fput_same]
/-! ### frames -/
/-- all but c stands -/
def SameBut (c : Addr) (H H' : Hp) : Prop := ∀ b u, b ≠ c → H b = some u → H' b = some u
theorem SameBut.upd {H : Hp} {c : Addr} {o : HO} : SameBut c H (L2.upd H c o) := fun b u n e => by rw [upd_ne n]; exact e
theorem SameBut.trans_same {H H1 H2 : Hp} {c : Addr} (s : SameBut c H H1) (t : Same H1 H2) : SameBut c H H2 := fun b u n e => t _ _ (s b u n e)
theorem Same.trans_but {H H1 H2 : Hp} {c : Addr} (s : Same H H1) (t : SameBut c H1 H2) : SameBut c H H2 := fun b u n e => t b u n (s _ _ e)
theorem Same.but {H H1 : Hp} {c : Addr} (s : Same H H1) : SameBut c H H1 := fun b u _ e => s _ _ e
theorem Own.but {H0 H H' : Hp} {τ : Lbl} {c : Addr} {r : Role} {o : HO} (O : Own H0 H τ) (hc : τ c = some r) (s : SameBut c H H') (e : H' c = some o) (m : MutO o) : Own H0 H' τ := by
  refine ⟨fun b u q => ?_, O.off, fun b r' q => ?_⟩
  · have ne : b ≠ c := fun z => by
      rw [z, O.off c r hc] at q
      cases q
    exact s b u ne (O.sub b u q)
  · by_cases z : b = c
    · rw [z]
      exact ⟨_, e, m⟩
    · obtain ⟨u, hu, mu⟩ := O.on b r' q
      exact ⟨u, s b u z hu, mu⟩
theorem OpsV.but {H0 H H' : Hp} {τ : Lbl} {c : Addr} {r : Role} {xs : List V} {l : List Op} (h : OpsV H xs l) (O : Own H0 H τ) (hc : τ c = some r) (s : SameBut c H H') : OpsV H' xs l := Paired.mono (fun v p ⟨a, e, ha⟩ => ⟨a, e, by
  have ne : a ≠ c := fun z => by
    rw [← z, O.tup ha] at hc
    cases hc
  exact s a _ ne ha⟩) h
/-- what is labelled stands, and what is never changed -/
def Fr (τ : Lbl) (H H' : Hp) : Prop := ∀ b u, H b = some u → ((∃ r, τ b = some r) ∨ ¬ MutO u) → H' b = some u
theorem Own.fr {H0 H H' : Hp} {τ : Lbl} (O : Own H0 H τ) (s : Same H0 H') (f : Fr τ H H') : Own H0 H' τ := ⟨s, O.off, fun b r e => by
  obtain ⟨o, ho, m⟩ := O.on b r e
  exact ⟨o, f _ _ ho (.inl ⟨r, e⟩), m⟩⟩
theorem not_mut {xs : List V} : ¬ MutO (.tup xs) := fun z => z
theorem QRep.fr {H H' : Hp} {τ : Lbl} {xs : List V} {q : List (Int × Md)} (h : QRep H xs q) (f : Fr τ H H') : QRep H' xs q := Paired.mono (fun v p ⟨a, e, ha⟩ => ⟨a, e, f _ _ ha (.inr not_mut)⟩) h
theorem OpsV.fr {H H' : Hp} {τ : Lbl} {xs : List V} {q : List Op} (h : OpsV H xs q) (f : Fr τ H H') : OpsV H' xs q := Paired.mono (fun v p ⟨a, e, ha⟩ => ⟨a, e, f _ _ ha (.inr not_mut)⟩) h
section
variable {C : Addr} {H0 H H' : Hp} {τ : Lbl} {T : Addr} {L : It → LI} {n : Nat} {dx ha qa : Addr} {da la : It → Addr} {hn kn : List It}
theorem TabX.fr (t : TabX C H0 H τ T L n dx ha qa da la hn kn) (s : Same H0 H') (f : Fr τ H H') : TabX C H0 H' τ T L n dx ha qa da la hn kn where
  own := t.own.fr s f
  eT := f _ _ t.eT (.inl ⟨_, t.rT⟩)
  rT := t.rT
  eh := f _ _ t.eh (.inl ⟨_, t.rh⟩)
  rh := t.rh
  eq := f _ _ t.eq (.inl ⟨_, t.rq⟩)
  rq := t.rq
  ndh := t.ndh
  ndk := t.ndk
  kh := t.kh
  rd := t.rd
  hd := fun i hi => by
    obtain ⟨kvs, e, r⟩ := t.hd i hi
    exact ⟨kvs, f _ _ e (.inl ⟨_, t.rd i hi⟩), r⟩
  rl := t.rl
  hq := fun i hi => by
    obtain ⟨xs, e, r, l⟩ := t.hq i hi
    exact ⟨xs, f _ _ e (.inl ⟨_, t.rl i hi⟩), r.fr f, l⟩
  unh := t.unh
  unq := t.unq
theorem TabAt.fr (t : TabAt C H0 H τ T L n) (s : Same H0 H') (f : Fr τ H H') : TabAt C H0 H' τ T L n := by
  obtain ⟨dx, ha, qa, da, la, kn, X⟩ := t
  exact ⟨dx, ha, qa, da, la, kn, X.fr s f⟩
end
/-! ### the work -/
def AmtRep (A : List (Key × V)) (amt : It → Int) : Prop := ∃ a : It → Option Int, NumRep kI A a ∧ ∀ i, (a i).getD 0 = amt i
def SumRep (A : List (Key × V)) (sums : Int → Int) : Prop := ∃ a : Int → Option Int, NumRep kT A a ∧ ∀ i, (a i).getD 0 = sums i
theorem AmtRep.put {A : List (Key × V)} {amt : It → Int} (r : AmtRep A amt) (i : It) (n : Int) : AmtRep (putK A (Sum.inr i.s) (.int n)) (fput amt i n) := by
  obtain ⟨a, r, e⟩ := r
  refine ⟨_, r.put kI_inj i n, fun j => ?_⟩
  by_cases z : j = i
  · rw [z, fput_same, fput_same]
    rfl
  · rw [fput_ne z, fput_ne z]
    exact e j
theorem SumRep.put {A : List (Key × V)} {sums : Int → Int} (r : SumRep A sums) (t : Int) (n : Int) : SumRep (putK A (Sum.inl t) (.int n)) (fput sums t n) := by
  obtain ⟨a, r, e⟩ := r
  refine ⟨_, r.put kT_inj t n, fun j => ?_⟩
  by_cases z : j = t
  · rw [z, fput_same, fput_same]
    rfl
  · rw [fput_ne z, fput_ne z]
    exact e j
theorem AmtRep.get0 {A : List (Key × V)} {amt : It → Int} (r : AmtRep A amt) (i : It) : (valV A (Sum.inr i.s)).getD (.int 0) = .int (amt i) := by
  obtain ⟨a, r, e⟩ := r
  rw [← e i]
  exact r.get0 i
theorem SumRep.get0 {A : List (Key × V)} {sums : Int → Int} (r : SumRep A sums) (t : Int) : (valV A (Sum.inl t)).getD (.int 0) = .int (sums t) := by
  obtain ⟨a, r, e⟩ := r
  rw [← e t]
  exact r.get0 t
theorem length_put (kvs : List (Key × V)) (k : Key) (v : V) : (putK kvs k v).length ≤ kvs.length + 1 := length_putK kvs k v
def wf (am su bf sl : Addr) : List (Str × V) := [("amounts", .ref am), ("sums", .ref su), ("before", .ref bf), ("schedule", .ref sl)]
theorem wf_a (am su bf sl : Addr) : (wf am su bf sl).lookup ("amounts" : Str) = some (.ref am) := by simp [wf, List.lookup]
theorem wf_s (am su bf sl : Addr) : (wf am su bf sl).lookup ("sums" : Str) = some (.ref su) := by
  have e : (("sums" : Str) == "amounts") = false := by decide +kernel
  simp [wf, List.lookup, e]
theorem wf_b (am su bf sl : Addr) : (wf am su bf sl).lookup ("before" : Str) = some (.ref bf) := by
  have e : (("before" : Str) == "amounts") = false := by decide +kernel
  have e2 : (("before" : Str) == "sums") = false := by decide +kernel
  simp [wf, List.lookup, e, e2]
theorem wf_l (am su bf sl : Addr) : (wf am su bf sl).lookup ("schedule" : Str) = some (.ref sl) := by
  have e : (("schedule" : Str) == "amounts") = false := by decide +kernel
  have e2 : (("schedule" : Str) == "sums") = false := by decide +kernel
  have e3 : (("schedule" : Str) == "before") = false := by decide +kernel
  simp [wf, List.lookup, e, e2, e3]
theorem wf_no (am su bf sl : Addr) {m : Str} (h1 : (m == ("amounts" : Str)) = false) (h2 : (m == ("sums" : Str)) = false) (h3 : (m == ("before" : Str)) = false) (h4 : (m == ("schedule" : Str)) = false) : (wf am su bf sl).lookup m = none := by simp [wf, List.lookup, h1, h2, h3, h4]
structure WorkX (C : Addr) (H0 H : Hp) (τ : Lbl) (W : Addr) (s : St) (n : Nat) (dx am su bf sl : Addr) (kb : List Int) (db : Int → Addr) : Prop where
  own : Own H0 H τ
  eW : H W = some (.ins C dx (wf am su bf sl))
  rW : τ W = some .obj
  ea : ∃ A, H am = some (.dK A) ∧ AmtRep A s.amt
  ra : τ am = some .d1
  es : ∃ A, H su = some (.dK A) ∧ SumRep A s.sums ∧ A.length ≤ n
  rs : τ su = some .d2
  eb : H bf = some (.dK (tabB kb db))
  rb : τ bf = some .l1
  el : ∃ xs, H sl = some (.lst xs) ∧ OpsV H xs s.sched
  rl : τ sl = some .l2
  rd : ∀ t ∈ kb, τ (db t) = some (.bt t)
  hd : ∀ t ∈ kb, ∃ D, H (db t) = some (.dK D) ∧ NumRep kI D (s.bef t)
  unb : ∀ t, t ∉ kb → s.bef t = fun _ => none
  lk : kb.length ≤ n
  ll : s.sched.length ≤ n
def WorkAt (C : Addr) (H0 H : Hp) (τ : Lbl) (W : Addr) (s : St) (n : Nat) : Prop := ∃ dx am su bf sl kb db, WorkX C H0 H τ W s n dx am su bf sl kb db
section
variable {C : Addr} {H0 H H' : Hp} {τ : Lbl} {W : Addr} {s : St} {n : Nat} {dx am su bf sl : Addr} {kb : List Int} {db : Int → Addr}
theorem WorkX.fr (t : WorkX C H0 H τ W s n dx am su bf sl kb db) (q : Same H0 H') (f : Fr τ H H') : WorkX C H0 H' τ W s n dx am su bf sl kb db where
  own := t.own.fr q f
  eW := f _ _ t.eW (.inl ⟨_, t.rW⟩)
  rW := t.rW
  ea := let ⟨A, e, r⟩ := t.ea; ⟨A, f _ _ e (.inl ⟨_, t.ra⟩), r⟩
  ra := t.ra
  es := let ⟨A, e, r⟩ := t.es; ⟨A, f _ _ e (.inl ⟨_, t.rs⟩), r⟩
  rs := t.rs
  eb := f _ _ t.eb (.inl ⟨_, t.rb⟩)
  rb := t.rb
  el := let ⟨xs, e, r⟩ := t.el; ⟨xs, f _ _ e (.inl ⟨_, t.rl⟩), r.fr f⟩
  rl := t.rl
  rd := t.rd
  hd := fun u hu => let ⟨A, e, r⟩ := t.hd u hu; ⟨A, f _ _ e (.inl ⟨_, t.rd u hu⟩), r⟩
  unb := t.unb
  lk := t.lk
  ll := t.ll
theorem WorkX.same (t : WorkX C H0 H τ W s n dx am su bf sl kb db) (q : Same H H') : WorkX C H0 H' τ W s n dx am su bf sl kb db := t.fr (t.own.sub.trans q) fun b u e _ => q _ _ e
theorem WorkX.mono {m : Nat} (t : WorkX C H0 H τ W s n dx am su bf sl kb db) (h : n ≤ m) : WorkX C H0 H τ W s m dx am su bf sl kb db :=
  { t with es := let ⟨A, e, r, l⟩ := t.es; ⟨A, e, r, Nat.le_trans l h⟩, lk := Nat.le_trans t.lk h, ll := Nat.le_trans t.ll h }
/-- the state may differ in what is not the work's -/
theorem WorkX.st {s' : St} (t : WorkX C H0 H τ W s n dx am su bf sl kb db) (e1 : s'.amt = s.amt) (e2 : s'.sums = s.sums) (e3 : s'.bef = s.bef) (e4 : s'.sched = s.sched) : WorkX C H0 H τ W s' n dx am su bf sl kb db := by
  refine { t with ea := ?_, es := ?_, el := ?_, hd := ?_, unb := ?_, ll := ?_ }
  · rw [e1]; exact t.ea
  · rw [e2]; exact t.es
  · rw [e4]; exact t.el
  · rw [e3]; exact t.hd
  · rw [e3]; exact t.unb
  · rw [e4]; exact t.ll
theorem WorkX.weak {H1 : Hp} (t : WorkX C H1 H τ W s n dx am su bf sl kb db) (q : Same H0 H1) : WorkX C H0 H τ W s n dx am su bf sl kb db := { t with own := t.own.weak q }
theorem WorkX.base (t : WorkX C H0 H τ W s n dx am su bf sl kb db) : WorkX C (wipeL τ H) H τ W s n dx am su bf sl kb db := { t with own := t.own.base }
section
variable (t : WorkX C H0 H τ W s n dx am su bf sl kb db)
include t
theorem WorkX.nd_bt {u : Int} (hu : u ∈ kb) {r : Role} {b : Addr} (hb : τ b = some r) (h : ∀ z, r ≠ .bt z) : db u ≠ b := role_ne (t.rd u hu) hb fun z => h u z.symm
theorem WorkX.setA {A : List (Key × V)} {amt : It → Int} (q : SameBut am H H') (e : H' am = some (.dK A)) (r : AmtRep A amt) : WorkX C H0 H' τ W { s with amt := amt } n dx am su bf sl kb db where
  own := t.own.but t.ra q e True.intro
  eW := q _ _ (role_ne t.rW t.ra (by intro z; cases z)) t.eW
  rW := t.rW
  ea := ⟨A, e, r⟩
  ra := t.ra
  es := let ⟨A, e, r⟩ := t.es; ⟨A, q _ _ (role_ne t.rs t.ra (by intro z; cases z)) e, r⟩
  rs := t.rs
  eb := q _ _ (role_ne t.rb t.ra (by intro z; cases z)) t.eb
  rb := t.rb
  el := let ⟨xs, e, r⟩ := t.el; ⟨xs, q _ _ (role_ne t.rl t.ra (by intro z; cases z)) e, r.but t.own t.ra q⟩
  rl := t.rl
  rd := t.rd
  hd := fun u hu => let ⟨A, e, r⟩ := t.hd u hu; ⟨A, q _ _ (role_ne (t.rd u hu) t.ra (by intro z; cases z)) e, r⟩
  unb := t.unb
  lk := t.lk
  ll := t.ll
theorem WorkX.setS {A : List (Key × V)} {sums : Int → Int} (q : SameBut su H H') (e : H' su = some (.dK A)) (r : SumRep A sums) (l : A.length ≤ n) : WorkX C H0 H' τ W { s with sums := sums } n dx am su bf sl kb db where
  own := t.own.but t.rs q e True.intro
  eW := q _ _ (role_ne t.rW t.rs (by intro z; cases z)) t.eW
  rW := t.rW
  ea := let ⟨A, e, r⟩ := t.ea; ⟨A, q _ _ (role_ne t.ra t.rs (by intro z; cases z)) e, r⟩
  ra := t.ra
  es := ⟨A, e, r, l⟩
  rs := t.rs
  eb := q _ _ (role_ne t.rb t.rs (by intro z; cases z)) t.eb
  rb := t.rb
  el := let ⟨xs, e, r⟩ := t.el; ⟨xs, q _ _ (role_ne t.rl t.rs (by intro z; cases z)) e, r.but t.own t.rs q⟩
  rl := t.rl
  rd := t.rd
  hd := fun u hu => let ⟨A, e, r⟩ := t.hd u hu; ⟨A, q _ _ (role_ne (t.rd u hu) t.rs (by intro z; cases z)) e, r⟩
  unb := t.unb
  lk := t.lk
  ll := t.ll
theorem WorkX.setL {xs : List V} {l : List Op} (q : SameBut sl H H') (e : H' sl = some (.lst xs)) (r : OpsV H' xs l) (ll : l.length ≤ n) : WorkX C H0 H' τ W { s with sched := l } n dx am su bf sl kb db where
  own := t.own.but t.rl q e True.intro
  eW := q _ _ (role_ne t.rW t.rl (by intro z; cases z)) t.eW
  rW := t.rW
  ea := let ⟨A, e, r⟩ := t.ea; ⟨A, q _ _ (role_ne t.ra t.rl (by intro z; cases z)) e, r⟩
  ra := t.ra
  es := let ⟨A, e, r⟩ := t.es; ⟨A, q _ _ (role_ne t.rs t.rl (by intro z; cases z)) e, r⟩
  rs := t.rs
  eb := q _ _ (role_ne t.rb t.rl (by intro z; cases z)) t.eb
  rb := t.rb
  el := ⟨xs, e, r⟩
  rl := t.rl
  rd := t.rd
  hd := fun u hu => let ⟨A, e, r⟩ := t.hd u hu; ⟨A, q _ _ (role_ne (t.rd u hu) t.rl (by intro z; cases z)) e, r⟩
  unb := t.unb
  lk := t.lk
  ll := ll
theorem WorkX.setD {u : Int} (hu : u ∈ kb) {D : List (Key × V)} {b : It → Option Int} (q : SameBut (db u) H H') (e : H' (db u) = some (.dK D)) (r : NumRep kI D b) : WorkX C H0 H' τ W { s with bef := fput s.bef u b } n dx am su bf sl kb db where
  own := t.own.but (t.rd u hu) q e True.intro
  eW := q _ _ (role_ne t.rW (t.rd u hu) (by intro z; cases z)) t.eW
  rW := t.rW
  ea := let ⟨A, e, r⟩ := t.ea; ⟨A, q _ _ (role_ne t.ra (t.rd u hu) (by intro z; cases z)) e, r⟩
  ra := t.ra
  es := let ⟨A, e, r⟩ := t.es; ⟨A, q _ _ (role_ne t.rs (t.rd u hu) (by intro z; cases z)) e, r⟩
  rs := t.rs
  eb := q _ _ (role_ne t.rb (t.rd u hu) (by intro z; cases z)) t.eb
  rb := t.rb
  el := let ⟨xs, e, r⟩ := t.el; ⟨xs, q _ _ (role_ne t.rl (t.rd u hu) (by intro z; cases z)) e, r.but t.own (t.rd u hu) q⟩
  rl := t.rl
  rd := t.rd
  hd := fun v hv => by
    by_cases z : v = u
    · rw [z]
      refine ⟨D, e, ?_⟩
      show NumRep kI D (fput s.bef u b u)
      rw [fput_same]
      exact r
    · obtain ⟨A, e, r⟩ := t.hd v hv
      refine ⟨A, q _ _ (role_ne (t.rd v hv) (t.rd u hu) (fun y => z (Role.bt.inj y))) e, ?_⟩
      show NumRep kI A (fput s.bef u b v)
      rw [fput_ne z]
      exact r
  unb := fun v hv => by
    show fput s.bef u b v = _
    rw [fput_ne (fun (z : v = u) => hv (by rw [z]; exact hu))]
    exact t.unb v hv
  lk := t.lk
  ll := t.ll
/-- the first write of a transaction -/
theorem WorkX.newB {u : Int} (hu : u ∉ kb) {D : Addr} (eD : H D = some (.dK [])) (hD : τ D = none) (h0 : H0 D = none) (l : kb.length + 1 ≤ n) :
    WorkX C H0 (upd H bf (.dK (tabB (kb ++ [u]) (fput db u D)))) (fput τ D (some (.bt u))) W s n dx am su bf sl (kb ++ [u]) (fput db u D) := by
  have nD : ∀ {b : Addr} {r : Role}, τ b = some r → b ≠ D := fun {b r} hb z => by rw [z, hD] at hb; cases hb
  have kp : ∀ {b : Addr} {r : Role}, τ b = some r → fput τ D (some (.bt u)) b = some r := fun {b r} hb => by rw [fput_ne (nD hb)]; exact hb
  have dne : D ≠ bf := fun z => by rw [z, t.rb] at hD; cases hD
  have q : SameBut bf H (upd H bf (.dK (tabB (kb ++ [u]) (fput db u D)))) := .upd
  have nu : ∀ v ∈ kb, v ≠ u := fun v hv z => hu (z ▸ hv)
  refine { own := ?_, eW := q _ _ (role_ne t.rW t.rb (by intro z; cases z)) t.eW, rW := kp t.rW, ea := ?_, ra := kp t.ra, es := ?_, rs := kp t.rs, eb := upd_same, rb := kp t.rb, el := ?_, rl := kp t.rl, rd := fun v hv => ?_, hd := fun v hv => ?_, unb := fun v hv => t.unb v fun z => hv (mem_snoc.mpr (.inl z)), lk := (by rw [List.length_append]; exact l), ll := t.ll }
  · have O := t.own.put (o := .dK (tabB (kb ++ [u]) (fput db u D))) t.rb True.intro
    refine ⟨O.sub, fun b r hb => ?_, fun b r hb => ?_⟩
    · by_cases z : b = D
      · rw [z]
        exact h0
      · rw [fput_ne z] at hb
        exact O.off b r hb
    · by_cases z : b = D
      · rw [z, upd_ne dne]
        exact ⟨_, eD, True.intro⟩
      · rw [fput_ne z] at hb
        exact O.on b r hb
  · obtain ⟨A, e, r⟩ := t.ea
    exact ⟨A, q _ _ (role_ne t.ra t.rb (by intro z; cases z)) e, r⟩
  · obtain ⟨A, e, r⟩ := t.es
    exact ⟨A, q _ _ (role_ne t.rs t.rb (by intro z; cases z)) e, r⟩
  · obtain ⟨xs, e, r⟩ := t.el
    exact ⟨xs, q _ _ (role_ne t.rl t.rb (by intro z; cases z)) e, r.but t.own t.rb q⟩
  · rcases mem_snoc.mp hv with hv | hv
    · rw [fput_ne (nu v hv)]
      exact kp (t.rd v hv)
    · rw [hv, fput_same, fput_same]
  · rcases mem_snoc.mp hv with hv | hv
    · rw [fput_ne (nu v hv)]
      obtain ⟨A, e, r⟩ := t.hd v hv
      exact ⟨A, q _ _ (role_ne (t.rd v hv) t.rb (by intro z; cases z)) e, r⟩
    · subst hv
      rw [fput_same]
      refine ⟨[], q _ _ dne eD, ?_⟩
      rw [t.unb v hu]
      exact .nil
end
end
/-! ### told_values -/
def told (amt : It → Int) : List (It × Int) := ([It.x, .y, .z].filter fun i => decide (amt i ≠ 0)).map fun i => (i, amt i)
def PairV (H : Hp) (v : V) (q : It × Int) : Prop := ∃ b, v = V.ref b ∧ H b = some (.tup [.str q.1.s, .int q.2])
theorem sorted_its {zs : List It} (nd : zs.Nodup) (h : sortedS (zs.map It.s) = true) (p : It → Bool) (hp : ∀ i, p i = true → i ∈ zs) : zs.filter p = [It.x, .y, .z].filter p := by
  have l3 := it_len nd
  have go : ∀ a b : It, sortedS [a.s, b.s] = true → a = b ∨ (a = .x ∧ b = .y) ∨ (a = .x ∧ b = .z) ∨ (a = .y ∧ b = .z) := by
    intro a b h
    cases a <;> cases b <;> first | exact .inl rfl | exact .inr (.inl ⟨rfl, rfl⟩) | exact .inr (.inr (.inl ⟨rfl, rfl⟩)) | exact .inr (.inr (.inr ⟨rfl, rfl⟩)) | exact absurd h (by decide +kernel)
  match zs, nd, h, l3, hp with
  | [], _, _, _, hp =>
    have hx := hp .x
    have hy := hp .y
    have hz := hp .z
    clear hp
    cases e1 : p .x <;> cases e2 : p .y <;> cases e3 : p .z <;> simp_all
  | [a], _, _, _, hp =>
    have hx := hp .x
    have hy := hp .y
    have hz := hp .z
    clear hp
    cases a <;> cases e1 : p .x <;> cases e2 : p .y <;> cases e3 : p .z <;> simp_all [List.filter]
  | [a, b], nd, h, _, hp =>
    have hx := hp .x
    have hy := hp .y
    have hz := hp .z
    clear hp
    rcases go a b h with rfl | ⟨rfl, rfl⟩ | ⟨rfl, rfl⟩ | ⟨rfl, rfl⟩
    · simp at nd
    all_goals cases e1 : p .x <;> cases e2 : p .y <;> cases e3 : p .z <;> simp_all [List.filter]
  | [a, b, c], nd, h, _, hp =>
    cases a <;> cases b <;> cases c <;> first | (simp at nd; done) | (exact absurd h (by decide +kernel)) | rfl
  | _ :: _ :: _ :: _ :: r, _, _, l3, _ =>
    simp at l3
section
variable {P : Program} {w : World} {K : PySem.W.Frag} {mg : Str → Option Value} {base : Heap} {f C : Addr} {fd : FuncData}
def spTold : Sp := fun vs H Q _ => ∃ (d : Addr) (A : List (Key × V)) (amt : It → Int), vs = [.ref d] ∧ H d = some (.dK A) ∧ AmtRep A amt ∧ ∀ H' p ys, Same H H' → H p = none → H' p = some (.lst ys) → Paired (PairV H') ys (told amt) → Q (.ref p) H'
theorem scTold : FnScope ["values", "item"] ["values"] (defScope sTold) := ⟨rfl, rfl, rfl, by decide +kernel, rfl, by decide +kernel, by decide +kernel⟩
theorem PairV.same {H H' : Hp} {v : V} {q : It × Int} (h : PairV H v q) (s : Same H H') : PairV H' v q := by
  obtain ⟨b, e, h⟩ := h
  exact ⟨b, e, s _ _ h⟩
theorem ok_told (F : FnP K "told_values" "told_values" sTold f fd) (mS : mg "sorted" = none) : FnOk P w K mg base CX0 1 f fd ["values"] spTold := by
  refine F.ok scTold (fun vs H Q E h => ?_) (fun cdv A outer s H vs Q E hr h => ?_)
  · obtain ⟨d, A, amt, rfl, _⟩ := h
    rfl
  · obtain ⟨d, D, amt, rfl, ed, ⟨a, r, ea⟩, k⟩ := h
    have hu := hu_of hr
    refine ⟨_, PSs.nox (pss_one (ps_ret (pe_lc (own := [("item", 1)]) (g := gName 1) (by rfl) scTold.nd (pi_list (pe_callB (call_sortedD rfl) (by rfl) mS (by decide +kernel) (pa_cons (pv 0) pa_nil)))
      (blkOk_by (own := [("item", 1)]) (N := ["values", "item"]) (sc := defScope sTold) (by decide +kernel))
      (fun _ _ _ _ _ => pg_name (i := 1) scTold.nd rfl (Or.inl rfl))
      (fun _ _ _ _ _ => pts_one (pt_cmpR op_ne (pe_dget hu (td := tVar 0) (pv 0) (pv 1) (fun _ _ => rfl)) pe_int (nomark _)))
      (fun _ _ _ _ _ => pe_tup (pa_cons (pv 1) (pa_cons (pe_dget hu (td := tVar 0) (pv 0) (pv 1) (fun _ _ => rfl)) pa_nil)))))), ?_⟩
    obtain ⟨kn, hk⟩ : ∃ kn : List It, D.map (·.1) = kn.map kI := by
      have en := r.en
      clear k ed r ea
      induction D with
      | nil => exact ⟨[], rfl⟩
      | cons q D ih =>
        obtain ⟨i, n, e⟩ := en q List.mem_cons_self
        obtain ⟨kn, h⟩ := ih fun q' hq => en q' (List.mem_cons_of_mem _ hq)
        exact ⟨i :: kn, by rw [List.map_cons, List.map_cons, h, e]⟩
    have nk : kn.Nodup := by
      have := r.nd
      rw [hk, List.Nodup, List.pairwise_map] at this
      exact this.imp fun h z => h (by rw [z])
    have kin : ∀ i, i ∈ kn ↔ (a i).isSome = true := fun i => by
      constructor
      · intro h
        have : kI i ∈ D.map (·.1) := by rw [hk]; exact List.mem_map.mpr ⟨i, h, rfl⟩
        obtain ⟨q, hq, e⟩ := List.mem_map.mp this
        obtain ⟨j, n, e2⟩ := r.en q hq
        rw [e2] at e
        have := kI_inj _ _ e
        subst this
        rw [r.mem.mp (e2 ▸ hq)]
        rfl
      · intro h
        obtain ⟨n, hn⟩ := Option.isSome_iff_exists.mp h
        have : kI i ∈ D.map (·.1) := List.mem_map.mpr ⟨_, r.mem.mpr hn, rfl⟩
        rw [hk] at this
        obtain ⟨j, hj, e⟩ := List.mem_map.mp this
        rw [← kI_inj _ _ e]
        exact hj
    refine ⟨_, rfl, d, D, kn.map It.s, rfl, .inl ed, by rw [hk, List.map_map]; rfl, by rw [List.length_map]; have := it_len nk; omega, fun ys p pm so hp => ?_⟩
    obtain ⟨zs, rfl, pz⟩ : ∃ zs : List It, ys = zs.map It.s ∧ zs.Perm kn := by
      refine ⟨ys.map It.of, ?_, ?_⟩
      · rw [List.map_map]
        refine (List.map_id ys).symm.trans (List.map_congr_left fun y hy => ?_)
        obtain ⟨i, _, e⟩ := List.mem_map.mp (pm.mem_iff.mp hy)
        show y = (It.of y).s
        rw [← e, It.of_s]
      · have := pm.map It.of
        rw [List.map_map] at this
        have e3 : kn.map (It.of ∘ It.s) = kn := (List.map_congr_left fun i _ => It.of_s i).trans (List.map_id kn)
        rw [e3] at this
        exact this
    have fin : zs.filter (fun i => decide (amt i ≠ 0)) = [It.x, .y, .z].filter fun i => decide (amt i ≠ 0) := by
      refine sorted_its (pz.nodup_iff.mpr nk) so _ fun i hi => ?_
      refine pz.mem_iff.mpr ((kin i).mpr ?_)
      have h0 : amt i ≠ 0 := of_decide_eq_true hi
      rw [← ea i] at h0
      cases z : a i with
      | none => rw [z] at h0; exact absurd rfl h0
      | some n => rfl
    have s1 := same_upd (o := .lst ((zs.map It.s).map V.str)) hp
    refine ⟨p, rfl, ⟨_, SqL.of upd_same⟩, fun R hR => ?_⟩
    have nR : H R = none := (none_of hR).1
    refine lc_list (K := K) (a := p) (xs := (zs.map It.s).map V.str) (fun j H2 => Same (upd H p (.lst ((zs.map It.s).map V.str))) H2 ∧ ∃ acc, H2 R = some (.lst acc) ∧ acc.length ≤ j ∧ Paired (PairV H2) acc (((zs.take j).filter fun i => decide (amt i ≠ 0)).map fun i => (i, amt i)))
      ⟨same_upd hR, [], upd_same, Nat.zero_le _, .nil⟩ (fun j H2 _ h => SqL.of (h.1 _ _ upd_same)) ?_ ?_
    · rintro j y H2 hj ⟨s2, acc, e2, l2, r2⟩
      rw [List.map_map, List.getElem?_map] at hj
      obtain ⟨i, hi, rfl⟩ := Option.map_eq_some_iff.mp hj
      have il : j < zs.length := (List.getElem?_eq_some_iff.mp hi).1
      have z3 := it_len (pz.nodup_iff.mpr nk)
      have ai : (a i).isSome = true := (kin i).mp (pz.mem_iff.mp (List.mem_of_getElem? hi))
      obtain ⟨n, hn⟩ := Option.isSome_iff_exists.mp ai
      have en : amt i = n := by rw [← ea i, hn]; rfl
      have g : DGet H2 d (.str i.s) (some (.int n)) := by
        have := DGet.k (k := kI i) (s2 _ _ (s1 _ _ ed))
        rw [r.at_, hn] at this
        exact this
      refine ⟨rfl, _, rfl, _, rfl, d, _, rfl, g, rfl, _, rfl, ?_⟩
      refine iteNDec (fun c => ?_) (fun c => ?_)
      · refine ⟨_, rfl, _, rfl, _, rfl, d, _, rfl, g, (by show 2 ≤ sizeLine; decide), fun T hT => ?_⟩
        have sT := same_upd (o := .tup [V.str i.s, V.int n]) hT
        have nTR : R ≠ T := ne_of_none e2 hT
        refine ⟨acc, sT _ _ e2, lt_line (by omega), same_put (s2.trans sT) hR, _, upd_same, by rw [List.length_append, List.length_singleton]; omega, ?_⟩
        rw [take_more hi, filter_snoc, if_pos (decide_eq_true (show amt i ≠ 0 from fun z => c (by rw [← en, z]))), List.map_append]
        have up : ∀ {v : V} {q : It × Int}, PairV H2 v q → PairV (upd (upd H2 T (.tup [V.str i.s, V.int n])) R (.lst (acc ++ [V.ref T]))) v q := fun {v q} ⟨b, e, hb⟩ => ⟨b, e, by
          rw [upd_ne (ne_of hb e2 (by intro z; cases z)), upd_ne (ne_of_none hb hT)]
          exact hb⟩
        refine pappend (Paired.mono (fun _ _ => up) r2) (.cons ⟨T, rfl, ?_⟩ .nil)
        rw [upd_ne nTR.symm, upd_same]
        show some (HO.tup [V.str i.s, V.int n]) = some (.tup [.str i.s, .int (amt i)])
        rw [en]
      · refine ⟨s2, acc, e2, by omega, ?_⟩
        rw [take_more hi, filter_snoc, if_neg (by rw [decide_eq_true_iff, en]; exact fun z => z (intI.mp c))]
        exact r2
    · rintro H2 ⟨s2, acc, e2, l2, r2⟩
      rw [List.map_map, List.length_map, List.take_length, fin] at r2
      exact k H2 R acc (s1.trans s2) nR e2 r2
end
end K61
set_option Elab.async false
set_option linter.all false
set_option maxRecDepth 100000
set_option maxHeartbeats 4000000
namespace K61
open PySem PySem.Spec PyProof.Rows L2
structure TxW (K : PySem.W.Frag) (C : Addr) : Prop where
  cl : Cls K C
  nA : NoAttr K C "amounts"
  nS : NoAttr K C "sums"
  nB : NoAttr K C "before"
  nL : NoAttr K C "schedule"
def stepVs : Call → List V
  | .rd t i => [.str "read", .str i.s]
  | .wr t i n => [.str "write", .str i.s, .int n]
  | _ => []
section
variable {P : Program} {w : World} {K : PySem.W.Frag} {mg : Str → Option Value} {base : Heap} {f C : Addr} {fd : FuncData}
theorem putF_lt {f : Str} {v : V} {fs : List (Str × V)} {n : Nat} (h : fs.length < n) : (putF f v fs).length < n + 1 := by
  induction fs generalizing n with
  | nil => exact Nat.succ_lt_succ (Nat.lt_of_le_of_lt (Nat.zero_le _) h)
  | cons q fs ih =>
    obtain ⟨g, u⟩ := q
    show (if g = f then (g, v) :: fs else (g, u) :: putF f v fs).length < n + 1
    by_cases e : g = f
    · rw [if_pos e]
      exact Nat.lt_succ_of_lt h
    · rw [if_neg e]
      cases n with
      | zero => cases h
      | succ n => exact Nat.succ_lt_succ (ih (Nat.lt_of_succ_lt_succ h))
theorem pe_mono {X : Cx} {e : Expr} {t : TE} (h : PE X e t) : PE X e (fun σ H Q => ∃ Q0 : VK, t σ H Q0 ∧ ∀ v H1, Q0 v H1 → Q v H1) := by
  refine ⟨fun pins s σ H Q I q => ?_⟩
  obtain ⟨Q0, q0, w⟩ := q
  exact thn (h.run pins s σ H Q0 I q0) fun d s1 ⟨x, H1, I1, r1, q1⟩ => ⟨x, H1, I1, r1, w x H1 q1⟩
/-! ### Work() -/
def spWI (C : Addr) : Sp := fun vs H Q _ => ∃ (p dx : Addr) (H0 : Hp), vs = [.ref p] ∧ H p = some (.ins C dx []) ∧ Same H0 H ∧ H0 p = none ∧ ∀ H' τ, WorkAt C H0 H' τ p St.new 0 → Q .non H'
theorem scWI : FnScope ["self"] ["self"] (defScope (sWk 0)) := ⟨rfl, rfl, rfl, by decide +kernel, rfl, by decide +kernel, by decide +kernel⟩
theorem wf_put (am su bf sl : Addr) : putF "schedule" (V.ref sl) (putF "before" (V.ref bf) (putF "sums" (V.ref su) (putF "amounts" (.ref am) []))) = wf am su bf sl := by
  have e : ¬ (("amounts" : Str) = "sums") := by decide +kernel
  have e2 : ¬ (("amounts" : Str) = "before") := by decide +kernel
  have e3 : ¬ (("sums" : Str) = "before") := by decide +kernel
  have e4 : ¬ (("amounts" : Str) = "schedule") := by decide +kernel
  have e5 : ¬ (("sums" : Str) = "schedule") := by decide +kernel
  have e6 : ¬ (("before" : Str) = "schedule") := by decide +kernel
  simp only [putF, if_neg e, if_neg e2, if_neg e3, if_neg e4, if_neg e5, if_neg e6]
  rfl
theorem ok_WI (F : FnP K "__init__" "Work.__init__" (sWk 0) f fd) (T : TxW K C) : FnOk P w K mg base CX0 1 f fd ["self"] (spWI C) := by
  refine F.ok scWI (fun vs H Q E h => ?_) (fun cdv A outer s H vs Q E hr h => ?_)
  · obtain ⟨p, dx, H0, rfl, _⟩ := h
    rfl
  · obtain ⟨p, dx, H0, rfl, hp, s0, h0, k⟩ := h
    refine ⟨_, PSs.nox (pss_cons (ps_fld (pv 0) pe_dnewK rfl) (pss_cons (ps_fld (pv 0) pe_dnewK rfl) (pss_cons (ps_fld (pv 0) pe_dnewK rfl) (pss_one (ps_fld (pv 0) (pe_lst pa_nil) rfl))))), ?_⟩
    intro am h1
    have p1 : p ≠ am := ne_of_none hp h1
    refine ⟨_, rfl, p, C, dx, [], rfl, (by rw [upd_ne p1]; exact hp), T.cl, T.nA, (by show 0 < 1000; decide), ?_⟩
    intro su h2
    obtain ⟨h2a, p2⟩ := none_of h2
    obtain ⟨h2b, a2⟩ := none_of h2a
    refine ⟨_, rfl, p, C, dx, _, rfl, (by rw [upd_ne p2.symm, upd_same]), T.cl, T.nS, (by show 1 < 1000; decide), ?_⟩
    intro bf h3
    obtain ⟨h3a, p3⟩ := none_of h3
    obtain ⟨h3b, a3⟩ := none_of h3a
    obtain ⟨h3c, _⟩ := none_of h3b
    obtain ⟨h3d, a3'⟩ := none_of h3c
    refine ⟨_, rfl, p, C, dx, _, rfl, (by rw [upd_ne p3.symm, upd_same]), T.cl, T.nB, (putF_lt (putF_lt (by show 0 < 998; decide))), ?_⟩
    refine ⟨Nat.zero_le _, ?_⟩
    intro sl h4
    obtain ⟨h4a, p4⟩ := none_of h4
    obtain ⟨h4b, a4⟩ := none_of h4a
    obtain ⟨h4c, _⟩ := none_of h4b
    obtain ⟨h4d, a4'⟩ := none_of h4c
    obtain ⟨h4e, _⟩ := none_of h4d
    obtain ⟨h4f, a4''⟩ := none_of h4e
    refine ⟨_, rfl, p, C, dx, _, rfl, (by rw [upd_ne p4.symm, upd_same]), T.cl, T.nL, (putF_lt (putF_lt (putF_lt (by show 0 < 997; decide)))), ?_⟩
    rw [wf_put]
    generalize hH : upd (upd _ sl _) p _ = H'
    have ep : H' p = some (.ins C dx (wf am su bf sl)) := by rw [← hH, upd_same]
    have el : H' sl = some (.lst []) := by rw [← hH, upd_ne p4, upd_same]
    have eb : H' bf = some (.dK []) := by rw [← hH, upd_ne p3, upd_ne a4.symm, upd_ne p3, upd_same]
    have es : H' su = some (.dK []) := by rw [← hH, upd_ne p2, upd_ne a4'.symm, upd_ne p2, upd_ne a3.symm, upd_ne p2, upd_same]
    have ea : H' am = some (.dK []) := by rw [← hH, upd_ne p1.symm, upd_ne a4''.symm, upd_ne p1.symm, upd_ne a3'.symm, upd_ne p1.symm, upd_ne a2.symm, upd_ne p1.symm, upd_same]
    have old : ∀ b u, H0 b = some u → H' b = some u := fun b u e => by
      have q := s0 b u e
      have n0 : b ≠ p := fun z => by rw [z, h0] at e; cases e
      rw [← hH, upd_ne n0, upd_ne (ne_of_none q h4f), upd_ne n0, upd_ne (ne_of_none q h3d), upd_ne n0, upd_ne (ne_of_none q h2b), upd_ne n0, upd_ne (ne_of_none q h1)]
      exact q
    refine k H' (fput (fput (fput (fput (fput (fun _ => none) p (some .obj)) am (some .d1)) su (some .d2)) bf (some .l1)) sl (some .l2)) ⟨dx, am, su, bf, sl, [], fun _ => 0, ?_⟩
    refine { own := ⟨old, fun b r hb => ?_, fun b r hb => ?_⟩, eW := ep, rW := ?_, ea := ⟨[], ea, ⟨_, .nil, fun _ => rfl⟩⟩, ra := ?_, es := ⟨[], es, ⟨_, .nil, fun _ => rfl⟩, Nat.zero_le _⟩, rs := ?_, eb := eb, rb := ?_, el := ⟨[], el, .nil⟩, rl := fput_same, rd := fun t h => (by cases h), hd := fun t h => (by cases h), unb := fun t _ => rfl, lk := Nat.zero_le _, ll := Nat.zero_le _ }
    · by_cases z : b = sl
      · rw [z]; exact s0.free h4f
      rw [fput_ne z] at hb
      by_cases z : b = bf
      · rw [z]; exact s0.free h3d
      rw [fput_ne z] at hb
      by_cases z : b = su
      · rw [z]; exact s0.free h2b
      rw [fput_ne z] at hb
      by_cases z : b = am
      · rw [z]; exact s0.free h1
      rw [fput_ne z] at hb
      by_cases z : b = p
      · rw [z]; exact h0
      rw [fput_ne z] at hb
      cases hb
    · by_cases z : b = sl
      · rw [z]; exact ⟨_, el, True.intro⟩
      rw [fput_ne z] at hb
      by_cases z : b = bf
      · rw [z]; exact ⟨_, eb, True.intro⟩
      rw [fput_ne z] at hb
      by_cases z : b = su
      · rw [z]; exact ⟨_, es, True.intro⟩
      rw [fput_ne z] at hb
      by_cases z : b = am
      · rw [z]; exact ⟨_, ea, True.intro⟩
      rw [fput_ne z] at hb
      by_cases z : b = p
      · rw [z]; exact ⟨_, ep, True.intro⟩
      rw [fput_ne z] at hb
      cases hb
    · rw [fput_ne p4.symm, fput_ne p3.symm, fput_ne p2.symm, fput_ne p1, fput_same]
    · rw [fput_ne a4''.symm, fput_ne a3'.symm, fput_ne a2.symm, fput_same]
    · rw [fput_ne a4'.symm, fput_ne a3.symm, fput_same]
    · rw [fput_ne a4.symm, fput_same]
/-! ### do_step -/
def spStep (C : Addr) : Sp := fun vs H Q _ => ∃ (W st : Addr) (t : Int) (c : Call) (H0 : Hp) (τ : Lbl) (s : St) (n : Nat), vs = [.ref W, .int t, .ref st] ∧ ((∃ i, c = .rd t i) ∨ ∃ i k, c = .wr t i k) ∧ H st = some (.tup (stepVs c)) ∧ WorkAt C H0 H τ W s n ∧ n ≤ 9000 ∧
  ∀ H' τ', WorkAt C H0 H' τ' W (doStep s c) (n + 1) → Q (.int (doVal s c)) H'
theorem scStep : FnScope ["self", "t", "step", "item", "value"] ["self", "t", "step"] (defScope (sWk 1)) := ⟨rfl, rfl, rfl, by decide +kernel, rfl, by decide +kernel, by decide +kernel⟩
theorem ok_step (F : FnP K "do_step" "Work.do_step" (sWk 1) f fd) (T : TxW K C) : FnOk P w K mg base CX0 1 f fd ["self", "t", "step"] (spStep C) := by
  refine F.ok scStep (fun vs H Q E h => ?_) (fun cdv A outer s H vs Q E hr h => ?_)
  · obtain ⟨a, st, t, c, H0, τ, s, n, rfl, _⟩ := h
    rfl
  · obtain ⟨a, st, t, c, H0, τ, S, n, rfl, hc, hst, ⟨dx, am, su, bf, sl, kb, db, X⟩, hn, k⟩ := h
    have hu := hu_of hr
    refine ⟨_, PSs.nox (pss_cons (ps_set (i := 3) scStep.nd rfl (Or.inl rfl) (pe_ix (r := rIxT K) ix_tup (pv 2) pe_int (fun _ _ => rfl)))
      (pss_cons (ps_if (pt_cmpR op_eq (pe_ix (r := rIxT K) ix_tup (pv 2) pe_int (fun _ _ => rfl)) pe_str (nomark _))
        (pss_cons (ps_set (i := 4) scStep.nd rfl (Or.inl rfl) (pe_dget2 hu (pe_fld (pv 0) rfl) (pv 3) pe_int ⟨rfl, rfl, rfl, rfl⟩))
          (pss_one (ps_dput hu (pe_fld (pv 0) rfl) (pv 1) (pe_add (pe_dget2 hu (pe_fld (pv 0) rfl) (pv 1) pe_int ⟨rfl, rfl, rfl, rfl⟩) (pv 4)) rfl)))
        (pss_cons (ps_set (i := 4) scStep.nd rfl (Or.inl rfl) (pe_add (pe_dget2 hu (pe_fld (pv 0) rfl) (pv 1) pe_int ⟨rfl, rfl, rfl, rfl⟩) (pe_ix (r := rIxT K) ix_tup (pv 2) pe_int (fun _ _ => rfl))))
          (C8.pss_cut (ps_expr (pe_dsetd (pe_mono (pe_dsetd (pe_fld (pv 0) rfl) (pv 1) pe_dnewK ⟨rfl, rfl, rfl, rfl⟩)) (pv 3) (pe_dget2 hu (pe_fld (pv 0) rfl) (pv 3) pe_int ⟨rfl, rfl, rfl, rfl⟩) ⟨rfl, rfl, rfl, rfl⟩))
          (pss_one (ps_dput hu (pe_fld (pv 0) rfl) (pv 3) (pv 4) rfl)))))
      (pss_cons (ps_expr (pe_bm PySem.F.plainAttrs_list PySem.F.slot_list_append PySem.F.type_list_append mt_append (pe_fld (pv 0) rfl) (pa_cons (pe_tup (pa_cons (pe_ix (r := rIxT K) ix_tup (pv 2) pe_int (fun _ _ => rfl)) (pa_cons (pv 1) (pa_cons (pv 3) pa_nil)))) pa_nil)))
      (pss_one (ps_ret (pv 4)))))), ?_⟩
    rcases hc with ⟨i, rfl⟩ | ⟨i, m, rfl⟩
    · obtain ⟨A, ea, ra⟩ := X.ea
      obtain ⟨B, es, rs, ls⟩ := X.es
      refine ⟨_, rfl, _, _, _, _, rfl, rfl, SqT.of hst, at_of (j := 1) rfl rfl, _, rfl, _, _, _, _, rfl, rfl, SqT.of hst, at_of (j := 0) rfl rfl, rfl, _, rfl, iteT ?_⟩
      refine ⟨_, rfl, a, C, dx, _, _, rfl, X.eW, T.cl, T.nA, wf_a am su bf sl, am, rfl, .inl ⟨_, .inl ea⟩, _, rfl, _, DGet.k (k := Sum.inr i.s) ea, ?_⟩
      rw [ra.get0]
      refine ⟨_, rfl, a, C, dx, _, _, rfl, X.eW, T.cl, T.nS, wf_s am su bf sl, su, rfl, .inl ⟨_, .inl es⟩, _, rfl, _, DGet.k (k := Sum.inl t) es, ?_⟩
      rw [rs.get0]
      refine ⟨_, rfl, _, _, rfl, rfl, _, rfl, a, C, dx, _, _, rfl, X.eW, T.cl, T.nS, wf_s am su bf sl, _, rfl, su, _, rfl, DPut.k (k := Sum.inl t) es (lt_line (by omega)), ?_⟩
      have X2 := (X.mono (Nat.le_succ n)).setS SameBut.upd upd_same (rs.put t (S.sums t + S.amt i)) (by have := length_put B (Sum.inl t) (.int (S.sums t + S.amt i)); omega)
      obtain ⟨xs, el, rl⟩ := X2.el
      have hst2 := X.own.tup hst
      have ne : st ≠ su := fun z => by rw [z, X.rs] at hst2; cases hst2
      have hst' : upd H su (.dK (putK B (Sum.inl t) (.int (S.sums t + S.amt i)))) st = some (.tup (stepVs (.rd t i))) := by rw [upd_ne ne]; exact hst
      refine ⟨_, rfl, a, C, dx, _, _, rfl, X2.eW, T.cl, T.nL, wf_l am su bf sl, .inl ⟨rfl, _, SqL.of el⟩, _, rfl, _, _, _, _, rfl, rfl, SqT.of hst', at_of (j := 0) rfl rfl, _, rfl, _, rfl, (by show 3 ≤ sizeLine; decide), fun T3 hT => ?_⟩
      have sT := same_upd (o := .tup [V.str "read", V.int t, V.str i.s]) hT
      have X3 := X2.same sT
      have hl : xs.length ≤ n + 1 := by rw [rl.length]; exact X2.ll
      refine ⟨sl, _, _, rfl, rfl, sT _ _ el, lt_line (by omega), ?_⟩
      have nl : T3 ≠ sl := (ne_of_none el hT).symm
      have X4 := X3.setL (xs := xs ++ [V.ref T3]) (l := S.sched ++ [.rd t i]) SameBut.upd upd_same (pappend ((rl.same sT).but X3.own X3.rl SameBut.upd) (.cons ⟨T3, rfl, by rw [upd_ne nl, upd_same]; rfl⟩ .nil)) (by rw [List.length_append]; have := X.ll; show S.sched.length + 1 ≤ n + 1; omega)
      exact ⟨_, rfl, k _ τ ⟨_, _, _, _, _, _, _, X4⟩⟩
    · obtain ⟨A, ea, ra⟩ := X.ea
      obtain ⟨B, es, rs, ls⟩ := X.es
      refine ⟨_, rfl, _, _, _, _, rfl, rfl, SqT.of hst, at_of (j := 1) rfl rfl, _, rfl, _, _, _, _, rfl, rfl, SqT.of hst, at_of (j := 0) rfl rfl, rfl, _, rfl, iteF ?_⟩
      refine ⟨_, rfl, a, C, dx, _, _, rfl, X.eW, T.cl, T.nS, wf_s am su bf sl, su, rfl, .inl ⟨_, .inl es⟩, _, rfl, _, DGet.k (k := Sum.inl t) es, ?_⟩
      rw [rs.get0]
      refine ⟨_, rfl, _, _, _, _, rfl, rfl, SqT.of hst, at_of (j := 2) rfl rfl, _, _, rfl, rfl, ?_⟩
      -- self.before.setdefault(t, {}).setdefault(item, self.amounts.get(item, 0))
      refine ⟨fun σ H3 => σ = [some (.ref a), some (.int t), some (.ref st), some (.str i.s), some (.int (S.sums t + m))] ∧ H3 st = some (.tup (stepVs (.wr t i m))) ∧ ∃ τ2 kb2 db2, WorkX C H0 H3 τ2 a { S with bef := fput S.bef t (fput (S.bef t) i (some ((S.bef t i).getD (S.amt i)))) } (n + 1) dx am su bf sl kb2 db2, ?_, ?_⟩
      · refine ⟨fun v H2 => H2 st = some (.tup (stepVs (.wr t i m))) ∧ ∃ τ2 kb2 db2, v = V.ref (db2 t) ∧ t ∈ kb2 ∧ WorkX C H0 H2 τ2 a S (n + 1) dx am su bf sl kb2 db2, ?_, ?_⟩
        · refine ⟨_, rfl, a, C, dx, _, _, rfl, X.eW, T.cl, T.nB, wf_b am su bf sl, bf, rfl, .inl ⟨_, .inl X.eb⟩, _, rfl, fun D hD => ?_⟩
          have sD := same_upd (o := .dK []) hD
          have XD := (X.mono (Nat.le_succ n)).same sD
          have nst : st ≠ D := ne_of_none hst hD
          refine ⟨_, Sum.inl t, XD.eb, rfl, lt_line (by unfold tabB; rw [List.length_map]; have := X.lk; omega), fun v hv => ?_, fun hv => ?_⟩
          · by_cases ht : t ∈ kb
            · rw [tabB_in ht] at hv
              exact ⟨sD _ _ hst, τ, kb, db, (Option.some.inj hv).symm, ht, XD⟩
            · rw [tabB_out ht] at hv
              cases hv
          · have ht : t ∉ kb := fun z => by rw [tabB_in z] at hv; cases hv
            rw [tabB_new ht]
            have nb : st ≠ bf := fun z => by have q := X.own.tup hst; rw [z, X.rb] at q; cases q
            refine ⟨by rw [upd_ne nb]; exact sD _ _ hst, _, _, _, ?_, mem_snoc.mpr (.inr rfl), XD.newB ht upd_same (X.own.new hD) (X.own.sub.free hD) (by have := X.lk; omega)⟩
            rw [fput_same]
        rintro v H2 ⟨hst2, τ2, kb2, db2, rfl, ht, X2⟩
        obtain ⟨D, eD, rD⟩ := X2.hd t ht
        obtain ⟨A2, ea2, ra2⟩ := X2.ea
        refine ⟨db2 t, rfl, .inl ⟨_, .inl eD⟩, _, rfl, _, rfl, a, C, dx, _, _, rfl, X2.eW, T.cl, T.nA, wf_a am su bf sl, am, rfl, .inl ⟨_, .inl ea2⟩, _, rfl, _, DGet.k (k := Sum.inr i.s) ea2, ?_⟩
        rw [ra2.get0]
        refine ⟨D, Sum.inr i.s, eD, rfl, lt_line (by have := rD.len3; omega), fun v hv => ?_, fun hv => ?_⟩
        · have e := rD.at_ i
          have e : valV D (Sum.inr i.s) = (S.bef t i).map V.int := e
          rw [hv] at e
          obtain ⟨k0, hk⟩ : ∃ k0, S.bef t i = some k0 := by
            cases z : S.bef t i with
            | none => rw [z] at e; cases e
            | some k0 => exact ⟨k0, rfl⟩
          refine ⟨rfl, hst2, τ2, kb2, db2, ?_⟩
          have e3 : fput (S.bef t) i (some ((S.bef t i).getD (S.amt i))) = S.bef t := by
            rw [hk]
            show fput (S.bef t) i (some k0) = _
            rw [← hk, fput_self]
          rw [e3, fput_self]
          exact X2
        · have e : valV D (Sum.inr i.s) = (S.bef t i).map V.int := rD.at_ i
          rw [hv] at e
          have hk : S.bef t i = none := by
            cases z : S.bef t i with
            | none => rfl
            | some k0 => rw [z] at e; cases e
          have nst : st ≠ db2 t := fun z => by have q := X2.own.tup hst2; rw [z, X2.rd t ht] at q; cases q
          refine ⟨rfl, by rw [upd_ne nst]; exact hst2, τ2, kb2, db2, X2.setD ht SameBut.upd upd_same ?_⟩
          rw [hk]
          exact rD.put kI_inj i (S.amt i)
      rintro σ H3 ⟨rfl, hst3, τ3, kb3, db3, X3⟩
      obtain ⟨A3, ea3, ra3⟩ := X3.ea
      have l3 : A3.length ≤ 3 := by obtain ⟨_, r, _⟩ := ra3; exact r.len3
      -- self.amounts[item] = value
      refine ⟨_, rfl, _, rfl, a, C, dx, _, _, rfl, X3.eW, T.cl, T.nA, wf_a am su bf sl, _, rfl, am, _, rfl, DPut.k (k := Sum.inr i.s) ea3 (lt_line (by omega)), ?_⟩
      have X4 := X3.setA SameBut.upd upd_same (ra3.put i (S.sums t + m))
      obtain ⟨xs, el, rl⟩ := X4.el
      have ne : st ≠ am := fun z => by have q := X3.own.tup hst3; rw [z, X3.ra] at q; cases q
      have hst' : upd H3 am (.dK (putK A3 (Sum.inr i.s) (.int (S.sums t + m)))) st = some (.tup (stepVs (.wr t i m))) := by rw [upd_ne ne]; exact hst3
      refine ⟨_, rfl, a, C, dx, _, _, rfl, X4.eW, T.cl, T.nL, wf_l am su bf sl, .inl ⟨rfl, _, SqL.of el⟩, _, rfl, _, _, _, _, rfl, rfl, SqT.of hst', at_of (j := 0) rfl rfl, _, rfl, _, rfl, (by show 3 ≤ sizeLine; decide), fun T3 hT => ?_⟩
      have sT := same_upd (o := .tup [V.str "write", V.int t, V.str i.s]) hT
      have X5 := X4.same sT
      have hl : xs.length ≤ n + 1 := by rw [rl.length]; exact X4.ll
      refine ⟨sl, _, _, rfl, rfl, sT _ _ el, lt_line (by omega), ?_⟩
      have nl : T3 ≠ sl := (ne_of_none el hT).symm
      have X6 := X5.setL (xs := xs ++ [V.ref T3]) (l := S.sched ++ [.wr t i]) SameBut.upd upd_same (pappend ((rl.same sT).but X5.own X5.rl SameBut.upd) (.cons ⟨T3, rfl, by rw [upd_ne nl, upd_same]; rfl⟩ .nil)) (by rw [List.length_append]; have := X.ll; show S.sched.length + 1 ≤ n + 1; omega)
      exact ⟨_, rfl, k _ τ3 ⟨_, _, _, _, _, _, _, X6⟩⟩
end
end K61
set_option Elab.async false
set_option linter.all false
set_option maxRecDepth 100000
set_option maxHeartbeats 4000000
namespace K61
open PySem PySem.Spec PyProof.Rows L2
/-- the value is what it is, or its object is locked from here on -/
def tFrzO (t : TE) : TE := fun σ H Q => t σ H fun x H1 => Q x H1 ∨ ∃ d u, x = .ref d ∧ H1 d = some u ∧ Mut (some u) ∧ ∀ od, Q x (upd H1 d (.frz od u))
theorem pe_frzO {X : Cx} {e : Expr} {t : TE} (h : PE X e t) : PE X e (tFrzO t) := by
  refine ⟨fun pins s σ H Q I hw => ?_⟩
  refine thn (h.run pins s σ H _ I hw) fun v s1 ⟨x, H1, I1, r1, q⟩ => ?_
  rcases q with q | ⟨d, u, ex, hd, mu, q⟩
  · exact ⟨x, H1, I1, r1, q⟩
  · obtain ⟨od, I2⟩ := I1.lock hd mu
    exact ⟨x, _, I2, r1, q od⟩
/-- the turns of d.items(), for the for loop -/
theorem for_items {d : Addr} {o : Obj} {kvs : List (Key × V)} {g : TG} {tb : TS} {D : Ends} {σ : L2.St} {H : Hp} (Pv : Nat → L2.St → Hp → Prop) (h0 : Pv 0 σ H) (hf : ∀ i σ H, Pv i σ H → H d = some (.frz o (.dK kvs)))
    (hs : ∀ i k v T σ H, kvs[i]? = some (k, v) → Pv i σ H → H T = none → g (.ref T) σ (upd H T (.tup [kV k, v])) fun σ2 H2 => tb { D with nx := Pv (i + 1), ct := Pv (i + 1), bk := D.nx } σ2 H2) (hd : ∀ σ H, Pv kvs.length σ H → D.nx σ H) :
    ∃ W : Nat → Nat → L2.St → Hp → Prop, (∃ m, W 0 m σ H) ∧ ∀ i m σ H, W i m σ H →
      ((Iti d o kvs).stop i H ∧ D.nx σ H) ∨ ((Iti d o kvs).go i H ∧ ∃ N : L2.St → Hp → Prop, (∀ σ' H', N σ' H' → ∃ m', m' < m ∧ W (i + 1) m' σ' H') ∧ ∀ x H', (Iti d o kvs).yld i H x H' → g x σ H' fun σ2 H2 => tb { D with nx := N, ct := N, bk := D.nx } σ2 H2) := by
  refine ⟨fun i m σ H => m = kvs.length - i ∧ i ≤ kvs.length ∧ Pv i σ H, ⟨kvs.length, by simp, Nat.zero_le _, h0⟩, ?_⟩
  rintro i m σ H ⟨rfl, hi, p⟩
  by_cases hlt : i < kvs.length
  · refine .inr ⟨⟨hf i σ H p, hlt⟩, Pv (i + 1), fun σ' H' p' => ⟨kvs.length - (i + 1), by omega, rfl, hlt, p'⟩, fun x H' y => ?_⟩
    obtain ⟨T, k, v, e, ex, hT, eH⟩ := y
    subst ex eH
    exact hs i k v T σ H e p hT
  · have e : i = kvs.length := by omega
    subst e
    exact .inl ⟨⟨hf _ σ H p, Nat.le_refl _⟩, hd σ H p⟩
section
variable {P : Program} {w : World} {K : PySem.W.Frag} {mg : Str → Option Value} {base : Heap} {f C : Addr} {fd : FuncData}
def spBack (C : Addr) : Sp := fun vs H Q _ => ∃ (W : Addr) (t : Int) (H0 : Hp) (τ : Lbl) (s : St) (n : Nat), vs = [.ref W, .int t] ∧ WorkAt C H0 H τ W s n ∧ n ≤ 9000 ∧
  ∀ H', WorkAt C H0 H' τ W { s with amt := fun i => (s.bef t i).getD (s.amt i), sched := s.sched ++ [.ab t] } (n + 1) → Q .non H'
theorem scBack : FnScope ["self", "t", "item", "value"] ["self", "t"] (defScope (sWk 2)) := ⟨rfl, rfl, rfl, by decide +kernel, rfl, by decide +kernel, by decide +kernel⟩
theorem ok_back (F : FnP K "take_back" "Work.take_back" (sWk 2) f fd) (T : TxW K C) : FnOk P w K mg base CX0 1 f fd ["self", "t"] (spBack C) := by
  refine F.ok scBack (fun vs H Q E h => ?_) (fun cdv A outer s H vs Q E hr h => ?_)
  · obtain ⟨a, t, H0, τ, S, n, rfl, _⟩ := h
    rfl
  · obtain ⟨a, t, H0, τ, S, n, rfl, ⟨dx, am, su, bf, sl, kb, db, X⟩, hn, k⟩ := h
    have hu := hu_of hr
    refine ⟨_, PSs.nox (C8.pss_cut (ps_lock (ps_for PassesOwn.never rfl (pi_items (pe_frzO (pe_dget2 hu (pe_fld (pv 0) rfl) (pv 1) pe_dnewK ⟨rfl, rfl, rfl, rfl⟩)))
        (pg_tup rfl (pgs_cons (pg_name (i := 2) scBack.nd rfl (Or.inl rfl)) (pgs_cons (pg_name (i := 3) scBack.nd rfl (Or.inl rfl)) pgs_nil)))
        (pss_one (ps_dput hu (pe_fld (pv 0) rfl) (pv 2) (pv 3) rfl))))
      (pss_one (ps_expr (pe_bm PySem.F.plainAttrs_list PySem.F.slot_list_append PySem.F.type_list_append mt_append (pe_fld (pv 0) rfl) (pa_cons (pe_tup (pa_cons pe_str (pa_cons (pv 1) pa_nil))) pa_nil))))), ?_⟩
    refine ⟨fun σ H3 => (∃ u v, σ = [some (.ref a), some (.int t), u, v]) ∧ WorkX C H0 H3 τ a { S with amt := fun i => (S.bef t i).getD (S.amt i) } n dx am su bf sl kb db, ?_, ?_⟩
    · by_cases ht : t ∈ kb
      · obtain ⟨D, eD, rD⟩ := X.hd t ht
        obtain ⟨A, ea, ⟨av, ra, ga⟩⟩ := X.ea
        have nam : am ≠ db t := role_ne X.ra (X.rd t ht) (by intro z; cases z)
        have nW : a ≠ db t := role_ne X.rW (X.rd t ht) (by intro z; cases z)
        have nb : bf ≠ db t := role_ne X.rb (X.rd t ht) (by intro z; cases z)
        have nWa : a ≠ am := role_ne X.rW X.ra (by intro z; cases z)
        refine ⟨db t, .dK D, eD, True.intro, fun od => ?_⟩
        generalize hH1 : upd H (db t) (.frz od (.dK D)) = H1
        have e1 : H1 (db t) = some (.frz od (.dK D)) := by rw [← hH1, upd_same]
        have eW1 : H1 a = some (.ins C dx (wf am su bf sl)) := by rw [← hH1, upd_ne nW]; exact X.eW
        have eb1 : H1 bf = some (.dK (tabB kb db)) := by rw [← hH1, upd_ne nb]; exact X.eb
        have ea1 : H1 am = some (.dK A) := by rw [← hH1, upd_ne nam]; exact ea
        refine ⟨_, rfl, a, C, dx, _, _, rfl, eW1, T.cl, T.nB, wf_b am su bf sl, bf, rfl, .inl ⟨_, .inl eb1⟩, _, rfl, fun e he => ?_⟩
        have se := same_upd (o := .dK []) he
        refine ⟨_, DGet.k (k := Sum.inl t) (se _ _ eb1), .inl ?_⟩
        rw [tabB_in ht]
        refine ⟨db t, od, D, rfl, se _ _ e1, ?_⟩
        refine for_items (fun i σ H2 => (∃ u v, σ = [some (.ref a), some (.int t), u, v]) ∧ SameBut am H1 H2 ∧ ∃ A2 a2, H2 am = some (.dK A2) ∧ NumRep kI A2 a2 ∧ ∀ j, (∃ m, (kI j, V.int m) ∈ D.take i ∧ a2 j = some m) ∨ ((∀ v, (kI j, v) ∉ D.take i) ∧ a2 j = av j))
          ⟨⟨none, none, rfl⟩, Same.but se, A, av, se _ _ ea1, ra, fun j => .inr ⟨fun v h => (by cases h), rfl⟩⟩ (fun i σ H2 h => h.2.1 _ _ nam.symm e1) ?_ ?_
        · rintro i q v T3 σ H2 hi ⟨⟨u1, u2, rfl⟩, s2, A2, a2, ea2, ra2, inv⟩ hT
          obtain ⟨j, m, ej⟩ := rD.en _ (List.mem_of_getElem? hi)
          injection ej with ej1 ej2
          subst ej1 ej2
          have sT := same_upd (o := .tup [kV (kI j), V.int m]) hT
          refine ⟨T3, _, rfl, SqT.of upd_same, rfl, _, _, rfl, _, _, rfl, rfl, ?_⟩
          refine ⟨_, rfl, _, rfl, a, C, dx, _, _, rfl, sT _ _ (s2 _ _ nWa eW1), T.cl, T.nA, wf_a am su bf sl, _, rfl, am, _, rfl, DPut.k (k := kI j) (sT _ _ ea2) (lt_line (by have := ra2.len3; omega)), ?_⟩
          refine ⟨⟨_, _, rfl⟩, fun b u nb e => ?_, _, _, upd_same, ra2.put kI_inj j m, fun l => ?_⟩
          · rw [upd_ne nb]
            exact sT _ _ (s2 _ _ nb e)
          · rw [take_more hi]
            by_cases e : l = j
            · subst e
              exact .inl ⟨m, mem_snoc.mpr (.inr rfl), fput_same⟩
            · rw [fput_ne e]
              rcases inv l with ⟨m', h1, h2⟩ | ⟨h1, h2⟩
              · exact .inl ⟨m', mem_snoc.mpr (.inl h1), h2⟩
              · refine .inr ⟨fun v h => ?_, h2⟩
                rcases mem_snoc.mp h with h | h
                · exact h1 v h
                · injection h with h _
                  exact e (kI_inj _ _ h)
        · rintro σ H2 ⟨⟨u1, u2, rfl⟩, s2, A2, a2, ea2, ra2, inv⟩
          rw [List.take_length] at inv
          refine ⟨s2 _ _ nam.symm e1, ⟨_, _, rfl⟩, X.setA (A := A2) (fun b u nb e => ?_) (by rw [upd_ne nam]; exact ea2) ⟨a2, ra2, fun j => ?_⟩⟩
          · by_cases z : b = db t
            · rw [z, upd_same]
              rw [z, eD] at e
              exact e
            · rw [upd_ne z]
              refine s2 b u nb ?_
              rw [← hH1, upd_ne z]
              exact e
          · show (a2 j).getD 0 = (S.bef t j).getD (S.amt j)
            rcases inv j with ⟨m, h1, h2⟩ | ⟨h1, h2⟩
            · rw [h2, rD.mem.mp h1]
              rfl
            · have hb : S.bef t j = none := by
                cases z : S.bef t j with
                | none => rfl
                | some m => exact absurd (rD.mem.mpr z) (h1 _)
              rw [h2, hb, ga j]
              rfl
      · obtain ⟨xs, el, rl⟩ := X.el
        have nW : a ≠ sl := role_ne X.rW X.rl (by intro z; cases z)
        have nb : bf ≠ sl := role_ne X.rb X.rl (by intro z; cases z)
        refine ⟨sl, .lst xs, el, True.intro, fun od => ?_⟩
        generalize hH1 : upd H sl (.frz od (.lst xs)) = H1
        have e1 : H1 sl = some (.frz od (.lst xs)) := by rw [← hH1, upd_same]
        have eW1 : H1 a = some (.ins C dx (wf am su bf sl)) := by rw [← hH1, upd_ne nW]; exact X.eW
        have eb1 : H1 bf = some (.dK (tabB kb db)) := by rw [← hH1, upd_ne nb]; exact X.eb
        refine ⟨_, rfl, a, C, dx, _, _, rfl, eW1, T.cl, T.nB, wf_b am su bf sl, bf, rfl, .inl ⟨_, .inl eb1⟩, _, rfl, fun e he => ?_⟩
        have se := same_upd (o := .dK []) he
        refine ⟨_, DGet.k (k := Sum.inl t) (se _ _ eb1), ?_⟩
        rw [tabB_out ht]
        refine .inr ⟨e, .dK [], rfl, upd_same, True.intro, fun od2 => ⟨e, od2, [], rfl, upd_same, ?_⟩⟩
        refine for_items (fun i σ H2 => (∃ u v, σ = [some (.ref a), some (.int t), u, v]) ∧ H2 = upd (upd H1 e (.dK [])) e (.frz od2 (.dK []))) ⟨⟨none, none, rfl⟩, rfl⟩ (fun i σ H2 h => by rw [h.2, upd_same]) (fun i q v T3 σ H2 hi _ _ => by cases hi) ?_
        rintro σ H2 ⟨⟨u1, u2, rfl⟩, rfl⟩
        have ns : sl ≠ e := ne_of_none e1 he
        refine ⟨by rw [upd_ne ns, upd_ne ns]; exact e1, ⟨_, _, rfl⟩, ?_⟩
        have eA : (fun i => (S.bef t i).getD (S.amt i)) = S.amt := by
          rw [X.unb t ht]
          rfl
        rw [eA]
        refine X.same fun b u q => ?_
        by_cases z : b = sl
        · rw [z, upd_same]
          rw [z, el] at q
          exact q
        · have q1 : H1 b = some u := by rw [← hH1, upd_ne z]; exact q
          have ne : b ≠ e := ne_of_none q1 he
          rw [upd_ne z, upd_ne ne, upd_ne ne]
          exact q1
    rintro σ H3 ⟨⟨u, v, rfl⟩, X3⟩
    have X4 := X3.mono (Nat.le_succ n)
    obtain ⟨xs, el, rl⟩ := X4.el
    refine ⟨_, rfl, a, C, dx, _, _, rfl, X4.eW, T.cl, T.nL, wf_l am su bf sl, .inl ⟨rfl, _, SqL.of el⟩, _, rfl, (by show 2 ≤ sizeLine; decide), fun T3 hT => ?_⟩
    have sT := same_upd (o := .tup [V.str "abort", V.int t]) hT
    have X5 := X4.same sT
    have hl : xs.length ≤ n + 1 := by rw [rl.length]; exact X4.ll
    refine ⟨sl, _, _, rfl, rfl, sT _ _ el, lt_line (by omega), ?_⟩
    have nl : T3 ≠ sl := (ne_of_none el hT).symm
    have X6 := X5.setL (xs := xs ++ [V.ref T3]) (l := S.sched ++ [.ab t]) SameBut.upd upd_same (pappend ((rl.same sT).but X5.own X5.rl SameBut.upd) (.cons ⟨T3, rfl, by rw [upd_ne nl, upd_same]; rfl⟩ .nil)) (by rw [List.length_append]; have := X.ll; show S.sched.length + 1 ≤ n + 1; omega)
    exact k _ ⟨_, _, _, _, _, _, _, X6⟩
end
end K61
set_option Elab.async false
set_option linter.all false
set_option maxRecDepth 100000
set_option maxHeartbeats 4000000
/-! ManagerError: an own class over an own class over ValueError, whose __init__ says super().__init__(what). -/
namespace K61
open PySem PySem.W PySem.Calls PyProof.Rows PySem.HandSPX
/-- what the written part says of ManagerError, at C, and of its __init__, at fI -/
structure METxt (P : Program) (K : Frag) (mg : Str → Option Value) (C fI : Addr) : Prop where
  gC : mg "ManagerError" = some (.ref C)
  gS : mg "super" = none
  cls : ∃ nm q N bs bm sn sub ab col dd k0 k1 k2 k3 k5, K.lookup C = some (excClassObj nm q C N bs bm true sn sub ab col dd k0 k1 k2 k3 k5 "ValueError.__new__") ∧ refsVE bm = true
  sup : ks_superIn K C C "__init__" = some (some (.builtin "ValueError.__init__"))
  any : nsIn K cStatics "thirdparty.any" = some none
  sa : findIn K (.ref C) "__setattr__" = some (some (.builtin "object.__setattr__"))
  ga : findIn K (.ref C) "__getattribute__" = some (some (.builtin "BaseException.__getattribute__"))
  gg : findIn K (.ref C) "__getattr__" = some none
  noN : findIn K (.ref C) "what" = some none
  iC : findIn K (.ref C) "__init__" = some (some (.ref fI))
  tC : typeIn K (.ref fI) = some (.type "function")
  kC : keepIn K (.ref C) = true
  exC : subIn K (.ref C) (.type "BaseException") = some true
  veC : subIn K (.ref C) (.type "ValueError") = some true
  sfC : mroIn K C (.ref C) = some true
  tyC : typeIn K (.ref C) = some (.type "type")
  hdC : hasDictIn K C = true
  fn : ∃ (oc : Value) (od : Option Addr) (doc pm : Value) (an : Option Addr) (cda cc : Addr) (ct : Value) (osl : Array (Option Value)) (vs : Array Value) (tf : Tok) (ccl cl : Value) (cdd cld : Option Addr) (ccs csl : Array (Option Value)),
    K.lookup fI = some ⟨oc, od, .func (ksFn "__init__" "ManagerError.__init__" (L2.defArgs sMErr) (L2.defBody sMErr) (L2.defScope sMErr) .none .none doc pm an (.ref cda) ct cc), osl⟩ ∧ codeIn K (.ref cda) "ManagerError.__init__" = true ∧
    K.lookup cda = some ⟨ccl, cdd, .fields vs, ccs⟩ ∧ vs[2]? = some (.str P.main.file tf) ∧ K.lookup cc = some ⟨cl, cld, .cell (some (.ref C)), csl⟩
  top : (P.main.scope.names.lookup ("super" : Str)).isSome = false
theorem kept_but {K : Frag} {h h' : Heap} {x : Addr} (X : K.In h) (hx : K.lookup x = none) (k : ∀ b o, b ≠ x → h.get? b = some o → h'.get? b = some o) : K.In h' := fun a o e =>
  k a o (fun z => by rw [z, hx] at e; cases e) (X a o e)
theorem one_size (v : Value) : [v].length ≤ sizeLine := by
  rw [sizeLine_eq]
  exact (by decide : 1 ≤ 16777216)
section
variable {prog : Program} {w : World} {M : Model} {A : Around} {E : Value → Shared → Prop} {h : Heap} {g : Array GenState} {d : Drawn} {t : Nat} {os : OsState}
variable {nm q : Str} {C N : Addr} {bs bm bmB : List Value} {hdct : Bool} {sn : List Str} {sub : List Value} {ab : Bool} {col : Option Bool} {dd : Option Addr} {k0 k1 k2 k3 k5 : Option Value} {B newId initId : String}
theorem check_bnd (F : ExcBaseFacts B newId initId bmB) {e : Addr} {oe : Obj} {rest : List Value} {Q : Unit → Shared → Prop}
    (hC : h.get? C = some (excClassObj nm q C N bs bm hdct sn sub ab col dd k0 k1 k2 k3 k5 newId)) (he : h.get? e = some oe) (hcls : oe.cls = .ref C) (hq : Q () ⟨h, g, d, t, os⟩) :
    wpAny M A (checkBoundCall initId ⟨.ref e :: rest, []⟩) Q E ⟨h, g, d, t, os⟩ := by
  have hshort := F.noStar
  simp only [checkBoundCall, F.initKind, F.initRow]
  repeat (first | (with_reducible refine wpAny_loadPart_at he ?_; rw [hcls]) | with_reducible refine wpAny_loadPart_at hC ?_ | wp_step)
  refine wpAny_onRaise ?_
  rw [show ∀ (a b : String) (n : Nat), Bind.check ⟨.positional, "*", B, .self, [⟨"args", .varPos, false⟩]⟩ a b n (List.map (fun x => x.fst) ({ pos := Value.ref e :: rest } : Args).kw) = pure () from
    fun a b n => check_star_args _ _ _ _ _ _]
  exact wpAny_pure hq
/-- ValueError.__init__ bound to the exception, called -/
theorem call_mw {u e t0 : Addr} {rest : List Value} {Q : Value → Shared → Prop}
    (hC : h.get? C = some (excClassObj nm q C N bs bm hdct sn sub ab col dd k0 k1 k2 k3 k5 "ValueError.__new__")) (he : h.get? e = some (excO C t0)) (hu : h.get? u = some (kxs_mw "ValueError.__init__" e)) (hrest : rest.length ≤ sizeLine)
    (hq : ∀ h' t1, (∀ b o, b ≠ e → h.get? b = some o → h'.get? b = some o) → h'.get? e = some (excO C t1) → Q .none ⟨h', g, d, t, os⟩) :
    wpAny (model prog w) A (call (.ref u) rest) Q E ⟨h, g, d, t, os⟩ := by
  refine wpAny_call (codeAny_of_tree ?_)
  show wpAny _ A.in1 (callAny (.ref u) ⟨rest, []⟩) _ _ _
  simp only [callAny]
  refine wpAny_bind (wpAny_load hu ?_)
  simp only [kxs_mw, show (Value.type "method-wrapper" == Value.type "method" || Value.type "method-wrapper" == Value.type "builtin_function_or_method" || Value.type "method-wrapper" == Value.type "method-wrapper") = true by decide, if_true]
  refine W.KFB.if_so (by decide) ?_
  refine wpAny_bind (check_bnd PySem.F.excBase_ValueError hC he rfl ?_)
  refine wpAny_bind (wpAny_pure (wpAny_pure ?_))
  refine ⟨Code.quiet_builtin _ (by decide +kernel), codeAny_builtin PySem.F.excBase_ValueError.initEntry ?_⟩
  exact exc_init_tree (cls := .ref C) (t0 := t0) (dv := none) (c2 := .none) (c3 := .none) (b4 := .bool false) he hrest fun h' k e' _ => hq h' _ k e'
end
/-- what __init__ leaves of a fresh exception at x -/
structure InitEnd (h h' : Heap) (x C dx t1 : Addr) (v : Value) : Prop where
  keep : ∀ b o, b ≠ x → h.get? b = some o → h'.get? b = some o
  obj : h'.get? x = some { cls := .ref C, dict := some dx, data := .fields #[.ref t1, .none, .none, .none, .bool false, .none] }
  dbig : h.objs.size ≤ dx
  dne : dx ≠ x
  ns : h'.Ns1 dx (fun y => if y = "what" then some v else none)
structure OwnMade (h h' : Heap) (e C d : Addr) (v : Value) : Prop where
  keep : ∀ b o, h.get? b = some o → h'.get? b = some o
  new : h.objs.size ≤ e
  obj : ∃ oe vs, h'.get? e = some oe ∧ oe.cls = .ref C ∧ oe.dict = some d ∧ oe.data = .fields vs ∧ vs[1]? = some .none
  dbig : h.objs.size ≤ d
  dne : d ≠ e
  ns : h'.Ns1 d (fun y => if y = "what" then some v else none)
section
variable {prog : Program} {w : World} {A : Around} {E : Value → Shared → Prop} {R : Result → Shared → Prop} {s : Shared} {K : Frag} {mg : Str → Option Value} {C fI : Addr}
theorem ldN {M : Model} {env : Env} {m : Str → Option Value} {x : Str} {pos : Pos} {v : Value} {Q : Value → Shared → Prop} (hn : s.heap.Ns env.locals m) (hv : m x = some v) (h : Q v s)
    (hk : env.scope.kind = .function := by rfl) (hl : env.kindOf x = some .local := by rfl) (hd : (x == ("__debug__" : Str)) = false := by decide) : wpAny M A (eval (.Name x pos) env) Q E s := wpAny_Name (wpAny_loadName_local hk hl hn hv h) hd
theorem me_cell : ∀ x ∈ (L2.defScope sMErr).names, x.2 ≠ .cell := by decide +kernel
theorem me_loc {a b : Value} : ∀ x ∈ [(("self" : Str), a), ("what", b)], (L2.defScope sMErr).names.lookup x.1 = some .local := by
  intro x hx
  rcases List.mem_cons.mp hx with rfl | hx
  · show (L2.defScope sMErr).names.lookup ("self" : Str) = some .local
    decide +kernel
  · rw [List.mem_singleton.mp hx]
    show (L2.defScope sMErr).names.lookup ("what" : Str) = some .local
    decide +kernel
theorem me_init (T : METxt prog K mg C fI) {x t0 : Addr} {v : Value} (X : K.In s.heap) (hlim : s.heap.NoLimit) (hg : s.heap.Ns mainGlobals mg) (hb : ∃ mb, s.heap.Ns builtinsNs mb ∧ ∀ x : Str, x ≠ "__name__" → mb x = bootBuiltins x) (hx : s.heap.get? x = some (excO C t0)) (hnx : K.lookup x = none) (hroom : A.depth < recursionLimit)
    (hq : ∀ h' tk dx t1, InitEnd s.heap h' x C dx t1 v → R (.ok (.ret .none)) { s with heap := h', toks := tk }) :
    codeAny (model prog w) A (.call (.ref fI) ⟨[.ref x, v], []⟩) R s := by
  obtain ⟨oc, od, doc, pm, an, cda, cc, ct, osl, vs, tf, ccl, cl, cdd, cld, ccs, csl, ho, hcd, hcode, hfile, hcell⟩ := T.fn
  obtain ⟨nm, q, N, bs, bm, sn, sub, ab, col, dd, k0, k1, k2, k3, k5, hC, hbm⟩ := T.cls
  have hcl : clsIn K C = some { name := nm, bases := bs, mro := .ref C :: bm, ns := N, qualname := q, hasDict := true, slotNames := sn, subclasses := sub, abstract := ab, collection := col, hasDel := false } := by unfold clsIn; rw [hC] <;> rfl
  have hxC : x ≠ C := fun z => by rw [z, hC] at hnx; cases hnx
  refine ks_codeAny_call_defAt (fd := ksFn "__init__" "ManagerError.__init__" (L2.defArgs sMErr) (L2.defBody sMErr) (L2.defScope sMErr) .none .none doc pm an (.ref cda) ct cc)
    (binds := [("self", .ref x), ("what", v)]) hroom (X _ _ ho) rfl hlim (codeRec_of X hcd) rfl (BindsTo.of_eq (by first | rfl | with_unfolding_all rfl)) me_cell me_loc (fun h₁ hns k₁ => ?_) rfl rfl rfl
  have X₁ : K.In h₁ := X.keeps k₁
  have hx₁ := k₁ _ _ hx
  have hg₁ := hg.keeps k₁
  obtain ⟨mb, hb, hmb⟩ := hb
  have hb₁ := hb.keeps k₁
  have hC₁ := X₁ _ _ hC
  have hsup : alongIn K "__init__" bm = some (some (.builtin "ValueError.__init__")) := by
    have z := T.sup
    unfold ks_superIn at z
    rw [hcl, Option.bind_some] at z
    have e : ((Value.ref C :: bm).dropWhile (· != .ref C)).drop 1 = bm := by simp [List.dropWhile_cons]
    rw [e] at z
    exact z
  -- super().__init__(what)
  refine ks_wpAt_execs_cons (ks_wpAt_Expr_any (ks_wpAt_MethodCall (ks_wpAt_super_base rfl rfl (by decide) rfl (X₁ _ _ ho) rfl rfl rfl (X₁ _ _ hcode) rfl hfile (by simp) T.top ?_)))
  refine ks_loadName_global rfl rfl (loadGlobal_builtin hg₁ T.gS hb₁ ((hmb _ (by decide)).trans (by first | rfl | kernel_rfl)) ⟨rfl, ?_⟩)
  refine wpAny_loadName_free rfl rfl rfl ⟨_, X₁ _ _ hcell, rfl⟩ ?_
  refine wpAny_loadName_local rfl rfl hns (v := .ref x) (by rfl) ?_
  refine ks_wpAny_isType_cls hC₁ rfl ⟨rfl, ?_⟩
  refine ks_wpAny_call_super hC₁ rfl hx₁ rfl (fun c e => by cases e) (looks_mroIn X₁ T.sfC) (fun h₂ e₂ k₂ => ?_)
  have X₂ : K.In h₂ := X₁.keeps k₂
  have hx₂ := k₂ _ _ hx₁
  have hns₂ := hns.keeps k₂
  have I₂ : InstAt h₂ x (excO C t0) C none := ⟨hx₂, rfl, rfl, trivial⟩
  refine kxs_getMethod kxs_ValueError e₂ (looks_opaque X₂ T.any) (l₀ := .ref C :: bm) (fun A Q E s k q => wpAny_bind ((looks_clsIn X₂ hcl) A _ E s k (wpAny_pure q))) (by simp [List.dropWhile_cons]) X₂ hsup (I₂.type.andThen (looks_subIn X₂ T.veC)) hxC (by decide) ?_
  have k₃ : ∀ b o, h₂.get? b = some o → (h₂.push (kxs_mw "ValueError.__init__" x)).get? b = some o := fun b o e => Heap.get?_push_of_some _ e
  have hu : (h₂.push (kxs_mw "ValueError.__init__" x)).get? h₂.objs.size = some (kxs_mw "ValueError.__init__" x) := Heap.get?_push_at rfl rfl
  have hns₃ := hns₂.keeps k₃
  refine kxs_callWith (i := "ValueError.__init__") (x := x) rfl (evalArgs_plain (Calls.spliced_cons (ldN hns₃ (v := v) (by rfl) (Calls.spliced_nil ⟨hu, ?_⟩))))
  have hC₃ := k₃ _ _ (X₂ _ _ hC)
  have hx₃ := k₃ _ _ hx₂
  refine call_mw hC₃ hx₃ hu (one_size v) fun h₄ t1 k₄ hx₄ => ?_
  have hLx : s.heap.objs.size ≠ x := Nat.ne_of_gt (Heap.lt_size hx)
  have X₄ : K.In h₄ := kept_but (X₂.keeps k₃) hnx k₄
  have hns₄ : h₄.Ns s.heap.objs.size (fun y => [(("self" : Str), Value.ref x), ("what", v)].reverse.lookup y) := hns₃.at fun o q => k₄ _ o hLx q
  -- self.what = what
  show _root_.PySem.wpAt _ _ _ (execs _ _) _ _ _
  refine ks_wpAt_execs_cons (wpAt_of_wpAny (plainObj_wpAny_Assign_Attribute (ldN hns₄ (v := v) (by rfl) (ldN hns₄ (v := .ref x) (by rfl) ?_))))
  refine set_plain X₄ (ox := excO C t1) (od := none) ⟨hx₄, rfl, rfl, trivial⟩ T.sa ?_
  refine exc_osa X₄ hx₄ hcl (show refsVE (.ref C :: bm) = true from hbm) rfl T.noN (fun h₅ tk₅ dx k₅ dn dne hx₅ hn₅ => ?_)
  show _root_.PySem.wpAt _ _ _ (execs _ _) _ _ _
  have z : s.heap.objs.size < h₄.objs.size := hns₄.lt
  exact wpAt_of_wpAny (wpAny_execs_nil (hq h₅ tk₅ dx t1 ⟨fun b o hb e => k₅ b o hb (k₄ b o hb (k₃ b o (k₂ b o (k₁ b o e)))), hx₅, Nat.le_of_lt (Nat.lt_of_lt_of_le z dn), dne, hn₅⟩))
theorem me_made (T : METxt prog K mg C fI) {v : Value} (X : K.In s.heap) (hlim : s.heap.NoLimit) (hg : s.heap.Ns mainGlobals mg) (hb : ∃ mb, s.heap.Ns builtinsNs mb ∧ ∀ x : Str, x ≠ "__name__" → mb x = bootBuiltins x) (hroom : A.depth + 1 < recursionLimit)
    (hq : ∀ h' tk e d, OwnMade s.heap h' e C d v → R (.ok (.ret (.ref e))) { s with heap := h', toks := tk }) :
    codeAny (model prog w) A (.call (.ref C) ⟨[v], []⟩) R s := by
  obtain ⟨nm, q, N, bs, bm, sn, sub, ab, col, dd, k0, k1, k2, k3, k5, hC, hbm⟩ := T.cls
  obtain ⟨hp, g, dr, tk, os⟩ := s
  have k : ∀ b o, hp.get? b = some o → ((hp.push (kdv_tup [v])).push (excO C hp.objs.size)).get? b = some o := fun b o e => Heap.get?_push_of_some _ (Heap.get?_push_of_some _ e)
  have hget : ((hp.push (kdv_tup [v])).push (excO C hp.objs.size)).get? (hp.objs.size + 1) = some (excO C hp.objs.size) := by heap_get
  have hnx : K.lookup (hp.objs.size + 1) = none := by
    cases e : K.lookup (hp.objs.size + 1) with
    | none => rfl
    | some o =>
      have z : hp.get? (hp.objs.size + 1) = some o := X _ _ e
      exact absurd (Nat.lt_of_succ_lt (Heap.lt_size z)) (Nat.lt_irrefl _)
  obtain ⟨mb, hb, hmb⟩ := hb
  refine call_own PySem.F.excBase_ValueError (fun X => refsVE_contains X bm hbm) (X _ _ hC) (looks_findIn X T.iC) (fun self => bind_fn X self T.tC) (one_size v) ?_
  refine me_init (s := ⟨(hp.push (kdv_tup [v])).push (excO C hp.objs.size), g, dr, tk, os⟩) T (X.keeps k) (hlim.keeps k) (hg.keeps k) ⟨mb, hb.keeps k, hmb⟩ hget hnx ?_ fun h' tk' dx t1 ⟨k', hx, dn, dne, hns⟩ => ?_
  · show A.depth + 1 < recursionLimit
    exact hroom
  · have old : ∀ b o, hp.get? b = some o → h'.get? b = some o := fun b o e => k' b o (Nat.ne_of_lt (Nat.lt_succ_of_lt (Heap.lt_size e))) (k b o e)
    have z : hp.objs.size + 1 + 1 ≤ dx := by
      first
        | (simpa only [Heap.size_push] using dn)
        | exact dn
        | (have q := dn; rw [Heap.size_push, Heap.size_push] at q; exact q)
    exact ⟨rfl, hq h' tk' (hp.objs.size + 1) dx ⟨old, Nat.le_succ _, ⟨_, _, hx, rfl, rfl, rfl, rfl⟩, Nat.le_trans (Nat.le_trans (Nat.le_succ _) (Nat.le_succ _)) z, dne, hns⟩⟩
end
end K61
namespace L2
open PySem PySem.Spec PyProof.Rows
theorem relO_what {v : V} {v' : Value} (r : RelV v v') (f : Str) : RelO (List.lookup f [(("what" : Str), v)]) (if f = "what" then some v' else none) := by
  by_cases hw : f = "what"
  · subst hw
    rw [if_pos rfl]
    have q : List.lookup ("what" : Str) [(("what" : Str), v)] = some v := by simp [List.lookup]
    rw [q]
    exact r
  · rw [if_neg hw]
    have qw : (f == ("what" : Str)) = false := by simpa using hw
    have q2 : List.lookup f [(("what" : Str), v)] = none := by simp [List.lookup, qw]
    rw [q2]
    trivial
section
variable {X : Cx} {C fI : Addr}
/-- ManagerError(e) -/
def tMkME (C : Addr) (ta : TA) : St → Hp → XK → Prop := fun σ H Q => ta σ H fun vs H1 => ∃ v, vs = [v] ∧ ∀ d, H1 d = none → Q (.ref C) (some d) (upd H1 d (.xd [(("what" : Str), v)]))
theorem pmk_me {a : Expr} {ta : TA} {p pos : Pos} {k : Nat} (T : K61.METxt X.prog X.K X.mg C fI) (hr : Room k X.A) (ha : PA X [a] ta) (hg : Gl X "ManagerError" := by rfl)
    (he : starEach (a :: []) X.env = (false, eval a X.env) :: starEach [] X.env := by rfl) (hpl : (backTo pos (starEach [] X.env)).any (·.1) = false := by rfl) :
    PMk X (.Call (.Name "ManagerError" p) [a] [] pos) (tMkME C ta) := by
  intro pins s σ H Q I h
  refine wpAny_Call_Name_kw (ld_glob I hg T.gC ?_)
  refine PySem.W.callWith_K (h₀ := X.base) I.ok.mod.kin T.kC (thn (ha.run pos pins s σ H _ I h) fun us s1 hh => ?_) he hpl
  obtain ⟨vs, H1, I1, r1, v, ev, q1⟩ := hh
  subst ev
  refine ⟨I1.kIn, ?_⟩
  cases r1 with
  | cons rv rn =>
    rename_i v' us'
    cases rn
    show wpAny _ _ (call (.ref C) [v']) _ _ _
    have hlim := I1.nolimit
    have hG := I1.mod.glob.keeps I1.bk
    obtain ⟨mb, hB1, hB2⟩ := I1.mod.blt
    have hB1 := hB1.keeps I1.bk
    obtain ⟨hp, g, dr, tk, os⟩ := s1
    refine wpAny_call (K61.me_made T I1.kIn hlim hG ⟨mb, hB1, hB2⟩ (by have := hr.dp; omega) fun h' tk' e d M => ?_)
    show MkP X pins σ Q (.ref e) ⟨h', g, dr, tk', os⟩
    obtain ⟨oe, fv, hoe, hc, hd, hdat, h1⟩ := M.obj
    have hns := M.ns
    obtain ⟨G', g1, g2⟩ := restrict h' fun b => decide (b ≠ e)
    have gk : ∀ b, b ≠ e → G'.get? b = h'.get? b := fun b hb => g1 b (decide_eq_true hb)
    have ge : G'.get? e = none := g2 e (by simp)
    have old : ∀ b o, hp.get? b = some o → G'.get? b = some o := fun b o q => (gk b (Nat.ne_of_lt (Nat.lt_of_lt_of_le (Heap.lt_size q) M.new))).trans (M.keep b o q)
    have ob : ObjOk X.prog X.w (upd H1 d (.xd [(("what" : Str), v)])) G' d (.xd [(("what" : Str), v)]) :=
      ⟨_, hns.at (fun o q => (gk d M.dne).trans q), fun f => relO_what rv f⟩
    have J : Inv X pins σ (upd H1 d (.xd [(("what" : Str), v)])) ⟨G', g, dr, tk', os⟩ := I1.laid (t' := tk') old M.dbig ob
    refine ⟨e, oe, fv, ⟨G', g, dr, tk', os⟩, _, .ref C, some d, rfl, J, fun b o q => ?_, ge, hoe, ⟨hc, hd⟩, hdat, h1, ?_, rfl, I1.bare, raises_own T.exC T.tyC, q1 d (I1.hok.fresh M.dbig)⟩
    · by_cases hb : b = e
      · have q' : G'.get? b = some o := q
        rw [hb, ge] at q'; cases q'
      · exact (gk b hb).symm.trans q
    · rw [upd_ne (Ne.symm M.dne)]
      exact I1.hok.fresh M.new
/-- raise ManagerError(e) -/
def tRaiseME (C : Addr) (W : WX) (ta : TA) : TS := fun _ σ H => tMkME C ta σ H fun cls d H' => W cls d σ H'
theorem ps_raiseME {a : Expr} {ta : TA} {W : WX} {p pos pos2 : Pos} {k : Nat} (hc : X.calm = true) (T : K61.METxt X.prog X.K X.mg C fI) (hr : Room k X.A) (tk : Takes X W) (ha : PA X [a] ta) (hg : Gl X "ManagerError" := by rfl)
    (he : starEach (a :: []) X.env = (false, eval a X.env) :: starEach [] X.env := by rfl) (hpl : (backTo pos (starEach [] X.env)).any (·.1) = false := by rfl) :
    PS X (.Raise (some (.Call (.Name "ManagerError" p) [a] [] pos)) none pos2) (tRaiseME C W ta) := ps_raise hc tk (pmk_me T hr ha hg he hpl)
/-- e.what, e the exception that the suite holds (at a; its class cls, its dict d) -/
def tWhatME (C : Addr) (a : Addr) (cls : Value) (d : Option Addr) (te : TE) : TE := fun σ H Q => te σ H fun x H1 => x = .ref a ∧ cls = .ref C ∧ ∃ (dd : Addr) (v : V), d = some dd ∧ H1 dd = some (.xd [(("what" : Str), v)]) ∧ Q v H1
theorem pe_whatME {a : Addr} {oe : Obj} {cls : Value} {d : Option Addr} {pn : List (Addr × Obj)} {e : Expr} {te : TE} {pos : Pos} (T : K61.METxt X.prog X.K X.mg C fI) (hz : Zc cls d oe) (hf : ∃ vs, oe.data = .fields vs) (he : PE (X.suite a ((a, oe) :: pn)) e te)
    (hb : attributeBase e "what" X.env (eval e X.env) = eval e X.env := by rfl) :
    PE (X.suite a ((a, oe) :: pn)) (.Attribute e "what" pos) (tWhatME C a cls d te) := by
  refine ⟨fun pins s σ H Q I h => ?_⟩
  refine attr_of hb (thn (he.run pins s σ H _ I h) fun u s1 hh => ?_)
  obtain ⟨x, H1, I1, rx, ex, ec, dd, v, ed, ea, q⟩ := hh
  subst ex
  obtain rfl : u = Value.ref a := rx
  subst ec
  subst ed
  obtain ⟨ha, _⟩ := I1.pin (a, oe) (List.mem_append_left _ List.mem_cons_self)
  obtain ⟨vs, hd⟩ := hf
  have hx : ObjOk X.prog X.w H1 s1.heap dd (.xd [(("what" : Str), v)]) := I1.hok dd _ ea
  obtain ⟨mA, hns, hr⟩ := hx
  obtain ⟨od, ho, hl⟩ := lookIn_ns hns
  have l : List.lookup ("what" : Str) [(("what" : Str), v)] = some v := by simp [List.lookup]
  obtain ⟨u, hu, ru⟩ := RelO.some_of (v := v) (o := mA "what") (by rw [← l]; exact hr "what")
  have J : PySem.W.InstAt s1.heap a oe C (some od) := ⟨ha, hz.1, by unfold PySem.W.notCls; rw [hd] <;> rfl, by rw [hz.2]; exact ho⟩
  exact HandSPX.exc_get I1.kIn J T.ga T.gg T.exC (PySem.W.findObj_own T.hdC T.noN rfl (by rw [hl, hu])) (handed_of ru) ⟨v, H1, I1.tok _, ru, q⟩
end
end L2
set_option Elab.async false
set_option linter.all false
set_option maxRecDepth 100000
set_option maxHeartbeats 4000000
/-! isinstance of a caught ManagerError (which has a dict of its own). -/
namespace K61
open PySem PySem.W PySem.Spec PySem.Calls PyProof.Rows
section
variable {prog : Program} {w : World} {A : Around} {E : Value → Shared → Prop} {s : Shared} {K : Frag} {x D : Addr} {ox : Obj} {od : Option Obj}
theorem findObj_dataG {C : Addr} {name : Str} {a g : Value} (hc : (clsIn K C).isSome = true) (ha : findIn K (.ref C) name = some (some a)) (hg : specialIn K a "__get__" = some (some g)) (ht : takesIn K a = some true) : findObj K C od name = some (.bind g a) := by
  obtain ⟨cd, hc⟩ := Option.isSome_iff_exists.mp hc
  unfold findObj
  rw [hc, Option.bind_some, ha, Option.bind_some]
  simp [hg, ht]
theorem kin_classG {Q : Option Value → Shared → Prop} (C : L2.ExcC K D) (X : K.In s.heap) (I : InstAt s.heap x ox D od) (h : Q (some (.ref D)) { s with toks := s.toks + 1 }) : wpAny (model prog w) A (getAttr? (.ref x) "__class__") Q E s := by
  obtain ⟨hga, hgt, hsub, hdct, ha, hn, htk, hm⟩ := C
  have hf : findObj K D od "__class__" = some (.bind (.builtin "getset_descriptor.__get__") (.builtin "object.__class__")) := findObj_dataG (by obtain ⟨cd, hc, _⟩ := any_some hdct; rw [hc]; rfl) ha hn htk
  obtain ⟨hp, g, d, t, os⟩ := s
  have L0 := I.type (M := model prog w)
  have L1 := looks_findIn (M := model prog w) X hga
  have L2 := looks_findIn (M := model prog w) X hgt
  have L3 := looks_find (M := model prog w) X I hf
  have sub : Looks (model prog w) hp (isInstance (.ref x) (.type "BaseException")) true := L0.andThen (looks_subIn X hsub)
  have hx0 : (false && onTheHeap (Value.builtin "BaseException.__getattribute__")) = false := rfl
  have hx2 : (Value.builtin "BaseException.__getattribute__" == Value.builtin "object.__getattribute__") = false := by decide +kernel
  have hx1 : (onTheHeap (Value.ref D) && Value.builtin "BaseException.__getattribute__" == Value.builtin "object.__getattribute__") = false := by rw [hx2]; rfl
  unfold getAttr? getAttrBy? getAttrBy
  refine wpAny_bind (wpAny_mkText (wpAny_bind (wpAny_attempt (wpAny_holding (wpAny_bind (L0.at (wpAny_bind (L1.at ?_))))))))
  show wpAny _ _ (if (onTheHeap (Value.ref D) && Value.builtin "BaseException.__getattribute__" == Value.builtin "object.__getattribute__") = true then _ else _) _ _ _
  rw [hx1, if_neg Bool.false_ne_true]
  unfold getAttrByItsOwn hookBefore
  refine wpAny_bind ?_
  rw [if_pos (show onTheHeap (Value.ref D) = true from rfl)]
  refine L2.at ?_
  refine wpAny_bind (wpAny_attempt (wpAny_holding ?_))
  unfold callGetattribute
  rw [hx0, if_neg Bool.false_ne_true]
  unfold boundAndCalled
  rw [PySem.F.excAttr_ValueError.ga.bind (.ref x)]
  refine wpAny_bind (wpAny_pure ?_)
  show wpAny _ _ (call (.builtin "BaseException.__getattribute__") [.ref x, .str "__class__" t]) _ _ _
  refine wpAny_call (codeAny_call_builtin PySem.F.excAttr_ValueError.ga.plain PySem.F.entry_bexc_ga ?_)
  refine @check_slot (model prog w) _ _ ⟨hp, g, d, t + 1, os⟩ "BaseException.__getattribute__" "BaseException" "__getattribute__" (.ref x) [.str "__class__" t] [] _ (by decide +kernel) (by decide +kernel) sub (PySem.F.args_bexc_ga (.ref x) (.str "__class__" t)) ?_
  unfold Builtin.«object.__getattribute__»
  refine wpAny_bind (wpAny_of_eq (a := ((Value.ref x : Value), [Value.str "__class__" t])) (by first | rfl | (simp only [slotArgs]; rfl)) ?_)
  refine wpAny_bind (wpAny_pure (wpAny_bind (L0.at (wpAny_bind (L3.at ?_)))))
  show wpAny _ _ (holding [Value.builtin "object.__class__"] (call (.builtin "getset_descriptor.__get__") [.builtin "object.__class__", .ref x, .ref D]) >>= ret) _ _ _
  refine wpAny_bind (wpAny_holding (wpAny_call (class_get (s := ⟨hp, g, d, t + 1, os⟩) (ox := ox) (od := od) X I hm ?_)))
  refine wpAny_pure ?_
  show wpAny _ _ (handedOut (.ref D)) _ _ _
  rw [handedOut_of (v := .ref D) rfl]
  first
    | exact wpAny_pure (wpAny_pure h)
    | exact wpAny_pure h
    | exact wpAny_pure (wpAny_bind (wpAny_pure (wpAny_pure h)))
theorem kitx_excG (C : L2.ExcC K D) : KitX K (.ref x) (.ref D) (fun h => InstAt h x ox D od) where
  ty := fun _ _ _ I => I.type
  it := fun _ _ X _ => by
    obtain ⟨cdD, hcD, _⟩ := any_some C.hd
    unfold clsIn at hcD
    split at hcD
    · rename_i c' d' cd' sl' ho
      intro A' Q' E' s' k q
      unfold isType loadHead
      exact wpAny_bind (wpAny_loadPart (k _ _ (X _ _ ho)) (wpAny_pure q))
    · cases hcD
  ne := fun h tp dd its n sl X htp => by
    obtain ⟨cdD, hcD, _⟩ := any_some C.hd
    refine Bool.eq_false_iff.mpr fun q => ?_
    have e : D = tp := Value.ref.inj (beq_iff_eq.mp q)
    subst e
    unfold clsIn at hcD
    split at hcD
    · rename_i c' d' cd' sl' ho
      have z := (X _ _ ho).symm.trans htp
      cases z
    · cases hcD
  ca := fun X I k => kin_classG C X I k
end
end K61
namespace L2
open PySem PySem.Spec PyProof.Rows
/-- isinstance(e, c), e the ManagerError that the suite holds -/
def rIsME (K : PySem.W.Frag) (D a : Addr) (cls : Value) (d : Option Addr) : List V → Hp → VK → Prop := fun xs H Q => ∃ (c : V) (cv : Value) (b : Bool) (dd : Addr) (v : V), xs = [.ref a, c] ∧ (∀ u, RelV c u → u = cv) ∧ PySem.W.kitOne K (.ref D) cv = some b ∧ cls = .ref D ∧ d = some dd ∧ H dd = some (.xd [(("what" : Str), v)]) ∧ Q (.bl b) H
theorem call_isME {X : Cx} {a D : Addr} {oe : Obj} {cls : Value} {d : Option Addr} {pn : List (Addr × Obj)} (C : ExcC X.K D) (hz : Zc cls d oe) (hf : ∃ vs, oe.data = .fields vs) : CallR (X.suite a ((a, oe) :: pn)) (.builtin "isinstance") (rIsME X.K D a cls d) := by
  intro pins s σ H xs us Q I r h
  obtain ⟨c, cv, b, dd, v, rfl, hcv, e, rfl, rfl, hdd, q⟩ := h
  cases r with
  | cons rx rr =>
    cases rr with
    | cons rt rr =>
      cases rr
      cases rx
      have ec := hcv _ rt
      subst ec
      obtain ⟨hget, _⟩ := I.pin (a, oe) (List.mem_append.mpr (.inl List.mem_cons_self))
      obtain ⟨vs, hv⟩ := hf
      have hx : ObjOk X.prog X.w H s.heap dd (.xd [(("what" : Str), v)]) := I.hok dd _ hdd
      obtain ⟨mA, hns, hr⟩ := hx
      obtain ⟨od, ho, hl⟩ := lookIn_ns hns
      have J : PySem.W.InstAt s.heap a oe D (some od) := ⟨hget, hz.1, by unfold PySem.W.notCls; rw [hv] <;> rfl, by rw [hz.2]; exact ho⟩
      exact PySem.W.kia_one (K61.kitx_excG C) I.kIn J e (fun z => nomatch z) fun tk => ⟨.bl b, H, I.kept (t' := tk) fun _ _ z => z, rfl, q⟩
end L2
set_option Elab.async false
set_option linter.all false
set_option maxRecDepth 100000
set_option maxHeartbeats 4000000
/-! Rules of our own: a tuple's whole slice, «x in o» by __contains__, a method's call whose exception is wished for at the slots. -/
namespace K61
open PySem.SeqAt PySem.AutoSeq1 PySem.MeetsSeq PySem.MeetsSeq2 PySem.MeetsSeq3
open PySem PySem.Spec PySem.Calls PyProof.Rows PyProof
section
variable {prog : Program} {w : World} {A : Around} {E : Value → Shared → Prop} {s : Shared}
theorem getItem_tuple_whole {t sl : Addr} {items : Array Value} {vl vu : Value} {lo hi : Option Int} {Q : Value → Shared → Prop} (ht : IsTup s.heap t items) (hs : s.heap.IsSliceOf sl vl vu .none) (pl : IsPart vl lo) (pu : IsPart vu hi)
    (hw : HT.sIx items.size 0 lo = 0 ∧ HT.sIx items.size items.size hi = items.size) (h : Q (.ref t) s) : wpAny (model prog w) A (getItem (.ref t) (.ref sl)) Q E s := by
  obtain ⟨os, hos, hcs, hds⟩ := id hs
  have hTs : s.TypeIs (.ref sl) "slice" := ⟨os, hos, hcs⟩
  unfold getItem
  try with_reducible refine wpAny_holding ?_
  first | refine wpAny_bind (wpAny_pure ?_) | skip
  refine wpAny_bind (wpAny_sequenceKey ht.typeIs (by decide) ?_)
  refine wpAny_bind (wpAny_callSpecial?_slot (name := Str.ofString "__getitem__") ht.typeIs PyProof.Rows.slot_tuple_getitem
    (wpAny_call_entry PyProof.Rows.slot_tuple_getitem ht.typeIs entry_tuple_getitem ?_ (args_tuple_getitem _ _)))
  show wpAny _ _ (Builtin.Tuple.tupleItemsOf (.ref t) >>= _) _ _ s
  refine wpAny_bind (tupleItemsOf_ ht ?_)
  refine wpAny_bind (wpAny_typeOf hTs ?_)
  rw [if_pos (by decide)]
  refine wpAny_bind (HT.sliceApplied_gen hs pl pu ?_)
  have hno : (((HT.sIx items.size 0 lo : Nat) : Int) == 0 && (1 : Int) == 1 && (HT.sIx items.size items.size hi - HT.sIx items.size 0 lo) == items.size) = true := by
    rw [hw.1, hw.2]
    simp
  show wpAny _ _ (if (((HT.sIx items.size 0 lo : Nat) : Int) == 0 && (1 : Int) == 1 && (HT.sIx items.size items.size hi - HT.sIx items.size 0 lo) == items.size) = true then _ else _) _ _ s
  rw [if_pos hno]
  refine wpAny_bind ?_
  show wpAny _ _ (Builtin.Tuple.tupleIsExact (.ref t)) _ _ _
  unfold Builtin.Tuple.tupleIsExact
  refine wpAny_bind (wpAny_typeOf ht.typeIs (wpAny_pure ?_))
  rw [if_pos (by decide)]
  exact wpAny_bind (wpAny_rule (wpAny_pure ⟨_, rfl, wpAny_pure h⟩))
end
end K61
namespace L2
open PySem PySem.Spec PyProof.Rows
/-- t[lo:hi], the whole of it: t itself -/
def rSlW (K : PySem.W.Frag) : V → Option Int → Option Int → Hp → VK → Prop := fun x lo hi H Q => ∃ a xs, x = .ref a ∧ SqT K H a xs ∧ (HT.sIx xs.length 0 lo = 0 ∧ HT.sIx xs.length xs.length hi = xs.length) ∧ Q (.ref a) H
theorem sl_tupW {X : Cx} : SlR X (rSlW X.K) := by
  intro pins s σ H x v vl vu lo hi sl Q I rx hs pl pu h
  obtain ⟨a, xs, rfl, hx, hw, q⟩ := h
  cases rx
  obtain ⟨its, r, ht, hz⟩ := I.tuple hx
  have hlen : its.toArray.size = xs.length := by rw [List.size_toArray]; exact r.length.symm
  refine ⟨"tuple", _, PyProof.Rows.slot_tuple_getitem.lookup, ht.typeIs, ?_⟩
  exact K61.getItem_tuple_whole ht hs pl pu (by rw [hlen]; exact hw) ⟨.ref a, H, I, rfl, q⟩
/-- x in o, o of a class with __contains__ -/
def rInO (C : Addr) (sp : Sp) : R2 := fun x y H Q => ∃ a dx fs, y = .ref a ∧ H a = some (.ins C dx fs) ∧ sp [.ref a, x] H (fun v H' => ∃ b, v = .bl b ∧ Q (.bl b) H') E0
theorem op_inO {X : Cx} {C f : Addr} {fd : FuncData} {ps : List Str} {sp : Sp} {k : Nat} (hm : Meth X.K C "__contains__" f) (F : FnOk X.prog X.w X.K X.mg X.base CX0 k f fd ps sp) (hr : Room k X.A) (hb : Binds X.K fd ps []) : OpR X (compareOp .In) (rInO C sp) := by
  intro pins s σ H x y v u Q I rx ry h
  obtain ⟨a, dx, fs, rfl, ea, q⟩ := h
  obtain rfl : u = Value.ref a := ry
  obtain ⟨mA, O, _, _, _, _⟩ := ins_get I.hok ea
  obtain ⟨od, J, _⟩ := O.look
  obtain ⟨m, F0⟩ := I.fr
  refine PySem.W.in_K F0 I.ok.mod.kin J hm.at_ hm.fn ?_
  refine thn (run_fn (us := [.ref a, v]) (vs := [.ref a, x]) (dvs := []) F hr hb .nil pass0 I (.cons rfl (.cons rx .nil)) q) fun r s1 ⟨z, H1, I1, rz, b, ez, q1⟩ => ?_
  subst ez
  obtain rfl : r = Value.bool b := rz
  exact wpAny_truthy_bool ⟨.bl b, H1, I1, rfl, q1⟩
/-- o.m(e, ..), its exceptions wished for at the slots -/
def tMethE (C : Addr) (m : Str) (sp : Sp) (E : St → XK) (ta : TE) (t : TA) : TE := fun σ H Q => ta σ H fun x H1 => ∃ a dx fs, x = .ref a ∧ H1 a = some (.ins C dx fs) ∧ fs.lookup m = none ∧ t σ H1 fun vs H2 => sp (.ref a :: vs) H2 Q (E σ)
theorem pe_methE {X : Cx} {CX : CXT} {k : Nat} {C f : Addr} {m : Str} {fd : FuncData} {ps : List Str} {sp : Sp} {E : St → XK} {o e : Expr} {es : List Expr} {ta : TE} {t : TA} {apos pos : Pos} {pl : Sem Bool} (he : PE X o ta) (c : Cls X.K C) (hm : Meth X.K C m f)
    (F : FnOk X.prog X.w X.K X.mg X.base CX k f fd ps sp) (hr : Room k X.A) (hb : Binds X.K fd ps []) (hx : ∀ σ, PassesAt CX X σ (E σ)) (ha : PA X (e :: es) t)
    (hst : starEach (e :: es) X.env = (false, eval e X.env) :: starEach es X.env := by rfl) (hpl : (backTo pos (starEach es X.env)).any (·.1) = false := by rfl)
    (ht : eval (.Call (.Attribute o m apos) (e :: es) [] pos) X.env = (do
      let ov ← eval o X.env
      standAt apos.atName
      let (f, first) ← holding [ov] (getMethod ov m pl)
      callWith pos f first (backTo pos (starEach (e :: es) X.env)) (backToKw pos (keywordEach [] X.env))) := by rfl) :
    PE X (.Call (.Attribute o m apos) (e :: es) [] pos) (tMethE C m sp E ta t) := by
  refine ⟨fun pins s σ H Q I h => ?_⟩
  refine PySem.W.methodCall_KW (pl := pl) (thn (he.run pins s σ H _ I h) fun u s1 ⟨x, H1, I1, rx, a, dx, fs, ex, ea, l, q⟩ => ?_) ht
  subst ex
  obtain rfl : u = Value.ref a := rx
  refine getmeth_ok I1 ea c hm l ?_
  refine PySem.W.callWith_K (first := [.ref a]) (h₀ := X.base) I.ok.mod.kin hm.kp (thn (ha.run pos pins s1 σ H1 _ I1 q) fun us s2 ⟨vs, H2, I2, r, q2⟩ => ⟨I2.kIn, ?_⟩) hst hpl
  exact run_fnS (us := .ref a :: us) (vs := .ref a :: vs) F hr hb (hx σ) I2 (.cons rfl r) q2
end L2
set_option Elab.async false
set_option linter.all false
set_option maxRecDepth 100000
set_option maxHeartbeats 4000000
/-! What a manager is in the heap. -/
namespace K61
open PySem PySem.Spec PyProof.Rows L2
abbrev Dis (τ τ2 : Lbl) : Prop := ∀ b r, τ b = some r → τ2 b = none
theorem Dis.sym {τ τ2 : Lbl} (d : Dis τ τ2) : Dis τ2 τ := fun b r e => by
  cases z : τ b with
  | none => rfl
  | some q => rw [d b q z] at e; cases e
theorem Own.new' {H0 H H' : Hp} {τ τ' : Lbl} (O : Own H0 H τ) (O' : Own (wipeL τ H) H' τ') : Own H0 H' τ' := O'.weak O.toBase
theorem frOf {H0 H H' : Hp} {τ τ' τ2 : Lbl} (O : Own H0 H τ) (O' : Own (wipeL τ H) H' τ') (d : Dis τ τ2) : Fr τ2 H H' := fun b u e h => by
  have n : τ b = none := by
    cases z : τ b with
    | none => rfl
    | some r =>
      rcases h with ⟨q, h⟩ | h
      · rw [d b r z] at h; cases h
      · obtain ⟨o, ho, m⟩ := O.on b r z
        rw [e] at ho
        exact absurd (Option.some.inj ho ▸ m) h
  exact (keep_of O' n e).1
theorem disOf {H1 H H' : Hp} {τ τ' τ2 : Lbl} (O' : Own (wipeL τ H) H' τ') (O2 : Own H1 H τ2) (d : Dis τ τ2) : Dis τ' τ2 := fun b r e => by
  cases z : τ2 b with
  | none => rfl
  | some q =>
    obtain ⟨o, ho, _⟩ := O2.on b q z
    have n : τ b = none := d.sym b q z
    rw [(keep_of O' n ho).2] at e
    cases e
theorem frBut {H0 H H' : Hp} {τ τ2 : Lbl} {c : Addr} {r : Role} (O : Own H0 H τ) (hc : τ c = some r) (s : SameBut c H H') (d : Dis τ τ2) : Fr τ2 H H' := fun b u e h => by
  refine s b u (fun z => ?_) e
  subst z
  rcases h with ⟨q, h⟩ | h
  · rw [d b r hc] at h; cases h
  · obtain ⟨o, ho, m⟩ := O.on b r hc
    rw [e] at ho
    exact absurd (Option.some.inj ho ▸ m) h
theorem WorkAt.fr {C : Addr} {H0 H H' : Hp} {τ : Lbl} {W : Addr} {s : St} {n : Nat} (t : WorkAt C H0 H τ W s n) (q : Same H0 H') (f : Fr τ H H') : WorkAt C H0 H' τ W s n := by
  obtain ⟨_, _, _, _, _, _, _, X⟩ := t
  exact ⟨_, _, _, _, _, _, _, X.fr q f⟩
theorem WorkAt.own {C : Addr} {H0 H : Hp} {τ : Lbl} {W : Addr} {s : St} {n : Nat} (t : WorkAt C H0 H τ W s n) : Own H0 H τ := by
  obtain ⟨_, _, _, _, _, _, _, X⟩ := t
  exact X.own
theorem WorkAt.weak {C : Addr} {H0 H1 H : Hp} {τ : Lbl} {W : Addr} {s : St} {n : Nat} (t : WorkAt C H1 H τ W s n) (q : Same H0 H1) : WorkAt C H0 H τ W s n := by
  obtain ⟨_, _, _, _, _, _, _, X⟩ := t
  exact ⟨_, _, _, _, _, _, _, X.weak q⟩
theorem WorkAt.base {C : Addr} {H0 H : Hp} {τ : Lbl} {W : Addr} {s : St} {n : Nat} (t : WorkAt C H0 H τ W s n) : WorkAt C (wipeL τ H) H τ W s n := by
  obtain ⟨_, _, _, _, _, _, _, X⟩ := t
  exact ⟨_, _, _, _, _, _, _, X.base⟩
theorem WorkAt.mono {C : Addr} {H0 H : Hp} {τ : Lbl} {W : Addr} {s : St} {n m : Nat} (t : WorkAt C H0 H τ W s n) (h : n ≤ m) : WorkAt C H0 H τ W s m := by
  obtain ⟨_, _, _, _, _, _, _, X⟩ := t
  exact ⟨_, _, _, _, _, _, _, X.mono h⟩
theorem WorkAt.st {C : Addr} {H0 H : Hp} {τ : Lbl} {W : Addr} {s s' : St} {n : Nat} (t : WorkAt C H0 H τ W s n) (e1 : s'.amt = s.amt) (e2 : s'.sums = s.sums) (e3 : s'.bef = s.bef) (e4 : s'.sched = s.sched) : WorkAt C H0 H τ W s' n := by
  obtain ⟨_, _, _, _, _, _, _, X⟩ := t
  exact ⟨_, _, _, _, _, _, _, X.st e1 e2 e3 e4⟩
theorem TabAt.own {C : Addr} {H0 H : Hp} {τ : Lbl} {T : Addr} {L : It → LI} {n : Nat} (t : TabAt C H0 H τ T L n) : Own H0 H τ := by
  obtain ⟨_, _, _, _, _, _, X⟩ := t
  exact X.own
theorem TabAt.weak {C : Addr} {H0 H1 H : Hp} {τ : Lbl} {T : Addr} {L : It → LI} {n : Nat} (t : TabAt C H1 H τ T L n) (q : Same H0 H1) : TabAt C H0 H τ T L n := by
  obtain ⟨_, _, _, _, _, _, X⟩ := t
  exact ⟨_, _, _, _, _, _, X.weak q⟩
theorem TabAt.base {C : Addr} {H0 H : Hp} {τ : Lbl} {T : Addr} {L : It → LI} {n : Nat} (t : TabAt C H0 H τ T L n) : TabAt C (wipeL τ H) H τ T L n := by
  obtain ⟨_, _, _, _, _, _, X⟩ := t
  exact ⟨_, _, _, _, _, _, X.base⟩
theorem TabAt.mono {C : Addr} {H0 H : Hp} {τ : Lbl} {T : Addr} {L : It → LI} {n m : Nat} (t : TabAt C H0 H τ T L n) (h : n ≤ m) : TabAt C H0 H τ T L m := by
  obtain ⟨_, _, _, _, _, _, X⟩ := t
  exact ⟨_, _, _, _, _, _, X.mono h⟩
/-! ### the calls that wait -/
def WtdRep (H : Hp) (D : List (Key × V)) (wtd : Int → Option Call) : Prop := ∀ t, (wtd t = none → valV D (Sum.inl t) = none) ∧ ∀ c, wtd t = some c → ∃ a, valV D (Sum.inl t) = some (.ref a) ∧ H a = some (.tup (callVs c))
theorem WtdRep.nil (H : Hp) : WtdRep H [] (fun _ => none) := fun t => ⟨fun _ => rfl, fun c h => by cases h⟩
theorem WtdRep.to {H H' : Hp} {D : List (Key × V)} {wtd : Int → Option Call} (r : WtdRep H D wtd) (k : ∀ b xs, H b = some (.tup xs) → H' b = some (.tup xs)) : WtdRep H' D wtd := fun t => ⟨(r t).1, fun c h => by
  obtain ⟨a, e, q⟩ := (r t).2 c h
  exact ⟨a, e, k _ _ q⟩⟩
theorem WtdRep.put {H : Hp} {D : List (Key × V)} {wtd : Int → Option Call} (r : WtdRep H D wtd) (t : Int) (c : Call) {a : Addr} (e : H a = some (.tup (callVs c))) : WtdRep H (putK D (Sum.inl t) (.ref a)) (fput wtd t (some c)) := fun u => by
  rw [valV_put]
  by_cases z : u = t
  · subst z
    rw [if_pos rfl, fput_same]
    exact ⟨fun h => (by cases h), fun c' h => ⟨a, rfl, by rw [← Option.some.inj h]; exact e⟩⟩
  · rw [if_neg (fun q => z (Sum.inl.inj q)), fput_ne z]
    exact r u
theorem WtdRep.drop {H : Hp} {D : List (Key × V)} {wtd : Int → Option Call} (r : WtdRep H D wtd) (t : Int) : WtdRep H (dropK D (Sum.inl t)) (fput wtd t none) := fun u => by
  rw [valV_drop]
  by_cases z : u = t
  · subst z
    rw [if_pos rfl, fput_same]
    exact ⟨fun _ => rfl, fun c' h => by cases h⟩
  · rw [if_neg (fun q => z (Sum.inl.inj q)), fput_ne z]
    exact r u
theorem WtdRep.isSome {H : Hp} {D : List (Key × V)} {wtd : Int → Option Call} (r : WtdRep H D wtd) (t : Int) : (valV D (Sum.inl t)).isSome = (wtd t).isSome := by
  cases h : wtd t with
  | none => rw [(r t).1 h]; rfl
  | some c =>
    obtain ⟨a, e, _⟩ := (r t).2 c h
    rw [e]
    rfl
theorem length_drop (D : List (Key × V)) (k : Key) : (dropK D k).length ≤ D.length := List.length_filter_le _ _
/-! ### the manager's own objects -/
def mf (T W lg ov op wd : Addr) : List (Str × V) := [("_table", .ref T), ("_work", .ref W), ("_log", .ref lg), ("_over", .ref ov), ("_open", .ref op), ("_waited", .ref wd)]
section
variable (T W lg ov op wd : Addr)
theorem mf_t : (mf T W lg ov op wd).lookup ("_table" : Str) = some (.ref T) := by simp [mf, List.lookup]
theorem mf_w : (mf T W lg ov op wd).lookup ("_work" : Str) = some (.ref W) := by
  have e : (("_work" : Str) == "_table") = false := by decide +kernel
  simp [mf, List.lookup, e]
theorem mf_l : (mf T W lg ov op wd).lookup ("_log" : Str) = some (.ref lg) := by
  have e : (("_log" : Str) == "_table") = false := by decide +kernel
  have e2 : (("_log" : Str) == "_work") = false := by decide +kernel
  simp [mf, List.lookup, e, e2]
theorem mf_o : (mf T W lg ov op wd).lookup ("_over" : Str) = some (.ref ov) := by
  have e : (("_over" : Str) == "_table") = false := by decide +kernel
  have e2 : (("_over" : Str) == "_work") = false := by decide +kernel
  have e3 : (("_over" : Str) == "_log") = false := by decide +kernel
  simp [mf, List.lookup, e, e2, e3]
theorem mf_p : (mf T W lg ov op wd).lookup ("_open" : Str) = some (.ref op) := by
  have e : (("_open" : Str) == "_table") = false := by decide +kernel
  have e2 : (("_open" : Str) == "_work") = false := by decide +kernel
  have e3 : (("_open" : Str) == "_log") = false := by decide +kernel
  have e4 : (("_open" : Str) == "_over") = false := by decide +kernel
  simp [mf, List.lookup, e, e2, e3, e4]
theorem mf_d : (mf T W lg ov op wd).lookup ("_waited" : Str) = some (.ref wd) := by
  have e : (("_waited" : Str) == "_table") = false := by decide +kernel
  have e2 : (("_waited" : Str) == "_work") = false := by decide +kernel
  have e3 : (("_waited" : Str) == "_log") = false := by decide +kernel
  have e4 : (("_waited" : Str) == "_over") = false := by decide +kernel
  have e5 : (("_waited" : Str) == "_open") = false := by decide +kernel
  simp [mf, List.lookup, e, e2, e3, e4, e5]
theorem mf_no {m : Str} (h : ([("_table" : Str), "_work", "_log", "_over", "_open", "_waited"].all fun x => !(m == x)) = true) : (mf T W lg ov op wd).lookup m = none := by
  simp only [List.all_cons, List.all_nil, Bool.and_true, Bool.and_eq_true, Bool.not_eq_true'] at h
  obtain ⟨h1, h2, h3, h4, h5, h6⟩ := h
  simp [mf, List.lookup, h1, h2, h3, h4, h5, h6]
end
structure MgrO (CM : Addr) (H0 H : Hp) (τM : Lbl) (M T W : Addr) (over opn : List Int) (wtd : Int → Option Call) (n : Nat) (dx lg ov op wd : Addr) : Prop where
  own : Own H0 H τM
  eM : H M = some (.ins CM dx (mf T W lg ov op wd))
  rM : τM M = some .obj
  elg : ∃ xs, H lg = some (.lst xs) ∧ xs.length ≤ n
  rlg : τM lg = some .l1
  eov : H ov = some (.lst (over.map V.int))
  rov : τM ov = some .l2
  eop : H op = some (.lst (opn.map V.int))
  rop : τM op = some .l3
  ewd : ∃ D, H wd = some (.dK D) ∧ WtdRep H D wtd ∧ D.length ≤ n
  rwd : τM wd = some .d1
  lov : over.length ≤ n
  lop : opn.length ≤ n
section
variable {CM : Addr} {H0 H H' : Hp} {τM : Lbl} {M T W : Addr} {over opn : List Int} {wtd : Int → Option Call} {n : Nat} {dx lg ov op wd : Addr}
theorem MgrO.fr (t : MgrO CM H0 H τM M T W over opn wtd n dx lg ov op wd) (s : Same H0 H') (f : Fr τM H H') : MgrO CM H0 H' τM M T W over opn wtd n dx lg ov op wd where
  own := t.own.fr s f
  eM := f _ _ t.eM (.inl ⟨_, t.rM⟩)
  rM := t.rM
  elg := let ⟨xs, e, l⟩ := t.elg; ⟨xs, f _ _ e (.inl ⟨_, t.rlg⟩), l⟩
  rlg := t.rlg
  eov := f _ _ t.eov (.inl ⟨_, t.rov⟩)
  rov := t.rov
  eop := f _ _ t.eop (.inl ⟨_, t.rop⟩)
  rop := t.rop
  ewd := let ⟨D, e, r, l⟩ := t.ewd; ⟨D, f _ _ e (.inl ⟨_, t.rwd⟩), r.to fun b xs q => f _ _ q (.inr not_mut), l⟩
  rwd := t.rwd
  lov := t.lov
  lop := t.lop
theorem MgrO.mono {m : Nat} (t : MgrO CM H0 H τM M T W over opn wtd n dx lg ov op wd) (h : n ≤ m) : MgrO CM H0 H τM M T W over opn wtd m dx lg ov op wd :=
  { t with elg := let ⟨xs, e, l⟩ := t.elg; ⟨xs, e, Nat.le_trans l h⟩, ewd := let ⟨D, e, r, l⟩ := t.ewd; ⟨D, e, r, Nat.le_trans l h⟩, lov := Nat.le_trans t.lov h, lop := Nat.le_trans t.lop h }
theorem MgrO.wtd_but {c : Addr} {r : Role} (t : MgrO CM H0 H τM M T W over opn wtd n dx lg ov op wd) (hc : τM c = some r) (s : SameBut c H H') {D : List (Key × V)} {wt : Int → Option Call} (q : WtdRep H D wt) : WtdRep H' D wt := q.to fun b xs e => s b _ (fun z => by
  have := t.own.tup e
  rw [z, hc] at this
  cases this) e
theorem MgrO.setLog {xs : List V} (t : MgrO CM H0 H τM M T W over opn wtd n dx lg ov op wd) (q : SameBut lg H H') (e : H' lg = some (.lst xs)) (l : xs.length ≤ n) : MgrO CM H0 H' τM M T W over opn wtd n dx lg ov op wd where
  own := t.own.but t.rlg q e True.intro
  eM := q _ _ (role_ne t.rM t.rlg (by intro z; cases z)) t.eM
  rM := t.rM
  elg := ⟨xs, e, l⟩
  rlg := t.rlg
  eov := q _ _ (role_ne t.rov t.rlg (by intro z; cases z)) t.eov
  rov := t.rov
  eop := q _ _ (role_ne t.rop t.rlg (by intro z; cases z)) t.eop
  rop := t.rop
  ewd := let ⟨D, e, r, l⟩ := t.ewd; ⟨D, q _ _ (role_ne t.rwd t.rlg (by intro z; cases z)) e, t.wtd_but t.rlg q r, l⟩
  rwd := t.rwd
  lov := t.lov
  lop := t.lop
theorem MgrO.setOver {ov' : List Int} (t : MgrO CM H0 H τM M T W over opn wtd n dx lg ov op wd) (q : SameBut ov H H') (e : H' ov = some (.lst (ov'.map V.int))) (l : ov'.length ≤ n) : MgrO CM H0 H' τM M T W ov' opn wtd n dx lg ov op wd where
  own := t.own.but t.rov q e True.intro
  eM := q _ _ (role_ne t.rM t.rov (by intro z; cases z)) t.eM
  rM := t.rM
  elg := let ⟨xs, e, l⟩ := t.elg; ⟨xs, q _ _ (role_ne t.rlg t.rov (by intro z; cases z)) e, l⟩
  rlg := t.rlg
  eov := e
  rov := t.rov
  eop := q _ _ (role_ne t.rop t.rov (by intro z; cases z)) t.eop
  rop := t.rop
  ewd := let ⟨D, e, r, l⟩ := t.ewd; ⟨D, q _ _ (role_ne t.rwd t.rov (by intro z; cases z)) e, t.wtd_but t.rov q r, l⟩
  rwd := t.rwd
  lov := l
  lop := t.lop
theorem MgrO.setOpn {op' : List Int} (t : MgrO CM H0 H τM M T W over opn wtd n dx lg ov op wd) (q : SameBut op H H') (e : H' op = some (.lst (op'.map V.int))) (l : op'.length ≤ n) : MgrO CM H0 H' τM M T W over op' wtd n dx lg ov op wd where
  own := t.own.but t.rop q e True.intro
  eM := q _ _ (role_ne t.rM t.rop (by intro z; cases z)) t.eM
  rM := t.rM
  elg := let ⟨xs, e, l⟩ := t.elg; ⟨xs, q _ _ (role_ne t.rlg t.rop (by intro z; cases z)) e, l⟩
  rlg := t.rlg
  eov := q _ _ (role_ne t.rov t.rop (by intro z; cases z)) t.eov
  rov := t.rov
  eop := e
  rop := t.rop
  ewd := let ⟨D, e, r, l⟩ := t.ewd; ⟨D, q _ _ (role_ne t.rwd t.rop (by intro z; cases z)) e, t.wtd_but t.rop q r, l⟩
  rwd := t.rwd
  lov := t.lov
  lop := l
theorem MgrO.setWtd {D : List (Key × V)} {wtd' : Int → Option Call} (t : MgrO CM H0 H τM M T W over opn wtd n dx lg ov op wd) (q : SameBut wd H H') (e : H' wd = some (.dK D)) (r : WtdRep H D wtd') (l : D.length ≤ n) : MgrO CM H0 H' τM M T W over opn wtd' n dx lg ov op wd where
  own := t.own.but t.rwd q e True.intro
  eM := q _ _ (role_ne t.rM t.rwd (by intro z; cases z)) t.eM
  rM := t.rM
  elg := let ⟨xs, e, l⟩ := t.elg; ⟨xs, q _ _ (role_ne t.rlg t.rwd (by intro z; cases z)) e, l⟩
  rlg := t.rlg
  eov := q _ _ (role_ne t.rov t.rwd (by intro z; cases z)) t.eov
  rov := t.rov
  eop := q _ _ (role_ne t.rop t.rwd (by intro z; cases z)) t.eop
  rop := t.rop
  ewd := ⟨D, e, t.wtd_but t.rwd q r, l⟩
  rwd := t.rwd
  lov := t.lov
  lop := t.lop
end
/-! ### the manager -/
structure MgrX (CM CT CW : Addr) (H0 H : Hp) (τT τW τM : Lbl) (M T W : Addr) (s : St) (n : Nat) (dx lg ov op wd : Addr) : Prop where
  tab : TabAt CT H0 H τT T s.lk n
  work : WorkAt CW H0 H τW W s n
  o : MgrO CM H0 H τM M T W s.over s.opn s.wtd n dx lg ov op wd
  dTW : Dis τT τW
  dTM : Dis τT τM
  dWM : Dis τW τM
def MgrAt (CM CT CW : Addr) (H0 H : Hp) (M : Addr) (s : St) (n : Nat) : Prop := ∃ τT τW τM T W dx lg ov op wd, MgrX CM CT CW H0 H τT τW τM M T W s n dx lg ov op wd
section
variable {CM CT CW : Addr} {H0 H H' : Hp} {τT τW τM : Lbl} {M T W : Addr} {s : St} {n : Nat} {dx lg ov op wd : Addr}
theorem MgrX.same (t : MgrX CM CT CW H0 H τT τW τM M T W s n dx lg ov op wd) (q : Same H H') : MgrX CM CT CW H0 H' τT τW τM M T W s n dx lg ov op wd where
  tab := t.tab.fr (t.tab.own.sub.trans q) fun b u e _ => q _ _ e
  work := t.work.fr (t.tab.own.sub.trans q) fun b u e _ => q _ _ e
  o := t.o.fr (t.tab.own.sub.trans q) fun b u e _ => q _ _ e
  dTW := t.dTW
  dTM := t.dTM
  dWM := t.dWM
theorem MgrX.mono {m : Nat} (t : MgrX CM CT CW H0 H τT τW τM M T W s n dx lg ov op wd) (h : n ≤ m) : MgrX CM CT CW H0 H τT τW τM M T W s m dx lg ov op wd := { t with tab := t.tab.mono h, work := t.work.mono h, o := t.o.mono h }
/-- one of the manager's own objects was written -/
theorem MgrX.put {c : Addr} {r : Role} {s' : St} (t : MgrX CM CT CW H0 H τT τW τM M T W s n dx lg ov op wd) (hc : τM c = some r) (q : SameBut c H H') (o : MgrO CM H0 H' τM M T W s'.over s'.opn s'.wtd n dx lg ov op wd) (e0 : s'.lk = s.lk) (e1 : s'.amt = s.amt) (e2 : s'.sums = s.sums) (e3 : s'.bef = s.bef) (e4 : s'.sched = s.sched) :
    MgrX CM CT CW H0 H' τT τW τM M T W s' n dx lg ov op wd where
  tab := by rw [e0]; exact t.tab.fr o.own.sub (frBut t.o.own hc q t.dTM.sym)
  work := (t.work.fr o.own.sub (frBut t.o.own hc q t.dWM.sym)).st e1 e2 e3 e4
  o := o
  dTW := t.dTW
  dTM := t.dTM
  dWM := t.dWM
/-- behind a call of the table -/
theorem MgrX.setTab {τT' : Lbl} {lk : It → LI} (t : MgrX CM CT CW H0 H τT τW τM M T W s n dx lg ov op wd) (q : TabAt CT (wipeL τT H) H' τT' T lk n) : MgrX CM CT CW H0 H' τT' τW τM M T W { s with lk := lk } n dx lg ov op wd where
  tab := q.weak t.tab.own.toBase
  work := (t.work.fr (t.tab.own.toBase.trans q.own.sub) (frOf t.tab.own q.own t.dTW)).st rfl rfl rfl rfl
  o := t.o.fr (t.tab.own.toBase.trans q.own.sub) (frOf t.tab.own q.own t.dTM)
  dTW := disOf q.own t.work.own t.dTW
  dTM := disOf q.own t.o.own t.dTM
  dWM := t.dWM
/-- behind a call of the work -/
theorem MgrX.setWork {τW' : Lbl} {s' : St} (t : MgrX CM CT CW H0 H τT τW τM M T W s n dx lg ov op wd) (q : WorkAt CW (wipeL τW H) H' τW' W s' n) (e0 : s'.lk = s.lk) (e1 : s'.over = s.over) (e2 : s'.opn = s.opn) (e3 : s'.wtd = s.wtd) : MgrX CM CT CW H0 H' τT τW' τM M T W s' n dx lg ov op wd where
  tab := by rw [e0]; exact t.tab.fr (t.work.own.toBase.trans q.own.sub) (frOf t.work.own q.own t.dTW.sym)
  work := q.weak t.work.own.toBase
  o := by rw [e1, e2, e3]; exact t.o.fr (t.work.own.toBase.trans q.own.sub) (frOf t.work.own q.own t.dWM)
  dTW := (disOf q.own t.tab.own t.dTW.sym).sym
  dTM := t.dTM
  dWM := disOf q.own t.o.own t.dWM
end
end K61
set_option Elab.async false
set_option linter.all false
set_option maxRecDepth 100000
set_option maxHeartbeats 4000000
namespace K61
open PySem PySem.Spec PyProof.Rows L2
structure TxM (K : PySem.W.Frag) (C : Addr) : Prop where
  cl : Cls K C
  nT : NoAttr K C "_table"
  nW : NoAttr K C "_work"
  nL : NoAttr K C "_log"
  nO : NoAttr K C "_over"
  nP : NoAttr K C "_open"
  nD : NoAttr K C "_waited"
/-! ### a call as data -/
def callD : Call → PyData
  | .rd t i => .tuple [.str "read", .int t, .str i.s]
  | .wr t i n => .tuple [.str "write", .int t, .str i.s, .int n]
  | .cm t => .tuple [.str "commit", .int t]
  | .ab t => .tuple [.str "abort", .int t]
theorem callD_at {K : PySem.W.Frag} {H : Hp} {a : Addr} {c : Call} (e : H a = some (.tup (callVs c))) : Dp K H (.ref a) (callD c) := by
  cases c with
  | rd t i => exact .tup (SqT.of e) (.cons (.str _) (.cons (.int _) (.cons (.str _) .nil)))
  | wr t i n => exact .tup (SqT.of e) (.cons (.str _) (.cons (.int _) (.cons (.str _) (.cons (.int _) .nil))))
  | cm t => exact .tup (SqT.of e) (.cons (.str _) (.cons (.int _) .nil))
  | ab t => exact .tup (SqT.of e) (.cons (.str _) (.cons (.int _) .nil))
theorem callD_sh (c : Call) : SeqAt.shaped (callD c) = true := by
  cases c with
  | rd t i => cases i <;> kernel_rfl
  | wr t i n => cases i <;> kernel_rfl
  | cm t => kernel_rfl
  | ab t => kernel_rfl
theorem wd_ne : (("read" : Str) == "write") = false ∧ (("read" : Str) == "commit") = false ∧ (("read" : Str) == "abort") = false ∧ (("write" : Str) == "read") = false ∧ (("write" : Str) == "commit") = false ∧ (("write" : Str) == "abort") = false ∧
    (("commit" : Str) == "read") = false ∧ (("commit" : Str) == "write") = false ∧ (("commit" : Str) == "abort") = false ∧ (("abort" : Str) == "read") = false ∧ (("abort" : Str) == "write") = false ∧ (("abort" : Str) == "commit") = false := by decide +kernel
theorem callD_eq (c c' : Call) : PyData.eqv (callD c) (callD c') = true ↔ c = c' := by
  obtain ⟨w1, w2, w3, w4, w5, w6, w7, w8, w9, w10, w11, w12⟩ := wd_ne
  constructor
  · intro h
    cases c <;> cases c' <;> simp only [callD, PyData.eqv, PyData.eqvAll, Bool.and_true, Bool.and_eq_true, beq_iff_eq, w1, w2, w3, w4, w5, w6, w7, w8, w9, w10, w11, w12, Bool.false_and, Bool.false_eq_true, false_and, and_false] at h
    · rw [h.2.1, it_inj h.2.2]
    · rw [h.2.1, it_inj h.2.2.1, h.2.2.2]
    · rw [h.2]
    · rw [h.2]
  · rintro rfl
    cases c <;> simp [callD, PyData.eqv, PyData.eqvAll]
/-! ### check -/
def spCheck (CM CT CW CE : Addr) : Sp := fun vs H Q E => ∃ (M a : Addr) (c : Call) (H0 : Hp) (s : St) (n : Nat), vs = [.ref M, .ref a] ∧ H a = some (.tup (callVs c)) ∧ MgrAt CM CT CW H0 H M s n ∧
  (Refused s c → ∀ H' d z, Same H H' → H' d = some (.xd [(("what" : Str), V.str z)]) → E (.ref CE) (some d) H') ∧ (¬ Refused s c → ∀ H', Same H H' → Q .non H')
theorem scCheck : FnScope ["self", "call", "word", "t"] ["self", "call"] (defScope (sMg 6)) := ⟨rfl, rfl, rfl, by decide +kernel, rfl, by decide +kernel, by decide +kernel⟩
def Call.word : Call → Str
  | .rd _ _ => "read"
  | .wr _ _ _ => "write"
  | .cm _ => "commit"
  | .ab _ => "abort"
theorem callVs_2 (c : Call) : cutV (callVs c) none (some 2) = [.str c.word, .int c.tx] := by cases c <;> rfl
theorem call_whole (c : Call) : (HT.sIx (callVs c).length 0 none = 0 ∧ HT.sIx (callVs c).length (callVs c).length (some 2) = (callVs c).length) ∨ ¬ (HT.sIx (callVs c).length 0 none = 0 ∧ HT.sIx (callVs c).length (callVs c).length (some 2) = (callVs c).length) := Classical.em _
theorem callVs_w {c : Call} (h : HT.sIx (callVs c).length 0 none = 0 ∧ HT.sIx (callVs c).length (callVs c).length (some 2) = (callVs c).length) : callVs c = [.str c.word, .int c.tx] := by
  cases c with
  | rd t i => exact absurd h.2 (by show ¬ ((2 : Nat) = 3); decide)
  | wr t i n => exact absurd h.2 (by show ¬ ((2 : Nat) = 4); decide)
  | cm t => rfl
  | ab t => rfl
theorem cword_ab {c : Call} : c.word = ("abort" : Str) ↔ c.isAb = true := by
  cases c with
  | rd t i => exact ⟨fun h => absurd h (by show ¬ (("read" : Str) = "abort"); decide +kernel), fun h => by cases h⟩
  | wr t i n => exact ⟨fun h => absurd h (by show ¬ (("write" : Str) = "abort"); decide +kernel), fun h => by cases h⟩
  | cm t => exact ⟨fun h => absurd h (by show ¬ (("commit" : Str) = "abort"); decide +kernel), fun h => by cases h⟩
  | ab t => exact ⟨fun _ => rfl, fun _ => rfl⟩
section
variable {P : Program} {w : World} {K : PySem.W.Frag} {mg : Str → Option Value} {base : Heap} {f CM CT CW CE fE : Addr} {fd : FuncData}
theorem ok_check {tk : Tok} (F : FnP K "check" "Manager.check" (sMg 6) f fd) (T : TxM K CM) (TT : TxT K CT) (TE : METxt P K mg CE fE) (mT : mg "TRANSACTIONS" = some (Value.int 8 tk)) (GW : MFn P w K mg base CX0 2 CT "waiting" ["self", "t"] (spWaiting CT)) :
    FnOk P w K mg base (L2.CX P w) 3 f fd ["self", "call"] (spCheck CM CT CW CE) := by
  obtain ⟨fW, fdW, mW, bW, GW⟩ := GW
  refine F.ok scCheck (fun vs H Q E h => ?_) (fun cdv A outer s H vs Q E hr h => ?_)
  · obtain ⟨M, a, c, H0, S, n, rfl, _⟩ := h
    rfl
  · obtain ⟨M, a, c, H0, S, n, rfl, ea, ⟨τT, τW, τM, T0, W0, dx, lg, ov, op, wd, X⟩, kE, kS⟩ := h
    have hu := hu_of hr
    have hu64 : A.units + 3 + 64 < cLine := by
      have := hr.un
      have e : (A.deeper (envOfC "Manager.check" (defScope (sMg 6)) s.heap.objs.size f cdv)).units = A.units + 3 := rfl
      omega
    refine ⟨_, pss_cons (ps_asg (pe_mono (pe_slice (SlR.or sl_tup sl_tupW) (pv 1) po_none (po_some pe_int))) (pg_tup rfl (pgs_cons (pg_name (i := 2) scCheck.nd rfl (Or.inl rfl)) (pgs_cons (pg_name (i := 3) scCheck.nd rfl (Or.inl rfl)) pgs_nil))))
      (pss_cons (ps_if (PW.pt (pw_or (pt_cmpR op_lt (pv 3) pe_int (nomark _)) (pw_or1 (pt_cmpR op_gt (pv 3) (pe_glob (v := V.int 8) rfl mT ⟨_, rfl⟩) (nomark _))))) (pss_one (ps_raiseME rfl TE hr (takes_of rfl rfl rfl rfl) (by exact (pa_cons pe_str pa_nil)))) pss_nil)
      (pss_cons (ps_if (pt_cmpR op_in_seq (pv 3) (pe_fld (pv 0) rfl) (by rfl)) (pss_one (ps_raiseME rfl TE hr (takes_of rfl rfl rfl rfl) (by exact (pa_cons pe_str pa_nil)))) pss_nil)
      (pss_cons (ps_if (pt_cmpR op_eq (pv 2) pe_str (nomark _)) (pss_one ps_retN) pss_nil)
      (pss_cons (ps_if (pt_cmpR op_notN (pe_meth (pe_fld (pv 0) rfl) TT.cl mW GW hr bW .nil pass0 (pa_cons (pv 3) pa_nil)) pe_non (nomark _)) (pss_one (ps_raiseME rfl TE hr (takes_of rfl rfl rfl rfl) (by exact (pa_cons pe_str pa_nil)))) pss_nil)
      (pss_one (ps_if (pt_cmpR (op_neD (by exact hu64)) (pe_dget2 hu (pe_fld (pv 0) rfl) (pv 3) (pv 1) ⟨rfl, rfl, rfl, rfl⟩) (pv 1) (nomark _)) (pss_one (ps_raiseME rfl TE hr (takes_of rfl rfl rfl rfl) (by exact (pa_cons pe_str pa_nil)))) pss_nil)))))), ?_⟩
    -- word, t = call[:2]
    refine ⟨fun v H1 => ∃ q, v = V.ref q ∧ Same H H1 ∧ H1 q = some (.tup [.str c.word, .int c.tx]), ?_, ?_⟩
    · refine ⟨_, rfl, 2, rfl, ?_⟩
      rcases call_whole c with hw | hw
      · exact .inr ⟨a, callVs c, rfl, SqT.of ea, hw, a, rfl, Same.refl H, by rw [← callVs_w hw]; exact ea⟩
      · refine .inl ⟨a, callVs c, rfl, SqT.of ea, hw, fun p hp => ⟨p, rfl, same_upd hp, ?_⟩⟩
        rw [upd_same, callVs_2]
    rintro v H1 ⟨q, rfl, s1, eq⟩
    have X1 := X.same s1
    have raise : ∀ {H2 : Hp} (z : Str), Refused S c → Same H H2 → ∀ d, H2 d = none → E (.ref CE) (some d) (upd H2 d (.xd [(("what" : Str), V.str z)])) := fun {H2} z hz s2 d hd => kE hz _ d z (s2.trans (same_upd hd)) upd_same
    refine ⟨q, _, rfl, SqT.of eq, rfl, _, _, rfl, _, _, rfl, rfl, ?_⟩
    -- if t < 1 or t > TRANSACTIONS
    refine ⟨_, rfl, _, _, rfl, rfl, _, rfl, ?_⟩
    refine iteDec (fun c1 => iteT ⟨_, rfl, raise _ (.inl fun z => by omega) s1⟩) (fun c1 => ?_)
    refine ⟨_, rfl, _, _, rfl, rfl, _, rfl, ?_⟩
    refine iteDec (fun c2 => ⟨_, rfl, raise _ (.inl fun z => by omega) s1⟩) (fun c2 => ?_)
    -- if t in self._over
    refine ⟨_, rfl, _, rfl, M, CM, dx, _, _, rfl, X1.o.eM, T.cl, T.nO, mf_o T0 W0 lg ov op wd, ov, _, rfl, .inl (SqL.of X1.o.eov), rfl, flat_int _, _, rfl, ?_⟩
    rw [inV_int]
    refine iteDec (fun c3 => ⟨_, rfl, raise _ (.inr (.inl c3)) s1⟩) (fun c3 => ?_)
    -- if word == "abort"
    refine ⟨_, rfl, rfl, _, rfl, ?_⟩
    refine iteDec (fun c4 => kS (fun z => ?_) H1 s1) (fun c4 => ?_)
    · rcases z with z | z | ⟨z, _⟩
      · omega
      · exact c3 z
      · rw [cword_ab.mp (strI.mp c4)] at z
        cases z
    have nab : c.isAb = false := by
      cases z : c.isAb with
      | false => rfl
      | true => exact absurd (congrArg V.str (cword_ab.mpr z)) c4
    -- if self._table.waiting(t) is not None
    obtain ⟨dxT, ha, qa, da, la, kn, XT⟩ := X1.tab
    refine ⟨_, rfl, M, CM, dx, _, _, rfl, X1.o.eM, T.cl, T.nT, mf_t T0 W0 lg ov op wd, T0, dxT, _, rfl, XT.eT, tf_no ha qa (by decide +kernel) (by decide +kernel), _, rfl, T0, c.tx, H0, τT, S.lk, n, rfl, X1.tab, fun H2 v s2 hw hn => ?_⟩
    have s12 := s1.trans s2
    have X2 := X.same s12
    by_cases hwq : wq S.lk c.tx
    · obtain ⟨q2, rfl⟩ := hw hwq
      exact ⟨rfl, _, rfl, iteT ⟨_, rfl, raise _ (.inr (.inr ⟨nab, .inl hwq⟩)) s12⟩⟩
    · obtain rfl := hn hwq
      refine ⟨rfl, _, rfl, iteF ?_⟩
      -- if self._waited.get(t, call) != call
      obtain ⟨D, ed, rd, _⟩ := X2.o.ewd
      have ea2 := s12 _ _ ea
      refine ⟨_, rfl, M, CM, dx, _, _, rfl, X2.o.eM, T.cl, T.nD, mf_d T0 W0 lg ov op wd, wd, rfl, .inl ⟨_, .inl ed⟩, _, rfl, _, rfl, _, DGet.k (k := Sum.inl c.tx) ed, ?_⟩
      obtain ⟨a', c', eg, ea', hc'⟩ : ∃ a' c', (valV D (Sum.inl c.tx)).getD (.ref a) = V.ref a' ∧ H2 a' = some (.tup (callVs c')) ∧ (c' = c ↔ ¬ ∃ c'', S.wtd c.tx = some c'' ∧ c'' ≠ c) := by
        cases z : S.wtd c.tx with
        | none => exact ⟨a, c, by rw [(rd c.tx).1 z]; rfl, ea2, ⟨fun _ => fun ⟨_, h, _⟩ => (by cases h), fun _ => rfl⟩⟩
        | some c' =>
          obtain ⟨a', e1, e2⟩ := (rd c.tx).2 c' z
          refine ⟨a', c', by rw [e1]; rfl, e2, ⟨fun h => fun ⟨c'', h1, h2⟩ => h2 ((Option.some.inj h1).symm.trans h), fun h => ?_⟩⟩
          by_cases y : c' = c
          · exact y
          · exact absurd ⟨c', rfl, y⟩ h
      rw [eg]
      refine ⟨_, rfl, callD c', callD c, callD_at ea', callD_at ea2, callD_sh c', callD_sh c, _, rfl, ?_⟩
      have hb := callD_eq c' c
      cases hq : PyData.eqv (callD c') (callD c) with
      | true =>
        have hcc := hb.mp hq
        refine iteF (kS (fun z => ?_) H2 s12)
        rcases z with z | z | ⟨_, z | z⟩
        · omega
        · exact c3 z
        · exact hwq z
        · exact (hc'.mp hcc) z
      | false =>
        refine iteT ⟨_, rfl, raise _ (.inr (.inr ⟨nab, .inr ?_⟩)) s12⟩
        refine Classical.byContradiction fun z => ?_
        rw [hb.mpr (hc'.mpr z)] at hq
        cases hq
end
end K61
set_option Elab.async false
set_option linter.all false
set_option maxRecDepth 100000
set_option maxHeartbeats 4000000
namespace K61
open PySem PySem.Spec PyProof.Rows L2
theorem callVs_1 (c : Call) : (callVs c)[1]? = some (.int c.tx) := by cases c <;> rfl
theorem callVs_0 (c : Call) : (callVs c)[0]? = some (.str c.word) := by cases c <;> rfl
abbrev TupKeep (H H' : Hp) : Prop := ∀ b xs, H b = some (.tup xs) → H' b = some (.tup xs)
theorem tk_upd {H : Hp} {c : Addr} {o o' : HO} (e : H c = some o) (m : MutO o) : TupKeep H (upd H c o') := fun b xs h => by
  have ne : b ≠ c := fun z => by
    rw [z, e] at h
    rw [Option.some.inj h] at m
    exact m
  rw [upd_ne ne]
  exact h
theorem Same.tk {H H' : Hp} (s : Same H H') : TupKeep H H' := fun b xs h => s _ _ h
section
variable {P : Program} {w : World} {K : PySem.W.Frag} {mg : Str → Option Value} {base : Heap} {f CM CT CW CE fE : Addr} {fd : FuncData}
/-! ### note -/
def spNote (CM CT CW : Addr) : Sp := fun vs H Q _ => ∃ (M a : Addr) (c : Call) (H0 : Hp) (s : St) (n : Nat), vs = [.ref M, .ref a] ∧ H a = some (.tup (callVs c)) ∧ MgrAt CM CT CW H0 H M s n ∧ n ≤ 9000 ∧
  ∀ H', MgrAt CM CT CW H0 H' M { s with opn := note s.opn c.tx } (n + 1) → TupKeep H H' → Q .non H'
theorem scNote : FnScope ["self", "call"] ["self", "call"] (defScope (sMg 7)) := ⟨rfl, rfl, rfl, by decide +kernel, rfl, by decide +kernel, by decide +kernel⟩
theorem ok_note (F : FnP K "note" "Manager.note" (sMg 7) f fd) (T : TxM K CM) : FnOk P w K mg base CX0 1 f fd ["self", "call"] (spNote CM CT CW) := by
  refine F.ok scNote (fun vs H Q E h => ?_) (fun cdv A outer s H vs Q E hr h => ?_)
  · obtain ⟨M, a, c, H0, S, n, rfl, _⟩ := h
    rfl
  · obtain ⟨M, a, c, H0, S, n, rfl, ea, ⟨τT, τW, τM, T0, W0, dx, lg, ov, op, wd, X⟩, hn, k⟩ := h
    refine ⟨_, PSs.nox (pss_cons (ps_expr (pe_bm PySem.F.plainAttrs_list PySem.F.slot_list_append PySem.F.type_list_append mt_append (pe_fld (pv 0) rfl) (pa_cons (pv 1) pa_nil)))
      (pss_one (ps_if (pt_cmpR op_notIn_seq (pe_ix (r := rIxT K) ix_tup (pv 1) pe_int (fun _ _ => rfl)) (pe_fld (pv 0) rfl) (by rfl))
        (pss_one (ps_expr (pe_bm PySem.F.plainAttrs_list PySem.F.slot_list_append PySem.F.type_list_append mt_append (pe_fld (pv 0) rfl) (pa_cons (pe_ix (r := rIxT K) ix_tup (pv 1) pe_int (fun _ _ => rfl)) pa_nil)))) pss_nil))), ?_⟩
    obtain ⟨xs, elg, llg⟩ := X.o.elg
    refine ⟨_, rfl, M, CM, dx, _, _, rfl, X.o.eM, T.cl, T.nL, mf_l T0 W0 lg ov op wd, .inl ⟨rfl, _, SqL.of elg⟩, _, rfl, lg, _, _, rfl, rfl, elg, lt_line (by omega), ?_⟩
    have X0 := X.mono (Nat.le_succ n)
    have X1 := X0.put (s' := S) X.o.rlg SameBut.upd (X0.o.setLog (xs := xs ++ [V.ref a]) SameBut.upd upd_same (by rw [List.length_append]; show xs.length + 1 ≤ n + 1; omega)) rfl rfl rfl rfl rfl
    have t1 : TupKeep H (upd H lg (.lst (xs ++ [V.ref a]))) := tk_upd elg True.intro
    have ea1 := t1 _ _ ea
    refine ⟨_, rfl, _, _, _, _, rfl, rfl, SqT.of ea1, at_of (j := 1) rfl (callVs_1 c), _, rfl, M, CM, dx, _, _, rfl, X1.o.eM, T.cl, T.nP, mf_p T0 W0 lg ov op wd, op, _, rfl, .inl (SqL.of X1.o.eop), rfl, flat_int _, _, rfl, ?_⟩
    rw [inV_int]
    refine iteNDec (fun c1 => ?_) (fun c1 => ?_)
    · refine ⟨_, rfl, M, CM, dx, _, _, rfl, X1.o.eM, T.cl, T.nP, mf_p T0 W0 lg ov op wd, .inl ⟨rfl, _, SqL.of X1.o.eop⟩, _, rfl, _, _, _, _, rfl, rfl, SqT.of ea1, at_of (j := 1) rfl (callVs_1 c), op, _, _, rfl, rfl, X1.o.eop, lt_line (by rw [List.length_map]; have := X1.o.lop; omega), ?_⟩
      have en : note S.opn c.tx = S.opn ++ [c.tx] := if_neg c1
      have X2 := X1.put (s' := { S with opn := note S.opn c.tx }) X1.o.rop (H' := upd (upd H lg (.lst (xs ++ [V.ref a]))) op (.lst (S.opn.map V.int ++ [V.int c.tx]))) SameBut.upd (by
        show MgrO CM H0 _ τM M T0 W0 S.over (note S.opn c.tx) S.wtd (n + 1) dx lg ov op wd
        rw [en]
        exact X1.o.setOpn SameBut.upd (by rw [upd_same, map_snoc]) (by rw [List.length_append]; have := X.o.lop; show S.opn.length + 1 ≤ n + 1; omega)) rfl rfl rfl rfl rfl
      exact k _ ⟨_, _, _, _, _, _, _, _, _, _, X2⟩ fun b ys h => tk_upd X1.o.eop True.intro b ys (t1 b ys h)
    · have en : note S.opn c.tx = S.opn := if_pos c1
      refine k _ ?_ t1
      rw [en]
      exact ⟨_, _, _, _, _, _, _, _, _, _, X1⟩
end
end K61
set_option Elab.async false
set_option linter.all false
set_option maxRecDepth 100000
set_option maxHeartbeats 4000000
namespace K61
open PySem PySem.Spec PyProof.Rows L2
/-- d[k], d a table of the top -/
def rKd (K : PySem.W.Frag) (d : Addr) : R2 := fun x y H Q => ∃ (z : Str) (u0 : Value) (v0 : V), x = .ref d ∧ y = .str z ∧ PySem.W.nsIn K d z = some (some u0) ∧ RelV v0 u0 ∧ Q v0 H
def tKd (K : PySem.W.Frag) (d : Addr) (ta tb : TE) : TE := fun σ H Q => ta σ H fun x H1 => tb σ H1 fun y H2 => rKd K d x y H2 Q
theorem pe_kd {X : Cx} {d : Addr} {es : Array DictEntry} {n : Nat} {a b : Expr} {ta tb : TE} {pos : Pos} (D : KDict X.K X.w d es n) (ha : PE X a ta) (hb : PE X b tb) (hs : NoSl b) : PE X (.Subscript a b pos) (tKd X.K d ta tb) := by
  refine ⟨fun pins s σ H Q I h => ?_⟩
  refine subD_of PySem.slot_dict_getitem.lookup hs (thn (ha.run pins s σ H _ I h) fun o s1 ⟨x, H1, I1, rx, q1⟩ => thn (hb.run pins s1 σ H1 _ I1 q1) fun i s2 ⟨y, H2, I2, ry, q2⟩ => ?_)
  have q2' := q2
  obtain ⟨z, u0, v0, rfl, _⟩ := q2'
  obtain rfl : o = Value.ref d := rx
  exact ⟨kd_type D I2, op_item_kd D pins s2 σ H2 (.ref d) y (.ref d) i Q I2 (show RelV (.ref d) (.ref d) from rfl) ry q2⟩
def rV : Option Int → V
  | none => .non
  | some k => .int k
def spMake (CM CT CW CE : Addr) : Sp := fun vs H Q E => ∃ (M a : Addr) (c : Call) (t : Int) (i : It) (m : Md) (H0 : Hp) (s : St) (n : Nat), vs = [.ref M, .ref a] ∧ H a = some (.tup (callVs c)) ∧ c.step? = some (t, i, m) ∧ MgrAt CM CT CW H0 H M s n ∧ n ≤ 8000 ∧
  (Refused s c → ∀ H' d z, Same H H' → H' d = some (.xd [(("what" : Str), V.str z)]) → E (.ref CE) (some d) H') ∧
  (¬ Refused s c → ∀ H' s' r, Step s c s' r → MgrAt CM CT CW H0 H' M s' (n + 3) → Q (rV r) H')
theorem scMake : FnScope ["self", "call", "t"] ["self", "call"] (defScope (sMg 8)) := ⟨rfl, rfl, rfl, by decide +kernel, rfl, by decide +kernel, by decide +kernel⟩
/-- what the top's table MODES says -/
structure TxModes (K : PySem.W.Frag) (w : World) (mg : Str → Option Value) (dM : Addr) : Prop where
  g : mg "MODES" = some (.ref dM)
  kd : ∃ es n, KDict K w dM es n
  rd : ∃ u, PySem.W.nsIn K dM "read" = some (some u) ∧ RelV (.str "shared") u
  wr : ∃ u, PySem.W.nsIn K dM "write" = some (some u) ∧ RelV (.str "exclusive") u
theorem cut_step {c : Call} {t : Int} {i : It} {m : Md} (h : c.step? = some (t, i, m)) : cutV (callVs c) none (some 1) ++ cutV (callVs c) (some 2) none = stepVs c ∧ cutV (callVs c) none (some 1) ≠ [] ∧ cutV (callVs c) (some 2) none ≠ [] ∧
    ¬ (HT.sIx (callVs c).length 0 none = 0 ∧ HT.sIx (callVs c).length (callVs c).length (some 1) = (callVs c).length) ∧ ¬ (HT.sIx (callVs c).length 0 (some 2) = 0 ∧ HT.sIx (callVs c).length (callVs c).length none = (callVs c).length) ∧ (callVs c)[2]? = some (.str i.s) ∧ c.tx = t := by
  cases c with
  | rd u j =>
    cases h
    refine ⟨rfl, (by intro z; cases z), (by intro z; cases z), (by show ¬ ((0 : Nat) = 0 ∧ (1 : Nat) = 3); decide), (by show ¬ ((2 : Nat) = 0 ∧ (3 : Nat) = 3); decide), rfl, rfl⟩
  | wr u j k =>
    cases h
    refine ⟨rfl, (by intro z; cases z), (by intro z; cases z), (by show ¬ ((0 : Nat) = 0 ∧ (1 : Nat) = 4); decide), (by show ¬ ((2 : Nat) = 0 ∧ (4 : Nat) = 4); decide), rfl, rfl⟩
  | cm u => cases h
  | ab u => cases h
section
variable {P : Program} {w : World} {K : PySem.W.Frag} {mg : Str → Option Value} {base : Heap} {f CM CT CW CE fE dM : Addr} {fd : FuncData}
theorem ok_make (F : FnP K "make" "Manager.make" (sMg 8) f fd) (T : TxM K CM) (TT : TxT K CT) (TW : TxW K CW) (MO : TxModes K w mg dM) (GC : MFn P w K mg base (L2.CX P w) 3 CM "check" ["self", "call"] (spCheck CM CT CW CE)) (GN : MFn P w K mg base CX0 1 CM "note" ["self", "call"] (spNote CM CT CW))
    (GA : MFn P w K mg base CX0 4 CT "ask" ["self", "t", "item", "mode"] (spAsk CT)) (GD : MFn P w K mg base CX0 1 CW "do_step" ["self", "t", "step"] (spStep CW)) :
    FnOk P w K mg base (L2.CX P w) 5 f fd ["self", "call"] (spMake CM CT CW CE) := by
  obtain ⟨fC, fdC, mC, bC, GC⟩ := GC
  obtain ⟨fN, fdN, mN, bN, GN⟩ := GN
  obtain ⟨fA, fdA, mA, bA, GA⟩ := GA
  obtain ⟨fD, fdD, mD, bD, GD⟩ := GD
  obtain ⟨es, nk, KD⟩ := MO.kd
  refine F.ok scMake (fun vs H Q E h => ?_) (fun cdv A outer s H vs Q E hr h => ?_)
  · obtain ⟨M, a, c, t, i, m, H0, S, n, rfl, _⟩ := h
    rfl
  · obtain ⟨M, a, c, t, i, m, H0, S, n, rfl, ea, hs, ⟨τT, τW, τM, T0, W0, dx, lg, ov, op, wd, X⟩, hn, kE, kS⟩ := h
    have hu := hu_of hr
    refine ⟨_, pss_cons (ps_expr (pe_meth (pv 0) T.cl mC GC (hr.mono (by decide)) bC .nil (passes_call (takes_of rfl rfl rfl rfl) (fun _ _ _ _ h => h)) (pa_cons (pv 1) pa_nil)))
      (pss_cons (ps_expr (pe_meth (pv 0) T.cl mN GN (hr.mono (by decide)) bN .nil pass0 (pa_cons (pv 1) pa_nil)))
      (pss_cons (ps_set (i := 2) scMake.nd rfl (Or.inl rfl) (pe_ix (r := rIxT K) ix_tup (pv 1) pe_int (fun _ _ => rfl)))
      (pss_cons (ps_if (pt_cmpR op_eq (pe_meth (pe_fld (pv 0) rfl) TT.cl mA GA hr bA .nil pass0 (pa_cons (pv 2) (pa_cons (pe_ix (r := rIxT K) ix_tup (pv 1) pe_int (fun _ _ => rfl)) (pa_cons (pe_kd KD (pe_glob (v := V.ref dM) rfl MO.g rfl) (pe_ix (r := rIxT K) ix_tup (pv 1) pe_int (fun _ _ => rfl)) (fun _ _ => rfl)) pa_nil)))) pe_str (nomark _))
          (pss_cons (ps_dput hu (pe_fld (pv 0) rfl) (pv 2) (pv 1) rfl) (pss_one (ps_ret pe_non))) pss_nil)
      (C8.pss_cut (ps_if (pt_cmp (pc_din hu (pv 2) (pe_fld (pv 0) rfl))) (pss_one (ps_ddel (pe_fld (pv 0) rfl) (pv 2))) pss_nil)
      (pss_one (ps_ret (pe_meth (pe_fld (pv 0) rfl) TW.cl mD GD (hr.mono (by decide)) bD .nil pass0 (pa_cons (pv 2) (pa_cons (pe_op op_catT (pe_slice (r := rSlT K) sl_tup (pv 1) po_none (po_some pe_int)) (pe_slice (r := rSlT K) sl_tup (pv 1) (po_some pe_int) po_none)) pa_nil))))))))), ?_⟩
    obtain ⟨cs1, cs2, cs3, cs4, cs5, cs6, etx⟩ := cut_step hs
    subst etx
    -- self.check(call)
    refine ⟨_, rfl, M, dx, _, rfl, X.o.eM, mf_no T0 W0 lg ov op wd (by decide +kernel), _, rfl, M, a, c, H0, S, n, rfl, ea, ⟨_, _, _, _, _, _, _, _, _, _, X⟩, fun z H' d y s1 e => kE z H' d y s1 e, fun nr H1 s1 => ?_⟩
    have k := kS nr
    have X1 := X.same s1
    -- self.note(call)
    refine ⟨_, rfl, M, dx, _, rfl, X1.o.eM, mf_no T0 W0 lg ov op wd (by decide +kernel), _, rfl, M, a, c, H0, S, n, rfl, s1 _ _ ea, ⟨_, _, _, _, _, _, _, _, _, _, X1⟩, by omega, fun H2 X2 t2 => ?_⟩
    obtain ⟨τT2, τW2, τM2, T2, W2, dx2, lg2, ov2, op2, wd2, X2⟩ := X2
    have ea2 := t2 _ _ (s1 _ _ ea)
    -- t = call[1]
    refine ⟨_, rfl, _, _, _, _, rfl, rfl, SqT.of ea2, at_of (j := 1) rfl (callVs_1 c), ?_⟩
    -- self._table.ask(..)
    obtain ⟨dxT, ha, qa, da, la, kn, XT⟩ := X2.tab
    have hmd : ∃ u, PySem.W.nsIn K dM c.word = some (some u) ∧ RelV (.str m.s) u := by
      obtain ⟨_, _, hk⟩ := step_tx hs
      rcases hk with ⟨h1, h2⟩ | ⟨h1, j, h2⟩
      · have hw : c.word = "read" := congrArg Call.word h2
        rw [hw, h1]
        exact MO.rd
      · have hw : c.word = "write" := congrArg Call.word h2
        rw [hw, h1]
        exact MO.wr
    obtain ⟨um, hum, rum⟩ := hmd
    refine ⟨_, rfl, M, CM, dx2, _, _, rfl, X2.o.eM, T.cl, T.nT, mf_t T2 W2 lg2 ov2 op2 wd2, T2, dxT, _, rfl, XT.eT, tf_no ha qa (by decide +kernel) (by decide +kernel), _, rfl, _, rfl, _, _, _, _, rfl, rfl, SqT.of ea2, at_of (j := 2) rfl cs6,
      _, rfl, _, _, _, _, rfl, rfl, SqT.of ea2, at_of (j := 0) rfl (callVs_0 c), c.word, um, .str m.s, rfl, rfl, hum, rum, T2, c.tx, i, m, wipeL τT2 H2, τT2, S.lk, n + 1, rfl, X2.tab.base, ?_, (nr1 nr).1, (nr1 nr).2, by omega, fun H3 τT3 L' z b Xt ask hz => ?_⟩
    · exact fun ⟨j, hj⟩ => nr3 nr (step_tx hs).2.1 ⟨j, hj⟩
    have X3 := (X2.mono (Nat.le_succ (n + 1))).setTab Xt
    have na : τT2 a = none := X2.tab.own.tup ea2
    have ea3 : H3 a = some (.tup (callVs c)) := (keep_of Xt.own na ea2).1
    obtain ⟨D, ed, rd, ld⟩ := X3.o.ewd
    refine ⟨rfl, _, rfl, ?_⟩
    refine iteDec (fun c1 => ?_) (fun c1 => ?_)
    · -- waits
      obtain rfl := hz.mp (strI.mp c1)
      refine ⟨_, rfl, _, rfl, M, CM, dx2, _, _, rfl, X3.o.eM, T.cl, T.nD, mf_d T2 W2 lg2 ov2 op2 wd2, _, rfl, wd2, _, rfl, DPut.k (k := Sum.inl c.tx) ed (lt_line (by omega)), ?_⟩
      have X3' := X3.mono (Nat.le_succ (n + 2))
      have X4 := X3'.put (s' := { S with lk := fput S.lk i L', opn := note S.opn c.tx, wtd := fput S.wtd c.tx (some c) }) X3.o.rwd SameBut.upd (X3'.o.setWtd SameBut.upd upd_same (rd.put c.tx c ea3) (by have := length_put D (Sum.inl c.tx) (.ref a); show (putK D (Sum.inl c.tx) (.ref a)).length ≤ n + 2 + 1; omega)) rfl rfl rfl rfl rfl
      exact k _ _ none (.wait nr hs ask) ⟨_, _, _, _, _, _, _, _, _, _, X4⟩
    · -- runs
      obtain rfl : b = true := by
        cases b with
        | true => rfl
        | false => exact absurd (strI.mpr (hz.mpr rfl)) c1
      refine ⟨fun σ H4 => σ = [some (.ref M), some (.ref a), some (.int c.tx)] ∧ H4 a = some (.tup (callVs c)) ∧ MgrX CM CT CW H0 H4 τT3 τW2 τM2 M T2 W2 { S with lk := fput S.lk i L', opn := note S.opn c.tx, wtd := fput S.wtd c.tx none } (n + 2) dx2 lg2 ov2 op2 wd2, ?_, ?_⟩
      · refine ⟨_, rfl, _, rfl, M, CM, dx2, _, _, rfl, X3.o.eM, T.cl, T.nD, mf_d T2 W2 lg2 ov2 op2 wd2, wd2, _, rfl, DGet.k (k := Sum.inl c.tx) ed, _, rfl, ?_⟩
        have hs2 := rd.isSome c.tx
        refine iteB (fun c2 => ?_) (fun c2 => ?_)
        · refine ⟨_, rfl, M, CM, dx2, _, _, rfl, X3.o.eM, T.cl, T.nD, mf_d T2 W2 lg2 ov2 op2 wd2, _, rfl, wd2, D, Sum.inl c.tx, rfl, ed, rfl, c2, rfl, tk_upd ed True.intro _ _ ea3, ?_⟩
          exact X3.put (s' := { S with lk := fput S.lk i L', opn := note S.opn c.tx, wtd := fput S.wtd c.tx none }) X3.o.rwd SameBut.upd (X3.o.setWtd SameBut.upd upd_same (rd.drop c.tx) (Nat.le_trans (length_drop D _) ld)) rfl rfl rfl rfl rfl
        · refine ⟨rfl, ea3, ?_⟩
          have hnone : S.wtd c.tx = none := by
            cases y : S.wtd c.tx with
            | none => rfl
            | some c' =>
              have hs3 : (valV D (Sum.inl c.tx)).isSome = (S.wtd c.tx).isSome := hs2
              rw [y, c2] at hs3
              cases hs3
          have e : fput S.wtd c.tx none = S.wtd := by
            have := fput_self S.wtd c.tx
            rw [hnone] at this
            exact this
          rw [e]
          exact X3
      rintro σ H4 ⟨rfl, ea4, X4⟩
      obtain ⟨dxW, am, su, bf, sl, kb, db, XW⟩ := X4.work
      -- return self._work.do_step(t, call[:1] + call[2:])
      refine ⟨_, rfl, M, CM, dx2, _, _, rfl, X4.o.eM, T.cl, T.nW, mf_w T2 W2 lg2 ov2 op2 wd2, W2, dxW, _, rfl, XW.eW, wf_no am su bf sl (by decide +kernel) (by decide +kernel) (by decide +kernel) (by decide +kernel), _, rfl, ?_⟩
      refine ⟨_, rfl, 1, rfl, a, callVs c, rfl, SqT.of ea4, cs4, fun p hp => ?_⟩
      have sp := same_upd (o := .tup (cutV (callVs c) none (some 1))) hp
      refine ⟨_, rfl, 2, rfl, a, callVs c, rfl, SqT.of (sp _ _ ea4), cs5, fun p2 hp2 => ?_⟩
      have sp2 := same_upd (o := .tup (cutV (callVs c) (some 2) none)) hp2
      refine ⟨p, p2, _, _, rfl, rfl, SqT.of (sp2 _ _ upd_same), SqT.of upd_same, cs2, ?_, fun z => absurd z cs3, fun _ p3 hp3 => ?_⟩
      · have l1 := cutV_length (callVs c) none (some 1)
        have l2 := cutV_length (callVs c) (some 2) none
        have l3 : (callVs c).length ≤ 4 := by cases c <;> simp [callVs]
        show _ ≤ 16777216
        omega
      rw [cs1]
      have sp3 := sp.trans (sp2.trans (same_upd (o := .tup (stepVs c)) hp3))
      have X5 := X4.same sp3
      refine ⟨W2, p3, c.tx, c, _, τW2, _, n + 2, rfl, ?_, upd_same, X5.work.base, by omega, fun H6 τW' Xw => ?_⟩
      · obtain ⟨_, _, hk⟩ := step_tx hs
        rcases hk with ⟨_, h2⟩ | ⟨_, j, h2⟩
        · exact .inl ⟨i, h2⟩
        · exact .inr ⟨i, j, h2⟩
      have X6 := (X5.mono (Nat.le_succ (n + 2))).setWork Xw (by cases c <;> rfl) (by cases c <;> rfl) (by cases c <;> rfl) (by cases c <;> rfl)
      have e : doVal { S with lk := fput S.lk i L', opn := note S.opn c.tx, wtd := fput S.wtd c.tx none } c = doVal S c := by cases c <;> rfl
      rw [e]
      exact k _ _ (some (doVal S c)) (.run nr hs ask) ⟨_, _, _, _, _, _, _, _, _, _, X6⟩
end
end K61
set_option Elab.async false
set_option linter.all false
set_option maxRecDepth 100000
set_option maxHeartbeats 4000000
namespace K61
open PySem PySem.Spec PyProof.Rows L2
def argVs : Call → List V
  | .rd t i => [.int t, .str i.s]
  | .wr t i n => [.int t, .str i.s, .int n]
  | .cm t => [.int t]
  | .ab t => [.int t]
/-- what a call answers -/
def ResV (c : Call) (r : Option Int) (v : V) (H : Hp) : Prop := (c.step?.isSome = true → v = rV r) ∧ (c.step?.isSome = false → ∃ p xs, v = V.ref p ∧ H p = some (.lst xs))
def QOk (s : St) : Prop := ∀ i, ∀ p ∈ (s.lk i).q, 1 ≤ p.1 ∧ p.1 ≤ 8
/-- a call of a manager -/
def spCall (κ : Call → Prop) (CM CT CW CE : Addr) : Sp := fun vs H Q E => ∃ (M : Addr) (c : Call) (H0 : Hp) (s : St) (n : Nat), vs = .ref M :: argVs c ∧ κ c ∧ MgrAt CM CT CW H0 H M s n ∧ n ≤ 8000 ∧ QOk s ∧
  (Refused s c → ∀ H' d z, Same H H' → H' d = some (.xd [(("what" : Str), V.str z)]) → E (.ref CE) (some d) H') ∧
  (¬ Refused s c → ∀ H' s' r v, Step s c s' r → MgrAt CM CT CW H0 H' M s' (n + 3) → ResV c r v H' → Q v H')
def isRd (c : Call) : Prop := ∃ t i, c = .rd t i
def isWrC (c : Call) : Prop := ∃ t i n, c = .wr t i n
def isCm (c : Call) : Prop := ∃ t, c = .cm t
def isAbC (c : Call) : Prop := ∃ t, c = .ab t
section
variable {P : Program} {w : World} {K : PySem.W.Frag} {mg : Str → Option Value} {base : Heap} {f CM CT CW CE fE dM : Addr} {fd : FuncData}
theorem MgrAt.same {H0 H H' : Hp} {M : Addr} {s : St} {n : Nat} (t : MgrAt CM CT CW H0 H M s n) (q : Same H H') : MgrAt CM CT CW H0 H' M s n := by
  obtain ⟨_, _, _, _, _, _, _, _, _, _, X⟩ := t
  exact ⟨_, _, _, _, _, _, _, _, _, _, X.same q⟩
/-! ### read, write -/
theorem scRead : FnScope ["self", "t", "item"] ["self", "t", "item"] (defScope (sMg 9)) := ⟨rfl, rfl, rfl, by decide +kernel, rfl, by decide +kernel, by decide +kernel⟩
theorem ok_read (F : FnP K "read" "Manager.read" (sMg 9) f fd) (T : TxM K CM) (GK : MFn P w K mg base (L2.CX P w) 5 CM "make" ["self", "call"] (spMake CM CT CW CE)) : FnOk P w K mg base (L2.CX P w) 6 f fd ["self", "t", "item"] (spCall isRd CM CT CW CE) := by
  obtain ⟨fK, fdK, mK, bK, GK⟩ := GK
  refine F.ok scRead (fun vs H Q E h => ?_) (fun cdv A outer s H vs Q E hr h => ?_)
  · obtain ⟨M, c, H0, S, n, rfl, ⟨t, i, rfl⟩, _⟩ := h
    rfl
  · obtain ⟨M, c, H0, S, n, rfl, ⟨t, i, rfl⟩, X, hn, qok, kE, kS⟩ := h
    have X' := X
    obtain ⟨τT, τW, τM, T0, W0, dx, lg, ov, op, wd, X'⟩ := X'
    refine ⟨_, pss_one (ps_ret (pe_meth (pv 0) T.cl mK GK hr bK .nil (passes_call (takes_of rfl rfl rfl rfl) (fun _ _ _ _ h => h)) (pa_cons (pe_tup (pa_cons pe_str (pa_cons (pv 1) (pa_cons (pv 2) pa_nil)))) pa_nil))), ?_⟩
    refine ⟨_, rfl, M, dx, _, rfl, X'.o.eM, mf_no T0 W0 lg ov op wd (by decide +kernel), _, rfl, _, rfl, (by show 3 ≤ sizeLine; decide), fun a ha => ?_⟩
    have sa := same_upd (o := .tup [V.str "read", V.int t, V.str i.s]) ha
    exact ⟨M, a, .rd t i, t, i, .sh, H0, S, n, rfl, upd_same, rfl, X.same sa, hn, fun z H' d y s1 e => kE z H' d y (sa.trans s1) e, fun nr H' s' r st Y => kS nr H' s' r _ st Y ⟨fun _ => rfl, fun z => by cases z⟩⟩
theorem scWrite : FnScope ["self", "t", "item", "number"] ["self", "t", "item", "number"] (defScope (sMg 10)) := ⟨rfl, rfl, rfl, by decide +kernel, rfl, by decide +kernel, by decide +kernel⟩
theorem ok_write (F : FnP K "write" "Manager.write" (sMg 10) f fd) (T : TxM K CM) (GK : MFn P w K mg base (L2.CX P w) 5 CM "make" ["self", "call"] (spMake CM CT CW CE)) : FnOk P w K mg base (L2.CX P w) 6 f fd ["self", "t", "item", "number"] (spCall isWrC CM CT CW CE) := by
  obtain ⟨fK, fdK, mK, bK, GK⟩ := GK
  refine F.ok scWrite (fun vs H Q E h => ?_) (fun cdv A outer s H vs Q E hr h => ?_)
  · obtain ⟨M, c, H0, S, n, rfl, ⟨t, i, k, rfl⟩, _⟩ := h
    rfl
  · obtain ⟨M, c, H0, S, n, rfl, ⟨t, i, k, rfl⟩, X, hn, qok, kE, kS⟩ := h
    have X' := X
    obtain ⟨τT, τW, τM, T0, W0, dx, lg, ov, op, wd, X'⟩ := X'
    refine ⟨_, pss_one (ps_ret (pe_meth (pv 0) T.cl mK GK hr bK .nil (passes_call (takes_of rfl rfl rfl rfl) (fun _ _ _ _ h => h)) (pa_cons (pe_tup (pa_cons pe_str (pa_cons (pv 1) (pa_cons (pv 2) (pa_cons (pv 3) pa_nil))))) pa_nil))), ?_⟩
    refine ⟨_, rfl, M, dx, _, rfl, X'.o.eM, mf_no T0 W0 lg ov op wd (by decide +kernel), _, rfl, _, rfl, _, rfl, (by show 4 ≤ sizeLine; decide), fun a ha => ?_⟩
    have sa := same_upd (o := .tup [V.str "write", V.int t, V.str i.s, V.int k]) ha
    exact ⟨M, a, .wr t i k, t, i, .ex, H0, S, n, rfl, upd_same, rfl, X.same sa, hn, fun z H' d y s1 e => kE z H' d y (sa.trans s1) e, fun nr H' s' r st Y => kS nr H' s' r _ st Y ⟨fun _ => rfl, fun z => by cases z⟩⟩
/-! ### end -/
def spEnd (CM CT CW : Addr) : Sp := fun vs H Q _ => ∃ (M : Addr) (t : Int) (H0 : Hp) (s : St) (n : Nat), vs = [.ref M, .int t] ∧ MgrAt CM CT CW H0 H M s n ∧ n ≤ 8900 ∧ QOk s ∧
  ∀ H' lk' p xs, MgrAt CM CT CW H0 H' M { s with lk := lk', wtd := fput s.wtd t none, over := s.over ++ [t] } (n + 1) → (∀ i, Rel (s.lk i) t (lk' i)) → H' p = some (.lst xs) → Q (.ref p) H'
theorem scEnd : FnScope ["self", "t"] ["self", "t"] (defScope (sMg 11)) := ⟨rfl, rfl, rfl, by decide +kernel, rfl, by decide +kernel, by decide +kernel⟩
theorem ok_end (F : FnP K "end" "Manager.end" (sMg 11) f fd) (T : TxM K CM) (TT : TxT K CT) (GR : MFn P w K mg base CX0 5 CT "release" ["self", "t"] (spRel CT)) : FnOk P w K mg base CX0 6 f fd ["self", "t"] (spEnd CM CT CW) := by
  obtain ⟨fR, fdR, mR, bR, GR⟩ := GR
  refine F.ok scEnd (fun vs H Q E h => ?_) (fun cdv A outer s H vs Q E hr h => ?_)
  · obtain ⟨M, t, H0, S, n, rfl, _⟩ := h
    rfl
  · obtain ⟨M, t, H0, S, n, rfl, ⟨τT, τW, τM, T0, W0, dx, lg, ov, op, wd, X⟩, hn, qok, k⟩ := h
    have hu := hu_of hr
    refine ⟨_, PSs.nox (pss_cons (ps_expr (pe_bm PySem.F.plainAttrs_list PySem.F.slot_list_append PySem.F.type_list_append mt_append (pe_fld (pv 0) rfl) (pa_cons (pv 1) pa_nil)))
      (C8.pss_cut (ps_if (pt_cmp (pc_din hu (pv 1) (pe_fld (pv 0) rfl))) (pss_one (ps_ddel (pe_fld (pv 0) rfl) (pv 1))) pss_nil)
      (pss_one (ps_ret (pe_meth (pe_fld (pv 0) rfl) TT.cl mR GR hr bR .nil pass0 (pa_cons (pv 1) pa_nil)))))), ?_⟩
    refine ⟨_, rfl, M, CM, dx, _, _, rfl, X.o.eM, T.cl, T.nO, mf_o T0 W0 lg ov op wd, .inl ⟨rfl, _, SqL.of X.o.eov⟩, _, rfl, ov, _, _, rfl, rfl, X.o.eov, lt_line (by rw [List.length_map]; have := X.o.lov; omega), ?_⟩
    have X0 := X.mono (Nat.le_succ n)
    have X1 := X0.put (s' := { S with over := S.over ++ [t] }) X.o.rov (H' := upd H ov (.lst (S.over.map V.int ++ [V.int t]))) SameBut.upd (X0.o.setOver SameBut.upd (by rw [upd_same, map_snoc]) (by rw [List.length_append]; have := X.o.lov; show S.over.length + 1 ≤ n + 1; omega)) rfl rfl rfl rfl rfl
    obtain ⟨D, ed, rd, ld⟩ := X1.o.ewd
    refine ⟨fun σ H4 => σ = [some (.ref M), some (.int t)] ∧ MgrX CM CT CW H0 H4 τT τW τM M T0 W0 { S with wtd := fput S.wtd t none, over := S.over ++ [t] } (n + 1) dx lg ov op wd, ?_, ?_⟩
    · refine ⟨_, rfl, _, rfl, M, CM, dx, _, _, rfl, X1.o.eM, T.cl, T.nD, mf_d T0 W0 lg ov op wd, wd, _, rfl, DGet.k (k := Sum.inl t) ed, _, rfl, ?_⟩
      have hs2 : (valV D (Sum.inl t)).isSome = (S.wtd t).isSome := rd.isSome t
      refine iteB (fun c2 => ?_) (fun c2 => ?_)
      · refine ⟨_, rfl, M, CM, dx, _, _, rfl, X1.o.eM, T.cl, T.nD, mf_d T0 W0 lg ov op wd, _, rfl, wd, D, Sum.inl t, rfl, ed, rfl, c2, rfl, ?_⟩
        exact X1.put (s' := { S with wtd := fput S.wtd t none, over := S.over ++ [t] }) X1.o.rwd SameBut.upd (X1.o.setWtd SameBut.upd upd_same (rd.drop t) (Nat.le_trans (length_drop D _) ld)) rfl rfl rfl rfl rfl
      · refine ⟨rfl, ?_⟩
        have hnone : S.wtd t = none := by
          cases y : S.wtd t with
          | none => rfl
          | some c' =>
            rw [y, c2] at hs2
            cases hs2
        have e : fput S.wtd t none = S.wtd := by
          have := fput_self S.wtd t
          rw [hnone] at this
          exact this
        rw [e]
        exact X1
    rintro σ H4 ⟨rfl, X4⟩
    obtain ⟨dxT, ha, qa, da, la, kn, XT⟩ := X4.tab
    refine ⟨_, rfl, M, CM, dx, _, _, rfl, X4.o.eM, T.cl, T.nT, mf_t T0 W0 lg ov op wd, T0, dxT, _, rfl, XT.eT, tf_no ha qa (by decide +kernel) (by decide +kernel), _, rfl, T0, t, _, τT, S.lk, n + 1, rfl, X4.tab.base, qok, by omega, fun H5 τ5 lk' p xs Xt rel ep => ?_⟩
    exact k H5 lk' p xs ⟨_, _, _, _, _, _, _, _, _, _, X4.setTab Xt⟩ rel ep
/-! ### commit, abort -/
theorem scCommit : FnScope ["self", "t"] ["self", "t"] (defScope (sMg 12)) := ⟨rfl, rfl, rfl, by decide +kernel, rfl, by decide +kernel, by decide +kernel⟩
theorem ok_commit (F : FnP K "commit" "Manager.commit" (sMg 12) f fd) (T : TxM K CM) (TW : TxW K CW) (GC : MFn P w K mg base (L2.CX P w) 3 CM "check" ["self", "call"] (spCheck CM CT CW CE)) (GN : MFn P w K mg base CX0 1 CM "note" ["self", "call"] (spNote CM CT CW))
    (GE : MFn P w K mg base CX0 6 CM "end" ["self", "t"] (spEnd CM CT CW)) : FnOk P w K mg base (L2.CX P w) 7 f fd ["self", "t"] (spCall isCm CM CT CW CE) := by
  obtain ⟨fC, fdC, mC, bC, GC⟩ := GC
  obtain ⟨fN, fdN, mN, bN, GN⟩ := GN
  obtain ⟨fE, fdE, mE, bE, GE⟩ := GE
  refine F.ok scCommit (fun vs H Q E h => ?_) (fun cdv A outer s H vs Q E hr h => ?_)
  · obtain ⟨M, c, H0, S, n, rfl, ⟨t, rfl⟩, _⟩ := h
    rfl
  · obtain ⟨M, c, H0, S, n, rfl, ⟨t, rfl⟩, ⟨τT, τW, τM, T0, W0, dx, lg, ov, op, wd, X⟩, hn, qok, kE, kS⟩ := h
    refine ⟨_, pss_cons (ps_expr (pe_meth (pv 0) T.cl mC GC (hr.mono (by decide)) bC .nil (passes_call (takes_of rfl rfl rfl rfl) (fun _ _ _ _ h => h)) (pa_cons (pe_tup (pa_cons pe_str (pa_cons (pv 1) pa_nil))) pa_nil)))
      (pss_cons (ps_expr (pe_meth (pv 0) T.cl mN GN (hr.mono (by decide)) bN .nil pass0 (pa_cons (pe_tup (pa_cons pe_str (pa_cons (pv 1) pa_nil))) pa_nil)))
      (pss_cons (ps_expr (pe_bm PySem.F.plainAttrs_list PySem.F.slot_list_append PySem.F.type_list_append mt_append (pe_fld (pe_fld (pv 0) rfl) rfl) (pa_cons (pe_tup (pa_cons pe_str (pa_cons (pv 1) pa_nil))) pa_nil)))
      (pss_one (ps_ret (pe_meth (pv 0) T.cl mE GE hr bE .nil pass0 (pa_cons (pv 1) pa_nil)))))), ?_⟩
    refine ⟨_, rfl, M, dx, _, rfl, X.o.eM, mf_no T0 W0 lg ov op wd (by decide +kernel), _, rfl, (by show 2 ≤ sizeLine; decide), fun a ha => ?_⟩
    have sa := same_upd (o := .tup [V.str "commit", V.int t]) ha
    refine ⟨M, a, .cm t, H0, S, n, rfl, upd_same, ⟨_, _, _, _, _, _, _, _, _, _, X.same sa⟩, fun z H' d y s1 e => kE z H' d y (sa.trans s1) e, fun nr H1 s1 => ?_⟩
    have k := kS nr
    have X1 := X.same (sa.trans s1)
    refine ⟨_, rfl, M, dx, _, rfl, X1.o.eM, mf_no T0 W0 lg ov op wd (by decide +kernel), _, rfl, (by show 2 ≤ sizeLine; decide), fun a2 ha2 => ?_⟩
    have sa2 := same_upd (o := .tup [V.str "commit", V.int t]) ha2
    refine ⟨M, a2, .cm t, H0, S, n, rfl, upd_same, ⟨_, _, _, _, _, _, _, _, _, _, X1.same sa2⟩, by omega, fun H2 X2 t2 => ?_⟩
    obtain ⟨τT2, τW2, τM2, T2, W2, dx2, lg2, ov2, op2, wd2, X2⟩ := X2
    obtain ⟨dxW, am, su, bf, sl, kb, db, XW⟩ := X2.work
    obtain ⟨xs, el, rl⟩ := XW.el
    refine ⟨_, rfl, M, CM, dx2, _, _, rfl, X2.o.eM, T.cl, T.nW, mf_w T2 W2 lg2 ov2 op2 wd2, W2, CW, dxW, _, _, rfl, XW.eW, TW.cl, TW.nL, wf_l am su bf sl, .inl ⟨rfl, _, SqL.of el⟩, _, rfl, (by show 2 ≤ sizeLine; decide), fun T3 hT => ?_⟩
    have sT := same_upd (o := .tup [V.str "commit", V.int t]) hT
    have hl : xs.length ≤ n + 1 := by rw [rl.length]; exact XW.ll
    have X3 := (X2.same sT).mono (Nat.le_succ (n + 1))
    have XW3 := ((XW.same sT).mono (Nat.le_succ (n + 1))).base
    have nl : T3 ≠ sl := (ne_of_none el hT).symm
    refine ⟨sl, _, _, rfl, rfl, sT _ _ el, lt_line (by omega), ?_⟩
    have XW4 := XW3.setL (xs := xs ++ [V.ref T3]) (l := S.sched ++ [.cm t]) SameBut.upd upd_same (pappend ((rl.same sT).but XW3.own XW3.rl SameBut.upd) (.cons ⟨T3, rfl, by rw [upd_ne nl, upd_same]; rfl⟩ .nil)) (by rw [List.length_append]; have := XW.ll; have e : S.sched.length ≤ n + 1 := this; show S.sched.length + 1 ≤ n + 2; omega)
    have X4 := X3.setWork (s' := { S with opn := note S.opn t, sched := S.sched ++ [.cm t] }) ⟨_, _, _, _, _, _, _, XW4⟩ rfl rfl rfl rfl
    refine ⟨_, rfl, M, dx2, _, rfl, X4.o.eM, mf_no T2 W2 lg2 ov2 op2 wd2 (by decide +kernel), _, rfl, M, t, H0, _, n + 2, rfl, ⟨_, _, _, _, _, _, _, _, _, _, X4⟩, by omega, qok, fun H5 lk' p ys X5 rel ep => ?_⟩
    exact k H5 _ none _ (.commit nr rel) X5 ⟨fun z => (by cases z), fun _ => ⟨p, ys, rfl, ep⟩⟩
theorem scAbort : FnScope ["self", "t"] ["self", "t"] (defScope (sMg 13)) := ⟨rfl, rfl, rfl, by decide +kernel, rfl, by decide +kernel, by decide +kernel⟩
theorem ok_abort (F : FnP K "abort" "Manager.abort" (sMg 13) f fd) (T : TxM K CM) (TW : TxW K CW) (GC : MFn P w K mg base (L2.CX P w) 3 CM "check" ["self", "call"] (spCheck CM CT CW CE)) (GN : MFn P w K mg base CX0 1 CM "note" ["self", "call"] (spNote CM CT CW))
    (GE : MFn P w K mg base CX0 6 CM "end" ["self", "t"] (spEnd CM CT CW)) (GB : MFn P w K mg base CX0 1 CW "take_back" ["self", "t"] (spBack CW)) : FnOk P w K mg base (L2.CX P w) 7 f fd ["self", "t"] (spCall isAbC CM CT CW CE) := by
  obtain ⟨fC, fdC, mC, bC, GC⟩ := GC
  obtain ⟨fN, fdN, mN, bN, GN⟩ := GN
  obtain ⟨fE, fdE, mE, bE, GE⟩ := GE
  obtain ⟨fB, fdB, mB, bB, GB⟩ := GB
  refine F.ok scAbort (fun vs H Q E h => ?_) (fun cdv A outer s H vs Q E hr h => ?_)
  · obtain ⟨M, c, H0, S, n, rfl, ⟨t, rfl⟩, _⟩ := h
    rfl
  · obtain ⟨M, c, H0, S, n, rfl, ⟨t, rfl⟩, ⟨τT, τW, τM, T0, W0, dx, lg, ov, op, wd, X⟩, hn, qok, kE, kS⟩ := h
    refine ⟨_, pss_cons (ps_expr (pe_meth (pv 0) T.cl mC GC (hr.mono (by decide)) bC .nil (passes_call (takes_of rfl rfl rfl rfl) (fun _ _ _ _ h => h)) (pa_cons (pe_tup (pa_cons pe_str (pa_cons (pv 1) pa_nil))) pa_nil)))
      (pss_cons (ps_expr (pe_meth (pv 0) T.cl mN GN (hr.mono (by decide)) bN .nil pass0 (pa_cons (pe_tup (pa_cons pe_str (pa_cons (pv 1) pa_nil))) pa_nil)))
      (pss_cons (ps_expr (pe_meth (pe_fld (pv 0) rfl) TW.cl mB GB (hr.mono (by decide)) bB .nil pass0 (pa_cons (pv 1) pa_nil)))
      (pss_one (ps_ret (pe_meth (pv 0) T.cl mE GE hr bE .nil pass0 (pa_cons (pv 1) pa_nil)))))), ?_⟩
    refine ⟨_, rfl, M, dx, _, rfl, X.o.eM, mf_no T0 W0 lg ov op wd (by decide +kernel), _, rfl, (by show 2 ≤ sizeLine; decide), fun a ha => ?_⟩
    have sa := same_upd (o := .tup [V.str "abort", V.int t]) ha
    refine ⟨M, a, .ab t, H0, S, n, rfl, upd_same, ⟨_, _, _, _, _, _, _, _, _, _, X.same sa⟩, fun z H' d y s1 e => kE z H' d y (sa.trans s1) e, fun nr H1 s1 => ?_⟩
    have k := kS nr
    have X1 := X.same (sa.trans s1)
    refine ⟨_, rfl, M, dx, _, rfl, X1.o.eM, mf_no T0 W0 lg ov op wd (by decide +kernel), _, rfl, (by show 2 ≤ sizeLine; decide), fun a2 ha2 => ?_⟩
    have sa2 := same_upd (o := .tup [V.str "abort", V.int t]) ha2
    refine ⟨M, a2, .ab t, H0, S, n, rfl, upd_same, ⟨_, _, _, _, _, _, _, _, _, _, X1.same sa2⟩, by omega, fun H2 X2 t2 => ?_⟩
    obtain ⟨τT2, τW2, τM2, T2, W2, dx2, lg2, ov2, op2, wd2, X2⟩ := X2
    obtain ⟨dxW, am, su, bf, sl, kb, db, XW⟩ := X2.work
    refine ⟨_, rfl, M, CM, dx2, _, _, rfl, X2.o.eM, T.cl, T.nW, mf_w T2 W2 lg2 ov2 op2 wd2, W2, dxW, _, rfl, XW.eW, wf_no am su bf sl (by decide +kernel) (by decide +kernel) (by decide +kernel) (by decide +kernel), _, rfl, W2, t, _, τW2, _, n + 1, rfl, X2.work.base, by omega, fun H3 Xw => ?_⟩
    have X3 := (X2.mono (Nat.le_succ (n + 1))).setWork Xw rfl rfl rfl rfl
    refine ⟨_, rfl, M, dx2, _, rfl, X3.o.eM, mf_no T2 W2 lg2 ov2 op2 wd2 (by decide +kernel), _, rfl, M, t, H0, _, n + 2, rfl, ⟨_, _, _, _, _, _, _, _, _, _, X3⟩, by omega, qok, fun H5 lk' p ys X5 rel ep => ?_⟩
    exact k H5 _ none _ (.abort nr rel) X5 ⟨fun z => (by cases z), fun _ => ⟨p, ys, rfl, ep⟩⟩
end
end K61
set_option Elab.async false
set_option linter.all false
set_option maxRecDepth 100000
set_option maxHeartbeats 4000000
namespace K61
open PySem PySem.Spec PyProof.Rows L2
theorem frUpd {τ : Lbl} {H : Hp} {c : Addr} {o o' : HO} (n : τ c = none) (e : H c = some o) (m : MutO o) : Fr τ H (upd H c o') := fun b u h q => by
  refine (upd_ne (fun z => ?_)).trans h
  subst z
  rcases q with ⟨r, q⟩ | q
  · rw [n] at q; cases q
  · rw [e] at h
    exact q (Option.some.inj h ▸ m)
section
variable {P : Program} {w : World} {K : PySem.W.Frag} {mg : Str → Option Value} {base : Heap} {f CM CT CW CE fE dM : Addr} {fd : FuncData}
/-! ### t in manager -/
def spIn (CM CT CW : Addr) : Sp := fun vs H Q _ => ∃ (M : Addr) (t : Int) (H0 : Hp) (s : St) (n : Nat), vs = [.ref M, .int t] ∧ MgrAt CM CT CW H0 H M s n ∧ Q (.bl (decide (t ∈ s.opn ∧ t ∉ s.over))) H
theorem scIn : FnScope ["self", "t"] ["self", "t"] (defScope (sMg 16)) := ⟨rfl, rfl, rfl, by decide +kernel, rfl, by decide +kernel, by decide +kernel⟩
theorem ok_in (F : FnP K "__contains__" "Manager.__contains__" (sMg 16) f fd) (T : TxM K CM) : FnOk P w K mg base CX0 1 f fd ["self", "t"] (spIn CM CT CW) := by
  refine F.ok scIn (fun vs H Q E h => ?_) (fun cdv A outer s H vs Q E hr h => ?_)
  · obtain ⟨M, t, H0, S, n, rfl, _⟩ := h
    rfl
  · obtain ⟨M, t, H0, S, n, rfl, ⟨τT, τW, τM, T0, W0, dx, lg, ov, op, wd, X⟩, k⟩ := h
    refine ⟨_, PSs.nox (pss_one (ps_ret (pe_and (pe_cmpR op_in_seq (pv 1) (pe_fld (pv 0) rfl) (by rfl)) (pe_one (pe_cmpR op_notIn_seq (pv 1) (pe_fld (pv 0) rfl) (by rfl)))))), ?_⟩
    refine ⟨_, rfl, _, rfl, M, CM, dx, _, _, rfl, X.o.eM, T.cl, T.nP, mf_p T0 W0 lg ov op wd, op, _, rfl, .inl (SqL.of X.o.eop), rfl, flat_int _, _, rfl, ?_⟩
    rw [inV_int]
    refine iteDec (fun c1 => ?_) (fun c1 => ?_)
    · refine ⟨_, rfl, _, rfl, M, CM, dx, _, _, rfl, X.o.eM, T.cl, T.nO, mf_o T0 W0 lg ov op wd, ov, _, rfl, .inl (SqL.of X.o.eov), rfl, flat_int _, ?_⟩
      rw [inV_int]
      have e : (!decide (t ∈ S.over)) = decide (t ∈ S.opn ∧ t ∉ S.over) := by
        by_cases z : t ∈ S.over
        · rw [decide_eq_true z, decide_eq_false fun q => q.2 z]
          rfl
        · rw [decide_eq_false z, decide_eq_true ⟨c1, z⟩]
          rfl
      rw [e]
      exact k
    · have e : decide (t ∈ S.opn ∧ t ∉ S.over) = false := decide_eq_false fun q => c1 q.1
      rw [e] at k
      exact k
/-! ### deadlock -/
def spDeadM (CM CT CW : Addr) : Sp := fun vs H Q _ => ∃ (M : Addr) (H0 : Hp) (s : St) (n : Nat), vs = [.ref M] ∧ MgrAt CM CT CW H0 H M s n ∧ (∀ i, (s.lk i).q = []) ∧ ∀ H', Same H H' → Q .non H'
theorem scDeadM : FnScope ["self"] ["self"] (defScope (sMg 5)) := ⟨rfl, rfl, rfl, by decide +kernel, rfl, by decide +kernel, by decide +kernel⟩
theorem ok_deadM (F : FnP K "deadlock" "Manager.deadlock" (sMg 5) f fd) (T : TxM K CM) (TT : TxT K CT) (GD : MFn P w K mg base CX0 11 CT "deadlock" ["self"] (spDead CT)) : FnOk P w K mg base CX0 12 f fd ["self"] (spDeadM CM CT CW) := by
  obtain ⟨fD, fdD, mD, bD, GD⟩ := GD
  refine F.ok scDeadM (fun vs H Q E h => ?_) (fun cdv A outer s H vs Q E hr h => ?_)
  · obtain ⟨M, H0, S, n, rfl, _⟩ := h
    rfl
  · obtain ⟨M, H0, S, n, rfl, ⟨τT, τW, τM, T0, W0, dx, lg, ov, op, wd, X⟩, q0, k⟩ := h
    obtain ⟨dxT, ha, qa, da, la, kn, XT⟩ := X.tab
    refine ⟨_, PSs.nox (pss_one (ps_ret (pe_meth0 (pe_fld (pv 0) rfl) TT.cl mD GD hr bD .nil pass0))), ?_⟩
    exact ⟨_, rfl, M, CM, dx, _, _, rfl, X.o.eM, T.cl, T.nT, mf_t T0 W0 lg ov op wd, T0, dxT, _, rfl, XT.eT, tf_no ha qa (by decide +kernel) (by decide +kernel), T0, H0, τT, S.lk, n, rfl, X.tab, q0, k⟩
/-! ### history, contents -/
def spHist (CM CT CW : Addr) : Sp := fun vs H Q _ => ∃ (M : Addr) (H0 : Hp) (s : St) (n : Nat), vs = [.ref M] ∧ MgrAt CM CT CW H0 H M s n ∧ ∀ H' p xs, Same H H' → H p = none → H' p = some (.lst xs) → OpsV H' xs s.sched → Q (.ref p) H'
theorem scHist : FnScope ["self"] ["self"] (defScope (sMg 1)) := ⟨rfl, rfl, rfl, by decide +kernel, rfl, by decide +kernel, by decide +kernel⟩
theorem ok_hist (F : FnP K "history" "Manager.history" (sMg 1) f fd) (T : TxM K CM) (TW : TxW K CW) (mL : mg "list" = none) : FnOk P w K mg base CX0 1 f fd ["self"] (spHist CM CT CW) := by
  refine F.ok scHist (fun vs H Q E h => ?_) (fun cdv A outer s H vs Q E hr h => ?_)
  · obtain ⟨M, H0, S, n, rfl, _⟩ := h
    rfl
  · obtain ⟨M, H0, S, n, rfl, ⟨τT, τW, τM, T0, W0, dx, lg, ov, op, wd, X⟩, k⟩ := h
    obtain ⟨dxW, am, su, bf, sl, kb, db, XW⟩ := X.work
    obtain ⟨xs, el, rl⟩ := XW.el
    refine ⟨_, PSs.nox (pss_one (ps_ret (pe_callTy call_list_of (by rfl) mL (by decide +kernel) (pa_cons (pe_fld (pe_fld (pv 0) rfl) rfl) pa_nil)))), ?_⟩
    refine ⟨_, rfl, M, CM, dx, _, _, rfl, X.o.eM, T.cl, T.nW, mf_w T0 W0 lg ov op wd, W0, CW, dxW, _, _, rfl, XW.eW, TW.cl, TW.nL, wf_l am su bf sl, sl, xs, rfl, .inl (SqL.of el), fun l hl => ?_⟩
    exact k _ l xs (same_upd hl) hl upd_same (rl.same (same_upd hl))
def spCont (CM CT CW : Addr) : Sp := fun vs H Q _ => ∃ (M : Addr) (H0 : Hp) (s : St) (n : Nat), vs = [.ref M] ∧ MgrAt CM CT CW H0 H M s n ∧ ∀ H' p ys, Same H H' → H p = none → H' p = some (.lst ys) → Paired (PairV H') ys (told s.amt) → Q (.ref p) H'
theorem scCont : FnScope ["self"] ["self"] (defScope (sMg 3)) := ⟨rfl, rfl, rfl, by decide +kernel, rfl, by decide +kernel, by decide +kernel⟩
theorem ok_cont (F : FnP K "contents" "Manager.contents" (sMg 3) f fd) (T : TxM K CM) (TW : TxW K CW) (GT : GFn P w K mg base CX0 1 "told_values" ["values"] spTold) : FnOk P w K mg base CX0 2 f fd ["self"] (spCont CM CT CW) := by
  obtain ⟨fT, fdT, mT, kT, bT, GT⟩ := GT
  refine F.ok scCont (fun vs H Q E h => ?_) (fun cdv A outer s H vs Q E hr h => ?_)
  · obtain ⟨M, H0, S, n, rfl, _⟩ := h
    rfl
  · obtain ⟨M, H0, S, n, rfl, ⟨τT, τW, τM, T0, W0, dx, lg, ov, op, wd, X⟩, k⟩ := h
    obtain ⟨dxW, am, su, bf, sl, kb, db, XW⟩ := X.work
    obtain ⟨A0, ea, ra⟩ := XW.ea
    refine ⟨_, PSs.nox (pss_one (ps_ret (pe_call GT hr rfl mT kT bT .nil pass0 (pa_cons (pe_fld (pe_fld (pv 0) rfl) rfl) pa_nil)))), ?_⟩
    exact ⟨_, rfl, M, CM, dx, _, _, rfl, X.o.eM, T.cl, T.nW, mf_w T0 W0 lg ov op wd, W0, CW, dxW, _, _, rfl, XW.eW, TW.cl, TW.nA, wf_a am su bf sl, am, A0, S.amt, rfl, ea, ra, k⟩
/-! ### Manager() -/
def spMI (CM CT CW : Addr) : Sp := fun vs H Q _ => ∃ (p dx : Addr) (H0 : Hp), vs = [.ref p] ∧ H p = some (.ins CM dx []) ∧ Same H0 H ∧ H0 p = none ∧ ∀ H', MgrAt CM CT CW H0 H' p St.new 0 → Q .non H'
theorem scMI : FnScope ["self"] ["self"] (defScope (sMg 0)) := ⟨rfl, rfl, rfl, by decide +kernel, rfl, by decide +kernel, by decide +kernel⟩
/-- the manager in the making -/
structure Mki (CM CT CW : Addr) (H0 H : Hp) (τT τW : Lbl) (p x y dx : Addr) (fs : List (Str × V)) : Prop where
  eP : H p = some (.ins CM dx fs)
  h0 : H0 p = none
  tab : TabAt CT H0 H τT x (fun _ => LI.nil) 0
  work : WorkAt CW H0 H τW y St.new 0
  nT : τT p = none
  nW : τW p = none
theorem Mki.alloc {H0 H : Hp} {τT τW : Lbl} {p x y dx a : Addr} {fs : List (Str × V)} {o : HO} (m : Mki CM CT CW H0 H τT τW p x y dx fs) (h : H a = none) : Mki CM CT CW H0 (upd H a o) τT τW p x y dx fs where
  eP := same_upd h _ _ m.eP
  h0 := m.h0
  tab := m.tab.fr (m.tab.own.sub.trans (same_upd h)) fun b u e _ => same_upd h _ _ e
  work := m.work.fr (m.tab.own.sub.trans (same_upd h)) fun b u e _ => same_upd h _ _ e
  nT := m.nT
  nW := m.nW
theorem Mki.store {H0 H : Hp} {τT τW : Lbl} {p x y dx : Addr} {fs fs' : List (Str × V)} (m : Mki CM CT CW H0 H τT τW p x y dx fs) : Mki CM CT CW H0 (upd H p (.ins CM dx fs')) τT τW p x y dx fs' where
  eP := upd_same
  h0 := m.h0
  tab := m.tab.fr (fun b u e => by rw [upd_ne (fun z => by rw [z, m.h0] at e; cases e)]; exact m.tab.own.sub b u e) (frUpd m.nT m.eP True.intro)
  work := m.work.fr (fun b u e => by rw [upd_ne (fun z => by rw [z, m.h0] at e; cases e)]; exact m.tab.own.sub b u e) (frUpd m.nW m.eP True.intro)
  nT := m.nT
  nW := m.nW
theorem mf_put (T W lg ov op wd : Addr) : putF "_waited" (V.ref wd) (putF "_open" (V.ref op) (putF "_over" (V.ref ov) (putF "_log" (V.ref lg) (putF "_work" (V.ref W) (putF "_table" (V.ref T) []))))) = mf T W lg ov op wd := by
  have ne : ∀ a b : Str, (a == b) = false → ¬ a = b := fun a b h z => by rw [z] at h; simp at h
  simp only [putF, if_neg (ne "_table" "_work" (by decide +kernel)), if_neg (ne "_table" "_log" (by decide +kernel)), if_neg (ne "_table" "_over" (by decide +kernel)), if_neg (ne "_table" "_open" (by decide +kernel)), if_neg (ne "_table" "_waited" (by decide +kernel)),
    if_neg (ne "_work" "_log" (by decide +kernel)), if_neg (ne "_work" "_over" (by decide +kernel)), if_neg (ne "_work" "_open" (by decide +kernel)), if_neg (ne "_work" "_waited" (by decide +kernel)),
    if_neg (ne "_log" "_over" (by decide +kernel)), if_neg (ne "_log" "_open" (by decide +kernel)), if_neg (ne "_log" "_waited" (by decide +kernel)), if_neg (ne "_over" "_open" (by decide +kernel)), if_neg (ne "_over" "_waited" (by decide +kernel)), if_neg (ne "_open" "_waited" (by decide +kernel))]
  rfl
theorem ok_MI {fT fW : Addr} (F : FnP K "__init__" "Manager.__init__" (sMg 0) f fd) (T : TxM K CM) (MT : Mk K CT fT) (gT : mg "LockTable" = some (.ref CT)) (MW : Mk K CW fW) (gW : mg "Work" = some (.ref CW))
    {fdT fdW : FuncData} (GT : FnOk P w K mg base CX0 1 fT fdT ["self"] (spTI CT)) (bT : Binds K fdT ["self"] []) (GW : FnOk P w K mg base CX0 1 fW fdW ["self"] (spWI CW)) (bW : Binds K fdW ["self"] []) : FnOk P w K mg base CX0 3 f fd ["self"] (spMI CM CT CW) := by
  refine F.ok scMI (fun vs H Q E h => ?_) (fun cdv A outer s H vs Q E hr h => ?_)
  · obtain ⟨p, dx, H0, rfl, _⟩ := h
    rfl
  · obtain ⟨p, dx, H0, rfl, hp, s0, h0, k⟩ := h
    refine ⟨_, PSs.nox (pss_cons (ps_fld (pv 0) (pe_make0 MT GT hr rfl gT bT .nil pass0) rfl) (pss_cons (ps_fld (pv 0) (pe_make0 MW GW hr rfl gW bW .nil pass0) rfl)
      (pss_cons (ps_fld (pv 0) (pe_lst pa_nil) rfl) (pss_cons (ps_fld (pv 0) (pe_lst pa_nil) rfl) (pss_cons (ps_fld (pv 0) (pe_lst pa_nil) rfl) (pss_one (ps_fld (pv 0) pe_dnewK rfl))))))), ?_⟩
    -- self._table = LockTable()
    intro x dx1 nx ndx nex
    have hb0 : upd H dx1 (.own x) x = none := by rw [upd_ne nex.symm]; exact nx
    refine ⟨x, dx1, upd H dx1 (.own x), rfl, upd_same, same_upd hb0, hb0, fun H1 τT XT => ⟨rfl, ?_⟩⟩
    have sT := s0.trans (same_upd (o := .own x) ndx)
    have bp := same_upd (o := .own x) ndx _ _ hp
    have e1 : H1 p = some (.ins CM dx []) := XT.own.sub _ _ bp
    have nTp : τT p = none := by
      cases z : τT p with
      | none => rfl
      | some r => rw [XT.own.off p r z] at bp; cases bp
    have XT0 := XT.weak sT
    refine ⟨_, rfl, p, CM, dx, [], rfl, e1, T.cl, T.nT, (by show 0 < 1000; decide), ?_⟩
    have XT2 : TabAt CT H0 (upd H1 p (.ins CM dx (putF "_table" (V.ref x) []))) τT x (fun _ => LI.nil) 0 := XT0.fr (fun b u e => by rw [upd_ne (fun z => by rw [z, h0] at e; cases e)]; exact XT0.own.sub b u e) (frUpd nTp e1 True.intro)
    generalize hH2 : upd H1 p (.ins CM dx (putF "_table" (V.ref x) [])) = H2 at XT2
    have e2 : H2 p = some (.ins CM dx (putF "_table" (V.ref x) [])) := by rw [← hH2, upd_same]
    -- self._work = Work()
    intro y dx2 ny ndy ney
    have hb1 : upd H2 dx2 (.own y) y = none := by rw [upd_ne ney.symm]; exact ny
    refine ⟨y, dx2, upd H2 dx2 (.own y), rfl, upd_same, same_upd hb1, hb1, fun H3 τW XW => ⟨rfl, ?_⟩⟩
    have s23 : Same H2 H3 := (same_upd ndy).trans XW.own.sub
    have bp2 := same_upd (o := .own y) ndy _ _ e2
    have e3 := XW.own.sub _ _ bp2
    have nWp : τW p = none := by
      cases z : τW p with
      | none => rfl
      | some r => rw [XW.own.off p r z] at bp2; cases bp2
    have m3 : Mki CM CT CW H0 H3 τT τW p x y dx (putF "_table" (V.ref x) []) := ⟨e3, h0, XT2.fr (XT2.own.sub.trans s23) (fun b u e _ => s23 _ _ e), XW.weak (XT2.own.sub.trans (same_upd ndy)), nTp, nWp⟩
    have dTW : Dis τT τW := fun b r z => by
      obtain ⟨o, ho, _⟩ := XT2.own.on b r z
      have q := same_upd (o := .own y) ndy _ _ ho
      cases z2 : τW b with
      | none => rfl
      | some r2 => rw [XW.own.off b r2 z2] at q; cases q
    refine ⟨_, rfl, p, CM, dx, _, rfl, m3.eP, T.cl, T.nW, putF_lt (by show 0 < 999; decide), ?_⟩
    have m4 := m3.store (fs' := putF "_work" (V.ref y) (putF "_table" (V.ref x) []))
    generalize upd H3 p (.ins CM dx (putF "_work" (V.ref y) (putF "_table" (V.ref x) []))) = H4 at m4 ⊢
    refine ⟨Nat.zero_le _, fun lg hlg => ?_⟩
    have a5 := m4.alloc (o := .lst []) hlg
    have plg : p ≠ lg := ne_of_none m4.eP hlg
    refine ⟨_, rfl, p, CM, dx, _, rfl, a5.eP, T.cl, T.nL, putF_lt (putF_lt (by show 0 < 998; decide)), ?_⟩
    have m5 := a5.store (fs' := putF "_log" (V.ref lg) (putF "_work" (V.ref y) (putF "_table" (V.ref x) [])))
    have el5 : upd (upd H4 lg (.lst [])) p (.ins CM dx (putF "_log" (V.ref lg) (putF "_work" (V.ref y) (putF "_table" (V.ref x) [])))) lg = some (.lst []) := by rw [upd_ne plg.symm, upd_same]
    generalize upd (upd H4 lg (.lst [])) p (.ins CM dx (putF "_log" (V.ref lg) (putF "_work" (V.ref y) (putF "_table" (V.ref x) [])))) = H5 at m5 el5 ⊢
    refine ⟨Nat.zero_le _, fun ov hov => ?_⟩
    have a6 := m5.alloc (o := .lst []) hov
    have pov : p ≠ ov := ne_of_none m5.eP hov
    have lgov : lg ≠ ov := ne_of_none el5 hov
    refine ⟨_, rfl, p, CM, dx, _, rfl, a6.eP, T.cl, T.nO, putF_lt (putF_lt (putF_lt (by show 0 < 997; decide))), ?_⟩
    have m6 := a6.store (fs' := putF "_over" (V.ref ov) (putF "_log" (V.ref lg) (putF "_work" (V.ref y) (putF "_table" (V.ref x) []))))
    have eo6 : upd (upd H5 ov (.lst [])) p (.ins CM dx (putF "_over" (V.ref ov) (putF "_log" (V.ref lg) (putF "_work" (V.ref y) (putF "_table" (V.ref x) []))))) ov = some (.lst []) := by rw [upd_ne pov.symm, upd_same]
    have el6 : upd (upd H5 ov (.lst [])) p (.ins CM dx (putF "_over" (V.ref ov) (putF "_log" (V.ref lg) (putF "_work" (V.ref y) (putF "_table" (V.ref x) []))))) lg = some (.lst []) := by rw [upd_ne plg.symm, upd_ne lgov]; exact el5
    generalize upd (upd H5 ov (.lst [])) p (.ins CM dx (putF "_over" (V.ref ov) (putF "_log" (V.ref lg) (putF "_work" (V.ref y) (putF "_table" (V.ref x) []))))) = H6 at m6 eo6 el6 ⊢
    refine ⟨Nat.zero_le _, fun op hop => ?_⟩
    have a7 := m6.alloc (o := .lst []) hop
    have pop : p ≠ op := ne_of_none m6.eP hop
    have lgop : lg ≠ op := ne_of_none el6 hop
    have ovop : ov ≠ op := ne_of_none eo6 hop
    refine ⟨_, rfl, p, CM, dx, _, rfl, a7.eP, T.cl, T.nP, putF_lt (putF_lt (putF_lt (putF_lt (by show 0 < 996; decide)))), ?_⟩
    have m7 := a7.store (fs' := putF "_open" (V.ref op) (putF "_over" (V.ref ov) (putF "_log" (V.ref lg) (putF "_work" (V.ref y) (putF "_table" (V.ref x) [])))))
    have ep7 : upd (upd H6 op (.lst [])) p (.ins CM dx (putF "_open" (V.ref op) (putF "_over" (V.ref ov) (putF "_log" (V.ref lg) (putF "_work" (V.ref y) (putF "_table" (V.ref x) [])))))) op = some (.lst []) := by rw [upd_ne pop.symm, upd_same]
    have eo7 : upd (upd H6 op (.lst [])) p (.ins CM dx (putF "_open" (V.ref op) (putF "_over" (V.ref ov) (putF "_log" (V.ref lg) (putF "_work" (V.ref y) (putF "_table" (V.ref x) [])))))) ov = some (.lst []) := by rw [upd_ne pov.symm, upd_ne ovop]; exact eo6
    have el7 : upd (upd H6 op (.lst [])) p (.ins CM dx (putF "_open" (V.ref op) (putF "_over" (V.ref ov) (putF "_log" (V.ref lg) (putF "_work" (V.ref y) (putF "_table" (V.ref x) [])))))) lg = some (.lst []) := by rw [upd_ne plg.symm, upd_ne lgop]; exact el6
    generalize upd (upd H6 op (.lst [])) p (.ins CM dx (putF "_open" (V.ref op) (putF "_over" (V.ref ov) (putF "_log" (V.ref lg) (putF "_work" (V.ref y) (putF "_table" (V.ref x) [])))))) = H7 at m7 ep7 eo7 el7 ⊢
    intro wd hwd
    have a8 := m7.alloc (o := .dK []) hwd
    have pwd : p ≠ wd := ne_of_none m7.eP hwd
    have lgwd : lg ≠ wd := ne_of_none el7 hwd
    have ovwd : ov ≠ wd := ne_of_none eo7 hwd
    have opwd : op ≠ wd := ne_of_none ep7 hwd
    refine ⟨_, rfl, p, CM, dx, _, rfl, a8.eP, T.cl, T.nD, putF_lt (putF_lt (putF_lt (putF_lt (putF_lt (by show 0 < 995; decide))))), ?_⟩
    rw [mf_put]
    have m8 := a8.store (fs' := mf x y lg ov op wd)
    have ed8 : upd (upd H7 wd (.dK [])) p (.ins CM dx (mf x y lg ov op wd)) wd = some (.dK []) := by rw [upd_ne pwd.symm, upd_same]
    have ep8 : upd (upd H7 wd (.dK [])) p (.ins CM dx (mf x y lg ov op wd)) op = some (.lst []) := by rw [upd_ne pop.symm, upd_ne opwd]; exact ep7
    have eo8 : upd (upd H7 wd (.dK [])) p (.ins CM dx (mf x y lg ov op wd)) ov = some (.lst []) := by rw [upd_ne pov.symm, upd_ne ovwd]; exact eo7
    have el8 : upd (upd H7 wd (.dK [])) p (.ins CM dx (mf x y lg ov op wd)) lg = some (.lst []) := by rw [upd_ne plg.symm, upd_ne lgwd]; exact el7
    generalize upd (upd H7 wd (.dK [])) p (.ins CM dx (mf x y lg ov op wd)) = H8 at m8 ed8 ep8 eo8 el8 ⊢
    have fl : H0 lg = none := m4.tab.own.sub.free hlg
    have fo : H0 ov = none := m5.tab.own.sub.free hov
    have fp : H0 op = none := m6.tab.own.sub.free hop
    have fw : H0 wd = none := m7.tab.own.sub.free hwd
    have dis : ∀ τ : Lbl, τ p = none → τ lg = none → τ ov = none → τ op = none → τ wd = none → Dis τ (fput (fput (fput (fput (fput (fun _ => none) p (some .obj)) lg (some .l1)) ov (some .l2)) op (some .l3)) wd (some .d1)) := fun τ h1 h2 h3 h4 h5 b r e => by
      have ne : ∀ c, τ c = none → b ≠ c := fun c hc z => by rw [z, hc] at e; cases e
      rw [fput_ne (ne _ h5), fput_ne (ne _ h4), fput_ne (ne _ h3), fput_ne (ne _ h2), fput_ne (ne _ h1)]
    refine k H8 ⟨τT, τW, fput (fput (fput (fput (fput (fun _ => none) p (some .obj)) lg (some .l1)) ov (some .l2)) op (some .l3)) wd (some .d1), x, y, dx, lg, ov, op, wd, ?_⟩
    refine { tab := m8.tab, work := m8.work, o := ?_, dTW := dTW, dTM := dis τT nTp (m4.tab.own.new hlg) (m5.tab.own.new hov) (m6.tab.own.new hop) (m7.tab.own.new hwd), dWM := dis τW nWp (m4.work.own.new hlg) (m5.work.own.new hov) (m6.work.own.new hop) (m7.work.own.new hwd) }
    refine { own := ⟨m8.tab.own.sub, fun b r hb => ?_, fun b r hb => ?_⟩, eM := m8.eP, rM := ?_, elg := ⟨[], el8, Nat.zero_le _⟩, rlg := ?_, eov := eo8, rov := ?_, eop := ep8, rop := ?_, ewd := ⟨[], ed8, WtdRep.nil H8, Nat.zero_le _⟩, rwd := fput_same, lov := Nat.zero_le _, lop := Nat.zero_le _ }
    · by_cases z : b = wd
      · rw [z]; exact fw
      rw [fput_ne z] at hb
      by_cases z : b = op
      · rw [z]; exact fp
      rw [fput_ne z] at hb
      by_cases z : b = ov
      · rw [z]; exact fo
      rw [fput_ne z] at hb
      by_cases z : b = lg
      · rw [z]; exact fl
      rw [fput_ne z] at hb
      by_cases z : b = p
      · rw [z]; exact h0
      rw [fput_ne z] at hb
      cases hb
    · by_cases z : b = wd
      · rw [z]; exact ⟨_, ed8, True.intro⟩
      rw [fput_ne z] at hb
      by_cases z : b = op
      · rw [z]; exact ⟨_, ep8, True.intro⟩
      rw [fput_ne z] at hb
      by_cases z : b = ov
      · rw [z]; exact ⟨_, eo8, True.intro⟩
      rw [fput_ne z] at hb
      by_cases z : b = lg
      · rw [z]; exact ⟨_, el8, True.intro⟩
      rw [fput_ne z] at hb
      by_cases z : b = p
      · rw [z]; exact ⟨_, m8.eP, True.intro⟩
      rw [fput_ne z] at hb
      cases hb
    · rw [fput_ne pwd, fput_ne pop, fput_ne pov, fput_ne plg, fput_same]
    · rw [fput_ne lgwd, fput_ne lgop, fput_ne lgov, fput_same]
    · rw [fput_ne ovwd, fput_ne ovop, fput_same]
    · rw [fput_ne opwd, fput_same]
end
end K61
set_option Elab.async false
set_option linter.all false
set_option maxRecDepth 100000
set_option maxHeartbeats 4000000
/-! The law's own defs: _law_cell, _law_draw. -/
namespace K61
open PySem PySem.Spec PyProof.Rows L2
section
variable {P : Program} {w : World} {K : PySem.W.Frag} {mg : Str → Option Value} {base : Heap} {f CM CT CW CE fE dM : Addr} {fd : FuncData}
def spCellX (K : PySem.W.Frag) : Sp := fun vs H Q _ => ∃ (a : Addr) (ns : List Int) (k : Nat), vs = [.ref a, .int (k : Int)] ∧ SqL K H a (ns.map V.int) ∧ ∀ n, Q (.int n) H
theorem scCell : FnScope ["_law_script", "_law_k"] ["_law_script", "_law_k"] (defScope sCell) := ⟨rfl, rfl, rfl, by decide +kernel, rfl, by decide +kernel, by decide +kernel⟩
theorem ok_cell (F : FnP K "_law_cell" "_law_cell" sCell f fd) (mL : mg "len" = none) : FnOk P w K mg base CX0 1 f fd ["_law_script", "_law_k"] (spCellX K) := by
  refine F.ok scCell (fun vs H Q E h => ?_) (fun cdv A outer s H vs Q E hr h => ?_)
  · obtain ⟨a, ns, k, rfl, _⟩ := h
    rfl
  · obtain ⟨a, ns, k, rfl, hS, q⟩ := h
    refine ⟨_, PSs.nox (pss_cons (ps_if (pt_cmpR op_lt (pv 1) (pe_callB call_len (by rfl) mL PySem.boot_len (pa_cons (pv 0) pa_nil)) (nomark _)) (pss_one (ps_ret (pe_ix (r := rIxL K) ix_list (pv 0) (pv 1) (fun _ _ => rfl)))) pss_nil) (pss_one (ps_ret pe_int))), ?_⟩
    refine ⟨_, rfl, _, rfl, _, _, rfl, .inl ⟨_, hS, rfl⟩, _, _, rfl, rfl, _, rfl, ?_⟩
    refine iteDec (fun c => ?_) (fun c => q 0)
    rw [List.length_map] at c
    have hk : k < ns.length := by exact_mod_cast c
    refine ⟨_, rfl, _, rfl, _, _, _, _, rfl, rfl, hS, at_of (j := k) (v := .int (ns[k])) rfl ?_, q _⟩
    rw [List.getElem?_map, List.getElem?_eq_getElem hk]
    rfl
/-- a digit each -/
def Dig (d s : Int) : Prop := 0 ≤ d ∧ d < s
def spDraw (K : PySem.W.Frag) : Sp := fun vs H Q _ => ∃ (a b : Addr) (ns ss : List Int) (k : Nat), vs = [.ref a, .int (k : Int), .ref b] ∧ SqL K H a (ns.map V.int) ∧ H b = some (.lst (ss.map V.int)) ∧ (∀ x ∈ ss, 1 ≤ x ∧ x < 1000) ∧ ss.length ≤ 1000 ∧
  ∀ H' p ds, Same H H' → H p = none → H' p = some (.lst (ds.map V.int)) → Paired Dig ds ss → Q (.ref p) H'
theorem scDraw : FnScope ["_law_script", "_law_k", "_law_sizes", "_law_cell_here", "_law_drawn", "_law_size", "_law_mixed", "_law_j"] ["_law_script", "_law_k", "_law_sizes"] (defScope sDraw) := ⟨rfl, rfl, rfl, by decide +kernel, rfl, by decide +kernel, by decide +kernel⟩
theorem ok_draw (F : FnP K "_law_draw" "_law_draw" sDraw f fd) (GC : GFn P w K mg base CX0 1 "_law_cell" ["_law_script", "_law_k"] (spCellX K)) (mL : mg "len" = none) (mR : mg "range" = none) : FnOk P w K mg base CX0 2 f fd ["_law_script", "_law_k", "_law_sizes"] (spDraw K) := by
  obtain ⟨fC, fdC, mC, kC, bC, GC⟩ := GC
  refine F.ok scDraw (fun vs H Q E h => ?_) (fun cdv A outer s H vs Q E hr h => ?_)
  · obtain ⟨a, b, ns, ss, k, rfl, _⟩ := h
    rfl
  · obtain ⟨a, b, ns, ss, k, rfl, hS, eb, hss, hl, q⟩ := h
    refine ⟨_, PSs.nox (pss_cons (ps_set (i := 3) scDraw.nd rfl (Or.inl rfl) (pe_call GC hr rfl mC kC bC .nil pass0 (pa_cons (pv 0) (pa_cons (pv 1) pa_nil))))
      (C8.pss_cut (ps_if (pt_cmpR op_lt (pv 3) pe_int (nomark _)) (pss_one (ps_set (i := 3) scDraw.nd rfl (Or.inl rfl) (pe_un un_neg (pv 3)))) pss_nil)
      (pss_cons (ps_set (i := 4) scDraw.nd rfl (Or.inl rfl) (pe_lst pa_nil))
      (pss_cons (ps_if (pt_cmpR op_ge (pv 3) (pe_op op_pow pe_int pe_int) (nomark _))
        (pss_cons (ps_set (i := 3) scDraw.nd rfl (Or.inl rfl) (pe_op op_sub (pv 3) (pe_op op_pow pe_int pe_int)))
          (pss_cons (ps_for PassesOwn.never rfl (pi_list (pv 2)) (pg_name (i := 5) scDraw.nd rfl (Or.inl rfl))
            (pss_cons (ps_expr (pe_bm PySem.F.plainAttrs_list PySem.F.slot_list_append PySem.F.type_list_append mt_append (pv 4) (pa_cons (pe_op op_mod (pv 3) (pv 5)) pa_nil)))
            (pss_one (ps_set (i := 3) scDraw.nd rfl (Or.inl rfl) (pe_op op_fdiv (pv 3) (pv 5))))))
          (pss_one (ps_ret (pv 4))))) pss_nil)
      (pss_cons (ps_set (i := 6) scDraw.nd rfl (Or.inl rfl) (pe_op op_mod (pe_op op_add (pe_op op_add (pv 3) pe_int) (pe_op op_mul pe_int (pv 1))) pe_int))
      (pss_cons (ps_for PassesOwn.never rfl (pi_range1 rfl mR (pa_cons (pe_callB call_len (by rfl) mL PySem.boot_len (pa_cons (pv 2) pa_nil)) pa_nil)) (pg_name (i := 7) scDraw.nd rfl (Or.inl rfl))
        (pss_cons (ps_set (i := 6) scDraw.nd rfl (Or.inl rfl) (pe_op op_mod (pe_op op_add (pe_op op_add (pe_op op_mul (pv 6) pe_int) pe_int) (pv 7)) pe_int))
        (pss_cons (ps_set (i := 6) scDraw.nd rfl (Or.inl rfl) (pe_op op_mod (pe_op op_add (pe_op op_mul (pv 6) pe_int) pe_int) pe_int))
        (pss_one (ps_expr (pe_bm PySem.F.plainAttrs_list PySem.F.slot_list_append PySem.F.type_list_append mt_append (pv 4) (pa_cons (pe_op op_mod (pe_op op_fdiv (pv 6) pe_int) (pe_ix (r := rIxL K) ix_list (pv 2) (pv 7) (fun _ _ => rfl))) pa_nil)))))))
      (pss_one (ps_ret (pv 4))))))))), ?_⟩
    have pw : CPow 10 18 := ⟨by decide, by decide, by decide⟩
    have dig : ∀ {z x : Int}, 1 ≤ x → Dig (z % x) x := fun {z x} h => ⟨Int.emod_nonneg z (by omega), Int.emod_lt_of_pos z (by omega)⟩
    refine ⟨_, rfl, _, rfl, a, ns, k, rfl, hS, fun n0 => ?_⟩
    refine ⟨fun σ H2 => H2 = H ∧ ∃ n : Int, σ = [some (.ref a), some (.int k), some (.ref b), some (.int n), none, none, none, none], ?_, ?_⟩
    · refine ⟨_, rfl, _, _, rfl, rfl, _, rfl, ?_⟩
      exact iteDec (fun c => ⟨_, rfl, _, rfl, rfl, _, rfl⟩) (fun c => ⟨rfl, _, rfl⟩)
    rintro σ H2 ⟨hh, n, rfl⟩
    have hh := hh.symm
    subst hh
    refine ⟨Nat.zero_le _, fun R hR => ?_⟩
    have sR := same_upd (o := .lst []) hR
    have ebR := sR _ _ eb
    refine ⟨_, rfl, 10, 18, rfl, rfl, pw, _, _, rfl, rfl, _, rfl, ?_⟩
    refine iteDec (fun c => ?_) (fun c => ?_)
    · refine ⟨_, rfl, 10, 18, rfl, rfl, pw, _, _, rfl, rfl, ?_⟩
      refine ⟨_, rfl, b, rfl, ⟨_, SqL.of ebR⟩, for_list (K := K) (a := b) (xs := ss.map V.int) (fun i σ H2 => ∃ (n : Int) (u : Option V) (ds : List Int), σ = [some (.ref a), some (.int k), some (.ref b), some (.int n), some (.ref R), u, none, none] ∧ Same H H2 ∧ H2 R = some (.lst (ds.map V.int)) ∧ Paired Dig ds (ss.take i))
        ⟨_, none, [], rfl, sR, upd_same, .nil⟩ (fun i σ H2 _ h => by obtain ⟨_, _, _, _, h, _⟩ := h; exact SqL.of (h _ _ eb)) ?_ ?_⟩
      · rintro i y σ H2 hi ⟨m, u, ds, rfl, s2, e2, pd⟩
        rw [List.getElem?_map] at hi
        obtain ⟨x, hx, rfl⟩ := Option.map_eq_some_iff.mp hi
        have xb := hss x (List.mem_of_getElem? hx)
        have dl : ds.length ≤ ss.length := by rw [pd.length]; exact List.length_take_le' _ _
        refine ⟨_, rfl, .inl ⟨rfl, _, SqL.of e2⟩, _, rfl, _, rfl, _, _, rfl, rfl, (by show 0 < x; omega), R, _, _, rfl, rfl, e2, lt_line (by rw [List.length_map]; omega), ?_⟩
        refine ⟨_, rfl, _, rfl, _, _, rfl, rfl, ⟨(by omega), (by omega)⟩, _, _, ds ++ [m % x], rfl, same_put s2 hR, by rw [upd_same, map_snoc], ?_⟩
        rw [take_more hx]
        exact pappend pd (.cons (dig xb.1) .nil)
      · rintro σ H2 ⟨m, u, ds, rfl, s2, e2, pd⟩
        rw [List.length_map, List.take_length] at pd
        exact ⟨_, rfl, q H2 R ds s2 hR e2 pd⟩
    · refine ⟨_, rfl, _, _, rfl, rfl, _, rfl, _, _, rfl, rfl, .inl ⟨by decide, by decide⟩, _, _, rfl, rfl, _, _, rfl, rfl, (by show (0 : Int) < 2147483647; decide), ?_⟩
      have mb : ∀ z : Int, 0 ≤ z % 2147483647 ∧ z % 2147483647 < 2147483647 := fun z => ⟨Int.emod_nonneg z (by decide), Int.emod_lt_of_pos z (by decide)⟩
      refine ⟨_, rfl, _, (ss.map V.int).length, rfl, .inl ⟨_, SqL.of ebR, rfl⟩, ((ss.map V.int).length : Int), rfl, by rw [List.length_map]; omega, by rw [List.length_map]; omega,
        for_range (n := (ss.map V.int).length) (fun i σ H2 => ∃ (m : Int) (u : Option V) (ds : List Int), σ = [some (.ref a), some (.int k), some (.ref b), some (.int n), some (.ref R), none, some (.int m), u] ∧ (0 ≤ m ∧ m < 2147483647) ∧ Same H H2 ∧ H2 R = some (.lst (ds.map V.int)) ∧ Paired Dig ds (ss.take i))
        ⟨_, none, [], rfl, mb _, sR, upd_same, .nil⟩ ?_ ?_⟩
      · rintro i σ H2 hi ⟨m, u, ds, rfl, mm, s2, e2, pd⟩
        rw [Int.zero_add]
        rw [List.length_map] at hi
        obtain ⟨x, hx⟩ : ∃ x, ss[i]? = some x := ⟨_, List.getElem?_eq_getElem hi⟩
        have xb := hss x (List.mem_of_getElem? hx)
        have dl : ds.length ≤ ss.length := by rw [pd.length]; exact List.length_take_le' _ _
        have hxv : (ss.map V.int)[i]? = some (.int x) := by rw [List.getElem?_map, hx]; rfl
        refine ⟨_, rfl, _, _, rfl, rfl, .inl ⟨by omega, by omega⟩, _, _, rfl, rfl, _, rfl, _, _, rfl, rfl, _, _, rfl, rfl, (by show (0 : Int) < 2147483647; decide), ?_⟩
        have m1 := mb (m * 48271 + 11 + i)
        refine ⟨_, rfl, _, _, rfl, rfl, .inl ⟨by omega, by omega⟩, _, _, rfl, rfl, _, _, rfl, rfl, (by show (0 : Int) < 2147483647; decide), ?_⟩
        refine ⟨_, rfl, .inl ⟨rfl, _, SqL.of e2⟩, _, rfl, _, _, rfl, rfl, ⟨by decide, by decide⟩, _, rfl, _, rfl, _, _, _, _, rfl, rfl, SqL.of (s2 _ _ eb), at_of rfl hxv, _, _, rfl, rfl, (by show 0 < x; omega), R, _, _, rfl, rfl, e2, lt_line (by rw [List.length_map]; omega), ?_⟩
        refine ⟨_, _, ds ++ [((m * 48271 + 11 + i) % 2147483647 * 69621 + 3) % 2147483647 / 7 % x], rfl, mb _, same_put s2 hR, by rw [upd_same, map_snoc], ?_⟩
        rw [take_more hx]
        exact pappend pd (.cons (dig xb.1) .nil)
      · rintro σ H2 ⟨m, u, ds, rfl, mm, s2, e2, pd⟩
        rw [List.length_map, List.take_length] at pd
        exact ⟨_, rfl, q H2 R ds s2 hR e2 pd⟩
end
end K61
set_option Elab.async false
set_option linter.all false
set_option maxRecDepth 100000
set_option maxHeartbeats 4000000
/-! _law_calls: some calls. -/
namespace K61
open PySem PySem.Spec PyProof.Rows L2
def CallV (H : Hp) (v : V) (c : Call) : Prop := ∃ a, v = V.ref a ∧ H a = some (.tup (callVs c))
theorem CallV.tk {H H' : Hp} {v : V} {c : Call} (h : CallV H v c) (s : TupKeep H H') : CallV H' v c := by
  obtain ⟨a, e, h⟩ := h
  exact ⟨a, e, s _ _ h⟩
theorem dig6 {ds : List Int} {a b c d e f : Int} (h : Paired Dig ds [a, b, c, d, e, f]) : ∃ d0 d1 d2 d3 d4 d5 : Int, ds = [d0, d1, d2, d3, d4, d5] ∧ Dig d0 a ∧ Dig d1 b ∧ Dig d2 c ∧ Dig d3 d ∧ Dig d4 e ∧ Dig d5 f := by
  cases h with
  | cons h0 h => cases h with
    | cons h1 h => cases h with
      | cons h2 h => cases h with
        | cons h3 h => cases h with
          | cons h4 h => cases h with
            | cons h5 h => cases h with
              | nil => exact ⟨_, _, _, _, _, _, rfl, h0, h1, h2, h3, h4, h5⟩
theorem xyz_at {d : Int} (h : Dig d 3) : ∃ (i : It) (c : Nat), atI ("xyz" : Str).cps.toList d = some c ∧ (⟨#[c]⟩ : Str) = i.s := by
  obtain ⟨h0, h1⟩ := h
  have : d = 0 ∨ d = 1 ∨ d = 2 := by omega
  rcases this with rfl | rfl | rfl
  · exact ⟨.x, 120, by decide +kernel, by decide +kernel⟩
  · exact ⟨.y, 121, by decide +kernel, by decide +kernel⟩
  · exact ⟨.z, 122, by decide +kernel, by decide +kernel⟩
theorem five_at {d : Int} (h : Dig d 5) (a b c x y : Int) : ∃ t : Int, atI [V.int a, V.int b, V.int c, V.int x, V.int y] d = some (V.int t) := by
  obtain ⟨h0, h1⟩ := h
  have : d = 0 ∨ d = 1 ∨ d = 2 ∨ d = 3 ∨ d = 4 := by omega
  rcases this with rfl | rfl | rfl | rfl | rfl
  · exact ⟨a, rfl⟩
  · exact ⟨b, rfl⟩
  · exact ⟨c, rfl⟩
  · exact ⟨x, rfl⟩
  · exact ⟨y, rfl⟩
theorem two_at {d : Int} (h : d = 0 ∨ d = 1) {α : Type} (a b : α) : ∃ u, atI [a, b] d = some u ∧ (u = a ∨ u = b) := by
  rcases h with rfl | rfl
  · exact ⟨a, rfl, .inl rfl⟩
  · exact ⟨b, rfl, .inr rfl⟩
section
variable {P : Program} {w : World} {K : PySem.W.Frag} {mg : Str → Option Value} {base : Heap} {f CM CT CW CE fE dM : Addr} {fd : FuncData}
def spCalls (K : PySem.W.Frag) : Sp := fun vs H Q _ => ∃ (a : Addr) (ns : List Int) (k many : Nat), vs = [.ref a, .int (k : Int), .int (many : Int)] ∧ SqL K H a (ns.map V.int) ∧ many ≤ 1000 ∧
  ∀ H' p xs cs, Same H H' → H p = none → H' p = some (.lst xs) → Paired (CallV H') xs cs → cs.length = many → Q (.ref p) H'
theorem scCalls : FnScope ["_law_script", "_law_k", "_law_many", "_law_calls_here", "_law_last", "_law_j", "_law_digits", "_law_t", "_law_item", "_law_call"] ["_law_script", "_law_k", "_law_many"] (defScope sCalls) := ⟨rfl, rfl, rfl, by decide +kernel, rfl, by decide +kernel, by decide +kernel⟩
theorem ok_calls (F : FnP K "_law_calls" "_law_calls" sCalls f fd) (GD : GFn P w K mg base CX0 2 "_law_draw" ["_law_script", "_law_k", "_law_sizes"] (spDraw K)) (mL : mg "len" = none) (mR : mg "range" = none) : FnOk P w K mg base CX0 3 f fd ["_law_script", "_law_k", "_law_many"] (spCalls K) := by
  obtain ⟨fD, fdD, mD, kD, bD, GD⟩ := GD
  refine F.ok scCalls (fun vs H Q E h => ?_) (fun cdv A outer s H vs Q E hr h => ?_)
  · obtain ⟨a, ns, k, many, rfl, _⟩ := h
    rfl
  · obtain ⟨a, ns, k, many, rfl, hS, hm, q⟩ := h
    have hu := hu_of hr
    refine ⟨_, PSs.nox (pss_cons (ps_set (i := 3) scCalls.nd rfl (Or.inl rfl) (pe_lst pa_nil))
      (pss_cons (ps_set (i := 4) scCalls.nd rfl (Or.inl rfl) pe_dnewK)
      (pss_cons (ps_for PassesOwn.never rfl (pi_range1 rfl mR (pa_cons (pv 2) pa_nil)) (pg_name (i := 5) scCalls.nd rfl (Or.inl rfl))
        (pss_cons (ps_set (i := 6) scCalls.nd rfl (Or.inl rfl) (pe_call GD hr rfl mD kD bD .nil pass0 (pa_cons (pv 0) (pa_cons (pe_op op_add (pv 1) (pv 5)) (pa_cons (pe_lst (pa_cons pe_int (pa_cons pe_int (pa_cons pe_int (pa_cons pe_int (pa_cons pe_int (pa_cons pe_int pa_nil))))))) pa_nil)))))
        (pss_cons (ps_set (i := 7) scCalls.nd rfl (Or.inl rfl) (pe_op op_add pe_int (pe_ix (r := rIxL K) ix_list (pv 6) pe_int (fun _ _ => rfl))))
        (C8.pss_cut (ps_if (pt_cmpR op_eq (pe_ix (r := rIxL K) ix_list (pv 6) pe_int (fun _ _ => rfl)) pe_int (nomark _))
          (pss_one (ps_set (i := 7) scCalls.nd rfl (Or.inl rfl) (pe_ix (r := rIxL K) ix_list (pe_lst (pa_cons pe_int (pa_cons pe_int (pa_cons pe_int (pa_cons pe_int (pa_cons pe_int pa_nil)))))) (pe_op op_mod (pe_ix (r := rIxL K) ix_list (pv 6) pe_int (fun _ _ => rfl)) pe_int) (fun _ _ => rfl)))) pss_nil)
        (pss_cons (ps_set (i := 8) scCalls.nd rfl (Or.inl rfl) (pe_ix (r := rIxS) ix_str pe_str (pe_ix (r := rIxL K) ix_list (pv 6) pe_int (fun _ _ => rfl)) (fun _ _ => rfl)))
        (pss_cons (ps_set (i := 9) scCalls.nd rfl (Or.inl rfl) (pe_tup (pa_cons pe_str (pa_cons (pv 7) (pa_cons (pv 8) pa_nil)))))
        (C8.pss_cut (ps_if (pt_cmpR op_gt (pe_ix (r := rIxL K) ix_list (pv 6) pe_int (fun _ _ => rfl)) pe_int (nomark _))
          (pss_one (ps_set (i := 9) scCalls.nd rfl (Or.inl rfl) (pe_tup (pa_cons pe_str (pa_cons (pv 7) (pa_cons (pv 8) (pa_cons (pe_op op_sub (pe_ix (r := rIxL K) ix_list (pv 6) pe_int (fun _ _ => rfl)) pe_int) pa_nil))))))) pss_nil)
        (C8.pss_cut (ps_if (pt_cmpR op_gt (pe_ix (r := rIxL K) ix_list (pv 6) pe_int (fun _ _ => rfl)) pe_int (nomark _))
          (pss_one (ps_set (i := 9) scCalls.nd rfl (Or.inl rfl) (pe_tup (pa_cons (pe_ix (r := rIxL K) ix_list (pe_lst (pa_cons pe_str (pa_cons pe_str pa_nil))) (pe_op op_sub (pe_ix (r := rIxL K) ix_list (pv 6) pe_int (fun _ _ => rfl)) pe_int) (fun _ _ => rfl)) (pa_cons (pv 7) pa_nil))))) pss_nil)
        (C8.pss_cut (ps_if (pt_mono (PW.pt (pw_and (pt_cmpR op_gt (pe_ix (r := rIxL K) ix_list (pv 6) pe_int (fun _ _ => rfl)) pe_int (nomark _)) (pw_and (pt_cmp (pc_din hu (pv 7) (td := tVar 4) (pv 4))) (pw_and1 (pt_cmpR op_lt (pe_ix (r := rIxL K) ix_list (pv 6) pe_int (fun _ _ => rfl)) pe_int (nomark _)))))))
          (pss_one (ps_set (i := 9) scCalls.nd rfl (Or.inl rfl) (pe_dget hu (td := tVar 4) (pv 4) (pv 7) (fun _ _ => rfl)))) pss_nil)
        (C8.pss_cut (ps_if (pt_cmpR op_gt (pe_callB call_len_seq (by rfl) mL PySem.boot_len (pa_cons (pv 9) pa_nil)) pe_int (nomark _)) (pss_one (ps_dput hu (pv 4) (pv 7) (pv 9) rfl)) pss_nil)
        (pss_one (ps_expr (pe_bm PySem.F.plainAttrs_list PySem.F.slot_list_append PySem.F.type_list_append mt_append (pv 3) (pa_cons (pv 9) pa_nil))))))))))))))
      (pss_one (ps_ret (pv 3)))))), ?_⟩
    refine ⟨Nat.zero_le _, fun R hR => ?_⟩
    have sR := same_upd (o := .lst []) hR
    intro D hD
    obtain ⟨nD, DR⟩ := none_of hD
    have sD := same_upd (o := .dK []) hD
    let Com : Hp → Nat → Nat → Prop := fun H2 j m => Same H H2 ∧ ∃ xs cs Dk, H2 R = some (.lst xs) ∧ Paired (CallV H2) xs cs ∧ cs.length = j ∧ H2 D = some (.dK Dk) ∧ Dk.length ≤ m ∧ ∀ t v, valV Dk (Sum.inl t) = some v → ∃ c, CallV H2 v c
    have comS : ∀ {H2 H3 : Hp} {j m : Nat}, Com H2 j m → Same H2 H3 → Com H3 j m := fun {H2 H3 j m} ⟨s2, xs, cs, Dk, e1, e2, e3, e4, e5, e6⟩ s3 =>
      ⟨s2.trans s3, xs, cs, Dk, s3 _ _ e1, Paired.mono (fun _ _ z => z.tk (Same.tk s3)) e2, e3, s3 _ _ e4, e5, fun t v h => by obtain ⟨c, z⟩ := e6 t v h; exact ⟨c, z.tk (Same.tk s3)⟩⟩
    refine ⟨_, rfl, (many : Int), rfl, by omega, by omega, for_range (n := many) (fun j σ H2 => ∃ u5 u6 u7 u8 u9 : Option V, σ = [some (.ref a), some (.int k), some (.int many), some (.ref R), some (.ref D), u5, u6, u7, u8, u9] ∧ Com H2 j j)
      ⟨none, none, none, none, none, rfl, sR.trans sD, [], [], [], sD _ _ upd_same, .nil, rfl, upd_same, Nat.zero_le _, fun t v h => by cases h⟩ ?_ ?_⟩
    · rintro j σ H2 hj ⟨u5, u6, u7, u8, u9, rfl, C⟩
      rw [Int.zero_add]
      -- the digits
      refine ⟨_, rfl, _, rfl, _, rfl, _, _, rfl, rfl, (by show 6 ≤ sizeLine; decide), fun b hb => ?_⟩
      have sb := same_upd (o := .lst [V.int 5, .int 9, .int 3, .int 19, .int 12, .int 3]) hb
      refine ⟨a, b, ns, [5, 9, 3, 19, 12, 3], k + j, ?_, (C.1.trans sb).seq hS, upd_same, by decide, by decide, fun H3 p ds s3 hp ep pd => ?_⟩
      · show [V.ref a, .int ((k : Int) + (j : Int)), .ref b] = [.ref a, .int ((k + j : Nat) : Int), .ref b]
        rw [Int.natCast_add]
      obtain ⟨d0, d1, d2, d3, d4, d5, rfl, g0, g1, g2, g3, g4, g5⟩ := dig6 pd
      have C3 := comS C (sb.trans s3)
      have dat : ∀ {H' : Hp}, Same H3 H' → SqL K H' p [V.int d0, .int d1, .int d2, .int d3, .int d4, .int d5] := fun {H'} z => SqL.of (z _ _ ep)
      refine ⟨_, rfl, _, _, _, _, rfl, rfl, dat (Same.refl _), at_of (j := 0) rfl rfl, _, _, rfl, rfl, ?_⟩
      -- the transaction
      refine ⟨fun σ H4 => Same H3 H4 ∧ ∃ t : Int, σ = [some (.ref a), some (.int k), some (.int many), some (.ref R), some (.ref D), some (.int j), some (.ref p), some (.int t), u8, u9], ?_, ?_⟩
      · refine ⟨_, rfl, _, _, _, _, rfl, rfl, dat (Same.refl _), at_of (j := 4) rfl rfl, rfl, _, rfl, ?_⟩
        refine iteDec (fun c => ?_) (fun c => ⟨Same.refl _, _, rfl⟩)
        refine ⟨(by show 5 ≤ sizeLine; decide), fun b5 hb5 => ?_⟩
        have s5 := same_upd (o := .lst [V.int 0, .int 9, .int 8, .int 7, .int 6]) hb5
        obtain ⟨t, ht⟩ := five_at (d := d3 % 5) ⟨Int.emod_nonneg _ (by decide), Int.emod_lt_of_pos _ (by decide)⟩ 0 9 8 7 6
        exact ⟨_, rfl, _, _, _, _, rfl, rfl, dat s5, at_of (j := 3) rfl rfl, _, _, rfl, rfl, (by show (0 : Int) < 5; decide), b5, _, _, _, rfl, rfl, SqL.of upd_same, ht, s5, t, rfl⟩
      rintro σ H4 ⟨s4, t, rfl⟩
      -- the item
      obtain ⟨i, ch, hch, ei⟩ := xyz_at g2
      refine ⟨_, rfl, _, _, _, _, rfl, rfl, dat s4, at_of (j := 2) rfl rfl, ("xyz" : Str), d2, ch, rfl, rfl, (by decide), hch, ?_⟩
      rw [ei]
      refine ⟨_, rfl, _, rfl, (by show 3 ≤ sizeLine; decide), fun q1 hq1 => ?_⟩
      have s5 := s4.trans (same_upd (o := .tup [V.str "read", V.int t, V.str i.s]) hq1)
      have cv1 : CallV (upd H4 q1 (.tup [V.str "read", V.int t, V.str i.s])) (.ref q1) (.rd t i) := ⟨q1, rfl, upd_same⟩
      let Mid : L2.St → Hp → Prop := fun σ H' => Same H3 H' ∧ ∃ v c, σ = [some (.ref a), some (.int k), some (.int many), some (.ref R), some (.ref D), some (.int j), some (.ref p), some (.int t), some (.str i.s), some v] ∧ CallV H' v c
      refine ⟨Mid, ?_, ?_⟩
      · refine ⟨_, rfl, _, _, _, _, rfl, rfl, dat s5, at_of (j := 1) rfl rfl, _, _, rfl, rfl, _, rfl, ?_⟩
        refine iteDec (fun c => ?_) (fun c => ⟨s5, _, _, rfl, cv1⟩)
        refine ⟨_, rfl, _, rfl, _, rfl, _, _, _, _, rfl, rfl, dat s5, at_of (j := 3) rfl rfl, _, _, rfl, rfl, (by show 4 ≤ sizeLine; decide), fun q2 hq2 => ?_⟩
        exact ⟨s5.trans (same_upd hq2), _, .wr t i (d3 - 9), rfl, q2, rfl, upd_same⟩
      rintro σ H5 ⟨s5, v, c, rfl, cv⟩
      refine ⟨Mid, ?_, ?_⟩
      · refine ⟨_, rfl, _, _, _, _, rfl, rfl, dat s5, at_of (j := 1) rfl rfl, _, _, rfl, rfl, _, rfl, ?_⟩
        refine iteDec (fun c6 => ?_) (fun c6 => ⟨s5, _, _, rfl, cv⟩)
        refine ⟨(by show 2 ≤ sizeLine; decide), fun b2 hb2 => ?_⟩
        have s6 := s5.trans (same_upd (o := .lst [V.str "commit", V.str "abort"]) hb2)
        obtain ⟨u, hu2, eu⟩ := two_at (d := d1 - 7) (by have := g1.1; have := g1.2; omega) (V.str "commit") (V.str "abort")
        refine ⟨_, rfl, _, _, _, _, rfl, rfl, dat s6, at_of (j := 1) rfl rfl, _, _, rfl, rfl, b2, _, _, u, rfl, rfl, SqL.of upd_same, hu2, _, rfl, (by show 2 ≤ sizeLine; decide), fun q3 hq3 => ?_⟩
        rcases eu with rfl | rfl
        · exact ⟨s6.trans (same_upd hq3), _, .cm t, rfl, q3, rfl, upd_same⟩
        · exact ⟨s6.trans (same_upd hq3), _, .ab t, rfl, q3, rfl, upd_same⟩
      rintro σ H6 ⟨s6, v6, c6, rfl, cv6⟩
      obtain ⟨s0, xs, cs, Dk, eR, pR, lR, eD, lD, hD6⟩ := comS C3 s6
      refine ⟨Mid, ?_, ?_⟩
      · refine ⟨fun b H1 => H1 = H6 ∧ (b = true → ∃ v, valV Dk (Sum.inl t) = some v), ?_, ?_⟩
        · refine ⟨_, rfl, _, _, _, _, rfl, rfl, dat s6, at_of (j := 5) rfl rfl, _, _, rfl, rfl, _, rfl, ?_⟩
          refine iteDec (fun _ => ?_) (fun _ => ⟨rfl, fun z => by cases z⟩)
          refine ⟨_, rfl, _, rfl, D, _, rfl, DGet.k (k := Sum.inl t) eD, _, rfl, ?_⟩
          refine iteB (fun c7 => ?_) (fun _ => ⟨rfl, fun z => by cases z⟩)
          refine ⟨_, rfl, _, _, _, _, rfl, rfl, dat s6, at_of (j := 1) rfl rfl, _, _, rfl, rfl, _, rfl, rfl, fun _ => Option.isSome_iff_exists.mp c7⟩
        rintro b H1 ⟨rfl, hb⟩
        refine iteB (fun b1 => ?_) (fun _ => ⟨s6, _, _, rfl, cv6⟩)
        obtain ⟨v7, hv7⟩ := hb b1
        obtain ⟨c7, cv7⟩ := hD6 t v7 hv7
        have g := DGet.k (k := Sum.inl t) eD
        rw [hv7] at g
        exact ⟨_, rfl, _, rfl, D, v7, rfl, g, s6, v7, c7, rfl, cv7⟩
      rintro σ H7 ⟨s7, v7, c7, rfl, cv7⟩
      obtain ⟨s0', xs, cs, Dk, eR, pR, lR, eD, lD, hD7⟩ := comS C3 s7
      -- the last call
      refine ⟨fun σ H8 => (∃ v c, σ = [some (.ref a), some (.int k), some (.int many), some (.ref R), some (.ref D), some (.int j), some (.ref p), some (.int t), some (.str i.s), some v] ∧ CallV H8 v c) ∧ Com H8 j (j + 1), ?_, ?_⟩
      · obtain ⟨a7, ea7, h7⟩ := cv7
        subst ea7
        refine ⟨_, rfl, a7, callVs c7, rfl, .inr (SqT.of h7), _, _, rfl, rfl, _, rfl, ?_⟩
        refine iteDec (fun _ => ?_) (fun _ => ⟨⟨_, _, rfl, a7, rfl, h7⟩, s0', xs, cs, Dk, eR, pR, lR, eD, Nat.le_succ_of_le lD, hD7⟩)
        refine ⟨_, rfl, _, rfl, _, rfl, D, _, rfl, DPut.k (k := Sum.inl t) eD (lt_line (by omega)), ?_⟩
        have tk := tk_upd (o' := .dK (putK Dk (Sum.inl t) (.ref a7))) eD True.intro
        refine ⟨⟨_, _, rfl, a7, rfl, tk _ _ h7⟩, same_put s0' nD, xs, cs, _, by rw [upd_ne DR.symm]; exact eR, Paired.mono (fun _ _ z => z.tk tk) pR, lR, upd_same, ?_, fun t' v' h' => ?_⟩
        · have := length_put Dk (Sum.inl t) (.ref a7)
          omega
        · rw [valV_put] at h'
          by_cases z : (Sum.inl t' : Key) = Sum.inl t
          · rw [if_pos z] at h'
            exact ⟨c7, a7, (Option.some.inj h').symm, tk _ _ h7⟩
          · rw [if_neg z] at h'
            obtain ⟨c8, z8⟩ := hD7 t' v' h'
            exact ⟨c8, z8.tk tk⟩
      rintro σ H8 ⟨⟨v8, c8, rfl, cv8⟩, s8, xs, cs, Dk, eR, pR, lR, eD, lD, hD8⟩
      have lx : xs.length ≤ 1000 := by rw [pR.length, lR]; omega
      refine ⟨_, rfl, .inl ⟨rfl, _, SqL.of eR⟩, _, rfl, R, _, _, rfl, rfl, eR, lt_line (by omega), ?_⟩
      have tk := tk_upd (o' := .lst (xs ++ [v8])) eR True.intro
      refine ⟨_, _, _, _, _, rfl, same_put s8 hR, xs ++ [v8], cs ++ [c8], Dk, upd_same, pappend (Paired.mono (fun _ _ z => z.tk tk) pR) (.cons (cv8.tk tk) .nil), by rw [List.length_append, lR]; rfl, by rw [upd_ne DR]; exact eD, lD, fun t' v' h' => ?_⟩
      obtain ⟨c9, z9⟩ := hD8 t' v' h'
      exact ⟨c9, z9.tk tk⟩
    · rintro σ H2 ⟨u5, u6, u7, u8, u9, rfl, s2, xs, cs, Dk, eR, pR, lR, eD, lD, hD2⟩
      exact ⟨_, rfl, q H2 R xs cs s2 hR eR pR lR⟩
end
end K61
set_option Elab.async false
set_option linter.all false
set_option maxRecDepth 100000
set_option maxHeartbeats 4000000
/-! _law_do. -/
namespace K61
open PySem PySem.Spec PyProof.Rows L2
def spDo (CM CT CW : Addr) : Sp := fun vs H Q _ => ∃ (M a : Addr) (c : Call) (H0 : Hp) (s : St) (n : Nat), vs = [.ref M, .ref a] ∧ H a = some (.tup (callVs c)) ∧ MgrAt CM CT CW H0 H M s n ∧ n ≤ 8000 ∧ QOk s ∧
  (Refused s c → ∀ H' q xs, Same H H' → H' q = some (.tup xs) → Q (.ref q) H') ∧
  (¬ Refused s c → ∀ H' s' r v, Step s c s' r → MgrAt CM CT CW H0 H' M s' (n + 3) → ResV c r v H' → Q v H')
theorem scDo : FnScope ["_law_manager", "_law_call", "e"] ["_law_manager", "_law_call"] (defScope sDo) := ⟨rfl, rfl, rfl, by decide +kernel, rfl, by decide +kernel, by decide +kernel⟩
abbrev tIx (K : PySem.W.Frag) (i : Int) : TE := tOp (rIxT K) (tVar 1) (tC (.int i))
abbrev tWd (K : PySem.W.Frag) (z : Str) : TT := tTest (tOp rEq (tIx K 0) (tC (.str z)))
/-- what the try's body does, where W is wished for of an exception -/
def doB (K : PySem.W.Frag) (CM CT CW CE : Addr) (W : WX) : TS :=
  tSeq (tIfS (tWd K "read") (tRet (tMethE CM "read" (spCall isRd CM CT CW CE) (WE W) (tVar 0) (tCons (tIx K 1) (tCons (tIx K 2) tNil)))) tNext)
    (tSeq (tIfS (tWd K "write") (tRet (tMethE CM "write" (spCall isWrC CM CT CW CE) (WE W) (tVar 0) (tCons (tIx K 1) (tCons (tIx K 2) (tCons (tIx K 3) tNil))))) tNext)
    (tSeq (tIfS (tWd K "commit") (tRet (tMethE CM "commit" (spCall isCm CM CT CW CE) (WE W) (tVar 0) (tCons (tIx K 1) tNil))) tNext)
    (tRet (tMethE CM "abort" (spCall isAbC CM CT CW CE) (WE W) (tVar 0) (tCons (tIx K 1) tNil)))))
def doS (K : PySem.W.Frag) (CE : Addr) (a : Addr) (cls : Value) (d : Option Addr) : TS :=
  tSeq (tIfS (tB (tCB (rIsME K CE a cls d) (tCons (tVar 2) (tCons (tC (.ref CE)) tNil)))) (tRet (tTup (tCons (tC (.str "refused")) (tCons (tWhatME CE a cls d (tVar 2)) tNil)))) tNext)
    (tRet (tC (.str "another error")))
section
variable {P : Program} {w : World} {K : PySem.W.Frag} {mg : Str → Option Value} {base : Heap} {f CM CT CW CE CO fE dM : Addr} {fd : FuncData}
theorem ok_do (F : FnP K "_law_do" "_law_do" sDo f fd) (T : TxM K CM) (TE : METxt P K mg CE fE) (EC : ExcC K CE) (gO : mg "OrderError" = some (.ref CO)) (xO : PySem.W.exmOne K (.ref CE) (.ref CO) = some true) (mI : mg "isinstance" = none)
    (GR : MFn P w K mg base (L2.CX P w) 6 CM "read" ["self", "t", "item"] (spCall isRd CM CT CW CE)) (GW : MFn P w K mg base (L2.CX P w) 6 CM "write" ["self", "t", "item", "number"] (spCall isWrC CM CT CW CE))
    (GC : MFn P w K mg base (L2.CX P w) 7 CM "commit" ["self", "t"] (spCall isCm CM CT CW CE)) (GA : MFn P w K mg base (L2.CX P w) 7 CM "abort" ["self", "t"] (spCall isAbC CM CT CW CE)) : FnOk P w K mg base CX0 8 f fd ["_law_manager", "_law_call"] (spDo CM CT CW) := by
  obtain ⟨fR, fdR, mR, bR, GR⟩ := GR
  obtain ⟨fW, fdW, mW, bW, GW⟩ := GW
  obtain ⟨fC, fdC, mC, bC, GC⟩ := GC
  obtain ⟨fA, fdA, mA, bA, GA⟩ := GA
  refine F.ok scDo (fun vs H Q E h => ?_) (fun cdv A outer s H vs Q E hr h => ?_)
  · obtain ⟨M, a, c, H0, S, n, rfl, _⟩ := h
    rfl
  · obtain ⟨M, a, c, H0, S, n, rfl, ea, X, hn, qok, kE, kS⟩ := h
    have hr6 := hr.mono (show 6 ≤ 7 by decide)
    refine ⟨_, pss_one (ps_try_as (i := 2) (tb := doB K CM CT CW CE) (ts := doS K CE) (Wout := fun _ _ _ _ => False) rfl rfl scDo.nd rfl rfl ⟨rfl, by decide, Or.inl gO⟩ takes0
      (fun W pn xe tk _ => pss_cons (ps_if (pt_cmpR op_eq (by exact (pe_ix (r := rIxT K) ix_tup (pv 1) pe_int (fun _ _ => rfl))) pe_str (nomark _)) (pss_one (ps_ret (pe_methE (by exact (pv 0)) T.cl mR GR hr6 bR (fun σ => passAt tk σ) (by exact (pa_cons (pe_ix (r := rIxT K) ix_tup (pv 1) pe_int (fun _ _ => rfl)) (pa_cons (pe_ix (r := rIxT K) ix_tup (pv 1) pe_int (fun _ _ => rfl)) pa_nil)))))) pss_nil)
        (pss_cons (ps_if (pt_cmpR op_eq (by exact (pe_ix (r := rIxT K) ix_tup (pv 1) pe_int (fun _ _ => rfl))) pe_str (nomark _)) (pss_one (ps_ret (pe_methE (by exact (pv 0)) T.cl mW GW hr6 bW (fun σ => passAt tk σ) (by exact (pa_cons (pe_ix (r := rIxT K) ix_tup (pv 1) pe_int (fun _ _ => rfl)) (pa_cons (pe_ix (r := rIxT K) ix_tup (pv 1) pe_int (fun _ _ => rfl)) (pa_cons (pe_ix (r := rIxT K) ix_tup (pv 1) pe_int (fun _ _ => rfl)) pa_nil))))))) pss_nil)
        (pss_cons (ps_if (pt_cmpR op_eq (by exact (pe_ix (r := rIxT K) ix_tup (pv 1) pe_int (fun _ _ => rfl))) pe_str (nomark _)) (pss_one (ps_ret (pe_methE (by exact (pv 0)) T.cl mC GC hr bC (fun σ => passAt tk σ) (by exact (pa_cons (pe_ix (r := rIxT K) ix_tup (pv 1) pe_int (fun _ _ => rfl)) pa_nil))))) pss_nil)
        (pss_one (ps_ret (pe_methE (by exact (pv 0)) T.cl mA GA hr bA (fun σ => passAt tk σ) (by exact (pa_cons (pe_ix (r := rIxT K) ix_tup (pv 1) pe_int (fun _ _ => rfl)) pa_nil))))))))
      (fun a oe cls d pn hz hf => pss_cons (ps_if (pt_val (by exact (pe_callB (call_isME EC hz hf) (by rfl) mI (by decide +kernel) (pa_cons (pv 2) (pa_cons (pe_glob (v := V.ref CE) rfl TE.gC rfl) pa_nil))))) (pss_one (ps_ret (by exact (pe_tup (pa_cons pe_str (pa_cons (pe_whatME TE hz hf (pv 2)) pa_nil)))))) pss_nil)
        (pss_one (ps_ret pe_str)))), ?_⟩
    have X' := X
    obtain ⟨τT, τW, τM, T0, W0, dx, lg, ov, op, wd, X'⟩ := X'
    have bad : ∀ (D : Ends), D.rt = Q → Refused S c → ∀ H' d z, Same H H' → H' d = some (.xd [(("what" : Str), V.str z)]) → wAs K (.ref CO) 2 (doS K CE) (fun _ _ _ _ => False) D (.ref CE) (some d) [some (.ref M), some (.ref a), none] H' := fun D hD z H' d y s1 e =>
      ⟨true, xO, fun _ e1 he1 => ⟨_, rfl, .ref CE, .ref CE, true, d, .str y, rfl, fun u h => h, if_pos (by simp), rfl, rfl, e, true, rfl, iteT ⟨_, rfl, rfl, rfl, d, .str y, rfl, e, (by show 2 ≤ sizeLine; decide), fun q hq => by
        show D.rt (.ref q) _
        rw [hD]
        exact kE z _ q _ (s1.trans (same_upd hq)) upd_same⟩⟩, fun q => Bool.noConfusion q⟩
    cases c with
    | rd t i =>
      refine ⟨_, rfl, _, _, _, _, rfl, rfl, SqT.of ea, at_of (j := 0) rfl rfl, rfl, _, rfl, iteT ?_⟩
      exact ⟨_, rfl, M, dx, _, rfl, X'.o.eM, mf_no T0 W0 lg ov op wd (by decide +kernel), _, rfl, _, _, _, _, rfl, rfl, SqT.of ea, at_of (j := 1) rfl rfl, _, rfl, _, _, _, _, rfl, rfl, SqT.of ea, at_of (j := 2) rfl rfl,
        M, .rd t i, H0, S, n, rfl, ⟨t, i, rfl⟩, X, hn, qok, bad _ rfl, fun nr H' s' r v st Y rv => kS nr H' s' r v st Y rv⟩
    | wr t i k =>
      refine ⟨_, rfl, _, _, _, _, rfl, rfl, SqT.of ea, at_of (j := 0) rfl rfl, rfl, _, rfl, iteF ?_⟩
      refine ⟨_, rfl, _, _, _, _, rfl, rfl, SqT.of ea, at_of (j := 0) rfl rfl, rfl, _, rfl, iteT ?_⟩
      exact ⟨_, rfl, M, dx, _, rfl, X'.o.eM, mf_no T0 W0 lg ov op wd (by decide +kernel), _, rfl, _, _, _, _, rfl, rfl, SqT.of ea, at_of (j := 1) rfl rfl, _, rfl, _, _, _, _, rfl, rfl, SqT.of ea, at_of (j := 2) rfl rfl, _, rfl, _, _, _, _, rfl, rfl, SqT.of ea, at_of (j := 3) rfl rfl,
        M, .wr t i k, H0, S, n, rfl, ⟨t, i, k, rfl⟩, X, hn, qok, bad _ rfl, fun nr H' s' r v st Y rv => kS nr H' s' r v st Y rv⟩
    | cm t =>
      refine ⟨_, rfl, _, _, _, _, rfl, rfl, SqT.of ea, at_of (j := 0) rfl rfl, rfl, _, rfl, iteF ?_⟩
      refine ⟨_, rfl, _, _, _, _, rfl, rfl, SqT.of ea, at_of (j := 0) rfl rfl, rfl, _, rfl, iteF ?_⟩
      refine ⟨_, rfl, _, _, _, _, rfl, rfl, SqT.of ea, at_of (j := 0) rfl rfl, rfl, _, rfl, iteT ?_⟩
      exact ⟨_, rfl, M, dx, _, rfl, X'.o.eM, mf_no T0 W0 lg ov op wd (by decide +kernel), _, rfl, _, _, _, _, rfl, rfl, SqT.of ea, at_of (j := 1) rfl rfl,
        M, .cm t, H0, S, n, rfl, ⟨t, rfl⟩, X, hn, qok, bad _ rfl, fun nr H' s' r v st Y rv => kS nr H' s' r v st Y rv⟩
    | ab t =>
      refine ⟨_, rfl, _, _, _, _, rfl, rfl, SqT.of ea, at_of (j := 0) rfl rfl, rfl, _, rfl, iteF ?_⟩
      refine ⟨_, rfl, _, _, _, _, rfl, rfl, SqT.of ea, at_of (j := 0) rfl rfl, rfl, _, rfl, iteF ?_⟩
      refine ⟨_, rfl, _, _, _, _, rfl, rfl, SqT.of ea, at_of (j := 0) rfl rfl, rfl, _, rfl, iteF ?_⟩
      exact ⟨_, rfl, M, dx, _, rfl, X'.o.eM, mf_no T0 W0 lg ov op wd (by decide +kernel), _, rfl, _, _, _, _, rfl, rfl, SqT.of ea, at_of (j := 1) rfl rfl,
        M, .ab t, H0, S, n, rfl, ⟨t, rfl⟩, X, hn, qok, bad _ rfl, fun nr H' s' r v st Y rv => kS nr H' s' r v st Y rv⟩
end
end K61
set_option Elab.async false
set_option linter.all false
set_option maxRecDepth 100000
set_option maxHeartbeats 4000000
/-! What the law's walk asks: a manager beside a list that the law writes. -/
namespace K61
open PySem PySem.Spec PyProof.Rows L2
theorem Own.rebase {H0 Hc H : Hp} {τ : Lbl} (O : Own H0 H τ) (s : Same Hc H) (f : ∀ b r, τ b = some r → Hc b = none) : Own Hc H τ := ⟨s, f, O.on⟩
section
variable {CM CT CW : Addr} {H0 H H' Hb Hc : Hp} {A M : Addr} {s : St} {n : Nat}
theorem MgrX.rebase {τT τW τM : Lbl} {T W dx lg ov op wd : Addr} (t : MgrX CM CT CW H0 H τT τW τM M T W s n dx lg ov op wd) (q : Same Hc H) (f : ∀ b u, Hc b = some u → τT b = none ∧ τW b = none ∧ τM b = none) : MgrX CM CT CW Hc H τT τW τM M T W s n dx lg ov op wd where
  tab := by
    obtain ⟨_, _, _, _, _, _, X⟩ := t.tab
    have O := X.own.rebase q fun b r e => by
      cases z : Hc b with
      | none => rfl
      | some u => rw [(f b u z).1] at e; cases e
    exact ⟨_, _, _, _, _, _, { X with own := O }⟩
  work := by
    obtain ⟨_, _, _, _, _, _, _, X⟩ := t.work
    have O := X.own.rebase q fun b r e => by
      cases z : Hc b with
      | none => rfl
      | some u => rw [(f b u z).2.1] at e; cases e
    exact ⟨_, _, _, _, _, _, _, { X with own := O }⟩
  o := by
    have O := t.o.own.rebase q fun b r e => by
      cases z : Hc b with
      | none => rfl
      | some u => rw [(f b u z).2.2] at e; cases e
    exact { t.o with own := O }
  dTW := t.dTW
  dTM := t.dTM
  dWM := t.dWM
/-- a manager, A is not its -/
def MgrA (CM CT CW A : Addr) (Hb H : Hp) (M : Addr) (s : St) (n : Nat) : Prop := ∃ τT τW τM T W dx lg ov op wd, MgrX CM CT CW Hb H τT τW τM M T W s n dx lg ov op wd ∧ τT A = none ∧ τW A = none ∧ τM A = none
theorem MgrA.to (t : MgrA CM CT CW A Hb H M s n) : ∃ Hc, MgrAt CM CT CW Hc H M s n ∧ (∀ u, H A = some u → Hc A = some u) ∧ Same Hb Hc := by
  obtain ⟨τT, τW, τM, T, W, dx, lg, ov, op, wd, X, n1, n2, n3⟩ := t
  have key : ∀ b u, (if τT b = none ∧ τW b = none ∧ τM b = none then H b else none) = some u → (τT b = none ∧ τW b = none ∧ τM b = none) ∧ H b = some u := fun b u e => by
    by_cases z : τT b = none ∧ τW b = none ∧ τM b = none
    · rw [if_pos z] at e
      exact ⟨z, e⟩
    · rw [if_neg z] at e
      cases e
  refine ⟨fun b => if τT b = none ∧ τW b = none ∧ τM b = none then H b else none, ⟨τT, τW, τM, T, W, dx, lg, ov, op, wd, X.rebase (fun b u e => (key b u e).2) (fun b u e => (key b u e).1)⟩, fun u e => ?_, fun b u e => ?_⟩
  · show (if τT A = none ∧ τW A = none ∧ τM A = none then H A else none) = some u
    rw [if_pos ⟨n1, n2, n3⟩]
    exact e
  · have off : ∀ {τ : Lbl}, Own Hb H τ → τ b = none := fun {τ} O => by
      cases z : τ b with
      | none => rfl
      | some r => rw [O.off b r z] at e; cases e
    show (if τT b = none ∧ τW b = none ∧ τM b = none then H b else none) = some u
    rw [if_pos ⟨off X.tab.own, off X.work.own, off X.o.own⟩]
    exact X.tab.own.sub b u e
theorem MgrX.weak {H1 : Hp} {τT τW τM : Lbl} {T W dx lg ov op wd : Addr} (t : MgrX CM CT CW H1 H τT τW τM M T W s n dx lg ov op wd) (q : Same H0 H1) : MgrX CM CT CW H0 H τT τW τM M T W s n dx lg ov op wd :=
  { t with tab := t.tab.weak q, work := t.work.weak q, o := { t.o with own := t.o.own.weak q } }
theorem MgrA.of {u : HO} (t : MgrAt CM CT CW Hc H' M s n) (e : Hc A = some u) (q : Same Hb Hc) : MgrA CM CT CW A Hb H' M s n ∧ H' A = some u ∧ Same Hb H' := by
  obtain ⟨τT, τW, τM, T, W, dx, lg, ov, op, wd, X⟩ := t
  have off : ∀ {τ : Lbl}, Own Hc H' τ → τ A = none := fun {τ} O => by
    cases z : τ A with
    | none => rfl
    | some r => rw [O.off A r z] at e; cases e
  exact ⟨⟨τT, τW, τM, T, W, dx, lg, ov, op, wd, X.weak q, off X.tab.own, off X.work.own, off X.o.own⟩, X.tab.own.sub A u e, q.trans X.tab.own.sub⟩
theorem MgrA.put {o o' : HO} (t : MgrA CM CT CW A Hb H M s n) (hA : Hb A = none) (e : H A = some o) (m : MutO o) : MgrA CM CT CW A Hb (upd H A o') M s n := by
  obtain ⟨τT, τW, τM, T, W, dx, lg, ov, op, wd, X, n1, n2, n3⟩ := t
  have sm : Same Hb (upd H A o') := fun b u q => by
    rw [upd_ne (fun z => by rw [z, hA] at q; cases q)]
    exact X.tab.own.sub b u q
  exact ⟨τT, τW, τM, T, W, dx, lg, ov, op, wd, { X with tab := X.tab.fr sm (frUpd n1 e m), work := X.work.fr sm (frUpd n2 e m), o := X.o.fr sm (frUpd n3 e m) }, n1, n2, n3⟩
theorem MgrA.same (t : MgrA CM CT CW A Hb H M s n) (q : Same H H') : MgrA CM CT CW A Hb H' M s n := by
  obtain ⟨τT, τW, τM, T, W, dx, lg, ov, op, wd, X, n1, n2, n3⟩ := t
  exact ⟨τT, τW, τM, T, W, dx, lg, ov, op, wd, X.same q, n1, n2, n3⟩
theorem MgrA.mono {m : Nat} (t : MgrA CM CT CW A Hb H M s n) (h : n ≤ m) : MgrA CM CT CW A Hb H M s m := by
  obtain ⟨τT, τW, τM, T, W, dx, lg, ov, op, wd, X, n1, n2, n3⟩ := t
  exact ⟨τT, τW, τM, T, W, dx, lg, ov, op, wd, X.mono h, n1, n2, n3⟩
theorem MgrA.at (t : MgrA CM CT CW A Hb H M s n) : MgrAt CM CT CW Hb H M s n := by
  obtain ⟨τT, τW, τM, T, W, dx, lg, ov, op, wd, X, n1, n2, n3⟩ := t
  exact ⟨τT, τW, τM, T, W, dx, lg, ov, op, wd, X⟩
theorem MgrAt.mono {m : Nat} (t : MgrAt CM CT CW Hb H M s n) (h : n ≤ m) : MgrAt CM CT CW Hb H M s m := by
  obtain ⟨τT, τW, τM, T, W, dx, lg, ov, op, wd, X⟩ := t
  exact ⟨τT, τW, τM, T, W, dx, lg, ov, op, wd, X.mono h⟩
theorem MgrAt.len (t : MgrAt CM CT CW Hb H M s n) : s.sched.length ≤ n := by
  obtain ⟨τT, τW, τM, T, W, dx, lg, ov, op, wd, X⟩ := t
  obtain ⟨_, _, _, _, _, _, _, XW⟩ := X.work
  exact XW.ll
theorem MgrAt.sub (t : MgrAt CM CT CW Hb H M s n) : Same Hb H := by
  obtain ⟨τT, τW, τM, T, W, dx, lg, ov, op, wd, X⟩ := t
  exact X.tab.own.sub
theorem MgrAt.ins (t : MgrAt CM CT CW Hb H M s n) : ∃ dx T W lg ov op wd, H M = some (.ins CM dx (mf T W lg ov op wd)) := by
  obtain ⟨τT, τW, τM, T, W, dx, lg, ov, op, wd, X⟩ := t
  exact ⟨dx, T, W, lg, ov, op, wd, X.o.eM⟩
end
theorem Inv1.qok {s : St} {ans : List Call} (I : Inv1 s ans) : QOk s := fun i p hp => ((I.lk i).lq p.1 p.2 hp).2.2
theorem passX {P : Program} {w : World} {X : Cx} : Passes (L2.CX P w) X E0 := fun _ _ _ _ _ _ _ h => by
  obtain ⟨_, _, _, _, _, _, _, _, _, _, _, _, h⟩ := h
  exact h.elim
/-! ### contents, compared -/
def toldD (l : List (It × Int)) : PyData := .list (l.map fun q => .tuple [.str q.1.s, .int q.2])
theorem toldD_all {K : PySem.W.Frag} {H : Hp} : ∀ {ys : List V} {l : List (It × Int)}, Paired (PairV H) ys l → DpAll K H ys (l.map fun q => .tuple [.str q.1.s, .int q.2])
  | _, _, .nil => .nil
  | _, _, .cons r t => by
    obtain ⟨b, rfl, hb⟩ := r
    exact .cons (.tup (SqT.of hb) (.cons (.str _) (.cons (.int _) .nil))) (toldD_all t)
theorem told_eq (amt : It → Int) : told amt = (if amt .x = 0 then [] else [(It.x, amt .x)]) ++ ((if amt .y = 0 then [] else [(It.y, amt .y)]) ++ (if amt .z = 0 then [] else [(It.z, amt .z)])) := by
  unfold told
  by_cases h1 : amt .x = 0 <;> by_cases h2 : amt .y = 0 <;> by_cases h3 : amt .z = 0 <;> simp [List.filter, h1, h2, h3]
theorem told_sh (amt : It → Int) : SeqAt.shaped (toldD (told amt)) = true := by
  rw [told_eq]
  by_cases h1 : amt .x = 0 <;> by_cases h2 : amt .y = 0 <;> by_cases h3 : amt .z = 0 <;> simp only [h1, h2, h3, if_true, if_false, ite_true, ite_false] <;> kernel_rfl
theorem toldD_refl (l : List (It × Int)) : PyData.eqv (toldD l) (toldD l) = true := by
  unfold toldD
  show PyData.eqvAll _ _ = true
  induction l with
  | nil => rfl
  | cons q l ih =>
    rw [List.map_cons]
    show (PyData.eqv (.tuple [.str q.1.s, .int q.2]) (.tuple [.str q.1.s, .int q.2]) && PyData.eqvAll _ _) = true
    rw [ih]
    simp [PyData.eqv, PyData.eqvAll]
end K61
set_option Elab.async false
set_option linter.all false
set_option maxRecDepth 100000
set_option maxHeartbeats 4000000
/-! law. -/
namespace K61
open PySem PySem.Spec PyProof.Rows L2
def spLaw (K : PySem.W.Frag) : Sp := fun vs H Q _ => ∃ (a : Addr) (ns : List Int), vs = [.ref a] ∧ SqL K H a (ns.map V.int) ∧ ns.length ≤ 63 ∧ ∀ H', Q (.bl true) H'
theorem scLaw : FnScope ["_law_script", "_law_manager", "_law_answered", "_law_call", "_law_told", "_law_t", "_law_happened", "_law_commits", "_law_op", "_law_second"] ["_law_script"] (defScope sLaw) := ⟨rfl, rfl, rfl, by decide +kernel, rfl, by decide +kernel, by decide +kernel⟩
theorem MgrX.startA {H0 H : Hp} {τT τW τM : Lbl} {M T W dx lg ov op wd R : Addr} {s : St} {n : Nat} {CM CT CW : Addr} (X : MgrX CM CT CW H0 H τT τW τM M T W s n dx lg ov op wd) (n1 : τT R = none) (n2 : τW R = none) (n3 : τM R = none) :
    ∃ Hb, MgrA CM CT CW R Hb H M s n ∧ Hb R = none ∧ ∀ b u, b ≠ R → τT b = none → τW b = none → τM b = none → H b = some u → Hb b = some u := by
  have key : ∀ b u, (if b ≠ R ∧ τT b = none ∧ τW b = none ∧ τM b = none then H b else none) = some u → (b ≠ R ∧ τT b = none ∧ τW b = none ∧ τM b = none) ∧ H b = some u := fun b u e => by
    by_cases z : b ≠ R ∧ τT b = none ∧ τW b = none ∧ τM b = none
    · rw [if_pos z] at e
      exact ⟨z, e⟩
    · rw [if_neg z] at e
      cases e
  refine ⟨fun b => if b ≠ R ∧ τT b = none ∧ τW b = none ∧ τM b = none then H b else none, ⟨τT, τW, τM, T, W, dx, lg, ov, op, wd, X.rebase (fun b u e => (key b u e).2) (fun b u e => (key b u e).1.2), n1, n2, n3⟩, if_neg fun z => z.1 rfl, fun b u h1 h2 h3 h4 e => ?_⟩
  show (if b ≠ R ∧ τT b = none ∧ τW b = none ∧ τM b = none then H b else none) = some u
  rw [if_pos ⟨h1, h2, h3, h4⟩]
  exact e
theorem step_none {s s' : St} {c : Call} {r : Option Int} (h : Step s c s' r) (e : c.step?.isSome = false) : r = none := by
  cases h with
  | wait _ _ => rfl
  | run _ hs => rw [hs] at e; cases e
  | commit => rfl
  | abort => rfl
theorem call_len2 {c : Call} (h : c.step?.isSome = true) : (2 : Int) < ((callVs c).length : Int) := by
  cases c with
  | rd t i => show (2 : Int) < 3; decide
  | wr t i n => show (2 : Int) < 4; decide
  | cm t => cases h
  | ab t => cases h
section
variable {P : Program} {w : World} {K : PySem.W.Frag} {mg : Str → Option Value} {base : Heap} {f CM CT CW CE CO fE dM fM pH pC gH gC : Addr} {fd fdM fdH fdC : FuncData}
theorem ok_law (F : FnP K "law" "law" sLaw f fd) (T : TxM K CM) (MM : Mk K CM fM) (gM : mg "Manager" = some (.ref CM)) (GM : FnOk P w K mg base CX0 3 fM fdM ["self"] (spMI CM CT CW)) (bM : Binds K fdM ["self"] [])
    (GCs : GFn P w K mg base CX0 3 "_law_calls" ["_law_script", "_law_k", "_law_many"] (spCalls K)) (GDo : GFn P w K mg base CX0 8 "_law_do" ["_law_manager", "_law_call"] (spDo CM CT CW)) (GIn : MFn P w K mg base CX0 1 CM "__contains__" ["self", "t"] (spIn CM CT CW))
    (GA : MFn P w K mg base (L2.CX P w) 7 CM "abort" ["self", "t"] (spCall isAbC CM CT CW CE)) (GC : MFn P w K mg base (L2.CX P w) 7 CM "commit" ["self", "t"] (spCall isCm CM CT CW CE)) (GD : MFn P w K mg base CX0 12 CM "deadlock" ["self"] (spDeadM CM CT CW))
    (PH : PropOf K CM "history" pH gH) (GH : FnOk P w K mg base CX0 1 gH fdH ["self"] (spHist CM CT CW)) (bH : Binds K fdH ["self"] []) (PC : PropOf K CM "contents" pC gC) (GCo : FnOk P w K mg base CX0 2 gC fdC ["self"] (spCont CM CT CW)) (bC : Binds K fdC ["self"] [])
    (GB : GFn P w K mg base CX0 5 "breaks" ["schedule"] (spBreaks K)) (GR : GFn P w K mg base CX0 11 "ring_of" ["schedule"] (spRingOf K))
    (mL : mg "len" = none) (mR : mg "range" = none) (mMin : mg "min" = none) (mI : mg "isinstance" = none) (mInt : mg "int" = none) : FnOk P w K mg base CX0 13 f fd ["_law_script"] (spLaw K) := by
  obtain ⟨fCs, fdCs, mCs, kCs, bCs, GCs⟩ := GCs
  obtain ⟨fDo, fdDo, mDo, kDo, bDo, GDo⟩ := GDo
  obtain ⟨fIn, fdIn, mIn, bIn, GIn⟩ := GIn
  obtain ⟨fA, fdA, mA, bA, GA⟩ := GA
  obtain ⟨fC, fdC', mC, bC', GC⟩ := GC
  obtain ⟨fD, fdD, mD, bD, GD⟩ := GD
  obtain ⟨fB, fdB, mB, kB, bB, GB⟩ := GB
  obtain ⟨fR, fdR, mRo, kR, bR, GR⟩ := GR
  refine F.ok scLaw (fun vs H Q E h => ?_) (fun cdv A outer s H vs Q E hr h => ?_)
  · obtain ⟨a, ns, rfl, _⟩ := h
    rfl
  · obtain ⟨a, ns, rfl, hS, hl, k⟩ := h
    have hu64 : A.units + 3 + 64 < cLine := by
      have := hr.un
      have e : (A.deeper (envOfC "law" (defScope sLaw) s.heap.objs.size f cdv)).units = A.units + 3 := rfl
      omega
    have hr3 := hr.mono (show 4 ≤ 12 by decide)
    have hr8 := hr.mono (show 8 ≤ 12 by decide)
    refine ⟨_, PSs.nox (pss_cons (ps_set (i := 1) scLaw.nd rfl (Or.inl rfl) (pe_make0 MM GM hr3 rfl gM bM .nil pass0))
      (pss_cons (ps_set (i := 2) scLaw.nd rfl (Or.inl rfl) (pe_lst pa_nil))
      (C8.pss_cut (ps_for PassesOwn.never rfl (pi_list (pe_call GCs (hr.mono (show 3 ≤ 12 by decide)) rfl mCs kCs bCs .nil pass0 (pa_cons (pv 0) (pa_cons pe_int (pa_cons (pe_callB (call_min2 rfl) (by rfl) mMin (by decide +kernel) (pa_cons pe_int (pa_cons (pe_op op_add pe_int (pe_callB call_len (by rfl) mL PySem.boot_len (pa_cons (pv 0) pa_nil))) pa_nil))) pa_nil))))) (pg_name (i := 3) scLaw.nd rfl (Or.inl rfl))
        (pss_cons (ps_set (i := 4) scLaw.nd rfl (Or.inl rfl) (pe_call GDo hr8 rfl mDo kDo bDo .nil pass0 (pa_cons (pv 1) (pa_cons (pv 3) pa_nil))))
        (pss_one (ps_if (PW.pt (pw_and (pt_val (pe_callB call_isi (by rfl) mI (by decide +kernel) (pa_cons (pv 4) (pa_cons (pe_bltn (v := V.ty "int") (by rfl) mInt (by decide +kernel) rfl) pa_nil)))) (pw_and1 (pt_cmpR op_gt (pe_callB call_len_seq (by rfl) mL PySem.boot_len (pa_cons (pv 3) pa_nil)) pe_int (nomark _)))))
          (pss_one (ps_expr (pe_bm PySem.F.plainAttrs_list PySem.F.slot_list_append PySem.F.type_list_append mt_append (pv 2) (pa_cons (pv 3) pa_nil)))) pss_nil))))
      (C8.pss_cut (ps_for PassesOwn.never rfl (pi_range2 rfl mR (pa_cons pe_int (pa_cons pe_int pa_nil))) (pg_name (i := 5) scLaw.nd rfl (Or.inl rfl))
        (pss_one (ps_if (pt_cmpR (op_inO mIn GIn (hr.mono (show 1 ≤ 12 by decide)) bIn) (pv 5) (pv 1) (by rfl)) (pss_one (ps_expr (pe_meth (pv 1) T.cl mA GA (hr.mono (show 7 ≤ 12 by decide)) bA .nil passX (pa_cons (pv 5) pa_nil)))) pss_nil)))
      (pss_cons (ps_set (i := 6) scLaw.nd rfl (Or.inl rfl) (pe_prop (pv 1) T.cl PH GH (hr.mono (show 2 ≤ 12 by decide)) bH .nil pass0 rfl))
      (pss_cons (ps_if (PW.pt (pw_or (pt_cmpR (op_neD (by exact hu64)) (pe_call GB (hr.mono (show 5 ≤ 12 by decide)) rfl mB kB bB .nil pass0 (pa_cons (pv 6) pa_nil)) (pe_tup (pa_cons pe_non (pa_cons pe_non (pa_cons pe_non pa_nil)))) (nomark _)) (pw_or (pt_cmpR op_notN (pe_call GR (hr.mono (show 11 ≤ 12 by decide)) rfl mRo kR bR .nil pass0 (pa_cons (pv 6) pa_nil)) pe_non (nomark _)) (pw_or1 (pt_cmpR op_notN (pe_meth0 (pv 1) T.cl mD GD hr bD .nil pass0) pe_non (nomark _)))))) (pss_one ps_never) pss_nil)
      (pss_cons (ps_setLc (i := 7) (own := [("_law_op", 8)]) (g := gName 8) rfl scLaw.nd rfl rfl (sw_true rfl rfl rfl (by decide +kernel)) (pi_list (pv 6))
        (blkOk_by (own := [("_law_op", 8)]) (N := ["_law_script", "_law_manager", "_law_answered", "_law_call", "_law_told", "_law_t", "_law_happened", "_law_commits", "_law_op", "_law_second"]) (sc := defScope sLaw) (by decide +kernel))
        (fun _ _ _ _ _ => pg_name (i := 8) scLaw.nd rfl (Or.inl rfl))
        (fun _ _ _ _ _ => pts_one (pt_cmpR op_eq (pe_ix (r := rIxT K) ix_tup (pv 8) pe_int (fun _ _ => rfl)) pe_str (nomark _)))
        (fun _ _ _ _ _ => pe_ix (r := rIxT K) ix_tup (pv 8) pe_int (fun _ _ => rfl)))
      (pss_cons (ps_set (i := 9) scLaw.nd rfl (Or.inl rfl) (pe_make0 MM GM hr3 rfl gM bM .nil pass0))
      (C8.pss_cut (ps_for PassesOwn.never rfl (pi_list (pv 7)) (pg_name (i := 5) scLaw.nd rfl (Or.inl rfl))
        (pss_cons (ps_for PassesOwn.never rfl (pi_list (pv 2)) (pg_name (i := 3) scLaw.nd rfl (Or.inl rfl))
          (pss_one (ps_if (PW.pt (pw_and (pt_cmpR op_eq (pe_ix (r := rIxT K) ix_tup (pv 3) pe_int (fun _ _ => rfl)) (pv 5) (nomark _)) (pw_and1 (pt_not (pt_val (pe_callB call_isi (by rfl) mI (by decide +kernel) (pa_cons (pe_call GDo hr8 rfl mDo kDo bDo .nil pass0 (pa_cons (pv 9) (pa_cons (pv 3) pa_nil))) (pa_cons (pe_bltn (v := V.ty "int") (by rfl) mInt (by decide +kernel) rfl) pa_nil)))))))) (pss_one ps_never) pss_nil)))
        (pss_one (ps_expr (pe_meth (pv 9) T.cl mC GC (hr.mono (show 7 ≤ 12 by decide)) bC' .nil passX (pa_cons (pv 5) pa_nil))))))
      (pss_one (ps_ret (pe_cmpR (op_eqD (by exact hu64)) (pe_prop (pv 9) T.cl PC GCo (hr.mono (show 3 ≤ 12 by decide)) bC .nil pass0 rfl) (pe_prop (pv 1) T.cl PC GCo (hr.mono (show 3 ≤ 12 by decide)) bC .nil pass0 rfl) (nomark _))))))))))))), ?_⟩
    -- _law_manager = Manager()
    intro M dxM nM ndM neM
    have hb0 : upd H dxM (.own M) M = none := by rw [upd_ne neM.symm]; exact nM
    refine ⟨M, dxM, upd H dxM (.own M), rfl, upd_same, same_upd hb0, hb0, fun H1 X1 => ⟨rfl, ?_⟩⟩
    have s1 : Same H H1 := (same_upd ndM).trans X1.sub
    obtain ⟨τT, τW, τM, T0, W0, dx, lg, ov, op, wd, X1⟩ := X1
    -- _law_answered = []
    refine ⟨Nat.zero_le _, fun R hR => ?_⟩
    have sR := same_upd (o := .lst []) hR
    have X2 := X1.same sR
    -- the first loop
    refine ⟨fun σ H' => ∃ (Hb : Hp) (s : St) (ans : List Call) (as : List V) (u3 u4 : Option V), σ = [some (.ref a), some (.ref M), some (.ref R), u3, u4, none, none, none, none, none] ∧ MgrA CM CT CW R Hb H' M s 200 ∧ Inv1 s ans ∧ H' R = some (.lst as) ∧ Paired (CallV Hb) as ans ∧ as.length ≤ 50 ∧ Hb R = none, ?_, ?_⟩
    · obtain ⟨many, hm1, hm2⟩ : ∃ many : Nat, (many : Int) = (if (10 : Int) + ((ns.map V.int).length : Nat) < 50 then (10 : Int) + ((ns.map V.int).length : Nat) else 50) ∧ many ≤ 50 := by
        by_cases c : (10 : Int) + ((ns.map V.int).length : Nat) < 50
        · exact ⟨10 + (ns.map V.int).length, by rw [if_pos c]; omega, by omega⟩
        · exact ⟨50, by rw [if_neg c]; rfl, Nat.le_refl _⟩
      have hS2 := (s1.trans sR).seq hS
      refine ⟨_, rfl, _, rfl, _, _, rfl, .inl ⟨_, hS2, rfl⟩, _, _, rfl, rfl, 50, _, rfl, ?_⟩
      rw [← hm1]
      refine ⟨a, ns, 0, many, rfl, hS2, by omega, fun H3 p xs cs s3 hp ep pc lc => ?_⟩
      have X3 := X2.same s3
      have eR3 := s3 _ _ (upd_same (H := H1) (a := R) (o := .lst []))
      have pR : p ≠ R := fun z => by rw [z, upd_same] at hp; cases hp
      obtain ⟨Hb, A3, hbR, keep⟩ := X3.startA (X1.tab.own.new hR) (X1.work.own.new hR) (X1.o.own.new hR)
      have ebp : Hb p = some (.lst xs) := keep p _ pR (X2.tab.own.new hp) (X2.work.own.new hp) (X2.o.own.new hp) ep
      have pcb : Paired (CallV Hb) xs cs := Paired.mono (fun v c ⟨b, e, hb⟩ => ⟨b, e, keep b _ (ne_of hb eR3 (by intro z; cases z)) (X3.tab.own.tup hb) (X3.work.own.tup hb) (X3.o.own.tup hb) hb⟩) pc
      have xl : xs.length = many := by rw [pc.length, lc]
      refine ⟨p, rfl, ⟨_, SqL.of ep⟩, for_list (K := K) (a := p) (xs := xs) (fun i σ H' => ∃ (s : St) (ans : List Call) (as : List V) (u3 u4 : Option V), σ = [some (.ref a), some (.ref M), some (.ref R), u3, u4, none, none, none, none, none] ∧ MgrA CM CT CW R Hb H' M s (3 * i) ∧ Inv1 s ans ∧ H' R = some (.lst as) ∧ Paired (CallV Hb) as ans ∧ as.length ≤ i)
        ⟨St.new, [], [], none, none, rfl, A3, Inv1.new, eR3, .nil, Nat.zero_le _⟩ (fun i σ H' _ h => by obtain ⟨_, _, _, _, _, _, h, _⟩ := h; exact SqL.of (h.at.sub _ _ ebp)) ?_ ?_⟩
      · rintro i y σ H' hi ⟨S, ans, as, u3, u4, rfl, Am, I, eR, pa, la⟩
        have il : i < xs.length := (List.getElem?_eq_some_iff.mp hi).1
        obtain ⟨c, hc, ac, rfl, hac⟩ := pget pcb hi
        obtain ⟨Hc, Xc, hcR, sbc⟩ := Am.to
        have eac : H' ac = some (.tup (callVs c)) := Am.at.sub _ _ hac
        refine ⟨_, rfl, _, rfl, M, ac, c, Hc, S, 3 * i, rfl, eac, Xc, by omega, I.qok, fun ref H4 q ys s4 eq => ?_, fun nr H4 S' r v st X4 rv => ?_⟩
        · refine ⟨_, rfl, .ref q, .ty "int", .type "tuple", .type "int", false, rfl, .ty "int", .base (.tup eq), kit_ty (by decide +kernel), false, rfl, iteF (iteF ?_)⟩
          exact ⟨S, ans, as, _, _, rfl, (Am.same s4).mono (by omega), I, s4 _ _ eR, pa, by omega⟩
        · obtain ⟨A4, eR4, sb4⟩ := MgrA.of X4 (hcR _ eR) sbc
          have I' := I.step st
          have A4 := A4.mono (show 3 * i + 3 ≤ 3 * (i + 1) by omega)
          cases hst : c.step?.isSome with
          | false =>
            obtain ⟨p5, ws, rfl, e5⟩ := rv.2 hst
            obtain rfl := step_none st hst
            refine ⟨_, rfl, .ref p5, .ty "int", .type "list", .type "int", false, rfl, .ty "int", .base (.lst e5), kit_ty (by decide +kernel), false, rfl, iteF (iteF ?_)⟩
            exact ⟨S', ans, as, _, _, rfl, A4, I', eR4, pa, by omega⟩
          | true =>
            obtain rfl := rv.1 hst
            cases r with
            | none =>
              refine ⟨_, rfl, .non, .ty "int", .type "NoneType", .type "int", false, rfl, .ty "int", .base .non, kit_ty (by decide +kernel), false, rfl, iteF (iteF ?_)⟩
              exact ⟨S', ans, as, _, _, rfl, A4, I', eR4, pa, by omega⟩
            | some k0 =>
              have eac4 : H4 ac = some (.tup (callVs c)) := sb4 _ _ hac
              refine ⟨_, rfl, .int k0, .ty "int", .type "int", .type "int", true, rfl, .ty "int", .base (.int k0), kit_ty (by decide +kernel), true, rfl, iteT ?_⟩
              refine ⟨_, rfl, ac, callVs c, rfl, .inr (SqT.of eac4), _, _, rfl, rfl, _, rfl, ?_⟩
              refine iteDec (fun _ => ?_) (fun z => absurd (call_len2 hst) z)
              refine ⟨_, rfl, .inl ⟨rfl, _, SqL.of eR4⟩, _, rfl, R, as, _, rfl, rfl, eR4, lt_line (by omega), ?_⟩
              exact ⟨S', ans ++ [c], as ++ [.ref ac], _, _, rfl, A4.put hbR eR4 True.intro, I', upd_same, pappend pa (.cons ⟨ac, rfl, hac⟩ .nil), by rw [List.length_append]; show as.length + 1 ≤ i + 1; omega⟩
      · rintro σ H' ⟨S, ans, as, u3, u4, rfl, Am, I, eR, pa, la⟩
        exact ⟨Hb, S, ans, as, u3, u4, rfl, Am.mono (by omega), I, eR, pa, by omega, hbR⟩
    rintro σ H3 ⟨Hb, S3, ans, as, u3, u4, rfl, A3, I3, eR3, pa, la, hbR⟩
    -- all that is open is aborted
    refine ⟨fun σ H' => ∃ (s : St) (u5 : Option V), σ = [some (.ref a), some (.ref M), some (.ref R), u3, u4, u5, none, none, none, none] ∧ MgrA CM CT CW R Hb H' M s 230 ∧ End1 s ans ∧ H' R = some (.lst as), ?_, ?_⟩
    · refine ⟨1, 9, rfl, ⟨by decide, by decide, by decide, by decide⟩, for_range (n := 8) (fun j σ H' => ∃ (s : St) (u5 : Option V), σ = [some (.ref a), some (.ref M), some (.ref R), u3, u4, u5, none, none, none, none] ∧ MgrA CM CT CW R Hb H' M s (200 + 3 * j) ∧ Inv1 s ans ∧ H' R = some (.lst as) ∧ ∀ t ∈ s.opn, t ≤ (j : Int) → t ∈ s.over)
        ⟨S3, none, rfl, A3, I3, eR3, fun t ht h => absurd (I3.opn8 t ht).1 (by have : t ≤ 0 := h; omega)⟩ ?_ ?_⟩
      · rintro j σ H' hj ⟨S, u5, rfl, Am, I, eR, hall⟩
        obtain ⟨dxm, T1, W1, lg1, ov1, op1, wd1, eM⟩ := Am.at.ins
        refine ⟨_, rfl, _, rfl, M, dxm, _, rfl, eM, M, 1 + j, Hb, S, _, rfl, Am.at, _, rfl, _, rfl, ?_⟩
        refine iteDec (fun c => ?_) (fun c => ?_)
        · obtain ⟨Hc, Xc, hcR, sbc⟩ := Am.to
          have ok := ab_ok (s := S) (t := 1 + (j : Int)) (by omega) (by omega) c.2
          refine ⟨_, rfl, M, dxm, _, rfl, eM, mf_no T1 W1 lg1 ov1 op1 wd1 (by decide +kernel), _, rfl, M, .ab (1 + j), Hc, S, 200 + 3 * j, rfl, ⟨_, rfl⟩, Xc, by omega, I.qok, fun ref => absurd ref ok, fun nr H5 S' r v st X5 rv => ?_⟩
          obtain ⟨A5, eR5, _⟩ := MgrA.of X5 (hcR _ eR) sbc
          have I' := I.step st
          obtain ⟨o1, o2, rfl⟩ := ab_opn st
          refine ⟨S', _, rfl, A5.mono (by omega), I', eR5, fun t ht h => ?_⟩
          rw [o1, mem_note] at ht
          rw [o2, mem_snoc]
          by_cases z : t = 1 + j
          · exact .inr z
          · refine .inl (hall t (ht.resolve_right z) ?_)
            have h' : t ≤ ((j + 1 : Nat) : Int) := h
            omega
        · refine ⟨S, _, rfl, Am.mono (by omega), I, eR, fun t ht h => ?_⟩
          by_cases z : t = 1 + j
          · subst z
            refine Classical.byContradiction fun q => c ⟨ht, q⟩
          · refine hall t ht ?_
            have h' : t ≤ ((j + 1 : Nat) : Int) := h
            omega
      · rintro σ H' ⟨S, u5, rfl, Am, I, eR, hall⟩
        exact ⟨S, u5, rfl, Am.mono (by omega), ⟨I, fun t ht => hall t ht (by have := (I.opn8 t ht).2; exact this)⟩, eR⟩
    rintro σ H5 ⟨S, u5, rfl, A5, E1, eR5⟩
    -- the history
    obtain ⟨dxm, T1, W1, lg1, ov1, op1, wd1, eM5⟩ := A5.at.ins
    refine ⟨_, rfl, M, dxm, _, rfl, eM5, M, Hb, S, 230, rfl, A5.at, fun H6 ph xs s6 nph eh oh => ?_⟩
    have sl : S.sched.length ≤ 230 := A5.at.len
    have A6 := A5.same s6
    -- breaks
    refine ⟨_, rfl, ph, xs, S.sched, S.over, rfl, SqL.of eh, oh, by omega, E1.inv.sch, fun H7 q7 s7 e7 => ?_⟩
    refine ⟨(by show 3 ≤ sizeLine; decide), fun q8 hq8 => ?_⟩
    have s8 := same_upd (o := .tup [V.non, V.non, V.non]) hq8
    refine ⟨.tuple [.none, .none, .none], .tuple [.none, .none, .none], .tup (SqT.of (s8 _ _ e7)) (.cons .non (.cons .non (.cons .non .nil))), .tup (SqT.of upd_same) (.cons .non (.cons .non (.cons .non .nil))), by kernel_rfl, by kernel_rfl, _, rfl, ?_⟩
    have e3 : PyData.eqv (.tuple [.none, .none, .none]) (.tuple [.none, .none, .none]) = true := by simp [PyData.eqv, PyData.eqvAll]
    rw [e3]
    refine iteF ?_
    -- ring_of
    have s68 := s7.trans s8
    refine ⟨_, rfl, ph, xs, S.sched, S.over, rfl, SqL.of (s68 _ _ eh), oh.same s68, by omega, E1.inv.sch, E1.fin, fun o ho => E1.inv.opn8 _ (E1.inv.schO o ho), fun H9 s9 => ⟨rfl, _, rfl, iteF ?_⟩⟩
    -- deadlock
    have s69 := s68.trans s9
    have A9 := A6.same s69
    obtain ⟨dxn, T2, W2, lg2, ov2, op2, wd2, eM9⟩ := A9.at.ins
    refine ⟨_, rfl, M, dxn, _, rfl, eM9, mf_no T2 W2 lg2 ov2 op2 wd2 (by decide +kernel), M, Hb, S, 230, rfl, A9.at, E1.q, fun H10 s10 => ⟨rfl, _, rfl, iteF ?_⟩⟩
    have s610 := s69.trans s10
    have eh10 := s610 _ _ eh
    -- the commits
    refine ⟨_, rfl, ph, rfl, ⟨_, SqL.of eh10⟩, fun D hD => ?_⟩
    have oh10 := oh.same s610
    refine lc_list (K := K) (a := ph) (xs := xs) (fun j H' => Same H10 H' ∧ H' D = some (.lst ((commits (S.sched.take j)).map V.int)) ∧ (commits (S.sched.take j)).length ≤ j) ⟨same_upd hD, upd_same, Nat.zero_le _⟩ (fun j H' _ h => SqL.of (h.1 _ _ eh10)) ?_ ?_
    · rintro j y H' hj ⟨s11, e11, l11⟩
      obtain ⟨o, ho, b, rfl, hb⟩ := pget oh10 hj
      have jl : j < S.sched.length := (List.getElem?_eq_some_iff.mp ho).1
      refine ⟨rfl, ?_⟩
      refine ⟨_, rfl, _, _, _, _, rfl, rfl, SqT.of (s11 _ _ hb), at_of (j := 0) rfl (opVs_0 o), rfl, _, rfl, ?_⟩
      have cs := (congrArg commits (take_more ho)).trans (commits_snoc (S.sched.take j) o)
      refine iteDec (fun c => ?_) (fun c => ?_)
      · have eo := word_cm.mp (strI.mp c)
        have co : commit? o = some o.tx := by rw [eo]; rfl
        rw [co] at cs
        refine ⟨_, rfl, _, _, _, _, rfl, rfl, SqT.of (s11 _ _ hb), at_of (j := 1) rfl (opVs_1 o), _, e11, lt_line (by rw [List.length_map]; omega), same_put s11 hD, ?_, ?_⟩
        · rw [upd_same, cs, map_snoc]
        · rw [cs, List.length_append]
          show _ + 1 ≤ j + 1
          omega
      · have co : commit? o = none := by
          cases o with
          | cm t => exact absurd rfl c
          | _ => rfl
        rw [co] at cs
        have cs : commits (S.sched.take (j + 1)) = commits (S.sched.take j) := cs.trans (List.append_nil _)
        refine ⟨s11, ?_, ?_⟩
        · rw [cs]; exact e11
        · rw [cs]; omega
    rintro H11 ⟨s11, e11, _⟩
    rw [oh10.length, List.take_length] at e11
    have A11 := A9.same (s10.trans s11)
    have eR11 : H11 R = some (.lst as) := s11 _ _ (s610 _ _ (s6 _ _ eR5))
    have cnd := E1.inv.sch.commits_nd
    have c8 : (commits S.sched).length ≤ 8 := nodup_le 8 1 _ cnd fun t ht => by have := E1.cm ht; omega
    have lan : ans.length = as.length := pa.length.symm
    -- _law_second = Manager()
    intro M2 dx2 n2 nd2 ne2
    have hb2 : upd H11 dx2 (.own M2) M2 = none := by rw [upd_ne ne2.symm]; exact n2
    refine ⟨M2, dx2, upd H11 dx2 (.own M2), rfl, upd_same, same_upd hb2, hb2, fun H12 X12 => ⟨rfl, ?_⟩⟩
    have sb : Same H11 (upd H11 dx2 (.own M2)) := same_upd nd2
    generalize upd H11 dx2 (.own M2) = B at X12 sb
    have eRB := sb _ _ eR11
    have eDB := sb _ _ e11
    have pab : Paired (CallV B) as ans := Paired.mono (fun v c z => z.tk (Same.tk (A11.at.sub.trans sb))) pa
    refine ⟨fun σ H' => ∃ (s2 : St) (n2 : Nat) (v3 v5 : Option V), σ = [some (.ref a), some (.ref M), some (.ref R), v3, u4, v5, some (.ref ph), some (.ref D), none, some (.ref M2)] ∧ MgrAt CM CT CW B H' M2 s2 n2 ∧ s2.amt = S.amt, ?_, ?_⟩
    · refine ⟨_, rfl, D, rfl, ⟨_, SqL.of (X12.sub _ _ eDB)⟩, for_list (K := K) (a := D) (xs := (commits S.sched).map V.int) (fun k σ H' => ∃ (s2 : St) (v3 v5 : Option V), σ = [some (.ref a), some (.ref M), some (.ref R), v3, u4, v5, some (.ref ph), some (.ref D), none, some (.ref M2)] ∧ MgrAt CM CT CW B H' M2 s2 (k * 200) ∧ Idle s2 (serial ans ((commits S.sched).take k)) ((commits S.sched).take k))
        ⟨St.new, u3, u5, rfl, X12.mono (by omega), Idle.new⟩ (fun k σ H' _ h => by obtain ⟨_, _, _, _, h, _⟩ := h; exact SqL.of (h.sub _ _ eDB)) ?_ ?_⟩
      · rintro k0 y σ H' hk ⟨s2, v3, v5, rfl, Xm, Id⟩
        rw [List.getElem?_map] at hk
        obtain ⟨t, ht, rfl⟩ := Option.map_eq_some_iff.mp hk
        have kl : k0 < (commits S.sched).length := (List.getElem?_eq_some_iff.mp ht).1
        have tk := take_more ht
        have tn : t ∉ (commits S.sched).take k0 := fun z => by
          have nd2 : ((commits S.sched).take (k0 + 1)).Nodup := List.Nodup.sublist (List.take_sublist _ _) cnd
          rw [tk] at nd2
          exact (List.nodup_append.mp nd2).2.2 t z t (List.mem_singleton.mpr rfl) rfl
        have t18 := E1.cm (List.mem_of_getElem? ht)
        refine ⟨_, rfl, R, rfl, ⟨_, SqL.of (Xm.sub _ _ eRB)⟩, for_list (K := K) (a := R) (xs := as) (fun j σ H' => ∃ (s2 : St) (v3 : Option V), σ = [some (.ref a), some (.ref M), some (.ref R), v3, u4, some (.int t), some (.ref ph), some (.ref D), none, some (.ref M2)] ∧ MgrAt CM CT CW B H' M2 s2 (k0 * 200 + 3 * j) ∧ Busy s2 (serial ans ((commits S.sched).take k0)) ((commits S.sched).take k0) t (ofT (ans.take j) t))
          ⟨s2, v3, rfl, Xm, Id.busy tn⟩ (fun j σ H' _ h => by obtain ⟨_, _, _, h, _⟩ := h; exact SqL.of (h.sub _ _ eRB)) ?_ ?_⟩
        · rintro j y σ H'' hj ⟨s3, v3', rfl, Xj, Bj⟩
          have jl : j < as.length := (List.getElem?_eq_some_iff.mp hj).1
          obtain ⟨c, hc, ac, rfl, hac⟩ := pget pab hj
          have eac : H'' ac = some (.tup (callVs c)) := Xj.sub _ _ hac
          refine ⟨_, rfl, _, _, _, _, rfl, rfl, SqT.of eac, at_of (j := 1) rfl (callVs_1 c), _, rfl, rfl, _, rfl, ?_⟩
          refine iteDec (fun e => ?_) (fun ne => iteF ?_)
          · have et : c.tx = t := intI.mp e
            have nrB := Bj.ok t18 tn et
            refine ⟨_, rfl, _, rfl, M2, ac, c, B, s3, k0 * 200 + 3 * j, rfl, eac, Xj, by omega, fun i p hp => (by rw [Bj.q i] at hp; cases hp), fun ref => absurd ref nrB, fun nr H6' S' r v st X' rv => ?_⟩
            have hst := E1.inv.ansS c (List.mem_of_getElem? hc)
            obtain ⟨rs, B'⟩ := Bj.step hst et st
            obtain ⟨z, rfl⟩ := Option.isSome_iff_exists.mp rs
            obtain rfl := rv.1 hst
            refine ⟨.int z, .ty "int", .type "int", .type "int", true, rfl, .ty "int", .base (.int z), kit_ty (by decide +kernel), true, rfl, ?_⟩
            show if false = true then _ else _
            refine iteF ⟨S', _, rfl, X'.mono (by omega), ?_⟩
            have eo : ofT (ans.take (j + 1)) t = ofT (ans.take j) t ++ [c] := by
              rw [take_more hc, ← et]
              exact ofT_snoc_same _ _
            rw [eo]
            exact B'
          · refine ⟨s3, _, rfl, Xj.mono (by omega), ?_⟩
            have eo : ofT (ans.take (j + 1)) t = ofT (ans.take j) t := by
              rw [take_more hc]
              exact ofT_snoc_ne fun z => ne (intI.mpr z.symm)
            rw [eo]
            exact Bj
        · rintro σ H'' ⟨s3, v3', rfl, Xj, Bj⟩
          rw [← lan, List.take_length] at Bj
          obtain ⟨dxq, T3, W3, lg3, ov3, op3, wd3, eM3⟩ := Xj.ins
          have nrB : ¬ Refused s3 (.cm t) := Bj.ok t18 tn rfl
          refine ⟨_, rfl, M2, dxq, _, rfl, eM3, mf_no T3 W3 lg3 ov3 op3 wd3 (by decide +kernel), _, rfl, M2, .cm t, B, s3, _, rfl, ⟨t, rfl⟩, Xj, by omega, fun i p hp => (by rw [Bj.q i] at hp; cases hp), fun ref => absurd ref nrB, fun nr H6' S' r v st X' rv => ?_⟩
          refine ⟨S', _, _, rfl, X'.mono (by rw [Nat.add_mul]; omega), ?_⟩
          rw [tk, serial_commit]
          exact Bj.commit st
      · rintro σ H' ⟨s2, v3, v5, rfl, Xm, Id⟩
        rw [List.length_map, List.take_length] at Id
        exact ⟨s2, _, v3, v5, rfl, Xm, Id.amt.trans E1.amt.symm⟩
    rintro σ H13 ⟨s2, n2', v3, v5, rfl, X13, eamt⟩
    -- the contents
    obtain ⟨dxq, T3, W3, lg3, ov3, op3, wd3, eM3⟩ := X13.ins
    refine ⟨_, rfl, M2, dxq, _, rfl, eM3, M2, B, s2, n2', rfl, X13, fun H14 p1 ys1 s14 _ ec1 pd1 => ?_⟩
    have A14 := A11.same (sb.trans (X13.sub.trans s14))
    obtain ⟨dxz, T4, W4, lg4, ov4, op4, wd4, eM4⟩ := A14.at.ins
    refine ⟨_, rfl, M, dxz, _, rfl, eM4, M, Hb, S, 230, rfl, A14.at, fun H15 p2 ys2 s15 _ ec2 pd2 => ?_⟩
    refine ⟨toldD (told s2.amt), toldD (told S.amt), .lst (SqL.of (s15 _ _ ec1)) (toldD_all (Paired.mono (fun _ _ z => z.same s15) pd1)), .lst (SqL.of ec2) (toldD_all pd2), told_sh _, told_sh _, ?_⟩
    rw [eamt, toldD_refl]
    exact k H15
end
end K61
set_option Elab.async false
set_option linter.all false
set_option maxRecDepth 100000
set_option maxHeartbeats 4000000
/-! The head's Hook: the library's facts, and defs at addresses that the class does not name (property getters, a def with a cell). -/
namespace K61
open PySem PySem.Spec PyProof.Rows L2
open He (Fa DefD Tab ga ma eqO ba)
open PySem.HandSPX (refsVE)
/-- a property of the class x: its object, its getter -/
def prAd (K : PySem.W.Frag) (x m : Str) : Addr := ma K (ga K x) m
def geAd (K : PySem.W.Frag) (x m : Str) : Addr := match PySem.W.recIn K (prAd K x m) "property" with
  | some (.ref g :: _) => g
  | _ => 0
def propB (K : PySem.W.Frag) (x m : Str) : Bool := eqO (PySem.W.findIn K (.ref (ga K x)) m) (some (some (.ref (prAd K x m)))) && (eqO (PySem.W.specialIn K (.ref (prAd K x m)) "__get__") (some (some (.builtin "property.__get__"))) && (decide (PySem.W.takesIn K (.ref (prAd K x m)) = some true) &&
  (match PySem.W.recIn K (prAd K x m) "property" with
  | some (.ref g :: _) => true
  | _ => false)))
theorem propB_ok {K : PySem.W.Frag} {x m : Str} (h : propB K x m = true) : PropOf K (ga K x) m (prAd K x m) (geAd K x m) := by
  obtain ⟨h1, h⟩ := ba h
  obtain ⟨h2, h⟩ := ba h
  obtain ⟨h3, h4⟩ := ba h
  refine ⟨He.eqO_ok h1, He.eqO_ok h2, of_decide_eq_true h3, ?_⟩
  unfold geAd
  split at h4
  · rename_i g l e
    exact ⟨l, by rw [e]⟩
  · cases h4
/-- a def at an address -/
abbrev FnX : Type := Option (Str × Str × Arguments × FuncBody × Scope × Addr × List Str × Addr)
def fnX' (K : PySem.W.Frag) (a : Addr) : FnX := match K.lookup a with
  | some ⟨_, _, .func fd, _⟩ => some (fd.name, fd.qualname, fd.params, fd.body, fd.scope, fd.globals, fd.closure.map (·.1), fd.builtins)
  | _ => none
structure DefX where
  adr : PySem.W.Frag → Addr
  name : Str
  qual : Str
  params : Arguments
  body : List Stmt
  scope : Scope
  clo : List Str
def DefX.val (d : DefX) : FnX := some (d.name, d.qual, d.params, .stmts d.body, d.scope, mainGlobals, d.clo, builtinsNs)
def noneB : Value → Bool
  | .none => true
  | _ => false
theorem noneB_ok {v : Value} (h : noneB v = true) : v = .none := by
  cases v with
  | none => rfl
  | _ => cases h
/-- its code, no defaults -/
def dxB (K : PySem.W.Frag) (d : DefX) : Bool := PySem.W.keepIn K (.ref (d.adr K)) && (match K.lookup (d.adr K) with
  | some ⟨_, _, .func fd, _⟩ => PySem.W.codeIn K fd.code d.qual && noneB fd.defaults
  | _ => false)
theorem dx_ok {K : PySem.W.Frag} {d : DefX} (e : fnX' K (d.adr K) = d.val) (c : dxB K d = true) : PySem.W.keepIn K (.ref (d.adr K)) = true ∧ ∃ oc od kV doc pm an cdv ct osl cl,
    K.lookup (d.adr K) = some ⟨oc, od, .func (PySem.W.fnX d.name d.qual d.params d.body d.scope cl .none kV doc pm an cdv ct), osl⟩ ∧ PySem.W.codeIn K cdv d.qual = true ∧ cl.map (·.1) = d.clo := by
  obtain ⟨kp, c2⟩ := ba c
  refine ⟨kp, ?_⟩
  unfold fnX' at e
  cases q : K.lookup (d.adr K) with
  | none =>
    rw [q] at c2
    cases c2
  | some o =>
    obtain ⟨oc, od, dt, osl⟩ := o
    rw [q] at c2 e
    cases dt with
    | func fd =>
      obtain ⟨n1, n2, n3, n4, n5, n6, n7, n8, n9, n10, n11, n12, n13, n14, n15⟩ := fd
      have e2 : (some (n1, n2, n3, n4, n5, n6, n7.map (·.1), n15) : FnX) = some (d.name, d.qual, d.params, .stmts d.body, d.scope, mainGlobals, d.clo, builtinsNs) := e
      simp only [Option.some.injEq, Prod.mk.injEq] at e2
      obtain ⟨h1, h2, h3, h4, h5, h6, h7, h8⟩ := e2
      subst h1 h2 h3 h4 h5 h6 h8
      obtain ⟨k1, k2⟩ := ba (show (PySem.W.codeIn K n13 d.qual && noneB n8) = true from c2)
      obtain rfl := noneB_ok k2
      exact ⟨oc, od, n9, n10, n11, n12, n13, n14, osl, n7, rfl, k1, h7⟩
    | _ => cases c2
/-- a def without a cell: FunD -/
theorem dx_fun {K : PySem.W.Frag} {d : DefX} (e : fnX' K (d.adr K) = d.val) (c : dxB K d = true) (h : d.clo = []) : ∃ fd, FunD K d.name d.qual d.params d.body d.scope [] [] (d.adr K) fd := by
  obtain ⟨kp, oc, od, kV, doc, pm, an, cdv, ct, osl, cl, lk, hc, hcl⟩ := dx_ok e c
  rw [h] at hcl
  obtain rfl := List.map_eq_nil_iff.mp hcl
  exact ⟨_, ⟨oc, od, .none, kV, doc, pm, an, cdv, ct, osl, rfl, lk, hc, .inl ⟨rfl, rfl⟩, .inl rfl⟩, kp⟩
/-! ### ManagerError -/
abbrev meAd (K : PySem.W.Frag) : Addr := ga K "ManagerError"
abbrev miAd (K : PySem.W.Frag) : Addr := ma K (meAd K) "__init__"
def meC (K : PySem.W.Frag) : Bool := match K.lookup (meAd K) with
  | some ⟨.type "type", _, .cls cd, sl⟩ => (match cd.mro, sl.toList with
    | .ref C' :: bm, [_, _, _, _, some (.builtin n), _] => C' == meAd K && n == "ValueError.__new__" && !cd.hasDel && cd.hasDict && refsVE bm
    | _, _ => false)
  | _ => false
theorem meC_ok {K : PySem.W.Frag} (q : meC K = true) : ∃ nm q N bs bm sn sub ab col dd k0 k1 k2 k3 k5, K.lookup (meAd K) = some (excClassObj nm q (meAd K) N bs bm true sn sub ab col dd k0 k1 k2 k3 k5 "ValueError.__new__") ∧ refsVE bm = true := by
  unfold meC at q
  split at q
  · rename_i dd cd sl ho
    split at q
    · rename_i C' bm k0 k1 k2 k3 n k5 hm hs
      simp only [Bool.and_eq_true, beq_iff_eq, Bool.not_eq_true'] at q
      obtain ⟨⟨⟨⟨hC, hn⟩, hdel⟩, hd0⟩, ht⟩ := q
      obtain ⟨nm, bs, mro, ns, qn, hd, sn, sub, ab, col, del⟩ := cd
      dsimp only at hm hdel hd0
      subst hm hdel hd0 hn
      have hsl : sl = #[k0, k1, k2, k3, some (.builtin "ValueError.__new__"), k5] := by
        obtain ⟨l⟩ := sl
        simp only at hs
        rw [hs]
      subst hsl
      rw [hC] at ho
      exact ⟨nm, qn, ns, bs, bm, sn, sub, ab, col, dd, k0, k1, k2, k3, k5, ho, ht⟩
    · cases q
  · cases q
/-- the cell, the code object's file -/
def celB (K : PySem.W.Frag) (D : Addr) : List (Str × Addr) → Bool
  | [q] => (match K.lookup q.2 with
    | some ⟨_, _, .cell (some (.ref D')), _⟩ => D' == D
    | _ => false)
  | _ => false
def filB (file : Str) : Option Value → Bool
  | some (.str f _) => decide (f = file)
  | _ => false
def codB (K : PySem.W.Frag) (file : Str) : Value → Bool
  | .ref c => (match K.lookup c with
    | some ⟨_, _, .fields vs, _⟩ => filB file vs[2]?
    | _ => false)
  | _ => false
theorem celB_ok {K : PySem.W.Frag} {D : Addr} {cl : List (Str × Addr)} (h : celB K D cl = true) : ∃ q l d sl, cl = [q] ∧ K.lookup q.2 = some ⟨l, d, .cell (some (.ref D)), sl⟩ := by
  unfold celB at h
  split at h
  · rename_i q
    split at h
    · rename_i l d D' sl e
      have z : D' = D := beq_iff_eq.mp h
      rw [z] at e
      exact ⟨q, l, d, sl, rfl, e⟩
    · cases h
  · cases h
theorem codB_ok {K : PySem.W.Frag} {file : Str} {v : Value} (h : codB K file v = true) : ∃ c l d vs sl tf, v = .ref c ∧ K.lookup c = some ⟨l, d, .fields vs, sl⟩ ∧ vs[2]? = some (.str file tf) := by
  unfold codB at h
  split at h
  · rename_i c
    split at h
    · rename_i l d vs sl e
      unfold filB at h
      split at h
      · rename_i f tf e2
        have z : f = file := of_decide_eq_true h
        rw [z] at e2
        exact ⟨c, l, d, vs, sl, tf, rfl, e, e2⟩
      · cases h
    · cases h
  · cases h
def meF (file : Str) (K : PySem.W.Frag) : Bool := match K.lookup (miAd K) with
  | some ⟨_, _, .func fd, _⟩ => celB K (meAd K) fd.closure && (codB K file fd.code && noneB fd.kwdefaults)
  | _ => false
def meB (file : Str) (K : PySem.W.Frag) : Bool := meC K && (meF file K && (eqO (PySem.W.ks_superIn K (meAd K) (meAd K) "__init__") (some (some (.builtin "ValueError.__init__"))) && (eqO (PySem.W.nsIn K cStatics "thirdparty.any") (some none) &&
  (eqO (PySem.W.findIn K (.ref (meAd K)) "__setattr__") (some (some (.builtin "object.__setattr__"))) && (eqO (PySem.W.findIn K (.ref (meAd K)) "__getattribute__") (some (some (.builtin "BaseException.__getattribute__"))) && (eqO (PySem.W.findIn K (.ref (meAd K)) "__getattr__") (some none) &&
  (eqO (PySem.W.findIn K (.ref (meAd K)) "what") (some none) && (eqO (PySem.W.findIn K (.ref (meAd K)) "__init__") (some (some (.ref (miAd K)))) && (decide (PySem.W.typeIn K (.ref (miAd K)) = some (.type "function")) && (PySem.W.keepIn K (.ref (meAd K)) &&
  (decide (PySem.W.subIn K (.ref (meAd K)) (.type "BaseException") = some true) && (decide (PySem.W.subIn K (.ref (meAd K)) (.type "ValueError") = some true) && (decide (PySem.W.mroIn K (meAd K) (.ref (meAd K)) = some true) && (decide (PySem.W.typeIn K (.ref (meAd K)) = some (.type "type")) && (PySem.W.hasDictIn K (meAd K) &&
  (eqO (PySem.W.findIn K (.ref (meAd K)) "__class__") (some (some (.builtin "object.__class__"))) && (eqO (PySem.W.specialIn K (.builtin "object.__class__") "__get__") (some (some (.builtin "getset_descriptor.__get__"))) && (decide (PySem.W.takesIn K (.builtin "object.__class__") = some true) &&
  decide (PySem.W.mroIn K (meAd K) (.type "object") = some true)))))))))))))))))))
def dMI : DefX := ⟨miAd, "__init__", "ManagerError.__init__", L2.defArgs sMErr, L2.defBody sMErr, L2.defScope sMErr, ["__class__"]⟩
theorem me_ok {P : Program} {K : PySem.W.Frag} {h : Heap} {mg : Str → Option Value} (X : K.In h) (G : h.Ns mainGlobals mg) (g : (Fa.glo "ManagerError").ok K = true) (gS : (Fa.free "super").ok K = true) (e : fnX' K (dMI.adr K) = dMI.val) (c : dxB K dMI = true) (b : meB P.main.file K = true) (top : (P.main.scope.names.lookup ("super" : Str)).isSome = false) :
    METxt P K mg (meAd K) (miAd K) ∧ ExcC K (meAd K) := by
  obtain ⟨b1, b⟩ := ba b
  obtain ⟨b2, b⟩ := ba b
  obtain ⟨b3, b⟩ := ba b
  obtain ⟨b4, b⟩ := ba b
  obtain ⟨b5, b⟩ := ba b
  obtain ⟨b6, b⟩ := ba b
  obtain ⟨b7, b⟩ := ba b
  obtain ⟨b8, b⟩ := ba b
  obtain ⟨b9, b⟩ := ba b
  obtain ⟨b10, b⟩ := ba b
  obtain ⟨b11, b⟩ := ba b
  obtain ⟨b12, b⟩ := ba b
  obtain ⟨b13, b⟩ := ba b
  obtain ⟨b14, b⟩ := ba b
  obtain ⟨b15, b⟩ := ba b
  obtain ⟨b16, b⟩ := ba b
  obtain ⟨b17, b⟩ := ba b
  obtain ⟨b18, b⟩ := ba b
  obtain ⟨b19, b20⟩ := ba b
  obtain ⟨kp, oc, od, kV, doc, pm, an, cdv, ct, osl, cl, lk, hc, hcl⟩ := dx_ok e c
  have lk : K.lookup (miAd K) = _ := lk
  unfold meF at b2
  rw [lk] at b2
  obtain ⟨c1, c2⟩ := ba b2
  obtain ⟨c3, c4⟩ := ba c2
  have hcl : cl.map (·.1) = [("__class__" : Str)] := hcl
  obtain ⟨q, l1, d1, sl1, rfl, e1⟩ := celB_ok c1
  obtain ⟨cc, l2, d2, vs, sl2, tf, rfl, e2, e3⟩ := codB_ok c3
  obtain rfl := noneB_ok c4
  obtain ⟨q1, q2⟩ := q
  have hq : q1 = "__class__" := (List.cons.inj hcl).1
  subst hq
  exact ⟨METxt.mk (He.glo_ok X G g) (He.free_ok X G gS) (meC_ok b1) (He.eqO_ok b3) (He.eqO_ok b4) (He.eqO_ok b5) (He.eqO_ok b6) (He.eqO_ok b7) (He.eqO_ok b8) (He.eqO_ok b9) (of_decide_eq_true b10) b11
    (of_decide_eq_true b12) (of_decide_eq_true b13) (of_decide_eq_true b14) (of_decide_eq_true b15) b16 ⟨oc, od, doc, pm, an, cc, q2, ct, osl, vs, tf, l2, l1, d2, d1, sl2, sl1, lk, hc, e2, e3, e1⟩ top,
    ⟨He.eqO_ok b6, He.eqO_ok b7, of_decide_eq_true b12, b16, He.eqO_ok b17, He.eqO_ok b18, of_decide_eq_true b19, of_decide_eq_true b20⟩⟩
/-! ### the Hook -/
def asM (g : Addr → Option Obj) : Nat → List Addr
  | 0 => [mainGlobals, cStatics]
  | n + 1 => He.growD g (asM g n)
abbrev AlM : Type := He.AlT × (Bool × List FnX)
def obsK (fa : List Fa) (fn : List DefD) (ts : List Tab) (dx : List DefX) (ex : PySem.W.Frag → Bool) (K : PySem.W.Frag) : AlM := (He.obsT fa fn ts K, (ex K, dx.map fun d => fnX' K (d.adr K)))
def obsM (n : Nat) (fa : List Fa) (fn : List DefD) (ts : List Tab) (dx : List DefX) (ex : PySem.W.Frag → Bool) (g : Addr → Option Obj) : AlM := obsK fa fn ts dx ex (He.frG g (asM g n))
def valM (fn : List DefD) (ts : List Tab) (dx : List DefX) (w : World) : AlM := (He.valT fn ts w, (true, dx.map DefX.val))
def SaysM (fa : List Fa) (fn : List DefD) (ts : List Tab) (dx : List DefX) (ex : PySem.W.Frag → Bool) (w : World) (K : PySem.W.Frag) : Prop := obsK fa fn ts dx ex K = valM fn ts dx w
def hookM (n : Nat) (fa : List Fa) (fn : List DefD) (ts : List Tab) (dx : List DefX) (ex : PySem.W.Frag → Bool) : PySem.W.Hook where
  α := AlM
  obs := fun s => obsM n fa fn ts dx ex s.heap.get?
  val := fun w => valM fn ts dx w
  says := fun w h => ∃ K : PySem.W.Frag, K.In h ∧ SaysM fa fn ts dx ex w K
  of := fun _ _ e => ⟨_, He.frG_in, e⟩
  keeps := fun _ _ _ ⟨K, hK, c⟩ k => ⟨K, PySem.W.Frag.In.keeps hK k, c⟩
theorem obsM_eq {n : Nat} {fa : List Fa} {fn : List DefD} {ts : List Tab} {dx : List DefX} {ex : PySem.W.Frag → Bool} {g : Addr → Option Obj} {s : Shared} (h : ∀ a, g a = s.heap.get? a) : obsM n fa fn ts dx ex g = (hookM n fa fn ts dx ex).obs s := by
  have e : g = s.heap.get? := funext h
  rw [e] <;> rfl
section
variable {fa : List Fa} {fn : List DefD} {ts : List Tab} {dxs : List DefX} {exb : PySem.W.Frag → Bool} {w : World} {K : PySem.W.Frag}
theorem SaysM.t (c : SaysM fa fn ts dxs exb w K) : He.SaysT fa fn ts w K := congrArg (fun z : AlM => z.1) c
theorem SaysM.ex (c : SaysM fa fn ts dxs exb w K) : exb K = true := congrArg (fun z : AlM => z.2.1) c
theorem SaysM.dx (c : SaysM fa fn ts dxs exb w K) (i : Nat) {d : DefX} (h : dxs[i]? = some d := by rfl) : fnX' K (d.adr K) = d.val := by
  have e : dxs.map (fun d => fnX' K (d.adr K)) = dxs.map DefX.val := congrArg (fun z : AlM => z.2.2) c
  have e2 : (dxs.map fun d => fnX' K (d.adr K))[i]? = (dxs.map DefX.val)[i]? := by rw [e]
  rw [List.getElem?_map, List.getElem?_map, h] at e2
  exact Option.some.inj e2
end
end K61
set_option Elab.async false
set_option linter.all false
set_option maxRecDepth 100000
set_option maxHeartbeats 4000000
/-! The head's lists; all defs' promises from the facts. Printed by gen2.py. -/
namespace K61
open PySem PySem.Spec PyProof.Rows L2
def dfn (x : Str) (s : Stmt) : He.DefD := ⟨(x, none), x, x, defArgs s, defBody s, defScope s, [], []⟩
def dme (c x q : Str) (s : Stmt) : He.DefD := ⟨(c, some x), x, q, defArgs s, defBody s, defScope s, [], []⟩
def hfn : List He.DefD := [dfn "law" sLaw, dfn "_law_cell" sCell, dfn "_law_draw" sDraw, dfn "_law_do" sDo, dfn "_law_calls" sCalls, dfn "ended_before" sEnded, dfn "writer_at" sWriter, dfn "is_dirty" sDirty, dfn "commits_early" sEarly, dfn "first_place" sFirst, dfn "breaks" sBreaks, dfn "without_aborted" sNoAb, dfn "do_conflict" sConf, dfn "conflict_graph" sGraph, dfn "closing" sClos, dfn "ring_in" sRing, dfn "ring_of" sRingOf, dfn "are_compatible" sCompat, dfn "told_values" sTold, dme "LockTable" "__init__" "LockTable.__init__" (sLT 0), dme "LockTable" "holders" "LockTable.holders" (sLT 1), dme "LockTable" "items" "LockTable.items" (sLT 3), dme "LockTable" "waiting" "LockTable.waiting" (sLT 4), dme "LockTable" "is_free" "LockTable.is_free" (sLT 5), dme "LockTable" "ask" "LockTable.ask" (sLT 6), dme "LockTable" "grant" "LockTable.grant" (sLT 7), dme "LockTable" "release" "LockTable.release" (sLT 8), dme "LockTable" "pairs" "LockTable.pairs" (sLT 9), dme "LockTable" "deadlock" "LockTable.deadlock" (sLT 10), dme "Work" "__init__" "Work.__init__" (sWk 0), dme "Work" "do_step" "Work.do_step" (sWk 1), dme "Work" "take_back" "Work.take_back" (sWk 2), dme "Manager" "__init__" "Manager.__init__" (sMg 0), dme "Manager" "deadlock" "Manager.deadlock" (sMg 5), dme "Manager" "check" "Manager.check" (sMg 6), dme "Manager" "note" "Manager.note" (sMg 7), dme "Manager" "make" "Manager.make" (sMg 8), dme "Manager" "read" "Manager.read" (sMg 9), dme "Manager" "write" "Manager.write" (sMg 10), dme "Manager" "end" "Manager.end" (sMg 11), dme "Manager" "commit" "Manager.commit" (sMg 12), dme "Manager" "abort" "Manager.abort" (sMg 13), dme "Manager" "__contains__" "Manager.__contains__" (sMg 16)]
def hfa : List He.Fa := [.glo "law", .glo "_law_cell", .glo "_law_draw", .glo "_law_do", .glo "_law_calls", .glo "ended_before", .glo "writer_at", .glo "is_dirty", .glo "commits_early", .glo "first_place", .glo "breaks", .glo "without_aborted", .glo "do_conflict", .glo "conflict_graph", .glo "closing", .glo "ring_in", .glo "ring_of", .glo "are_compatible", .glo "told_values", .glo "LockTable", .glo "Work", .glo "Manager", .glo "ManagerError", .glo "OrderError", .glo "MODES", .free "len", .free "range", .free "sorted", .free "all", .free "set", .free "list", .free "min", .free "isinstance", .free "int", .free "super", .int "TRANSACTIONS" 8, .cls "LockTable", .mkr "LockTable", .cls "Work", .mkr "Work", .cls "Manager", .mkr "Manager", .noat "LockTable" "_holders", .noat "LockTable" "_queues", .noat "Work" "amounts", .noat "Work" "sums", .noat "Work" "before", .noat "Work" "schedule", .noat "Manager" "_table", .noat "Manager" "_work", .noat "Manager" "_log", .noat "Manager" "_over", .noat "Manager" "_open", .noat "Manager" "_waited", .meth "LockTable" "holders", .meth "LockTable" "items", .meth "LockTable" "waiting", .meth "LockTable" "is_free", .meth "LockTable" "ask", .meth "LockTable" "grant", .meth "LockTable" "release", .meth "LockTable" "pairs", .meth "LockTable" "deadlock", .meth "Work" "do_step", .meth "Work" "take_back", .meth "Manager" "deadlock", .meth "Manager" "check", .meth "Manager" "note", .meth "Manager" "make", .meth "Manager" "read", .meth "Manager" "write", .meth "Manager" "end", .meth "Manager" "commit", .meth "Manager" "abort", .meth "Manager" "__contains__", .exm "ManagerError" "OrderError" true]
def hts : List He.Tab := [(fun K => He.ga K "MODES", ["read", "write"])]
def dHi : DefX := ⟨fun K => geAd K "Manager" "history", "history", "Manager.history", defArgs (sMg 1), defBody (sMg 1), defScope (sMg 1), []⟩
def dCo : DefX := ⟨fun K => geAd K "Manager" "contents", "contents", "Manager.contents", defArgs (sMg 3), defBody (sMg 3), defScope (sMg 3), []⟩
def hdx : List DefX := [dHi, dCo, dMI]
def hex (K : PySem.W.Frag) : Bool := He.valsB K (He.ga K "MODES") [("read", .str "shared"), ("write", .str "exclusive")] && (propB K "Manager" "history" && (propB K "Manager" "contents" && (dxB K dHi && (dxB K dCo && (dxB K dMI && meB rwk.prog.main.file K)))))
theorem facts {w : World} {K : PySem.W.Frag} {h : Heap} {mg : Str → Option Value} {f : Addr} (X : K.In h) (G : h.Ns mainGlobals mg) (hlaw : mg ("law" : Str) = some (.ref f)) (c : SaysM hfa hfn hts hdx hex w K) :
    ∃ fd : FuncData, (∀ (s : Shared) (v : Value), BindsTo s fd ⟨[v], []⟩ [("_law_script", v)]) ∧ ∀ base : Heap, K.In base → base.Ns mainGlobals mg → FnOk rwk.prog w K mg base CX0 13 f fd ["_law_script"] (spLaw K) := by
  obtain ⟨fd_law, F_law⟩ := c.t.d.def_ 0 (d := dfn "law" sLaw) rfl
  obtain ⟨fd__law_cell, F__law_cell⟩ := c.t.d.def_ 1 (d := dfn "_law_cell" sCell) rfl
  obtain ⟨fd__law_draw, F__law_draw⟩ := c.t.d.def_ 2 (d := dfn "_law_draw" sDraw) rfl
  obtain ⟨fd__law_do, F__law_do⟩ := c.t.d.def_ 3 (d := dfn "_law_do" sDo) rfl
  obtain ⟨fd__law_calls, F__law_calls⟩ := c.t.d.def_ 4 (d := dfn "_law_calls" sCalls) rfl
  obtain ⟨fd_ended_before, F_ended_before⟩ := c.t.d.def_ 5 (d := dfn "ended_before" sEnded) rfl
  obtain ⟨fd_writer_at, F_writer_at⟩ := c.t.d.def_ 6 (d := dfn "writer_at" sWriter) rfl
  obtain ⟨fd_is_dirty, F_is_dirty⟩ := c.t.d.def_ 7 (d := dfn "is_dirty" sDirty) rfl
  obtain ⟨fd_commits_early, F_commits_early⟩ := c.t.d.def_ 8 (d := dfn "commits_early" sEarly) rfl
  obtain ⟨fd_first_place, F_first_place⟩ := c.t.d.def_ 9 (d := dfn "first_place" sFirst) rfl
  obtain ⟨fd_breaks, F_breaks⟩ := c.t.d.def_ 10 (d := dfn "breaks" sBreaks) rfl
  obtain ⟨fd_without_aborted, F_without_aborted⟩ := c.t.d.def_ 11 (d := dfn "without_aborted" sNoAb) rfl
  obtain ⟨fd_do_conflict, F_do_conflict⟩ := c.t.d.def_ 12 (d := dfn "do_conflict" sConf) rfl
  obtain ⟨fd_conflict_graph, F_conflict_graph⟩ := c.t.d.def_ 13 (d := dfn "conflict_graph" sGraph) rfl
  obtain ⟨fd_closing, F_closing⟩ := c.t.d.def_ 14 (d := dfn "closing" sClos) rfl
  obtain ⟨fd_ring_in, F_ring_in⟩ := c.t.d.def_ 15 (d := dfn "ring_in" sRing) rfl
  obtain ⟨fd_ring_of, F_ring_of⟩ := c.t.d.def_ 16 (d := dfn "ring_of" sRingOf) rfl
  obtain ⟨fd_are_compatible, F_are_compatible⟩ := c.t.d.def_ 17 (d := dfn "are_compatible" sCompat) rfl
  obtain ⟨fd_told_values, F_told_values⟩ := c.t.d.def_ 18 (d := dfn "told_values" sTold) rfl
  obtain ⟨fd_LockTable___init__, F_LockTable___init__⟩ := c.t.d.def_ 19 (d := dme "LockTable" "__init__" "LockTable.__init__" (sLT 0)) rfl
  obtain ⟨fd_LockTable_holders, F_LockTable_holders⟩ := c.t.d.def_ 20 (d := dme "LockTable" "holders" "LockTable.holders" (sLT 1)) rfl
  obtain ⟨fd_LockTable_items, F_LockTable_items⟩ := c.t.d.def_ 21 (d := dme "LockTable" "items" "LockTable.items" (sLT 3)) rfl
  obtain ⟨fd_LockTable_waiting, F_LockTable_waiting⟩ := c.t.d.def_ 22 (d := dme "LockTable" "waiting" "LockTable.waiting" (sLT 4)) rfl
  obtain ⟨fd_LockTable_is_free, F_LockTable_is_free⟩ := c.t.d.def_ 23 (d := dme "LockTable" "is_free" "LockTable.is_free" (sLT 5)) rfl
  obtain ⟨fd_LockTable_ask, F_LockTable_ask⟩ := c.t.d.def_ 24 (d := dme "LockTable" "ask" "LockTable.ask" (sLT 6)) rfl
  obtain ⟨fd_LockTable_grant, F_LockTable_grant⟩ := c.t.d.def_ 25 (d := dme "LockTable" "grant" "LockTable.grant" (sLT 7)) rfl
  obtain ⟨fd_LockTable_release, F_LockTable_release⟩ := c.t.d.def_ 26 (d := dme "LockTable" "release" "LockTable.release" (sLT 8)) rfl
  obtain ⟨fd_LockTable_pairs, F_LockTable_pairs⟩ := c.t.d.def_ 27 (d := dme "LockTable" "pairs" "LockTable.pairs" (sLT 9)) rfl
  obtain ⟨fd_LockTable_deadlock, F_LockTable_deadlock⟩ := c.t.d.def_ 28 (d := dme "LockTable" "deadlock" "LockTable.deadlock" (sLT 10)) rfl
  obtain ⟨fd_Work___init__, F_Work___init__⟩ := c.t.d.def_ 29 (d := dme "Work" "__init__" "Work.__init__" (sWk 0)) rfl
  obtain ⟨fd_Work_do_step, F_Work_do_step⟩ := c.t.d.def_ 30 (d := dme "Work" "do_step" "Work.do_step" (sWk 1)) rfl
  obtain ⟨fd_Work_take_back, F_Work_take_back⟩ := c.t.d.def_ 31 (d := dme "Work" "take_back" "Work.take_back" (sWk 2)) rfl
  obtain ⟨fd_Manager___init__, F_Manager___init__⟩ := c.t.d.def_ 32 (d := dme "Manager" "__init__" "Manager.__init__" (sMg 0)) rfl
  obtain ⟨fd_Manager_deadlock, F_Manager_deadlock⟩ := c.t.d.def_ 33 (d := dme "Manager" "deadlock" "Manager.deadlock" (sMg 5)) rfl
  obtain ⟨fd_Manager_check, F_Manager_check⟩ := c.t.d.def_ 34 (d := dme "Manager" "check" "Manager.check" (sMg 6)) rfl
  obtain ⟨fd_Manager_note, F_Manager_note⟩ := c.t.d.def_ 35 (d := dme "Manager" "note" "Manager.note" (sMg 7)) rfl
  obtain ⟨fd_Manager_make, F_Manager_make⟩ := c.t.d.def_ 36 (d := dme "Manager" "make" "Manager.make" (sMg 8)) rfl
  obtain ⟨fd_Manager_read, F_Manager_read⟩ := c.t.d.def_ 37 (d := dme "Manager" "read" "Manager.read" (sMg 9)) rfl
  obtain ⟨fd_Manager_write, F_Manager_write⟩ := c.t.d.def_ 38 (d := dme "Manager" "write" "Manager.write" (sMg 10)) rfl
  obtain ⟨fd_Manager_end, F_Manager_end⟩ := c.t.d.def_ 39 (d := dme "Manager" "end" "Manager.end" (sMg 11)) rfl
  obtain ⟨fd_Manager_commit, F_Manager_commit⟩ := c.t.d.def_ 40 (d := dme "Manager" "commit" "Manager.commit" (sMg 12)) rfl
  obtain ⟨fd_Manager_abort, F_Manager_abort⟩ := c.t.d.def_ 41 (d := dme "Manager" "abort" "Manager.abort" (sMg 13)) rfl
  obtain ⟨fd_Manager___contains__, F_Manager___contains__⟩ := c.t.d.def_ 42 (d := dme "Manager" "__contains__" "Manager.__contains__" (sMg 16)) rfl
  have g_law := He.glo_ok X G (c.t.d.fact 0 (f := .glo "law") rfl)
  have g__law_cell := He.glo_ok X G (c.t.d.fact 1 (f := .glo "_law_cell") rfl)
  have g__law_draw := He.glo_ok X G (c.t.d.fact 2 (f := .glo "_law_draw") rfl)
  have g__law_do := He.glo_ok X G (c.t.d.fact 3 (f := .glo "_law_do") rfl)
  have g__law_calls := He.glo_ok X G (c.t.d.fact 4 (f := .glo "_law_calls") rfl)
  have g_ended_before := He.glo_ok X G (c.t.d.fact 5 (f := .glo "ended_before") rfl)
  have g_writer_at := He.glo_ok X G (c.t.d.fact 6 (f := .glo "writer_at") rfl)
  have g_is_dirty := He.glo_ok X G (c.t.d.fact 7 (f := .glo "is_dirty") rfl)
  have g_commits_early := He.glo_ok X G (c.t.d.fact 8 (f := .glo "commits_early") rfl)
  have g_first_place := He.glo_ok X G (c.t.d.fact 9 (f := .glo "first_place") rfl)
  have g_breaks := He.glo_ok X G (c.t.d.fact 10 (f := .glo "breaks") rfl)
  have g_without_aborted := He.glo_ok X G (c.t.d.fact 11 (f := .glo "without_aborted") rfl)
  have g_do_conflict := He.glo_ok X G (c.t.d.fact 12 (f := .glo "do_conflict") rfl)
  have g_conflict_graph := He.glo_ok X G (c.t.d.fact 13 (f := .glo "conflict_graph") rfl)
  have g_closing := He.glo_ok X G (c.t.d.fact 14 (f := .glo "closing") rfl)
  have g_ring_in := He.glo_ok X G (c.t.d.fact 15 (f := .glo "ring_in") rfl)
  have g_ring_of := He.glo_ok X G (c.t.d.fact 16 (f := .glo "ring_of") rfl)
  have g_are_compatible := He.glo_ok X G (c.t.d.fact 17 (f := .glo "are_compatible") rfl)
  have g_told_values := He.glo_ok X G (c.t.d.fact 18 (f := .glo "told_values") rfl)
  have g_LockTable := He.glo_ok X G (c.t.d.fact 19 (f := .glo "LockTable") rfl)
  have g_Work := He.glo_ok X G (c.t.d.fact 20 (f := .glo "Work") rfl)
  have g_Manager := He.glo_ok X G (c.t.d.fact 21 (f := .glo "Manager") rfl)
  have g_OrderError := He.glo_ok X G (c.t.d.fact 23 (f := .glo "OrderError") rfl)
  have g_MODES := He.glo_ok X G (c.t.d.fact 24 (f := .glo "MODES") rfl)
  have n_len := He.free_ok X G (c.t.d.fact 25 (f := .free "len") rfl)
  have n_range := He.free_ok X G (c.t.d.fact 26 (f := .free "range") rfl)
  have n_sorted := He.free_ok X G (c.t.d.fact 27 (f := .free "sorted") rfl)
  have n_all := He.free_ok X G (c.t.d.fact 28 (f := .free "all") rfl)
  have n_set := He.free_ok X G (c.t.d.fact 29 (f := .free "set") rfl)
  have n_list := He.free_ok X G (c.t.d.fact 30 (f := .free "list") rfl)
  have n_min := He.free_ok X G (c.t.d.fact 31 (f := .free "min") rfl)
  have n_isinstance := He.free_ok X G (c.t.d.fact 32 (f := .free "isinstance") rfl)
  have n_int := He.free_ok X G (c.t.d.fact 33 (f := .free "int") rfl)
  obtain ⟨tk, mT⟩ := He.int_ok X G (c.t.d.fact 35 (f := .int "TRANSACTIONS" 8) rfl)
  have e := hlaw.symm.trans g_law
  cases e
  have TT : TxT K (He.ga K "LockTable") := ⟨He.cls_ok (c.t.d.fact 36 (f := .cls "LockTable") rfl), He.noat_ok (c.t.d.fact 42 (f := .noat "LockTable" "_holders") rfl), He.noat_ok (c.t.d.fact 43 (f := .noat "LockTable" "_queues") rfl)⟩
  have TW : TxW K (He.ga K "Work") := ⟨He.cls_ok (c.t.d.fact 38 (f := .cls "Work") rfl), He.noat_ok (c.t.d.fact 44 (f := .noat "Work" "amounts") rfl), He.noat_ok (c.t.d.fact 45 (f := .noat "Work" "sums") rfl), He.noat_ok (c.t.d.fact 46 (f := .noat "Work" "before") rfl), He.noat_ok (c.t.d.fact 47 (f := .noat "Work" "schedule") rfl)⟩
  have TM : TxM K (He.ga K "Manager") := ⟨He.cls_ok (c.t.d.fact 40 (f := .cls "Manager") rfl), He.noat_ok (c.t.d.fact 48 (f := .noat "Manager" "_table") rfl), He.noat_ok (c.t.d.fact 49 (f := .noat "Manager" "_work") rfl), He.noat_ok (c.t.d.fact 50 (f := .noat "Manager" "_log") rfl), He.noat_ok (c.t.d.fact 51 (f := .noat "Manager" "_over") rfl), He.noat_ok (c.t.d.fact 52 (f := .noat "Manager" "_open") rfl), He.noat_ok (c.t.d.fact 53 (f := .noat "Manager" "_waited") rfl)⟩
  have K_LockTable := He.mkr_ok (c.t.d.fact 37 (f := .mkr "LockTable") rfl)
  have K_Work := He.mkr_ok (c.t.d.fact 39 (f := .mkr "Work") rfl)
  have K_Manager := He.mkr_ok (c.t.d.fact 41 (f := .mkr "Manager") rfl)
  have xO := He.exm_ok (c.t.d.fact 75 (f := .exm "ManagerError" "OrderError" true) rfl)
  obtain ⟨x1, x⟩ := He.ba c.ex
  obtain ⟨x2, x⟩ := He.ba x
  obtain ⟨x3, x⟩ := He.ba x
  obtain ⟨x4, x⟩ := He.ba x
  obtain ⟨x5, x⟩ := He.ba x
  obtain ⟨x6, x7⟩ := He.ba x
  have PH := propB_ok x2
  have PC := propB_ok x3
  obtain ⟨fd_hi, F_hi⟩ := dx_fun (c.dx 0 (d := dHi) rfl) x4 rfl
  obtain ⟨fd_co, F_co⟩ := dx_fun (c.dx 1 (d := dCo) rfl) x5 rfl
  obtain ⟨TE, EC⟩ := me_ok (P := rwk.prog) X G (c.t.d.fact 22 (f := .glo "ManagerError") rfl) (c.t.d.fact 34 (f := .free "super") rfl) (c.dx 2 (d := dMI) rfl) x6 x7 (by decide +kernel)
  have MO : TxModes K w mg (He.ga K "MODES") := ⟨g_MODES, c.t.tab 0 (t := (fun K => He.ga K "MODES", ["read", "write"])) rfl, He.valsB_ok x1 (q := ("read", .str "shared")) (List.mem_cons_self), He.valsB_ok x1 (q := ("write", .str "exclusive")) (List.mem_cons_of_mem _ List.mem_cons_self)⟩
  have b_law : Binds K fd_law ["_law_script"] [] := F_law.bindsN fun _ _ _ _ _ _ us hl => match us, hl with | [_], _ => rfl
  have b__law_cell : Binds K fd__law_cell ["_law_script", "_law_k"] [] := F__law_cell.bindsN fun _ _ _ _ _ _ us hl => match us, hl with | [_, _], _ => rfl
  have b__law_draw : Binds K fd__law_draw ["_law_script", "_law_k", "_law_sizes"] [] := F__law_draw.bindsN fun _ _ _ _ _ _ us hl => match us, hl with | [_, _, _], _ => rfl
  have b__law_do : Binds K fd__law_do ["_law_manager", "_law_call"] [] := F__law_do.bindsN fun _ _ _ _ _ _ us hl => match us, hl with | [_, _], _ => rfl
  have b__law_calls : Binds K fd__law_calls ["_law_script", "_law_k", "_law_many"] [] := F__law_calls.bindsN fun _ _ _ _ _ _ us hl => match us, hl with | [_, _, _], _ => rfl
  have b_ended_before : Binds K fd_ended_before ["schedule", "place", "word"] [] := F_ended_before.bindsN fun _ _ _ _ _ _ us hl => match us, hl with | [_, _, _], _ => rfl
  have b_writer_at : Binds K fd_writer_at ["schedule", "place", "item"] [] := F_writer_at.bindsN fun _ _ _ _ _ _ us hl => match us, hl with | [_, _, _], _ => rfl
  have b_is_dirty : Binds K fd_is_dirty ["schedule", "place"] [] := F_is_dirty.bindsN fun _ _ _ _ _ _ us hl => match us, hl with | [_, _], _ => rfl
  have b_commits_early : Binds K fd_commits_early ["schedule", "place"] [] := F_commits_early.bindsN fun _ _ _ _ _ _ us hl => match us, hl with | [_, _], _ => rfl
  have b_first_place : Binds K fd_first_place ["schedule", "test", "words"] [] := F_first_place.bindsN fun _ _ _ _ _ _ us hl => match us, hl with | [_, _, _], _ => rfl
  have b_breaks : Binds K fd_breaks ["schedule"] [] := F_breaks.bindsN fun _ _ _ _ _ _ us hl => match us, hl with | [_], _ => rfl
  have b_without_aborted : Binds K fd_without_aborted ["schedule"] [] := F_without_aborted.bindsN fun _ _ _ _ _ _ us hl => match us, hl with | [_], _ => rfl
  have b_do_conflict : Binds K fd_do_conflict ["first", "second"] [] := F_do_conflict.bindsN fun _ _ _ _ _ _ us hl => match us, hl with | [_, _], _ => rfl
  have b_conflict_graph : Binds K fd_conflict_graph ["schedule"] [] := F_conflict_graph.bindsN fun _ _ _ _ _ _ us hl => match us, hl with | [_], _ => rfl
  have b_closing : Binds K fd_closing ["pairs", "row", "size"] [] := F_closing.bindsN fun _ _ _ _ _ _ us hl => match us, hl with | [_, _, _], _ => rfl
  have b_ring_in : Binds K fd_ring_in ["pairs"] [] := F_ring_in.bindsN fun _ _ _ _ _ _ us hl => match us, hl with | [_], _ => rfl
  have b_ring_of : Binds K fd_ring_of ["schedule"] [] := F_ring_of.bindsN fun _ _ _ _ _ _ us hl => match us, hl with | [_], _ => rfl
  have b_are_compatible : Binds K fd_are_compatible ["mode", "other"] [] := F_are_compatible.bindsN fun _ _ _ _ _ _ us hl => match us, hl with | [_, _], _ => rfl
  have b_told_values : Binds K fd_told_values ["values"] [] := F_told_values.bindsN fun _ _ _ _ _ _ us hl => match us, hl with | [_], _ => rfl
  have b_LockTable___init__ : Binds K fd_LockTable___init__ ["self"] [] := F_LockTable___init__.bindsN fun _ _ _ _ _ _ us hl => match us, hl with | [_], _ => rfl
  have b_LockTable_holders : Binds K fd_LockTable_holders ["self", "item"] [] := F_LockTable_holders.bindsN fun _ _ _ _ _ _ us hl => match us, hl with | [_, _], _ => rfl
  have b_LockTable_items : Binds K fd_LockTable_items ["self"] [] := F_LockTable_items.bindsN fun _ _ _ _ _ _ us hl => match us, hl with | [_], _ => rfl
  have b_LockTable_waiting : Binds K fd_LockTable_waiting ["self", "t"] [] := F_LockTable_waiting.bindsN fun _ _ _ _ _ _ us hl => match us, hl with | [_, _], _ => rfl
  have b_LockTable_is_free : Binds K fd_LockTable_is_free ["self", "t", "item", "mode"] [] := F_LockTable_is_free.bindsN fun _ _ _ _ _ _ us hl => match us, hl with | [_, _, _, _], _ => rfl
  have b_LockTable_ask : Binds K fd_LockTable_ask ["self", "t", "item", "mode"] [] := F_LockTable_ask.bindsN fun _ _ _ _ _ _ us hl => match us, hl with | [_, _, _, _], _ => rfl
  have b_LockTable_grant : Binds K fd_LockTable_grant ["self", "item"] [] := F_LockTable_grant.bindsN fun _ _ _ _ _ _ us hl => match us, hl with | [_, _], _ => rfl
  have b_LockTable_release : Binds K fd_LockTable_release ["self", "t"] [] := F_LockTable_release.bindsN fun _ _ _ _ _ _ us hl => match us, hl with | [_, _], _ => rfl
  have b_LockTable_pairs : Binds K fd_LockTable_pairs ["self"] [] := F_LockTable_pairs.bindsN fun _ _ _ _ _ _ us hl => match us, hl with | [_], _ => rfl
  have b_LockTable_deadlock : Binds K fd_LockTable_deadlock ["self"] [] := F_LockTable_deadlock.bindsN fun _ _ _ _ _ _ us hl => match us, hl with | [_], _ => rfl
  have b_Work___init__ : Binds K fd_Work___init__ ["self"] [] := F_Work___init__.bindsN fun _ _ _ _ _ _ us hl => match us, hl with | [_], _ => rfl
  have b_Work_do_step : Binds K fd_Work_do_step ["self", "t", "step"] [] := F_Work_do_step.bindsN fun _ _ _ _ _ _ us hl => match us, hl with | [_, _, _], _ => rfl
  have b_Work_take_back : Binds K fd_Work_take_back ["self", "t"] [] := F_Work_take_back.bindsN fun _ _ _ _ _ _ us hl => match us, hl with | [_, _], _ => rfl
  have b_Manager___init__ : Binds K fd_Manager___init__ ["self"] [] := F_Manager___init__.bindsN fun _ _ _ _ _ _ us hl => match us, hl with | [_], _ => rfl
  have b_Manager_deadlock : Binds K fd_Manager_deadlock ["self"] [] := F_Manager_deadlock.bindsN fun _ _ _ _ _ _ us hl => match us, hl with | [_], _ => rfl
  have b_Manager_check : Binds K fd_Manager_check ["self", "call"] [] := F_Manager_check.bindsN fun _ _ _ _ _ _ us hl => match us, hl with | [_, _], _ => rfl
  have b_Manager_note : Binds K fd_Manager_note ["self", "call"] [] := F_Manager_note.bindsN fun _ _ _ _ _ _ us hl => match us, hl with | [_, _], _ => rfl
  have b_Manager_make : Binds K fd_Manager_make ["self", "call"] [] := F_Manager_make.bindsN fun _ _ _ _ _ _ us hl => match us, hl with | [_, _], _ => rfl
  have b_Manager_read : Binds K fd_Manager_read ["self", "t", "item"] [] := F_Manager_read.bindsN fun _ _ _ _ _ _ us hl => match us, hl with | [_, _, _], _ => rfl
  have b_Manager_write : Binds K fd_Manager_write ["self", "t", "item", "number"] [] := F_Manager_write.bindsN fun _ _ _ _ _ _ us hl => match us, hl with | [_, _, _, _], _ => rfl
  have b_Manager_end : Binds K fd_Manager_end ["self", "t"] [] := F_Manager_end.bindsN fun _ _ _ _ _ _ us hl => match us, hl with | [_, _], _ => rfl
  have b_Manager_commit : Binds K fd_Manager_commit ["self", "t"] [] := F_Manager_commit.bindsN fun _ _ _ _ _ _ us hl => match us, hl with | [_, _], _ => rfl
  have b_Manager_abort : Binds K fd_Manager_abort ["self", "t"] [] := F_Manager_abort.bindsN fun _ _ _ _ _ _ us hl => match us, hl with | [_, _], _ => rfl
  have b_Manager___contains__ : Binds K fd_Manager___contains__ ["self", "t"] [] := F_Manager___contains__.bindsN fun _ _ _ _ _ _ us hl => match us, hl with | [_, _], _ => rfl
  have b_hi : Binds K fd_hi ["self"] [] := F_hi.bindsN fun _ _ _ _ _ _ us hl => match us, hl with | [_], _ => rfl
  have b_co : Binds K fd_co ["self"] [] := F_co.bindsN fun _ _ _ _ _ _ us hl => match us, hl with | [_], _ => rfl
  have bl := FunD.bindsA (ps := ["_law_script"]) F_law fun _ _ _ _ _ _ us hl => match us, hl with | [_], _ => rfl
  refine ⟨fd_law, fun s v => bl s [v] rfl, fun base _ _ => ?_⟩
  have G_ended_before : GFn rwk.prog w K mg base CX0 1 "ended_before" ["schedule", "place", "word"] (spEnded K) := ⟨_, fd_ended_before, g_ended_before, F_ended_before.kp, b_ended_before, ok_ended F_ended_before⟩
  have G_writer_at : GFn rwk.prog w K mg base CX0 2 "writer_at" ["schedule", "place", "item"] (spWriter K) := ⟨_, fd_writer_at, g_writer_at, F_writer_at.kp, b_writer_at, ok_writer F_writer_at G_ended_before⟩
  have G_is_dirty : GFn rwk.prog w K mg base CX0 3 "is_dirty" ["schedule", "place"] (spDirty K) := ⟨_, fd_is_dirty, g_is_dirty, F_is_dirty.kp, b_is_dirty, ok_dirty F_is_dirty G_ended_before G_writer_at⟩
  have G_commits_early : GFn rwk.prog w K mg base CX0 3 "commits_early" ["schedule", "place"] (spEarly K) := ⟨_, fd_commits_early, g_commits_early, F_commits_early.kp, b_commits_early, ok_early F_commits_early G_ended_before G_writer_at n_range⟩
  have G_breaks : GFn rwk.prog w K mg base CX0 5 "breaks" ["schedule"] (spBreaks K) := ⟨_, fd_breaks, g_breaks, F_breaks.kp, b_breaks, ok_breaks F_breaks ⟨_, fd_first_place, g_first_place, F_first_place, b_first_place⟩ G_is_dirty G_commits_early n_range n_len⟩
  have G_without_aborted : GFn rwk.prog w K mg base CX0 1 "without_aborted" ["schedule"] (spNoAb K) := ⟨_, fd_without_aborted, g_without_aborted, F_without_aborted.kp, b_without_aborted, ok_noab F_without_aborted⟩
  have G_do_conflict : GFn rwk.prog w K mg base CX0 1 "do_conflict" ["first", "second"] (spConf K) := ⟨_, fd_do_conflict, g_do_conflict, F_do_conflict.kp, b_do_conflict, ok_conf F_do_conflict n_len⟩
  have G_graph : ∀ R : Int → Int → Prop, GFn rwk.prog w K mg base CX0 2 "conflict_graph" ["schedule"] (spGraph K R) := fun R => ⟨_, fd_conflict_graph, g_conflict_graph, F_conflict_graph.kp, b_conflict_graph, ok_graph F_conflict_graph G_without_aborted G_do_conflict n_range n_len n_sorted⟩
  have G_ring : ∀ (R : Int → Int → Prop) (ρ : Int → Nat), (∀ t u, R t u → ρ t < ρ u) → (∀ t u, R t u → 1 ≤ t ∧ t ≤ 8) → GFn rwk.prog w K mg base CX0 10 "ring_in" ["pairs"] (spRing K R) := fun R ρ h1 h2 => ⟨_, fd_ring_in, g_ring_in, F_ring_in.kp, b_ring_in, ok_ring h1 h2 F_ring_in ⟨_, fd_closing, g_closing, F_closing, b_closing⟩ n_range n_len n_sorted⟩
  have G_ring_of : GFn rwk.prog w K mg base CX0 11 "ring_of" ["schedule"] (spRingOf K) := ⟨_, fd_ring_of, g_ring_of, F_ring_of.kp, b_ring_of, ok_ringof F_ring_of G_ring G_graph⟩
  have G_are_compatible : GFn rwk.prog w K mg base CX0 1 "are_compatible" ["mode", "other"] spCompat := ⟨_, fd_are_compatible, g_are_compatible, F_are_compatible.kp, b_are_compatible, ok_compat F_are_compatible⟩
  have G_told_values : GFn rwk.prog w K mg base CX0 1 "told_values" ["values"] spTold := ⟨_, fd_told_values, g_told_values, F_told_values.kp, b_told_values, ok_told F_told_values n_sorted⟩
  have M_LockTable_items : MFn rwk.prog w K mg base CX0 1 (He.ga K "LockTable") "items" ["self"] (spItems (He.ga K "LockTable")) := ⟨_, fd_LockTable_items, He.meth_ok (c.t.d.fact 55 (f := .meth "LockTable" "items") rfl), b_LockTable_items, ok_items F_LockTable_items TT n_sorted⟩
  have M_LockTable_holders : MFn rwk.prog w K mg base CX0 1 (He.ga K "LockTable") "holders" ["self", "item"] (spHold (He.ga K "LockTable")) := ⟨_, fd_LockTable_holders, He.meth_ok (c.t.d.fact 54 (f := .meth "LockTable" "holders") rfl), b_LockTable_holders, ok_hold F_LockTable_holders TT n_sorted⟩
  have M_LockTable_waiting : MFn rwk.prog w K mg base CX0 2 (He.ga K "LockTable") "waiting" ["self", "t"] (spWaiting (He.ga K "LockTable")) := ⟨_, fd_LockTable_waiting, He.meth_ok (c.t.d.fact 56 (f := .meth "LockTable" "waiting") rfl), b_LockTable_waiting, ok_waiting F_LockTable_waiting TT M_LockTable_items⟩
  have M_LockTable_is_free : MFn rwk.prog w K mg base CX0 3 (He.ga K "LockTable") "is_free" ["self", "t", "item", "mode"] (spFree (He.ga K "LockTable")) := ⟨_, fd_LockTable_is_free, He.meth_ok (c.t.d.fact 57 (f := .meth "LockTable" "is_free") rfl), b_LockTable_is_free, ok_free F_LockTable_is_free TT M_LockTable_holders G_are_compatible n_all⟩
  have M_LockTable_ask : MFn rwk.prog w K mg base CX0 4 (He.ga K "LockTable") "ask" ["self", "t", "item", "mode"] (spAsk (He.ga K "LockTable")) := ⟨_, fd_LockTable_ask, He.meth_ok (c.t.d.fact 58 (f := .meth "LockTable" "ask") rfl), b_LockTable_ask, ok_ask F_LockTable_ask TT M_LockTable_waiting M_LockTable_is_free n_len⟩
  have M_LockTable_grant : MFn rwk.prog w K mg base CX0 4 (He.ga K "LockTable") "grant" ["self", "item"] (spGrant (He.ga K "LockTable")) := ⟨_, fd_LockTable_grant, He.meth_ok (c.t.d.fact 59 (f := .meth "LockTable" "grant") rfl), b_LockTable_grant, ok_grant F_LockTable_grant TT M_LockTable_is_free n_len⟩
  have M_LockTable_release : MFn rwk.prog w K mg base CX0 5 (He.ga K "LockTable") "release" ["self", "t"] (spRel (He.ga K "LockTable")) := ⟨_, fd_LockTable_release, He.meth_ok (c.t.d.fact 60 (f := .meth "LockTable" "release") rfl), b_LockTable_release, ok_rel F_LockTable_release TT M_LockTable_items M_LockTable_grant⟩
  have M_LockTable_pairs : MFn rwk.prog w K mg base CX0 2 (He.ga K "LockTable") "pairs" ["self"] (spPairs (He.ga K "LockTable")) := ⟨_, fd_LockTable_pairs, He.meth_ok (c.t.d.fact 61 (f := .meth "LockTable" "pairs") rfl), b_LockTable_pairs, ok_pairs F_LockTable_pairs TT M_LockTable_items n_len n_range n_sorted n_set⟩
  have M_LockTable_deadlock : MFn rwk.prog w K mg base CX0 11 (He.ga K "LockTable") "deadlock" ["self"] (spDead (He.ga K "LockTable")) := ⟨_, fd_LockTable_deadlock, He.meth_ok (c.t.d.fact 62 (f := .meth "LockTable" "deadlock") rfl), b_LockTable_deadlock, ok_dead F_LockTable_deadlock TT M_LockTable_pairs (G_ring (fun _ _ => False) (fun _ => 0) (fun _ _ h => h.elim) (fun _ _ h => h.elim))⟩
  have M_Work_do_step : MFn rwk.prog w K mg base CX0 1 (He.ga K "Work") "do_step" ["self", "t", "step"] (spStep (He.ga K "Work")) := ⟨_, fd_Work_do_step, He.meth_ok (c.t.d.fact 63 (f := .meth "Work" "do_step") rfl), b_Work_do_step, ok_step F_Work_do_step TW⟩
  have M_Work_take_back : MFn rwk.prog w K mg base CX0 1 (He.ga K "Work") "take_back" ["self", "t"] (spBack (He.ga K "Work")) := ⟨_, fd_Work_take_back, He.meth_ok (c.t.d.fact 64 (f := .meth "Work" "take_back") rfl), b_Work_take_back, ok_back F_Work_take_back TW⟩
  have M_Manager_check : MFn rwk.prog w K mg base (L2.CX rwk.prog w) 3 (He.ga K "Manager") "check" ["self", "call"] (spCheck (He.ga K "Manager") (He.ga K "LockTable") (He.ga K "Work") (meAd K)) := ⟨_, fd_Manager_check, He.meth_ok (c.t.d.fact 66 (f := .meth "Manager" "check") rfl), b_Manager_check, ok_check F_Manager_check TM TT TE mT M_LockTable_waiting⟩
  have M_Manager_note : MFn rwk.prog w K mg base CX0 1 (He.ga K "Manager") "note" ["self", "call"] (spNote (He.ga K "Manager") (He.ga K "LockTable") (He.ga K "Work")) := ⟨_, fd_Manager_note, He.meth_ok (c.t.d.fact 67 (f := .meth "Manager" "note") rfl), b_Manager_note, ok_note F_Manager_note TM⟩
  have M_Manager_make : MFn rwk.prog w K mg base (L2.CX rwk.prog w) 5 (He.ga K "Manager") "make" ["self", "call"] (spMake (He.ga K "Manager") (He.ga K "LockTable") (He.ga K "Work") (meAd K)) := ⟨_, fd_Manager_make, He.meth_ok (c.t.d.fact 68 (f := .meth "Manager" "make") rfl), b_Manager_make, ok_make F_Manager_make TM TT TW MO M_Manager_check M_Manager_note M_LockTable_ask M_Work_do_step⟩
  have M_Manager_read : MFn rwk.prog w K mg base (L2.CX rwk.prog w) 6 (He.ga K "Manager") "read" ["self", "t", "item"] (spCall isRd (He.ga K "Manager") (He.ga K "LockTable") (He.ga K "Work") (meAd K)) := ⟨_, fd_Manager_read, He.meth_ok (c.t.d.fact 69 (f := .meth "Manager" "read") rfl), b_Manager_read, ok_read F_Manager_read TM M_Manager_make⟩
  have M_Manager_write : MFn rwk.prog w K mg base (L2.CX rwk.prog w) 6 (He.ga K "Manager") "write" ["self", "t", "item", "number"] (spCall isWrC (He.ga K "Manager") (He.ga K "LockTable") (He.ga K "Work") (meAd K)) := ⟨_, fd_Manager_write, He.meth_ok (c.t.d.fact 70 (f := .meth "Manager" "write") rfl), b_Manager_write, ok_write F_Manager_write TM M_Manager_make⟩
  have M_Manager_end : MFn rwk.prog w K mg base CX0 6 (He.ga K "Manager") "end" ["self", "t"] (spEnd (He.ga K "Manager") (He.ga K "LockTable") (He.ga K "Work")) := ⟨_, fd_Manager_end, He.meth_ok (c.t.d.fact 71 (f := .meth "Manager" "end") rfl), b_Manager_end, ok_end F_Manager_end TM TT M_LockTable_release⟩
  have M_Manager_commit : MFn rwk.prog w K mg base (L2.CX rwk.prog w) 7 (He.ga K "Manager") "commit" ["self", "t"] (spCall isCm (He.ga K "Manager") (He.ga K "LockTable") (He.ga K "Work") (meAd K)) := ⟨_, fd_Manager_commit, He.meth_ok (c.t.d.fact 72 (f := .meth "Manager" "commit") rfl), b_Manager_commit, ok_commit F_Manager_commit TM TW M_Manager_check M_Manager_note M_Manager_end⟩
  have M_Manager_abort : MFn rwk.prog w K mg base (L2.CX rwk.prog w) 7 (He.ga K "Manager") "abort" ["self", "t"] (spCall isAbC (He.ga K "Manager") (He.ga K "LockTable") (He.ga K "Work") (meAd K)) := ⟨_, fd_Manager_abort, He.meth_ok (c.t.d.fact 73 (f := .meth "Manager" "abort") rfl), b_Manager_abort, ok_abort F_Manager_abort TM TW M_Manager_check M_Manager_note M_Manager_end M_Work_take_back⟩
  have M_Manager___contains__ : MFn rwk.prog w K mg base CX0 1 (He.ga K "Manager") "__contains__" ["self", "t"] (spIn (He.ga K "Manager") (He.ga K "LockTable") (He.ga K "Work")) := ⟨_, fd_Manager___contains__, He.meth_ok (c.t.d.fact 74 (f := .meth "Manager" "__contains__") rfl), b_Manager___contains__, ok_in F_Manager___contains__ TM⟩
  have M_Manager_deadlock : MFn rwk.prog w K mg base CX0 12 (He.ga K "Manager") "deadlock" ["self"] (spDeadM (He.ga K "Manager") (He.ga K "LockTable") (He.ga K "Work")) := ⟨_, fd_Manager_deadlock, He.meth_ok (c.t.d.fact 65 (f := .meth "Manager" "deadlock") rfl), b_Manager_deadlock, ok_deadM F_Manager_deadlock TM TT M_LockTable_deadlock⟩
  have G__law_cell : GFn rwk.prog w K mg base CX0 1 "_law_cell" ["_law_script", "_law_k"] (spCellX K) := ⟨_, fd__law_cell, g__law_cell, F__law_cell.kp, b__law_cell, ok_cell F__law_cell n_len⟩
  have G__law_draw : GFn rwk.prog w K mg base CX0 2 "_law_draw" ["_law_script", "_law_k", "_law_sizes"] (spDraw K) := ⟨_, fd__law_draw, g__law_draw, F__law_draw.kp, b__law_draw, ok_draw F__law_draw G__law_cell n_len n_range⟩
  have G__law_calls : GFn rwk.prog w K mg base CX0 3 "_law_calls" ["_law_script", "_law_k", "_law_many"] (spCalls K) := ⟨_, fd__law_calls, g__law_calls, F__law_calls.kp, b__law_calls, ok_calls F__law_calls G__law_draw n_len n_range⟩
  have G__law_do : GFn rwk.prog w K mg base CX0 8 "_law_do" ["_law_manager", "_law_call"] (spDo (He.ga K "Manager") (He.ga K "LockTable") (He.ga K "Work")) := ⟨_, fd__law_do, g__law_do, F__law_do.kp, b__law_do, ok_do F__law_do TM TE EC g_OrderError xO n_isinstance M_Manager_read M_Manager_write M_Manager_commit M_Manager_abort⟩
  have OT := ok_TI (P := rwk.prog) (w := w) (mg := mg) (base := base) F_LockTable___init__ TT
  have OW := ok_WI (P := rwk.prog) (w := w) (mg := mg) (base := base) F_Work___init__ TW
  have OM := ok_MI (P := rwk.prog) (w := w) (mg := mg) (base := base) F_Manager___init__ TM K_LockTable g_LockTable K_Work g_Work OT b_LockTable___init__ OW b_Work___init__
  have OH : FnOk rwk.prog w K mg base CX0 1 (geAd K "Manager" "history") fd_hi ["self"] (spHist (He.ga K "Manager") (He.ga K "LockTable") (He.ga K "Work")) := ok_hist F_hi TM TW n_list
  have OC : FnOk rwk.prog w K mg base CX0 2 (geAd K "Manager" "contents") fd_co ["self"] (spCont (He.ga K "Manager") (He.ga K "LockTable") (He.ga K "Work")) := ok_cont F_co TM TW G_told_values
  exact ok_law F_law TM K_Manager g_Manager OM b_Manager___init__ G__law_calls G__law_do M_Manager___contains__ M_Manager_abort M_Manager_commit M_Manager_deadlock PH OH b_hi PC OC b_co G_breaks G_ring_of n_len n_range n_min n_isinstance n_int
end K61
set_option Elab.async false
set_option linter.all false
set_option maxRecDepth 100000
set_option maxHeartbeats 0
/-! The head's run. -/
namespace K61
open PySem PySem.Spec PyProof.Rows L2
def loose : List Str := ["_wall", "__name__", "OrderError", "LockError", "ManagerError", "TRANSACTIONS", "without_aborted", "do_conflict", "conflict_graph", "closing", "ring_in", "ring_of", "are_compatible", "LockTable", "MODES", "told_values", "Work", "Manager", "ended_before", "writer_at", "is_dirty", "commits_early", "first_place", "breaks", "_law_cell", "_law_draw", "_law_do", "_law_calls"]
abbrev RR : PySem.W.OpenRow := PySem.W.OpenLaw.row PySem.Challenge.rw_ordershown_k61_whole_managers_keep_order
abbrev hk : PySem.W.Hook := hookM 6 hfa hfn hts hdx hex
def ob (s : PySem.W.SharedT) : AlM := obsM 6 hfa hfn hts hdx hex (HandSHeadRun.getT s)
theorem ob_eq (s : PySem.W.SharedT) : ob s = hk.obs s.abs := obsM_eq (HandSHeadRun.getT_eq s)
theorem run_f (w : World) : HandSHeadRun.RunEq RR (PySem.W.view RR.prog [35]) hk ob 3500 loose (w.withFollow "special-get-raises" false) := by
  intro os
  kernel_rfl
theorem run_t (w : World) : HandSHeadRun.RunEq RR (PySem.W.view RR.prog [35]) hk ob 3500 loose (w.withFollow "special-get-raises" true) := by
  intro os
  kernel_rfl
theorem run (w : World) : HandSHeadRun.RunEq RR (PySem.W.view RR.prog [35]) hk ob 3500 loose w := PySem.W.byRow2 "special-get-raises" (P := fun w => HandSHeadRun.RunEq RR (PySem.W.view RR.prog [35]) hk ob 3500 loose w) run_f run_t w
end K61
set_option Elab.async false
set_option linter.all false
set_option maxRecDepth 100000
set_option maxHeartbeats 0
open PySem PySem.W PySem.Calls PyProof.Rows
theorem PySem.Challenge.cw_ordershown_k61_whole_managers_keep_order_holds : PySem.Challenge.rw_ordershown_k61_whole_managers_keep_order.Holds := by
  w_on; o_law
  refine HandSHeadRun.head_any (r := OpenLaw.row PySem.Challenge.rw_ordershown_k61_whole_managers_keep_order) (q := view (OpenLaw.row PySem.Challenge.rw_ordershown_k61_whole_managers_keep_order).prog [35]) (H := K61.hk) (ob := K61.ob) (M := 3500) (loose := K61.loose) (d := HandSHeadRun.topDef (OpenLaw.row PySem.Challenge.rw_ordershown_k61_whole_managers_keep_order).prog 35) (kwd := []) K61.ob_eq
    (by kernel_rfl) (fun s => by kernel_rfl) K61.run (by kernel_rfl) (by kernel_rfl) (by kernel_rfl) (by rfl) (by first | assumption | decide +kernel) (by decide +kernel) ⟨rfl, rfl, rfl, rfl, rfl, by decide +kernel⟩ ?hw ?hc
  case hw => w_witness2
  case hc =>
    refine L2.walk_ofE (l := PySem.Challenge.rw_ordershown_k61_whole_managers_keep_order) (n := 63) (k := 13) (x := "_law_script") (CX := L2.CX0) rfl (by decide) (by kernel_rfl) ⟨rfl, by decide, by decide⟩ ?F (fun _ _ _ _ z => z)
    intro w mg fa h Y G hmg0
    obtain ⟨K, KX, c⟩ := Y
    have hmg : mg ("law" : PySem.Str) = some (.ref fa) := by
      have e : (HandSHeadRun.topDef (OpenLaw.row PySem.Challenge.rw_ordershown_k61_whole_managers_keep_order).prog 35).name = ("law" : PySem.Str) := by kernel_rfl
      rw [← e]
      exact hmg0
    obtain ⟨fd, hb, hF⟩ := K61.facts (w := w) KX G hmg c
    exact ⟨K, fd, K61.spLaw K, KX, hb, fun H a ns hl _ hS => ⟨a, ns, rfl, hS, hl, fun _ => rfl⟩, hF⟩
#print axioms PySem.Challenge.cw_ordershown_k61_whole_managers_keep_order_holds
