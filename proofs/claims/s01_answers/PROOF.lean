import PyProof.Rows.All
import Wide.All
import OpenK.AllK
import Wide.FinOn
import Open.SpecLaws
import KE.OsGo
import KE.KEqNest
import HandS.ForSpec
import HandS.Comp
import HandS.Dict
import HandS.Iter
import HandS.Walk
import HandS.Evl
import HandS.SetFor
import HandS.Strs
import HandS.Deep
import HandS.Flt
import PySem.Challenge.RW_stepsmixed_s01_answers
set_option Elab.async false
set_option linter.all false
set_option maxRecDepth 100000
set_option maxHeartbeats 4000000
/-! who, doneAt, all orders -/
namespace SM
open Rc98
/-- what the calls let stand in a mixture -/
def GoodS (s : Step) : Prop := s.t < 6 ∧ s.what ≤ 2 ∧ s.x < 8
def Good (h : Mix) : Prop := h.length ≤ 24 ∧ ∀ s ∈ h, GoodS s

theorem mem_who {h : Mix} {t : Nat} : t ∈ who h ↔ t < 6 ∧ ∃ s ∈ h, s.t = t := by
  unfold who
  rw [List.mem_filter, List.mem_range, List.any_eq_true]
  constructor
  · rintro ⟨a, s, hs, e⟩
    exact ⟨a, s, hs, by simpa using e⟩
  · rintro ⟨a, s, hs, e⟩
    exact ⟨a, s, hs, by simpa using e⟩
theorem who_lt (h : Mix) : (who h).Pairwise (· < ·) := by
  unfold who
  exact List.Pairwise.filter _ List.pairwise_lt_range
theorem who_nodup (h : Mix) : (who h).Nodup := (who_lt h).imp (fun a => Nat.ne_of_lt a)
theorem who_len (h : Mix) : (who h).length ≤ 6 := by
  unfold who
  have q := List.length_filter_le (fun t => h.any fun s => s.t == t) (List.range 6)
  simpa using q
theorem who_of {h : Mix} (g : Good h) {s : Step} (m : s ∈ h) : s.t ∈ who h := mem_who.mpr ⟨(g.2 s m).1, s, m, rfl⟩
/-- two lists in order with the same members -/
theorem sorted_same : ∀ {a b : List Int}, a.Pairwise (· < ·) → b.Pairwise (· < ·) → (∀ k, k ∈ a ↔ k ∈ b) → a = b
  | [], [], _, _, _ => rfl
  | [], y :: b, _, _, e => by have q := (e y).mpr (List.mem_cons_self); cases q
  | x :: a, [], _, _, e => by have q := (e x).mp (List.mem_cons_self); cases q
  | x :: a, y :: b, ha, hb, e => by
    obtain ⟨ha1, ha2⟩ := List.pairwise_cons.mp ha
    obtain ⟨hb1, hb2⟩ := List.pairwise_cons.mp hb
    have exy : x = y := by
      rcases List.mem_cons.mp ((e x).mp List.mem_cons_self) with q | q
      · exact q
      · rcases List.mem_cons.mp ((e y).mpr List.mem_cons_self) with r | r
        · exact r.symm
        · have := ha1 y r; have := hb1 x q; omega
    subst exy
    refine congrArg (x :: ·) (sorted_same ha2 hb2 fun k => ?_)
    constructor
    · intro m
      rcases List.mem_cons.mp ((e k).mp (List.mem_cons_of_mem _ m)) with q | q
      · have := ha1 k m; omega
      · exact q
    · intro m
      rcases List.mem_cons.mp ((e k).mpr (List.mem_cons_of_mem _ m)) with q | q
      · have := hb1 k m; omega
      · exact q
def intL (l : List Nat) : List Int := l.map fun (n : Nat) => (n : Int)
theorem intL_lt {l : List Nat} (h : l.Pairwise (· < ·)) : (intL l).Pairwise (· < ·) := by
  unfold intL
  rw [List.pairwise_map]
  exact h.imp (fun a => by omega)
theorem mem_intL {l : List Nat} {k : Int} : k ∈ intL l ↔ ∃ n ∈ l, (n : Int) = k := by
  unfold intL
  exact List.mem_map
theorem who_is {h : Mix} (g : Good h) {ns : List Int} (h1 : ns.Pairwise (· < ·)) (h2 : ∀ k : Int, k ∈ ns ↔ ∃ s ∈ h, (s.t : Int) = k) : ns = intL (who h) := by
  refine sorted_same h1 (intL_lt (who_lt h)) fun k => ?_
  rw [h2, mem_intL]
  constructor
  · rintro ⟨s, m, e⟩
    exact ⟨s.t, who_of g m, e⟩
  · rintro ⟨n, m, e⟩
    obtain ⟨_, s, ms, q⟩ := mem_who.mp m
    exact ⟨s, ms, by rw [q]; exact e⟩

/-! ### where one is done -/
def isDoneStep (t : Nat) (s : Step) : Bool := s.what == 2 && s.t == t
theorem find_first {n i : Nat} {p : Nat → Bool} (hi : i < n) (h1 : p i = true) (h2 : ∀ j, j < i → p j = false) : (List.range n).find? p = some i := by
  rw [List.find?_range_eq_some]
  exact ⟨h1, by simpa using hi, fun j hj => by simp [h2 j hj]⟩
theorem find_none {n : Nat} {p : Nat → Bool} (h2 : ∀ j, j < n → p j = false) : (List.range n).find? p = none := by
  rw [List.find?_eq_none]
  intro x hx
  rw [h2 x (List.mem_range.mp hx)]
  exact Bool.false_ne_true
theorem doneAt_some {h : Mix} {t i : Nat} {s : Step} (hs : h[i]? = some s) (h1 : isDoneStep t s = true) (h2 : ∀ (j : Nat) (z : Step), j < i → h[j]? = some z → isDoneStep t z = false) : doneAt h t = some i := by
  have hi : i < h.length := (List.getElem?_eq_some_iff.mp hs).1
  refine find_first hi ?_ fun j hj => ?_
  · show (match h[i]? with | some s => s.what == 2 && s.t == t | none => false) = true
    rw [hs]
    exact h1
  · have e : h[j]? = some h[j] := List.getElem?_eq_getElem (by omega)
    show (match h[j]? with | some s => s.what == 2 && s.t == t | none => false) = false
    rw [e]
    exact h2 j _ hj e
theorem doneAt_none {h : Mix} {t : Nat} (h2 : ∀ (j : Nat) (z : Step), h[j]? = some z → isDoneStep t z = false) : doneAt h t = none := by
  refine find_none fun j hj => ?_
  have e : h[j]? = some h[j] := List.getElem?_eq_getElem hj
  show (match h[j]? with | some s => s.what == 2 && s.t == t | none => false) = false
  rw [e]
  exact h2 j _ e
theorem doneAt_lt {h : Mix} {t i : Nat} (e : doneAt h t = some i) : i < h.length := by
  have := List.mem_of_find?_eq_some e
  exact List.mem_range.mp this

/-! ### all orders -/
def more1 (ps : List Nat) (f : List Nat) : List (List Nat) := (ps.filter fun x => !f.contains x).map fun x => f ++ [x]
def longer (fs : List (List Nat)) (ps : List Nat) : List (List Nat) := fs.flatMap (more1 ps)
def iter : Nat → List Nat → List (List Nat) → List (List Nat)
  | 0, _, fs => fs
  | k + 1, ps, fs => iter k ps (longer fs ps)
theorem iter_succ (k : Nat) (ps : List Nat) (fs : List (List Nat)) : iter (k + 1) ps fs = longer (iter k ps fs) ps := by
  induction k generalizing fs with
  | zero => rfl
  | succ k ih => exact ih (longer fs ps)
theorem iter_flat (k : Nat) (ps : List Nat) (fs : List (List Nat)) : iter k ps fs = fs.flatMap fun f => iter k ps [f] := by
  induction k generalizing fs with
  | zero =>
    show fs = fs.flatMap fun f => [f]
    simp
  | succ k ih =>
    show iter k ps (longer fs ps) = fs.flatMap fun f => iter k ps (longer [f] ps)
    rw [ih]
    unfold longer
    rw [List.flatMap_assoc]
    refine congrArg (fun q => List.flatMap q fs) (funext fun f => ?_)
    rw [ih ([f].flatMap (more1 ps))]
    simp
theorem filter_erase {ps f : List Nat} (hn : ps.Nodup) (x : Nat) : (ps.filter fun y => !f.contains y).erase x = ps.filter fun y => !(f ++ [x]).contains y := by
  rw [List.Nodup.erase_eq_filter (List.Pairwise.filter _ hn), List.filter_filter]
  refine List.filter_congr fun y _ => ?_
  by_cases e1 : y ∈ f <;> by_cases e2 : y = x <;> simp [e1, e2]
theorem iter_orders {ps : List Nat} (hn : ps.Nodup) : ∀ (k : Nat) (f : List Nat), iter k ps [f] = (orders k (ps.filter fun y => !f.contains y)).map fun r => f ++ r
  | 0, f => by simp [iter, orders]
  | k + 1, f => by
    show iter k ps (longer [f] ps) = _
    rw [iter_flat]
    unfold orders longer more1
    simp only [List.flatMap_cons, List.flatMap_nil, List.append_nil]
    rw [List.flatMap_map, List.map_flatMap]
    refine congrArg (fun q => List.flatMap q _) (funext fun x => ?_)
    rw [iter_orders hn k (f ++ [x]), filter_erase hn x, List.map_map]
    refine List.map_congr_left fun r _ => ?_
    simp
theorem iter_all (h : Mix) : iter (who h).length (who h) [[]] = all_ h := by
  rw [iter_orders (who_nodup h)]
  unfold all_
  simp only [List.nil_append, List.map_id']
  refine congrArg (orders _) (List.filter_eq_self.mpr fun a _ => rfl)

/-! ### what stands in all orders -/
theorem mem_orders : ∀ {k : Nat} {l p : List Nat}, l.length = k → (p ∈ orders k l ↔ p.Perm l)
  | 0, l, p, e => by
    have : l = [] := List.length_eq_zero_iff.mp e
    subst this
    simp [orders]
  | k + 1, l, p, e => by
    unfold orders
    rw [List.mem_flatMap]
    constructor
    · rintro ⟨x, hx, m⟩
      obtain ⟨r, hr, rfl⟩ := List.mem_map.mp m
      have e2 : (l.erase x).length = k := by rw [List.length_erase_of_mem hx, e]; rfl
      have q := (mem_orders e2).mp hr
      exact (List.Perm.cons x q).trans (List.perm_cons_erase hx).symm
    · intro q
      cases p with
      | nil => have := q.length_eq; simp at this; omega
      | cons x r =>
        have hx : x ∈ l := q.mem_iff.mp List.mem_cons_self
        have e2 : (l.erase x).length = k := by rw [List.length_erase_of_mem hx, e]; rfl
        refine ⟨x, hx, List.mem_map.mpr ⟨r, (mem_orders e2).mpr ?_, rfl⟩⟩
        exact List.Perm.cons_inv (q.trans (List.perm_cons_erase hx))
theorem mem_all {h : Mix} {p : List Nat} : p ∈ all_ h ↔ p.Perm (who h) := mem_orders rfl
def fct : Nat → Nat
  | 0 => 1
  | k + 1 => (k + 1) * fct k
theorem orders_len : ∀ (k : Nat) (l : List Nat), l.length = k → (orders k l).length = fct k
  | 0, _, _ => rfl
  | k + 1, l, hl => by
    unfold orders
    rw [List.length_flatMap]
    have hb : ∀ x ∈ l, ((orders k (l.erase x)).map fun r => x :: r).length = fct k := fun x hx => by
      rw [List.length_map]
      exact orders_len k _ (by rw [List.length_erase_of_mem hx, hl]; rfl)
    have : ∀ (m : List Nat), (∀ x ∈ m, ((orders k (l.erase x)).map fun r => x :: r).length = fct k) → (m.map fun x => ((orders k (l.erase x)).map fun r => x :: r).length).sum = m.length * fct k := by
      intro m
      induction m with
      | nil => intro _; simp
      | cons a m ih =>
        intro hm
        rw [List.map_cons, List.sum_cons, List.length_cons, Nat.succ_mul, hm a List.mem_cons_self, ih fun x hx => hm x (List.mem_cons_of_mem _ hx), Nat.add_comm]
    rw [this l hb, hl]
    rfl
theorem fct_le : ∀ k : Nat, k ≤ 6 → fct k ≤ 720
  | 0, _ => by decide
  | 1, _ => by decide
  | 2, _ => by decide
  | 3, _ => by decide
  | 4, _ => by decide
  | 5, _ => by decide
  | 6, _ => by decide
  | n + 7, h => by omega
theorem all_len (h : Mix) : (all_ h).length ≤ 720 := by
  unfold all_
  rw [orders_len _ _ rfl]
  exact fct_le _ (who_len h)
theorem longer_len (fs : List (List Nat)) (ps : List Nat) : (longer fs ps).length ≤ fs.length * ps.length := by
  unfold longer
  induction fs with
  | nil => simp
  | cons f fs ih =>
    rw [List.flatMap_cons, List.length_append, List.length_cons, Nat.succ_mul]
    have : (more1 ps f).length ≤ ps.length := by
      unfold more1
      rw [List.length_map]
      exact List.length_filter_le _ _
    omega
theorem iter_len (ps : List Nat) (hp : ps.length ≤ 6) : ∀ k : Nat, (iter k ps [[]]).length ≤ 6 ^ k
  | 0 => by simp [iter]
  | k + 1 => by
    rw [iter_succ]
    have q := longer_len (iter k ps [[]]) ps
    have r := iter_len ps hp k
    calc _ ≤ (iter k ps [[]]).length * ps.length := q
      _ ≤ 6 ^ k * 6 := Nat.mul_le_mul r hp
      _ = 6 ^ (k + 1) := (Nat.pow_succ ..).symm
end SM

/-! names of steps; the two senses -/
namespace SM
open Rc98
/-- the step at i has the name n -/
def At (h : Mix) (n : Nat × Nat) (i : Nat) (s : Step) : Prop := h[i]? = some s ∧ n = (s.t, ((h.take i).filter fun z => z.t == s.t).length)
theorem named_some {h : Mix} {i : Nat} {s : Step} (e : h[i]? = some s) : named h i = some (s.t, ((h.take i).filter fun z => z.t == s.t).length) := by
  unfold named
  rw [e]
  rfl
theorem named_at {h : Mix} {i : Nat} {s : Step} {n : Nat × Nat} (e : h[i]? = some s) : named h i = some n ↔ At h n i s := by
  rw [named_some e]
  constructor
  · intro q
    exact ⟨e, (Option.some.inj q).symm⟩
  · rintro ⟨_, q⟩
    rw [q]
theorem At.of {h : Mix} {i : Nat} {s : Step} (e : h[i]? = some s) : At h (s.t, ((h.take i).filter fun z => z.t == s.t).length) i s := ⟨e, rfl⟩
theorem At.lt {h : Mix} {n : Nat × Nat} {i : Nat} {s : Step} (a : At h n i s) : i < h.length := (List.getElem?_eq_some_iff.mp a.1).1
theorem At.t {h : Mix} {n : Nat × Nat} {i : Nat} {s : Step} (a : At h n i s) : n.1 = s.t := by rw [a.2]
/-- the step named (t, k) is t's k-th -/
theorem filter_at {p : Step → Bool} : ∀ {h : Mix} {i : Nat} {s : Step}, h[i]? = some s → p s = true → (h.filter p)[((h.take i).filter p).length]? = some s
  | [], i, s, e, _ => by simp at e
  | z :: h, 0, s, e, hp => by
    have : z = s := by simpa using e
    subst this
    simp [List.filter_cons, hp]
  | z :: h, i + 1, s, e, hp => by
    have ih := filter_at (h := h) (i := i) (s := s) (by simpa using e) hp
    rw [List.take_succ_cons, List.filter_cons, List.filter_cons]
    by_cases hz : p z = true
    · rw [if_pos hz, if_pos hz, List.length_cons, List.getElem?_cons_succ]
      exact ih
    · rw [if_neg hz, if_neg hz]
      exact ih
theorem At.of_ {h : Mix} {n : Nat × Nat} {i : Nat} {s : Step} (a : At h n i s) : (of_ h n.1)[n.2]? = some s := by
  rw [a.2]
  exact filter_at (p := fun z => z.t == s.t) a.1 (by simp)
theorem filter_back {p : Step → Bool} : ∀ {h : Mix} {k : Nat} {s : Step}, (h.filter p)[k]? = some s → ∃ i : Nat, h[i]? = some s ∧ p s = true ∧ ((h.take i).filter p).length = k
  | [], k, s, e => by simp at e
  | z :: h, k, s, e => by
    rw [List.filter_cons] at e
    by_cases hz : p z = true
    · rw [if_pos hz] at e
      cases k with
      | zero =>
        have : z = s := by simpa using e
        subst this
        exact ⟨0, by simp, hz, by simp⟩
      | succ k =>
        obtain ⟨i, h1, h2, h3⟩ := filter_back (h := h) (k := k) (s := s) (by simpa using e)
        refine ⟨i + 1, by simpa using h1, h2, ?_⟩
        rw [List.take_succ_cons, List.filter_cons, if_pos hz, List.length_cons, h3]
    · rw [if_neg hz] at e
      obtain ⟨i, h1, h2, h3⟩ := filter_back (h := h) (k := k) (s := s) e
      refine ⟨i + 1, by simpa using h1, h2, ?_⟩
      rw [List.take_succ_cons, List.filter_cons, if_neg hz, h3]
theorem At.ex {h : Mix} {n : Nat × Nat} {s : Step} (e : (Rc98.of_ h n.1)[n.2]? = some s) : ∃ i, At h n i s := by
  obtain ⟨i, h1, h2, h3⟩ := filter_back (p := fun z => z.t == n.1) e
  have ht : s.t = n.1 := by simpa using h2
  refine ⟨i, h1, ?_⟩
  rw [ht, h3]
theorem take_lt {p : Step → Bool} {h : Mix} {i j : Nat} {s : Step} (hij : i < j) (e : h[i]? = some s) (hp : p s = true) : ((h.take i).filter p).length < ((h.take j).filter p).length := by
  have e1 : h.take j = h.take i ++ (h.take j).drop i := by
    have := List.take_append_drop i (h.take j)
    rw [List.take_take, Nat.min_eq_left (by omega)] at this
    exact this.symm
  rw [e1, List.filter_append, List.length_append]
  have e2 : s ∈ (h.take j).drop i := by
    have hi := (List.getElem?_eq_some_iff.mp e).1
    refine List.mem_iff_getElem?.mpr ⟨0, ?_⟩
    rw [List.getElem?_drop, List.getElem?_take, if_pos (by omega)]
    exact e
  have e3 : s ∈ ((h.take j).drop i).filter p := List.mem_filter.mpr ⟨e2, hp⟩
  have := List.length_pos_of_mem e3
  omega
theorem At.uniq {h : Mix} {n : Nat × Nat} {i j : Nat} {s z : Step} (a : At h n i s) (b : At h n j z) : i = j := by
  obtain ⟨a1, a2⟩ := a
  obtain ⟨b1, b2⟩ := b
  have ht : s.t = z.t := by rw [a2] at b2; exact (Prod.mk.inj b2).1
  have hk := (a2.symm.trans b2)
  rw [ht] at hk
  have hk := (Prod.mk.inj hk).2
  rcases Nat.lt_trichotomy i j with q | q | q
  · have := take_lt (p := fun y => y.t == z.t) q a1 (by simp [ht]); omega
  · exact q
  · have := take_lt (p := fun y => y.t == z.t) q b1 (by simp); omega
theorem At.inj {h : Mix} {n m : Nat × Nat} {i : Nat} {s z : Step} (a : At h n i s) (b : At h m i z) : n = m ∧ s = z := by
  have e : s = z := Option.some.inj (a.1.symm.trans b.1)
  subst e
  exact ⟨a.2.trans b.2.symm, rfl⟩
theorem At.ex_of {h : Mix} {i : Nat} (hi : i < h.length) : ∃ n s, At h n i s := ⟨_, _, At.of (List.getElem?_eq_getElem hi)⟩

/-! ### one after another -/
theorem of_serial {h : Mix} {t : Nat} : ∀ {p : List Nat}, p.Nodup → Rc98.of_ (serial h p) t = if t ∈ p then Rc98.of_ h t else []
  | [], _ => by simp [serial, Rc98.of_]
  | a :: p, hn => by
    obtain ⟨h1, h2⟩ := List.nodup_cons.mp hn
    have ih := of_serial (h := h) (t := t) h2
    unfold serial at ih ⊢
    unfold Rc98.of_ at ih ⊢
    rw [List.flatMap_cons, List.filter_append, ih, List.filter_filter]
    by_cases e : t = a
    · subst e
      rw [if_neg h1, if_pos List.mem_cons_self, List.append_nil]
      simp
    · have e2 : (h.filter fun x => x.t == t && x.t == a) = [] := by
        rw [List.filter_eq_nil_iff]
        intro x _ q
        simp at q
        exact e (q.1.symm.trans q.2)
      rw [e2, List.nil_append]
      by_cases m : t ∈ p
      · rw [if_pos m, if_pos (List.mem_cons_of_mem _ m)]
      · rw [if_neg m, if_neg (fun q => (List.mem_cons.mp q).elim e m)]
/-- the names and steps of one after another are the mixture's -/
theorem serial_of {h : Mix} (g : Good h) {p : List Nat} (hp : p.Perm (who h)) (t : Nat) : Rc98.of_ (serial h p) t = Rc98.of_ h t := by
  rw [of_serial (hp.nodup_iff.mpr (who_nodup h))]
  by_cases m : t ∈ p
  · rw [if_pos m]
  · rw [if_neg m]
    symm
    unfold Rc98.of_
    rw [List.filter_eq_nil_iff]
    intro s hs q
    have e : s.t = t := by simpa using q
    exact m (hp.mem_iff.mpr (e ▸ who_of g hs))
theorem at_serial {h : Mix} (g : Good h) {p : List Nat} (hp : p.Perm (who h)) {n : Nat × Nat} {i : Nat} {s : Step} (a : At h n i s) : ∃ j, At (serial h p) n j s :=
  At.ex (by rw [serial_of g hp]; exact a.of_)
theorem at_mix {h : Mix} (g : Good h) {p : List Nat} (hp : p.Perm (who h)) {n : Nat × Nat} {i : Nat} {s : Step} (a : At (serial h p) n i s) : ∃ j, At h n j s :=
  At.ex (by rw [← serial_of g hp]; exact a.of_)
theorem idx_pair {p : List Nat} (hn : p.Nodup) : p.Pairwise fun a b => p.idxOf a < p.idxOf b := by
  rw [List.pairwise_iff_getElem]
  intro i j hi hj hij
  rw [List.Nodup.idxOf_getElem hn, List.Nodup.idxOf_getElem hn]
  exact hij
theorem serial_pair {h : Mix} {p : List Nat} (hn : p.Nodup) : (serial h p).Pairwise fun s z => p.idxOf s.t ≤ p.idxOf z.t := by
  unfold serial
  rw [List.pairwise_flatMap]
  have ht : ∀ a, ∀ s ∈ Rc98.of_ h a, s.t = a := fun a s hs => by simpa using (List.mem_filter.mp hs).2
  refine ⟨fun a _ => ?_, (idx_pair hn).imp fun hab x hx y hy => ?_⟩
  · rw [List.pairwise_iff_getElem]
    intro i j hi hj _
    rw [ht a _ (List.getElem_mem hi), ht a _ (List.getElem_mem hj)]
    exact Nat.le_refl _
  · rw [ht _ x hx, ht _ y hy]
    exact Nat.le_of_lt hab
theorem idx_ne {p : List Nat} {a b : Nat} (ha : a ∈ p) (hab : a ≠ b) : p.idxOf a ≠ p.idxOf b := fun e => hab (by
  have h1 : p.idxOf a < p.length := List.idxOf_lt_length_of_mem ha
  have h2 := List.getElem_idxOf h1
  have h3 : p.idxOf b < p.length := e ▸ h1
  have h4 := List.getElem_idxOf h3
  rw [← h2, ← h4]
  congr 1)
theorem mem_of_serial {h : Mix} {p : List Nat} {s : Step} (m : s ∈ serial h p) : s.t ∈ p := by
  unfold serial at m
  obtain ⟨a, ha, hs⟩ := List.mem_flatMap.mp m
  have : s.t = a := by simpa using (List.mem_filter.mp hs).2
  exact this ▸ ha
theorem serial_lt {h : Mix} {p : List Nat} (hn : p.Nodup) {i j : Nat} {s z : Step} (hi : (serial h p)[i]? = some s) (hj : (serial h p)[j]? = some z) (hne : s.t ≠ z.t) : i < j ↔ p.idxOf s.t < p.idxOf z.t := by
  obtain ⟨h1, e1⟩ := List.getElem?_eq_some_iff.mp hi
  obtain ⟨h2, e2⟩ := List.getElem?_eq_some_iff.mp hj
  have q := List.pairwise_iff_getElem.mp (serial_pair (h := h) hn)
  have ms : s.t ∈ p := mem_of_serial (List.mem_of_getElem? hi)
  have ne := idx_ne (b := z.t) ms hne
  constructor
  · intro hij
    have := q i j h1 h2 hij
    rw [e1, e2] at this
    omega
  · intro hlt
    rcases Nat.lt_trichotomy i j with r | r | r
    · exact r
    · subst r
      rw [hi] at hj
      cases hj
      exact absurd rfl hne
    · have := q j i h2 h1 r
      rw [e1, e2] at this
      omega

/-! ### the same by clashes -/
theorem clash_symm (a b : Step) : clash a b = clash b a := by
  unfold clash
  rw [bne_comm, Bool.beq_comm (a := a.x)]
  cases touches a <;> cases touches b <;> cases writes a <;> cases writes b <;> simp
theorem clash_ne {a b : Step} (h : clash a b = true) : a.t ≠ b.t := by
  unfold clash at h
  simp at h
  exact h.1
theorem mem_clashes {h : Mix} {n m : Nat × Nat} : (n, m) ∈ clashes h ↔ ∃ i j s z, i < j ∧ At h n i s ∧ At h m j z ∧ clash s z = true := by
  unfold clashes
  rw [List.mem_flatMap]
  constructor
  · rintro ⟨j, hj, q⟩
    obtain ⟨i, hi, q⟩ := List.mem_filterMap.mp q
    have hj := List.mem_range.mp hj
    have hi := List.mem_range.mp hi
    have ei : h[i]? = some h[i] := List.getElem?_eq_getElem (by omega)
    have ej : h[j]? = some h[j] := List.getElem?_eq_getElem hj
    rw [ei, ej, named_some ei, named_some ej] at q
    dsimp only at q
    by_cases c : clash h[i] h[j] = true
    · rw [if_pos c] at q
      have q := Option.some.inj q
      refine ⟨i, j, h[i], h[j], hi, ?_, ?_, c⟩
      · exact ⟨ei, (congrArg Prod.fst q).symm⟩
      · exact ⟨ej, (congrArg Prod.snd q).symm⟩
    · rw [if_neg c] at q
      cases q
  · rintro ⟨i, j, s, z, hij, a, b, c⟩
    refine ⟨j, List.mem_range.mpr b.lt, List.mem_filterMap.mpr ⟨i, List.mem_range.mpr hij, ?_⟩⟩
    rw [a.1, b.1, (named_at a.1).mpr a, (named_at b.1).mpr b]
    dsimp only
    rw [if_pos c]
/-- a pair of people of whom the first has to be ahead -/
def Ahead (h : Mix) (a b : Nat) : Prop := ∃ (i j : Nat) (s z : Step), i < j ∧ h[i]? = some s ∧ h[j]? = some z ∧ clash s z = true ∧ s.t = a ∧ z.t = b
theorem same_iff {h : Mix} (g : Good h) {p : List Nat} (hp : p.Perm (who h)) : sameClashes h (serial h p) = true ↔ ∀ a b, Ahead h a b → p.idxOf a < p.idxOf b := by
  have hn : p.Nodup := hp.nodup_iff.mpr (who_nodup h)
  unfold sameClashes
  rw [Bool.and_eq_true, List.all_eq_true, List.all_eq_true]
  constructor
  · rintro ⟨q, _⟩ a b ⟨i, j, s, z, hij, hi, hj, c, rfl, rfl⟩
    have m : ((s.t, _), (z.t, _)) ∈ clashes h := mem_clashes.mpr ⟨i, j, s, z, hij, At.of hi, At.of hj, c⟩
    have m := List.contains_iff_mem.mp (q _ m)
    obtain ⟨i', j', s', z', hij', a', b', c'⟩ := mem_clashes.mp m
    have e1 := a'.t
    have e2 := b'.t
    have r := (serial_lt hn a'.1 b'.1 (clash_ne c')).mp hij'
    rw [← e1, ← e2] at r
    exact r
  · intro k
    constructor
    · rintro ⟨n, m⟩ q
      obtain ⟨i, j, s, z, hij, a, b, c⟩ := mem_clashes.mp q
      obtain ⟨i', a'⟩ := at_serial g hp a
      obtain ⟨j', b'⟩ := at_serial g hp b
      refine List.contains_iff_mem.mpr (mem_clashes.mpr ⟨i', j', s, z, ?_, a', b', c⟩)
      exact (serial_lt hn a'.1 b'.1 (clash_ne c)).mpr (k _ _ ⟨i, j, s, z, hij, a.1, b.1, c, rfl, rfl⟩)
    · rintro ⟨n, m⟩ q
      obtain ⟨i', j', s, z, hij', a', b', c⟩ := mem_clashes.mp q
      obtain ⟨i, a⟩ := at_mix g hp a'
      obtain ⟨j, b⟩ := at_mix g hp b'
      refine List.contains_iff_mem.mpr (mem_clashes.mpr ⟨i, j, s, z, ?_, a, b, c⟩)
      have r := (serial_lt hn a'.1 b'.1 (clash_ne c)).mp hij'
      rcases Nat.lt_trichotomy i j with w | w | w
      · exact w
      · subst w
        have e := (At.inj a b).2
        subst e
        exact absurd rfl (clash_ne c)
      · have := k _ _ ⟨j, i, z, s, w, b.1, a.1, by rw [clash_symm]; exact c, rfl, rfl⟩
        omega
/-- whether an order keeps pairs -/
def keepsB (p : List Nat) (ps : List (Nat × Nat)) : Bool := ps.all fun q => !decide (p.idxOf q.1 > p.idxOf q.2)
theorem keeps_same {h : Mix} (g : Good h) {p : List Nat} (hp : p ∈ all_ h) {ps : List (Nat × Nat)} (hps : ∀ a b, (a, b) ∈ ps ↔ Ahead h a b) : keepsB p ps = sameClashes h (serial h p) := by
  have hp := mem_all.mp hp
  rw [Bool.eq_iff_iff, same_iff g hp]
  unfold keepsB
  rw [List.all_eq_true]
  constructor
  · intro q a b ab
    have r := q (a, b) ((hps a b).mpr ab)
    have r : ¬ p.idxOf a > p.idxOf b := by simpa using r
    obtain ⟨i, j, s, z, _, hi, hj, c, e1, e2⟩ := ab
    have := idx_ne (p := p) (a := a) (b := b) (hp.mem_iff.mpr (e1 ▸ who_of g (List.mem_of_getElem? hi))) (by rw [← e1, ← e2]; exact clash_ne c)
    omega
  · rintro q ⟨a, b⟩ m
    have := q a b ((hps a b).mp m)
    simp
    omega
end SM

/-! what is seen -/
namespace SM
open Rc98
def wrt (h : Mix) (x j : Nat) : Bool := match h[j]? with | some z => writes z && z.x == x | none => false
/-- the last write of a place ahead of i, by its name -/
def lastTo (h : Mix) (i x : Nat) : Option (Nat × Nat) := ((List.range i).reverse.find? (wrt h x)).bind (named h)
theorem last_is (h : Mix) (x : Nat) : last h x = lastTo h h.length x := rfl
theorem source_is {h : Mix} {i : Nat} {s : Step} (e : h[i]? = some s) : source h i = lastTo h i s.x := by
  unfold source
  rw [e]
  rfl
theorem lastTo_zero (h : Mix) (x : Nat) : lastTo h 0 x = none := rfl
theorem lastTo_succ (h : Mix) (i x : Nat) : lastTo h (i + 1) x = if wrt h x i = true then named h i else lastTo h i x := by
  unfold lastTo
  rw [List.range_succ, List.reverse_append, List.reverse_singleton, List.singleton_append, List.find?_cons]
  cases e : wrt h x i with
  | true => rfl
  | false => rfl
theorem wrt_some {h : Mix} {x i : Nat} {s : Step} (e : h[i]? = some s) : wrt h x i = (writes s && s.x == x) := by
  unfold wrt
  rw [e]
/-- what each step ahead of i that reads sees -/
def seenF (h : Mix) (i : Nat) : Option ((Nat × Nat) × Option (Nat × Nat)) := match h[i]?, named h i with
  | some s, some p => if reads s = true then some (p, source h i) else none
  | _, _ => none
def seenTo (h : Mix) (i : Nat) : List ((Nat × Nat) × Option (Nat × Nat)) := (List.range i).filterMap (seenF h)
theorem seen_is (h : Mix) : seen h = seenTo h h.length := rfl
theorem seenTo_zero (h : Mix) : seenTo h 0 = [] := rfl
theorem seenF_at {h : Mix} {i : Nat} {s : Step} {n : Nat × Nat} (a : At h n i s) : seenF h i = if reads s = true then some (n, lastTo h i s.x) else none := by
  unfold seenF
  rw [a.1, (named_at a.1).mpr a, source_is a.1]
theorem seenTo_yes {h : Mix} {i : Nat} {s : Step} {n : Nat × Nat} (a : At h n i s) (hr : reads s = true) : seenTo h (i + 1) = seenTo h i ++ [(n, lastTo h i s.x)] := by
  unfold seenTo
  rw [List.range_succ, List.filterMap_append, List.filterMap_cons, seenF_at a, if_pos hr]
  rfl
theorem seenTo_no {h : Mix} {i : Nat} {s : Step} {n : Nat × Nat} (a : At h n i s) (hr : reads s = false) : seenTo h (i + 1) = seenTo h i := by
  unfold seenTo
  rw [List.range_succ, List.filterMap_append, List.filterMap_cons, seenF_at a, if_neg (by rw [hr]; decide)]
  simp
theorem mem_seenTo {h : Mix} {i : Nat} {z : (Nat × Nat) × Option (Nat × Nat)} (m : z ∈ seenTo h i) : ∃ j s, j < i ∧ At h z.1 j s ∧ reads s = true ∧ z.2 = lastTo h j s.x := by
  obtain ⟨j, hj, q⟩ := List.mem_filterMap.mp m
  have hj := List.mem_range.mp hj
  cases e : h[j]? with
  | none =>
    unfold seenF at q
    rw [e] at q
    cases q
  | some s =>
    rw [seenF_at (At.of e)] at q
    by_cases hr : reads s = true
    · rw [if_pos hr] at q
      have q := Option.some.inj q
      subst q
      exact ⟨j, s, hj, At.of e, hr, rfl⟩
    · rw [if_neg hr] at q
      cases q
theorem seenTo_new {h : Mix} {i : Nat} {s : Step} {n : Nat × Nat} (a : At h n i s) : ∀ z ∈ seenTo h i, z.1 ≠ n := fun z m e => by
  obtain ⟨j, s', hj, b, _⟩ := mem_seenTo m
  rw [e] at b
  have := At.uniq a b
  omega
theorem seenTo_nodup (h : Mix) : ∀ i, i ≤ h.length → ((seenTo h i).map (·.1)).Nodup
  | 0, _ => List.nodup_nil
  | i + 1, hi => by
    have ih := seenTo_nodup h i (by omega)
    obtain ⟨n, s, a⟩ := At.ex_of (h := h) (i := i) (by omega)
    cases hr : reads s with
    | true =>
      rw [seenTo_yes a hr, List.map_append, List.nodup_append]
      refine ⟨ih, by simp, ?_⟩
      intro x hx y hy
      obtain ⟨z, hz, rfl⟩ := List.mem_map.mp hx
      have : y = n := by simpa using hy
      subst this
      exact seenTo_new a z hz
    | false =>
      rw [seenTo_no a hr]
      exact ih
theorem seenTo_len (h : Mix) (i : Nat) : (seenTo h i).length ≤ i := by
  unfold seenTo
  have := List.length_filterMap_le (seenF h) (List.range i)
  simpa using this
/-- a last write's name is a write's -/
theorem lastTo_some {h : Mix} {x : Nat} {n : Nat × Nat} : ∀ {i : Nat}, lastTo h i x = some n → ∃ j s, j < i ∧ At h n j s ∧ writes s = true ∧ s.x = x
  | 0, e => by cases e
  | i + 1, e => by
    rw [lastTo_succ] at e
    by_cases c : wrt h x i = true
    · rw [if_pos c] at e
      cases q : h[i]? with
      | none =>
        unfold wrt at c
        rw [q] at c
        cases c
      | some s =>
        rw [wrt_some q] at c
        have c : writes s = true ∧ s.x = x := by simpa using c
        exact ⟨i, s, by omega, (named_at q).mp e, c.1, c.2⟩
    · rw [if_neg c] at e
      obtain ⟨j, s, hj, r⟩ := lastTo_some e
      exact ⟨j, s, by omega, r⟩

/-! ### lists of pairs with unlike keys as maps -/
theorem sub_len {α : Type} [DecidableEq α] : ∀ {a b : List α}, a.Nodup → (∀ z ∈ a, z ∈ b) → b.length ≤ a.length → ∀ z ∈ b, z ∈ a
  | [], b, _, _, hl, z, hz => by
    have : b = [] := List.length_eq_zero_iff.mp (by simpa using hl)
    rw [this] at hz
    cases hz
  | x :: a, b, hn, hs, hl, z, hz => by
    obtain ⟨h1, h2⟩ := List.nodup_cons.mp hn
    have hx : x ∈ b := hs x List.mem_cons_self
    by_cases e : z = x
    · rw [e]
      exact List.mem_cons_self
    · refine List.mem_cons_of_mem _ (sub_len (a := a) (b := b.erase x) h2 (fun y hy => ?_) ?_ z ?_)
      · exact (List.mem_erase_of_ne (fun (q : y = x) => h1 (by rw [← q]; exact hy))).mpr (hs y (List.mem_cons_of_mem _ hy))
      · rw [List.length_erase_of_mem hx]
        simp at hl
        omega
      · exact (List.mem_erase_of_ne e).mpr hz
theorem len_sub {α : Type} [DecidableEq α] {a b : List α} (hn : a.Nodup) (hs : ∀ z ∈ a, z ∈ b) : a.length ≤ b.length := by
  rcases Nat.lt_or_ge b.length a.length with q | q
  · exfalso
    have : ∀ (a b : List α), a.Nodup → (∀ z ∈ a, z ∈ b) → a.length ≤ b.length := by
      intro a
      induction a with
      | nil => intro b _ _; exact Nat.zero_le _
      | cons x a ih =>
        intro b hn hs
        obtain ⟨h1, h2⟩ := List.nodup_cons.mp hn
        have hx : x ∈ b := hs x List.mem_cons_self
        have r := ih (b.erase x) h2 fun y hy => (List.mem_erase_of_ne (fun (q : y = x) => h1 (by rw [← q]; exact hy))).mpr (hs y (List.mem_cons_of_mem _ hy))
        rw [List.length_erase_of_mem hx] at r
        have := List.length_pos_of_mem hx
        rw [List.length_cons]
        omega
    have := this a b hn hs
    omega
  · exact q
theorem same_maps {α : Type} [DecidableEq α] {a b : List α} (ha : a.Nodup) (hb : b.Nodup) : (a.length = b.length ∧ ∀ z ∈ a, z ∈ b) ↔ ∀ z, z ∈ a ↔ z ∈ b := by
  constructor
  · rintro ⟨hl, hs⟩ z
    exact ⟨hs z, sub_len ha hs (by omega) z⟩
  · intro q
    have h1 := len_sub ha fun z hz => (q z).mp hz
    have h2 := len_sub hb fun z hz => (q z).mpr hz
    exact ⟨by omega, fun z hz => (q z).mp hz⟩
theorem nodup_of_keys {α β : Type} {l : List (α × β)} (h : (l.map (·.1)).Nodup) : l.Nodup := by
  have q : l.Pairwise fun (a b : α × β) => a.1 ≠ b.1 := List.pairwise_map.mp h
  exact q.imp fun r e => r (congrArg Prod.fst e)
/-- L holds the last writes of g -/
def LastRep (g : Mix) (L : List (Nat × (Nat × Nat))) : Prop := (L.map (·.1)).Nodup ∧ ∀ x n, (x, n) ∈ L ↔ last g x = some n
theorem sights_same {h g : Mix} (gh : Good h) (gg : Good g) {La Lb : List (Nat × (Nat × Nat))} (ra : LastRep g La) (rb : LastRep h Lb) :
    sameSeen h g = true ↔ ((seen g).length = (seen h).length ∧ ∀ z ∈ seen g, z ∈ seen h) ∧ (La.length = Lb.length ∧ ∀ z ∈ La, z ∈ Lb) := by
  have n1 : (seen g).Nodup := nodup_of_keys (seenTo_nodup g _ (Nat.le_refl _))
  have n2 : (seen h).Nodup := nodup_of_keys (seenTo_nodup h _ (Nat.le_refl _))
  rw [same_maps n1 n2, same_maps (nodup_of_keys ra.1) (nodup_of_keys rb.1)]
  unfold sameSeen
  rw [Bool.and_eq_true, Bool.and_eq_true, List.all_eq_true, List.all_eq_true, List.all_eq_true]
  have lt8 : ∀ {k : Mix}, Good k → ∀ x n, last k x = some n → x < 8 := fun gk x n e => by
    obtain ⟨j, s, _, a, _, hx⟩ := lastTo_some e
    rw [← hx]
    exact (gk.2 s (List.mem_of_getElem? a.1)).2.2
  constructor
  · rintro ⟨q1, q2, q3⟩
    refine ⟨fun z => ⟨fun m => List.contains_iff_mem.mp (q2 z m), fun m => List.contains_iff_mem.mp (q1 z m)⟩, ?_⟩
    rintro ⟨x, n⟩
    rw [ra.2, rb.2]
    have q4 : x < 8 → last h x = last g x := fun hx => by simpa using q3 x (List.mem_range.mpr hx)
    constructor
    · intro e
      rw [q4 (lt8 gg x n e)]
      exact e
    · intro e
      rw [← q4 (lt8 gh x n e)]
      exact e
  · rintro ⟨q1, q2⟩
    refine ⟨fun z m => List.contains_iff_mem.mpr ((q1 z).mpr m), fun z m => List.contains_iff_mem.mpr ((q1 z).mp m), fun x _ => ?_⟩
    have q3 : ∀ n, last g x = some n ↔ last h x = some n := fun n => by rw [← ra.2, ← rb.2]; exact q2 (x, n)
    have : last h x = last g x := by
      cases e : last h x with
      | some n => exact ((q3 n).mpr e).symm
      | none =>
        cases e2 : last g x with
        | none => rfl
        | some n => rw [(q3 n).mp e2] at e; cases e
    simpa using this
/-! ### one more write -/
def putL (L : List (Nat × (Nat × Nat))) (x : Nat) (n : Nat × Nat) : List (Nat × (Nat × Nat)) := if (L.any fun z => decide (z.1 = x)) = true then L.map (fun z => if z.1 = x then (z.1, n) else z) else L ++ [(x, n)]
/-- L holds the last writes ahead of i -/
def RepTo (g : Mix) (i : Nat) (L : List (Nat × (Nat × Nat))) : Prop := (L.map (·.1)).Nodup ∧ ∀ x n, (x, n) ∈ L ↔ lastTo g i x = some n
theorem rep_zero (g : Mix) : RepTo g 0 [] := ⟨List.nodup_nil, fun x n => by rw [lastTo_zero]; simp⟩
theorem rep_all {g : Mix} {L : List (Nat × (Nat × Nat))} (r : RepTo g g.length L) : LastRep g L := r
theorem rep_skip {g : Mix} {i : Nat} {L : List (Nat × (Nat × Nat))} {s : Step} (e : g[i]? = some s) (w : writes s = false) (r : RepTo g i L) : RepTo g (i + 1) L := by
  refine ⟨r.1, fun x n => ?_⟩
  rw [lastTo_succ, wrt_some e, w]
  exact r.2 x n
theorem mem_putL {L : List (Nat × (Nat × Nat))} {x y : Nat} {n m : Nat × Nat} : (y, m) ∈ putL L x n ↔ (y = x ∧ m = n) ∨ (y ≠ x ∧ (y, m) ∈ L) := by
  unfold putL
  split
  · rename_i c
    rw [List.any_eq_true] at c
    obtain ⟨z, hz, ez⟩ := c
    have ez : z.1 = x := of_decide_eq_true ez
    rw [List.mem_map]
    constructor
    · rintro ⟨q, hq, e⟩
      by_cases d : q.1 = x
      · rw [if_pos d] at e
        cases e
        exact .inl ⟨d, rfl⟩
      · rw [if_neg d] at e
        cases e
        exact .inr ⟨d, hq⟩
    · rintro (⟨rfl, rfl⟩ | ⟨d, hm⟩)
      · exact ⟨z, hz, by rw [if_pos ez, ez]⟩
      · exact ⟨(y, m), hm, by rw [if_neg d]⟩
  · rename_i c
    have no : ∀ m, (x, m) ∉ L := fun m hm => c (List.any_eq_true.mpr ⟨(x, m), hm, decide_eq_true rfl⟩)
    rw [List.mem_append]
    constructor
    · rintro (q | q)
      · exact .inr ⟨fun e => no m (e ▸ q), q⟩
      · have q : (y, m) = (x, n) := by simpa using q
        cases q
        exact .inl ⟨rfl, rfl⟩
    · rintro (⟨rfl, rfl⟩ | ⟨_, q⟩)
      · exact .inr (by simp)
      · exact .inl q
theorem putL_keys {L : List (Nat × (Nat × Nat))} {x : Nat} {n : Nat × Nat} (h : (L.map (·.1)).Nodup) : ((putL L x n).map (·.1)).Nodup := by
  unfold putL
  split
  · have e : (L.map fun z => if z.1 = x then (z.1, n) else z).map (·.1) = L.map (·.1) := by
      rw [List.map_map]
      refine List.map_congr_left fun z _ => ?_
      show (if z.1 = x then (z.1, n) else z).1 = z.1
      split <;> rfl
    rw [e]
    exact h
  · rename_i c
    rw [List.map_append, List.nodup_append]
    refine ⟨h, by simp, fun a ha b hb => ?_⟩
    obtain ⟨z, hz, rfl⟩ := List.mem_map.mp ha
    have : b = x := by simpa using hb
    subst this
    exact fun e => c (List.any_eq_true.mpr ⟨z, hz, decide_eq_true e⟩)
theorem putL_len (L : List (Nat × (Nat × Nat))) (x : Nat) (n : Nat × Nat) : (putL L x n).length ≤ L.length + 1 := by
  unfold putL
  split
  · rw [List.length_map]
    omega
  · rw [List.length_append]
    exact Nat.le_refl _
theorem rep_put {g : Mix} {i : Nat} {L : List (Nat × (Nat × Nat))} {s : Step} {n : Nat × Nat} (a : At g n i s) (w : writes s = true) (r : RepTo g i L) : RepTo g (i + 1) (putL L s.x n) := by
  refine ⟨putL_keys r.1, fun y m => ?_⟩
  rw [mem_putL, lastTo_succ, wrt_some a.1, w, Bool.true_and, r.2]
  by_cases d : s.x = y
  · subst d
    rw [if_pos (by simp), (named_at a.1).mpr a]
    constructor
    · rintro (⟨_, rfl⟩ | ⟨q, _⟩)
      · rfl
      · exact absurd rfl q
    · intro q
      exact .inl ⟨rfl, (Option.some.inj q).symm⟩
  · rw [if_neg (by simpa using d)]
    constructor
    · rintro (⟨q, _⟩ | ⟨_, q⟩)
      · exact absurd q.symm d
      · exact q
    · intro q
      exact .inr ⟨fun e => d e.symm, q⟩
theorem good_serial {h : Mix} (g : Good h) {p : List Nat} (hp : p.Perm (who h)) : Good (serial h p) := by
  have hm : ∀ s ∈ serial h p, s ∈ h := fun s m => by
    obtain ⟨a, _, hs⟩ := List.mem_flatMap.mp m
    exact (List.mem_filter.mp hs).1
  refine ⟨?_, fun s m => g.2 s (hm s m)⟩
  have : ∀ (p : List Nat), p.Nodup → (serial h p).length ≤ h.length := by
    intro p hn
    have key : ∀ (k : Mix), (p.map fun a => (Rc98.of_ k a).length).sum ≤ k.length := by
      intro k
      induction k with
      | nil =>
        have : ∀ q : List Nat, (q.map fun a => (Rc98.of_ [] a).length).sum = 0 := fun q => by
          induction q with
          | nil => rfl
          | cons a q ih => rw [List.map_cons, List.sum_cons, ih]; rfl
        rw [this]
        exact Nat.zero_le _
      | cons s k ih =>
        have : ∀ q : List Nat, (q.map fun a => (Rc98.of_ (s :: k) a).length).sum = (q.map fun a => (Rc98.of_ k a).length).sum + q.count s.t := fun q => by
          induction q with
          | nil => rfl
          | cons a q ih2 =>
            rw [List.map_cons, List.sum_cons, List.map_cons, List.sum_cons, ih2, List.count_cons]
            have e : (Rc98.of_ (s :: k) a).length = (Rc98.of_ k a).length + if (a == s.t) = true then 1 else 0 := by
              unfold Rc98.of_
              rw [List.filter_cons]
              by_cases c : s.t = a
              · have c2 : (s.t == a) = true := by simp [c]
                have c3 : (a == s.t) = true := by simp [c]
                rw [if_pos c2, if_pos c3, List.length_cons]
              · have c2 : ¬ (s.t == a) = true := by simp [c]
                have c3 : ¬ (a == s.t) = true := by simp; exact fun q => c q.symm
                rw [if_neg c2, if_neg c3]
                rfl
            rw [e]
            omega
        rw [this, List.length_cons]
        have := List.nodup_iff_count.mp hn s.t
        omega
    unfold serial
    rw [List.length_flatMap]
    exact key h
  exact Nat.le_trans (this p (hp.nodup_iff.mpr (who_nodup h))) g.1
end SM

/-! locks in two phases -/
namespace SM
open Rc98
abbrev Edge := Nat × Nat × Nat × Bool
/-- who writes a place, who else is there -/
def triples (h : Mix) : List (Nat × Nat × Nat) := (List.range 6).flatMap fun (t : Nat) => (List.range 6).flatMap fun (v : Nat) => (List.range 8).filterMap fun (x : Nat) => if t ≠ v ∧ alone h t x = true ∧ uses h v x = true then some (t, v, x) else none
def edgeOf (h : Mix) (y : Nat × Nat × Nat) : Option Edge :=
  let t := y.1
  let v := y.2.1
  let x := y.2.2
  if lastOf (touchesOf h v x) < firstOf (writesOf h t x) then some (v, t, x, true) else if lastOf (touchesOf h t x) < firstOf (touchesOf h v x) then some (t, v, x, false) else none
theorem before_is (h : Mix) : before_ h = (triples h).mapM (edgeOf h) := rfl
theorem mem_triples {h : Mix} {t v x : Nat} : (t, v, x) ∈ triples h ↔ t < 6 ∧ v < 6 ∧ x < 8 ∧ t ≠ v ∧ alone h t x = true ∧ uses h v x = true := by
  unfold triples
  rw [List.mem_flatMap]
  constructor
  · rintro ⟨t', ht, q⟩
    obtain ⟨v', hv, q⟩ := List.mem_flatMap.mp q
    obtain ⟨x', hx, q⟩ := List.mem_filterMap.mp q
    by_cases c : t' ≠ v' ∧ alone h t' x' = true ∧ uses h v' x' = true
    · rw [if_pos c] at q
      have q := Option.some.inj q
      cases q
      exact ⟨List.mem_range.mp ht, List.mem_range.mp hv, List.mem_range.mp hx, c⟩
    · rw [if_neg c] at q
      cases q
  · rintro ⟨ht, hv, hx, c⟩
    exact ⟨t, List.mem_range.mpr ht, List.mem_flatMap.mpr ⟨v, List.mem_range.mpr hv, List.mem_filterMap.mpr ⟨x, List.mem_range.mpr hx, by rw [if_pos c]⟩⟩⟩
theorem mapM_none {α β : Type} {f : α → Option β} : ∀ {l : List α}, l.mapM f = none ↔ ∃ y ∈ l, f y = none
  | [] => by simp
  | a :: l => by
    have ih := mapM_none (f := f) (l := l)
    rw [List.mapM_cons]
    cases e : f a with
    | none => exact ⟨fun _ => ⟨a, List.mem_cons_self, e⟩, fun _ => rfl⟩
    | some b =>
      constructor
      · intro q
        have q : l.mapM f = none := by
          cases e2 : l.mapM f with
          | none => rfl
          | some bs => rw [e2] at q; cases q
        obtain ⟨y, hy, r⟩ := ih.mp q
        exact ⟨y, List.mem_cons_of_mem _ hy, r⟩
      · rintro ⟨y, hy, r⟩
        rcases List.mem_cons.mp hy with z | z
        · rw [z, e] at r; cases r
        · have q := ih.mpr ⟨y, z, r⟩
          show (do let bs ← l.mapM f; pure (b :: bs)) = none
          rw [q]
          rfl
theorem mapM_some {α β : Type} {f : α → Option β} : ∀ {l : List α} {bs : List β}, l.mapM f = some bs → ∀ z, z ∈ bs ↔ ∃ y ∈ l, f y = some z
  | [], bs, e => by
    have : bs = [] := by simpa using e.symm
    subst this
    simp
  | a :: l, bs, e => by
    rw [List.mapM_cons] at e
    cases e1 : f a with
    | none => rw [e1] at e; cases e
    | some b =>
      cases e2 : l.mapM f with
      | none => rw [e1, e2] at e; cases e
      | some cs =>
        rw [e1, e2] at e
        have e : b :: cs = bs := Option.some.inj e
        subst e
        intro z
        rw [List.mem_cons, mapM_some e2 z]
        constructor
        · rintro (q | ⟨y, hy, r⟩)
          · exact ⟨a, List.mem_cons_self, by rw [q]; exact e1⟩
          · exact ⟨y, List.mem_cons_of_mem _ hy, r⟩
        · rintro ⟨y, hy, r⟩
          rcases List.mem_cons.mp hy with w | w
          · rw [w, e1] at r
            exact .inl (Option.some.inj r).symm
          · exact .inr ⟨y, w, r⟩

/-! ### places of steps -/
theorem mem_touchesOf {h : Mix} {t x i : Nat} : i ∈ touchesOf h t x ↔ ∃ s, h[i]? = some s ∧ s.t = t ∧ s.x = x ∧ touches s = true := by
  unfold touchesOf
  rw [List.mem_filter]
  constructor
  · rintro ⟨hi, q⟩
    have hi := List.mem_range.mp hi
    have e : h[i]? = some h[i] := List.getElem?_eq_getElem hi
    rw [e] at q
    have q : (h[i].t = t ∧ h[i].x = x) ∧ touches h[i] = true := by simpa using q
    exact ⟨h[i], e, q.1.1, q.1.2, q.2⟩
  · rintro ⟨s, e, h1, h2, h3⟩
    refine ⟨List.mem_range.mpr (List.getElem?_eq_some_iff.mp e).1, ?_⟩
    rw [e]
    simp [h1, h2, h3]
theorem mem_writesOf {h : Mix} {t x i : Nat} : i ∈ writesOf h t x ↔ ∃ s, h[i]? = some s ∧ s.t = t ∧ s.x = x ∧ writes s = true := by
  unfold writesOf
  rw [List.mem_filter]
  constructor
  · rintro ⟨hi, q⟩
    have hi := List.mem_range.mp hi
    have e : h[i]? = some h[i] := List.getElem?_eq_getElem hi
    rw [e] at q
    have q : (h[i].t = t ∧ h[i].x = x) ∧ writes h[i] = true := by simpa using q
    exact ⟨h[i], e, q.1.1, q.1.2, q.2⟩
  · rintro ⟨s, e, h1, h2, h3⟩
    refine ⟨List.mem_range.mpr (List.getElem?_eq_some_iff.mp e).1, ?_⟩
    rw [e]
    simp [h1, h2, h3]
theorem touchesOf_lt (h : Mix) (t x : Nat) : (touchesOf h t x).Pairwise (· < ·) := List.Pairwise.filter _ List.pairwise_lt_range
theorem uses_iff {h : Mix} {t x : Nat} : uses h t x = true ↔ touchesOf h t x ≠ [] := by
  unfold uses
  rw [List.any_eq_true]
  constructor
  · rintro ⟨s, hs, q⟩ e
    obtain ⟨i, hi⟩ := List.mem_iff_getElem?.mp hs
    have q : s.t = t ∧ s.x = x ∧ touches s = true := by simpa using q
    have m : i ∈ touchesOf h t x := mem_touchesOf.mpr ⟨s, hi, q⟩
    rw [e] at m
    cases m
  · intro q
    obtain ⟨i, hi⟩ := List.exists_mem_of_ne_nil _ q
    obtain ⟨s, e, r⟩ := mem_touchesOf.mp hi
    exact ⟨s, List.mem_of_getElem? e, by simp [r]⟩
theorem alone_iff {h : Mix} {t x : Nat} : alone h t x = true ↔ writesOf h t x ≠ [] := by
  unfold alone
  rw [List.any_eq_true]
  constructor
  · rintro ⟨s, hs, q⟩ e
    obtain ⟨i, hi⟩ := List.mem_iff_getElem?.mp hs
    have q : s.t = t ∧ s.x = x ∧ writes s = true := by simpa using q
    have m : i ∈ writesOf h t x := mem_writesOf.mpr ⟨s, hi, q⟩
    rw [e] at m
    cases m
  · intro q
    obtain ⟨i, hi⟩ := List.exists_mem_of_ne_nil _ q
    obtain ⟨s, e, r⟩ := mem_writesOf.mp hi
    exact ⟨s, List.mem_of_getElem? e, by simp [r]⟩
theorem alone_uses {h : Mix} {t x : Nat} (a : alone h t x = true) : uses h t x = true := by
  unfold alone at a
  unfold uses
  rw [List.any_eq_true] at a ⊢
  obtain ⟨s, hs, q⟩ := a
  refine ⟨s, hs, ?_⟩
  unfold touches
  have q : s.t = t ∧ s.x = x ∧ writes s = true := by simpa using q
  simp [q]
theorem uses_who {h : Mix} (g : Good h) {t x : Nat} (u : uses h t x = true) : t ∈ who h ∧ x < 8 := by
  unfold uses at u
  rw [List.any_eq_true] at u
  obtain ⟨s, hs, q⟩ := u
  have q : s.t = t ∧ s.x = x ∧ touches s = true := by simpa using q
  exact ⟨q.1 ▸ who_of g hs, q.2.1 ▸ (g.2 s hs).2.2⟩
/-- the first touch is no later than the first write -/
theorem head_le {h : Mix} {t x : Nat} (a : alone h t x = true) : (touchesOf h t x).headD 0 ≤ (writesOf h t x).headD 0 := by
  have hw := alone_iff.mp a
  cases e : writesOf h t x with
  | nil => exact absurd e hw
  | cons i r =>
    have m : i ∈ writesOf h t x := by rw [e]; exact List.mem_cons_self
    obtain ⟨s, hs, h1, h2, h3⟩ := mem_writesOf.mp m
    have m2 : i ∈ touchesOf h t x := mem_touchesOf.mpr ⟨s, hs, h1, h2, by unfold touches; simp [h3]⟩
    have p := touchesOf_lt h t x
    cases e2 : touchesOf h t x with
    | nil => rw [e2] at m2; cases m2
    | cons j r2 =>
      rw [e2] at m2 p
      show j ≤ i
      rcases List.mem_cons.mp m2 with q | q
      · omega
      · have := (List.pairwise_cons.mp p).1 i q
        omega

/-! ### the greatest of a fold -/
theorem fold_max {α : Type} (f : α → Nat) : ∀ (l : List α) (a : Nat), let M := l.foldl (fun a z => max a (f z)) a
    a ≤ M ∧ (∀ z ∈ l, f z ≤ M) ∧ (M = a ∨ ∃ z ∈ l, M = f z)
  | [], a => ⟨Nat.le_refl _, by simp, .inl rfl⟩
  | y :: l, a => by
    have ih := fold_max f l (max a (f y))
    obtain ⟨h1, h2, h3⟩ := ih
    refine ⟨Nat.le_trans (Nat.le_max_left _ _) h1, fun z hz => ?_, ?_⟩
    · rcases List.mem_cons.mp hz with q | q
      · rw [q]
        exact Nat.le_trans (Nat.le_max_right _ _) h1
      · exact h2 z q
    · rcases h3 with q | ⟨z, hz, q⟩
      · rcases Nat.le_total a (f y) with w | w
        · exact .inr ⟨y, List.mem_cons_self, q.trans (Nat.max_eq_right w)⟩
        · exact .inl (q.trans (Nat.max_eq_left w))
      · exact .inr ⟨z, List.mem_cons_of_mem _ hz, q⟩
theorem fold_maxIf {α : Type} (c : α → Bool) (f : α → Nat) : ∀ (l : List α) (a : Nat), let M := l.foldl (fun a z => if c z = true then max a (f z) else a) a
    a ≤ M ∧ (∀ z ∈ l, c z = true → f z ≤ M) ∧ (M = a ∨ ∃ z ∈ l, c z = true ∧ M = f z)
  | [], a => ⟨Nat.le_refl _, by simp, .inl rfl⟩
  | y :: l, a => by
    cases hc : c y with
    | false =>
      have ih := fold_maxIf c f l a
      rw [List.foldl_cons, if_neg (by rw [hc]; decide)]
      obtain ⟨h1, h2, h3⟩ := ih
      refine ⟨h1, fun z hz cz => ?_, ?_⟩
      · rcases List.mem_cons.mp hz with q | q
        · rw [q, hc] at cz
          cases cz
        · exact h2 z q cz
      · rcases h3 with q | ⟨z, hz, q⟩
        · exact .inl q
        · exact .inr ⟨z, List.mem_cons_of_mem _ hz, q⟩
    | true =>
      have ih := fold_maxIf c f l (max a (f y))
      rw [List.foldl_cons, if_pos hc]
      obtain ⟨h1, h2, h3⟩ := ih
      refine ⟨Nat.le_trans (Nat.le_max_left _ _) h1, fun z hz cz => ?_, ?_⟩
      · rcases List.mem_cons.mp hz with q | q
        · rw [q]
          exact Nat.le_trans (Nat.le_max_right _ _) h1
        · exact h2 z q cz
      · rcases h3 with q | ⟨z, hz, q⟩
        · rcases Nat.le_total a (f y) with w | w
          · exact .inr ⟨y, List.mem_cons_self, hc, q.trans (Nat.max_eq_right w)⟩
          · exact .inl (q.trans (Nat.max_eq_left w))
        · exact .inr ⟨z, List.mem_cons_of_mem _ hz, q⟩

/-! ### the edges' facts -/
/-- what is known of the list of edges -/
structure Edges (h : Mix) (b : List Edge) : Prop where
  touch : ∀ z ∈ b, uses h z.2.1 z.2.2.1 = true
  first : ∀ z ∈ b, uses h z.1 z.2.2.1 = true
  own : ∀ z ∈ b, z.2.2.2 = true → alone h z.2.1 z.2.2.1 = true
  lt : ∀ z ∈ b, (touchesOf h z.1 z.2.2.1).getLastD 0 < (if z.2.2.2 = true then writesOf h z.2.1 z.2.2.1 else touchesOf h z.2.1 z.2.2.1).headD 0
theorem edges_of {h : Mix} {b : List Edge} (e : before_ h = some b) : Edges h b := by
  rw [before_is] at e
  have q := mapM_some e
  have key : ∀ z ∈ b, ∃ t v x, t ≠ v ∧ alone h t x = true ∧ uses h v x = true ∧ edgeOf h (t, v, x) = some z := fun z hz => by
    obtain ⟨⟨t, v, x⟩, hy, r⟩ := (q z).mp hz
    obtain ⟨_, _, _, h1, h2, h3⟩ := mem_triples.mp hy
    exact ⟨t, v, x, h1, h2, h3, r⟩
  have both : ∀ z ∈ b, uses h z.2.1 z.2.2.1 = true ∧ uses h z.1 z.2.2.1 = true ∧ (z.2.2.2 = true → alone h z.2.1 z.2.2.1 = true) ∧ (touchesOf h z.1 z.2.2.1).getLastD 0 < (if z.2.2.2 = true then writesOf h z.2.1 z.2.2.1 else touchesOf h z.2.1 z.2.2.1).headD 0 := fun z hz => by
    obtain ⟨t, v, x, _, h2, h3, r⟩ := key z hz
    unfold edgeOf at r
    dsimp only at r
    split at r
    · rename_i c
      cases r
      unfold lastOf firstOf at c
      refine ⟨alone_uses h2, h3, fun _ => h2, ?_⟩
      show (touchesOf h v x).getLastD 0 < (if true = true then writesOf h t x else touchesOf h t x).headD 0
      rw [if_pos rfl]
      omega
    · split at r
      · rename_i c
        cases r
        unfold lastOf firstOf at c
        refine ⟨h3, alone_uses h2, (fun k => by cases k), ?_⟩
        show (touchesOf h t x).getLastD 0 < (if false = true then writesOf h v x else touchesOf h v x).headD 0
        rw [if_neg (by decide)]
        omega
      · cases r
  exact ⟨fun z hz => (both z hz).1, fun z hz => (both z hz).2.1, fun z hz => (both z hz).2.2.1, fun z hz => (both z hz).2.2.2⟩

section
variable {h : Mix} {b : List Edge}
def wgt (h : Mix) (m : List Nat) (z : Edge) : Nat := max (m.getD z.1 0) (lastOf (touchesOf h z.1 z.2.2.1)) + 1
theorem takes_is (m : List Nat) (t x : Nat) : let M := takes h b m t x
    (∀ z ∈ b, z.2.1 = t → z.2.2.1 = x → z.2.2.2 = false → wgt h m z ≤ M) ∧ (M = 0 ∨ ∃ z ∈ b, z.2.1 = t ∧ z.2.2.1 = x ∧ z.2.2.2 = false ∧ M = wgt h m z) := by
  have q := fold_max (fun (z : Edge) => max (m.getD z.1 0) (lastOf (touchesOf h z.1 x)) + 1) (b.filter fun (z : Nat × Nat × Nat × Bool) => z.2.1 == t && z.2.2.1 == x && !z.2.2.2) 0
  obtain ⟨_, h2, h3⟩ := q
  refine ⟨fun z hz e1 e2 e3 => ?_, ?_⟩
  · have := h2 z (List.mem_filter.mpr ⟨hz, by simp [e1, e2, e3]⟩)
    unfold wgt
    rw [e2]
    exact this
  · rcases h3 with r | ⟨z, hz, r⟩
    · exact .inl r
    · obtain ⟨hz, c⟩ := List.mem_filter.mp hz
      have c : (z.2.1 = t ∧ z.2.2.1 = x) ∧ z.2.2.2 = false := by simpa using c
      refine .inr ⟨z, hz, c.1.1, c.1.2, c.2, ?_⟩
      unfold wgt
      rw [c.1.2]
      exact r
theorem owns_is (m : List Nat) (t x : Nat) : let M := owns h b m t x
    takes h b m t x ≤ M ∧ (∀ z ∈ b, z.2.1 = t → z.2.2.1 = x → z.2.2.2 = true → wgt h m z ≤ M) ∧ (M = takes h b m t x ∨ ∃ z ∈ b, z.2.1 = t ∧ z.2.2.1 = x ∧ z.2.2.2 = true ∧ M = wgt h m z) := by
  have q := fold_max (fun (z : Edge) => max (m.getD z.1 0) (lastOf (touchesOf h z.1 x)) + 1) (b.filter fun (z : Nat × Nat × Nat × Bool) => z.2.1 == t && z.2.2.1 == x && z.2.2.2) (takes h b m t x)
  obtain ⟨h1, h2, h3⟩ := q
  refine ⟨h1, fun z hz e1 e2 e3 => ?_, ?_⟩
  · have := h2 z (List.mem_filter.mpr ⟨hz, by simp [e1, e2, e3]⟩)
    unfold wgt
    rw [e2]
    exact this
  · rcases h3 with r | ⟨z, hz, r⟩
    · exact .inl r
    · obtain ⟨hz, c⟩ := List.mem_filter.mp hz
      have c : (z.2.1 = t ∧ z.2.2.1 = x) ∧ z.2.2.2 = true := by simpa using c
      refine .inr ⟨z, hz, c.1.1, c.1.2, c.2, ?_⟩
      unfold wgt
      rw [c.1.2]
      exact r
theorem owns_all (m : List Nat) (t x : Nat) : (∀ z ∈ b, z.2.1 = t → z.2.2.1 = x → wgt h m z ≤ owns h b m t x) ∧ (owns h b m t x = 0 ∨ ∃ z ∈ b, z.2.1 = t ∧ z.2.2.1 = x ∧ owns h b m t x = wgt h m z) := by
  obtain ⟨t1, t2⟩ := takes_is (h := h) (b := b) m t x
  obtain ⟨o0, o1, o2⟩ := owns_is (h := h) (b := b) m t x
  refine ⟨fun z hz e1 e2 => ?_, ?_⟩
  · cases c : z.2.2.2 with
    | true => exact o1 z hz e1 e2 c
    | false => exact Nat.le_trans (t1 z hz e1 e2 c) o0
  · rcases o2 with q | ⟨z, hz, e1, e2, _, q⟩
    · rcases t2 with r | ⟨z, hz, e1, e2, _, r⟩
      · exact .inl (q.trans r)
      · exact .inr ⟨z, hz, e1, e2, q.trans r⟩
    · exact .inr ⟨z, hz, e1, e2, q⟩
/-- when one has all: the greatest over the edges into it -/
theorem have_is (E : Edges h b) (g : Good h) (m : List Nat) {t : Nat} (ht : t < 6) : let M := (have_ h b m).getD t 0
    (∀ z ∈ b, z.2.1 = t → wgt h m z ≤ M) ∧ (M = 0 ∨ ∃ z ∈ b, z.2.1 = t ∧ M = wgt h m z) := by
  have e : (have_ h b m).getD t 0 = (List.range 8).foldl (fun (a x : Nat) => if uses h t x = true then max a (owns h b m t x) else a) 0 := by
    unfold have_
    rw [List.getD_eq_getElem?_getD, List.getElem?_map, List.getElem?_range ht]
    rfl
  rw [e]
  obtain ⟨_, h2, h3⟩ := fold_maxIf (fun x => uses h t x) (fun x => owns h b m t x) (List.range 8) 0
  refine ⟨fun z hz e1 => ?_, ?_⟩
  · have u := E.touch z hz
    rw [e1] at u
    have := h2 z.2.2.1 (List.mem_range.mpr (uses_who g u).2) u
    exact Nat.le_trans ((owns_all m t z.2.2.1).1 z hz e1 rfl) this
  · rcases h3 with q | ⟨x, _, _, q⟩
    · exact .inl q
    · rcases (owns_all (h := h) (b := b) m t x).2 with r | ⟨z, hz, e1, _, r⟩
      · exact .inl (q.trans r)
      · exact .inr ⟨z, hz, e1, q.trans r⟩
theorem have_le (E : Edges h b) (g : Good h) {m m' : List Nat} {t : Nat} (ht : t < 6) (hm : ∀ z ∈ b, z.2.1 = t → m.getD z.1 0 = m'.getD z.1 0) : (have_ h b m).getD t 0 ≤ (have_ h b m').getD t 0 := by
  obtain ⟨_, h2⟩ := have_is E g m ht
  obtain ⟨h1, _⟩ := have_is E g m' ht
  rcases h2 with q | ⟨z, hz, e1, q⟩
  · rw [q]
    exact Nat.zero_le _
  · rw [q]
    have : wgt h m z = wgt h m' z := by
      unfold wgt
      rw [hm z hz e1]
    rw [this]
    exact h1 z hz e1
theorem have_eq (E : Edges h b) (g : Good h) {m m' : List Nat} {t : Nat} (ht : t < 6) (hm : ∀ z ∈ b, z.2.1 = t → m.getD z.1 0 = m'.getD z.1 0) : (have_ h b m).getD t 0 = (have_ h b m').getD t 0 :=
  Nat.le_antisymm (have_le E g ht hm) (have_le E g ht fun z hz e => (hm z hz e).symm)
theorem have_len (m : List Nat) : (have_ h b m).length = 6 := by
  unfold have_
  simp
def runs (h : Mix) (b : List Edge) : Nat → List Nat
  | 0 => List.replicate 6 0
  | k + 1 => have_ h b (runs h b k)
theorem runs_fold : (List.range 10).foldl (fun (m : List Nat) (_ : Nat) => have_ h b m) (List.replicate 6 0) = runs h b 10 := rfl
theorem runs_len : ∀ k, (runs h b k).length = 6
  | 0 => rfl
  | _ + 1 => have_len _
/-- an order that keeps the edges -/
def Keeps (p : List Nat) (b : List Edge) : Prop := ∀ z ∈ b, p.idxOf z.1 < p.idxOf z.2.1
theorem runs_stay (E : Edges h b) (g : Good h) {p : List Nat} (kp : Keeps p b) : ∀ (k t : Nat), t < 6 → p.idxOf t < k → (runs h b k).getD t 0 = (runs h b (k + 1)).getD t 0
  | 0, _, _, hk => by omega
  | k + 1, t, ht, hk => by
    refine have_eq E g ht fun z hz e => ?_
    have q := kp z hz
    rw [e] at q
    exact runs_stay E g kp k z.1 (mem_who.mp (uses_who g (E.first z hz)).1).1 (by omega)
theorem ext6 {a c : List Nat} (ha : a.length = 6) (hc : c.length = 6) (q : ∀ t, t < 6 → a.getD t 0 = c.getD t 0) : a = c := by
  refine List.ext_getElem (by omega) fun i h1 h2 => ?_
  have := q i (by omega)
  rw [List.getD_eq_getElem?_getD, List.getD_eq_getElem?_getD, List.getElem?_eq_getElem h1, List.getElem?_eq_getElem h2] at this
  exact this
theorem runs_fix (E : Edges h b) (g : Good h) {p : List Nat} (hl : p.length ≤ 6) (kp : Keeps p b) : have_ h b (runs h b 10) = runs h b 10 := by
  refine ext6 (have_len _) (runs_len 10) fun t ht => ?_
  refine (runs_stay E g kp 10 t ht ?_).symm
  have := List.idxOf_le_length (l := p) (a := t)
  omega

/-! ### the program's moments -/
/-- what the program finds for each person -/
structure Moments (T : List (Nat × Nat × Nat × Nat)) (p : List Nat) (F : Nat → Int) : Prop where
  low : ∀ t ∈ p, -1 ≤ F t
  up : ∀ y ∈ T, y.2.1 ∈ p → (y.2.2.1 : Int) ≤ F y.2.1 ∧ F y.1 ≤ F y.2.1
  is : ∀ t ∈ p, F t = -1 ∨ ∃ y ∈ T, y.2.1 = t ∧ (F t = (y.2.2.1 : Int) ∨ F t = F y.1)
/-- a turn of an edge -/
def turn4 (h : Mix) (z : Edge) : Nat × Nat × Nat × Nat := (z.1, z.2.1, (touchesOf h z.1 z.2.2.1).getLastD 0, (if z.2.2.2 = true then writesOf h z.2.1 z.2.2.1 else touchesOf h z.2.1 z.2.2.1).headD 0)
theorem near (E : Edges h b) (g : Good h) {p : List Nat} (hp : p.Perm (who h)) (kp : Keeps p b) {T : List (Nat × Nat × Nat × Nat)} (hT : ∀ y, y ∈ T ↔ ∃ z ∈ b, y = turn4 h z) {F : Nat → Int} (M : Moments T p F) {m : List Nat} (fx : have_ h b m = m) :
    ∀ (k t : Nat), t ∈ p → p.idxOf t = k → (F t = -1 ∧ m.getD t 0 = 0) ∨ (0 ≤ F t ∧ 1000 * F t + 501 ≤ (m.getD t 0 : Int) ∧ (m.getD t 0 : Int) ≤ 1000 * F t + 501 + k) := by
  intro k
  induction k using Nat.strongRecOn with
  | ind k ih =>
    intro t ht hk
    have ht6 : t < 6 := (mem_who.mp (hp.mem_iff.mp ht)).1
    obtain ⟨h1, h2⟩ := have_is E g m ht6
    rw [fx] at h1 h2
    have IH : ∀ z ∈ b, z.2.1 = t → (F z.1 = -1 ∧ m.getD z.1 0 = 0) ∨ (0 ≤ F z.1 ∧ 1000 * F z.1 + 501 ≤ (m.getD z.1 0 : Int) ∧ (m.getD z.1 0 : Int) ≤ 1000 * F z.1 + 501 + (k - 1 : Nat)) := fun z hz e => by
      have q := kp z hz
      rw [e, hk] at q
      rcases ih _ q z.1 (hp.mem_iff.mpr (uses_who g (E.first z hz)).1) rfl with r | ⟨r1, r2, r3⟩
      · exact .inl r
      · exact .inr ⟨r1, r2, by omega⟩
    have W : ∀ z ∈ b, (wgt h m z : Int) = max (m.getD z.1 0 : Int) (1000 * ((touchesOf h z.1 z.2.2.1).getLastD 0 : Int) + 500) + 1 := fun z _ => by
      unfold wgt lastOf
      omega
    have UP : ∀ z ∈ b, z.2.1 = t → ((touchesOf h z.1 z.2.2.1).getLastD 0 : Int) ≤ F t ∧ F z.1 ≤ F t := fun z hz e => by
      have := M.up (turn4 h z) ((hT _).mpr ⟨z, hz, rfl⟩) (by show z.2.1 ∈ p; rw [e]; exact ht)
      have e2 : (turn4 h z).2.1 = t := e
      rw [e2] at this
      exact this
    by_cases none : ∃ z ∈ b, z.2.1 = t
    · obtain ⟨z0, hz0, e0⟩ := none
      refine .inr ⟨?_, ?_, ?_⟩
      · have := (UP z0 hz0 e0).1
        omega
      · rcases M.is t ht with q | ⟨y, hy, e, q⟩
        · have := (UP z0 hz0 e0).1
          omega
        · obtain ⟨z, hz, rfl⟩ := (hT y).mp hy
          have e : z.2.1 = t := e
          have w1 := h1 z hz e
          have w2 := W z hz
          rcases q with q | q
          · have q : F t = ((touchesOf h z.1 z.2.2.1).getLastD 0 : Int) := q
            omega
          · have q : F t = F z.1 := q
            have := (UP z0 hz0 e0).1
            rcases IH z hz e with r | ⟨r1, r2, r3⟩
            · omega
            · omega
      · rcases h2 with q | ⟨z, hz, e, q⟩
        · have := (UP z0 hz0 e0).1
          omega
        · have w2 := W z hz
          have u := UP z hz e
          have kz := kp z hz
          rw [e, hk] at kz
          rcases IH z hz e with r | ⟨r1, r2, r3⟩
          · omega
          · omega
    · refine .inl ⟨?_, ?_⟩
      · rcases M.is t ht with q | ⟨y, hy, e, _⟩
        · exact q
        · obtain ⟨z, hz, rfl⟩ := (hT y).mp hy
          exact absurd ⟨z, hz, e⟩ none
      · rcases h2 with q | ⟨z, hz, e, _⟩
        · exact q
        · exact absurd ⟨z, hz, e⟩ none
theorem twoPhase_some (e : before_ h = some b) : twoPhase h = (have_ h b (runs h b 10) == runs h b 10 && (List.range 6).all fun (t : Nat) => (List.range 8).all fun (x : Nat) => !(uses h t x) || (decide (takes h b (runs h b 10) t x < firstOf (touchesOf h t x)) && (!(alone h t x) || decide (owns h b (runs h b 10) t x < firstOf (writesOf h t x))))) := by
  unfold twoPhase
  rw [e]
  rfl
theorem twoPhase_none (e : before_ h = none) : twoPhase h = false := by
  unfold twoPhase
  rw [e]
/-- an order that keeps the edges, and its moments: they tell whether locks let it happen -/
theorem two_is (g : Good h) (e : before_ h = some b) {p : List Nat} (hp : p.Perm (who h)) (kp : Keeps p b) {T : List (Nat × Nat × Nat × Nat)} (hT : ∀ y, y ∈ T ↔ ∃ z ∈ b, y = turn4 h z) {F : Nat → Int} (M : Moments T p F) :
    twoPhase h = T.all fun y => decide (F y.1 < (y.2.2.2 : Int)) := by
  have E := edges_of e
  have fx := runs_fix E g (by rw [hp.length_eq]; exact who_len h) kp
  rw [twoPhase_some e, fx, beq_self_eq_true, Bool.true_and]
  generalize runs h b 10 = m at fx
  have N : ∀ t ∈ p, (F t = -1 ∧ m.getD t 0 = 0) ∨ (0 ≤ F t ∧ 1000 * F t + 501 ≤ (m.getD t 0 : Int) ∧ (m.getD t 0 : Int) ≤ 1000 * F t + 507) := fun t ht => by
    have := List.idxOf_le_length (l := p) (a := t)
    have q := hp.length_eq
    have := who_len h
    rcases near E g hp kp hT M fx _ t ht rfl with r | ⟨r1, r2, r3⟩
    · exact .inl r
    · exact .inr ⟨r1, r2, by omega⟩
  have inP : ∀ z ∈ b, z.1 ∈ p := fun z hz => hp.mem_iff.mpr (uses_who g (E.first z hz)).1
  have W : ∀ z ∈ b, (wgt h m z : Int) = max (m.getD z.1 0 : Int) (1000 * ((touchesOf h z.1 z.2.2.1).getLastD 0 : Int) + 500) + 1 := fun z _ => by
    unfold wgt lastOf
    omega
  rw [Bool.eq_iff_iff, List.all_eq_true, List.all_eq_true]
  constructor
  · rintro q y hy
    obtain ⟨z, hz, rfl⟩ := (hT y).mp hy
    have u := E.touch z hz
    have w := uses_who g u
    have q := List.all_eq_true.mp (q z.2.1 (List.mem_range.mpr (mem_who.mp w.1).1)) z.2.2.1 (List.mem_range.mpr w.2)
    rw [u] at q
    simp only [Bool.not_true, Bool.false_or, Bool.and_eq_true, decide_eq_true_eq] at q
    refine decide_eq_true ?_
    show F z.1 < ((if z.2.2.2 = true then writesOf h z.2.1 z.2.2.1 else touchesOf h z.2.1 z.2.2.1).headD 0 : Nat)
    have wz := W z hz
    have nz := N z.1 (inP z hz)
    cases c : z.2.2.2 with
    | true =>
      rw [if_pos rfl]
      have al := E.own z hz c
      have q2 := q.2
      rw [al] at q2
      simp only [Bool.not_true, Bool.false_or, decide_eq_true_eq] at q2
      have o1 := (owns_all (h := h) (b := b) m z.2.1 z.2.2.1).1 z hz rfl rfl
      unfold firstOf at q2
      omega
    | false =>
      rw [if_neg (by decide)]
      have q1 := q.1
      have o1 := (takes_is (h := h) (b := b) m z.2.1 z.2.2.1).1 z hz rfl rfl c
      unfold firstOf at q1
      omega
  · intro q t _
    rw [List.all_eq_true]
    intro x _
    cases u : uses h t x with
    | false => rfl
    | true =>
      have Q : ∀ z ∈ b, F z.1 < ((if z.2.2.2 = true then writesOf h z.2.1 z.2.2.1 else touchesOf h z.2.1 z.2.2.1).headD 0 : Nat) := fun z hz => of_decide_eq_true (q (turn4 h z) ((hT _).mpr ⟨z, hz, rfl⟩))
      have tk : takes h b m t x < firstOf (touchesOf h t x) := by
        unfold firstOf
        rcases (takes_is (h := h) (b := b) m t x).2 with r | ⟨z, hz, e1, e2, c, r⟩
        · omega
        · have wz := W z hz
          have nz := N z.1 (inP z hz)
          have qz := Q z hz
          have lz := E.lt z hz
          rw [c, if_neg (by decide), e1, e2] at qz lz
          rw [e2] at wz
          omega
      simp only [Bool.not_true, Bool.false_or, Bool.and_eq_true, decide_eq_true_eq]
      refine ⟨tk, ?_⟩
      cases al : alone h t x with
      | false => rfl
      | true =>
        simp only [Bool.not_true, Bool.false_or, decide_eq_true_eq]
        have hl := head_le al
        unfold firstOf at tk ⊢
        rcases (owns_is (h := h) (b := b) m t x).2.2 with r | ⟨z, hz, e1, e2, c, r⟩
        · omega
        · have wz := W z hz
          have nz := N z.1 (inP z hz)
          have qz := Q z hz
          have lz := E.lt z hz
          rw [c, if_pos rfl, e1, e2] at qz lz
          rw [e2] at wz
          omega
/-- where no order keeps the edges, locks don't let it happen -/
theorem two_no (g : Good h) (e : before_ h = some b) (no : ∀ p, p.Perm (who h) → ¬ Keeps p b) : twoPhase h = false := by
  have E := edges_of e
  cases c : twoPhase h with
  | false => rfl
  | true =>
    exfalso
    rw [twoPhase_some e, Bool.and_eq_true] at c
    have fx : have_ h b (runs h b 10) = runs h b 10 := by simpa using c.1
    generalize runs h b 10 = m at fx
    let le := fun (a c : Nat) => decide (m.getD a 0 ≤ m.getD c 0)
    have hp := List.mergeSort_perm (who h) le
    refine no _ hp fun z hz => ?_
    have srt : ((who h).mergeSort le).Pairwise fun a c => le a c = true := by
      refine List.pairwise_mergeSort (fun a b c h1 h2 => ?_) (fun a b => ?_) (who h)
      · simp only [le, decide_eq_true_eq] at h1 h2 ⊢
        omega
      · simp only [le, Bool.or_eq_true, decide_eq_true_eq]
        omega
    have ht6 : z.2.1 < 6 := (mem_who.mp (uses_who g (E.touch z hz)).1).1
    have w := (have_is E g m ht6).1 z hz rfl
    rw [fx] at w
    unfold wgt at w
    have lt : m.getD z.1 0 < m.getD z.2.1 0 := by omega
    have m1 : z.1 ∈ (who h).mergeSort le := hp.mem_iff.mpr (uses_who g (E.first z hz)).1
    have m2 : z.2.1 ∈ (who h).mergeSort le := hp.mem_iff.mpr (uses_who g (E.touch z hz)).1
    have i1 := List.idxOf_lt_length_of_mem m1
    have i2 := List.idxOf_lt_length_of_mem m2
    rcases Nat.lt_trichotomy (((who h).mergeSort le).idxOf z.1) (((who h).mergeSort le).idxOf z.2.1) with q | q | q
    · exact q
    · have a1 := List.getElem_idxOf i1
      have a2 := List.getElem_idxOf i2
      have : z.1 = z.2.1 := by rw [← a1, ← a2]; congr 1
      rw [this] at lt
      omega
    · have r := List.pairwise_iff_getElem.mp srt _ _ i2 i1 q
      rw [List.getElem_idxOf i1, List.getElem_idxOf i2] at r
      simp only [le, decide_eq_true_eq] at r
      omega
end
end SM

/-! what can be taken back -/
namespace SM
open Rc98
/-- whose is the last write of a place ahead of j -/
def lastW (h : Mix) (j x : Nat) : Option Nat := ((List.range j).reverse.find? (wrt h x)).bind fun i => (h[i]?).map (·.t)
theorem lastW_zero (h : Mix) (x : Nat) : lastW h 0 x = none := rfl
theorem lastW_succ {h : Mix} {i x : Nat} {s : Step} (e : h[i]? = some s) : lastW h (i + 1) x = if (writes s && s.x == x) = true then some s.t else lastW h i x := by
  unfold lastW
  rw [List.range_succ, List.reverse_append, List.reverse_singleton, List.singleton_append, List.find?_cons, wrt_some e]
  cases c : writes s && s.x == x with
  | true =>
    show (h[i]?).map (·.t) = _
    rw [e]
    rfl
  | false => rfl
def writerSeen (h : Mix) (j : Nat) (s : Step) : Option Nat := if reads s = true then lastW h j s.x else none
/-- reads of what another has written -/
def soF (h : Mix) (j : Nat) : Option (Nat × Nat) := match h[j]? with
  | none => none
  | some s => match writerSeen h j s with
    | none => none
    | some w => if w = s.t then none else some (j, w)
def soTo (h : Mix) (i : Nat) : List (Nat × Nat) := (List.range i).filterMap (soF h)
theorem soTo_zero (h : Mix) : soTo h 0 = [] := rfl
theorem soTo_succ (h : Mix) (i : Nat) : soTo h (i + 1) = soTo h i ++ (soF h i).toList := by
  unfold soTo
  rw [List.range_succ, List.filterMap_append]
  cases e : soF h i <;> simp [e]
theorem soTo_len (h : Mix) (i : Nat) : (soTo h i).length ≤ i := by
  unfold soTo
  have := List.length_filterMap_le (soF h) (List.range i)
  simpa using this
theorem mem_so {h : Mix} {j w : Nat} : (j, w) ∈ soTo h h.length ↔ ∃ s, h[j]? = some s ∧ writerSeen h j s = some w ∧ w ≠ s.t := by
  unfold soTo
  rw [List.mem_filterMap]
  constructor
  · rintro ⟨i, hi, q⟩
    obtain ⟨s, e⟩ : ∃ s, h[i]? = some s := ⟨_, List.getElem?_eq_getElem (List.mem_range.mp hi)⟩
    unfold soF at q
    rw [e] at q
    dsimp only at q
    cases c : writerSeen h i s with
    | none => rw [c] at q; cases q
    | some w' =>
      rw [c] at q
      dsimp only at q
      by_cases d : w' = s.t
      · rw [if_pos d] at q; cases q
      · rw [if_neg d] at q
        cases q
        exact ⟨s, e, c, d⟩
  · rintro ⟨s, e, c, d⟩
    refine ⟨j, List.mem_range.mpr (List.getElem?_eq_some_iff.mp e).1, ?_⟩
    unfold soF
    rw [e]
    dsimp only
    rw [c]
    dsimp only
    rw [if_neg d]
theorem reader_iff {h : Mix} {f : Nat → Nat → Nat → Bool} : reader h (fun a _ b j => f a b j) = true ↔ ∀ j w, (j, w) ∈ soTo h h.length → ∀ s, h[j]? = some s → f w s.t j = true := by
  unfold reader
  rw [List.all_eq_true]
  have key : ∀ (j : Nat) (s : Step), h[j]? = some s → ((!reads s || (match (List.range j).reverse.find? (fun i => match h[i]? with | some z => writes z && z.x == s.x | none => false) with
    | none => true
    | some i => match h[i]? with
      | none => true
      | some z => z.t == s.t || f z.t s.t j)) = true ↔ ∀ w, writerSeen h j s = some w → w ≠ s.t → f w s.t j = true) := by
    intro j s e
    unfold writerSeen lastW
    cases r : reads s with
    | false => simp
    | true =>
      simp only [Bool.not_true, Bool.false_or, if_true]
      show ((match (List.range j).reverse.find? (wrt h s.x) with
        | none => true
        | some i => match h[i]? with
          | none => true
          | some z => z.t == s.t || f z.t s.t j) = true ↔ _)
      cases c : (List.range j).reverse.find? (wrt h s.x) with
      | none => simp
      | some i =>
        have hi : i < j := by
          have := List.mem_of_find?_eq_some c
          simpa using this
        obtain ⟨z, ei⟩ : ∃ z, h[i]? = some z := ⟨_, List.getElem?_eq_getElem (Nat.lt_trans hi (List.getElem?_eq_some_iff.mp e).1)⟩
        dsimp only
        rw [ei]
        simp only [Option.bind_some, ei, Option.map_some]
        constructor
        · intro q w ew ne
          cases ew
          rcases Bool.or_eq_true_iff.mp q with q | q
          · exact absurd (by simpa using q) ne
          · exact q
        · intro q
          by_cases d : z.t = s.t
          · simp [d]
          · rw [q _ rfl d]
            simp
  constructor
  · intro q j w m s e
    obtain ⟨s', e', c, d⟩ := mem_so.mp m
    rw [e] at e'
    cases e'
    have r := q j (List.mem_range.mpr (List.getElem?_eq_some_iff.mp e).1)
    rw [e] at r
    exact (key j s e).mp r w c d
  · intro q j hj
    obtain ⟨s, e⟩ : ∃ s, h[j]? = some s := ⟨_, List.getElem?_eq_getElem (List.mem_range.mp hj)⟩
    rw [e]
    exact (key j s e).mpr fun w c d => q j w (mem_so.mpr ⟨s, e, c, d⟩) s e
theorem recover_iff {h : Mix} : recoverable h = true ↔ ∀ j w, (j, w) ∈ soTo h h.length → ∀ s, h[j]? = some s → ∀ d, doneAt h s.t = some d → doneBy h w d = true := by
  unfold recoverable
  refine Iff.trans (reader_iff (f := fun a b _ => match doneAt h b with | none => true | some k => doneBy h a k)) ?_
  constructor
  · intro q j w m s e d hd
    have := q j w m s e
    rw [hd] at this
    exact this
  · intro q j w m s e
    cases hd : doneAt h s.t with
    | none => rfl
    | some d => exact q j w m s e d hd
theorem careful_iff {h : Mix} : careful h = true ↔ ∀ j w, (j, w) ∈ soTo h h.length → doneBy h w j = true := by
  unfold careful
  rw [reader_iff (f := fun a _ j => doneBy h a j)]
  constructor
  · intro q j w m
    obtain ⟨s, e, _⟩ := mem_so.mp m
    exact q j w m s e
  · intro q j w m s _
    exact q j w m
theorem mem_take {h : Mix} {j : Nat} {a : Step} : a ∈ h.take j ↔ ∃ i, i < j ∧ h[i]? = some a := by
  rw [List.mem_iff_getElem?]
  constructor
  · rintro ⟨i, e⟩
    rw [List.getElem?_take] at e
    by_cases c : i < j
    · rw [if_pos c] at e
      exact ⟨i, c, e⟩
    · rw [if_neg c] at e
      cases e
  · rintro ⟨i, c, e⟩
    exact ⟨i, by rw [List.getElem?_take, if_pos c]; exact e⟩
theorem over_iff {h : Mix} {p : Step → Step → Bool} : over h p = true ↔ ∀ (j : Nat) (b : Step), h[j]? = some b → touches b = true → ∀ a ∈ h.take j, a.t ≠ b.t → a.x = b.x → touches a = true → p a b = true → doneBy h a.t j = true := by
  unfold over
  rw [List.all_eq_true]
  constructor
  · intro q j b e tb a ha h1 h2 ta pab
    obtain ⟨i, hij, ei⟩ := mem_take.mp ha
    have r := List.all_eq_true.mp (q j (List.mem_range.mpr (List.getElem?_eq_some_iff.mp e).1)) i (List.mem_range.mpr hij)
    rw [e, ei] at r
    simpa [h1, h2, ta, tb, pab] using r
  · intro q j hj
    rw [List.all_eq_true]
    intro i hi
    have hj := List.mem_range.mp hj
    have hi := List.mem_range.mp hi
    have ej : h[j]? = some h[j] := List.getElem?_eq_getElem hj
    have ei : h[i]? = some h[i] := List.getElem?_eq_getElem (by omega)
    rw [ei, ej]
    dsimp only
    cases c : (h[i].t != h[j].t && (h[i].x == h[j].x && (touches h[i] && (touches h[j] && p h[i] h[j])))) with
    | false => rfl
    | true =>
      simp at c
      obtain ⟨c1, c2, c3, c4, c5⟩ := c
      rw [q j h[j] ej c4 h[i] (mem_take.mpr ⟨i, hi, ei⟩) c1 c2 c3 c5]
      rfl
/-- those else who have done what at the place of s, ahead of j -/
def othersB (h : Mix) (j : Nat) (s : Step) (w : Nat) : List Nat := ((h.take j).filter fun a => a.t != s.t && (a.what == w && a.x == s.x)).map (·.t)
theorem strict_iff {h : Mix} : strict h = true ↔ ∀ (j : Nat) (b : Step), h[j]? = some b → touches b = true → (othersB h j b 1).all (fun t => doneBy h t j) = true := by
  unfold strict
  rw [over_iff]
  constructor
  · intro q j b e tb
    rw [List.all_eq_true]
    intro t ht
    obtain ⟨a, ha, rfl⟩ := List.mem_map.mp ht
    obtain ⟨ha, c⟩ := List.mem_filter.mp ha
    simp at c
    have hw : writes a = true := by unfold writes; simp [c.2.1]
    exact q j b e tb a ha c.1 c.2.2 (by unfold touches; simp [hw]) hw
  · intro q j b e tb a ha h1 h2 _ hw
    unfold writes at hw
    have hw : a.what = 1 := by simpa using hw
    exact List.all_eq_true.mp (q j b e tb) a.t (List.mem_map.mpr ⟨a, List.mem_filter.mpr ⟨ha, by simp [h1, h2, hw]⟩, rfl⟩)
theorem rigorous_iff {h : Mix} : rigorous h = true ↔ (∀ (j : Nat) (b : Step), h[j]? = some b → writes b = true → (othersB h j b 0).all (fun t => doneBy h t j) = true) ∧ strict h = true := by
  rw [strict_iff]
  unfold rigorous
  rw [over_iff]
  constructor
  · intro q
    constructor
    · intro j b e wb
      rw [List.all_eq_true]
      intro t ht
      obtain ⟨a, ha, rfl⟩ := List.mem_map.mp ht
      obtain ⟨ha, c⟩ := List.mem_filter.mp ha
      simp at c
      exact q j b e (by unfold touches; simp [wb]) a ha c.1 c.2.2 (by unfold touches reads; simp [c.2.1]) (by simp [wb])
    · intro j b e tb
      rw [List.all_eq_true]
      intro t ht
      obtain ⟨a, ha, rfl⟩ := List.mem_map.mp ht
      obtain ⟨ha, c⟩ := List.mem_filter.mp ha
      simp at c
      have hw : writes a = true := by unfold writes; simp [c.2.1]
      exact q j b e tb a ha c.1 c.2.2 (by unfold touches; simp [hw]) (by simp [hw])
  · rintro ⟨q1, q2⟩ j b e tb a ha h1 h2 ta hw
    cases wa : writes a with
    | true =>
      unfold writes at wa
      have wa : a.what = 1 := by simpa using wa
      exact List.all_eq_true.mp (q2 j b e tb) a.t (List.mem_map.mpr ⟨a, List.mem_filter.mpr ⟨ha, by simp [h1, h2, wa]⟩, rfl⟩)
    | false =>
      rw [wa] at hw
      have wb : writes b = true := by simpa using hw
      unfold touches at ta
      rw [wa] at ta
      have ra : a.what = 0 := by unfold reads at ta; simpa using ta
      exact List.all_eq_true.mp (q1 j b e wb) a.t (List.mem_map.mpr ⟨a, List.mem_filter.mpr ⟨ha, by simp [h1, h2, ra]⟩, rfl⟩)
end SM

/-! the calls -/
namespace SM
open Rc98
def shp : Int → Option (Nat × Nat) := PyRc98.shape
/-- how many numbers a call hands in -/
def nums (p : Int) : Nat := if p = 1 then 3 else if p = 2 ∨ p = 6 then 1 else 0
theorem shape_is {p : Int} {n k : Nat} (e : PyRc98.shape p = some (n, k)) : (0 ≤ p ∧ p ≤ 6) ∧ n = nums p ∧ k = 0 := by
  unfold PyRc98.shape at e
  unfold nums
  split at e
  · cases e; subst_vars; exact ⟨by omega, rfl, rfl⟩
  · split at e
    · cases e; subst_vars; exact ⟨by omega, rfl, rfl⟩
    · split at e
      · cases e; subst_vars; exact ⟨by omega, rfl, rfl⟩
      · split at e
        · cases e; subst_vars; exact ⟨by omega, rfl, rfl⟩
        · split at e
          · cases e; subst_vars; exact ⟨by omega, rfl, rfl⟩
          · split at e
            · cases e; subst_vars; exact ⟨by omega, rfl, rfl⟩
            · split at e
              · cases e; subst_vars; exact ⟨by omega, rfl, rfl⟩
              · cases e
theorem whole_is (c : List (List Int)) : PyRc98.whole c = c := by
  unfold PyRc98.whole
  split <;> rfl
theorem map_whole (cs : List (List (List Int))) : cs.map PyRc98.whole = cs := by
  have : PyRc98.whole = id := funext whole_is
  rw [this, List.map_id]
/-- the calls that are left of a list of numbers -/
def Left (l : List Int) (cs : List (List (List Int))) : Prop := ∃ f, PyFlat.calls PyRc98.shape f l = some cs
theorem Left.nil {cs : List (List (List Int))} (h : Left [] cs) : cs = [] := by
  obtain ⟨f, e⟩ := h
  cases f <;> (simp [PyFlat.calls] at e; exact e)
theorem Left.cons {p : Int} {r : List Int} {cs : List (List (List Int))} (h : Left (p :: r) cs) :
    (0 ≤ p ∧ p ≤ 6) ∧ nums p ≤ r.length ∧ ∃ cs', cs = [p :: r.take (nums p)] :: cs' ∧ Left (r.drop (nums p)) cs' := by
  obtain ⟨f, e⟩ := h
  cases f with
  | zero => cases e
  | succ f =>
    unfold PyFlat.calls at e
    unfold PyFlat.call at e
    dsimp only at e
    cases s : PyRc98.shape p with
    | none => rw [s] at e; cases e
    | some q =>
      obtain ⟨n, k⟩ := q
      obtain ⟨h1, rfl, rfl⟩ := shape_is s
      rw [s] at e
      dsimp only at e
      by_cases c : r.length < nums p
      · rw [if_pos c] at e
        cases e
      · rw [if_neg c] at e
        unfold PyFlat.rows at e
        dsimp only at e
        cases d : PyFlat.calls PyRc98.shape f (r.drop (nums p)) with
        | none => rw [d] at e; cases e
        | some cs' =>
          rw [d] at e
          cases e
          exact ⟨h1, by omega, cs', rfl, f, d⟩
/-- what one call is answered, and what it makes of the mixture -/
def one (s : Mix) (p : Int) (a : List Int) : Mix × List Int := let y := Rc98Neutral.step { mix := s } [p :: a]
  (y.1.mix, y.2)
/-- all that is told from a state on -/
def tell (s : Mix) (cs : List (List (List Int))) : List Int := PyFlat.told (PyFlat.played Rc98Neutral.step { mix := s } cs)
theorem tell_nil (s : Mix) : tell s [] = [] := rfl
theorem tell_cons (s : Mix) (p : Int) (a : List Int) (cs : List (List (List Int))) : tell s ([p :: a] :: cs) = ((one s p a).2.length : Int) :: (one s p a).2 ++ tell (one s p a).1 cs := by
  unfold tell PyFlat.told one
  rw [PyFlat.played, List.flatMap_cons]
theorem asked_is {l : List Int} (h : PyRc98.answers_asked l = true) : ∃ cs, Left l cs ∧ cs.length ≤ 400 ∧ PyRc98.answers l = tell [] cs := by
  unfold PyRc98.answers_asked at h
  cases e : PyFlat.calls PyRc98.shape l.length l with
  | none => rw [e] at h; cases h
  | some cs =>
    rw [e] at h
    dsimp only at h
    rw [Bool.and_eq_true, Bool.and_eq_true, Bool.and_eq_true] at h
    have h1 : cs.length ≤ 400 := of_decide_eq_true h.1.1.1
    refine ⟨cs, ⟨_, e⟩, h1, ?_⟩
    unfold PyRc98.answers PyRc98.calls
    rw [e]
    dsimp only
    rw [map_whole]
    rfl
/-! ### one call at a time -/
theorem one_begin (s : Mix) : one s 0 [] = ([], [0]) := rfl
theorem one_step (s : Mix) (a b c : Int) : one s 1 [a, b, c] = ((does { mix := s } (.step a b c)).1.mix, (does { mix := s } (.step a b c)).2.value :: (does { mix := s } (.step a b c)).2.numbers.map fun (b : Nat) => (b : Int)) := rfl
theorem step_bad {s : Mix} {a b c : Int} (h : ¬ ((0 ≤ a ∧ a < 6) ∧ (0 ≤ b ∧ b ≤ 2) ∧ (0 ≤ c ∧ c < 8))) : one s 1 [a, b, c] = (s, [-1]) := by
  rw [one_step]
  have e : (below a PEOPLE && (below b 3 && below c PLACES)) = false := by
    cases q : (below a PEOPLE && (below b 3 && below c PLACES)) with
    | false => rfl
    | true =>
      exfalso
      unfold below PEOPLE PLACES at q
      simp at q
      omega
  unfold does
  dsimp only
  rw [if_pos e]
  rfl
theorem step_ok {a b c : Int} (h : (0 ≤ a ∧ a < 6) ∧ (0 ≤ b ∧ b ≤ 2) ∧ (0 ≤ c ∧ c < 8)) : ¬ (below a PEOPLE && (below b 3 && below c PLACES)) = false := by
  unfold below PEOPLE PLACES
  simp
  omega
theorem step_done {s : Mix} {a b c : Int} (h : (0 ≤ a ∧ a < 6) ∧ (0 ≤ b ∧ b ≤ 2) ∧ (0 ≤ c ∧ c < 8)) {d : Nat} (hd : doneAt s a.toNat = some d) : one s 1 [a, b, c] = (s, [-4]) := by
  rw [one_step]
  have e : isDone s a.toNat = true := by
    unfold isDone
    rw [hd]
    rfl
  unfold does
  dsimp only
  rw [if_neg (step_ok h), if_pos e]
  rfl
theorem step_full {s : Mix} {a b c : Int} (h : (0 ≤ a ∧ a < 6) ∧ (0 ≤ b ∧ b ≤ 2) ∧ (0 ≤ c ∧ c < 8)) (hd : doneAt s a.toNat = none) (hl : 24 ≤ s.length) : one s 1 [a, b, c] = (s, [-2]) := by
  rw [one_step]
  have e : ¬ isDone s a.toNat = true := by
    unfold isDone
    rw [hd]
    exact Bool.false_ne_true
  have e2 : MOST ≤ s.length := hl
  unfold does
  dsimp only
  rw [if_neg (step_ok h), if_neg e, if_pos e2]
  rfl
def newStep (a b c : Int) : Step := ⟨a.toNat, b.toNat, if b = 2 then 0 else c.toNat⟩
theorem step_new {s : Mix} {a b c : Int} (h : (0 ≤ a ∧ a < 6) ∧ (0 ≤ b ∧ b ≤ 2) ∧ (0 ≤ c ∧ c < 8)) (hd : doneAt s a.toNat = none) (hl : ¬ 24 ≤ s.length) : one s 1 [a, b, c] = (s ++ [newStep a b c], [((s.length + 1 : Nat) : Int)]) := by
  rw [one_step]
  have e : ¬ isDone s a.toNat = true := by
    unfold isDone
    rw [hd]
    exact Bool.false_ne_true
  have e2 : ¬ MOST ≤ s.length := hl
  unfold does
  dsimp only
  rw [if_neg (step_ok h), if_neg e, if_neg e2]
  rfl
theorem good_new {s : Mix} (g : Good s) {a b c : Int} (h : (0 ≤ a ∧ a < 6) ∧ (0 ≤ b ∧ b ≤ 2) ∧ (0 ≤ c ∧ c < 8)) (hl : ¬ 24 ≤ s.length) : Good (s ++ [newStep a b c]) := by
  refine ⟨by rw [List.length_append]; simp; omega, fun z hz => ?_⟩
  rcases List.mem_append.mp hz with q | q
  · exact g.2 z q
  · have : z = newStep a b c := by simpa using q
    subst this
    unfold newStep GoodS
    dsimp only
    refine ⟨by omega, by omega, ?_⟩
    split <;> omega
theorem one_order_some {s : Mix} {m : Int} {p : List Nat} {r : List (List Nat)} (e : (all_ s).filter (fun p => sameClashes s (serial s p)) = p :: r) : one s 2 [m] = (s, (p.length : Int) :: (intL p).take (if 1 ≤ m ∧ m ≤ 6 then m.toNat else 0)) := by
  have f : (all_ s).find? (fun (p : List Nat) => sameClashes s (serial s p)) = some p := by
    rw [← List.head?_filter, e]
    rfl
  unfold one Rc98Neutral.step Rc98Neutral.callOf does
  dsimp only
  rw [f]
  dsimp only
  refine Prod.ext rfl ?_
  show (p.length : Int) :: (p.take (room_ m PEOPLE)).map (fun (b : Nat) => (b : Int)) = _
  unfold room_ PEOPLE intL
  rw [List.map_take]
  rfl
theorem one_order_none {s : Mix} {m : Int} (e : (all_ s).filter (fun p => sameClashes s (serial s p)) = []) : one s 2 [m] = (s, [-1]) := by
  have f : (all_ s).find? (fun (p : List Nat) => sameClashes s (serial s p)) = none := by
    rw [← List.head?_filter, e]
    rfl
  unfold one Rc98Neutral.step Rc98Neutral.callOf does
  dsimp only
  rw [f]
  rfl
theorem one_looks {s : Mix} : one s 3 [] = (s, [if ((all_ s).filter (fun p => sameSeen s (serial s p))).length > 0 then 1 else 0]) := by
  show (s, [((bit (bySeen s) : Nat) : Int)]) = _
  have : bySeen s = decide (((all_ s).filter (fun p => sameSeen s (serial s p))).length > 0) := by
    rw [Bool.eq_iff_iff]
    unfold bySeen
    rw [List.any_eq_true, decide_eq_true_eq, gt_iff_lt, List.length_pos_iff_exists_mem]
    constructor
    · rintro ⟨p, hp, e⟩
      exact ⟨p, List.mem_filter.mpr ⟨hp, e⟩⟩
    · rintro ⟨p, hp⟩
      exact ⟨p, (List.mem_filter.mp hp).1, (List.mem_filter.mp hp).2⟩
  rw [this]
  unfold bit
  by_cases c : ((all_ s).filter (fun p => sameSeen s (serial s p))).length > 0
  · rw [decide_eq_true c, if_pos c]
    rfl
  · rw [decide_eq_false c, if_neg c]
    rfl
theorem one_locks {s : Mix} : one s 4 [] = (s, [if twoPhase s = true then 1 else 0]) := rfl
theorem one_back {s : Mix} : one s 5 [] = (s, [((bit (recoverable s) + 2 * bit (careful s) + 4 * bit (strict s) + 8 * bit (rigorous s) : Nat) : Int)]) := rfl
theorem one_many0 {s : Mix} : one s 6 [0] = (s, [(((all_ s).filter (fun p => sameClashes s (serial s p))).length : Int)]) := rfl
theorem one_many1 {s : Mix} : one s 6 [1] = (s, [(((all_ s).filter (fun p => sameSeen s (serial s p))).length : Int)]) := rfl
theorem one_many {s : Mix} {k : Int} (h0 : k ≠ 0) (h1 : k ≠ 1) : one s 6 [k] = (s, [-1]) := by
  have e : below k 2 = false := by
    cases q : below k 2 with
    | false => rfl
    | true =>
      exfalso
      unfold below at q
      simp at q
      omega
  show ((does { mix := s } (.many k)).1.mix, (does { mix := s } (.many k)).2.value :: (does { mix := s } (.many k)).2.numbers.map fun (b : Nat) => (b : Int)) = _
  unfold does
  dsimp only
  rw [if_pos e]
  rfl
end SM

/-! turns: the program's words of who is first -/
namespace SM
open Rc98
/-- none: nothing to tell; []: neither can be first; else who is first, who second, the last step of the one, the first of the other -/
def turnOf (h : Mix) (t v x : Nat) : Option (List Nat) :=
  if writesOf h t x = [] ∨ touchesOf h v x = [] then none
  else if (touchesOf h v x).getLastD 0 < (writesOf h t x).headD 0 then some [v, t, (touchesOf h v x).getLastD 0, (writesOf h t x).headD 0]
  else if (touchesOf h t x).getLastD 0 < (touchesOf h v x).headD 0 then some [t, v, (touchesOf h t x).getLastD 0, (touchesOf h v x).headD 0]
  else some []
def rowT (h : Mix) (t v : Nat) : List (Option (List Nat)) := if v = t then [] else (List.range 8).map (turnOf h t v)
def allRows (h : Mix) : List (Option (List Nat)) := (who h).flatMap fun t => (who h).flatMap fun v => rowT h t v
def allTurns (h : Mix) : List (List Nat) := (allRows h).filterMap id
theorem mem_allTurns {h : Mix} (g : Good h) {l : List Nat} : l ∈ allTurns h ↔ ∃ t v x, (t, v, x) ∈ triples h ∧ turnOf h t v x = some l := by
  unfold allTurns allRows
  rw [List.mem_filterMap]
  constructor
  · rintro ⟨o, ho, e⟩
    have e : o = some l := e
    obtain ⟨t, ht, ho⟩ := List.mem_flatMap.mp ho
    obtain ⟨v, hv, ho⟩ := List.mem_flatMap.mp ho
    unfold rowT at ho
    by_cases c : v = t
    · rw [if_pos c] at ho
      cases ho
    · rw [if_neg c] at ho
      obtain ⟨x, hx, ho⟩ := List.mem_map.mp ho
      rw [e] at ho
      refine ⟨t, v, x, mem_triples.mpr ⟨(mem_who.mp ht).1, (mem_who.mp hv).1, List.mem_range.mp hx, fun q => c q.symm, ?_⟩, ho⟩
      unfold turnOf at ho
      by_cases d : writesOf h t x = [] ∨ touchesOf h v x = []
      · rw [if_pos d] at ho
        cases ho
      · exact ⟨alone_iff.mpr fun q => d (.inl q), uses_iff.mpr fun q => d (.inr q)⟩
  · rintro ⟨t, v, x, m, e⟩
    obtain ⟨ht, hv, hx, ne, al, us⟩ := mem_triples.mp m
    refine ⟨some l, List.mem_flatMap.mpr ⟨t, (uses_who g (alone_uses al)).1, List.mem_flatMap.mpr ⟨v, (uses_who g us).1, ?_⟩⟩, rfl⟩
    unfold rowT
    rw [if_neg fun q => ne q.symm]
    exact List.mem_map.mpr ⟨x, List.mem_range.mpr hx, e⟩
def l4 (y : Nat × Nat × Nat × Nat) : List Nat := [y.1, y.2.1, y.2.2.1, y.2.2.2]
/-- the turn that an edge tells -/
theorem turn_edge {h : Mix} {t v x : Nat} (m : (t, v, x) ∈ triples h) : turnOf h t v x = some (match edgeOf h (t, v, x) with | none => [] | some z => l4 (turn4 h z)) := by
  obtain ⟨_, _, _, _, al, us⟩ := mem_triples.mp m
  have hw := alone_iff.mp al
  have hu := uses_iff.mp us
  unfold turnOf edgeOf
  rw [if_neg (by rintro (q | q); exact hw q; exact hu q)]
  dsimp only
  have e1 : lastOf (touchesOf h v x) < firstOf (writesOf h t x) ↔ (touchesOf h v x).getLastD 0 < (writesOf h t x).headD 0 := by
    unfold lastOf firstOf
    omega
  have e2 : lastOf (touchesOf h t x) < firstOf (touchesOf h v x) ↔ (touchesOf h t x).getLastD 0 < (touchesOf h v x).headD 0 := by
    unfold lastOf firstOf
    omega
  by_cases c1 : (touchesOf h v x).getLastD 0 < (writesOf h t x).headD 0
  · rw [if_pos c1, if_pos (e1.mpr c1)]
    rfl
  · rw [if_neg c1, if_neg fun q => c1 (e1.mp q)]
    by_cases c2 : (touchesOf h t x).getLastD 0 < (touchesOf h v x).headD 0
    · rw [if_pos c2, if_pos (e2.mpr c2)]
      rfl
    · rw [if_neg c2, if_neg fun q => c2 (e2.mp q)]
theorem empty_turn {h : Mix} (g : Good h) (e : [] ∈ allTurns h) : twoPhase h = false := by
  obtain ⟨t, v, x, m, q⟩ := (mem_allTurns g).mp e
  refine twoPhase_none ?_
  rw [before_is]
  refine mapM_none.mpr ⟨(t, v, x), m, ?_⟩
  rw [turn_edge m] at q
  cases c : edgeOf h (t, v, x) with
  | none => rfl
  | some z =>
    rw [c] at q
    have q : l4 (turn4 h z) = [] := Option.some.inj q
    cases q
def toQ (l : List Nat) : Nat × Nat × Nat × Nat := (l.getD 0 0, l.getD 1 0, l.getD 2 0, l.getD 3 0)
/-- the turns as rows of four -/
def four (h : Mix) : List (Nat × Nat × Nat × Nat) := (allTurns h).map toQ
theorem edges_there {h : Mix} (g : Good h) (e : [] ∉ allTurns h) : ∃ b, before_ h = some b ∧ allTurns h = (four h).map l4 ∧ ∀ y, y ∈ four h ↔ ∃ z ∈ b, y = turn4 h z := by
  cases c : before_ h with
  | none =>
    exfalso
    rw [before_is] at c
    obtain ⟨⟨t, v, x⟩, m, q⟩ := mapM_none.mp c
    refine e ((mem_allTurns g).mpr ⟨t, v, x, m, ?_⟩)
    rw [turn_edge m, q]
  | some b =>
    have mb := mapM_some (before_is h ▸ c)
    have each : ∀ l, l ∈ allTurns h ↔ ∃ z ∈ b, l = l4 (turn4 h z) := by
      intro l
      rw [mem_allTurns g]
      constructor
      · rintro ⟨t, v, x, m, q⟩
        rw [turn_edge m] at q
        cases d : edgeOf h (t, v, x) with
        | none =>
          exfalso
          rw [before_is, mapM_none.mpr ⟨(t, v, x), m, d⟩] at c
          cases c
        | some z =>
          rw [d] at q
          exact ⟨z, (mb z).mpr ⟨(t, v, x), m, d⟩, (Option.some.inj q).symm⟩
      · rintro ⟨z, hz, rfl⟩
        obtain ⟨⟨t, v, x⟩, m, d⟩ := (mb z).mp hz
        refine ⟨t, v, x, m, ?_⟩
        rw [turn_edge m, d]
    have back : ∀ y, toQ (l4 y) = y := fun y => rfl
    refine ⟨b, rfl, ?_, fun y => ?_⟩
    · unfold four
      rw [List.map_map]
      have : ∀ l ∈ allTurns h, (l4 ∘ toQ) l = l := fun l hl => by
        obtain ⟨z, _, rfl⟩ := (each l).mp hl
        rfl
      rw [List.map_congr_left this, List.map_id']
    · unfold four
      rw [List.mem_map]
      constructor
      · rintro ⟨l, hl, rfl⟩
        obtain ⟨z, hz, rfl⟩ := (each l).mp hl
        exact ⟨z, hz, rfl⟩
      · rintro ⟨z, hz, rfl⟩
        exact ⟨_, (each _).mpr ⟨z, hz, rfl⟩, rfl⟩
def prs (T : List (Nat × Nat × Nat × Nat)) : List (Nat × Nat) := T.map fun y => (y.1, y.2.1)
/-- both of a turn are people of the mixture, and two -/
theorem edge_who {h : Mix} (g : Good h) {b : List Edge} (c : before_ h = some b) {z : Edge} (hz : z ∈ b) : z.1 ∈ who h ∧ z.2.1 ∈ who h ∧ z.1 ≠ z.2.1 := by
  have E := edges_of c
  refine ⟨(uses_who g (E.first z hz)).1, (uses_who g (E.touch z hz)).1, ?_⟩
  obtain ⟨⟨t, v, x⟩, m, d⟩ := (mapM_some (before_is h ▸ c) z).mp hz
  obtain ⟨_, _, _, ne, _, _⟩ := mem_triples.mp m
  unfold edgeOf at d
  dsimp only at d
  split at d
  · cases d
    exact fun q => ne q.symm
  · split at d
    · cases d
      exact ne
    · cases d
theorem keeps_iff {h : Mix} (g : Good h) {b : List Edge} (c : before_ h = some b) {T : List (Nat × Nat × Nat × Nat)} (hT : ∀ y, y ∈ T ↔ ∃ z ∈ b, y = turn4 h z) {p : List Nat} (hp : p.Perm (who h)) : keepsB p (prs T) = true ↔ Keeps p b := by
  unfold keepsB prs Keeps
  rw [List.all_eq_true]
  constructor
  · intro q z hz
    have r := q (z.1, z.2.1) (List.mem_map.mpr ⟨turn4 h z, (hT _).mpr ⟨z, hz, rfl⟩, rfl⟩)
    have r : ¬ p.idxOf z.1 > p.idxOf z.2.1 := by simpa using r
    have w := edge_who g c hz
    have := idx_ne (p := p) (b := z.2.1) (hp.mem_iff.mpr w.1) w.2.2
    omega
  · intro q y hy
    obtain ⟨y', hy', rfl⟩ := List.mem_map.mp hy
    obtain ⟨z, hz, rfl⟩ := (hT y').mp hy'
    have := q z hz
    show (!decide (p.idxOf z.1 > p.idxOf z.2.1)) = true
    simp
    omega
end SM

/-! ### two rules that the layer lacks: set(list of ints); == of pairs of dicts -/
namespace SM
open PySem PySem.Spec PyProof.Rows L2
/-- an empty set as it is laid -/
abbrev set0 (w : World) : Obj := { cls := .type "set", dict := none, data := .set #[] 0 (.fresh 0 0 (!w.params.followText "set-order")) }
section
variable {P : Program} {w : World} {A : Around} {E : Value → Shared → Prop} {s : Shared}
theorem call_set_ints {l : Addr} {its : Array Value} (ns : List Int) {Q : Value → Shared → Prop} (calm : A.handled = none) (isl : s.heap.IsList l its) (are : IntsAre its.toList ns) (few : ns.length + 1 < scanBound)
    (want : ∀ (h' : Heap) (tk c : Nat), SetR w h' s.heap.objs.size (fun j => decide (j ∈ ns)) c → c ≤ ns.length → (∀ b o, s.heap.get? b = some o → h'.get? b = some o) → Q (.ref s.heap.objs.size) { s with heap := h', toks := tk }) :
    wpAny (model P w) A (call (.type "set") [.ref l]) Q E s := by
  have size : its.size = ns.length := (Array.length_toList (xs := its)).symm.trans (IntsAre.length are)
  obtain ⟨c0, tl0, m0⟩ := F.called_set.mro
  have m1 := F.called_set.made
  have m2 := F.called_set.sub
  have m3 := F.called_set.notType
  have m4 := F.called_set.canCreate
  have m5 := F.typeCall_set_1 (.ref l)
  refine wpAny_call (codeAny_of_tree (show wpAny _ _ (callAny (.type "set") _) _ _ _ from ?_))
  refine wpAny_pure ⟨Code.quiet_builtin _ (by decide +kernel), codeAny_builtin F.entry_type_call ?_⟩
  rw [Around.under_plain (weight_type_call_type "set" [.ref l] []) rfl]
  repeat (any_goals (first | assumption | wp_step))
  refine codeAny_mono (code_set_led1 (.ref l) (E := E) (Q₁ := fun z s1 => z = .ref s.heap.objs.size ∧ s1 = { s with heap := s.heap.push (set0 w) }) ⟨rfl, rfl⟩) fun r s1 hr => ?_
  match r, hr with
  | .error _, hr => exact hr
  | .ok .next, hr => exact hr.elim
  | .ok .brk, hr => exact hr.elim
  | .ok .cont, hr => exact hr.elim
  | .ok (.ret z), hr =>
    obtain ⟨rfl, rfl⟩ := hr
    have laid : (s.heap.push (set0 w)).get? s.heap.objs.size = some (set0 w) := Heap.get?_push_size _ rfl
    have kind : Shared.TypeIs { s with heap := s.heap.push (set0 w) } (.ref s.heap.objs.size) "set" := ⟨_, laid, rfl⟩
    have n1 := F.called_set.init.lookup
    have n2 := F.called_set.init.bind (.ref s.heap.objs.size)
    repeat (any_goals (first | assumption | wp_step))
    refine codeAny_mono (codeAny_call_builtin (R := wants (fun r s2 => r = .none ∧ ∃ h' tk c, s2 = { s with heap := h', toks := tk } ∧ SetR w h' s.heap.objs.size (fun j => decide (j ∈ ns)) c ∧ c ≤ ns.length ∧ (∀ b o, s.heap.get? b = some o → h'.get? b = some o)) E)
      F.called_set.init.plain F.entry_set_init (check_set_init_1 kind ?_)) fun r2 s2 hr2 => ?_
    · obtain ⟨⟨_, od, _, os⟩, at_l, rfl, nl, rfl⟩ := isl
      have at_l1 : (s.heap.push (set0 w)).get? l = some { cls := .type "list", dict := od, data := .seq its nl, slots := os } := Heap.get?_push_of_some _ at_l
      have v1 := F.sub_list_set
      have v2 := F.sub_list_frozenset
      have v3 : (Value.type "list" == Value.type "dict") = false := by decide
      have isl1 : (s.heap.push (set0 w)).IsList l its := ⟨_, at_l1, rfl, nl, rfl⟩
      unfold Builtin.«set.__init__» noKeywords Builtin.Frozenset.updateFrom
      generalize turn : pyIter = it0
      wp_walk
      subst turn
      refine wpAny_pyIter_list isl1 (wpAny_bind (wpAny_runValue ?_))
      have lt_l : l < s.heap.objs.size := Heap.lt_size at_l
      have calm3 : A.in1.in1.in1.handled = none := by simp [calm]
      have ne_it : l ≠ (s.heap.push (set0 w)).objs.size := by
        rw [Heap.size_push]
        exact Nat.ne_of_lt (Nat.lt_succ_of_lt lt_l)
      have ne_set : s.heap.objs.size ∉ [(s.heap.push (set0 w)).objs.size, l] := by
        rw [Heap.size_push]
        intro m
        rcases List.mem_cons.mp m with e | m
        · exact absurd e (Nat.ne_of_lt (Nat.lt_succ_self _))
        · exact absurd (List.mem_singleton.mp m) (Nat.ne_of_gt lt_l)
      have vals : ∀ (i : Nat) (v : Value), its[i]? = some v → ∃ k t, ns[i]? = some k ∧ v = .int k t := fun i v hv => by
        obtain ⟨t, e⟩ := IntsAre.int_at are i v (by rw [Array.getElem?_toList]; exact hv)
        have lt : i < ns.length := size ▸ (Array.getElem?_eq_some_iff.mp hv).1
        refine ⟨ns[i], t, List.getElem?_eq_getElem lt, ?_⟩
        rw [e, List.getD_eq_getElem?_getD, List.getElem?_eq_getElem lt] <;> rfl
      refine set_update_ints ((Walks.list calm3 _ l ne_it its).toS) s.heap.objs.size ne_set ns size few vals (its.size - 0) 0 _ (by omega) (Nat.zero_le _)
        ⟨⟨_, Heap.get?_push_size _ rfl, rfl, rfl⟩, isl1.push _⟩ ⟨0, Nat.le_refl 0, setR_new_at (Heap.get?_push_of_some _ laid)⟩ fun s3 c mv le set3 => ?_
      obtain ⟨h3, g3, d3, t3, o3⟩ := s3
      obtain rfl : g3 = s.gens := mv.gens
      obtain rfl : d3 = s.drawn := mv.drawn
      obtain rfl : o3 = s.os := mv.os
      rw [size] at le
      refine wpAny_pure (show wpAny _ _ (ret Value.none) _ _ _ from wpAny_pure ⟨rfl, h3, t3, c, rfl, set3, le, fun b o e => ?_⟩)
      have lt_b : b < s.heap.objs.size := Heap.lt_size e
      refine mv.heap b o (fun m => ?_) (Heap.get?_push_of_some _ (Heap.get?_push_of_some _ e))
      rcases List.mem_cons.mp m with q | m
      · exact absurd q (Nat.ne_of_lt lt_b)
      · rw [Heap.size_push] at m
        exact absurd (List.mem_singleton.mp m) (Nat.ne_of_lt (Nat.lt_succ_of_lt lt_b))
    · match r2, hr2 with
      | .error _, hr2 => exact hr2
      | .ok .next, hr2 => exact hr2.elim
      | .ok .brk, hr2 => exact hr2.elim
      | .ok .cont, hr2 => exact hr2.elim
      | .ok (.ret _), hr2 =>
        obtain ⟨rfl, h', tk, c, rfl, set', le, kept⟩ := hr2
        repeat (any_goals (first | assumption | wp_step))
        exact want _ _ _ set' le kept
end
section
variable {X : Cx}
/-- set(l), l a list of ints -/
def rSetL (K : PySem.W.Frag) (w : World) : List V → Hp → VK → Prop := fun vs H Q => ∃ (l : Addr) (ns : List Int), vs = [V.ref l] ∧ SqL K H l (ns.map V.int) ∧ ns.length ≤ 1000 ∧
  ∀ p c, H p = none → c ≤ ns.length → Q (.ref p) (upd H p (SetO w p (fun j => decide (j ∈ ns)) c))
theorem cr_setL (hc : X.calm = true) : CallR X (.type "set") (rSetL X.K X.w) := by
  intro pins s σ H vs us Q I r h
  obtain ⟨l, ns, rfl, hl, hn, q⟩ := h
  rw [Vals.ref1 r]
  obtain ⟨its, rv, pl, _⟩ := I.list hl
  refine call_set_ints (P := X.prog) (w := X.w) ns (I.ok.hd hc) pl.isList (by simpa using ints_of_vals rv) (by unfold scanBound; omega) fun h' tk c R le kept => ?_
  exact ⟨.ref s.heap.objs.size, _, I.laid (t' := tk) kept (Nat.le_refl _) (setO_new R), rfl, q _ c (I.hok.fresh (Nat.le_refl _)) le⟩
end
end SM

namespace SM
open PySem PySem.Spec PyProof.Rows L2
open PySem.SeqAt (EqIn EqAt)
section
variable {prog : Program} {w : World} {A : Around} {E : Value → Shared → Prop} {s : Shared} {K : Type} [DecidableEq K] {knd : HeapKind prog w K}
theorem at_mem {xs : List (K × Addr × Value)} (nd : (xs.map (·.1)).Nodup) {j : Nat} {k : K} {p : Addr × Value} (e : xs[j]? = some (k, p)) : atKey xs k = some p := by
  induction xs generalizing j with
  | nil => simp at e
  | cons x xs ih =>
    obtain ⟨n1, n2⟩ := List.nodup_cons.mp nd
    cases j with
    | zero =>
      have : x = (k, p) := by simpa using e
      subst this
      simp [atKey]
    | succ j =>
      have e : xs[j]? = some (k, p) := by simpa using e
      have ne : ¬ x.1 = k := fun z => n1 (show x.1 ∈ _ by rw [z]; exact List.mem_map.mpr ⟨(k, p), List.mem_of_getElem? e, rfl⟩)
      have := ih n2 e
      unfold atKey at this ⊢
      rw [List.find?_cons, decide_eq_false ne]
      exact this
theorem at_none {xs : List (K × Addr × Value)} {k : K} (no : ∀ (j : Nat) (p : Addr × Value), xs[j]? ≠ some (k, p)) : atKey xs k = none := by
  unfold atKey
  rw [Option.map_eq_none_iff, List.find?_eq_none]
  intro x hx q
  obtain ⟨j, e⟩ := List.mem_iff_getElem?.mp hx
  exact no j x.2 (by rw [e, ← of_decide_eq_true q])
/-- d == e, keys that stand in the heap -/
theorem pairs_heap {nm : String} {a b : Addr} {xa xb : List (K × Addr × Value)} {eqs : K → Bool} {Q : Bool → Shared → Prop} (na : (a == sysModules) = false) (nb : (b == sysModules) = false) (room : knd.room A)
    (da : s.heap.DictOfH knd a xa) (db : s.heap.DictOfH knd b xb) (vals : ∀ x ∈ xa, ∀ q, atKey xb x.1 = some q → EqIn prog w A s x.2.2 q.2 (eqs x.1))
    (want : Q (xa.length == xb.length && xa.all fun x => (atKey xb x.1).isSome && eqs x.1) s) : wpAny (model prog w) A (Builtin.Dict.samePairs nm a b) Q E s := by
  obtain ⟨oa, ea, pa, at_a, _, dat_a, ent_a, key_a, nd_a⟩ := da
  obtain ⟨ob, eb, pb, at_b, _, dat_b, ent_b, key_b, nd_b⟩ := db
  have sa := size_of_entries ent_a
  have sb := size_of_entries ent_b
  unfold Builtin.Dict.samePairs Builtin.Dict.showsAll
  rw [na, nb]
  refine wpAny_bind (wpAny_pure (wpAny_bind (wpAny_pure (wpAny_bind (wpAny_dictEntries at_a dat_a ?_)))))
  dsimp only
  refine wpAny_bind (wpAny_dictEntries at_b dat_b ?_)
  by_cases same : ea.size = eb.size
  · have len : (xa.length == xb.length) = true := by rw [← sa, ← sb, same]; simp
    rw [len, Bool.true_and] at want
    rw [if_neg (by rw [same]; simp)]
    refine wpAny_bind (wpAny_dictEpoch at_a dat_a (wpAny_bind ?_))
    rw [Std.Legacy.Range.forIn_eq_forIn_range']
    simp only [Std.Legacy.Range.size, Nat.sub_zero, Nat.add_sub_cancel, Nat.div_one]
    refine wpAny_forIn_list _ (fun rest q s' => s' = s ∧ q = (none, ()) ∧ ∃ i, i ≤ ea.size ∧ rest = List.range' i (ea.size - i) ∧ Q ((xa.drop i).all fun x => (atKey xb x.1).isSome && eqs x.1) s) _ ?_ ?_ _ _ ⟨rfl, rfl, 0, Nat.zero_le _, by simp, want⟩
    · rintro z rest q s' ⟨rfl, rfl, i, le, er, hq⟩
      have lt : i < ea.size := by
        rcases Nat.lt_or_ge i ea.size with c | c
        · exact c
        · rw [Nat.sub_eq_zero_of_le c] at er
          cases er
      rw [show ea.size - i = (ea.size - (i + 1)) + 1 from by omega, List.range'_succ] at er
      injection er with ez er
      subst ez
      have ltx : z < xa.length := by omega
      have entry : ea[z]? = some (entryOfKey knd xa[z]) := by rw [entry_at ent_a z, List.getElem?_eq_getElem ltx]; rfl
      refine wpAny_bind (wpAny_dictEntries at_a dat_a ?_)
      rw [entry]
      rw [List.drop_eq_getElem_cons ltx, List.all_cons] at hq
      refine wpAny_bind (wpAny_holding (wpAny_bind ?_))
      have memz : xa[z] ∈ xa := List.getElem_mem ltx
      refine wpAny_dictFind_heap room (key_a _ memz) at_b dat_b ent_b key_b nd_b (fun no => ?_) (fun j p ej => ?_)
      · rw [at_none no] at hq
        refine wpAny_pure ?_
        show wpAny _ _ (if (!false) = true then _ else _) _ _ _
        rw [if_pos (by decide)]
        exact wpAny_pure (wpAny_pure hq)
      · have ek := at_mem nd_b ej
        rw [ek] at hq
        have entb : eb[j]? = some (entryOfKey knd (xa[z].1, p)) := by rw [entry_at ent_b j, ej]; rfl
        refine wpAny_bind (wpAny_dictEntries at_b dat_b ?_)
        rw [entb]
        refine wpAny_holding (vals _ memz p ek _ _ ?_)
        cases ce : eqs xa[z].1 with
        | false =>
          rw [ce] at hq
          show wpAny _ _ (if (!false) = true then _ else _) _ _ _
          rw [if_pos (by decide)]
          exact wpAny_pure (wpAny_pure hq)
        | true =>
          rw [ce] at hq
          show wpAny _ _ (if (!true) = true then _ else _) _ _ _
          rw [if_neg (by decide)]
          refine wpAny_bind (wpAny_dictEpoch at_a dat_a ?_)
          rw [if_neg (by simp)]
          exact wpAny_pure ⟨rfl, rfl, z + 1, lt, er, hq⟩
    · rintro q s' ⟨rfl, rfl, i, le, er, hq⟩
      have ei : i = ea.size := by
        rcases Nat.lt_or_ge i ea.size with c | c
        · rw [show ea.size - i = (ea.size - (i + 1)) + 1 from by omega, List.range'_succ] at er
          cases er
        · omega
      rw [ei, sa, List.drop_length] at hq
      exact wpAny_pure hq
  · have len : (xa.length == xb.length) = false := by rw [← sa, ← sb]; simpa using same
    rw [len, Bool.false_and] at want
    rw [if_pos (by simpa using same)]
    exact wpAny_bind (wpAny_rule (wpAny_pure want))
theorem rc_heap {a b : Addr} {xa xb : List (K × Addr × Value)} {eqs : K → Bool} (na : (a == sysModules) = false) (nb : (b == sysModules) = false) (few : A.units < cLine) (room : knd.room A.in1)
    (da : s.heap.DictOfH knd a xa) (db : s.heap.DictOfH knd b xb) (vals : ∀ x ∈ xa, ∀ q, atKey xb x.1 = some q → EqIn prog w A.in1 s x.2.2 q.2 (eqs x.1)) (E Q : Value → Shared → Prop)
    (want : Q (.bool (xa.length == xb.length && xa.all fun x => (atKey xb x.1).isSome && eqs x.1)) s) : wpAny (model prog w) A (richCompare .Eq (.ref a) (.ref b)) Q E s := by
  have ta : s.TypeIs (.ref a) "dict" := by
    obtain ⟨o, _, _, h1, h2, _⟩ := da
    exact ⟨o, h1, h2.1⟩
  have tb : s.TypeIs (.ref b) "dict" := by
    obtain ⟨o, _, _, h1, h2, _⟩ := db
    exact ⟨o, h1, h2.1⟩
  refine wpAny_richCompare_same_room (op := .Eq) ta tb PySem.F.slot_dict_eq (wpAny_call_entry PySem.F.slot_dict_eq ta PySem.F.entry_dict_eq ?_ (PySem.F.args_dict_eq_2 _ _)) few
  refine wpAny_bind (show wpAny _ _ (Builtin.Dict.dictSlotArgs "__eq__" ⟨[.ref a, .ref b], []⟩) _ _ s from ?_)
  unfold Builtin.Dict.dictSlotArgs
  refine wpAny_bind (wpAny_notOrdered_dict ta (show wpAny _ _ (pure (Value.ref a, Value.ref b)) _ _ s from wpAny_pure ?_))
  refine wpAny_bind (wpAny_isInstance (T := "dict") tb PySem.F.sub_dict_dict ?_)
  simp only [Bool.not_true, Bool.false_eq_true, if_false]
  refine wpAny_bind (wpAny_pure (wpAny_bind (wpAny_pure (wpAny_bind (pairs_heap na nb room da db vals ?_)))))
  exact wpAny_pure ⟨_, rfl, (fun x => nomatch x), by simpa using want⟩
end
/-- two dicts as lists of pairs: whether they are equal, by the data of their values -/
def dEq {κ : Type} [DecidableEq κ] (f : V → PyData) (k l : List (κ × V)) : Bool := k.length == l.length && k.all fun p => (valV l p.1).isSome && (match valV k p.1, valV l p.1 with | some x, some y => PyData.eqv (f x) (f y) | _, _ => false)
/-- the values' data -/
def DatV {κ : Type} (K : PySem.W.Frag) (H : Hp) (f : V → PyData) (k : List (κ × V)) : Prop := ∀ p ∈ k, Dp K H p.2 (f p.2) ∧ (f p.2).canLay0 = true ∧ (f p.2).depth ≤ 8
theorem valV_mem {κ : Type} [DecidableEq κ] {k : List (κ × V)} {x : κ} {v : V} (e : valV k x = some v) : ∃ p ∈ k, p.1 = x ∧ p.2 = v := by
  unfold valV at e
  rw [Option.map_eq_some_iff] at e
  obtain ⟨p, hp, rfl⟩ := e
  exact ⟨p, List.mem_of_find?_eq_some hp, of_decide_eq_true (List.find?_some (p := fun (kv : κ × V) => decide (kv.1 = x)) hp), rfl⟩
theorem valV_of {κ : Type} [DecidableEq κ] : ∀ {k : List (κ × V)} {p : κ × V}, (k.map (·.1)).Nodup → p ∈ k → valV k p.1 = some p.2
  | [], _, _, m => by cases m
  | z :: k, p, nd, m => by
    obtain ⟨n1, n2⟩ := List.nodup_cons.mp (show (z.1 :: k.map (·.1)).Nodup from nd)
    rcases List.mem_cons.mp m with c | c
    · subst c
      exact valV_pos rfl
    · rw [valV_neg fun e => n1 (by rw [e]; exact List.mem_map.mpr ⟨p, c, rfl⟩)]
      exact valV_of n2 c
theorem kv_mem {κ : Type} : ∀ {k : List (κ × V)} {xa : List (κ × Value)} {x : κ} {v : Value}, KV k xa → (x, v) ∈ xa → ∃ p ∈ k, p.1 = x ∧ RelV p.2 v
  | _, _, _, _, .nil, m => by cases m
  | p :: k, _, x, v, .cons h t, m => by
    rcases List.mem_cons.mp m with z | z
    · subst z
      exact ⟨p, List.mem_cons_self, h⟩
    · obtain ⟨q, hq, r⟩ := kv_mem (k := k) t z
      exact ⟨q, List.mem_cons_of_mem _ hq, r⟩
section
variable {X : Cx}
theorem eq_vals {pins : List (Addr × Obj)} {σ : L2.St} {H : Hp} {s : Shared} (I : Inv X pins σ H s) {A : Around} (hu : A.units + 8 < cLine) {x y : V} {u v : Value} {d e : PyData} (hx : Dp X.K H x d) (hy : Dp X.K H y e) (cd : d.canLay0 = true) (ce : e.canLay0 = true) (dd : d.depth ≤ 8) (rx : RelV x u) (ry : RelV y v) :
    EqIn X.prog X.w A s u v (PyData.eqv d e) := by
  obtain ⟨as, r1⟩ := Dp.reads I d x u hx rx
  obtain ⟨bs, r2⟩ := Dp.reads I e y v hy ry
  exact (SeqAt.eqAt_reads d e A s u v as bs r1 r2 cd ce (by omega)).inModel _ _
/-- the values at a key of both -/
def atBoth {κ : Type} [DecidableEq κ] (f : V → PyData) (k l : List (κ × V)) (x : κ) : Bool := match valV k x, valV l x with | some x, some y => PyData.eqv (f x) (f y) | _, _ => false
theorem dEq_is {κ : Type} [DecidableEq κ] (f : V → PyData) (k l : List (κ × V)) : dEq f k l = (k.length == l.length && k.all fun p => (valV l p.1).isSome && atBoth f k l p.1) := rfl
theorem all_keys {α β κ : Type} {F : α → β → Prop} {p : α → κ} {q : β → κ} (hF : ∀ a b, F a b → p a = q b) (G : κ → Bool) {as : List α} {bs : List β} (r : Paired F as bs) : (bs.all fun b => G (q b)) = as.all fun a => G (p a) := by
  induction r with
  | nil => rfl
  | cons h _ ih => rw [List.all_cons, List.all_cons, ih, hF _ _ h]
theorem eqIn_dT {pins : List (Addr × Obj)} {σ : L2.St} {H : Hp} {s : Shared} (I : Inv X pins σ H s) {A : Around} (hu : A.units + 16 < cLine) {a b : Addr} (ne : a ≠ b) {k l : List (List Key × V)} (ha : H a = some (.dT k)) (hb : H b = some (.dT l)) {f : V → PyData} (fk : DatV X.K H f k) (fl : DatV X.K H f l) :
    EqIn X.prog X.w A s (.ref a) (.ref b) (dEq f k l) := by
  obtain ⟨_, na, xa, ra, da⟩ := dt_of I.hok ha
  obtain ⟨_, nb, xb, rb, db⟩ := dt_of I.hok hb
  refine SeqAt.EqIn.of_refs ne fun E Q hq => ?_
  have nd : (xa.map (·.1)).Nodup := by
    obtain ⟨_, _, _, _, _, _, _, _, nd⟩ := da
    exact nd
  refine rc_heap (eqs := atBoth f k l) na nb (by omega) (tupleKind_room_in1 (by omega)) da db (fun x hx q hq => ?_) E Q ?_
  · obtain ⟨j, ej⟩ := List.mem_iff_getElem?.mp hx
    have r1 := ra.val x.1
    have r2 := rb.val x.1
    rw [at_mem nd ej] at r1
    rw [hq] at r2
    unfold atBoth
    cases e1 : valV k x.1 with
    | none => rw [e1] at r1; exact r1.elim
    | some v =>
      cases e2 : valV l x.1 with
      | none => rw [e2] at r2; exact r2.elim
      | some v' =>
        rw [e1] at r1
        rw [e2] at r2
        obtain ⟨p, hp, _, rfl⟩ := valV_mem e1
        obtain ⟨p', hp', _, rfl⟩ := valV_mem e2
        have h1 := fk p hp
        have h2 := fl p' hp'
        exact eq_vals I (show A.units + 1 + 8 < cLine by omega) h1.1 h2.1 h1.2.1 h2.2.1 h1.2.2 r1 r2
  · rw [dEq_is, Paired.length ra, Paired.length rb] at hq
    have e := all_keys (p := fun (p : List Key × V) => p.1) (q := fun (q : List Key × Addr × Value) => q.1) (fun _ _ z => z.1) (fun x => (valV l x).isSome && atBoth f k l x) ra
    have e2 : ∀ x : List Key, (atKey xb x).isSome = (valV l x).isSome := fun x => by rw [(rb.val x).isSome_eq, Option.isSome_map]
    simp only [e2]
    rw [e]
    exact hq
theorem eqIn_dK {pins : List (Addr × Obj)} {σ : L2.St} {H : Hp} {s : Shared} (I : Inv X pins σ H s) {A : Around} (hu : A.units + 16 < cLine) {a b : Addr} (ne : a ≠ b) {k l : List (Key × V)} (nd : (k.map (·.1)).Nodup) (ha : H a = some (.dK k)) (hb : H b = some (.dK l)) {f : V → PyData} (fk : DatV X.K H f k) (fl : DatV X.K H f l) :
    EqIn X.prog X.w A s (.ref a) (.ref b) (dEq f k l) := by
  obtain ⟨_, na, xa, ra, da⟩ := dk_of I.hok ha
  obtain ⟨_, nb, xb, rb, db⟩ := dk_of I.hok hb
  refine SeqAt.EqIn.of_refs ne fun E Q hq => ?_
  refine PySem.W.keq_eqIn na nb da db (by omega) (fun _ => PySem.W.KeqHitsIn.of (e := atBoth f k l) xa fun x v y hm hv => ?_) ?_
  · obtain ⟨p, hp, hr⟩ := kv_mem ra hm
    have r2 := rb.val x
    rw [hv] at r2
    unfold atBoth
    have e1 : valV k x = some p.2 := by
      rw [← hr.1]
      exact valV_of nd hp
    rw [e1]
    cases e2 : valV l x with
    | none => rw [e2] at r2; exact r2.elim
    | some v' =>
      rw [e2] at r2
      obtain ⟨p', hp', _, rfl⟩ := valV_mem e2
      have h1 := fk p hp
      have h2 := fl p' hp'
      exact eq_vals I (show A.units + 1 + 8 < cLine by omega) h1.1 h2.1 h1.2.1 h2.2.1 h1.2.2 hr.2 r2
  · rw [dEq_is, Paired.length ra, Paired.length rb] at hq
    have e := all_keys (p := fun (p : Key × V) => p.1) (q := fun (q : Key × Value) => q.1) (fun _ _ z => z.1) (fun x => (valV l x).isSome && atBoth f k l x) ra
    have e2 : ∀ x : Key, (valueAt xb x).isSome = (valV l x).isSome := fun x => (rb.val x).isSome_eq.symm
    simp only [e2]
    rw [e]
    exact hq
/-- (d1, d2) == (e1, e2): a dict with tuple keys, a dict with ints as keys -/
def rEqPD (K : PySem.W.Frag) : R2 := fun x y H Q => ∃ (a b d1 d2 e1 e2 : Addr) (k1 l1 : List (List Key × V)) (k2 l2 : List (Key × V)) (f : V → PyData), x = .ref a ∧ y = .ref b ∧ H a = some (.tup [.ref d1, .ref d2]) ∧ H b = some (.tup [.ref e1, .ref e2]) ∧
  H d1 = some (.dT k1) ∧ H e1 = some (.dT l1) ∧ H d2 = some (.dK k2) ∧ H e2 = some (.dK l2) ∧ d1 ≠ e1 ∧ d2 ≠ e2 ∧ (k2.map (·.1)).Nodup ∧ DatV K H f k1 ∧ DatV K H f l1 ∧ DatV K H f k2 ∧ DatV K H f l2 ∧ Q (.bl (dEq f k1 l1 && dEq f k2 l2)) H
theorem op_eqPD (hu : X.A.units + 64 < cLine) : OpR X (compareOp .Eq) (rEqPD X.K) := by
  intro pins s σ H x y v u Q I rx ry h
  obtain ⟨a, b, d1, d2, e1, e2, k1, l1, k2, l2, f, rfl, rfl, ha, hb, h1, h2, h3, h4, n1, n2, nd, f1, f2, f3, f4, q⟩ := h
  cases (show v = Value.ref a from rx)
  cases (show u = Value.ref b from ry)
  obtain ⟨_, ia, va, ta⟩ := I.hok a _ ha
  obtain ⟨_, ib, vb, tb⟩ := I.hok b _ hb
  cases va with
  | cons r1 va =>
    cases va with
    | cons r2 va =>
      cases va
      cases vb with
      | cons r3 vb =>
        cases vb with
        | cons r4 vb =>
          cases vb
          cases r1
          cases r2
          cases r3
          cases r4
          refine SeqAt.rcIn_tuples (e := fun j => if j = 0 then dEq f k1 l1 else dEq f k2 l2) ta tb (by omega) (fun j j1 j2 => ?_) ?_
          · match j, j1, j2 with
            | 0, _, _ => exact eqIn_dT I (show X.A.units + 1 + 16 < cLine by omega) n1 h1 h2 f1 f2
            | 1, _, _ => exact eqIn_dK I (show X.A.units + 1 + 16 < cLine by omega) n2 nd h3 h4 f3 f4
          · exact ⟨.bl (dEq f k1 l1 && dEq f k2 l2), H, I, by
              show Value.bool _ = Value.bool _
              refine congrArg Value.bool ?_
              simp [List.range, List.range.loop], q⟩
end
end SM

/-! ### words of the walk -/
namespace SM
open PySem PySem.Spec PyProof.Rows L2 Evl
open Rc98 (Mix)
abbrev Stp := Rc98.Step
/-- the i-th statement of the program -/
def top (i : Nat) : Stmt := PySem.Challenge.pw_stepsmixed_s01_answers.main.body.getD i (.Pass ⟨0, 0, 0, 0⟩)
/-- a constant of the module; a built-in's name that the module leaves alone -/
def CI (mg : Str → Option Value) (x : Str) (i : Int) : Prop := ∃ t, mg x = some (.int i t)
structure Txt (mg : Str → Option Value) : Prop where
  cREAD : CI mg "READ" 0
  cWRITE : CI mg "WRITE" 1
  cDONE : CI mg "DONE" 2
  cPLACES : CI mg "PLACES" 8
  cMOST_PEOPLE : CI mg "MOST_PEOPLE" 6
  cMOST_PLACES : CI mg "MOST_PLACES" 8
  cMOST_STEPS : CI mg "MOST_STEPS" 24
  cREFUSED : CI mg "REFUSED" (-1)
  cTOO_MANY : CI mg "TOO_MANY" (-2)
  cIS_DONE : CI mg "IS_DONE" (-4)
  cBEGIN : CI mg "BEGIN" 0
  cSTEP : CI mg "STEP" 1
  cORDER : CI mg "ORDER" 2
  cLOOKS : CI mg "LOOKS" 3
  cLOCKS : CI mg "LOCKS" 4
  cBACK : CI mg "BACK" 5
  n_len : mg "len" = none
  n_enumerate : mg "enumerate" = none
  n_sorted : mg "sorted" = none
  n_set : mg "set" = none
  n_range : mg "range" = none
  n_max : mg "max" = none
  n_int : mg "int" = none
  n_sum : mg "sum" = none
  n_all : mg "all" = none
section
variable {X : Cx}
theorem pe_ci {x : Str} {i : Int} {pos : Pos} (h : CI X.mg x i) (hg : Gl X x := by rfl) (hd : (x == ("__debug__" : Str)) = false := by decide) : PE X (.Name x pos) (tC (.int i)) := by
  obtain ⟨t, e⟩ := h
  exact pe_glob hg e ⟨t, rfl⟩ hd
end
/-! ### the rules that tell X.K, told by another name of it: for a comprehension's block -/
section
variable {X : Cx} {K : PySem.W.Frag}
theorem ix_tupB (h : X.K = K) : IxR X (rIxT K) := by
  subst h
  exact ix_tup
theorem ix_listB (h : X.K = K) : IxR X (rIxL K) := by
  subst h
  exact ix_list
theorem op_eqPDB (h : X.K = K) (hu : X.A.units + 64 < cLine) : OpR X (compareOp .Eq) (rEqPD K) := by
  subst h
  exact op_eqPD hu
theorem pg_tupB {es : List Expr} {k : Nat} {t : TGs} {n : Nat} {pos : Pos} (h : X.K = K) (hc : X.calm = true) (hs : PGs X es t) (hn : (assignEach es X.env).length = n := by rfl) (hst : (assignEach es X.env).findIdx? (·.1) = none := by rfl) : PG X (.Tuple es k pos) (gTup K n t) := by
  subst h
  exact pg_tup hc hs hn hst
end
/-- a def that keeps its promise, by its name -/
structure Ok (P : Program) (w : World) (K : PySem.W.Frag) (mg : Str → Option Value) (base : Heap) (x : Str) (ps : List Str) (k : Nat) (sp : Sp) : Prop where
  ex : ∃ f fd, FnOk P w K mg base CX0 k f fd ps sp ∧ mg x = some (.ref f) ∧ PySem.W.keepIn K (.ref f) = true ∧ Binds K fd ps []
section
variable {X : Cx}
theorem pe_def {x : Str} {ps : List Str} {k j : Nat} {sp : Sp} {e : Expr} {es : List Expr} {t : TA} {p pos : Pos} (O : Ok X.prog X.w X.K X.mg X.base x ps k sp) (hr : Room j X.A) (ha : PA X (e :: es) t) (hk : k ≤ j := by decide) (hg : Gl X x := by rfl) (hdb : (x == ("__debug__" : Str)) = false := by decide)
    (he : starEach (e :: es) X.env = (false, eval e X.env) :: starEach es X.env := by rfl) (hpl : (backTo pos (starEach es X.env)).any (·.1) = false := by rfl) : PE X (.Call (.Name x p) (e :: es) [] pos) (tCall sp [] E0 t) := by
  obtain ⟨f, fd, F, m, kp, b⟩ := O.ex
  exact pe_call F (hr.mono hk) hg m kp b .nil pass0 ha hdb he hpl
end
/-! ### what is returned: told by a relation -/
def EvR (te : TE) (σ : L2.St) (H : Hp) (R : V → Hp → Prop) : Prop := ∀ H1, Ex H H1 → ∀ Q : VK, (∀ v H2, Ex H1 H2 → R v H2 → Q v H2) → te σ H1 Q
def SpR (sp : Sp) (vs : List V) (H : Hp) (R : V → Hp → Prop) : Prop := ∀ H1, Ex H H1 → ∀ Q : VK, (∀ v H2, Ex H1 H2 → R v H2 → Q v H2) → ∀ E : XK, sp vs H1 Q E
def RetR (R : V → Hp → Prop) (H : Hp) (Q : VK) : Prop := ∀ v H2, Ex H H2 → R v H2 → Q v H2
section
variable {K : PySem.W.Frag} {σ : L2.St} {H H' : Hp} {ta tb te tx : TE} {t u : TT} {x y z v : V} {D : Ends} {tu tw tz : TS} {g : TG} {R : V → Hp → Prop}
theorem er_call {sp : Sp} {vs dvs : List V} {E : XK} {ta : TA} (h : EvA ta σ H vs) (hs : SpR sp (vs ++ dvs) H R) : EvR (tCall sp dvs E ta) σ H R := fun H1 e Q q =>
  h H1 e _ fun H2 e2 => hs H2 (e.trans e2) Q (fun v H3 e3 r => q v H3 (e2.trans e3) r) E
theorem er_of (h : Ev te σ H v) (r : ∀ H2, Ex H H2 → R v H2) : EvR te σ H R := fun H1 e Q q => h H1 e Q fun H2 e2 => q v H2 e2 (r H2 (e.trans e2))
theorem EvR.mono (e : Ex H H') (h : EvR te σ H R) : EvR te σ H' R := fun H1 a Q q => h H1 (e.trans a) Q q
theorem q_asgR {i : Nat} (h : EvR te σ H R) (k : ∀ v H1, Ex H H1 → R v H1 → tz D (σ.set i (some v)) H1) : tSeq (tAsg te (gName i)) tz D σ H := h H (Ex.refl H) _ fun v H1 e r => k v H1 e r
theorem s_asgR {i : Nat} (h : EvR te σ H R) (k : ∀ v H1, Ex H H1 → R v H1 → D.nx (σ.set i (some v)) H1) : tAsg te (gName i) D σ H := h H (Ex.refl H) _ fun v H1 e r => k v H1 e r
theorem s_retR (h : EvR te σ H R) (k : ∀ v H1, Ex H H1 → R v H1 → D.rt v H1) : tRet te D σ H := h H (Ex.refl H) _ k
/-- over a list that is told by a relation -/
theorem s_forR {tl : TE} (h : EvR tl σ H R) (k : ∀ v H1, Ex H H1 → R v H1 → ∃ a xs, v = .ref a ∧ SqL K H1 a xs ∧ ∃ Pv : Nat → L2.St → Hp → Prop, Pv 0 σ H1 ∧ (∀ i σ' H', i ≤ xs.length → Pv i σ' H' → SqL K H' a xs) ∧
    (∀ i x σ' H', xs[i]? = some x → Pv i σ' H' → g x σ' H' fun σ2 H2 => tu { D with nx := Pv (i + 1), ct := Pv (i + 1), bk := D.nx } σ2 H2) ∧ (∀ σ' H', Pv xs.length σ' H' → D.nx σ' H')) : tFor (iList K tl) g tu D σ H :=
  h H (Ex.refl H) _ fun v H1 e r => by
    obtain ⟨a, xs, rfl, hx, Pv, h0, hl, hs, hd⟩ := k v H1 e r
    exact ⟨a, rfl, ⟨xs, hx⟩, for_list Pv h0 hl hs hd⟩
/-- for i, x in enumerate(l) -/
theorem s_forE {ta : TA} {a : Addr} {xs : List V} {i j : Nat} (h : EvA ta σ H [.ref a]) (hx : SqL K H a xs) (Pv : Nat → L2.St → Hp → Prop) (h0 : ∀ H1, Ex H H1 → Pv 0 σ H1) (hl : ∀ k σ' H', k ≤ xs.length → Pv k σ' H' → SqL K H' a xs)
    (hs : ∀ (k : Nat) x σ' H' H'', xs[k]? = some x → Pv k σ' H' → Ex H' H'' → tu { D with nx := Pv (k + 1), ct := Pv (k + 1), bk := D.nx } ((σ'.set i (some (.int (k : Int)))).set j (some x)) H'') (hd : ∀ σ' H', Pv xs.length σ' H' → D.nx σ' H') :
    tFor (iEnum K ta) (gTup K 2 (gCons (gName i) (gCons (gName j) gNil))) tu D σ H :=
  h H (Ex.refl H) _ fun H1 e => ⟨a, xs, rfl, ex_l e hx, for_it walk_enum Pv (h0 H1 e) hl (fun k x σ' H' H'' hk p y => by
    obtain ⟨T, u, w, rfl, hT, rfl, e1, e2⟩ := y
    cases e1
    exact ⟨T, [.int (k : Int), w], rfl, .inl (.inl upd_same), rfl, _, _, rfl, _, _, rfl, rfl, hs k w σ' H' _ e2 p (Ex.new hT)⟩) hd⟩
theorem q_forE {ta : TA} {a : Addr} {xs : List V} {i j : Nat} (h : EvA ta σ H [.ref a]) (hx : SqL K H a xs) (Pv : Nat → L2.St → Hp → Prop) (h0 : ∀ H1, Ex H H1 → Pv 0 σ H1) (hl : ∀ k σ' H', k ≤ xs.length → Pv k σ' H' → SqL K H' a xs)
    (hs : ∀ (k : Nat) x σ' H' H'', xs[k]? = some x → Pv k σ' H' → Ex H' H'' → tu { D with nx := Pv (k + 1), ct := Pv (k + 1), bk := tz D } ((σ'.set i (some (.int (k : Int)))).set j (some x)) H'') (hd : ∀ σ' H', Pv xs.length σ' H' → tz D σ' H') :
    tSeq (tFor (iEnum K ta) (gTup K 2 (gCons (gName i) (gCons (gName j) gNil))) tu) tz D σ H := s_forE (D := { D with nx := tz D }) h hx Pv h0 hl hs hd
/-- [e for i, x in enumerate(l) if t] -/
theorem el_lcE {ta : TA} {a : Addr} {xs : List V} {i j : Nat} {vs : List Nat} (f : Nat → Bool) (v : Nat → V) (h : EvA ta σ H [.ref a]) (hx : SqL K H a xs) (hz : xs.length ≤ 40000) (hw : ∀ x y, wipe (((wipe σ vs).set i (some x)).set j (some y)) vs = wipe σ vs)
    (ht : ∀ (k : Nat) (x : V) H1, Ex H H1 → xs[k]? = some x → EvT t (((wipe σ vs).set i (some (.int (k : Int)))).set j (some x)) H1 (f k))
    (he : ∀ (k : Nat) (x : V) H1, Ex H H1 → xs[k]? = some x → f k = true → Ev te (((wipe σ vs).set i (some (.int (k : Int)))).set j (some x)) H1 (v k)) :
    EvL (tLc (iEnum K ta) (gTup K 2 (gCons (gName i) (gCons (gName j) gNil))) t te vs) σ H (given xs.length f v) := fun H0 e Q q => h H0 e _ fun H1 e1 => ⟨a, xs, rfl, ex_l (e.trans e1) hx, fun Dl hD =>
  lc_it walk_enum (Cw H1 f v Dl) ⟨hD, Ex.new hD, upd_same⟩ (fun _ H' _ p => ex_l ((e.trans e1).trans p.2.1) hx) (fun k x H' H'' hk p y => by
    obtain ⟨T, u, w, rfl, hT, rfl, e2, e3⟩ := y
    cases e2
    have p2 : Cw H1 f v Dl k (upd H' T (.tup [.int (k : Int), w])) := ⟨p.1, p.2.1.trans (Ex.new hT), Ex.new hT _ _ p.2.2⟩
    exact ⟨T, [.int (k : Int), w], rfl, .inl (.inl upd_same), rfl, _, _, rfl, _, _, rfl, rfl, hw _ _, cw_turn p2 (by omega) (ht k w H1 (e.trans e1) e3) (fun hf => he k w H1 (e.trans e1) e3 hf)⟩)
    (fun H' p => q Dl H' (fresh_back e1 p.1) (e1.trans p.2.1) p.2.2)⟩
theorem et_yes : EvT tYes σ H true := fun H1 _ _ q => q H1 (Ex.refl H1)
end
/-! ### values -/
abbrev vi (n : Nat) : V := .int (n : Int)
def vs (l : List Nat) : List V := l.map vi
theorem vs_len (l : List Nat) : (vs l).length = l.length := List.length_map ..
theorem vs_get {l : List Nat} {i : Nat} {x : V} (h : (vs l)[i]? = some x) : ∃ n, l[i]? = some n ∧ x = vi n := by
  unfold vs at h
  rw [List.getElem?_map] at h
  cases e : l[i]? with
  | none => rw [e] at h; cases h
  | some n => rw [e] at h; exact ⟨n, rfl, (Option.some.inj h).symm⟩
theorem dI (a b : Int) : decide (V.int a = V.int b) = decide (a = b) := by
  by_cases h : a = b
  · rw [decide_eq_true h, decide_eq_true (congrArg V.int h)]
  · rw [decide_eq_false h, decide_eq_false fun q => h (V.int.inj q)]
theorem dN (a b : Nat) : decide ((a : Int) = (b : Int)) = decide (a = b) := by
  by_cases h : a = b
  · rw [decide_eq_true h, decide_eq_true (congrArg Nat.cast h)]
  · rw [decide_eq_false h, decide_eq_false fun q : (a : Int) = (b : Int) => h (by omega)]
/-! ### steps in the heap: the place of a step by which one is done may be any -/
def StepAt (H : Hp) (v : V) (s : Stp) : Prop := ∃ (a : Addr) (x : Int), v = .ref a ∧ H a = some (.tup [vi s.t, vi s.what, .int x]) ∧ (s.what ≠ 2 → x = (s.x : Int))
theorem StepAt.mono {H H' : Hp} {v : V} {s : Stp} (e : Ex H H') (h : StepAt H v s) : StepAt H' v s := by
  obtain ⟨a, x, h1, h2, h3⟩ := h
  exact ⟨a, x, h1, e _ _ h2, h3⟩
def MixL (H : Hp) (xs : List V) (h : Mix) : Prop := Paired (StepAt H) xs h
theorem MixL.mono {H H' : Hp} {xs : List V} {h : Mix} (e : Ex H H') (m : MixL H xs h) : MixL H' xs h := L2.Paired.mapP m fun _ _ r => r.mono e
theorem MixL.len {H : Hp} {xs : List V} {h : Mix} (m : MixL H xs h) : xs.length = h.length := Paired.length m
theorem pget {α β : Type} {F : α → β → Prop} : ∀ {l : List α} {m : List β}, Paired F l m → ∀ {i : Nat} {x : α}, l[i]? = some x → ∃ y, m[i]? = some y ∧ F x y
  | _, _, .nil, i, x, e => by simp at e
  | _, _, .cons r t, 0, x, e => by
    cases (show some _ = some x from e)
    exact ⟨_, rfl, r⟩
  | _, _, .cons r t, i + 1, x, e => by
    obtain ⟨y, h1, h2⟩ := pget t (i := i) (x := x) (by simpa using e)
    exact ⟨y, by simpa using h1, h2⟩
theorem pget' {α β : Type} {F : α → β → Prop} : ∀ {l : List α} {m : List β}, Paired F l m → ∀ {i : Nat} {y : β}, m[i]? = some y → ∃ x, l[i]? = some x ∧ F x y
  | _, _, .nil, i, x, e => by simp at e
  | _, _, .cons r t, 0, x, e => by
    cases (show some _ = some x from e)
    exact ⟨_, rfl, r⟩
  | _, _, .cons r t, i + 1, x, e => by
    obtain ⟨y, h1, h2⟩ := pget' t (i := i) (y := x) (by simpa using e)
    exact ⟨y, by simpa using h1, h2⟩
theorem papp {α β : Type} {F : α → β → Prop} : ∀ {l l' : List α} {m m' : List β}, Paired F l m → Paired F l' m' → Paired F (l ++ l') (m ++ m')
  | _, _, _, _, .nil, s => s
  | _, _, _, _, .cons r t, s => .cons r (papp t s)
theorem ptake {α β : Type} {F : α → β → Prop} : ∀ {l : List α} {m : List β} (n : Nat), Paired F l m → Paired F (l.take n) (m.take n)
  | _, _, 0, _ => .nil
  | _, _, _ + 1, .nil => .nil
  | _, _, n + 1, .cons r t => .cons r (ptake n t)
/-- the mixture h at a -/
structure MixAt (K : PySem.W.Frag) (H : Hp) (a : Addr) (xs : List V) (h : Mix) : Prop where
  sq : SqL K H a xs
  mix : MixL H xs h
  good : Good h
theorem MixAt.mono {K : PySem.W.Frag} {H H' : Hp} {a : Addr} {xs : List V} {h : Mix} (e : Ex H H') (m : MixAt K H a xs h) : MixAt K H' a xs h := ⟨ex_l e m.sq, m.mix.mono e, m.good⟩
theorem MixAt.len {K : PySem.W.Frag} {H : Hp} {a : Addr} {xs : List V} {h : Mix} (m : MixAt K H a xs h) : xs.length ≤ 24 := by
  rw [m.mix.len]
  exact m.good.1
/-- the values of those that are so -/
def pick {β : Type} (xs : List V) (h : List β) (p : β → Bool) : List V := ((xs.zip h).filter fun z => p z.2).map fun z => z.1
theorem pick_pair {β : Type} {F : V → β → Prop} {p : β → Bool} : ∀ {xs : List V} {h : List β}, Paired F xs h → Paired F (pick xs h p) (h.filter p)
  | _, _, .nil => .nil
  | x :: xs, s :: h, .cons r t => by
    have ih := pick_pair (p := p) (xs := xs) (h := h) t
    unfold pick at ih ⊢
    rw [List.zip_cons_cons, List.filter_cons, List.filter_cons]
    by_cases c : p s = true
    · rw [if_pos c, if_pos c, List.map_cons]
      exact .cons r ih
    · rw [if_neg c, if_neg c]
      exact ih
theorem pick_len {β : Type} (xs : List V) (h : List β) (p : β → Bool) : (pick xs h p).length ≤ xs.length := by
  unfold pick
  rw [List.length_map]
  refine Nat.le_trans (List.length_filter_le _ _) ?_
  rw [List.length_zip]
  exact Nat.min_le_left _ _
def onAt {β : Type} (h : List β) (p : β → Bool) (i : Nat) : Bool := match h[i]? with | some s => p s | none => false
/-- what is given at the i-th turn -/
def atBy {β : Type} (xs : List V) (h : List β) (v : β → V → V) (i : Nat) : V := match h[i]?, xs[i]? with | some s, some x => v s x | _, _ => .non
theorem given_pick {β : Type} (p : β → Bool) (v : β → V → V) : ∀ (xs : List V) (h : List β), xs.length = h.length → given xs.length (onAt h p) (atBy xs h v) = ((xs.zip h).filter fun z => p z.2).map fun z => v z.2 z.1
  | [], h, _ => rfl
  | x :: xs, [], e => by simp at e
  | x :: xs, s :: h, e => by
    have ih := given_pick p v xs h (by simpa using e)
    unfold given at ih ⊢
    rw [List.length_cons, List.range_succ_eq_map, List.filter_cons, List.filter_map, List.zip_cons_cons, List.filter_cons]
    have e1 : (onAt (s :: h) p ∘ Nat.succ) = onAt h p := funext fun i => by simp [onAt]
    have e0 : onAt (s :: h) p 0 = p s := rfl
    rw [e1, e0]
    by_cases c : p s = true
    · rw [if_pos c, if_pos c, List.map_cons, List.map_map, List.map_cons, ← ih]
      rfl
    · rw [if_neg c, if_neg c, List.map_map, ← ih]
      rfl
theorem given_self {β : Type} (p : β → Bool) {xs : List V} {h : List β} (e : xs.length = h.length) : given xs.length (onAt h p) (atBy xs h fun _ x => x) = pick xs h p := given_pick p (fun _ x => x) xs h e
theorem on_some {β : Type} {h : List β} {p : β → Bool} {i : Nat} {s : β} (e : h[i]? = some s) : onAt h p i = p s := by
  unfold onAt
  rw [e]
theorem by_some {β : Type} {xs : List V} {h : List β} {v : β → V → V} {i : Nat} {s : β} {x : V} (e : h[i]? = some s) (e' : xs[i]? = some x) : atBy xs h v i = v s x := by
  unfold atBy
  rw [e, e']
/-! ### a heap without one object: what stands there stays while that one grows -/
def but (H : Hp) (l : Addr) : Hp := fun b => if b = l then none else H b
theorem but_ex {H : Hp} {l : Addr} : Ex (but H l) H := fun b o e => by
  unfold but at e
  split at e
  · cases e
  · exact e
theorem but_grow {H H1 : Hp} {l : Addr} {o : HO} (e : Ex H H1) : Ex (but H l) (but (upd H1 l o) l) := fun b u q => by
  unfold but at q ⊢
  split at q
  · cases q
  · rename_i c
    rw [if_neg c, upd_ne c]
    exact e b u q
theorem but_mono {H H1 : Hp} {l : Addr} (e : Ex H H1) : Ex (but H l) (but H1 l) := fun b u q => by
  unfold but at q ⊢
  split at q
  · cases q
  · rename_i c
    rw [if_neg c]
    exact e b u q
theorem but_at {H : Hp} {l b : Addr} {o : HO} (h : H b = some o) (ne : b ≠ l) : but H l b = some o := by
  unfold but
  rw [if_neg ne]
  exact h
/-- a comprehension over what is told by a relation -/
theorem lc_over {K : PySem.W.Frag} {σ : L2.St} {H : Hp} {tl te : TE} {t : TT} {g : TG} {vs : List Nat} {R : V → Hp → Prop} {Q : VK} (h : EvR tl σ H R) (k : ∀ v H1, Ex H H1 → R v H1 → tLc (iList K (tC v)) g t te vs σ H1 Q) : tLc (iList K tl) g t te vs σ H Q := h H (Ex.refl H) _ k
section
variable {K : PySem.W.Frag} {σ : L2.St} {H H' : Hp} {ta tb te : TE} {D : Ends}
/-- l.extend(a new list) -/
theorem s_ext {l : Addr} {xs ys : List V} (hl : H l = some (.lst xs)) (ha : Ev ta σ H (.ref l)) (h : EvL te σ H ys) (hz : xs.length + ys.length ≤ 100000) (k : ∀ H1, Ex H H1 → D.nx σ (upd H1 l (.lst (xs ++ ys)))) : tDrop (tBM K "list" rExtend ta (tCons te tNil)) D σ H :=
  ha H (Ex.refl H) _ fun H1 e1 => ⟨Or.inl ⟨rfl, xs, sq_of (e1 l _ hl)⟩, h H1 e1 _ fun p H2 _ e2 h2 => ⟨l, p, xs, ys, rfl, rfl, e2 l _ (e1 l _ hl), h2, sz_of hz, k H2 (e1.trans e2)⟩⟩
theorem el_cat {l : Addr} {xs ys : List V} (ha : Ev ta σ H (.ref l)) (hl : H l = some (.lst xs)) (hb : EvL tb σ H ys) (hz : xs.length + ys.length ≤ 100000) : EvL (tOp rCat ta tb) σ H (xs ++ ys) := fun H1 e _ q =>
  ha H1 e _ fun H2 e2 => hb H2 (e.trans e2) _ fun p H3 _ e3 hp => ⟨l, p, xs, ys, rfl, rfl, ((e.trans e2).trans e3) _ _ hl, hp, sz_of hz, fun r hr => q r _ (fresh_back (e2.trans e3) hr) ((e2.trans e3).trans (Ex.new hr)) upd_same⟩
theorem el_cat2 {xs ys : List V} (ha : EvL ta σ H xs) (hb : EvL tb σ H ys) (hz : xs.length + ys.length ≤ 100000) : EvL (tOp rCat ta tb) σ H (xs ++ ys) := fun H1 e _ q =>
  ha H1 e _ fun l H2 _ e2 hl => hb H2 (e.trans e2) _ fun p H3 _ e3 hp => ⟨l, p, xs, ys, rfl, rfl, e3 _ _ hl, hp, sz_of hz, fun r hr => q r _ (fresh_back (e2.trans e3) hr) ((e2.trans e3).trans (Ex.new hr)) upd_same⟩
theorem ev_notN {x : V} (h : Ev ta σ H x) : Ev (tNotN ta) σ H (.bl (!decide (x = .non))) := fun H1 e _ q => h H1 e _ fun H2 e2 => q H2 e2
theorem et_notN {x : V} (h : Ev ta σ H x) : EvT (tB (tNotN ta)) σ H (!decide (x = .non)) := et_B (ev_notN h)
theorem ev_ltI {i j : Int} (h1 : Ev ta σ H (.int i)) (h2 : Ev tb σ H (.int j)) : Ev (tOp (rI0 fun i j => .bl (decide (i < j))) ta tb) σ H (.bl (decide (i < j))) := ev_op h1 h2 rv_I0
/-- l.index(n) -/
theorem flat_vs : ∀ l : List Nat, (vs l).all flatV = true
  | [] => rfl
  | _ :: l => by
    show (true && (vs l).all flatV) = true
    rw [flat_vs l]
    rfl
theorem eqV_vi (a b : Nat) : eqV (vi a) (vi b) = decide (a = b) := by
  show decide ((a : Int) = (b : Int)) = _
  exact dN a b
theorem inV_vs (n : Nat) : ∀ l : List Nat, inV (vi n) (vs l) = l.contains n
  | [] => rfl
  | a :: l => by
    have ih := inV_vs n l
    unfold inV at ih ⊢
    show (eqV (vi a) (vi n) || (vs l).any fun y => eqV y (vi n)) = _
    rw [ih, eqV_vi, List.contains_cons]
    congr 1
    by_cases h : a = n
    · subst h
      simp
    · simp [h]
      exact fun q => h q.symm
theorem ev_index {a : Addr} {l : List Nat} {n : Nat} (ha : Ev ta σ H (.ref a)) (hl : SqL K H a (vs l)) (hb : Ev tb σ H (vi n)) (hn : n ∈ l) : Ev (tBM K "list" (rIndex K) ta (tCons tb tNil)) σ H (vi (l.idxOf n)) := fun H1 e Q q =>
  ha H1 e _ fun H2 e2 => ⟨Or.inl ⟨rfl, _, ex_l (e.trans e2) hl⟩, hb H2 (e.trans e2) _ fun H3 e3 => by
    have lt : l.idxOf n < l.length := List.idxOf_lt_length_of_mem hn
    refine ⟨a, vs l, vi n, l.idxOf n, vi n, rfl, rfl, ex_l ((e.trans e2).trans e3) hl, rfl, flat_vs l, ?_, ?_, fun m z hm hz => ?_, q H3 (e2.trans e3)⟩
    · unfold vs
      rw [List.getElem?_map, List.getElem?_eq_getElem lt, List.getElem_idxOf lt]
      rfl
    · rw [eqV_vi]
      simp
    · obtain ⟨k, hk, rfl⟩ := vs_get hz
      rw [eqV_vi]
      refine decide_eq_false fun c => ?_
      subst c
      obtain ⟨lk, ek⟩ := List.getElem?_eq_some_iff.mp hk
      have := List.not_of_lt_findIdx (p := (· == k)) (xs := l) (i := m) hm
      simp at this
      exact this (by simpa using ek)⟩
end
end SM

namespace SM
open PySem PySem.Spec PyProof.Rows L2 Evl
open Rc98 (Mix)
/-! ### readings of small parts -/
section
variable {K : PySem.W.Frag} {σ : L2.St} {H H' : Hp} {ta tb te : TE} {a : Addr} {x0 x1 x2 v : V} {i j : Int}
theorem ev_f0 (h : Ev te σ H (.ref a)) (ha : H a = some (.tup [x0, x1, x2])) : Ev (tOp (rIxT K) te (tC (.int 0))) σ H x0 := ev_op h ev_c (rv_ixT (st_of ha) rfl)
theorem ev_f1 (h : Ev te σ H (.ref a)) (ha : H a = some (.tup [x0, x1, x2])) : Ev (tOp (rIxT K) te (tC (.int 1))) σ H x1 := ev_op h ev_c (rv_ixT (st_of ha) rfl)
theorem ev_f2 (h : Ev te σ H (.ref a)) (ha : H a = some (.tup [x0, x1, x2])) : Ev (tOp (rIxT K) te (tC (.int 2))) σ H x2 := ev_op h ev_c (rv_ixT (st_of ha) rfl)
theorem ev_eqI (h1 : Ev ta σ H (.int i)) (h2 : Ev tb σ H (.int j)) : Ev (tOp rEq ta tb) σ H (.bl (decide (i = j))) := ev_is (ev_op h1 h2 (rv_eq rfl)) (by rw [dI])
theorem ev_neI (h1 : Ev ta σ H (.int i)) (h2 : Ev tb σ H (.int j)) : Ev (tOp rNe ta tb) σ H (.bl (!decide (i = j))) := ev_is (ev_op h1 h2 (rv_ne rfl)) (by rw [dI])
theorem et_eqI (h1 : Ev ta σ H (.int i)) (h2 : Ev tb σ H (.int j)) : EvT (tTest (tOp rEq ta tb)) σ H (decide (i = j)) := et_test (ev_eqI h1 h2)
theorem et_neI (h1 : Ev ta σ H (.int i)) (h2 : Ev tb σ H (.int j)) : EvT (tTest (tOp rNe ta tb)) σ H (!decide (i = j)) := et_test (ev_neI h1 h2)
theorem ret_cb {r : List V → Hp → VK → Prop} {D : Ends} (h : te σ H fun x H1 => r [x] H1 D.rt) : tRet (tCB r (tCons te tNil)) D σ H := h
theorem cb_cb {r : List V → Hp → VK → Prop} {Q : VK} (h : te σ H fun x H1 => r [x] H1 Q) : tCB r (tCons te tNil) σ H Q := h
theorem ev_call1 {sp : Sp} {dvs vs : List V} {E : XK} {ta : TA} (h : EvA ta σ H vs) (hs : ∀ H1, Ex H H1 → ∀ Q : VK, (∀ H2, Ex H1 H2 → Q v H2) → ∀ E : XK, sp (vs ++ dvs) H1 Q E) : Ev (tCall sp dvs E ta) σ H v := ev_call h hs
end
section
variable {P : Program} {w : World} {K : PySem.W.Frag} {mg : Str → Option Value} {base : Heap}
/-! ### uses -/
abbrev sUses : Stmt := top 5
theorem scUses : FnScope ["step", "place"] ["step", "place"] (defScope sUses) := ⟨rfl, rfl, rfl, by decide +kernel, rfl, by decide +kernel, by decide +kernel⟩
def spUses : Sp := fun vs H Q _ => ∃ (a : Addr) (t w x p : Int), vs = [.ref a, .int p] ∧ H a = some (.tup [.int t, .int w, .int x]) ∧ RetV (.bl (!decide (w = 2) && decide (x = p))) H Q
theorem ok_uses {f : Addr} {fd : FuncData} (F : Fun K "uses" "uses" sUses f fd) (T : Txt mg) : FnOk P w K mg base CX0 1 f fd ["step", "place"] spUses := by
  refine F.ok scUses (fun vs H Q E h => ?_) (fun cdv A outer s H vs Q E hr h => ?_)
  · obtain ⟨a, t, w, x, p, rfl, _⟩ := h
    rfl
  · obtain ⟨a, t, w, x, p, rfl, ha, q⟩ := h
    refine ⟨_, (pss_one (ps_ret (pe_and (pe_cmpR op_ne (pe_ix ix_tup (pv 0) pe_int (fun _ _ => rfl)) (pe_ci T.cDONE) (nomark _)) (pe_one (pe_cmpR op_eq (pe_ix ix_tup (pv 0) pe_int (fun _ _ => rfl)) (pv 1) (nomark _)))))), ?_⟩
    exact s_ret (ev_andV (ev_neI (ev_f1 (ev_var rfl) ha) ev_c) fun _ => ev_eqI (ev_f2 (ev_var rfl) ha) (ev_var rfl)) q
/-! ### do_clash -/
abbrev sDoClash : Stmt := top 6
theorem scDoClash : FnScope ["one", "other"] ["one", "other"] (defScope sDoClash) := ⟨rfl, rfl, rfl, by decide +kernel, rfl, by decide +kernel, by decide +kernel⟩
def spClash : Sp := fun vs H Q _ => ∃ (x y : V) (s z : Stp), vs = [x, y] ∧ StepAt H x s ∧ StepAt H y z ∧ s.what ≤ 2 ∧ z.what ≤ 2 ∧ RetV (.bl (Rc98.clash s z)) H Q
theorem clash_by {s z : Stp} {x y : Int} (hs : s.what ≤ 2) (hz : z.what ≤ 2) (hx : s.what ≠ 2 → x = (s.x : Int)) (hy : z.what ≠ 2 → y = (z.x : Int)) (h : ¬ (decide ((s.t : Int) = (z.t : Int)) || (!(!decide ((s.what : Int) = 2) && decide (x = y)) || decide ((z.what : Int) = 2))) = true) :
    (decide ((s.what : Int) = 1) || decide ((z.what : Int) = 1)) = Rc98.clash s z := by
  simp only [Bool.or_eq_true, Bool.not_eq_true', Bool.and_eq_false_imp, decide_eq_true_eq, not_or] at h
  obtain ⟨h1, h2, h3⟩ := h
  have h2 : ¬ (s.what : Int) = 2 ∧ x = y := by
    by_cases c : (s.what : Int) = 2
    · simp [c] at h2
    · simp [c] at h2
      exact ⟨c, h2⟩
  have e1 : s.x = z.x := by
    have := hx (by omega)
    have := hy (by omega)
    omega
  unfold Rc98.clash Rc98.touches Rc98.reads Rc98.writes
  have t1 : s.t ≠ z.t := by omega
  have c1 : s.what = 0 ∨ s.what = 1 := by omega
  have c2 : z.what = 0 ∨ z.what = 1 := by omega
  rcases c1 with c1 | c1 <;> rcases c2 with c2 | c2 <;> simp [c1, c2, e1, t1]
theorem clash_no {s z : Stp} {x y : Int} (hx : s.what ≠ 2 → x = (s.x : Int)) (hy : z.what ≠ 2 → y = (z.x : Int)) (h : (decide ((s.t : Int) = (z.t : Int)) || (!(!decide ((s.what : Int) = 2) && decide (x = y)) || decide ((z.what : Int) = 2))) = true) : Rc98.clash s z = false := by
  cases c : Rc98.clash s z with
  | false => rfl
  | true =>
    exfalso
    unfold Rc98.clash Rc98.touches Rc98.reads Rc98.writes at c
    simp only [Bool.and_eq_true, bne_iff_ne, ne_eq, beq_iff_eq, Bool.or_eq_true] at c
    obtain ⟨c1, c2, c3, c4, c5⟩ := c
    have := hx (by omega)
    have := hy (by omega)
    have e1 : ¬ (s.t : Int) = (z.t : Int) := by omega
    have e2 : ¬ (s.what : Int) = 2 := by omega
    have e3 : ¬ (z.what : Int) = 2 := by omega
    have e4 : x = y := by omega
    simp [e1, e2, e3, e4] at h
theorem ok_clash {f : Addr} {fd : FuncData} (F : Fun K "do_clash" "do_clash" sDoClash f fd) (T : Txt mg) (oUses : Ok P w K mg base "uses" ["step", "place"] 1 spUses) : FnOk P w K mg base CX0 2 f fd ["one", "other"] spClash := by
  refine F.ok scDoClash (fun vs H Q E h => ?_) (fun cdv A outer s H vs Q E hr h => ?_)
  · obtain ⟨x, y, s, z, rfl, _⟩ := h
    rfl
  · obtain ⟨x, y, s1, z, rfl, ⟨a, p, rfl, ha, hp⟩, ⟨b, q, rfl, hb, hq⟩, w1, w2, ret⟩ := h
    refine ⟨_, (pss_cons (ps_if ((pw_or (pt_cmpR op_eq (pe_ix ix_tup (pv 0) pe_int (fun _ _ => rfl)) (pe_ix ix_tup (pv 1) pe_int (fun _ _ => rfl)) (nomark _)) (pw_or (pt_not (pt_val (pe_def oUses hr (pa_cons (pv 0) (pa_cons (pe_ix ix_tup (pv 1) pe_int (fun _ _ => rfl)) pa_nil))))) (pw_or1 (pt_cmpR op_eq (pe_ix ix_tup (pv 1) pe_int (fun _ _ => rfl)) (pe_ci T.cDONE) (nomark _)))))).pt (pss_one (ps_ret pe_bl)) pss_nil)
      (pss_one (ps_ret (pe_or (pe_cmpR op_eq (pe_ix ix_tup (pv 0) pe_int (fun _ _ => rfl)) (pe_ci T.cWRITE) (nomark _)) (pe_one (pe_cmpR op_eq (pe_ix ix_tup (pv 1) pe_int (fun _ _ => rfl)) (pe_ci T.cWRITE) (nomark _))))))), ?_⟩
    refine q_when (et_or (et_eqI (ev_f0 (ev_var rfl) ha) (ev_f0 (ev_var rfl) hb)) fun _ => et_or (et_not (et_B (ev_call (ea_cons (ev_var rfl) (ea_cons (ev_f2 (ev_var rfl) hb) ea_nil)) fun H1 e1 Q1 q1 E1 => ⟨a, _, _, _, _, rfl, e1 _ _ ha, q1⟩)))
      fun _ => et_eqI (ev_f1 (ev_var rfl) hb) ev_c) (fun c H1 e1 => ?_) (fun c H1 e1 => ?_)
    · refine s_ret ev_c fun H2 e2 => ?_
      rw [clash_no hp hq c] at ret
      exact ret H2 (e1.trans e2)
    · refine s_ret (ev_is (ev_orV (ev_eqI (ev_f1 (ev_var rfl) (e1 _ _ ha)) ev_c) fun _ => ev_eqI (ev_f1 (ev_var rfl) (e1 _ _ hb)) ev_c) ?_) fun H2 e2 => ret H2 (e1.trans e2)
      rw [clash_by w1 w2 hp hq (by rw [c]; exact Bool.false_ne_true)]
/-! ### people_of -/
abbrev sPeopleOf : Stmt := top 4
theorem scPeopleOf : FnScope ["steps", "step"] ["steps"] (defScope sPeopleOf) := ⟨rfl, rfl, rfl, by decide +kernel, rfl, by decide +kernel, by decide +kernel⟩
def spPeople (K : PySem.W.Frag) : Sp := fun vs' H Q _ => ∃ (a : Addr) (xs : List V) (h : Mix), vs' = [.ref a] ∧ MixAt K H a xs h ∧ RetL (vs (Rc98.who h)) H Q
def tOf (h : Mix) (i : Nat) : V := match h[i]? with | some s => vi s.t | none => .non
theorem tOf_map : ∀ h : Mix, given h.length (fun _ => true) (tOf h) = (h.map fun s => (s.t : Int)).map V.int
  | [] => rfl
  | s :: h => by
    have ih := tOf_map h
    unfold given at ih ⊢
    rw [List.length_cons, List.range_succ_eq_map, List.filter_cons, if_pos rfl, List.filter_map, List.map_cons, List.map_map]
    rw [List.map_cons, List.map_cons, ← ih]
    rfl
theorem ok_people {f : Addr} {fd : FuncData} (F : Fun K "people_of" "people_of" sPeopleOf f fd) (T : Txt mg) : FnOk P w K mg base CX0 1 f fd ["steps"] (spPeople K) := by
  refine F.ok scPeopleOf (fun vs H Q E h => ?_) (fun cdv A outer s H vs Q E hr h => ?_)
  · obtain ⟨a, xs, h, rfl, _⟩ := h
    rfl
  · obtain ⟨a, xs, h, rfl, m, ret⟩ := h
    refine ⟨_, (pss_one (ps_ret (pe_callB (cr_sortedSet rfl) (by rfl) T.n_sorted (by decide +kernel) (pa_cons (pe_callTy (cr_setL rfl) (by rfl) T.n_set (by decide +kernel) (pa_cons (pe_lc (own := [("step", 1)]) rfl scPeopleOf.nd (pi_list (pv 0)) (blkOk_by (own := [("step", 1)]) (N := ["steps", "step"]) (sc := defScope sPeopleOf) (by decide +kernel)) (fun _ _ _ _ _ => pg_name (i := 1) scPeopleOf.nd rfl (Or.inl rfl)) (fun _ _ _ _ _ => pts_nil) (fun _ _ _ _ _ => (pe_ix (ix_tupB (K := K) rfl) (pv 1) pe_int (fun _ _ => rfl)))) pa_nil)) pa_nil)))), ?_⟩
    have comp := el_lcL (K := K) (H := H) (xs := xs) (a := a) (σ := start ["steps", "step"] [.ref a]) (tl := tVar 0) (j := 1) (vs := [1]) (t := tYes) (te := tOp (rIxT K) (tVar 1) (tC (.int 0))) (fun _ => true) (tOf h) (ev_var rfl) m.sq (Nat.le_trans m.len (by decide)) (fun x => rfl) (fun _ _ _ _ _ => et_yes)
      (fun i x H1 e hi _ => by
        obtain ⟨s1, hs, ⟨b, p, rfl, hb, _⟩⟩ := pget m.mix hi
        have e0 : tOf h i = vi s1.t := by unfold tOf; rw [hs]
        rw [e0]
        exact ev_f0 (ev_var rfl) (e _ _ hb))
    rw [m.mix.len, tOf_map] at comp
    refine ret_cb (cb_cb (comp H (Ex.refl H) _ fun l H1 _ e1 hl => ?_))
    refine ⟨l, _, rfl, sq_of hl, by rw [List.length_map]; exact Nat.le_trans m.good.1 (by decide), fun p c hp hc => ?_⟩
    rw [List.length_map] at hc
    refine ⟨p, _, c, rfl, upd_same, by have := m.good.1; omega, fun ns q h1 h2 _ hq => ?_⟩
    have e : ns = intL (Rc98.who h) := who_is m.good h1 fun k => by
      rw [h2 k]
      simp only [decide_eq_true_eq, List.mem_map]
    refine ret q _ (fresh_back (e1.trans (Ex.new hp)) hq) ((e1.trans (Ex.new hp)).trans (Ex.new hq)) ?_
    rw [upd_same, e]
    unfold intL SM.vs
    rw [List.map_map]
    rfl
end
end SM

namespace SM
open PySem PySem.Spec PyProof.Rows L2 Evl
open Rc98 (Mix)
section
variable {P : Program} {w : World} {K : PySem.W.Frag} {mg : Str → Option Value} {base : Heap}
def isT (t : Nat) (s : Rc98.Step) : Bool := s.t == t
/-! ### steps_of -/
abbrev sStepsOf : Stmt := top 7
theorem scStepsOf : FnScope ["steps", "person", "step"] ["steps", "person"] (defScope sStepsOf) := ⟨rfl, rfl, rfl, by decide +kernel, rfl, by decide +kernel, by decide +kernel⟩
def spStepsOf (K : PySem.W.Frag) : Sp := fun vs' H Q _ => ∃ (a : Addr) (xs : List V) (h : Mix) (t : Nat), vs' = [.ref a, vi t] ∧ MixAt K H a xs h ∧ RetL (pick xs h (isT t)) H Q
theorem ok_stepsOf {f : Addr} {fd : FuncData} (F : Fun K "steps_of" "steps_of" sStepsOf f fd) (T : Txt mg) : FnOk P w K mg base CX0 1 f fd ["steps", "person"] (spStepsOf K) := by
  refine F.ok scStepsOf (fun vs H Q E h => ?_) (fun cdv A outer s H vs Q E hr h => ?_)
  · obtain ⟨a, xs, h, t, rfl, _⟩ := h
    rfl
  · obtain ⟨a, xs, h, t, rfl, m, ret⟩ := h
    refine ⟨_, (pss_one (ps_ret (pe_lc (own := [("step", 2)]) rfl scStepsOf.nd (pi_list (pv 0)) (blkOk_by (own := [("step", 2)]) (N := ["steps", "person", "step"]) (sc := defScope sStepsOf) (by decide +kernel)) (fun _ _ _ _ _ => pg_name (i := 2) scStepsOf.nd rfl (Or.inl rfl)) (fun _ _ _ _ _ => pts_one (pt_cmpR op_eq (pe_ix (ix_tupB (K := K) rfl) (pv 2) pe_int (fun _ _ => rfl)) (pv 1) (nomark _))) (fun _ _ _ _ _ => (pv 2))))), ?_⟩
    have comp := el_lcL (K := K) (H := H) (xs := xs) (a := a) (σ := start ["steps", "person", "step"] [.ref a, vi t]) (tl := tVar 0) (j := 2) (vs := [2]) (t := tTest (tOp rEq (tOp (rIxT K) (tVar 2) (tC (.int 0))) (tVar 1))) (te := tVar 2) (onAt h (isT t)) (atBy xs h fun _ x => x) (ev_var rfl) m.sq (Nat.le_trans m.len (by decide)) (fun x => rfl)
      (fun i x H1 e hi => by
        obtain ⟨s1, hs, ⟨b, p, rfl, hb, _⟩⟩ := pget m.mix hi
        rw [on_some hs]
        exact et_is (et_eqI (ev_f0 (ev_var rfl) (e _ _ hb)) (ev_var rfl)) (dN _ _))
      (fun i x H1 e hi _ => by
        obtain ⟨s1, hs, _⟩ := pget m.mix hi
        rw [by_some hs hi]
        exact ev_var rfl)
    rw [given_self _ m.mix.len] at comp
    exact s_retL comp ret
/-! ### one_after_another -/
abbrev sOneAfterAnother : Stmt := top 8
theorem scOneAfterAnother : FnScope ["steps", "order", "found", "person"] ["steps", "order"] (defScope sOneAfterAnother) := ⟨rfl, rfl, rfl, by decide +kernel, rfl, by decide +kernel, by decide +kernel⟩
def lay (xs : List V) (h : Mix) (p : List Nat) : List V := p.flatMap fun t => pick xs h (isT t)
theorem lay_mix {H : Hp} {xs : List V} {h : Mix} (m : MixL H xs h) : ∀ p : List Nat, MixL H (lay xs h p) (Rc98.serial h p)
  | [] => .nil
  | t :: p => by
    unfold lay Rc98.serial
    rw [List.flatMap_cons, List.flatMap_cons]
    exact papp (pick_pair m) (lay_mix m p)
theorem lay_len {xs : List V} {h : Mix} (hx : xs.length ≤ 24) : ∀ p : List Nat, (lay xs h p).length ≤ 24 * p.length
  | [] => Nat.zero_le _
  | t :: p => by
    have ih := lay_len (h := h) hx p
    have l := pick_len xs h (isT t)
    unfold lay at ih ⊢
    rw [List.flatMap_cons, List.length_append, List.length_cons]
    omega
theorem take_snoc {α : Type} {l : List α} {i : Nat} {x : α} (h : l[i]? = some x) : l.take (i + 1) = l.take i ++ [x] := by
  rw [List.take_add_one, h]
  rfl
def spLay (K : PySem.W.Frag) : Sp := fun vs' H Q _ => ∃ (a b : Addr) (xs : List V) (h : Mix) (p : List Nat), vs' = [.ref a, .ref b] ∧ MixAt K H a xs h ∧ SqL K H b (vs p) ∧ p.length ≤ 6 ∧ RetL (lay xs h p) H Q
theorem ok_lay {f : Addr} {fd : FuncData} (F : Fun K "one_after_another" "one_after_another" sOneAfterAnother f fd) (T : Txt mg) (oStepsOf : Ok P w K mg base "steps_of" ["steps", "person"] 1 (spStepsOf K)) : FnOk P w K mg base CX0 2 f fd ["steps", "order"] (spLay K) := by
  refine F.ok scOneAfterAnother (fun vs H Q E h => ?_) (fun cdv A outer s H vs Q E hr h => ?_)
  · obtain ⟨a, b, xs, h, p, rfl, _⟩ := h
    rfl
  · obtain ⟨a, b, xs, h, p, rfl, m, hb, hp, ret⟩ := h
    refine ⟨_, (pss_cons (ps_set (i := 2) scOneAfterAnother.nd rfl (Or.inl rfl) (pe_lst pa_nil))
      (pss_cons (ps_for PassesOwn.never rfl (pi_list (pv 1)) (pg_name (i := 3) scOneAfterAnother.nd rfl (Or.inl rfl)) (pss_one (ps_expr (pe_bm PySem.F.plainAttrs_list PySem.F.slot_list_extend PySem.F.type_list_extend mt_extend (pv 2) (pa_cons (pe_def oStepsOf hr (pa_cons (pv 0) (pa_cons (pv 3) pa_nil))) pa_nil)))))
      (pss_one (ps_ret (pv 2))))), ?_⟩
    refine q_asgL (el_lst ea_nil (Nat.zero_le _)) fun l H1 hl e1 h1 => ?_
    refine q_forLn (ev_var rfl) (ex_l e1 hb) (fun i σ' H' => ∃ v, σ' = [some (.ref a), some (.ref b), some (.ref l), v] ∧ Ex H H' ∧ H' l = some (.lst (lay xs h (p.take i)))) (fun H2 e2 => ⟨none, rfl, e1.trans e2, e2 _ _ h1⟩) (fun i σ' H' _ ⟨_, _, e, _⟩ => ex_l e hb)
      (fun i x σ' H' hi ⟨v, hσ, e, hl'⟩ => ?_) (fun σ' H' ⟨v, hσ, e, hl'⟩ => ?_)
    · subst hσ
      obtain ⟨t, ht, rfl⟩ := vs_get hi
      have l1 := lay_len (h := h) m.len (p.take i)
      have l2 := pick_len xs h (isT t)
      have l3 := m.len
      rw [List.length_take] at l1
      refine s_ext hl' (ev_var rfl) (el_call (ea_cons (ev_var rfl) (ea_cons (ev_var rfl) ea_nil)) fun H2 e2 Q2 q2 E2 => ⟨a, xs, h, t, rfl, m.mono (e.trans e2), q2⟩) (by omega) fun H2 e2 => ?_
      refine ⟨some (vi t), rfl, Ex.mut (e.trans e2) hl, ?_⟩
      rw [upd_same, take_snoc ht]
      unfold lay
      rw [List.flatMap_append]
      simp
    · subst hσ
      rw [vs_len, List.take_length] at hl'
      exact s_ret (ev_var rfl) fun H2 e2 => ret l H2 hl (e.trans e2) (e2 _ _ hl')
/-! ### done_at -/
abbrev sDoneAt : Stmt := top 9
theorem scDoneAt : FnScope ["steps", "person", "at", "step"] ["steps", "person"] (defScope sDoneAt) := ⟨rfl, rfl, rfl, by decide +kernel, rfl, by decide +kernel, by decide +kernel⟩
def optV : Option Nat → V
  | none => .non
  | some i => vi i
def spDoneAt (K : PySem.W.Frag) : Sp := fun vs' H Q _ => ∃ (a : Addr) (xs : List V) (h : Mix) (t : Nat), vs' = [.ref a, vi t] ∧ MixAt K H a xs h ∧ RetV (optV (Rc98.doneAt h t)) H Q
theorem done_by (t : Nat) (s : Stp) : (decide ((s.t : Int) = (t : Int)) && decide ((s.what : Int) = 2)) = isDoneStep t s := by
  unfold isDoneStep
  by_cases c1 : s.t = t <;> by_cases c2 : s.what = 2
  · simp [c1, c2]
  · have : ¬ (s.what : Int) = 2 := by omega
    simp [c2, this]
  · have : ¬ (s.t : Int) = (t : Int) := by omega
    simp [c1, this]
  · have : ¬ (s.t : Int) = (t : Int) := by omega
    simp [c1, this]
theorem ok_doneAt {f : Addr} {fd : FuncData} (F : Fun K "done_at" "done_at" sDoneAt f fd) (T : Txt mg) : FnOk P w K mg base CX0 1 f fd ["steps", "person"] (spDoneAt K) := by
  refine F.ok scDoneAt (fun vs H Q E h => ?_) (fun cdv A outer s H vs Q E hr h => ?_)
  · obtain ⟨a, xs, h, t, rfl, _⟩ := h
    rfl
  · obtain ⟨a, xs, h, t, rfl, m, ret⟩ := h
    refine ⟨_, (pss_cons (ps_for PassesOwn.never rfl (pi_enum (by rfl) T.n_enumerate (pa_cons (pv 0) pa_nil)) (pg_tup rfl (pgs_cons (pg_name (i := 2) scDoneAt.nd rfl (Or.inl rfl)) (pgs_cons (pg_name (i := 3) scDoneAt.nd rfl (Or.inl rfl)) pgs_nil))) (pss_one (ps_if ((pw_and (pt_cmpR op_eq (pe_ix ix_tup (pv 3) pe_int (fun _ _ => rfl)) (pv 1) (nomark _)) (pw_and1 (pt_cmpR op_eq (pe_ix ix_tup (pv 3) pe_int (fun _ _ => rfl)) (pe_ci T.cDONE) (nomark _))))).pt (pss_one (ps_ret (pv 2))) pss_nil)))
      (pss_one (ps_ret pe_non))), ?_⟩
    refine q_forE (ea_cons (ev_var rfl) ea_nil) m.sq (fun k σ' H' => ∃ u v, σ' = [some (.ref a), some (vi t), u, v] ∧ Ex H H' ∧ ∀ (j : Nat) (z : Stp), j < k → h[j]? = some z → isDoneStep t z = false) (fun H2 e2 => ⟨none, none, rfl, e2, fun j z hj => absurd hj (Nat.not_lt_zero j)⟩) (fun _ σ' H' _ ⟨_, _, _, e, _⟩ => ex_l e m.sq)
      (fun k x σ' H' H'' hk ⟨u, v, hσ, e, no⟩ e' => ?_) (fun σ' H' ⟨u, v, hσ, e, no⟩ => ?_)
    · subst hσ
      obtain ⟨s1, hs, ⟨b, p, rfl, hb, _⟩⟩ := pget m.mix hk
      have e2 := e.trans e'
      refine s_when (et_is (et_and (et_eqI (ev_f0 (ev_var rfl) (e2 _ _ hb)) (ev_var rfl)) fun _ => et_eqI (ev_f1 (ev_var rfl) (e2 _ _ hb)) ev_c) (done_by t s1)) (fun c H3 e3 => ?_) (fun c H3 e3 => ?_)
      · refine s_ret (ev_var rfl) fun H4 e4 => ?_
        rw [doneAt_some hs c no] at ret
        exact ret H4 ((e2.trans e3).trans e4)
      · refine ⟨_, _, rfl, e2.trans e3, fun j z hj hz => ?_⟩
        rcases Nat.lt_or_ge j k with q | q
        · exact no j z q hz
        · have : j = k := by omega
          subst this
          rw [hs] at hz
          cases hz
          exact c
    · subst hσ
      refine s_ret ev_c fun H2 e2 => ?_
      rw [doneAt_none fun j z hz => no j z (by rw [m.mix.len]; exact (List.getElem?_eq_some_iff.mp hz).1) hz] at ret
      exact ret H2 (e.trans e2)
/-! ### is_done_before -/
abbrev sIsDoneBefore : Stmt := top 10
theorem scIsDoneBefore : FnScope ["steps", "person", "at", "done"] ["steps", "person", "at"] (defScope sIsDoneBefore) := ⟨rfl, rfl, rfl, by decide +kernel, rfl, by decide +kernel, by decide +kernel⟩
def spDoneBy (K : PySem.W.Frag) : Sp := fun vs' H Q _ => ∃ (a : Addr) (xs : List V) (h : Mix) (t j : Nat), vs' = [.ref a, vi t, vi j] ∧ MixAt K H a xs h ∧ RetV (.bl (Rc98.doneBy h t j)) H Q
theorem ok_doneBy {f : Addr} {fd : FuncData} (F : Fun K "is_done_before" "is_done_before" sIsDoneBefore f fd) (T : Txt mg) (oDoneAt : Ok P w K mg base "done_at" ["steps", "person"] 1 (spDoneAt K)) : FnOk P w K mg base CX0 2 f fd ["steps", "person", "at"] (spDoneBy K) := by
  refine F.ok scIsDoneBefore (fun vs H Q E h => ?_) (fun cdv A outer s H vs Q E hr h => ?_)
  · obtain ⟨a, xs, h, t, j, rfl, _⟩ := h
    rfl
  · obtain ⟨a, xs, h, t, j, rfl, m, ret⟩ := h
    refine ⟨_, (pss_cons (ps_set (i := 3) scIsDoneBefore.nd rfl (Or.inl rfl) (pe_def oDoneAt hr (pa_cons (pv 0) (pa_cons (pv 1) pa_nil))))
      (pss_one (ps_ret (pe_and (pe_cmp (pc_notN (pv 3))) (pe_one (pe_cmpR op_lt (pv 3) (pv 2) (nomark _))))))), ?_⟩
    refine q_asg (ev_call (ea_cons (ev_var rfl) (ea_cons (ev_var rfl) ea_nil)) fun H1 e1 Q1 q1 E1 => ⟨a, xs, h, t, rfl, m.mono e1, q1⟩) fun H1 e1 => ?_
    cases d : Rc98.doneAt h t with
    | none =>
      have e : Rc98.doneBy h t j = false := by
        unfold Rc98.doneBy
        rw [d]
      rw [e] at ret
      exact s_ret (ev_is (ev_andV (b := false) (ev_notN (ev_var rfl)) fun c => by cases c) rfl) fun H2 e2 => ret H2 (e1.trans e2)
    | some i =>
      have e : Rc98.doneBy h t j = decide ((i : Int) < (j : Int)) := by
        unfold Rc98.doneBy
        rw [d]
        show decide (i < j) = _
        by_cases c : i < j
        · rw [decide_eq_true c, decide_eq_true (by omega)]
        · rw [decide_eq_false c, decide_eq_false (by omega)]
      rw [e] at ret
      exact s_ret (ev_is (ev_andV (ev_notN (ev_var rfl)) fun _ => ev_ltI (ev_var rfl) (ev_var rfl)) rfl) fun H2 e2 => ret H2 (e1.trans e2)
end
end SM

namespace SM
open PySem PySem.Spec PyProof.Rows L2 Evl
open Rc98 (Mix)
/-! ### lists of lists of numbers -/
def ListAt (H : Hp) (v : V) (l : List Nat) : Prop := ∃ a, v = .ref a ∧ H a = some (.lst (vs l))
theorem ListAt.mono {H H' : Hp} (e : Ex H H') {v : V} {l : List Nat} (h : ListAt H v l) : ListAt H' v l := by
  obtain ⟨a, h1, h2⟩ := h
  exact ⟨a, h1, e _ _ h2⟩
def LLs (H : Hp) (xs : List V) (ls : List (List Nat)) : Prop := Paired (ListAt H) xs ls
theorem LLs.mono {H H' : Hp} (e : Ex H H') {xs : List V} {ls : List (List Nat)} (h : LLs H xs ls) : LLs H' xs ls := L2.Paired.mapP h fun _ _ r => r.mono e
/-- what is handed back: a list of lists -/
def RLL (ls : List (List Nat)) (v : V) (H : Hp) : Prop := ∃ c ys, v = .ref c ∧ H c = some (.lst ys) ∧ LLs H ys ls
theorem RLL.mono {H H' : Hp} (e : Ex H H') {v : V} {ls : List (List Nat)} (h : RLL ls v H) : RLL ls v H' := by
  obtain ⟨c, ys, h1, h2, h3⟩ := h
  exact ⟨c, ys, h1, e _ _ h2, h3.mono e⟩
section
variable {P : Program} {w : World} {K : PySem.W.Frag} {mg : Str → Option Value} {base : Heap}
/-! ### longer -/
abbrev sLonger : Stmt := top 12
theorem scLonger : FnScope ["fronts", "people", "found", "front", "person"] ["fronts", "people"] (defScope sLonger) := ⟨rfl, rfl, rfl, by decide +kernel, rfl, by decide +kernel, by decide +kernel⟩
def spLonger (K : PySem.W.Frag) : Sp := fun vs' H Q _ => ∃ (a b : Addr) (xs : List V) (fs : List (List Nat)) (ps : List Nat), vs' = [.ref a, .ref b] ∧ SqL K H a xs ∧ LLs H xs fs ∧ SqL K H b (vs ps) ∧ fs.length ≤ 7776 ∧ ps.length ≤ 6 ∧ (∀ f ∈ fs, f.length ≤ 6) ∧ RetR (RLL (longer fs ps)) H Q
theorem more1_snoc (ps f : List Nat) (x : Nat) : more1 (ps ++ [x]) f = more1 ps f ++ if f.contains x = true then [] else [f ++ [x]] := by
  unfold more1
  rw [List.filter_append, List.map_append]
  congr 1
  cases c : f.contains x
  · simp [c]
    simpa using c
  · simp [c]
    simpa using c
theorem more1_len (ps f : List Nat) : (more1 ps f).length ≤ ps.length := by
  unfold more1
  rw [List.length_map]
  exact List.length_filter_le _ _
theorem ok_longer {f : Addr} {fd : FuncData} (F : Fun K "longer" "longer" sLonger f fd) (T : Txt mg) : FnOk P w K mg base CX0 1 f fd ["fronts", "people"] (spLonger K) := by
  refine F.ok scLonger (fun vs H Q E h => ?_) (fun cdv A outer s H vs Q E hr h => ?_)
  · obtain ⟨a, b, xs, fs, ps, rfl, _⟩ := h
    rfl
  · obtain ⟨a, b, xs, fs, ps, rfl, ha, hf, hb, n1, n2, n3, ret⟩ := h
    refine ⟨_, (pss_cons (ps_set (i := 2) scLonger.nd rfl (Or.inl rfl) (pe_lst pa_nil))
      (pss_cons (ps_for PassesOwn.never rfl (pi_list (pv 0)) (pg_name (i := 3) scLonger.nd rfl (Or.inl rfl)) (pss_one (ps_for PassesOwn.never rfl (pi_list (pv 1)) (pg_name (i := 4) scLonger.nd rfl (Or.inl rfl)) (pss_one (ps_if (pt_cmpR op_notIn_seq (pv 4) (pv 3) (by with_unfolding_all rfl)) (pss_one (ps_expr (pe_bm PySem.F.plainAttrs_list PySem.F.slot_list_append PySem.F.type_list_append mt_append (pv 2) (pa_cons (pe_op op_cat (pv 3) (pe_lst (pa_cons (pv 4) pa_nil))) pa_nil)))) pss_nil)))))
      (pss_one (ps_ret (pv 2))))), ?_⟩
    refine q_asgL (el_lst ea_nil (Nat.zero_le _)) fun l H1 hl e1 h1 => ?_
    refine q_forLn (ev_var rfl) (ex_l e1 ha) (fun i σ' H' => ∃ u v, σ' = [some (.ref a), some (.ref b), some (.ref l), u, v] ∧ Ex H H' ∧ ∃ ys, H' l = some (.lst ys) ∧ LLs (but H' l) ys (longer (fs.take i) ps)) (fun H2 e2 => ⟨none, none, rfl, e1.trans e2, [], e2 _ _ h1, .nil⟩) (fun i σ' H' _ ⟨_, _, _, e, _⟩ => ex_l e ha)
      (fun i x σ' H' hi ⟨u, v, hσ, e, ys, hl', hy⟩ => ?_) (fun σ' H' ⟨u, v, hσ, e, ys, hl', hy⟩ => ?_)
    · subst hσ
      obtain ⟨fr, hfr, ⟨c, rfl, hc⟩⟩ := pget hf hi
      have lf : fr.length ≤ 6 := n3 fr (List.mem_of_getElem? hfr)
      refine s_forLn (ev_var rfl) (ex_l e hb) (fun j σ2 H2 => ∃ v, σ2 = [some (.ref a), some (.ref b), some (.ref l), some (.ref c), v] ∧ Ex H H2 ∧ ∃ ys, H2 l = some (.lst ys) ∧ LLs (but H2 l) ys (longer (fs.take i) ps ++ more1 (ps.take j) fr)) (fun H2 e2 => ⟨v, rfl, e.trans e2, ys, e2 _ _ hl', ?_⟩) (fun j σ2 H2 _ ⟨_, _, e, _⟩ => ex_l e hb)
        (fun j x σ2 H2 hj ⟨v2, hσ2, e2, zs, hl2, hz⟩ => ?_) (fun σ2 H2 ⟨v2, hσ2, e2, zs, hl2, hz⟩ => ?_)
      · have : more1 (ps.take 0) fr = [] := rfl
        rw [this, List.append_nil]
        exact hy.mono (but_mono e2)
      · subst hσ2
        obtain ⟨t, ht, rfl⟩ := vs_get hj
        have hc2 := e2 _ _ hc
        have len : zs.length ≤ 46656 := by
          have q := Paired.length hz
          rw [List.length_append] at q
          have q1 := longer_len (fs.take i) ps
          have q2 := more1_len (ps.take j) fr
          rw [List.length_take] at q2
          have hi2 : i < xs.length := (List.getElem?_eq_some_iff.mp hi).1
          have q3 := Paired.length hf
          have q4 : (fs.take i).length ≤ 7775 := by
            rw [List.length_take]
            omega
          have q5 : (fs.take i).length * ps.length ≤ 7775 * 6 := Nat.mul_le_mul q4 n2
          omega
        refine s_when (et_is (et_test (ev_op (ev_var rfl) (ev_var rfl) (rv_niL (K := K) (sq_of hc2) rfl (flat_vs fr)))) (by rw [inV_vs])) (fun cc H3 e3 => ?_) (fun cc H3 e3 => ?_)
        · refine s_appL (ys := vs (fr ++ [t])) (e3 _ _ hl2) (ev_var rfl) ?_ (by omega) fun p H4 hp e4 h4 => ?_
          · have := el_cat (H := H3) (ta := tVar 3) (tb := tLst (tCons (tVar 4) tNil)) (σ := [some (.ref a), some (.ref b), some (.ref l), some (.ref c), some (vi t)]) (xs := vs fr) (ys := [vi t]) (ev_var rfl) (e3 _ _ hc2) (el_lst (ea_cons (ev_var rfl) ea_nil) (by show 1 ≤ 100000; decide)) (by rw [vs_len]; simp; omega)
            have e0 : vs (fr ++ [t]) = vs fr ++ [vi t] := List.map_append
            rw [e0]
            exact this
          · have np : p ≠ l := fun z => by
              rw [z, e3 _ _ hl2] at hp
              cases hp
            refine ⟨_, rfl, Ex.mut ((e2.trans e3).trans e4) hl, _, upd_same, ?_⟩
            rw [take_snoc ht, more1_snoc, ← List.append_assoc]
            have cf : fr.contains t = false := by simpa using cc
            rw [cf]
            refine papp (LLs.mono (but_grow (e3.trans e4)) hz) (.cons ⟨p, rfl, ?_⟩ .nil)
            exact but_at (by rw [upd_ne np]; exact h4) np
        · refine ⟨_, rfl, e2.trans e3, zs, e3 _ _ hl2, ?_⟩
          rw [take_snoc ht, more1_snoc]
          have cf : fr.contains t = true := by simpa using cc
          rw [cf, if_pos rfl, List.append_nil]
          exact hz.mono (but_mono e3)
      · subst hσ2
        rw [vs_len, List.take_length] at hz
        refine ⟨_, _, rfl, e2, zs, hl2, ?_⟩
        rw [take_snoc hfr]
        unfold longer at hz ⊢
        rw [List.flatMap_append]
        simpa using hz
    · subst hσ
      have q3 : fs.take xs.length = fs := by rw [Paired.length hf, List.take_length]
      rw [q3] at hy
      exact s_ret (ev_var rfl) fun H2 e2 => ret _ H2 (e.trans e2) ⟨l, ys, rfl, e2 _ _ hl', (hy.mono but_ex).mono e2⟩
/-! ### all_orders -/
abbrev sAllOrders : Stmt := top 13
theorem scAllOrders : FnScope ["people", "found", "place"] ["people"] (defScope sAllOrders) := ⟨rfl, rfl, rfl, by decide +kernel, rfl, by decide +kernel, by decide +kernel⟩
def spAll (K : PySem.W.Frag) : Sp := fun vs' H Q _ => ∃ (b : Addr) (ps : List Nat), vs' = [.ref b] ∧ SqL K H b (vs ps) ∧ ps.length ≤ 6 ∧ RetR (RLL (iter ps.length ps [[]])) H Q
theorem iter_each (ps : List Nat) : ∀ (k : Nat), ∀ f ∈ iter k ps [[]], f.length = k
  | 0, f, h => by
    have : f = [] := by simpa [iter] using h
    rw [this]
    rfl
  | k + 1, f, h => by
    rw [iter_succ] at h
    unfold longer more1 at h
    obtain ⟨g, hg, h⟩ := List.mem_flatMap.mp h
    obtain ⟨x, _, rfl⟩ := List.mem_map.mp h
    rw [List.length_append, iter_each ps k g hg]
    rfl
theorem ok_all {f : Addr} {fd : FuncData} (F : Fun K "all_orders" "all_orders" sAllOrders f fd) (T : Txt mg) (oLonger : Ok P w K mg base "longer" ["fronts", "people"] 1 (spLonger K)) : FnOk P w K mg base CX0 2 f fd ["people"] (spAll K) := by
  refine F.ok scAllOrders (fun vs H Q E h => ?_) (fun cdv A outer s H vs Q E hr h => ?_)
  · obtain ⟨b, ps, rfl, _⟩ := h
    rfl
  · obtain ⟨b, ps, rfl, hb, n, ret⟩ := h
    refine ⟨_, (pss_cons (ps_set (i := 1) scAllOrders.nd rfl (Or.inl rfl) (pe_lst (pa_cons (pe_lst pa_nil) pa_nil)))
      (pss_cons (ps_for PassesOwn.never rfl (pi_list (pv 0)) (pg_name (i := 2) scAllOrders.nd rfl (Or.inl rfl)) (pss_one (ps_set (i := 1) scAllOrders.nd rfl (Or.inl rfl) (pe_def oLonger hr (pa_cons (pv 1) (pa_cons (pv 0) pa_nil))))))
      (pss_one (ps_ret (pv 1))))), ?_⟩
    have first : EvR (tLst (tCons (tLst tNil) tNil)) (start ["people", "found", "place"] [.ref b]) H (RLL [[]]) := fun H1 e1 Q1 q1 =>
      ⟨Nat.zero_le _, fun p hp => ⟨by show 1 ≤ sizeLine; decide, fun p2 hp2 => q1 _ _ ((Ex.new hp).trans (Ex.new hp2)) ⟨p2, [.ref p], rfl, upd_same, .cons ⟨p, rfl, Ex.new hp2 _ _ upd_same⟩ .nil⟩⟩⟩
    refine q_asgR first fun v0 H1 e1 r1 => ?_
    refine q_forLn (ev_var rfl) (ex_l e1 hb) (fun i σ' H' => ∃ u v, σ' = [some (.ref b), some v, u] ∧ Ex H H' ∧ RLL (iter i ps [[]]) v H') (fun H2 e2 => ⟨none, v0, rfl, e1.trans e2, r1.mono e2⟩) (fun i σ' H' _ ⟨_, _, _, e, _⟩ => ex_l e hb)
      (fun i x σ' H' hi ⟨u, v, hσ, e, r⟩ => ?_) (fun σ' H' ⟨u, v, hσ, e, r⟩ => ?_)
    · subst hσ
      obtain ⟨t, ht, rfl⟩ := vs_get hi
      obtain ⟨c, ys, rfl, hc, hy⟩ := r
      have lt : i < ps.length := (List.getElem?_eq_some_iff.mp ht).1
      have l1 := iter_len ps n i
      have l2 : 6 ^ i ≤ 6 ^ 5 := Nat.pow_le_pow_right (by decide) (by omega)
      refine s_asgR (er_call (ea_cons (ev_var rfl) (ea_cons (ev_var rfl) ea_nil)) fun H2 e2 Q2 q2 E2 => ⟨c, b, ys, iter i ps [[]], ps, rfl, sq_of (e2 _ _ hc), hy.mono e2, ex_l (e.trans e2) hb, by omega, n, fun f hf => by rw [iter_each ps i f hf]; omega, q2⟩) fun v2 H2 e2 r2 => ?_
      refine ⟨_, v2, rfl, e.trans e2, ?_⟩
      rw [iter_succ]
      exact r2
    · subst hσ
      rw [vs_len] at r
      exact s_ret (ev_var rfl) fun H2 e2 => ret _ H2 (e.trans e2) (r.mono e2)
/-! ### keeps -/
abbrev sKeeps : Stmt := top 15
theorem scKeeps : FnScope ["order", "pairs", "one", "other"] ["order", "pairs"] (defScope sKeeps) := ⟨rfl, rfl, rfl, by decide +kernel, rfl, by decide +kernel, by decide +kernel⟩
def PairAt (H : Hp) (v : V) (q : Nat × Nat) : Prop := ∃ c, v = .ref c ∧ H c = some (.tup [vi q.1, vi q.2])
theorem PairAt.mono {H H' : Hp} (e : Ex H H') {v : V} {q : Nat × Nat} (h : PairAt H v q) : PairAt H' v q := by
  obtain ⟨a, h1, h2⟩ := h
  exact ⟨a, h1, e _ _ h2⟩
def PairsL (H : Hp) (xs : List V) (ps : List (Nat × Nat)) : Prop := Paired (PairAt H) xs ps
theorem PairsL.mono {H H' : Hp} (e : Ex H H') {xs : List V} {ps : List (Nat × Nat)} (h : PairsL H xs ps) : PairsL H' xs ps := L2.Paired.mapP h fun _ _ r => r.mono e
def spKeeps (K : PySem.W.Frag) : Sp := fun vs' H Q _ => ∃ (a b : Addr) (p : List Nat) (xs : List V) (ps : List (Nat × Nat)), vs' = [.ref a, .ref b] ∧ SqL K H a (vs p) ∧ SqL K H b xs ∧ PairsL H xs ps ∧ (∀ q ∈ ps, q.1 ∈ p ∧ q.2 ∈ p) ∧ RetV (.bl (keepsB p ps)) H Q
theorem ok_keeps {f : Addr} {fd : FuncData} (F : Fun K "keeps" "keeps" sKeeps f fd) (T : Txt mg) : FnOk P w K mg base CX0 1 f fd ["order", "pairs"] (spKeeps K) := by
  refine F.ok scKeeps (fun vs H Q E h => ?_) (fun cdv A outer s H vs Q E hr h => ?_)
  · obtain ⟨a, b, p, xs, ps, rfl, _⟩ := h
    rfl
  · obtain ⟨a, b, p, xs, ps, rfl, ha, hb, hp, mem, ret⟩ := h
    refine ⟨_, (pss_cons (ps_for PassesOwn.never rfl (pi_list (pv 1)) (pg_tup rfl (pgs_cons (pg_name (i := 2) scKeeps.nd rfl (Or.inl rfl)) (pgs_cons (pg_name (i := 3) scKeeps.nd rfl (Or.inl rfl)) pgs_nil))) (pss_one (ps_if (pt_cmpR op_gt (pe_bm PySem.F.plainAttrs_list PySem.F.slot_list_index PySem.F.type_list_index mt_index (pv 0) (pa_cons (pv 2) pa_nil)) (pe_bm PySem.F.plainAttrs_list PySem.F.slot_list_index PySem.F.type_list_index mt_index (pv 0) (pa_cons (pv 3) pa_nil)) (nomark _)) (pss_one (ps_ret pe_bl)) pss_nil)))
      (pss_one (ps_ret pe_bl))), ?_⟩
    refine q_forL (ev_var rfl) hb (fun i σ' H' => ∃ u v, σ' = [some (.ref a), some (.ref b), u, v] ∧ Ex H H' ∧ ∀ (j : Nat) (q : Nat × Nat), j < i → ps[j]? = some q → ¬ p.idxOf q.1 > p.idxOf q.2) (fun H2 e2 => ⟨none, none, rfl, e2, fun j q hj => absurd hj (Nat.not_lt_zero j)⟩) (fun i σ' H' _ ⟨_, _, _, e, _⟩ => ex_l e hb)
      (fun i x σ' H' hi ⟨u, v, hσ, e, no⟩ => ?_) (fun σ' H' ⟨u, v, hσ, e, no⟩ => ?_)
    · subst hσ
      obtain ⟨q, hq, ⟨c, rfl, hc⟩⟩ := pget hp hi
      have mq := mem q (List.mem_of_getElem? hq)
      refine ⟨c, _, rfl, st_of (e _ _ hc), rfl, _, _, rfl, _, _, rfl, rfl, ?_⟩
      refine s_when (et_test (ev_op (ev_index (ev_var rfl) (ex_l e ha) (ev_var rfl) mq.1) (ev_index (ev_var rfl) (ex_l e ha) (ev_var rfl) mq.2) rv_I0)) (fun cc H3 e3 => ?_) (fun cc H3 e3 => ?_)
      · have cc : ((p.idxOf q.2 : Nat) : Int) < ((p.idxOf q.1 : Nat) : Int) := of_decide_eq_true cc
        have kf : keepsB p ps = false := by
          cases kb : keepsB p ps with
          | false => rfl
          | true =>
            have := List.all_eq_true.mp kb q (List.mem_of_getElem? hq)
            simp at this
            omega
        rw [kf] at ret
        exact s_ret ev_c fun H4 e4 => ret H4 ((e.trans e3).trans e4)
      · have cc : ¬ ((p.idxOf q.2 : Nat) : Int) < ((p.idxOf q.1 : Nat) : Int) := of_decide_eq_false cc
        refine ⟨_, _, rfl, e.trans e3, fun j q' hj hq' => ?_⟩
        rcases Nat.lt_or_ge j i with z | z
        · exact no j q' z hq'
        · have : j = i := by omega
          subst this
          rw [hq] at hq'
          cases hq'
          omega
    · subst hσ
      have kt : keepsB p ps = true := by
        refine List.all_eq_true.mpr fun q hq => ?_
        obtain ⟨j, hj⟩ := List.mem_iff_getElem?.mp hq
        have := no j q (by rw [Paired.length hp]; exact (List.getElem?_eq_some_iff.mp hj).1) hj
        simp
        omega
      rw [kt] at ret
      exact s_ret ev_c fun H4 e4 => ret H4 (e.trans e4)
end
end SM

namespace SM
open PySem PySem.Spec PyProof.Rows L2 Evl
open Rc98 (Mix)
/-! ### tuples of numbers as data -/
def pd (l : List Nat) : PyData := .tuple (l.map fun (n : Nat) => .int (n : Int))
theorem pd_each (l : List Nat) : PyData.canLayAll0 (l.map fun (n : Nat) => .int (n : Int)) = true ∧ PyData.depthAll (l.map fun (n : Nat) => .int (n : Int)) ≤ 1 := by
  induction l with
  | nil => exact ⟨rfl, by decide⟩
  | cons n l ih =>
    refine ⟨?_, ?_⟩
    · show ((PyData.int (n : Int)).canLay0 && PyData.canLayAll0 (l.map fun (n : Nat) => .int (n : Int))) = true
      rw [ih.1]
      rfl
    · show max (PyData.int (n : Int)).depth (PyData.depthAll (l.map fun (n : Nat) => .int (n : Int))) ≤ 1
      exact Nat.max_le.mpr ⟨Nat.zero_le 1, ih.2⟩
theorem pd_lay (l : List Nat) : (pd l).canLay0 = true := (pd_each l).1
theorem pd_depth (l : List Nat) : (pd l).depth ≤ 2 := by
  have := (pd_each l).2
  show PyData.depthAll _ + 1 ≤ 2
  omega
theorem pds_each (ls : List (List Nat)) : PyData.canLayAll0 (ls.map pd) = true ∧ PyData.depthAll (ls.map pd) ≤ 2 := by
  induction ls with
  | nil => exact ⟨rfl, by decide⟩
  | cons l ls ih =>
    refine ⟨?_, ?_⟩
    · show ((pd l).canLay0 && PyData.canLayAll0 (ls.map pd)) = true
      rw [ih.1, pd_lay]
      rfl
    · show max (pd l).depth (PyData.depthAll (ls.map pd)) ≤ 2
      exact Nat.max_le.mpr ⟨pd_depth l, ih.2⟩
theorem pd_shaped (l : List Nat) : SeqAt.shaped (pd l) = true := by
  unfold SeqAt.shaped
  rw [pd_lay, decide_eq_true (Nat.le_trans (pd_depth l) (by decide))]
  rfl
theorem pds_shaped (ls : List (List Nat)) : SeqAt.shaped (.list (ls.map pd)) = true := by
  have h := pds_each ls
  have e1 : (PyData.list (ls.map pd)).canLay0 = true := h.1
  have e2 : (PyData.list (ls.map pd)).depth ≤ 64 := by
    show PyData.depthAll _ + 1 ≤ 64
    omega
  unfold SeqAt.shaped
  rw [e1, decide_eq_true e2]
  rfl
theorem pd_eqv : ∀ (a b : List Nat), PyData.eqv (pd a) (pd b) = decide (a = b)
  | [], [] => rfl
  | [], _ :: _ => rfl
  | _ :: _, [] => rfl
  | x :: a, y :: b => by
    have ih := pd_eqv a b
    have ih : PyData.eqvAll (a.map fun (n : Nat) => .int (n : Int)) (b.map fun (n : Nat) => .int (n : Int)) = decide (a = b) := ih
    show (((x : Int) == (y : Int)) && PyData.eqvAll (a.map fun (n : Nat) => .int (n : Int)) (b.map fun (n : Nat) => .int (n : Int))) = _
    rw [ih]
    by_cases c : x = y
    · subst c
      simp
    · have : ¬ (x : Int) = (y : Int) := by omega
      simp [c, this]
theorem pd_any (q : List Nat) : ∀ ls : List (List Nat), ((ls.map pd).any fun z => PyData.eqv z (pd q)) = ls.contains q
  | [] => rfl
  | l :: ls => by
    have ih := pd_any q ls
    rw [List.map_cons, List.any_cons, ih, pd_eqv, List.contains_cons]
    congr 1
    by_cases c : l = q
    · subst c
      simp
    · simp [c]
      exact fun z => c z.symm
theorem dpAll_vs {K : PySem.W.Frag} {H : Hp} : ∀ l : List Nat, DpAll K H (vs l) (l.map fun (n : Nat) => .int (n : Int))
  | [] => .nil
  | n :: l => .cons (.int _) (dpAll_vs l)
theorem dp_tup {K : PySem.W.Frag} {H : Hp} {c : Addr} {l : List Nat} (h : H c = some (.tup (vs l))) : Dp K H (.ref c) (pd l) := .tup (st_of h) (dpAll_vs l)
/-- tuples of numbers at values -/
def TupAt (H : Hp) (v : V) (l : List Nat) : Prop := ∃ c, v = .ref c ∧ H c = some (.tup (vs l))
theorem TupAt.mono {H H' : Hp} (e : Ex H H') {v : V} {l : List Nat} (h : TupAt H v l) : TupAt H' v l := by
  obtain ⟨c, h1, h2⟩ := h
  exact ⟨c, h1, e _ _ h2⟩
theorem dp_tups {K : PySem.W.Frag} {H : Hp} : ∀ {xs : List V} {ls : List (List Nat)}, Paired (TupAt H) xs ls → DpAll K H xs (ls.map pd)
  | _, _, .nil => .nil
  | _, _, .cons ⟨_, e, h⟩ t => .cons (by rw [e]; exact dp_tup h) (dp_tups t)
/-- t not in l, a tuple of numbers and a list of such -/
theorem rv_notInT {K : PySem.W.Frag} {H : Hp} {c l : Addr} {q : List Nat} {ys : List V} {ls : List (List Nat)} (hc : H c = some (.tup (vs q))) (hl : H l = some (.lst ys)) (hy : Paired (TupAt H) ys ls) : RV (rNotInD K) (.ref c) (.ref l) H (.bl (!ls.contains q)) :=
  rv_val fun H1 e Q k => ⟨pd q, ls.map pd, dp_tup (e _ _ hc), .lst (sq_of (e _ _ hl)) (dp_tups (L2.Paired.mapP hy fun _ _ r => r.mono e)), pd_shaped q, pds_shaped ls, by rw [pd_any]; exact k⟩
theorem rv_inT2 {K : PySem.W.Frag} {H : Hp} {c l : Addr} {q : List Nat} {ys : List V} {ls : List (List Nat)} (hc : H c = some (.tup (vs q))) (hl : H l = some (.lst ys)) (hy : Paired (TupAt H) ys ls) : RV (rInD K) (.ref c) (.ref l) H (.bl (ls.contains q)) :=
  rv_val fun H1 e Q k => ⟨pd q, ls.map pd, dp_tup (e _ _ hc), .lst (sq_of (e _ _ hl)) (dp_tups (L2.Paired.mapP hy fun _ _ r => r.mono e)), pd_shaped q, pds_shaped ls, by rw [pd_any]; exact k⟩
def pl (q : Nat × Nat) : List Nat := [q.1, q.2]
theorem pl_contains (q : Nat × Nat) (ps : List (Nat × Nat)) : (ps.map pl).contains (pl q) = decide (q ∈ ps) := by
  rw [Bool.eq_iff_iff, List.contains_iff_mem, List.mem_map, decide_eq_true_eq]
  constructor
  · rintro ⟨z, hz, e⟩
    have e1 : z.1 = q.1 := (List.cons.inj e).1
    have e2 : z.2 = q.2 := (List.cons.inj (List.cons.inj e).2).1
    have : z = q := Prod.ext e1 e2
    exact this ▸ hz
  · intro h
    exact ⟨q, h, rfl⟩
theorem tups_pairs {H : Hp} : ∀ {xs : List V} {ps : List (Nat × Nat)}, PairsL H xs ps → Paired (TupAt H) xs (ps.map pl)
  | _, _, .nil => .nil
  | _, _, .cons h t => .cons h (tups_pairs t)
theorem cut_take (xs : List V) (k : Nat) : cutV xs none (some (k : Int)) = xs.take k := by
  unfold cutV
  rw [HT.sIx_none, HT.sIx_nat]
  show (xs.drop 0).take (min k xs.length - 0) = xs.take k
  rw [List.drop_zero, Nat.sub_zero]
  rcases Nat.le_total k xs.length with q | q
  · rw [Nat.min_eq_left q]
  · rw [Nat.min_eq_right q, List.take_length, List.take_of_length_le q]
/-! ### pairs_of -/
def AhTo (h : Mix) (i j a b : Nat) : Prop := ∃ (i' j' : Nat) (s z : Rc98.Step), (j' < i ∨ (j' = i ∧ i' < j)) ∧ i' < j' ∧ h[i']? = some s ∧ h[j']? = some z ∧ Rc98.clash s z = true ∧ s.t = a ∧ z.t = b
theorem ahTo_zero (h : Mix) (a b : Nat) : ¬ AhTo h 0 0 a b := by
  rintro ⟨i', j', s, z, c, l, _⟩
  omega
theorem ahTo_step {h : Mix} {i j : Nat} {s z : Rc98.Step} (hj : j < i) (hs : h[j]? = some s) (hz : h[i]? = some z) (a b : Nat) : AhTo h i (j + 1) a b ↔ AhTo h i j a b ∨ (Rc98.clash s z = true ∧ s.t = a ∧ z.t = b) := by
  constructor
  · rintro ⟨i', j', s', z', c, l, h1, h2, h3, h4, h5⟩
    by_cases q : j' = i ∧ i' = j
    · obtain ⟨rfl, rfl⟩ := q
      rw [hs] at h1
      rw [hz] at h2
      cases h1
      cases h2
      exact .inr ⟨h3, h4, h5⟩
    · exact .inl ⟨i', j', s', z', by omega, l, h1, h2, h3, h4, h5⟩
  · rintro (⟨i', j', s', z', c, l, h1, h2, h3, h4, h5⟩ | ⟨h3, h4, h5⟩)
    · exact ⟨i', j', s', z', by omega, l, h1, h2, h3, h4, h5⟩
    · exact ⟨j, i, s, z, .inr ⟨rfl, by omega⟩, hj, hs, hz, h3, h4, h5⟩
theorem ahTo_next (h : Mix) (i a b : Nat) : AhTo h (i + 1) 0 a b ↔ AhTo h i i a b := by
  constructor
  · rintro ⟨i', j', s', z', c, l, r⟩
    exact ⟨i', j', s', z', by omega, l, r⟩
  · rintro ⟨i', j', s', z', c, l, r⟩
    exact ⟨i', j', s', z', by omega, l, r⟩
theorem ahTo_all (h : Mix) (a b : Nat) : AhTo h h.length 0 a b ↔ Ahead h a b := by
  constructor
  · rintro ⟨i', j', s', z', c, l, h1, h2, h3, h4, h5⟩
    exact ⟨i', j', s', z', l, h1, h2, h3, h4, h5⟩
  · rintro ⟨i', j', s', z', l, h1, h2, h3, h4, h5⟩
    exact ⟨i', j', s', z', .inl (List.getElem?_eq_some_iff.mp h2).1, l, h1, h2, h3, h4, h5⟩
section
variable {P : Program} {w : World} {K : PySem.W.Frag} {mg : Str → Option Value} {base : Heap}
abbrev sPairsOf : Stmt := top 14
theorem scPairsOf : FnScope ["steps", "found", "at", "later", "earlier", "pair"] ["steps"] (defScope sPairsOf) := ⟨rfl, rfl, rfl, by decide +kernel, rfl, by decide +kernel, by decide +kernel⟩
def RPairs (h : Mix) (v : V) (H : Hp) : Prop := ∃ c ys ps, v = .ref c ∧ H c = some (.lst ys) ∧ PairsL H ys ps ∧ ∀ a b, (a, b) ∈ ps ↔ Ahead h a b
theorem RPairs.mono {h : Mix} {H H' : Hp} (e : Ex H H') {v : V} (r : RPairs h v H) : RPairs h v H' := by
  obtain ⟨c, ys, ps, h1, h2, h3, h4⟩ := r
  exact ⟨c, ys, ps, h1, e _ _ h2, h3.mono e, h4⟩
def spPairs (K : PySem.W.Frag) : Sp := fun vs' H Q _ => ∃ (a : Addr) (xs : List V) (h : Mix), vs' = [.ref a] ∧ MixAt K H a xs h ∧ RetR (RPairs h) H Q
theorem ok_pairs {f : Addr} {fd : FuncData} (F : Fun K "pairs_of" "pairs_of" sPairsOf f fd) (T : Txt mg) (oDoClash : Ok P w K mg base "do_clash" ["one", "other"] 2 spClash) : FnOk P w K mg base CX0 3 f fd ["steps"] (spPairs K) := by
  refine F.ok scPairsOf (fun vs H Q E h => ?_) (fun cdv A outer s H vs Q E hr h => ?_)
  · obtain ⟨a, xs, h, rfl, _⟩ := h
    rfl
  · obtain ⟨a, xs, h, rfl, m, ret⟩ := h
    have hu65 := (hr.in1).units
    refine ⟨_, (pss_cons (ps_set (i := 1) scPairsOf.nd rfl (Or.inl rfl) (pe_lst pa_nil))
      (pss_cons (ps_for PassesOwn.never rfl (pi_enum (by rfl) T.n_enumerate (pa_cons (pv 0) pa_nil)) (pg_tup rfl (pgs_cons (pg_name (i := 2) scPairsOf.nd rfl (Or.inl rfl)) (pgs_cons (pg_name (i := 3) scPairsOf.nd rfl (Or.inl rfl)) pgs_nil))) (pss_one (ps_for PassesOwn.never rfl (pi_list (pe_slice sl_list (pv 0) po_none (po_some (pv 2)))) (pg_name (i := 4) scPairsOf.nd rfl (Or.inl rfl)) (pss_cons (ps_set (i := 5) scPairsOf.nd rfl (Or.inl rfl) (pe_tup (pa_cons (pe_ix ix_tup (pv 4) pe_int (fun _ _ => rfl)) (pa_cons (pe_ix ix_tup (pv 3) pe_int (fun _ _ => rfl)) pa_nil))))
      (pss_one (ps_if ((pw_and (pt_val (pe_def oDoClash hr (pa_cons (pv 4) (pa_cons (pv 3) pa_nil)))) (pw_and1 (pt_cmpR (op_notInD hu65) (pv 5) (pv 1) (by with_unfolding_all rfl))))).pt (pss_one (ps_expr (pe_bm PySem.F.plainAttrs_list PySem.F.slot_list_append PySem.F.type_list_append mt_append (pv 1) (pa_cons (pv 5) pa_nil)))) pss_nil))))))
      (pss_one (ps_ret (pv 1))))), ?_⟩
    refine q_asgL (el_lst ea_nil (Nat.zero_le _)) fun l H1 hl e1 h1 => ?_
    refine q_forE (ea_cons (ev_var rfl) ea_nil) (ex_l e1 m.sq) (fun k σ' H' => ∃ u1 u2 u3 u4, σ' = [some (.ref a), some (.ref l), u1, u2, u3, u4] ∧ Ex H H' ∧ ∃ ys ps, H' l = some (.lst ys) ∧ PairsL (but H' l) ys ps ∧ (∀ a b, (a, b) ∈ ps ↔ AhTo h k 0 a b) ∧ ps.length ≤ 24 * k)
      (fun H2 e2 => ⟨none, none, none, none, rfl, e1.trans e2, [], [], e2 _ _ h1, .nil, fun a b => ⟨fun z => absurd z List.not_mem_nil, fun z => absurd z (ahTo_zero h a b)⟩, by simp⟩) (fun _ σ' H' _ ⟨_, _, _, _, _, e, _⟩ => ex_l e m.sq)
      (fun k x σ' H' H'' hk ⟨u1, u2, u3, u4, hσ, e, ys, ps, hl', hy, mem, len⟩ e' => ?_) (fun σ' H' ⟨u1, u2, u3, u4, hσ, e, ys, ps, hl', hy, mem, len⟩ => ?_)
    · subst hσ
      obtain ⟨z, hz, hz2⟩ := pget m.mix hk
      have kn : k < h.length := (List.getElem?_eq_some_iff.mp hz).1
      have k24 := m.good.1
      have ee := e.trans e'
      have sl := el_sl (K := K) (H := H'') (σ := [some (.ref a), some (.ref l), some (vi k), some x, u3, u4]) (te := tVar 0) (tl := tNoPart) (th := tPart (tVar 2)) (a := a) (xs := xs) (lo := none) (hi := some (k : Int)) (ev_var rfl) eo_none (eo_some (ev_var rfl)) (ex_l ee m.sq)
      rw [cut_take] at sl
      refine s_forNL sl (fun p j σ2 H2 => ∃ u3 u4, σ2 = [some (.ref a), some (.ref l), some (vi k), some x, u3, u4] ∧ Ex H H2 ∧ p ≠ l ∧ H2 p = some (.lst (xs.take k)) ∧ ∃ ys ps, H2 l = some (.lst ys) ∧ PairsL (but H2 l) ys ps ∧ (∀ a b, (a, b) ∈ ps ↔ AhTo h k j a b) ∧ ps.length ≤ 24 * k + j)
        (fun p H2 hp e2 h2 => ⟨u3, u4, rfl, ee.trans e2, (fun q => by rw [q, e' _ _ hl'] at hp; cases hp), h2, ys, ps, e2 _ _ (e' _ _ hl'), hy.mono (but_mono (e'.trans e2)), mem, by omega⟩) (fun p j σ2 H2 _ ⟨_, _, _, _, _, h2, _⟩ => sq_of h2)
        (fun p j y σ2 H2 hj ⟨u3, u4, hσ2, e2, np, h2, ys, ps, hl2, hy2, mem2, len2⟩ => ?_) (fun p σ2 H2 ⟨u3, u4, hσ2, e2, np, h2, ys, ps, hl2, hy2, mem2, len2⟩ => ?_)
      · subst hσ2
        have jk : j < k := by
          have := (List.getElem?_eq_some_iff.mp hj).1
          rw [List.length_take] at this
          omega
        have hj' : xs[j]? = some y := by
          rw [List.getElem?_take, if_pos jk] at hj
          exact hj
        obtain ⟨s1, hs, hs2⟩ := pget m.mix hj'
        have a1 := hs2.mono e2
        have a2 := hz2.mono e2
        obtain ⟨b1, p1, rfl, hb1, hp1⟩ := id a1
        obtain ⟨b2, p2, rfl, hb2, hp2⟩ := id a2
        refine q_asgU (eu_tup (ea_cons (ev_f0 (ev_var rfl) hb1) (ea_cons (ev_f0 (ev_var rfl) hb2) ea_nil)) (by show 2 ≤ 100000; decide)) fun c H3 hc e3 h3 => ?_
        have nc : c ≠ l := fun q => by
          rw [q, hl2] at hc
          cases hc
        have test := et_and (et_B (ev_call (sp := spClash) (E := E0) (dvs := []) (σ := [some (.ref a), some (.ref l), some (vi k), some (.ref b2), some (.ref b1), some (.ref c)]) (H := H3) (z := .bl (Rc98.clash s1 z)) (ea_cons (ev_var (i := 4) rfl) (ea_cons (ev_var (i := 3) rfl) ea_nil)) fun H4 e4 Q4 q4 E4 => ⟨_, _, s1, z, rfl, a1.mono (e3.trans e4), a2.mono (e3.trans e4), (m.good.2 s1 (List.mem_of_getElem? hs)).2.1, (m.good.2 z (List.mem_of_getElem? hz)).2.1, q4⟩))
          fun _ => et_test (ev_op (ev_var (i := 5) rfl) (ev_var (i := 1) rfl) (rv_notInT (K := K) (q := pl (s1.t, z.t)) h3 (e3 _ _ hl2) (tups_pairs ((hy2.mono but_ex).mono e3))))
        rw [pl_contains] at test
        refine s_when test (fun cc H4 e4 => ?_) (fun cc H4 e4 => ?_)
        · rw [Bool.and_eq_true] at cc
          refine s_app (e4 _ _ (e3 _ _ hl2)) (ev_var rfl) (ev_var rfl) (by have := Paired.length hy2; omega) fun H5 e5 => ?_
          have ex := (e3.trans e4).trans e5
          refine ⟨_, _, rfl, Ex.mut (e2.trans ex) hl, np, by rw [upd_ne np]; exact ex _ _ h2, _, ps ++ [(s1.t, z.t)], upd_same, papp (PairsL.mono (but_grow ex) hy2) (.cons ⟨c, rfl, but_at (by rw [upd_ne nc]; exact (e4.trans e5) _ _ h3) nc⟩ .nil), fun a b => ?_, by rw [List.length_append]; simp; omega⟩
          rw [ahTo_step jk hs hz, List.mem_append, mem2]
          constructor
          · rintro (q | q)
            · exact .inl q
            · have q : (a, b) = (s1.t, z.t) := by simpa using q
              cases q
              exact .inr ⟨cc.1, rfl, rfl⟩
          · rintro (q | ⟨_, rfl, rfl⟩)
            · exact .inl q
            · exact .inr (by simp)
        · refine ⟨_, _, rfl, (e2.trans e3).trans e4, np, (e3.trans e4) _ _ h2, ys, ps, (e3.trans e4) _ _ hl2, hy2.mono (but_mono (e3.trans e4)), fun a b => ?_, by omega⟩
          rw [ahTo_step jk hs hz, mem2]
          constructor
          · exact .inl
          · rintro (q | ⟨q1, rfl, rfl⟩)
            · exact q
            · rw [q1, Bool.true_and] at cc
              have : (s1.t, z.t) ∈ ps := by simpa using cc
              exact (mem2 _ _).mp this
      · subst hσ2
        have ek : (xs.take k).length = k := by
          rw [List.length_take, m.mix.len]
          omega
        rw [ek] at mem2 len2
        refine ⟨_, _, _, _, rfl, e2, ys, ps, hl2, hy2, fun a b => ?_, by omega⟩
        rw [ahTo_next]
        exact mem2 a b
    · subst hσ
      rw [m.mix.len] at mem
      exact s_ret (ev_var rfl) fun H2 e2 => ret _ H2 (e.trans e2) ⟨l, ys, ps, rfl, e2 _ _ hl', (hy.mono but_ex).mono e2, fun a b => (mem a b).trans (ahTo_all h a b)⟩
/-! ### orders_by_clashes -/
abbrev sOrdersByClashes : Stmt := top 16
theorem scOrdersByClashes : FnScope ["steps", "pairs", "order"] ["steps"] (defScope sOrdersByClashes) := ⟨rfl, rfl, rfl, by decide +kernel, rfl, by decide +kernel, by decide +kernel⟩
theorem er_callL {σ : L2.St} {H : Hp} {te : TE} {xs : List V} {sp : Sp} {E : XK} {R : V → Hp → Prop} (h : EvL te σ H xs) (hs : ∀ p H1, Ex H H1 → H1 p = some (.lst xs) → SpR sp [.ref p] H1 R) : EvR (tCall sp [] E (tCons te tNil)) σ H R := fun H0 e Q q =>
  h H0 e _ fun p H2 _ e2 hp => hs p H2 (e.trans e2) hp H2 (Ex.refl _) Q (fun v H3 e3 r => q v H3 (e2.trans e3) r) E
theorem ret_of {te : TE} {D : Ends} {σ : L2.St} {H : Hp} (h : te σ H D.rt) : tRet te D σ H := h
/-- all orders of the people of a mixture -/
theorem er_orders {σ : L2.St} {H : Hp} {a : Addr} {xs : List V} {h : Mix} {E E' : XK} (m : MixAt K H a xs h) (hv : σ[0]? = some (some (.ref a))) : EvR (tCall (spAll K) [] E (tCons (tCall (spPeople K) [] E' (tCons (tVar 0) tNil)) tNil)) σ H (RLL (Rc98.all_ h)) := by
  refine er_callL (el_call (ea_cons (ev_var hv) ea_nil) fun H1 e1 Q1 q1 E1 => ⟨a, xs, h, rfl, m.mono e1, q1⟩) fun p H1 e1 hp H2 e2 Q2 q2 E2 => ⟨p, Rc98.who h, rfl, sq_of (e2 _ _ hp), who_len h, ?_⟩
  rw [iter_all]
  exact q2
def spByClashes (K : PySem.W.Frag) : Sp := fun vs' H Q _ => ∃ (a : Addr) (xs : List V) (h : Mix), vs' = [.ref a] ∧ MixAt K H a xs h ∧ RetR (RLL ((Rc98.all_ h).filter fun p => Rc98.sameClashes h (Rc98.serial h p))) H Q
theorem ok_byClashes {f : Addr} {fd : FuncData} (F : Fun K "orders_by_clashes" "orders_by_clashes" sOrdersByClashes f fd) (T : Txt mg) (oPairsOf : Ok P w K mg base "pairs_of" ["steps"] 3 (spPairs K)) (oAllOrders : Ok P w K mg base "all_orders" ["people"] 2 (spAll K))
    (oPeopleOf : Ok P w K mg base "people_of" ["steps"] 1 (spPeople K)) (oKeeps : Ok P w K mg base "keeps" ["order", "pairs"] 1 (spKeeps K)) : FnOk P w K mg base CX0 4 f fd ["steps"] (spByClashes K) := by
  refine F.ok scOrdersByClashes (fun vs H Q E h => ?_) (fun cdv A outer s H vs Q E hr h => ?_)
  · obtain ⟨a, xs, h, rfl, _⟩ := h
    rfl
  · obtain ⟨a, xs, h, rfl, m, ret⟩ := h
    refine ⟨_, (pss_cons (ps_set (i := 1) scOrdersByClashes.nd rfl (Or.inr rfl) (pe_def oPairsOf hr (pa_cons (pv 0) pa_nil)))
      (pss_one (ps_ret (pe_lc (own := [("order", 2)]) rfl scOrdersByClashes.nd (pi_list (pe_def oAllOrders hr (pa_cons (pe_def oPeopleOf hr (pa_cons (pv 0) pa_nil)) pa_nil))) (blkOk_by (own := [("order", 2)]) (N := ["steps", "pairs", "order"]) (sc := defScope sOrdersByClashes) (by decide +kernel)) (fun _ _ _ _ _ => pg_name (i := 2) scOrdersByClashes.nd rfl (Or.inl rfl)) (fun _ _ _ _ _ => pts_one (pt_val (pe_def oKeeps hr (pa_cons (pv 2) (pa_cons (pv 1) pa_nil))))) (fun _ _ _ _ _ => (pv 2)))))), ?_⟩
    refine q_asgR (er_call (ea_cons (ev_var rfl) ea_nil) fun H1 e1 Q1 q1 E1 => ⟨a, xs, h, rfl, m.mono e1, q1⟩) fun v0 H1 e1 r1 => ?_
    refine ret_of (lc_over (er_orders (m.mono e1) rfl) fun v H2 e2 r2 => ?_)
    obtain ⟨c, ys, rfl, hc, hy⟩ := r2
    obtain ⟨b, zs, ps, rfl, hb, hz, mem⟩ := r1.mono e2
    have comp := el_lcL (K := K) (H := H2) (xs := ys) (a := c) (σ := [some (.ref a), some (.ref b), none]) (tl := tC (.ref c)) (j := 2) (vs := [2]) (t := tB (tCall (spKeeps K) [] E0 (tCons (tVar 2) (tCons (tVar 1) tNil)))) (te := tVar 2) (onAt (Rc98.all_ h) fun p => Rc98.sameClashes h (Rc98.serial h p)) (atBy ys (Rc98.all_ h) fun _ x => x) ev_c (sq_of hc) (by have := Paired.length hy; have := all_len h; omega) (fun x => rfl)
      (fun i x H3 e3 hi => by
        obtain ⟨p, hp, ⟨d, rfl, hd⟩⟩ := pget hy hi
        rw [on_some hp]
        have hpm := List.mem_of_getElem? hp
        refine et_is (et_B (ev_call (ea_cons (ev_var rfl) (ea_cons (ev_var rfl) ea_nil)) fun H4 e4 Q4 q4 E4 => ⟨d, b, p, zs, ps, rfl, sq_of ((e3.trans e4) _ _ hd), sq_of ((e3.trans e4) _ _ hb), hz.mono (e3.trans e4), fun q hq => ?_, q4⟩)) (keeps_same m.good hpm mem)
        obtain ⟨i', j', s1, z1, _, h1, h2, _, t1, t2⟩ := (mem q.1 q.2).mp hq
        have pw := mem_all.mp hpm
        exact ⟨pw.mem_iff.mpr (t1 ▸ who_of m.good (List.mem_of_getElem? h1)), pw.mem_iff.mpr (t2 ▸ who_of m.good (List.mem_of_getElem? h2))⟩)
      (fun i x H3 e3 hi _ => by
        obtain ⟨p, hp, _⟩ := pget hy hi
        rw [by_some hp hi]
        exact ev_var rfl)
    rw [given_self _ (Paired.length hy)] at comp
    exact comp H2 (Ex.refl H2) _ fun p H3 _ e3 h3 => ret _ H3 ((e1.trans e2).trans e3) ⟨p, _, rfl, h3, LLs.mono e3 (pick_pair hy)⟩
end
end SM

namespace SM
open PySem PySem.Spec PyProof.Rows L2 Evl
open Rc98 (Mix)
/-! ### dicts -/
section
variable {K : PySem.W.Frag} {σ : L2.St} {H H' : Hp} {ta tb te tx : TE} {D : Ends} {tz : TS}
theorem ev_get2 {d : Addr} {kvs : List (Key × V)} {i : Int} {z : V} (hd : H d = some (.dK kvs)) (h1 : Ev ta σ H (.ref d)) (h2 : Ev tb σ H (.int i)) (h3 : Ev tx σ H z) : Ev (tDGet2 ta tb tx) σ H ((valV kvs (.inl i)).getD z) := fun H1 e _ q =>
  h1 H1 e _ fun H2 e2 => ⟨d, rfl, .inl ⟨kvs, .inl ((e.trans e2) _ _ hd)⟩, h2 H2 (e.trans e2) _ fun H3 e3 => h3 H3 ((e.trans e2).trans e3) _ fun H4 e4 => ⟨_, DGet.k (k := Sum.inl i) ((((e.trans e2).trans e3).trans e4) _ _ hd), q H4 ((e2.trans e3).trans e4)⟩⟩
theorem ev_get1 {d : Addr} {kvs : List (Key × V)} {i : Int} (hd : H d = some (.dK kvs)) (h1 : Ev ta σ H (.ref d)) (h2 : Ev tb σ H (.int i)) : Ev (tDGet1 ta tb) σ H ((valV kvs (.inl i)).getD .non) := fun H1 e _ q =>
  h1 H1 e _ fun H2 e2 => ⟨d, rfl, .inl ⟨kvs, .inl ((e.trans e2) _ _ hd)⟩, h2 H2 (e.trans e2) _ fun H3 e3 => ⟨_, DGet.k (k := Sum.inl i) (((e.trans e2).trans e3) _ _ hd), q H3 (e2.trans e3)⟩⟩
theorem ev_dget {d : Addr} {kvs : List (Key × V)} {i : Int} {v : V} (hd : H d = some (.dK kvs)) (h1 : Ev ta σ H (.ref d)) (h2 : Ev tb σ H (.int i)) (hv : valV kvs (.inl i) = some v) : Ev (tDGet ta tb) σ H v := fun H1 e _ q =>
  h1 H1 e _ fun H2 e2 => h2 H2 (e.trans e2) _ fun H3 e3 => ⟨d, v, rfl, by rw [← hv]; exact DGet.k (k := Sum.inl i) (((e.trans e2).trans e3) _ _ hd), q H3 (e2.trans e3)⟩
theorem s_dput {d : Addr} {kvs : List (Key × V)} {i : Int} {v : V} (hd : H d = some (.dK kvs)) (h0 : Ev te σ H v) (h1 : Ev ta σ H (.ref d)) (h2 : Ev tb σ H (.int i)) (hz : kvs.length < 100000) (k : ∀ H1, Ex H H1 → D.nx σ (upd H1 d (.dK (putK kvs (.inl i) v)))) : sDPut ta tb te D σ H :=
  h0 H (Ex.refl H) _ fun H1 e1 => h1 H1 e1 _ fun H2 e2 => h2 H2 (e1.trans e2) _ fun H3 e3 => ⟨d, _, rfl, DPut.k (k := Sum.inl i) (((e1.trans e2).trans e3) _ _ hd) (sz_lt hz), k H3 ((e1.trans e2).trans e3)⟩
theorem q_dput {d : Addr} {kvs : List (Key × V)} {i : Int} {v : V} (hd : H d = some (.dK kvs)) (h0 : Ev te σ H v) (h1 : Ev ta σ H (.ref d)) (h2 : Ev tb σ H (.int i)) (hz : kvs.length < 100000) (k : ∀ H1, Ex H H1 → tz D σ (upd H1 d (.dK (putK kvs (.inl i) v)))) : tSeq (sDPut ta tb te) tz D σ H := s_dput (D := { D with nx := tz D }) hd h0 h1 h2 hz k
theorem s_dputT {d c : Addr} {kvs : List (List Key × V)} {ks : List Key} {v : V} (hd : H d = some (.dT kvs)) (h0 : Ev te σ H v) (h1 : Ev ta σ H (.ref d)) (h2 : Ev tb σ H (.ref c)) (hc : H c = some (.tup (ks.map kV))) (hz : kvs.length < 100000) (k : ∀ H1, Ex H H1 → D.nx σ (upd H1 d (.dT (putK kvs ks v)))) : sDPut ta tb te D σ H :=
  h0 H (Ex.refl H) _ fun H1 e1 => h1 H1 e1 _ fun H2 e2 => h2 H2 (e1.trans e2) _ fun H3 e3 => ⟨d, _, rfl, DPut.t (((e1.trans e2).trans e3) _ _ hd) (((e1.trans e2).trans e3) _ _ hc) (sz_lt hz), k H3 ((e1.trans e2).trans e3)⟩
/-- {} -/
theorem q_asgK {i : Nat} (k : ∀ p H1, H p = none → Ex H H1 → H1 p = some (.dK []) → tz D (σ.set i (some (.ref p))) H1) : tSeq (tAsg tDNewK (gName i)) tz D σ H := fun p hp => k p _ hp (Ex.new hp) upd_same
theorem q_asgD {i : Nat} (k : ∀ p H1, H p = none → Ex H H1 → H1 p = some (.dT []) → tz D (σ.set i (some (.ref p))) H1) : tSeq (tAsg tDNewT (gName i)) tz D σ H := fun p hp => k p _ hp (Ex.new hp) upd_same
end
/-- all tuples stand -/
def ExT (H H' : Hp) : Prop := ∀ b xs, H b = some (.tup xs) → H' b = some (.tup xs)
theorem ExT.of {H H' : Hp} (e : Ex H H') : ExT H H' := fun b xs h => e _ _ h
theorem ExT.trans {H H1 H2 : Hp} (a : ExT H H1) (b : ExT H1 H2) : ExT H H2 := fun c xs h => b _ _ (a _ _ h)
theorem ExT.put {H H1 : Hp} {d : Addr} {o o' : HO} (e : Ex H H1) (hd : H1 d = some o) (no : ∀ xs, o ≠ .tup xs) : ExT H (upd H1 d o') := fun b xs h => by
  rw [upd_ne fun z => by
    have := e _ _ h
    rw [z, hd] at this
    exact no xs (Option.some.inj this)]
  exact e _ _ h
/-- a name, or none -/
def NameAt (H : Hp) (v : V) (n : Nat × Nat) : Prop := ∃ c, v = .ref c ∧ H c = some (.tup (vs (pl n)))
def OptAt (H : Hp) (v : V) : Option (Nat × Nat) → Prop
  | none => v = .non
  | some n => NameAt H v n
theorem NameAt.mono {H H' : Hp} (e : ExT H H') {v : V} {n : Nat × Nat} (h : NameAt H v n) : NameAt H' v n := by
  obtain ⟨c, h1, h2⟩ := h
  exact ⟨c, h1, e _ _ h2⟩
theorem OptAt.mono {H H' : Hp} (e : ExT H H') {v : V} : ∀ {o : Option (Nat × Nat)}, OptAt H v o → OptAt H' v o
  | none, h => h
  | some _, h => NameAt.mono e h
def keyN (n : Nat × Nat) : List Key := [.inl (n.1 : Int), .inl (n.2 : Int)]
theorem keyN_inj {n m : Nat × Nat} (h : keyN n = keyN m) : n = m := by
  have h1 := Sum.inl.inj (List.cons.inj h).1
  have h2 := Sum.inl.inj (List.cons.inj (List.cons.inj h).2).1
  exact Prod.ext (by omega) (by omega)
def keyX (x : Nat) : Key := .inl (x : Int)
theorem keyX_inj {n m : Nat} (h : keyX n = keyX m) : n = m := by
  have := Sum.inl.inj h
  omega
def SeenD (H : Hp) : List (List Key × V) → List ((Nat × Nat) × Option (Nat × Nat)) → Prop := Paired fun kv z => kv.1 = keyN z.1 ∧ OptAt H kv.2 z.2
def LastD (H : Hp) : List (Key × V) → List (Nat × (Nat × Nat)) → Prop := Paired fun kv z => kv.1 = keyX z.1 ∧ NameAt H kv.2 z.2
theorem SeenD.mono {H H' : Hp} (e : ExT H H') {k : List (List Key × V)} {S : List ((Nat × Nat) × Option (Nat × Nat))} (h : SeenD H k S) : SeenD H' k S := L2.Paired.mapP h fun _ _ r => ⟨r.1, r.2.mono e⟩
theorem LastD.mono {H H' : Hp} (e : ExT H H') {k : List (Key × V)} {L : List (Nat × (Nat × Nat))} (h : LastD H k L) : LastD H' k L := L2.Paired.mapP h fun _ _ r => ⟨r.1, r.2.mono e⟩
theorem lastD_put {H : Hp} {k : List (Key × V)} {L : List (Nat × (Nat × Nat))} (h : LastD H k L) {x : Nat} {v : V} {n : Nat × Nat} (hv : NameAt H v n) : LastD H (putK k (keyX x) v) (putL L x n) := by
  have e : (k.any fun kv => decide (kv.1 = keyX x)) = L.any fun z => decide (z.1 = x) := by
    unfold LastD at h
    induction h with
    | nil => rfl
    | cons r _ ih =>
      rw [List.any_cons, List.any_cons, ih]
      congr 1
      rw [r.1, Bool.eq_iff_iff, decide_eq_true_eq, decide_eq_true_eq]
      exact ⟨keyX_inj, fun z => congrArg keyX z⟩
  unfold putK putL
  rw [e]
  split
  · unfold LastD at h ⊢
    clear e
    rename_i c
    clear c
    induction h with
    | nil => exact .nil
    | @cons p q ps qs r _ ih =>
      rw [List.map_cons, List.map_cons]
      refine .cons ?_ ih
      by_cases d : q.1 = x
      · rw [if_pos d, if_pos (by rw [r.1, d])]
        exact ⟨r.1, hv⟩
      · rw [if_neg d, if_neg fun z => d (keyX_inj (r.1.symm.trans z))]
        exact r
  · exact papp h (.cons ⟨rfl, hv⟩ .nil)
theorem lastD_get {H : Hp} {k : List (Key × V)} {L : List (Nat × (Nat × Nat))} (h : LastD H k L) {x : Nat} {o : Option (Nat × Nat)} (ho : ∀ n, (x, n) ∈ L ↔ o = some n) : OptAt H ((valV k (keyX x)).getD .non) o := by
  unfold LastD at h
  cases e : valV k (keyX x) with
  | some v =>
    obtain ⟨p, hp, e1, rfl⟩ := valV_mem e
    obtain ⟨i, hi⟩ := List.mem_iff_getElem?.mp hp
    obtain ⟨z, hz, r1, r2⟩ := pget h hi
    have ex : z.1 = x := keyX_inj (r1.symm.trans e1)
    have : (x, z.2) ∈ L := by
      rw [← ex]
      exact List.mem_of_getElem? hz
    rw [(ho z.2).mp this]
    exact r2
  | none =>
    cases o with
    | none => rfl
    | some n =>
      exfalso
      obtain ⟨i, hi⟩ := List.mem_iff_getElem?.mp ((ho n).mpr rfl)
      obtain ⟨p, hp, r1, r2⟩ := pget' h hi
      have q : (k.any fun kv => decide (kv.1 = keyX x)) = true := List.any_eq_true.mpr ⟨p, List.mem_of_getElem? hp, decide_eq_true r1⟩
      rw [valV_any, e] at q
      cases q
/-! ### equal dicts -/
def dv : Option (Nat × Nat) → PyData
  | none => .none
  | some n => pd (pl n)
theorem dv_eqv : ∀ o o' : Option (Nat × Nat), PyData.eqv (dv o) (dv o') = decide (o = o')
  | none, none => rfl
  | none, some _ => rfl
  | some _, none => rfl
  | some n, some m => by
    show PyData.eqv (pd (pl n)) (pd (pl m)) = _
    rw [pd_eqv, Bool.eq_iff_iff, decide_eq_true_eq, decide_eq_true_eq]
    constructor
    · intro e
      have e1 : n.1 = m.1 := (List.cons.inj e).1
      have e2 : n.2 = m.2 := (List.cons.inj (List.cons.inj e).2).1
      rw [show n = m from Prod.ext e1 e2]
    · intro e
      rw [Option.some.inj e]
/-- the data of a value -/
noncomputable def datOf (H : Hp) (v : V) : PyData := open Classical in if h : ∃ o, OptAt H v o then dv h.choose else .none
theorem vs_inj : ∀ {a b : List Nat}, vs a = vs b → a = b
  | [], [], _ => rfl
  | [], _ :: _, h => by cases h
  | _ :: _, [], h => by cases h
  | x :: a, y :: b, h => by
    have h1 := V.int.inj (List.cons.inj h).1
    have h2 := vs_inj (List.cons.inj h).2
    rw [h2, show x = y by omega]
theorem optAt_inj {H : Hp} {v : V} : ∀ {o o' : Option (Nat × Nat)}, OptAt H v o → OptAt H v o' → o = o'
  | none, none, _, _ => rfl
  | none, some _, h, ⟨c, e, _⟩ => by
    have h : v = .non := h
    rw [h] at e
    cases e
  | some _, none, ⟨c, e, _⟩, h => by
    have h : v = .non := h
    rw [h] at e
    cases e
  | some n, some m, ⟨c, e, h⟩, ⟨c', e', h'⟩ => by
    rw [e] at e'
    cases e'
    rw [h] at h'
    have q : vs (pl n) = vs (pl m) := HO.tup.inj (Option.some.inj h')
    have q := vs_inj q
    have e1 : n.1 = m.1 := (List.cons.inj q).1
    have e2 : n.2 = m.2 := (List.cons.inj (List.cons.inj q).2).1
    rw [show n = m from Prod.ext e1 e2]
theorem datOf_is {H : Hp} {v : V} {o : Option (Nat × Nat)} (h : OptAt H v o) : datOf H v = dv o := by
  unfold datOf
  have ex : ∃ o, OptAt H v o := ⟨o, h⟩
  rw [dif_pos ex, optAt_inj ex.choose_spec h]
theorem dat_ok {K : PySem.W.Frag} {H : Hp} {v : V} {o : Option (Nat × Nat)} (h : OptAt H v o) : Dp K H v (datOf H v) ∧ (datOf H v).canLay0 = true ∧ (datOf H v).depth ≤ 8 := by
  rw [datOf_is h]
  cases o with
  | none =>
    have h : v = .non := h
    rw [h]
    exact ⟨.non, rfl, Nat.zero_le _⟩
  | some n =>
    obtain ⟨c, rfl, hc⟩ := h
    exact ⟨dp_tup hc, pd_lay _, Nat.le_trans (pd_depth _) (by decide)⟩
theorem dEq_iff {κ α β : Type} [DecidableEq κ] {key : α → κ} (inj : ∀ a b, key a = key b → a = b) {f : V → PyData} {g : β → PyData} (hg : ∀ a b, PyData.eqv (g a) (g b) = true ↔ a = b) {k l : List (κ × V)} {S S' : List (α × β)} (hk : Paired (fun (kv : κ × V) (z : α × β) => kv.1 = key z.1 ∧ f kv.2 = g z.2) k S)
    (hl : Paired (fun (kv : κ × V) (z : α × β) => kv.1 = key z.1 ∧ f kv.2 = g z.2) l S') (nd : (S.map (·.1)).Nodup) (nd' : (S'.map (·.1)).Nodup) : dEq f k l = true ↔ S.length = S'.length ∧ ∀ z ∈ S, z ∈ S' := by
  have keys : ∀ {k : List (κ × V)} {S : List (α × β)}, Paired (fun (kv : κ × V) (z : α × β) => kv.1 = key z.1 ∧ f kv.2 = g z.2) k S → k.map (·.1) = (S.map (·.1)).map key := by
    intro k S h
    induction h with
    | nil => rfl
    | cons r _ ih => rw [List.map_cons, List.map_cons, List.map_cons, ih, r.1]
  have ndk : ∀ {S : List (α × β)}, (S.map (·.1)).Nodup → ((S.map (·.1)).map key).Nodup := fun h => List.pairwise_map.mpr (h.imp fun n e => n (inj _ _ e))
  unfold dEq
  rw [Bool.and_eq_true, List.all_eq_true, Paired.length hk, Paired.length hl]
  have e0 : (S.length == S'.length) = true ↔ S.length = S'.length := by simp
  rw [e0]
  refine and_congr_right fun _ => ?_
  have nk : (k.map (·.1)).Nodup := by rw [keys hk]; exact ndk nd
  have nl : (l.map (·.1)).Nodup := by rw [keys hl]; exact ndk nd'
  constructor
  · intro q z hz
    obtain ⟨i, hi⟩ := List.mem_iff_getElem?.mp hz
    obtain ⟨p, hp, r1, r2⟩ := pget' hk hi
    have hp := List.mem_of_getElem? hp
    have q := q p hp
    rw [Bool.and_eq_true, valV_of nk hp] at q
    cases e : valV l p.1 with
    | none => rw [e] at q; exact absurd q.1 (by simp)
    | some y =>
      rw [e] at q
      have q2 : PyData.eqv (f p.2) (f y) = true := q.2
      obtain ⟨p', hp', e1, rfl⟩ := valV_mem e
      obtain ⟨j, hj⟩ := List.mem_iff_getElem?.mp hp'
      obtain ⟨z', hz', r3, r4⟩ := pget hl hj
      rw [r2, r4, hg] at q2
      have : z' = z := Prod.ext (inj _ _ (r3.symm.trans (e1.trans r1))) q2.symm
      exact this ▸ List.mem_of_getElem? hz'
  · intro q p hp
    obtain ⟨i, hi⟩ := List.mem_iff_getElem?.mp hp
    obtain ⟨z, hz, r1, r2⟩ := pget hk hi
    obtain ⟨j, hj⟩ := List.mem_iff_getElem?.mp (q z (List.mem_of_getElem? hz))
    obtain ⟨p', hp', r3, r4⟩ := pget' hl hj
    have e1 := valV_of nk hp
    have e2 := valV_of nl (List.mem_of_getElem? hp')
    rw [r3, ← r1] at e2
    rw [Bool.and_eq_true, e1, e2]
    refine ⟨rfl, ?_⟩
    show PyData.eqv (f p.2) (f p'.2) = true
    rw [r2, r4, hg]
end SM

namespace SM
open PySem PySem.Spec PyProof.Rows L2 Evl
open Rc98 (Mix)
/-! ### sights_of -/
def cnt (h : Mix) (i t : Nat) : Nat := ((h.take i).filter fun z => z.t == t).length
theorem cnt_zero (h : Mix) (t : Nat) : cnt h 0 t = 0 := rfl
theorem cnt_succ {h : Mix} {i : Nat} {s : Rc98.Step} (e : h[i]? = some s) (t : Nat) : cnt h (i + 1) t = if t = s.t then cnt h i t + 1 else cnt h i t := by
  unfold cnt
  rw [take_snoc e, List.filter_append, List.length_append, List.filter_cons]
  by_cases c : t = s.t
  · subst c
    simp
  · rw [if_neg c, if_neg (by simp; exact fun z => c z.symm)]
    rfl
theorem putK_le {κ : Type} [DecidableEq κ] (k : List (κ × V)) (x : κ) (v : V) : (putK k x v).length ≤ k.length + 1 := by
  unfold putK
  split
  · rw [List.length_map]
    omega
  · rw [List.length_append]
    exact Nat.le_refl _
/-- counts behind ic steps, last and seen behind i -/
structure SInv (H : Hp) (h : Mix) (dc dl ds : Addr) (kc : List (Key × V)) (kl : List (Key × V)) (ks : List (List Key × V)) (L : List (Nat × (Nat × Nat))) (ic i : Nat) (H' : Hp) : Prop where
  ex : Ex H H'
  hc : H' dc = some (.dK kc)
  hl : H' dl = some (.dK kl)
  hs : H' ds = some (.dT ks)
  lc : kc.length ≤ ic
  cn : ∀ t : Nat, (valV kc (keyX t)).getD (.int 0) = vi (cnt h ic t)
  ll : kl.length ≤ i
  la : LastD H' kl L
  rp : RepTo h i L
  se : SeenD H' ks (seenTo h i)
section
variable {H H' H1 : Hp} {h : Mix} {dc dl ds : Addr} {kc kl : List (Key × V)} {ks : List (List Key × V)} {L : List (Nat × (Nat × Nat))} {ic i : Nat}
theorem SInv.mono (S : SInv H h dc dl ds kc kl ks L ic i H') (e : Ex H' H1) : SInv H h dc dl ds kc kl ks L ic i H1 :=
  ⟨S.ex.trans e, e _ _ S.hc, e _ _ S.hl, e _ _ S.hs, S.lc, S.cn, S.ll, S.la.mono (.of e), S.rp, S.se.mono (.of e)⟩
theorem SInv.count (S : SInv H h dc dl ds kc kl ks L i i H') (n1 : dl ≠ dc) (n2 : ds ≠ dc) (nc : H dc = none) {s : Rc98.Step} (e : h[i]? = some s) : SInv H h dc dl ds (putK kc (keyX s.t) (.int ((cnt h i s.t : Nat) + 1 : Int))) kl ks L (i + 1) i (upd H' dc (.dK (putK kc (keyX s.t) (.int ((cnt h i s.t : Nat) + 1 : Int))))) := by
  have et : ExT H' (upd H' dc (.dK (putK kc (keyX s.t) (.int ((cnt h i s.t : Nat) + 1 : Int))))) := ExT.put (Ex.refl _) S.hc fun xs z => by cases z
  refine ⟨Ex.mut S.ex nc, upd_same, by rw [upd_ne n1]; exact S.hl, by rw [upd_ne n2]; exact S.hs, Nat.le_trans (putK_le _ _ _) (Nat.succ_le_succ S.lc), fun t => ?_, S.ll, S.la.mono et, S.rp, S.se.mono et⟩
  rw [valV_put, cnt_succ e]
  by_cases c : t = s.t
  · subst c
    rw [if_pos rfl, if_pos rfl]
    rfl
  · rw [if_neg fun z => c (keyX_inj z), if_neg c]
    exact S.cn t
theorem SInv.skip (S : SInv H h dc dl ds kc kl ks L ic i H') {s : Rc98.Step} {n : Nat × Nat} (a : At h n i s) (r : Rc98.reads s = false) (w : Rc98.writes s = false) : SInv H h dc dl ds kc kl ks L ic (i + 1) H' :=
  ⟨S.ex, S.hc, S.hl, S.hs, S.lc, S.cn, Nat.le_succ_of_le S.ll, S.la, rep_skip a.1 w S.rp, by rw [seenTo_no a r]; exact S.se⟩
theorem SInv.write (S : SInv H h dc dl ds kc kl ks L ic i H') (n1 : dl ≠ dc) (n2 : dl ≠ ds) (nl : H dl = none) {s : Rc98.Step} {n : Nat × Nat} (a : At h n i s) (r : Rc98.reads s = false) (w : Rc98.writes s = true) {c : Addr} (hc : H' c = some (.tup (vs (pl n)))) :
    SInv H h dc dl ds kc (putK kl (keyX s.x) (.ref c)) ks (putL L s.x n) ic (i + 1) (upd H' dl (.dK (putK kl (keyX s.x) (.ref c)))) := by
  have et : ExT H' (upd H' dl (.dK (putK kl (keyX s.x) (.ref c)))) := ExT.put (Ex.refl _) S.hl fun xs z => by cases z
  exact ⟨Ex.mut S.ex nl, by rw [upd_ne (Ne.symm n1)]; exact S.hc, upd_same, by rw [upd_ne (Ne.symm n2)]; exact S.hs, S.lc, S.cn, Nat.le_trans (putK_le _ _ _) (Nat.succ_le_succ S.ll), lastD_put (S.la.mono et) (NameAt.mono et ⟨c, rfl, hc⟩), rep_put a w S.rp, by rw [seenTo_no a r]; exact S.se.mono et⟩
theorem SInv.read (S : SInv H h dc dl ds kc kl ks L ic i H') (n1 : ds ≠ dc) (n2 : dl ≠ ds) (ns : H ds = none) {s : Rc98.Step} {n : Nat × Nat} (a : At h n i s) (r : Rc98.reads s = true) (w : Rc98.writes s = false) :
    SInv H h dc dl ds kc kl (ks ++ [(keyN n, (valV kl (keyX s.x)).getD .non)]) L ic (i + 1) (upd H' ds (.dT (putK ks (keyN n) ((valV kl (keyX s.x)).getD .non)))) := by
  have et : ExT H' (upd H' ds (.dT (putK ks (keyN n) ((valV kl (keyX s.x)).getD .non)))) := ExT.put (Ex.refl _) S.hs fun xs z => by cases z
  have no : valV ks (keyN n) = none := by
    cases e : valV ks (keyN n) with
    | none => rfl
    | some v =>
      exfalso
      obtain ⟨p, hp, e1, _⟩ := valV_mem e
      obtain ⟨j, hj⟩ := List.mem_iff_getElem?.mp hp
      obtain ⟨z, hz, r1, _⟩ := pget S.se hj
      exact seenTo_new a z (List.mem_of_getElem? hz) (keyN_inj (r1.symm.trans e1))
  refine ⟨Ex.mut S.ex ns, by rw [upd_ne (Ne.symm n1)]; exact S.hc, by rw [upd_ne n2]; exact S.hl, ?_, S.lc, S.cn, Nat.le_succ_of_le S.ll, S.la.mono et, rep_skip a.1 w S.rp, ?_⟩
  · rw [upd_same, putK_new _ no]
  · rw [seenTo_yes a r]
    exact papp (S.se.mono et) (.cons ⟨rfl, OptAt.mono et (lastD_get S.la fun m => S.rp.2 s.x m)⟩ .nil)
end
section
variable {P : Program} {w : World} {K : PySem.W.Frag} {mg : Str → Option Value} {base : Heap}
abbrev sSightsOf : Stmt := top 17
theorem scSightsOf : FnScope ["steps", "counts", "last", "seen", "person", "what", "place", "name"] ["steps"] (defScope sSightsOf) := ⟨rfl, rfl, rfl, by decide +kernel, rfl, by decide +kernel, by decide +kernel⟩
def RSights (h : Mix) (H0 : Hp) (v : V) (H : Hp) : Prop := ∃ (c d1 d2 : Addr) (ks : List (List Key × V)) (kl : List (Key × V)) (L : List (Nat × (Nat × Nat))), v = .ref c ∧ H c = some (.tup [.ref d1, .ref d2]) ∧ H d1 = some (.dT ks) ∧ H d2 = some (.dK kl) ∧ H0 d1 = none ∧ H0 d2 = none ∧ SeenD H ks (Rc98.seen h) ∧ LastD H kl L ∧ LastRep h L
theorem RSights.mono {h : Mix} {H0 H H' : Hp} (e : Ex H H') {v : V} (r : RSights h H0 v H) : RSights h H0 v H' := by
  obtain ⟨c, d1, d2, ks, kl, L, h1, h2, h3, h4, h5, h6, h7, h8, h9⟩ := r
  exact ⟨c, d1, d2, ks, kl, L, h1, e _ _ h2, e _ _ h3, e _ _ h4, h5, h6, h7.mono (.of e), h8.mono (.of e), h9⟩
def spSights (K : PySem.W.Frag) : Sp := fun vs' H Q _ => ∃ (a : Addr) (xs : List V) (h : Mix), vs' = [.ref a] ∧ MixAt K H a xs h ∧ RetR (RSights h H) H Q
theorem ok_sights {f : Addr} {fd : FuncData} (F : Fun K "sights_of" "sights_of" sSightsOf f fd) (T : Txt mg) : FnOk P w K mg base CX0 1 f fd ["steps"] (spSights K) := by
  refine F.ok scSightsOf (fun vs H Q E h => ?_) (fun cdv A outer s H vs Q E hr h => ?_)
  · obtain ⟨a, xs, h, rfl, _⟩ := h
    rfl
  · obtain ⟨a, xs, h, rfl, m, ret⟩ := h
    have hu := hu_of hr
    refine ⟨_, (pss_cons (ps_set (i := 1) scSightsOf.nd rfl (Or.inl rfl) pe_dnewK)
      (pss_cons (ps_set (i := 2) scSightsOf.nd rfl (Or.inl rfl) pe_dnewK)
      (pss_cons (ps_set (i := 3) scSightsOf.nd rfl (Or.inl rfl) pe_dnewT)
      (pss_cons (ps_for PassesOwn.never rfl (pi_list (pv 0)) (pg_tup rfl (pgs_cons (pg_name (i := 4) scSightsOf.nd rfl (Or.inl rfl)) (pgs_cons (pg_name (i := 5) scSightsOf.nd rfl (Or.inl rfl)) (pgs_cons (pg_name (i := 6) scSightsOf.nd rfl (Or.inl rfl)) pgs_nil)))) (pss_cons (ps_set (i := 7) scSightsOf.nd rfl (Or.inl rfl) (pe_tup (pa_cons (pv 4) (pa_cons (pe_dget2 hu (pv 1) (pv 4) pe_int ⟨rfl, rfl, rfl, rfl⟩) pa_nil))))
      (pss_cons (ps_dput hu (pv 1) (pv 4) (pe_op op_add (pe_ix ix_tup (pv 7) pe_int (fun _ _ => rfl)) pe_int) rfl)
      (pss_cons (ps_if (pt_cmpR op_eq (pv 5) (pe_ci T.cREAD) (nomark _)) (pss_one (ps_dput hu (pv 3) (pv 7) (pe_dget1 hu (pv 2) (pv 6) ⟨rfl, rfl, rfl, rfl⟩) rfl)) pss_nil)
      (pss_one (ps_if (pt_cmpR op_eq (pv 5) (pe_ci T.cWRITE) (nomark _)) (pss_one (ps_dput hu (pv 2) (pv 6) (pv 7) rfl)) pss_nil))))))
      (pss_one (ps_ret (pe_tup (pa_cons (pv 3) (pa_cons (pv 2) pa_nil))))))))), ?_⟩
    refine q_asgK fun dc H1 f1 e1 h1 => ?_
    refine q_asgK fun dl H2 f2 e2 h2 => ?_
    refine q_asgD fun ds H3 f3 e3 h3 => ?_
    have n1 : dl ≠ dc := fun z => by rw [z, h1] at f2; cases f2
    have n2 : ds ≠ dc := fun z => by rw [z, e2 _ _ h1] at f3; cases f3
    have n3 : dl ≠ ds := fun z => by rw [← z, h2] at f3; cases f3
    have g1 : H dl = none := fresh_back e1 f2
    have g2 : H ds = none := fresh_back (e1.trans e2) f3
    refine q_forL (ev_var rfl) (ex_l ((e1.trans e2).trans e3) m.sq) (fun i σ' H' => ∃ u1 u2 u3 u4, σ' = [some (.ref a), some (.ref dc), some (.ref dl), some (.ref ds), u1, u2, u3, u4] ∧ ∃ kc kl ks L, SInv H h dc dl ds kc kl ks L i i H')
      (fun H4 e4 => ⟨none, none, none, none, rfl, [], [], [], [], ((e1.trans e2).trans e3).trans e4, ((e2.trans e3).trans e4) _ _ h1, (e3.trans e4) _ _ h2, e4 _ _ h3, Nat.le_refl _, fun t => rfl, Nat.le_refl _, .nil, rep_zero h, .nil⟩) (fun i σ' H' _ ⟨_, _, _, _, _, _, _, _, _, S⟩ => ex_l S.ex m.sq)
      (fun i x σ' H' hi ⟨u1, u2, u3, u4, hσ, kc, kl, ks, L, S⟩ => ?_) (fun σ' H' ⟨u1, u2, u3, u4, hσ, kc, kl, ks, L, S⟩ => ?_)
    · subst hσ
      obtain ⟨s1, hs, ⟨b, xx, rfl, hb, hx⟩⟩ := pget m.mix hi
      have i24 : i < 24 := Nat.lt_of_lt_of_le (List.getElem?_eq_some_iff.mp hi).1 m.len
      have At1 : At h (s1.t, cnt h i s1.t) i s1 := At.of hs
      refine ⟨b, _, rfl, st_of (S.ex _ _ hb), rfl, _, _, rfl, _, _, rfl, _, _, rfl, rfl, ?_⟩
      refine q_asgU (eu_tup (ea_cons (ev_var rfl) (ea_cons (ev_get2 S.hc (ev_var rfl) (ev_var rfl) ev_c) ea_nil)) (by show 2 ≤ 100000; decide)) fun c H4 f4 e4 h4 => ?_
      have cn := S.cn s1.t
      unfold keyX at cn
      rw [cn] at h4
      have h4 : H4 c = some (.tup (vs (pl (s1.t, cnt h i s1.t)))) := h4
      have S4 := S.mono e4
      refine q_dput S4.hc (ev_op (ev_op (ev_var rfl) ev_c (rv_ixT (K := K) (v := vi (cnt h i s1.t)) (st_of h4) rfl)) ev_c rv_I0) (ev_var rfl) (ev_var rfl) (by have := S4.lc; omega) fun H5 e5 => ?_
      have S5 := (S4.mono e5).count n1 n2 f1 hs
      have ncc : c ≠ dc := fun z => by rw [z, S4.hc] at h4; cases h4
      have h5 : upd H5 dc (.dK (putK kc (keyX s1.t) (.int ((cnt h i s1.t : Nat) + 1 : Int)))) c = some (.tup (vs (pl (s1.t, cnt h i s1.t)))) := by
        rw [upd_ne ncc]
        exact e5 _ _ h4
      refine q_when (et_eqI (ev_var rfl) ev_c) (fun c1 H6 e6 => ?_) (fun c1 H6 e6 => ?_)
      · have c1 : (s1.what : Int) = 0 := of_decide_eq_true c1
        have ex : xx = (s1.x : Int) := hx (by omega)
        subst ex
        have S6 := S5.mono e6
        have r1 : Rc98.reads s1 = true := by unfold Rc98.reads; simp; omega
        have w1 : Rc98.writes s1 = false := by unfold Rc98.writes; simp; omega
        refine s_dputT (ks := keyN (s1.t, cnt h i s1.t)) S6.hs (ev_get1 S6.hl (ev_var rfl) (ev_var rfl)) (ev_var rfl) (ev_var rfl) (e6 _ _ h5) ?_ fun H7 e7 => ?_
        · have q1 := Paired.length S6.se
          have q2 := seenTo_len h i
          omega
        · refine s_when (et_eqI (ev_var rfl) ev_c) (fun c2 H8 e8 => ?_) (fun c2 H8 e8 => ?_)
          · have c2 : (s1.what : Int) = 1 := of_decide_eq_true c2
            omega
          · exact ⟨_, _, _, _, rfl, _, _, _, _, ((S6.mono e7).read n2 n3 g2 At1 r1 w1).mono e8⟩
      · have c1 : ¬ (s1.what : Int) = 0 := of_decide_eq_false c1
        have S6 := S5.mono e6
        have r1 : Rc98.reads s1 = false := by unfold Rc98.reads; simp; omega
        refine s_when (et_eqI (ev_var rfl) ev_c) (fun c2 H8 e8 => ?_) (fun c2 H8 e8 => ?_)
        · have c2 : (s1.what : Int) = 1 := of_decide_eq_true c2
          have ex : xx = (s1.x : Int) := hx (by omega)
          subst ex
          have w1 : Rc98.writes s1 = true := by unfold Rc98.writes; simp; omega
          have S8 := S6.mono e8
          refine s_dput S8.hl (ev_var rfl) (ev_var rfl) (ev_var rfl) (by have := S8.ll; omega) fun H9 e9 => ?_
          exact ⟨_, _, _, _, rfl, _, _, _, _, (S8.mono e9).write n1 n3 g1 At1 r1 w1 ((e6.trans (e8.trans e9)) _ _ h5)⟩
        · have c2 : ¬ (s1.what : Int) = 1 := of_decide_eq_false c2
          have w1 : Rc98.writes s1 = false := by unfold Rc98.writes; simp; omega
          exact ⟨_, _, _, _, rfl, _, _, _, _, (S6.mono e8).skip At1 r1 w1⟩

    · subst hσ
      rw [m.mix.len] at S
      refine s_retU (eu_tup (ea_cons (ev_var rfl) (ea_cons (ev_var rfl) ea_nil)) (by show 2 ≤ 100000; decide)) fun c H4 f4 e4 h4 => ?_
      have S4 := S.mono e4
      exact ret _ H4 S4.ex ⟨c, ds, dl, ks, kl, L, rfl, h4, S4.hs, S4.hl, g2, g1, S4.se, S4.la, rep_all S4.rp⟩
end
end SM

namespace SM
open PySem PySem.Spec PyProof.Rows L2 Evl
open Rc98 (Mix)
theorem RSights.back {h : Mix} {H0 H1 H : Hp} (e : Ex H0 H1) {v : V} (r : RSights h H1 v H) : RSights h H0 v H := by
  obtain ⟨c, d1, d2, ks, kl, L, h1, h2, h3, h4, h5, h6, h7⟩ := r
  exact ⟨c, d1, d2, ks, kl, L, h1, h2, h3, h4, fresh_back e h5, fresh_back e h6, h7⟩
theorem seenD_dat {K : PySem.W.Frag} {H : Hp} {k : List (List Key × V)} {S : List ((Nat × Nat) × Option (Nat × Nat))} (h : SeenD H k S) : DatV K H (datOf H) k := fun p hp => by
  obtain ⟨i, hi⟩ := List.mem_iff_getElem?.mp hp
  obtain ⟨z, _, _, r⟩ := pget h hi
  exact dat_ok r
theorem lastD_dat {K : PySem.W.Frag} {H : Hp} {k : List (Key × V)} {L : List (Nat × (Nat × Nat))} (h : LastD H k L) : DatV K H (datOf H) k := fun p hp => by
  obtain ⟨i, hi⟩ := List.mem_iff_getElem?.mp hp
  obtain ⟨z, _, _, r⟩ := pget h hi
  exact dat_ok (o := some z.2) r
theorem lastD_keys {H : Hp} {k : List (Key × V)} {L : List (Nat × (Nat × Nat))} (h : LastD H k L) (nd : (L.map (·.1)).Nodup) : (k.map (·.1)).Nodup := by
  have e : k.map (·.1) = (L.map (·.1)).map keyX := by
    unfold LastD at h
    clear nd
    induction h with
    | nil => rfl
    | cons r _ ih => rw [List.map_cons, List.map_cons, List.map_cons, ih, r.1]
  rw [e]
  exact List.pairwise_map.mpr (nd.imp fun n e => n (keyX_inj e))
theorem dv_hg (a b : Option (Nat × Nat)) : PyData.eqv (dv a) (dv b) = true ↔ a = b := by
  rw [dv_eqv, decide_eq_true_eq]
theorem dn_hg (a b : Nat × Nat) : PyData.eqv (dv (some a)) (dv (some b)) = true ↔ a = b := by
  rw [dv_eqv, decide_eq_true_eq]
  exact ⟨Option.some.inj, congrArg some⟩
/-- the program's == of sights is the document's -/
theorem sights_eq {H : Hp} {h g : Mix} (gh : Good h) (gg : Good g) {ks ls : List (List Key × V)} {kl ll : List (Key × V)} {L L' : List (Nat × (Nat × Nat))} (s1 : SeenD H ks (Rc98.seen g)) (s2 : SeenD H ls (Rc98.seen h)) (l1 : LastD H kl L) (l2 : LastD H ll L') (r1 : LastRep g L) (r2 : LastRep h L') :
    (dEq (datOf H) ks ls && dEq (datOf H) kl ll) = Rc98.sameSeen h g := by
  rw [Bool.eq_iff_iff, Bool.and_eq_true, sights_same gh gg r1 r2]
  have f1 : ∀ {k : List (List Key × V)} {S : List ((Nat × Nat) × Option (Nat × Nat))}, SeenD H k S → Paired (fun (kv : List Key × V) (z : (Nat × Nat) × Option (Nat × Nat)) => kv.1 = keyN z.1 ∧ datOf H kv.2 = dv z.2) k S := fun h => L2.Paired.mapP h fun _ _ r => ⟨r.1, datOf_is r.2⟩
  have f2 : ∀ {k : List (Key × V)} {S : List (Nat × (Nat × Nat))}, LastD H k S → Paired (fun (kv : Key × V) (z : Nat × (Nat × Nat)) => kv.1 = keyX z.1 ∧ datOf H kv.2 = dv (some z.2)) k S := fun h => L2.Paired.mapP h fun _ z r => ⟨r.1, datOf_is (o := some z.2) r.2⟩
  exact and_congr (dEq_iff (fun _ _ => keyN_inj) dv_hg (f1 s1) (f1 s2) (seenTo_nodup g _ (Nat.le_refl _)) (seenTo_nodup h _ (Nat.le_refl _))) (dEq_iff (g := fun n => dv (some n)) (fun _ _ => keyX_inj) dn_hg (f2 l1) (f2 l2) r1.1 r2.1)
section
variable {P : Program} {w : World} {K : PySem.W.Frag} {mg : Str → Option Value} {base : Heap}
/-! ### orders_by_sights -/
abbrev sOrdersBySights : Stmt := top 18
theorem scOrdersBySights : FnScope ["steps", "sights", "orders", "order"] ["steps"] (defScope sOrdersBySights) := ⟨rfl, rfl, rfl, by decide +kernel, rfl, by decide +kernel, by decide +kernel⟩
def spBySights (K : PySem.W.Frag) : Sp := fun vs' H Q _ => ∃ (a : Addr) (xs : List V) (h : Mix), vs' = [.ref a] ∧ MixAt K H a xs h ∧ RetR (RLL ((Rc98.all_ h).filter fun p => Rc98.sameSeen h (Rc98.serial h p))) H Q
theorem ok_bySights {f : Addr} {fd : FuncData} (F : Fun K "orders_by_sights" "orders_by_sights" sOrdersBySights f fd) (T : Txt mg) (oSightsOf : Ok P w K mg base "sights_of" ["steps"] 1 (spSights K)) (oAllOrders : Ok P w K mg base "all_orders" ["people"] 2 (spAll K))
    (oPeopleOf : Ok P w K mg base "people_of" ["steps"] 1 (spPeople K)) (oOneAfterAnother : Ok P w K mg base "one_after_another" ["steps", "order"] 2 (spLay K)) : FnOk P w K mg base CX0 3 f fd ["steps"] (spBySights K) := by
  refine F.ok scOrdersBySights (fun vs H Q E h => ?_) (fun cdv A outer s H vs Q E hr h => ?_)
  · obtain ⟨a, xs, h, rfl, _⟩ := h
    rfl
  · obtain ⟨a, xs, h, rfl, m, ret⟩ := h
    refine ⟨_, (pss_cons (ps_set (i := 1) scOrdersBySights.nd rfl (Or.inr rfl) (pe_def oSightsOf hr (pa_cons (pv 0) pa_nil)))
      (pss_cons (ps_set (i := 2) scOrdersBySights.nd rfl (Or.inl rfl) (pe_def oAllOrders hr (pa_cons (pe_def oPeopleOf hr (pa_cons (pv 0) pa_nil)) pa_nil)))
      (pss_one (ps_ret (pe_lc (own := [("order", 3)]) rfl scOrdersBySights.nd (pi_list (pv 2)) (blkOk_by (own := [("order", 3)]) (N := ["steps", "sights", "orders", "order"]) (sc := defScope sOrdersBySights) (by decide +kernel)) (fun _ _ _ _ _ => pg_name (i := 3) scOrdersBySights.nd rfl (Or.inl rfl)) (fun _ _ _ _ _ => pts_one (pt_cmpR (op_eqPDB (K := K) rfl hr.units) (pe_def oSightsOf hr (pa_cons (pe_def oOneAfterAnother hr (pa_cons (pv 0) (pa_cons (pv 3) pa_nil))) pa_nil)) (pv 1) (nomark _))) (fun _ _ _ _ _ => (pv 3))))))), ?_⟩
    refine q_asgR (er_call (ea_cons (ev_var rfl) ea_nil) fun H1 e1 Q1 q1 E1 => ⟨a, xs, h, rfl, m.mono e1, fun v H2 e2 r => q1 v H2 e2 (RSights.back (H0 := H) e1 r)⟩) fun v0 H1 e1 r1 => ?_
    refine q_asgR (er_orders (m.mono e1) rfl) fun v1 H2 e2 r2 => ?_
    obtain ⟨c, ys, rfl, hc, hy⟩ := r2
    have r1 := r1.mono e2
    obtain ⟨b, b1, b2, ls, ll, L', rfl, hb, hb1, hb2, _, _, s2, l2, rp2⟩ := r1
    have comp := el_lcL (K := K) (H := H2) (xs := ys) (a := c) (σ := [some (.ref a), some (.ref b), some (.ref c), none]) (tl := tVar 2) (j := 3) (vs := [3]) (t := tTest (tOp (rEqPD K) (tCall (spSights K) [] E0 (tCons (tCall (spLay K) [] E0 (tCons (tVar 0) (tCons (tVar 3) tNil))) tNil)) (tVar 1))) (te := tVar 3) (onAt (Rc98.all_ h) fun p => Rc98.sameSeen h (Rc98.serial h p)) (atBy ys (Rc98.all_ h) fun _ x => x) (ev_var rfl) (sq_of hc) (by have := Paired.length hy; have := all_len h; omega) (fun x => rfl)
      (fun i x H3 e3 hi => by
        obtain ⟨p, hp, ⟨d, rfl, hd⟩⟩ := pget hy hi
        rw [on_some hp]
        have pw := mem_all.mp (List.mem_of_getElem? hp)
        have mm := m.mono (e1.trans (e2.trans e3))
        have gs := good_serial m.good pw
        have lp : p.length ≤ 6 := by rw [pw.length_eq]; exact who_len h
        have first : EvR (tCall (spSights K) [] E0 (tCons (tCall (spLay K) [] E0 (tCons (tVar 0) (tCons (tVar 3) tNil))) tNil)) [some (.ref a), some (.ref b), some (.ref c), some (.ref d)] H3 (RSights (Rc98.serial h p) H3) :=
          er_callL (el_call (ea_cons (ev_var rfl) (ea_cons (ev_var rfl) ea_nil)) fun H4 e4 Q4 q4 E4 => ⟨a, d, xs, h, p, rfl, mm.mono e4, sq_of ((e3.trans e4) _ _ hd), lp, q4⟩)
            fun q H4 e4 hq H5 e5 Q5 q5 E5 => ⟨q, lay xs h p, Rc98.serial h p, rfl, ⟨sq_of (e5 _ _ hq), lay_mix (mm.mix.mono (e4.trans e5)) p, gs⟩, fun v H6 e6 r => q5 v H6 e6 (RSights.back (e4.trans e5) r)⟩
        intro H4 e4 Q q
        refine first H4 e4 _ fun v H5 e5 r => ?_
        refine ⟨.ref b, rfl, ?_⟩
        obtain ⟨c', d1, d2, ks, kl, L, rfl, hc', hd1, hd2, n1, n2, s1, l1, rp1⟩ := r
        have e35 : Ex H2 H5 := (e3.trans e4).trans e5
        refine ⟨c', b, d1, d2, b1, b2, ks, ls, kl, ll, datOf H5, rfl, rfl, hc', e35 _ _ hb, hd1, e35 _ _ hb1, hd2, e35 _ _ hb2, ?_, ?_, lastD_keys l1 rp1.1, seenD_dat s1, seenD_dat (s2.mono (.of e35)), lastD_dat l1, lastD_dat (l2.mono (.of e35)), _, rfl, ?_⟩
        · intro z
          rw [z, e3 _ _ hb1] at n1
          cases n1
        · intro z
          rw [z, e3 _ _ hb2] at n2
          cases n2
        · rw [sights_eq m.good gs s1 (s2.mono (.of e35)) l1 (l2.mono (.of e35)) rp1 rp2]
          exact q H5 e5)
      (fun i x H3 e3 hi _ => by
        obtain ⟨p, hp, _⟩ := pget hy hi
        rw [by_some hp hi]
        exact ev_var rfl)
    rw [given_self _ (Paired.length hy)] at comp
    exact s_retL comp fun p H3 _ e3 h3 => ret _ H3 ((e1.trans e2).trans e3) ⟨p, _, rfl, h3, LLs.mono e3 (pick_pair hy)⟩
/-! ### used_at -/
abbrev sUsedAt : Stmt := top 21
theorem scUsedAt : FnScope ["steps", "person", "place", "at", "step"] ["steps", "person", "place"] (defScope sUsedAt) := ⟨rfl, rfl, rfl, by decide +kernel, rfl, by decide +kernel, by decide +kernel⟩
def spUsedAt (K : PySem.W.Frag) : Sp := fun vs' H Q _ => ∃ (a : Addr) (xs : List V) (h : Mix) (t x : Nat), vs' = [.ref a, vi t, vi x] ∧ MixAt K H a xs h ∧ RetL (vs (Rc98.touchesOf h t x)) H Q
theorem used_by {s : Rc98.Step} {t x : Nat} {xx : Int} (w : s.what ≤ 2) (hx : s.what ≠ 2 → xx = (s.x : Int)) : (decide ((s.t : Int) = (t : Int)) && (!decide ((s.what : Int) = 2) && decide (xx = (x : Int)))) = (s.t == t && s.x == x && Rc98.touches s) := by
  rw [Bool.eq_iff_iff]
  unfold Rc98.touches Rc98.reads Rc98.writes
  simp only [Bool.and_eq_true, decide_eq_true_eq, Bool.not_eq_true', decide_eq_false_iff_not, beq_iff_eq, Bool.or_eq_true]
  constructor
  · rintro ⟨h1, h2, h3⟩
    have := hx (by omega)
    omega
  · rintro ⟨⟨h1, h2⟩, h3⟩
    have := hx (by omega)
    omega
theorem given_touches (h : Mix) (t x : Nat) : given h.length (onAt h fun s => s.t == t && s.x == x && Rc98.touches s) (fun k => vi k) = vs (Rc98.touchesOf h t x) := by
  unfold given vs Rc98.touchesOf
  refine congrArg _ (List.filter_congr fun i _ => ?_)
  unfold onAt
  cases h[i]? <;> rfl
theorem ok_usedAt {f : Addr} {fd : FuncData} (F : Fun K "used_at" "used_at" sUsedAt f fd) (T : Txt mg) (oUses : Ok P w K mg base "uses" ["step", "place"] 1 spUses) : FnOk P w K mg base CX0 2 f fd ["steps", "person", "place"] (spUsedAt K) := by
  refine F.ok scUsedAt (fun vs H Q E h => ?_) (fun cdv A outer s H vs Q E hr h => ?_)
  · obtain ⟨a, xs, h, t, x, rfl, _⟩ := h
    rfl
  · obtain ⟨a, xs, h, t, x, rfl, m, ret⟩ := h
    refine ⟨_, (pss_one (ps_ret (pe_lc (own := [("at", 3), ("step", 4)]) rfl scUsedAt.nd (pi_enum (by rfl) T.n_enumerate (pa_cons (pv 0) pa_nil)) (blkOk_by (own := [("at", 3), ("step", 4)]) (N := ["steps", "person", "place", "at", "step"]) (sc := defScope sUsedAt) (by decide +kernel)) (fun _ _ _ _ _ => pg_tupB (K := K) (n := 2) rfl rfl (pgs_cons (pg_name (i := 3) scUsedAt.nd rfl (Or.inl rfl)) (pgs_cons (pg_name (i := 4) scUsedAt.nd rfl (Or.inl rfl)) pgs_nil))) (fun _ _ _ _ _ => pts_one ((pw_and (pt_cmpR op_eq (pe_ix (ix_tupB (K := K) rfl) (pv 4) pe_int (fun _ _ => rfl)) (pv 1) (nomark _)) (pw_and1 (pt_val (pe_def oUses hr (pa_cons (pv 4) (pa_cons (pv 2) pa_nil))))))).pt) (fun _ _ _ _ _ => (pv 3))))), ?_⟩
    have comp := el_lcE (K := K) (H := H) (xs := xs) (a := a) (σ := start ["steps", "person", "place", "at", "step"] [.ref a, vi t, vi x]) (ta := tCons (tVar 0) tNil) (i := 3) (j := 4) (vs := [3, 4]) (t := tAnd (tTest (tOp rEq (tOp (rIxT K) (tVar 4) (tC (.int 0))) (tVar 1))) (tB (tCall spUses [] E0 (tCons (tVar 4) (tCons (tVar 2) tNil))))) (te := tVar 3)
      (onAt h fun s => s.t == t && s.x == x && Rc98.touches s) (fun k => vi k) (ea_cons (ev_var rfl) ea_nil) m.sq (Nat.le_trans m.len (by decide)) (fun x y => rfl)
      (fun i y H1 e hi => by
        obtain ⟨s1, hs, ⟨b, p, rfl, hb, hp⟩⟩ := pget m.mix hi
        rw [on_some hs]
        exact et_is (et_and (et_eqI (ev_f0 (ev_var rfl) (e _ _ hb)) (ev_var rfl)) fun _ => et_B (ev_call (ea_cons (ev_var rfl) (ea_cons (ev_var rfl) ea_nil)) fun H2 e2 Q2 q2 E2 => ⟨b, _, _, _, _, rfl, (e.trans e2) _ _ hb, q2⟩)) (used_by (m.good.2 s1 (List.mem_of_getElem? hs)).2.1 hp))
      (fun i y H1 e hi _ => ev_var rfl)
    rw [m.mix.len, given_touches] at comp
    exact s_retL comp ret
/-! ### written_at -/
abbrev sWrittenAt : Stmt := top 22
theorem scWrittenAt : FnScope ["steps", "person", "place", "at"] ["steps", "person", "place"] (defScope sWrittenAt) := ⟨rfl, rfl, rfl, by decide +kernel, rfl, by decide +kernel, by decide +kernel⟩
def spWrittenAt (K : PySem.W.Frag) : Sp := fun vs' H Q _ => ∃ (a : Addr) (xs : List V) (h : Mix) (t x : Nat), vs' = [.ref a, vi t, vi x] ∧ MixAt K H a xs h ∧ RetL (vs (Rc98.writesOf h t x)) H Q
theorem pick_vs (p : Nat → Bool) : ∀ l : List Nat, pick (vs l) l p = vs (l.filter p)
  | [] => rfl
  | n :: l => by
    have ih := pick_vs p l
    unfold pick at ih ⊢
    show (((vi n :: vs l).zip (n :: l)).filter fun z => p z.2).map (fun z => z.1) = _
    rw [List.zip_cons_cons, List.filter_cons, List.filter_cons]
    by_cases c : p n = true
    · rw [if_pos c, if_pos c, List.map_cons, ih]
      rfl
    · rw [if_neg c, if_neg c, ih]
theorem writes_filter (h : Mix) (t x : Nat) : (Rc98.touchesOf h t x).filter (onAt h Rc98.writes) = Rc98.writesOf h t x := by
  unfold Rc98.touchesOf Rc98.writesOf
  rw [List.filter_filter]
  refine List.filter_congr fun i _ => ?_
  unfold onAt
  cases h[i]? with
  | none => rfl
  | some s =>
    show (Rc98.writes s && (s.t == t && s.x == x && Rc98.touches s)) = (s.t == t && s.x == x && Rc98.writes s)
    unfold Rc98.touches
    cases Rc98.writes s <;> simp
theorem ok_writtenAt {f : Addr} {fd : FuncData} (F : Fun K "written_at" "written_at" sWrittenAt f fd) (T : Txt mg) (oUsedAt : Ok P w K mg base "used_at" ["steps", "person", "place"] 2 (spUsedAt K)) : FnOk P w K mg base CX0 3 f fd ["steps", "person", "place"] (spWrittenAt K) := by
  refine F.ok scWrittenAt (fun vs H Q E h => ?_) (fun cdv A outer s H vs Q E hr h => ?_)
  · obtain ⟨a, xs, h, t, x, rfl, _⟩ := h
    rfl
  · obtain ⟨a, xs, h, t, x, rfl, m, ret⟩ := h
    refine ⟨_, (pss_one (ps_ret (pe_lc (own := [("at", 3)]) rfl scWrittenAt.nd (pi_list (pe_def oUsedAt hr (pa_cons (pv 0) (pa_cons (pv 1) (pa_cons (pv 2) pa_nil))))) (blkOk_by (own := [("at", 3)]) (N := ["steps", "person", "place", "at"]) (sc := defScope sWrittenAt) (by decide +kernel)) (fun _ _ _ _ _ => pg_name (i := 3) scWrittenAt.nd rfl (Or.inl rfl)) (fun _ _ _ _ _ => pts_one (pt_cmpR op_eq (pe_ix (ix_tupB (K := K) rfl) (pe_ix (ix_listB (K := K) rfl) (pv 0) (pv 3) (fun _ _ => rfl)) pe_int (fun _ _ => rfl)) (pe_ci T.cWRITE) (nomark _))) (fun _ _ _ _ _ => (pv 3))))), ?_⟩
    have lt : ∀ i ∈ Rc98.touchesOf h t x, i < h.length := fun i hi => by
      obtain ⟨s1, hs, _⟩ := mem_touchesOf.mp hi
      exact (List.getElem?_eq_some_iff.mp hs).1
    have len : (Rc98.touchesOf h t x).length ≤ 24 := by
      have q := List.length_filter_le (fun (i : Nat) => match h[i]? with | some s => s.t == t && s.x == x && Rc98.touches s | none => false) (List.range h.length)
      rw [List.length_range] at q
      exact Nat.le_trans q m.good.1
    have comp := el_lcNL (K := K) (H := H) (xs := vs (Rc98.touchesOf h t x)) (σ := start ["steps", "person", "place", "at"] [.ref a, vi t, vi x]) (tl := tCall (spUsedAt K) [] E0 (tCons (tVar 0) (tCons (tVar 1) (tCons (tVar 2) tNil)))) (j := 3) (vs := [3]) (t := tTest (tOp rEq (tOp (rIxT K) (tOp (rIxL K) (tVar 0) (tVar 3)) (tC (.int 1))) (tC (.int 1)))) (te := tVar 3)
      (onAt (Rc98.touchesOf h t x) (onAt h Rc98.writes)) (atBy (vs (Rc98.touchesOf h t x)) (Rc98.touchesOf h t x) fun _ x => x) (el_call (ea_cons (ev_var rfl) (ea_cons (ev_var rfl) (ea_cons (ev_var rfl) ea_nil))) fun H1 e1 Q1 q1 E1 => ⟨a, xs, h, t, x, rfl, m.mono e1, q1⟩) (by rw [vs_len]; omega) (fun x => rfl)
      (fun i y H1 e hi => by
        obtain ⟨n, hn, rfl⟩ := vs_get hi
        rw [on_some hn]
        obtain ⟨s1, hs, _⟩ := mem_touchesOf.mp (List.mem_of_getElem? hn)
        obtain ⟨v, hv, ⟨b, p, rfl, hb, _⟩⟩ := pget' m.mix hs
        rw [on_some hs]
        refine et_is (et_eqI (ev_f1 (ev_op (ev_var rfl) (ev_var rfl) (rv_ixL (K := K) (ex_l e m.sq) (atI_nat hv))) (e _ _ hb)) ev_c) ?_
        unfold Rc98.writes
        rw [Bool.eq_iff_iff, decide_eq_true_eq, beq_iff_eq]
        omega)
      (fun i y H1 e hi _ => by
        obtain ⟨n, hn, _⟩ := vs_get hi
        rw [by_some hn hi]
        exact ev_var rfl)
    rw [given_self _ (vs_len _), pick_vs, writes_filter] at comp
    exact s_retL comp ret
end
end SM

namespace SM
open PySem PySem.Spec PyProof.Rows L2 Evl
open Rc98 (Mix)
section
variable {K : PySem.W.Frag} {σ : L2.St} {H H' : Hp} {ta tb te tx : TE} {D : Ends} {tz : TS} {R : V → Hp → Prop}
theorem ev_last {a : Addr} {l : List Nat} (h : Ev ta σ H (.ref a)) (hl : SqL K H a (vs l)) (ne : l ≠ []) : Ev (tOp (rIxL K) ta (tUn (rU fun i => .int (-i)) (tC (.int 1)))) σ H (vi (l.getLastD 0)) := by
  refine ev_op h (ev_un ev_c ru_neg) (rv_ixL hl ?_)
  obtain ⟨r, z, rfl⟩ : ∃ r z, l = r ++ [z] := ⟨l.dropLast, l.getLast ne, (List.dropLast_concat_getLast ne).symm⟩
  have e1 : vs (r ++ [z]) = vs r ++ [vi z] := List.map_append
  have e2 : (r ++ [z]).getLastD 0 = z := by simp
  rw [e1, e2]
  exact atI_last _ _
theorem ev_first {a : Addr} {l : List Nat} (h : Ev ta σ H (.ref a)) (hl : SqL K H a (vs l)) (ne : l ≠ []) : Ev (tOp (rIxL K) ta (tC (.int 0))) σ H (vi (l.headD 0)) := by
  refine ev_op h ev_c (rv_ixL hl ?_)
  cases l with
  | nil => exact absurd rfl ne
  | cons z r => exact atI_nat (j := 0) rfl
theorem s_appR {l : Addr} {xs : List V} (hl : H l = some (.lst xs)) (ha : Ev ta σ H (.ref l)) (h : EvR te σ H R) (hz : xs.length < 100000) (k : ∀ v H1, Ex H H1 → R v H1 → D.nx σ (upd H1 l (.lst (xs ++ [v])))) : tDrop (tBM K "list" rAppend ta (tCons te tNil)) D σ H :=
  ha H (Ex.refl H) _ fun H1 e1 => ⟨Or.inl ⟨rfl, xs, sq_of (e1 l _ hl)⟩, h H1 e1 _ fun v H2 e2 r => ⟨l, xs, v, rfl, rfl, e2 l _ (e1 l _ hl), sz_lt hz, k v H2 (e1.trans e2) r⟩⟩
theorem q_forR {tl : TE} {g : TG} {tu : TS} (h : EvR tl σ H R) (k : ∀ v H1, Ex H H1 → R v H1 → ∃ a xs, v = .ref a ∧ SqL K H1 a xs ∧ ∃ Pv : Nat → L2.St → Hp → Prop, Pv 0 σ H1 ∧ (∀ i σ' H', i ≤ xs.length → Pv i σ' H' → SqL K H' a xs) ∧
    (∀ i x σ' H', xs[i]? = some x → Pv i σ' H' → g x σ' H' fun σ2 H2 => tu { D with nx := Pv (i + 1), ct := Pv (i + 1), bk := tz D } σ2 H2) ∧ (∀ σ' H', Pv xs.length σ' H' → tz D σ' H')) : tSeq (tFor (iList K tl) g tu) tz D σ H := s_forR (D := { D with nx := tz D }) h k
theorem ev_opU1 {r : R2} {xs : List V} {y z : V} (ha : EvU ta σ H xs) (hb : Ev tb σ H y) (hr : ∀ p H1, H1 p = some (.tup xs) → Ex H H1 → RV r (.ref p) y H1 z) : Ev (tOp r ta tb) σ H z := fun H1 e Q q =>
  ha H1 e _ fun p H2 _ e2 hp => hb H2 (e.trans e2) _ fun H3 e3 => hr p H3 (e3 _ _ hp) ((e.trans e2).trans e3) H3 (Ex.refl _) Q fun H4 e4 => q H4 ((e2.trans e3).trans e4)
def mx2 (a b : Int) : Int := if a < b then b else a
theorem nuMax2_int (a b : Int) : nuMax2 (.int a) (.int b) = some (.int (mx2 a b)) := by
  show some (if decide (a < b) = true then V.int b else V.int a) = _
  unfold mx2
  by_cases c : a < b
  · rw [if_pos c, if_pos (decide_eq_true c)]
  · rw [if_neg c, if_neg (by rw [decide_eq_false c]; exact Bool.false_ne_true)]
theorem ev_max3 {tc : TE} {a b c : Int} (h1 : Ev ta σ H (.int a)) (h2 : Ev tb σ H (.int b)) (h3 : Ev tc σ H (.int c)) : Ev (tCB (rNuC3 nuMax3) (tCons ta (tCons tb (tCons tc tNil)))) σ H (.int (mx2 (mx2 a b) c)) :=
  ev_cb (ea_cons h1 (ea_cons h2 (ea_cons h3 ea_nil))) fun H1 _ Q q => ⟨_, _, _, _, rfl, by
    unfold nuMax3
    rw [nuMax2_int]
    exact nuMax2_int _ _, q H1 (Ex.refl H1)⟩
/-- [(..) for x in l]: a new tuple of numbers for each -/
theorem er_lcT {a : Addr} {xs : List V} {ls : List (List Nat)} {tl : TE} {j : Nat} {ws : List Nat} (g : List Nat → List Nat) (h : Ev tl σ H (.ref a)) (hx : SqL K H a xs) (hy : Paired (TupAt H) xs ls) (hz : xs.length ≤ 40000) (hw : ∀ x, wipe ((wipe σ ws).set j (some x)) ws = wipe σ ws)
    (he : ∀ (x : V) (l : List Nat) H1, l ∈ ls → TupAt H1 x l → EvU te ((wipe σ ws).set j (some x)) H1 (vs (g l))) : EvR (tLc (iList K tl) (gName j) tYes te ws) σ H (fun v H2 => ∃ c ys, v = .ref c ∧ H2 c = some (.lst ys) ∧ Paired (TupAt H2) ys (ls.map g)) := fun H0 e Q q => h H0 e _ fun H1 e1 => ⟨a, rfl, ⟨xs, ex_l (e.trans e1) hx⟩, fun Dl hD =>
  lc_list (xs := xs) (fun i H' => Ex H1 H' ∧ ∃ acc, H' Dl = some (.lst acc) ∧ acc.length ≤ i ∧ Paired (TupAt H') acc ((ls.take i).map g)) ⟨Ex.new hD, [], upd_same, Nat.le_refl _, .nil⟩ (fun i H' _ p => ex_l ((e.trans e1).trans p.1) hx)
    (fun i x H' hi p => by
      obtain ⟨e2, acc, hacc, la, pa⟩ := p
      obtain ⟨l, hl, hxl⟩ := pget hy hi
      have lt : i < xs.length := (List.getElem?_eq_some_iff.mp hi).1
      refine ⟨hw x, ?_⟩
      show te ((wipe σ ws).set j (some x)) H' _
      refine he x l H' (List.mem_of_getElem? hl) (hxl.mono ((e.trans e1).trans e2)) H' (Ex.refl _) _ fun c H4 hc e4 h4 => ?_
      have nc : c ≠ Dl := fun z => by
        rw [z, hacc] at hc
        cases hc
      have et : ExT H4 (upd H4 Dl (.lst (acc ++ [.ref c]))) := ExT.put (Ex.refl _) (e4 _ _ hacc) fun xs z => by cases z
      refine ⟨acc, e4 _ _ hacc, sz_lt (by omega), Ex.mut (e2.trans e4) hD, _, upd_same, by rw [List.length_append]; simp; omega, ?_⟩
      rw [take_snoc hl, List.map_append]
      have up : ∀ {v : V} {l : List Nat}, TupAt H4 v l → TupAt (upd H4 Dl (.lst (acc ++ [.ref c]))) v l := fun ⟨b, z1, z2⟩ => ⟨b, z1, et _ _ z2⟩
      exact papp (L2.Paired.mapP pa fun _ _ r => up (r.mono e4)) (.cons (up ⟨c, rfl, h4⟩) .nil))
    (fun H' p => by
      obtain ⟨e2, acc, hacc, la, pa⟩ := p
      rw [Paired.length hy, List.take_length] at pa
      exact q _ H' (e1.trans e2) ⟨Dl, acc, rfl, hacc, pa⟩)⟩
end
/-- a turn, or none -/
def OTup (H : Hp) (v : V) : Option (List Nat) → Prop
  | none => v = .non
  | some l => TupAt H v l
theorem OTup.mono {H H' : Hp} (e : ExT H H') {v : V} : ∀ {o : Option (List Nat)}, OTup H v o → OTup H' v o
  | none, h => h
  | some _, ⟨c, h1, h2⟩ => ⟨c, h1, e _ _ h2⟩
theorem otup_some {H : Hp} : ∀ {ys : List V} {os : List (Option (List Nat))}, Paired (OTup H) ys os → Paired (TupAt H) (pick ys os Option.isSome) (os.filterMap id)
  | _, _, .nil => .nil
  | y :: ys, o :: os, .cons r t => by
    have ih := otup_some t
    unfold pick at ih ⊢
    rw [List.zip_cons_cons, List.filter_cons, List.filterMap_cons]
    cases o with
    | none => exact ih
    | some l => exact .cons r ih
section
variable {P : Program} {w : World} {K : PySem.W.Frag} {mg : Str → Option Value} {base : Heap}
/-! ### turn_of -/
abbrev sTurnOf : Stmt := top 23
theorem scTurnOf : FnScope ["steps", "writer", "other", "place", "writes", "own", "others"] ["steps", "writer", "other", "place"] (defScope sTurnOf) := ⟨rfl, rfl, rfl, by decide +kernel, rfl, by decide +kernel, by decide +kernel⟩
def spTurn (K : PySem.W.Frag) : Sp := fun vs' H Q _ => ∃ (a : Addr) (xs : List V) (h : Mix) (t v x : Nat), vs' = [.ref a, vi t, vi v, vi x] ∧ MixAt K H a xs h ∧ RetR (fun z H2 => OTup H2 z (turnOf h t v x)) H Q
theorem ok_turn {f : Addr} {fd : FuncData} (F : Fun K "turn_of" "turn_of" sTurnOf f fd) (T : Txt mg) (oWrittenAt : Ok P w K mg base "written_at" ["steps", "person", "place"] 3 (spWrittenAt K)) (oUsedAt : Ok P w K mg base "used_at" ["steps", "person", "place"] 2 (spUsedAt K)) : FnOk P w K mg base CX0 4 f fd ["steps", "writer", "other", "place"] (spTurn K) := by
  refine F.ok scTurnOf (fun vs H Q E h => ?_) (fun cdv A outer s H vs Q E hr h => ?_)
  · obtain ⟨a, xs, h, t, v, x, rfl, _⟩ := h
    rfl
  · obtain ⟨a, xs, h, t, v, x, rfl, m, ret⟩ := h
    refine ⟨_, (pss_cons (ps_set (i := 4) scTurnOf.nd rfl (Or.inl rfl) (pe_def oWrittenAt hr (pa_cons (pv 0) (pa_cons (pv 1) (pa_cons (pv 3) pa_nil)))))
      (pss_cons (ps_set (i := 5) scTurnOf.nd rfl (Or.inl rfl) (pe_def oUsedAt hr (pa_cons (pv 0) (pa_cons (pv 1) (pa_cons (pv 3) pa_nil)))))
      (pss_cons (ps_set (i := 6) scTurnOf.nd rfl (Or.inl rfl) (pe_def oUsedAt hr (pa_cons (pv 0) (pa_cons (pv 2) (pa_cons (pv 3) pa_nil)))))
      (pss_cons (ps_if ((pw_or (pt_cmpR op_eq (pe_callB call_len_seq (by rfl) T.n_len (by decide +kernel) (pa_cons (pv 4) pa_nil)) pe_int (nomark _)) (pw_or1 (pt_cmpR op_eq (pe_callB call_len_seq (by rfl) T.n_len (by decide +kernel) (pa_cons (pv 6) pa_nil)) pe_int (nomark _))))).pt (pss_one (ps_ret pe_non)) pss_nil)
      (pss_cons (ps_if (pt_cmpR op_lt (pe_ix ix_list (pv 6) (pe_un un_neg pe_int) (fun _ _ => rfl)) (pe_ix ix_list (pv 4) pe_int (fun _ _ => rfl)) (nomark _)) (pss_one (ps_ret (pe_tup (pa_cons (pv 2) (pa_cons (pv 1) (pa_cons (pe_ix ix_list (pv 6) (pe_un un_neg pe_int) (fun _ _ => rfl)) (pa_cons (pe_ix ix_list (pv 4) pe_int (fun _ _ => rfl)) pa_nil))))))) pss_nil)
      (pss_cons (ps_if (pt_cmpR op_lt (pe_ix ix_list (pv 5) (pe_un un_neg pe_int) (fun _ _ => rfl)) (pe_ix ix_list (pv 6) pe_int (fun _ _ => rfl)) (nomark _)) (pss_one (ps_ret (pe_tup (pa_cons (pv 1) (pa_cons (pv 2) (pa_cons (pe_ix ix_list (pv 5) (pe_un un_neg pe_int) (fun _ _ => rfl)) (pa_cons (pe_ix ix_list (pv 6) pe_int (fun _ _ => rfl)) pa_nil))))))) pss_nil)
      (pss_one (ps_ret (pe_tup pa_nil))))))))), ?_⟩
    refine q_asgL (el_call (ea_cons (ev_var rfl) (ea_cons (ev_var rfl) (ea_cons (ev_var rfl) ea_nil))) fun H1 e1 Q1 q1 E1 => ⟨a, xs, h, t, x, rfl, m.mono e1, q1⟩) fun p1 H1 _ e1 h1 => ?_
    refine q_asgL (el_call (ea_cons (ev_var rfl) (ea_cons (ev_var rfl) (ea_cons (ev_var rfl) ea_nil))) fun H2 e2 Q1 q1 E1 => ⟨a, xs, h, t, x, rfl, m.mono (e1.trans e2), q1⟩) fun p2 H2 _ e2 h2 => ?_
    refine q_asgL (el_call (ea_cons (ev_var rfl) (ea_cons (ev_var rfl) (ea_cons (ev_var rfl) ea_nil))) fun H3 e3 Q1 q1 E1 => ⟨a, xs, h, v, x, rfl, m.mono ((e1.trans e2).trans e3), q1⟩) fun p3 H3 _ e3 h3 => ?_
    have k1 := (e2.trans e3) _ _ h1
    have k2 := e3 _ _ h2
    have e03 := (e1.trans e2).trans e3
    refine q_when (et_or (et_eqI (ev_len (ev_var rfl) (sq_of k1)) ev_c) fun _ => et_eqI (ev_len (ev_var rfl) (sq_of h3)) ev_c) (fun c H4 e4 => ?_) (fun c H4 e4 => ?_)
    · have q : turnOf h t v x = none := by
        unfold turnOf
        refine if_pos ?_
        rw [vs_len, vs_len, Bool.or_eq_true, decide_eq_true_eq, decide_eq_true_eq] at c
        rcases c with c | c
        · exact .inl (List.length_eq_zero_iff.mp (by omega))
        · exact .inr (List.length_eq_zero_iff.mp (by omega))
      rw [q] at ret
      exact s_ret ev_c fun H5 e5 => ret _ H5 ((e03.trans e4).trans e5) rfl
    · rw [vs_len, vs_len, Bool.or_eq_false_iff, decide_eq_false_iff_not, decide_eq_false_iff_not] at c
      have nW : Rc98.writesOf h t x ≠ [] := fun z => c.1 (by rw [z]; rfl)
      have nO : Rc98.touchesOf h v x ≠ [] := fun z => c.2 (by rw [z]; rfl)
      have nT : Rc98.touchesOf h t x ≠ [] := uses_iff.mp (alone_uses (alone_iff.mpr nW))
      have j1 := e4 _ _ k1
      have j2 := e4 _ _ k2
      have j3 := e4 _ _ h3
      have tq : turnOf h t v x = if (Rc98.touchesOf h v x).getLastD 0 < (Rc98.writesOf h t x).headD 0 then some [v, t, (Rc98.touchesOf h v x).getLastD 0, (Rc98.writesOf h t x).headD 0]
          else if (Rc98.touchesOf h t x).getLastD 0 < (Rc98.touchesOf h v x).headD 0 then some [t, v, (Rc98.touchesOf h t x).getLastD 0, (Rc98.touchesOf h v x).headD 0] else some [] := by
        unfold turnOf
        exact if_neg fun z => z.elim nW nO
      rw [tq] at ret
      refine q_when (et_test (ev_ltI (ev_last (ev_var rfl) (sq_of j3) nO) (ev_first (ev_var rfl) (sq_of j1) nW))) (fun c1 H5 e5 => ?_) (fun c1 H5 e5 => ?_)
      · have c1 : (Rc98.touchesOf h v x).getLastD 0 < (Rc98.writesOf h t x).headD 0 := by
          have := of_decide_eq_true c1
          omega
        rw [if_pos c1] at ret
        exact s_retU (eu_tup (ea_cons (ev_var rfl) (ea_cons (ev_var rfl) (ea_cons (ev_last (ev_var rfl) (sq_of (e5 _ _ j3)) nO) (ea_cons (ev_first (ev_var rfl) (sq_of (e5 _ _ j1)) nW) ea_nil)))) (by show 4 ≤ 100000; decide)) fun p H6 _ e6 h6 => ret _ H6 (((e03.trans e4).trans e5).trans e6) ⟨p, rfl, h6⟩
      · have c1 : ¬ (Rc98.touchesOf h v x).getLastD 0 < (Rc98.writesOf h t x).headD 0 := by
          have := of_decide_eq_false c1
          omega
        rw [if_neg c1] at ret
        refine q_when (et_test (ev_ltI (ev_last (ev_var rfl) (sq_of (e5 _ _ j2)) nT) (ev_first (ev_var rfl) (sq_of (e5 _ _ j3)) nO))) (fun c2 H6 e6 => ?_) (fun c2 H6 e6 => ?_)
        · have c2 : (Rc98.touchesOf h t x).getLastD 0 < (Rc98.touchesOf h v x).headD 0 := by
            have := of_decide_eq_true c2
            omega
          rw [if_pos c2] at ret
          have e56 := e5.trans e6
          exact s_retU (eu_tup (ea_cons (ev_var rfl) (ea_cons (ev_var rfl) (ea_cons (ev_last (ev_var rfl) (sq_of (e56 _ _ j2)) nT) (ea_cons (ev_first (ev_var rfl) (sq_of (e56 _ _ j3)) nO) ea_nil)))) (by show 4 ≤ 100000; decide)) fun p H7 _ e7 h7 => ret _ H7 (((e03.trans e4).trans e56).trans e7) ⟨p, rfl, h7⟩
        · have c2 : ¬ (Rc98.touchesOf h t x).getLastD 0 < (Rc98.touchesOf h v x).headD 0 := by
            have := of_decide_eq_false c2
            omega
          rw [if_neg c2] at ret
          exact s_retU (eu_tup ea_nil (by show 0 ≤ 100000; decide)) fun p H7 _ e7 h7 => ret _ H7 ((((e03.trans e4).trans e5).trans e6).trans e7) ⟨p, rfl, h7⟩
/-! ### all_turns -/
abbrev sAllTurns : Stmt := top 24
theorem scAllTurns : FnScope ["steps", "people", "found", "writer", "other", "place", "turn"] ["steps"] (defScope sAllTurns) := ⟨rfl, rfl, rfl, by decide +kernel, rfl, by decide +kernel, by decide +kernel⟩
def RTurns (ts : List (List Nat)) (v : V) (H : Hp) : Prop := ∃ c ys, v = .ref c ∧ H c = some (.lst ys) ∧ Paired (TupAt H) ys ts
theorem RTurns.mono {ts : List (List Nat)} {v : V} {H H' : Hp} (e : Ex H H') (r : RTurns ts v H) : RTurns ts v H' := by
  obtain ⟨c, ys, h1, h2, h3⟩ := r
  exact ⟨c, ys, h1, e _ _ h2, L2.Paired.mapP h3 fun _ _ r => r.mono e⟩
def spTurns (K : PySem.W.Frag) : Sp := fun vs' H Q _ => ∃ (a : Addr) (xs : List V) (h : Mix), vs' = [.ref a] ∧ MixAt K H a xs h ∧ RetR (fun v H2 => RTurns (allTurns h) v H2 ∧ (allTurns h).length ≤ 288) H Q
def rowTo (h : Mix) (t v k : Nat) : List (Option (List Nat)) := if v = t then [] else (List.range k).map (turnOf h t v)
theorem ok_turns {f : Addr} {fd : FuncData} (F : Fun K "all_turns" "all_turns" sAllTurns f fd) (T : Txt mg) (oPeopleOf : Ok P w K mg base "people_of" ["steps"] 1 (spPeople K)) (oTurnOf : Ok P w K mg base "turn_of" ["steps", "writer", "other", "place"] 4 (spTurn K)) : FnOk P w K mg base CX0 5 f fd ["steps"] (spTurns K) := by
  refine F.ok scAllTurns (fun vs H Q E h => ?_) (fun cdv A outer s H vs Q E hr h => ?_)
  · obtain ⟨a, xs, h, rfl, _⟩ := h
    rfl
  · obtain ⟨a, xs, h, rfl, m, ret⟩ := h
    refine ⟨_, (pss_cons (ps_set (i := 1) scAllTurns.nd rfl (Or.inl rfl) (pe_def oPeopleOf hr (pa_cons (pv 0) pa_nil)))
      (pss_cons (ps_set (i := 2) scAllTurns.nd rfl (Or.inl rfl) (pe_lst pa_nil))
      (pss_cons (ps_for PassesOwn.never rfl (pi_list (pv 1)) (pg_name (i := 3) scAllTurns.nd rfl (Or.inl rfl)) (pss_one (ps_for PassesOwn.never rfl (pi_list (pv 1)) (pg_name (i := 4) scAllTurns.nd rfl (Or.inl rfl)) (pss_one (ps_for PassesOwn.never rfl (pi_range1 (by rfl) T.n_range (pa_cons (pe_ci T.cPLACES) pa_nil)) (pg_name (i := 5) scAllTurns.nd rfl (Or.inl rfl)) (pss_one (ps_if (pt_cmpR op_ne (pv 4) (pv 3) (nomark _)) (pss_one (ps_expr (pe_bm PySem.F.plainAttrs_list PySem.F.slot_list_append PySem.F.type_list_append mt_append (pv 2) (pa_cons (pe_def oTurnOf hr (pa_cons (pv 0) (pa_cons (pv 3) (pa_cons (pv 4) (pa_cons (pv 5) pa_nil))))) pa_nil)))) pss_nil)))))))
      (pss_one (ps_ret (pe_lc (own := [("turn", 6)]) rfl scAllTurns.nd (pi_list (pv 2)) (blkOk_by (own := [("turn", 6)]) (N := ["steps", "people", "found", "writer", "other", "place", "turn"]) (sc := defScope sAllTurns) (by decide +kernel)) (fun _ _ _ _ _ => pg_name (i := 6) scAllTurns.nd rfl (Or.inl rfl)) (fun _ _ _ _ _ => pts_one (pt_cmp (pc_notN (pv 6)))) (fun _ _ _ _ _ => (pv 6)))))))), ?_⟩
    refine q_asgL (el_call (ea_cons (ev_var rfl) ea_nil) fun H1 e1 Q1 q1 E1 => ⟨a, xs, h, rfl, m.mono e1, q1⟩) fun b H1 _ e1 h1 => ?_
    refine q_asgL (el_lst ea_nil (Nat.zero_le _)) fun l H2 hl e2 h2 => ?_
    have wl := who_len h
    have hl0 : H l = none := fresh_back e1 hl
    have nbl : b ≠ l := fun z => by
      rw [← z, h1] at hl
      cases hl
    refine q_forLn (K := K) (xs := vs (Rc98.who h)) (ev_var rfl) (sq_of (e2 _ _ h1)) (fun i σ' H' => ∃ u1 u2 u3 u4, σ' = [some (.ref a), some (.ref b), some (.ref l), u1, u2, u3, u4] ∧ Ex H H' ∧ H' b = some (.lst (vs (Rc98.who h))) ∧ ∃ ys, H' l = some (.lst ys) ∧ ys.length ≤ 48 * i ∧ Paired (OTup H') ys (((Rc98.who h).take i).flatMap fun t => (Rc98.who h).flatMap fun v => rowT h t v))
      (fun H3 e3 => ⟨none, none, none, none, rfl, (e1.trans e2).trans e3, (e2.trans e3) _ _ h1, [], e3 _ _ h2, Nat.le_refl _, .nil⟩) (fun i σ' H' _ ⟨_, _, _, _, _, _, hb, _⟩ => sq_of hb)
      (fun i x σ' H' hi ⟨u1, u2, u3, u4, hσ, e, hb, ys, hl', ly, py⟩ => ?_) (fun σ' H' ⟨u1, u2, u3, u4, hσ, e, hb, ys, hl', ly, py⟩ => ?_)
    · subst hσ
      obtain ⟨t, ht, rfl⟩ := vs_get hi
      have i6 : i < 6 := Nat.lt_of_lt_of_le (List.getElem?_eq_some_iff.mp ht).1 wl
      refine s_forLn (K := K) (xs := vs (Rc98.who h)) (ev_var rfl) (sq_of hb) (fun j σ2 H2 => ∃ u2 u3 u4, σ2 = [some (.ref a), some (.ref b), some (.ref l), some (vi t), u2, u3, u4] ∧ Ex H H2 ∧ H2 b = some (.lst (vs (Rc98.who h))) ∧ ∃ ys, H2 l = some (.lst ys) ∧ ys.length ≤ 48 * i + 8 * j ∧ Paired (OTup H2) ys ((((Rc98.who h).take i).flatMap fun t => (Rc98.who h).flatMap fun v => rowT h t v) ++ ((Rc98.who h).take j).flatMap fun v => rowT h t v))
        (fun H3 e3 => ⟨u2, u3, u4, rfl, e.trans e3, e3 _ _ hb, ys, e3 _ _ hl', by omega, by simpa using L2.Paired.mapP py fun _ _ r => r.mono (.of e3)⟩) (fun j σ' H' _ ⟨_, _, _, _, _, hb, _⟩ => sq_of hb)
        (fun j x σ2 H2 hj ⟨u2, u3, u4, hσ2, e2, hb2, zs, hl2, lz, pz⟩ => ?_) (fun σ2 H2 ⟨u2, u3, u4, hσ2, e2, hb2, zs, hl2, lz, pz⟩ => ?_)
      · subst hσ2
        obtain ⟨v, hv, rfl⟩ := vs_get hj
        have j6 : j < 6 := Nat.lt_of_lt_of_le (List.getElem?_eq_some_iff.mp hv).1 wl
        refine s_forR1 (ea_cons ev_c ea_nil) ⟨by decide, by decide⟩ (fun k σ3 H3 => ∃ u3 u4, σ3 = [some (.ref a), some (.ref b), some (.ref l), some (vi t), some (vi v), u3, u4] ∧ Ex H H3 ∧ H3 b = some (.lst (vs (Rc98.who h))) ∧ ∃ ys, H3 l = some (.lst ys) ∧ ys.length ≤ 48 * i + 8 * j + k ∧ Paired (OTup H3) ys (((((Rc98.who h).take i).flatMap fun t => (Rc98.who h).flatMap fun v => rowT h t v) ++ ((Rc98.who h).take j).flatMap fun v => rowT h t v) ++ rowTo h t v k))
          (fun H3 e3 => ⟨u3, u4, rfl, e2.trans e3, e3 _ _ hb2, zs, e3 _ _ hl2, by omega, ?_⟩) (fun k σ3 H3 hk ⟨u3, u4, hσ3, e3, hb3, zs, hl3, lz, pz⟩ => ?_) (fun σ3 H3 ⟨u3, u4, hσ3, e3, hb3, zs, hl3, lz, pz⟩ => ?_)
        · have e0 : rowTo h t v 0 = [] := by
            unfold rowTo
            split <;> rfl
          rw [e0, List.append_nil]
          exact L2.Paired.mapP pz fun _ _ r => r.mono (.of e3)
        · subst hσ3
          refine s_when (et_neI (ev_var rfl) (ev_var rfl)) (fun c H4 e4 => ?_) (fun c H4 e4 => ?_)
          · have c : ¬ v = t := by
              rw [Bool.not_eq_true', decide_eq_false_iff_not] at c
              omega
            have em := m.mono (e3.trans e4)
            refine s_appR (e4 _ _ hl3) (ev_var rfl) (er_call (R := fun z H2 => OTup H2 z (turnOf h t v k)) (ea_cons (ev_var rfl) (ea_cons (ev_var rfl) (ea_cons (ev_var rfl) (ea_cons (ev_var rfl) ea_nil)))) fun H5 e5 Q5 q5 E5 => ⟨a, xs, h, t, v, k, rfl, em.mono e5, q5⟩) (by omega) fun z H5 e5 r => ?_
            have et : ExT H5 (upd H5 l (.lst (zs ++ [z]))) := ExT.put (Ex.refl _) (e5 _ _ (e4 _ _ hl3)) fun xs z => by cases z
            refine ⟨_, _, rfl, Ex.mut ((e3.trans e4).trans e5) hl0, by rw [upd_ne nbl]; exact (e4.trans e5) _ _ hb3, _, upd_same, by rw [List.length_append]; simp; omega, ?_⟩
            have er : rowTo h t v (k + 1) = rowTo h t v k ++ [turnOf h t v k] := by
              unfold rowTo
              rw [if_neg c, if_neg c, List.range_succ, List.map_append]
              rfl
            rw [er, ← List.append_assoc]
            exact papp (L2.Paired.mapP pz fun _ _ r => r.mono ((ExT.of (e4.trans e5)).trans et)) (.cons (r.mono et) .nil)
          · have c : v = t := by
              rw [Bool.not_eq_false', decide_eq_true_eq] at c
              omega
            have er : rowTo h t v (k + 1) = rowTo h t v k := by
              unfold rowTo
              rw [if_pos c, if_pos c]
            refine ⟨_, _, rfl, e3.trans e4, e4 _ _ hb3, zs, e4 _ _ hl3, by omega, ?_⟩
            rw [er]
            exact L2.Paired.mapP pz fun _ _ r => r.mono (.of e4)
        · subst hσ3
          have lz : zs.length ≤ 48 * i + 8 * j + 8 := lz
          refine ⟨_, _, _, rfl, e3, hb3, zs, hl3, by omega, ?_⟩
          rw [take_snoc hv, List.flatMap_append, ← List.append_assoc]
          have er : (([v] : List Nat).flatMap fun v => rowT h t v) = rowTo h t v (8 : Int).toNat := by
            rw [List.flatMap_cons, List.flatMap_nil, List.append_nil]
            rfl
          rw [er]
          exact pz
      · subst hσ2
        rw [vs_len] at lz pz
        rw [List.take_length] at pz
        refine ⟨_, _, _, _, rfl, e2, hb2, zs, hl2, by omega, ?_⟩
        rw [take_snoc ht, List.flatMap_append]
        simpa using pz
    · subst hσ
      rw [vs_len] at ly py
      rw [List.take_length] at py
      have py : Paired (OTup H') ys (allRows h) := py
      have comp := el_lcL (K := K) (H := H') (xs := ys) (a := l) (σ := [some (.ref a), some (.ref b), some (.ref l), u1, u2, u3, u4]) (tl := tVar 2) (j := 6) (vs := [6]) (t := tB (tNotN (tVar 6))) (te := tVar 6) (onAt (allRows h) Option.isSome) (atBy ys (allRows h) fun _ x => x) (ev_var rfl) (sq_of hl') (by omega) (fun x => rfl)
        (fun i x H3 e3 hi => by
          obtain ⟨o, ho, r⟩ := pget py hi
          rw [on_some ho]
          refine et_is (et_notN (ev_var rfl)) ?_
          cases o with
          | none =>
            have r : x = .non := r
            rw [r]
            rfl
          | some l =>
            obtain ⟨c, rfl, _⟩ := r
            rfl)
        (fun i x H3 e3 hi _ => by
          obtain ⟨o, ho, _⟩ := pget py hi
          rw [by_some ho hi]
          exact ev_var rfl)
      rw [given_self _ (Paired.length py)] at comp
      refine s_retL comp fun p H3 _ e3 h3 => ret _ H3 (e.trans e3) ⟨⟨p, _, rfl, h3, ?_⟩, ?_⟩
      · exact otup_some (L2.Paired.mapP py fun _ _ r => r.mono (.of e3))
      · have q1 : (allTurns h).length ≤ (allRows h).length := List.length_filterMap_le _ _
        have q2 := Paired.length py
        omega
end
end SM

namespace SM
open PySem PySem.Spec PyProof.Rows L2 Evl
open Rc98 (Mix)
/-- the first of each turn is ahead of the second in an order -/
def InOrder (T : List (Nat × Nat × Nat × Nat)) (p : List Nat) : Prop := ∀ y ∈ T, ∃ i j : Nat, i < j ∧ p[i]? = some y.1 ∧ p[j]? = some y.2.1
theorem nodup_ix {p : List Nat} (nd : p.Nodup) {i j : Nat} {x : Nat} (a : p[i]? = some x) (b : p[j]? = some x) : i = j := by
  obtain ⟨h1, e1⟩ := List.getElem?_eq_some_iff.mp a
  obtain ⟨h2, e2⟩ := List.getElem?_eq_some_iff.mp b
  exact (List.getElem_inj nd).mp (e1.trans e2.symm)
theorem mem_taken {p : List Nat} {k x : Nat} : x ∈ p.take k ↔ ∃ i : Nat, i < k ∧ p[i]? = some x := by
  rw [List.mem_iff_getElem?]
  constructor
  · rintro ⟨i, e⟩
    rw [List.getElem?_take] at e
    by_cases c : i < k
    · rw [if_pos c] at e
      exact ⟨i, c, e⟩
    · rw [if_neg c] at e
      cases e
  · rintro ⟨i, c, e⟩
    exact ⟨i, by rw [List.getElem?_take, if_pos c]; exact e⟩
/-- what the dict tells behind some people -/
def Told (kd : List (Key × V)) (pre : List Nat) (F : Nat → Int) : Prop := ∀ t ∈ pre, valV kd (keyX t) = some (.int (F t))
/-- the number of the person now, behind some turns -/
structure Now (T' : List (Nat × Nat × Nat × Nat)) (p : Nat) (F : Nat → Int) (m : Int) : Prop where
  low : -1 ≤ m
  up : ∀ y ∈ T', y.2.1 = p → (y.2.2.1 : Int) ≤ m ∧ F y.1 ≤ m
  is : m = -1 ∨ ∃ y ∈ T', y.2.1 = p ∧ (m = (y.2.2.1 : Int) ∨ m = F y.1)
theorem now_zero (p : Nat) (F : Nat → Int) : Now [] p F (-1) := ⟨Int.le_refl _, (fun y hy => by cases hy), .inl rfl⟩
theorem now_skip {T' : List (Nat × Nat × Nat × Nat)} {p : Nat} {F : Nat → Int} {m : Int} (n : Now T' p F m) {y : Nat × Nat × Nat × Nat} (c : y.2.1 ≠ p) : Now (T' ++ [y]) p F m := by
  refine ⟨n.low, fun z hz e => ?_, ?_⟩
  · rcases List.mem_append.mp hz with q | q
    · exact n.up z q e
    · have : z = y := by simpa using q
      rw [this] at e
      exact absurd e c
  · rcases n.is with q | ⟨z, hz, q⟩
    · exact .inl q
    · exact .inr ⟨z, List.mem_append_left _ hz, q⟩
theorem now_take {T' : List (Nat × Nat × Nat × Nat)} {p : Nat} {F : Nat → Int} {m : Int} (n : Now T' p F m) {y : Nat × Nat × Nat × Nat} (c : y.2.1 = p) : Now (T' ++ [y]) p F (mx2 (mx2 m (y.2.2.1 : Int)) (F y.1)) := by
  have h1 : m ≤ mx2 (mx2 m (y.2.2.1 : Int)) (F y.1) := by unfold mx2; split <;> split <;> omega
  have h2 : (y.2.2.1 : Int) ≤ mx2 (mx2 m (y.2.2.1 : Int)) (F y.1) := by unfold mx2; split <;> split <;> omega
  have h3 : F y.1 ≤ mx2 (mx2 m (y.2.2.1 : Int)) (F y.1) := by unfold mx2; split <;> split <;> omega
  have h4 : mx2 (mx2 m (y.2.2.1 : Int)) (F y.1) = m ∨ mx2 (mx2 m (y.2.2.1 : Int)) (F y.1) = (y.2.2.1 : Int) ∨ mx2 (mx2 m (y.2.2.1 : Int)) (F y.1) = F y.1 := by unfold mx2; split <;> split <;> omega
  have low := n.low
  refine ⟨by omega, fun z hz e => ?_, ?_⟩
  · rcases List.mem_append.mp hz with q | q
    · have := n.up z q e
      omega
    · have : z = y := by simpa using q
      subst this
      exact ⟨h2, h3⟩
  · rcases h4 with q | q | q
    · rw [q]
      rcases n.is with r | ⟨z, hz, r⟩
      · exact .inl r
      · exact .inr ⟨z, List.mem_append_left _ hz, r⟩
    · exact .inr ⟨y, by simp, c, .inl q⟩
    · exact .inr ⟨y, by simp, c, .inr q⟩
theorem moments_more {T : List (Nat × Nat × Nat × Nat)} {p : List Nat} (nd : p.Nodup) (io : InOrder T p) {i t : Nat} (ht : p[i]? = some t) {F : Nat → Int} (M : Moments T (p.take i) F) {m : Int} (n : Now T t F m) : Moments T (p.take (i + 1)) (fun z => if z = t then m else F z) := by
  have nt : t ∉ p.take i := fun z => by
    obtain ⟨j, hj, e⟩ := mem_taken.mp z
    have := nodup_ix nd e ht
    omega
  have fst : ∀ y ∈ T, y.2.1 ∈ p.take (i + 1) → y.1 ∈ p.take i ∧ y.1 ≠ t := fun y hy q => by
    obtain ⟨a, b, ab, ea, eb⟩ := io y hy
    obtain ⟨j, hj, e⟩ := mem_taken.mp q
    have := nodup_ix nd e eb
    have h1 : y.1 ∈ p.take i := mem_taken.mpr ⟨a, by omega, ea⟩
    exact ⟨h1, fun z => nt (z ▸ h1)⟩
  have pre : ∀ z, z ∈ p.take (i + 1) ↔ z ∈ p.take i ∨ z = t := fun z => by
    rw [take_snoc ht, List.mem_append]
    simp
  refine ⟨fun z hz => ?_, fun y hy q => ?_, fun z hz => ?_⟩
  · by_cases c : z = t
    · show -1 ≤ if z = t then m else F z
      rw [if_pos c]
      exact n.low
    · show -1 ≤ if z = t then m else F z
      rw [if_neg c]
      exact M.low z (((pre z).mp hz).resolve_right c)
  · obtain ⟨f1, f2⟩ := fst y hy q
    show (y.2.2.1 : Int) ≤ (if y.2.1 = t then m else F y.2.1) ∧ (if y.1 = t then m else F y.1) ≤ (if y.2.1 = t then m else F y.2.1)
    rw [if_neg f2]
    by_cases c : y.2.1 = t
    · rw [if_pos c]
      exact n.up y hy c
    · rw [if_neg c]
      exact M.up y hy (((pre _).mp q).resolve_right c)
  · show (if z = t then m else F z) = -1 ∨ ∃ y ∈ T, y.2.1 = z ∧ ((if z = t then m else F z) = (y.2.2.1 : Int) ∨ (if z = t then m else F z) = if y.1 = t then m else F y.1)
    by_cases c : z = t
    · rw [if_pos c]
      rcases n.is with r | ⟨y, hy, e, r⟩
      · exact .inl r
      · have f := fst y hy (by rw [e, ← c]; exact hz)
        refine .inr ⟨y, hy, e.trans c.symm, ?_⟩
        rw [if_neg f.2]
        exact r
    · rw [if_neg c]
      have hz' := ((pre z).mp hz).resolve_right c
      rcases M.is z hz' with r | ⟨y, hy, e, r⟩
      · exact .inl r
      · have f := fst y hy (by rw [e]; exact hz)
        refine .inr ⟨y, hy, e, ?_⟩
        rw [if_neg f.2]
        exact r
section
variable {P : Program} {w : World} {K : PySem.W.Frag} {mg : Str → Option Value} {base : Heap}
/-! ### after_all -/
abbrev sAfterAll : Stmt := top 25
theorem scAfterAll : FnScope ["turns", "order", "found", "person", "first", "second", "last", "begin"] ["turns", "order"] (defScope sAfterAll) := ⟨rfl, rfl, rfl, by decide +kernel, rfl, by decide +kernel, by decide +kernel⟩
/-- turns of four at a, an order at b -/
structure TurnsAt (K : PySem.W.Frag) (H : Hp) (a b : Addr) (xs : List V) (T : List (Nat × Nat × Nat × Nat)) (p : List Nat) : Prop where
  sa : SqL K H a xs
  ts : Paired (TupAt H) xs (T.map l4)
  sb : SqL K H b (vs p)
  nd : p.Nodup
  io : InOrder T p
  few : p.length ≤ 6
theorem TurnsAt.mono {H H' : Hp} {a b : Addr} {xs : List V} {T : List (Nat × Nat × Nat × Nat)} {p : List Nat} (e : Ex H H') (t : TurnsAt K H a b xs T p) : TurnsAt K H' a b xs T p := ⟨ex_l e t.sa, L2.Paired.mapP t.ts fun _ _ r => r.mono e, ex_l e t.sb, t.nd, t.io, t.few⟩
theorem TurnsAt.get {H : Hp} {a b : Addr} {xs : List V} {T : List (Nat × Nat × Nat × Nat)} {p : List Nat} (t : TurnsAt K H a b xs T p) {i : Nat} {x : V} (hi : xs[i]? = some x) : ∃ y c, T[i]? = some y ∧ x = .ref c ∧ H c = some (.tup [vi y.1, vi y.2.1, vi y.2.2.1, vi y.2.2.2]) := by
  obtain ⟨l, hl, c, rfl, hc⟩ := pget t.ts hi
  rw [List.getElem?_map] at hl
  cases e : T[i]? with
  | none => rw [e] at hl; cases hl
  | some y =>
    rw [e] at hl
    have : l4 y = l := Option.some.inj hl
    subst this
    exact ⟨y, c, rfl, rfl, hc⟩
def RAfter (T : List (Nat × Nat × Nat × Nat)) (p : List Nat) (v : V) (H : Hp) : Prop := ∃ d kd F, v = .ref d ∧ H d = some (.dK kd) ∧ Told kd p F ∧ Moments T p F
theorem RAfter.mono {T : List (Nat × Nat × Nat × Nat)} {p : List Nat} {v : V} {H H' : Hp} (e : Ex H H') (r : RAfter T p v H) : RAfter T p v H' := by
  obtain ⟨d, kd, F, h1, h2, h3⟩ := r
  exact ⟨d, kd, F, h1, e _ _ h2, h3⟩
def spAfter (K : PySem.W.Frag) : Sp := fun vs' H Q _ => ∃ (a b : Addr) (xs : List V) (T : List (Nat × Nat × Nat × Nat)) (p : List Nat), vs' = [.ref a, .ref b] ∧ TurnsAt K H a b xs T p ∧ RetR (RAfter T p) H Q
theorem ok_after {f : Addr} {fd : FuncData} (F : Fun K "after_all" "after_all" sAfterAll f fd) (T : Txt mg) : FnOk P w K mg base CX0 1 f fd ["turns", "order"] (spAfter K) := by
  refine F.ok scAfterAll (fun vs H Q E h => ?_) (fun cdv A outer s H vs Q E hr h => ?_)
  · obtain ⟨a, b, xs, T, p, rfl, _⟩ := h
    rfl
  · obtain ⟨a, b, xs, Tu, p, rfl, t, ret⟩ := h
    have hu := hu_of hr
    refine ⟨_, (pss_cons (ps_set (i := 2) scAfterAll.nd rfl (Or.inl rfl) pe_dnewK)
      (pss_cons (ps_for PassesOwn.never rfl (pi_list (pv 1)) (pg_name (i := 3) scAfterAll.nd rfl (Or.inl rfl)) (pss_cons (ps_dput hu (pv 2) (pv 3) (pe_un un_neg pe_int) rfl)
      (pss_one (ps_for PassesOwn.never rfl (pi_list (pv 0)) (pg_tup rfl (pgs_cons (pg_name (i := 4) scAfterAll.nd rfl (Or.inl rfl)) (pgs_cons (pg_name (i := 5) scAfterAll.nd rfl (Or.inl rfl)) (pgs_cons (pg_name (i := 6) scAfterAll.nd rfl (Or.inl rfl)) (pgs_cons (pg_name (i := 7) scAfterAll.nd rfl (Or.inl rfl)) pgs_nil))))) (pss_one (ps_if (pt_cmpR op_eq (pv 5) (pv 3) (nomark _)) (pss_one (ps_dput hu (pv 2) (pv 3) (pe_callB (call_max3Nu rfl) (by rfl) T.n_max (by decide +kernel) (pa_cons (pe_dget hu (pv 2) (pv 3) (fun _ _ => rfl)) (pa_cons (pv 6) (pa_cons (pe_dget hu (pv 2) (pv 4) (fun _ _ => rfl)) pa_nil)))) rfl)) pss_nil))))))
      (pss_one (ps_ret (pv 2))))), ?_⟩
    refine q_asgK fun d H1 hd e1 h1 => ?_
    refine q_forLn (ev_var rfl) (ex_l e1 t.sb) (fun i σ' H' => ∃ u1 u2 u3 u4 u5, σ' = [some (.ref a), some (.ref b), some (.ref d), u1, u2, u3, u4, u5] ∧ Ex H H' ∧ ∃ kd F, H' d = some (.dK kd) ∧ kd.length ≤ i ∧ Told kd (p.take i) F ∧ Moments Tu (p.take i) F)
      (fun H2 e2 => ⟨none, none, none, none, none, rfl, e1.trans e2, [], fun _ => -1, e2 _ _ h1, Nat.le_refl _, (fun z hz => by cases hz), ⟨(fun z hz => by cases hz), (fun y _ hz => by cases hz), (fun z hz => by cases hz)⟩⟩) (fun i σ' H' _ ⟨_, _, _, _, _, _, e, _⟩ => ex_l e t.sb)
      (fun i x σ' H' hi ⟨u1, u2, u3, u4, u5, hσ, e, kd, G, hd', ld, told, M⟩ => ?_) (fun σ' H' ⟨u1, u2, u3, u4, u5, hσ, e, kd, G, hd', ld, told, M⟩ => ?_)
    · subst hσ
      obtain ⟨z, hz, rfl⟩ := vs_get hi
      have i6 : i < 6 := Nat.lt_of_lt_of_le (List.getElem?_eq_some_iff.mp hz).1 t.few
      have nz : z ∉ p.take i := fun q => by
        obtain ⟨j, hj, ej⟩ := mem_taken.mp q
        have := nodup_ix t.nd ej hz
        omega
      refine q_dput hd' (ev_un ev_c ru_neg) (ev_var rfl) (ev_var rfl) (by omega) fun H2 e2 => ?_
      have other : ∀ {kd : List (Key × V)} (v : V), Told kd (p.take i) G → Told (putK kd (keyX z) v) (p.take i) G := fun v q c hc => by
        rw [valV_put, if_neg fun (w : keyX c = keyX z) => nz (by rw [← keyX_inj w]; exact hc)]
        exact q c hc
      refine s_forL (K := K) (xs := xs) (ev_var rfl) (ex_l (Ex.mut (e.trans e2) hd) t.sa) (fun j σ2 H2 => ∃ u2 u3 u4 u5, σ2 = [some (.ref a), some (.ref b), some (.ref d), some (vi z), u2, u3, u4, u5] ∧ Ex H H2 ∧ ∃ kd m, H2 d = some (.dK kd) ∧ kd.length ≤ i + 1 ∧ Told kd (p.take i) G ∧ valV kd (keyX z) = some (.int m) ∧ Now (Tu.take j) z G m)
        (fun H3 e3 => ⟨u2, u3, u4, u5, rfl, (Ex.mut (e.trans e2) hd).trans e3, _, -1, e3 _ _ upd_same, Nat.le_trans (putK_le _ _ _) (by omega), other _ told, by rw [show (Sum.inl (z : Int) : Key) = keyX z from rfl, valV_put, if_pos rfl], now_zero z G⟩) (fun j σ2 H2 _ ⟨_, _, _, _, _, e, _⟩ => ex_l e t.sa)
        (fun j y σ2 H2 hj ⟨u2, u3, u4, u5, hσ2, e2, kd, m, hd2, ld2, told2, hm, now⟩ => ?_) (fun σ2 H2 ⟨u2, u3, u4, u5, hσ2, e2, kd, m, hd2, ld2, told2, hm, now⟩ => ?_)
      · subst hσ2
        obtain ⟨y, c, hy, rfl, hc⟩ := (t.mono e2).get hj
        refine ⟨c, _, rfl, st_of hc, rfl, _, _, rfl, _, _, rfl, _, _, rfl, _, _, rfl, rfl, ?_⟩
        refine s_when (et_eqI (ev_var rfl) (ev_var rfl)) (fun cc H3 e3 => ?_) (fun cc H3 e3 => ?_)
        · have cc : y.2.1 = z := by
            have := of_decide_eq_true cc
            omega
          have fy : y.1 ∈ p.take i := by
            obtain ⟨i', j', ij, ei, ej⟩ := t.io y (List.mem_of_getElem? hy)
            rw [cc] at ej
            have := nodup_ix t.nd ej hz
            exact mem_taken.mpr ⟨i', by omega, ei⟩
          have hd3 := e3 _ _ hd2
          refine s_dput hd3 (ev_max3 (ev_dget hd3 (ev_var rfl) (ev_var rfl) hm) (ev_var rfl) (ev_dget hd3 (ev_var rfl) (ev_var rfl) (told2 _ fy))) (ev_var rfl) (ev_var rfl) (by omega) fun H4 e4 => ?_
          refine ⟨_, _, _, _, rfl, Ex.mut ((e2.trans e3).trans e4) hd, _, _, upd_same, ?_, other _ told2, by rw [show (Sum.inl (z : Int) : Key) = keyX z from rfl, valV_put, if_pos rfl], ?_⟩
          · have : (kd.any fun kv => decide (kv.1 = keyX z)) = true := by
              rw [valV_any, hm]
              rfl
            have e0 : (putK kd (keyX z) (.int (mx2 (mx2 m (y.2.2.1 : Int)) (G y.1)))).length = kd.length := by
              unfold putK
              rw [if_pos this, List.length_map]
            show (putK kd (keyX z) (.int (mx2 (mx2 m (y.2.2.1 : Int)) (G y.1)))).length ≤ i + 1
            omega
          · rw [take_snoc hy]
            exact now_take now cc
        · have cc : y.2.1 ≠ z := by
            have := of_decide_eq_false cc
            omega
          refine ⟨_, _, _, _, rfl, e2.trans e3, kd, m, e3 _ _ hd2, ld2, told2, hm, ?_⟩
          rw [take_snoc hy]
          exact now_skip now cc
      · subst hσ2
        have lT : xs.length = Tu.length := by
          have := Paired.length t.ts
          rw [List.length_map] at this
          exact this
        rw [lT, List.take_length] at now
        refine ⟨_, _, _, _, _, rfl, e2, kd, fun c => if c = z then m else G c, hd2, ld2, fun c hc => ?_, moments_more t.nd t.io hz M now⟩
        show valV kd (keyX c) = some (.int (if c = z then m else G c))
        by_cases q : c = z
        · rw [if_pos q, q]
          exact hm
        · rw [if_neg q]
          rw [take_snoc hz, List.mem_append] at hc
          exact told2 c (hc.resolve_right fun w => q (by simpa using w))
    · subst hσ
      rw [vs_len, List.take_length] at told M
      exact s_ret (ev_var rfl) fun H2 e2 => ret _ H2 (e.trans e2) ⟨d, kd, G, rfl, e2 _ _ hd', told, M⟩
/-! ### have_moments -/
abbrev sHaveMoments : Stmt := top 26
theorem scHaveMoments : FnScope ["turns", "order", "behind", "first", "second", "last", "begin"] ["turns", "order"] (defScope sHaveMoments) := ⟨rfl, rfl, rfl, by decide +kernel, rfl, by decide +kernel, by decide +kernel⟩
def spHave (K : PySem.W.Frag) : Sp := fun vs' H Q _ => ∃ (a b : Addr) (xs : List V) (T : List (Nat × Nat × Nat × Nat)) (p : List Nat), vs' = [.ref a, .ref b] ∧ TurnsAt K H a b xs T p ∧ RetR (fun v _ => ∃ F, Moments T p F ∧ v = .bl (T.all fun y => decide (F y.1 < (y.2.2.2 : Int)))) H Q
theorem ok_have {f : Addr} {fd : FuncData} (F : Fun K "have_moments" "have_moments" sHaveMoments f fd) (T : Txt mg) (oAfterAll : Ok P w K mg base "after_all" ["turns", "order"] 1 (spAfter K)) : FnOk P w K mg base CX0 2 f fd ["turns", "order"] (spHave K) := by
  refine F.ok scHaveMoments (fun vs H Q E h => ?_) (fun cdv A outer s H vs Q E hr h => ?_)
  · obtain ⟨a, b, xs, T, p, rfl, _⟩ := h
    rfl
  · obtain ⟨a, b, xs, Tu, p, rfl, t, ret⟩ := h
    have hu := hu_of hr
    refine ⟨_, (pss_cons (ps_set (i := 2) scHaveMoments.nd rfl (Or.inl rfl) (pe_def oAfterAll hr (pa_cons (pv 0) (pa_cons (pv 1) pa_nil))))
      (pss_cons (ps_for PassesOwn.never rfl (pi_list (pv 0)) (pg_tup rfl (pgs_cons (pg_name (i := 3) scHaveMoments.nd rfl (Or.inl rfl)) (pgs_cons (pg_name (i := 4) scHaveMoments.nd rfl (Or.inl rfl)) (pgs_cons (pg_name (i := 5) scHaveMoments.nd rfl (Or.inl rfl)) (pgs_cons (pg_name (i := 6) scHaveMoments.nd rfl (Or.inl rfl)) pgs_nil))))) (pss_one (ps_if (pt_cmpR op_ge (pe_dget hu (pv 2) (pv 3) (fun _ _ => rfl)) (pv 6) (nomark _)) (pss_one (ps_ret pe_bl)) pss_nil)))
      (pss_one (ps_ret pe_bl)))), ?_⟩
    refine q_asgR (er_call (ea_cons (ev_var rfl) (ea_cons (ev_var rfl) ea_nil)) fun H1 e1 Q1 q1 E1 => ⟨a, b, xs, Tu, p, rfl, t.mono e1, q1⟩) fun v0 H1 e1 r1 => ?_
    obtain ⟨d, kd, G, rfl, hd, told, M⟩ := r1
    refine q_forL (ev_var rfl) (ex_l e1 t.sa) (fun i σ' H' => ∃ u1 u2 u3 u4, σ' = [some (.ref a), some (.ref b), some (.ref d), u1, u2, u3, u4] ∧ Ex H1 H' ∧ ∀ (j : Nat) (y : Nat × Nat × Nat × Nat), j < i → Tu[j]? = some y → G y.1 < (y.2.2.2 : Int)) (fun H2 e2 => ⟨none, none, none, none, rfl, e2, fun j y hj => absurd hj (Nat.not_lt_zero j)⟩) (fun i σ' H' _ ⟨_, _, _, _, _, e, _⟩ => ex_l (e1.trans e) t.sa)
      (fun i x σ' H' hi ⟨u1, u2, u3, u4, hσ, e, no⟩ => ?_) (fun σ' H' ⟨u1, u2, u3, u4, hσ, e, no⟩ => ?_)
    · subst hσ
      obtain ⟨y, c, hy, rfl, hc⟩ := (t.mono (e1.trans e)).get hi
      have fy : y.1 ∈ p := by
        obtain ⟨i', j', ij, ei, ej⟩ := t.io y (List.mem_of_getElem? hy)
        exact List.mem_of_getElem? ei
      refine ⟨c, _, rfl, st_of hc, rfl, _, _, rfl, _, _, rfl, _, _, rfl, _, _, rfl, rfl, ?_⟩
      refine s_when (et_test (ev_op (ev_dget (e _ _ hd) (ev_var rfl) (ev_var rfl) (told _ fy)) (ev_var rfl) rv_I0)) (fun cc H3 e3 => ?_) (fun cc H3 e3 => ?_)
      · have cc : (y.2.2.2 : Int) ≤ G y.1 := of_decide_eq_true cc
        have af : (Tu.all fun y => decide (G y.1 < (y.2.2.2 : Int))) = false := by
          cases q : Tu.all fun y => decide (G y.1 < (y.2.2.2 : Int)) with
          | false => rfl
          | true =>
            have := of_decide_eq_true (List.all_eq_true.mp q y (List.mem_of_getElem? hy))
            omega
        exact s_ret ev_c fun H4 e4 => ret _ H4 (((e1.trans e).trans e3).trans e4) ⟨G, M, by rw [af]⟩
      · have cc : ¬ (y.2.2.2 : Int) ≤ G y.1 := of_decide_eq_false cc
        refine ⟨_, _, _, _, rfl, e.trans e3, fun j y' hj hy' => ?_⟩
        rcases Nat.lt_or_ge j i with q | q
        · exact no j y' q hy'
        · have : j = i := by omega
          subst this
          rw [hy] at hy'
          cases hy'
          omega
    · subst hσ
      have lT : xs.length = Tu.length := by
        have := Paired.length t.ts
        rw [List.length_map] at this
        exact this
      have at_ : (Tu.all fun y => decide (G y.1 < (y.2.2.2 : Int))) = true := by
        refine List.all_eq_true.mpr fun y hy => decide_eq_true ?_
        obtain ⟨j, hj⟩ := List.mem_iff_getElem?.mp hy
        exact no j y (by rw [lT]; exact (List.getElem?_eq_some_iff.mp hj).1) hj
      exact s_ret ev_c fun H4 e4 => ret _ H4 ((e1.trans e).trans e4) ⟨G, M, by rw [at_]⟩
end
end SM

namespace SM
open PySem PySem.Spec PyProof.Rows L2 Evl
open Rc98 (Mix)
def two0 (l : List Nat) : List Nat := [l.getD 0 0, l.getD 1 0]
theorem two0_map (T : List (Nat × Nat × Nat × Nat)) : (T.map l4).map two0 = (prs T).map pl := by
  unfold prs
  rw [List.map_map, List.map_map]
  rfl
theorem pairs_tups {H : Hp} : ∀ {xs : List V} {ps : List (Nat × Nat)}, Paired (TupAt H) xs (ps.map pl) → PairsL H xs ps
  | [], [], _ => .nil
  | _ :: _, _ :: _, .cons h t => .cons h (pairs_tups t)
theorem keeps_order {T : List (Nat × Nat × Nat × Nat)} {p : List Nat} (h : ∀ y ∈ T, y.2.1 ∈ p ∧ p.idxOf y.1 < p.idxOf y.2.1) : InOrder T p := fun y hy => by
  obtain ⟨m, lt⟩ := h y hy
  have l2 : p.idxOf y.2.1 < p.length := List.idxOf_lt_length_of_mem m
  have l1 : p.idxOf y.1 < p.length := by omega
  refine ⟨_, _, lt, ?_, ?_⟩
  · rw [List.getElem?_eq_getElem l1, List.getElem_idxOf l1]
  · rw [List.getElem?_eq_getElem l2, List.getElem_idxOf l2]
section
variable {P : Program} {w : World} {K : PySem.W.Frag} {mg : Str → Option Value} {base : Heap}
/-! ### locks_let -/
abbrev sLocksLet : Stmt := top 27
theorem scLocksLet : FnScope ["steps", "turns", "pairs", "order", "turn"] ["steps"] (defScope sLocksLet) := ⟨rfl, rfl, rfl, by decide +kernel, rfl, by decide +kernel, by decide +kernel⟩
def spLocks (K : PySem.W.Frag) : Sp := fun vs' H Q _ => ∃ (a : Addr) (xs : List V) (h : Mix), vs' = [.ref a] ∧ MixAt K H a xs h ∧ RetV (.bl (Rc98.twoPhase h)) H Q
theorem ok_locks {f : Addr} {fd : FuncData} (F : Fun K "locks_let" "locks_let" sLocksLet f fd) (T : Txt mg) (oAllTurns : Ok P w K mg base "all_turns" ["steps"] 5 (spTurns K)) (oAllOrders : Ok P w K mg base "all_orders" ["people"] 2 (spAll K)) (oPeopleOf : Ok P w K mg base "people_of" ["steps"] 1 (spPeople K))
    (oKeeps : Ok P w K mg base "keeps" ["order", "pairs"] 1 (spKeeps K)) (oHaveMoments : Ok P w K mg base "have_moments" ["turns", "order"] 2 (spHave K)) : FnOk P w K mg base CX0 6 f fd ["steps"] (spLocks K) := by
  refine F.ok scLocksLet (fun vs H Q E h => ?_) (fun cdv A outer s H vs Q E hr h => ?_)
  · obtain ⟨a, xs, h, rfl, _⟩ := h
    rfl
  · obtain ⟨a, xs, h, rfl, m, ret⟩ := h
    have hu65 := (hr.in1).units
    refine ⟨_, (pss_cons (ps_set (i := 1) scLocksLet.nd rfl (Or.inl rfl) (pe_def oAllTurns hr (pa_cons (pv 0) pa_nil)))
      (pss_cons (ps_if (pt_cmpR (op_inD hu65) (pe_tup pa_nil) (pv 1) (by with_unfolding_all rfl)) (pss_one (ps_ret pe_bl)) pss_nil)
      (pss_cons (ps_setLc (i := 2) (own := [("turn", 4)]) rfl scLocksLet.nd rfl rfl (sw_true rfl rfl rfl (by decide +kernel)) (pi_list (pv 1)) (blkOk_by (own := [("turn", 4)]) (N := ["steps", "turns", "pairs", "order", "turn"]) (sc := defScope sLocksLet) (by decide +kernel)) (fun _ _ _ _ _ => pg_name (i := 4) scLocksLet.nd rfl (Or.inl rfl)) (fun _ _ _ _ _ => pts_nil) (fun _ _ _ _ _ => (pe_tup (pa_cons (pe_ix (ix_tupB (K := K) rfl) (pv 4) pe_int (fun _ _ => rfl)) (pa_cons (pe_ix (ix_tupB (K := K) rfl) (pv 4) pe_int (fun _ _ => rfl)) pa_nil)))))
      (pss_cons (ps_for PassesOwn.never rfl (pi_list (pe_def oAllOrders hr (pa_cons (pe_def oPeopleOf hr (pa_cons (pv 0) pa_nil)) pa_nil))) (pg_name (i := 3) scLocksLet.nd rfl (Or.inl rfl)) (pss_one (ps_if (pt_val (pe_def oKeeps hr (pa_cons (pv 3) (pa_cons (pv 2) pa_nil)))) (pss_one (ps_ret (pe_def oHaveMoments hr (pa_cons (pv 1) (pa_cons (pv 3) pa_nil))))) pss_nil)))
      (pss_one (ps_ret pe_bl)))))), ?_⟩
    refine q_asgR (er_call (ea_cons (ev_var rfl) ea_nil) fun H1 e1 Q1 q1 E1 => ⟨a, xs, h, rfl, m.mono e1, q1⟩) fun v0 H1 e1 r1 => ?_
    obtain ⟨⟨c, ys, rfl, hc, hy⟩, len⟩ := r1
    refine q_when (et_test (ev_opU1 (eu_tup ea_nil (by show 0 ≤ 100000; decide)) (ev_var rfl) fun p H2 hp e2 => rv_inT2 (K := K) (q := []) hp (e2 _ _ hc) (L2.Paired.mapP hy fun _ _ r => r.mono e2))) (fun cc H2 e2 => ?_) (fun cc H2 e2 => ?_)
    · rw [empty_turn m.good (List.contains_iff_mem.mp cc)] at ret
      exact s_ret ev_c fun H3 e3 => ret H3 ((e1.trans e2).trans e3)
    · have no : [] ∉ allTurns h := fun z => by
        rw [List.contains_iff_mem.mpr z] at cc
        cases cc
      obtain ⟨b, hb, ha, hT⟩ := edges_there m.good no
      rw [ha] at hy len
      rw [List.length_map] at len
      generalize four h = Tu at ha hT hy len
      have hy2 := L2.Paired.mapP hy fun _ _ r => r.mono e2
      refine q_asgR (er_lcT (K := K) (H := H2) (a := c) (xs := ys) (ls := Tu.map l4) two0 (ev_var rfl) (sq_of (e2 _ _ hc)) hy2 (by have := Paired.length hy; rw [List.length_map] at this; omega) (fun x => rfl) (fun x l H3 hl hx => by
        obtain ⟨y, _, rfl⟩ := List.mem_map.mp hl
        obtain ⟨d, rfl, hd⟩ := hx
        exact eu_tup (ea_cons (ev_op (ev_var rfl) ev_c (rv_ixT (K := K) (v := vi y.1) (st_of hd) rfl)) (ea_cons (ev_op (ev_var rfl) ev_c (rv_ixT (K := K) (v := vi y.2.1) (st_of hd) rfl)) ea_nil)) (by show 2 ≤ 100000; decide))) fun v1 H3 e3 r3 => ?_
      obtain ⟨pa, zs, rfl, hpa, hzs⟩ := r3
      rw [two0_map] at hzs
      have hzs := pairs_tups hzs
      have e03 := (e1.trans e2).trans e3
      refine q_forR (er_orders (m.mono e03) rfl) fun v2 H4 e4 r4 => ?_
      obtain ⟨oa, os, rfl, ho, hos⟩ := r4
      refine ⟨oa, os, rfl, sq_of ho, fun i σ' H' => ∃ u1 u2, σ' = [some (.ref a), some (.ref c), some (.ref pa), u1, u2] ∧ Ex H4 H' ∧ ∀ (j : Nat) (p : List Nat), j < i → (Rc98.all_ h)[j]? = some p → keepsB p (prs Tu) = false, ⟨none, none, rfl, Ex.refl _, fun j p hj => absurd hj (Nat.not_lt_zero j)⟩, fun i σ' H' _ ⟨_, _, _, e, _⟩ => sq_of (e _ _ ho), fun i x σ' H' hi ⟨u1, u2, hσ, e, nk⟩ => ?_, fun σ' H' ⟨u1, u2, hσ, e, nk⟩ => ?_⟩
      · subst hσ
        obtain ⟨p, hp, ⟨d, rfl, hd⟩⟩ := pget hos hi
        have hpm := mem_all.mp (List.mem_of_getElem? hp)
        have memb : ∀ q ∈ prs Tu, q.1 ∈ p ∧ q.2 ∈ p := fun q hq => by
          obtain ⟨y, hy, rfl⟩ := List.mem_map.mp hq
          obtain ⟨z, hz, rfl⟩ := (hT y).mp hy
          have w := edge_who m.good hb hz
          exact ⟨hpm.mem_iff.mpr w.1, hpm.mem_iff.mpr w.2.1⟩
        refine s_when (et_B (ev_call (ea_cons (ev_var rfl) (ea_cons (ev_var rfl) ea_nil)) fun H5 e5 Q5 q5 E5 => ⟨d, pa, p, zs, prs Tu, rfl, sq_of ((e.trans e5) _ _ hd), sq_of ((e4.trans (e.trans e5)) _ _ hpa), hzs.mono (e4.trans (e.trans e5)), memb, q5⟩)) (fun ck H5 e5 => ?_) (fun ck H5 e5 => ?_)
        · have kp := (keeps_iff m.good hb hT hpm).mp ck
          have e15 : Ex H1 H5 := (((e2.trans e3).trans e4).trans e).trans e5
          refine s_retR (er_call (R := fun v _ => ∃ F, Moments Tu p F ∧ v = .bl (Tu.all fun y => decide (F y.1 < (y.2.2.2 : Int)))) (ea_cons (ev_var rfl) (ea_cons (ev_var rfl) ea_nil)) fun H6 e6 Q6 q6 E6 => ⟨c, d, ys, Tu, p, rfl, ⟨sq_of ((e15.trans e6) _ _ hc), L2.Paired.mapP hy fun _ _ r => r.mono (e15.trans e6), sq_of (((e.trans e5).trans e6) _ _ hd), hpm.nodup_iff.mpr (who_nodup h), keeps_order fun y hy => ?_, by rw [hpm.length_eq]; exact who_len h⟩, q6⟩) fun v H6 e6 r => ?_
          · obtain ⟨z, hz, rfl⟩ := (hT y).mp hy
            exact ⟨hpm.mem_iff.mpr (edge_who m.good hb hz).2.1, kp z hz⟩
          · obtain ⟨G, M, rfl⟩ := r
            rw [two_is m.good hb hpm kp hT M] at ret
            exact ret H6 ((e1.trans e15).trans e6)
        · refine ⟨_, _, rfl, e.trans e5, fun j p' hj hp' => ?_⟩
          rcases Nat.lt_or_ge j i with q | q
          · exact nk j p' q hp'
          · have : j = i := by omega
            subst this
            rw [hp] at hp'
            cases hp'
            exact ck
      · subst hσ
        have tn : Rc98.twoPhase h = false := two_no m.good hb fun p hp kp => by
          obtain ⟨j, hj⟩ := List.mem_iff_getElem?.mp (mem_all.mpr hp)
          have q := nk j p (by rw [Paired.length hos]; exact (List.getElem?_eq_some_iff.mp hj).1) hj
          rw [(keeps_iff m.good hb hT hp).mpr kp] at q
          cases q
        rw [tn] at ret
        exact s_ret ev_c fun H5 e5 => ret H5 (((e03.trans e4).trans e).trans e5)
/-! ### writer_seen -/
abbrev sWriterSeen : Stmt := top 29
theorem scWriterSeen : FnScope ["steps", "at", "found", "step"] ["steps", "at"] (defScope sWriterSeen) := ⟨rfl, rfl, rfl, by decide +kernel, rfl, by decide +kernel, by decide +kernel⟩
def spWriter (K : PySem.W.Frag) : Sp := fun vs' H Q _ => ∃ (a : Addr) (xs : List V) (h : Mix) (j : Nat) (s : Stp), vs' = [.ref a, vi j] ∧ MixAt K H a xs h ∧ h[j]? = some s ∧ RetV (optV (writerSeen h j s)) H Q
theorem ev_at {σ : L2.St} {H : Hp} {ta tb : TE} {a : Addr} {xs : List V} {j : Nat} {v : V} (h1 : Ev ta σ H (.ref a)) (hx : SqL K H a xs) (h2 : Ev tb σ H (vi j)) (hj : xs[j]? = some v) : Ev (tOp (rIxL K) ta tb) σ H v := ev_op h1 h2 (rv_ixL hx (atI_nat hj))
theorem wr_by {s : Rc98.Step} {x : Nat} {xx yy : Int} (hx : s.what ≠ 2 → xx = (s.x : Int)) (hy : yy = (x : Int)) : (decide ((s.what : Int) = 1) && decide (xx = yy)) = (Rc98.writes s && s.x == x) := by
  unfold Rc98.writes
  rw [Bool.eq_iff_iff]
  simp only [Bool.and_eq_true, decide_eq_true_eq, beq_iff_eq]
  constructor
  · rintro ⟨h1, h2⟩
    have := hx (by omega)
    omega
  · rintro ⟨h1, h2⟩
    have := hx (by omega)
    omega
theorem ok_writer {f : Addr} {fd : FuncData} (F : Fun K "writer_seen" "writer_seen" sWriterSeen f fd) (T : Txt mg) : FnOk P w K mg base CX0 1 f fd ["steps", "at"] (spWriter K) := by
  refine F.ok scWriterSeen (fun vs H Q E h => ?_) (fun cdv A outer s H vs Q E hr h => ?_)
  · obtain ⟨a, xs, h, j, s, rfl, _⟩ := h
    rfl
  · obtain ⟨a, xs, h, j, s1, rfl, m, hs, ret⟩ := h
    refine ⟨_, (pss_cons (ps_if (pt_cmpR op_ne (pe_ix ix_tup (pe_ix ix_list (pv 0) (pv 1) (fun _ _ => rfl)) pe_int (fun _ _ => rfl)) (pe_ci T.cREAD) (nomark _)) (pss_one (ps_ret pe_non)) pss_nil)
      (pss_cons (ps_set (i := 2) scWriterSeen.nd rfl (Or.inl rfl) pe_non)
      (pss_cons (ps_for PassesOwn.never rfl (pi_list (pe_slice sl_list (pv 0) po_none (po_some (pv 1)))) (pg_name (i := 3) scWriterSeen.nd rfl (Or.inl rfl)) (pss_one (ps_if ((pw_and (pt_cmpR op_eq (pe_ix ix_tup (pv 3) pe_int (fun _ _ => rfl)) (pe_ci T.cWRITE) (nomark _)) (pw_and1 (pt_cmpR op_eq (pe_ix ix_tup (pv 3) pe_int (fun _ _ => rfl)) (pe_ix ix_tup (pe_ix ix_list (pv 0) (pv 1) (fun _ _ => rfl)) pe_int (fun _ _ => rfl)) (nomark _))))).pt (pss_one (ps_set (i := 2) scWriterSeen.nd rfl (Or.inl rfl) (pe_ix ix_tup (pv 3) pe_int (fun _ _ => rfl)))) pss_nil)))
      (pss_one (ps_ret (pv 2)))))), ?_⟩
    obtain ⟨v, hv, ⟨b, xx, rfl, hb, hx⟩⟩ := pget' m.mix hs
    refine q_when (et_neI (ev_f1 (ev_at (ev_var rfl) m.sq (ev_var rfl) hv) hb) ev_c) (fun c H1 e1 => ?_) (fun c H1 e1 => ?_)
    · have r : Rc98.reads s1 = false := by
        rw [Bool.not_eq_true', decide_eq_false_iff_not] at c
        unfold Rc98.reads
        simp
        omega
      have q : writerSeen h j s1 = none := by
        unfold writerSeen
        rw [r]
        rfl
      rw [q] at ret
      exact s_ret ev_c fun H2 e2 => ret H2 (e1.trans e2)
    · have r : (s1.what : Int) = 0 := by
        rw [Bool.not_eq_false', decide_eq_true_eq] at c
        exact c
      have r1 : Rc98.reads s1 = true := by
        unfold Rc98.reads
        simp
        omega
      have q : writerSeen h j s1 = lastW h j s1.x := by
        unfold writerSeen
        rw [r1]
        rfl
      rw [q] at ret
      have ex : xx = (s1.x : Int) := hx (by omega)
      have jn : j < h.length := (List.getElem?_eq_some_iff.mp hs).1
      refine q_asg ev_c fun H2 e2 => ?_
      have e12 := e1.trans e2
      have sl := el_sl (K := K) (H := H2) (σ := [some (.ref a), some (vi j), some .non, none]) (te := tVar 0) (tl := tNoPart) (th := tPart (tVar 1)) (a := a) (xs := xs) (lo := none) (hi := some (j : Int)) (ev_var rfl) eo_none (eo_some (ev_var rfl)) (ex_l e12 m.sq)
      rw [cut_take] at sl
      refine q_forNL sl (fun p i σ2 H3 => ∃ u, σ2 = [some (.ref a), some (vi j), some (optV (lastW h i s1.x)), u] ∧ Ex H H3 ∧ H3 p = some (.lst (xs.take j))) (fun p H3 hp e3 h3 => ⟨none, rfl, e12.trans e3, h3⟩) (fun p i σ2 H3 _ ⟨_, _, _, h3⟩ => sq_of h3)
        (fun p i y σ2 H3 hi ⟨u, hσ, e3, h3⟩ => ?_) (fun p σ2 H3 ⟨u, hσ, e3, h3⟩ => ?_)
      · subst hσ
        have ij : i < j := by
          have := (List.getElem?_eq_some_iff.mp hi).1
          rw [List.length_take] at this
          omega
        have hi' : xs[i]? = some y := by
          rw [List.getElem?_take, if_pos ij] at hi
          exact hi
        obtain ⟨s2, hs2, ⟨b2, x2, rfl, hb2, hx2⟩⟩ := pget m.mix hi'
        refine s_when (et_is (et_and (et_eqI (ev_f1 (ev_var rfl) (e3 _ _ hb2)) ev_c) fun _ => et_eqI (ev_f2 (ev_var rfl) (e3 _ _ hb2)) (ev_f2 (ev_at (ev_var rfl) (ex_l e3 m.sq) (ev_var rfl) hv) (e3 _ _ hb))) (wr_by hx2 ex)) (fun c H4 e4 => ?_) (fun c H4 e4 => ?_)
        · refine s_asg (ev_f0 (ev_var rfl) (e4 _ _ (e3 _ _ hb2))) fun H5 e5 => ?_
          refine ⟨some (.ref b2), ?_, (e3.trans e4).trans e5, (e4.trans e5) _ _ h3⟩
          rw [lastW_succ hs2, if_pos c]
          rfl
        · refine ⟨some (.ref b2), ?_, e3.trans e4, e4 _ _ h3⟩
          rw [lastW_succ hs2, if_neg (by rw [c]; exact Bool.false_ne_true)]
          rfl
      · subst hσ
        have ek : (xs.take j).length = j := by
          rw [List.length_take, m.mix.len]
          omega
        rw [ek]
        exact s_ret (ev_var rfl) fun H4 e4 => ret H4 (e3.trans e4)
/-! ### sights_of_others -/
abbrev sSightsOfOthers : Stmt := top 30
theorem scSightsOfOthers : FnScope ["steps", "found", "at", "step", "writer"] ["steps"] (defScope sSightsOfOthers) := ⟨rfl, rfl, rfl, by decide +kernel, rfl, by decide +kernel, by decide +kernel⟩
def ROthers (h : Mix) (v : V) (H : Hp) : Prop := ∃ c ys, v = .ref c ∧ H c = some (.lst ys) ∧ PairsL H ys (soTo h h.length)
def spOthers (K : PySem.W.Frag) : Sp := fun vs' H Q _ => ∃ (a : Addr) (xs : List V) (h : Mix), vs' = [.ref a] ∧ MixAt K H a xs h ∧ RetR (ROthers h) H Q
theorem PairsL.monoT {H H' : Hp} (e : ExT H H') {xs : List V} {ps : List (Nat × Nat)} (h : PairsL H xs ps) : PairsL H' xs ps := L2.Paired.mapP h fun _ _ ⟨c, h1, h2⟩ => ⟨c, h1, e _ _ h2⟩
theorem ok_others {f : Addr} {fd : FuncData} (F : Fun K "sights_of_others" "sights_of_others" sSightsOfOthers f fd) (T : Txt mg) (oWriterSeen : Ok P w K mg base "writer_seen" ["steps", "at"] 1 (spWriter K)) : FnOk P w K mg base CX0 2 f fd ["steps"] (spOthers K) := by
  refine F.ok scSightsOfOthers (fun vs H Q E h => ?_) (fun cdv A outer s H vs Q E hr h => ?_)
  · obtain ⟨a, xs, h, rfl, _⟩ := h
    rfl
  · obtain ⟨a, xs, h, rfl, m, ret⟩ := h
    refine ⟨_, (pss_cons (ps_set (i := 1) scSightsOfOthers.nd rfl (Or.inl rfl) (pe_lst pa_nil))
      (pss_cons (ps_for PassesOwn.never rfl (pi_enum (by rfl) T.n_enumerate (pa_cons (pv 0) pa_nil)) (pg_tup rfl (pgs_cons (pg_name (i := 2) scSightsOfOthers.nd rfl (Or.inl rfl)) (pgs_cons (pg_name (i := 3) scSightsOfOthers.nd rfl (Or.inl rfl)) pgs_nil))) (pss_cons (ps_set (i := 4) scSightsOfOthers.nd rfl (Or.inl rfl) (pe_def oWriterSeen hr (pa_cons (pv 0) (pa_cons (pv 2) pa_nil))))
      (pss_one (ps_if ((pw_and (pt_cmp (pc_notN (pv 4))) (pw_and1 (pt_cmpR op_ne (pv 4) (pe_ix ix_tup (pv 3) pe_int (fun _ _ => rfl)) (nomark _))))).pt (pss_one (ps_expr (pe_bm PySem.F.plainAttrs_list PySem.F.slot_list_append PySem.F.type_list_append mt_append (pv 1) (pa_cons (pe_tup (pa_cons (pv 2) (pa_cons (pv 4) pa_nil))) pa_nil)))) pss_nil))))
      (pss_one (ps_ret (pv 1))))), ?_⟩
    refine q_asgL (el_lst ea_nil (Nat.zero_le _)) fun l H1 hl e1 h1 => ?_
    refine q_forE (ea_cons (ev_var rfl) ea_nil) (ex_l e1 m.sq) (fun k σ' H' => ∃ u1 u2 u3, σ' = [some (.ref a), some (.ref l), u1, u2, u3] ∧ Ex H H' ∧ ∃ ys, H' l = some (.lst ys) ∧ PairsL H' ys (soTo h k)) (fun H2 e2 => ⟨none, none, none, rfl, e1.trans e2, [], e2 _ _ h1, .nil⟩) (fun _ σ' H' _ ⟨_, _, _, _, e, _⟩ => ex_l e m.sq)
      (fun k x σ' H' H'' hk ⟨u1, u2, u3, hσ, e, ys, hl', py⟩ e' => ?_) (fun σ' H' ⟨u1, u2, u3, hσ, e, ys, hl', py⟩ => ?_)
    · subst hσ
      obtain ⟨s1, hs, ⟨b, xx, rfl, hb, _⟩⟩ := pget m.mix hk
      have ee := e.trans e'
      have k24 : k < 24 := Nat.lt_of_lt_of_le (List.getElem?_eq_some_iff.mp hk).1 m.len
      have ly : ys.length ≤ k := by
        rw [Paired.length py]
        exact soTo_len h k
      refine q_asg (ev_call (ea_cons (ev_var rfl) (ea_cons (ev_var rfl) ea_nil)) fun H2 e2 Q2 q2 E2 => ⟨a, xs, h, k, s1, rfl, m.mono (ee.trans e2), hs, q2⟩) fun H2 e2 => ?_
      have e02 := e'.trans e2
      have hl2 := e02 _ _ hl'
      have py2 := py.mono e02
      have sf : soF h k = match writerSeen h k s1 with | none => none | some w => if w = s1.t then none else some (k, w) := by
        unfold soF
        rw [hs] <;> rfl
      cases ws : writerSeen h k s1 with
      | none =>
        rw [ws] at sf
        refine s_when (b := false) (et_is (et_and (b := false) (et_notN (ev_var rfl)) fun c => by cases c) rfl) (fun c => by cases c) (fun _ H3 e3 => ?_)
        refine ⟨_, _, _, rfl, (ee.trans e2).trans e3, ys, e3 _ _ hl2, ?_⟩
        rw [soTo_succ, sf]
        simpa using py2.mono e3
      | some w1 =>
        rw [ws] at sf
        refine s_when (et_is (et_and (et_notN (ev_var rfl)) fun _ => et_neI (ev_var rfl) (ev_f0 (ev_var rfl) ((ee.trans e2) _ _ hb))) (show (!decide (optV (some w1) = .non) && !decide ((w1 : Int) = (s1.t : Int))) = !decide (w1 = s1.t) by rw [dN]; rfl)) (fun c H3 e3 => ?_) (fun c H3 e3 => ?_)
        · have c : w1 ≠ s1.t := by simpa using c
          have sf : soF h k = some (k, w1) := by
            rw [sf]
            exact if_neg c
          refine s_appU (e3 _ _ hl2) (ev_var rfl) (eu_tup (ea_cons (ev_var rfl) (ea_cons (ev_var rfl) ea_nil)) (by show 2 ≤ 100000; decide)) (by omega) fun p H4 hp e4 h4 => ?_
          have et : ExT H4 (upd H4 l (.lst (ys ++ [.ref p]))) := ExT.put (Ex.refl _) ((e3.trans e4) _ _ hl2) fun xs z => by cases z
          refine ⟨_, _, _, rfl, Ex.mut (((ee.trans e2).trans e3).trans e4) hl, _, upd_same, ?_⟩
          rw [soTo_succ, sf]
          exact papp ((py2.mono (e3.trans e4)).monoT et) (.cons ⟨p, rfl, et _ _ h4⟩ .nil)
        · have c : w1 = s1.t := by simpa using c
          have sf : soF h k = none := by
            rw [sf]
            exact if_pos c
          refine ⟨_, _, _, rfl, (ee.trans e2).trans e3, ys, e3 _ _ hl2, ?_⟩
          rw [soTo_succ, sf]
          simpa using py2.mono e3
    · subst hσ
      rw [m.mix.len] at py
      exact s_ret (ev_var rfl) fun H2 e2 => ret _ H2 (e.trans e2) ⟨l, ys, rfl, e2 _ _ hl', py.mono e2⟩
end
end SM

namespace SM
open PySem PySem.Spec PyProof.Rows L2 Evl
open Rc98 (Mix)
section
variable {K : PySem.W.Frag} {σ : L2.St} {H H' : Hp} {ta tb tc te tx : TE} {D : Ends} {tz : TS} {g : TG} {x y v : V}
theorem q_asgG (h : Ev te σ H x) (k : ∀ H1, Ex H H1 → g x σ H1 fun σ2 H2 => tz D σ2 H2) : tSeq (tAsg te g) tz D σ H := h H (Ex.refl H) _ fun H1 e => k H1 e
theorem ev_call3L {sp : Sp} {E : XK} {zs : List V} (h1 : Ev ta σ H x) (h2 : Ev tb σ H y) (h3 : EvL tc σ H zs) (hs : ∀ p H1, Ex H H1 → H1 p = some (.lst zs) → SpV sp [x, y, .ref p] H1 v) : Ev (tCall sp [] E (tCons ta (tCons tb (tCons tc tNil)))) σ H v := fun H0 e Q q =>
  h1 H0 e _ fun H1 e1 => h2 H1 (e.trans e1) _ fun H2 e2 => h3 H2 ((e.trans e1).trans e2) _ fun p H3 _ e3 hp => hs p H3 (((e.trans e1).trans e2).trans e3) hp H3 (Ex.refl _) Q (fun H4 e4 => q H4 (((e1.trans e2).trans e3).trans e4)) E
theorem ev_call1L {sp : Sp} {E : XK} {zs : List V} (h3 : EvL tc σ H zs) (hs : ∀ p H1, Ex H H1 → H1 p = some (.lst zs) → SpV sp [.ref p] H1 v) : Ev (tCall sp [] E (tCons tc tNil)) σ H v := fun H0 e Q q =>
  h3 H0 e _ fun p H3 _ e3 hp => hs p H3 (e.trans e3) hp H3 (Ex.refl _) Q (fun H4 e4 => q H4 (e3.trans e4)) E
theorem ev_intB {b : Bool} (h : Ev ta σ H (.bl b)) : Ev (tCB (fun xs H Q => (∃ i, xs = [.int i] ∧ Q (.int i) H) ∨ ∃ k, xs = [.bl k] ∧ Q (.int (if k then 1 else 0)) H) (tCons ta tNil)) σ H (.int (if b then 1 else 0)) := fun H1 e Q q =>
  h H1 e _ fun H2 e2 => .inr ⟨b, rfl, q H2 e2⟩
end
theorem zip_map {β : Type} (p : β → Bool) (g : β → V) : ∀ (xs : List V) (h : List β), xs.length = h.length → (((xs.zip h).filter fun z => p z.2).map fun z => g z.2) = (h.filter p).map g
  | [], [], _ => rfl
  | [], _ :: _, e => by simp at e
  | _ :: _, [], e => by simp at e
  | x :: xs, s :: h, e => by
    have ih := zip_map p g xs h (by simpa using e)
    rw [List.zip_cons_cons, List.filter_cons, List.filter_cons]
    by_cases c : p s = true
    · rw [if_pos c, if_pos c, List.map_cons, List.map_cons, ih]
    · rw [if_neg c, if_neg c, ih]
section
variable {P : Program} {w : World} {K : PySem.W.Frag} {mg : Str → Option Value} {base : Heap}
/-! ### can_be_taken_back -/
abbrev sCanBeTakenBack : Stmt := top 31
theorem scCanBeTakenBack : FnScope ["steps", "at", "writer", "done"] ["steps"] (defScope sCanBeTakenBack) := ⟨rfl, rfl, rfl, by decide +kernel, rfl, by decide +kernel, by decide +kernel⟩
def spBool (K : PySem.W.Frag) (f : Mix → Bool) : Sp := fun vs' H Q _ => ∃ (a : Addr) (xs : List V) (h : Mix), vs' = [.ref a] ∧ MixAt K H a xs h ∧ RetV (.bl (f h)) H Q
theorem ok_back {f : Addr} {fd : FuncData} (F : Fun K "can_be_taken_back" "can_be_taken_back" sCanBeTakenBack f fd) (T : Txt mg) (oSightsOfOthers : Ok P w K mg base "sights_of_others" ["steps"] 2 (spOthers K)) (oDoneAt : Ok P w K mg base "done_at" ["steps", "person"] 1 (spDoneAt K))
    (oIsDoneBefore : Ok P w K mg base "is_done_before" ["steps", "person", "at"] 2 (spDoneBy K)) : FnOk P w K mg base CX0 3 f fd ["steps"] (spBool K Rc98.recoverable) := by
  refine F.ok scCanBeTakenBack (fun vs H Q E h => ?_) (fun cdv A outer s H vs Q E hr h => ?_)
  · obtain ⟨a, xs, h, rfl, _⟩ := h
    rfl
  · obtain ⟨a, xs, h, rfl, m, ret⟩ := h
    refine ⟨_, (pss_cons (ps_for PassesOwn.never rfl (pi_list (pe_def oSightsOfOthers hr (pa_cons (pv 0) pa_nil))) (pg_tup rfl (pgs_cons (pg_name (i := 1) scCanBeTakenBack.nd rfl (Or.inl rfl)) (pgs_cons (pg_name (i := 2) scCanBeTakenBack.nd rfl (Or.inl rfl)) pgs_nil))) (pss_cons (ps_set (i := 3) scCanBeTakenBack.nd rfl (Or.inl rfl) (pe_def oDoneAt hr (pa_cons (pv 0) (pa_cons (pe_ix ix_tup (pe_ix ix_list (pv 0) (pv 1) (fun _ _ => rfl)) pe_int (fun _ _ => rfl)) pa_nil))))
      (pss_one (ps_if ((pw_and (pt_cmp (pc_notN (pv 3))) (pw_and1 (pt_not (pt_val (pe_def oIsDoneBefore hr (pa_cons (pv 0) (pa_cons (pv 2) (pa_cons (pv 3) pa_nil))))))))).pt (pss_one (ps_ret pe_bl)) pss_nil))))
      (pss_one (ps_ret pe_bl))), ?_⟩
    refine q_forR (er_call (R := ROthers h) (ea_cons (ev_var rfl) ea_nil) fun H1 e1 Q1 q1 E1 => ⟨a, xs, h, rfl, m.mono e1, q1⟩) fun v0 H1 e1 r1 => ?_
    obtain ⟨c, ys, rfl, hc, py⟩ := r1
    refine ⟨c, ys, rfl, sq_of hc, fun i σ' H' => ∃ u1 u2 u3, σ' = [some (.ref a), u1, u2, u3] ∧ Ex H1 H' ∧ ∀ (k j w1 : Nat), k < i → (soTo h h.length)[k]? = some (j, w1) → ∀ s, h[j]? = some s → ∀ d, Rc98.doneAt h s.t = some d → Rc98.doneBy h w1 d = true, ⟨none, none, none, rfl, Ex.refl _, fun k j w1 hk => absurd hk (Nat.not_lt_zero k)⟩, fun i σ' H' _ ⟨_, _, _, _, e, _⟩ => sq_of (e _ _ hc), fun i x σ' H' hi ⟨u1, u2, u3, hσ, e, ok⟩ => ?_, fun σ' H' ⟨u1, u2, u3, hσ, e, ok⟩ => ?_⟩
    · subst hσ
      obtain ⟨⟨j, w1⟩, hq, ⟨b, rfl, hb⟩⟩ := pget py hi
      obtain ⟨s1, hs, _⟩ := mem_so.mp (List.mem_of_getElem? hq)
      obtain ⟨v, hv, ⟨b2, xx, rfl, hb2, _⟩⟩ := pget' m.mix hs
      have ee := e1.trans e
      refine ⟨b, _, rfl, st_of (e _ _ hb), rfl, _, _, rfl, _, _, rfl, rfl, ?_⟩
      refine q_asg (ev_call (ea_cons (ev_var rfl) (ea_cons (ev_f0 (ev_at (K := K) (ev_var rfl) (ex_l ee m.sq) (ev_var rfl) hv) (ee _ _ hb2)) ea_nil)) fun H2 e2 Q2 q2 E2 => ⟨a, xs, h, s1.t, rfl, m.mono (ee.trans e2), q2⟩) fun H2 e2 => ?_
      cases hd : Rc98.doneAt h s1.t with
      | none =>
        refine s_when (b := false) (et_is (et_and (b := false) (et_notN (ev_var rfl)) fun c => by cases c) rfl) (fun c => by cases c) (fun _ H3 e3 => ?_)
        refine ⟨_, _, _, rfl, (e.trans e2).trans e3, fun k j' w' hk hq' s' hs' d hd' => ?_⟩
        rcases Nat.lt_or_ge k i with q | q
        · exact ok k j' w' q hq' s' hs' d hd'
        · have : k = i := by omega
          subst this
          rw [hq] at hq'
          cases hq'
          rw [hs] at hs'
          cases hs'
          rw [hd] at hd'
          cases hd'
      | some d =>
        refine s_when (et_is (et_and (et_notN (ev_var rfl)) fun _ => et_not (et_B (ev_call (ea_cons (ev_var rfl) (ea_cons (ev_var rfl) (ea_cons (ev_var rfl) ea_nil))) fun H3 e3 Q3 q3 E3 => ⟨a, xs, h, w1, d, rfl, m.mono ((ee.trans e2).trans e3), q3⟩))) (show (!decide (optV (some d) = .non) && !Rc98.doneBy h w1 d) = !Rc98.doneBy h w1 d from rfl)) (fun c H3 e3 => ?_) (fun c H3 e3 => ?_)
        · have rf : Rc98.recoverable h = false := by
            cases q : Rc98.recoverable h with
            | false => rfl
            | true =>
              have := recover_iff.mp q j w1 (List.mem_of_getElem? hq) s1 hs d hd
              rw [this] at c
              cases c
          rw [rf] at ret
          exact s_ret ev_c fun H4 e4 => ret H4 (((ee.trans e2).trans e3).trans e4)
        · refine ⟨_, _, _, rfl, (e.trans e2).trans e3, fun k j' w' hk hq' s' hs' d' hd' => ?_⟩
          rcases Nat.lt_or_ge k i with q | q
          · exact ok k j' w' q hq' s' hs' d' hd'
          · have : k = i := by omega
            subst this
            rw [hq] at hq'
            cases hq'
            rw [hs] at hs'
            cases hs'
            rw [hd] at hd'
            cases hd'
            simpa using c
    · subst hσ
      have rt : Rc98.recoverable h = true := recover_iff.mpr fun j w1 hm s' hs' d hd => by
        obtain ⟨k, hk⟩ := List.mem_iff_getElem?.mp hm
        exact ok k j w1 (by rw [Paired.length py]; exact (List.getElem?_eq_some_iff.mp hk).1) hk s' hs' d hd
      rw [rt] at ret
      exact s_ret ev_c fun H4 e4 => ret H4 ((e1.trans e).trans e4)
/-! ### is_careful -/
abbrev sIsCareful : Stmt := top 32
theorem scIsCareful : FnScope ["steps", "at", "writer"] ["steps"] (defScope sIsCareful) := ⟨rfl, rfl, rfl, by decide +kernel, rfl, by decide +kernel, by decide +kernel⟩
theorem ok_careful {f : Addr} {fd : FuncData} (F : Fun K "is_careful" "is_careful" sIsCareful f fd) (T : Txt mg) (oSightsOfOthers : Ok P w K mg base "sights_of_others" ["steps"] 2 (spOthers K)) (oIsDoneBefore : Ok P w K mg base "is_done_before" ["steps", "person", "at"] 2 (spDoneBy K)) : FnOk P w K mg base CX0 3 f fd ["steps"] (spBool K Rc98.careful) := by
  refine F.ok scIsCareful (fun vs H Q E h => ?_) (fun cdv A outer s H vs Q E hr h => ?_)
  · obtain ⟨a, xs, h, rfl, _⟩ := h
    rfl
  · obtain ⟨a, xs, h, rfl, m, ret⟩ := h
    refine ⟨_, (pss_cons (ps_for PassesOwn.never rfl (pi_list (pe_def oSightsOfOthers hr (pa_cons (pv 0) pa_nil))) (pg_tup rfl (pgs_cons (pg_name (i := 1) scIsCareful.nd rfl (Or.inl rfl)) (pgs_cons (pg_name (i := 2) scIsCareful.nd rfl (Or.inl rfl)) pgs_nil))) (pss_one (ps_if (pt_not (pt_val (pe_def oIsDoneBefore hr (pa_cons (pv 0) (pa_cons (pv 2) (pa_cons (pv 1) pa_nil)))))) (pss_one (ps_ret pe_bl)) pss_nil)))
      (pss_one (ps_ret pe_bl))), ?_⟩
    refine q_forR (er_call (R := ROthers h) (ea_cons (ev_var rfl) ea_nil) fun H1 e1 Q1 q1 E1 => ⟨a, xs, h, rfl, m.mono e1, q1⟩) fun v0 H1 e1 r1 => ?_
    obtain ⟨c, ys, rfl, hc, py⟩ := r1
    refine ⟨c, ys, rfl, sq_of hc, fun i σ' H' => ∃ u1 u2, σ' = [some (.ref a), u1, u2] ∧ Ex H1 H' ∧ ∀ (k j w1 : Nat), k < i → (soTo h h.length)[k]? = some (j, w1) → Rc98.doneBy h w1 j = true, ⟨none, none, rfl, Ex.refl _, fun k j w1 hk => absurd hk (Nat.not_lt_zero k)⟩, fun i σ' H' _ ⟨_, _, _, e, _⟩ => sq_of (e _ _ hc), fun i x σ' H' hi ⟨u1, u2, hσ, e, ok⟩ => ?_, fun σ' H' ⟨u1, u2, hσ, e, ok⟩ => ?_⟩
    · subst hσ
      obtain ⟨⟨j, w1⟩, hq, ⟨b, rfl, hb⟩⟩ := pget py hi
      have ee := e1.trans e
      refine ⟨b, _, rfl, st_of (e _ _ hb), rfl, _, _, rfl, _, _, rfl, rfl, ?_⟩
      refine s_when (et_not (et_B (ev_call (ea_cons (ev_var rfl) (ea_cons (ev_var rfl) (ea_cons (ev_var rfl) ea_nil))) fun H3 e3 Q3 q3 E3 => ⟨a, xs, h, w1, j, rfl, m.mono (ee.trans e3), q3⟩))) (fun c H3 e3 => ?_) (fun c H3 e3 => ?_)
      · have cf : Rc98.careful h = false := by
          cases q : Rc98.careful h with
          | false => rfl
          | true =>
            have := careful_iff.mp q j w1 (List.mem_of_getElem? hq)
            rw [this] at c
            cases c
        rw [cf] at ret
        exact s_ret ev_c fun H4 e4 => ret H4 ((ee.trans e3).trans e4)
      · refine ⟨_, _, rfl, e.trans e3, fun k j' w' hk hq' => ?_⟩
        rcases Nat.lt_or_ge k i with q | q
        · exact ok k j' w' q hq'
        · have : k = i := by omega
          subst this
          rw [hq] at hq'
          cases hq'
          simpa using c
    · subst hσ
      have ct : Rc98.careful h = true := careful_iff.mpr fun j w1 hm => by
        obtain ⟨k, hk⟩ := List.mem_iff_getElem?.mp hm
        exact ok k j w1 (by rw [Paired.length py]; exact (List.getElem?_eq_some_iff.mp hk).1) hk
      rw [ct] at ret
      exact s_ret ev_c fun H4 e4 => ret H4 ((e1.trans e).trans e4)
/-! ### others_before -/
abbrev sOthersBefore : Stmt := top 33
theorem scOthersBefore : FnScope ["steps", "at", "what", "person", "own", "place", "step"] ["steps", "at", "what"] (defScope sOthersBefore) := ⟨rfl, rfl, rfl, by decide +kernel, rfl, by decide +kernel, by decide +kernel⟩
def spBefore (K : PySem.W.Frag) : Sp := fun vs' H Q _ => ∃ (a : Addr) (xs : List V) (h : Mix) (j w1 : Nat) (s : Rc98.Step), vs' = [.ref a, vi j, vi w1] ∧ MixAt K H a xs h ∧ h[j]? = some s ∧ s.what ≠ 2 ∧ w1 ≠ 2 ∧ RetL (vs (othersB h j s w1)) H Q
theorem before_by {s z : Rc98.Step} {w1 : Nat} {xx yy : Int} (hw : w1 ≠ 2) (hx : z.what ≠ 2 → xx = (z.x : Int)) (hy : yy = (s.x : Int)) : (!decide ((z.t : Int) = (s.t : Int)) && (decide ((z.what : Int) = (w1 : Int)) && decide (xx = yy))) = (z.t != s.t && (z.what == w1 && z.x == s.x)) := by
  rw [Bool.eq_iff_iff]
  simp only [Bool.and_eq_true, decide_eq_true_eq, Bool.not_eq_true', decide_eq_false_iff_not, beq_iff_eq, bne_iff_ne, ne_eq]
  constructor
  · rintro ⟨h1, h2, h3⟩
    have := hx (by omega)
    omega
  · rintro ⟨h1, h2, h3⟩
    have := hx (by omega)
    omega
theorem ok_before {f : Addr} {fd : FuncData} (F : Fun K "others_before" "others_before" sOthersBefore f fd) (T : Txt mg) : FnOk P w K mg base CX0 1 f fd ["steps", "at", "what"] (spBefore K) := by
  refine F.ok scOthersBefore (fun vs H Q E h => ?_) (fun cdv A outer s H vs Q E hr h => ?_)
  · obtain ⟨a, xs, h, j, w1, s, rfl, _⟩ := h
    rfl
  · obtain ⟨a, xs, h, j, w1, s1, rfl, m, hs, w2, w3, ret⟩ := h
    refine ⟨_, (pss_cons (ps_asg (pe_ix ix_list (pv 0) (pv 1) (fun _ _ => rfl)) (pg_tup rfl (pgs_cons (pg_name (i := 3) scOthersBefore.nd rfl (Or.inr rfl)) (pgs_cons (pg_name (i := 4) scOthersBefore.nd rfl (Or.inl rfl)) (pgs_cons (pg_name (i := 5) scOthersBefore.nd rfl (Or.inr rfl)) pgs_nil)))))
      (pss_one (ps_ret (pe_lc (own := [("step", 6)]) rfl scOthersBefore.nd (pi_list (pe_slice sl_list (pv 0) po_none (po_some (pv 1)))) (blkOk_by (own := [("step", 6)]) (N := ["steps", "at", "what", "person", "own", "place", "step"]) (sc := defScope sOthersBefore) (by decide +kernel)) (fun _ _ _ _ _ => pg_name (i := 6) scOthersBefore.nd rfl (Or.inl rfl)) (fun _ _ _ _ _ => pts_one ((pw_and (pt_cmpR op_ne (pe_ix (ix_tupB (K := K) rfl) (pv 6) pe_int (fun _ _ => rfl)) (pv 3) (nomark _)) (pw_and (pt_cmpR op_eq (pe_ix (ix_tupB (K := K) rfl) (pv 6) pe_int (fun _ _ => rfl)) (pv 2) (nomark _)) (pw_and1 (pt_cmpR op_eq (pe_ix (ix_tupB (K := K) rfl) (pv 6) pe_int (fun _ _ => rfl)) (pv 5) (nomark _)))))).pt) (fun _ _ _ _ _ => (pe_ix (ix_tupB (K := K) rfl) (pv 6) pe_int (fun _ _ => rfl))))))), ?_⟩
    obtain ⟨v, hv, ⟨b, xx, rfl, hb, hx⟩⟩ := pget' m.mix hs
    refine q_asgG (ev_at (K := K) (ev_var rfl) m.sq (ev_var rfl) hv) fun H1 e1 => ?_
    refine ⟨b, _, rfl, st_of (e1 _ _ hb), rfl, _, _, rfl, _, _, rfl, _, _, rfl, rfl, ?_⟩
    have sl := el_sl (K := K) (H := H1) (σ := [some (.ref a), some (vi j), some (vi w1), some (vi s1.t), some (vi s1.what), some (.int xx), none]) (te := tVar 0) (tl := tNoPart) (th := tPart (tVar 1)) (a := a) (xs := xs) (lo := none) (hi := some (j : Int)) (ev_var rfl) eo_none (eo_some (ev_var rfl)) (ex_l e1 m.sq)
    rw [cut_take] at sl
    have pt := ptake j m.mix
    have len : (xs.take j).length = (h.take j).length := by rw [List.length_take, List.length_take, m.mix.len]
    have comp := el_lcNL (K := K) (H := H1) (xs := xs.take j) (σ := [some (.ref a), some (vi j), some (vi w1), some (vi s1.t), some (vi s1.what), some (.int xx), none]) (tl := tSl (rSlL K) (tVar 0) tNoPart (tPart (tVar 1))) (j := 6) (vs := [6]) (t := tAnd (tTest (tOp rNe (tOp (rIxT K) (tVar 6) (tC (.int 0))) (tVar 3))) (tAnd (tTest (tOp rEq (tOp (rIxT K) (tVar 6) (tC (.int 1))) (tVar 2))) (tTest (tOp rEq (tOp (rIxT K) (tVar 6) (tC (.int 2))) (tVar 5))))) (te := tOp (rIxT K) (tVar 6) (tC (.int 0)))
      (onAt (h.take j) fun z => z.t != s1.t && (z.what == w1 && z.x == s1.x)) (atBy (xs.take j) (h.take j) fun z _ => vi z.t) sl (by have := m.len; rw [List.length_take]; omega) (fun x => rfl)
      (fun i y H2 e2 hi => by
        obtain ⟨z, hz, ⟨b2, x2, rfl, hb2, hx2⟩⟩ := pget pt hi
        rw [on_some hz]
        have hb3 := (e1.trans e2) _ _ hb2
        exact et_is (et_and (et_neI (ev_f0 (ev_var rfl) hb3) (ev_var rfl)) fun _ => et_and (et_eqI (ev_f1 (ev_var rfl) hb3) (ev_var rfl)) fun _ => et_eqI (ev_f2 (ev_var rfl) hb3) (ev_var rfl)) (before_by w3 hx2 (hx w2)))
      (fun i y H2 e2 hi _ => by
        obtain ⟨z, hz, ⟨b2, x2, rfl, hb2, hx2⟩⟩ := pget pt hi
        rw [by_some hz hi]
        exact ev_f0 (ev_var rfl) ((e1.trans e2) _ _ hb2))
    rw [given_pick _ _ _ _ len, zip_map (fun (z : Rc98.Step) => z.t != s1.t && (z.what == w1 && z.x == s1.x)) (fun z => vi z.t) _ _ len] at comp
    refine s_retL comp fun p H2 hp e2 h2 => ret p H2 (fresh_back e1 hp) (e1.trans e2) ?_
    rw [h2]
    unfold othersB vs
    rw [List.map_map]
    rfl
/-! ### are_done -/
abbrev sAreDone : Stmt := top 34
theorem scAreDone : FnScope ["steps", "at", "people", "person"] ["steps", "at", "people"] (defScope sAreDone) := ⟨rfl, rfl, rfl, by decide +kernel, rfl, by decide +kernel, by decide +kernel⟩
def spAreDone (K : PySem.W.Frag) : Sp := fun vs' H Q _ => ∃ (a b : Addr) (xs : List V) (h : Mix) (j : Nat) (l : List Nat), vs' = [.ref a, vi j, .ref b] ∧ MixAt K H a xs h ∧ SqL K H b (vs l) ∧ l.length ≤ 24 ∧ RetV (.bl (l.all fun t => Rc98.doneBy h t j)) H Q
theorem given_bl (f : Nat → Bool) : ∀ l : List Nat, given l.length (onAt l fun _ => true) (atBy (vs l) l fun n _ => .bl (f n)) = (l.map f).map V.bl := by
  intro l
  have q := given_pick (fun _ => true) (fun n _ => .bl (f n)) (vs l) l (vs_len l)
  rw [vs_len] at q
  rw [q, zip_map (fun _ => true) (fun n => V.bl (f n)) _ _ (vs_len l), List.map_map, List.filter_eq_self.mpr fun _ _ => rfl]
  rfl
theorem ok_areDone {f : Addr} {fd : FuncData} (F : Fun K "are_done" "are_done" sAreDone f fd) (T : Txt mg) (oIsDoneBefore : Ok P w K mg base "is_done_before" ["steps", "person", "at"] 2 (spDoneBy K)) : FnOk P w K mg base CX0 3 f fd ["steps", "at", "people"] (spAreDone K) := by
  refine F.ok scAreDone (fun vs H Q E h => ?_) (fun cdv A outer s H vs Q E hr h => ?_)
  · obtain ⟨a, b, xs, h, j, l, rfl, _⟩ := h
    rfl
  · obtain ⟨a, b, xs, h, j, l, rfl, m, hb, len, ret⟩ := h
    refine ⟨_, (pss_one (ps_ret (pe_callB (cr_all rfl) (by rfl) T.n_all (by decide +kernel) (pa_cons (pe_lc (own := [("person", 3)]) rfl scAreDone.nd (pi_list (pv 2)) (blkOk_by (own := [("person", 3)]) (N := ["steps", "at", "people", "person"]) (sc := defScope sAreDone) (by decide +kernel)) (fun _ _ _ _ _ => pg_name (i := 3) scAreDone.nd rfl (Or.inl rfl)) (fun _ _ _ _ _ => pts_nil) (fun _ _ _ _ _ => (pe_def oIsDoneBefore hr (pa_cons (pv 0) (pa_cons (pv 3) (pa_cons (pv 1) pa_nil)))))) pa_nil)))), ?_⟩
    have comp := el_lcL (K := K) (H := H) (xs := vs l) (a := b) (σ := start ["steps", "at", "people", "person"] [.ref a, vi j, .ref b]) (tl := tVar 2) (j := 3) (vs := [3]) (t := tYes) (te := tCall (spDoneBy K) [] E0 (tCons (tVar 0) (tCons (tVar 3) (tCons (tVar 1) tNil)))) (onAt l fun _ => true) (atBy (vs l) l fun n _ => .bl (Rc98.doneBy h n j)) (ev_var rfl) hb (by rw [vs_len]; omega) (fun x => rfl)
      (fun i y H1 e hi => by
        obtain ⟨n, hn, _⟩ := vs_get hi
        rw [on_some hn]
        exact et_yes)
      (fun i y H1 e hi _ => by
        obtain ⟨n, hn, rfl⟩ := vs_get hi
        rw [by_some hn hi]
        exact ev_call (ea_cons (ev_var rfl) (ea_cons (ev_var rfl) (ea_cons (ev_var rfl) ea_nil))) fun H2 e2 Q2 q2 E2 => ⟨a, xs, h, n, j, rfl, m.mono (e.trans e2), q2⟩)
    rw [vs_len, given_bl] at comp
    refine ret_cb (comp H (Ex.refl H) _ fun p H1 _ e1 h1 => ⟨p, _, rfl, sq_of h1, ?_⟩)
    rw [List.all_map]
    exact ret H1 e1
/-! ### is_strict -/
abbrev sIsStrict : Stmt := top 35
theorem scIsStrict : FnScope ["steps", "at", "step"] ["steps"] (defScope sIsStrict) := ⟨rfl, rfl, rfl, by decide +kernel, rfl, by decide +kernel, by decide +kernel⟩
theorem othersB_len (h : Mix) (j : Nat) (s : Rc98.Step) (w1 : Nat) : (othersB h j s w1).length ≤ h.length := by
  unfold othersB
  rw [List.length_map]
  refine Nat.le_trans (List.length_filter_le _ _) ?_
  rw [List.length_take]
  exact Nat.min_le_right _ _
theorem touch_by {s : Rc98.Step} {xx : Int} (w1 : s.what ≤ 2) : (!decide ((s.what : Int) = 2) && decide (xx = xx)) = Rc98.touches s := by
  rw [decide_eq_true (rfl : xx = xx), Bool.and_true]
  unfold Rc98.touches Rc98.reads Rc98.writes
  rw [Bool.eq_iff_iff]
  simp only [Bool.not_eq_true', decide_eq_false_iff_not, beq_iff_eq, Bool.or_eq_true]
  omega
theorem ok_strict {f : Addr} {fd : FuncData} (F : Fun K "is_strict" "is_strict" sIsStrict f fd) (T : Txt mg) (oUses : Ok P w K mg base "uses" ["step", "place"] 1 spUses) (oAreDone : Ok P w K mg base "are_done" ["steps", "at", "people"] 3 (spAreDone K))
    (oOthersBefore : Ok P w K mg base "others_before" ["steps", "at", "what"] 1 (spBefore K)) : FnOk P w K mg base CX0 4 f fd ["steps"] (spBool K Rc98.strict) := by
  refine F.ok scIsStrict (fun vs H Q E h => ?_) (fun cdv A outer s H vs Q E hr h => ?_)
  · obtain ⟨a, xs, h, rfl, _⟩ := h
    rfl
  · obtain ⟨a, xs, h, rfl, m, ret⟩ := h
    refine ⟨_, (pss_cons (ps_for PassesOwn.never rfl (pi_enum (by rfl) T.n_enumerate (pa_cons (pv 0) pa_nil)) (pg_tup rfl (pgs_cons (pg_name (i := 1) scIsStrict.nd rfl (Or.inl rfl)) (pgs_cons (pg_name (i := 2) scIsStrict.nd rfl (Or.inl rfl)) pgs_nil))) (pss_one (ps_if ((pw_and (pt_val (pe_def oUses hr (pa_cons (pv 2) (pa_cons (pe_ix ix_tup (pv 2) pe_int (fun _ _ => rfl)) pa_nil)))) (pw_and1 (pt_not (pt_val (pe_def oAreDone hr (pa_cons (pv 0) (pa_cons (pv 1) (pa_cons (pe_def oOthersBefore hr (pa_cons (pv 0) (pa_cons (pv 1) (pa_cons (pe_ci T.cWRITE) pa_nil)))) pa_nil))))))))).pt (pss_one (ps_ret pe_bl)) pss_nil)))
      (pss_one (ps_ret pe_bl))), ?_⟩
    refine q_forE (ea_cons (ev_var rfl) ea_nil) m.sq (fun k σ' H' => ∃ u1 u2, σ' = [some (.ref a), u1, u2] ∧ Ex H H' ∧ ∀ (j : Nat) (z : Rc98.Step), j < k → h[j]? = some z → Rc98.touches z = true → (othersB h j z 1).all (fun t => Rc98.doneBy h t j) = true) (fun H2 e2 => ⟨none, none, rfl, e2, fun j z hj => absurd hj (Nat.not_lt_zero j)⟩) (fun _ σ' H' _ ⟨_, _, _, e, _⟩ => ex_l e m.sq)
      (fun k x σ' H' H'' hk ⟨u1, u2, hσ, e, ok⟩ e' => ?_) (fun σ' H' ⟨u1, u2, hσ, e, ok⟩ => ?_)
    · subst hσ
      obtain ⟨s1, hs, ⟨b, xx, rfl, hb, hx⟩⟩ := pget m.mix hk
      have ee := e.trans e'
      have gs := m.good.2 s1 (List.mem_of_getElem? hs)
      have lo := othersB_len h k s1 1
      have l24 := m.good.1
      have test := et_and (u := tNot (tB (tCall (spAreDone K) [] E0 (tCons (tVar 0) (tCons (tVar 1) (tCons (tCall (spBefore K) [] E0 (tCons (tVar 0) (tCons (tVar 1) (tCons (tC (.int 1)) tNil)))) tNil)))))) (et_B (ev_call (sp := spUses) (dvs := []) (E := E0) (σ := [some (.ref a), some (vi k), some (.ref b)]) (H := H'') (z := .bl (!decide ((s1.what : Int) = 2) && decide (xx = xx))) (ea_cons (ev_var (i := 2) rfl) (ea_cons (ev_f2 (K := K) (ev_var (i := 2) rfl) (ee _ _ hb)) ea_nil)) fun H2 e2 Q2 q2 E2 => ⟨b, _, _, _, _, rfl, (ee.trans e2) _ _ hb, q2⟩))
        (b := !(othersB h k s1 1).all (fun t => Rc98.doneBy h t k)) fun ct => by
          have nd : s1.what ≠ 2 := by
            rw [Bool.and_eq_true, Bool.not_eq_true', decide_eq_false_iff_not] at ct
            have := ct.1
            omega
          exact et_not (et_B (ev_call3L (ev_var rfl) (ev_var rfl) (el_call (ea_cons (ev_var rfl) (ea_cons (ev_var rfl) (ea_cons ev_c ea_nil))) fun H2 e2 Q2 q2 E2 => ⟨a, xs, h, k, 1, s1, rfl, m.mono (ee.trans e2), hs, nd, by decide, q2⟩) fun p H2 e2 hp H3 e3 Q3 q3 E3 => ⟨a, p, xs, h, k, _, rfl, m.mono ((ee.trans e2).trans e3), sq_of (e3 _ _ hp), by omega, q3⟩))
      rw [touch_by gs.2.1] at test
      refine s_when test (fun c H3 e3 => ?_) (fun c H3 e3 => ?_)
      · have sf : Rc98.strict h = false := by
          cases q : Rc98.strict h with
          | false => rfl
          | true =>
            rw [Bool.and_eq_true] at c
            have := strict_iff.mp q k s1 hs c.1
            rw [this] at c
            exact absurd c.2 (by decide)
        rw [sf] at ret
        exact s_ret ev_c fun H4 e4 => ret H4 ((ee.trans e3).trans e4)
      · refine ⟨_, _, rfl, ee.trans e3, fun j z hj hz tz => ?_⟩
        rcases Nat.lt_or_ge j k with q | q
        · exact ok j z q hz tz
        · have : j = k := by omega
          subst this
          rw [hs] at hz
          cases hz
          rw [tz, Bool.true_and] at c
          simpa using c
    · subst hσ
      have st : Rc98.strict h = true := strict_iff.mpr fun j z hz tz => ok j z (by rw [m.mix.len]; exact (List.getElem?_eq_some_iff.mp hz).1) hz tz
      rw [st] at ret
      exact s_ret ev_c fun H4 e4 => ret H4 (e.trans e4)
/-! ### is_rigorous -/
abbrev sIsRigorous : Stmt := top 36
theorem scIsRigorous : FnScope ["steps", "at", "step"] ["steps"] (defScope sIsRigorous) := ⟨rfl, rfl, rfl, by decide +kernel, rfl, by decide +kernel, by decide +kernel⟩
theorem ok_rigorous {f : Addr} {fd : FuncData} (F : Fun K "is_rigorous" "is_rigorous" sIsRigorous f fd) (T : Txt mg) (oAreDone : Ok P w K mg base "are_done" ["steps", "at", "people"] 3 (spAreDone K)) (oOthersBefore : Ok P w K mg base "others_before" ["steps", "at", "what"] 1 (spBefore K))
    (oIsStrict : Ok P w K mg base "is_strict" ["steps"] 4 (spBool K Rc98.strict)) : FnOk P w K mg base CX0 5 f fd ["steps"] (spBool K Rc98.rigorous) := by
  refine F.ok scIsRigorous (fun vs H Q E h => ?_) (fun cdv A outer s H vs Q E hr h => ?_)
  · obtain ⟨a, xs, h, rfl, _⟩ := h
    rfl
  · obtain ⟨a, xs, h, rfl, m, ret⟩ := h
    refine ⟨_, (pss_cons (ps_for PassesOwn.never rfl (pi_enum (by rfl) T.n_enumerate (pa_cons (pv 0) pa_nil)) (pg_tup rfl (pgs_cons (pg_name (i := 1) scIsRigorous.nd rfl (Or.inl rfl)) (pgs_cons (pg_name (i := 2) scIsRigorous.nd rfl (Or.inl rfl)) pgs_nil))) (pss_one (ps_if ((pw_and (pt_cmpR op_eq (pe_ix ix_tup (pv 2) pe_int (fun _ _ => rfl)) (pe_ci T.cWRITE) (nomark _)) (pw_and1 (pt_not (pt_val (pe_def oAreDone hr (pa_cons (pv 0) (pa_cons (pv 1) (pa_cons (pe_def oOthersBefore hr (pa_cons (pv 0) (pa_cons (pv 1) (pa_cons (pe_ci T.cREAD) pa_nil)))) pa_nil))))))))).pt (pss_one (ps_ret pe_bl)) pss_nil)))
      (pss_one (ps_ret (pe_def oIsStrict hr (pa_cons (pv 0) pa_nil))))), ?_⟩
    refine q_forE (ea_cons (ev_var rfl) ea_nil) m.sq (fun k σ' H' => ∃ u1 u2, σ' = [some (.ref a), u1, u2] ∧ Ex H H' ∧ ∀ (j : Nat) (z : Rc98.Step), j < k → h[j]? = some z → Rc98.writes z = true → (othersB h j z 0).all (fun t => Rc98.doneBy h t j) = true) (fun H2 e2 => ⟨none, none, rfl, e2, fun j z hj => absurd hj (Nat.not_lt_zero j)⟩) (fun _ σ' H' _ ⟨_, _, _, e, _⟩ => ex_l e m.sq)
      (fun k x σ' H' H'' hk ⟨u1, u2, hσ, e, ok⟩ e' => ?_) (fun σ' H' ⟨u1, u2, hσ, e, ok⟩ => ?_)
    · subst hσ
      obtain ⟨s1, hs, ⟨b, xx, rfl, hb, hx⟩⟩ := pget m.mix hk
      have ee := e.trans e'
      have lo := othersB_len h k s1 0
      have l24 := m.good.1
      have wb : decide ((s1.what : Int) = 1) = Rc98.writes s1 := by
        unfold Rc98.writes
        rw [Bool.eq_iff_iff, decide_eq_true_eq, beq_iff_eq]
        omega
      have test := et_and (u := tNot (tB (tCall (spAreDone K) [] E0 (tCons (tVar 0) (tCons (tVar 1) (tCons (tCall (spBefore K) [] E0 (tCons (tVar 0) (tCons (tVar 1) (tCons (tC (.int 0)) tNil)))) tNil)))))) (et_eqI (σ := [some (.ref a), some (vi k), some (.ref b)]) (H := H'') (ev_f1 (K := K) (ev_var (i := 2) rfl) (ee _ _ hb)) (ev_c (v := .int 1)))
        (b := !(othersB h k s1 0).all (fun t => Rc98.doneBy h t k)) fun ct => by
          have nd : s1.what ≠ 2 := by
            have := of_decide_eq_true ct
            omega
          exact et_not (et_B (ev_call3L (ev_var rfl) (ev_var rfl) (el_call (ea_cons (ev_var rfl) (ea_cons (ev_var rfl) (ea_cons ev_c ea_nil))) fun H2 e2 Q2 q2 E2 => ⟨a, xs, h, k, 0, s1, rfl, m.mono (ee.trans e2), hs, nd, by decide, q2⟩) fun p H2 e2 hp H3 e3 Q3 q3 E3 => ⟨a, p, xs, h, k, _, rfl, m.mono ((ee.trans e2).trans e3), sq_of (e3 _ _ hp), by omega, q3⟩))
      rw [wb] at test
      refine s_when test (fun c H3 e3 => ?_) (fun c H3 e3 => ?_)
      · have sf : Rc98.rigorous h = false := by
          cases q : Rc98.rigorous h with
          | false => rfl
          | true =>
            rw [Bool.and_eq_true] at c
            have := (rigorous_iff.mp q).1 k s1 hs c.1
            rw [this] at c
            exact absurd c.2 (by decide)
        rw [sf] at ret
        exact s_ret ev_c fun H4 e4 => ret H4 ((ee.trans e3).trans e4)
      · refine ⟨_, _, rfl, ee.trans e3, fun j z hj hz tz => ?_⟩
        rcases Nat.lt_or_ge j k with q | q
        · exact ok j z q hz tz
        · have : j = k := by omega
          subst this
          rw [hs] at hz
          cases hz
          rw [tz, Bool.true_and] at c
          simpa using c
    · subst hσ
      have st : Rc98.rigorous h = Rc98.strict h := by
        rw [Bool.eq_iff_iff, rigorous_iff]
        constructor
        · exact fun q => q.2
        · exact fun q => ⟨fun j z hz tz => ok j z (by rw [m.mix.len]; exact (List.getElem?_eq_some_iff.mp hz).1) hz tz, q⟩
      rw [st] at ret
      exact s_ret (ev_call (ea_cons (ev_var rfl) ea_nil) fun H2 e2 Q2 q2 E2 => ⟨a, xs, h, rfl, m.mono (e.trans e2), q2⟩) fun H4 e4 => ret H4 (e.trans e4)
end
end SM

namespace SM
open PySem PySem.Spec PyProof.Rows L2 Evl
open Rc98 (Mix)
section
variable {K : PySem.W.Frag} {σ : L2.St} {H H' : Hp} {ta tb tc te tx : TE} {D : Ends} {tz : TS}
theorem ev_chain {g1 g2 : Int → Int → Bool} {i j k : Int} (h1 : Ev ta σ H (.int i)) (h2 : Ev tb σ H (.int j)) (h3 : Ev tc σ H (.int k)) : Ev (tChain (rI0 fun i j => .bl (g1 i j)) (rI0 fun i j => .bl (g2 i j)) ta tb tc) σ H (.bl (g1 i j && g2 j k)) := fun H1 e Q q =>
  h1 H1 e _ fun H2 e2 => h2 H2 (e.trans e2) _ fun H3 e3 => ⟨i, j, rfl, rfl, g1 i j, rfl, by
    revert q
    cases g1 i j with
    | true =>
      intro q
      show tc σ H3 _
      exact h3 H3 ((e.trans e2).trans e3) _ fun H4 e4 => ⟨j, k, rfl, rfl, q H4 ((e2.trans e3).trans e4)⟩
    | false =>
      intro q
      show Q (.bl false) H3
      exact q H3 (e2.trans e3)⟩
theorem ev_lenR {fs : List (List Nat)} (h : EvR ta σ H (RLL fs)) : Ev (tCB (rLenS K) (tCons ta tNil)) σ H (.int (fs.length : Int)) := fun H1 e Q q =>
  h H1 e _ fun v H2 e2 r => by
    obtain ⟨c, ys, rfl, hc, hy⟩ := r
    refine ⟨c, ys, rfl, .inl (sq_of hc), ?_⟩
    rw [Paired.length hy]
    exact q H2 e2
theorem q_extV {l b : Addr} {xs ys : List V} (hl : H l = some (.lst xs)) (hb : H b = some (.lst ys)) (ha : Ev ta σ H (.ref l)) (h : Ev te σ H (.ref b)) (hz : xs.length + ys.length ≤ 100000) (k : ∀ H1, Ex H H1 → tz D σ (upd H1 l (.lst (xs ++ ys)))) : tSeq (tDrop (tBM K "list" rExtend ta (tCons te tNil))) tz D σ H :=
  ha H (Ex.refl H) _ fun H1 e1 => ⟨Or.inl ⟨rfl, xs, sq_of (e1 l _ hl)⟩, h H1 e1 _ fun H2 e2 => ⟨l, b, xs, ys, rfl, rfl, e2 l _ (e1 l _ hl), (e1.trans e2) _ _ hb, sz_of hz, k H2 (e1.trans e2)⟩⟩
end
/-! ### the mixture now -/
def MixNow (H : Hp) (a : Addr) (h : Mix) : Prop := ∃ xs, H a = some (.lst xs) ∧ MixL H xs h ∧ Good h
theorem MixNow.mono {H H' : Hp} (e : Ex H H') {a : Addr} {h : Mix} (m : MixNow H a h) : MixNow H' a h := by
  obtain ⟨xs, h1, h2, h3⟩ := m
  exact ⟨xs, e _ _ h1, h2.mono e, h3⟩
theorem MixL.monoT {H H' : Hp} {xs : List V} {h : Mix} (e : ExT H H') (m : MixL H xs h) : MixL H' xs h := L2.Paired.mapP m fun _ _ ⟨a, x, h1, h2, h3⟩ => ⟨a, x, h1, e _ _ h2, h3⟩
theorem vs_intL (l : List Nat) : vs l = (intL l).map V.int := by
  unfold vs intL
  rw [List.map_map]
  rfl
section
variable {P : Program} {w : World} {K : PySem.W.Frag} {mg : Str → Option Value} {base : Heap}
/-! ### back_sum -/
abbrev sBackSum : Stmt := top 37
theorem scBackSum : FnScope ["steps", "truths", "at", "truth"] ["steps"] (defScope sBackSum) := ⟨rfl, rfl, rfl, by decide +kernel, rfl, by decide +kernel, by decide +kernel⟩
def backN (h : Mix) : Int := ((Rc98.bit (Rc98.recoverable h) + 2 * Rc98.bit (Rc98.careful h) + 4 * Rc98.bit (Rc98.strict h) + 8 * Rc98.bit (Rc98.rigorous h) : Nat) : Int)
def shOf (bs : List Bool) (k : Nat) : Int := (if bs.getD k false then 1 else 0) * 2 ^ k
theorem sum_bits (a b c d : Bool) : (((List.range 4).map (shOf [a, b, c, d])).sum : Int) = ((Rc98.bit a + 2 * Rc98.bit b + 4 * Rc98.bit c + 8 * Rc98.bit d : Nat) : Int) := by
  cases a <;> cases b <;> cases c <;> cases d <;> rfl
def spBackSum (K : PySem.W.Frag) : Sp := fun vs' H Q _ => ∃ (a : Addr) (xs : List V) (h : Mix), vs' = [.ref a] ∧ MixAt K H a xs h ∧ RetV (.int (backN h)) H Q
theorem ok_backSum {f : Addr} {fd : FuncData} (F : Fun K "back_sum" "back_sum" sBackSum f fd) (T : Txt mg) (oCanBeTakenBack : Ok P w K mg base "can_be_taken_back" ["steps"] 3 (spBool K Rc98.recoverable)) (oIsCareful : Ok P w K mg base "is_careful" ["steps"] 3 (spBool K Rc98.careful))
    (oIsStrict : Ok P w K mg base "is_strict" ["steps"] 4 (spBool K Rc98.strict)) (oIsRigorous : Ok P w K mg base "is_rigorous" ["steps"] 5 (spBool K Rc98.rigorous)) : FnOk P w K mg base CX0 6 f fd ["steps"] (spBackSum K) := by
  refine F.ok scBackSum (fun vs H Q E h => ?_) (fun cdv A outer s H vs Q E hr h => ?_)
  · obtain ⟨a, xs, h, rfl, _⟩ := h
    rfl
  · obtain ⟨a, xs, h, rfl, m, ret⟩ := h
    refine ⟨_, (pss_cons (ps_set (i := 1) scBackSum.nd rfl (Or.inl rfl) (pe_lst (pa_cons (pe_def oCanBeTakenBack hr (pa_cons (pv 0) pa_nil)) (pa_cons (pe_def oIsCareful hr (pa_cons (pv 0) pa_nil)) (pa_cons (pe_def oIsStrict hr (pa_cons (pv 0) pa_nil)) (pa_cons (pe_def oIsRigorous hr (pa_cons (pv 0) pa_nil)) pa_nil))))))
      (pss_one (ps_ret (pe_callB (cr_sum rfl) (by rfl) T.n_sum (by decide +kernel) (pa_cons (pe_lc (own := [("at", 2), ("truth", 3)]) rfl scBackSum.nd (pi_enum (by rfl) T.n_enumerate (pa_cons (pv 1) pa_nil)) (blkOk_by (own := [("at", 2), ("truth", 3)]) (N := ["steps", "truths", "at", "truth"]) (sc := defScope sBackSum) (by decide +kernel)) (fun _ _ _ _ _ => pg_tupB (K := K) (n := 2) rfl rfl (pgs_cons (pg_name (i := 2) scBackSum.nd rfl (Or.inl rfl)) (pgs_cons (pg_name (i := 3) scBackSum.nd rfl (Or.inl rfl)) pgs_nil))) (fun _ _ _ _ _ => pts_nil) (fun _ _ _ _ _ => (pe_op op_shl (pe_callTy call_int1 (by rfl) T.n_int (by decide +kernel) (pa_cons (pv 3) pa_nil)) (pv 2)))) pa_nil))))), ?_⟩
    refine q_asgL (el_lst (ea_cons (ev_call (ea_cons (ev_var rfl) ea_nil) fun H1 e1 Q1 q1 E1 => ⟨a, xs, h, rfl, m.mono e1, q1⟩) (ea_cons (ev_call (ea_cons (ev_var rfl) ea_nil) fun H1 e1 Q1 q1 E1 => ⟨a, xs, h, rfl, m.mono e1, q1⟩) (ea_cons (ev_call (ea_cons (ev_var rfl) ea_nil) fun H1 e1 Q1 q1 E1 => ⟨a, xs, h, rfl, m.mono e1, q1⟩) (ea_cons (ev_call (ea_cons (ev_var rfl) ea_nil) fun H1 e1 Q1 q1 E1 => ⟨a, xs, h, rfl, m.mono e1, q1⟩) ea_nil)))) (by show 4 ≤ 100000; decide)) fun l H1 _ e1 h1 => ?_
    have comp := el_lcE (K := K) (H := H1) (xs := [V.bl (Rc98.recoverable h), V.bl (Rc98.careful h), V.bl (Rc98.strict h), V.bl (Rc98.rigorous h)]) (a := l) (σ := [some (.ref a), some (.ref l), none, none]) (ta := tCons (tVar 1) tNil) (i := 2) (j := 3) (vs := [2, 3]) (t := tYes) (te := tOp (rI CPow fun i j => .int (i * 2 ^ j.toNat)) (tCB (fun xs H Q => (∃ i, xs = [.int i] ∧ Q (.int i) H) ∨ ∃ k, xs = [.bl k] ∧ Q (.int (if k then 1 else 0)) H) (tCons (tVar 3) tNil)) (tVar 2))
      (fun _ => true) (fun k => .int (shOf [Rc98.recoverable h, Rc98.careful h, Rc98.strict h, Rc98.rigorous h] k)) (ea_cons (ev_var rfl) ea_nil) (sq_of h1) (by show 4 ≤ 40000; decide) (fun x y => rfl) (fun _ _ _ _ _ => et_yes)
      (fun i y H2 e hi _ => by
        have go : ∀ b : Bool, y = .bl b → [Rc98.recoverable h, Rc98.careful h, Rc98.strict h, Rc98.rigorous h].getD i false = b → i < 4 → Ev (tOp (rI CPow fun i j => .int (i * 2 ^ j.toNat)) (tCB (fun xs H Q => (∃ i, xs = [.int i] ∧ Q (.int i) H) ∨ ∃ k, xs = [.bl k] ∧ Q (.int (if k then 1 else 0)) H) (tCons (tVar 3) tNil)) (tVar 2)) [some (.ref a), some (.ref l), some (.int (i : Int)), some y] H2 (.int (shOf [Rc98.recoverable h, Rc98.careful h, Rc98.strict h, Rc98.rigorous h] i)) := fun b hy hb hi4 => by
          unfold shOf
          rw [hb]
          subst hy
          refine ev_is (ev_op (ev_intB (ev_var rfl)) (ev_var rfl) (rv_I (i := if b then 1 else 0) (j := (i : Int)) ⟨by omega, by omega, by cases b <;> decide⟩)) ?_
          rfl
        match i, hi with
        | 0, hi => exact go _ (Option.some.inj hi).symm rfl (by decide)
        | 1, hi => exact go _ (Option.some.inj hi).symm rfl (by decide)
        | 2, hi => exact go _ (Option.some.inj hi).symm rfl (by decide)
        | 3, hi => exact go _ (Option.some.inj hi).symm rfl (by decide)
        | i + 4, hi => simp at hi)
    refine ret_cb (comp H1 (Ex.refl H1) _ fun p H2 _ e2 h2 => ⟨p, (List.range 4).map (shOf [Rc98.recoverable h, Rc98.careful h, Rc98.strict h, Rc98.rigorous h]), rfl, sq_of ?_, ?_⟩)
    · rw [h2]
      rfl
    · rw [sum_bits]
      exact ret H2 (e1.trans e2)
/-! ### step_added -/
abbrev sStepAdded : Stmt := top 52
theorem scStepAdded : FnScope ["steps", "person", "what", "place"] ["steps", "person", "what", "place"] (defScope sStepAdded) := ⟨rfl, rfl, rfl, by decide +kernel, rfl, by decide +kernel, by decide +kernel⟩
def spStep : Sp := fun vs' H Q _ => ∃ (a : Addr) (h : Mix) (p w1 x : Int), vs' = [.ref a, .int p, .int w1, .int x] ∧ MixNow H a h ∧ ∀ v H2, Ex (but H a) H2 → MixNow H2 a (one h 1 [p, w1, x]).1 → (one h 1 [p, w1, x]).2 = [v] → Q (.int v) H2
theorem ok_step {f : Addr} {fd : FuncData} (F : Fun K "step_added" "step_added" sStepAdded f fd) (T : Txt mg) (oDoneAt : Ok P w K mg base "done_at" ["steps", "person"] 1 (spDoneAt K)) : FnOk P w K mg base CX0 2 f fd ["steps", "person", "what", "place"] spStep := by
  refine F.ok scStepAdded (fun vs H Q E h => ?_) (fun cdv A outer s H vs Q E hr h => ?_)
  · obtain ⟨a, h, p, w1, x, rfl, _⟩ := h
    rfl
  · obtain ⟨a, h, p, w1, x, rfl, m, ret⟩ := h
    refine ⟨_, (pss_cons (ps_if ((pw_or (pt_not (pt_chain op_le op_lt pe_int (pv 1) (pe_ci T.cMOST_PEOPLE))) (pw_or (pt_not (pt_chain op_le op_le (pe_ci T.cREAD) (pv 2) (pe_ci T.cDONE))) (pw_or1 (pt_not (pt_chain op_le op_lt pe_int (pv 3) (pe_ci T.cMOST_PLACES))))))).pt (pss_one (ps_ret (pe_ci T.cREFUSED))) pss_nil)
      (pss_cons (ps_if (pt_cmp (pc_notN (pe_def oDoneAt hr (pa_cons (pv 0) (pa_cons (pv 1) pa_nil))))) (pss_one (ps_ret (pe_ci T.cIS_DONE))) pss_nil)
      (pss_cons (ps_if (pt_cmpR op_eq (pe_callB call_len_seq (by rfl) T.n_len (by decide +kernel) (pa_cons (pv 0) pa_nil)) (pe_ci T.cMOST_STEPS) (nomark _)) (pss_one (ps_ret (pe_ci T.cTOO_MANY))) pss_nil)
      (pss_cons (ps_expr (pe_bm PySem.F.plainAttrs_list PySem.F.slot_list_append PySem.F.type_list_append mt_append (pv 0) (pa_cons (pe_tup (pa_cons (pv 1) (pa_cons (pv 2) (pa_cons (pv 3) pa_nil)))) pa_nil)))
      (pss_one (ps_ret (pe_callB call_len_seq (by rfl) T.n_len (by decide +kernel) (pa_cons (pv 0) pa_nil)))))))), ?_⟩
    have stay : ∀ {v : Int} {H2 : Hp}, Ex H H2 → one h 1 [p, w1, x] = (h, [v]) → Q (.int v) H2 := fun {v H2} e q => by
      refine ret v H2 (but_ex.trans e) ?_ ?_
      · rw [q]
        exact m.mono e
      · rw [q]
    refine q_when (et_or (et_not (et_test (ev_chain ev_c (ev_var rfl) ev_c))) fun _ => et_or (et_not (et_test (ev_chain ev_c (ev_var rfl) ev_c))) fun _ => et_not (et_test (ev_chain ev_c (ev_var rfl) ev_c))) (fun c H1 e1 => ?_) (fun c H1 e1 => ?_)
    · refine s_ret ev_c fun H2 e2 => stay (e1.trans e2) (step_bad fun z => ?_)
      simp only [Bool.or_eq_true, Bool.not_eq_true', Bool.and_eq_false_iff, decide_eq_false_iff_not] at c
      omega
    · have ok : (0 ≤ p ∧ p < 6) ∧ (0 ≤ w1 ∧ w1 ≤ 2) ∧ (0 ≤ x ∧ x < 8) := by
        simp only [Bool.or_eq_false_iff, Bool.not_eq_false', Bool.and_eq_true, decide_eq_true_eq] at c
        omega
      obtain ⟨t, rfl⟩ : ∃ t : Nat, p = (t : Int) := ⟨p.toNat, by omega⟩
      obtain ⟨xs, ha, mx, gd⟩ := id m
      have tn : ((t : Int)).toNat = t := Int.toNat_natCast t
      refine q_when (et_notN (ev_call (ea_cons (ev_var rfl) (ea_cons (ev_var rfl) ea_nil)) fun H2 e2 Q2 q2 E2 => ⟨a, xs, h, t, rfl, ⟨sq_of ((e1.trans e2) _ _ ha), mx.mono (e1.trans e2), gd⟩, q2⟩)) (fun c H2 e2 => ?_) (fun c H2 e2 => ?_)
      · cases hd : Rc98.doneAt h t with
        | none =>
          rw [hd] at c
          cases c
        | some d => exact s_ret ev_c fun H3 e3 => stay ((e1.trans e2).trans e3) (step_done ok (by rw [tn]; exact hd))
      · have hd : Rc98.doneAt h t = none := by
          cases hd : Rc98.doneAt h t with
          | none => rfl
          | some d =>
            rw [hd] at c
            cases c
        have e02 := e1.trans e2
        have lx : xs.length = h.length := mx.len
        have l24 := gd.1
        refine q_when (et_eqI (ev_len (ev_var rfl) (sq_of (e02 _ _ ha))) ev_c) (fun c H3 e3 => ?_) (fun c H3 e3 => ?_)
        · have c : (xs.length : Int) = 24 := of_decide_eq_true c
          exact s_ret ev_c fun H4 e4 => stay ((e02.trans e3).trans e4) (step_full ok (by rw [tn]; exact hd) (by omega))
        · have c : ¬ (xs.length : Int) = 24 := of_decide_eq_false c
          have lt : ¬ 24 ≤ h.length := by omega
          have o1 := step_new ok (by rw [tn]; exact hd) lt
          have e03 := e02.trans e3
          refine q_appU (e03 _ _ ha) (ev_var rfl) (eu_tup (ea_cons (ev_var rfl) (ea_cons (ev_var rfl) (ea_cons (ev_var rfl) ea_nil))) (by show 3 ≤ 100000; decide)) (by omega) fun c H4 hc e4 h4 => ?_
          have et : ExT H4 (upd H4 a (.lst (xs ++ [.ref c]))) := ExT.put (Ex.refl _) ((e03.trans e4) _ _ ha) fun xs z => by cases z
          refine s_ret (ev_len (ev_var rfl) (sq_of upd_same)) fun H5 e5 => ?_
          refine ret _ H5 ?_ ?_ ?_
          · exact (but_grow (e03.trans e4)).trans (but_ex.trans e5)
          · rw [o1]
            refine ⟨_, e5 _ _ upd_same, papp ((mx.mono (e03.trans e4)).monoT (et.trans (.of e5))) (.cons ⟨c, x, rfl, ?_, fun z => ?_⟩ .nil), good_new gd ok lt⟩
            · have q := (et.trans (.of e5)) _ _ h4
              rw [q]
              have e6 : ((newStep (t : Int) w1 x).t : Int) = (t : Int) := by
                show (((t : Int).toNat : Nat) : Int) = (t : Int)
                omega
              have e7 : ((newStep (t : Int) w1 x).what : Int) = w1 := by
                show ((w1.toNat : Nat) : Int) = w1
                omega
              show some (HO.tup [.int (t : Int), .int w1, .int x]) = some (HO.tup [.int ((newStep (t : Int) w1 x).t : Int), .int ((newStep (t : Int) w1 x).what : Int), .int x])
              rw [e6, e7]
            · have z : w1.toNat ≠ 2 := z
              show x = ((if w1 = 2 then 0 else x.toNat : Nat) : Int)
              rw [if_neg (by omega)]
              omega
          · rw [o1]
            show [((h.length + 1 : Nat) : Int)] = [((xs ++ [V.ref c]).length : Int)]
            rw [List.length_append, lx]
            rfl
/-! ### first_order -/
abbrev sFirstOrder : Stmt := top 53
theorem scFirstOrder : FnScope ["steps", "most", "orders", "order"] ["steps", "most"] (defScope sFirstOrder) := ⟨rfl, rfl, rfl, by decide +kernel, rfl, by decide +kernel, by decide +kernel⟩
def spFirst (K : PySem.W.Frag) : Sp := fun vs' H Q _ => ∃ (a : Addr) (xs : List V) (h : Mix) (n : Int), vs' = [.ref a, .int n] ∧ MixAt K H a xs h ∧ RetL ((one h 2 [n]).2.map V.int) H Q
theorem ok_first {f : Addr} {fd : FuncData} (F : Fun K "first_order" "first_order" sFirstOrder f fd) (T : Txt mg) (oOrdersByClashes : Ok P w K mg base "orders_by_clashes" ["steps"] 4 (spByClashes K)) : FnOk P w K mg base CX0 5 f fd ["steps", "most"] (spFirst K) := by
  refine F.ok scFirstOrder (fun vs H Q E h => ?_) (fun cdv A outer s H vs Q E hr h => ?_)
  · obtain ⟨a, xs, h, n, rfl, _⟩ := h
    rfl
  · obtain ⟨a, xs, h, n, rfl, m, ret⟩ := h
    refine ⟨_, (pss_cons (ps_set (i := 2) scFirstOrder.nd rfl (Or.inl rfl) (pe_def oOrdersByClashes hr (pa_cons (pv 0) pa_nil)))
      (pss_cons (ps_if (pt_cmpR op_eq (pe_callB call_len_seq (by rfl) T.n_len (by decide +kernel) (pa_cons (pv 2) pa_nil)) pe_int (nomark _)) (pss_one (ps_ret (pe_lst (pa_cons (pe_ci T.cREFUSED) pa_nil)))) pss_nil)
      (pss_cons (ps_set (i := 3) scFirstOrder.nd rfl (Or.inl rfl) (pe_ix ix_list (pv 2) pe_int (fun _ _ => rfl)))
      (pss_cons (ps_if (pt_not (pt_chain op_le op_le pe_int (pv 1) (pe_ci T.cMOST_PEOPLE))) (pss_one (ps_ret (pe_lst (pa_cons (pe_callB call_len_seq (by rfl) T.n_len (by decide +kernel) (pa_cons (pv 3) pa_nil)) pa_nil)))) pss_nil)
      (pss_one (ps_ret (pe_op op_cat (pe_lst (pa_cons (pe_callB call_len_seq (by rfl) T.n_len (by decide +kernel) (pa_cons (pv 3) pa_nil)) pa_nil)) (pe_slice sl_list (pv 3) po_none (po_some (pv 1)))))))))), ?_⟩
    refine q_asgR (er_call (ea_cons (ev_var rfl) ea_nil) fun H1 e1 Q1 q1 E1 => ⟨a, xs, h, rfl, m.mono e1, q1⟩) fun v0 H1 e1 r1 => ?_
    obtain ⟨c, ys, rfl, hc, hy⟩ := r1
    have ly := Paired.length hy
    refine q_when (et_eqI (ev_len (ev_var rfl) (sq_of hc)) ev_c) (fun cc H2 e2 => ?_) (fun cc H2 e2 => ?_)
    · have cc : (ys.length : Int) = 0 := of_decide_eq_true cc
      have e0 := List.length_eq_zero_iff.mp (show ((Rc98.all_ h).filter fun p => Rc98.sameClashes h (Rc98.serial h p)).length = 0 by omega)
      rw [one_order_none e0] at ret
      exact s_retL (el_lst (ea_cons ev_c ea_nil) (by show 1 ≤ 100000; decide)) fun p H3 hp e3 h3 => ret p H3 (fresh_back (e1.trans e2) hp) ((e1.trans e2).trans e3) h3
    · have cc : ¬ (ys.length : Int) = 0 := of_decide_eq_false cc
      cases hf : (Rc98.all_ h).filter fun p => Rc98.sameClashes h (Rc98.serial h p) with
      | nil =>
        rw [hf] at ly
        exact absurd (by rw [ly]; rfl) cc
      | cons p rest =>
        rw [hf] at hy
        obtain ⟨y0, hy0, ⟨d, rfl, hd⟩⟩ := pget' hy (i := 0) (y := p) rfl
        rw [one_order_some hf] at ret
        have e02 := e1.trans e2
        refine q_asg (ev_op (ev_var rfl) ev_c (rv_ixL (K := K) (sq_of (e2 _ _ hc)) (atI_nat (j := 0) hy0))) fun H3 e3 => ?_
        have hd3 := (e2.trans e3) _ _ hd
        have pl6 : p.length ≤ 6 := by
          have : p ∈ Rc98.all_ h := (List.mem_filter.mp (by rw [hf]; exact List.mem_cons_self)).1
          rw [(mem_all.mp this).length_eq]
          exact who_len h
        refine q_when (et_not (et_test (ev_chain ev_c (ev_var rfl) ev_c))) (fun c1 H4 e4 => ?_) (fun c1 H4 e4 => ?_)
        · have c1 : ¬ (1 ≤ n ∧ n ≤ 6) := by
            simp only [Bool.not_eq_true', Bool.and_eq_false_iff, decide_eq_false_iff_not] at c1
            omega
          rw [if_neg c1] at ret
          refine s_retL (el_lst (ea_cons (ev_len (ev_var rfl) (sq_of (e4 _ _ hd3))) ea_nil) (by show 1 ≤ 100000; decide)) fun q H5 hq e5 h5 => ret q H5 (fresh_back ((e02.trans e3).trans e4) hq) (((e02.trans e3).trans e4).trans e5) ?_
          rw [h5, vs_len]
          rfl
        · have c1 : 1 ≤ n ∧ n ≤ 6 := by
            simp only [Bool.not_eq_false', Bool.and_eq_true, decide_eq_true_eq] at c1
            exact c1
          rw [if_pos c1] at ret
          obtain ⟨k, rfl⟩ : ∃ k : Nat, n = (k : Int) := ⟨n.toNat, by omega⟩
          have sl := el_sl (K := K) (H := H4) (σ := [some (.ref a), some (.int (k : Int)), some (.ref c), some (.ref d)]) (te := tVar 3) (tl := tNoPart) (th := tPart (tVar 1)) (a := d) (xs := vs p) (lo := none) (hi := some (k : Int)) (ev_var rfl) eo_none (eo_some (ev_var rfl)) (sq_of (e4 _ _ hd3))
          rw [cut_take] at sl
          refine s_retL (el_cat2 (el_lst (ea_cons (ev_len (ev_var rfl) (sq_of (e4 _ _ hd3))) ea_nil) (by show 1 ≤ 100000; decide)) sl (by have l1 := vs_len p; have l2 := List.length_take_le k (vs p); show 1 + _ ≤ 100000; rw [List.length_take]; omega)) fun q H5 hq e5 h5 => ret q H5 (fresh_back ((e02.trans e3).trans e4) hq) (((e02.trans e3).trans e4).trans e5) ?_
          rw [h5, vs_len, Int.toNat_natCast, List.map_cons, List.map_take, ← vs_intL]
          rfl
/-! ### how_many -/
abbrev sHowMany : Stmt := top 54
theorem scHowMany : FnScope ["steps", "sense"] ["steps", "sense"] (defScope sHowMany) := ⟨rfl, rfl, rfl, by decide +kernel, rfl, by decide +kernel, by decide +kernel⟩
def spMany (K : PySem.W.Frag) : Sp := fun vs' H Q _ => ∃ (a : Addr) (xs : List V) (h : Mix) (n : Int), vs' = [.ref a, .int n] ∧ MixAt K H a xs h ∧ ∀ v, (one h 6 [n]).2 = [v] → RetV (.int v) H Q
theorem ok_many {f : Addr} {fd : FuncData} (F : Fun K "how_many" "how_many" sHowMany f fd) (T : Txt mg) (oOrdersByClashes : Ok P w K mg base "orders_by_clashes" ["steps"] 4 (spByClashes K)) (oOrdersBySights : Ok P w K mg base "orders_by_sights" ["steps"] 3 (spBySights K)) : FnOk P w K mg base CX0 5 f fd ["steps", "sense"] (spMany K) := by
  refine F.ok scHowMany (fun vs H Q E h => ?_) (fun cdv A outer s H vs Q E hr h => ?_)
  · obtain ⟨a, xs, h, n, rfl, _⟩ := h
    rfl
  · obtain ⟨a, xs, h, n, rfl, m, ret⟩ := h
    refine ⟨_, (pss_cons (ps_if (pt_cmpR op_eq (pv 1) pe_int (nomark _)) (pss_one (ps_ret (pe_callB call_len_seq (by rfl) T.n_len (by decide +kernel) (pa_cons (pe_def oOrdersByClashes hr (pa_cons (pv 0) pa_nil)) pa_nil)))) pss_nil)
      (pss_cons (ps_if (pt_cmpR op_eq (pv 1) pe_int (nomark _)) (pss_one (ps_ret (pe_callB call_len_seq (by rfl) T.n_len (by decide +kernel) (pa_cons (pe_def oOrdersBySights hr (pa_cons (pv 0) pa_nil)) pa_nil)))) pss_nil)
      (pss_one (ps_ret (pe_ci T.cREFUSED))))), ?_⟩
    refine q_when (et_eqI (ev_var rfl) ev_c) (fun c H1 e1 => ?_) (fun c H1 e1 => ?_)
    · have c : n = 0 := of_decide_eq_true c
      subst c
      exact s_ret (ev_lenR (er_call (ea_cons (ev_var rfl) ea_nil) fun H2 e2 Q2 q2 E2 => ⟨a, xs, h, rfl, m.mono (e1.trans e2), q2⟩)) fun H2 e2 => ret _ (by rw [one_many0]) H2 (e1.trans e2)
    · have c : ¬ n = 0 := of_decide_eq_false c
      refine q_when (et_eqI (ev_var rfl) ev_c) (fun c1 H2 e2 => ?_) (fun c1 H2 e2 => ?_)
      · have c1 : n = 1 := of_decide_eq_true c1
        subst c1
        exact s_ret (ev_lenR (er_call (ea_cons (ev_var rfl) ea_nil) fun H3 e3 Q2 q2 E2 => ⟨a, xs, h, rfl, m.mono ((e1.trans e2).trans e3), q2⟩)) fun H3 e3 => ret _ (by rw [one_many1]) H3 ((e1.trans e2).trans e3)
      · have c1 : ¬ n = 1 := of_decide_eq_false c1
        exact s_ret ev_c fun H3 e3 => ret _ (by rw [one_many c c1]) H3 ((e1.trans e2).trans e3)
end
end SM

namespace SM
open PySem PySem.Spec PyProof.Rows L2 Evl
open Rc98 (Mix)
theorem does_len (s : Rc98.Abs) (c : Rc98.Call) : (Rc98.does s c).2.numbers.length ≤ 6 := by
  cases c with
  | init => exact Nat.zero_le _
  | step t w1 x =>
    unfold Rc98.does
    dsimp only
    split
    · exact Nat.zero_le _
    · split
      · exact Nat.zero_le _
      · split <;> exact Nat.zero_le _
  | order n =>
    unfold Rc98.does
    dsimp only
    split
    · show (List.take _ _).length ≤ 6
      rw [List.length_take]
      refine Nat.le_trans (Nat.min_le_left _ _) ?_
      unfold Rc98.room_ Rc98.PEOPLE
      split <;> omega
    · exact Nat.zero_le _
  | looks => exact Nat.zero_le _
  | locks => exact Nat.zero_le _
  | back => exact Nat.zero_le _
  | many k =>
    unfold Rc98.does
    dsimp only
    split <;> exact Nat.zero_le _
theorem one_len (s : Mix) (p : Int) (a : List Int) : (one s p a).2.length ≤ 7 := by
  unfold one Rc98Neutral.step
  dsimp only
  split
  · exact Nat.zero_le _
  · rename_i c _
    have := does_len { mix := s } c
    show (List.map _ _).length + 1 ≤ 7
    rw [List.length_map]
    omega
theorem step_one (s : Mix) (a b c : Int) : ∃ v, (one s 1 [a, b, c]).2 = [v] := by
  by_cases h : (0 ≤ a ∧ a < 6) ∧ (0 ≤ b ∧ b ≤ 2) ∧ (0 ≤ c ∧ c < 8)
  · cases hd : Rc98.doneAt s a.toNat with
    | some d => exact ⟨_, by rw [step_done h hd]⟩
    | none =>
      by_cases l : 24 ≤ s.length
      · exact ⟨_, by rw [step_full h hd l]⟩
      · exact ⟨_, by rw [step_new h hd l]⟩
  · exact ⟨_, by rw [step_bad h]⟩
theorem many_one (s : Mix) (k : Int) : ∃ v, (one s 6 [k]).2 = [v] ∧ (one s 6 [k]).1 = s := by
  by_cases h0 : k = 0
  · subst h0
    exact ⟨_, by rw [one_many0], by rw [one_many0]⟩
  · by_cases h1 : k = 1
    · subst h1
      exact ⟨_, by rw [one_many1], by rw [one_many1]⟩
    · exact ⟨_, by rw [one_many h0 h1], by rw [one_many h0 h1]⟩
theorem order_same (s : Mix) (n : Int) : (one s 2 [n]).1 = s := by
  cases h : (Rc98.all_ s).filter fun p => Rc98.sameClashes s (Rc98.serial s p) with
  | nil => rw [one_order_none h]
  | cons p r => rw [one_order_some h]
section
variable {P : Program} {w : World} {K : PySem.W.Frag} {mg : Str → Option Value} {base : Heap}
/-! ### one_answer -/
abbrev sOneAnswer : Stmt := top 55
theorem scOneAnswer : FnScope ["steps", "deed", "numbers"] ["steps", "deed", "numbers"] (defScope sOneAnswer) := ⟨rfl, rfl, rfl, by decide +kernel, rfl, by decide +kernel, by decide +kernel⟩
def spOne (K : PySem.W.Frag) : Sp := fun vs' H Q _ => ∃ (a b : Addr) (h : Mix) (d : Int) (ns : List Int), vs' = [.ref a, .int d, .ref b] ∧ MixNow H a h ∧ H b = some (.lst (ns.map V.int)) ∧ (1 ≤ d ∧ d ≤ 6) ∧ ns.length = nums d ∧
  ∀ p H2, H p = none → Ex (but H a) H2 → MixNow H2 a (one h d ns).1 → H2 p = some (.lst ((one h d ns).2.map V.int)) → Q (.ref p) H2
theorem ev_nth {σ : L2.St} {H : Hp} {ta : TE} {b : Addr} {ns : List Int} {j : Nat} {z : Int} (h : Ev ta σ H (.ref b)) (hb : H b = some (.lst (ns.map V.int))) (hj : ns[j]? = some z) : Ev (tOp (rIxL K) ta (tC (.int (j : Int)))) σ H (.int z) := ev_op h ev_c (rv_ixL (sq_of hb) (atI_nat (j := j) (by rw [List.getElem?_map, hj]; rfl)))
theorem ok_one {f : Addr} {fd : FuncData} (F : Fun K "one_answer" "one_answer" sOneAnswer f fd) (T : Txt mg) (oStepAdded : Ok P w K mg base "step_added" ["steps", "person", "what", "place"] 2 spStep) (oFirstOrder : Ok P w K mg base "first_order" ["steps", "most"] 5 (spFirst K)) (oOrdersBySights : Ok P w K mg base "orders_by_sights" ["steps"] 3 (spBySights K))
    (oLocksLet : Ok P w K mg base "locks_let" ["steps"] 6 (spLocks K)) (oBackSum : Ok P w K mg base "back_sum" ["steps"] 6 (spBackSum K)) (oHowMany : Ok P w K mg base "how_many" ["steps", "sense"] 5 (spMany K)) : FnOk P w K mg base CX0 7 f fd ["steps", "deed", "numbers"] (spOne K) := by
  refine F.ok scOneAnswer (fun vs H Q E h => ?_) (fun cdv A outer s H vs Q E hr h => ?_)
  · obtain ⟨a, b, h, d, ns, rfl, _⟩ := h
    rfl
  · obtain ⟨a, b, h, d, ns, rfl, m, hb, d6, ln, ret⟩ := h
    refine ⟨_, (pss_cons (ps_if (pt_cmpR op_eq (pv 1) (pe_ci T.cSTEP) (nomark _)) (pss_one (ps_ret (pe_lst (pa_cons (pe_def oStepAdded hr (pa_cons (pv 0) (pa_cons (pe_ix ix_list (pv 2) pe_int (fun _ _ => rfl)) (pa_cons (pe_ix ix_list (pv 2) pe_int (fun _ _ => rfl)) (pa_cons (pe_ix ix_list (pv 2) pe_int (fun _ _ => rfl)) pa_nil))))) pa_nil)))) pss_nil)
      (pss_cons (ps_if (pt_cmpR op_eq (pv 1) (pe_ci T.cORDER) (nomark _)) (pss_one (ps_ret (pe_def oFirstOrder hr (pa_cons (pv 0) (pa_cons (pe_ix ix_list (pv 2) pe_int (fun _ _ => rfl)) pa_nil))))) pss_nil)
      (pss_cons (ps_if (pt_cmpR op_eq (pv 1) (pe_ci T.cLOOKS) (nomark _)) (pss_one (ps_ret (pe_lst (pa_cons (pe_callTy call_int1 (by rfl) T.n_int (by decide +kernel) (pa_cons (pe_cmpR op_gt (pe_callB call_len_seq (by rfl) T.n_len (by decide +kernel) (pa_cons (pe_def oOrdersBySights hr (pa_cons (pv 0) pa_nil)) pa_nil)) pe_int (nomark _)) pa_nil)) pa_nil)))) pss_nil)
      (pss_cons (ps_if (pt_cmpR op_eq (pv 1) (pe_ci T.cLOCKS) (nomark _)) (pss_one (ps_ret (pe_lst (pa_cons (pe_callTy call_int1 (by rfl) T.n_int (by decide +kernel) (pa_cons (pe_def oLocksLet hr (pa_cons (pv 0) pa_nil)) pa_nil)) pa_nil)))) pss_nil)
      (pss_cons (ps_if (pt_cmpR op_eq (pv 1) (pe_ci T.cBACK) (nomark _)) (pss_one (ps_ret (pe_lst (pa_cons (pe_def oBackSum hr (pa_cons (pv 0) pa_nil)) pa_nil)))) pss_nil)
      (pss_one (ps_ret (pe_lst (pa_cons (pe_def oHowMany hr (pa_cons (pv 0) (pa_cons (pe_ix ix_list (pv 2) pe_int (fun _ _ => rfl)) pa_nil))) pa_nil))))))))), ?_⟩
    obtain ⟨xs, ha, mx, gd⟩ := id m
    have mm : MixAt K H a xs h := ⟨sq_of ha, mx, gd⟩
    refine q_when (et_eqI (ev_var rfl) ev_c) (fun c H1 e1 => ?_) (fun c H1 e1 => ?_)
    · have c : d = 1 := of_decide_eq_true c
      subst c
      match ns, ln with
      | [n0, n1, n2], _ =>
        have hb1 := e1 _ _ hb
        obtain ⟨v, hv⟩ := step_one h n0 n1 n2
        refine ret_of ?_
        show tCall spStep [] E0 (tCons (tVar 0) (tCons (tOp (rIxL K) (tVar 2) (tC (.int 0))) (tCons (tOp (rIxL K) (tVar 2) (tC (.int 1))) (tCons (tOp (rIxL K) (tVar 2) (tC (.int 2))) tNil)))) _ H1 _
        refine (ea_cons (ev_var rfl) (ea_cons (ev_nth (j := 0) (ev_var rfl) hb1 rfl) (ea_cons (ev_nth (j := 1) (ev_var rfl) hb1 rfl) (ea_cons (ev_nth (j := 2) (ev_var rfl) hb1 rfl) ea_nil)))) H1 (Ex.refl _) _ fun H2 e2 => ?_
        refine ⟨a, h, n0, n1, n2, rfl, m.mono (e1.trans e2), fun v' H3 e3 m3 hv' => ?_⟩
        have ev : v' = v := by
          rw [hv] at hv'
          exact (List.cons.inj hv').1.symm
        subst ev
        refine ⟨by show 1 ≤ sizeLine; decide, fun p hp => ?_⟩
        refine ret p _ ?_ ((but_mono (e1.trans e2)).trans (e3.trans (Ex.new hp))) (m3.mono (Ex.new hp)) ?_
        · cases q : H p with
          | none => rfl
          | some o =>
            by_cases pa : p = a
            · obtain ⟨ys, hy, _⟩ := m3
              rw [pa, hy] at hp
              cases hp
            · have := e3 _ _ (but_at ((e1.trans e2) _ _ q) pa)
              rw [this] at hp
              cases hp
        · rw [upd_same, hv]
          rfl
    · have c : ¬ d = 1 := of_decide_eq_false c
      have fin : ∀ {vals : List Int}, one h d ns = (h, vals) → ∀ (H2 : Hp) (p : Addr), H p = none → Ex H H2 → H2 p = some (.lst (vals.map V.int)) → Q (.ref p) H2 := fun {vals} q H2 p hp e hpv => by
        refine ret p H2 hp (but_ex.trans e) ?_ ?_
        · rw [q]
          exact m.mono e
        · rw [q]
          exact hpv
      refine q_when (et_eqI (ev_var rfl) ev_c) (fun c1 H2 e2 => ?_) (fun c1 H2 e2 => ?_)
      · have c1 : d = 2 := of_decide_eq_true c1
        subst c1
        match ns, ln with
        | [n], _ =>
          have e02 := e1.trans e2
          refine s_retL (el_call (ea_cons (ev_var rfl) (ea_cons (ev_nth (j := 0) (ev_var rfl) (e02 _ _ hb) rfl) ea_nil)) fun H3 e3 Q3 q3 E3 => ⟨a, xs, h, n, rfl, mm.mono (e02.trans e3), q3⟩) fun p H3 hp e3 h3 => ?_
          exact fin (Prod.ext (order_same h n) rfl) H3 p (fresh_back e02 hp) (e02.trans e3) h3
      · have c1 : ¬ d = 2 := of_decide_eq_false c1
        have e02 := e1.trans e2
        refine q_when (et_eqI (ev_var rfl) ev_c) (fun c2 H3 e3 => ?_) (fun c2 H3 e3 => ?_)
        · have c2 : d = 3 := of_decide_eq_true c2
          subst c2
          match ns, ln with
          | [], _ =>
            have e03 := e02.trans e3
            refine s_retL (el_lst (ea_cons (ev_intB (ev_op (ev_lenR (K := K) (er_call (ea_cons (ev_var rfl) ea_nil) fun H4 e4 Q4 q4 E4 => ⟨a, xs, h, rfl, mm.mono (e03.trans e4), q4⟩)) ev_c rv_I0)) ea_nil) (by show 1 ≤ 100000; decide)) fun p H4 hp e4 h4 => ?_
            refine fin one_looks H4 p (fresh_back e03 hp) (e03.trans e4) ?_
            rw [h4]
            refine congrArg (fun z => some (HO.lst [V.int z])) ?_
            by_cases q : ((Rc98.all_ h).filter fun p => Rc98.sameSeen h (Rc98.serial h p)).length > 0
            · rw [if_pos q, if_pos (decide_eq_true (by omega))]
            · rw [if_neg q, if_neg (by rw [decide_eq_false (by omega)]; exact Bool.false_ne_true)]
        · have c2 : ¬ d = 3 := of_decide_eq_false c2
          have e03 := e02.trans e3
          refine q_when (et_eqI (ev_var rfl) ev_c) (fun c3 H4 e4 => ?_) (fun c3 H4 e4 => ?_)
          · have c3 : d = 4 := of_decide_eq_true c3
            subst c3
            match ns, ln with
            | [], _ =>
              have e04 := e03.trans e4
              refine s_retL (el_lst (ea_cons (ev_intB (ev_call (ea_cons (ev_var rfl) ea_nil) fun H5 e5 Q4 q4 E4 => ⟨a, xs, h, rfl, mm.mono (e04.trans e5), q4⟩)) ea_nil) (by show 1 ≤ 100000; decide)) fun p H5 hp e5 h5 => ?_
              exact fin one_locks H5 p (fresh_back e04 hp) (e04.trans e5) h5
          · have c3 : ¬ d = 4 := of_decide_eq_false c3
            have e04 := e03.trans e4
            refine q_when (et_eqI (ev_var rfl) ev_c) (fun c4 H5 e5 => ?_) (fun c4 H5 e5 => ?_)
            · have c4 : d = 5 := of_decide_eq_true c4
              subst c4
              match ns, ln with
              | [], _ =>
                have e05 := e04.trans e5
                refine s_retL (el_lst (ea_cons (ev_call (ea_cons (ev_var rfl) ea_nil) fun H6 e6 Q4 q4 E4 => ⟨a, xs, h, rfl, mm.mono (e05.trans e6), q4⟩) ea_nil) (by show 1 ≤ 100000; decide)) fun p H6 hp e6 h6 => ?_
                exact fin one_back H6 p (fresh_back e05 hp) (e05.trans e6) h6
            · have c4 : ¬ d = 5 := of_decide_eq_false c4
              have d6' : d = 6 := by omega
              subst d6'
              match ns, ln with
              | [n], _ =>
                have e05 := e04.trans e5
                obtain ⟨v, hv, hs⟩ := many_one h n
                refine s_retL (el_lst (ea_cons (ev_call (z := .int v) (ea_cons (ev_var rfl) (ea_cons (ev_nth (j := 0) (ev_var rfl) (e05 _ _ hb) rfl) ea_nil)) fun H6 e6 Q4 q4 E4 => ⟨a, xs, h, n, rfl, mm.mono (e05.trans e6), fun v' hv' => ?_⟩) ea_nil) (by show 1 ≤ 100000; decide)) fun p H6 hp e6 h6 => ?_
                · have : v' = v := by
                    rw [hv] at hv'
                    exact (List.cons.inj hv').1.symm
                  subst this
                  exact q4
                · exact fin (Prod.ext hs hv) H6 p (fresh_back e05 hp) (e05.trans e6) h6
end
end SM

namespace SM
open PySem PySem.Spec PyProof.Rows L2 Evl
open Rc98 (Mix)
theorem cut_mid (xs : List V) {i j : Nat} (hij : i ≤ j) (hj : j ≤ xs.length) : cutV xs (some (i : Int)) (some (j : Int)) = (xs.drop i).take (j - i) := by
  unfold cutV
  rw [HT.sIx_nat, HT.sIx_nat, Nat.min_eq_left hj, Nat.min_eq_left (show i ≤ xs.length by omega)]
theorem s_asgCall3 {σ : L2.St} {H : Hp} {ta tb tc : TE} {D : Ends} {x y : V} {sp : Sp} {E : XK} {zs : List V} {i : Nat} (h1 : Ev ta σ H x) (h2 : Ev tb σ H y) (h3 : EvL tc σ H zs) (k : ∀ p H1, H p = none → Ex H H1 → H1 p = some (.lst zs) → sp [x, y, .ref p] H1 (fun v H2 => D.nx (σ.set i (some v)) H2) E) : tAsg (tCall sp [] E (tCons ta (tCons tb (tCons tc tNil)))) (gName i) D σ H :=
  h1 H (Ex.refl H) _ fun H1 e1 => h2 H1 e1 _ fun H2 e2 => h3 H2 (e1.trans e2) _ fun p H3 hp e3 hp3 => k p H3 (fresh_back (e1.trans e2) hp) ((e1.trans e2).trans e3) hp3
/-- how many numbers each call hands in, as the module has it -/
def numV : List V := [.int 0, .int 3, .int 1, .int 0, .int 0, .int 0, .int 1]
theorem numV_at {p : Int} (h : 0 ≤ p ∧ p ≤ 6) : atI numV p = some (.int (nums p : Int)) := by
  have c : p = 0 ∨ p = 1 ∨ p = 2 ∨ p = 3 ∨ p = 4 ∨ p = 5 ∨ p = 6 := by omega
  rcases c with rfl | rfl | rfl | rfl | rfl | rfl | rfl <;> rfl
section
variable {P : Program} {w : World} {K : PySem.W.Frag} {mg : Str → Option Value} {base : Heap} {nN : Addr}
abbrev sAnswers : Stmt := top 56
theorem scAnswers : FnScope ["calls", "steps", "found", "at", "deed", "end", "answer"] ["calls"] (defScope sAnswers) := ⟨rfl, rfl, rfl, by decide +kernel, rfl, by decide +kernel, by decide +kernel⟩
def spAns (K : PySem.W.Frag) : Sp := fun vs' H Q _ => ∃ (a : Addr) (ns : List Int), vs' = [.ref a] ∧ SqL K H a (ns.map V.int) ∧ ns.length ≤ 30000 ∧ PyRc98.answers_asked ns = true ∧ ∀ (H' : Hp) (p : Addr), H' p = some (.lst ((PyRc98.answers ns).map V.int)) → Q (.ref p) H'
/-- what holds ahead of each call -/
structure Going (K : PySem.W.Frag) (H : Hp) (ns : List Int) (i : Nat) (sa fa : Addr) (h : Mix) (cs : List (List (List Int))) (out : List Int) (H' : Hp) : Prop where
  le : i ≤ ns.length
  ex : Ex H H'
  ns' : H sa = none
  nf : H fa = none
  ne : sa ≠ fa
  mix : MixNow H' sa h
  fnd : H' fa = some (.lst (out.map V.int))
  left : Left (ns.drop i) cs
  tells : out ++ tell h cs = PyRc98.answers ns
  few : out.length + 8 * cs.length ≤ 3200
theorem Going.mono {H : Hp} {ns : List Int} {i : Nat} {sa fa : Addr} {h : Mix} {cs : List (List (List Int))} {out : List Int} {H' H'' : Hp} (g : Going K H ns i sa fa h cs out H') (e : Ex H' H'') : Going K H ns i sa fa h cs out H'' :=
  ⟨g.le, g.ex.trans e, g.ns', g.nf, g.ne, g.mix.mono e, e _ _ g.fnd, g.left, g.tells, g.few⟩
theorem ok_ans {f : Addr} {fd : FuncData} (F : Fun K "answers" "answers" sAnswers f fd) (T : Txt mg) (hNum : mg "NUMBERS" = some (.ref nN)) (hT : ∀ H, SqT K H nN numV) (oOneAnswer : Ok P w K mg base "one_answer" ["steps", "deed", "numbers"] 7 (spOne K)) : FnOk P w K mg base CX0 8 f fd ["calls"] (spAns K) := by
  refine F.ok scAnswers (fun vs H Q E h => ?_) (fun cdv A outer s H vs Q E hr h => ?_)
  · obtain ⟨a, ns, rfl, _⟩ := h
    rfl
  · obtain ⟨a, ns, rfl, ha, ln, ask, ret⟩ := h
    obtain ⟨cs0, left0, len0, tell0⟩ := asked_is ask
    refine ⟨_, (pss_cons (ps_set (i := 1) scAnswers.nd rfl (Or.inl rfl) (pe_lst pa_nil))
      (pss_cons (ps_set (i := 2) scAnswers.nd rfl (Or.inl rfl) (pe_lst pa_nil))
      (pss_cons (ps_set (i := 3) scAnswers.nd rfl (Or.inl rfl) pe_int)
      (pss_cons (ps_while PassesOwn.never (pt_cmpR op_lt (pv 3) (pe_callB call_len_seq (by rfl) T.n_len (by decide +kernel) (pa_cons (pv 0) pa_nil)) (nomark _)) (pss_cons (ps_set (i := 4) scAnswers.nd rfl (Or.inl rfl) (pe_ix ix_list (pv 0) (pv 3) (fun _ _ => rfl)))
      (pss_cons (ps_set (i := 5) scAnswers.nd rfl (Or.inl rfl) (pe_op op_add (pe_op op_add (pv 3) pe_int) (pe_ix ix_tup (pe_glob (v := .ref nN) (by rfl) hNum rfl) (pv 4) (fun _ _ => rfl))))
      (pss_cons (ps_if (pt_cmpR op_eq (pv 4) (pe_ci T.cBEGIN) (nomark _)) (pss_cons (ps_set (i := 1) scAnswers.nd rfl (Or.inl rfl) (pe_lst pa_nil))
      (pss_one (ps_set (i := 6) scAnswers.nd rfl (Or.inl rfl) (pe_lst (pa_cons pe_int pa_nil))))) (pss_one (ps_set (i := 6) scAnswers.nd rfl (Or.inl rfl) (pe_def oOneAnswer hr (pa_cons (pv 1) (pa_cons (pv 4) (pa_cons (pe_slice sl_list (pv 0) (po_some (pe_op op_add (pv 3) pe_int)) (po_some (pv 5))) pa_nil)))))))
      (pss_cons (ps_expr (pe_bm PySem.F.plainAttrs_list PySem.F.slot_list_append PySem.F.type_list_append mt_append (pv 2) (pa_cons (pe_callB call_len_seq (by rfl) T.n_len (by decide +kernel) (pa_cons (pv 6) pa_nil)) pa_nil)))
      (pss_cons (ps_expr (pe_bm PySem.F.plainAttrs_list PySem.F.slot_list_extend PySem.F.type_list_extend mt_extend (pv 2) (pa_cons (pv 6) pa_nil)))
      (pss_one (ps_set (i := 3) scAnswers.nd rfl (Or.inl rfl) (pv 5)))))))))
      (pss_one (ps_ret (pv 2))))))), ?_⟩
    refine q_asgL (el_lst ea_nil (Nat.zero_le _)) fun s0 H1 n1 e1 h1 => ?_
    refine q_asgL (el_lst ea_nil (Nat.zero_le _)) fun f0 H2 n2 e2 h2 => ?_
    refine q_asg ev_c fun H3 e3 => ?_
    have ne0 : s0 ≠ f0 := fun z => by
      rw [← z, h1] at n2
      cases n2
    refine q_while (fun m σ' H' => ∃ (i : Nat) (sa : Addr) (u1 u2 u3 : Option V) (h : Mix) (cs : List (List (List Int))) (out : List Int), m = ns.length - i ∧ σ' = [some (.ref a), some (.ref sa), some (.ref f0), some (vi i), u1, u2, u3] ∧ Going K H ns i sa f0 h cs out H') (ns.length - 0)
      ⟨0, s0, none, none, none, [], cs0, [], rfl, rfl, Nat.zero_le _, (e1.trans e2).trans e3, n1, fresh_back e1 n2, ne0, ⟨[], (e2.trans e3) _ _ h1, .nil, by decide, fun s hs => by cases hs⟩, e3 _ _ h2, left0, tell0.symm, by simp; omega⟩ fun m σ' H' hW => ?_
    obtain ⟨i, sa, u1, u2, u3, h, cs, out, rfl, rfl, g⟩ := hW
    refine ⟨_, et_test (ev_ltI (ev_var rfl) (ev_len (ev_var rfl) (ex_l g.ex ha))), fun c H4 e4 => ?_, fun c H4 e4 => ?_⟩
    · have c : (i : Int) < ((ns.map V.int).length : Int) := of_decide_eq_true c
      rw [List.length_map] at c
      have il : i < ns.length := by omega
      have g4 := g.mono e4
      have hdr : ns.drop i = ns[i] :: ns.drop (i + 1) := List.drop_eq_getElem_cons il
      have lf := g.left
      rw [hdr] at lf
      obtain ⟨p6, nl, cs', rfl, left'⟩ := lf.cons
      generalize hp : ns[i] = p at p6 nl left'
      have hpi : ns[i]? = some p := by rw [List.getElem?_eq_getElem il, hp]
      have nlen : i + 1 + nums p ≤ ns.length := by
        rw [List.length_drop] at nl
        omega
      rw [List.drop_drop] at left'
      have few := g.few
      rw [List.length_cons] at few
      have tells := g.tells
      rw [hp, tell_cons] at tells
      have ol := one_len h p ((ns.drop (i + 1)).take (nums p))
      refine ⟨fun σ2 H2 => ∃ (sa : Addr) (u1 u2 u3 : Option V) (h : Mix) (cs : List (List (List Int))) (out : List Int), σ2 = [some (.ref a), some (.ref sa), some (.ref f0), some (vi (i + 1 + nums p)), u1, u2, u3] ∧ Going K H ns (i + 1 + nums p) sa f0 h cs out H2, fun σ2 H2 hN => ?_, ?_⟩
      · obtain ⟨sa, u1, u2, u3, h, cs, out, e0, g'⟩ := hN
        exact ⟨ns.length - (i + 1 + nums p), by omega, i + 1 + nums p, sa, u1, u2, u3, h, cs, out, rfl, e0, g'⟩
      · refine q_asg (ev_op (ev_var rfl) (ev_var rfl) (rv_ixL (K := K) (v := .int p) (ex_l g4.ex ha) (atI_nat (j := i) (by rw [List.getElem?_map, hpi]; rfl)))) fun H5 e5 => ?_
        refine q_asg (v := vi (i + 1 + nums p)) (ev_is (ev_op (ev_op (ev_var rfl) ev_c rv_I0) (ev_op ev_c (ev_var rfl) (rv_ixT (K := K) (hT _) (numV_at p6))) rv_I0) ?_) fun H6 e6 => ?_
        · refine congrArg V.int ?_
          omega
        have g6 := (g4.mono e5).mono e6
        -- what follows behind the answer
        have rest : ∀ (sb q : Addr) (h' : Mix) (ans : List Int) (H7 : Hp), Ex H H7 → H sb = none → sb ≠ f0 → MixNow H7 sb h' → H7 f0 = some (.lst (out.map V.int)) → H7 q = some (.lst (ans.map V.int)) → q ≠ f0 → ans.length ≤ 7 → (out ++ ((ans.length : Int) :: ans)) ++ tell h' cs' = PyRc98.answers ns →
            tSeq (tDrop (tBM K "list" rAppend (tVar 2) (tCons (tCB (fun xs H Q => ∃ p ys, xs = [.ref p] ∧ (SqL K H p ys ∨ SqT K H p ys) ∧ Q (.int ys.length) H) (tCons (tVar 6) tNil)) tNil))) (tSeq (tDrop (tBM K "list" rExtend (tVar 2) (tCons (tVar 6) tNil))) (tAsg (tVar 5) (gName 3)))
              { nx := fun σ2 H2 => ∃ (sa : Addr) (u1 u2 u3 : Option V) (h : Mix) (cs : List (List (List Int))) (out : List Int), σ2 = [some (.ref a), some (.ref sa), some (.ref f0), some (vi (i + 1 + nums p)), u1, u2, u3] ∧ Going K H ns (i + 1 + nums p) sa f0 h cs out H2, rt := Q, bk := tRet (tVar 2) { nx := fun x H' => Q V.non H', rt := Q }, ct := fun σ2 H2 => ∃ (sa : Addr) (u1 u2 u3 : Option V) (h : Mix) (cs : List (List (List Int))) (out : List Int), σ2 = [some (.ref a), some (.ref sa), some (.ref f0), some (vi (i + 1 + nums p)), u1, u2, u3] ∧ Going K H ns (i + 1 + nums p) sa f0 h cs out H2 }
              [some (.ref a), some (.ref sb), some (.ref f0), some (vi i), some (.int p), some (vi (i + 1 + nums p)), some (.ref q)] H7 := by
          intro sb q h' ans H7 x7 nsb nbf m7 f7 q7 nq la eq
          refine q_app f7 (ev_var rfl) (ev_len (K := K) (ev_var rfl) (sq_of q7)) (by rw [List.length_map]; omega) fun H8 e8 => ?_
          have q8 : upd H8 f0 (.lst (out.map V.int ++ [.int ((ans.map V.int).length : Int)])) q = some (.lst (ans.map V.int)) := by
            rw [upd_ne nq]
            exact e8 _ _ q7
          refine q_extV upd_same q8 (ev_var rfl) (ev_var rfl) (by rw [List.length_append, List.length_map, List.length_map]; simp; omega) fun H9 e9 => ?_
          refine s_asg (ev_var rfl) fun H10 e10 => ?_
          have t1 : ExT H8 (upd H8 f0 (.lst (out.map V.int ++ [.int ((ans.map V.int).length : Int)]))) := ExT.put (Ex.refl _) (e8 _ _ f7) fun xs z => by cases z
          have t2 : ExT H9 (upd H9 f0 (.lst (out.map V.int ++ [.int ((ans.map V.int).length : Int)] ++ ans.map V.int))) := ExT.put (Ex.refl _) (e9 _ _ upd_same) fun xs z => by cases z
          obtain ⟨ys, hy, my, gy⟩ := m7
          refine ⟨sb, _, _, _, h', cs', out ++ ((ans.length : Int) :: ans), rfl, nlen, ?_, nsb, g6.nf, nbf, ⟨ys, ?_, (((my.mono e8).monoT t1).mono e9).monoT (t2.trans (.of e10)), gy⟩, ?_, left', eq, ?_⟩
          · exact (Ex.mut ((Ex.mut (x7.trans e8) g6.nf).trans e9) g6.nf).trans e10
          · refine e10 _ _ ?_
            rw [upd_ne nbf]
            refine e9 _ _ ?_
            rw [upd_ne nbf]
            exact e8 _ _ hy
          · refine e10 _ _ ?_
            rw [upd_same, List.length_map, List.map_append, List.append_assoc]
            rfl
          · rw [List.length_append, List.length_cons]
            omega
        refine q_if (et_eqI (ev_var rfl) ev_c) (fun c1 H7 e7 => ?_) (fun c1 H7 e7 => ?_)
        · have c1 : p = 0 := of_decide_eq_true c1
          have g7 := g6.mono e7
          refine q_asgL (el_lst ea_nil (Nat.zero_le _)) fun sb H8 n8 e8 h8 => ?_
          refine s_asgL (el_lst (ea_cons ev_c ea_nil) (by show 1 ≤ 100000; decide)) fun q H9 n9 e9 h9 => ?_
          have o1 : one h p ((ns.drop (i + 1)).take (nums p)) = ([], [0]) := by
            subst c1
            rfl
          rw [o1] at tells
          refine rest sb q [] [0] H9 (g7.ex.trans (e8.trans e9)) (fresh_back g7.ex n8) (fun z => ?_) ⟨[], e9 _ _ h8, .nil, by decide, fun s hs => by cases hs⟩ ((e8.trans e9) _ _ g7.fnd) h9 (fun z => ?_) (by decide) ?_
          · rw [z, g7.fnd] at n8
            cases n8
          · rw [z, e8 _ _ g7.fnd] at n9
            cases n9
          · rw [← tells, List.append_assoc]
        · have c1 : ¬ p = 0 := of_decide_eq_false c1
          have g7 := g6.mono e7
          have sl := el_sl (K := K) (H := H7) (σ := [some (.ref a), some (.ref sa), some (.ref f0), some (vi i), some (.int p), some (vi (i + 1 + nums p)), u3]) (te := tVar 0) (tl := tPart (tOp (rI0 fun i j => .int (i + j)) (tVar 3) (tC (.int 1)))) (th := tPart (tVar 5)) (a := a) (xs := ns.map V.int) (lo := some ((i + 1 : Nat) : Int)) (hi := some ((i + 1 + nums p : Nat) : Int)) (ev_var rfl) (eo_some (ev_is (ev_op (ev_var rfl) ev_c rv_I0) rfl)) (eo_some (ev_var rfl)) (ex_l g7.ex ha)
          rw [cut_mid _ (by omega) (by rw [List.length_map]; omega), show i + 1 + nums p - (i + 1) = nums p by omega, ← List.map_drop, ← List.map_take] at sl
          refine s_asgCall3 (ev_var rfl) (ev_var rfl) sl fun b H10 n10 e710 h10 => ?_
          have g10 := g7.mono e710
          refine ⟨sa, b, h, p, _, rfl, g10.mix, h10, ⟨by omega, p6.2⟩, ?_, fun q H11 nq e11 m11 h11 => ?_⟩
          · rw [List.length_take]
            omega
          · have fd : H11 f0 = some (.lst (out.map V.int)) := e11 _ _ (but_at g10.fnd (Ne.symm g.ne))
            have ex : Ex H H11 := fun b' o' hb' => e11 _ _ (but_at (g10.ex _ _ hb') fun z => by
              rw [z, g.ns'] at hb'
              cases hb')
            refine rest sa q _ _ H11 ex g.ns' g.ne m11 fd h11 (fun z => ?_) ol ?_
            · rw [z, g10.fnd] at nq
              cases nq
            · rw [← tells, List.append_assoc]
    · have c : ¬ (i : Int) < ((ns.map V.int).length : Int) := of_decide_eq_false c
      rw [List.length_map] at c
      have ei : i = ns.length := by
        have := g.le
        omega
      have lf := g.left
      rw [ei, List.drop_length] at lf
      have ecs := lf.nil
      have tells := g.tells
      rw [ecs, tell_nil, List.append_nil] at tells
      refine s_ret (ev_var rfl) fun H5 e5 => ret H5 f0 ?_
      rw [← tells]
      exact (e4.trans e5) _ _ g.fnd
end
end SM

/-! ### the end: what the top has written, and all promises tied -/
namespace SM
open PySem PySem.Spec PyProof.Rows L2 Evl
open PySem.W (Codec)
/-- a def of the text stands at its name -/
def DefAt (K : PySem.W.Frag) (x : Str) (st : Stmt) : Prop := ∃ f fd, PySem.W.nsIn K mainGlobals x = some (some (.ref f)) ∧ Fun K x x st f fd
theorem def_mk {K : PySem.W.Frag} {x : Str} {st : Stmt} {f : Addr} {oc : Value} {od an : Option Addr} {osl : Array (Option Value)} {kV doc pm cdv ct : Value} (a : PySem.W.nsIn K mainGlobals x = some (some (.ref f)))
    (l : K.lookup f = some ⟨oc, od, .func (PySem.W.fnOf x x (defArgs st) (defBody st) (defScope st) .none kV doc pm an cdv ct), osl⟩) (c : PySem.W.codeIn K cdv x = true) (k : PySem.W.keepIn K (.ref f) = true) : DefAt K x st := ⟨f, _, a, fun_mk l c k⟩
/-- a constant of the top -/
def ConAt (K : PySem.W.Frag) (x : Str) (i : Int) : Prop := ∃ t, PySem.W.nsIn K mainGlobals x = some (some (.int i t))
theorem con_mk {K : PySem.W.Frag} {x : Str} {i : Int} {t : Tok} (a : PySem.W.nsIn K mainGlobals x = some (some (.int i t))) : ConAt K x i := ⟨t, a⟩
/-- the tuple NUMBERS -/
def NumAt (K : PySem.W.Frag) : Prop := ∃ nN, PySem.W.nsIn K mainGlobals "NUMBERS" = some (some (.ref nN)) ∧ ∀ H, SqT K H nN numV
theorem num_mk {K : PySem.W.Frag} {nN : Addr} {od : Option Addr} {n : Nat} {sl : Array (Option Value)} {t0 t1 t2 t3 t4 t5 t6 : Tok} (a : PySem.W.nsIn K mainGlobals "NUMBERS" = some (some (.ref nN)))
    (l : K.lookup nN = some ⟨.type "tuple", od, .seq #[.int 0 t0, .int 3 t1, .int 1 t2, .int 0 t3, .int 0 t4, .int 0 t5, .int 1 t6] n, sl⟩) : NumAt K :=
  ⟨nN, a, fun H => .inr ⟨_, _, n, l, rfl, rfl, by show 7 ≤ sizeLine; decide, .cons ⟨_, rfl⟩ (.cons ⟨_, rfl⟩ (.cons ⟨_, rfl⟩ (.cons ⟨_, rfl⟩ (.cons ⟨_, rfl⟩ (.cons ⟨_, rfl⟩ (.cons ⟨_, rfl⟩ .nil))))))⟩⟩
structure Top (K : PySem.W.Frag) : Prop where
  cREAD : ConAt K "READ" 0
  cWRITE : ConAt K "WRITE" 1
  cDONE : ConAt K "DONE" 2
  cPLACES : ConAt K "PLACES" 8
  cMOST_PEOPLE : ConAt K "MOST_PEOPLE" 6
  cMOST_PLACES : ConAt K "MOST_PLACES" 8
  cMOST_STEPS : ConAt K "MOST_STEPS" 24
  cREFUSED : ConAt K "REFUSED" (-1)
  cTOO_MANY : ConAt K "TOO_MANY" (-2)
  cIS_DONE : ConAt K "IS_DONE" (-4)
  cBEGIN : ConAt K "BEGIN" 0
  cSTEP : ConAt K "STEP" 1
  cORDER : ConAt K "ORDER" 2
  cLOOKS : ConAt K "LOOKS" 3
  cLOCKS : ConAt K "LOCKS" 4
  cBACK : ConAt K "BACK" 5
  n_len : PySem.W.nsIn K mainGlobals "len" = some none
  n_enumerate : PySem.W.nsIn K mainGlobals "enumerate" = some none
  n_sorted : PySem.W.nsIn K mainGlobals "sorted" = some none
  n_set : PySem.W.nsIn K mainGlobals "set" = some none
  n_range : PySem.W.nsIn K mainGlobals "range" = some none
  n_max : PySem.W.nsIn K mainGlobals "max" = some none
  n_int : PySem.W.nsIn K mainGlobals "int" = some none
  n_sum : PySem.W.nsIn K mainGlobals "sum" = some none
  n_all : PySem.W.nsIn K mainGlobals "all" = some none
  num : NumAt K
structure Defs (K : PySem.W.Frag) : Prop where
  dPeopleOf : DefAt K "people_of" sPeopleOf
  dUses : DefAt K "uses" sUses
  dDoClash : DefAt K "do_clash" sDoClash
  dStepsOf : DefAt K "steps_of" sStepsOf
  dOneAfterAnother : DefAt K "one_after_another" sOneAfterAnother
  dDoneAt : DefAt K "done_at" sDoneAt
  dIsDoneBefore : DefAt K "is_done_before" sIsDoneBefore
  dLonger : DefAt K "longer" sLonger
  dAllOrders : DefAt K "all_orders" sAllOrders
  dPairsOf : DefAt K "pairs_of" sPairsOf
  dKeeps : DefAt K "keeps" sKeeps
  dOrdersByClashes : DefAt K "orders_by_clashes" sOrdersByClashes
  dSightsOf : DefAt K "sights_of" sSightsOf
  dOrdersBySights : DefAt K "orders_by_sights" sOrdersBySights
  dUsedAt : DefAt K "used_at" sUsedAt
  dWrittenAt : DefAt K "written_at" sWrittenAt
  dTurnOf : DefAt K "turn_of" sTurnOf
  dAllTurns : DefAt K "all_turns" sAllTurns
  dAfterAll : DefAt K "after_all" sAfterAll
  dHaveMoments : DefAt K "have_moments" sHaveMoments
  dLocksLet : DefAt K "locks_let" sLocksLet
  dWriterSeen : DefAt K "writer_seen" sWriterSeen
  dSightsOfOthers : DefAt K "sights_of_others" sSightsOfOthers
  dCanBeTakenBack : DefAt K "can_be_taken_back" sCanBeTakenBack
  dIsCareful : DefAt K "is_careful" sIsCareful
  dOthersBefore : DefAt K "others_before" sOthersBefore
  dAreDone : DefAt K "are_done" sAreDone
  dIsStrict : DefAt K "is_strict" sIsStrict
  dIsRigorous : DefAt K "is_rigorous" sIsRigorous
  dBackSum : DefAt K "back_sum" sBackSum
  dStepAdded : DefAt K "step_added" sStepAdded
  dFirstOrder : DefAt K "first_order" sFirstOrder
  dHowMany : DefAt K "how_many" sHowMany
  dOneAnswer : DefAt K "one_answer" sOneAnswer
  dAnswers : DefAt K "answers" sAnswers
theorem txt_of {K : PySem.W.Frag} {h : Heap} {mg : Str → Option Value} (X : K.In h) (G : h.Ns mainGlobals mg) (t : Top K) : Txt mg := by
  have con : ∀ {x : Str} {i : Int}, ConAt K x i → CI mg x i := fun ⟨u, a⟩ => ⟨u, PySem.W.mg_of X G a⟩
  exact ⟨con t.cREAD, con t.cWRITE, con t.cDONE, con t.cPLACES, con t.cMOST_PEOPLE, con t.cMOST_PLACES, con t.cMOST_STEPS, con t.cREFUSED, con t.cTOO_MANY, con t.cIS_DONE, con t.cBEGIN, con t.cSTEP, con t.cORDER, con t.cLOOKS, con t.cLOCKS, con t.cBACK, PySem.W.mg_none_of X G t.n_len, PySem.W.mg_none_of X G t.n_enumerate, PySem.W.mg_none_of X G t.n_sorted, PySem.W.mg_none_of X G t.n_set, PySem.W.mg_none_of X G t.n_range, PySem.W.mg_none_of X G t.n_max, PySem.W.mg_none_of X G t.n_int, PySem.W.mg_none_of X G t.n_sum, PySem.W.mg_none_of X G t.n_all⟩
theorem all_mk {P : Program} {w : World} {K : PySem.W.Frag} {h : Heap} {mg : Str → Option Value} {fa : Addr} (X : K.In h) (G : h.Ns mainGlobals mg) (hfa : mg "answers" = some (.ref fa)) (t : Top K) (d : Defs K) :
    ∃ fd : FuncData, (∀ (s : Shared) (us : List Value), us.length = (["calls"] : List Str).length → BindsTo s fd ⟨us, []⟩ ((["calls"] : List Str).zip us)) ∧ ∀ base : Heap, K.In base → base.Ns mainGlobals mg → FnOk P w K mg base CX0 8 fa fd ["calls"] (spAns K) := by
  have T := txt_of X G t
  obtain ⟨nN, aN, hT⟩ := t.num
  have hNum := PySem.W.mg_of X G aN
  obtain ⟨fPeopleOf, fdPeopleOf, aPeopleOf, FPeopleOf⟩ := d.dPeopleOf
  have bPeopleOf := FPeopleOf.binds (ps := ["steps"]) fun _ _ _ _ _ _ us hl => match us, hl with | [_], _ => rfl
  obtain ⟨fUses, fdUses, aUses, FUses⟩ := d.dUses
  have bUses := FUses.binds (ps := ["step", "place"]) fun _ _ _ _ _ _ us hl => match us, hl with | [_, _], _ => rfl
  obtain ⟨fDoClash, fdDoClash, aDoClash, FDoClash⟩ := d.dDoClash
  have bDoClash := FDoClash.binds (ps := ["one", "other"]) fun _ _ _ _ _ _ us hl => match us, hl with | [_, _], _ => rfl
  obtain ⟨fStepsOf, fdStepsOf, aStepsOf, FStepsOf⟩ := d.dStepsOf
  have bStepsOf := FStepsOf.binds (ps := ["steps", "person"]) fun _ _ _ _ _ _ us hl => match us, hl with | [_, _], _ => rfl
  obtain ⟨fOneAfterAnother, fdOneAfterAnother, aOneAfterAnother, FOneAfterAnother⟩ := d.dOneAfterAnother
  have bOneAfterAnother := FOneAfterAnother.binds (ps := ["steps", "order"]) fun _ _ _ _ _ _ us hl => match us, hl with | [_, _], _ => rfl
  obtain ⟨fDoneAt, fdDoneAt, aDoneAt, FDoneAt⟩ := d.dDoneAt
  have bDoneAt := FDoneAt.binds (ps := ["steps", "person"]) fun _ _ _ _ _ _ us hl => match us, hl with | [_, _], _ => rfl
  obtain ⟨fIsDoneBefore, fdIsDoneBefore, aIsDoneBefore, FIsDoneBefore⟩ := d.dIsDoneBefore
  have bIsDoneBefore := FIsDoneBefore.binds (ps := ["steps", "person", "at"]) fun _ _ _ _ _ _ us hl => match us, hl with | [_, _, _], _ => rfl
  obtain ⟨fLonger, fdLonger, aLonger, FLonger⟩ := d.dLonger
  have bLonger := FLonger.binds (ps := ["fronts", "people"]) fun _ _ _ _ _ _ us hl => match us, hl with | [_, _], _ => rfl
  obtain ⟨fAllOrders, fdAllOrders, aAllOrders, FAllOrders⟩ := d.dAllOrders
  have bAllOrders := FAllOrders.binds (ps := ["people"]) fun _ _ _ _ _ _ us hl => match us, hl with | [_], _ => rfl
  obtain ⟨fPairsOf, fdPairsOf, aPairsOf, FPairsOf⟩ := d.dPairsOf
  have bPairsOf := FPairsOf.binds (ps := ["steps"]) fun _ _ _ _ _ _ us hl => match us, hl with | [_], _ => rfl
  obtain ⟨fKeeps, fdKeeps, aKeeps, FKeeps⟩ := d.dKeeps
  have bKeeps := FKeeps.binds (ps := ["order", "pairs"]) fun _ _ _ _ _ _ us hl => match us, hl with | [_, _], _ => rfl
  obtain ⟨fOrdersByClashes, fdOrdersByClashes, aOrdersByClashes, FOrdersByClashes⟩ := d.dOrdersByClashes
  have bOrdersByClashes := FOrdersByClashes.binds (ps := ["steps"]) fun _ _ _ _ _ _ us hl => match us, hl with | [_], _ => rfl
  obtain ⟨fSightsOf, fdSightsOf, aSightsOf, FSightsOf⟩ := d.dSightsOf
  have bSightsOf := FSightsOf.binds (ps := ["steps"]) fun _ _ _ _ _ _ us hl => match us, hl with | [_], _ => rfl
  obtain ⟨fOrdersBySights, fdOrdersBySights, aOrdersBySights, FOrdersBySights⟩ := d.dOrdersBySights
  have bOrdersBySights := FOrdersBySights.binds (ps := ["steps"]) fun _ _ _ _ _ _ us hl => match us, hl with | [_], _ => rfl
  obtain ⟨fUsedAt, fdUsedAt, aUsedAt, FUsedAt⟩ := d.dUsedAt
  have bUsedAt := FUsedAt.binds (ps := ["steps", "person", "place"]) fun _ _ _ _ _ _ us hl => match us, hl with | [_, _, _], _ => rfl
  obtain ⟨fWrittenAt, fdWrittenAt, aWrittenAt, FWrittenAt⟩ := d.dWrittenAt
  have bWrittenAt := FWrittenAt.binds (ps := ["steps", "person", "place"]) fun _ _ _ _ _ _ us hl => match us, hl with | [_, _, _], _ => rfl
  obtain ⟨fTurnOf, fdTurnOf, aTurnOf, FTurnOf⟩ := d.dTurnOf
  have bTurnOf := FTurnOf.binds (ps := ["steps", "writer", "other", "place"]) fun _ _ _ _ _ _ us hl => match us, hl with | [_, _, _, _], _ => rfl
  obtain ⟨fAllTurns, fdAllTurns, aAllTurns, FAllTurns⟩ := d.dAllTurns
  have bAllTurns := FAllTurns.binds (ps := ["steps"]) fun _ _ _ _ _ _ us hl => match us, hl with | [_], _ => rfl
  obtain ⟨fAfterAll, fdAfterAll, aAfterAll, FAfterAll⟩ := d.dAfterAll
  have bAfterAll := FAfterAll.binds (ps := ["turns", "order"]) fun _ _ _ _ _ _ us hl => match us, hl with | [_, _], _ => rfl
  obtain ⟨fHaveMoments, fdHaveMoments, aHaveMoments, FHaveMoments⟩ := d.dHaveMoments
  have bHaveMoments := FHaveMoments.binds (ps := ["turns", "order"]) fun _ _ _ _ _ _ us hl => match us, hl with | [_, _], _ => rfl
  obtain ⟨fLocksLet, fdLocksLet, aLocksLet, FLocksLet⟩ := d.dLocksLet
  have bLocksLet := FLocksLet.binds (ps := ["steps"]) fun _ _ _ _ _ _ us hl => match us, hl with | [_], _ => rfl
  obtain ⟨fWriterSeen, fdWriterSeen, aWriterSeen, FWriterSeen⟩ := d.dWriterSeen
  have bWriterSeen := FWriterSeen.binds (ps := ["steps", "at"]) fun _ _ _ _ _ _ us hl => match us, hl with | [_, _], _ => rfl
  obtain ⟨fSightsOfOthers, fdSightsOfOthers, aSightsOfOthers, FSightsOfOthers⟩ := d.dSightsOfOthers
  have bSightsOfOthers := FSightsOfOthers.binds (ps := ["steps"]) fun _ _ _ _ _ _ us hl => match us, hl with | [_], _ => rfl
  obtain ⟨fCanBeTakenBack, fdCanBeTakenBack, aCanBeTakenBack, FCanBeTakenBack⟩ := d.dCanBeTakenBack
  have bCanBeTakenBack := FCanBeTakenBack.binds (ps := ["steps"]) fun _ _ _ _ _ _ us hl => match us, hl with | [_], _ => rfl
  obtain ⟨fIsCareful, fdIsCareful, aIsCareful, FIsCareful⟩ := d.dIsCareful
  have bIsCareful := FIsCareful.binds (ps := ["steps"]) fun _ _ _ _ _ _ us hl => match us, hl with | [_], _ => rfl
  obtain ⟨fOthersBefore, fdOthersBefore, aOthersBefore, FOthersBefore⟩ := d.dOthersBefore
  have bOthersBefore := FOthersBefore.binds (ps := ["steps", "at", "what"]) fun _ _ _ _ _ _ us hl => match us, hl with | [_, _, _], _ => rfl
  obtain ⟨fAreDone, fdAreDone, aAreDone, FAreDone⟩ := d.dAreDone
  have bAreDone := FAreDone.binds (ps := ["steps", "at", "people"]) fun _ _ _ _ _ _ us hl => match us, hl with | [_, _, _], _ => rfl
  obtain ⟨fIsStrict, fdIsStrict, aIsStrict, FIsStrict⟩ := d.dIsStrict
  have bIsStrict := FIsStrict.binds (ps := ["steps"]) fun _ _ _ _ _ _ us hl => match us, hl with | [_], _ => rfl
  obtain ⟨fIsRigorous, fdIsRigorous, aIsRigorous, FIsRigorous⟩ := d.dIsRigorous
  have bIsRigorous := FIsRigorous.binds (ps := ["steps"]) fun _ _ _ _ _ _ us hl => match us, hl with | [_], _ => rfl
  obtain ⟨fBackSum, fdBackSum, aBackSum, FBackSum⟩ := d.dBackSum
  have bBackSum := FBackSum.binds (ps := ["steps"]) fun _ _ _ _ _ _ us hl => match us, hl with | [_], _ => rfl
  obtain ⟨fStepAdded, fdStepAdded, aStepAdded, FStepAdded⟩ := d.dStepAdded
  have bStepAdded := FStepAdded.binds (ps := ["steps", "person", "what", "place"]) fun _ _ _ _ _ _ us hl => match us, hl with | [_, _, _, _], _ => rfl
  obtain ⟨fFirstOrder, fdFirstOrder, aFirstOrder, FFirstOrder⟩ := d.dFirstOrder
  have bFirstOrder := FFirstOrder.binds (ps := ["steps", "most"]) fun _ _ _ _ _ _ us hl => match us, hl with | [_, _], _ => rfl
  obtain ⟨fHowMany, fdHowMany, aHowMany, FHowMany⟩ := d.dHowMany
  have bHowMany := FHowMany.binds (ps := ["steps", "sense"]) fun _ _ _ _ _ _ us hl => match us, hl with | [_, _], _ => rfl
  obtain ⟨fOneAnswer, fdOneAnswer, aOneAnswer, FOneAnswer⟩ := d.dOneAnswer
  have bOneAnswer := FOneAnswer.binds (ps := ["steps", "deed", "numbers"]) fun _ _ _ _ _ _ us hl => match us, hl with | [_, _, _], _ => rfl
  obtain ⟨fAnswers, fdAnswers, aAnswers, FAnswers⟩ := d.dAnswers
  have e := hfa.symm.trans (PySem.W.mg_of X G aAnswers)
  cases e
  refine ⟨fdAnswers, ?_, fun base _ _ => ?_⟩
  · obtain ⟨oc, od, kV, doc, pm, an, cdv, ct, osl, rfl, lk, hcd⟩ := FAnswers.ex
    exact fun s us hu => match us, hu with | [_], _ => .of_eq rfl
  · have oPeopleOf : Ok P w K mg base "people_of" ["steps"] 1 (spPeople K) := ⟨fPeopleOf, fdPeopleOf, ok_people FPeopleOf T, PySem.W.mg_of X G aPeopleOf, FPeopleOf.kp, bPeopleOf⟩
    have oUses : Ok P w K mg base "uses" ["step", "place"] 1 spUses := ⟨fUses, fdUses, ok_uses FUses T, PySem.W.mg_of X G aUses, FUses.kp, bUses⟩
    have oDoClash : Ok P w K mg base "do_clash" ["one", "other"] 2 spClash := ⟨fDoClash, fdDoClash, ok_clash FDoClash T oUses, PySem.W.mg_of X G aDoClash, FDoClash.kp, bDoClash⟩
    have oStepsOf : Ok P w K mg base "steps_of" ["steps", "person"] 1 (spStepsOf K) := ⟨fStepsOf, fdStepsOf, ok_stepsOf FStepsOf T, PySem.W.mg_of X G aStepsOf, FStepsOf.kp, bStepsOf⟩
    have oOneAfterAnother : Ok P w K mg base "one_after_another" ["steps", "order"] 2 (spLay K) := ⟨fOneAfterAnother, fdOneAfterAnother, ok_lay FOneAfterAnother T oStepsOf, PySem.W.mg_of X G aOneAfterAnother, FOneAfterAnother.kp, bOneAfterAnother⟩
    have oDoneAt : Ok P w K mg base "done_at" ["steps", "person"] 1 (spDoneAt K) := ⟨fDoneAt, fdDoneAt, ok_doneAt FDoneAt T, PySem.W.mg_of X G aDoneAt, FDoneAt.kp, bDoneAt⟩
    have oIsDoneBefore : Ok P w K mg base "is_done_before" ["steps", "person", "at"] 2 (spDoneBy K) := ⟨fIsDoneBefore, fdIsDoneBefore, ok_doneBy FIsDoneBefore T oDoneAt, PySem.W.mg_of X G aIsDoneBefore, FIsDoneBefore.kp, bIsDoneBefore⟩
    have oLonger : Ok P w K mg base "longer" ["fronts", "people"] 1 (spLonger K) := ⟨fLonger, fdLonger, ok_longer FLonger T, PySem.W.mg_of X G aLonger, FLonger.kp, bLonger⟩
    have oAllOrders : Ok P w K mg base "all_orders" ["people"] 2 (spAll K) := ⟨fAllOrders, fdAllOrders, ok_all FAllOrders T oLonger, PySem.W.mg_of X G aAllOrders, FAllOrders.kp, bAllOrders⟩
    have oPairsOf : Ok P w K mg base "pairs_of" ["steps"] 3 (spPairs K) := ⟨fPairsOf, fdPairsOf, ok_pairs FPairsOf T oDoClash, PySem.W.mg_of X G aPairsOf, FPairsOf.kp, bPairsOf⟩
    have oKeeps : Ok P w K mg base "keeps" ["order", "pairs"] 1 (spKeeps K) := ⟨fKeeps, fdKeeps, ok_keeps FKeeps T, PySem.W.mg_of X G aKeeps, FKeeps.kp, bKeeps⟩
    have oOrdersByClashes : Ok P w K mg base "orders_by_clashes" ["steps"] 4 (spByClashes K) := ⟨fOrdersByClashes, fdOrdersByClashes, ok_byClashes FOrdersByClashes T oPairsOf oAllOrders oPeopleOf oKeeps, PySem.W.mg_of X G aOrdersByClashes, FOrdersByClashes.kp, bOrdersByClashes⟩
    have oSightsOf : Ok P w K mg base "sights_of" ["steps"] 1 (spSights K) := ⟨fSightsOf, fdSightsOf, ok_sights FSightsOf T, PySem.W.mg_of X G aSightsOf, FSightsOf.kp, bSightsOf⟩
    have oOrdersBySights : Ok P w K mg base "orders_by_sights" ["steps"] 3 (spBySights K) := ⟨fOrdersBySights, fdOrdersBySights, ok_bySights FOrdersBySights T oSightsOf oAllOrders oPeopleOf oOneAfterAnother, PySem.W.mg_of X G aOrdersBySights, FOrdersBySights.kp, bOrdersBySights⟩
    have oUsedAt : Ok P w K mg base "used_at" ["steps", "person", "place"] 2 (spUsedAt K) := ⟨fUsedAt, fdUsedAt, ok_usedAt FUsedAt T oUses, PySem.W.mg_of X G aUsedAt, FUsedAt.kp, bUsedAt⟩
    have oWrittenAt : Ok P w K mg base "written_at" ["steps", "person", "place"] 3 (spWrittenAt K) := ⟨fWrittenAt, fdWrittenAt, ok_writtenAt FWrittenAt T oUsedAt, PySem.W.mg_of X G aWrittenAt, FWrittenAt.kp, bWrittenAt⟩
    have oTurnOf : Ok P w K mg base "turn_of" ["steps", "writer", "other", "place"] 4 (spTurn K) := ⟨fTurnOf, fdTurnOf, ok_turn FTurnOf T oWrittenAt oUsedAt, PySem.W.mg_of X G aTurnOf, FTurnOf.kp, bTurnOf⟩
    have oAllTurns : Ok P w K mg base "all_turns" ["steps"] 5 (spTurns K) := ⟨fAllTurns, fdAllTurns, ok_turns FAllTurns T oPeopleOf oTurnOf, PySem.W.mg_of X G aAllTurns, FAllTurns.kp, bAllTurns⟩
    have oAfterAll : Ok P w K mg base "after_all" ["turns", "order"] 1 (spAfter K) := ⟨fAfterAll, fdAfterAll, ok_after FAfterAll T, PySem.W.mg_of X G aAfterAll, FAfterAll.kp, bAfterAll⟩
    have oHaveMoments : Ok P w K mg base "have_moments" ["turns", "order"] 2 (spHave K) := ⟨fHaveMoments, fdHaveMoments, ok_have FHaveMoments T oAfterAll, PySem.W.mg_of X G aHaveMoments, FHaveMoments.kp, bHaveMoments⟩
    have oLocksLet : Ok P w K mg base "locks_let" ["steps"] 6 (spLocks K) := ⟨fLocksLet, fdLocksLet, ok_locks FLocksLet T oAllTurns oAllOrders oPeopleOf oKeeps oHaveMoments, PySem.W.mg_of X G aLocksLet, FLocksLet.kp, bLocksLet⟩
    have oWriterSeen : Ok P w K mg base "writer_seen" ["steps", "at"] 1 (spWriter K) := ⟨fWriterSeen, fdWriterSeen, ok_writer FWriterSeen T, PySem.W.mg_of X G aWriterSeen, FWriterSeen.kp, bWriterSeen⟩
    have oSightsOfOthers : Ok P w K mg base "sights_of_others" ["steps"] 2 (spOthers K) := ⟨fSightsOfOthers, fdSightsOfOthers, ok_others FSightsOfOthers T oWriterSeen, PySem.W.mg_of X G aSightsOfOthers, FSightsOfOthers.kp, bSightsOfOthers⟩
    have oCanBeTakenBack : Ok P w K mg base "can_be_taken_back" ["steps"] 3 (spBool K Rc98.recoverable) := ⟨fCanBeTakenBack, fdCanBeTakenBack, ok_back FCanBeTakenBack T oSightsOfOthers oDoneAt oIsDoneBefore, PySem.W.mg_of X G aCanBeTakenBack, FCanBeTakenBack.kp, bCanBeTakenBack⟩
    have oIsCareful : Ok P w K mg base "is_careful" ["steps"] 3 (spBool K Rc98.careful) := ⟨fIsCareful, fdIsCareful, ok_careful FIsCareful T oSightsOfOthers oIsDoneBefore, PySem.W.mg_of X G aIsCareful, FIsCareful.kp, bIsCareful⟩
    have oOthersBefore : Ok P w K mg base "others_before" ["steps", "at", "what"] 1 (spBefore K) := ⟨fOthersBefore, fdOthersBefore, ok_before FOthersBefore T, PySem.W.mg_of X G aOthersBefore, FOthersBefore.kp, bOthersBefore⟩
    have oAreDone : Ok P w K mg base "are_done" ["steps", "at", "people"] 3 (spAreDone K) := ⟨fAreDone, fdAreDone, ok_areDone FAreDone T oIsDoneBefore, PySem.W.mg_of X G aAreDone, FAreDone.kp, bAreDone⟩
    have oIsStrict : Ok P w K mg base "is_strict" ["steps"] 4 (spBool K Rc98.strict) := ⟨fIsStrict, fdIsStrict, ok_strict FIsStrict T oUses oAreDone oOthersBefore, PySem.W.mg_of X G aIsStrict, FIsStrict.kp, bIsStrict⟩
    have oIsRigorous : Ok P w K mg base "is_rigorous" ["steps"] 5 (spBool K Rc98.rigorous) := ⟨fIsRigorous, fdIsRigorous, ok_rigorous FIsRigorous T oAreDone oOthersBefore oIsStrict, PySem.W.mg_of X G aIsRigorous, FIsRigorous.kp, bIsRigorous⟩
    have oBackSum : Ok P w K mg base "back_sum" ["steps"] 6 (spBackSum K) := ⟨fBackSum, fdBackSum, ok_backSum FBackSum T oCanBeTakenBack oIsCareful oIsStrict oIsRigorous, PySem.W.mg_of X G aBackSum, FBackSum.kp, bBackSum⟩
    have oStepAdded : Ok P w K mg base "step_added" ["steps", "person", "what", "place"] 2 spStep := ⟨fStepAdded, fdStepAdded, ok_step FStepAdded T oDoneAt, PySem.W.mg_of X G aStepAdded, FStepAdded.kp, bStepAdded⟩
    have oFirstOrder : Ok P w K mg base "first_order" ["steps", "most"] 5 (spFirst K) := ⟨fFirstOrder, fdFirstOrder, ok_first FFirstOrder T oOrdersByClashes, PySem.W.mg_of X G aFirstOrder, FFirstOrder.kp, bFirstOrder⟩
    have oHowMany : Ok P w K mg base "how_many" ["steps", "sense"] 5 (spMany K) := ⟨fHowMany, fdHowMany, ok_many FHowMany T oOrdersByClashes oOrdersBySights, PySem.W.mg_of X G aHowMany, FHowMany.kp, bHowMany⟩
    have oOneAnswer : Ok P w K mg base "one_answer" ["steps", "deed", "numbers"] 7 (spOne K) := ⟨fOneAnswer, fdOneAnswer, ok_one FOneAnswer T oStepAdded oFirstOrder oOrdersBySights oLocksLet oBackSum oHowMany, PySem.W.mg_of X G aOneAnswer, FOneAnswer.kp, bOneAnswer⟩
    exact ok_ans FAnswers T hNum hT oOneAnswer
end SM
open PySem PySem.W PyProof.Rows
set_option maxRecDepth 100000 in
set_option maxHeartbeats 8000000 in
theorem PySem.Challenge.cw_stepsmixed_s01_answers_holds : PySem.Challenge.rw_stepsmixed_s01_answers.Holds := by
  w_on; k_headS; (case hw => exact ⟨[.list []], by decide +kernel, by decide +kernel⟩)
  k_fillS
  refine L2.walk_specK (r := PySem.Challenge.rw_stepsmixed_s01_answers) (k := 8) (CX := L2.CX0) (ps := ["calls"]) (sp := SM.spAns) (by decide +kernel) rfl rfl ⟨rfl, by decide, by decide⟩ (fun w h Y => PySem.W.kIn_of Y) ?F ?S (fun _ _ _ _ z => z)
  case F =>
    intro w mg fa h Y KX G hmg
    refine SM.all_mk KX G hmg ?T ?D
    case T =>
      refine' ⟨(SM.con_mk ?kREAD), (SM.con_mk ?kWRITE), (SM.con_mk ?kDONE), (SM.con_mk ?kPLACES), (SM.con_mk ?kMOST_PEOPLE), (SM.con_mk ?kMOST_PLACES), (SM.con_mk ?kMOST_STEPS), (SM.con_mk ?kREFUSED), (SM.con_mk ?kTOO_MANY), (SM.con_mk ?kIS_DONE), (SM.con_mk ?kBEGIN), (SM.con_mk ?kSTEP), (SM.con_mk ?kORDER), (SM.con_mk ?kLOOKS), (SM.con_mk ?kLOCKS), (SM.con_mk ?kBACK), ?klen, ?kenumerate, ?ksorted, ?kset, ?krange, ?kmax, ?kint, ?ksum, ?kall, (SM.num_mk ?kN ?lN)⟩
      (case kREAD => k_is); (case kWRITE => k_is); (case kDONE => k_is); (case kPLACES => k_is); (case kMOST_PEOPLE => k_is); (case kMOST_PLACES => k_is); (case kMOST_STEPS => k_is); (case kREFUSED => k_is); (case kTOO_MANY => k_is); (case kIS_DONE => k_is); (case kBEGIN => k_is); (case kSTEP => k_is); (case kORDER => k_is); (case kLOOKS => k_is); (case kLOCKS => k_is); (case kBACK => k_is)
      (case klen => k_is); (case kenumerate => k_is); (case ksorted => k_is); (case kset => k_is); (case krange => k_is); (case kmax => k_is); (case kint => k_is); (case ksum => k_is); (case kall => k_is)
      (case kN => k_is); (case lN => k_is)
    case D =>
      refine' ⟨SM.def_mk ?a0 ?l0 ?c0 ?k0, SM.def_mk ?a1 ?l1 ?c1 ?k1, SM.def_mk ?a2 ?l2 ?c2 ?k2, SM.def_mk ?a3 ?l3 ?c3 ?k3, SM.def_mk ?a4 ?l4 ?c4 ?k4, SM.def_mk ?a5 ?l5 ?c5 ?k5, SM.def_mk ?a6 ?l6 ?c6 ?k6, SM.def_mk ?a7 ?l7 ?c7 ?k7, SM.def_mk ?a8 ?l8 ?c8 ?k8, SM.def_mk ?a9 ?l9 ?c9 ?k9, SM.def_mk ?a10 ?l10 ?c10 ?k10, SM.def_mk ?a11 ?l11 ?c11 ?k11, SM.def_mk ?a12 ?l12 ?c12 ?k12, SM.def_mk ?a13 ?l13 ?c13 ?k13, SM.def_mk ?a14 ?l14 ?c14 ?k14, SM.def_mk ?a15 ?l15 ?c15 ?k15, SM.def_mk ?a16 ?l16 ?c16 ?k16, SM.def_mk ?a17 ?l17 ?c17 ?k17, SM.def_mk ?a18 ?l18 ?c18 ?k18, SM.def_mk ?a19 ?l19 ?c19 ?k19, SM.def_mk ?a20 ?l20 ?c20 ?k20, SM.def_mk ?a21 ?l21 ?c21 ?k21, SM.def_mk ?a22 ?l22 ?c22 ?k22, SM.def_mk ?a23 ?l23 ?c23 ?k23, SM.def_mk ?a24 ?l24 ?c24 ?k24, SM.def_mk ?a25 ?l25 ?c25 ?k25, SM.def_mk ?a26 ?l26 ?c26 ?k26, SM.def_mk ?a27 ?l27 ?c27 ?k27, SM.def_mk ?a28 ?l28 ?c28 ?k28, SM.def_mk ?a29 ?l29 ?c29 ?k29, SM.def_mk ?a30 ?l30 ?c30 ?k30, SM.def_mk ?a31 ?l31 ?c31 ?k31, SM.def_mk ?a32 ?l32 ?c32 ?k32, SM.def_mk ?a33 ?l33 ?c33 ?k33, SM.def_mk ?a34 ?l34 ?c34 ?k34⟩
      (case a0 => k_is); (case l0 => k_is); (case c0 => k_is); (case k0 => k_is)
      (case a1 => k_is); (case l1 => k_is); (case c1 => k_is); (case k1 => k_is)
      (case a2 => k_is); (case l2 => k_is); (case c2 => k_is); (case k2 => k_is)
      (case a3 => k_is); (case l3 => k_is); (case c3 => k_is); (case k3 => k_is)
      (case a4 => k_is); (case l4 => k_is); (case c4 => k_is); (case k4 => k_is)
      (case a5 => k_is); (case l5 => k_is); (case c5 => k_is); (case k5 => k_is)
      (case a6 => k_is); (case l6 => k_is); (case c6 => k_is); (case k6 => k_is)
      (case a7 => k_is); (case l7 => k_is); (case c7 => k_is); (case k7 => k_is)
      (case a8 => k_is); (case l8 => k_is); (case c8 => k_is); (case k8 => k_is)
      (case a9 => k_is); (case l9 => k_is); (case c9 => k_is); (case k9 => k_is)
      (case a10 => k_is); (case l10 => k_is); (case c10 => k_is); (case k10 => k_is)
      (case a11 => k_is); (case l11 => k_is); (case c11 => k_is); (case k11 => k_is)
      (case a12 => k_is); (case l12 => k_is); (case c12 => k_is); (case k12 => k_is)
      (case a13 => k_is); (case l13 => k_is); (case c13 => k_is); (case k13 => k_is)
      (case a14 => k_is); (case l14 => k_is); (case c14 => k_is); (case k14 => k_is)
      (case a15 => k_is); (case l15 => k_is); (case c15 => k_is); (case k15 => k_is)
      (case a16 => k_is); (case l16 => k_is); (case c16 => k_is); (case k16 => k_is)
      (case a17 => k_is); (case l17 => k_is); (case c17 => k_is); (case k17 => k_is)
      (case a18 => k_is); (case l18 => k_is); (case c18 => k_is); (case k18 => k_is)
      (case a19 => k_is); (case l19 => k_is); (case c19 => k_is); (case k19 => k_is)
      (case a20 => k_is); (case l20 => k_is); (case c20 => k_is); (case k20 => k_is)
      (case a21 => k_is); (case l21 => k_is); (case c21 => k_is); (case k21 => k_is)
      (case a22 => k_is); (case l22 => k_is); (case c22 => k_is); (case k22 => k_is)
      (case a23 => k_is); (case l23 => k_is); (case c23 => k_is); (case k23 => k_is)
      (case a24 => k_is); (case l24 => k_is); (case c24 => k_is); (case k24 => k_is)
      (case a25 => k_is); (case l25 => k_is); (case c25 => k_is); (case k25 => k_is)
      (case a26 => k_is); (case l26 => k_is); (case c26 => k_is); (case k26 => k_is)
      (case a27 => k_is); (case l27 => k_is); (case c27 => k_is); (case k27 => k_is)
      (case a28 => k_is); (case l28 => k_is); (case c28 => k_is); (case k28 => k_is)
      (case a29 => k_is); (case l29 => k_is); (case c29 => k_is); (case k29 => k_is)
      (case a30 => k_is); (case l30 => k_is); (case c30 => k_is); (case k30 => k_is)
      (case a31 => k_is); (case l31 => k_is); (case c31 => k_is); (case k31 => k_is)
      (case a32 => k_is); (case l32 => k_is); (case c32 => k_is); (case k32 => k_is)
      (case a33 => k_is); (case l33 => k_is); (case c33 => k_is); (case k33 => k_is)
      (case a34 => k_is); (case l34 => k_is); (case c34 => k_is); (case k34 => k_is)
  case S =>
    intro K H xs a hO hwi hask hx
    cases hx with
    | cons h1 h2 =>
      cases h2
      cases h1 with
      | lst hs ha =>
        have e := L2.ints_dw a.1 _ ha
        subst e
        have q : ((Codec.inLen 0 30000 a.1 && a.1.all (Codec.inInt (-2147483648) 2147483647)) && true) = true := hwi
        rw [Bool.and_eq_true, Bool.and_eq_true] at q
        exact ⟨_, a.1, rfl, hs, (Codec.inNat_iff.mp q.1.1).2, hask, fun H' p hp => .lst (L2.SqL.of hp) (L2.dw_ints _)⟩
#print axioms PySem.Challenge.cw_stepsmixed_s01_answers_holds
