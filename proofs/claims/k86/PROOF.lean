import PyProof.Rows.All
import Wide.All
import OpenK.AllK
import Wide.FinOn
import HandS.ForMost
import HandS.Zip0
import HandS.Zip
import HandS.DictComp
import HandS.DictTup
import HandS.Conv
import PyProof.DictMoreH
import HandS.Deep
import HandS.IsInst
import HandS.Codes
import PySem.Challenge.RW_heappacts_k86_new_cells_are_matched
set_option Elab.async false
set_option maxRecDepth 100000
set_option maxHeartbeats 4000000
/-! K86Math: the plain law. Terms, cells, the walk that both sides make, and its bounds. No program in sight. -/
namespace K86
inductive Kd where | num | var | new
deriving DecidableEq, Repr
structure Tm where
  k : Kd
  n : Int
deriving DecidableEq, Repr
structure Cl where
  a : Tm
  f : Tm
  s : Tm
deriving DecidableEq, Repr
abbrev Pr := Tm × Tm
/-- all terms that the law draws -/
def U : List Tm := [⟨.num, 0⟩, ⟨.num, 1⟩, ⟨.num, 7⟩, ⟨.num, 99⟩, ⟨.var, 0⟩, ⟨.var, 1⟩, ⟨.var, 2⟩, ⟨.new, 0⟩, ⟨.new, 1⟩, ⟨.new, 2⟩]
def UU : List Pr := U.flatMap fun x => U.map fun y => (x, y)
theorem mem_UU {p : Pr} (h1 : p.1 ∈ U) (h2 : p.2 ∈ U) : p ∈ UU := List.mem_flatMap.mpr ⟨p.1, h1, List.mem_map.mpr ⟨p.2, h2, rfl⟩⟩
theorem UU_length : UU.length = 100 := by decide +kernel

/-! ### the walk -/
def fit (th : List Pr) (x y : Tm) : Option (List Pr) :=
  if x.k = .new ∧ y.k = .new then
    if (∀ p ∈ th, p.1 ≠ x) ∧ (∀ p ∈ th, p.2 ≠ y) then some (th ++ [(x, y)])
    else if (x, y) ∈ th then some th else none
  else if x = y then some th else none
def look (cs : List Cl) (x : Tm) : Option Cl := cs.find? fun c => decide (c.a = x)
def add (met : List Pr) (p : Pr) : List Pr := if p ∈ met then met else met ++ [p]
def meetM (met : List Pr) (c d : Cl) : List Pr := add (add met (c.f, d.f)) (c.s, d.s)
abbrev Q2 := List Pr × List Pr
def cellsStep (met th : List Pr) : Option Cl → Option Cl → Option Q2
  | none, none => some (met, th)
  | some c, some d => some (meetM met c d, th)
  | _, _ => none
def turn (cs ds : List Cl) (q : Q2) (p : Pr) : Option Q2 :=
  match fit q.2 p.1 p.2 with
  | none => none
  | some th => cellsStep q.1 th (look cs p.1) (look ds p.2)
def st (cs ds : List Cl) (init : List Pr) : Nat → Option Q2
  | 0 => some (init, [])
  | i + 1 => match st cs ds init i with
    | none => none
    | some q => match q.1[i]? with
      | none => some q
      | some p => turn cs ds q p
def due (cs ds : List Cl) (init : List Pr) : Option (List Pr) := (st cs ds init 200).map (·.2)

section
variable {cs ds : List Cl} {init : List Pr}
theorem st_go {i : Nat} {q : Q2} {p : Pr} (h : st cs ds init i = some q) (hp : q.1[i]? = some p) : st cs ds init (i + 1) = turn cs ds q p := by
  simp only [st, h, hp]
theorem st_rest {i : Nat} {q : Q2} (h : st cs ds init i = some q) (hp : q.1.length ≤ i) : st cs ds init (i + 1) = some q := by
  have e : q.1[i]? = none := List.getElem?_eq_none hp
  simp only [st, h, e]
theorem st_dead {i : Nat} (h : st cs ds init i = none) : ∀ k, st cs ds init (i + k) = none
  | 0 => h
  | k + 1 => by
    have ih := st_dead h k
    show st cs ds init (i + k + 1) = none
    simp only [st, ih]
theorem st_end {i : Nat} {q : Q2} (h : st cs ds init i = some q) (hp : q.1.length ≤ i) : ∀ k, st cs ds init (i + k) = some q
  | 0 => h
  | k + 1 => st_rest (st_end h hp k) (Nat.le_trans hp (Nat.le_add_right _ _))
theorem due_dead {i : Nat} (hi : i ≤ 200) (h : st cs ds init i = none) : due cs ds init = none := by
  have e := st_dead h (200 - i)
  rw [show i + (200 - i) = 200 by omega] at e
  unfold due
  rw [e]
  rfl
theorem due_end {i : Nat} {q : Q2} (hi : i ≤ 200) (h : st cs ds init i = some q) (hp : q.1.length ≤ i) : due cs ds init = some q.2 := by
  have e := st_end h hp (200 - i)
  rw [show i + (200 - i) = 200 by omega] at e
  unfold due
  rw [e]
  rfl
end

/-! ### looking for a cell -/
theorem look_mem {cs : List Cl} {x : Tm} {c : Cl} (h : look cs x = some c) : c ∈ cs ∧ c.a = x := by
  have h1 := List.mem_of_find?_eq_some h
  have h2 := List.find?_some h
  exact ⟨h1, by simpa using h2⟩
theorem look_none {cs : List Cl} {x : Tm} : look cs x = none ↔ ∀ c ∈ cs, c.a ≠ x := by
  unfold look
  rw [List.find?_eq_none]
  constructor
  · intro h c hc e
    exact h c hc (by simp [e])
  · intro h c hc e
    exact h c hc (by simpa using e)
theorem filter_look {x : Tm} : ∀ {cs : List Cl}, (cs.map (·.a)).Nodup → cs.filter (fun c => decide (c.a = x)) = (look cs x).toList
  | [], _ => rfl
  | c :: cs, h => by
    have h' : (c.a :: cs.map (·.a)).Nodup := h
    obtain ⟨h1, h2⟩ := List.nodup_cons.mp h'
    have ih := filter_look (x := x) h2
    unfold look at ih ⊢
    rw [List.filter_cons, List.find?_cons]
    by_cases e : c.a = x
    · have n : cs.find? (fun c => decide (c.a = x)) = none := look_none.mpr fun d hd q => h1 (List.mem_map.mpr ⟨d, hd, by rw [q, e]⟩)
      rw [n] at ih
      simp only [e, decide_true, if_true, Option.toList]
      rw [ih]
      rfl
    · simp only [e, decide_false, Bool.false_eq_true, if_false]
      exact ih

/-! ### bounds -/
structure OkC (cs : List Cl) : Prop where
  nd : (cs.map (·.a)).Nodup
  u : ∀ c ∈ cs, c.a ∈ U ∧ c.f ∈ U ∧ c.s ∈ U
def InUU (met : List Pr) : Prop := ∀ p ∈ met, p.1 ∈ U ∧ p.2 ∈ U
theorem nodup_le {α : Type} [DecidableEq α] : ∀ {l m : List α}, l.Nodup → (∀ x ∈ l, x ∈ m) → l.length ≤ m.length
  | [], _, _, _ => Nat.zero_le _
  | a :: l, m, h, hs => by
    obtain ⟨h1, h2⟩ := List.nodup_cons.mp h
    have ha : a ∈ m := hs a List.mem_cons_self
    have ih := nodup_le (l := l) (m := m.erase a) h2 fun x hx => by
      have ne : x ≠ a := fun e => h1 (e ▸ hx)
      exact (List.mem_erase_of_ne ne).mpr (hs x (List.mem_cons_of_mem _ hx))
    have e := List.length_erase_of_mem ha
    have p : 0 < m.length := List.length_pos_of_mem ha
    rw [List.length_cons]
    omega
/-- what is met: what was given, then new pairs -/
def Grown (init met : List Pr) : Prop := ∃ ext, met = init ++ ext ∧ ext.Nodup ∧ InUU met
theorem Grown.len {init met : List Pr} (g : Grown init met) (h : init.length ≤ 3) : met.length ≤ 103 := by
  obtain ⟨ext, rfl, nd, u⟩ := g
  have q : ext.length ≤ UU.length := nodup_le nd fun p hp => by
    obtain ⟨h1, h2⟩ := u p (List.mem_append_right _ hp)
    exact mem_UU h1 h2
  rw [UU_length] at q
  rw [List.length_append]
  omega
theorem Grown.add {init met : List Pr} {p : Pr} (g : Grown init met) (h1 : p.1 ∈ U) (h2 : p.2 ∈ U) : Grown init (add met p) := by
  unfold K86.add
  split
  · exact g
  · rename_i hn
    obtain ⟨ext, rfl, nd, u⟩ := g
    refine ⟨ext ++ [p], by rw [List.append_assoc], ?_, fun z hz => ?_⟩
    · refine List.nodup_append.mpr ⟨nd, by simp, fun a ha b hb e => hn ?_⟩
      have eb : b = p := by simpa using hb
      rw [← eb, ← e]
      exact List.mem_append_right _ ha
    · rcases List.mem_append.mp hz with hz | hz
      · exact u z hz
      · have e : z = p := by simpa using hz
        rw [e]
        exact ⟨h1, h2⟩
theorem Grown.meet {init met : List Pr} {c d : Cl} (g : Grown init met) (hc : c.f ∈ U ∧ c.s ∈ U) (hd : d.f ∈ U ∧ d.s ∈ U) : Grown init (meetM met c d) :=
  (g.add (p := (c.f, d.f)) hc.1 hd.1).add (p := (c.s, d.s)) hc.2 hd.2
theorem Grown.start {init : List Pr} (h : InUU init) : Grown init init := ⟨[], by rw [List.append_nil], List.nodup_nil, h⟩
/-- the pairs that are matched: one to one -/
structure Bij (th : List Pr) : Prop where
  one : (th.map (·.1)).Nodup
  two : (th.map (·.2)).Nodup
theorem Bij.nil : Bij [] := ⟨List.nodup_nil, List.nodup_nil⟩
theorem nd_snoc' {α : Type} {l : List α} {a : α} (h : l.Nodup) (hn : ∀ x ∈ l, x ≠ a) : (l ++ [a]).Nodup :=
  List.nodup_append.mpr ⟨h, by simp, fun x hx b hb e => hn x hx (e.trans (by simpa using hb))⟩
theorem Bij.snoc {th : List Pr} {x y : Tm} (b : Bij th) (h1 : ∀ p ∈ th, p.1 ≠ x) (h2 : ∀ p ∈ th, p.2 ≠ y) : Bij (th ++ [(x, y)]) := by
  constructor
  · rw [List.map_append]
    exact nd_snoc' b.one fun z hz => by
      obtain ⟨p, hp, e⟩ := List.mem_map.mp hz
      rw [← e]
      exact h1 p hp
  · rw [List.map_append]
    exact nd_snoc' b.two fun z hz => by
      obtain ⟨p, hp, e⟩ := List.mem_map.mp hz
      rw [← e]
      exact h2 p hp
theorem fit_bij {th th' : List Pr} {x y : Tm} (b : Bij th) (h : fit th x y = some th') : Bij th' ∧ th'.length ≤ th.length + 1 := by
  unfold fit at h
  split at h
  · split at h
    · rename_i _ hn
      cases h
      exact ⟨b.snoc hn.1 hn.2, by rw [List.length_append]; exact Nat.le_refl _⟩
    · split at h
      · cases h
        exact ⟨b, Nat.le_succ _⟩
      · cases h
  · split at h
    · cases h
      exact ⟨b, Nat.le_succ _⟩
    · cases h
theorem nd_val {α β : Type} : ∀ {l : List (α × β)} {x : α} {y z : β}, (l.map (·.1)).Nodup → (x, y) ∈ l → (x, z) ∈ l → y = z
  | [], _, _, _, _, h, _ => by cases h
  | p :: l, x, y, z, h, h1, h2 => by
    have h' : (p.1 :: l.map (·.1)).Nodup := h
    obtain ⟨n1, n2⟩ := List.nodup_cons.mp h'
    rcases List.mem_cons.mp h1 with e1 | h1
    · rcases List.mem_cons.mp h2 with e2 | h2
      · have e := e1.trans e2.symm
        exact (Prod.mk.inj e).2
      · exact absurd (List.mem_map.mpr ⟨_, h2, by rw [← e1]⟩) n1
    · rcases List.mem_cons.mp h2 with e2 | h2
      · exact absurd (List.mem_map.mpr ⟨_, h1, by rw [← e2]⟩) n1
      · exact nd_val n2 h1 h2
theorem nd_val2 : ∀ {l : List Pr} {x y z : Tm}, (l.map (·.2)).Nodup → (y, x) ∈ l → (z, x) ∈ l → y = z
  | [], _, _, _, _, h, _ => by cases h
  | p :: l, x, y, z, h, h1, h2 => by
    have h' : (p.2 :: l.map (·.2)).Nodup := h
    obtain ⟨n1, n2⟩ := List.nodup_cons.mp h'
    rcases List.mem_cons.mp h1 with e1 | h1
    · rcases List.mem_cons.mp h2 with e2 | h2
      · have e := e1.trans e2.symm
        exact (Prod.mk.inj e).1
      · exact absurd (List.mem_map.mpr ⟨_, h2, by rw [← e1]⟩) n1
    · rcases List.mem_cons.mp h2 with e2 | h2
      · exact absurd (List.mem_map.mpr ⟨_, h1, by rw [← e2]⟩) n1
      · exact nd_val2 n2 h1 h2
/-! fit, by what the two tables say -/
theorem fit_old {th : List Pr} {x y : Tm} (h : ¬ (x.k = .new ∧ y.k = .new)) : fit th x y = if x = y then some th else none := by
  unfold fit
  rw [if_neg h]
theorem fit_fresh {th : List Pr} {x y : Tm} (h : x.k = .new ∧ y.k = .new) (h1 : ∀ p ∈ th, p.1 ≠ x) (h2 : ∀ p ∈ th, p.2 ≠ y) : fit th x y = some (th ++ [(x, y)]) := by
  unfold fit
  rw [if_pos h, if_pos ⟨h1, h2⟩]
theorem fit_there {th : List Pr} {x y : Tm} (h : x.k = .new ∧ y.k = .new) (h1 : (x, y) ∈ th) : fit th x y = some th := by
  unfold fit
  rw [if_pos h, if_neg (fun z => z.1 _ h1 rfl), if_pos h1]
theorem fit_other1 {th : List Pr} {x y z : Tm} (b : Bij th) (h : x.k = .new ∧ y.k = .new) (h1 : (x, z) ∈ th) (n : z ≠ y) : fit th x y = none := by
  unfold fit
  rw [if_pos h, if_neg (fun q => q.1 _ h1 rfl), if_neg (fun q => n (nd_val b.one h1 q))]
theorem fit_other2 {th : List Pr} {x y z : Tm} (b : Bij th) (h : x.k = .new ∧ y.k = .new) (h1 : (z, y) ∈ th) (n : z ≠ x) : fit th x y = none := by
  unfold fit
  rw [if_pos h, if_neg (fun q => q.2 _ h1 rfl), if_neg (fun q => n (nd_val2 b.two h1 q))]
/-! the walk's states -/
structure Ok (init : List Pr) (i : Nat) (q : Q2) : Prop where
  g : Grown init q.1
  b : Bij q.2
  l : q.2.length ≤ i
theorem turn_ok {cs ds : List Cl} {init : List Pr} {i : Nat} {q q' : Q2} {p : Pr} (hc : OkC cs) (hd : OkC ds) (o : Ok init i q) (h : turn cs ds q p = some q') : Ok init (i + 1) q' := by
  unfold turn at h
  cases e : fit q.2 p.1 p.2 with
  | none => rw [e] at h; cases h
  | some th =>
    rw [e] at h
    obtain ⟨b, l⟩ := fit_bij o.b e
    have l' : th.length ≤ i + 1 := by have := o.l; omega
    simp only at h
    cases e1 : look cs p.1 with
    | none =>
      cases e2 : look ds p.2 with
      | none =>
        rw [e1, e2] at h
        cases h
        exact ⟨o.g, b, l'⟩
      | some d => rw [e1, e2] at h; cases h
    | some c =>
      cases e2 : look ds p.2 with
      | none => rw [e1, e2] at h; cases h
      | some d =>
        rw [e1, e2] at h
        cases h
        have hc' := hc.u c (look_mem e1).1
        have hd' := hd.u d (look_mem e2).1
        exact ⟨o.g.meet hc'.2 hd'.2, b, l'⟩
theorem st_ok {cs ds : List Cl} {init : List Pr} (hc : OkC cs) (hd : OkC ds) (hi : InUU init) : ∀ {i : Nat} {q : Q2}, st cs ds init i = some q → Ok init i q
  | 0, q, h => by
    cases h
    exact ⟨.start hi, .nil, Nat.le_refl _⟩
  | i + 1, q, h => by
    cases e : st cs ds init i with
    | none => simp only [st, e] at h; cases h
    | some q0 =>
      have o := st_ok hc hd hi e
      cases ep : q0.1[i]? with
      | none =>
        rw [st_rest e (by simpa using ep)] at h
        cases h
        exact ⟨o.g, o.b, Nat.le_succ_of_le o.l⟩
      | some p =>
        rw [st_go e ep] at h
        exact turn_ok hc hd o h

/-! ### the law's own changes of the cells -/
def turnT (s : Int) (t : Tm) : Tm := if t.k = .new then ⟨.new, (t.n + s) % 3⟩ else t
def turnC (s : Int) (c : Cl) : Cl := ⟨turnT s c.a, turnT s c.f, turnT s c.s⟩
theorem turnT_U {s : Int} (h0 : 0 ≤ s) (h3 : s < 3) : ∀ t ∈ U, turnT s t ∈ U := by
  have : s = 0 ∨ s = 1 ∨ s = 2 := by omega
  rcases this with rfl | rfl | rfl <;> decide
theorem turnT_inj {s : Int} (h0 : 0 ≤ s) (h3 : s < 3) : ∀ t ∈ U, ∀ u ∈ U, turnT s t = turnT s u → t = u := by
  have : s = 0 ∨ s = 1 ∨ s = 2 := by omega
  rcases this with rfl | rfl | rfl <;> decide
theorem nd_map {α β : Type} {f : α → β} : ∀ {l : List α}, l.Nodup → (∀ x ∈ l, ∀ y ∈ l, f x = f y → x = y) → (l.map f).Nodup
  | [], _, _ => List.nodup_nil
  | a :: l, h, hi => by
    obtain ⟨h1, h2⟩ := List.nodup_cons.mp h
    rw [List.map_cons]
    refine List.nodup_cons.mpr ⟨fun m => ?_, nd_map h2 fun x hx y hy => hi x (List.mem_cons_of_mem _ hx) y (List.mem_cons_of_mem _ hy)⟩
    obtain ⟨b, hb, e⟩ := List.mem_map.mp m
    have q := hi b (List.mem_cons_of_mem _ hb) a List.mem_cons_self e
    exact h1 (q ▸ hb)
theorem OkC.turn {cs : List Cl} (o : OkC cs) {s : Int} (h0 : 0 ≤ s) (h3 : s < 3) : OkC (cs.map (turnC s)) := by
  constructor
  · have e : (cs.map (turnC s)).map (·.a) = (cs.map (·.a)).map (turnT s) := by
      rw [List.map_map, List.map_map]
      rfl
    rw [e]
    refine nd_map o.nd fun x hx y hy q => ?_
    obtain ⟨c, hc, rfl⟩ := List.mem_map.mp hx
    obtain ⟨d, hd, rfl⟩ := List.mem_map.mp hy
    exact turnT_inj h0 h3 _ (o.u c hc).1 _ (o.u d hd).1 q
  · intro c hc
    obtain ⟨d, hd, rfl⟩ := List.mem_map.mp hc
    obtain ⟨u1, u2, u3⟩ := o.u d hd
    exact ⟨turnT_U h0 h3 _ u1, turnT_U h0 h3 _ u2, turnT_U h0 h3 _ u3⟩
theorem OkC.nil : OkC [] := ⟨List.nodup_nil, fun _ h => by cases h⟩
theorem OkC.tail {c : Cl} {cs : List Cl} (o : OkC (c :: cs)) : OkC cs :=
  ⟨(List.nodup_cons.mp (show (c.a :: cs.map (·.a)).Nodup from o.nd)).2, fun d hd => o.u d (List.mem_cons_of_mem _ hd)⟩
theorem OkC.drop1 {cs : List Cl} (o : OkC cs) : OkC (cs.drop 1) := by
  cases cs with
  | nil => exact o
  | cons c cs => exact o.tail
theorem OkC.first {c : Cl} {cs : List Cl} (o : OkC (c :: cs)) {t : Tm} (ht : t ∈ U) : OkC (⟨c.a, t, c.s⟩ :: cs) :=
  ⟨o.nd, fun d hd => by
    rcases List.mem_cons.mp hd with e | hd
    · rw [e]
      have q := o.u c List.mem_cons_self
      exact ⟨q.1, ht, q.2.2⟩
    · exact o.u d (List.mem_cons_of_mem _ hd)⟩
theorem OkC.snoc {cs : List Cl} {c : Cl} (o : OkC cs) (n : ∀ d ∈ cs, d.a ≠ c.a) (hu : c.a ∈ U ∧ c.f ∈ U ∧ c.s ∈ U) : OkC (cs ++ [c]) := by
  constructor
  · rw [List.map_append]
    exact nd_snoc' o.nd fun x hx => by
      obtain ⟨d, hd, e⟩ := List.mem_map.mp hx
      rw [← e]
      exact n d hd
  · intro d hd
    rcases List.mem_append.mp hd with hd | hd
    · exact o.u d hd
    · have e : d = c := by simpa using hd
      rw [e]
      exact hu
end K86

/-! K86Rules: rules that the hand layer lacks: setdefault and a comprehension of dicts whose keys are tuples, zip with one target name, tuple(d.items()). -/
namespace K86
open PySem PySem.Spec PyProof.Rows L2

/-! ### d.setdefault(k, x), k a tuple -/
def rSetdT : V → List V → Hp → VK → Prop := fun x xs H Q => ∃ (a b : Addr) (kvs : List (List L2.Key × V)) (k : List L2.Key) (d : V),
  x = .ref a ∧ xs = [.ref b, d] ∧ H a = some (.dT kvs) ∧ H b = some (.tup (k.map kV)) ∧ kvs.length < sizeLine ∧
  (∀ v, valV kvs k = some v → Q v H) ∧ (valV kvs k = none → Q d (upd H a (.dT (kvs ++ [(k, d)]))))
theorem mt_setdT {X : Cx} (hu : X.A.units + 1 < cLine) : MtR X "dict.setdefault" rSetdT := by
  intro pins s σ H x xs v us Q I rx rxs h
  obtain ⟨a, b, kvs, k, d, rfl, rfl, ha, hb, hl, q1, q2⟩ := h
  cases rx
  obtain ⟨u1, u2, rfl, r1, r2⟩ := vals2 rxs
  cases r1
  obtain ⟨z, hd, ys, rel, dd⟩ := dt_of I.hok ha
  have lz : ys.length ≤ sizeLine := Nat.le_trans (Nat.le_of_eq (Paired.length rel).symm) z
  have there := rel.val k
  refine call_setdefault_heap (knd := tupleKind (mixKind X.prog X.w)) (hsz := lz) (tupleKind_room_in1 hu) (key_of I.hok hb) hd dd (fun p hp => ?_) fun hn h' dd' hs => ?_
  · rw [hp] at there
    cases e : valV kvs k with
    | none => rw [e] at there; exact False.elim there
    | some v0 =>
      rw [e] at there
      exact ⟨v0, H, I.tok _, there, q1 v0 e⟩
  · rw [hn] at there
    have e : valV kvs k = none := by
      cases e : valV kvs k with
      | none => rfl
      | some v0 => rw [e] at there; exact False.elim there
    obtain ⟨o, es, ep, hq, h2, h3, h4, _, h5⟩ := dd'
    have fits : (putK kvs k d).length ≤ sizeLine := Nat.le_trans (length_putK kvs k d) hl
    have kt := (rel.put k hb r2).keeps (H' := upd H a (.dT (putK kvs k d))) fun c zs ec => (upd_ne (ne_of ec ha fun q => nomatch q)).trans ec
    have J : Inv X pins σ (upd H a (.dT (putK kvs k d))) { s with heap := h', toks := s.toks + (tupleKind (mixKind X.prog X.w)).draws k } :=
      d_write I (by rw [ha]; exact True.intro) hs ⟨o, hq⟩ ⟨fits, hd, _, kt, o, es, ep, hq, h2, h3, h4, h5⟩
    rw [putK_new d e] at J
    exact ⟨d, _, J, r2, q2 e⟩

/-! ### zip of two tuples, whatever became of the pair that it gave out last -/
/-- the zip at z: the pair that it gave out last (none: not given out), and whether it knows that this is held -/
abbrev ZipAt (h : Heap) (z TI TO : Addr) (last : Value) (f : Bool) : Prop :=
  h.get? z = some { cls := .type "zip", dict := none, data := .fields #[last, .bool f, .bool false, .ref TI, .ref TO], slots := #[] }
/-- what stands in a zip's first field between two turns -/
def Last (v : Value) : Prop := v = .none ∨ ∃ T : Addr, v = rawInt T
section
variable {prog : Program} {w : World} {A : Around} {E : Value → Shared → Prop} {s : Shared}
theorem alive_any {a : Addr} {Q : Option Obj → Shared → Prop} (h : Q (s.heap.get? a) s) : wpAny (model prog w) A (loadIfAlive a) Q E s := fun _ _ _ => h
/-- may the zip take its own pair again? Either way it stands, and if not, it knows that the pair is held -/
theorem free_ways {z TI TO : Addr} {last : Value} {f : Bool} {Q : Bool → Shared → Prop} (hz : ZipAt s.heap z TI TO last f) (hl : Last last) (h1 : ∀ _ : Unit, Q true s)
    (h2 : ∀ h', ZipAt h' z TI TO last true → Heap.SameBut z s.heap h' → Q false { s with heap := h' }) : wpAny (model prog w) A (Builtin.SmallTypes.ownedTupleIsFree (.ref z)) Q E s := by
  obtain ⟨hp, g, d, tk, os⟩ := s
  rcases hl with rfl | ⟨T, rfl⟩
  · wp_walk using wpAny_field hz rfl (x := .none) rfl
    exact h1 ()
  · wp_walk using wpAny_field hz rfl (i := 0) (x := rawInt T) rfl, alive_any
    cases e : hp.get? T with
    | none =>
      wp_walk
      exact h1 ()
    | some o =>
      wp_walk using wpAny_field hz rfl (i := 1) (x := .bool f) rfl
      cases f
      · wp_walk using wpAny_setField_rec hz (k := 1) (by simp)
        exact fun h' z' m' => wpAny_pure (h2 h' z' m')
      · exact wpAny_ite_false rfl (wpAny_pure (h2 hp hz (Heap.SameBut.refl _ _)))
/-- what lies behind a turn: the zip again, its iterators one on, a new pair -/
def Turned (s : Shared) (z TI TO i1 i2 l1 l2 : Addr) (k : Nat) (x y : Value) (h' : Heap) : Prop :=
  (∃ last f, ZipAt h' z TI TO last f ∧ Last last) ∧ (∃ a b, IsPair h' TO a b) ∧ h'.IsTupleIter i1 l1 (k + 1) ∧ h'.IsTupleIter i2 l2 (k + 1) ∧ IsPair h' s.heap.objs.size x y ∧
    ∀ c o, c ≠ z → c ≠ TO → c ≠ i1 → c ≠ i2 → s.heap.get? c = some o → h'.get? c = some o
/-- away from B, what stood stands -/
def Moves (B : List Addr) (h h' : Heap) : Prop := h'.objs.size = h.objs.size ∧ ∀ c o, c ∉ B → h.get? c = some o → h'.get? c = some o
theorem Moves.one {a : Addr} {h h' : Heap} (e : Heap.SameBut a h h') : Moves [a] h h' := ⟨e.1, fun c o n q => e.extBut c o (fun r => n (r ▸ List.mem_singleton_self _)) q⟩
theorem Moves.and {B C : List Addr} {h h₁ h₂ : Heap} (x : Moves B h h₁) (y : Moves C h₁ h₂) : Moves (B ++ C) h h₂ :=
  ⟨y.1.trans x.1, fun c o n q => y.2 c o (fun m => n (List.mem_append_right _ m)) (x.2 c o (fun m => n (List.mem_append_left _ m)) q)⟩
/-- an iterator over a tuple gives its next item, or ends -/
theorem pull {it l : Addr} {k : Nat} {xs : Array Value} {Q : Value → Shared → Prop} (hh : A.handled = none) (hit : s.heap.IsTupleIter it l k) (hl : s.heap.IsTuple l xs)
    (go : ∀ x h', xs[k]? = some x → h'.IsTupleIter it l (k + 1) → Heap.SameBut it s.heap h' → Q x { s with heap := h' })
    (stop : xs[k]? = none → ∀ h' e, Heap.ExtBut it s.heap h' → (∃ o, h'.get? e = some o ∧ o.cls = .type "StopIteration") → E (.ref e) { s with heap := h' }) :
    wpAny (model prog w) A (Builtin.SmallTypes.nextOf (.ref it)) Q E s := by
  cases hx : xs[k]? with
  | none => exact RZ.nextOf_tuple_end hh hit hl hx (stop hx)
  | some x => exact RZ.nextOf_tuple_item hit hl hx fun h' => go x h' hx
theorem put_in {T : Addr} {a b x : Value} {k : Nat} {Q : Unit → Shared → Prop} (hT : IsPair s.heap T a b)
    (h : ∀ h', h'.get? T = some { cls := .type "tuple", data := .seq ((#[a, b] : Array Value).setIfInBounds k x) } → Moves [T] s.heap h' → Q () { s with heap := h' }) :
    wpAny (model prog w) A (updateSeq T (·.setIfInBounds k x)) Q E s := wpAny_updateSeq_pair hT fun h' e m => h h' e (.one m)
theorem hand_out {z TI TO T : Addr} {last : Value} {f : Bool} {Q : Unit → Shared → Prop} (hz : ZipAt s.heap z TI TO last f)
    (h : ∀ h', ZipAt h' z TI TO (rawInt T) false → Moves [z] s.heap h' → Q () { s with heap := h' }) : wpAny (model prog w) A (Builtin.SmallTypes.ownedTupleHandOut (.ref z) (.ref T)) Q E s :=
  wpAny_bind (wpAny_setField_rec hz (k := 0) (by simp) fun h₁ z₁ m₁ => wpAny_setField_rec z₁ (k := 1) (by simp) fun h₂ z₂ m₂ =>
    h h₂ z₂ ⟨m₂.1.trans m₁.1, fun c o n q => m₂.extBut _ _ (fun r => n (by simp [r])) (m₁.extBut _ _ (fun r => n (by simp [r])) q)⟩)
theorem zip_step {z TI TO i1 i2 l1 l2 : Addr} {k : Nat} {last v : Value} {f : Bool} {xs : Array Value} {a b : Value} {Q : Value → Shared → Prop} (hh : A.handled = none) (D : ZipApart z TI TO i1 i2 l1 l2)
    (hz : ZipAt s.heap z TI TO last f) (hl : Last last) (hTI : IsPair s.heap TI (.ref i1) (.ref i2)) (hTO : IsPair s.heap TO a b)
    (h1 : s.heap.IsTupleIter i1 l1 k) (h2 : s.heap.IsTupleIter i2 l2 k) (hl1 : s.heap.IsTuple l1 xs) (hl2 : xs[k]? ≠ none → ∃ ys, s.heap.IsTuple l2 ys ∧ ys[k]? = some v)
    (go : ∀ x h', xs[k]? = some x → Turned s z TI TO i1 i2 l1 l2 k x v h' → Q (.ref s.heap.objs.size) { s with heap := h' })
    (stop : xs[k]? = none → ∀ h' e, (∀ c o, c ∉ [z, TO, i1, i2] → s.heap.get? c = some o → h'.get? c = some o) → (∃ o, h'.get? e = some o ∧ o.cls = .type "StopIteration") → E (.ref e) { s with heap := h' }) :
    wpAny (model prog w) A (Builtin.«zip.__next__» ⟨[.ref z], []⟩) (fun fin s' => ∃ v, fin = .done (.ret v) ∧ Q v s') E s := by
  obtain ⟨hp, g, d, tk, os⟩ := s
  wp_walk using wpAny_field hz rfl (x := .bool false) rfl, wpAny_field hz rfl (x := .ref TI) rfl, wpAny_seqItems hTI rfl, free_ways hz hl
  · -- the zip's own pair is taken again
    intro _
    wp_walk using wpAny_field hz rfl (x := .ref TO) rfl, wpAny_setField_rec hz (k := 0) (by simp)
    intro ha za ma
    replace za : ZipAt ha z TI TO .ellipsis f := za
    have Ma : Moves [z] hp ha := .one ma
    wp_walk using wpAny_onRaise, pull (A := A) (s := ⟨ha, g, d, tk, os⟩) hh (h1.extBut ma.extBut D.i1z) (hl1.extBut ma.extBut D.l1z)
    · intro x hb hx h1b mb
      have Mb := Ma.and (.one mb)
      have TOb : IsPair hb TO a b := Mb.2 _ _ (by simp [D.TOz, D.TOi1]) hTO
      obtain ⟨ys, t2, hy⟩ := hl2 (by rw [hx]; nofun)
      wp_walk using wpAny_seqItems TOb rfl, put_in (s := ⟨hb, g, d, tk, os⟩) TOb
      intro hc TOc mc
      replace TOc : IsPair hc TO x b := TOc
      have Mc := Mb.and mc
      have h2c : hc.IsTupleIter i2 l2 k := h2.at fun o q => Mc.2 _ _ (by simp [D.i2z, D.i12.symm, D.TOi2.symm]) q
      have t2c : hc.IsTuple l2 ys := t2.at fun o q => Mc.2 _ _ (by simp [D.l2z, D.l2i1, D.l2TO]) q
      wp_walk using wpAny_letGo, wpAny_onRaise, RZ.nextOf_tuple_item (A := A) (s := ⟨hc, g, d, tk, os⟩) h2c t2c hy
      intro hd h2d md
      have Md := Mc.and (.one md)
      have TOd : IsPair hd TO x b := Moves.one md |>.2 _ _ (by simp [D.TOi2]) TOc
      wp_walk using wpAny_seqItems TOd rfl, put_in (s := ⟨hd, g, d, tk, os⟩) TOd
      intro he TOe me
      replace TOe : IsPair he TO x v := TOe
      have Me := Md.and me
      have ze : ZipAt he z TI TO .ellipsis f := me.2 _ _ (by simp [D.TOz.symm]) (md.extBut _ _ D.i2z.symm (mc.2 _ _ (by simp [D.TOz.symm]) (mb.extBut _ _ D.i1z.symm za)))
      have big : z < he.objs.size := Heap.lt_size ze
      have zp := Heap.get?_push_of_some { cls := .type "tuple", data := .seq #[x, v] } ze
      have Tp : IsPair (he.push { cls := .type "tuple", data := .seq #[x, v] }) he.objs.size x v := Heap.get?_push_size _ rfl
      wp_walk using wpAny_letGo, wpAny_seqItems TOe rfl, hand_out (s := ⟨_, g, d, tk, os⟩) zp
      intro h' z' m'
      have up : ∀ c o, c ≠ z → he.get? c = some o → h'.get? c = some o := fun c o n q => m'.2 c o (by simpa using n) (Heap.get?_push_of_some _ q)
      have new : IsPair h' he.objs.size x v := m'.2 _ _ (by simpa using Nat.ne_of_gt big) Tp
      rw [Me.1] at new
      refine wpAny_pure ⟨_, rfl, ?_⟩
      rw [Me.1]
      refine go x h' hx ⟨⟨_, _, z', .inr ⟨_, rfl⟩⟩, ⟨x, v, up _ _ D.TOz TOe⟩, ?_, ?_, new, fun c o n1 n2 n3 n4 q => up c o n1 (Me.2 c o (by simp [n1, n2, n3, n4]) q)⟩
      · have h1e : he.IsTupleIter i1 l1 (k + 1) := h1b.at fun o q => me.2 _ _ (by simp [D.TOi1.symm]) (md.extBut _ _ D.i12 (mc.2 _ _ (by simp [D.TOi1.symm]) q))
        exact h1e.at fun o q => up _ o D.i1z q
      · have h2e : he.IsTupleIter i2 l2 (k + 1) := h2d.at fun o q => me.2 _ _ (by simp [D.TOi2.symm]) q
        exact h2e.at fun o q => up _ o D.i2z q
    · intro hx hb e mb ⟨oe, e1, e2⟩
      have zb := mb _ _ D.i1z.symm za
      refine wpAny_setField_rec zb (by simp) fun hc _ mc => stop hx hc e (fun c o n q => mc.extBut _ _ (fun r => n (by simp [r])) (mb _ _ (fun r => n (by simp [r])) (Ma.2 _ _ (fun r => n (by simp_all)) q))) ⟨oe, mc.extBut _ _ (fun r => ?_) e1, e2⟩
      rw [r] at e1
      rw [show _ = _ from zb] at e1
      cases e1
      simp at e2
  · -- it is still held: a new pair
    intro ha za ma
    have Ma : Moves [z] hp ha := .one ma
    simp only [Bool.false_eq_true, if_false]
    rw [← Array.forIn_toList]
    wp_walk using wpAny_holding, pull (A := A) (s := ⟨ha, g, d, tk, os⟩) hh (h1.extBut ma.extBut D.i1z) (hl1.extBut ma.extBut D.l1z)
    · intro x hb hx h1b mb
      have Mb := Ma.and (.one mb)
      obtain ⟨ys, t2, hy⟩ := hl2 (by rw [hx]; nofun)
      have h2b : hb.IsTupleIter i2 l2 k := h2.at fun o q => Mb.2 _ _ (by simp [D.i2z, D.i12.symm]) q
      have t2b : hb.IsTuple l2 ys := t2.at fun o q => Mb.2 _ _ (by simp [D.l2z, D.l2i1]) q
      wp_walk using wpAny_holding, RZ.nextOf_tuple_item (A := A) (s := ⟨hb, g, d, tk, os⟩) h2b t2b hy
      intro hc h2c mc
      have Mc := Mb.and (.one mc)
      wp_walk
      have sz : hc.objs.size = hp.objs.size := Mc.1
      have up : ∀ c o, c ∉ [z, i1, i2] → hp.get? c = some o → (hc.push { cls := .type "tuple", data := .seq #[x, v] }).get? c = some o := fun c o n q => Heap.get?_push_of_some _ (Mc.2 c o n q)
      have new : IsPair (hc.push { cls := .type "tuple", data := .seq #[x, v] }) hc.objs.size x v := Heap.get?_push_size _ rfl
      rw [sz] at new ⊢
      refine ⟨_, rfl, go x _ hx ⟨⟨_, _, Heap.get?_push_of_some _ (mc.extBut _ _ D.i2z.symm (mb.extBut _ _ D.i1z.symm za)), hl⟩, ⟨a, b, up _ _ (by simp [D.TOz, D.TOi1, D.TOi2]) hTO⟩, ?_, ?_, new,
        fun c o n1 _ n3 n4 q => up c o (by simp [n1, n3, n4]) q⟩⟩
      · exact h1b.at fun o q => Heap.get?_push_of_some _ (mc.extBut _ _ D.i12 q)
      · exact h2c.at fun o q => Heap.get?_push_of_some _ q
    · exact fun hx hb e mb he => stop hx hb e (fun c o n q => mb _ _ (fun r => n (by simp [r])) (Ma.2 _ _ (fun r => n (by simp_all)) q)) he
theorem zip_pyNext {z TI TO : Addr} {last : Value} {f : Bool} {Q : Option Value → Shared → Prop} (hz : ZipAt s.heap z TI TO last f)
    (h : wpAny (model prog w) A.in1 (Builtin.«zip.__next__» ⟨[.ref z], []⟩) (fun fin s' => ∃ v, fin = .done (.ret v) ∧ Q (some v) s') (fun e s' => (∃ a o, e = .ref a ∧ s'.heap.get? a = some o ∧ o.cls = .type "StopIteration") ∧ Q none s') s) :
    wpAny (model prog w) A (pyNext (.ref z)) Q E s := by
  have hT : s.TypeIs (.ref z) "zip" := ⟨_, hz, rfl⟩
  unfold pyNext
  refine wpAny_bind (wpAny_attempt (wpAny_callSpecial?_slot (name := Str.ofString "__next__") hT F.slot_zip_next (wpAny_call_entry F.slot_zip_next hT F.entry_zip_next ?_ (F.args_zip_next_1 _))))
  refine wpAny_mono h (fun fin s' q => ?_) fun e s' q => ?_
  · obtain ⟨v, rfl, q⟩ := q
    exact ⟨v, rfl, wpAny_pure q⟩
  · obtain ⟨⟨a, o, rfl, ho, hc⟩, q⟩ := q
    exact wpAny_bind (wpAny_isInstance (T := "StopIteration") (b := true) ⟨o, ho, hc⟩ isSubtype_stop (wpAny_pure q))
end
/-- two tuples side by side: as many turns as the first has items -/
def ItzN (K : PySem.W.Frag) (a b : Addr) : It := ⟨(RZ.ItzT K a b).go, (RZ.ItzT K a b).yld, fun i H => ∃ xs : List V, SqT K H a xs ∧ xs.length ≤ i⟩
def ZipSt (a b z TI TO i1 i2 : Addr) (i : Nat) (h : Heap) : Prop :=
  (∃ last f, ZipAt h z TI TO last f ∧ Last last) ∧ IsPair h TI (.ref i1) (.ref i2) ∧ (∃ x y, IsPair h TO x y) ∧ h.IsTupleIter i1 a i ∧ h.IsTupleIter i2 b i
theorem turn_zipN {P : Program} {w : World} {K : PySem.W.Frag} {x : Str} {tpos : Pos} {a b z TI TO i1 i2 : Addr} (D : ZipApart z TI TO i1 i2 a b) :
    Turn P w K (.Name x tpos) (ItzN K a b) [z, TI, TO, i1, i2] z (ZipSt a b z TI TO i1 i2) where
  mem := List.mem_cons_self
  obj := fun i h st c hc => by
    obtain ⟨⟨_, _, hz, _⟩, hTI, ⟨_, _, hTO⟩, ⟨o1, e1, _, d1⟩, ⟨o2, e2, _, d2⟩⟩ := st
    simp only [List.mem_cons, List.not_mem_nil, or_false] at hc
    rcases hc with rfl | rfl | rfl | rfl | rfl
    · exact ⟨_, hz, fun v q => nomatch q⟩
    · exact ⟨_, hTI, fun v q => nomatch q⟩
    · exact ⟨_, hTO, fun v q => nomatch q⟩
    · exact ⟨o1, e1, fun v q => by rw [d1] at q; cases q⟩
    · exact ⟨o2, e2, fun v q => by rw [d2] at q; cases q⟩
  keep := fun i h h' st k => by
    obtain ⟨⟨_, _, hz, hl⟩, hTI, ⟨_, _, hTO⟩, h1, h2⟩ := st
    exact ⟨⟨_, _, k z (by simp) _ hz, hl⟩, k TI (by simp) _ hTI, ⟨_, _, k TO (by simp) _ hTO⟩, h1.at fun o q => k i1 (by simp) o q, h2.at fun o q => k i2 (by simp) o q⟩
  item := by
    intro X hP hw hK hc i pins s σ H E I hf st hg
    subst hP hw hK
    have lt : ∀ c ∈ [z, TI, TO, i1, i2], c < s.heap.objs.size := fun c hc => by
      obtain ⟨⟨_, _, hz, _⟩, hTI, ⟨_, _, hTO⟩, ⟨o1, e1, _⟩, ⟨o2, e2, _⟩⟩ := id st
      simp only [List.mem_cons, List.not_mem_nil, or_false] at hc
      rcases hc with rfl | rfl | rfl | rfl | rfl
      · exact Heap.lt_size hz
      · exact Heap.lt_size hTI
      · exact Heap.lt_size hTO
      · exact Heap.lt_size e1
      · exact Heap.lt_size e2
    obtain ⟨⟨last, f, hz, hl⟩, hTI, ⟨x0, y0, hTO⟩, h1, h2⟩ := st
    obtain ⟨xs, ys, x, y, hqx, hqy, hx, hy⟩ := hg
    obtain ⟨us, rv, p, _⟩ := I.tuple hqx
    obtain ⟨ws, rv2, p2, _⟩ := I.tuple hqy
    obtain ⟨u, hu, ru⟩ := rv.get hx
    obtain ⟨v, hv, rw'⟩ := rv2.get hy
    have hu' : us.toArray[i]? = some u := by simpa using hu
    refine zip_pyNext hz (wpAny_mono (zip_step (Q := fun r s1 => r = .ref s.heap.objs.size ∧ ∃ h', s1 = { s with heap := h' } ∧ Turned s z TI TO i1 i2 a b i u v h') (E := fun _ _ => False) (I.ok.hd hc) D hz hl hTI hTO h1 h2 p (fun _ => ⟨_, p2, by simpa using hv⟩)
      (fun _ h' e t => ⟨rfl, h', rfl, by cases hu'.symm.trans e; exact t⟩) fun n => nomatch hu'.symm.trans n) (fun fin s1 q => ?_) fun _ _ q => q.elim)
    obtain ⟨r, rfl, rfl, h', rfl, ⟨hz', ⟨x1, y1, hTO'⟩, h1', h2', hT, hk⟩⟩ := q
    refine ⟨_, rfl, _, rfl, wpAny_pure ?_⟩
    have new : ObjOk X.prog X.w (upd H s.heap.objs.size (.tup [x, y])) h' s.heap.objs.size (.tup [x, y]) :=
      ⟨by show 2 ≤ sizeLine; decide, [u, v], .cons ru (.cons rw' .nil), ⟨_, hT, rfl, _, rfl⟩⟩
    have J : Inv X pins σ (upd H s.heap.objs.size (.tup [x, y])) { s with heap := h' } :=
      I.turnedNew (t' := s.toks) (ch := [z, TI, TO, i1, i2]) (fun c o hb q => by
        simp only [List.mem_cons, List.not_mem_nil, or_false, not_or] at hb
        exact hk c o hb.1 hb.2.2.1 hb.2.2.2.1 hb.2.2.2.2 q) hf (Nat.le_refl _) new
    refine ⟨.ref s.heap.objs.size, _, J, rfl, ⟨_, x, y, rfl, I.hok.fresh (Nat.le_refl _), rfl, fun l hl => by rw [I.tuple_inj hl hqx]; exact hx, fun l hl => by rw [I.tuple_inj hl hqy]; exact hy⟩,
      ⟨hz', hk _ _ D.TIz D.TITO D.TIi1 D.TIi2 hTI, ⟨x1, y1, hTO'⟩, h1', h2'⟩, fun c hc => ?_⟩
    rw [upd_ne (Nat.ne_of_lt (lt c hc))]
    exact (hf c hc).1
  done := by
    intro X hP hw hK hc i pins s σ H E I hf st hg
    subst hP hw hK
    obtain ⟨⟨last, f, hz, hl⟩, hTI, ⟨x0, y0, hTO⟩, h1, h2⟩ := st
    obtain ⟨xs, hqx, hend⟩ := hg
    obtain ⟨us, rv, p, _⟩ := I.tuple hqx
    have e : us.toArray[i]? = none := by
      have := rv.length
      simp
      omega
    refine zip_pyNext hz (zip_step (v := .none) (I.ok.hd hc) D hz hl hTI hTO h1 h2 p (fun n => absurd e n) (fun _ _ n => nomatch e.symm.trans n) fun _ h' ee hk he => ?_)
    obtain ⟨oe, e1, e2⟩ := he
    exact ⟨⟨ee, oe, rfl, e1, e2⟩, rfl, I.turnedL (t' := s.toks) (ch := [z, TI, TO, i1, i2]) (fun c o hb q => by
      exact hk c o (fun m => hb (by simp only [List.mem_cons, List.not_mem_nil, or_false] at m ⊢; exact m.imp_right .inr)) q) hf⟩
  self := fun A i s Q E st h => by
    obtain ⟨⟨last, f, hz, hl⟩, _⟩ := st
    have hT : s.TypeIs (.ref z) "zip" := ⟨_, hz, rfl⟩
    refine wpAny_pyIter_slot hT F.slot_zip_iter (wpAny_call_entry F.slot_zip_iter hT F.entry_zip_iter ?_ (F.args_zip_iter_1 _))
    show wpAny _ _ (ret (.ref z)) _ _ s
    exact wpAny_pure ⟨_, rfl, "zip", _, hT, F.slot_zip_next.lookup, h⟩
/-- zip(t, u) of two tuples, walked by one name -/
def iZipN (K : PySem.W.Frag) (ta : TA) : TI := fun σ H R => ta σ H fun vs H1 => ∃ a b xs ys, vs = [.ref a, .ref b] ∧ SqT K H1 a xs ∧ SqT K H1 b ys ∧ R (ItzN K a b) H1
theorem pi_zipN {X : Cx} {e e2 : Expr} {ta : TA} {x : Str} {p pos tpos : Pos} (hg : Gl X "zip") (hm : X.mg "zip" = none) (ha : PA X [e, e2] ta)
    (hs : starEach [e, e2] X.env = (false, eval e X.env) :: starEach [e2] X.env := by rfl) (hpl : (backTo pos (starEach [e2] X.env)).any (·.1) = false := by rfl) :
    PI X (.Name x tpos) (.Call (.Name "zip" p) [e, e2] [] pos) (iZipN X.K ta) := by
  refine ⟨fun pins s σ H R I h => ?_⟩
  refine Call_ (ld_blt I hg hm PyProof.Rows.boot_zip (PyProof.Rows.callWith_type1 (thn (ha.run pos pins s σ H _ I h) fun us s1 ⟨vs, H1, I1, r1, q1⟩ => ?_) hs hpl))
  obtain ⟨a, b, xs, ys, rfl, hqx, hqy, q⟩ := q1
  obtain ⟨u1, u2, rfl, r, r'⟩ := vals2 r1
  cases r
  cases r'
  obtain ⟨us1, _, p1, _⟩ := I1.tuple hqx
  obtain ⟨us2, _, p2, _⟩ := I1.tuple hqy
  obtain ⟨o1, ho1, _⟩ := id p1
  obtain ⟨o2, ho2, _⟩ := id p2
  have fresh : ∀ c, s1.heap.objs.size ≤ c → FpOk X pins H1 c := fun c hle => I1.fpOk hle (I1.hok.fresh hle)
  refine RZ.call_zipT (show s1.heap.IsTuple a us1.toArray from p1) (show s1.heap.IsTuple b us2.toArray from p2) fun h' hz hTI hTO h1 h2 hsz hk => wpAny_pyIter_zip hz ?_
  refine ⟨s1.heap.objs.size + 4, [s1.heap.objs.size + 4, s1.heap.objs.size + 2, s1.heap.objs.size + 3, s1.heap.objs.size, s1.heap.objs.size + 1], _, _, H1, rfl, I1.kept (t' := s1.toks) hk,
    turn_zipN (PySem.W.ktu_apart s1.heap.objs.size a b (Heap.lt_size ho1) (Heap.lt_size ho2)), ⟨⟨_, _, hz, .inl rfl⟩, hTI, ⟨_, _, hTO⟩, h1, h2⟩, fun c hc => fresh c ?_, q⟩
  simp only [List.mem_cons, List.not_mem_nil, or_false] at hc
  rcases hc with rfl | rfl | rfl | rfl | rfl
  · exact Nat.le_add_right _ _
  · exact Nat.le_add_right _ _
  · exact Nat.le_add_right _ _
  · exact Nat.le_refl _
  · exact Nat.le_add_right _ _
/-- a loop over the pairs of two tuples of one length, by what holds behind each turn -/
theorem for_zipN {K : PySem.W.Frag} {a b : Addr} {xs ys : List V} {g : TG} {tb : TS} {D : Ends} {σ : L2.St} {H : Hp} (hl : xs.length = ys.length) (Pv : Nat → L2.St → Hp → Prop) (h0 : Pv 0 σ H) (hq : ∀ i σ H, Pv i σ H → SqT K H a xs ∧ SqT K H b ys)
    (hs : ∀ (i : Nat) (x y : V) (T : Addr) (σ : L2.St) (H : Hp), xs[i]? = some x → ys[i]? = some y → Pv i σ H → H T = none → g (.ref T) σ (upd H T (.tup [x, y])) fun σ2 H2 => tb { D with nx := Pv (i + 1), ct := Pv (i + 1), bk := D.nx } σ2 H2)
    (hd : ∀ σ H, Pv xs.length σ H → D.nx σ H) :
    ∃ W : Nat → Nat → L2.St → Hp → Prop, (∃ m, W 0 m σ H) ∧ ∀ i m σ H, W i m σ H →
      ((ItzN K a b).stop i H ∧ D.nx σ H) ∨ ((ItzN K a b).go i H ∧ ∃ N : L2.St → Hp → Prop, (∀ σ' H', N σ' H' → ∃ m', m' < m ∧ W (i + 1) m' σ' H') ∧ ∀ v H', (ItzN K a b).yld i H v H' → g v σ H' fun σ2 H2 => tb { D with nx := N, ct := N, bk := D.nx } σ2 H2) := by
  refine ⟨fun i m σ H => m = xs.length - i ∧ i ≤ xs.length ∧ Pv i σ H, ⟨_, rfl, Nat.zero_le _, h0⟩, ?_⟩
  rintro i m σ H ⟨rfl, hi, p⟩
  obtain ⟨qx, qy⟩ := hq i σ H p
  rcases Nat.lt_or_ge i xs.length with hlt | hge
  · have hx : xs[i]? = some xs[i] := List.getElem?_eq_getElem hlt
    have hy : ys[i]? = some (ys[i]'(hl ▸ hlt)) := List.getElem?_eq_getElem (hl ▸ hlt)
    refine .inr ⟨⟨xs, ys, _, _, qx, qy, hx, hy⟩, Pv (i + 1), fun σ' H' p' => ⟨_, by omega, rfl, hlt, p'⟩, fun v H' y => ?_⟩
    obtain ⟨T, x', y', rfl, hT, rfl, f1, f2⟩ := y
    exact hs i x' y' T σ H (f1 xs qx) (f2 ys qy) p hT
  · have e : i = xs.length := Nat.le_antisymm hi hge
    subst e
    exact .inl ⟨⟨xs, qx, Nat.le_refl _⟩, hd σ H p⟩

/-! ### {k: v for target in iter}, the keys tuples -/
/-- d[k] = v by a comprehension, k a tuple -/
theorem dictSetT {Y : Cx} {pins : List (Addr × Obj)} {σ : L2.St} {H : Hp} {s : Shared} {E : Value → Shared → Prop} {D b : Addr} {kvs : List (List L2.Key × V)} {k : List L2.Key} {v : V} {r : Value} {Q : Unit → Shared → Prop} (hu : Y.A.units + 1 < cLine) (I : Inv Y pins σ H s)
    (hD : H D = some (.dT kvs)) (hb : H b = some (.tup (k.map kV))) (hz : kvs.length < sizeLine) (rv : RelV v r) (h : ∀ s', Inv Y pins σ (upd H D (.dT (putK kvs k v))) s' → Q () s') : wpAny (model Y.prog Y.w) Y.A (dictSet D (.ref b) r) Q E s := by
  obtain ⟨z, hd, ys, rel, dd⟩ := dt_of I.hok hD
  have room : (tupleKind (mixKind Y.prog Y.w)).room Y.A := Nat.lt_of_succ_lt hu
  refine wpAny_dictSet_heap (hsz := Nat.le_trans (Nat.le_of_eq (Paired.length rel).symm) z) room (key_of I.hok hb) dd fun h' dd' hs => h _ ?_
  obtain ⟨o, es, ep, hq, h2, h3, h4, _, h5⟩ := dd'
  have fits : (putK kvs k v).length ≤ sizeLine := Nat.le_trans (length_putK kvs k v) hz
  exact d_write I (by rw [hD]; exact True.intro) hs ⟨o, hq⟩ ⟨fits, hd, _, (rel.put k hb rv).keeps fun c zs ec => (upd_ne (ne_of ec hD fun q => nomatch q)).trans ec, o, es, ep, hq, h2, h3, h4, h5⟩
/-- what one turn of it asks: the key's tuple, the value, the dict that grows at D -/
def tDcT (wi : TI) (g : TG) (tk tv : TE) (vs : List Nat) : TE := fun σ H Q => wi σ H fun J H1 => ∀ D, H1 D = none → ∃ W : Nat → Nat → Hp → Prop, (∃ m, W 0 m (upd H1 D (.dT []))) ∧ ∀ i m H, W i m H →
  (J.stop i H ∧ Q (.ref D) H) ∨ (J.go i H ∧ ∃ Nx : Hp → Prop, (∀ H', Nx H' → ∃ m', m' < m ∧ W (i + 1) m' H') ∧ ∀ x H', J.yld i H x H' → g x (wipe σ vs) H' fun σ2 H2 => wipe σ2 vs = wipe σ vs ∧
    tk σ2 H2 fun y H4 => tv σ2 H4 fun z H5 => ∃ kvs k b, y = .ref b ∧ H5 b = some (.tup (k.map kV)) ∧ H5 D = some (.dT kvs) ∧ kvs.length < sizeLine ∧ Nx (upd H5 D (.dT (putK kvs k z))))
section
variable {X : Cx}
theorem dcT_core {pins : List (Addr × Obj)} {s : Shared} {σ : L2.St} {H : Hp} {Q : VK} {kx vx tg iter : Expr} {scope : Scope} {own : List (Str × Nat)} {pos pos' : Pos} {wi : TI} {g : TG} {tk tv : TE} {use : Option (Value → Sem Unit)} {Qf : Value → Shared → Prop}
    (hu : X.A.units + 1 < cLine) (hc : X.calm = true) (hN : X.N.Nodup) (I : Inv X pins σ H s) (hi : PI X tg iter wi) (ok : BlkOk X.N X.env.scope scope own)
    (hg : ∀ (s : Shared) (H : Hp) (C : Addr) (cl : List (Str × Addr)) (fp : List Addr), PG (X.blk s H scope (compEnvC scope cl C X.env) fp) tg g)
    (hk : ∀ (s : Shared) (H : Hp) (C : Addr) (cl : List (Str × Addr)) (fp : List Addr), PE (X.blk s H scope (compEnvC scope cl C X.env) fp) kx tk)
    (he : ∀ (s : Shared) (H : Hp) (C : Addr) (cl : List (Str × Addr)) (fp : List Addr), PE (X.blk s H scope (compEnvC scope cl C X.env) fp) vx tv) (hs : ∀ x, foldedSetIterable iter X.env x = pure x)
    (h : tDcT wi g tk tv (own.map (·.2)) σ H Q)
    (fin : ∀ D C s' m H', Inv X pins σ H' s' → Q (.ref D) H' → s'.heap.Ns C m → FpOk X pins H' C → compPost (model X.prog X.w) X.A X.xe use Qf (.ref D) C (.ok .next) s') :
    wpAny (model X.prog X.w) X.A (comprehension (.DictComp kx vx [⟨tg, iter, [], 0⟩] scope pos) scope X.env pos' newDict false (eval iter X.env) use) Qf X.xe s := by
  have cells : ∀ y ∈ scope.names, y.2 = .free → ∃ c, X.env.cells.lookup y.1 = some c := fun y hy e => I.ok.has _ (ok.free y hy e)
  refine wpAny_comprehension_free (use := use) rfl hs (closure_ok cells) ok.kind (fun y hy e => by rw [ok.uniq y hy, e]) (thn (hi.run pins s σ H _ I h) fun xv s1 hx => thn hx fun itv s2 h2 => ?_)
  obtain ⟨it, fp, tn, J, H2, rfl, I2, T, st2, f2, q⟩ := h2
  refine wpAny_newObj_type (newEnv_comp ?_)
  -- the new dict, at D
  obtain ⟨D, hD⟩ : ∃ D, D = s2.heap.objs.size := ⟨_, rfl⟩
  have free : H2 D = none := I2.hok.fresh (Nat.le_of_eq hD.symm)
  obtain ⟨W, ⟨m0, w0⟩, turn⟩ := q D free
  rw [← hD]
  obtain ⟨s3, e3⟩ : ∃ s3 : Shared, s3 = { s2 with heap := s2.heap.push { cls := .type "dict", data := .dict #[] } } := ⟨_, rfl⟩
  have up : ∀ b o, s2.heap.get? b = some o → s3.heap.get? b = some o := fun b o e => by rw [e3]; exact Heap.get?_push_of_some _ e
  have big3 : s2.heap.objs.size ≤ s3.heap.objs.size := by rw [e3, Heap.size_push]; exact Nat.le_succ _
  have I3 : Inv X pins σ (upd H2 D (.dT [])) s3 := by
    rw [e3]
    refine I2.laid (t' := s2.toks) (fun b o e => Heap.get?_push_of_some _ e) (Nat.le_of_eq hD.symm) ?_
    rw [hD]
    exact dt_empty s2.heap I2.big
  have f3 : ∀ b ∈ fp, FpOk X pins (upd H2 D (.dT [])) b ∧ b < s3.heap.objs.size := fun b hb => by
    obtain ⟨o, e, _⟩ := T.obj _ _ st2 b hb
    have lt : b < s2.heap.objs.size := Heap.lt_size e
    exact ⟨⟨(upd_ne (Nat.ne_of_lt (hD ▸ lt))).trans (f2 b hb).1, (f2 b hb).2⟩, Nat.lt_of_lt_of_le lt big3⟩
  have st3 : tn 0 s3.heap := T.keep _ _ _ st2 fun b _ o e => up b o e
  have I4 := block_start I3 ok hN f3
  rw [← e3]
  show codeAny _ _ (.compStart (.DictComp kx vx [⟨tg, iter, [], 0⟩] scope pos) 0 (.ref it) (.ref D) (compEnvC scope (cellsFrom (s3.heap.objs.size + 1) scope.names (cloFrom X.env.cells scope.names [])) s3.heap.objs.size X.env)) (compPost (model X.prog X.w) X.A X.xe use Qf (.ref D) s3.heap.objs.size) { s3 with heap := pushCells (s3.heap.push { cls := .type "dict", data := .dict #[] }) scope.names }
  have pg := hg s3 (upd H2 D (.dT [])) s3.heap.objs.size (cellsFrom (s3.heap.objs.size + 1) scope.names (cloFrom X.env.cells scope.names [])) fp
  have pk := hk s3 (upd H2 D (.dT [])) s3.heap.objs.size (cellsFrom (s3.heap.objs.size + 1) scope.names (cloFrom X.env.cells scope.names [])) fp
  have pe := he s3 (upd H2 D (.dT [])) s3.heap.objs.size (cellsFrom (s3.heap.objs.size + 1) scope.names (cloFrom X.env.cells scope.names [])) fp
  obtain ⟨ce, ece⟩ : ∃ ce, ce = compEnvC scope (cellsFrom (s3.heap.objs.size + 1) scope.names (cloFrom X.env.cells scope.names [])) s3.heap.objs.size X.env := ⟨_, rfl⟩
  have cL : ce.locals = s3.heap.objs.size := by rw [ece]; rfl
  obtain ⟨s4, e4⟩ : ∃ s4 : Shared, s4 = { s3 with heap := pushCells (s3.heap.push { cls := .type "dict", data := .dict #[] }) scope.names } := ⟨_, rfl⟩
  obtain ⟨H3, eH3⟩ : ∃ H3, H3 = upd H2 D (.dT []) := ⟨_, rfl⟩
  rw [← ece, ← eH3] at pg pk pe
  rw [← ece, ← eH3, ← e4] at I4
  rw [← eH3] at I3 f3 w0
  rw [← ece, ← e4]
  have st4 : tn 0 s4.heap := T.keep _ _ _ st3 fun b _ o e => by rw [e4]; exact pushCells_keeps _ _ _ _ (Heap.get?_push_of_some _ e)
  have mine : ∀ {σ' : L2.St} {H' : Hp} {s' : Shared}, Inv (X.blk s3 H3 scope ce fp) [] σ' H' s' → (∀ b ∈ fp, H' b = none) → ∀ b ∈ fp, FpOk (X.blk s3 H3 scope ce fp) [] H' b := fun {_ _ _} I' hn b hb =>
    ⟨hn b hb, (I'.ok.exf b hb).1, I'.ok.exfs b hb, .inl hb, fun x c e => (I'.ok.exf b hb).2 x c e, fun p hp => absurd (show p ∈ ([] : List (Addr × Obj)) ++ [] from hp) (by simp)⟩
  have loop : codeAny (model X.prog X.w) X.A (.compLoop (.DictComp kx vx [⟨tg, iter, [], 0⟩] scope pos) 0 (.ref it) (.ref D) ce) (compPost (model X.prog X.w) X.A X.xe use Qf (.ref D) s3.heap.objs.size) s4 := by
    refine compLoop_anyD (fun n s' => ∃ i H', Inv (X.blk s3 H3 scope ce fp) [] (wipe σ (own.map (·.2))) H' s' ∧ tn i s'.heap ∧ (∀ b ∈ fp, H' b = none) ∧ W i n H') ?_ m0 ⟨0, H3, I4, st4, fun b hb => (f3 b hb).1.1, w0⟩
    rintro n s5 ⟨i, H5, I5, st5, n5, w5⟩
    rcases turn i n H5 w5 with ⟨stop, qq⟩ | ⟨go, Nx, hNx, step⟩
    · -- it is over: back in the def
      refine thnF (T.done (X.blk s3 H3 scope ce fp) rfl rfl rfl hc i [] s5 _ H5 (fun _ _ => False) I5 (mine I5 n5) st5 stop) fun r s6 ⟨hr, I6⟩ => ?_
      subst hr
      have I7 : Inv X pins σ H5 s6 := I3.call' (ch := fp) I6.os I6.base I6.hok I6.bare fun b hb => ⟨(f3 b hb).1.2.2.2.1, (f3 b hb).1.2.1, (f3 b hb).1.2.2.2.2.1, (f3 b hb).1.2.2.2.2.2⟩
      have nC : H5 s3.heap.objs.size = none := by rw [← cL]; exact I6.free
      obtain ⟨m, hn, _⟩ := I6.loc
      have hn : s6.heap.Ns s3.heap.objs.size m := by rw [← cL]; exact hn
      exact fin D s3.heap.objs.size s6 m H5 I7 qq hn (I3.fpOk (Nat.le_refl _) nC)
    · refine thnF (T.item (X.blk s3 H3 scope ce fp) rfl rfl rfl hc i [] s5 _ H5 (fun _ _ => False) I5 (mine I5 n5) st5 go) fun r s6 ⟨u, hr, h6⟩ => ?_
      subst hr
      refine thnF h6 fun _ s7 ⟨x, H7, I7, r7, y7, st7, n7⟩ => ?_
      refine thnF (pg.run _ s7 _ H7 x u _ (I7.pinned (mine I7 n7) (T.obj _ _ st7)) r7 (step x H7 y7)) fun _ s8 ⟨σ8, H8, I8, hw8, q8⟩ => ?_
      refine wpAny_tests_nil ?_
      show if true = true then _ else _
      rw [if_pos rfl]
      refine thnF (pk.run _ s8 σ8 H8 _ I8 q8) fun z s10 ⟨yk, H10, I10, r10, q10⟩ => ?_
      refine thnF (pe.run _ s10 σ8 H10 _ I10 q10) fun z2 s11 ⟨yv, H11, I11, r11, kvs, k, b, ek, hb, hD11, hz11, nx⟩ => ?_
      subst ek
      cases r10
      refine dictSetT (Y := X.blk s3 H3 scope ce fp) hu I11 hD11 hb hz11 r11 fun s12 I12 => ?_
      -- the turn's end: the iterator's own objects stand as they stood
      obtain ⟨m', hm, w'⟩ := hNx _ nx
      have pin : ∀ b ∈ fp, ∀ o, s7.heap.get? b = some o → s12.heap.get? b = some o ∧ upd H11 D (.dT (putK kvs k yv)) b = none := fun b hb o e =>
        let z := I12.pin (b, o) (List.mem_append_right _ (List.mem_append_right _ (mem_pinsAt hb e)))
        ⟨z.1, z.2.1⟩
      refine ⟨m', hm, i + 1, _, (I12.unpinned (pins := [])).weak (by rw [← hw8, wipe_length]) (fun j v e => ?_), T.keep _ _ _ st7 fun b hb o e => (pin b hb o e).1, fun b hb => ?_, w'⟩
      · rw [← hw8] at e
        exact (wipe_some e).1
      · obtain ⟨o, e, _⟩ := T.obj _ _ st7 b hb
        exact (pin b hb o e).2
  exact codeAny_compStart_dict loop (T.self X.A 0 _ _ _ st4 loop)
theorem ps_setDcT {i : Nat} {y : Str} {py : Pos} {kx vx tg iter : Expr} {scope : Scope} {own : List (Str × Nat)} {pos spos : Pos} {wi : TI} {g : TG} {tk tv : TE} (hu : X.A.units + 1 < cLine) (hc : X.calm = true) (hN : X.N.Nodup) (hy : X.N[i]? = some y) (hyl : X.env.scope.names.lookup y = some .local)
    (hsw : swapsWith (.DictComp kx vx [⟨tg, iter, [], 0⟩] scope pos) (some (.Name y py)) spos.line X.env = pure true) (hi : PI X tg iter wi) (ok : BlkOk X.N X.env.scope scope own)
    (hg : ∀ (s : Shared) (H : Hp) (C : Addr) (cl : List (Str × Addr)) (fp : List Addr), PG (X.blk s H scope (compEnvC scope cl C X.env) fp) tg g)
    (hk : ∀ (s : Shared) (H : Hp) (C : Addr) (cl : List (Str × Addr)) (fp : List Addr), PE (X.blk s H scope (compEnvC scope cl C X.env) fp) kx tk)
    (he : ∀ (s : Shared) (H : Hp) (C : Addr) (cl : List (Str × Addr)) (fp : List Addr), PE (X.blk s H scope (compEnvC scope cl C X.env) fp) vx tv) (hs : ∀ x, foldedSetIterable iter X.env x = pure x := by intro _; rfl) :
    PS X (.Assign [.Name y py] (.DictComp kx vx [⟨tg, iter, [], 0⟩] scope pos) spos) (tAsg (tDcT wi g tk tv (own.map (·.2))) (gName i)) := by
  refine ⟨fun pins s σ H D I h => ?_⟩
  rw [exec_Assign_Name_used _ _ _ _ hsw]
  refine wpAny_bind (wpAny_standAt (wpAny_bind ?_))
  show wpAny _ X.A (do let _ ← comprehension (.DictComp kx vx [⟨tg, iter, [], 0⟩] scope pos) scope X.env (firstIterPos [⟨tg, iter, [], 0⟩] pos) newDict false (eval iter X.env) (some (assign (.Name y py) X.env))) _ _ s
  refine wpAny_bind (thn (dcT_core (Q := fun x H1 => gName i x σ H1 D.nx) (Qf := fun _ s' => SP X pins D .next s') hu hc hN I hi ok hg hk he hs h fun L C s' m H' I' q hn f => ?_) fun _ s' hq => wpAny_pure (wpAny_pure hq))
  show wpAny _ _ (assign (.Name y py) X.env (.ref L)) _ _ _
  refine wpAny_assign_Name (store_ok2 (v := V.ref L) I' hN hy (.inl hyl) rfl (fun s2 I2 ⟨a, sb, ha⟩ => ?_) (.inr hyl))
  obtain ⟨f0, f1, f2, f3, f4, f5⟩ := f
  have off : C ≠ a := ha.elim (fun z => z ▸ f1) fun z e => f4 y a z e.symm
  exact ⟨m, hn.sameBut sb off, fun h3 sb3 => ⟨_, H', I2.turned (t' := s2.toks) (fun b o hb e => (sb3.2 b hb).trans e) f0 f1 f3 f4 f5, q⟩⟩
theorem swD_true {kx vx : Expr} {gs : List Comprehension} {scope : Scope} {pos py : Pos} {y : Str} {l : Nat} {env : Env} (hk : env.scope.kind = .function) (hy : env.scope.names.lookup y = some .local) (hl : (py.line == pos.line) = true)
    (ha : (scope.names.any fun (n, k) => n == y && (k == .local || k == .cell)) = false) : swapsWith (.DictComp kx vx gs scope pos) (some (.Name y py)) l env = pure true := by
  have ky : env.kindOf y = some .local := hy
  have hb : env.blockKind = .function := by unfold Env.blockKind; rw [hk]; rfl
  unfold swapsWith
  simp only [hb, ky, ha, Expr.pos, hl]
  rfl
/-- over a tuple that stays -/
theorem dcT_tup {K : PySem.W.Frag} {a : Addr} {xs : List V} {g : TG} {tk tv : TE} {vs : List Nat} {σ : L2.St} {H1 : Hp} {D : Addr} {Qd : Hp → Prop} (Pv : Nat → Hp → Prop) (h0 : Pv 0 (upd H1 D (.dT []))) (hl : ∀ i H, i ≤ xs.length → Pv i H → SqT K H a xs)
    (hs : ∀ i x H, xs[i]? = some x → Pv i H → g x (wipe σ vs) H fun σ2 H2 => wipe σ2 vs = wipe σ vs ∧ tk σ2 H2 fun y H4 => tv σ2 H4 fun z H5 => ∃ kvs k b, y = .ref b ∧ H5 b = some (.tup (k.map kV)) ∧ H5 D = some (.dT kvs) ∧ kvs.length < sizeLine ∧ Pv (i + 1) (upd H5 D (.dT (putK kvs k z))))
    (hd : ∀ H, Pv xs.length H → Qd H) :
    ∃ W : Nat → Nat → Hp → Prop, (∃ m, W 0 m (upd H1 D (.dT []))) ∧ ∀ i m H, W i m H →
      ((Itt K a).stop i H ∧ Qd H) ∨ ((Itt K a).go i H ∧ ∃ Nx : Hp → Prop, (∀ H', Nx H' → ∃ m', m' < m ∧ W (i + 1) m' H') ∧ ∀ x H', (Itt K a).yld i H x H' → g x (wipe σ vs) H' fun σ2 H2 => wipe σ2 vs = wipe σ vs ∧
        tk σ2 H2 fun y H4 => tv σ2 H4 fun z H5 => ∃ kvs k b, y = .ref b ∧ H5 b = some (.tup (k.map kV)) ∧ H5 D = some (.dT kvs) ∧ kvs.length < sizeLine ∧ Nx (upd H5 D (.dT (putK kvs k z)))) := by
  refine ⟨fun i m H => m = xs.length - i ∧ i ≤ xs.length ∧ Pv i H, ⟨_, rfl, Nat.zero_le _, h0⟩, ?_⟩
  rintro i m H ⟨rfl, hi, p⟩
  have q := hl i H hi p
  rcases Nat.lt_or_ge i xs.length with hlt | hge
  · refine .inr ⟨⟨xs, xs[i], q, List.getElem?_eq_getElem hlt⟩, Pv (i + 1), fun H' p' => ⟨_, by omega, rfl, hlt, p'⟩, fun x H' y => ?_⟩
    obtain ⟨rfl, y⟩ := y
    exact hs i x _ (y xs q) p
  · have e : i = xs.length := Nat.le_antisymm hi hge
    subst e
    exact .inl ⟨⟨xs, q, Nat.le_refl _⟩, hd H p⟩
end

/-! ### tuple(d.items()), d's keys tuples -/
section
variable {prog : Program} {w : World} {A : Around} {E : Value → Shared → Prop} {s : Shared}
theorem call_tuple_items {r d : Addr} {es : Array DictEntry} {ep : Nat} {Q : Value → Shared → Prop} (hh : A.handled = none) (hv : s.heap.IsItemsView r d) (hm : DT.Raw s.heap d es ep) (hn : es.size ≤ sizeLine)
    (hQ : ∀ (h' : Heap) (tk : Nat) (as : List Addr), (∀ b o, s.heap.get? b = some o → h'.get? b = some o) → as.length = es.size → DT.Made es s.heap.objs.size h' as →
      Q (.ref h'.objs.size) { s with heap := h'.push { cls := .type "tuple", data := .seq (as.map Value.ref).toArray }, toks := tk }) :
    wpAny (model prog w) A (call (.type "tuple") [.ref r]) Q E s := by
  refine callType_codes (Q₁ := fun obj s₁ => s₁.TypeIs obj "tuple" ∧ Q obj s₁) F.called_tuple (F.typeCall_tuple_1 _) F.entry_object_init ?_ fun obj s₁ h₁ =>
    ⟨h₁.1, F.args_object_init_2 obj _, object_init_meets F.called_tuple.init.lookup F.called_tuple.made (by decide) prog w A.in1 _ s₁ ⟨h₁.1, rfl, h₁.2⟩⟩
  refine codeAny_of_tree ?_
  show wpAny _ A.in1.in1 (do checkBuiltinCall "tuple.__new__" ⟨[.type "tuple", .ref r], []⟩; again (.builtin "tuple.__new__" ⟨[.type "tuple", .ref r], []⟩)) _ _ s
  refine wpAny_bind (wpAny_of_eq (F.newCall_tuple_1 _) (wpAny_pure ⟨plainId_quiet F.plain_tuple_new _, codeAny_builtin F.entry_tuple_new ?_⟩))
  rw [Around.under_plainId F.plain_tuple_new _]
  have hsub := sub_tuple_self
  have hinit := init_tuple_lookup
  have hmh := madeHere_tuple
  have hTI : s.TypeIs (.ref r) "dict_items" := let ⟨o, ho, hc, _⟩ := hv; ⟨o, ho, hc⟩
  have hh1 : A.in1.in1.handled = none := hh
  wp_walk using wpAny_typeOf hTI, DT.collectI (A := A.in1.in1) hh1 hv hm hn
  intro h' tk as hk _ hl hM
  show wpAny _ _ (Builtin.Tuple.tupleExact (as.map Value.ref).toArray >>= fun v => ret v) _ _ _
  unfold Builtin.Tuple.tupleExact
  refine wpAny_bind (wpAny_newObj_type ?_ (by show ((as.map Value.ref).toArray).size ≤ sizeLine; rw [List.size_toArray, List.length_map, hl]; exact hn))
  exact wpAny_pure ⟨⟨_, Heap.get?_push_size _ rfl, rfl⟩, hQ h' tk as hk hl hM⟩
end
def rTupItems : List V → Hp → VK → Prop := fun xs H Q => ∃ (p a : Addr) (kvs : List (List L2.Key × V)), xs = [.ref p] ∧ H p = some (DX.itemsO p a) ∧ H a = some (.dT kvs) ∧
  ∀ (H' : Hp) (t : Addr) (as : List Addr), Same H H' → H t = none → H' t = some (.tup (as.map V.ref)) → as.length = kvs.length →
    (∀ (j : Nat) (b : Addr), as[j]? = some b → ∃ (kv : List L2.Key × V) (q : Addr), kvs[j]? = some kv ∧ H' b = some (.tup [.ref q, kv.2]) ∧ H' q = some (.tup (kv.1.map kV))) → Q (.ref t) H'
theorem cr_tupItems {X : Cx} (hc : X.calm = true) : CallR X (.type "tuple") rTupItems := by
  intro pins s σ H xs us Q I r h
  obtain ⟨p, a, kvs, rfl, hp, ha, q⟩ := h
  obtain rfl := Vals.ref1 r
  have view : s.heap.IsItemsView p a := (show ObjOk X.prog X.w H s.heap p (DX.itemsO p a) from I.hok p _ hp).1
  obtain ⟨z, hd, ys, rel, o, es, ep, ho, hx, hdat, hes, his, hn⟩ := dt_of I.hok ha
  have l1 : kvs.length = ys.length := Paired.length rel
  have l2 : es.size = ys.length := size_of_entries hes
  refine call_tuple_items (es := es) (ep := ep) (I.ok.hd hc) view ⟨o, ho, hx, hdat⟩ (by omega) fun h' tk as hk hl hM => ?_
  have lak : as.length = kvs.length := by omega
  -- what stands at each
  have pr : ∀ (j : Nat) (b : Addr), as[j]? = some b → ∃ (kv : List L2.Key × V) (c : Addr) (u : Value), kvs[j]? = some kv ∧ H c = some (.tup (kv.1.map kV)) ∧ RelV kv.2 u ∧ h'.get? b = some { cls := .type "tuple", data := .seq #[Value.ref c, u] } := by
    intro j b hj
    obtain ⟨en, he, hg⟩ := hM.pairs j b hj
    rw [entry_at hes j] at he
    obtain ⟨y, hy, rfl⟩ := Option.map_eq_some_iff.mp he
    obtain ⟨kv, hkv, r1, r2, r3⟩ := DX.pget rel hy
    exact ⟨kv, y.2.1, y.2.2, hkv, r2, r3, hg⟩
  have nd : as.Nodup := List.Pairwise.imp (fun h => Nat.ne_of_lt h) hM.rise
  have J0 : Inv X pins σ H { s with heap := h', toks := tk } := I.kept hk
  obtain ⟨H1, J1, g1, at1⟩ := DX.takeT (h' := h') (tk := tk) (P := fun b vs => ∃ (j : Nat) (kv : List L2.Key × V) (c : Addr), as[j]? = some b ∧ kvs[j]? = some kv ∧ H c = some (.tup (kv.1.map kV)) ∧ vs = [.ref c, kv.2]) I as H J0 nd fun b hb => by
    have fresh : s.heap.objs.size ≤ b := Nat.le_of_lt (hM.above b hb)
    obtain ⟨j, hj⟩ := List.mem_iff_getElem?.mp hb
    obtain ⟨kv, c, u, hkv, hcc, ru, hg⟩ := pr j b hj
    exact ⟨fresh, I.hok.fresh fresh, [.ref c, kv.2], ⟨j, kv, c, hj, hkv, hcc, rfl⟩, fun H2 => ⟨by show 2 ≤ sizeLine; decide, [Value.ref c, u], .cons rfl (.cons ru .nil), ⟨_, hg, rfl, _, rfl⟩⟩⟩
  have new : H1 h'.objs.size = none := J1.hok.fresh (Nat.le_refl _)
  have vals : ∀ l : List Addr, Vals (l.map V.ref) (l.map Value.ref) := vals_refs
  have J2 : Inv X pins σ (upd H1 h'.objs.size (.tup (as.map V.ref))) { s with heap := h'.push { cls := .type "tuple", data := .seq (as.map Value.ref).toArray }, toks := tk } :=
    J1.laid (t' := tk) (fun b o e => Heap.get?_push_of_some _ e) (Nat.le_refl _) ⟨by rw [List.length_map]; omega, _, vals as, IsTup.new _ _⟩
  have old : H h'.objs.size = none := by
    cases e : H h'.objs.size with
    | none => rfl
    | some u => rw [g1 _ _ e] at new; cases new
  refine ⟨.ref h'.objs.size, _, J2, rfl, q _ _ as (fun b o e => ?_) old upd_same lak fun j b hj => ?_⟩
  · rw [upd_ne (ne_of_none (g1 b o e) new)]
    exact g1 b o e
  · obtain ⟨vs, ⟨j', kv, c, hj', hkv, hcc, rfl⟩, hb⟩ := at1 b (List.mem_of_getElem? hj)
    have ej : j' = j := nd_ix nd hj' hj
    rw [ej] at hkv
    refine ⟨kv, c, hkv, ?_, ?_⟩
    · rw [upd_ne (ne_of_none hb new)]
      exact hb
    · rw [upd_ne (ne_of_none (g1 _ _ hcc) new)]
      exact g1 _ _ hcc
end K86

/-! K86Defs: the text by places, what stands in the heap, what changes. -/
namespace K86
open PySem PySem.Spec PyProof.Rows L2
def top (i : Nat) : Stmt := PySem.Challenge.pw_heappacts_k86_new_cells_are_matched.main.body.getD i (.Pass ⟨0, 0, 0, 0⟩)
abbrev sInit : Stmt := inClass (top 1) 0
abbrev sFits : Stmt := inClass (top 1) 1
abbrev sMeet : Stmt := inClass (top 1) 2
abbrev sMatched : Stmt := top 2
abbrev sDraw : Stmt := top 4
abbrev sOld : Stmt := top 5
abbrev sAny : Stmt := top 6
abbrev sCellsOf : Stmt := top 7
abbrev sCell : Stmt := top 8
abbrev sDigits : Stmt := top 9
abbrev sWalk : Stmt := top 10
abbrev sSame : Stmt := top 11
abbrev sTurn : Stmt := top 12
abbrev sMade : Stmt := top 13
abbrev sLaw : Stmt := top 14

/-! ### terms, cells, pairs in the heap -/
def kstr : Kd → Str
  | .num => "num"
  | .var => "var"
  | .new => "new"
theorem kstr_inj : ∀ {a b : Kd}, kstr a = kstr b → a = b := by
  intro a b h
  cases a <;> cases b <;> first | rfl | exact absurd h (by decide +kernel)
def tk (t : Tm) : List L2.Key := [.inr (kstr t.k), .inl t.n]
def tv (t : Tm) : List V := [.str (kstr t.k), .int t.n]
theorem tk_tv (t : Tm) : (tk t).map kV = tv t := rfl
theorem tk_inj {a b : Tm} (h : tk a = tk b) : a = b := by
  obtain ⟨k, n⟩ := a
  obtain ⟨k', n'⟩ := b
  have h' : ([.inr (kstr k), .inl n] : List L2.Key) = [.inr (kstr k'), .inl n'] := h
  injection h' with h1 h2
  injection h2 with h2 _
  have e1 := kstr_inj (Sum.inr.inj h1)
  have e2 : n = n' := Sum.inl.inj h2
  rw [e1, e2]
def TmAt (H : Hp) (p : Addr) (t : Tm) : Prop := H p = some (.tup (tv t))
def TmV (H : Hp) (v : V) (t : Tm) : Prop := ∃ p, v = .ref p ∧ TmAt H p t
def ClV (H : Hp) (v : V) (c : Cl) : Prop := ∃ a p q r, v = .ref a ∧ H a = some (.tup [.ref p, .ref q, .ref r]) ∧ TmAt H p c.a ∧ TmAt H q c.f ∧ TmAt H r c.s
def PrV (H : Hp) (v : V) (x : Pr) : Prop := ∃ a p q, v = .ref a ∧ H a = some (.tup [.ref p, .ref q]) ∧ TmAt H p x.1 ∧ TmAt H q x.2
abbrev Tups (H H' : Hp) : Prop := ∀ b xs, H b = some (.tup xs) → H' b = some (.tup xs)
theorem TmAt.mono {H H' : Hp} {p : Addr} {t : Tm} (h : TmAt H p t) (k : Tups H H') : TmAt H' p t := k _ _ h
theorem TmV.mono {H H' : Hp} {v : V} {t : Tm} (h : TmV H v t) (k : Tups H H') : TmV H' v t := let ⟨p, e, q⟩ := h; ⟨p, e, k _ _ q⟩
theorem ClV.mono {H H' : Hp} {v : V} {c : Cl} (h : ClV H v c) (k : Tups H H') : ClV H' v c := let ⟨a, p, q, r, e, h0, h1, h2, h3⟩ := h; ⟨a, p, q, r, e, k _ _ h0, k _ _ h1, k _ _ h2, k _ _ h3⟩
theorem PrV.mono {H H' : Hp} {v : V} {x : Pr} (h : PrV H v x) (k : Tups H H') : PrV H' v x := let ⟨a, p, q, e, h0, h1, h2⟩ := h; ⟨a, p, q, e, k _ _ h0, k _ _ h1, k _ _ h2⟩

/-- values that stand for the items, one by one -/
def All {β α : Type} (R : β → α → Prop) (vs : List β) (xs : List α) : Prop := vs.length = xs.length ∧ ∀ (i : Nat) (v : β) (x : α), vs[i]? = some v → xs[i]? = some x → R v x
section
variable {β α : Type} {R R' : β → α → Prop} {vs : List β} {xs : List α}
theorem All.nil : All R [] [] := ⟨rfl, fun i v x h => by simp at h⟩
theorem All.mono (h : All R vs xs) (k : ∀ v x, R v x → R' v x) : All R' vs xs := ⟨h.1, fun i v x h1 h2 => k v x (h.2 i v x h1 h2)⟩
theorem All.at (h : All R vs xs) {i : Nat} {v : β} (e : vs[i]? = some v) : ∃ x, xs[i]? = some x ∧ R v x := by
  have hi := (List.getElem?_eq_some_iff.mp e).1
  have hx : i < xs.length := h.1 ▸ hi
  exact ⟨xs[i], List.getElem?_eq_getElem hx, h.2 i v _ e (List.getElem?_eq_getElem hx)⟩
theorem All.of (h : All R vs xs) {i : Nat} {x : α} (e : xs[i]? = some x) : ∃ v, vs[i]? = some v ∧ R v x := by
  have hi := (List.getElem?_eq_some_iff.mp e).1
  have hx : i < vs.length := h.1.symm ▸ hi
  exact ⟨vs[i], List.getElem?_eq_getElem hx, h.2 i _ x (List.getElem?_eq_getElem hx) e⟩
theorem All.cons {v : β} {x : α} (hr : R v x) (h : All R vs xs) : All R (v :: vs) (x :: xs) := by
  refine ⟨by rw [List.length_cons, List.length_cons, h.1], fun i w y h1 h2 => ?_⟩
  cases i with
  | zero => simp only [List.getElem?_cons_zero, Option.some.injEq] at h1 h2; rw [← h1, ← h2]; exact hr
  | succ i => simp only [List.getElem?_cons_succ] at h1 h2; exact h.2 i w y h1 h2
theorem All.tail {v : β} {x : α} (h : All R (v :: vs) (x :: xs)) : R v x ∧ All R vs xs :=
  ⟨h.2 0 v x rfl rfl, Nat.succ.inj h.1, fun i w y h1 h2 => h.2 (i + 1) w y (by simpa using h1) (by simpa using h2)⟩
theorem All.snoc {v : β} {x : α} (h : All R vs xs) (hr : R v x) : All R (vs ++ [v]) (xs ++ [x]) := by
  refine ⟨by rw [List.length_append, List.length_append, h.1]; rfl, fun i w y h1 h2 => ?_⟩
  rcases Nat.lt_or_ge i vs.length with hi | hi
  · rw [List.getElem?_append_left hi] at h1
    rw [List.getElem?_append_left (h.1 ▸ hi)] at h2
    exact h.2 i w y h1 h2
  · rw [List.getElem?_append_right hi] at h1
    rw [List.getElem?_append_right (h.1 ▸ hi)] at h2
    rw [← h.1] at h2
    cases e : i - vs.length with
    | zero =>
      rw [e] at h1 h2
      simp only [List.getElem?_cons_zero, Option.some.injEq] at h1 h2
      rw [← h1, ← h2]
      exact hr
    | succ j =>
      rw [e] at h1
      simp at h1
theorem All.drop1 (h : All R vs xs) : All R (vs.drop 1) (xs.drop 1) := by
  refine ⟨by rw [List.length_drop, List.length_drop, h.1], fun i v x h1 h2 => ?_⟩
  rw [List.getElem?_drop] at h1 h2
  exact h.2 _ v x h1 h2
end

/-! ### as data, for == and in -/
def td (t : Tm) : PyData := .tuple [.str (kstr t.k), .int t.n]
def pd (p : Pr) : PyData := .tuple [td p.1, td p.2]
section
variable {K : PySem.W.Frag} {H : Hp}
theorem TmAt.dp {p : Addr} {t : Tm} (h : TmAt H p t) : Dp K H (.ref p) (td t) := .tup (SqT.of h) (.cons (.str _) (.cons (.int _) .nil))
theorem TmV.dp {v : V} {t : Tm} (h : TmV H v t) : Dp K H v (td t) := by
  obtain ⟨p, rfl, h⟩ := h
  exact h.dp
theorem PrV.dp {v : V} {x : Pr} (h : PrV H v x) : Dp K H v (pd x) := by
  obtain ⟨a, p, q, rfl, h0, h1, h2⟩ := h
  exact .tup (SqT.of h0) (.cons h1.dp (.cons h2.dp .nil))
theorem All.dp {α : Type} {R : V → α → Prop} {d : α → PyData} (k : ∀ v x, R v x → Dp K H v (d x)) : ∀ {vs : List V} {xs : List α}, All R vs xs → DpAll K H vs (xs.map d)
  | [], [], _ => .nil
  | [], _ :: _, h => by cases h.1
  | _ :: _, [], h => by cases h.1
  | v :: vs, x :: xs, h => by
    obtain ⟨h1, h2⟩ := h.tail
    exact .cons (k _ _ h1) (All.dp k h2)
theorem dp_list {α : Type} {R : V → α → Prop} {d : α → PyData} {l : Addr} {vs : List V} {xs : List α} (k : ∀ v x, R v x → Dp K H v (d x)) (hl : H l = some (.lst vs)) (h : All R vs xs) : Dp K H (.ref l) (.list (xs.map d)) :=
  .lst (SqL.of hl) (All.dp k h)
end
theorem kstr_ok (k : Kd) : PyData.strOk (kstr k) = true := by cases k <;> decide +kernel
theorem td_lay (t : Tm) : (td t).canLay0 = true := by simp [td, PyData.canLay0, PyData.canLayAll0, kstr_ok]
theorem td_depth (t : Tm) : (td t).depth ≤ 2 := by simp [td, PyData.depth, PyData.depthAll]
theorem pd_lay (p : Pr) : (pd p).canLay0 = true := by simp [pd, td, PyData.canLay0, PyData.canLayAll0, kstr_ok]
theorem pd_depth (p : Pr) : (pd p).depth ≤ 3 := by simp [pd, td, PyData.depth, PyData.depthAll]
theorem lay_all {α : Type} {d : α → PyData} (h : ∀ x, (d x).canLay0 = true) : ∀ xs : List α, PyData.canLayAll0 (xs.map d) = true
  | [] => by simp [PyData.canLayAll0]
  | x :: xs => by simp [PyData.canLayAll0, h x, lay_all h xs]
theorem depth_all {α : Type} {d : α → PyData} {n : Nat} (h : ∀ x, (d x).depth ≤ n) : ∀ xs : List α, PyData.depthAll (xs.map d) ≤ n
  | [] => by simp [PyData.depthAll]
  | x :: xs => by
    have h1 := h x
    have h2 := depth_all h xs
    simp only [List.map_cons, PyData.depthAll]
    omega
theorem shaped_of {d : PyData} (h1 : d.canLay0 = true) (h2 : d.depth ≤ 64) : SeqAt.shaped d = true := by
  show (d.canLay0 && decide (d.depth ≤ 64)) = true
  rw [h1, decide_eq_true h2]
  rfl
theorem td_shaped (t : Tm) : SeqAt.shaped (td t) = true := shaped_of (td_lay t) (Nat.le_trans (td_depth t) (by decide))
theorem pd_shaped (p : Pr) : SeqAt.shaped (pd p) = true := shaped_of (pd_lay p) (Nat.le_trans (pd_depth p) (by decide))
theorem list_shaped {α : Type} {d : α → PyData} {n : Nat} (h1 : ∀ x, (d x).canLay0 = true) (h2 : ∀ x, (d x).depth ≤ n) (hn : n < 60) (xs : List α) : SeqAt.shaped (.list (xs.map d)) = true := by
  refine shaped_of (by simp only [PyData.canLay0]; exact lay_all h1 xs) ?_
  have q := depth_all h2 xs
  simp only [PyData.depth]
  omega
theorem td_eqv (a b : Tm) : PyData.eqv (td a) (td b) = decide (a = b) := by
  obtain ⟨k, n⟩ := a
  obtain ⟨k', n'⟩ := b
  have e : PyData.eqv (td ⟨k, n⟩) (td ⟨k', n'⟩) = ((kstr k == kstr k') && ((n == n') && true)) := by simp only [td, PyData.eqv, PyData.eqvAll]
  rw [e]
  by_cases h : (⟨k, n⟩ : Tm) = ⟨k', n'⟩
  · cases h
    simp
  · rw [decide_eq_false h]
    by_cases h1 : k = k'
    · have h2 : ¬ n = n' := fun q => h (by rw [h1, q])
      rw [beq_eq_false_iff_ne.mpr h2, Bool.false_and, Bool.and_false]
    · have q : (kstr k == kstr k') = false := beq_eq_false_iff_ne.mpr fun z => h1 (kstr_inj z)
      rw [q, Bool.false_and]
theorem pd_eqv (a b : Pr) : PyData.eqv (pd a) (pd b) = decide (a = b) := by
  obtain ⟨x, y⟩ := a
  obtain ⟨x', y'⟩ := b
  have e : PyData.eqv (pd (x, y)) (pd (x', y')) = (PyData.eqv (td x) (td x') && (PyData.eqv (td y) (td y') && true)) := by simp only [pd, PyData.eqv, PyData.eqvAll]
  rw [e, td_eqv, td_eqv, Bool.and_true]
  by_cases h1 : x = x'
  · by_cases h2 : y = y'
    · simp [h1, h2]
    · simp [h1, h2]
  · simp [h1]
theorem any_yes {α : Type} {d : α → PyData} [DecidableEq α] (h : ∀ a b, PyData.eqv (d a) (d b) = decide (a = b)) {x : α} {xs : List α} (m : x ∈ xs) : ((xs.map d).any fun z => PyData.eqv z (d x)) = true :=
  List.any_eq_true.mpr ⟨d x, List.mem_map.mpr ⟨x, m, rfl⟩, by rw [h]; exact decide_eq_true rfl⟩
theorem any_no {α : Type} {d : α → PyData} [DecidableEq α] (h : ∀ a b, PyData.eqv (d a) (d b) = decide (a = b)) {x : α} {xs : List α} (m : ¬ x ∈ xs) : ((xs.map d).any fun z => PyData.eqv z (d x)) = false := by
  rw [List.any_eq_false]
  intro z hz e
  obtain ⟨y, hy, rfl⟩ := List.mem_map.mp hz
  rw [h] at e
  exact m (of_decide_eq_true e ▸ hy)

/-! ### what a piece of the program leaves as it was: all but S, and all tuples -/
structure Kp (S : List Addr) (H H' : Hp) : Prop where
  tup : Tups H H'
  but : ∀ b o, b ∉ S → H b = some o → H' b = some o
theorem Kp.refl (S : List Addr) (H : Hp) : Kp S H H := ⟨fun _ _ h => h, fun _ _ _ h => h⟩
theorem Kp.trans {S : List Addr} {H H1 H2 : Hp} (a : Kp S H H1) (b : Kp S H1 H2) : Kp S H H2 := ⟨fun c xs e => b.tup c xs (a.tup c xs e), fun c o n e => b.but c o n (a.but c o n e)⟩
theorem Kp.mono {S S' : List Addr} {H H' : Hp} (a : Kp S H H') (h : ∀ b ∈ S, b ∈ S') : Kp S' H H' := ⟨a.tup, fun c o n e => a.but c o (fun z => n (h c z)) e⟩
theorem Kp.new {S : List Addr} {H : Hp} {p : Addr} (h : H p = none) (o : HO) : Kp S H (upd H p o) := ⟨fun b xs e => by rw [upd_ne (ne_of_none e h)]; exact e, fun b u _ e => by rw [upd_ne (ne_of_none e h)]; exact e⟩
theorem Kp.put {S : List Addr} {H : Hp} {p : Addr} {u : HO} (hp : H p = some u) (hu : ∀ xs, u ≠ .tup xs) (hs : p ∈ S) (o : HO) : Kp S H (upd H p o) :=
  ⟨fun b xs e => by rw [upd_ne (ne_of e hp fun z => hu xs z.symm)]; exact e, fun b v n e => by rw [upd_ne (fun z : b = p => n (by rw [z]; exact hs))]; exact e⟩
theorem Kp.lst {S : List Addr} {H : Hp} {p : Addr} {vs : List V} (hp : H p = some (.lst vs)) (hs : p ∈ S) (o : HO) : Kp S H (upd H p o) := .put hp (fun _ z => nomatch z) hs o
theorem Kp.same {H H' : Hp} (h : Kp [] H H') : Same H H' := fun b o e => h.but b o (by simp) e
theorem Same.kp {S : List Addr} {H H' : Hp} (h : Same H H') : Kp S H H' := ⟨fun b _ e => h b _ e, fun b o _ e => h b o e⟩
/-- what was not there and is among S may be forgotten -/
theorem Kp.less {S : List Addr} {p : Addr} {H H' : Hp} (a : Kp (p :: S) H H') (h : H p = none) : Kp S H H' := ⟨a.tup, fun c o n e => a.but c o (fun z => by
  rcases List.mem_cons.mp z with z | z
  · rw [z, h] at e; cases e
  · exact n z) e⟩
theorem Kp.tms {S : List Addr} {H H' : Hp} {vs : List V} {xs : List Tm} (k : Kp S H H') (h : All (TmV H) vs xs) : All (TmV H') vs xs := All.mono h fun _ _ q => q.mono k.tup
theorem Kp.cls {S : List Addr} {H H' : Hp} {vs : List V} {xs : List Cl} (k : Kp S H H') (h : All (ClV H) vs xs) : All (ClV H') vs xs := All.mono h fun _ _ q => q.mono k.tup
theorem Kp.prs {S : List Addr} {H H' : Hp} {vs : List V} {xs : List Pr} (k : Kp S H H') (h : All (PrV H) vs xs) : All (PrV H') vs xs := All.mono h fun _ _ q => q.mono k.tup
theorem Kp.tm {S : List Addr} {H H' : Hp} {p : Addr} {t : Tm} (k : Kp S H H') (h : TmAt H p t) : TmAt H' p t := k.tup _ _ h

/-! ### the box of digits -/
def BoxAt (H : Hp) (b d : Addr) : Prop := ∃ (z : Int) (ns : List Int), H b = some (.lst [.ref d, .int z]) ∧ H d = some (.lst (ns.map V.int)) ∧ 0 ≤ z
theorem BoxAt.ne {H : Hp} {b d : Addr} (h : BoxAt H b d) : b ≠ d := by
  obtain ⟨z, ns, h1, h2, _⟩ := h
  intro e
  rw [e, h2] at h1
  cases ns with
  | nil => cases h1
  | cons n ns => cases h1
/-- behind some draws: the box is a box still, all else stands -/
structure Drew (b d : Addr) (H H' : Hp) : Prop where
  box : BoxAt H' b d
  kp : Kp [b] H H'
theorem Drew.trans {b d : Addr} {H H1 H2 : Hp} (x : Drew b d H H1) (y : Drew b d H1 H2) : Drew b d H H2 := ⟨y.box, x.kp.trans y.kp⟩
theorem Drew.refl {b d : Addr} {H : Hp} (h : BoxAt H b d) : Drew b d H H := ⟨h, .refl _ _⟩
/-- what is laid anew, or changed at another place, leaves the box -/
theorem BoxAt.keep {b d : Addr} {H H' : Hp} (h : BoxAt H b d) {S : List Addr} (k : Kp S H H') (hb : b ∉ S) (hd : d ∉ S) : BoxAt H' b d := by
  obtain ⟨z, ns, h1, h2, h3⟩ := h
  exact ⟨z, ns, k.but _ _ hb h1, k.but _ _ hd h2, h3⟩
theorem Drew.new {b d : Addr} {H H1 : Hp} (x : Drew b d H H1) {p : Addr} (h : H1 p = none) (o : HO) : Drew b d H (upd H1 p o) :=
  ⟨x.box.keep (Kp.new (S := []) h o) (by simp) (by simp), x.kp.trans (.new h o)⟩
theorem small {n : Nat} (h : n ≤ 100000) : n ≤ sizeLine := Nat.le_trans h (by decide)
theorem smaller {n : Nat} (h : n ≤ 100000) : n < sizeLine := Nat.lt_of_le_of_lt h (by decide)
theorem hu65 {A : Around} {k : Nat} (hr : Room k A) : A.units + 65 < cLine := by have := hr.un; omega
theorem BoxAt.off {H : Hp} {b d p : Addr} (h : BoxAt H b d) (hp : H p = none) : p ≠ b ∧ p ≠ d := by
  obtain ⟨z, ns, h1, h2, _⟩ := h
  exact ⟨fun e => (by rw [e, h1] at hp; cases hp), fun e => (by rw [e, h2] at hp; cases hp)⟩
/-- an object that stood stands behind a new one -/
theorem at_new {H : Hp} {p q : Addr} {o u : HO} (hp : H p = none) (hq : H q = some u) : upd H p o q = some u := by rw [upd_ne (ne_of_none hq hp)]; exact hq
theorem Drew.at {H H' : Hp} {b d p : Addr} {u : HO} (x : Drew b d H H') (n : p ≠ b) (h : H p = some u) : H' p = some u := x.kp.but p u (by simpa using n) h
/-- a list other than the box is changed -/
theorem BoxAt.put {H : Hp} {b d p : Addr} (h : BoxAt H b d) (n1 : p ≠ b) (n2 : p ≠ d) (o : HO) : BoxAt (upd H p o) b d := by
  obtain ⟨z, ns, h1, h2, h3⟩ := h
  exact ⟨z, ns, by rw [upd_ne n1.symm]; exact h1, by rw [upd_ne n2.symm]; exact h2, h3⟩
end K86

/-! K86A: the draws. -/
namespace K86
open PySem PySem.Spec PyProof.Rows L2
/-- some number below m -/
def spDraw : Sp := fun vs H Q _ => ∃ (b d : Addr) (m : Int), vs = [.ref b, .int m] ∧ 0 < m ∧ BoxAt H b d ∧ ∀ n H', 0 ≤ n → n < m → Drew b d H H' → Q (.int n) H'
section
variable {P : Program} {w : World} {K : PySem.W.Frag} {mg : Str → Option Value} {base : Heap} {f : Addr} {fd : FuncData}
theorem scDraw : FnScope ["_law_box", "_law_many", "_law_at"] ["_law_box", "_law_many"] (defScope sDraw) := ⟨rfl, rfl, rfl, by decide +kernel, rfl, by decide +kernel, by decide +kernel⟩
theorem ok_draw (F : Fun K "_law_draw" "_law_draw" sDraw f fd) (ml : mg "len" = none) (mi : mg "int" = none) : FnOk P w K mg base CX0 1 f fd ["_law_box", "_law_many"] spDraw := by
  refine F.ok scDraw (fun vs H Q E h => ?_) (fun cdv A outer s H vs Q E hr h => ?_)
  · obtain ⟨b, d, m, rfl, _⟩ := h
    rfl
  obtain ⟨b, d, m, rfl, hm, ⟨z, ns, hb, hd, hz⟩, k⟩ := h
  refine ⟨_, pss_cons (ps_set (i := 2) scDraw.nd rfl (Or.inl rfl) (pe_ix ix_list (pv 0) pe_int (fun _ _ => rfl)))
    (pss_cons (ps_asg (pe_op op_add (pv 2) pe_int) (pg_sub (pv 0) pe_int set_list))
    (pss_cons (ps_if (pt_cmpR op_lt (pv 2) (pe_callB call_len_seq (by rfl) ml PySem.boot_len (pa_cons (pe_ix ix_list (pv 0) pe_int (fun _ _ => rfl)) pa_nil)) (nomark _))
      (pss_one (ps_ret (pe_op op_mod (pe_callTy call_int1 (by rfl) mi (by decide +kernel) (pa_cons (pe_ix ix_list (pe_ix ix_list (pv 0) pe_int (fun _ _ => rfl)) (pv 2) (fun _ _ => rfl)) pa_nil)) (pv 1)))) pss_nil)
    (pss_one (ps_ret pe_int)))), ?_⟩
  have nbd : d ≠ b := ne_of hd hb (by intro q; cases ns <;> cases q)
  refine ⟨_, rfl, b, _, _, _, rfl, rfl, SqL.of hb, atI_nat (j := 1) rfl, ?_⟩
  refine ⟨_, rfl, _, _, rfl, rfl, _, rfl, b, _, _, 1, rfl, rfl, hb, rfl, ?_⟩
  have hb1 : upd H b (.lst [.ref d, .int (z + 1)]) b = some (.lst [.ref d, .int (z + 1)]) := upd_same
  have hd1 : upd H b (.lst [.ref d, .int (z + 1)]) d = some (.lst (ns.map V.int)) := by rw [upd_ne nbd]; exact hd
  have dr : Drew b d H (upd H b (.lst [.ref d, .int (z + 1)])) := ⟨⟨z + 1, ns, hb1, hd1, by omega⟩, .lst hb (by simp) _⟩
  refine ⟨_, rfl, _, rfl, b, _, _, _, rfl, rfl, SqL.of hb1, atI_nat (j := 0) rfl, d, _, rfl, .inl (SqL.of hd1), _, _, rfl, rfl, _, rfl, ?_⟩
  refine ite2 (fun c => ?_) (fun c => ?_)
  · have c' : z < (((ns.map V.int).length : Nat) : Int) := of_decide_eq_true c
    rw [List.length_map] at c'
    have hlt : z.toNat < ns.length := by omega
    have e : atI (ns.map V.int) z = some (.int ns[z.toNat]) := by
      have q := atI_nat (xs := ns.map V.int) (j := z.toNat) (v := .int ns[z.toNat]) (by rw [List.getElem?_map, List.getElem?_eq_getElem hlt]; rfl)
      rw [Int.toNat_of_nonneg hz] at q
      exact q
    refine ⟨_, rfl, b, _, _, _, rfl, rfl, SqL.of hb1, atI_nat (j := 0) rfl, _, rfl, d, _, _, _, rfl, rfl, SqL.of hd1, e, .inl ⟨_, rfl, ?_⟩⟩
    refine ⟨_, rfl, _, _, rfl, rfl, hm, ?_⟩
    exact k _ _ (Int.emod_nonneg _ (by omega)) (Int.emod_lt_of_pos _ hm) dr
  · exact k _ _ (Int.le_refl 0) hm dr
/-- a def that is called by its name -/
structure Has (K : PySem.W.Frag) (mg : Str → Option Value) (x : Str) (f : Addr) (fd : FuncData) (ps : List Str) : Prop where
  m : mg x = some (.ref f)
  k : PySem.W.keepIn K (.ref f) = true
  b : Binds K fd ps []
/-- a term, drawn -/
def spOld : Sp := fun vs H Q _ => ∃ (b d : Addr), vs = [.ref b, .int 3] ∧ BoxAt H b d ∧ ∀ p t H', t ∈ U → t.k ≠ .new → TmAt H' p t → Drew b d H H' → Q (.ref p) H'
def spAny : Sp := fun vs H Q _ => ∃ (b d : Addr), vs = [.ref b, .int 3, .int 3] ∧ BoxAt H b d ∧ ∀ p t H', t ∈ U → TmAt H' p t → Drew b d H H' → Q (.ref p) H'
theorem four {n : Int} (h0 : 0 ≤ n) (h4 : n < 4) : ∃ x : Int, atI ([.int 0, .int 1, .int 7, .int 99] : List V) n = some (.int x) ∧ (⟨.num, x⟩ : Tm) ∈ U := by
  have : n = 0 ∨ n = 1 ∨ n = 2 ∨ n = 3 := by omega
  rcases this with rfl | rfl | rfl | rfl
  · exact ⟨0, rfl, by decide⟩
  · exact ⟨1, rfl, by decide⟩
  · exact ⟨7, rfl, by decide⟩
  · exact ⟨99, rfl, by decide⟩
theorem three_var {n : Int} (h0 : 0 ≤ n) (h3 : n < 3) : (⟨.var, n⟩ : Tm) ∈ U := by
  have : n = 0 ∨ n = 1 ∨ n = 2 := by omega
  rcases this with rfl | rfl | rfl <;> decide
theorem three_new {n : Int} (h0 : 0 ≤ n) (h3 : n < 3) : (⟨.new, n⟩ : Tm) ∈ U := by
  have : n = 0 ∨ n = 1 ∨ n = 2 := by omega
  rcases this with rfl | rfl | rfl <;> decide
theorem scOld : FnScope ["_law_box", "_law_many"] ["_law_box", "_law_many"] (defScope sOld) := ⟨rfl, rfl, rfl, by decide +kernel, rfl, by decide +kernel, by decide +kernel⟩
theorem ok_old {g : Addr} {gd : FuncData} (F : Fun K "_law_old_term" "_law_old_term" sOld f fd) (D : Has K mg "_law_draw" g gd ["_law_box", "_law_many"]) (G : FnOk P w K mg base CX0 1 g gd ["_law_box", "_law_many"] spDraw) :
    FnOk P w K mg base CX0 2 f fd ["_law_box", "_law_many"] spOld := by
  refine F.ok scOld (fun vs H Q E h => ?_) (fun cdv A outer s H vs Q E hr h => ?_)
  · obtain ⟨b, d, rfl, _⟩ := h
    rfl
  obtain ⟨b, d, rfl, hb, k⟩ := h
  refine ⟨_, pss_cons (ps_if (pt_cmpR op_eq (pe_call G hr (by rfl) D.m D.k D.b .nil pass0 (pa_cons (pv 0) (pa_cons pe_int pa_nil))) pe_int (nomark _))
      (pss_one (ps_ret (pe_tup (pa_cons pe_str (pa_cons (pe_ix ix_list (pe_lst (pa_cons pe_int (pa_cons pe_int (pa_cons pe_int (pa_cons pe_int pa_nil))))) (pe_call G hr (by rfl) D.m D.k D.b .nil pass0 (pa_cons (pv 0) (pa_cons pe_int pa_nil))) (fun _ _ => rfl)) pa_nil))))) pss_nil)
    (pss_one (ps_ret (pe_tup (pa_cons pe_str (pa_cons (pe_call G hr (by rfl) D.m D.k D.b .nil pass0 (pa_cons (pv 0) (pa_cons (pv 1) pa_nil))) pa_nil))))), ?_⟩
  refine ⟨_, rfl, b, d, 5, rfl, by decide, hb, fun n1 H1 _ _ d1 => ⟨rfl, _, rfl, ?_⟩⟩
  refine ite2 (fun c => ?_) (fun c => ?_)
  · refine ⟨by show 4 ≤ sizeLine; decide, fun l hl => ?_⟩
    have d2 := d1.new hl (.lst [.int 0, .int 1, .int 7, .int 99])
    refine ⟨_, rfl, b, d, 4, rfl, by decide, d2.box, fun n2 H2 h0 h4 d3 => ?_⟩
    obtain ⟨x, hx, hU⟩ := four h0 h4
    have hl2 : H2 l = some (.lst [.int 0, .int 1, .int 7, .int 99]) := d3.kp.but l _ (by
      obtain ⟨z, ns, q, _⟩ := d1.box
      simp only [List.mem_cons, List.not_mem_nil, or_false]
      exact fun e => by rw [e, q] at hl; cases hl) upd_same
    refine ⟨l, _, _, _, rfl, rfl, SqL.of hl2, hx, by show 2 ≤ sizeLine; decide, fun p hp => ?_⟩
    exact k p ⟨.num, x⟩ _ hU (fun z => nomatch z) upd_same ((d2.trans d3).new hp _)
  · refine ⟨_, rfl, _, rfl, b, d, 3, rfl, by decide, d1.box, fun n2 H2 h0 h3 d2 => ⟨by show 2 ≤ sizeLine; decide, fun p hp => ?_⟩⟩
    exact k p ⟨.var, n2⟩ _ (three_var h0 h3) (fun z => nomatch z) upd_same ((d1.trans d2).new hp _)
theorem scAny : FnScope ["_law_box", "_law_many", "_law_news"] ["_law_box", "_law_many", "_law_news"] (defScope sAny) := ⟨rfl, rfl, rfl, by decide +kernel, rfl, by decide +kernel, by decide +kernel⟩
theorem ok_any {g o : Addr} {gd od : FuncData} (F : Fun K "_law_any_term" "_law_any_term" sAny f fd) (D : Has K mg "_law_draw" g gd ["_law_box", "_law_many"]) (G : FnOk P w K mg base CX0 1 g gd ["_law_box", "_law_many"] spDraw)
    (DO : Has K mg "_law_old_term" o od ["_law_box", "_law_many"]) (GO : FnOk P w K mg base CX0 2 o od ["_law_box", "_law_many"] spOld) :
    FnOk P w K mg base CX0 3 f fd ["_law_box", "_law_many", "_law_news"] spAny := by
  refine F.ok scAny (fun vs H Q E h => ?_) (fun cdv A outer s H vs Q E hr h => ?_)
  · obtain ⟨b, d, rfl, _⟩ := h
    rfl
  obtain ⟨b, d, rfl, hb, k⟩ := h
  have hr1 : Room 1 _ := hr.mono (by decide)
  refine ⟨_, pss_cons (ps_if (pw_and (pt_cmpR op_gt (pv 2) pe_int (nomark _)) (pw_and1 (pt_cmpR op_eq (pe_call G hr1 (by rfl) D.m D.k D.b .nil pass0 (pa_cons (pv 0) (pa_cons pe_int pa_nil))) pe_int (nomark _)))).pt
      (pss_one (ps_ret (pe_tup (pa_cons pe_str (pa_cons (pe_call G hr1 (by rfl) D.m D.k D.b .nil pass0 (pa_cons (pv 0) (pa_cons (pv 2) pa_nil))) pa_nil))))) pss_nil)
    (pss_one (ps_ret (pe_call GO hr (by rfl) DO.m DO.k DO.b .nil pass0 (pa_cons (pv 0) (pa_cons (pv 1) pa_nil))))), ?_⟩
  refine ⟨_, rfl, _, _, rfl, rfl, _, rfl, ?_⟩
  refine iteT ⟨_, rfl, b, d, 6, rfl, by decide, hb, fun n1 H1 _ _ d1 => ⟨rfl, _, rfl, ?_⟩⟩
  refine ite2 (fun c => ?_) (fun c => ?_)
  · refine ⟨_, rfl, _, rfl, b, d, 3, rfl, by decide, d1.box, fun n2 H2 h0 h3 d2 => ⟨by show 2 ≤ sizeLine; decide, fun p hp => ?_⟩⟩
    exact k p ⟨.new, n2⟩ _ (three_new h0 h3) upd_same ((d1.trans d2).new hp _)
  · refine ⟨_, rfl, _, rfl, b, d, rfl, d1.box, fun p t H2 hU _ ht d2 => ?_⟩
    exact k p t H2 hU ht (d1.trans d2)
/-- up to three cells at different old addresses -/
def spCellsOf : Sp := fun vs H Q _ => ∃ (b d : Addr), vs = [.ref b, .int 3, .int 3, .int 3] ∧ BoxAt H b d ∧
  ∀ p rs cs H', H' p = some (.tup rs) → All (ClV H') rs cs → OkC cs → (∀ c ∈ cs, c.a.k ≠ .new) → cs.length ≤ 3 → Drew b d H H' → Q (.ref p) H'
theorem scCellsOf : FnScope ["_law_box", "_law_most", "_law_many", "_law_news", "_law_cells", "_law_taken", "_law_k", "_law_cell_here"] ["_law_box", "_law_most", "_law_many", "_law_news"] (defScope sCellsOf) :=
  ⟨rfl, rfl, rfl, by decide +kernel, rfl, by decide +kernel, by decide +kernel⟩
/-- what holds between two turns: the cells at lc, the addresses taken at lt -/
structure Drawing (b d lc lt : Addr) (H H' : Hp) (i : Nat) (rs ts : List V) (cs : List Cl) (us : List Tm) : Prop where
  atC : H' lc = some (.lst rs)
  atT : H' lt = some (.lst ts)
  ac : All (ClV H') rs cs
  au : All (TmV H') ts us
  ok : OkC cs
  old : ∀ c ∈ cs, c.a.k ≠ .new
  mem : ∀ c ∈ cs, c.a ∈ us
  len : cs.length ≤ i
  box : BoxAt H' b d
  kp : Kp [b, lc, lt] H H'
  lt : us.length ≤ i + 1
theorem ok_cellsOf {g o a : Addr} {gd od ad : FuncData} (F : Fun K "_law_cells_of" "_law_cells_of" sCellsOf f fd) (D : Has K mg "_law_draw" g gd ["_law_box", "_law_many"]) (G : FnOk P w K mg base CX0 1 g gd ["_law_box", "_law_many"] spDraw)
    (DO : Has K mg "_law_old_term" o od ["_law_box", "_law_many"]) (GO : FnOk P w K mg base CX0 2 o od ["_law_box", "_law_many"] spOld)
    (DA : Has K mg "_law_any_term" a ad ["_law_box", "_law_many", "_law_news"]) (GA : FnOk P w K mg base CX0 3 a ad ["_law_box", "_law_many", "_law_news"] spAny) (mr : mg "range" = none) (mt : mg "tuple" = none) :
    FnOk P w K mg base CX0 4 f fd ["_law_box", "_law_most", "_law_many", "_law_news"] spCellsOf := by
  refine F.ok scCellsOf (fun vs H Q E h => ?_) (fun cdv A outer s H vs Q E hr h => ?_)
  · obtain ⟨b, d, rfl, _⟩ := h
    rfl
  obtain ⟨b, d, rfl, hb, k⟩ := h
  have hr1 : Room 1 _ := hr.mono (by decide)
  have hr2 : Room 2 _ := hr.mono (by decide)
  refine ⟨_, pss_cons (ps_set (i := 4) scCellsOf.nd rfl (Or.inl rfl) (pe_lst pa_nil))
    (pss_cons (ps_set (i := 5) scCellsOf.nd rfl (Or.inl rfl) (pe_lst (pa_cons (pe_tup (pa_cons pe_str (pa_cons pe_int pa_nil))) pa_nil)))
    (pss_cons (ps_for PassesOwn.never rfl (pi_range1 (by rfl) mr (pa_cons (pe_call G hr1 (by rfl) D.m D.k D.b .nil pass0 (pa_cons (pv 0) (pa_cons (pe_op op_add (pv 1) pe_int) pa_nil))) pa_nil)) (pg_name (i := 6) scCellsOf.nd rfl (Or.inl rfl))
      (pss_cons (ps_set (i := 7) scCellsOf.nd rfl (Or.inl rfl) (pe_tup (pa_cons (pe_call GO hr2 (by rfl) DO.m DO.k DO.b .nil pass0 (pa_cons (pv 0) (pa_cons (pv 2) pa_nil)))
          (pa_cons (pe_call GA hr (by rfl) DA.m DA.k DA.b .nil pass0 (pa_cons (pv 0) (pa_cons (pv 2) (pa_cons (pv 3) pa_nil)))) (pa_cons (pe_call GA hr (by rfl) DA.m DA.k DA.b .nil pass0 (pa_cons (pv 0) (pa_cons (pv 2) (pa_cons (pv 3) pa_nil)))) pa_nil)))))
        (pss_one (ps_if (pt_cmpR (op_notInD (hu65 hr)) (pe_ix ix_tup (pv 7) pe_int (fun _ _ => rfl)) (pv 5) (by rfl))
          (pss_cons (ps_expr (pe_bm PySem.F.plainAttrs_list PySem.F.slot_list_append PySem.F.type_list_append mt_append (pv 5) (pa_cons (pe_ix ix_tup (pv 7) pe_int (fun _ _ => rfl)) pa_nil)))
            (pss_one (ps_expr (pe_bm PySem.F.plainAttrs_list PySem.F.slot_list_append PySem.F.type_list_append mt_append (pv 4) (pa_cons (pv 7) pa_nil))))) pss_nil))))
    (pss_one (ps_ret (pe_callTy call_tuple_of (by rfl) mt (by decide +kernel) (pa_cons (pv 4) pa_nil)))))), ?_⟩
  refine ⟨Nat.zero_le _, fun lc hc => ⟨by show 2 ≤ sizeLine; decide, fun p0 hp0 => ⟨by show 1 ≤ sizeLine; decide, fun lt ht => ?_⟩⟩⟩
  have d1 := (((Drew.refl hb).new hc (.lst [])).new hp0 (.tup [.str "num", .int 0])).new ht (.lst [.ref p0])
  obtain ⟨cb, cd⟩ := hb.off hc
  have hcn : upd (upd H lc (.lst [])) p0 (.tup [.str "num", .int 0]) lc = some (.lst []) := at_new hp0 upd_same
  have nct : lc ≠ lt := ne_of_none hcn ht
  obtain ⟨tb, td'⟩ := (((Drew.refl hb).new hc (.lst [])).new hp0 (.tup [.str "num", .int 0])).box.off ht
  have ht0 : H lt = none := by
    cases e : H lt with
    | none => rfl
    | some u => rw [at_new hp0 (at_new hc e)] at ht; cases ht
  refine ⟨_, rfl, _, rfl, _, _, rfl, rfl, b, d, 4, rfl, by decide, d1.box, fun n H1 h0 h4 d2 => ?_⟩
  have e_c : H1 lc = some (.lst []) := d2.at cb (at_new ht hcn)
  have e_t : H1 lt = some (.lst [.ref p0]) := d2.at tb upd_same
  have e_0 : TmAt H1 p0 ⟨.num, 0⟩ := d2.kp.tup _ _ (at_new ht upd_same)
  refine ⟨n, rfl, by omega, by omega, for_range (lo := 0) (n := n.toNat) (fun i σ H' => ∃ rs ts cs us v6 v7, σ = [some (.ref b), some (.int 3), some (.int 3), some (.int 3), some (.ref lc), some (.ref lt), v6, v7] ∧ Drawing b d lc lt H H' i rs ts cs us)
    ⟨[], [.ref p0], [], [⟨.num, 0⟩], none, none, rfl, ⟨e_c, e_t, .nil, .cons ⟨p0, rfl, e_0⟩ .nil, .nil, fun c z => (by cases z), fun c z => (by cases z), Nat.le_refl _, d2.box, (d1.trans d2).kp.mono (by simp), Nat.le_refl _⟩⟩ ?_ ?_⟩
  · rintro i σ H2 hi ⟨rs, ts, cs, us, v6, v7, rfl, W⟩
    refine ⟨_, rfl, _, rfl, b, d, rfl, W.box, fun p1 t1 H3 u1 old1 m1 e1 => ?_⟩
    refine ⟨_, rfl, _, rfl, _, rfl, b, d, rfl, e1.box, fun p2 t2 H4 u2 m2 e2 => ?_⟩
    refine ⟨_, rfl, _, rfl, _, rfl, b, d, rfl, e2.box, fun p3 t3 H5 u3 m3 e3 => ⟨by show 3 ≤ sizeLine; decide, fun q hq => ?_⟩⟩
    have ee := (e1.trans e2).trans e3
    have e4 := ee.new hq (.tup [.ref p1, .ref p2, .ref p3])
    generalize hH6 : upd H5 q (.tup [.ref p1, .ref p2, .ref p3]) = H6 at e4
    have k1 : TmAt H6 p1 t1 := by rw [← hH6]; exact at_new hq (e3.kp.tup _ _ (e2.kp.tup _ _ m1))
    have k2 : TmAt H6 p2 t2 := by rw [← hH6]; exact at_new hq (e3.kp.tup _ _ m2)
    have k3 : TmAt H6 p3 t3 := by rw [← hH6]; exact at_new hq m3
    have kq : H6 q = some (.tup [.ref p1, .ref p2, .ref p3]) := by rw [← hH6]; exact upd_same
    have kc : H6 lc = some (.lst rs) := e4.at cb W.atC
    have kt : H6 lt = some (.lst ts) := e4.at tb W.atT
    have au6 : All (TmV H6) ts us := e4.kp.tms W.au
    have ac6 : All (ClV H6) rs cs := e4.kp.cls W.ac
    have kp6 : Kp [b, lc, lt] H H6 := W.kp.trans (e4.kp.mono (by simp))
    refine ⟨_, rfl, q, _, _, _, rfl, rfl, SqT.of kq, atI_nat (j := 0) rfl, _, rfl, td t1, us.map td, k1.dp, dp_list (fun _ _ h => h.dp) kt au6, td_shaped _, list_shaped td_lay td_depth (by decide) _, _, rfl, ?_⟩
    by_cases hm : t1 ∈ us
    · -- taken already
      rw [any_yes td_eqv hm]
      refine iteF ⟨rs, ts, cs, us, _, _, rfl, ⟨kc, kt, ac6, au6, W.ok, W.old, W.mem, Nat.le_succ_of_le W.len, e4.box, kp6, Nat.le_succ_of_le W.lt⟩⟩
    · rw [any_no td_eqv hm]
      have lu : ts.length < sizeLine := by
        have q := W.lt
        rw [← W.au.1] at q
        exact smaller (by omega)
      refine iteT ⟨_, rfl, .inl ⟨rfl, _, SqL.of kt⟩, _, rfl, q, _, _, _, rfl, rfl, SqT.of kq, atI_nat (j := 0) rfl, lt, ts, _, rfl, rfl, kt, lu, ?_⟩
      have f1 : Kp [b, lc, lt] H6 (upd H6 lt (.lst (ts ++ [.ref p1]))) := .lst kt (by simp) _
      have kc' : upd H6 lt (.lst (ts ++ [.ref p1])) lc = some (.lst rs) := by rw [upd_ne nct]; exact kc
      have kb' := e4.box.put tb td' (.lst (ts ++ [.ref p1]))
      have ku : upd H6 lt (.lst (ts ++ [.ref p1])) lt = some (.lst (ts ++ [.ref p1])) := upd_same
      generalize hH7 : upd H6 lt (.lst (ts ++ [.ref p1])) = H7 at f1 kc' kb' ku ⊢
      have lr : rs.length < sizeLine := by
        have q := W.len
        rw [← W.ac.1] at q
        exact smaller (by omega)
      refine ⟨_, rfl, .inl ⟨rfl, _, SqL.of kc'⟩, _, rfl, lc, rs, _, rfl, rfl, kc', lr, ?_⟩
      have f2 : Kp [b, lc, lt] H7 (upd H7 lc (.lst (rs ++ [.ref q]))) := .lst kc' (by simp) _
      have f3 := f1.trans f2
      refine ⟨rs ++ [.ref q], ts ++ [.ref p1], cs ++ [⟨t1, t2, t3⟩], us ++ [t1], _, _, rfl, ⟨upd_same, ?_, ?_, ?_, ?_, ?_, ?_, ?_, kb'.put cb cd _, kp6.trans f3, ?_⟩⟩
      · rw [upd_ne nct.symm]
        exact ku
      · exact (f3.cls ac6).snoc ⟨q, p1, p2, p3, rfl, f3.tup _ _ kq, f3.tm k1, f3.tm k2, f3.tm k3⟩
      · exact (f3.tms au6).snoc ⟨p1, rfl, f3.tm k1⟩
      · exact W.ok.snoc (fun c hc (e : c.a = t1) => hm (e ▸ W.mem c hc)) ⟨u1, u2, u3⟩
      · intro c hc
        rcases List.mem_append.mp hc with hc | hc
        · exact W.old c hc
        · rw [List.mem_singleton.mp hc]
          exact old1
      · intro c hc
        rcases List.mem_append.mp hc with hc | hc
        · exact List.mem_append_left _ (W.mem c hc)
        · rw [List.mem_singleton.mp hc]
          exact List.mem_append_right _ (by simp)
      · rw [List.length_append, List.length_singleton]
        have := W.len
        omega
      · rw [List.length_append, List.length_singleton]
        have := W.lt
        omega
  · rintro σ H2 ⟨rs, ts, cs, us, v6, v7, rfl, W⟩
    refine ⟨_, rfl, lc, rs, rfl, .inl ⟨SqL.of W.atC, fun p hp => ?_⟩⟩
    have kp : Kp [b] H H2 := by
      refine Kp.less (p := lt) (Kp.less (p := lc) (W.kp.mono (by simp)) hc) ht0
    exact k p rs cs _ upd_same ((Kp.new (S := [b]) hp _).cls W.ac) W.ok W.old (Nat.le_trans W.len (by omega)) ⟨W.box.keep (Kp.new (S := []) hp _) (by simp) (by simp), kp.trans (.new hp _)⟩
/-- up to six cells, in a list of their own -/
def spMade : Sp := fun vs H Q _ => ∃ (b d : Addr), vs = [.ref b] ∧ BoxAt H b d ∧
  ∀ l rs cs H', H l = none → H' l = some (.lst rs) → All (ClV H') rs cs → OkC cs → cs.length ≤ 6 → Drew b d H H' → Q (.ref l) H'
theorem scMade : FnScope ["_law_box", "_law_cells", "_law_k"] ["_law_box"] (defScope sMade) := ⟨rfl, rfl, rfl, by decide +kernel, rfl, by decide +kernel, by decide +kernel⟩
structure Making (b d l : Addr) (H H' : Hp) (i : Nat) (rs : List V) (cs : List Cl) : Prop where
  atC : H' l = some (.lst rs)
  ac : All (ClV H') rs cs
  ok : OkC cs
  old : ∀ c ∈ cs, c.a.k = .new → c.a.n < i
  len : cs.length ≤ 3 + i
  box : BoxAt H' b d
  kp : Kp [b, l] H H'
theorem ok_made {g o a : Addr} {gd od ad : FuncData} (F : Fun K "_law_cells_made" "_law_cells_made" sMade f fd) (D : Has K mg "_law_draw" g gd ["_law_box", "_law_many"]) (G : FnOk P w K mg base CX0 1 g gd ["_law_box", "_law_many"] spDraw)
    (DO : Has K mg "_law_cells_of" o od ["_law_box", "_law_most", "_law_many", "_law_news"]) (GO : FnOk P w K mg base CX0 4 o od ["_law_box", "_law_most", "_law_many", "_law_news"] spCellsOf)
    (DA : Has K mg "_law_any_term" a ad ["_law_box", "_law_many", "_law_news"]) (GA : FnOk P w K mg base CX0 3 a ad ["_law_box", "_law_many", "_law_news"] spAny) (mr : mg "range" = none) (ml : mg "list" = none) :
    FnOk P w K mg base CX0 5 f fd ["_law_box"] spMade := by
  refine F.ok scMade (fun vs H Q E h => ?_) (fun cdv A outer s H vs Q E hr h => ?_)
  · obtain ⟨b, d, rfl, _⟩ := h
    rfl
  obtain ⟨b, d, rfl, hb, k⟩ := h
  have hr1 : Room 1 _ := hr.mono (by decide)
  have hr3 : Room 3 _ := hr.mono (by decide)
  refine ⟨_, pss_cons (ps_set (i := 1) scMade.nd rfl (Or.inl rfl) (pe_callTy call_list_of (by rfl) ml (by decide +kernel) (pa_cons (pe_call GO hr (by rfl) DO.m DO.k DO.b .nil pass0 (pa_cons (pv 0) (pa_cons pe_int (pa_cons pe_int (pa_cons pe_int pa_nil))))) pa_nil)))
    (pss_cons (ps_for PassesOwn.never rfl (pi_range1 (by rfl) mr (pa_cons pe_int pa_nil)) (pg_name (i := 2) scMade.nd rfl (Or.inl rfl))
      (pss_one (ps_if (pt_cmpR op_gt (pe_call G hr1 (by rfl) D.m D.k D.b .nil pass0 (pa_cons (pv 0) (pa_cons pe_int pa_nil))) pe_int (nomark _))
        (pss_one (ps_expr (pe_bm PySem.F.plainAttrs_list PySem.F.slot_list_append PySem.F.type_list_append mt_append (pv 1)
          (pa_cons (pe_tup (pa_cons (pe_tup (pa_cons pe_str (pa_cons (pv 2) pa_nil))) (pa_cons (pe_call GA hr3 (by rfl) DA.m DA.k DA.b .nil pass0 (pa_cons (pv 0) (pa_cons pe_int (pa_cons pe_int pa_nil)))) (pa_cons (pe_call GA hr3 (by rfl) DA.m DA.k DA.b .nil pass0 (pa_cons (pv 0) (pa_cons pe_int (pa_cons pe_int pa_nil)))) pa_nil)))) pa_nil)))) pss_nil)))
    (pss_one (ps_ret (pv 1)))), ?_⟩
  refine ⟨_, rfl, b, d, rfl, hb, fun p rs cs H1 e1 e2 ok old len dr => ⟨p, rs, rfl, .inr (SqT.of e1), fun l hl => ?_⟩⟩
  have hl0 : H l = none := by
    cases e : H l with
    | none => rfl
    | some u =>
      have nb : l ≠ b := fun z => by
        obtain ⟨_, _, q, _⟩ := dr.box
        rw [z, q] at hl
        cases hl
      rw [dr.at nb e] at hl
      cases hl
  obtain ⟨lb, ld⟩ := hb.off hl0
  refine ⟨3, rfl, by decide, by decide, for_range (lo := 0) (n := 3) (fun i σ H' => ∃ rs cs v2, σ = [some (.ref b), some (.ref l), v2] ∧ Making b d l H H' i rs cs)
    ⟨rs, cs, none, rfl, ⟨upd_same, (Kp.new (S := []) hl _).cls e2, ok, fun c hc q => absurd q (old c hc), len, (dr.new hl _).box, (dr.new hl _).kp.mono (by simp)⟩⟩ ?_ ?_⟩
  · rintro i σ H2 hi ⟨rs, cs, v2, rfl, W⟩
    refine ⟨_, rfl, b, d, 3, rfl, by decide, W.box, fun n H3 h0 h3 d3 => ⟨_, _, rfl, rfl, _, rfl, ?_⟩⟩
    have kc3 : H3 l = some (.lst rs) := d3.at lb W.atC
    refine ite2 (fun c => ?_) (fun c => ?_)
    · refine ⟨_, rfl, .inl ⟨rfl, _, SqL.of kc3⟩, _, rfl, by show 2 ≤ sizeLine; decide, fun p1 hp1 => ?_⟩
      have d4 := d3.new hp1 (.tup [.str "new", .int (0 + i)])
      have m1 : TmAt (upd H3 p1 (.tup [.str "new", .int (0 + i)])) p1 ⟨.new, 0 + i⟩ := upd_same
      refine ⟨_, rfl, b, d, rfl, d4.box, fun p2 t2 H5 u2 m2 d5 => ?_⟩
      refine ⟨_, rfl, b, d, rfl, d5.box, fun p3 t3 H6 u3 m3 d6 => ⟨by show 3 ≤ sizeLine; decide, fun q hq => ?_⟩⟩
      have dd := ((d4.trans d5).trans d6).new hq (.tup [.ref p1, .ref p2, .ref p3])
      have k1 := TmAt.mono (d6.kp.tm (d5.kp.tm m1)) (Kp.new (S := []) hq (.tup [.ref p1, .ref p2, .ref p3])).tup
      have k2 := TmAt.mono (d6.kp.tm m2) (Kp.new (S := []) hq (.tup [.ref p1, .ref p2, .ref p3])).tup
      have k3 := TmAt.mono m3 (Kp.new (S := []) hq (.tup [.ref p1, .ref p2, .ref p3])).tup
      have kq : upd H6 q (.tup [.ref p1, .ref p2, .ref p3]) q = some (.tup [.ref p1, .ref p2, .ref p3]) := upd_same
      generalize upd H6 q (.tup [.ref p1, .ref p2, .ref p3]) = H7 at dd k1 k2 k3 kq ⊢
      have kc : H7 l = some (.lst rs) := dd.at lb W.atC
      have hl := W.len
      refine ⟨l, rs, _, rfl, rfl, kc, by rw [W.ac.1]; exact smaller (by omega), ?_⟩
      have f : Kp [b, l] H7 (upd H7 l (.lst (rs ++ [.ref q]))) := .lst kc (by simp) _
      have kp7 := dd.kp.mono (S' := [b, l]) (by simp)
      have hi3 : (⟨.new, 0 + i⟩ : Tm) ∈ U := three_new (by omega) (by omega)
      refine ⟨rs ++ [.ref q], cs ++ [⟨⟨.new, 0 + i⟩, t2, t3⟩], _, rfl, ⟨upd_same, ?_, ?_, ?_, ?_, dd.box.put lb ld _, (W.kp.trans kp7).trans f⟩⟩
      · exact (f.cls (kp7.cls W.ac)).snoc ⟨q, p1, p2, p3, rfl, f.tup _ _ kq, f.tm k1, f.tm k2, f.tm k3⟩
      · refine W.ok.snoc (fun c hc e => ?_) ⟨hi3, u2, u3⟩
        have q := W.old c hc (by rw [e])
        rw [e] at q
        have q' : (0 : Int) + i < i := q
        omega
      · intro c hc hk
        rcases List.mem_append.mp hc with hc | hc
        · have := W.old c hc hk
          omega
        · rw [List.mem_singleton.mp hc]
          show (0 : Int) + i < ((i + 1 : Nat) : Int)
          omega
      · rw [List.length_append, List.length_singleton]
        omega
    · exact ⟨rs, cs, _, rfl, ⟨kc3, d3.kp.cls W.ac, W.ok, fun c hc hk => by have := W.old c hc hk; omega, by have := W.len; omega, d3.box, W.kp.trans (d3.kp.mono (by simp))⟩⟩
  · rintro σ H2 ⟨rs, cs, v2, rfl, W⟩
    exact ⟨_, rfl, k l rs cs H2 hl0 W.atC W.ac W.ok W.len ⟨W.box, Kp.less (p := l) (W.kp.mono (by simp)) hl0⟩⟩
end
end K86

/-! K86B: the digits, a term turned, the comparison of two data. -/
namespace K86
open PySem PySem.Spec PyProof.Rows L2
section
variable {P : Program} {w : World} {K : PySem.W.Frag} {mg : Str → Option Value} {base : Heap} {f : Addr} {fd : FuncData}
/-! ### a cell of the script -/
def spCell (K : PySem.W.Frag) : Sp := fun vs H Q _ => ∃ (a : Addr) (ns : List Int) (k : Int), vs = [.ref a, .int k] ∧ SqL K H a (ns.map V.int) ∧ 0 ≤ k ∧ ∀ n, Q (.int n) H
theorem scCell : FnScope ["_law_script", "_law_k"] ["_law_script", "_law_k"] (defScope sCell) := ⟨rfl, rfl, rfl, by decide +kernel, rfl, by decide +kernel, by decide +kernel⟩
theorem int_at {ns : List Int} {z : Int} (h0 : 0 ≤ z) (h : z < (ns.length : Int)) : ∃ n, atI (ns.map V.int) z = some (.int n) := by
  have hlt : z.toNat < ns.length := by omega
  have q := atI_nat (xs := ns.map V.int) (j := z.toNat) (v := .int ns[z.toNat]) (by rw [List.getElem?_map, List.getElem?_eq_getElem hlt]; rfl)
  rw [Int.toNat_of_nonneg h0] at q
  exact ⟨_, q⟩
theorem ok_cell (F : Fun K "_law_cell" "_law_cell" sCell f fd) (ml : mg "len" = none) : FnOk P w K mg base CX0 1 f fd ["_law_script", "_law_k"] (spCell K) := by
  refine F.ok scCell (fun vs H Q E h => ?_) (fun cdv A outer s H vs Q E hr h => ?_)
  · obtain ⟨a, ns, k, rfl, _⟩ := h
    rfl
  obtain ⟨a, ns, k, rfl, hs, h0, q⟩ := h
  refine ⟨_, pss_cons (ps_if (pt_cmpR op_lt (pv 1) (pe_callB call_len_seq (by rfl) ml PySem.boot_len (pa_cons (pv 0) pa_nil)) (nomark _)) (pss_one (ps_ret (pe_ix ix_list (pv 0) (pv 1) (fun _ _ => rfl)))) pss_nil) (pss_one (ps_ret pe_int)), ?_⟩
  refine ⟨_, rfl, _, rfl, a, _, rfl, .inl hs, _, _, rfl, rfl, _, rfl, ite2 (fun c => ?_) (fun c => q 0)⟩
  have c' : k < (((ns.map V.int).length : Nat) : Int) := of_decide_eq_true c
  rw [List.length_map] at c'
  obtain ⟨n, e⟩ := int_at h0 c'
  exact ⟨_, rfl, _, rfl, a, _, _, _, rfl, rfl, hs, e, q n⟩
/-! ### the digits: a list of ints, whatever they are -/
def spDigits (K : PySem.W.Frag) : Sp := fun vs H Q _ => ∃ (a : Addr) (ns : List Int), vs = [.ref a, .int 0, .int 63] ∧ SqL K H a (ns.map V.int) ∧
  ∀ l ds H', H l = none → H' l = some (.lst ((ds : List Int).map V.int)) → Same H H' → Q (.ref l) H'
theorem scDigits : FnScope ["_law_script", "_law_first", "_law_last", "_law_digits_here", "_law_k", "_law_cell_here", "_law_turn_here", "_law_seed"] ["_law_script", "_law_first", "_law_last"] (defScope sDigits) :=
  ⟨rfl, rfl, rfl, by decide +kernel, rfl, by decide +kernel, by decide +kernel⟩
/-- between two turns: at most n digits stand at l, all else stands -/
def Dig (l : Addr) (H H' : Hp) (n : Nat) : Prop := Kp [l] H H' ∧ ∃ ds : List Int, H' l = some (.lst (ds.map V.int)) ∧ ds.length ≤ n
theorem Dig.more {l : Addr} {H H' : Hp} {n : Nat} {vs : List V} (x : Dig l H H' n) (e : H' l = some (.lst vs)) (i : Int) : Dig l H (upd H' l (.lst (vs ++ [.int i]))) (n + 1) := by
  obtain ⟨k, ds, e', hl⟩ := x
  have q : vs = ds.map V.int := by
    rw [e] at e'
    cases e'
    rfl
  refine ⟨k.trans (.lst e (by simp) _), ds ++ [i], ?_, ?_⟩
  · rw [upd_same, q, List.map_append]
    rfl
  · rw [List.length_append, List.length_singleton]
    omega
theorem Dig.mono {l : Addr} {H H' : Hp} {n m : Nat} (x : Dig l H H' n) (h : n ≤ m) : Dig l H H' m := ⟨x.1, let ⟨ds, e, q⟩ := x.2; ⟨ds, e, Nat.le_trans q h⟩⟩
theorem ok_digits {g : Addr} {gd : FuncData} (F : Fun K "_law_digits" "_law_digits" sDigits f fd) (D : Has K mg "_law_cell" g gd ["_law_script", "_law_k"]) (G : FnOk P w K mg base CX0 1 g gd ["_law_script", "_law_k"] (spCell K)) (mr : mg "range" = none) (mi : mg "int" = none) :
    FnOk P w K mg base CX0 2 f fd ["_law_script", "_law_first", "_law_last"] (spDigits K) := by
  refine F.ok scDigits (fun vs H Q E h => ?_) (fun cdv A outer s H vs Q E hr h => ?_)
  · obtain ⟨a, ns, rfl, _⟩ := h
    rfl
  obtain ⟨a, ns, rfl, hs, k⟩ := h
  refine ⟨_, pss_cons (ps_set (i := 3) scDigits.nd rfl (Or.inl rfl) (pe_lst pa_nil))
    (pss_cons (ps_for PassesOwn.never rfl (pi_range2 (by rfl) mr (pa_cons (pv 1) (pa_cons (pv 2) pa_nil))) (pg_name (i := 4) scDigits.nd rfl (Or.inl rfl))
      (pss_cons (ps_set (i := 5) scDigits.nd rfl (Or.inl rfl) (pe_call G hr (by rfl) D.m D.k D.b .nil pass0 (pa_cons (pv 0) (pa_cons (pv 4) pa_nil))))
      (pss_cons (ps_if (pt_cmpR op_lt (pv 5) pe_int (nomark _)) (pss_one (ps_set (i := 5) scDigits.nd rfl (Or.inl rfl) (pe_op op_sub pe_int (pe_op op_mul pe_int (pv 5))))) pss_nil)
      (pss_one (ps_if (pt_cmpR op_ge (pv 5) (pe_op op_pow pe_int pe_int) (nomark _))
        (pss_one (ps_for PassesOwn.never rfl (pi_range1 (by rfl) mr (pa_cons pe_int pa_nil)) (pg_name (i := 6) scDigits.nd rfl (Or.inl rfl))
          (pss_one (ps_if (pt_cmpR op_gt (pv 5) pe_int (nomark _))
            (pss_cons (ps_expr (pe_bm PySem.F.plainAttrs_list PySem.F.slot_list_append PySem.F.type_list_append mt_append (pv 3) (pa_cons (pe_op op_mod (pe_callTy call_int1 (by rfl) mi (by decide +kernel) (pa_cons (pv 5) pa_nil)) pe_int) pa_nil)))
              (pss_one (ps_set (i := 5) scDigits.nd rfl (Or.inl rfl) (pe_op op_fdiv (pv 5) pe_int)))) pss_nil))))
        (pss_cons (ps_set (i := 7) scDigits.nd rfl (Or.inl rfl) (pe_op op_mod (pe_callTy call_int1 (by rfl) mi (by decide +kernel) (pa_cons (pe_op op_add (pe_op op_add (pe_op op_mul (pv 5) pe_int) (pe_op op_mul (pv 4) pe_int)) pe_int) pa_nil)) pe_int))
          (pss_one (ps_for PassesOwn.never rfl (pi_range1 (by rfl) mr (pa_cons pe_int pa_nil)) (pg_name (i := 6) scDigits.nd rfl (Or.inl rfl))
            (pss_cons (ps_set (i := 7) scDigits.nd rfl (Or.inl rfl) (pe_op op_mod (pe_callTy call_int1 (by rfl) mi (by decide +kernel) (pa_cons (pe_op op_add (pe_op op_add (pe_op op_mul (pv 7) pe_int) (pe_op op_mul pe_int (pv 6))) pe_int) pa_nil)) pe_int))
              (pss_one (ps_expr (pe_bm PySem.F.plainAttrs_list PySem.F.slot_list_append PySem.F.type_list_append mt_append (pv 3) (pa_cons (pe_op op_mod (pe_callTy call_int1 (by rfl) mi (by decide +kernel) (pa_cons (pe_op op_fdiv (pv 7) pe_int) pa_nil)) pe_int) pa_nil)))))))))))))
    (pss_one (ps_ret (pv 3)))), ?_⟩
  refine ⟨Nat.zero_le _, fun l hl => ?_⟩
  refine ⟨_, rfl, _, rfl, 0, 63, rfl, ⟨by decide, by decide, by decide, by decide⟩, for_range (lo := 0) (n := 63) (fun i σ H' => ∃ v4 v5 v6 v7, σ = [some (.ref a), some (.int 0), some (.int 63), some (.ref l), v4, v5, v6, v7] ∧ Dig l H H' (60 * i))
    ⟨none, none, none, none, rfl, .new hl _, [], upd_same, Nat.le_refl _⟩ ?_ ?_⟩
  · rintro i σ H1 hi ⟨v4, v5, v6, v7, rfl, W⟩
    have hs1 : SqL K H1 a (ns.map V.int) := (Kp.same (W.1.less hl)).seq hs
    refine ⟨_, rfl, _, rfl, a, ns, 0 + (i : Int), rfl, hs1, by omega, fun c0 => ⟨_, rfl, _, _, rfl, rfl, _, rfl, ?_⟩⟩
    refine ite2 (fun _ => ⟨_, rfl, _, _, rfl, rfl, .inl ⟨by decide, by decide⟩, _, _, rfl, rfl, ?_⟩) (fun _ => ?_)
    -- what follows the first if, for any cell
    all_goals
      refine ⟨_, rfl, _, _, rfl, rfl, ⟨by decide, by decide, by decide⟩, _, _, rfl, rfl, _, rfl, ite2 (fun _ => ?_) (fun _ => ?_)⟩
      · refine ⟨60, rfl, by decide, by decide, for_range (lo := 0) (n := 60) (fun j σ H' => ∃ c v6, σ = [some (.ref a), some (.int 0), some (.int 63), some (.ref l), some (.int (0 + i)), some (.int c), v6, v7] ∧ Dig l H H' (60 * i + j)) ⟨_, v6, rfl, W⟩ ?_ ?_⟩
        · rintro j σ H2 hj ⟨c, v6, rfl, W⟩
          obtain ⟨ds, e, hd⟩ := id W.2
          refine ⟨_, rfl, _, _, rfl, rfl, _, rfl, ite2 (fun _ => ?_) (fun _ => ⟨c, _, rfl, W.mono (Nat.le_succ _)⟩)⟩
          refine ⟨_, rfl, .inl ⟨rfl, _, SqL.of e⟩, _, rfl, .inl ⟨_, rfl, _, _, rfl, rfl, (by show (0 : Int) < 1000; decide), l, _, _, rfl, rfl, e, by rw [List.length_map]; exact smaller (by omega), ?_⟩⟩
          exact ⟨_, rfl, _, _, rfl, rfl, ⟨by decide, by decide⟩, _, _, rfl, W.more e _⟩
        · rintro σ H2 ⟨c, v6, rfl, W⟩
          exact ⟨_, _, _, _, rfl, W.mono (by omega)⟩
      · refine ⟨_, rfl, _, _, rfl, rfl, .inr ⟨by decide, by decide⟩, _, rfl, _, _, rfl, rfl, .inr ⟨by decide, by decide⟩, _, _, rfl, rfl, _, _, rfl, rfl, .inl ⟨_, rfl, _, _, rfl, rfl, (by show (0 : Int) < 2147483647; decide), ?_⟩⟩
        refine ⟨12, rfl, by decide, by decide, for_range (lo := 0) (n := 12) (fun j σ H' => ∃ c v6 z, σ = [some (.ref a), some (.int 0), some (.int 63), some (.ref l), some (.int (0 + i)), some (.int c), v6, some (.int z)] ∧ Dig l H H' (60 * i + j)) ⟨_, v6, _, rfl, W⟩ ?_ ?_⟩
        · rintro j σ H2 hj ⟨c, v6, z, rfl, W⟩
          obtain ⟨ds, e, hd⟩ := id W.2
          refine ⟨_, rfl, _, _, rfl, rfl, .inr ⟨by decide, by decide⟩, _, rfl, _, _, rfl, rfl, .inl ⟨by decide, by decide⟩, _, _, rfl, rfl, _, _, rfl, rfl, .inl ⟨_, rfl, _, _, rfl, rfl, (by show (0 : Int) < 2147483647; decide), ?_⟩⟩
          refine ⟨_, rfl, .inl ⟨rfl, _, SqL.of e⟩, _, rfl, _, _, rfl, rfl, ⟨by decide, by decide⟩, .inl ⟨_, rfl, _, _, rfl, rfl, (by show (0 : Int) < 1000; decide), l, _, _, rfl, rfl, e, by rw [List.length_map]; exact smaller (by omega), ?_⟩⟩
          exact ⟨_, _, _, rfl, W.more e _⟩
        · rintro σ H2 ⟨c, v6, z, rfl, W⟩
          exact ⟨_, _, _, _, rfl, W.mono (by omega)⟩
  · rintro σ H1 ⟨v4, v5, v6, v7, rfl, W⟩
    obtain ⟨ds, e, _⟩ := W.2
    exact ⟨_, rfl, k l ds H1 hl e (Kp.same (W.1.less hl))⟩
/-! ### a term turned -/
theorem same_new {H : Hp} {p : Addr} (h : H p = none) (o : HO) : Same H (upd H p o) := fun _ _ q => at_new h q
theorem kdec : ∀ k : Kd, decide (V.str (kstr k) = V.str "new") = decide (k = .new) := by
  intro k
  cases k <;> decide +kernel
def spTurn : Sp := fun vs H Q _ => ∃ (p : Addr) (t : Tm) (z : Int), vs = [.ref p, .int z] ∧ TmAt H p t ∧ ∀ q H', TmAt H' q (turnT z t) → Same H H' → Q (.ref q) H'
theorem scTurn : FnScope ["_law_term", "_law_shift"] ["_law_term", "_law_shift"] (defScope sTurn) := ⟨rfl, rfl, rfl, by decide +kernel, rfl, by decide +kernel, by decide +kernel⟩
theorem ok_turn (F : Fun K "_law_turn" "_law_turn" sTurn f fd) (mi : mg "int" = none) : FnOk P w K mg base CX0 1 f fd ["_law_term", "_law_shift"] spTurn := by
  refine F.ok scTurn (fun vs H Q E h => ?_) (fun cdv A outer s H vs Q E hr h => ?_)
  · obtain ⟨p, t, z, rfl, _⟩ := h
    rfl
  obtain ⟨p, t, z, rfl, ht, k⟩ := h
  refine ⟨_, pss_cons (ps_if (pt_cmpR op_eq (pe_ix ix_tup (pv 0) pe_int (fun _ _ => rfl)) pe_str (nomark _))
      (pss_one (ps_ret (pe_tup (pa_cons pe_str (pa_cons (pe_op op_mod (pe_callTy call_int1 (by rfl) mi (by decide +kernel) (pa_cons (pe_op op_add (pe_ix ix_tup (pv 0) pe_int (fun _ _ => rfl)) (pv 1)) pa_nil)) pe_int) pa_nil))))) pss_nil)
    (pss_one (ps_ret (pv 0))), ?_⟩
  refine ⟨_, rfl, p, _, _, _, rfl, rfl, SqT.of ht, atI_nat (j := 0) rfl, rfl, _, rfl, ?_⟩
  show if decide (V.str (kstr t.k) = V.str "new") = true then _ else _
  rw [kdec]
  refine ite2 (fun c => ?_) (fun c => ?_)
  · have e : t.k = .new := of_decide_eq_true c
    refine ⟨_, rfl, p, _, _, _, rfl, rfl, SqT.of ht, atI_nat (j := 1) rfl, _, rfl, _, _, rfl, rfl, .inl ⟨_, rfl, _, _, rfl, rfl, (by show (0 : Int) < 3; decide), by show 2 ≤ sizeLine; decide, fun q hq => ?_⟩⟩
    refine k q _ ?_ (same_new hq _)
    unfold turnT
    rw [if_pos e]
    exact upd_same
  · have e : ¬ t.k = .new := fun q => c (decide_eq_true q)
    refine ⟨_, rfl, k p H ?_ (.refl _)⟩
    unfold turnT
    rw [if_neg e]
    exact ht
/-! ### the comparison of two data -/
/-- data of at most n storeys, of None, ints, texts, tuples -/
def okd : Nat → PyData → Prop
  | 0, _ => False
  | _ + 1, .none => True
  | _ + 1, .int _ => True
  | _ + 1, .str _ => True
  | n + 1, .tuple ds => ds.length ≤ 1000 ∧ ∀ d ∈ ds, okd n d
  | _ + 1, _ => False
def spSame (K : PySem.W.Frag) (n : Nat) : Sp := fun vs H Q _ => ∃ (x y : V) (d : PyData), vs = [x, y] ∧ Dp K H x d ∧ Dp K H y d ∧ okd n d ∧ Q (.bl true) H
theorem DpAll.at {H : Hp} : ∀ {vs : List V} {ds : List PyData}, DpAll K H vs ds → vs.length = ds.length ∧ ∀ (i : Nat) (d : PyData), ds[i]? = some d → ∃ v, vs[i]? = some v ∧ Dp K H v d
  | [], [], _ => ⟨rfl, fun i d h => by simp at h⟩
  | v :: vs, d :: ds, h => by
    cases h with
    | cons h1 h2 =>
      obtain ⟨l, q⟩ := DpAll.at h2
      refine ⟨by rw [List.length_cons, List.length_cons, l], fun i e hi => ?_⟩
      cases i with
      | zero =>
        have : d = e := by simpa using hi
        subst this
        exact ⟨v, rfl, h1⟩
      | succ i => exact q i e (by simpa using hi)
theorem tup_ty {H : Hp} {a : Addr} {xs : List V} (h : SqT K H a xs) : TyX K H (.ref a) (.type "tuple") := by
  rcases h with (h | ⟨o, h⟩) | ⟨o, its, n, h, hc, _⟩
  · exact .base (.tup h)
  · exact .fTuple h
  · exact .kTuple h hc
theorem scSame : FnScope ["_law_actual", "_law_expected", "_law_k"] ["_law_actual", "_law_expected"] (defScope sSame) := ⟨rfl, rfl, rfl, by decide +kernel, rfl, by decide +kernel, by decide +kernel⟩
/-- the built-in names that it calls -/
structure Bi (mg : Str → Option Value) : Prop where
  isi : mg "isinstance" = none
  tup : mg "tuple" = none
  len : mg "len" = none
  rng : mg "range" = none
  bool : mg "bool" = none
  int : mg "int" = none
  str : mg "str" = none
  list : mg "list" = none
  zip : mg "zip" = none
theorem ok_same_step {n : Nat} (F : Fun K "_law_same" "_law_same" sSame f fd) (D : Has K mg "_law_same" f fd ["_law_actual", "_law_expected"]) (G : FnOk P w K mg base CX0 n f fd ["_law_actual", "_law_expected"] (spSame K n)) (B : Bi mg) :
    FnOk P w K mg base CX0 (n + 1) f fd ["_law_actual", "_law_expected"] (spSame K (n + 1)) := by
  refine F.ok scSame (fun vs H Q E h => ?_) (fun cdv A outer s H vs Q E hr h => ?_)
  · obtain ⟨x, y, d, rfl, _⟩ := h
    rfl
  obtain ⟨x, y, d, rfl, hx, hy, ok, q⟩ := h
  refine ⟨_, pss_cons (ps_if (pt_val (pe_callB call_isi (by rfl) B.isi (by decide +kernel) (pa_cons (pv 1) (pa_cons (pe_bltn (v := .ty "tuple") (by rfl) B.tup (by decide +kernel) rfl) pa_nil))))
      (pss_cons (ps_if (pw_or (pt_not (pt_val (pe_callB call_isi (by rfl) B.isi (by decide +kernel) (pa_cons (pv 0) (pa_cons (pe_bltn (v := .ty "tuple") (by rfl) B.tup (by decide +kernel) rfl) pa_nil)))))
          (pw_or1 (pt_cmpR op_ne (pe_callB call_len_seq (by rfl) B.len PySem.boot_len (pa_cons (pv 0) pa_nil)) (pe_callB call_len_seq (by rfl) B.len PySem.boot_len (pa_cons (pv 1) pa_nil)) (nomark _)))).pt (pss_one (ps_ret pe_bl)) pss_nil)
        (pss_cons (ps_for PassesOwn.never rfl (pi_range1 (by rfl) B.rng (pa_cons (pe_callB call_len_seq (by rfl) B.len PySem.boot_len (pa_cons (pv 1) pa_nil)) pa_nil)) (pg_name (i := 2) scSame.nd rfl (Or.inl rfl))
          (pss_one (ps_if (pt_not (pt_val (pe_call G hr (by rfl) D.m D.k D.b .nil pass0 (pa_cons (pe_ix ix_tup (pv 0) (pv 2) (fun _ _ => rfl)) (pa_cons (pe_ix ix_tup (pv 1) (pv 2) (fun _ _ => rfl)) pa_nil))))) (pss_one (ps_ret pe_bl)) pss_nil)))
        (pss_one (ps_ret pe_bl)))) pss_nil)
    (pss_cons (ps_if (pt_cmpR op_isN (pv 1) pe_non (nomark _)) (pss_one (ps_ret (pe_cmpR op_isN (pv 0) pe_non (nomark _)))) pss_nil)
    (pss_cons (ps_if (pt_val (pe_callB call_isi (by rfl) B.isi (by decide +kernel) (pa_cons (pv 1) (pa_cons (pe_bltn (v := .ty "bool") (by rfl) B.bool (by decide +kernel) rfl) pa_nil)))) (pss_one ps_never) pss_nil)
    (pss_cons (ps_if (pt_val (pe_callB call_isi (by rfl) B.isi (by decide +kernel) (pa_cons (pv 1) (pa_cons (pe_bltn (v := .ty "int") (by rfl) B.int (by decide +kernel) rfl) pa_nil))))
      (pss_one (ps_ret (pe_and (pe_callB call_isi (by rfl) B.isi (by decide +kernel) (pa_cons (pv 0) (pa_cons (pe_bltn (v := .ty "int") (by rfl) B.int (by decide +kernel) rfl) pa_nil)))
        (pe_and (pe_not (pe_callB call_isi (by rfl) B.isi (by decide +kernel) (pa_cons (pv 0) (pa_cons (pe_bltn (v := .ty "bool") (by rfl) B.bool (by decide +kernel) rfl) pa_nil)))) (pe_one (pe_cmpR op_eq (pv 0) (pv 1) (nomark _))))))) pss_nil)
    (pss_one (ps_ret (pe_and (pe_callB call_isi (by rfl) B.isi (by decide +kernel) (pa_cons (pv 0) (pa_cons (pe_bltn (v := .ty "str") (by rfl) B.str (by decide +kernel) rfl) pa_nil))) (pe_one (pe_cmpR op_eq (pv 0) (pv 1) (nomark _))))))))), ?_⟩
  have kt : ∀ {a b : String} {r : Bool}, kitB a b = some r → PySem.W.kitOne K (.type a) (.type b) = some r := kit_ty
  cases d with
  | none =>
    cases hx
    cases hy
    refine ⟨_, rfl, _, _, .type "NoneType", _, false, rfl, .ty "tuple", .base .non, kt (by decide +kernel), _, rfl, iteF ?_⟩
    refine ⟨_, rfl, rfl, _, rfl, iteT ⟨_, rfl, rfl, q⟩⟩
  | int i =>
    cases hx
    cases hy
    refine ⟨_, rfl, _, _, .type "int", _, false, rfl, .ty "tuple", .base (.int i), kt (by decide +kernel), _, rfl, iteF ?_⟩
    refine ⟨_, rfl, rfl, _, rfl, iteF ?_⟩
    refine ⟨_, rfl, _, _, .type "int", _, false, rfl, .ty "bool", .base (.int i), kt (by decide +kernel), _, rfl, iteF ?_⟩
    refine ⟨_, rfl, _, _, .type "int", _, true, rfl, .ty "int", .base (.int i), kt (by decide +kernel), _, rfl, iteT ?_⟩
    refine ⟨_, rfl, _, _, .type "int", _, true, rfl, .ty "int", .base (.int i), kt (by decide +kernel), _, rfl, iteT ?_⟩
    refine ⟨_, rfl, _, _, .type "int", _, false, rfl, .ty "bool", .base (.int i), kt (by decide +kernel), _, rfl, _, rfl, iteT ?_⟩
    refine ⟨_, rfl, _, rfl, rfl, ?_⟩
    rw [decide_eq_true rfl]
    exact q
  | str z =>
    cases hx
    cases hy
    refine ⟨_, rfl, _, _, .type "str", _, false, rfl, .ty "tuple", .base (.str z), kt (by decide +kernel), _, rfl, iteF ?_⟩
    refine ⟨_, rfl, rfl, _, rfl, iteF ?_⟩
    refine ⟨_, rfl, _, _, .type "str", _, false, rfl, .ty "bool", .base (.str z), kt (by decide +kernel), _, rfl, iteF ?_⟩
    refine ⟨_, rfl, _, _, .type "str", _, false, rfl, .ty "int", .base (.str z), kt (by decide +kernel), _, rfl, iteF ?_⟩
    refine ⟨_, rfl, _, _, .type "str", _, true, rfl, .ty "str", .base (.str z), kt (by decide +kernel), _, rfl, iteT ?_⟩
    refine ⟨_, rfl, _, rfl, rfl, ?_⟩
    rw [decide_eq_true rfl]
    exact q
  | tuple ds =>
    cases hx with
    | tup sx ax =>
    cases hy with
    | tup sy ay =>
    rename_i a xs b ys
    obtain ⟨lx, gx⟩ := DpAll.at ax
    obtain ⟨ly, gy⟩ := DpAll.at ay
    refine ⟨_, rfl, _, _, .type "tuple", _, true, rfl, .ty "tuple", tup_ty sy, kt (by decide +kernel), _, rfl, iteT ?_⟩
    refine ⟨_, rfl, _, _, .type "tuple", _, true, rfl, .ty "tuple", tup_ty sx, kt (by decide +kernel), _, rfl, iteF ?_⟩
    refine ⟨_, rfl, a, xs, rfl, .inr sx, _, rfl, b, ys, rfl, .inr sy, rfl, _, rfl, iteNS (by rw [lx, ly]) ?_⟩
    have big : ys.length ≤ 1000 := by rw [ly]; exact ok.1
    refine ⟨_, rfl, b, ys, rfl, .inr sy, _, rfl, by omega, by omega, for_range (lo := 0) (n := ys.length) (fun i σ H' => H' = H ∧ ∃ v2, σ = [some (.ref a), some (.ref b), v2]) ⟨rfl, none, rfl⟩ ?_ ?_⟩
    · rintro i σ H' hi ⟨rfl, v2, rfl⟩
      have hd : ds[i]? = some (ds[i]'(ly ▸ hi)) := List.getElem?_eq_getElem (ly ▸ hi)
      obtain ⟨v, e1, d1⟩ := gx i _ hd
      obtain ⟨u, e2, d2⟩ := gy i _ hd
      have z1 : atI xs (0 + (i : Int)) = some v := at_of (Int.zero_add _) e1
      have z2 : atI ys (0 + (i : Int)) = some u := at_of (Int.zero_add _) e2
      refine ⟨_, rfl, _, rfl, a, _, _, _, rfl, rfl, sx, z1, _, rfl, _, rfl, b, _, _, _, rfl, rfl, sy, z2, _, _, _, rfl, d1, d2, ok.2 _ (List.mem_of_getElem? hd), _, rfl, ?_⟩
      exact iteF ⟨rfl, _, rfl⟩
    · rintro σ H' ⟨rfl, v2, rfl⟩
      exact q
  | bool _ => exact False.elim ok
  | list _ => exact False.elim ok
  | dict _ => exact False.elim ok
theorem ok_same (F : Fun K "_law_same" "_law_same" sSame f fd) (D : Has K mg "_law_same" f fd ["_law_actual", "_law_expected"]) (B : Bi mg) : ∀ n : Nat, FnOk P w K mg base CX0 n f fd ["_law_actual", "_law_expected"] (spSame K n)
  | 0 => by
    have no : ∀ vs H Q E, ¬ spSame K 0 vs H Q E := fun vs H Q E h => by
      obtain ⟨_, _, _, _, _, _, z, _⟩ := h
      exact z
    exact ⟨fun vs H Q E h => absurd h (no vs H Q E), fun A outer s H args us vs Q E _ _ _ _ h => absurd h (no vs H Q E)⟩
  | n + 1 => ok_same_step F D (ok_same F D B n) B
theorem okd_pd (p : Pr) : okd 3 (pd p) := by
  have h : ∀ t : Tm, okd 2 (td t) := fun t => ⟨by show 2 ≤ 1000; decide, fun d hd => by
    simp only [List.mem_cons, List.not_mem_nil, or_false] at hd
    rcases hd with rfl | rfl
    · exact True.intro
    · exact True.intro⟩
  refine ⟨by show 2 ≤ 1000; decide, fun d hd => ?_⟩
  simp only [List.mem_cons, List.not_mem_nil, or_false] at hd
  rcases hd with rfl | rfl
  · exact h _
  · exact h _
theorem okd_pds {ps : List Pr} (h : ps.length ≤ 1000) : okd 4 (.tuple (ps.map pd)) := by
  refine ⟨by rw [List.length_map]; exact h, fun d hd => ?_⟩
  obtain ⟨p, _, rfl⟩ := List.mem_map.mp hd
  exact okd_pd p
end
end K86

/-! K86C: the law's own walk. -/
namespace K86
open PySem PySem.Spec PyProof.Rows L2
/-- [x for x in l if ..], the items standing for data: those of which the test says yes -/
theorem filt {K : PySem.W.Frag} {α : Type} {R : V → α → Prop} {a : Addr} {vs : List V} {xs : List α} (pr : α → Bool) {i : Nat} {tt : TT} {σ : L2.St} {H1 : Hp} {D : Addr} {Qd : Hp → Prop} (hD : H1 D = none) (ha : SqL K H1 a vs) (h : All R vs xs)
    (big : vs.length < sizeLine) (hi : i < σ.length) (ht : ∀ (v : V) (x : α) (acc : List V) (Q' : Bool → Hp → Prop), R v x → Q' (pr x) (upd H1 D (.lst acc)) → tt ((σ.set i none).set i (some v)) (upd H1 D (.lst acc)) Q')
    (hd : ∀ acc, All R acc (xs.filter pr) → Qd (upd H1 D (.lst acc))) :
    ∃ W : Nat → Nat → Hp → Prop, (∃ m, W 0 m (upd H1 D (.lst []))) ∧ ∀ n m H, W n m H →
      ((Itl K a).stop n H ∧ Qd H) ∨ ((Itl K a).go n H ∧ ∃ Nx : Hp → Prop, (∀ H', Nx H' → ∃ m', m' < m ∧ W (n + 1) m' H') ∧ ∀ x H', (Itl K a).yld n H x H' → gName i x (wipe σ [i]) H' fun σ2 H2 => wipe σ2 [i] = wipe σ [i] ∧ tt σ2 H2 fun b H3 =>
        if b = true then tVar i σ2 H3 fun y H4 => ∃ acc, H4 D = some (.lst acc) ∧ acc.length < sizeLine ∧ Nx (upd H4 D (.lst (acc ++ [y]))) else Nx H3) := by
  refine lc_list (xs := vs) (fun n H => ∃ acc, H = upd H1 D (.lst acc) ∧ All R acc ((xs.take n).filter pr)) ⟨[], rfl, .nil⟩ (fun n H _ ⟨acc, e, _⟩ => by rw [e]; exact (same_new hD _).seq ha) ?_ ?_
  · rintro n v H hv ⟨acc, rfl, hacc⟩
    obtain ⟨x, hx, hr⟩ := h.at hv
    have hn := (List.getElem?_eq_some_iff.mp hv).1
    refine ⟨?_, ht v x acc _ hr ?_⟩
    · show (((σ.set i none).set i (some v)).set i none) = σ.set i none
      rw [List.set_set, List.set_set]
    · have tk : xs.take (n + 1) = xs.take n ++ [x] := by rw [List.take_add_one, hx]; rfl
      have fl : acc.length ≤ n := by
        rw [hacc.1]
        exact Nat.le_trans (List.length_filter_le _ _) (by rw [List.length_take]; exact Nat.min_le_left _ _)
      cases e : pr x with
      | true =>
        refine iteT ⟨v, ?_, acc, upd_same, by omega, acc ++ [v], upd_upd, ?_⟩
        · rw [List.getElem?_set_self (by rw [wipe_length]; exact hi)]
        · rw [tk, List.filter_append, List.filter_cons, e]
          exact hacc.snoc hr
      | false =>
        refine iteF ⟨acc, rfl, ?_⟩
        rw [tk, List.filter_append, List.filter_cons, e]
        show All R acc ((xs.take n).filter pr ++ [])
        rw [List.append_nil]
        exact hacc
  · rintro H ⟨acc, rfl, hacc⟩
    rw [h.1, List.take_length] at hacc
    exact hd acc hacc
theorem and_test {t u : TT} {σ : L2.St} {H : Hp} {Q : Bool → Hp → Prop} (a b : Bool) (h1 : ∀ Q' : Bool → Hp → Prop, Q' a H → t σ H Q') (h2 : ∀ Q' : Bool → Hp → Prop, Q' b H → u σ H Q') (q : Q (a && b) H) : tAnd t u σ H Q := by
  refine h1 _ ?_
  cases a with
  | true => exact iteT (h2 _ q)
  | false => exact iteF q
theorem dec_len (n : Nat) : decide (V.int (n : Int) = V.int 0) = decide (n = 0) := by
  by_cases h : n = 0
  · subst h
    rfl
  · rw [decide_eq_false h]
    exact decide_eq_false fun e => h (by injection e with e; omega)
theorem none_first {th : List Pr} {x : Tm} : (th.filter fun p => decide (p.1 = x)).length = 0 ↔ ∀ p ∈ th, p.1 ≠ x := by
  rw [List.length_eq_zero_iff, List.filter_eq_nil_iff]
  constructor
  · intro h p hp e
    exact h p hp (decide_eq_true e)
  · intro h p hp e
    exact h p hp (of_decide_eq_true e)
theorem none_second {th : List Pr} {y : Tm} : (th.filter fun p => decide (p.2 = y)).length = 0 ↔ ∀ p ∈ th, p.2 ≠ y := by
  rw [List.length_eq_zero_iff, List.filter_eq_nil_iff]
  constructor
  · intro h p hp e
    exact h p hp (decide_eq_true e)
  · intro h p hp e
    exact h p hp (of_decide_eq_true e)
theorem turn_dead {cs ds : List Cl} {init : List Pr} {i : Nat} {q : Q2} {p : Pr} (hi : i < 200) (h : st cs ds init i = some q) (hp : q.1[i]? = some p) (hf : turn cs ds q p = none) : due cs ds init = none :=
  due_dead (i := i + 1) hi ((st_go h hp).trans hf)
theorem turn_fit {cs ds : List Cl} {q : Q2} {p : Pr} {th : List Pr} (h : fit q.2 p.1 p.2 = some th) : turn cs ds q p = cellsStep q.1 th (look cs p.1) (look ds p.2) := by
  unfold turn
  rw [h]
theorem turn_nofit {cs ds : List Cl} {q : Q2} {p : Pr} (h : fit q.2 p.1 p.2 = none) : turn cs ds q p = none := by
  unfold turn
  rw [h]
section
variable {P : Program} {w : World} {K : PySem.W.Frag} {mg : Str → Option Value} {base : Heap} {f : Addr} {fd : FuncData}
/-- what the two walks answer: None, or the pairs that are matched -/
def Answers (cs ds : List Cl) (init : List Pr) (H : Hp) (Q : VK) : Prop := (due cs ds init = none → ∀ H', Same H H' → Q .non H') ∧
  ∀ th p rs H', due cs ds init = some th → H' p = some (.tup rs) → All (PrV H') rs th → th.length ≤ 200 → Same H H' → Q (.ref p) H'
def spWalk : Sp := fun vs H Q _ => ∃ (lc ld lp : Addr) (rc rd rp : List V) (cs ds : List Cl) (init : List Pr), vs = [.ref lc, .ref ld, .ref lp] ∧ H lc = some (.lst rc) ∧ All (ClV H) rc cs ∧ H ld = some (.lst rd) ∧ All (ClV H) rd ds ∧ H lp = some (.lst rp) ∧ All (PrV H) rp init ∧
  OkC cs ∧ OkC ds ∧ cs.length ≤ 6 ∧ ds.length ≤ 6 ∧ InUU init ∧ init.length ≤ 3 ∧ Answers cs ds init H Q
abbrev nWalk : List Str := ["_law_cells", "_law_other_cells", "_law_pairs", "_law_there", "_law_met", "_law_turn_here", "_law_one", "_law_two", "_law_known", "_law_mine", "_law_cell_here", "_law_first", "_law_second", "_law_k", "_law_pair", "_law_row"]
theorem scWalk : FnScope nWalk ["_law_cells", "_law_other_cells", "_law_pairs"] (defScope sWalk) :=
  ⟨rfl, rfl, rfl, by decide +kernel, rfl, by decide +kernel, by decide +kernel⟩
/-- between two turns -/
structure Walking (lt lm : Addr) (H H' : Hp) (q : Q2) (rt rm : List V) : Prop where
  atT : H' lt = some (.lst rt)
  atM : H' lm = some (.lst rm)
  t : All (PrV H') rt q.2
  m : All (PrV H') rm q.1
  kp : Kp [lt, lm] H H'
theorem ok_walk (F : Fun K "_law_match_cells" "_law_match_cells" sWalk f fd) (B : Bi mg) : FnOk P w K mg base CX0 1 f fd ["_law_cells", "_law_other_cells", "_law_pairs"] spWalk := by
  refine F.ok scWalk (fun vs H Q E h => ?_) (fun cdv A outer s H vs Q E hr h => ?_)
  · obtain ⟨lc, ld, lp, _, _, _, _, _, _, rfl, _⟩ := h
    rfl
  obtain ⟨lc, ld, lp, rc, rd, rp, cs, ds, init, rfl, hc, ac, hd, ad, hp, ap, okc, okd, c6, d6, uu, i3, ans⟩ := h
  refine ⟨_, pss_cons (ps_set (i := 3) scWalk.nd rfl (Or.inl rfl) (pe_lst pa_nil))
    (pss_cons (ps_set (i := 4) scWalk.nd rfl (Or.inl rfl) (pe_callTy call_list_of (by rfl) B.list (by decide +kernel) (pa_cons (pv 2) pa_nil)))
    (pss_cons (ps_for PassesOwn.never rfl (pi_range1 (by rfl) B.rng (pa_cons pe_int pa_nil)) (pg_name (i := 5) scWalk.nd rfl (Or.inl rfl))
      (pss_one (ps_if (pt_cmpR op_lt (pv 5) (pe_callB call_len_seq (by rfl) B.len PySem.boot_len (pa_cons (pv 4) pa_nil)) (nomark _))
        (pss_cons (ps_set (i := 6) scWalk.nd rfl (Or.inr rfl) (pe_ix ix_tup (pe_ix ix_list (pv 4) (pv 5) (fun _ _ => rfl)) pe_int (fun _ _ => rfl)))
        (pss_cons (ps_set (i := 7) scWalk.nd rfl (Or.inr rfl) (pe_ix ix_tup (pe_ix ix_list (pv 4) (pv 5) (fun _ _ => rfl)) pe_int (fun _ _ => rfl)))
        (C8.pss_cut (ps_if (pw_and (pt_cmpR op_eq (pe_ix ix_tup (pv 6) pe_int (fun _ _ => rfl)) pe_str (nomark _)) (pw_and1 (pt_cmpR op_eq (pe_ix ix_tup (pv 7) pe_int (fun _ _ => rfl)) pe_str (nomark _)))).pt
          (pss_cons (ps_setLc (i := 8) (own := [("_law_row", 15)]) rfl scWalk.nd rfl rfl (sw_true rfl rfl rfl (by decide +kernel)) (pi_list (pv 3)) (blkOk_by (N := nWalk) (sc := defScope sWalk) (by decide +kernel))
              (fun _ _ _ _ _ => pg_name (i := 15) scWalk.nd rfl (Or.inl rfl)) (fun _ _ _ _ _ => pts_one (pt_cmpR (r := rEqD K) (op_eqD hr.units) (pe_ix (r := rIxT K) ix_tup (pv 15) pe_int (fun _ _ => rfl)) (pv 6) (nomark _))) (fun _ _ _ _ _ => pv 15))
          (pss_cons (ps_setLc (i := 9) (own := [("_law_row", 15)]) rfl scWalk.nd rfl rfl (sw_true rfl rfl rfl (by decide +kernel)) (pi_list (pv 3)) (blkOk_by (N := nWalk) (sc := defScope sWalk) (by decide +kernel))
              (fun _ _ _ _ _ => pg_name (i := 15) scWalk.nd rfl (Or.inl rfl)) (fun _ _ _ _ _ => pts_one (pt_cmpR (r := rEqD K) (op_eqD hr.units) (pe_ix (r := rIxT K) ix_tup (pv 15) pe_int (fun _ _ => rfl)) (pv 7) (nomark _))) (fun _ _ _ _ _ => pv 15))
          (pss_one (ps_if (pw_and (pt_cmpR op_eq (pe_callB call_len_seq (by rfl) B.len PySem.boot_len (pa_cons (pv 8) pa_nil)) pe_int (nomark _)) (pw_and1 (pt_cmpR op_eq (pe_callB call_len_seq (by rfl) B.len PySem.boot_len (pa_cons (pv 9) pa_nil)) pe_int (nomark _)))).pt
            (pss_one (ps_expr (pe_bm PySem.F.plainAttrs_list PySem.F.slot_list_append PySem.F.type_list_append mt_append (pv 3) (pa_cons (pe_tup (pa_cons (pv 6) (pa_cons (pv 7) pa_nil))) pa_nil))))
            (pss_one (ps_if (pt_cmpR (op_notInD (hu65 hr)) (pe_tup (pa_cons (pv 6) (pa_cons (pv 7) pa_nil))) (pv 3) (by rfl)) (pss_one (ps_ret pe_non)) pss_nil))))))
          (pss_one (ps_if (pt_cmpR (op_neD hr.units) (pv 6) (pv 7) (nomark _)) (pss_one (ps_ret pe_non)) pss_nil)))
        (pss_cons (ps_setLc (i := 11) (own := [("_law_cell_here", 10)]) rfl scWalk.nd rfl rfl (sw_true rfl rfl rfl (by decide +kernel)) (pi_list (pv 0)) (blkOk_by (N := nWalk) (sc := defScope sWalk) (by decide +kernel))
            (fun _ _ _ _ _ => pg_name (i := 10) scWalk.nd rfl (Or.inl rfl)) (fun _ _ _ _ _ => pts_one (pt_cmpR (r := rEqD K) (op_eqD hr.units) (pe_ix (r := rIxT K) ix_tup (pv 10) pe_int (fun _ _ => rfl)) (pv 6) (nomark _))) (fun _ _ _ _ _ => pv 10))
        (pss_cons (ps_setLc (i := 12) (own := [("_law_cell_here", 10)]) rfl scWalk.nd rfl rfl (sw_true rfl rfl rfl (by decide +kernel)) (pi_list (pv 1)) (blkOk_by (N := nWalk) (sc := defScope sWalk) (by decide +kernel))
            (fun _ _ _ _ _ => pg_name (i := 10) scWalk.nd rfl (Or.inl rfl)) (fun _ _ _ _ _ => pts_one (pt_cmpR (r := rEqD K) (op_eqD hr.units) (pe_ix (r := rIxT K) ix_tup (pv 10) pe_int (fun _ _ => rfl)) (pv 7) (nomark _))) (fun _ _ _ _ _ => pv 10))
        (pss_cons (ps_if (pt_cmpR op_ne (pe_callB call_len_seq (by rfl) B.len PySem.boot_len (pa_cons (pv 11) pa_nil)) (pe_callB call_len_seq (by rfl) B.len PySem.boot_len (pa_cons (pv 12) pa_nil)) (nomark _)) (pss_one (ps_ret pe_non)) pss_nil)
        (pss_one (ps_for PassesOwn.never rfl (pi_list (pv 11)) (pg_name (i := 10) scWalk.nd rfl (Or.inl rfl))
          (pss_one (ps_for PassesOwn.never rfl (pi_list (pe_lst (pa_cons pe_int (pa_cons pe_int pa_nil)))) (pg_name (i := 13) scWalk.nd rfl (Or.inl rfl))
            (pss_cons (ps_set (i := 14) scWalk.nd rfl (Or.inl rfl) (pe_tup (pa_cons (pe_ix ix_tup (pv 10) (pv 13) (fun _ _ => rfl)) (pa_cons (pe_ix ix_tup (pe_ix ix_list (pv 12) pe_int (fun _ _ => rfl)) (pv 13) (fun _ _ => rfl)) pa_nil))))
              (pss_one (ps_if (pt_cmpR (op_notInD (hu65 hr)) (pv 14) (pv 4) (by rfl)) (pss_one (ps_expr (pe_bm PySem.F.plainAttrs_list PySem.F.slot_list_append PySem.F.type_list_append mt_append (pv 4) (pa_cons (pv 14) pa_nil)))) pss_nil)))))))))))))
        pss_nil)))
    (pss_one (ps_ret (pe_callTy call_tuple_of (by rfl) B.tup (by decide +kernel) (pa_cons (pv 3) pa_nil)))))), ?_⟩
  refine ⟨Nat.zero_le _, fun lt ht => ?_⟩
  have hp1 : upd H lt (.lst []) lp = some (.lst rp) := at_new ht hp
  refine ⟨_, rfl, lp, rp, rfl, .inl (SqL.of hp1), fun lm hm => ?_⟩
  have nlt : lt ≠ lm := ne_of_none upd_same hm
  have hm0 : H lm = none := by
    cases e : H lm with
    | none => rfl
    | some u => rw [at_new ht e] at hm; cases hm
  have k0 : Kp [lt, lm] H (upd (upd H lt (.lst [])) lm (.lst rp)) := (Kp.new ht _).trans (.new hm _)
  have W0 : Walking lt lm H (upd (upd H lt (.lst [])) lm (.lst rp)) (init, []) [] rp := ⟨at_new hm upd_same, upd_same, .nil, k0.prs ap, k0⟩
  have fin : ∀ {H' : Hp}, Kp [lt, lm] H H' → Same H H' := fun k => Kp.same ((k.less ht).less hm0)
  refine ⟨200, rfl, by decide, by decide, for_range (lo := 0) (n := 200) (fun i σ H' => ∃ v5 v6 v7 v8 v9 v10 v11 v12 v13 v14 v15 q rt rm, σ = [some (.ref lc), some (.ref ld), some (.ref lp), some (.ref lt), some (.ref lm), v5, v6, v7, v8, v9, v10, v11, v12, v13, v14, v15] ∧ st cs ds init i = some q ∧ Walking lt lm H H' q rt rm)
    ⟨_, _, _, _, _, _, _, _, _, _, _, _, _, _, rfl, rfl, W0⟩ ?_ ?_⟩
  · rintro i σ H1 hi ⟨v5, v6, v7, v8, v9, v10, v11, v12, v13, v14, v15, q, rt, rm, rfl, hst, W⟩
    have ok := st_ok okc okd uu hst
    have mlen : q.1.length ≤ 103 := ok.g.len i3
    have e0 : (0 : Int) + (i : Int) = (i : Int) := Int.zero_add _
    refine ⟨_, rfl, _, rfl, lm, rm, rfl, .inl (SqL.of W.atM), _, _, rfl, rfl, _, rfl, ite2 (fun c => ?_) (fun c => ?_)⟩
    · have c' : (0 : Int) + (i : Int) < ((rm.length : Nat) : Int) := of_decide_eq_true c
      have him : i < q.1.length := by rw [← W.m.1]; omega
      have hp : q.1[i]? = some q.1[i] := List.getElem?_eq_getElem him
      obtain ⟨v, hv, a, px, py, rfl, ha, hx, hy⟩ := W.m.of hp
      generalize hxy : q.1[i] = xy at hp hx hy
      obtain ⟨x, y⟩ := xy
      have hx : TmAt H1 px x := hx
      have hy : TmAt H1 py y := hy
      have hat : atI rm (0 + (i : Int)) = some (.ref a) := at_of e0 hv
      refine ⟨_, rfl, _, rfl, lm, _, _, _, rfl, rfl, SqL.of W.atM, hat, a, _, _, _, rfl, rfl, SqT.of ha, atI_nat (j := 0) rfl, ?_⟩
      refine ⟨_, rfl, _, rfl, lm, _, _, _, rfl, rfl, SqL.of W.atM, hat, a, _, _, _, rfl, rfl, SqT.of ha, atI_nat (j := 1) rfl, ?_⟩
      refine ⟨fun σ' H2 => ∃ v8 v9 v10 v11 v12 v13 v14 v15 th rt', σ' = [some (.ref lc), some (.ref ld), some (.ref lp), some (.ref lt), some (.ref lm), some (.int (0 + i)), some (.ref px), some (.ref py), v8, v9, v10, v11, v12, v13, v14, v15] ∧
        fit q.2 x y = some th ∧ Walking lt lm H H2 (q.1, th) rt' rm ∧ Kp [lt, lm] H1 H2, ?_, ?_⟩
      · -- do the terms fit?
        refine and_test (decide (x.k = .new)) (decide (y.k = .new)) (fun Q' q' => ⟨_, rfl, px, _, _, _, rfl, rfl, SqT.of hx, atI_nat (j := 0) rfl, rfl, _, rfl, ?_⟩) (fun Q' q' => ⟨_, rfl, py, _, _, _, rfl, rfl, SqT.of hy, atI_nat (j := 0) rfl, rfl, _, rfl, ?_⟩) ?_
        · show Q' (decide (V.str (kstr x.k) = V.str "new")) _
          rw [kdec]
          exact q'
        · show Q' (decide (V.str (kstr y.k) = V.str "new")) _
          rw [kdec]
          exact q'
        by_cases hn : x.k = .new ∧ y.k = .new
        · rw [decide_eq_true hn.1, decide_eq_true hn.2]
          have tl : rt.length ≤ 200 := by rw [W.t.1]; have := ok.l; omega
          refine iteT ⟨_, rfl, lt, rfl, ⟨_, SqL.of W.atT⟩, fun D1 hD1 => filt (R := PrV H1) (fun p => decide (p.1 = x)) hD1 (SqL.of W.atT) W.t (smaller (by omega)) (by show 15 < 16; decide) ?_ fun acc1 hacc1 => ?_⟩
          · rintro v ⟨p1, p2⟩ acc Q' ⟨a', u1, u2, rfl, ha', m1, m2⟩ q'
            refine ⟨_, rfl, a', _, _, _, rfl, rfl, SqT.of (at_new hD1 ha'), atI_nat (j := 0) rfl, _, rfl, td p1, td x, TmAt.dp (at_new hD1 m1), TmAt.dp (at_new hD1 hx), td_shaped _, td_shaped _, _, rfl, ?_⟩
            rw [td_eqv]
            exact q'
          have kk1 : Kp [lt, lm] H1 (upd H1 D1 (.lst acc1)) := .new hD1 _
          have eD1 : upd H1 D1 (.lst acc1) D1 = some (.lst acc1) := upd_same
          have eT1 : upd H1 D1 (.lst acc1) lt = some (.lst rt) := at_new hD1 W.atT
          have eM1 : upd H1 D1 (.lst acc1) lm = some (.lst rm) := at_new hD1 W.atM
          generalize upd H1 D1 (.lst acc1) = H2 at kk1 eD1 eT1 eM1 ⊢
          refine ⟨_, rfl, lt, rfl, ⟨_, SqL.of eT1⟩, fun D2 hD2 => filt (R := PrV H2) (fun p => decide (p.2 = y)) hD2 (SqL.of eT1) (kk1.prs W.t) (smaller (by omega)) (by show 15 < 16; decide) ?_ fun acc2 hacc2 => ?_⟩
          · rintro v ⟨p1, p2⟩ acc Q' ⟨a', u1, u2, rfl, ha', m1, m2⟩ q'
            refine ⟨_, rfl, a', _, _, _, rfl, rfl, SqT.of (at_new hD2 ha'), atI_nat (j := 1) rfl, _, rfl, td p2, td y, TmAt.dp (at_new hD2 m2), TmAt.dp (at_new hD2 (kk1.tm hy)), td_shaped _, td_shaped _, _, rfl, ?_⟩
            rw [td_eqv]
            exact q'
          have kk2 : Kp [lt, lm] H1 (upd H2 D2 (.lst acc2)) := kk1.trans (.new hD2 _)
          have eD2 : upd H2 D2 (.lst acc2) D2 = some (.lst acc2) := upd_same
          have eD1' : upd H2 D2 (.lst acc2) D1 = some (.lst acc1) := at_new hD2 eD1
          have eT2 : upd H2 D2 (.lst acc2) lt = some (.lst rt) := at_new hD2 eT1
          have eM2 : upd H2 D2 (.lst acc2) lm = some (.lst rm) := at_new hD2 eM1
          generalize upd H2 D2 (.lst acc2) = H3 at kk2 eD2 eD1' eT2 eM2 ⊢
          dsimp only [gName]
          refine and_test (decide (acc1.length = 0)) (decide (acc2.length = 0)) (fun Q' q' => ⟨_, rfl, D1, acc1, rfl, .inl (SqL.of eD1'), rfl, _, rfl, ?_⟩) (fun Q' q' => ⟨_, rfl, D2, acc2, rfl, .inl (SqL.of eD2), rfl, _, rfl, ?_⟩) ?_
          · rw [dec_len]
            exact q'
          · rw [dec_len]
            exact q'
          have f1 : acc1.length = 0 ↔ ∀ p ∈ q.2, p.1 ≠ x := by rw [hacc1.1]; exact none_first
          have f2 : acc2.length = 0 ↔ ∀ p ∈ q.2, p.2 ≠ y := by rw [hacc2.1]; exact none_second
          by_cases hf : acc1.length = 0 ∧ acc2.length = 0
          · -- a new pair of new addresses
            rw [decide_eq_true hf.1, decide_eq_true hf.2]
            refine iteT ⟨_, rfl, .inl ⟨rfl, _, SqL.of eT2⟩, _, rfl, _, rfl, by show 2 ≤ sizeLine; decide, fun p hp' => ⟨lt, rt, _, rfl, rfl, at_new hp' eT2, smaller (by omega), ?_⟩⟩
            have kk3 : Kp [lt, lm] H1 (upd H3 p (.tup [.ref px, .ref py])) := kk2.trans (.new hp' _)
            have eP : upd H3 p (.tup [.ref px, .ref py]) p = some (.tup [.ref px, .ref py]) := upd_same
            have eT3 : upd H3 p (.tup [.ref px, .ref py]) lt = some (.lst rt) := at_new hp' eT2
            have eM3 : upd H3 p (.tup [.ref px, .ref py]) lm = some (.lst rm) := at_new hp' eM2
            generalize upd H3 p (.tup [.ref px, .ref py]) = H4 at kk3 eP eT3 eM3 ⊢
            have k4 : Kp [lt, lm] H4 (upd H4 lt (.lst (rt ++ [.ref p]))) := .lst eT3 (by simp) _
            have k5 := kk3.trans k4
            exact ⟨_, _, _, _, _, _, _, _, _, rt ++ [.ref p], rfl, fit_fresh hn (f1.mp hf.1) (f2.mp hf.2), ⟨upd_same, by rw [upd_ne nlt.symm]; exact eM3, (k5.prs W.t).snoc ⟨p, px, py, rfl, k4.tup _ _ eP, k5.tm hx, k5.tm hy⟩, k5.prs W.m, W.kp.trans k5⟩, k5⟩
          · have hff : (decide (acc1.length = 0) && decide (acc2.length = 0)) = false := by
              rw [Bool.and_eq_false_iff]
              by_cases z : acc1.length = 0
              · exact .inr (decide_eq_false fun z2 => hf ⟨z, z2⟩)
              · exact .inl (decide_eq_false z)
            rw [hff]
            have notboth : ¬ ((∀ p ∈ q.2, p.1 ≠ x) ∧ (∀ p ∈ q.2, p.2 ≠ y)) := fun z => hf ⟨f1.mpr z.1, f2.mpr z.2⟩
            refine iteF ⟨_, rfl, _, rfl, by show 2 ≤ sizeLine; decide, fun p hp' => ⟨_, rfl, pd (x, y), q.2.map pd, PrV.dp ⟨p, px, py, rfl, upd_same, at_new hp' (kk2.tm hx), at_new hp' (kk2.tm hy)⟩,
              dp_list (fun _ _ h => h.dp) (at_new hp' eT2) ((kk2.trans (.new hp' _)).prs W.t), pd_shaped _, list_shaped pd_lay pd_depth (by decide) _, _, rfl, ?_⟩⟩
            by_cases hin : (x, y) ∈ q.2
            · rw [any_yes pd_eqv hin]
              have kk3 : Kp [lt, lm] H1 (upd H3 p (.tup [.ref px, .ref py])) := kk2.trans (.new hp' _)
              exact iteF ⟨_, _, _, _, _, _, _, _, _, rt, rfl, fit_there hn hin, ⟨at_new hp' eT2, at_new hp' eM2, kk3.prs W.t, kk3.prs W.m, W.kp.trans kk3⟩, kk3⟩
            · rw [any_no pd_eqv hin]
              refine iteT (ans.1 (turn_dead hi hst hp (turn_nofit ?_)) _ (fin (W.kp.trans (kk2.trans (.new hp' _)))))
              show fit q.2 x y = none
              unfold fit
              rw [if_pos hn, if_neg notboth, if_neg hin]
        · have hff : (decide (x.k = .new) && decide (y.k = .new)) = false := by
            rw [Bool.and_eq_false_iff]
            by_cases z : x.k = .new
            · exact .inr (decide_eq_false fun z2 => hn ⟨z, z2⟩)
            · exact .inl (decide_eq_false z)
          rw [hff]
          refine iteF ⟨_, rfl, _, rfl, td x, td y, hx.dp, hy.dp, td_shaped _, td_shaped _, _, rfl, ?_⟩
          rw [td_eqv]
          by_cases e : x = y
          · rw [decide_eq_true e]
            exact iteF ⟨_, _, _, _, _, _, _, _, _, rt, rfl, by rw [fit_old hn, if_pos e], W, .refl _ _⟩
          · rw [decide_eq_false e]
            refine iteT (ans.1 (turn_dead hi hst hp (turn_nofit ?_)) _ (fin W.kp))
            show fit q.2 x y = none
            rw [fit_old hn, if_neg e]
      · rintro σ' H2 ⟨v8', v9', v10', v11', v12', v13', v14', v15', th, rt', rfl, hfit, W2, k2⟩
        have step : st cs ds init (i + 1) = cellsStep q.1 th (look cs x) (look ds y) := (st_go hst hp).trans (turn_fit hfit)
        have nc1 : lc ≠ lt := ne_of_none hc ht
        have nc2 : lc ≠ lm := ne_of_none hc hm0
        have nd1 : ld ≠ lt := ne_of_none hd ht
        have nd2 : ld ≠ lm := ne_of_none hd hm0
        have ec : H2 lc = some (.lst rc) := W2.kp.but _ _ (by simp [nc1, nc2]) hc
        have ed : H2 ld = some (.lst rd) := W2.kp.but _ _ (by simp [nd1, nd2]) hd
        have bc : rc.length < sizeLine := by rw [ac.1]; exact smaller (by omega)
        have bd : rd.length < sizeLine := by rw [ad.1]; exact smaller (by omega)
        -- the cells at the first, at the second term
        refine ⟨_, rfl, lc, rfl, ⟨_, SqL.of ec⟩, fun D1 hD1 => filt (R := ClV H2) (fun c => decide (c.a = x)) hD1 (SqL.of ec) (W2.kp.cls ac) bc (by show 10 < 16; decide) ?_ fun acc1 hacc1 => ?_⟩
        · rintro v c acc Q' ⟨a', u1, u2, u3, rfl, ha', m1, m2, m3⟩ q'
          refine ⟨_, rfl, a', _, _, _, rfl, rfl, SqT.of (at_new hD1 ha'), atI_nat (j := 0) rfl, _, rfl, td c.a, td x, TmAt.dp (at_new hD1 m1), TmAt.dp (at_new hD1 (k2.tm hx)), td_shaped _, td_shaped _, _, rfl, ?_⟩
          rw [td_eqv]
          exact q'
        rw [filter_look okc.nd] at hacc1
        have kk1 : Kp [lt, lm] H2 (upd H2 D1 (.lst acc1)) := .new hD1 _
        have eD1 : upd H2 D1 (.lst acc1) D1 = some (.lst acc1) := upd_same
        have eT1 : upd H2 D1 (.lst acc1) lt = some (.lst rt') := at_new hD1 W2.atT
        have eM1 : upd H2 D1 (.lst acc1) lm = some (.lst rm) := at_new hD1 W2.atM
        have ed1 : upd H2 D1 (.lst acc1) ld = some (.lst rd) := at_new hD1 ed
        generalize upd H2 D1 (.lst acc1) = H3 at kk1 eD1 eT1 eM1 ed1 ⊢
        refine ⟨_, rfl, ld, rfl, ⟨_, SqL.of ed1⟩, fun D2 hD2 => filt (R := ClV H3) (fun c => decide (c.a = y)) hD2 (SqL.of ed1) (kk1.cls (W2.kp.cls ad)) bd (by show 10 < 16; decide) ?_ fun acc2 hacc2 => ?_⟩
        · rintro v c acc Q' ⟨a', u1, u2, u3, rfl, ha', m1, m2, m3⟩ q'
          refine ⟨_, rfl, a', _, _, _, rfl, rfl, SqT.of (at_new hD2 ha'), atI_nat (j := 0) rfl, _, rfl, td c.a, td y, TmAt.dp (at_new hD2 m1), TmAt.dp (at_new hD2 (kk1.tm (k2.tm hy))), td_shaped _, td_shaped _, _, rfl, ?_⟩
          rw [td_eqv]
          exact q'
        rw [filter_look okd.nd] at hacc2
        have kk2 : Kp [lt, lm] H2 (upd H3 D2 (.lst acc2)) := kk1.trans (.new hD2 _)
        have a1 : All (ClV (upd H3 D2 (.lst acc2))) acc1 (look cs x).toList := kk2.cls hacc1
        have a2 : All (ClV (upd H3 D2 (.lst acc2))) acc2 (look ds y).toList := (Kp.new (S := []) hD2 _).cls hacc2
        have eD2 : upd H3 D2 (.lst acc2) D2 = some (.lst acc2) := upd_same
        have eD1' : upd H3 D2 (.lst acc2) D1 = some (.lst acc1) := at_new hD2 eD1
        have eT2 : upd H3 D2 (.lst acc2) lt = some (.lst rt') := at_new hD2 eT1
        have eM2 : upd H3 D2 (.lst acc2) lm = some (.lst rm) := at_new hD2 eM1
        have nD1 : D1 ≠ lm := (ne_of_none W2.atM hD1).symm
        have nD2 : D2 ≠ lm := (ne_of_none eM1 hD2).symm
        generalize upd H3 D2 (.lst acc2) = H4 at kk2 a1 a2 eD2 eD1' eT2 eM2 ⊢
        refine ⟨_, rfl, D1, acc1, rfl, .inl (SqL.of eD1'), _, rfl, D2, acc2, rfl, .inl (SqL.of eD2), rfl, _, rfl, ?_⟩
        have kp4 : Kp [lt, lm] H H4 := W2.kp.trans kk2
        cases e1 : look cs x with
        | none =>
          rw [e1] at a1
          have z1 : acc1 = [] := List.eq_nil_of_length_eq_zero a1.1
          cases e2 : look ds y with
          | none =>
            rw [e2] at a2
            have z2 : acc2 = [] := List.eq_nil_of_length_eq_zero a2.1
            subst z1 z2
            refine iteNS rfl ⟨_, rfl, D1, rfl, ⟨_, SqL.of eD1'⟩, for_list (xs := []) (fun j σ H' => H' = H4 ∧ ∃ v10, σ = [some (.ref lc), some (.ref ld), some (.ref lp), some (.ref lt), some (.ref lm), some (.int (0 + i)), some (.ref px), some (.ref py), v8', v9', v10, some (.ref D1), some (.ref D2), v13', v14', v15'])
              ⟨rfl, _, rfl⟩ (fun j σ H' _ ⟨e, _⟩ => by rw [e]; exact SqL.of eD1') (fun j v σ H' hv => by simp at hv) ?_⟩
            rintro σ H' ⟨rfl, v10, rfl⟩
            refine ⟨_, _, _, _, _, _, _, _, _, _, _, (q.1, th), rt', rm, rfl, ?_, ⟨eT2, eM2, kk2.prs W2.t, kk2.prs W2.m, kp4⟩⟩
            rw [step, e1, e2]
            rfl
          | some d =>
            rw [e2] at a2
            have l2 : acc2.length = 1 := a2.1
            subst z1
            have ne : decide (V.int ((([] : List V).length : Nat) : Int) = V.int ((acc2.length : Nat) : Int)) = false := decide_eq_false fun z => by rw [l2] at z; cases z
            rw [ne]
            refine iteT (ans.1 (turn_dead hi hst hp ?_) _ (fin kp4))
            rw [turn_fit hfit, e1, e2]
            rfl
        | some c =>
          rw [e1] at a1
          cases e2 : look ds y with
          | none =>
            rw [e2] at a2
            have z2 : acc2 = [] := List.eq_nil_of_length_eq_zero a2.1
            have l1 : acc1.length = 1 := a1.1
            subst z2
            have ne : decide (V.int ((acc1.length : Nat) : Int) = V.int ((([] : List V).length : Nat) : Int)) = false := decide_eq_false fun z => by rw [l1] at z; cases z
            rw [ne]
            refine iteT (ans.1 (turn_dead hi hst hp ?_) _ (fin kp4))
            rw [turn_fit hfit, e1, e2]
            rfl
          | some d =>
            rw [e2] at a2
            obtain ⟨u, rfl⟩ : ∃ u, acc1 = [u] := List.length_eq_one_iff.mp a1.1
            obtain ⟨u', rfl⟩ : ∃ u, acc2 = [u] := List.length_eq_one_iff.mp a2.1
            obtain ⟨ca, p1, p2, p3, rfl, hca, m1, m2, m3⟩ := a1.2 0 _ _ rfl rfl
            obtain ⟨cb, q1, q2, q3, rfl, hcb, n1, n2, n3⟩ := a2.2 0 _ _ rfl rfl
            refine iteNS rfl ⟨_, rfl, D1, rfl, ⟨_, SqL.of eD1'⟩, for_list (xs := [V.ref ca]) (fun j σ H' => ∃ v10 v13 v14 rm', σ = [some (.ref lc), some (.ref ld), some (.ref lp), some (.ref lt), some (.ref lm), some (.int (0 + i)), some (.ref px), some (.ref py), v8', v9', v10, some (.ref D1), some (.ref D2), v13, v14, v15'] ∧
                H' lm = some (.lst rm') ∧ All (PrV H') rm' (if j = 0 then q.1 else meetM q.1 c d) ∧ Kp [lm] H4 H')
              ⟨_, _, _, rm, rfl, eM2, kk2.prs W2.m, .refl _ _⟩ (fun j σ H' _ ⟨_, _, _, _, _, _, _, k⟩ => SqL.of (k.but _ _ (by simpa using nD1) eD1')) ?_ ?_⟩
            · rintro j v σ H5 hv ⟨v10, v13, v14, rm', rfl, em, am, k5⟩
              have hj : j = 0 := by
                have q := (List.getElem?_eq_some_iff.mp hv).1
                simpa using q
              subst hj
              have ev : v = .ref ca := by simpa using hv.symm
              subst ev
              refine ⟨by show 2 ≤ sizeLine; decide, fun lk hk => ⟨lk, rfl, ⟨_, SqL.of upd_same⟩, ?_⟩⟩
              have nk : lk ≠ lm := (ne_of_none em hk).symm
              have k6 : Kp [lm] H4 (upd H5 lk (.lst [.int 1, .int 2])) := k5.trans (.new hk _)
              have elk : upd H5 lk (.lst [.int 1, .int 2]) lk = some (.lst [.int 1, .int 2]) := upd_same
              have em6 : upd H5 lk (.lst [.int 1, .int 2]) lm = some (.lst rm') := at_new hk em
              have am6 : All (PrV (upd H5 lk (.lst [.int 1, .int 2]))) rm' q.1 := (Kp.new (S := []) hk _).prs am
              generalize upd H5 lk (.lst [.int 1, .int 2]) = H6 at k6 elk em6 am6 ⊢
              refine for_list (K := K) (a := lk) (xs := [.int 1, .int 2]) (fun j σ H' => ∃ v13 v14 rm', σ = [some (.ref lc), some (.ref ld), some (.ref lp), some (.ref lt), some (.ref lm), some (.int (0 + i)), some (.ref px), some (.ref py), v8', v9', some (.ref ca), some (.ref D1), some (.ref D2), v13, v14, v15'] ∧
                  H' lm = some (.lst rm') ∧ All (PrV H') rm' (if j = 0 then q.1 else if j = 1 then add q.1 (c.f, d.f) else meetM q.1 c d) ∧ rm'.length ≤ 103 + j ∧ Kp [lm] H4 H' ∧ H' lk = some (.lst [.int 1, .int 2]))
                ⟨_, _, rm', rfl, em6, am6, by rw [am6.1]; exact mlen, k6, elk⟩ (fun j σ H' _ ⟨_, _, _, _, _, _, _, _, e⟩ => SqL.of e) ?_ ?_
              · rintro j v σ H7 hv ⟨v13, v14, rm', rfl, em, am, hl, k7, elk⟩
                have hj : j < 2 := (List.getElem?_eq_some_iff.mp hv).1
                -- the two fields of this turn
                obtain ⟨kz, z1, z2, t1, t2, rfl, x1, x2, y1, y2, mm⟩ : ∃ (kz : Int) (z1 z2 : Addr) (t1 t2 : Tm), v = .int kz ∧ atI ([.ref p1, .ref p2, .ref p3] : List V) kz = some (.ref z1) ∧ atI ([.ref q1, .ref q2, .ref q3] : List V) kz = some (.ref z2) ∧ TmAt H7 z1 t1 ∧ TmAt H7 z2 t2 ∧
                    (if j + 1 = 0 then q.1 else if j + 1 = 1 then add q.1 (c.f, d.f) else meetM q.1 c d) = add (if j = 0 then q.1 else if j = 1 then add q.1 (c.f, d.f) else meetM q.1 c d) (t1, t2) := by
                  have : j = 0 ∨ j = 1 := by omega
                  rcases this with rfl | rfl
                  · have ev : v = .int 1 := by simpa using hv.symm
                    exact ⟨1, p2, q2, c.f, d.f, ev, rfl, rfl, k7.tm m2, k7.tm n2, rfl⟩
                  · have ev : v = .int 2 := by simpa using hv.symm
                    exact ⟨2, p3, q3, c.s, d.s, ev, rfl, rfl, k7.tm m3, k7.tm n3, rfl⟩
                have eD27 : H7 D2 = some (.lst [.ref cb]) := k7.but _ _ (by simpa using nD2) eD2
                refine ⟨_, rfl, _, rfl, ca, _, _, _, rfl, rfl, SqT.of (k7.tup _ _ hca), x1, _, rfl, D2, _, _, _, rfl, rfl, SqL.of eD27, atI_nat (j := 0) rfl, _, rfl, cb, _, _, _, rfl, rfl, SqT.of (k7.tup _ _ hcb), x2, by show 2 ≤ sizeLine; decide, fun p hp' => ?_⟩
                have k8 : Kp [lm] H4 (upd H7 p (.tup [.ref z1, .ref z2])) := k7.trans (.new hp' _)
                have prp : PrV (upd H7 p (.tup [.ref z1, .ref z2])) (.ref p) (t1, t2) := ⟨p, z1, z2, rfl, upd_same, at_new hp' y1, at_new hp' y2⟩
                have em8 : upd H7 p (.tup [.ref z1, .ref z2]) lm = some (.lst rm') := at_new hp' em
                have elk8 : upd H7 p (.tup [.ref z1, .ref z2]) lk = some (.lst [.int 1, .int 2]) := at_new hp' elk
                have am8 := (Kp.new (S := []) hp' (.tup [.ref z1, .ref z2])).prs am
                generalize upd H7 p (.tup [.ref z1, .ref z2]) = H8 at k8 prp em8 elk8 am8 ⊢
                generalize (if j = 0 then q.1 else if j = 1 then add q.1 (c.f, d.f) else meetM q.1 c d) = met at mm am8
                refine ⟨_, rfl, _, rfl, pd (t1, t2), met.map pd, prp.dp, dp_list (fun _ _ h => h.dp) em8 am8, pd_shaped _, list_shaped pd_lay pd_depth (by decide) _, _, rfl, ?_⟩
                by_cases hin : (t1, t2) ∈ met
                · rw [any_yes pd_eqv hin]
                  refine iteF ⟨_, _, rm', rfl, em8, ?_, Nat.le_succ_of_le hl, k8, elk8⟩
                  rw [mm]
                  unfold add
                  rw [if_pos hin]
                  exact am8
                · rw [any_no pd_eqv hin]
                  refine iteT ⟨_, rfl, .inl ⟨rfl, _, SqL.of em8⟩, _, rfl, lm, rm', _, rfl, rfl, em8, smaller (by omega), ?_⟩
                  have k9 : Kp [lm] H8 (upd H8 lm (.lst (rm' ++ [.ref p]))) := .lst em8 (by simp) _
                  refine ⟨_, _, rm' ++ [.ref p], rfl, upd_same, ?_, by rw [List.length_append, List.length_singleton]; omega, k8.trans k9, by rw [upd_ne nk]; exact elk8⟩
                  rw [mm]
                  unfold add
                  rw [if_neg hin]
                  exact (k9.prs am8).snoc (prp.mono k9.tup)
              · rintro σ H7 ⟨v13, v14, rm', rfl, em, am, hl, k7, elk⟩
                exact ⟨_, _, _, rm', rfl, em, am, k7⟩
            · rintro σ H5 ⟨v10, v13, v14, rm', rfl, em, am, k5⟩
              have am : All (PrV H5) rm' (meetM q.1 c d) := am
              have k5' : Kp [lt, lm] H4 H5 := k5.mono (by simp)
              refine ⟨_, _, _, _, _, _, _, _, _, _, _, (meetM q.1 c d, th), rt', rm', rfl, ?_, ⟨k5.but _ _ (by simpa using nlt) eT2, em, (kk2.trans k5').prs W2.t, am, kp4.trans k5'⟩⟩
              rw [step, e1, e2]
              rfl
    · have c' : ¬ (0 : Int) + (i : Int) < ((rm.length : Nat) : Int) := fun z => c (decide_eq_true z)
      have him : q.1.length ≤ i := by rw [← W.m.1]; omega
      exact ⟨_, _, _, _, _, _, _, _, _, _, _, _, _, _, rfl, st_rest hst him, W⟩
  · rintro σ H1 ⟨v5, v6, v7, v8, v9, v10, v11, v12, v13, v14, v15, q, rt, rm, rfl, hst, W⟩
    have hdue : due cs ds init = some q.2 := by unfold due; rw [hst]; rfl
    have ok := st_ok okc okd uu hst
    refine ⟨_, rfl, lt, rt, rfl, .inl ⟨SqL.of W.atT, fun p hp => ?_⟩⟩
    exact ans.2 q.2 p rt _ hdue upd_same ((Kp.new (S := []) hp _).prs W.t) ok.l (fin (W.kp.trans (.new hp _)))
end
end K86

/-! K86D: the program's own class, Matching. -/
namespace K86
open PySem PySem.Spec PyProof.Rows L2
/-! ### its three attributes -/
theorem s_tm : ¬ (("there" : Str) = "met") := by decide +kernel
theorem s_mt : ¬ (("met" : Str) = "there") := by decide +kernel
theorem s_bm : ¬ (("back" : Str) = "met") := by decide +kernel
theorem s_mb : ¬ (("met" : Str) = "back") := by decide +kernel
theorem s_bt : ¬ (("back" : Str) = "there") := by decide +kernel
theorem s_tb : ¬ (("there" : Str) = "back") := by decide +kernel
def mf (l t b : Addr) : List (Str × V) := putF "back" (.ref b) (putF "there" (.ref t) (putF "met" (.ref l) []))
theorem mf_len (l t : Addr) : (putF "there" (.ref t) (putF "met" (.ref l) [])).length < 1000 := by
  have h1 := length_putF "met" (.ref l) []
  have h2 := length_putF "there" (.ref t) (putF "met" (.ref l) [])
  simp only [List.length_nil] at h1
  omega
theorem mf_met (l t b : Addr) : (mf l t b).lookup ("met" : Str) = some (.ref l) := by
  unfold mf
  rw [lookup_putF, if_neg s_mb, lookup_putF, if_neg s_mt, lookup_putF, if_pos rfl]
theorem mf_there (l t b : Addr) : (mf l t b).lookup ("there" : Str) = some (.ref t) := by
  unfold mf
  rw [lookup_putF, if_neg s_tb, lookup_putF, if_pos rfl]
theorem mf_back (l t b : Addr) : (mf l t b).lookup ("back" : Str) = some (.ref b) := by
  unfold mf
  rw [lookup_putF, if_pos rfl]
theorem mf_no (l t b : Addr) {m : Str} (h1 : ¬ m = "met") (h2 : ¬ m = "there") (h3 : ¬ m = "back") : (mf l t b).lookup m = none := by
  unfold mf
  rw [lookup_putF, if_neg h3, lookup_putF, if_neg h2, lookup_putF, if_neg h1]
  rfl

/-! ### tables keyed by terms -/
theorem val_find {α : Type} {R : V → α → Prop} {key : α → Tm} {x : Tm} : ∀ {kvs : List (List L2.Key × V)} {as : List α}, All (fun (kv : List L2.Key × V) a => kv.1 = tk (key a) ∧ R kv.2 a) kvs as →
    (as.find? (fun a => decide (key a = x)) = none ∧ valV kvs (tk x) = none) ∨ ∃ a v, as.find? (fun a => decide (key a = x)) = some a ∧ valV kvs (tk x) = some v ∧ R v a
  | [], [], _ => .inl ⟨rfl, rfl⟩
  | [], _ :: _, h => by cases h.1
  | _ :: _, [], h => by cases h.1
  | kv :: kvs, a :: as, h => by
    obtain ⟨⟨h1, h2⟩, ht⟩ := h.tail
    rw [List.find?_cons]
    by_cases e : key a = x
    · refine .inr ⟨a, kv.2, ?_, valV_pos (h1.trans (by rw [e])), h2⟩
      rw [decide_eq_true e]
    · rw [decide_eq_false e, valV_neg (fun z => e (tk_inj (h1.symm.trans z)))]
      exact val_find ht
abbrev swap (p : Pr) : Pr := (p.2, p.1)
/-- a table of terms: the first of each pair gives the second -/
def TabV (H : Hp) (kvs : List (List L2.Key × V)) (ps : List Pr) : Prop := All (fun (kv : List L2.Key × V) (p : Pr) => kv.1 = tk p.1 ∧ TmV H kv.2 p.2) kvs ps
theorem TabV.mono {H H' : Hp} {kvs : List (List L2.Key × V)} {ps : List Pr} (h : TabV H kvs ps) (k : Tups H H') : TabV H' kvs ps := All.mono h fun _ _ q => ⟨q.1, q.2.mono k⟩
theorem TabV.get {H : Hp} {kvs : List (List L2.Key × V)} {ps : List Pr} {x : Tm} (h : TabV H kvs ps) :
    ((∀ p ∈ ps, p.1 ≠ x) ∧ valV kvs (tk x) = none) ∨ ∃ y v, (x, y) ∈ ps ∧ valV kvs (tk x) = some v ∧ TmV H v y := by
  rcases val_find (key := fun p : Pr => p.1) (R := fun v (p : Pr) => TmV H v p.2) (x := x) h with ⟨h1, h2⟩ | ⟨p, v, h1, h2, h3⟩
  · refine .inl ⟨fun p hp e => ?_, h2⟩
    have := List.find?_eq_none.mp h1 p hp
    exact this (decide_eq_true e)
  · have m := List.mem_of_find?_eq_some h1
    have e : p.1 = x := of_decide_eq_true (List.find?_some (p := fun a : Pr => decide (a.1 = x)) h1)
    exact .inr ⟨p.2, v, by rw [← e]; exact m, h2, h3⟩
/-- a Matching at p, its dict at dx: the pairs met at l, the matched ones at t, and turned round at b -/
structure Mat (C p dx l t b : Addr) (H : Hp) (met th : List Pr) : Prop where
  ins : H p = some (.ins C dx (mf l t b))
  atM : ∃ rm, H l = some (.lst rm) ∧ All (PrV H) rm met
  atT : ∃ kt, H t = some (.dT kt) ∧ TabV H kt th
  atB : ∃ kb, H b = some (.dT kb) ∧ TabV H kb (th.map swap)
  ne : t ≠ b
theorem Mat.keep {C p dx l t b : Addr} {H H' : Hp} {met th : List Pr} (x : Mat C p dx l t b H met th) {S : List Addr} (k : Kp S H H') (h : ∀ a ∈ [p, l, t, b], a ∉ S) : Mat C p dx l t b H' met th := by
  obtain ⟨h1, ⟨rm, h2, h2'⟩, ⟨kt, h3, h3'⟩, ⟨kb, h4, h4'⟩, ne⟩ := x
  exact ⟨k.but _ _ (h p (by simp)) h1, ⟨rm, k.but _ _ (h l (by simp)) h2, k.prs h2'⟩, ⟨kt, k.but _ _ (h t (by simp)) h3, h3'.mono k.tup⟩, ⟨kb, k.but _ _ (h b (by simp)) h4, h4'.mono k.tup⟩, ne⟩
/-- what the text has of the class -/
structure Txt (K : PySem.W.Frag) (mg : Str → Option Value) (C : Addr) : Prop where
  cl : Cls K C
  nM : NoAttr K C "met"
  nT : NoAttr K C "there"
  nB : NoAttr K C "back"
  mgC : mg "Matching" = some (.ref C)
section
variable {P : Program} {w : World} {K : PySem.W.Frag} {mg : Str → Option Value} {base : Heap} {f C : Addr} {fd : FuncData}
/-! ### made -/
def spInit (C : Addr) : Sp := fun vs H Q _ => ∃ (p dx lp : Addr) (rp : List V) (init : List Pr), vs = [.ref p, .ref lp] ∧ H p = some (.ins C dx []) ∧ H lp = some (.lst rp) ∧ All (PrV H) rp init ∧
  ∀ l t b H', H l = none → H t = none → H b = none → Mat C p dx l t b H' init [] → Kp [p] H H' → Q .non H'
theorem scInit : FnScope ["self", "pairs"] ["self", "pairs"] (defScope sInit) := ⟨rfl, rfl, rfl, by decide +kernel, rfl, by decide +kernel, by decide +kernel⟩
theorem ok_init (F : Fun K "__init__" "Matching.__init__" sInit f fd) (T : Txt K mg C) (B : Bi mg) : FnOk P w K mg base CX0 1 f fd ["self", "pairs"] (spInit C) := by
  refine F.ok scInit (fun vs H Q E h => ?_) (fun cdv A outer s H vs Q E hr h => ?_)
  · obtain ⟨p, dx, lp, rp, init, rfl, _⟩ := h
    rfl
  obtain ⟨p, dx, lp, rp, init, rfl, hp, hl, ap, k⟩ := h
  refine ⟨_, pss_cons (ps_fld (pv 0) (pe_callTy call_list_of (by rfl) B.list (by decide +kernel) (pa_cons (pv 1) pa_nil)) rfl) (pss_cons (ps_fld (pv 0) pe_dnewT rfl) (pss_one (ps_fld (pv 0) pe_dnewT rfl))), ?_⟩
  refine ⟨_, rfl, lp, rp, rfl, .inl (SqL.of hl), fun l hl0 => ?_⟩
  have p1 : upd H l (.lst rp) p = some (.ins C dx []) := at_new hl0 hp
  refine ⟨_, rfl, p, C, dx, [], rfl, p1, T.cl, T.nM, by decide, fun t ht0 => ?_⟩
  have p2 : upd (upd H l (.lst rp)) p (.ins C dx (putF "met" (.ref l) [])) p = some (.ins C dx (putF "met" (.ref l) [])) := upd_same
  have f1 : Kp [p] H (upd H l (.lst rp)) := .new hl0 _
  have f2 : Kp [p] (upd H l (.lst rp)) (upd (upd H l (.lst rp)) p (.ins C dx (putF "met" (.ref l) []))) := .put p1 (fun _ z => nomatch z) (by simp) _
  have npl : p ≠ l := ne_of_none hp hl0
  have l2 : upd (upd H l (.lst rp)) p (.ins C dx (putF "met" (.ref l) [])) l = some (.lst rp) := by rw [upd_ne npl.symm]; exact upd_same
  have g2 := f1.trans f2
  generalize upd (upd H l (.lst rp)) p (.ins C dx (putF "met" (.ref l) [])) = H2 at ht0 p2 g2 l2 ⊢
  have p3 : upd H2 t (.dT []) p = some (.ins C dx (putF "met" (.ref l) [])) := at_new ht0 p2
  refine ⟨_, rfl, p, C, dx, _, rfl, p3, T.cl, T.nT, ?_, fun b hb0 => ?_⟩
  · have h1 := length_putF "met" (.ref l) []
    simp only [List.length_nil] at h1
    omega
  have npt : p ≠ t := ne_of_none p2 ht0
  have nlt : l ≠ t := ne_of_none l2 ht0
  have f3 : Kp [p] H2 (upd H2 t (.dT [])) := .new ht0 _
  have f4 : Kp [p] (upd H2 t (.dT [])) (upd (upd H2 t (.dT [])) p (.ins C dx (putF "there" (.ref t) (putF "met" (.ref l) [])))) := .put p3 (fun _ z => nomatch z) (by simp) _
  have g4 := (g2.trans f3).trans f4
  have p4 : upd (upd H2 t (.dT [])) p (.ins C dx (putF "there" (.ref t) (putF "met" (.ref l) []))) p = some (.ins C dx (putF "there" (.ref t) (putF "met" (.ref l) []))) := upd_same
  have t4 : upd (upd H2 t (.dT [])) p (.ins C dx (putF "there" (.ref t) (putF "met" (.ref l) []))) t = some (.dT []) := by rw [upd_ne npt.symm]; exact upd_same
  have l4 : upd (upd H2 t (.dT [])) p (.ins C dx (putF "there" (.ref t) (putF "met" (.ref l) []))) l = some (.lst rp) := by rw [upd_ne npl.symm]; exact at_new ht0 l2
  generalize upd (upd H2 t (.dT [])) p (.ins C dx (putF "there" (.ref t) (putF "met" (.ref l) []))) = H4 at hb0 p4 g4 t4 l4 ⊢
  have p5 : upd H4 b (.dT []) p = some (.ins C dx (putF "there" (.ref t) (putF "met" (.ref l) []))) := at_new hb0 p4
  refine ⟨_, rfl, p, C, dx, _, rfl, p5, T.cl, T.nB, mf_len l t, ?_⟩
  have npb : p ≠ b := ne_of_none p4 hb0
  have ntb : t ≠ b := ne_of_none t4 hb0
  have f5 : Kp [p] H4 (upd H4 b (.dT [])) := .new hb0 _
  have f6 : Kp [p] (upd H4 b (.dT [])) (upd (upd H4 b (.dT [])) p (.ins C dx (mf l t b))) := .put p5 (fun _ z => nomatch z) (by simp) _
  have g6 := (g4.trans f5).trans f6
  have old : ∀ {a : Addr} {H' : Hp}, Kp [p] H H' → a ≠ p → H' a = none → H a = none := fun {a H'} k n e => by
    cases z : H a with
    | none => rfl
    | some u => rw [k.but _ _ (by simpa using n) z] at e; cases e
  refine k l t b _ hl0 (old g2 npt.symm ht0) (old g4 npb.symm hb0) ⟨upd_same, ⟨rp, ?_, g6.prs ap⟩, ⟨[], ?_, .nil⟩, ⟨[], ?_, .nil⟩, ntb⟩ g6
  · rw [upd_ne npl.symm]
    exact at_new hb0 l4
  · rw [upd_ne npt.symm]
    exact at_new hb0 t4
  · rw [upd_ne npb.symm]
    exact upd_same
/-! ### do two terms fit? -/
def spFits (C : Addr) : Sp := fun vs H Q _ => ∃ (p dx l t b px py : Addr) (met th : List Pr) (x y : Tm), vs = [.ref p, .ref px, .ref py] ∧ Mat C p dx l t b H met th ∧ TmAt H px x ∧ TmAt H py y ∧ Bij th ∧ th.length ≤ 1000 ∧
  (∀ th' H', fit th x y = some th' → Mat C p dx l t b H' met th' → Kp [t, b] H H' → Q (.bl true) H') ∧ (fit th x y = none → ∀ H', Kp [t, b] H H' → Q (.bl false) H')
theorem or_test {t u : TT} {σ : L2.St} {H : Hp} {Q : Bool → Hp → Prop} (a b : Bool) (h1 : ∀ Q' : Bool → Hp → Prop, Q' a H → t σ H Q') (h2 : ∀ Q' : Bool → Hp → Prop, Q' b H → u σ H Q') (q : Q (a || b) H) : tOr t u σ H Q := by
  refine h1 _ ?_
  cases a with
  | true => exact iteT q
  | false => exact iteF (h2 _ q)
theorem scFits : FnScope ["self", "first", "second"] ["self", "first", "second"] (defScope sFits) := ⟨rfl, rfl, rfl, by decide +kernel, rfl, by decide +kernel, by decide +kernel⟩
theorem ok_fits (F : Fun K "fits" "Matching.fits" sFits f fd) (T : Txt K mg C) : FnOk P w K mg base CX0 1 f fd ["self", "first", "second"] (spFits C) := by
  refine F.ok scFits (fun vs H Q E h => ?_) (fun cdv A outer s H vs Q E hr h => ?_)
  · obtain ⟨p, dx, l, t, b, px, py, met, th, x, y, rfl, _⟩ := h
    rfl
  obtain ⟨p, dx, l, t, b, px, py, met, th, x, y, rfl, M, hx, hy, bij, len, yes, no⟩ := h
  refine ⟨_, pss_cons (ps_if (pw_or (pt_cmpR op_ne (pe_ix ix_tup (pv 1) pe_int (fun _ _ => rfl)) pe_str (nomark _)) (pw_or1 (pt_cmpR op_ne (pe_ix ix_tup (pv 2) pe_int (fun _ _ => rfl)) pe_str (nomark _)))).pt
      (pss_one (ps_ret (pe_cmpR (op_eqD hr.units) (pv 1) (pv 2) (nomark _)))) pss_nil)
    (pss_one (ps_ret (pe_and (pe_cmpR (op_eqD hr.units) (pe_bm PySem.F.plainAttrs_dict PySem.F.slot_dict_setdefault PySem.F.type_dict_setdefault (mt_setdT (hu_of hr)) (pe_fld (pv 0) rfl) (pa_cons (pv 1) (pa_cons (pv 2) pa_nil))) (pv 2) (nomark _))
      (pe_one (pe_cmpR (op_eqD hr.units) (pe_bm PySem.F.plainAttrs_dict PySem.F.slot_dict_setdefault PySem.F.type_dict_setdefault (mt_setdT (hu_of hr)) (pe_fld (pv 0) rfl) (pa_cons (pv 2) (pa_cons (pv 1) pa_nil))) (pv 1) (nomark _)))))), ?_⟩
  refine or_test (!decide (x.k = .new)) (!decide (y.k = .new)) (fun Q' q' => ⟨_, rfl, px, _, _, _, rfl, rfl, SqT.of hx, atI_nat (j := 0) rfl, rfl, _, rfl, ?_⟩) (fun Q' q' => ⟨_, rfl, py, _, _, _, rfl, rfl, SqT.of hy, atI_nat (j := 0) rfl, rfl, _, rfl, ?_⟩) ?_
  · show Q' (!decide (V.str (kstr x.k) = V.str "new")) _
    rw [kdec]
    exact q'
  · show Q' (!decide (V.str (kstr y.k) = V.str "new")) _
    rw [kdec]
    exact q'
  by_cases hn : x.k = .new ∧ y.k = .new
  · rw [decide_eq_true hn.1, decide_eq_true hn.2]
    refine iteF ?_
    obtain ⟨kt, ht, at_⟩ := M.atT
    obtain ⟨kb, hb, ab⟩ := M.atB
    have lt : kt.length < sizeLine := by rw [at_.1]; exact smaller (by omega)
    have lb : kb.length < sizeLine := by rw [ab.1, List.length_map]; exact smaller (by omega)
    have tyT : ∀ {H' : Hp} {a : Addr} {kvs : List (List L2.Key × V)}, H' a = some (.dT kvs) → tyV K "dict" (.ref a) H' := fun h => .inr (.inr (.inl ⟨rfl, .inr ⟨_, h⟩⟩))
    rcases at_.get (x := x) with ⟨f1, e1⟩ | ⟨z, v, m1, e1, z1⟩
    · -- the first is new
      refine ⟨_, rfl, p, C, dx, _, _, rfl, M.ins, T.cl, T.nT, mf_there _ _ _, tyT ht, _, rfl, _, rfl, t, px, kt, tk x, _, rfl, rfl, ht, hx, lt, (fun v e => by rw [e1] at e; cases e), fun _ => ?_⟩
      have k1 : Kp [t, b] H (upd H t (.dT (kt ++ [(tk x, .ref py)]))) := .put ht (fun _ z => nomatch z) (by simp) _
      have ht1 : upd H t (.dT (kt ++ [(tk x, .ref py)])) t = some (.dT (kt ++ [(tk x, .ref py)])) := upd_same
      have hb1 : upd H t (.dT (kt ++ [(tk x, .ref py)])) b = some (.dT kb) := by rw [upd_ne M.ne.symm]; exact hb
      have k1' : Kp [t] H (upd H t (.dT (kt ++ [(tk x, .ref py)]))) := .put ht (fun _ z => nomatch z) (by simp) _
      have npt : p ≠ t := ne_of M.ins ht (fun z => nomatch z)
      have hp1 : upd H t (.dT (kt ++ [(tk x, .ref py)])) p = some (.ins C dx (mf l t b)) := by rw [upd_ne npt]; exact M.ins
      obtain ⟨rm, hm, am⟩ := M.atM
      have nlt : l ≠ t := ne_of hm ht (fun z => nomatch z)
      have hm1 : upd H t (.dT (kt ++ [(tk x, .ref py)])) l = some (.lst rm) := by rw [upd_ne nlt]; exact hm
      generalize upd H t (.dT (kt ++ [(tk x, .ref py)])) = H1 at k1 k1' ht1 hb1 hp1 hm1 ⊢
      refine ⟨_, rfl, td y, td y, (k1.tm hy).dp, (k1.tm hy).dp, td_shaped _, td_shaped _, _, rfl, ?_⟩
      rw [td_eqv, decide_eq_true rfl]
      have ab1 : TabV H1 kb (th.map swap) := ab.mono k1.tup
      rcases ab1.get (x := y) with ⟨f2, e2⟩ | ⟨z, v, m2, e2, z2⟩
      · -- both are new
        refine iteT ⟨_, rfl, p, C, dx, _, _, rfl, hp1, T.cl, T.nB, mf_back _ _ _, tyT hb1, _, rfl, _, rfl, b, py, kb, tk y, _, rfl, rfl, hb1, k1.tm hy, lb, (fun v e => by rw [e2] at e; cases e), fun _ => ?_⟩
        have k2 : Kp [t, b] H1 (upd H1 b (.dT (kb ++ [(tk y, .ref px)]))) := .put hb1 (fun _ z => nomatch z) (by simp) _
        have k3 := k1.trans k2
        refine ⟨_, rfl, td x, td x, (k3.tm hx).dp, (k3.tm hx).dp, td_shaped _, td_shaped _, ?_⟩
        rw [td_eqv, decide_eq_true rfl]
        have f2' : ∀ q ∈ th, q.2 ≠ y := fun q hq => f2 (swap q) (List.mem_map.mpr ⟨q, hq, rfl⟩)
        have npb : p ≠ b := ne_of hp1 hb1 (fun z => nomatch z)
        have nlb : l ≠ b := ne_of hm1 hb1 (fun z => nomatch z)
        refine yes (th ++ [(x, y)]) _ (fit_fresh hn f1 f2') ⟨by rw [upd_ne npb]; exact hp1, ⟨rm, by rw [upd_ne nlb]; exact hm1, k3.prs am⟩, ⟨_, by rw [upd_ne M.ne]; exact ht1, ?_⟩, ⟨_, upd_same, ?_⟩, M.ne⟩ k3
        · exact (at_.mono k3.tup).snoc ⟨rfl, py, rfl, k3.tm hy⟩
        · rw [List.map_append]
          exact (ab1.mono k2.tup).snoc ⟨rfl, px, rfl, k3.tm hx⟩
      · -- the second is matched with another one
        obtain ⟨⟨q1, q2⟩, hq, eq⟩ := List.mem_map.mp m2
        have e3 : q2 = y ∧ q1 = z := ⟨congrArg Prod.fst eq, congrArg Prod.snd eq⟩
        obtain ⟨rfl, rfl⟩ := e3
        have nz : q1 ≠ x := f1 _ hq
        refine iteT ⟨_, rfl, p, C, dx, _, _, rfl, hp1, T.cl, T.nB, mf_back _ _ _, tyT hb1, _, rfl, _, rfl, b, py, kb, tk q2, _, rfl, rfl, hb1, k1.tm hy, lb, (fun v' e => ?_), fun e => by rw [e2] at e; cases e⟩
        have ev : v = v' := Option.some.inj (e2.symm.trans e)
        subst ev
        refine ⟨_, rfl, td q1, td x, z2.dp, (k1.tm hx).dp, td_shaped _, td_shaped _, ?_⟩
        rw [td_eqv, decide_eq_false nz]
        exact no (fit_other2 bij hn hq nz) _ k1
    · -- the first is matched with z
      refine ⟨_, rfl, p, C, dx, _, _, rfl, M.ins, T.cl, T.nT, mf_there _ _ _, tyT ht, _, rfl, _, rfl, t, px, kt, tk x, _, rfl, rfl, ht, hx, lt, (fun v' e => ?_), fun e => by rw [e1] at e; cases e⟩
      have ev : v = v' := Option.some.inj (e1.symm.trans e)
      subst ev
      refine ⟨_, rfl, td z, td y, z1.dp, hy.dp, td_shaped _, td_shaped _, _, rfl, ?_⟩
      rw [td_eqv]
      by_cases ez : z = y
      · rw [decide_eq_true ez]
        subst ez
        rcases ab.get (x := z) with ⟨f2, e2⟩ | ⟨u, v2, m2, e2, z2⟩
        · exact absurd rfl (f2 (swap (x, z)) (List.mem_map.mpr ⟨_, m1, rfl⟩))
        · obtain ⟨⟨q1, q2⟩, hq, eq⟩ := List.mem_map.mp m2
          have e3 : q2 = z ∧ q1 = u := ⟨congrArg Prod.fst eq, congrArg Prod.snd eq⟩
          obtain ⟨rfl, rfl⟩ := e3
          have eu : q1 = x := nd_val2 bij.two hq m1
          refine iteT ⟨_, rfl, p, C, dx, _, _, rfl, M.ins, T.cl, T.nB, mf_back _ _ _, tyT hb, _, rfl, _, rfl, b, py, kb, tk q2, _, rfl, rfl, hb, hy, lb, (fun v' e => ?_), fun e => by rw [e2] at e; cases e⟩
          have ev : v2 = v' := Option.some.inj (e2.symm.trans e)
          subst ev
          refine ⟨_, rfl, td q1, td x, z2.dp, hx.dp, td_shaped _, td_shaped _, ?_⟩
          rw [td_eqv, decide_eq_true eu]
          exact yes th H (fit_there hn m1) M (.refl _ _)
      · rw [decide_eq_false ez]
        exact iteF (no (fit_other1 bij hn m1 ez) H (.refl _ _))
  · have hff : (!decide (x.k = .new) || !decide (y.k = .new)) = true := by
      by_cases z : x.k = .new
      · have z2 : ¬ y.k = .new := fun q => hn ⟨z, q⟩
        rw [decide_eq_false z2, Bool.or_comm]
        rfl
      · rw [decide_eq_false z]
        rfl
    rw [hff]
    refine iteT ⟨_, rfl, _, rfl, td x, td y, hx.dp, hy.dp, td_shaped _, td_shaped _, ?_⟩
    rw [td_eqv]
    by_cases e : x = y
    · rw [decide_eq_true e]
      exact yes th H (by rw [fit_old hn, if_pos e]) M (.refl _ _)
    · rw [decide_eq_false e]
      exact no (by rw [fit_old hn, if_neg e]) H (.refl _ _)
/-! ### the fields of two cells are met -/
def spMeet (C : Addr) : Sp := fun vs H Q _ => ∃ (p dx l t b ca cb : Addr) (met th : List Pr) (c d : Cl), vs = [.ref p, .ref ca, .ref cb] ∧ Mat C p dx l t b H met th ∧ ClV H (.ref ca) c ∧ ClV H (.ref cb) d ∧ met.length ≤ 1000 ∧
  ∀ H', Mat C p dx l t b H' (meetM met c d) th → Kp [l] H H' → Q .non H'
theorem scMeet : FnScope ["self", "cell", "other", "pair"] ["self", "cell", "other"] (defScope sMeet) := ⟨rfl, rfl, rfl, by decide +kernel, rfl, by decide +kernel, by decide +kernel⟩
theorem ok_meet (F : Fun K "meet" "Matching.meet" sMeet f fd) (T : Txt K mg C) (B : Bi mg) : FnOk P w K mg base CX0 1 f fd ["self", "cell", "other"] (spMeet C) := by
  refine F.ok scMeet (fun vs H Q E h => ?_) (fun cdv A outer s H vs Q E hr h => ?_)
  · obtain ⟨p, dx, l, t, b, ca, cb, met, th, c, d, rfl, _⟩ := h
    rfl
  obtain ⟨p, dx, l, t, b, ca, cb, met, th, c, d, rfl, M, ⟨ca', p1, p2, p3, ea, hca, m1, m2, m3⟩, ⟨cb', q1, q2, q3, eb, hcb, n1, n2, n3⟩, len, k⟩ := h
  cases ea
  cases eb
  refine ⟨_, pss_one (ps_for PassesOwn.never rfl (pi_zipN (by rfl) B.zip (pa_cons (pe_slice sl_tup (pv 1) (po_some pe_int) po_none) (pa_cons (pe_slice sl_tup (pv 2) (po_some pe_int) po_none) pa_nil))) (pg_name (i := 3) scMeet.nd rfl (Or.inl rfl))
    (pss_one (ps_if (pt_cmpR (op_notInD (hu65 hr)) (pv 3) (pe_fld (pv 0) rfl) (by rfl))
      (pss_one (ps_expr (pe_bm PySem.F.plainAttrs_list PySem.F.slot_list_append PySem.F.type_list_append mt_append (pe_fld (pv 0) rfl) (pa_cons (pv 3) pa_nil)))) pss_nil))), ?_⟩
  refine ⟨_, rfl, 1, rfl, ca, _, rfl, SqT.of hca, (by show ¬ (HT.sIx 3 0 (some 1) = 0 ∧ HT.sIx 3 3 none = 3); decide), fun a1 ha1 => ?_⟩
  refine ⟨_, rfl, 1, rfl, cb, _, rfl, SqT.of (at_new ha1 hcb), (by show ¬ (HT.sIx 3 0 (some 1) = 0 ∧ HT.sIx 3 3 none = 3); decide), fun a2 ha2 => ?_⟩
  have e1 : cutV [.ref p1, .ref p2, .ref p3] (some 1) none = [.ref p2, .ref p3] := rfl
  have e2 : cutV [.ref q1, .ref q2, .ref q3] (some 1) none = [.ref q2, .ref q3] := rfl
  rw [e1] at ha2 ⊢
  rw [e2]
  have k0 : Kp [l] H (upd (upd H a1 (.tup [.ref p2, .ref p3])) a2 (.tup [.ref q2, .ref q3])) := (Kp.new ha1 _).trans (.new ha2 _)
  have kk0 : Kp [] H (upd (upd H a1 (.tup [.ref p2, .ref p3])) a2 (.tup [.ref q2, .ref q3])) := (Kp.new ha1 _).trans (.new ha2 _)
  have h1 : upd (upd H a1 (.tup [.ref p2, .ref p3])) a2 (.tup [.ref q2, .ref q3]) a1 = some (.tup [.ref p2, .ref p3]) := at_new ha2 upd_same
  have h2 : upd (upd H a1 (.tup [.ref p2, .ref p3])) a2 (.tup [.ref q2, .ref q3]) a2 = some (.tup [.ref q2, .ref q3]) := upd_same
  have M0 := M.keep kk0 (fun _ _ => by simp)
  generalize upd (upd H a1 (.tup [.ref p2, .ref p3])) a2 (.tup [.ref q2, .ref q3]) = H0 at k0 h1 h2 M0 ⊢
  refine ⟨a1, a2, _, _, rfl, SqT.of h1, SqT.of h2, for_zipN (xs := [.ref p2, .ref p3]) (ys := [.ref q2, .ref q3]) rfl (fun j σ H' => ∃ v3, σ = [some (.ref p), some (.ref ca), some (.ref cb), v3] ∧
      Mat C p dx l t b H' (if j = 0 then met else if j = 1 then add met (c.f, d.f) else meetM met c d) th ∧ Kp [l] H H' ∧ (if j = 0 then met else if j = 1 then add met (c.f, d.f) else meetM met c d).length ≤ 1000 + j ∧ H' a1 = some (.tup [.ref p2, .ref p3]) ∧ H' a2 = some (.tup [.ref q2, .ref q3]))
    ⟨_, rfl, M0, k0, len, h1, h2⟩ (fun j σ H' ⟨_, _, _, _, _, x1, x2⟩ => ⟨SqT.of x1, SqT.of x2⟩) ?_ ?_⟩
  · rintro j u v a3 σ H1 hu hv ⟨v3, rfl, M1, k1, l1, x1, x2⟩ ha3
    have hj : j < 2 := (List.getElem?_eq_some_iff.mp hu).1
    obtain ⟨z1, z2, t1, t2, rfl, rfl, y1, y2, mm⟩ : ∃ (z1 z2 : Addr) (t1 t2 : Tm), u = .ref z1 ∧ v = .ref z2 ∧ TmAt H1 z1 t1 ∧ TmAt H1 z2 t2 ∧
        (if j + 1 = 0 then met else if j + 1 = 1 then add met (c.f, d.f) else meetM met c d) = add (if j = 0 then met else if j = 1 then add met (c.f, d.f) else meetM met c d) (t1, t2) := by
      have : j = 0 ∨ j = 1 := by omega
      rcases this with rfl | rfl
      · exact ⟨p2, q2, c.f, d.f, by simpa using hu.symm, by simpa using hv.symm, k1.tm m2, k1.tm n2, rfl⟩
      · exact ⟨p3, q3, c.s, d.s, by simpa using hu.symm, by simpa using hv.symm, k1.tm m3, k1.tm n3, rfl⟩
    have k2 : Kp [l] H (upd H1 a3 (.tup [.ref z1, .ref z2])) := k1.trans (.new ha3 _)
    have M2 := M1.keep (Kp.new (S := []) ha3 (.tup [.ref z1, .ref z2])) (fun _ _ => by simp)
    have prp : PrV (upd H1 a3 (.tup [.ref z1, .ref z2])) (.ref a3) (t1, t2) := ⟨a3, z1, z2, rfl, upd_same, at_new ha3 y1, at_new ha3 y2⟩
    have x1' : upd H1 a3 (.tup [.ref z1, .ref z2]) a1 = some (.tup [.ref p2, .ref p3]) := at_new ha3 x1
    have x2' : upd H1 a3 (.tup [.ref z1, .ref z2]) a2 = some (.tup [.ref q2, .ref q3]) := at_new ha3 x2
    generalize upd H1 a3 (.tup [.ref z1, .ref z2]) = H2 at k2 M2 prp x1' x2' ⊢
    generalize (if j = 0 then met else if j = 1 then add met (c.f, d.f) else meetM met c d) = met1 at mm M2 l1
    obtain ⟨rm, hm, am⟩ := M2.atM
    refine ⟨_, rfl, _, rfl, p, C, dx, _, _, rfl, M2.ins, T.cl, T.nM, mf_met _ _ _, pd (t1, t2), met1.map pd, prp.dp, dp_list (fun _ _ h => h.dp) hm am, pd_shaped _, list_shaped pd_lay pd_depth (by decide) _, _, rfl, ?_⟩
    by_cases hin : (t1, t2) ∈ met1
    · rw [any_yes pd_eqv hin]
      refine iteF ⟨_, rfl, ?_, k2, ?_, x1', x2'⟩
      · rw [mm]
        unfold add
        rw [if_pos hin]
        exact M2
      · rw [mm]
        unfold add
        rw [if_pos hin]
        omega
    · rw [any_no pd_eqv hin]
      refine iteT ⟨_, rfl, p, C, dx, _, _, rfl, M2.ins, T.cl, T.nM, mf_met _ _ _, .inl ⟨rfl, _, SqL.of hm⟩, _, rfl, l, rm, _, rfl, rfl, hm, by rw [am.1]; exact smaller (by omega), ?_⟩
      have k3 : Kp [l] H2 (upd H2 l (.lst (rm ++ [.ref a3]))) := .lst hm (by simp) _
      have npl : p ≠ l := ne_of M2.ins hm (fun z => nomatch z)
      obtain ⟨kt, ht, at_⟩ := M2.atT
      obtain ⟨kb, hb, ab⟩ := M2.atB
      have ntl : t ≠ l := ne_of ht hm (fun z => nomatch z)
      have nbl : b ≠ l := ne_of hb hm (fun z => nomatch z)
      refine ⟨_, rfl, ?_, k2.trans k3, ?_, by rw [upd_ne (ne_of x1' hm (fun z => nomatch z))]; exact x1', by rw [upd_ne (ne_of x2' hm (fun z => nomatch z))]; exact x2'⟩
      · rw [mm]
        unfold add
        rw [if_neg hin]
        exact ⟨by rw [upd_ne npl]; exact M2.ins, ⟨_, upd_same, (k3.prs am).snoc (prp.mono k3.tup)⟩, ⟨kt, by rw [upd_ne ntl]; exact ht, at_.mono k3.tup⟩, ⟨kb, by rw [upd_ne nbl]; exact hb, ab.mono k3.tup⟩, M2.ne⟩
      · rw [mm]
        unfold add
        rw [if_neg hin, List.length_append, List.length_singleton]
        omega
  · rintro σ H1 ⟨v3, rfl, M1, k1, l1, x1, x2⟩
    exact k H1 M1 k1
end
end K86

/-! K86E: the program's own walk, matched. -/
namespace K86
open PySem PySem.Spec PyProof.Rows L2
theorem take_ne {α β : Type} {g : α → β} {l : List α} (h : (l.map g).Nodup) {i : Nat} {a : α} (ha : l[i]? = some a) : ∀ c ∈ l.take i, g c ≠ g a := by
  intro c hc e
  obtain ⟨j, hj⟩ := List.mem_iff_getElem?.mp hc
  rw [List.getElem?_take] at hj
  split at hj
  · rename_i hlt
    have h1 : (l.map g)[j]? = some (g a) := by rw [List.getElem?_map, hj, ← e]; rfl
    have h2 : (l.map g)[i]? = some (g a) := by rw [List.getElem?_map, ha]; rfl
    have := nd_ix h h1 h2
    omega
  · cases hj
/-- the table of cells by their addresses -/
def TabC (H : Hp) (kvs : List (List L2.Key × V)) (cs : List Cl) : Prop := All (fun (kv : List L2.Key × V) (c : Cl) => kv.1 = tk c.a ∧ ClV H kv.2 c) kvs cs
theorem TabC.mono {H H' : Hp} {kvs : List (List L2.Key × V)} {cs : List Cl} (h : TabC H kvs cs) (k : Tups H H') : TabC H' kvs cs := All.mono h fun _ _ q => ⟨q.1, q.2.mono k⟩
theorem TabC.get {H : Hp} {kvs : List (List L2.Key × V)} {cs : List Cl} (x : Tm) (h : TabC H kvs cs) : (look cs x = none ∧ valV kvs (tk x) = none) ∨ ∃ c v, look cs x = some c ∧ valV kvs (tk x) = some v ∧ ClV H v c :=
  val_find (key := fun c : Cl => c.a) (R := fun v (c : Cl) => ClV H v c) (x := x) h
section
variable {P : Program} {w : World} {K : PySem.W.Frag} {mg : Str → Option Value} {base : Heap} {f C : Addr} {fd : FuncData}
abbrev first (x y : Tm) (roots : List Tm) : List Pr := (x, y) :: roots.map fun r => (r, r)
def spMatched : Sp := fun vs H Q _ => ∃ (px tc py te tr : Addr) (rc rd rr : List V) (x y : Tm) (cs ds : List Cl) (roots : List Tm), vs = [.ref px, .ref tc, .ref py, .ref te, .ref tr] ∧ TmAt H px x ∧ TmAt H py y ∧ H tc = some (.tup rc) ∧ All (ClV H) rc cs ∧ H te = some (.tup rd) ∧ All (ClV H) rd ds ∧
  H tr = some (.tup rr) ∧ All (TmV H) rr roots ∧ OkC cs ∧ OkC ds ∧ cs.length ≤ 6 ∧ ds.length ≤ 6 ∧ roots.length ≤ 2 ∧ InUU (first x y roots) ∧ Answers cs ds (first x y roots) H Q
abbrev nMatched : List Str := ["result", "cells", "other_result", "other_cells", "roots", "mine", "its", "matching", "place", "first", "second", "cell", "root"]
theorem scMatched : FnScope nMatched ["result", "cells", "other_result", "other_cells", "roots"] (defScope sMatched) := ⟨rfl, rfl, rfl, by decide +kernel, rfl, by decide +kernel, by decide +kernel⟩
/-- between two turns of the while: i pairs are done -/
def Going (C px tc py te tr D1 D2 p dx l t b : Addr) (cs ds : List Cl) (init : List Pr) (H0 : Hp) (m : Nat) (σ : L2.St) (H : Hp) : Prop := ∃ i q v9 v10, m = 200 - i ∧
  σ = [some (.ref px), some (.ref tc), some (.ref py), some (.ref te), some (.ref tr), some (.ref D1), some (.ref D2), some (.ref p), some (.int (i : Nat)), v9, v10, none, none] ∧
  st cs ds init i = some q ∧ i ≤ q.1.length ∧ Mat C p dx l t b H q.1 q.2 ∧ Kp [l, t, b] H0 H
theorem ok_matched {fi ff fm : Addr} {di df dm : FuncData} (F : Fun K "matched" "matched" sMatched f fd) (T : Txt K mg C) (B : Bi mg) (MK : Mk K C fi) (GI : FnOk P w K mg base CX0 1 fi di ["self", "pairs"] (spInit C)) (bI : Binds K di ["self", "pairs"] [])
    (GF : FnOk P w K mg base CX0 1 ff df ["self", "first", "second"] (spFits C)) (bF : Binds K df ["self", "first", "second"] []) (mF : Meth K C "fits" ff)
    (GM : FnOk P w K mg base CX0 1 fm dm ["self", "cell", "other"] (spMeet C)) (bM : Binds K dm ["self", "cell", "other"] []) (mM : Meth K C "meet" fm) :
    FnOk P w K mg base CX0 3 f fd ["result", "cells", "other_result", "other_cells", "roots"] spMatched := by
  refine F.ok scMatched (fun vs H Q E h => ?_) (fun cdv A outer s H vs Q E hr h => ?_)
  · obtain ⟨px, tc, py, te, tr, _, _, _, _, _, _, _, _, rfl, _⟩ := h
    rfl
  obtain ⟨px, tc, py, te, tr, rc, rd, rr, x, y, cs, ds, roots, rfl, hx, hy, hc, ac, hd, ad, ht, at_, okc, okd, c6, d6, r2, uu, ans⟩ := h
  have hr1 : Room 1 _ := hr.mono (by decide)
  refine ⟨_, pss_cons (ps_setDcT (i := 5) (own := [("cell", 11)]) (hu_of hr) rfl scMatched.nd rfl rfl (swD_true rfl rfl rfl (by decide +kernel)) (pi_tup (pv 1)) (blkOk_by (N := nMatched) (sc := defScope sMatched) (by decide +kernel))
      (fun _ _ _ _ _ => pg_name (i := 11) scMatched.nd rfl (Or.inl rfl)) (fun _ _ _ _ _ => pe_ix (r := rIxT K) ix_tup (pv 11) pe_int (fun _ _ => rfl)) (fun _ _ _ _ _ => pv 11))
    (pss_cons (ps_setDcT (i := 6) (own := [("cell", 11)]) (hu_of hr) rfl scMatched.nd rfl rfl (swD_true rfl rfl rfl (by decide +kernel)) (pi_tup (pv 3)) (blkOk_by (N := nMatched) (sc := defScope sMatched) (by decide +kernel))
      (fun _ _ _ _ _ => pg_name (i := 11) scMatched.nd rfl (Or.inl rfl)) (fun _ _ _ _ _ => pe_ix (r := rIxT K) ix_tup (pv 11) pe_int (fun _ _ => rfl)) (fun _ _ _ _ _ => pv 11))
    (pss_cons (ps_set (i := 7) scMatched.nd rfl (Or.inl rfl) (pe_make MK GI hr (by rfl) T.mgC bI .nil pass0 (pa_cons (pe_op op_cat (pe_lst (pa_cons (pe_tup (pa_cons (pv 0) (pa_cons (pv 2) pa_nil))) pa_nil))
      (pe_lc (own := [("root", 12)]) (g := gName 12) (tt := tYes) rfl scMatched.nd (pi_tup (pv 4)) (blkOk_by (N := nMatched) (sc := defScope sMatched) (by decide +kernel)) (fun _ _ _ _ _ => pg_name (i := 12) scMatched.nd rfl (Or.inl rfl)) (fun _ _ _ _ _ => pts_nil)
        (fun _ _ _ _ _ => pe_tup (pa_cons (pv 12) (pa_cons (pv 12) pa_nil))))) pa_nil)))
    (pss_cons (ps_set (i := 8) scMatched.nd rfl (Or.inl rfl) pe_int)
    (pss_cons (ps_while PassesOwn.never (pt_cmpR op_lt (pv 8) (pe_callB call_len_seq (by rfl) B.len PySem.boot_len (pa_cons (pe_fld (pv 7) rfl) pa_nil)) (nomark _))
      (pss_cons (ps_asg (pe_ix ix_list (pe_fld (pv 7) rfl) (pv 8) (fun _ _ => rfl)) (pg_tup rfl (pgs_cons (pg_name (i := 9) scMatched.nd rfl (Or.inl rfl)) (pgs_cons (pg_name (i := 10) scMatched.nd rfl (Or.inl rfl)) pgs_nil))))
      (pss_cons (ps_aug (i := 8) scMatched.nd rfl (.inl rfl) pe_int ip_add)
      (pss_cons (ps_if (pw_or (pt_not (pt_val (pe_meth (pv 7) T.cl mF GF hr1 bF .nil pass0 (pa_cons (pv 9) (pa_cons (pv 10) pa_nil))))) (pw_or1 (pt_cmpR op_ne (pe_cmp (pc_din (hu_of hr) (pv 9) (pv 5)) (by rfl)) (pe_cmp (pc_din (hu_of hr) (pv 10) (pv 6)) (by rfl)) (nomark _)))).pt (pss_one (ps_ret pe_non)) pss_nil)
      (pss_one (ps_if (pt_cmp (pc_din (hu_of hr) (pv 9) (pv 5)) (by rfl))
        (pss_one (ps_expr (pe_meth (pv 7) T.cl mM GM hr1 bM .nil pass0 (pa_cons (pe_dget (hu_of hr) (pv 5) (pv 9) (fun _ _ => rfl)) (pa_cons (pe_dget (hu_of hr) (pv 6) (pv 10) (fun _ _ => rfl)) pa_nil))))) pss_nil))))))
    (pss_one (ps_ret (pe_callTy (cr_tupItems rfl) (by rfl) B.tup (by decide +kernel) (pa_cons (pe_bm0 PySem.F.plainAttrs_dict PySem.F.slot_dict_items PySem.F.type_dict_items DX.mt_itemsT (pe_fld (pv 7) rfl)) pa_nil)))))))), ?_⟩
  -- the table of the one's cells
  refine ⟨_, rfl, tc, rfl, ⟨_, SqT.of hc⟩, fun D1 hD1 => dcT_tup (xs := rc) (fun i H' => ∃ kvs, H' = upd H D1 (.dT kvs) ∧ TabC H kvs (cs.take i)) ⟨[], rfl, .nil⟩ (fun i H' _ ⟨kvs, e, _⟩ => by rw [e]; exact SqT.of (at_new hD1 hc)) ?_ ?_⟩
  · rintro i v H' hv ⟨kvs, rfl, tab⟩
    obtain ⟨c, hci, a, p1, p2, p3, rfl, ha, m1, m2, m3⟩ := ac.at hv
    have nk : valV kvs (tk c.a) = none := by
      rcases tab.get c.a with ⟨_, e⟩ | ⟨c', v', e, _, _⟩
      · exact e
      · obtain ⟨hm, he⟩ := look_mem e
        exact absurd he (take_ne (g := fun c : Cl => c.a) okc.nd hci c' hm)
    have kl : kvs.length < sizeLine := by rw [tab.1, List.length_take]; exact smaller (by omega)
    refine ⟨rfl, _, rfl, a, _, _, _, rfl, rfl, SqT.of (at_new hD1 ha), atI_nat (j := 0) rfl, _, rfl, kvs, tk c.a, p1, rfl, at_new hD1 m1, upd_same, kl, kvs ++ [(tk c.a, .ref a)], ?_, ?_⟩
    · rw [putK_new _ nk, upd_upd]
    · have e : cs.take (i + 1) = cs.take i ++ [c] := by rw [List.take_add_one, hci]; rfl
      rw [e]
      exact All.snoc tab ⟨rfl, a, p1, p2, p3, rfl, ha, m1, m2, m3⟩
  rintro H' ⟨k1, rfl, tab1⟩
  rw [ac.1, List.take_length] at tab1
  have kk1 : Kp [] H (upd H D1 (.dT k1)) := .new hD1 _
  have eD1 : upd H D1 (.dT k1) D1 = some (.dT k1) := upd_same
  replace tab1 := tab1.mono kk1.tup
  generalize upd H D1 (.dT k1) = H1 at kk1 eD1 tab1 ⊢
  -- the table of the other's
  refine ⟨_, rfl, te, rfl, ⟨_, SqT.of (kk1.tup _ _ hd)⟩, fun D2 hD2 => dcT_tup (xs := rd) (fun i H' => ∃ kvs, H' = upd H1 D2 (.dT kvs) ∧ TabC H1 kvs (ds.take i)) ⟨[], rfl, .nil⟩ (fun i H' _ ⟨kvs, e, _⟩ => by rw [e]; exact SqT.of (at_new hD2 (kk1.tup _ _ hd))) ?_ ?_⟩
  · rintro i v H' hv ⟨kvs, rfl, tab⟩
    obtain ⟨c, hci, a, p1, p2, p3, rfl, ha, m1, m2, m3⟩ := (kk1.cls ad).at hv
    have nk : valV kvs (tk c.a) = none := by
      rcases tab.get c.a with ⟨_, e⟩ | ⟨c', v', e, _, _⟩
      · exact e
      · obtain ⟨hm, he⟩ := look_mem e
        exact absurd he (take_ne (g := fun c : Cl => c.a) okd.nd hci c' hm)
    have kl : kvs.length < sizeLine := by rw [tab.1, List.length_take]; exact smaller (by omega)
    refine ⟨rfl, _, rfl, a, _, _, _, rfl, rfl, SqT.of (at_new hD2 ha), atI_nat (j := 0) rfl, _, rfl, kvs, tk c.a, p1, rfl, at_new hD2 m1, upd_same, kl, kvs ++ [(tk c.a, .ref a)], ?_, ?_⟩
    · rw [putK_new _ nk, upd_upd]
    · have e : ds.take (i + 1) = ds.take i ++ [c] := by rw [List.take_add_one, hci]; rfl
      rw [e]
      exact All.snoc tab ⟨rfl, a, p1, p2, p3, rfl, ha, m1, m2, m3⟩
  rintro H' ⟨k2, rfl, tab2⟩
  rw [ad.1, List.take_length] at tab2
  have kk2 : Kp [] H (upd H1 D2 (.dT k2)) := kk1.trans (.new hD2 _)
  have eD2 : upd H1 D2 (.dT k2) D2 = some (.dT k2) := upd_same
  have eD1' : upd H1 D2 (.dT k2) D1 = some (.dT k1) := at_new hD2 eD1
  replace tab2 := tab2.mono (Kp.new (S := []) hD2 (.dT k2)).tup
  replace tab1 := tab1.mono (Kp.new (S := []) hD2 (.dT k2)).tup
  generalize upd H1 D2 (.dT k2) = H2 at kk2 eD2 eD1' tab1 tab2 ⊢
  -- the first pairs
  refine ⟨_, rfl, _, rfl, by show 2 ≤ sizeLine; decide, fun p0 hp0 => ⟨by show 1 ≤ sizeLine; decide, fun la hla => ?_⟩⟩
  have kk3 : Kp [] H2 (upd (upd H2 p0 (.tup [.ref px, .ref py])) la (.lst [.ref p0])) := (Kp.new hp0 _).trans (.new hla _)
  have pr0 : PrV (upd (upd H2 p0 (.tup [.ref px, .ref py])) la (.lst [.ref p0])) (.ref p0) (x, y) := ⟨p0, px, py, rfl, at_new hla upd_same, kk3.tm (kk2.tm hx), kk3.tm (kk2.tm hy)⟩
  have ela : upd (upd H2 p0 (.tup [.ref px, .ref py])) la (.lst [.ref p0]) la = some (.lst [.ref p0]) := upd_same
  generalize upd (upd H2 p0 (.tup [.ref px, .ref py])) la (.lst [.ref p0]) = H3 at kk3 pr0 ela ⊢
  have kk : Kp [] H H3 := kk2.trans kk3
  refine ⟨_, rfl, tr, rfl, ⟨_, SqT.of (kk.tup _ _ ht)⟩, fun lb hlb => lc_tup (xs := rr) (fun i H' => ∃ acc, H' lb = some (.lst acc) ∧ All (PrV H') acc ((roots.take i).map fun r => (r, r)) ∧ Kp [lb] H3 H') ⟨[], upd_same, .nil, .new hlb _⟩ (fun i H' _ ⟨acc, _, _, k⟩ => SqT.of (k.tup _ _ (kk.tup _ _ ht))) ?_ ?_⟩
  · rintro i v H' hv ⟨acc, e, aa, k⟩
    obtain ⟨r, hri, pr, rfl, mr⟩ := ((k.tms (kk.tms at_))).at hv
    refine ⟨rfl, _, rfl, _, rfl, by show 2 ≤ sizeLine; decide, fun q hq => ⟨acc, at_new hq e, ?_, acc ++ [.ref q], upd_same, ?_, ?_⟩⟩
    · rw [aa.1, List.length_map, List.length_take]
      exact smaller (by omega)
    · have e4 : roots.take (i + 1) = roots.take i ++ [r] := by rw [List.take_add_one, hri]; rfl
      have k5 : Kp [lb] H' (upd (upd H' q (.tup [.ref pr, .ref pr])) lb (.lst (acc ++ [.ref q]))) := (Kp.new hq _).trans (.lst (at_new hq e) (by simp) _)
      rw [e4, List.map_append]
      exact (k5.prs aa).snoc ⟨q, pr, pr, rfl, (Kp.lst (S := [lb]) (at_new hq e) (by simp) _).tup _ _ upd_same, k5.tm mr, k5.tm mr⟩
    · exact k.trans ((Kp.new hq _).trans (.lst (at_new hq e) (by simp) _))
  rintro H' ⟨acc, elb, aa, k⟩
  rw [at_.1, List.take_length] at aa
  have nab : la ≠ lb := ne_of_none ela hlb
  have k3' : Kp [] H3 H' := k.less hlb
  refine ⟨la, lb, _, _, rfl, rfl, k3'.but _ _ (by simp) ela, elb, ?_, fun lp hlp => ?_⟩
  · rw [aa.1, List.length_map]
    exact small (by simp only [List.length_cons, List.length_nil]; omega)
  intro p dx np ndx nedx
  have ap : All (PrV H') ([.ref p0] ++ acc) (first x y roots) := All.cons (pr0.mono k3'.tup) aa
  have kk5 : Kp [] H' (upd (upd (upd H' lp (.lst ([.ref p0] ++ acc))) dx (.own p)) p (.ins C dx [])) := by
    have e : upd (upd H' lp (.lst ([.ref p0] ++ acc))) dx (.own p) p = none := by rw [upd_ne nedx.symm]; exact np
    exact ((Kp.new hlp _).trans (.new ndx _)).trans (.new e _)
  have elp : upd (upd (upd H' lp (.lst ([.ref p0] ++ acc))) dx (.own p)) p (.ins C dx []) lp = some (.lst ([.ref p0] ++ acc)) := by
    rw [upd_ne (ne_of_none upd_same np), upd_ne (ne_of_none upd_same ndx)]
    exact upd_same
  have np0 : H p = none := by
    cases z : H p with
    | none => rfl
    | some u =>
      rw [at_new hlp ((kk.trans k3').but _ _ (by simp) z)] at np
      cases np
  have kS : Kp [] H (upd (upd (upd H' lp (.lst ([.ref p0] ++ acc))) dx (.own p)) p (.ins C dx [])) := (kk.trans k3').trans kk5
  have q1 : upd (upd (upd H' lp (.lst ([.ref p0] ++ acc))) dx (.own p)) p (.ins C dx []) D1 = some (.dT k1) := ((kk3.trans k3').trans kk5).but _ _ (by simp) eD1'
  have q2 : upd (upd (upd H' lp (.lst ([.ref p0] ++ acc))) dx (.own p)) p (.ins C dx []) D2 = some (.dT k2) := ((kk3.trans k3').trans kk5).but _ _ (by simp) eD2
  have t1 := tab1.mono ((kk3.trans k3').trans kk5).tup
  have t2 := tab2.mono ((kk3.trans k3').trans kk5).tup
  refine ⟨p, dx, lp, _, first x y roots, rfl, upd_same, elp, kk5.prs ap, fun l t b H6 nl nt nb M0 k6 => ⟨rfl, ?_⟩⟩
  have nD1 : D1 ≠ p := ne_of q1 upd_same (fun z => nomatch z)
  have nD2 : D2 ≠ p := ne_of q2 upd_same (fun z => nomatch z)
  have nD1s : D1 ∉ [l, t, b] := by
    simp only [List.mem_cons, List.not_mem_nil, or_false, not_or]
    exact ⟨ne_of_none q1 nl, ne_of_none q1 nt, ne_of_none q1 nb⟩
  have nD2s : D2 ∉ [l, t, b] := by
    simp only [List.mem_cons, List.not_mem_nil, or_false, not_or]
    exact ⟨ne_of_none q2 nl, ne_of_none q2 nt, ne_of_none q2 nb⟩
  have new : ∀ {a : Addr}, upd (upd (upd H' lp (.lst ([.ref p0] ++ acc))) dx (.own p)) p (.ins C dx []) a = none → H a = none := fun {a} e => by
    cases z : H a with
    | none => rfl
    | some u => rw [kS.but _ _ (by simp) z] at e; cases e
  have nl0 := new nl
  have nt0 := new nt
  have nb0 := new nb
  have k06 : Kp [p] H H6 := (kS.mono (by simp)).trans k6
  have q1' : H6 D1 = some (.dT k1) := k6.but _ _ (by simpa using nD1) q1
  have q2' : H6 D2 = some (.dT k2) := k6.but _ _ (by simpa using nD2) q2
  replace t1 := t1.mono k6.tup
  replace t2 := t2.mono k6.tup
  -- all that stood stands, whatever is done to the Matching
  have fin : ∀ {H7 : Hp}, Kp [l, t, b] H6 H7 → Same H H7 := fun k7 => by
    have z : Kp [l, t, b, p] H _ := (k06.mono (by simp)).trans (k7.mono fun a ha => by simp only [List.mem_cons, List.not_mem_nil, or_false] at ha ⊢; rcases ha with h | h | h <;> simp [h])
    exact Kp.same ((((z.less nl0).less nt0).less nb0).less np0)
  have W0 : Going C px tc py te tr D1 D2 p dx l t b cs ds (first x y roots) H6 200 [some (.ref px), some (.ref tc), some (.ref py), some (.ref te), some (.ref tr), some (.ref D1), some (.ref D2), some (.ref p), some (.int 0), none, none, none, none] H6 :=
    ⟨0, (first x y roots, []), none, none, rfl, rfl, rfl, Nat.zero_le _, M0, .refl _ _⟩
  refine ⟨Going C px tc py te tr D1 D2 p dx l t b cs ds (first x y roots) H6, ⟨200, W0⟩, ?_⟩
  rintro m σ H7 ⟨i, q, v9, v10, rfl, rfl, hst, hiq, M, k7⟩
  have ok := st_ok okc okd uu hst
  have i3 : (first x y roots).length ≤ 3 := by
    show (roots.map fun r => (r, r)).length + 1 ≤ 3
    rw [List.length_map]
    omega
  have mlen : q.1.length ≤ 103 := ok.g.len i3
  obtain ⟨rm, hm, am⟩ := M.atM
  refine ⟨_, rfl, _, rfl, p, C, dx, _, _, rfl, M.ins, T.cl, T.nM, mf_met _ _ _, l, rm, rfl, .inl (SqL.of hm), _, _, rfl, rfl, _, rfl, ?_⟩
  by_cases hlt : i < q.1.length
  · have c : decide ((i : Int) < ((rm.length : Nat) : Int)) = true := decide_eq_true (by rw [am.1]; omega)
    show if decide ((i : Int) < ((rm.length : Nat) : Int)) = true then _ else _
    rw [c]
    refine iteT ⟨fun σ' H' => ∃ m', m' < 200 - i ∧ Going C px tc py te tr D1 D2 p dx l t b cs ds (first x y roots) H6 m' σ' H', fun _ _ h => h, ?_⟩
    have hp : q.1[i]? = some q.1[i] := List.getElem?_eq_getElem hlt
    obtain ⟨v, hv, a, pa, pb, rfl, ha, hxa, hyb⟩ := am.of hp
    generalize q.1[i] = xy at hp hxa hyb
    obtain ⟨xa, yb⟩ := xy
    have hxa : TmAt H7 pa xa := hxa
    have hyb : TmAt H7 pb yb := hyb
    -- first, second = matching.met[place]; place += 1
    refine ⟨_, rfl, p, C, dx, _, _, rfl, M.ins, T.cl, T.nM, mf_met _ _ _, _, rfl, l, rm, _, _, rfl, rfl, SqL.of hm, atI_nat hv, a, _, rfl, SqT.of ha, rfl, _, _, rfl, _, _, rfl, rfl, ?_⟩
    refine ⟨_, rfl, _, _, rfl, rfl, ?_⟩
    -- do they fit?
    refine ⟨_, rfl, p, dx, _, rfl, M.ins, mf_no _ _ _ (by decide +kernel) (by decide +kernel) (by decide +kernel), _, rfl, _, rfl, p, dx, l, t, b, pa, pb, q.1, q.2, xa, yb, rfl, M, hxa, hyb, ok.b, Nat.le_trans ok.l (by omega), ?_, ?_⟩
    · intro th H8 hfit M8 k8
      have step : st cs ds (first x y roots) (i + 1) = cellsStep q.1 th (look cs xa) (look ds yb) := (st_go hst hp).trans (turn_fit hfit)
      have k68 : Kp [l, t, b] H6 H8 := k7.trans (k8.mono (by simp))
      have e1 : H8 D1 = some (.dT k1) := k68.but _ _ nD1s q1'
      have e2 : H8 D2 = some (.dT k2) := k68.but _ _ nD2s q2'
      have u1 := t1.mono k68.tup
      have u2 := t2.mono k68.tup
      have hxa8 : TmAt H8 pa xa := k8.tm hxa
      have hyb8 : TmAt H8 pb yb := k8.tm hyb
      refine ⟨_, rfl, ?_⟩
      show if (!true) = true then _ else _
      refine iteF ⟨_, rfl, _, rfl, D1, _, rfl, DGet.t (k := tk xa) e1 hxa8, _, rfl, _, rfl, D2, _, rfl, DGet.t (k := tk yb) e2 hyb8, rfl, _, rfl, ?_⟩
      rcases u1.get xa with ⟨l1, w1⟩ | ⟨c1, v1, l1, w1, z1⟩
      · rcases u2.get yb with ⟨l2, w2⟩ | ⟨c2, v2, l2, w2, z2⟩
        · -- no cell at either
          show if (!decide (V.bl (valV k1 (tk xa)).isSome = V.bl (valV k2 (tk yb)).isSome)) = true then _ else _
          rw [w1, w2]
          refine iteNS rfl ⟨_, rfl, _, rfl, D1, _, rfl, DGet.t (k := tk xa) e1 hxa8, _, rfl, ?_⟩
          show if (valV k1 (tk xa)).isSome = true then _ else _
          rw [w1]
          refine iteF ⟨200 - (i + 1), by omega, i + 1, (q.1, th), _, _, rfl, rfl, ?_, hlt, M8, k68⟩
          rw [step, l1, l2]
          rfl
        · show if (!decide (V.bl (valV k1 (tk xa)).isSome = V.bl (valV k2 (tk yb)).isSome)) = true then _ else _
          rw [w1, w2]
          refine iteT (ans.1 (turn_dead (by omega) hst hp ?_) _ (fin k68))
          rw [turn_fit hfit, l1, l2]
          rfl
      · rcases u2.get yb with ⟨l2, w2⟩ | ⟨c2, v2, l2, w2, z2⟩
        · show if (!decide (V.bl (valV k1 (tk xa)).isSome = V.bl (valV k2 (tk yb)).isSome)) = true then _ else _
          rw [w1, w2]
          refine iteT (ans.1 (turn_dead (by omega) hst hp ?_) _ (fin k68))
          rw [turn_fit hfit, l1, l2]
          rfl
        · show if (!decide (V.bl (valV k1 (tk xa)).isSome = V.bl (valV k2 (tk yb)).isSome)) = true then _ else _
          rw [w1, w2]
          refine iteNS rfl ⟨_, rfl, _, rfl, D1, _, rfl, DGet.t (k := tk xa) e1 hxa8, _, rfl, ?_⟩
          show if (valV k1 (tk xa)).isSome = true then _ else _
          rw [w1]
          obtain ⟨ca, rfl, ec⟩ : ∃ ca, v1 = .ref ca ∧ ClV H8 (.ref ca) c1 := by
            obtain ⟨a', x1, x2, x3, rfl, rest⟩ := z1
            exact ⟨a', rfl, a', x1, x2, x3, rfl, rest⟩
          obtain ⟨cb, rfl, ed⟩ : ∃ cb, v2 = .ref cb ∧ ClV H8 (.ref cb) c2 := by
            obtain ⟨a', x1, x2, x3, rfl, rest⟩ := z2
            exact ⟨a', rfl, a', x1, x2, x3, rfl, rest⟩
          have g1 : DGet H8 D1 (.ref pa) (some (.ref ca)) := w1 ▸ DGet.t (k := tk xa) e1 hxa8
          have g2 : DGet H8 D2 (.ref pb) (some (.ref cb)) := w2 ▸ DGet.t (k := tk yb) e2 hyb8
          refine iteT ⟨_, rfl, p, dx, _, rfl, M8.ins, mf_no _ _ _ (by decide +kernel) (by decide +kernel) (by decide +kernel), _, rfl, _, rfl, D1, _, rfl, g1, _, rfl, _, rfl, D2, _, rfl, g2,
            p, dx, l, t, b, ca, cb, q.1, th, c1, c2, rfl, M8, ec, ed, by omega, fun H9 M9 k9 => ?_⟩
          refine ⟨200 - (i + 1), by omega, i + 1, (meetM q.1 c1 c2, th), _, _, rfl, rfl, ?_, ?_, M9, k68.trans (k9.mono (by simp))⟩
          · rw [step, l1, l2]
            rfl
          · have grow : ∀ (met : List Pr) (z : Pr), met.length ≤ (add met z).length := fun met z => by
              unfold add
              split
              · exact Nat.le_refl _
              · rw [List.length_append]; exact Nat.le_add_right _ _
            exact Nat.le_trans hlt (Nat.le_trans (grow q.1 (c1.f, c2.f)) (grow _ _))
    · intro hfit H8 k8
      refine ⟨_, rfl, ?_⟩
      show if (!false) = true then _ else _
      exact iteT (ans.1 (turn_dead (by omega) hst hp (turn_nofit hfit)) _ (fin (k7.trans (k8.mono (by simp)))))
  · have c : decide ((i : Int) < ((rm.length : Nat) : Int)) = false := decide_eq_false (by rw [am.1]; omega)
    show if decide ((i : Int) < ((rm.length : Nat) : Int)) = true then _ else _
    rw [c]
    obtain ⟨kt, hkt, at2⟩ := M.atT
    refine iteF ⟨_, rfl, p, C, dx, _, _, rfl, M.ins, T.cl, T.nT, mf_there _ _ _, .inr (.inr (.inl ⟨rfl, .inr ⟨_, hkt⟩⟩)), t, kt, rfl, rfl, hkt, fun pv' hpv => ⟨pv', t, kt, rfl, upd_same, at_new hpv hkt, fun H8 tt as g1 g2 g3 g4 g5 => ?_⟩⟩
    have hdue : due cs ds (first x y roots) = some q.2 := due_end (by omega) hst (by omega)
    have k78 : Kp [] H7 H8 := (Kp.new hpv _).trans (Same.kp g1)
    refine ans.2 q.2 tt _ H8 hdue g3 ?_ (Nat.le_trans ok.l (by omega)) (fin (k7.trans (k78.mono (by simp))))
    refine ⟨by rw [List.length_map, g4]; exact at2.1, fun j v pr hv hpr => ?_⟩
    rw [List.getElem?_map] at hv
    cases ej : as[j]? with
    | none => rw [ej] at hv; cases hv
    | some z =>
      rw [ej] at hv
      cases hv
      obtain ⟨kv, c', h1, h2, h3⟩ := g5 j z ej
      obtain ⟨r1, r2', r3, r4⟩ := at2.2 j kv pr h1 hpr
      rw [r3] at h2
      rw [r1] at h3
      exact ⟨z, c', r2', rfl, h2, h3, k78.tm r4⟩
end
end K86

/-! K86F: the law. -/
namespace K86
open PySem PySem.Spec PyProof.Rows L2
theorem all3 {H : Hp} {vs : List V} {t1 t2 t3 : Tm} (h : All (TmV H) vs [t1, t2, t3]) : ∃ q1 q2 q3, vs = [.ref q1, .ref q2, .ref q3] ∧ TmAt H q1 t1 ∧ TmAt H q2 t2 ∧ TmAt H q3 t3 := by
  obtain ⟨l, g⟩ := h
  match vs, l, g with
  | [v1, v2, v3], _, g =>
    obtain ⟨q1, rfl, h1⟩ := g 0 _ _ rfl rfl
    obtain ⟨q2, rfl, h2⟩ := g 1 _ _ rfl rfl
    obtain ⟨q3, rfl, h3⟩ := g 2 _ _ rfl rfl
    exact ⟨q1, q2, q3, rfl, h1, h2, h3⟩
/-- what the law has drawn so far, and holds to its end: the box, the one's cells, its result -/
structure Held (b d lc pr : Addr) (rc : List V) (cs : List Cl) (x : Tm) (H : Hp) : Prop where
  box : BoxAt H b d
  atC : H lc = some (.lst rc)
  ac : All (ClV H) rc cs
  res : TmAt H pr x
theorem Held.nb {b d lc pr : Addr} {rc : List V} {cs : List Cl} {x : Tm} {H : Hp} (h : Held b d lc pr rc cs x H) : lc ≠ b := by
  obtain ⟨⟨z, ns, h1, h2, _⟩, hc, ac, _⟩ := h
  intro e
  rw [e, h1] at hc
  cases hc
  cases cs with
  | nil => cases ac.1
  | cons c cs =>
    obtain ⟨_, h3⟩ := ac.tail
    cases cs with
    | nil => cases h3.1
    | cons c2 cs2 =>
      obtain ⟨⟨a, p, q, r, e2, _⟩, _⟩ := h3.tail
      cases e2
theorem Held.drew {b d lc pr : Addr} {rc : List V} {cs : List Cl} {x : Tm} {H H' : Hp} (h : Held b d lc pr rc cs x H) (k : Drew b d H H') : Held b d lc pr rc cs x H' := ⟨k.box, k.at h.nb h.atC, k.kp.cls h.ac, k.kp.tm h.res⟩
theorem Held.keep {b d lc pr : Addr} {rc : List V} {cs : List Cl} {x : Tm} {H H' : Hp} (h : Held b d lc pr rc cs x H) {S : List Addr} (k : Kp S H H') (n1 : b ∉ S) (n2 : d ∉ S) (n3 : lc ∉ S) : Held b d lc pr rc cs x H' :=
  ⟨h.box.keep k n1 n2, k.but _ _ n3 h.atC, k.cls h.ac, k.tm h.res⟩
theorem Held.new {b d lc pr : Addr} {rc : List V} {cs : List Cl} {x : Tm} {H : Hp} (h : Held b d lc pr rc cs x H) {p : Addr} (hp : H p = none) (o : HO) : Held b d lc pr rc cs x (upd H p o) := h.keep (Kp.new (S := []) hp o) (by simp) (by simp) (by simp)
/-- the other's cells, in a list of their own -/
structure Other (lo po b lc : Addr) (ro : List V) (ds : List Cl) (y : Tm) (H : Hp) : Prop where
  atO : H lo = some (.lst ro)
  ao : All (ClV H) ro ds
  ok : OkC ds
  len : ds.length ≤ 6
  res : TmAt H po y
  u : y ∈ U
  nb : lo ≠ b
  nc : lo ≠ lc
theorem Other.drew {lo po b d lc : Addr} {ro : List V} {ds : List Cl} {y : Tm} {H H' : Hp} (h : Other lo po b lc ro ds y H) (k : Drew b d H H') : Other lo po b lc ro ds y H' := ⟨k.at h.nb h.atO, k.kp.cls h.ao, h.ok, h.len, k.kp.tm h.res, h.u, h.nb, h.nc⟩
theorem Other.keep {lo po b lc : Addr} {ro : List V} {ds : List Cl} {y : Tm} {H H' : Hp} (h : Other lo po b lc ro ds y H) {S : List Addr} (k : Kp S H H') (n : lo ∉ S) : Other lo po b lc ro ds y H' := ⟨k.but _ _ n h.atO, k.cls h.ao, h.ok, h.len, k.tm h.res, h.u, h.nb, h.nc⟩
def spLaw (K : PySem.W.Frag) : Sp := fun vs H Q _ => ∃ (a : Addr) (ns : List Int), vs = [.ref a] ∧ SqL K H a (ns.map V.int) ∧ ns.length ≤ 63 ∧ ∀ H', Q (.bl true) H'
abbrev nLaw : List Str := ["_law_script", "_law_box", "_law_cells", "_law_result", "_law_shift", "_law_other_result", "_law_other", "_law_cell_here", "_law_kind", "_law_roots", "_law_pairs", "_law_root", "_law_due", "_law_term", "_law_k"]
theorem scLaw : FnScope nLaw ["_law_script"] (defScope sLaw) := ⟨rfl, rfl, rfl, by decide +kernel, rfl, by decide +kernel, by decide +kernel⟩
def Mid (a b d lc pr : Addr) (rc : List V) (cs : List Cl) (x : Tm) (z n : Int) (σ : L2.St) (H : Hp) : Prop := ∃ lo po v7 ro ds y, σ = [some (.ref a), some (.ref b), some (.ref lc), some (.ref pr), some (.int z), some (.ref po), some (.ref lo), v7, some (.int n), none, none, none, none, none, none] ∧
  Held b d lc pr rc cs x H ∧ Other lo po b lc ro ds y H
theorem cut_one (xs : List V) : cutV xs (some 1) none = xs.drop 1 := by
  unfold cutV
  have e : HT.sIx xs.length 0 (some 1) = min 1 xs.length := HT.sIx_nat xs.length 0 1
  rw [e, HT.sIx_none]
  cases xs with
  | nil => rfl
  | cons v vs =>
    have e1 : min 1 (v :: vs).length = 1 := Nat.min_eq_left (by rw [List.length_cons]; omega)
    rw [e1]
    exact List.take_of_length_le (by rw [List.length_drop]; exact Nat.le_refl _)
section
variable {P : Program} {w : World} {K : PySem.W.Frag} {mg : Str → Option Value} {base : Heap} {f : Addr} {fd : FuncData}
theorem ok_law {f1 f2 f3 f4 f5 f6 f7 f8 f9 : Addr} {d1 d2 d3 d4 d5 d6 d7 d8 d9 : FuncData} (F : Fun K "law" "law" sLaw f fd) (B : Bi mg)
    (D1 : Has K mg "_law_digits" f1 d1 ["_law_script", "_law_first", "_law_last"]) (G1 : FnOk P w K mg base CX0 2 f1 d1 ["_law_script", "_law_first", "_law_last"] (spDigits K))
    (D2 : Has K mg "_law_cells_made" f2 d2 ["_law_box"]) (G2 : FnOk P w K mg base CX0 5 f2 d2 ["_law_box"] spMade)
    (D3 : Has K mg "_law_any_term" f3 d3 ["_law_box", "_law_many", "_law_news"]) (G3 : FnOk P w K mg base CX0 3 f3 d3 ["_law_box", "_law_many", "_law_news"] spAny)
    (D4 : Has K mg "_law_draw" f4 d4 ["_law_box", "_law_many"]) (G4 : FnOk P w K mg base CX0 1 f4 d4 ["_law_box", "_law_many"] spDraw)
    (D5 : Has K mg "_law_turn" f5 d5 ["_law_term", "_law_shift"]) (G5 : FnOk P w K mg base CX0 1 f5 d5 ["_law_term", "_law_shift"] spTurn)
    (D6 : Has K mg "_law_old_term" f6 d6 ["_law_box", "_law_many"]) (G6 : FnOk P w K mg base CX0 2 f6 d6 ["_law_box", "_law_many"] spOld)
    (D7 : Has K mg "_law_match_cells" f7 d7 ["_law_cells", "_law_other_cells", "_law_pairs"]) (G7 : FnOk P w K mg base CX0 1 f7 d7 ["_law_cells", "_law_other_cells", "_law_pairs"] spWalk)
    (D8 : Has K mg "_law_same" f8 d8 ["_law_actual", "_law_expected"]) (G8 : FnOk P w K mg base CX0 4 f8 d8 ["_law_actual", "_law_expected"] (spSame K 4))
    (D9 : Has K mg "matched" f9 d9 ["result", "cells", "other_result", "other_cells", "roots"]) (G9 : FnOk P w K mg base CX0 3 f9 d9 ["result", "cells", "other_result", "other_cells", "roots"] spMatched) :
    FnOk P w K mg base CX0 6 f fd ["_law_script"] (spLaw K) := by
  refine F.ok scLaw (fun vs H Q E h => ?_) (fun cdv A outer s H vs Q E hr h => ?_)
  · obtain ⟨a, ns, rfl, _⟩ := h
    rfl
  obtain ⟨a, ns, rfl, hs, n63, k⟩ := h
  have hr1 : Room 1 _ := hr.mono (by decide)
  have hr2 : Room 2 _ := hr.mono (by decide)
  have hr3 : Room 3 _ := hr.mono (by decide)
  have hr4 : Room 4 _ := hr.mono (by decide)
  refine ⟨_, pss_cons (ps_set (i := 1) scLaw.nd rfl (Or.inr rfl) (pe_lst (pa_cons (pe_call G1 hr2 (by rfl) D1.m D1.k D1.b .nil pass0 (pa_cons (pv 0) (pa_cons pe_int (pa_cons pe_int pa_nil)))) (pa_cons pe_int pa_nil))))
    (pss_cons (ps_set (i := 2) scLaw.nd rfl (Or.inl rfl) (pe_call G2 hr (by rfl) D2.m D2.k D2.b .nil pass0 (pa_cons (pv 1) pa_nil)))
    (pss_cons (ps_set (i := 3) scLaw.nd rfl (Or.inl rfl) (pe_call G3 hr3 (by rfl) D3.m D3.k D3.b .nil pass0 (pa_cons (pv 1) (pa_cons pe_int (pa_cons pe_int pa_nil)))))
    (pss_cons (ps_set (i := 4) scLaw.nd rfl (Or.inr rfl) (pe_call G4 hr1 (by rfl) D4.m D4.k D4.b .nil pass0 (pa_cons (pv 1) (pa_cons pe_int pa_nil))))
    (pss_cons (ps_set (i := 5) scLaw.nd rfl (Or.inl rfl) (pe_call G5 hr1 (by rfl) D5.m D5.k D5.b .nil pass0 (pa_cons (pv 3) (pa_cons (pv 4) pa_nil))))
    (pss_cons (ps_set (i := 6) scLaw.nd rfl (Or.inl rfl) (pe_lst pa_nil))
    (pss_cons (ps_for PassesOwn.never rfl (pi_list (pv 2)) (pg_name (i := 7) scLaw.nd rfl (Or.inl rfl))
      (pss_one (ps_expr (pe_bm PySem.F.plainAttrs_list PySem.F.slot_list_append PySem.F.type_list_append mt_append (pv 6) (pa_cons (pe_callTy call_tuple_of (by rfl) B.tup (by decide +kernel) (pa_cons
        (pe_lc (own := [("_law_term", 13)]) (g := gName 13) (tt := tYes) rfl scLaw.nd (pi_tup (pv 7)) (blkOk_by (N := nLaw) (sc := defScope sLaw) (by decide +kernel)) (fun _ _ _ _ _ => pg_name (i := 13) scLaw.nd rfl (Or.inl rfl)) (fun _ _ _ _ _ => pts_nil)
          (fun _ _ _ _ _ => pe_call G5 hr1 (by rfl) D5.m D5.k D5.b .nil pass0 (pa_cons (pv 13) (pa_cons (pv 4) pa_nil)))) pa_nil)) pa_nil)))))
    (pss_cons (ps_set (i := 8) scLaw.nd rfl (Or.inl rfl) (pe_call G4 hr1 (by rfl) D4.m D4.k D4.b .nil pass0 (pa_cons (pv 1) (pa_cons pe_int pa_nil))))
    (C8.pss_cut (ps_if (pt_cmpR op_eq (pv 8) pe_int (nomark _)) (pss_one (ps_set (i := 6) scLaw.nd rfl (Or.inl rfl) (pe_call G2 hr (by rfl) D2.m D2.k D2.b .nil pass0 (pa_cons (pv 1) pa_nil)))) pss_nil)
    (C8.pss_cut (ps_if (pw_and (pt_cmpR op_eq (pv 8) pe_int (nomark _)) (pw_and1 (pt_cmpR op_gt (pe_callB call_len_seq (by rfl) B.len PySem.boot_len (pa_cons (pv 6) pa_nil)) pe_int (nomark _)))).pt
      (pss_one (ps_set (i := 6) scLaw.nd rfl (Or.inl rfl) (pe_slice sl_list (pv 6) (po_some pe_int) po_none))) pss_nil)
    (C8.pss_cut (ps_if (pw_and (pt_cmpR op_eq (pv 8) pe_int (nomark _)) (pw_and1 (pt_cmpR op_gt (pe_callB call_len_seq (by rfl) B.len PySem.boot_len (pa_cons (pv 6) pa_nil)) pe_int (nomark _)))).pt
      (pss_one (ps_asg (pe_tup (pa_cons (pe_ix ix_tup (pe_ix ix_list (pv 6) pe_int (fun _ _ => rfl)) pe_int (fun _ _ => rfl)) (pa_cons (pe_call G3 hr3 (by rfl) D3.m D3.k D3.b .nil pass0 (pa_cons (pv 1) (pa_cons pe_int (pa_cons pe_int pa_nil))))
        (pa_cons (pe_ix ix_tup (pe_ix ix_list (pv 6) pe_int (fun _ _ => rfl)) pe_int (fun _ _ => rfl)) pa_nil)))) (pg_sub (pv 6) pe_int set_list))) pss_nil)
    (C8.pss_cut (ps_if (pt_cmpR op_eq (pv 8) pe_int (nomark _)) (pss_one (ps_set (i := 5) scLaw.nd rfl (Or.inl rfl) (pe_call G3 hr3 (by rfl) D3.m D3.k D3.b .nil pass0 (pa_cons (pv 1) (pa_cons pe_int (pa_cons pe_int pa_nil)))))) pss_nil)
    (pss_cons (ps_set (i := 9) scLaw.nd rfl (Or.inl rfl) (pe_callTy call_tuple_of (by rfl) B.tup (by decide +kernel) (pa_cons
        (pe_lc (own := [("_law_k", 14)]) (g := gName 14) (tt := tYes) rfl scLaw.nd (pi_range1 (by rfl) B.rng (pa_cons (pe_call G4 hr1 (by rfl) D4.m D4.k D4.b .nil pass0 (pa_cons (pv 1) (pa_cons pe_int pa_nil))) pa_nil)) (blkOk_by (N := nLaw) (sc := defScope sLaw) (by decide +kernel)) (fun _ _ _ _ _ => pg_name (i := 14) scLaw.nd rfl (Or.inl rfl)) (fun _ _ _ _ _ => pts_nil)
          (fun _ _ _ _ _ => pe_call G6 hr2 (by rfl) D6.m D6.k D6.b .nil pass0 (pa_cons (pv 1) (pa_cons pe_int pa_nil)))) pa_nil)))
    (pss_cons (ps_set (i := 10) scLaw.nd rfl (Or.inl rfl) (pe_lst (pa_cons (pe_tup (pa_cons (pv 3) (pa_cons (pv 5) pa_nil))) pa_nil)))
    (pss_cons (ps_for PassesOwn.never rfl (pi_tup (pv 9)) (pg_name (i := 11) scLaw.nd rfl (Or.inl rfl))
      (pss_one (ps_expr (pe_bm PySem.F.plainAttrs_list PySem.F.slot_list_append PySem.F.type_list_append mt_append (pv 10) (pa_cons (pe_tup (pa_cons (pv 11) (pa_cons (pv 11) pa_nil))) pa_nil)))))
    (pss_cons (ps_set (i := 12) scLaw.nd rfl (Or.inl rfl) (pe_call G7 hr1 (by rfl) D7.m D7.k D7.b .nil pass0 (pa_cons (pv 2) (pa_cons (pv 6) (pa_cons (pv 10) pa_nil)))))
    (pss_one (ps_ret (pe_call G8 hr4 (by rfl) D8.m D8.k D8.b .nil pass0 (pa_cons (pe_call G9 hr3 (by rfl) D9.m D9.k D9.b .nil pass0 (pa_cons (pv 3) (pa_cons (pe_callTy call_tuple_of (by rfl) B.tup (by decide +kernel) (pa_cons (pv 2) pa_nil)) (pa_cons (pv 5) (pa_cons (pe_callTy call_tuple_of (by rfl) B.tup (by decide +kernel) (pa_cons (pv 6) pa_nil)) (pa_cons (pv 9) pa_nil))))))
      (pa_cons (pv 12) pa_nil)))))))))))))))))))), ?_⟩
  refine ⟨_, rfl, a, ns, rfl, hs, fun ld dd H1 nld e1 s1 => ⟨by show 2 ≤ sizeLine; decide, fun b hb => ?_⟩⟩
  have box1 : BoxAt (upd H1 b (.lst [.ref ld, .int 0])) b ld := ⟨0, dd, upd_same, at_new hb e1, Int.le_refl 0⟩
  generalize upd H1 b (.lst [.ref ld, .int 0]) = H2 at box1 ⊢
  refine ⟨_, rfl, b, ld, rfl, box1, fun lc rc cs H3 nlc e3 a3 okc c6 dr3 => ?_⟩
  refine ⟨_, rfl, b, ld, rfl, dr3.box, fun pr x H4 ux m4 dr4 => ?_⟩
  have hold4 : Held b ld lc pr rc cs x H4 := ⟨dr4.box, dr4.at (box1.off nlc).1 e3, dr4.kp.cls a3, m4⟩
  refine ⟨_, rfl, b, ld, 3, rfl, by decide, dr4.box, fun z H5 z0 z3 dr5 => ?_⟩
  have hold5 := hold4.drew dr5
  refine ⟨_, rfl, _, rfl, pr, x, z, rfl, hold5.res, fun po H6 m6 s6 => ?_⟩
  have hold6 : Held b ld lc pr rc cs x H6 := hold5.keep (Same.kp (S := []) s6) (by simp) (by simp) (by simp)
  refine ⟨Nat.zero_le _, fun lo hlo => ?_⟩
  obtain ⟨lob, lod⟩ := hold6.box.off hlo
  have loc : lc ≠ lo := ne_of_none hold6.atC hlo
  have hold7 := hold6.new hlo (.lst [])
  have elo7 : upd H6 lo (.lst []) lo = some (.lst []) := upd_same
  have m7 : TmAt (upd H6 lo (.lst [])) po (turnT z x) := at_new hlo m6
  generalize upd H6 lo (.lst []) = H7 at hold7 elo7 m7 ⊢
  -- the other's cells: the one's, turned
  refine ⟨_, rfl, lc, rfl, ⟨_, SqL.of hold7.atC⟩, for_list (xs := rc) (fun i σ H' => ∃ v7 ro, σ = [some (.ref a), some (.ref b), some (.ref lc), some (.ref pr), some (.int z), some (.ref po), some (.ref lo), v7, none, none, none, none, none, none, none] ∧
      H' lo = some (.lst ro) ∧ All (ClV H') ro ((cs.take i).map (turnC z)) ∧ Kp [lo] H7 H') ⟨_, _, rfl, elo7, .nil, .refl _ _⟩ (fun i σ H' _ ⟨_, _, _, _, _, k⟩ => SqL.of (k.but _ _ (by simpa using loc) hold7.atC)) ?_ ?_⟩
  · rintro i v σ H8 hv ⟨v7, ro, rfl, elo, ao, k8⟩
    obtain ⟨c, hci, ca, p1, p2, p3, rfl, hca, w1, w2, w3⟩ := (k8.cls hold7.ac).at hv
    have l3 : All (TmV H8) [.ref p1, .ref p2, .ref p3] [c.a, c.f, c.s] := .cons ⟨p1, rfl, w1⟩ (.cons ⟨p2, rfl, w2⟩ (.cons ⟨p3, rfl, w3⟩ .nil))
    refine ⟨_, rfl, .inl ⟨rfl, _, SqL.of elo⟩, ?_⟩
    refine ⟨_, rfl, ca, rfl, ⟨_, SqT.of hca⟩, fun D hD => lc_tup (xs := [.ref p1, .ref p2, .ref p3]) (fun j H' => ∃ acc, H' D = some (.lst acc) ∧ All (TmV H') acc ((([c.a, c.f, c.s] : List Tm).take j).map (turnT z)) ∧ Kp [D] H8 H') ⟨[], upd_same, .nil, .new hD _⟩
      (fun j H' _ ⟨_, _, _, k⟩ => SqT.of (k.tup _ _ hca)) ?_ ?_⟩
    · rintro j u H9 hu ⟨acc, e, aa, k9⟩
      have hj : j < 3 := (List.getElem?_eq_some_iff.mp hu).1
      obtain ⟨tt, htt, pu, rfl, mu⟩ := l3.at hu
      refine ⟨rfl, _, rfl, _, rfl, pu, tt, z, rfl, k9.tm mu, fun q H10 mq s10 => ⟨acc, s10 _ _ e, ?_, acc ++ [.ref q], upd_same, ?_, ?_⟩⟩
      · rw [aa.1, List.length_map, List.length_take]
        exact smaller (by omega)
      · have e4 : ([c.a, c.f, c.s] : List Tm).take (j + 1) = ([c.a, c.f, c.s] : List Tm).take j ++ [tt] := by rw [List.take_add_one, htt]; rfl
        have k10 : Kp [D] H10 (upd H10 D (.lst (acc ++ [.ref q]))) := .lst (s10 _ _ e) (by simp) _
        rw [e4, List.map_append]
        exact (k10.tms ((Same.kp (S := []) s10).tms aa)).snoc ⟨q, rfl, k10.tm mq⟩
      · exact (k9.trans (Same.kp s10)).trans (.lst (s10 _ _ e) (by simp) _)
    · rintro H9 ⟨acc, e, aa, k9⟩
      obtain ⟨q1, q2, q3, rfl, u1, u2, u3⟩ := all3 aa
      refine ⟨D, _, rfl, .inl ⟨SqL.of e, fun q hq => ?_⟩⟩
      have k9' : Kp [] H8 H9 := k9.less hD
      have elo9 : H9 lo = some (.lst ro) := k9'.but _ _ (by simp) elo
      have cl : ClV (upd H9 q (.tup [.ref q1, .ref q2, .ref q3])) (.ref q) (turnC z c) := ⟨q, q1, q2, q3, rfl, upd_same, at_new hq u1, at_new hq u2, at_new hq u3⟩
      have elo10 : upd H9 q (.tup [.ref q1, .ref q2, .ref q3]) lo = some (.lst ro) := at_new hq elo9
      have k10 : Kp [lo] H7 (upd H9 q (.tup [.ref q1, .ref q2, .ref q3])) := (k8.trans (k9'.mono (by simp))).trans (.new hq _)
      have ao10 := (Kp.new (S := []) hq (.tup [.ref q1, .ref q2, .ref q3])).cls (k9'.cls ao)
      generalize upd H9 q (.tup [.ref q1, .ref q2, .ref q3]) = H10 at cl elo10 k10 ao10 ⊢
      have lr : ro.length < sizeLine := by
        rw [ao.1, List.length_map, List.length_take]
        exact smaller (by omega)
      have k11 : Kp [lo] H10 (upd H10 lo (.lst (ro ++ [.ref q]))) := .lst elo10 (by simp) _
      have e4 : cs.take (i + 1) = cs.take i ++ [c] := by rw [List.take_add_one, hci]; rfl
      refine ⟨lo, ro, _, rfl, rfl, elo10, lr, _, ro ++ [.ref q], rfl, upd_same, ?_, k10.trans k11⟩
      rw [e4, List.map_append]
      exact (k11.cls ao10).snoc (cl.mono k11.tup)
  rintro σ H8 ⟨v7, ro, rfl, elo, ao, k8⟩
  rw [hold7.ac.1, List.take_length] at ao
  have hold8 : Held b ld lc pr rc cs x H8 := hold7.keep k8 (by simpa using lob.symm) (by simpa using lod.symm) (by simpa using loc)
  have oth8 : Other lo po b lc ro (cs.map (turnC z)) (turnT z x) H8 := ⟨elo, ao, okc.turn z0 z3, by rw [List.length_map]; exact c6, k8.tm m7, turnT_U z0 z3 _ ux, lob, loc.symm⟩
  refine ⟨_, rfl, b, ld, 6, rfl, by decide, hold8.box, fun n H9 n0 n6 dr9 => ?_⟩
  -- the four ways to change the other one
  refine ⟨Mid a b ld lc pr rc cs x z n, ?_, ?_⟩
  · have M9 := hold8.drew dr9
    have O9 := oth8.drew dr9
    refine ⟨_, rfl, rfl, _, rfl, ite2 (fun _ => ?_) (fun _ => ⟨lo, po, _, ro, _, _, rfl, M9, O9⟩)⟩
    refine ⟨_, rfl, b, ld, rfl, M9.box, fun lo' ro' ds' H' nlo e a' ok' len' dr => ?_⟩
    exact ⟨lo', po, _, ro', ds', _, rfl, M9.drew dr, e, a', ok', len', dr.kp.tm O9.res, O9.u, (M9.box.off nlo).1, (ne_of_none M9.atC nlo).symm⟩
  rintro σ' H10 ⟨lo, po, v7, ro, ds, y, rfl, M, O⟩
  refine ⟨Mid a b ld lc pr rc cs x z n, ?_, ?_⟩
  · refine and_test (decide (V.int n = V.int 1)) (decide ((0 : Int) < ((ro.length : Nat) : Int))) (fun Q' q' => ⟨_, rfl, rfl, _, rfl, q'⟩) (fun Q' q' => ⟨_, rfl, lo, ro, rfl, .inl (SqL.of O.atO), _, _, rfl, rfl, _, rfl, q'⟩) ?_
    refine ite2 (fun _ => ?_) (fun _ => ⟨lo, po, _, ro, _, _, rfl, M, O⟩)
    refine ⟨_, rfl, 1, rfl, lo, ro, rfl, SqL.of O.atO, fun p hp => ?_⟩
    rw [cut_one]
    exact ⟨p, po, _, ro.drop 1, ds.drop 1, y, rfl, M.new hp _, upd_same, ((Kp.new (S := []) hp _).cls O.ao).drop1, O.ok.drop1, by rw [List.length_drop]; have := O.len; omega, at_new hp O.res, O.u, (M.box.off hp).1, (ne_of_none M.atC hp).symm⟩
  clear oth8 elo ao k8 lob lod loc hlo elo7
  rintro σ' H11 ⟨lo, po, v7, ro, ds, y, rfl, M, O⟩
  refine ⟨Mid a b ld lc pr rc cs x z n, ?_, ?_⟩
  · refine and_test (decide (V.int n = V.int 2)) (decide ((0 : Int) < ((ro.length : Nat) : Int))) (fun Q' q' => ⟨_, rfl, rfl, _, rfl, q'⟩) (fun Q' q' => ⟨_, rfl, lo, ro, rfl, .inl (SqL.of O.atO), _, _, rfl, rfl, _, rfl, q'⟩) ?_
    refine ite2 (fun c => ?_) (fun _ => ⟨lo, po, _, ro, _, _, rfl, M, O⟩)
    obtain ⟨_, c2⟩ := (Bool.and_eq_true _ _).mp c
    have c2 : (0 : Int) < ((ro.length : Nat) : Int) := of_decide_eq_true c2
    obtain ⟨elo, ao, okd, len, res, uy, nb, nc⟩ := O
    cases ro with
    | nil => simp at c2
    | cons v ro =>
    cases ds with
    | nil => cases ao.1
    | cons cc ds =>
    obtain ⟨⟨ca, p1, p2, p3, rfl, hca, w1, w2, w3⟩, ar⟩ := ao.tail
    refine ⟨_, rfl, lo, _, _, _, rfl, rfl, SqL.of elo, atI_nat (j := 0) rfl, ca, _, _, _, rfl, rfl, SqT.of hca, atI_nat (j := 0) rfl, ?_⟩
    refine ⟨_, rfl, b, ld, rfl, M.box, fun p t H12 ut mt dr => ?_⟩
    have elo12 := dr.at nb elo
    refine ⟨_, rfl, lo, _, _, _, rfl, rfl, SqL.of elo12, atI_nat (j := 0) rfl, ca, _, _, _, rfl, rfl, SqT.of (dr.kp.tup _ _ hca), atI_nat (j := 2) rfl, by show 3 ≤ sizeLine; decide, fun q hq => ?_⟩
    have elo13 : upd H12 q (.tup [.ref p1, .ref p, .ref p3]) lo = some (.lst (.ref ca :: ro)) := at_new hq elo12
    have k13 : Kp [b] H11 (upd H12 q (.tup [.ref p1, .ref p, .ref p3])) := dr.kp.trans (.new hq _)
    have M13 := (M.drew dr).new hq (.tup [.ref p1, .ref p, .ref p3])
    have cl : ClV (upd H12 q (.tup [.ref p1, .ref p, .ref p3])) (.ref q) ⟨cc.a, t, cc.s⟩ := ⟨q, p1, p, p3, rfl, upd_same, k13.tm w1, at_new hq mt, k13.tm w3⟩
    generalize upd H12 q (.tup [.ref p1, .ref p, .ref p3]) = H13 at elo13 k13 M13 cl ⊢
    refine ⟨_, rfl, lo, _, 0, 0, rfl, rfl, elo13, (by unfold ixN; rw [if_pos (Int.le_refl 0), if_pos (by rw [List.length_cons]; omega)]; rfl), ?_⟩
    have k14 : Kp [lo] H13 (upd H13 lo (.lst ((.ref ca :: ro).set 0 (.ref q)))) := .lst elo13 (by simp) _
    have nld : lo ≠ ld := by
      obtain ⟨_, ds2, _, hh, _⟩ := M13.box
      exact ne_of elo13 hh (by intro z; cases ds2 <;> cases z)
    refine ⟨lo, po, _, .ref q :: ro, ⟨cc.a, t, cc.s⟩ :: ds, y, rfl, M13.keep k14 (by simpa using nb.symm) (by simpa using nld.symm) (by simpa using nc.symm), upd_same, .cons (cl.mono k14.tup) (k14.cls (k13.cls ar)), okd.first ut, len, k14.tm (k13.tm res), uy, nb, nc⟩
  rintro σ' H12 ⟨lo, po, v7, ro, ds, y, rfl, M, O⟩
  refine ⟨Mid a b ld lc pr rc cs x z n, ?_, ?_⟩
  · refine ⟨_, rfl, rfl, _, rfl, ite2 (fun _ => ?_) (fun _ => ⟨lo, po, _, ro, _, _, rfl, M, O⟩)⟩
    refine ⟨_, rfl, b, ld, rfl, M.box, fun p t H13 ut mt dr => ?_⟩
    obtain ⟨elo, ao, okd, len, res, uy, nb, nc⟩ := O.drew dr
    exact ⟨lo, p, _, ro, ds, t, rfl, M.drew dr, elo, ao, okd, len, mt, ut, nb, nc⟩
  rintro σ' H13 ⟨lo, po, v7, ro, ds, y, rfl, M, O⟩
  -- the roots
  refine ⟨_, rfl, b, ld, 3, rfl, by decide, M.box, fun m H14 m0 m3 dr14 => ⟨m, rfl, by omega, by omega, fun D hD => lc_range (lo := 0) (n := m.toNat) (fun j H' => ∃ acc ts, H' D = some (.lst acc) ∧ All (TmV H') acc ts ∧ (∀ t ∈ ts, t ∈ U) ∧ ts.length ≤ j ∧ BoxAt H' b ld ∧ Kp [b, D] H14 H') ?_ ?_ ?_⟩⟩
  · exact ⟨[], [], upd_same, .nil, fun _ h => (by cases h), Nat.le_refl _, dr14.box.keep (Kp.new (S := []) hD _) (by simp) (by simp), .new hD _⟩
  · rintro j H15 hj ⟨acc, ts, e, aa, uu, tl, bx, k15⟩
    have nDb : D ≠ b := (dr14.box.off hD).1
    have nDd : D ≠ ld := (dr14.box.off hD).2
    refine ⟨rfl, _, rfl, b, ld, rfl, bx, fun p t H16 ut _ mt dr16 => ⟨acc, dr16.at nDb e, by rw [aa.1]; exact smaller (by omega), acc ++ [.ref p], ts ++ [t], upd_same, ?_, ?_, ?_, ?_, ?_⟩⟩
    · have k17 : Kp [D] H16 (upd H16 D (.lst (acc ++ [.ref p]))) := .lst (dr16.at nDb e) (by simp) _
      exact (k17.tms (dr16.kp.tms aa)).snoc ⟨p, rfl, k17.tm mt⟩
    · intro t' ht'
      rcases List.mem_append.mp ht' with h | h
      · exact uu t' h
      · rw [List.mem_singleton.mp h]; exact ut
    · rw [List.length_append, List.length_singleton]; omega
    · exact dr16.box.put nDb nDd _
    · exact (k15.trans (dr16.kp.mono (by simp))).trans (.lst (dr16.at nDb e) (by simp) _)
  rintro H15 ⟨acc, ts, eD, aa, uu, tl, bx, k15⟩
  refine ⟨D, acc, rfl, .inl ⟨SqL.of eD, fun tr htr => ?_⟩⟩
  have nlb : lc ≠ b := M.nb
  have nlD : lc ≠ D := ne_of_none (M.drew dr14).atC hD
  have M15 : Held b ld lc pr rc cs x H15 := by
    obtain ⟨_, h2, h3, h4⟩ := M.drew dr14
    exact ⟨bx, k15.but _ _ (by simp [nlb, nlD]) h2, k15.cls h3, k15.tm h4⟩
  have O14 := O.drew dr14
  have noD : lo ≠ D := ne_of_none O14.atO hD
  have O15 : Other lo po b lc ro ds y H15 := O14.keep k15 (by simp [O14.nb, noD])
  have M16 := M15.new htr (.tup acc)
  have O16 := O15.keep (Kp.new (S := []) htr (.tup acc)) (by simp)
  have a16 := (Kp.new (S := []) htr (.tup acc)).tms aa
  have et16 : upd H15 tr (.tup acc) tr = some (.tup acc) := upd_same
  generalize upd H15 tr (.tup acc) = H16 at M16 O16 a16 et16 ⊢
  have t2 : ts.length ≤ 2 := by omega
  -- the pairs
  refine ⟨_, rfl, _, rfl, by show 2 ≤ sizeLine; decide, fun p0 hp0 => ⟨by show 1 ≤ sizeLine; decide, fun lp hlp => ?_⟩⟩
  have k17 : Kp [] H16 (upd (upd H16 p0 (.tup [.ref pr, .ref po])) lp (.lst [.ref p0])) := (Kp.new hp0 _).trans (.new hlp _)
  have pr0 : PrV (upd (upd H16 p0 (.tup [.ref pr, .ref po])) lp (.lst [.ref p0])) (.ref p0) (x, y) := ⟨p0, pr, po, rfl, at_new hlp upd_same, k17.tm M16.res, k17.tm O16.res⟩
  have M17 := M16.keep k17 (by simp) (by simp) (by simp)
  have O17 := O16.keep k17 (by simp)
  have a17 := k17.tms a16
  have et17 := k17.tup _ _ et16
  have elp : upd (upd H16 p0 (.tup [.ref pr, .ref po])) lp (.lst [.ref p0]) lp = some (.lst [.ref p0]) := upd_same
  have nlp : lc ≠ lp := ne_of_none ((Kp.new (S := []) hp0 (.tup [.ref pr, .ref po])).but _ _ (by simp) M16.atC) hlp
  have nop : lo ≠ lp := ne_of_none ((Kp.new (S := []) hp0 (.tup [.ref pr, .ref po])).but _ _ (by simp) O16.atO) hlp
  have hold17 : b ≠ lp ∧ ld ≠ lp := by
    have q := (M16.new hp0 (.tup [.ref pr, .ref po])).box.off hlp
    exact ⟨q.1.symm, q.2.symm⟩
  generalize upd (upd H16 p0 (.tup [.ref pr, .ref po])) lp (.lst [.ref p0]) = H17 at pr0 M17 O17 a17 et17 elp ⊢
  refine ⟨_, rfl, tr, rfl, ⟨_, SqT.of et17⟩, for_tup (xs := acc) (fun i σ H' => ∃ v11 rp, σ = [some (.ref a), some (.ref b), some (.ref lc), some (.ref pr), some (.int z), some (.ref po), some (.ref lo), v7, some (.int n), some (.ref tr), some (.ref lp), v11, none, none, none] ∧
      H' lp = some (.lst rp) ∧ All (PrV H') rp (first x y (ts.take i)) ∧ Kp [lp] H17 H') ⟨_, _, rfl, elp, .cons pr0 .nil, .refl _ _⟩ (fun i σ H' _ ⟨_, _, _, _, _, k⟩ => SqT.of (k.tup _ _ et17)) ?_ ?_⟩
  · rintro i v σ H18 hv ⟨v11, rp, rfl, e, ap, k18⟩
    obtain ⟨t, hti, pt, rfl, mt⟩ := (k18.tms a17).at hv
    refine ⟨_, rfl, .inl ⟨rfl, _, SqL.of e⟩, _, rfl, _, rfl, by show 2 ≤ sizeLine; decide, fun q hq => ⟨lp, rp, _, rfl, rfl, at_new hq e, ?_, ?_⟩⟩
    · rw [ap.1, List.length_cons, List.length_map, List.length_take]
      exact smaller (by omega)
    · have k19 : Kp [lp] H18 (upd (upd H18 q (.tup [.ref pt, .ref pt])) lp (.lst (rp ++ [.ref q]))) := (Kp.new hq _).trans (.lst (at_new hq e) (by simp) _)
      have e4 : ts.take (i + 1) = ts.take i ++ [t] := by rw [List.take_add_one, hti]; rfl
      have e5 : first x y (ts.take (i + 1)) = first x y (ts.take i) ++ [(t, t)] := by
        show (x, y) :: (ts.take (i + 1)).map (fun r => (r, r)) = (x, y) :: (ts.take i).map (fun r => (r, r)) ++ [(t, t)]
        rw [e4, List.map_append]
        rfl
      refine ⟨_, rp ++ [.ref q], rfl, upd_same, ?_, k18.trans k19⟩
      rw [e5]
      exact (k19.prs ap).snoc ⟨q, pt, pt, rfl, (Kp.lst (S := [lp]) (at_new hq e) (by simp) _).tup _ _ upd_same, k19.tm mt, k19.tm mt⟩
  rintro σ H18 ⟨v11, rp, rfl, elp18, ap, k18⟩
  rw [a17.1, List.take_length] at ap
  have M18 : Held b ld lc pr rc cs x H18 := M17.keep k18 (by simpa using hold17.1) (by simpa using hold17.2) (by simpa using nlp)
  have O18 := O17.keep k18 (by simpa using nop)
  have a18 := k18.tms a17
  have et18 := k18.tup _ _ et17
  have huu : InUU (first x y ts) := fun q hq => by
    rcases List.mem_cons.mp hq with h | h
    · rw [h]; exact ⟨ux, O18.u⟩
    · obtain ⟨t, ht, rfl⟩ := List.mem_map.mp h
      exact ⟨uu t ht, uu t ht⟩
  have i3 : (first x y ts).length ≤ 3 := by
    show (ts.map fun r => (r, r)).length + 1 ≤ 3
    rw [List.length_map]
    omega
  -- both walks, and their answers compared
  refine ⟨_, rfl, _, rfl, _, rfl, lc, lo, lp, rc, ro, rp, cs, ds, first x y ts, rfl, M18.atC, M18.ac, O18.atO, O18.ao, elp18, ap, okc, O18.ok, c6, O18.len, huu, i3, ?_, ?_⟩
  · intro hdue H19 s19
    have M19 := M18.keep (Same.kp (S := []) s19) (by simp) (by simp) (by simp)
    have O19 := O18.keep (Same.kp (S := []) s19) (by simp)
    have a19 := (Same.kp (S := []) s19).tms a18
    have et19 := s19 _ _ et18
    refine ⟨_, rfl, _, rfl, lc, rc, rfl, .inl ⟨SqL.of M19.atC, fun tc htc => ⟨_, rfl, _, rfl, lo, ro, rfl, .inl ⟨SqL.of (at_new htc O19.atO), fun te hte => ⟨_, rfl, ?_⟩⟩⟩⟩⟩
    have k20 : Kp [] H19 (upd (upd H19 tc (.tup rc)) te (.tup ro)) := (Kp.new htc _).trans (.new hte _)
    refine ⟨pr, tc, po, te, tr, rc, ro, acc, x, y, cs, ds, ts, rfl, k20.tm M19.res, k20.tm O19.res, at_new hte upd_same, k20.cls M19.ac, upd_same, k20.cls O19.ao, k20.tup _ _ et19, k20.tms a19, okc, O18.ok, c6, O18.len, t2, huu, ?_, ?_⟩
    · intro _ H20 _
      exact ⟨_, rfl, .non, .non, .none, rfl, .non, .non, True.intro, k _⟩
    · intro th p rs H20 hd
      rw [hdue] at hd
      cases hd
  · intro th p rs H19 hdue ep apr tlen s19
    have M19 := M18.keep (Same.kp (S := []) s19) (by simp) (by simp) (by simp)
    have O19 := O18.keep (Same.kp (S := []) s19) (by simp)
    have a19 := (Same.kp (S := []) s19).tms a18
    have et19 := s19 _ _ et18
    refine ⟨_, rfl, _, rfl, lc, rc, rfl, .inl ⟨SqL.of M19.atC, fun tc htc => ⟨_, rfl, _, rfl, lo, ro, rfl, .inl ⟨SqL.of (at_new htc O19.atO), fun te hte => ⟨_, rfl, ?_⟩⟩⟩⟩⟩
    have k20 : Kp [] H19 (upd (upd H19 tc (.tup rc)) te (.tup ro)) := (Kp.new htc _).trans (.new hte _)
    refine ⟨pr, tc, po, te, tr, rc, ro, acc, x, y, cs, ds, ts, rfl, k20.tm M19.res, k20.tm O19.res, at_new hte upd_same, k20.cls M19.ac, upd_same, k20.cls O19.ao, k20.tup _ _ et19, k20.tms a19, okc, O18.ok, c6, O18.len, t2, huu, ?_, ?_⟩
    · intro hd
      rw [hdue] at hd
      cases hd
    · intro th2 p2 rs2 H20 hd ep2 apr2 _ s20
      rw [hdue] at hd
      cases hd
      have k21 : Kp [] H19 H20 := k20.trans (Same.kp s20)
      exact ⟨_, rfl, .ref p2, .ref p, .tuple (th.map pd), rfl, .tup (SqT.of ep2) (All.dp (fun _ _ h => h.dp) apr2), .tup (SqT.of (k21.tup _ _ ep)) (All.dp (fun _ _ h => h.dp) (k21.prs apr)), okd_pds (by omega), k _⟩
end
end K86

/-! K86G: the program's top, the end. -/
namespace K86
open PySem L2
theorem all_mk {l : PySem.W.OpenLaw} {w : World} {K : PySem.W.Frag} {h : Heap} {mg : Str → Option Value} {fa C f1 f2 f3 f4 f5 f6 f7 f8 f9 f10 f11 f12 f13 f14 f15 : Addr} (X : K.In h) (G : h.Ns mainGlobals mg) (hfa : mg "law" = some (.ref fa))
    {od1 an1 od2 an2 od3 an3 od4 an4 od5 an5 od6 an6 od7 an7 od8 an8 od9 an9 od10 an10 od11 an11 od12 an12 od13 an13 od14 an14 od15 an15 : Option Addr} {sl1 sl2 sl3 sl4 sl5 sl6 sl7 sl8 sl9 sl10 sl11 sl12 sl13 sl14 sl15 : Array (Option Value)} {oc1 kV1 dc1 pm1 cd1 ct1 oc2 kV2 dc2 pm2 cd2 ct2 oc3 kV3 dc3 pm3 cd3 ct3 oc4 kV4 dc4 pm4 cd4 ct4 oc5 kV5 dc5 pm5 cd5 ct5 oc6 kV6 dc6 pm6 cd6 ct6 oc7 kV7 dc7 pm7 cd7 ct7 oc8 kV8 dc8 pm8 cd8 ct8 oc9 kV9 dc9 pm9 cd9 ct9 oc10 kV10 dc10 pm10 cd10 ct10 oc11 kV11 dc11 pm11 cd11 ct11 oc12 kV12 dc12 pm12 cd12 ct12 oc13 kV13 dc13 pm13 cd13 ct13 oc14 kV14 dc14 pm14 cd14 ct14 oc15 kV15 dc15 pm15 cd15 ct15 : Value}
    (aC : PySem.W.nsIn K mainGlobals "Matching" = some (some (.ref C)))
    (a1 : PySem.W.findIn K (.ref C) "__init__" = some (some (.ref f1)))
    (i1 : PySem.W.isFn K (.ref f1) = true)
    (l1 : K.lookup f1 = some ⟨oc1, od1, .func (PySem.W.fnOf "__init__" "Matching.__init__" (defArgs sInit) (defBody sInit) (defScope sInit) .none kV1 dc1 pm1 an1 cd1 ct1), sl1⟩)
    (c1 : PySem.W.codeIn K cd1 "Matching.__init__" = true)
    (k1 : PySem.W.keepIn K (.ref f1) = true)
    (a2 : PySem.W.findIn K (.ref C) "fits" = some (some (.ref f2)))
    (i2 : PySem.W.isFn K (.ref f2) = true)
    (l2 : K.lookup f2 = some ⟨oc2, od2, .func (PySem.W.fnOf "fits" "Matching.fits" (defArgs sFits) (defBody sFits) (defScope sFits) .none kV2 dc2 pm2 an2 cd2 ct2), sl2⟩)
    (c2 : PySem.W.codeIn K cd2 "Matching.fits" = true)
    (k2 : PySem.W.keepIn K (.ref f2) = true)
    (a3 : PySem.W.findIn K (.ref C) "meet" = some (some (.ref f3)))
    (i3 : PySem.W.isFn K (.ref f3) = true)
    (l3 : K.lookup f3 = some ⟨oc3, od3, .func (PySem.W.fnOf "meet" "Matching.meet" (defArgs sMeet) (defBody sMeet) (defScope sMeet) .none kV3 dc3 pm3 an3 cd3 ct3), sl3⟩)
    (c3 : PySem.W.codeIn K cd3 "Matching.meet" = true)
    (k3 : PySem.W.keepIn K (.ref f3) = true)
    (a4 : PySem.W.nsIn K mainGlobals "matched" = some (some (.ref f4)))
    (l4 : K.lookup f4 = some ⟨oc4, od4, .func (PySem.W.fnOf "matched" "matched" (defArgs sMatched) (defBody sMatched) (defScope sMatched) .none kV4 dc4 pm4 an4 cd4 ct4), sl4⟩)
    (c4 : PySem.W.codeIn K cd4 "matched" = true)
    (k4 : PySem.W.keepIn K (.ref f4) = true)
    (a5 : PySem.W.nsIn K mainGlobals "_law_draw" = some (some (.ref f5)))
    (l5 : K.lookup f5 = some ⟨oc5, od5, .func (PySem.W.fnOf "_law_draw" "_law_draw" (defArgs sDraw) (defBody sDraw) (defScope sDraw) .none kV5 dc5 pm5 an5 cd5 ct5), sl5⟩)
    (c5 : PySem.W.codeIn K cd5 "_law_draw" = true)
    (k5 : PySem.W.keepIn K (.ref f5) = true)
    (a6 : PySem.W.nsIn K mainGlobals "_law_old_term" = some (some (.ref f6)))
    (l6 : K.lookup f6 = some ⟨oc6, od6, .func (PySem.W.fnOf "_law_old_term" "_law_old_term" (defArgs sOld) (defBody sOld) (defScope sOld) .none kV6 dc6 pm6 an6 cd6 ct6), sl6⟩)
    (c6 : PySem.W.codeIn K cd6 "_law_old_term" = true)
    (k6 : PySem.W.keepIn K (.ref f6) = true)
    (a7 : PySem.W.nsIn K mainGlobals "_law_any_term" = some (some (.ref f7)))
    (l7 : K.lookup f7 = some ⟨oc7, od7, .func (PySem.W.fnOf "_law_any_term" "_law_any_term" (defArgs sAny) (defBody sAny) (defScope sAny) .none kV7 dc7 pm7 an7 cd7 ct7), sl7⟩)
    (c7 : PySem.W.codeIn K cd7 "_law_any_term" = true)
    (k7 : PySem.W.keepIn K (.ref f7) = true)
    (a8 : PySem.W.nsIn K mainGlobals "_law_cells_of" = some (some (.ref f8)))
    (l8 : K.lookup f8 = some ⟨oc8, od8, .func (PySem.W.fnOf "_law_cells_of" "_law_cells_of" (defArgs sCellsOf) (defBody sCellsOf) (defScope sCellsOf) .none kV8 dc8 pm8 an8 cd8 ct8), sl8⟩)
    (c8 : PySem.W.codeIn K cd8 "_law_cells_of" = true)
    (k8 : PySem.W.keepIn K (.ref f8) = true)
    (a9 : PySem.W.nsIn K mainGlobals "_law_cell" = some (some (.ref f9)))
    (l9 : K.lookup f9 = some ⟨oc9, od9, .func (PySem.W.fnOf "_law_cell" "_law_cell" (defArgs sCell) (defBody sCell) (defScope sCell) .none kV9 dc9 pm9 an9 cd9 ct9), sl9⟩)
    (c9 : PySem.W.codeIn K cd9 "_law_cell" = true)
    (k9 : PySem.W.keepIn K (.ref f9) = true)
    (a10 : PySem.W.nsIn K mainGlobals "_law_digits" = some (some (.ref f10)))
    (l10 : K.lookup f10 = some ⟨oc10, od10, .func (PySem.W.fnOf "_law_digits" "_law_digits" (defArgs sDigits) (defBody sDigits) (defScope sDigits) .none kV10 dc10 pm10 an10 cd10 ct10), sl10⟩)
    (c10 : PySem.W.codeIn K cd10 "_law_digits" = true)
    (k10 : PySem.W.keepIn K (.ref f10) = true)
    (a11 : PySem.W.nsIn K mainGlobals "_law_match_cells" = some (some (.ref f11)))
    (l11 : K.lookup f11 = some ⟨oc11, od11, .func (PySem.W.fnOf "_law_match_cells" "_law_match_cells" (defArgs sWalk) (defBody sWalk) (defScope sWalk) .none kV11 dc11 pm11 an11 cd11 ct11), sl11⟩)
    (c11 : PySem.W.codeIn K cd11 "_law_match_cells" = true)
    (k11 : PySem.W.keepIn K (.ref f11) = true)
    (a12 : PySem.W.nsIn K mainGlobals "_law_same" = some (some (.ref f12)))
    (l12 : K.lookup f12 = some ⟨oc12, od12, .func (PySem.W.fnOf "_law_same" "_law_same" (defArgs sSame) (defBody sSame) (defScope sSame) .none kV12 dc12 pm12 an12 cd12 ct12), sl12⟩)
    (c12 : PySem.W.codeIn K cd12 "_law_same" = true)
    (k12 : PySem.W.keepIn K (.ref f12) = true)
    (a13 : PySem.W.nsIn K mainGlobals "_law_turn" = some (some (.ref f13)))
    (l13 : K.lookup f13 = some ⟨oc13, od13, .func (PySem.W.fnOf "_law_turn" "_law_turn" (defArgs sTurn) (defBody sTurn) (defScope sTurn) .none kV13 dc13 pm13 an13 cd13 ct13), sl13⟩)
    (c13 : PySem.W.codeIn K cd13 "_law_turn" = true)
    (k13 : PySem.W.keepIn K (.ref f13) = true)
    (a14 : PySem.W.nsIn K mainGlobals "_law_cells_made" = some (some (.ref f14)))
    (l14 : K.lookup f14 = some ⟨oc14, od14, .func (PySem.W.fnOf "_law_cells_made" "_law_cells_made" (defArgs sMade) (defBody sMade) (defScope sMade) .none kV14 dc14 pm14 an14 cd14 ct14), sl14⟩)
    (c14 : PySem.W.codeIn K cd14 "_law_cells_made" = true)
    (k14 : PySem.W.keepIn K (.ref f14) = true)
    (a15 : PySem.W.nsIn K mainGlobals "law" = some (some (.ref f15)))
    (l15 : K.lookup f15 = some ⟨oc15, od15, .func (PySem.W.fnOf "law" "law" (defArgs sLaw) (defBody sLaw) (defScope sLaw) .none kV15 dc15 pm15 an15 cd15 ct15), sl15⟩)
    (c15 : PySem.W.codeIn K cd15 "law" = true)
    (k15 : PySem.W.keepIn K (.ref f15) = true)
    (pg : PySem.W.plainGet K C Str.empty = true)
    (hd : PySem.W.hasDictIn K C = true)
    (po : PySem.W.plainOver K C = true)
    (sa : PySem.W.findIn K (.ref C) "__setattr__" = some (some (.builtin "object.__setattr__")))
    (mk : PySem.W.makesIn K C = true)
    (kc : PySem.W.keepIn K (.ref C) = true)
    (nM : PySem.W.findIn K (.ref C) "met" = some none)
    (nT : PySem.W.findIn K (.ref C) "there" = some none)
    (nB : PySem.W.findIn K (.ref C) "back" = some none)
    (z_isi : PySem.W.nsIn K mainGlobals "isinstance" = some none)
    (z_tup : PySem.W.nsIn K mainGlobals "tuple" = some none)
    (z_len : PySem.W.nsIn K mainGlobals "len" = some none)
    (z_rng : PySem.W.nsIn K mainGlobals "range" = some none)
    (z_bool : PySem.W.nsIn K mainGlobals "bool" = some none)
    (z_int : PySem.W.nsIn K mainGlobals "int" = some none)
    (z_str : PySem.W.nsIn K mainGlobals "str" = some none)
    (z_list : PySem.W.nsIn K mainGlobals "list" = some none)
    (z_zip : PySem.W.nsIn K mainGlobals "zip" = some none)
    : ∃ fd : FuncData, (∀ (s : Shared) (v : Value), BindsTo s fd ⟨[v], []⟩ [("_law_script", v)]) ∧ ∀ base : Heap, K.In base → base.Ns mainGlobals mg → FnOk l.prog w K mg base CX0 6 fa fd ["_law_script"] (spLaw K) := by
  have e := hfa.symm.trans (PySem.W.mg_of X G a15)
  cases e
  have T : Txt K mg C := ⟨⟨pg, hd, po, sa⟩, nM, nT, nB, PySem.W.mg_of X G aC⟩
  have B : Bi mg := ⟨PySem.W.mg_none_of X G z_isi, PySem.W.mg_none_of X G z_tup, PySem.W.mg_none_of X G z_len, PySem.W.mg_none_of X G z_rng, PySem.W.mg_none_of X G z_bool, PySem.W.mg_none_of X G z_int, PySem.W.mg_none_of X G z_str, PySem.W.mg_none_of X G z_list, PySem.W.mg_none_of X G z_zip⟩
  have F1 := fun_mk (st := sInit) l1 c1 k1
  have b1 := F1.binds (ps := ["self", "pairs"]) fun _ _ _ _ _ _ us hl => match us, hl with | [_, _], _ => rfl
  have F2 := fun_mk (st := sFits) l2 c2 k2
  have b2 := F2.binds (ps := ["self", "first", "second"]) fun _ _ _ _ _ _ us hl => match us, hl with | [_, _, _], _ => rfl
  have F3 := fun_mk (st := sMeet) l3 c3 k3
  have b3 := F3.binds (ps := ["self", "cell", "other"]) fun _ _ _ _ _ _ us hl => match us, hl with | [_, _, _], _ => rfl
  have F4 := fun_mk (st := sMatched) l4 c4 k4
  have b4 := F4.binds (ps := ["result", "cells", "other_result", "other_cells", "roots"]) fun _ _ _ _ _ _ us hl => match us, hl with | [_, _, _, _, _], _ => rfl
  have D4 : Has K mg "matched" f4 _ ["result", "cells", "other_result", "other_cells", "roots"] := ⟨PySem.W.mg_of X G a4, k4, b4⟩
  have F5 := fun_mk (st := sDraw) l5 c5 k5
  have b5 := F5.binds (ps := ["_law_box", "_law_many"]) fun _ _ _ _ _ _ us hl => match us, hl with | [_, _], _ => rfl
  have D5 : Has K mg "_law_draw" f5 _ ["_law_box", "_law_many"] := ⟨PySem.W.mg_of X G a5, k5, b5⟩
  have F6 := fun_mk (st := sOld) l6 c6 k6
  have b6 := F6.binds (ps := ["_law_box", "_law_many"]) fun _ _ _ _ _ _ us hl => match us, hl with | [_, _], _ => rfl
  have D6 : Has K mg "_law_old_term" f6 _ ["_law_box", "_law_many"] := ⟨PySem.W.mg_of X G a6, k6, b6⟩
  have F7 := fun_mk (st := sAny) l7 c7 k7
  have b7 := F7.binds (ps := ["_law_box", "_law_many", "_law_news"]) fun _ _ _ _ _ _ us hl => match us, hl with | [_, _, _], _ => rfl
  have D7 : Has K mg "_law_any_term" f7 _ ["_law_box", "_law_many", "_law_news"] := ⟨PySem.W.mg_of X G a7, k7, b7⟩
  have F8 := fun_mk (st := sCellsOf) l8 c8 k8
  have b8 := F8.binds (ps := ["_law_box", "_law_most", "_law_many", "_law_news"]) fun _ _ _ _ _ _ us hl => match us, hl with | [_, _, _, _], _ => rfl
  have D8 : Has K mg "_law_cells_of" f8 _ ["_law_box", "_law_most", "_law_many", "_law_news"] := ⟨PySem.W.mg_of X G a8, k8, b8⟩
  have F9 := fun_mk (st := sCell) l9 c9 k9
  have b9 := F9.binds (ps := ["_law_script", "_law_k"]) fun _ _ _ _ _ _ us hl => match us, hl with | [_, _], _ => rfl
  have D9 : Has K mg "_law_cell" f9 _ ["_law_script", "_law_k"] := ⟨PySem.W.mg_of X G a9, k9, b9⟩
  have F10 := fun_mk (st := sDigits) l10 c10 k10
  have b10 := F10.binds (ps := ["_law_script", "_law_first", "_law_last"]) fun _ _ _ _ _ _ us hl => match us, hl with | [_, _, _], _ => rfl
  have D10 : Has K mg "_law_digits" f10 _ ["_law_script", "_law_first", "_law_last"] := ⟨PySem.W.mg_of X G a10, k10, b10⟩
  have F11 := fun_mk (st := sWalk) l11 c11 k11
  have b11 := F11.binds (ps := ["_law_cells", "_law_other_cells", "_law_pairs"]) fun _ _ _ _ _ _ us hl => match us, hl with | [_, _, _], _ => rfl
  have D11 : Has K mg "_law_match_cells" f11 _ ["_law_cells", "_law_other_cells", "_law_pairs"] := ⟨PySem.W.mg_of X G a11, k11, b11⟩
  have F12 := fun_mk (st := sSame) l12 c12 k12
  have b12 := F12.binds (ps := ["_law_actual", "_law_expected"]) fun _ _ _ _ _ _ us hl => match us, hl with | [_, _], _ => rfl
  have D12 : Has K mg "_law_same" f12 _ ["_law_actual", "_law_expected"] := ⟨PySem.W.mg_of X G a12, k12, b12⟩
  have F13 := fun_mk (st := sTurn) l13 c13 k13
  have b13 := F13.binds (ps := ["_law_term", "_law_shift"]) fun _ _ _ _ _ _ us hl => match us, hl with | [_, _], _ => rfl
  have D13 : Has K mg "_law_turn" f13 _ ["_law_term", "_law_shift"] := ⟨PySem.W.mg_of X G a13, k13, b13⟩
  have F14 := fun_mk (st := sMade) l14 c14 k14
  have b14 := F14.binds (ps := ["_law_box"]) fun _ _ _ _ _ _ us hl => match us, hl with | [_], _ => rfl
  have D14 : Has K mg "_law_cells_made" f14 _ ["_law_box"] := ⟨PySem.W.mg_of X G a14, k14, b14⟩
  have F15 := fun_mk (st := sLaw) l15 c15 k15
  refine ⟨PySem.W.fnOf "law" "law" (defArgs sLaw) (defBody sLaw) (defScope sLaw) .none kV15 dc15 pm15 an15 cd15 ct15, fun s v => .of_eq rfl, fun base _ _ => ?_⟩
  have GI := ok_init (P := l.prog) (w := w) (base := base) F1 T B
  have GF := ok_fits (P := l.prog) (w := w) (base := base) F2 T
  have GM := ok_meet (P := l.prog) (w := w) (base := base) F3 T B
  have G4 := ok_matched (P := l.prog) (w := w) (base := base) F4 T B ⟨mk, a1, i1, kc⟩ GI b1 GF b2 ⟨a2, i2, k2⟩ GM b3 ⟨a3, i3, k3⟩
  have G5 := ok_draw (P := l.prog) (w := w) (base := base) F5 B.len B.int
  have G6 := ok_old F6 D5 G5
  have G7 := ok_any F7 D5 G5 D6 G6
  have G8 := ok_cellsOf F8 D5 G5 D6 G6 D7 G7 B.rng B.tup
  have G14 := ok_made F14 D5 G5 D8 G8 D7 G7 B.rng B.list
  have G9 := ok_cell (P := l.prog) (w := w) (base := base) F9 B.len
  have G10 := ok_digits F10 D9 G9 B.rng B.int
  have G11 := ok_walk (P := l.prog) (w := w) (base := base) F11 B
  have G12 := ok_same (P := l.prog) (w := w) (base := base) F12 D12 B 4
  have G13 := ok_turn (P := l.prog) (w := w) (base := base) F13 B.int
  exact ok_law F15 B D10 G10 D14 G14 D7 G7 D5 G5 D13 G13 D6 G6 D11 G11 D12 G12 D4 G4
theorem walk {l : PySem.W.OpenLaw} {q : Program} {loose : List Str} {XP : (Str → Option Value) → Heap → Prop} {YP : World → Heap → Prop} {d : DefRec} {K : Params → PySem.W.Frag} (hn : l.most = some 63) (hdf : d.params.defaults = [])
    (hY : ∀ (w : World) (h : Heap), YP w h → (K w.params).In h)
    (F : ∀ (w : World) (mg : Str → Option Value) (fa : Addr) (h : Heap), (K w.params).In h → h.Ns mainGlobals mg → mg d.name = some (.ref fa) →
      ∃ fd : FuncData, (∀ (s : Shared) (u : Value), BindsTo s fd ⟨[u], []⟩ [("_law_script", u)]) ∧ ∀ base : Heap, (K w.params).In base → base.Ns mainGlobals mg → FnOk l.prog w (K w.params) mg base CX0 6 fa fd ["_law_script"] (spLaw (K w.params))) :
    PySem.W.WalkO q loose XP YP l.row.toRowW d [] (fun f vs => PySem.call f vs) :=
  L2.walk_of (n := 63) (k := 6) (x := "_law_script") (CX := fun _ => CX0) (sp := fun w => spLaw (K w.params)) hn (by decide) hdf ⟨rfl, by decide, by decide⟩ hY F (fun _ _ a ns hl _ hS => ⟨a, ns, rfl, hS, hl, fun _ => rfl⟩) fun _ _ _ _ _ z => z
end K86
open PySem PySem.W PyProof.Rows
set_option maxRecDepth 100000 in
set_option maxHeartbeats 0 in
theorem PySem.Challenge.cw_heappacts_k86_new_cells_are_matched_holds : PySem.Challenge.rw_heappacts_k86_new_cells_are_matched.Holds := by
  w_on; o_law; k_head; (case hw => w_witness2)
  k_fill
  refine K86.walk (l := PySem.Challenge.rw_heappacts_k86_new_cells_are_matched) rfl rfl (fun w h Y => PySem.W.kIn_of Y) ?F
  case F =>
    intro w mg fa h KX G hmg
    refine' K86.all_mk KX G hmg ?aC ?a1 ?i1 ?l1 ?c1 ?k1 ?a2 ?i2 ?l2 ?c2 ?k2 ?a3 ?i3 ?l3 ?c3 ?k3 ?a4 ?l4 ?c4 ?k4 ?a5 ?l5 ?c5 ?k5 ?a6 ?l6 ?c6 ?k6 ?a7 ?l7 ?c7 ?k7 ?a8 ?l8 ?c8 ?k8 ?a9 ?l9 ?c9 ?k9 ?a10 ?l10 ?c10 ?k10 ?a11 ?l11 ?c11 ?k11 ?a12 ?l12 ?c12 ?k12 ?a13 ?l13 ?c13 ?k13 ?a14 ?l14 ?c14 ?k14 ?a15 ?l15 ?c15 ?k15 ?pg ?hd ?po ?sa ?mk ?kc ?nM ?nT ?nB ?z_isi ?z_tup ?z_len ?z_rng ?z_bool ?z_int ?z_str ?z_list ?z_zip
    (case aC => k_is)
    (case a1 => k_is)
    (case i1 => k_is)
    (case l1 => k_is)
    (case c1 => k_is)
    (case k1 => k_is)
    (case a2 => k_is)
    (case i2 => k_is)
    (case l2 => k_is)
    (case c2 => k_is)
    (case k2 => k_is)
    (case a3 => k_is)
    (case i3 => k_is)
    (case l3 => k_is)
    (case c3 => k_is)
    (case k3 => k_is)
    (case a4 => k_is)
    (case l4 => k_is)
    (case c4 => k_is)
    (case k4 => k_is)
    (case a5 => k_is)
    (case l5 => k_is)
    (case c5 => k_is)
    (case k5 => k_is)
    (case a6 => k_is)
    (case l6 => k_is)
    (case c6 => k_is)
    (case k6 => k_is)
    (case a7 => k_is)
    (case l7 => k_is)
    (case c7 => k_is)
    (case k7 => k_is)
    (case a8 => k_is)
    (case l8 => k_is)
    (case c8 => k_is)
    (case k8 => k_is)
    (case a9 => k_is)
    (case l9 => k_is)
    (case c9 => k_is)
    (case k9 => k_is)
    (case a10 => k_is)
    (case l10 => k_is)
    (case c10 => k_is)
    (case k10 => k_is)
    (case a11 => k_is)
    (case l11 => k_is)
    (case c11 => k_is)
    (case k11 => k_is)
    (case a12 => k_is)
    (case l12 => k_is)
    (case c12 => k_is)
    (case k12 => k_is)
    (case a13 => k_is)
    (case l13 => k_is)
    (case c13 => k_is)
    (case k13 => k_is)
    (case a14 => k_is)
    (case l14 => k_is)
    (case c14 => k_is)
    (case k14 => k_is)
    (case a15 => k_is)
    (case l15 => k_is)
    (case c15 => k_is)
    (case k15 => k_is)
    (case pg => k_is)
    (case hd => k_is)
    (case po => k_is)
    (case sa => k_is)
    (case mk => k_is)
    (case kc => k_is)
    (case nM => k_is)
    (case nT => k_is)
    (case nB => k_is)
    (case z_isi => k_is)
    (case z_tup => k_is)
    (case z_len => k_is)
    (case z_rng => k_is)
    (case z_bool => k_is)
    (case z_int => k_is)
    (case z_str => k_is)
    (case z_list => k_is)
    (case z_zip => k_is)
