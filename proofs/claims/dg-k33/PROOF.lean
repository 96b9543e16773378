import PyProof.Rows.All
import Wide.All
import OpenK.AllK
import Wide.FinOn
import HandS.ForMost
import HandS.Exc
import HandS.TryOnly
import HandS.ExcOwn
import HandS.WordsExc
import HandS.Lambda
import HandS.Nested
import HandS.DictComp
import HandS.Conv
import HandS.SortInts
import HandS.SortRule
import HandS.Deep
import HandS.TupLe
import HandS.SetKeys
import HandS.Strs
import HandS.Steps
import KE.KDictKeyed
import HandS.Walk
import KE.GoesEnum
import KE.KDictDisplayH
import HandS.TupLen
import HandS.Flt
import HandS.TupSets
import HandS.HeadHook4
import KE.KStateDown
import HandS.Head0
import HandS.Head1
import HandS.Head2
import HandS.HeadEnd
import HandS.HeadWalk
import PySem.Challenge.RW_doppelganger_k33_whole_same_in_four_ways
set_option Elab.async false
set_option linter.all false
set_option maxRecDepth 100000
section
/-! Machines, their words; the least machine by its residual languages. Plain Lean. -/
namespace Dg
abbrev Wd := List Nat
abbrev Lang := Wd → Bool
def der (l : Lang) (a : Nat) : Lang := fun w => l (a :: w)
def dead : Lang := fun _ => false
theorem der_dead (a : Nat) : der dead a = dead := rfl
/-! ### lists without doubles -/
theorem nodup_sub_len {α : Type} : ∀ {l m : List α}, l.Nodup → (∀ x ∈ l, x ∈ m) → l.length ≤ m.length
  | [], _, _, _ => Nat.zero_le _
  | x :: r, m, nd, h => by
    obtain ⟨nx, ndr⟩ := List.nodup_cons.mp nd
    obtain ⟨s, t, e⟩ := List.append_of_mem (h x List.mem_cons_self)
    subst e
    have q : ∀ y ∈ r, y ∈ s ++ t := fun y hy => by
      have hm := h y (List.mem_cons_of_mem _ hy)
      rcases List.mem_append.mp hm with z | z
      · exact List.mem_append_left _ z
      · rcases List.mem_cons.mp z with z | z
        · subst z
          exact absurd hy nx
        · exact List.mem_append_right _ z
    have ih := nodup_sub_len ndr q
    simp only [List.length_append, List.length_cons] at ih ⊢
    omega
/-- a list that holds all of a list without doubles, and is not longer, has none -/
theorem nodup_of_cover {α : Type} : ∀ {l m : List α}, l.Nodup → (∀ x ∈ l, x ∈ m) → m.length ≤ l.length → m.Nodup := by
  intro l m
  induction m generalizing l with
  | nil => exact fun _ _ _ => List.nodup_nil
  | cons y r ih =>
    intro nd h hl
    have key : y ∈ l := by
      refine Classical.byContradiction fun hy => ?_
      have q : ∀ x ∈ l, x ∈ r := fun x hx => by
        rcases List.mem_cons.mp (h x hx) with z | z
        · subst z
          exact absurd hx hy
        · exact z
      have := nodup_sub_len nd q
      simp only [List.length_cons] at hl
      omega
    obtain ⟨s, t, e⟩ := List.append_of_mem key
    subst e
    have nst : (s ++ t).Nodup ∧ y ∉ s ++ t := by
      have p : (s ++ y :: t).Perm (y :: (s ++ t)) := List.perm_middle
      have q := List.nodup_cons.mp (p.nodup_iff.mp nd)
      exact ⟨q.2, q.1⟩
    have sub : ∀ x ∈ s ++ t, x ∈ r := fun x hx => by
      have hx2 : x ∈ s ++ y :: t := by
        rcases List.mem_append.mp hx with z | z
        · exact List.mem_append_left _ z
        · exact List.mem_append_right _ (List.mem_cons_of_mem _ z)
      rcases List.mem_cons.mp (h x hx2) with z | z
      · subst z
        exact absurd hx nst.2
      · exact z
    have hl2 : r.length ≤ (s ++ t).length := by
      simp only [List.length_append, List.length_cons] at hl ⊢
      omega
    refine List.nodup_cons.mpr ⟨fun hy => ?_, ih nst.1 sub hl2⟩
    have nd2 : (y :: (s ++ t)).Nodup := List.nodup_cons.mpr ⟨nst.2, nst.1⟩
    have := nodup_sub_len nd2 (m := r) fun x hx => by
      rcases List.mem_cons.mp hx with z | z
      · rw [z]; exact hy
      · exact sub x z
    simp only [List.length_cons, List.length_append] at this hl2
    omega
theorem nodup_inj {α : Type} {l : List α} (nd : l.Nodup) {i j : Nat} {x : α} (a : l[i]? = some x) (b : l[j]? = some x) : i = j := by
  obtain ⟨h1, e1⟩ := List.getElem?_eq_some_iff.mp a
  obtain ⟨h2, e2⟩ := List.getElem?_eq_some_iff.mp b
  exact (List.getElem_inj nd).mp (e1.trans e2.symm)
theorem nodup_of_inj {α : Type} : ∀ {l : List α}, (∀ (i j : Nat) (x : α), l[i]? = some x → l[j]? = some x → i = j) → l.Nodup
  | [], _ => List.nodup_nil
  | y :: r, h => by
    refine List.nodup_cons.mpr ⟨fun hy => ?_, nodup_of_inj fun i j x a b => ?_⟩
    · obtain ⟨i, hi⟩ := List.mem_iff_getElem?.mp hy
      have q := h 0 (i + 1) y (by simp) (by simpa using hi)
      omega
    · have q := h (i + 1) (j + 1) x (by simpa using a) (by simpa using b)
      omega
theorem nodup_nat_len {l : List Nat} {n : Nat} (nd : l.Nodup) (h : ∀ x ∈ l, x < n) : l.length ≤ n := by
  have q := nodup_sub_len (m := List.range n) nd fun x hx => List.mem_range.mpr (h x hx)
  rw [List.length_range] at q
  exact q
/-! ### machines -/
structure Mach where
  k : Nat
  rows : List (List Int)
  acc : List Bool
  deriving DecidableEq
namespace Mach
def n (M : Mach) : Nat := M.rows.length
structure Ok (M : Mach) : Prop where
  acc : M.acc.length = M.rows.length
  row : ∀ r ∈ M.rows, r.length = M.k
  ent : ∀ r ∈ M.rows, ∀ x ∈ r, -1 ≤ x ∧ x < (M.rows.length : Int)
def init (M : Mach) : Int := if 0 < M.rows.length then 0 else -1
def row (M : Mach) (s : Int) : List Int := if s < 0 then [] else M.rows.getD s.toNat []
def nxt (M : Mach) (s : Int) (a : Nat) : Int := (M.row s).getD a (-1)
def fin (M : Mach) (s : Int) : Bool := decide (0 ≤ s) && M.acc.getD s.toNat false
def lang (M : Mach) : Int → Wd → Bool
  | s, [] => M.fin s
  | s, a :: w => M.lang (M.nxt s a) w
def run (M : Mach) : Int → Wd → Int
  | s, [] => s
  | s, a :: w => M.run (M.nxt s a) w
abbrev L (M : Mach) : Lang := M.lang M.init
end Mach
section
variable {M : Mach}
theorem lang_nil (s : Int) : M.lang s [] = M.fin s := rfl
theorem lang_cons (s : Int) (a : Nat) (w : Wd) : M.lang s (a :: w) = M.lang (M.nxt s a) w := rfl
theorem der_lang (s : Int) (a : Nat) : der (M.lang s) a = M.lang (M.nxt s a) := rfl
theorem lang_run : ∀ (s : Int) (w v : Wd), M.lang s (w ++ v) = M.lang (M.run s w) v
  | _, [], _ => rfl
  | s, a :: w, v => lang_run (M.nxt s a) w v
theorem run_app : ∀ (s : Int) (w v : Wd), M.run s (w ++ v) = M.run (M.run s w) v
  | _, [], _ => rfl
  | s, a :: w, v => run_app (M.nxt s a) w v
theorem lang_fin (s : Int) (w : Wd) : M.lang s w = M.fin (M.run s w) := by
  have h := lang_run (M := M) s w []
  rw [List.append_nil] at h
  exact h
theorem nxt_neg {s : Int} (h : s < 0) (a : Nat) : M.nxt s a = -1 := by
  unfold Mach.nxt Mach.row
  rw [if_pos h]
  rfl
theorem fin_neg {s : Int} (h : s < 0) : M.fin s = false := by
  unfold Mach.fin
  rw [decide_eq_false (by omega)]
  rfl
theorem lang_neg : ∀ {s : Int}, s < 0 → ∀ w, M.lang s w = false
  | s, h, [] => fin_neg h
  | s, h, a :: w => by
    rw [lang_cons, nxt_neg h]
    exact lang_neg (by omega) w
theorem lang_dead {s : Int} (h : s < 0) : M.lang s = dead := funext fun w => lang_neg h w
theorem row_at {s : Nat} {r : List Int} (h : M.rows[s]? = some r) : M.row (s : Int) = r := by
  unfold Mach.row
  rw [if_neg (by omega), Int.toNat_natCast, List.getD_eq_getElem?_getD, h]
  rfl
theorem nxt_at {s a : Nat} {r : List Int} {x : Int} (h : M.rows[s]? = some r) (h2 : r[a]? = some x) : M.nxt (s : Int) a = x := by
  unfold Mach.nxt
  rw [row_at h, List.getD_eq_getElem?_getD, h2]
  rfl
theorem fin_at {s : Nat} {b : Bool} (h : M.acc[s]? = some b) : M.fin (s : Int) = b := by
  unfold Mach.fin
  rw [decide_eq_true (by omega), Int.toNat_natCast, List.getD_eq_getElem?_getD, h, Bool.true_and]
  rfl
theorem nxt_out {s : Int} {a : Nat} (o : M.Ok) (h : M.k ≤ a) : M.nxt s a = -1 := by
  unfold Mach.nxt Mach.row
  split
  · rfl
  · rw [List.getD_eq_getElem?_getD, List.getD_eq_getElem?_getD]
    cases e : M.rows[s.toNat]? with
    | none => rfl
    | some r =>
      have q := o.row r (List.mem_of_getElem? e)
      have z : r[a]? = none := List.getElem?_eq_none_iff.mpr (by omega)
      rw [Option.getD_some, z]
      rfl
theorem nxt_rng (o : M.Ok) (s : Int) (a : Nat) : -1 ≤ M.nxt s a ∧ M.nxt s a < (M.rows.length : Int) := by
  have triv : (-1 : Int) ≤ -1 ∧ (-1 : Int) < (M.rows.length : Int) := ⟨by omega, by omega⟩
  unfold Mach.nxt Mach.row
  split
  · exact triv
  · rw [List.getD_eq_getElem?_getD, List.getD_eq_getElem?_getD]
    cases e : M.rows[s.toNat]? with
    | none => exact triv
    | some r =>
      rw [Option.getD_some]
      cases e2 : r[a]? with
      | none => exact triv
      | some x => exact o.ent r (List.mem_of_getElem? e) x (List.mem_of_getElem? e2)
theorem init_rng : -1 ≤ M.init ∧ M.init < (M.rows.length : Int) := by
  unfold Mach.init
  split <;> constructor <;> omega
theorem run_rng (o : M.Ok) : ∀ (w : Wd) (s : Int), -1 ≤ s ∧ s < (M.rows.length : Int) → -1 ≤ M.run s w ∧ M.run s w < (M.rows.length : Int)
  | [], _, h => h
  | a :: w, s, _ => run_rng o w _ (nxt_rng o s a)
/-- only words over the letters below k -/
def Sup (k : Nat) (l : Lang) : Prop := ∀ w, l w = true → ∀ a ∈ w, a < k
theorem sup_lang (o : M.Ok) : ∀ (w : Wd) (s : Int), M.lang s w = true → ∀ a ∈ w, a < M.k
  | [], _, _, a, ha => nomatch ha
  | b :: w, s, h, a, ha => by
    have hb : b < M.k := by
      refine Classical.byContradiction fun q => ?_
      rw [lang_cons, nxt_out o (by omega), lang_neg (by omega)] at h
      cases h
    rcases List.mem_cons.mp ha with z | z
    · rw [z]; exact hb
    · exact sup_lang o w _ h a z
theorem Sup.der {k : Nat} {l : Lang} (h : Sup k l) (a : Nat) : Sup k (der l a) := fun w hw b hb => h (a :: w) hw b (List.mem_cons_of_mem _ hb)
theorem Sup.out {k : Nat} {l : Lang} (h : Sup k l) {a : Nat} (ha : k ≤ a) : Dg.der l a = dead := by
  funext w
  cases e : Dg.der l a w with
  | false => rfl
  | true =>
    have := h (a :: w) e a List.mem_cons_self
    omega
theorem dead_or_live (l : Lang) : l = dead ∨ ∃ w, l w = true := by
  by_cases h : ∃ w, l w = true
  · exact .inr h
  · refine .inl (funext fun w => ?_)
    cases e : l w with
    | false => rfl
    | true => exact absurd ⟨w, e⟩ h
theorem live_ne {l : Lang} {w : Wd} (h : l w = true) : l ≠ dead := fun e => by
  rw [e] at h
  cases h
end
/-! ### the least machine -/
structure CanonK (l : Lang) (m : Mach) (kn : List Lang) : Prop where
  ok : m.Ok
  len : kn.length = m.rows.length
  inj : ∀ (i j : Nat) (f : Lang), kn[i]? = some f → kn[j]? = some f → i = j
  live : ∀ (i : Nat) (f : Lang), kn[i]? = some f → f ≠ dead
  zero : l ≠ dead → kn[0]? = some l
  nil : l = dead → kn = []
  ent : ∀ (i b : Nat) (f : Lang), kn[i]? = some f → b < m.k → (m.nxt (i : Int) b = -1 ∧ der f b = dead) ∨ ∃ j : Nat, m.nxt (i : Int) b = (j : Int) ∧ kn[j]? = some (der f b)
  fin : ∀ (i : Nat) (f : Lang), kn[i]? = some f → m.fin (i : Int) = f []
  ord : ∀ (j : Nat) (f : Lang), 0 < j → kn[j]? = some f → ∃ (i b : Nat) (g : Lang), i < j ∧ b < m.k ∧ kn[i]? = some g ∧ der g b = f ∧
    ∀ (i' b' : Nat) (g' : Lang), (i' < i ∨ i' = i ∧ b' < b) → b' < m.k → kn[i']? = some g' → der g' b' = dead ∨ ∃ j' : Nat, j' < j ∧ kn[j']? = some (der g' b')
def Canon (l : Lang) (m : Mach) : Prop := ∃ kn, CanonK l m kn
section
variable {l : Lang} {m m' : Mach} {kn kn' : List Lang}
theorem CanonK.cur (c : CanonK l m kn) (h : kn ≠ []) : l ≠ dead := fun e => h (c.nil e)
theorem pre_len (c : CanonK l m kn) (c' : CanonK l m' kn') (hk : m.k = m'.k) {j : Nat} (hj0 : 0 < j) (eq : ∀ i, i < j → kn[i]? = kn'[i]?) {f : Lang} (hf : kn[j]? = some f) : ∃ f', kn'[j]? = some f' := by
  obtain ⟨i, b, g, hi, hb, hg, hd, _⟩ := c.ord j f hj0 hf
  have hg' : kn'[i]? = some g := by rw [← eq i hi]; exact hg
  have lf : der g b ≠ dead := by rw [hd]; exact c.live j f hf
  rcases c'.ent i b g hg' (by rw [← hk]; exact hb) with ⟨_, z⟩ | ⟨j', _, z⟩
  · exact absurd z lf
  · rw [hd] at z
    have hj' : ¬ j' < j := fun q => by
      have e := (eq j' q).trans z
      have := c.inj _ _ _ e hf
      omega
    have hlt : j < kn'.length := by
      have := (List.getElem?_eq_some_iff.mp z).1
      omega
    exact ⟨_, List.getElem?_eq_getElem hlt⟩
theorem pre_eq (c : CanonK l m kn) (c' : CanonK l m' kn') (hk : m.k = m'.k) : ∀ j : Nat, kn[j]? = kn'[j]? := by
  intro j
  induction j using Nat.strongRecOn with
  | ind j ih =>
    by_cases hj0 : 0 < j
    · -- both there, or neither
      cases e : kn[j]? with
      | none =>
        cases e' : kn'[j]? with
        | none => rfl
        | some f' =>
          obtain ⟨f, hf⟩ := pre_len c' c hk.symm hj0 (fun i hi => (ih i hi).symm) e'
          rw [e] at hf; cases hf
      | some f =>
        obtain ⟨f', hf'⟩ := pre_len c c' hk hj0 ih e
        rw [hf']
        obtain ⟨i, b, g, hi, hb, hg, hd, ho⟩ := c.ord j f hj0 e
        obtain ⟨i', b', g', hi', hb', hg', hd', ho'⟩ := c'.ord j f' hj0 hf'
        have gg : kn'[i]? = some g := by rw [← ih i hi]; exact hg
        have gg' : kn[i']? = some g' := by rw [ih i' hi']; exact hg'
        have no1 : ¬ (i < i' ∨ i = i' ∧ b < b') := fun q => by
          rcases ho' i b g q (by rw [← hk]; exact hb) gg with z | ⟨j', hj', z⟩
          · rw [hd] at z
            exact c.live j f e z
          · rw [hd] at z
            have := c.inj _ _ _ ((ih j' hj').trans z) e
            omega
        have no2 : ¬ (i' < i ∨ i' = i ∧ b' < b) := fun q => by
          rcases ho i' b' g' q (by rw [hk]; exact hb') gg' with z | ⟨j', hj', z⟩
          · rw [hd'] at z
            exact c'.live j f' hf' z
          · rw [hd'] at z
            have := c'.inj _ _ _ ((ih j' hj').symm.trans z) hf'
            omega
        have ei : i = i' := by omega
        have eb : b = b' := by omega
        subst ei eb
        rw [hg'] at gg
        cases gg
        rw [← hd, ← hd']
    · have e0 : j = 0 := by omega
      subst e0
      by_cases hl : l = dead
      · rw [c.nil hl, c'.nil hl]
      · rw [c.zero hl, c'.zero hl]
theorem CanonK.uniq (c : CanonK l m kn) (c' : CanonK l m' kn') (hk : m.k = m'.k) : m = m' := by
  have e : kn = kn' := List.ext_getElem? (pre_eq c c' hk)
  subst e
  have hlen : m.rows.length = m'.rows.length := c.len.symm.trans c'.len
  have hrow : m.rows = m'.rows := by
    refine List.ext_getElem hlen fun i h1 h2 => ?_
    have r1 := c.ok.row m.rows[i] (List.getElem_mem h1)
    have r2 := c'.ok.row m'.rows[i] (List.getElem_mem h2)
    refine List.ext_getElem (by rw [r1, r2, hk]) fun b h3 h4 => ?_
    have hf : kn[i]? = some (kn[i]'(by rw [c.len]; exact h1)) := List.getElem?_eq_getElem _
    have e1 : m.nxt (i : Int) b = m.rows[i][b] := nxt_at (List.getElem?_eq_getElem h1) (List.getElem?_eq_getElem h3)
    have e2 : m'.nxt (i : Int) b = m'.rows[i][b] := nxt_at (List.getElem?_eq_getElem h2) (List.getElem?_eq_getElem h4)
    rw [← e1, ← e2]
    rcases c.ent i b _ hf (by omega) with ⟨z1, z2⟩ | ⟨j, z1, z2⟩
    · rcases c'.ent i b _ hf (by omega) with ⟨y1, y2⟩ | ⟨j', y1, y2⟩
      · rw [z1, y1]
      · exact absurd z2 (c.live _ _ y2)
    · rcases c'.ent i b _ hf (by omega) with ⟨y1, y2⟩ | ⟨j', y1, y2⟩
      · exact absurd y2 (c.live _ _ z2)
      · rw [z1, y1, c.inj _ _ _ z2 y2]
  have hacc : m.acc = m'.acc := by
    have l1 := c.ok.acc
    have l2 := c'.ok.acc
    refine List.ext_getElem (by omega) fun i h1 h2 => ?_
    have hf : kn[i]? = some (kn[i]'(by rw [c.len]; omega)) := List.getElem?_eq_getElem _
    have e1 := c.fin i _ hf
    have e2 := c'.fin i _ hf
    rw [fin_at (List.getElem?_eq_getElem h1)] at e1
    rw [fin_at (List.getElem?_eq_getElem h2)] at e2
    rw [e1, e2]
  obtain ⟨k, rows, acc⟩ := m
  obtain ⟨k', rows', acc'⟩ := m'
  dsimp only at hk hrow hacc
  subst hk hrow hacc
  rfl
theorem Canon.uniq (c : Canon l m) (c' : Canon l m') (hk : m.k = m'.k) : m = m' := by
  obtain ⟨_, c⟩ := c
  obtain ⟨_, c'⟩ := c'
  exact c.uniq c' hk
theorem CanonK.at_ (c : CanonK l m kn) : ∀ (w : Wd) (i : Nat) (f : Lang), kn[i]? = some f → Sup m.k f → m.lang (i : Int) w = f w
  | [], i, f, h, _ => c.fin i f h
  | a :: w, i, f, h, sp => by
    rw [lang_cons]
    by_cases ha : a < m.k
    · rcases c.ent i a f h ha with ⟨z1, z2⟩ | ⟨j, z1, z2⟩
      · rw [z1, lang_neg (by omega)]
        exact (congrFun z2 w).symm
      · rw [z1]
        exact c.at_ w j _ z2 (sp.der a)
    · rw [nxt_out c.ok (by omega), lang_neg (by omega)]
      exact (congrFun (sp.out (by omega)) w).symm
theorem CanonK.lang (c : CanonK l m kn) (sp : Sup m.k l) : m.L = l := by
  by_cases hl : l = dead
  · have e := c.nil hl
    have hlen := c.len
    rw [e] at hlen
    have : m.init = -1 := by
      unfold Mach.init
      rw [if_neg (by simp at hlen; omega)]
    show m.lang m.init = l
    rw [this, hl]
    exact lang_dead (by omega)
  · have h0 := c.zero hl
    have hlt := (List.getElem?_eq_some_iff.mp h0).1
    have : m.init = ((0 : Nat) : Int) := by
      unfold Mach.init
      rw [if_pos (by have := c.len; omega)]
      rfl
    show m.lang m.init = l
    rw [this]
    exact funext fun w => c.at_ w 0 l h0 sp
theorem Canon.lang (c : Canon l m) (sp : Sup m.k l) : m.L = l := by
  obtain ⟨_, c⟩ := c
  exact c.lang sp
theorem Canon.ok (c : Canon l m) : m.Ok := by
  obtain ⟨_, c⟩ := c
  exact c.ok
/-- each known language is that of a state of any machine for l -/
theorem CanonK.from_ (c : CanonK l m kn) {M : Mach} (o : M.Ok) (hl : l = M.L) : ∀ (i : Nat) (f : Lang), kn[i]? = some f → ∃ s : Nat, s < M.rows.length ∧ M.lang (s : Int) = f := by
  intro i
  induction i using Nat.strongRecOn with
  | ind i ih =>
    intro f hf
    have fromState : ∀ s : Int, -1 ≤ s → s < (M.rows.length : Int) → M.lang s = f → ∃ s : Nat, s < M.rows.length ∧ M.lang (s : Int) = f := fun s h1 h2 h3 => by
      by_cases hs : 0 ≤ s
      · refine ⟨s.toNat, by omega, ?_⟩
        rw [Int.toNat_of_nonneg hs]
        exact h3
      · rw [lang_dead (by omega)] at h3
        exact absurd h3.symm (c.live i f hf)
    by_cases h0 : 0 < i
    · obtain ⟨i', b, g, hi, hb, hg, hd, _⟩ := c.ord i f h0 hf
      obtain ⟨s, hs, es⟩ := ih i' hi g hg
      have q := nxt_rng o (s : Int) b
      refine fromState (M.nxt s b) q.1 q.2 ?_
      rw [← hd, ← es]
      rfl
    · have e0 : i = 0 := by omega
      subst e0
      have hne : kn ≠ [] := fun e => by rw [e] at hf; cases hf
      have z := c.zero (c.cur hne)
      rw [hf] at z
      cases z
      exact fromState M.init init_rng.1 init_rng.2 hl.symm
theorem CanonK.size (c : CanonK l m kn) {M : Mach} (o : M.Ok) (hl : l = M.L) : m.rows.length ≤ M.rows.length := by
  have nd : kn.Nodup := nodup_of_inj c.inj
  have := nodup_sub_len (m := (List.range M.rows.length).map fun s : Nat => M.lang (s : Int)) nd fun f hf => by
    obtain ⟨i, hi⟩ := List.mem_iff_getElem?.mp hf
    obtain ⟨s, hs, e⟩ := c.from_ o hl i f hi
    exact List.mem_map.mpr ⟨s, List.mem_range.mpr hs, e⟩
  rw [List.length_map, List.length_range, c.len] at this
  exact this
theorem Canon.size (c : Canon l m) {M : Mach} (o : M.Ok) (hl : l = M.L) : m.rows.length ≤ M.rows.length := by
  obtain ⟨_, c⟩ := c
  exact c.size o hl
theorem ok_empty (k : Nat) : (⟨k, [], []⟩ : Mach).Ok := ⟨rfl, fun r hr => absurd hr (by simp), fun r hr => absurd hr (by simp)⟩
theorem Canon.empty (k : Nat) : Canon dead ⟨k, [], []⟩ :=
  ⟨[], ⟨ok_empty k, rfl, fun i j f h => absurd h (by simp), fun i f h => absurd h (by simp), fun h => absurd rfl h, fun _ => rfl, fun i b f h => absurd h (by simp), fun i f h => absurd h (by simp), fun j f _ h => absurd h (by simp)⟩⟩
end
end Dg
end

section
/-! Useful states, kinds of states. Plain Lean. -/
namespace Dg
variable {M : Mach}
theorem nxt_some {s a t : Nat} (h : M.nxt (s : Int) a = (t : Int)) : ∃ r, M.rows[s]? = some r ∧ r[a]? = some (t : Int) := by
  unfold Mach.nxt Mach.row at h
  rw [if_neg (by omega), Int.toNat_natCast, List.getD_eq_getElem?_getD, List.getD_eq_getElem?_getD] at h
  cases e : M.rows[s]? with
  | none =>
    rw [e] at h
    simp at h
  | some r =>
    rw [e, Option.getD_some] at h
    cases e2 : r[a]? with
    | none =>
      rw [e2] at h
      simp at h
    | some x =>
      rw [e2, Option.getD_some] at h
      exact ⟨r, rfl, by rw [e2, h]⟩
theorem nxt_lt {s a t : Nat} (o : M.Ok) (h : M.nxt (s : Int) a = (t : Int)) : s < M.rows.length ∧ a < M.k ∧ t < M.rows.length := by
  obtain ⟨r, h1, h2⟩ := nxt_some h
  have l1 := (List.getElem?_eq_some_iff.mp h1).1
  have l2 := (List.getElem?_eq_some_iff.mp h2).1
  have l3 := o.row r (List.mem_of_getElem? h1)
  have l4 := o.ent r (List.mem_of_getElem? h1) _ (List.mem_of_getElem? h2)
  exact ⟨l1, by omega, by omega⟩
/-! ### useful states -/
/-- the sources so far: (i, b) is the next place of the moves -/
structure SrcP (M : Mach) (src : List (List Nat)) (i b : Nat) : Prop where
  len : src.length = M.rows.length
  at_ : ∀ (t : Nat) (l : List Nat), src[t]? = some l → ∀ s : Nat, s ∈ l ↔ ∃ a, (s < i ∨ s = i ∧ a < b) ∧ M.nxt (s : Int) a = (t : Int)
  sz : ∀ (t : Nat) (l : List Nat), src[t]? = some l → l.length ≤ i * M.k + b
theorem SrcP.start : SrcP M (List.replicate M.rows.length []) 0 0 where
  len := by simp
  at_ := fun t l e s => by
    have h : l = [] := by
      rw [List.getElem?_replicate] at e
      split at e
      · exact (Option.some.inj e).symm
      · cases e
    subst h
    constructor
    · exact fun h => absurd h (by simp)
    · rintro ⟨a, h | h, _⟩ <;> omega
  sz := fun t l e => by
    rw [List.getElem?_replicate] at e
    split at e
    · cases e
      exact Nat.zero_le _
    · cases e
theorem SrcP.skip {src : List (List Nat)} {i b : Nat} (h : SrcP M src i b) (hn : M.nxt (i : Int) b < 0) : SrcP M src i (b + 1) where
  len := h.len
  at_ := fun t l e s => by
    rw [h.at_ t l e s]
    constructor
    · rintro ⟨a, q, z⟩
      exact ⟨a, by omega, z⟩
    · rintro ⟨a, q, z⟩
      refine ⟨a, ?_, z⟩
      rcases q with q | ⟨q1, q2⟩
      · exact .inl q
      · refine .inr ⟨q1, ?_⟩
        refine Classical.byContradiction fun nb => ?_
        have : a = b := by omega
        subst this q1
        omega
  sz := fun t l e => by have := h.sz t l e; omega
theorem SrcP.add {src : List (List Nat)} {i b t : Nat} {l : List Nat} (h : SrcP M src i b) (hn : M.nxt (i : Int) b = (t : Int)) (hl : src[t]? = some l) : SrcP M (src.set t (l ++ [i])) i (b + 1) where
  len := by rw [List.length_set]; exact h.len
  at_ := fun t' l' e s => by
    by_cases ht : t = t'
    · subst ht
      rw [List.getElem?_set_self (List.getElem?_eq_some_iff.mp hl).1] at e
      cases e
      rw [List.mem_append, h.at_ t l hl s, List.mem_singleton]
      constructor
      · rintro (⟨a, q, z⟩ | z)
        · exact ⟨a, by omega, z⟩
        · subst z
          exact ⟨b, by omega, hn⟩
      · rintro ⟨a, q, z⟩
        rcases q with q | ⟨q1, q2⟩
        · exact .inl ⟨a, .inl q, z⟩
        · exact .inr q1
    · rw [List.getElem?_set_ne ht] at e
      rw [h.at_ t' l' e s]
      constructor
      · rintro ⟨a, q, z⟩
        exact ⟨a, by omega, z⟩
      · rintro ⟨a, q, z⟩
        refine ⟨a, ?_, z⟩
        rcases q with q | ⟨q1, q2⟩
        · exact .inl q
        · refine .inr ⟨q1, ?_⟩
          refine Classical.byContradiction fun nb => ?_
          have : a = b := by omega
          subst this q1
          rw [hn] at z
          omega
  sz := fun t' l' e => by
    by_cases ht : t = t'
    · subst ht
      rw [List.getElem?_set_self (List.getElem?_eq_some_iff.mp hl).1] at e
      cases e
      have := h.sz t l hl
      rw [List.length_append, List.length_singleton]
      omega
    · rw [List.getElem?_set_ne ht] at e
      have := h.sz t' l' e
      omega
theorem SrcP.next {src : List (List Nat)} {i b : Nat} (h : SrcP M src i b) (o : M.Ok) (hb : b = M.k) : SrcP M src (i + 1) 0 where
  len := h.len
  at_ := fun t l e s => by
    rw [h.at_ t l e s]
    constructor
    · rintro ⟨a, q, z⟩
      exact ⟨a, by omega, z⟩
    · rintro ⟨a, q, z⟩
      have := (nxt_lt o z).2.1
      exact ⟨a, by omega, z⟩
  sz := fun t l e => by
    have := h.sz t l e
    rw [Nat.succ_mul]
    omega
theorem SrcP.small {src : List (List Nat)} {i b : Nat} (h : SrcP M src i b) (hn : M.rows.length ≤ 1000) (hk : M.k ≤ 1000) (hi : i ≤ M.rows.length) (hb : b ≤ M.k) {t : Nat} {l : List Nat} (e : src[t]? = some l) : l.length < 2000000 := by
  have h1 := h.sz t l e
  have h2 : i * M.k ≤ 1000 * 1000 := Nat.mul_le_mul (by omega) hk
  omega
theorem SrcP.done {src : List (List Nat)} {i b : Nat} (h : SrcP M src i b) (o : M.Ok) (hi : M.rows.length ≤ i) {t : Nat} {l : List Nat} (e : src[t]? = some l) (s : Nat) : s ∈ l ↔ ∃ a, M.nxt (s : Int) a = (t : Int) := by
  rw [h.at_ t l e s]
  constructor
  · rintro ⟨a, _, z⟩
    exact ⟨a, z⟩
  · rintro ⟨a, z⟩
    have := (nxt_lt o z).1
    exact ⟨a, by omega, z⟩
/-- a machine of moderate size -/
structure Mach.Sm (M : Mach) : Prop where
  ok : M.Ok
  n : M.rows.length ≤ 1000
  k : M.k ≤ 1000
def UsefulOk (M : Mach) (us : List Bool) : Prop := us.length = M.rows.length ∧ ∀ s : Nat, s < M.rows.length → (us[s]? = some true ↔ M.lang (s : Int) ≠ dead)
/-- t's sources in rest are still to be marked -/
structure UIn (M : Mach) (us : List Bool) (rd : List Nat) (t : Nat) (rest : List Nat) : Prop where
  len : us.length = M.rows.length
  snd : ∀ s : Nat, us[s]? = some true → M.lang (s : Int) ≠ dead
  acc : ∀ s : Nat, M.acc[s]? = some true → us[s]? = some true
  rdy : ∀ s ∈ rd, us[s]? = some true
  tt : rest ≠ [] → us[t]? = some true
  cls : ∀ s t' a : Nat, M.nxt (s : Int) a = (t' : Int) → us[t']? = some true → t' ∉ rd → us[s]? = some true ∨ (t' = t ∧ s ∈ rest)
abbrev UInv (M : Mach) (us : List Bool) (rd : List Nat) : Prop := UIn M us rd 0 []
def cntF (us : List Bool) : Nat := us.count false
theorem UIn.start (o : M.Ok) {rd : List Nat} (hr : ∀ s : Nat, s ∈ rd ↔ M.acc[s]? = some true) : UInv M M.acc rd where
  len := o.acc
  snd := fun s h => live_ne (w := []) (by rw [lang_nil]; exact fin_at h)
  acc := fun _ h => h
  rdy := fun s h => (hr s).mp h
  tt := fun h => absurd rfl h
  cls := fun s t a _ h hn => absurd ((hr t).mpr h) hn
theorem UIn.pop {us : List Bool} {rd : List Nat} {t : Nat} {src : List Nat} (h : UInv M us (rd ++ [t])) (hs : ∀ s : Nat, s ∈ src ↔ ∃ a, M.nxt (s : Int) a = (t : Int)) : UIn M us rd t src where
  len := h.len
  snd := h.snd
  acc := h.acc
  rdy := fun s hs => h.rdy s (List.mem_append_left _ hs)
  tt := fun _ => h.rdy t (by simp)
  cls := fun s t' a e u nr => by
    by_cases ht : t' = t
    · subst ht
      exact .inr ⟨rfl, (hs s).mpr ⟨a, e⟩⟩
    · refine (h.cls s t' a e u fun z => ?_).imp id fun z => absurd z.2 (by simp)
      rcases List.mem_append.mp z with z | z
      · exact nr z
      · exact ht (by simpa using z)
theorem UIn.skip {us : List Bool} {rd rest : List Nat} {t s : Nat} (h : UIn M us rd t (s :: rest)) (hs : us[s]? = some true) : UIn M us rd t rest where
  len := h.len
  snd := h.snd
  acc := h.acc
  rdy := h.rdy
  tt := fun _ => h.tt (by simp)
  cls := fun s' t' a e u nr => by
    rcases h.cls s' t' a e u nr with z | ⟨z1, z2⟩
    · exact .inl z
    · rcases List.mem_cons.mp z2 with z2 | z2
      · subst z2
        exact .inl hs
      · exact .inr ⟨z1, z2⟩
theorem UIn.mark {us : List Bool} {rd rest : List Nat} {t s a : Nat} (h : UIn M us rd t (s :: rest)) (hs : us[s]? = some false) (ha : M.nxt (s : Int) a = (t : Int)) : UIn M (us.set s true) (rd ++ [s]) t rest where
  len := by rw [List.length_set]; exact h.len
  snd := fun s' e => by
    by_cases q : s = s'
    · subst q
      obtain ⟨w, hw⟩ := (dead_or_live (M.lang (t : Int))).resolve_left (h.snd t (h.tt (by simp)))
      refine live_ne (w := a :: w) ?_
      rw [lang_cons, ha]
      exact hw
    · rw [List.getElem?_set_ne q] at e
      exact h.snd s' e
  acc := fun s' e => by
    by_cases q : s = s'
    · subst q
      exact List.getElem?_set_self (List.getElem?_eq_some_iff.mp hs).1
    · rw [List.getElem?_set_ne q]
      exact h.acc s' e
  rdy := fun s' e => by
    by_cases q : s = s'
    · subst q
      exact List.getElem?_set_self (List.getElem?_eq_some_iff.mp hs).1
    · rw [List.getElem?_set_ne q]
      refine h.rdy s' ?_
      rcases List.mem_append.mp e with z | z
      · exact z
      · exact absurd (List.mem_singleton.mp z).symm q
  tt := fun _ => by
    by_cases q : s = t
    · subst q
      exact List.getElem?_set_self (List.getElem?_eq_some_iff.mp hs).1
    · rw [List.getElem?_set_ne q]
      exact h.tt (by simp)
  cls := fun s' t' a' e u nr => by
    have q : s ≠ t' := fun z => nr (by rw [z]; simp)
    rw [List.getElem?_set_ne q] at u
    by_cases q2 : s = s'
    · subst q2
      exact .inl (List.getElem?_set_self (List.getElem?_eq_some_iff.mp hs).1)
    · rw [List.getElem?_set_ne q2]
      rcases h.cls s' t' a' e u fun z => nr (List.mem_append_left _ z) with z | ⟨z1, z2⟩
      · exact .inl z
      · rcases List.mem_cons.mp z2 with z2 | z2
        · exact absurd z2.symm q2
        · exact .inr ⟨z1, z2⟩
theorem cntF_set {us : List Bool} {s : Nat} (hs : us[s]? = some false) : cntF (us.set s true) + 1 = cntF us := by
  induction us generalizing s with
  | nil => simp at hs
  | cons b r ih =>
    unfold cntF at *
    cases s with
    | zero =>
      simp at hs
      subst hs
      simp
    | succ s =>
      have q := ih (s := s) (by simpa using hs)
      rw [List.set_cons_succ, List.count_cons, List.count_cons]
      omega
theorem UIn.rest {us : List Bool} {rd : List Nat} {t : Nat} (h : UIn M us rd t []) : UInv M us rd :=
  ⟨h.len, h.snd, h.acc, h.rdy, fun z => absurd rfl z, fun s t' a e u nr => (h.cls s t' a e u nr).imp id fun z => absurd z.2 (by simp)⟩
theorem UIn.done (o : M.Ok) {us : List Bool} (h : UInv M us []) : UsefulOk M us := by
  refine ⟨h.len, fun s hs => ⟨h.snd s, fun hl => ?_⟩⟩
  obtain ⟨w, hw⟩ := (dead_or_live (M.lang (s : Int))).resolve_left hl
  clear hl
  induction w generalizing s with
  | nil =>
    rw [lang_nil] at hw
    refine h.acc s ?_
    have q := List.getElem?_eq_getElem (l := M.acc) (i := s) (by rw [o.acc]; exact hs)
    rw [fin_at q] at hw
    rw [q, hw]
  | cons a w ih =>
    rw [lang_cons] at hw
    by_cases hn : M.nxt (s : Int) a < 0
    · rw [lang_neg hn] at hw
      cases hw
    · have q := nxt_rng o (s : Int) a
      have e : M.nxt (s : Int) a = ((M.nxt (s : Int) a).toNat : Int) := by omega
      rw [e] at hw
      have z := ih _ (by omega) hw
      exact (h.cls s _ a e z (by simp)).elim id fun z => absurd z.2 (by simp)
/-! ### kinds -/
def kd (ks : List Int) (t : Int) : Int := if 0 ≤ t then ks.getD t.toNat (-1) else -1
theorem kd_at {ks : List Int} {t : Nat} {v : Int} (h : ks[t]? = some v) : kd ks (t : Int) = v := by
  unfold kd
  rw [if_pos (by omega), Int.toNat_natCast, List.getD_eq_getElem?_getD, h]
  rfl
theorem kd_neg {ks : List Int} {t : Int} (h : t < 0) : kd ks t = -1 := by
  unfold kd
  rw [if_neg (by omega)]
def mark (M : Mach) (ks : List Int) (s : Nat) : Int × List Int := (kd ks (s : Int), (M.row (s : Int)).map (kd ks))
theorem mark_nxt {ks : List Int} {s t : Nat} (h : mark M ks s = mark M ks t) (a : Nat) : kd ks (M.nxt (s : Int) a) = kd ks (M.nxt (t : Int) a) := by
  have h2 : (M.row (s : Int)).map (kd ks) = (M.row (t : Int)).map (kd ks) := congrArg Prod.snd h
  have key : ∀ u : Nat, kd ks (M.nxt (u : Int) a) = (((M.row (u : Int)).map (kd ks))[a]?).getD (-1) := fun u => by
    unfold Mach.nxt
    rw [List.getElem?_map, List.getD_eq_getElem?_getD]
    cases (M.row (u : Int))[a]? with
    | none => exact kd_neg (show (-1 : Int) < 0 by omega)
    | some x => rfl
  rw [key, key, h2]
structure KInv (M : Mach) (ks : List Int) (c : Nat) : Prop where
  len : ks.length = M.rows.length
  un : ∀ s : Nat, s < M.rows.length → M.lang (s : Int) = dead → ks[s]? = some (-1)
  nn : ∀ (s : Nat) (v : Int), M.lang (s : Int) ≠ dead → ks[s]? = some v → 0 ≤ v
  lang : ∀ s t : Nat, s < M.rows.length → t < M.rows.length → M.lang (s : Int) = M.lang (t : Int) → ks[s]? = ks[t]?
  fin : ∀ (s t : Nat) (v : Int), M.lang (s : Int) ≠ dead → ks[s]? = some v → ks[t]? = some v → M.fin (s : Int) = M.fin (t : Int)
  sur : ∀ v : Nat, v < c → ∃ s : Nat, s < M.rows.length ∧ M.lang (s : Int) ≠ dead ∧ ks[s]? = some (v : Int)
  cn : c ≤ M.rows.length
structure KRound (M : Mach) (us : List Bool) (ks : List Int) (i : Nat) (ks' : List Int) (ms : List (Int × List Int)) : Prop where
  len : ks'.length = i
  nd : ms.Nodup
  un : ∀ s : Nat, s < i → us[s]? = some false → ks'[s]? = some (-1)
  at_ : ∀ s : Nat, s < i → us[s]? = some true → ∃ j : Nat, ks'[s]? = some (j : Int) ∧ ms[j]? = some (mark M ks s)
  sur : ∀ (j : Nat) (m : Int × List Int), ms[j]? = some m → ∃ s, s < i ∧ us[s]? = some true ∧ mark M ks s = m
structure KindsOk (M : Mach) (ks : List Int) : Prop where
  len : ks.length = M.rows.length
  dd : ∀ s : Nat, s < M.rows.length → M.lang (s : Int) = dead → ks[s]? = some (-1)
  ll : ∀ (s : Nat) (v : Int), M.lang (s : Int) ≠ dead → ks[s]? = some v → 0 ≤ v
  eq : ∀ (s t : Nat) (v : Int), ks[s]? = some v → ks[t]? = some v → M.lang (s : Int) = M.lang (t : Int)
  lang : ∀ s t : Nat, s < M.rows.length → t < M.rows.length → M.lang (s : Int) = M.lang (t : Int) → ks[s]? = ks[t]?
section
variable {us : List Bool} {ks ks' : List Int} {c i : Nat} {ms : List (Int × List Int)}
theorem us_at (uo : UsefulOk M us) {s : Nat} (hs : s < M.rows.length) : (us[s]? = some true ∧ M.lang (s : Int) ≠ dead) ∨ (us[s]? = some false ∧ M.lang (s : Int) = dead) := by
  have e := List.getElem?_eq_getElem (l := us) (i := s) (by rw [uo.1]; exact hs)
  cases q : us[s]'(by rw [uo.1]; exact hs) with
  | true =>
    rw [q] at e
    exact .inl ⟨e, (uo.2 s hs).mp e⟩
  | false =>
    rw [q] at e
    refine .inr ⟨e, Classical.byContradiction fun z => ?_⟩
    rw [(uo.2 s hs).mpr z] at e
    cases e
theorem KInv.start (o : M.Ok) (uo : UsefulOk M us) (hl : ks.length = M.rows.length) (h0 : ∀ s : Nat, us[s]? = some false → ks[s]? = some (-1)) (h1 : ∀ s : Nat, us[s]? = some true → ks[s]? = some (if M.fin (s : Int) = true then 1 else 0)) : KInv M ks 0 where
  len := hl
  un := fun s hs hd => by
    rcases us_at uo hs with ⟨_, z⟩ | ⟨z, _⟩
    · exact absurd hd z
    · exact h0 s z
  nn := fun s v hl' e => by
    have hs : s < M.rows.length := by rw [← hl]; exact (List.getElem?_eq_some_iff.mp e).1
    rw [h1 s ((uo.2 s hs).mpr hl')] at e
    cases e
    split <;> omega
  lang := fun s t hs ht e => by
    rcases us_at uo hs with ⟨z1, z2⟩ | ⟨z1, z2⟩
    · have z3 := (uo.2 t ht).mpr (by rw [← e]; exact z2)
      rw [h1 s z1, h1 t z3]
      have : M.fin (s : Int) = M.fin (t : Int) := congrFun e []
      rw [this]
    · rcases us_at uo ht with ⟨y1, y2⟩ | ⟨y1, y2⟩
      · exact absurd (e.symm.trans z2) y2
      · rw [h0 s z1, h0 t y1]
  fin := fun s t v hl' e1 e2 => by
    have hs : s < M.rows.length := by rw [← hl]; exact (List.getElem?_eq_some_iff.mp e1).1
    have ht : t < M.rows.length := by rw [← hl]; exact (List.getElem?_eq_some_iff.mp e2).1
    rw [h1 s ((uo.2 s hs).mpr hl')] at e1
    rcases us_at uo ht with ⟨y1, y2⟩ | ⟨y1, y2⟩
    · rw [h1 t y1] at e2
      rw [← e2] at e1
      have q := Option.some.inj e1
      cases a : M.fin (s : Int) <;> cases b : M.fin (t : Int) <;> rw [a, b] at q <;> first | rfl | simp at q
    · rw [h0 t y1] at e2
      rw [← e2] at e1
      have q := Option.some.inj e1
      split at q <;> omega
  sur := fun v hv => by omega
  cn := Nat.zero_le _
theorem KRound.start : KRound M us ks 0 [] [] where
  len := rfl
  nd := List.nodup_nil
  un := fun s hs => by omega
  at_ := fun s hs => by omega
  sur := fun j m h => absurd h (by simp)
theorem KRound.not_ (h : KRound M us ks i ks' ms) (hu : us[i]? = some false) : KRound M us ks (i + 1) (ks' ++ [-1]) ms where
  len := by rw [List.length_append, h.len]; rfl
  nd := h.nd
  un := fun s hs e => by
    by_cases q : s < i
    · rw [List.getElem?_append_left (by rw [h.len]; exact q)]
      exact h.un s q e
    · have : s = i := by omega
      subst this
      rw [List.getElem?_append_right (by rw [h.len]; exact Nat.le_refl _), h.len, Nat.sub_self]
      rfl
  at_ := fun s hs e => by
    by_cases q : s < i
    · rw [List.getElem?_append_left (by rw [h.len]; exact q)]
      exact h.at_ s q e
    · have : s = i := by omega
      subst this
      rw [hu] at e
      cases e
  sur := fun j m e => by
    obtain ⟨s, h1, h2⟩ := h.sur j m e
    exact ⟨s, by omega, h2⟩
theorem KRound.old (h : KRound M us ks i ks' ms) (hu : us[i]? = some true) {j : Nat} (hj : ms[j]? = some (mark M ks i)) : KRound M us ks (i + 1) (ks' ++ [(j : Int)]) ms where
  len := by rw [List.length_append, h.len]; rfl
  nd := h.nd
  un := fun s hs e => by
    by_cases q : s < i
    · rw [List.getElem?_append_left (by rw [h.len]; exact q)]
      exact h.un s q e
    · have : s = i := by omega
      subst this
      rw [hu] at e
      cases e
  at_ := fun s hs e => by
    by_cases q : s < i
    · rw [List.getElem?_append_left (by rw [h.len]; exact q)]
      exact h.at_ s q e
    · have : s = i := by omega
      subst this
      rw [List.getElem?_append_right (by rw [h.len]; exact Nat.le_refl _), h.len, Nat.sub_self]
      exact ⟨j, rfl, hj⟩
  sur := fun j m e => by
    obtain ⟨s, h1, h2⟩ := h.sur j m e
    exact ⟨s, by omega, h2⟩
theorem KRound.new (h : KRound M us ks i ks' ms) (hu : us[i]? = some true) (hm : mark M ks i ∉ ms) : KRound M us ks (i + 1) (ks' ++ [(ms.length : Int)]) (ms ++ [mark M ks i]) where
  len := by rw [List.length_append, h.len]; rfl
  nd := by
    refine List.nodup_append.mpr ⟨h.nd, by simp, fun a ha b hb e => ?_⟩
    rw [List.mem_singleton] at hb
    subst hb e
    exact hm ha
  un := fun s hs e => by
    by_cases q : s < i
    · rw [List.getElem?_append_left (by rw [h.len]; exact q)]
      exact h.un s q e
    · have : s = i := by omega
      subst this
      rw [hu] at e
      cases e
  at_ := fun s hs e => by
    by_cases q : s < i
    · rw [List.getElem?_append_left (by rw [h.len]; exact q)]
      obtain ⟨j, h1, h2⟩ := h.at_ s q e
      exact ⟨j, h1, by rw [List.getElem?_append_left (List.getElem?_eq_some_iff.mp h2).1]; exact h2⟩
    · have : s = i := by omega
      subst this
      rw [List.getElem?_append_right (by rw [h.len]; exact Nat.le_refl _), h.len, Nat.sub_self]
      exact ⟨ms.length, rfl, by rw [List.getElem?_append_right (Nat.le_refl _), Nat.sub_self]; rfl⟩
  sur := fun j m e => by
    by_cases q : j < ms.length
    · rw [List.getElem?_append_left q] at e
      obtain ⟨s, h1, h2⟩ := h.sur j m e
      exact ⟨s, by omega, h2⟩
    · rw [List.getElem?_append_right (by omega)] at e
      have e2 := List.mem_of_getElem? e
      rw [List.mem_singleton] at e2
      exact ⟨i, by omega, hu, e2.symm⟩
theorem kd_lang (k : KInv M ks c) {x y : Int} (hx : -1 ≤ x ∧ x < (M.rows.length : Int)) (hy : -1 ≤ y ∧ y < (M.rows.length : Int)) (e : M.lang x = M.lang y) : kd ks x = kd ks y := by
  have dd : ∀ z : Int, -1 ≤ z ∧ z < (M.rows.length : Int) → M.lang z = dead → kd ks z = -1 := fun z hz e => by
    by_cases q : z < 0
    · exact kd_neg q
    · have ez : z = ((z.toNat : Nat) : Int) := by omega
      rw [ez] at e ⊢
      exact kd_at (k.un _ (by omega) e)
  by_cases hd : M.lang x = dead
  · rw [dd x hx hd, dd y hy (e.symm.trans hd)]
  · have x0 : ¬ x < 0 := fun q => hd (lang_dead q)
    have y0 : ¬ y < 0 := fun q => hd (e.trans (lang_dead q))
    have ex : x = ((x.toNat : Nat) : Int) := by omega
    have ey : y = ((y.toNat : Nat) : Int) := by omega
    rw [ex, ey] at e ⊢
    have q := k.lang _ _ (by omega) (by omega) e
    have lx : ks[x.toNat]? = some (ks[x.toNat]'(by rw [k.len]; omega)) := List.getElem?_eq_getElem _
    rw [kd_at lx]
    rw [q] at lx
    rw [kd_at lx]
theorem mark_lang (o : M.Ok) (k : KInv M ks c) {s t : Nat} (hs : s < M.rows.length) (ht : t < M.rows.length) (e : M.lang (s : Int) = M.lang (t : Int)) : mark M ks s = mark M ks t := by
  unfold mark
  rw [kd_lang k ⟨by omega, by omega⟩ ⟨by omega, by omega⟩ e]
  have r1 : M.row (s : Int) = M.rows[s] := row_at (List.getElem?_eq_getElem hs)
  have r2 : M.row (t : Int) = M.rows[t] := row_at (List.getElem?_eq_getElem ht)
  have l1 := o.row _ (List.getElem_mem hs)
  have l2 := o.row _ (List.getElem_mem ht)
  rw [r1, r2]
  refine congrArg (Prod.mk _) (List.ext_getElem (by rw [List.length_map, List.length_map, l1, l2]) fun a h1 h2 => ?_)
  rw [List.getElem_map, List.getElem_map]
  rw [List.length_map] at h1 h2
  have n1 : M.nxt (s : Int) a = M.rows[s][a] := nxt_at (List.getElem?_eq_getElem hs) (List.getElem?_eq_getElem h1)
  have n2 : M.nxt (t : Int) a = M.rows[t][a] := nxt_at (List.getElem?_eq_getElem ht) (List.getElem?_eq_getElem h2)
  rw [← n1, ← n2]
  refine kd_lang k (nxt_rng o _ _) (nxt_rng o _ _) ?_
  rw [← der_lang, ← der_lang, e]
theorem KRound.le (r : KRound M us ks M.rows.length ks' ms) : ms.length ≤ M.rows.length := by
  have := nodup_sub_len (m := (List.range M.rows.length).map (mark M ks)) r.nd fun m hm => by
    obtain ⟨j, hj⟩ := List.mem_iff_getElem?.mp hm
    obtain ⟨s, h1, _, h3⟩ := r.sur j m hj
    exact List.mem_map.mpr ⟨s, List.mem_range.mpr h1, h3⟩
  rw [List.length_map, List.length_range] at this
  exact this
theorem KRound.cover (uo : UsefulOk M us) (k : KInv M ks c) (r : KRound M us ks M.rows.length ks' ms) : ∀ x ∈ (List.range c).map (fun v : Nat => (v : Int)), x ∈ ms.map Prod.fst := fun x hx => by
  obtain ⟨v, hv, e⟩ := List.mem_map.mp hx
  subst e
  obtain ⟨s, hs, hl, e⟩ := k.sur v (List.mem_range.mp hv)
  obtain ⟨j, _, h2⟩ := r.at_ s hs ((uo.2 s hs).mpr hl)
  exact List.mem_map.mpr ⟨_, List.mem_of_getElem? h2, kd_at e⟩
theorem range_nd (c : Nat) : ((List.range c).map (fun v : Nat => (v : Int))).Nodup := by
  refine nodup_of_inj fun i j x h1 h2 => ?_
  rw [List.getElem?_map] at h1 h2
  cases e1 : (List.range c)[i]? with
  | none => rw [e1] at h1; cases h1
  | some a =>
    cases e2 : (List.range c)[j]? with
    | none => rw [e2] at h2; cases h2
    | some b =>
      rw [e1] at h1
      rw [e2] at h2
      have a1 : (a : Int) = x := Option.some.inj h1
      have b1 : (b : Int) = x := Option.some.inj h2
      rw [List.getElem?_eq_some_iff] at e1 e2
      obtain ⟨_, e1⟩ := e1
      obtain ⟨_, e2⟩ := e2
      rw [List.getElem_range] at e1 e2
      omega
theorem KRound.ge (uo : UsefulOk M us) (k : KInv M ks c) (r : KRound M us ks M.rows.length ks' ms) : c ≤ ms.length := by
  have := nodup_sub_len (range_nd c) (r.cover uo k)
  rw [List.length_map, List.length_map, List.length_range] at this
  exact this
theorem KRound.lang (o : M.Ok) (uo : UsefulOk M us) (k : KInv M ks c) (r : KRound M us ks M.rows.length ks' ms) (s t : Nat) (hs : s < M.rows.length) (ht : t < M.rows.length) (e : M.lang (s : Int) = M.lang (t : Int)) : ks'[s]? = ks'[t]? := by
  rcases us_at uo hs with ⟨z1, z2⟩ | ⟨z1, z2⟩
  · have z3 := (uo.2 t ht).mpr (by rw [← e]; exact z2)
    obtain ⟨j, h1, h2⟩ := r.at_ s hs z1
    obtain ⟨j', h3, h4⟩ := r.at_ t ht z3
    rw [mark_lang o k hs ht e] at h2
    rw [h1, h3, nodup_inj r.nd h2 h4]
  · rcases us_at uo ht with ⟨y1, y2⟩ | ⟨y1, y2⟩
    · exact absurd (e.symm.trans z2) y2
    · rw [r.un s hs z1, r.un t ht y1]
theorem KRound.dd (uo : UsefulOk M us) (r : KRound M us ks M.rows.length ks' ms) (s : Nat) (hs : s < M.rows.length) (hd : M.lang (s : Int) = dead) : ks'[s]? = some (-1) := by
  rcases us_at uo hs with ⟨_, z⟩ | ⟨z, _⟩
  · exact absurd hd z
  · exact r.un s hs z
theorem KRound.idx (uo : UsefulOk M us) (r : KRound M us ks M.rows.length ks' ms) {s : Nat} {v : Int} (hl : M.lang (s : Int) ≠ dead) (e : ks'[s]? = some v) : ∃ j : Nat, v = (j : Int) ∧ ms[j]? = some (mark M ks s) := by
  have hs : s < M.rows.length := by rw [← r.len]; exact (List.getElem?_eq_some_iff.mp e).1
  obtain ⟨j, h1, h2⟩ := r.at_ s hs ((uo.2 s hs).mpr hl)
  rw [e] at h1
  exact ⟨j, Option.some.inj h1, h2⟩
/-- a state of a kind that is not -1 is useful -/
theorem KRound.live (uo : UsefulOk M us) (r : KRound M us ks M.rows.length ks' ms) {s : Nat} {j : Nat} (e : ks'[s]? = some (j : Int)) : M.lang (s : Int) ≠ dead := fun hd => by
  have hs : s < M.rows.length := by rw [← r.len]; exact (List.getElem?_eq_some_iff.mp e).1
  rw [r.dd uo s hs hd] at e
  have := Option.some.inj e
  omega
theorem KRound.up (o : M.Ok) (uo : UsefulOk M us) (k : KInv M ks c) (r : KRound M us ks M.rows.length ks' ms) : KInv M ks' ms.length where
  len := r.len
  un := r.dd uo
  nn := fun s v hl e => by
    obtain ⟨j, h1, _⟩ := r.idx uo hl e
    omega
  lang := r.lang o uo k
  fin := fun s t v hl e1 e2 => by
    obtain ⟨j, h1, h2⟩ := r.idx uo hl e1
    subst h1
    obtain ⟨j', h3, h4⟩ := r.idx uo (r.live uo e2) e2
    have ej : j = j' := by omega
    subst ej
    rw [h2] at h4
    have q : kd ks (s : Int) = kd ks (t : Int) := congrArg Prod.fst (Option.some.inj h4)
    have hs : s < M.rows.length := by rw [← r.len]; exact (List.getElem?_eq_some_iff.mp e1).1
    have ht : t < M.rows.length := by rw [← r.len]; exact (List.getElem?_eq_some_iff.mp e2).1
    have ls : ks[s]? = some (ks[s]'(by rw [k.len]; exact hs)) := List.getElem?_eq_getElem _
    have lt : ks[t]? = some (ks[t]'(by rw [k.len]; exact ht)) := List.getElem?_eq_getElem _
    rw [kd_at ls, kd_at lt] at q
    rw [← q] at lt
    exact k.fin s t _ hl ls lt
  sur := fun v hv => by
    obtain ⟨s, h1, h2, h3⟩ := r.sur v _ (List.getElem?_eq_getElem hv)
    obtain ⟨j, h4, h5⟩ := r.at_ s h1 h2
    rw [h3] at h5
    have ej := nodup_inj r.nd h5 (List.getElem?_eq_getElem hv)
    subst ej
    exact ⟨s, h1, (uo.2 s h1).mp h2, h4⟩
  cn := r.le
theorem KRound.stop (o : M.Ok) (uo : UsefulOk M us) (k : KInv M ks c) (r : KRound M us ks M.rows.length ks' ms) (hc : ms.length = c) : KindsOk M ks' := by
  have nd : (ms.map Prod.fst).Nodup := nodup_of_cover (range_nd c) (r.cover uo k) (by simp [hc])
  have u := r.up o uo k
  -- equal before, equal behind
  have same : ∀ {s t : Nat}, M.lang (s : Int) ≠ dead → s < M.rows.length → t < M.rows.length → ks[s]? = ks[t]? → ks'[s]? = ks'[t]? := fun {s t} hl hs ht e => by
    have ls : ks[s]? = some (ks[s]'(by rw [k.len]; exact hs)) := List.getElem?_eq_getElem _
    have lt : ks[t]? = some (ks[s]'(by rw [k.len]; exact hs)) := e.symm.trans ls
    have hl' : M.lang (t : Int) ≠ dead := fun hd => by
      have z := k.un t ht hd
      rw [lt] at z
      have := k.nn s _ hl ls
      have := Option.some.inj z
      omega
    obtain ⟨j, h1, h2⟩ := r.at_ s hs ((uo.2 s hs).mpr hl)
    obtain ⟨j', h3, h4⟩ := r.at_ t ht ((uo.2 t ht).mpr hl')
    have q1 : (ms.map Prod.fst)[j]? = some (kd ks (s : Int)) := by rw [List.getElem?_map, h2]; rfl
    have q2 : (ms.map Prod.fst)[j']? = some (kd ks (t : Int)) := by rw [List.getElem?_map, h4]; rfl
    rw [kd_at ls] at q1
    rw [kd_at lt] at q2
    rw [h1, h3, nodup_inj nd q1 q2]
  have back : ∀ {s t j : Nat}, ks'[s]? = some (j : Int) → ks'[t]? = some (j : Int) → mark M ks s = mark M ks t := fun {s t j} e1 e2 => by
    obtain ⟨j1, h1, h2⟩ := r.idx uo (r.live uo e1) e1
    obtain ⟨j2, h3, h4⟩ := r.idx uo (r.live uo e2) e2
    have z1 : j = j1 := by omega
    have z2 : j = j2 := by omega
    subst z1 z2
    rw [h2] at h4
    exact Option.some.inj h4
  -- the states' words
  have bis : ∀ (w : Wd) (s t : Nat) (j : Nat), ks'[s]? = some (j : Int) → ks'[t]? = some (j : Int) → M.lang (s : Int) w = M.lang (t : Int) w := by
    intro w
    induction w with
    | nil => exact fun s t j e1 e2 => u.fin s t _ (r.live uo e1) e1 e2
    | cons a w ih =>
      intro s t j e1 e2
      have q := mark_nxt (back e1 e2) a
      rw [lang_cons, lang_cons]
      have n1 := nxt_rng o (s : Int) a
      have n2 := nxt_rng o (t : Int) a
      have live_of : ∀ {x : Int}, -1 ≤ x ∧ x < (M.rows.length : Int) → M.lang x ≠ dead → 0 ≤ x ∧ 0 ≤ kd ks x := fun {x} hx hl => by
        have x0 : ¬ x < 0 := fun q => hl (lang_dead q)
        have ex : x = ((x.toNat : Nat) : Int) := by omega
        refine ⟨by omega, ?_⟩
        rw [ex] at hl ⊢
        have lx : ks[x.toNat]? = some (ks[x.toNat]'(by rw [k.len]; omega)) := List.getElem?_eq_getElem _
        rw [kd_at lx]
        exact k.nn _ _ hl lx
      have dead_of : ∀ {x : Int}, -1 ≤ x ∧ x < (M.rows.length : Int) → M.lang x = dead → kd ks x = -1 := fun {x} hx hl => by
        by_cases q : x < 0
        · exact kd_neg q
        · have ex : x = ((x.toNat : Nat) : Int) := by omega
          rw [ex] at hl ⊢
          exact kd_at (k.un _ (by omega) hl)
      by_cases d1 : M.lang (M.nxt (s : Int) a) = dead
      · by_cases d2 : M.lang (M.nxt (t : Int) a) = dead
        · rw [d1, d2]
        · have := live_of n2 d2
          rw [← q, dead_of n1 d1] at this
          omega
      · by_cases d2 : M.lang (M.nxt (t : Int) a) = dead
        · have := live_of n1 d1
          rw [q, dead_of n2 d2] at this
          omega
        · obtain ⟨x0, _⟩ := live_of n1 d1
          obtain ⟨y0, _⟩ := live_of n2 d2
          have ex : M.nxt (s : Int) a = (((M.nxt (s : Int) a).toNat : Nat) : Int) := by omega
          have ey : M.nxt (t : Int) a = (((M.nxt (t : Int) a).toNat : Nat) : Int) := by omega
          generalize (M.nxt (s : Int) a).toNat = x at ex
          generalize (M.nxt (t : Int) a).toNat = y at ey
          rw [ex, ey] at q
          rw [ex] at d1 n1 ⊢
          rw [ey] at d2 n2 ⊢
          have lx : ks[x]? = some (ks[x]'(by rw [k.len]; omega)) := List.getElem?_eq_getElem _
          have ly : ks[y]? = some (ks[y]'(by rw [k.len]; omega)) := List.getElem?_eq_getElem _
          rw [kd_at lx, kd_at ly] at q
          have e3 := same d1 (by omega) (by omega) (lx.trans ((congrArg some q).trans ly.symm))
          obtain ⟨jx, h1, _⟩ := r.at_ x (by omega) ((uo.2 x (by omega)).mpr d1)
          exact ih x y jx h1 (e3.symm.trans h1)
  refine ⟨r.len, r.dd uo, u.nn, fun s t v e1 e2 => ?_, r.lang o uo k⟩
  have hs : s < M.rows.length := by rw [← r.len]; exact (List.getElem?_eq_some_iff.mp e1).1
  have ht : t < M.rows.length := by rw [← r.len]; exact (List.getElem?_eq_some_iff.mp e2).1
  by_cases d1 : M.lang (s : Int) = dead
  · by_cases d2 : M.lang (t : Int) = dead
    · rw [d1, d2]
    · obtain ⟨j, h1, _⟩ := r.idx uo d2 e2
      rw [r.dd uo s hs d1] at e1
      have := Option.some.inj e1
      omega
  · obtain ⟨j, h1, _⟩ := r.idx uo d1 e1
    subst h1
    exact funext fun w => bis w s t j e1 e2
end
end Dg
end

section
/-! The loop that numbers the least machine; pairs of states; products; counts. Plain Lean. -/
namespace Dg
variable {M N : Mach}
/-! ### the least machine's loop -/
/-- what a number x in the row of the state s at the letter b says -/
def Ent (M : Mach) (od : List Nat) (s b : Nat) (x : Int) : Prop :=
  (x = -1 ∧ M.lang (M.nxt (s : Int) b) = dead) ∨ ∃ j t : Nat, x = (j : Int) ∧ od[j]? = some t ∧ M.lang (t : Int) = M.lang (M.nxt (s : Int) b)
theorem Ent.more {od : List Nat} {s b : Nat} {x : Int} (h : Ent M od s b x) (t : Nat) : Ent M (od ++ [t]) s b x := by
  rcases h with h | ⟨j, t', h1, h2, h3⟩
  · exact .inl h
  · exact .inr ⟨j, t', h1, by rw [List.getElem?_append_left (List.getElem?_eq_some_iff.mp h2).1]; exact h2, h3⟩
structure Bf (M : Mach) (od : List Nat) (rows : List (List Int)) (row : List Int) : Prop where
  zero : od[0]? = some 0
  live : ∀ s ∈ od, s < M.rows.length ∧ M.lang (s : Int) ≠ dead
  nd : ∀ i j s t : Nat, od[i]? = some s → od[j]? = some t → M.lang (s : Int) = M.lang (t : Int) → i = j
  entR : ∀ (i s : Nat) (r : List Int), rows[i]? = some r → od[i]? = some s → r.length = M.k ∧ ∀ (b : Nat) (x : Int), r[b]? = some x → Ent M od s b x
  entC : ∀ (s : Nat), od[rows.length]? = some s → ∀ (b : Nat) (x : Int), row[b]? = some x → Ent M od s b x
  le : rows.length ≤ od.length
  ord : ∀ j t : Nat, 0 < j → od[j]? = some t → ∃ i b s : Nat, i < j ∧ b < M.k ∧ od[i]? = some s ∧ M.lang (M.nxt (s : Int) b) = M.lang (t : Int) ∧
    ∀ i' b' s' : Nat, (i' < i ∨ i' = i ∧ b' < b) → b' < M.k → od[i']? = some s' → M.lang (M.nxt (s' : Int) b') = dead ∨ ∃ j' t' : Nat, j' < j ∧ od[j']? = some t' ∧ M.lang (t' : Int) = M.lang (M.nxt (s' : Int) b')
theorem Bf.start (h0 : 0 < M.rows.length) (hl : M.lang 0 ≠ dead) : Bf M [0] [] [] where
  zero := rfl
  live := fun s hs => by
    have : s = 0 := by simpa using hs
    subst this
    exact ⟨h0, hl⟩
  nd := fun i j s t h1 h2 _ => by
    have l1 := (List.getElem?_eq_some_iff.mp h1).1
    have l2 := (List.getElem?_eq_some_iff.mp h2).1
    simp at l1 l2
    omega
  entR := fun i s r h => absurd h (by simp)
  entC := fun s _ b x h => absurd h (by simp)
  le := by simp
  ord := fun j t hj h => by
    have l1 := (List.getElem?_eq_some_iff.mp h).1
    simp at l1
    omega
section
variable {od : List Nat} {rows : List (List Int)} {row : List Int}
theorem Bf.size (h : Bf M od rows row) : od.length ≤ M.rows.length := by
  refine nodup_nat_len (nodup_of_inj fun i j x h1 h2 => h.nd i j x x h1 h2 rfl) fun x hx => (h.live x hx).1
theorem Bf.push (h : Bf M od rows row) {s : Nat} {x : Int} (hs : od[rows.length]? = some s) (hx : Ent M od s row.length x) : Bf M od rows (row ++ [x]) where
  zero := h.zero
  live := h.live
  nd := h.nd
  entR := h.entR
  entC := fun s' hs' b y e => by
    rw [hs] at hs'
    cases hs'
    by_cases q : b < row.length
    · rw [List.getElem?_append_left q] at e
      exact h.entC s hs b y e
    · have l := (List.getElem?_eq_some_iff.mp e).1
      simp at l
      have : b = row.length := by omega
      subst this
      rw [List.getElem?_append_right (Nat.le_refl _), Nat.sub_self] at e
      cases e
      exact hx
  le := h.le
  ord := h.ord
theorem Bf.new (h : Bf M od rows row) {s t : Nat} (hs : od[rows.length]? = some s) (hk : row.length < M.k) (ht : M.nxt (s : Int) row.length = (t : Int)) (htn : t < M.rows.length) (hl : M.lang (t : Int) ≠ dead) (hn : ∀ u ∈ od, M.lang (u : Int) ≠ M.lang (t : Int)) : Bf M (od ++ [t]) rows row where
  zero := by rw [List.getElem?_append_left (List.getElem?_eq_some_iff.mp h.zero).1]; exact h.zero
  live := fun u hu => by
    rcases List.mem_append.mp hu with z | z
    · exact h.live u z
    · rw [List.mem_singleton.mp z]
      exact ⟨htn, hl⟩
  nd := fun i j a b h1 h2 e => by
    have l1 := (List.getElem?_eq_some_iff.mp h1).1
    have l2 := (List.getElem?_eq_some_iff.mp h2).1
    simp at l1 l2
    by_cases q1 : i < od.length
    · rw [List.getElem?_append_left q1] at h1
      by_cases q2 : j < od.length
      · rw [List.getElem?_append_left q2] at h2
        exact h.nd i j a b h1 h2 e
      · have : j = od.length := by omega
        subst this
        rw [List.getElem?_append_right (Nat.le_refl _), Nat.sub_self] at h2
        cases h2
        exact absurd e (hn a (List.mem_of_getElem? h1))
    · have : i = od.length := by omega
      subst this
      rw [List.getElem?_append_right (Nat.le_refl _), Nat.sub_self] at h1
      cases h1
      by_cases q2 : j < od.length
      · rw [List.getElem?_append_left q2] at h2
        exact absurd e.symm (hn b (List.mem_of_getElem? h2))
      · omega
  entR := fun i u r h1 h2 => by
    have l1 := (List.getElem?_eq_some_iff.mp h1).1
    have le := h.le
    rw [List.getElem?_append_left (by omega)] at h2
    obtain ⟨z1, z2⟩ := h.entR i u r h1 h2
    exact ⟨z1, fun b x e => (z2 b x e).more t⟩
  entC := fun u h1 b x e => by
    rw [List.getElem?_append_left (List.getElem?_eq_some_iff.mp hs).1] at h1
    exact (h.entC u h1 b x e).more t
  le := by rw [List.length_append]; have := h.le; omega
  ord := fun j u hj e => by
    have keep : ∀ {i v : Nat}, od[i]? = some v → (od ++ [t])[i]? = some v := fun {i v} e => by rw [List.getElem?_append_left (List.getElem?_eq_some_iff.mp e).1]; exact e
    by_cases q : j < od.length
    · rw [List.getElem?_append_left q] at e
      obtain ⟨i, b, v, h1, h2, h3, h4, h5⟩ := h.ord j u hj e
      refine ⟨i, b, v, h1, h2, keep h3, h4, fun i' b' v' c1 c2 c3 => ?_⟩
      rw [List.getElem?_append_left (by omega)] at c3
      refine (h5 i' b' v' c1 c2 c3).imp id fun ⟨j', t', d1, d2, d3⟩ => ⟨j', t', d1, keep d2, d3⟩
    · have l := (List.getElem?_eq_some_iff.mp e).1
      simp at l
      have : j = od.length := by omega
      subst this
      rw [List.getElem?_append_right (Nat.le_refl _), Nat.sub_self] at e
      cases e
      have lr := (List.getElem?_eq_some_iff.mp hs).1
      refine ⟨rows.length, row.length, s, lr, hk, keep hs, by rw [ht], fun i' b' v' c1 c2 c3 => ?_⟩
      have li : i' < od.length := by omega
      rw [List.getElem?_append_left li] at c3
      have fin : ∀ {x : Int}, Ent M od v' b' x → M.lang (M.nxt (v' : Int) b') = dead ∨ ∃ j' t' : Nat, j' < od.length ∧ (od ++ [t])[j']? = some t' ∧ M.lang (t' : Int) = M.lang (M.nxt (v' : Int) b') := fun {x} hx => by
        rcases hx with hx | ⟨j, t', _, d2, d3⟩
        · exact .inl hx.2
        · exact .inr ⟨j, t', (List.getElem?_eq_some_iff.mp d2).1, keep d2, d3⟩
      rcases c1 with c1 | ⟨c1, c4⟩
      · have e1 := List.getElem?_eq_getElem (l := rows) (i := i') c1
        obtain ⟨z1, z2⟩ := h.entR i' v' _ e1 c3
        exact fin (z2 b' _ (List.getElem?_eq_getElem (by rw [z1]; exact c2)))
      · subst c1
        exact fin (h.entC v' c3 b' _ (List.getElem?_eq_getElem c4))
theorem Bf.endrow (h : Bf M od rows row) (hl : rows.length < od.length) (hk : row.length = M.k) : Bf M od (rows ++ [row]) [] where
  zero := h.zero
  live := h.live
  nd := h.nd
  entR := fun i s r h1 h2 => by
    by_cases q : i < rows.length
    · rw [List.getElem?_append_left q] at h1
      exact h.entR i s r h1 h2
    · have l := (List.getElem?_eq_some_iff.mp h1).1
      simp at l
      have : i = rows.length := by omega
      subst this
      rw [List.getElem?_append_right (Nat.le_refl _), Nat.sub_self] at h1
      cases h1
      exact ⟨hk, h.entC s h2⟩
  entC := fun s _ b x e => absurd e (by simp)
  le := by rw [List.length_append]; exact hl
  ord := h.ord
theorem Bf.done (h : Bf M od rows row) (o : M.Ok) (he : od.length ≤ rows.length) : Canon (M.lang 0) ⟨M.k, rows, od.map fun s => M.acc.getD s false⟩ := by
  have hlen : rows.length = od.length := Nat.le_antisymm h.le he
  have okm : (⟨M.k, rows, od.map fun s => M.acc.getD s false⟩ : Mach).Ok := by
    refine ⟨by show (od.map _).length = rows.length; rw [List.length_map]; exact hlen.symm, fun r hr => ?_, fun r hr x hx => ?_⟩
    · obtain ⟨i, hi⟩ := List.mem_iff_getElem?.mp hr
      have l : i < rows.length := (List.getElem?_eq_some_iff.mp hi).1
      exact (h.entR i _ r hi (List.getElem?_eq_getElem (by omega))).1
    · obtain ⟨i, hi⟩ := List.mem_iff_getElem?.mp hr
      have l : i < rows.length := (List.getElem?_eq_some_iff.mp hi).1
      obtain ⟨b, hb⟩ := List.mem_iff_getElem?.mp hx
      rcases (h.entR i _ r hi (List.getElem?_eq_getElem (by omega))).2 b x hb with z | ⟨j, t, z1, z2, _⟩
      · show _ ∧ x < (rows.length : Int)
        omega
      · have := (List.getElem?_eq_some_iff.mp z2).1
        show _ ∧ x < (rows.length : Int)
        omega
  have at_ : ∀ {i : Nat} {f : Lang}, (od.map fun s : Nat => (M.lang (s : Int) : Lang))[i]? = some f → ∃ s : Nat, od[i]? = some s ∧ M.lang (s : Int) = f := fun {i f} e => by
    rw [List.getElem?_map] at e
    cases q : od[i]? with
    | none => rw [q] at e; cases e
    | some s =>
      rw [q] at e
      exact ⟨s, rfl, Option.some.inj e⟩
  have to_ : ∀ {i s : Nat}, od[i]? = some s → (od.map fun s : Nat => (M.lang (s : Int) : Lang))[i]? = some (M.lang (s : Int)) := fun {i s} e => by
    rw [List.getElem?_map, e]
    rfl
  refine ⟨od.map fun s : Nat => (M.lang (s : Int) : Lang), okm, by rw [List.length_map]; exact hlen.symm, fun i j f h1 h2 => ?_, fun i f h1 => ?_, fun _ => to_ h.zero, fun hd => ?_, fun i b f h1 hb => ?_, fun i f h1 => ?_, fun j f hj h1 => ?_⟩
  · obtain ⟨s, e1, e2⟩ := at_ h1
    obtain ⟨t, e3, e4⟩ := at_ h2
    exact h.nd i j s t e1 e3 (e2.trans e4.symm)
  · obtain ⟨s, e1, e2⟩ := at_ h1
    rw [← e2]
    exact (h.live s (List.mem_of_getElem? e1)).2
  · exact absurd hd (h.live 0 (List.mem_of_getElem? h.zero)).2
  · obtain ⟨s, e1, e2⟩ := at_ h1
    have l := (List.getElem?_eq_some_iff.mp e1).1
    have er := List.getElem?_eq_getElem (l := rows) (i := i) (by omega)
    obtain ⟨z1, z2⟩ := h.entR i s _ er e1
    have eb := List.getElem?_eq_getElem (l := rows[i]'(by omega)) (i := b) (by rw [z1]; exact hb)
    have en : (⟨M.k, rows, od.map fun s => M.acc.getD s false⟩ : Mach).nxt (i : Int) b = _ := nxt_at (M := ⟨M.k, rows, od.map fun s => M.acc.getD s false⟩) er eb
    rw [en, ← e2, der_lang]
    rcases z2 b _ eb with ⟨y1, y2⟩ | ⟨j, t, y1, y2, y3⟩
    · exact .inl ⟨y1, y2⟩
    · exact .inr ⟨j, y1, by rw [to_ y2, y3]⟩
  · obtain ⟨s, e1, e2⟩ := at_ h1
    have q : (od.map fun s => M.acc.getD s false)[i]? = some (M.acc.getD s false) := by rw [List.getElem?_map, e1]; rfl
    rw [fin_at (M := ⟨M.k, rows, od.map fun s => M.acc.getD s false⟩) q, ← e2, lang_nil]
    unfold Mach.fin
    rw [decide_eq_true (by omega), Int.toNat_natCast, Bool.true_and]
  · obtain ⟨t, e1, e2⟩ := at_ h1
    obtain ⟨i, b, s, c1, c2, c3, c4, c5⟩ := h.ord j t hj e1
    refine ⟨i, b, _, c1, c2, to_ c3, by rw [der_lang, c4, e2], fun i' b' g' d1 d2 d3 => ?_⟩
    obtain ⟨s', f1, f2⟩ := at_ d3
    rw [← f2, der_lang]
    refine (c5 i' b' s' d1 d2 f1).imp id fun ⟨j', t', g1, g2, g3⟩ => ⟨j', g1, by rw [to_ g2, g3]⟩
end
/-! ### pairs of states -/
abbrev Pr := Int × Int
def pnx (M N : Mach) (p : Pr) (b : Nat) : Pr := (M.nxt p.1 b, N.nxt p.2 b)
structure PB (M N : Mach) (ps : List Pr) (at_ a : Nat) : Prop where
  zero : ps[0]? = some (M.init, N.init)
  rch : ∀ p ∈ ps, ∃ w, M.run M.init w = p.1 ∧ N.run N.init w = p.2
  nd : ps.Nodup
  cls : ∀ (i b : Nat) (p : Pr), ps[i]? = some p → (i < at_ ∧ b < M.k ∨ i = at_ ∧ b < a) → pnx M N p b ∈ ps
theorem PB.start : PB M N [(M.init, N.init)] 0 0 where
  zero := rfl
  rch := fun p hp => ⟨[], by rw [List.mem_singleton.mp hp]; exact ⟨rfl, rfl⟩⟩
  nd := by simp
  cls := fun i b p _ h => by omega
section
variable {ps : List Pr} {i b : Nat}
theorem PB.old (h : PB M N ps i b) {p : Pr} (hp : ps[i]? = some p) (hm : pnx M N p b ∈ ps) : PB M N ps i (b + 1) where
  zero := h.zero
  rch := h.rch
  nd := h.nd
  cls := fun j c q hq hh => by
    by_cases z : j = i ∧ c = b
    · obtain ⟨z1, z2⟩ := z
      subst z1 z2
      rw [hp] at hq
      cases hq
      exact hm
    · exact h.cls j c q hq (by omega)
theorem PB.new (h : PB M N ps i b) {p : Pr} (hp : ps[i]? = some p) (hm : pnx M N p b ∉ ps) : PB M N (ps ++ [pnx M N p b]) i (b + 1) where
  zero := by rw [List.getElem?_append_left (List.getElem?_eq_some_iff.mp h.zero).1]; exact h.zero
  rch := fun q hq => by
    rcases List.mem_append.mp hq with z | z
    · exact h.rch q z
    · obtain ⟨w, e1, e2⟩ := h.rch p (List.mem_of_getElem? hp)
      refine ⟨w ++ [b], ?_⟩
      rw [run_app, run_app, e1, e2, List.mem_singleton.mp z]
      exact ⟨rfl, rfl⟩
  nd := List.nodup_append.mpr ⟨h.nd, by simp, fun x hx y hy e => hm (by rw [← List.mem_singleton.mp hy, ← e]; exact hx)⟩
  cls := fun j c q hq hh => by
    have lp := (List.getElem?_eq_some_iff.mp hp).1
    rw [List.getElem?_append_left (by omega)] at hq
    by_cases z : j = i ∧ c = b
    · obtain ⟨z1, z2⟩ := z
      subst z1 z2
      rw [hp] at hq
      cases hq
      simp
    · exact List.mem_append_left _ (h.cls j c q hq (by omega))
theorem PB.next (h : PB M N ps i b) (hb : M.k ≤ b) : PB M N ps (i + 1) 0 :=
  ⟨h.zero, h.rch, h.nd, fun j c q hq hh => h.cls j c q hq (by omega)⟩
/-- beyond the end -/
theorem PB.over (h : PB M N ps i b) (hi : ps.length ≤ i) : PB M N ps (i + 1) 0 :=
  ⟨h.zero, h.rch, h.nd, fun j c q hq hh => by
    have := (List.getElem?_eq_some_iff.mp hq).1
    exact h.cls j c q hq (by omega)⟩
theorem PB.rng (h : PB M N ps i b) (o : M.Ok) (o' : N.Ok) : ∀ p ∈ ps, (-1 ≤ p.1 ∧ p.1 < (M.rows.length : Int)) ∧ (-1 ≤ p.2 ∧ p.2 < (N.rows.length : Int)) := fun p hp => by
  obtain ⟨w, e1, e2⟩ := h.rch p hp
  rw [← e1, ← e2]
  exact ⟨run_rng o w _ init_rng, run_rng o' w _ init_rng⟩
end
theorem pairs_len {ps : List Pr} {m n : Nat} (nd : ps.Nodup) (h : ∀ p ∈ ps, (-1 ≤ p.1 ∧ p.1 < (m : Int)) ∧ (-1 ≤ p.2 ∧ p.2 < (n : Int))) : ps.length ≤ (m + 1) * (n + 1) := by
  have := nodup_sub_len (m := (List.range (m + 1)).flatMap fun i : Nat => (List.range (n + 1)).map fun j : Nat => (((i : Int) - 1, (j : Int) - 1) : Pr)) nd fun p hp => by
    obtain ⟨⟨h1, h2⟩, h3, h4⟩ := h p hp
    refine List.mem_flatMap.mpr ⟨(p.1 + 1).toNat, List.mem_range.mpr (by omega), List.mem_map.mpr ⟨(p.2 + 1).toNat, List.mem_range.mpr (by omega), ?_⟩⟩
    refine Prod.ext ?_ ?_
    · show ((p.1 + 1).toNat : Int) - 1 = p.1
      omega
    · show ((p.2 + 1).toNat : Int) - 1 = p.2
      omega
  have e : ((List.range (m + 1)).flatMap fun i : Nat => (List.range (n + 1)).map fun j : Nat => (((i : Int) - 1, (j : Int) - 1) : Pr)).length = (m + 1) * (n + 1) := by
    rw [List.length_flatMap]
    have : (List.range (m + 1)).map (fun i : Nat => ((List.range (n + 1)).map fun j : Nat => (((i : Int) - 1, (j : Int) - 1) : Pr)).length) = List.replicate (m + 1) (n + 1) := by
      refine List.ext_getElem (by simp) fun i h1 h2 => ?_
      simp
    rw [this, List.sum_replicate_nat]
  rw [e] at this
  exact this
section
variable {ps : List Pr} {i b : Nat}
theorem PB.len (h : PB M N ps i b) (o : M.Ok) (o' : N.Ok) : ps.length ≤ (M.rows.length + 1) * (N.rows.length + 1) := pairs_len h.nd (h.rng o o')
theorem PB.closed (h : PB M N ps i b) (hi : ps.length ≤ i) : ∀ p ∈ ps, ∀ c, c < M.k → pnx M N p c ∈ ps := fun p hp c hc => by
  obtain ⟨j, hj⟩ := List.mem_iff_getElem?.mp hp
  have := (List.getElem?_eq_some_iff.mp hj).1
  exact h.cls j c p hj (by omega)
/-- a closed set of pairs that agree: the same words -/
theorem same_of_closed (o : M.Ok) (o' : N.Ok) (hk : M.k = N.k) (S : Pr → Prop) (cl : ∀ p, S p → ∀ c, c < M.k → S (pnx M N p c)) (ag : ∀ p, S p → M.fin p.1 = N.fin p.2) : ∀ (w : Wd) (p : Pr), S p → M.lang p.1 w = N.lang p.2 w
  | [], p, h => ag p h
  | a :: w, p, h => by
    rw [lang_cons, lang_cons]
    by_cases ha : a < M.k
    · exact same_of_closed o o' hk S cl ag w (pnx M N p a) (cl p h a ha)
    · rw [nxt_out o (by omega), nxt_out o' (by omega), lang_neg (by omega), lang_neg (by omega)]
theorem PB.same (h : PB M N ps i b) (o : M.Ok) (o' : N.Ok) (hk : M.k = N.k) (hi : ps.length ≤ i) (ag : ∀ p ∈ ps, M.fin p.1 = N.fin p.2) : M.L = N.L := by
  refine funext fun w => same_of_closed o o' hk (fun p => p ∈ ps) (h.closed hi) ag w (M.init, N.init) ?_
  exact List.mem_of_getElem? h.zero
theorem PB.agree (h : PB M N ps i b) (e : M.L = N.L) : ∀ p ∈ ps, M.fin p.1 = N.fin p.2 := fun p hp => by
  obtain ⟨w, e1, e2⟩ := h.rch p hp
  rw [← e1, ← e2, ← lang_fin, ← lang_fin]
  exact congrFun e w
end
/-! ### what is met from a start -/
/-- rows of numbers over the keys ks, by the targets T -/
def EntT (ks : List (List Int)) (T : List Int → List (Option (List Int))) (q : List Int) (b : Nat) (x : Int) : Prop :=
  (x = -1 ∧ (T q)[b]? = some none) ∨ ∃ (j : Nat) (t : List Int), x = (j : Int) ∧ ks[j]? = some t ∧ (T q)[b]? = some (some t)
theorem EntT.more {ks : List (List Int)} {T : List Int → List (Option (List Int))} {q : List Int} {b : Nat} {x : Int} (h : EntT ks T q b x) (t : List Int) : EntT (ks ++ [t]) T q b x := by
  rcases h with h | ⟨j, t', h1, h2, h3⟩
  · exact .inl h
  · exact .inr ⟨j, t', h1, by rw [List.getElem?_append_left (List.getElem?_eq_some_iff.mp h2).1]; exact h2, h3⟩
structure MB (T : List Int → List (Option (List Int))) (D : List Int → Prop) (st : List Int) (ks : List (List Int)) (rows : List (List Int)) (row : List Int) : Prop where
  zero : ks[0]? = some st
  dom : ∀ q ∈ ks, D q
  nd : ks.Nodup
  entR : ∀ (i : Nat) (q r : List Int), rows[i]? = some r → ks[i]? = some q → r.length = (T q).length ∧ ∀ (b : Nat) (x : Int), r[b]? = some x → EntT ks T q b x
  entC : ∀ q : List Int, ks[rows.length]? = some q → ∀ (b : Nat) (x : Int), row[b]? = some x → EntT ks T q b x
  le : rows.length ≤ ks.length
section
variable {T : List Int → List (Option (List Int))} {D : List Int → Prop} {st : List Int} {ks rows : List (List Int)} {row : List Int}
theorem MB.start (h : D st) : MB T D st [st] [] [] where
  zero := rfl
  dom := fun q hq => by rw [List.mem_singleton.mp hq]; exact h
  nd := by simp
  entR := fun i q r h => absurd h (by simp)
  entC := fun q _ b x h => absurd h (by simp)
  le := by simp
theorem MB.push (h : MB T D st ks rows row) {q : List Int} {x : Int} (hq : ks[rows.length]? = some q) (hx : EntT ks T q row.length x) : MB T D st ks rows (row ++ [x]) where
  zero := h.zero
  dom := h.dom
  nd := h.nd
  entR := h.entR
  entC := fun q' hq' b y e => by
    rw [hq] at hq'
    cases hq'
    by_cases z : b < row.length
    · rw [List.getElem?_append_left z] at e
      exact h.entC q hq b y e
    · have l := (List.getElem?_eq_some_iff.mp e).1
      simp at l
      have : b = row.length := by omega
      subst this
      rw [List.getElem?_append_right (Nat.le_refl _), Nat.sub_self] at e
      cases e
      exact hx
  le := h.le
theorem MB.new (h : MB T D st ks rows row) {t : List Int} (hl : rows.length < ks.length) (hd : D t) (hn : t ∉ ks) : MB T D st (ks ++ [t]) rows row where
  zero := by rw [List.getElem?_append_left (List.getElem?_eq_some_iff.mp h.zero).1]; exact h.zero
  dom := fun q hq => by
    rcases List.mem_append.mp hq with z | z
    · exact h.dom q z
    · rw [List.mem_singleton.mp z]; exact hd
  nd := List.nodup_append.mpr ⟨h.nd, by simp, fun x hx y hy e => hn (by rw [← List.mem_singleton.mp hy, ← e]; exact hx)⟩
  entR := fun i q r h1 h2 => by
    have l1 := (List.getElem?_eq_some_iff.mp h1).1
    rw [List.getElem?_append_left (by omega)] at h2
    obtain ⟨z1, z2⟩ := h.entR i q r h1 h2
    exact ⟨z1, fun b x e => (z2 b x e).more t⟩
  entC := fun q h1 b x e => by
    rw [List.getElem?_append_left hl] at h1
    exact (h.entC q h1 b x e).more t
  le := by rw [List.length_append]; omega
theorem MB.endrow (h : MB T D st ks rows row) {q : List Int} (hq : ks[rows.length]? = some q) (hk : row.length = (T q).length) : MB T D st ks (rows ++ [row]) [] where
  zero := h.zero
  dom := h.dom
  nd := h.nd
  entR := fun i q' r h1 h2 => by
    by_cases z : i < rows.length
    · rw [List.getElem?_append_left z] at h1
      exact h.entR i q' r h1 h2
    · have l := (List.getElem?_eq_some_iff.mp h1).1
      simp at l
      have : i = rows.length := by omega
      subst this
      rw [List.getElem?_append_right (Nat.le_refl _), Nat.sub_self] at h1
      cases h1
      rw [hq] at h2
      cases h2
      exact ⟨hk, h.entC q hq⟩
  entC := fun q _ b x e => absurd e (by simp)
  le := by rw [List.length_append]; exact (List.getElem?_eq_some_iff.mp hq).1
/-- what was met -/
structure Met (T : List Int → List (Option (List Int))) (D : List Int → Prop) (st : List Int) (ks rows : List (List Int)) : Prop where
  zero : ks[0]? = some st
  dom : ∀ q ∈ ks, D q
  len : rows.length = ks.length
  ent : ∀ (i : Nat) (q r : List Int), rows[i]? = some r → ks[i]? = some q → r.length = (T q).length ∧ ∀ (b : Nat) (x : Int), r[b]? = some x → EntT ks T q b x
theorem MB.done (h : MB T D st ks rows row) (he : ks.length ≤ rows.length) : Met T D st ks rows := ⟨h.zero, h.dom, Nat.le_antisymm h.le he, h.entR⟩
theorem Met.ok {k : Nat} (h : Met T D st ks rows) (hT : ∀ q, D q → (T q).length = k) {acc : List Bool} (ha : acc.length = ks.length) : (⟨k, rows, acc⟩ : Mach).Ok := by
  refine ⟨by show acc.length = rows.length; rw [ha, h.len], fun r hr => ?_, fun r hr x hx => ?_⟩
  · obtain ⟨i, hi⟩ := List.mem_iff_getElem?.mp hr
    have l := (List.getElem?_eq_some_iff.mp hi).1
    have e := List.getElem?_eq_getElem (l := ks) (i := i) (by rw [← h.len]; exact l)
    rw [(h.ent i _ r hi e).1]
    exact hT _ (h.dom _ (List.mem_of_getElem? e))
  · obtain ⟨i, hi⟩ := List.mem_iff_getElem?.mp hr
    have l := (List.getElem?_eq_some_iff.mp hi).1
    have e := List.getElem?_eq_getElem (l := ks) (i := i) (by rw [← h.len]; exact l)
    obtain ⟨b, hb⟩ := List.mem_iff_getElem?.mp hx
    show _ ∧ x < (rows.length : Int)
    rcases (h.ent i _ r hi e).2 b x hb with z | ⟨j, t, z1, z2, _⟩
    · omega
    · have := (List.getElem?_eq_some_iff.mp z2).1
      have := h.len
      omega
theorem Met.at_ {k : Nat} (h : Met T D st ks rows) (hT : ∀ q, D q → (T q).length = k) {acc : List Bool} (ha : acc.length = ks.length) (f : List Int → Lang)
    (h0 : ∀ (i : Nat) (q : List Int), ks[i]? = some q → acc[i]? = some (f q [])) (h1 : ∀ (q : List Int) (b : Nat), D q → (T q)[b]? = some none → der (f q) b = dead) (h2 : ∀ (q t : List Int) (b : Nat), D q → (T q)[b]? = some (some t) → der (f q) b = f t) (hs : ∀ q, D q → Sup k (f q)) :
    ∀ (w : Wd) (i : Nat) (q : List Int), ks[i]? = some q → (⟨k, rows, acc⟩ : Mach).lang (i : Int) w = f q w
  | [], i, q, hq => by
    rw [lang_nil]
    exact fin_at (M := ⟨k, rows, acc⟩) (h0 i q hq)
  | a :: w, i, q, hq => by
    rw [lang_cons]
    have dq := h.dom q (List.mem_of_getElem? hq)
    by_cases ha' : a < k
    · have l := (List.getElem?_eq_some_iff.mp hq).1
      have er := List.getElem?_eq_getElem (l := rows) (i := i) (by rw [h.len]; exact l)
      obtain ⟨z1, z2⟩ := h.ent i q _ er hq
      have eb := List.getElem?_eq_getElem (l := rows[i]'(by rw [h.len]; exact l)) (i := a) (by rw [z1, hT q dq]; exact ha')
      rw [nxt_at (M := ⟨k, rows, acc⟩) er eb]
      rcases z2 a _ eb with ⟨y1, y2⟩ | ⟨j, t, y1, y2, y3⟩
      · rw [y1, lang_neg (by omega)]
        exact (congrFun (h1 q a dq y2) w).symm
      · rw [y1, h.at_ hT ha f h0 h1 h2 hs w j t y2]
        exact (congrFun (h2 q t a dq y3) w).symm
    · rw [nxt_out (h.ok hT ha) (show k ≤ a by omega), lang_neg (by omega)]
      exact (congrFun ((hs q dq).out (by omega)) w).symm
theorem Met.lang {k : Nat} (h : Met T D st ks rows) (hT : ∀ q, D q → (T q).length = k) {acc : List Bool} (ha : acc.length = ks.length) (f : List Int → Lang)
    (h0 : ∀ (i : Nat) (q : List Int), ks[i]? = some q → acc[i]? = some (f q [])) (h1 : ∀ (q : List Int) (b : Nat), D q → (T q)[b]? = some none → der (f q) b = dead) (h2 : ∀ (q t : List Int) (b : Nat), D q → (T q)[b]? = some (some t) → der (f q) b = f t) (hs : ∀ q, D q → Sup k (f q)) :
    (⟨k, rows, acc⟩ : Mach).L = f st := by
  have l := (List.getElem?_eq_some_iff.mp h.zero).1
  have e : (⟨k, rows, acc⟩ : Mach).init = ((0 : Nat) : Int) := by
    unfold Mach.init
    rw [if_pos (show 0 < rows.length by rw [h.len]; exact l)]
    rfl
  show (⟨k, rows, acc⟩ : Mach).lang (⟨k, rows, acc⟩ : Mach).init = f st
  rw [e]
  exact funext fun w => h.at_ hT ha f h0 h1 h2 hs w 0 st h.zero
end
/-! ### two machines together -/
def gone (whole : Bool) (l r : Int) : Bool := if whole = true then decide ((if r < l then r else l) < 0) else decide ((if l < r then r else l) < 0)
def pT (whole : Bool) (M N : Mach) (q : List Int) : List (Option (List Int)) := (List.range M.k).map fun b => if gone whole (M.nxt (q.getD 0 0) b) (N.nxt (q.getD 1 0) b) = true then none else some [M.nxt (q.getD 0 0) b, N.nxt (q.getD 1 0) b]
def pD (M N : Mach) (q : List Int) : Prop := ∃ l r : Int, q = [l, r] ∧ (-1 ≤ l ∧ l < (M.rows.length : Int)) ∧ (-1 ≤ r ∧ r < (N.rows.length : Int))
def comb (whole : Bool) (f g : Lang) : Lang := fun w => if whole = true then f w && g w else f w || g w
def pF (whole : Bool) (M N : Mach) (q : List Int) : Lang := comb whole (M.lang (q.getD 0 0)) (N.lang (q.getD 1 0))
theorem pT_len (whole : Bool) (q : List Int) : (pT whole M N q).length = M.k := by
  unfold pT
  rw [List.length_map, List.length_range]
theorem pT_at {whole : Bool} {q : List Int} {b : Nat} {o : Option (List Int)} (h : (pT whole M N q)[b]? = some o) : b < M.k ∧ o = if gone whole (M.nxt (q.getD 0 0) b) (N.nxt (q.getD 1 0) b) = true then none else some [M.nxt (q.getD 0 0) b, N.nxt (q.getD 1 0) b] := by
  unfold pT at h
  rw [List.getElem?_map] at h
  cases e : (List.range M.k)[b]? with
  | none => rw [e] at h; cases h
  | some c =>
    rw [e] at h
    obtain ⟨h1, h2⟩ := List.getElem?_eq_some_iff.mp e
    rw [List.getElem_range] at h2
    subst h2
    exact ⟨by simpa using h1, (Option.some.inj h).symm⟩
theorem gone_dead {whole : Bool} {l r : Int} (h : gone whole l r = true) : comb whole (M.lang l) (N.lang r) = dead := by
  unfold gone at h
  refine funext fun w => ?_
  unfold comb
  cases whole with
  | true =>
    rw [if_pos rfl] at h ⊢
    have q := of_decide_eq_true h
    by_cases hl : l < 0
    · rw [lang_neg hl]
      rfl
    · have hr : r < 0 := by split at q <;> omega
      rw [lang_neg hr, Bool.and_false]
      rfl
  | false =>
    rw [if_neg (by decide)] at h ⊢
    have q := of_decide_eq_true h
    have hl : l < 0 ∧ r < 0 := by split at q <;> omega
    rw [lang_neg hl.1, lang_neg hl.2]
    rfl
theorem comb_der (whole : Bool) (f g : Lang) (b : Nat) : der (comb whole f g) b = comb whole (der f b) (der g b) := rfl
theorem pF_none {whole : Bool} {q : List Int} {b : Nat} (h : (pT whole M N q)[b]? = some none) : der (pF whole M N q) b = dead := by
  obtain ⟨_, e⟩ := pT_at h
  split at e
  · rename_i hg
    unfold pF
    rw [comb_der, der_lang, der_lang]
    exact gone_dead hg
  · cases e
theorem pF_some {whole : Bool} {q t : List Int} {b : Nat} (h : (pT whole M N q)[b]? = some (some t)) : der (pF whole M N q) b = pF whole M N t := by
  obtain ⟨_, e⟩ := pT_at h
  split at e
  · cases e
  · have e2 := Option.some.inj e
    subst e2
    rfl
theorem pD_T {whole : Bool} (o : M.Ok) (o' : N.Ok) {q t : List Int} {b : Nat} (h : (pT whole M N q)[b]? = some (some t)) : pD M N t := by
  obtain ⟨_, e⟩ := pT_at h
  split at e
  · cases e
  · exact ⟨_, _, Option.some.inj e, nxt_rng o _ _, nxt_rng o' _ _⟩
theorem sup_comb {k : Nat} {whole : Bool} {f g : Lang} (hf : Sup k f) (hg : Sup k g) : Sup k (comb whole f g) := fun w hw => by
  unfold comb at hw
  cases whole with
  | true =>
    rw [if_pos rfl, Bool.and_eq_true] at hw
    exact hf w hw.1
  | false =>
    rw [if_neg (by decide), Bool.or_eq_true] at hw
    exact hw.elim (hf w) (hg w)
theorem pD_len {ks : List (List Int)} (nd : ks.Nodup) (h : ∀ q ∈ ks, pD M N q) : ks.length ≤ (M.rows.length + 1) * (N.rows.length + 1) := by
  have nd2 : (ks.map fun q => ((q.getD 0 0, q.getD 1 0) : Pr)).Nodup := by
    refine nodup_of_inj fun i j x h1 h2 => ?_
    rw [List.getElem?_map] at h1 h2
    cases e1 : ks[i]? with
    | none => rw [e1] at h1; cases h1
    | some a =>
      cases e2 : ks[j]? with
      | none => rw [e2] at h2; cases h2
      | some c =>
        rw [e1] at h1
        rw [e2] at h2
        obtain ⟨l, r, rfl, _⟩ := h a (List.mem_of_getElem? e1)
        obtain ⟨l', r', rfl, _⟩ := h c (List.mem_of_getElem? e2)
        have q : ((l, r) : Pr) = (l', r') := (Option.some.inj h1).trans (Option.some.inj h2).symm
        injection q with q1 q2
        subst q1 q2
        exact nodup_inj nd e1 e2
  have := pairs_len (m := M.rows.length) (n := N.rows.length) nd2 fun p hp => by
    obtain ⟨q, hq, e⟩ := List.mem_map.mp hp
    obtain ⟨l, r, rfl, h1, h2⟩ := h q hq
    subst e
    exact ⟨h1, h2⟩
  rw [List.length_map] at this
  exact this
/-! ### nothing hidden -/
def hT (M : Mach) (q : List Int) : List (Option (List Int)) := (List.range M.k).map fun b => if M.nxt (q.getD 0 0) b < 0 then none else some [M.nxt (q.getD 0 0) b]
def hD (M : Mach) (q : List Int) : Prop := ∃ s : Nat, q = [(s : Int)] ∧ s < M.rows.length
def hF (M : Mach) (q : List Int) : Lang := M.lang (q.getD 0 0)
theorem hT_len (q : List Int) : (hT M q).length = M.k := by
  unfold hT
  rw [List.length_map, List.length_range]
theorem hT_at {q : List Int} {b : Nat} {o : Option (List Int)} (h : (hT M q)[b]? = some o) : b < M.k ∧ o = if M.nxt (q.getD 0 0) b < 0 then none else some [M.nxt (q.getD 0 0) b] := by
  unfold hT at h
  rw [List.getElem?_map] at h
  cases e : (List.range M.k)[b]? with
  | none => rw [e] at h; cases h
  | some c =>
    rw [e] at h
    obtain ⟨h1, h2⟩ := List.getElem?_eq_some_iff.mp e
    rw [List.getElem_range] at h2
    subst h2
    exact ⟨by simpa using h1, (Option.some.inj h).symm⟩
theorem hF_none {q : List Int} {b : Nat} (h : (hT M q)[b]? = some none) : der (hF M q) b = dead := by
  obtain ⟨_, e⟩ := hT_at h
  split at e
  · rename_i hg
    unfold hF
    rw [der_lang]
    exact lang_dead hg
  · cases e
theorem hF_some {q t : List Int} {b : Nat} (h : (hT M q)[b]? = some (some t)) : der (hF M q) b = hF M t := by
  obtain ⟨_, e⟩ := hT_at h
  split at e
  · cases e
  · have e2 := Option.some.inj e
    subst e2
    rfl
theorem hD_T (o : M.Ok) {q t : List Int} {b : Nat} (h : (hT M q)[b]? = some (some t)) : hD M t := by
  obtain ⟨_, e⟩ := hT_at h
  have := nxt_rng o (q.getD 0 0) b
  split at e
  · cases e
  · refine ⟨(M.nxt (q.getD 0 0) b).toNat, ?_, by omega⟩
    rw [Option.some.inj e]
    congr 1
    omega
theorem hD_len {ks : List (List Int)} (nd : ks.Nodup) (h : ∀ q ∈ ks, hD M q) : ks.length ≤ M.rows.length := by
  have := nodup_sub_len (m := (List.range M.rows.length).map fun s : Nat => [(s : Int)]) nd fun q hq => by
    obtain ⟨s, h1, h2⟩ := h q hq
    exact List.mem_map.mpr ⟨s, List.mem_range.mpr h2, h1.symm⟩
  rw [List.length_map, List.length_range] at this
  exact this
/-! ### sums -/
def sm (f : Nat → Int) : Nat → Int
  | 0 => 0
  | n + 1 => sm f n + f n
theorem sm_congr {f g : Nat → Int} : ∀ {n : Nat}, (∀ i, i < n → f i = g i) → sm f n = sm g n
  | 0, _ => rfl
  | n + 1, h => by
    show sm f n + f n = sm g n + g n
    rw [sm_congr fun i hi => h i (by omega), h n (by omega)]
theorem sm_add (f g : Nat → Int) : ∀ n : Nat, sm (fun i => f i + g i) n = sm f n + sm g n
  | 0 => rfl
  | n + 1 => by
    show sm (fun i => f i + g i) n + (f n + g n) = (sm f n + f n) + (sm g n + g n)
    rw [sm_add f g n]
    omega
theorem sm_zero : ∀ n : Nat, sm (fun _ => 0) n = 0
  | 0 => rfl
  | n + 1 => by
    show sm (fun _ => 0) n + 0 = 0
    rw [sm_zero n]
    rfl
theorem sm_mul (c : Int) (f : Nat → Int) : ∀ n : Nat, sm (fun i => c * f i) n = c * sm f n
  | 0 => by show (0 : Int) = c * 0; rw [Int.mul_zero]
  | n + 1 => by
    show sm (fun i => c * f i) n + c * f n = c * (sm f n + f n)
    rw [sm_mul c f n, Int.mul_add]
/-- changed at one place -/
theorem sm_at {f g : Nat → Int} {t : Nat} {d : Int} : ∀ {n : Nat}, t < n → (∀ i, i ≠ t → g i = f i) → g t = f t + d → sm g n = sm f n + d
  | 0, h, _, _ => by omega
  | n + 1, h, h1, h2 => by
    show sm g n + g n = sm f n + f n + d
    by_cases q : t = n
    · subst q
      rw [sm_congr (f := g) (g := f) fun i hi => h1 i (by omega), h2]
      omega
    · rw [sm_at (t := t) (by omega) h1 h2, h1 n (by omega)]
      omega
/-- how many words of a length -/
def cw (k : Nat) : Nat → Lang → Int
  | 0, l => if l [] = true then 1 else 0
  | n + 1, l => sm (fun a => cw k n (der l a)) k
theorem cw_dead (k : Nat) : ∀ n : Nat, cw k n dead = 0
  | 0 => rfl
  | n + 1 => by
    show sm (fun a => cw k n (der dead a)) k = 0
    rw [sm_congr (f := fun a => cw k n (der dead a)) (g := fun _ => 0) fun a _ => cw_dead k n, sm_zero]
theorem cw_comb (k : Nat) : ∀ (n : Nat) (f g : Lang), cw k n f + cw k n g = cw k n (comb true f g) + cw k n (comb false f g)
  | 0, f, g => by
    show (if f [] = true then 1 else 0) + (if g [] = true then 1 else 0) = (if (f [] && g []) = true then (1 : Int) else 0) + (if (f [] || g []) = true then 1 else 0)
    cases f [] <;> cases g [] <;> rfl
  | n + 1, f, g => by
    show sm (fun a => cw k n (der f a)) k + sm (fun a => cw k n (der g a)) k = sm (fun a => cw k n (der (comb true f g) a)) k + sm (fun a => cw k n (der (comb false f g) a)) k
    rw [← sm_add, ← sm_add]
    exact sm_congr fun a _ => cw_comb k n (der f a) (der g a)
/-- what the counts are worth, so many letters still to come -/
def Wt (M : Mach) (cs : List Int) (j : Nat) : Int := sm (fun s => cs.getD s 0 * cw M.k j (M.lang (s : Int))) M.rows.length
theorem Wt_start {cs : List Int} {j : Nat} (h0 : cs.length = M.rows.length) (h : ∀ s : Nat, s < cs.length → cs[s]? = some (if s = 0 then 1 else 0)) : Wt M cs j = cw M.k j M.L := by
  have e : ∀ s, s < M.rows.length → cs.getD s 0 * cw M.k j (M.lang (s : Int)) = if s = 0 then cw M.k j (M.lang 0) else 0 := fun s hs => by
    rw [List.getD_eq_getElem?_getD, h s (by omega), Option.getD_some]
    split
    · rename_i z
      subst z
      rw [Int.one_mul]
      rfl
    · rw [Int.zero_mul]
  unfold Wt
  rw [sm_congr e]
  by_cases hn : 0 < M.rows.length
  · have hi : M.init = 0 := by
      unfold Mach.init
      rw [if_pos hn]
    show _ = cw M.k j (M.lang M.init)
    rw [hi]
    have := sm_at (f := fun _ => 0) (g := fun s => if s = 0 then cw M.k j (M.lang 0) else 0) (t := 0) (d := cw M.k j (M.lang 0)) hn (fun i hi => if_neg hi) (by rw [if_pos rfl, Int.zero_add])
    rw [this, sm_zero, Int.zero_add]
  · have hz : M.rows.length = 0 := by omega
    have hi : M.init = -1 := by
      unfold Mach.init
      rw [if_neg hn]
    show _ = cw M.k j (M.lang M.init)
    rw [hz, hi, lang_dead (s := -1) (by omega), cw_dead]
    rfl
/-- the new counts so far -/
def Cn (M : Mach) (cs af : List Int) (i b : Nat) : Prop := af.length = M.rows.length ∧ ∀ j : Nat,
  Wt M af j = sm (fun s => cs.getD s 0 * cw M.k (j + 1) (M.lang (s : Int))) i + cs.getD i 0 * sm (fun a => cw M.k j (M.lang (M.nxt (i : Int) a))) b
theorem Cn.start {cs : List Int} : Cn M cs (List.replicate M.rows.length 0) 0 0 := by
  refine ⟨by simp, fun j => ?_⟩
  show Wt M _ j = 0 + cs.getD 0 0 * 0
  rw [Int.mul_zero]
  unfold Wt
  rw [sm_congr (g := fun _ => 0) fun s hs => ?_, sm_zero]
  · rfl
  · rw [List.getD_eq_getElem?_getD, List.getElem?_replicate, if_pos hs]
    exact Int.zero_mul _
theorem Cn.skip {cs af : List Int} {i b : Nat} (h : Cn M cs af i b) (hn : M.nxt (i : Int) b < 0) : Cn M cs af i (b + 1) := by
  refine ⟨h.1, fun j => ?_⟩
  rw [h.2 j]
  show _ = _ + cs.getD i 0 * (sm (fun a => cw M.k j (M.lang (M.nxt (i : Int) a))) b + cw M.k j (M.lang (M.nxt (i : Int) b)))
  rw [lang_dead hn, cw_dead, Int.add_zero]
theorem Cn.add {cs af : List Int} {i b t : Nat} {c v : Int} (h : Cn M cs af i b) (hn : M.nxt (i : Int) b = (t : Int)) (hc : cs[i]? = some c) (hv : af[t]? = some v) : Cn M cs (af.set t (v + c)) i (b + 1) := by
  have ht : t < af.length := (List.getElem?_eq_some_iff.mp hv).1
  refine ⟨by rw [List.length_set]; exact h.1, fun j => ?_⟩
  have e : Wt M (af.set t (v + c)) j = Wt M af j + c * cw M.k j (M.lang (t : Int)) := by
    unfold Wt
    refine sm_at (t := t) (by rw [← h.1]; exact ht) (fun s hs => ?_) ?_
    · rw [List.getD_eq_getElem?_getD, List.getD_eq_getElem?_getD, List.getElem?_set_ne (Ne.symm hs)]
    · rw [List.getD_eq_getElem?_getD, List.getD_eq_getElem?_getD, List.getElem?_set_self ht, hv, Option.getD_some, Option.getD_some, Int.add_mul]
  rw [e, h.2 j, List.getD_eq_getElem?_getD, hc, Option.getD_some]
  show _ = _ + c * (sm (fun a => cw M.k j (M.lang (M.nxt (i : Int) a))) b + cw M.k j (M.lang (M.nxt (i : Int) b)))
  rw [hn, Int.mul_add, Int.add_assoc]
theorem Cn.next {cs af : List Int} {i : Nat} (h : Cn M cs af i M.k) : Cn M cs af (i + 1) 0 := by
  refine ⟨h.1, fun j => ?_⟩
  rw [h.2 j]
  show _ = (sm (fun s => cs.getD s 0 * cw M.k (j + 1) (M.lang (s : Int))) i + cs.getD i 0 * cw M.k (j + 1) (M.lang (i : Int))) + cs.getD (i + 1) 0 * 0
  rw [Int.mul_zero, Int.add_zero]
  rfl
theorem Cn.done {cs af : List Int} (h : Cn M cs af M.rows.length 0) (j : Nat) : Wt M af j = Wt M cs (j + 1) := by
  rw [h.2 j]
  show _ + cs.getD M.rows.length 0 * 0 = _
  rw [Int.mul_zero, Int.add_zero]
  rfl
/-- the sum at the end -/
theorem Wt_end {cs : List Int} (o : M.Ok) (hl : cs.length = M.rows.length) : Wt M cs 0 = sm (fun s => if M.acc.getD s false = true then cs.getD s 0 else 0) M.rows.length := by
  unfold Wt
  refine sm_congr fun s hs => ?_
  show cs.getD s 0 * (if M.lang (s : Int) [] = true then 1 else 0) = _
  rw [lang_nil]
  unfold Mach.fin
  rw [decide_eq_true (by omega), Int.toNat_natCast, Bool.true_and]
  split
  · rw [Int.mul_one]
  · rw [Int.mul_zero]
end Dg
end

section
/-! The text by places; machines in the heap. -/
namespace Dg
open PySem PySem.Spec PyProof.Rows L2
def top (i : Nat) : Stmt := PySem.Challenge.pw_doppelganger_k33_whole_same_in_four_ways.main.body.getD i (.Pass ⟨0, 0, 0, 0⟩)
/-! ### heaps -/
abbrev Ext := LamX.ExtN
theorem Ext.of {H H' : Hp} (s : Same H H') : Ext H H' := fun b o e _ => s b o e
theorem Ext.tup {K : PySem.W.Frag} {H H' : Hp} {a : Addr} {xs : List V} (s : Ext H H') (h : SqT K H a xs) : SqT K H' a xs := by
  rcases h with (h | ⟨o, h⟩) | h
  · exact .inl (.inl (s _ _ h fun ps z => by cases z))
  · exact .inl (.inr ⟨o, s _ _ h fun ps z => by cases z⟩)
  · exact .inr h
theorem Ext.seq {K : PySem.W.Frag} {H H' : Hp} {a : Addr} {xs : List V} (s : Ext H H') (h : SqL K H a xs) : SqL K H' a xs := by
  rcases h with (h | ⟨o, h⟩) | h
  · exact .inl (.inl (s _ _ h fun ps z => by cases z))
  · exact .inl (.inr ⟨o, s _ _ h fun ps z => by cases z⟩)
  · exact .inr h
theorem Same.tup {K : PySem.W.Frag} {H H' : Hp} {a : Addr} {xs : List V} (s : Same H H') (h : SqT K H a xs) : SqT K H' a xs := (Ext.of s).tup h
theorem same_upd {H : Hp} {p : Addr} {o : HO} (h : H p = none) : Same H (upd H p o) := fun b x e => by
  rw [upd_ne (ne_of_none e h)]
  exact e
/-- a change at a place that was not tracked ahead -/
theorem same_in {H H' : Hp} {p : Addr} {o : HO} (h : H p = none) (s : Same H H') : Same H (upd H' p o) := fun b x e => by
  rw [upd_ne (ne_of_none e h)]
  exact s b x e
theorem none_of {H H' : Hp} {p : Addr} (s : Same H H') (h : H' p = none) : H p = none := s.free h
/-- a tuple stays where another object is written -/
theorem tup_upd {K : PySem.W.Frag} {H : Hp} {a R : Addr} {o o0 : HO} {xs : List V} (hR : H R = some o0) (h1 : ∀ xs, o0 ≠ .tup xs) (h2 : ∀ ob u, o0 ≠ .frz ob u) (h : SqT K H a xs) : SqT K (upd H R o) a xs := by
  rcases h with (h | ⟨ob, h⟩) | h
  · exact .inl (.inl (by rw [upd_ne (ne_of h hR (fun z => h1 xs z.symm))]; exact h))
  · exact .inl (.inr ⟨ob, by rw [upd_ne (ne_of h hR (fun z => h2 ob _ z.symm))]; exact h⟩)
  · exact .inr h
/-! ### machines -/
/-- the tuples at the addresses ra are the rows -/
def RowsAt (K : PySem.W.Frag) (H : Hp) (ra : List Addr) (rows : List (List Int)) : Prop := ra.length = rows.length ∧ ∀ (i : Nat) (p : Addr) (r : List Int), ra[i]? = some p → rows[i]? = some r → SqT K H p (r.map V.int)
structure MachB (K : PySem.W.Frag) (H : Hp) (a b c : Addr) (ra : List Addr) (M : Mach) : Prop where
  t : SqT K H a [.int (M.k : Int), .ref b, .ref c]
  b : SqT K H b (ra.map V.ref)
  r : RowsAt K H ra M.rows
  c : SqT K H c (M.acc.map V.bl)
def MachAt (K : PySem.W.Frag) (H : Hp) (a : Addr) (M : Mach) : Prop := ∃ b c ra, MachB K H a b c ra M
section
variable {K : PySem.W.Frag} {H H' : Hp} {a b c : Addr} {ra : List Addr} {M : Mach}
theorem RowsAt.ext {rows : List (List Int)} (s : Ext H H') (h : RowsAt K H ra rows) : RowsAt K H' ra rows := ⟨h.1, fun i p r e1 e2 => s.tup (h.2 i p r e1 e2)⟩
theorem MachB.ext (s : Ext H H') (h : MachB K H a b c ra M) : MachB K H' a b c ra M := ⟨s.tup h.t, s.tup h.b, h.r.ext s, s.tup h.c⟩
theorem MachAt.ext (s : Ext H H') (h : MachAt K H a M) : MachAt K H' a M := by
  obtain ⟨b, c, ra, h⟩ := h
  exact ⟨b, c, ra, h.ext s⟩
theorem MachB.same (s : Same H H') (h : MachB K H a b c ra M) : MachB K H' a b c ra M := h.ext (Ext.of s)
theorem MachAt.same (s : Same H H') (h : MachAt K H a M) : MachAt K H' a M := h.ext (Ext.of s)
theorem RowsAt.same {rows : List (List Int)} (s : Same H H') (h : RowsAt K H ra rows) : RowsAt K H' ra rows := h.ext (Ext.of s)
/-- the row of a state -/
theorem MachB.row (h : MachB K H a b c ra M) {s : Nat} (hs : s < M.rows.length) : ∃ p, ra[s]? = some p ∧ (ra.map V.ref)[s]? = some (.ref p) ∧ SqT K H p (M.rows[s].map V.int) := by
  have hl : s < ra.length := by rw [h.r.1]; exact hs
  have e := List.getElem?_eq_getElem (l := ra) (i := s) hl
  refine ⟨ra[s], e, by rw [List.getElem?_map, e]; rfl, h.r.2 s _ _ e (List.getElem?_eq_getElem hs)⟩
theorem nxt_get (o : M.Ok) {s b : Nat} (hs : s < M.rows.length) (hb : b < M.k) : (M.rows[s].map V.int)[b]? = some (.int (M.nxt (s : Int) b)) := by
  have hr := o.row _ (List.getElem_mem hs)
  have e := List.getElem?_eq_getElem (l := M.rows[s]) (i := b) (by rw [hr]; exact hb)
  rw [List.getElem?_map, e, nxt_at (List.getElem?_eq_getElem hs) e]
  rfl
theorem fin_get (o : M.Ok) {s : Nat} (hs : s < M.rows.length) : (M.acc.map V.bl)[s]? = some (.bl (M.fin (s : Int))) := by
  have e := List.getElem?_eq_getElem (l := M.acc) (i := s) (by rw [o.acc]; exact hs)
  rw [List.getElem?_map, e, fin_at e]
  rfl
end
/-! ### rules that name the written part (within a comprehension) -/
section
variable {X : Cx}
theorem ixL (K : PySem.W.Frag) (hK : X.K = K := by rfl) : IxR X (rIxL K) := by
  subst hK
  exact ix_list
theorem ixT (K : PySem.W.Frag) (hK : X.K = K := by rfl) : IxR X (rIxT K) := by
  subst hK
  exact ix_tup
abbrev rLenSeq (K : PySem.W.Frag) : List V → Hp → VK → Prop := fun xs H Q => ∃ p ys, xs = [.ref p] ∧ (SqL K H p ys ∨ SqT K H p ys) ∧ Q (.int ys.length) H
theorem lenK (K : PySem.W.Frag) (hK : X.K = K := by rfl) : CallR X (.builtin "len") (rLenSeq K) := by
  subst hK
  exact call_len_seq
end
theorem getE {α : Type} {l : List α} {i : Nat} (h : i < l.length) : ∃ x, l[i]? = some x := ⟨l[i], List.getElem?_eq_getElem h⟩
theorem atT {xs : List V} {i : Int} {j : Nat} {v : V} (e : i = (j : Int)) (h : xs[j]? = some v) : atI xs i = some v := by
  rw [e]
  exact atI_nat h
end Dg
end

section
namespace Dg
open PySem PySem.Spec PyProof.Rows L2
abbrev sFst : Stmt := top 8
abbrev sNxt : Stmt := top 9
abbrev sAcc : Stmt := top 10
abbrev sChk : Stmt := top 11
theorem scFst : FnScope ["machine"] ["machine"] (defScope sFst) := ⟨rfl, rfl, rfl, by decide +kernel, rfl, by decide +kernel, by decide +kernel⟩
theorem scNxt : FnScope ["machine", "state", "letter"] ["machine", "state", "letter"] (defScope sNxt) := ⟨rfl, rfl, rfl, by decide +kernel, rfl, by decide +kernel, by decide +kernel⟩
theorem scAcc : FnScope ["machine", "state"] ["machine", "state"] (defScope sAcc) := ⟨rfl, rfl, rfl, by decide +kernel, rfl, by decide +kernel, by decide +kernel⟩
theorem scChk : FnScope ["first", "second"] ["first", "second"] (defScope sChk) := ⟨rfl, rfl, rfl, by decide +kernel, rfl, by decide +kernel, by decide +kernel⟩
def spFst (K : PySem.W.Frag) : Sp := fun vs H Q _ => ∃ (a : Addr) (M : Mach), vs = [.ref a] ∧ MachAt K H a M ∧ Q (.int M.init) H
def spNxt (K : PySem.W.Frag) : Sp := fun vs H Q _ => ∃ (a : Addr) (M : Mach) (s : Int) (b : Nat), vs = [.ref a, .int s, .int (b : Int)] ∧ MachAt K H a M ∧ M.Ok ∧ s < (M.rows.length : Int) ∧ b < M.k ∧ Q (.int (M.nxt s b)) H
def spAcc (K : PySem.W.Frag) : Sp := fun vs H Q _ => ∃ (a : Addr) (M : Mach) (s : Int), vs = [.ref a, .int s] ∧ MachAt K H a M ∧ M.Ok ∧ s < (M.rows.length : Int) ∧ Q (.bl (M.fin s)) H
def spChk (K : PySem.W.Frag) : Sp := fun vs H Q _ => ∃ (a a' : Addr) (M N : Mach), vs = [.ref a, .ref a'] ∧ MachAt K H a M ∧ MachAt K H a' N ∧ M.k = N.k ∧ Q .non H
section
variable {P : Program} {w : World} {K : PySem.W.Frag} {mg : Str → Option Value} {base : Heap} {f : Addr} {fd : FuncData}
theorem ok_fst (F : Fun K "first_state" "first_state" sFst f fd) (ml : mg "len" = none) : FnOk P w K mg base CX0 1 f fd ["machine"] (spFst K) := by
  refine F.ok scFst (fun vs H Q E h => ?_) (fun cdv A outer s H vs Q E hr h => ?_)
  · obtain ⟨a, M, rfl, _⟩ := h
    rfl
  · obtain ⟨a, M, rfl, ⟨b, c, ra, h⟩, q⟩ := h
    refine ⟨_, pss_one (ps_ret (pe_ifExp (pt_cmpR op_gt (pe_callB call_len_seq (by rfl) ml PySem.boot_len (pa_cons (pe_ix ix_tup (pv 0) pe_int (fun _ _ => rfl)) pa_nil)) pe_int (nomark _)) pe_int (pe_un un_neg pe_int))), ?_⟩
    refine ⟨_, rfl, a, _, 1, .ref b, rfl, rfl, h.t, rfl, b, _, rfl, .inr h.b, _, _, rfl, rfl, _, rfl, ?_⟩
    have hl : (ra.map V.ref).length = M.rows.length := by rw [List.length_map]; exact h.r.1
    refine ite2 (fun e => ?_) (fun e => ?_)
    · have e1 := of_decide_eq_true e
      have : M.init = 0 := if_pos (by omega)
      rw [← this]
      exact q
    · have e1 : ¬ (0 : Int) < (((ra.map V.ref).length : Nat) : Int) := fun z => e (decide_eq_true z)
      have : M.init = -1 := if_neg (by omega)
      rw [this] at q
      exact ⟨_, rfl, q⟩
theorem nxt_read {X : Cx} {H : Hp} {a : Addr} {M : Mach} (hK : X.K = K) : True := trivial
theorem ok_nxt (F : Fun K "next_state" "next_state" sNxt f fd) : FnOk P w K mg base CX0 1 f fd ["machine", "state", "letter"] (spNxt K) := by
  refine F.ok scNxt (fun vs H Q E h => ?_) (fun cdv A outer s H vs Q E hr h => ?_)
  · obtain ⟨a, M, s, b, rfl, _⟩ := h
    rfl
  · obtain ⟨a, M, st, l, rfl, ⟨b, c, ra, h⟩, o, hs, hl, q⟩ := h
    refine ⟨_, pss_one (ps_ret (pe_ifExp (pt_cmpR op_lt (pv 1) pe_int (nomark _)) (pe_un un_neg pe_int)
      (pe_ix ix_tup (pe_ix ix_tup (pe_ix ix_tup (pv 0) pe_int (fun _ _ => rfl)) (pv 1) (fun _ _ => rfl)) (pv 2) (fun _ _ => rfl)))), ?_⟩
    refine ⟨_, rfl, _, _, rfl, rfl, _, rfl, ite2 (fun e => ?_) (fun e => ?_)⟩
    · have e1 := of_decide_eq_true e
      rw [nxt_neg e1] at q
      exact ⟨_, rfl, q⟩
    · have e1 : ¬ st < 0 := fun z => e (decide_eq_true z)
      have es : st = ((st.toNat : Nat) : Int) := by omega
      generalize st.toNat = t at es
      subst es
      have ht : t < M.rows.length := by omega
      obtain ⟨p, _, h2, h3⟩ := h.row ht
      exact ⟨_, rfl, a, _, 1, .ref b, rfl, rfl, h.t, rfl, _, rfl, b, _, _, .ref p, rfl, rfl, h.b, atT rfl h2, _, rfl, p, _, _, _, rfl, rfl, h3, atT rfl (nxt_get o ht hl), q⟩
theorem ok_acc (F : Fun K "is_accepting" "is_accepting" sAcc f fd) : FnOk P w K mg base CX0 1 f fd ["machine", "state"] (spAcc K) := by
  refine F.ok scAcc (fun vs H Q E h => ?_) (fun cdv A outer s H vs Q E hr h => ?_)
  · obtain ⟨a, M, s, rfl, _⟩ := h
    rfl
  · obtain ⟨a, M, st, rfl, ⟨b, c, ra, h⟩, o, hs, q⟩ := h
    refine ⟨_, pss_one (ps_ret (pe_and (pe_cmpR op_ge (pv 1) pe_int (nomark _)) (pe_one (pe_ix ix_tup (pe_ix ix_tup (pv 0) pe_int (fun _ _ => rfl)) (pv 1) (fun _ _ => rfl))))), ?_⟩
    refine ⟨_, rfl, _, _, rfl, rfl, _, rfl, ite2 (fun e => ?_) (fun e => ?_)⟩
    · have e1 := of_decide_eq_true e
      have es : st = ((st.toNat : Nat) : Int) := by omega
      generalize st.toNat = t at es
      subst es
      have ht : t < M.rows.length := by omega
      exact ⟨_, rfl, a, _, 2, .ref c, rfl, rfl, h.t, rfl, _, rfl, c, _, _, _, rfl, rfl, h.c, atT rfl (fin_get o ht), q⟩
    · have e1 : ¬ (0 : Int) ≤ st := fun z => e (decide_eq_true z)
      rw [fin_neg (by omega)] at q
      exact q
theorem ok_chk (F : Fun K "check_letters" "check_letters" sChk f fd) : FnOk P w K mg base CX0 1 f fd ["first", "second"] (spChk K) := by
  refine F.ok scChk (fun vs H Q E h => ?_) (fun cdv A outer s H vs Q E hr h => ?_)
  · obtain ⟨a, a', M, N, rfl, _⟩ := h
    rfl
  · obtain ⟨a, a', M, N, rfl, ⟨b, c, ra, h⟩, ⟨b', c', ra', h'⟩, hk, q⟩ := h
    refine ⟨_, pss_one (ps_if (pt_cmpR op_ne (pe_ix ix_tup (pv 0) pe_int (fun _ _ => rfl)) (pe_ix ix_tup (pv 1) pe_int (fun _ _ => rfl)) (nomark _)) (pss_one ps_never) pss_nil), ?_⟩
    exact ⟨_, rfl, a, _, 0, _, rfl, rfl, h.t, rfl, _, rfl, a', _, 0, _, rfl, rfl, h'.t, rfl, rfl, _, rfl, iteNS (by rw [hk]) q⟩
end
/-! ### the law's own -/
abbrev sLNx : Stmt := top 38
abbrev sLEn : Stmt := top 39
abbrev sLFi : Stmt := top 40
theorem scLNx : FnScope ["_law_machine_here", "_law_state", "_law_letter"] ["_law_machine_here", "_law_state", "_law_letter"] (defScope sLNx) := ⟨rfl, rfl, rfl, by decide +kernel, rfl, by decide +kernel, by decide +kernel⟩
theorem scLEn : FnScope ["_law_machine_here", "_law_state"] ["_law_machine_here", "_law_state"] (defScope sLEn) := ⟨rfl, rfl, rfl, by decide +kernel, rfl, by decide +kernel, by decide +kernel⟩
theorem scLFi : FnScope ["_law_machine_here"] ["_law_machine_here"] (defScope sLFi) := ⟨rfl, rfl, rfl, by decide +kernel, rfl, by decide +kernel, by decide +kernel⟩
def spFstS (K : PySem.W.Frag) : Sp := fun vs H Q _ => ∃ (a : Addr) (M : Mach), vs = [.ref a] ∧ MachAt K H a M ∧ ∀ H', Same H H' → Q (.int M.init) H'
section
variable {P : Program} {w : World} {K : PySem.W.Frag} {mg : Str → Option Value} {base : Heap} {f : Addr} {fd : FuncData}
theorem ok_lnx (F : Fun K "_law_next" "_law_next" sLNx f fd) : FnOk P w K mg base CX0 1 f fd ["_law_machine_here", "_law_state", "_law_letter"] (spNxt K) := by
  refine F.ok scLNx (fun vs H Q E h => ?_) (fun cdv A outer s H vs Q E hr h => ?_)
  · obtain ⟨a, M, s, b, rfl, _⟩ := h
    rfl
  · obtain ⟨a, M, st, l, rfl, ⟨b, c, ra, h⟩, o, hs, hl, q⟩ := h
    refine ⟨_, pss_cons (ps_if (pt_cmpR op_lt (pv 1) pe_int (nomark _)) (pss_one (ps_ret (pe_un un_neg pe_int))) pss_nil)
      (pss_one (ps_ret (pe_ix ix_tup (pe_ix ix_tup (pe_ix ix_tup (pv 0) pe_int (fun _ _ => rfl)) (pv 1) (fun _ _ => rfl)) (pv 2) (fun _ _ => rfl)))), ?_⟩
    refine ⟨_, rfl, _, _, rfl, rfl, _, rfl, ite2 (fun e => ?_) (fun e => ?_)⟩
    · have e1 := of_decide_eq_true e
      rw [nxt_neg e1] at q
      exact ⟨_, rfl, q⟩
    · have e1 : ¬ st < 0 := fun z => e (decide_eq_true z)
      have es : st = ((st.toNat : Nat) : Int) := by omega
      generalize st.toNat = t at es
      subst es
      have ht : t < M.rows.length := by omega
      obtain ⟨p, _, h2, h3⟩ := h.row ht
      exact ⟨_, rfl, a, _, 1, .ref b, rfl, rfl, h.t, rfl, _, rfl, b, _, _, .ref p, rfl, rfl, h.b, atT rfl h2, _, rfl, p, _, _, _, rfl, rfl, h3, atT rfl (nxt_get o ht hl), q⟩
theorem ok_len (F : Fun K "_law_ends" "_law_ends" sLEn f fd) : FnOk P w K mg base CX0 1 f fd ["_law_machine_here", "_law_state"] (spAcc K) := by
  refine F.ok scLEn (fun vs H Q E h => ?_) (fun cdv A outer s H vs Q E hr h => ?_)
  · obtain ⟨a, M, s, rfl, _⟩ := h
    rfl
  · obtain ⟨a, M, st, rfl, ⟨b, c, ra, h⟩, o, hs, q⟩ := h
    refine ⟨_, pss_one (ps_ret (pe_and (pe_cmpR op_ge (pv 1) pe_int (nomark _)) (pe_one (pe_ix ix_tup (pe_ix ix_tup (pv 0) pe_int (fun _ _ => rfl)) (pv 1) (fun _ _ => rfl))))), ?_⟩
    refine ⟨_, rfl, _, _, rfl, rfl, _, rfl, ite2 (fun e => ?_) (fun e => ?_)⟩
    · have e1 := of_decide_eq_true e
      have es : st = ((st.toNat : Nat) : Int) := by omega
      generalize st.toNat = t at es
      subst es
      have ht : t < M.rows.length := by omega
      exact ⟨_, rfl, a, _, 2, .ref c, rfl, rfl, h.t, rfl, _, rfl, c, _, _, _, rfl, rfl, h.c, atT rfl (fin_get o ht), q⟩
    · have e1 : ¬ (0 : Int) ≤ st := fun z => e (decide_eq_true z)
      rw [fin_neg (by omega)] at q
      exact q
theorem ok_lfi (F : Fun K "_law_first" "_law_first" sLFi f fd) (ml : mg "len" = none) (mi : mg "int" = none) : FnOk P w K mg base CX0 1 f fd ["_law_machine_here"] (spFstS K) := by
  refine F.ok scLFi (fun vs H Q E h => ?_) (fun cdv A outer s H vs Q E hr h => ?_)
  · obtain ⟨a, M, rfl, _⟩ := h
    rfl
  · obtain ⟨a, M, rfl, ⟨b, c, ra, h⟩, q⟩ := h
    refine ⟨_, pss_one (ps_ret (pe_ix ix_list (pe_lst (pa_cons (pe_un un_neg pe_int) (pa_cons pe_int pa_nil))) (pe_callTy call_int1 (by rfl) mi (by decide +kernel) (pa_cons (pe_cmpR op_gt (pe_callB call_len_seq (by rfl) ml PySem.boot_len (pa_cons (pe_ix ix_tup (pv 0) pe_int (fun _ _ => rfl)) pa_nil)) pe_int (nomark _)) pa_nil)) (fun _ _ => rfl))), ?_⟩
    refine ⟨_, rfl, by show 2 ≤ sizeLine; decide, fun p np => ?_⟩
    have s1 := same_upd (o := .lst [V.int (-1), V.int 0]) np
    have h1 := h.same s1
    have hl : (ra.map V.ref).length = M.rows.length := by rw [List.length_map]; exact h.r.1
    refine ⟨_, rfl, a, _, 1, .ref b, rfl, rfl, h1.t, rfl, b, _, rfl, .inr h1.b, _, _, rfl, rfl, .inr ⟨_, rfl, p, _, _, _, rfl, rfl, SqL.of upd_same, ?_, q _ s1⟩⟩
    show atI [V.int (-1), V.int 0] (if decide (0 < (((ra.map V.ref).length : Nat) : Int)) = true then 1 else 0) = some (V.int M.init)
    by_cases e : 0 < M.rows.length
    · rw [if_pos (decide_eq_true (by omega)), show M.init = 0 from if_pos e]
      rfl
    · rw [if_neg (fun z => e (by have := of_decide_eq_true z; omega)), show M.init = -1 from if_neg e]
      rfl
end
end Dg
end

section
set_option maxHeartbeats 4000000
/-! for i, x in enumerate(a tuple) -/
namespace Dg
open PySem PySem.Spec PyProof.Rows L2
theorem meets_enum_one {v : Value} {o : Obj} {H : Heap → Prop} (B : Begins v o H) :
    Meets (Builtin.«enumerate.__new__» ⟨[.type "enumerate", v], []⟩) (fun _ R s => H s.heap ∧
      R (.ok (.ret (.ref (s.heap.push o).objs.size))) { s with heap := (s.heap.push o).push { cls := .type "enumerate", data := .fields #[.none, .bool false, .ref s.heap.objs.size, rawInt 0, .none, .none] } }) :=
  .of_wp fun prog w A R s h => by
    obtain ⟨hp, g, d, tk, os⟩ := s; obtain ⟨h1, h⟩ := h
    have hsub := sub_enumerate
    have q1 : ∀ {A' : Around} {E : Value → Shared → Prop} {Q : Value → Shared → Prop}, Q (.ref hp.objs.size) ⟨hp.push o, g, d, tk, os⟩ → wpAny (model prog w) A' (pyIter v) Q E ⟨hp, g, d, tk, os⟩ :=
      fun q => B.iter prog w _ _ ⟨hp, g, d, tk, os⟩ _ h1 q
    wp_walk using q1
    refine wpAny_stack_any fun st => wpAny_pure ?_
    split
    · rename_i c _ _ _ _ _
      cases (c == Value.type "enumerate")
      · wp_walk using q1
        exact ⟨_, rfl, h⟩
      · wp_walk using q1
        exact ⟨_, rfl, h⟩
    · wp_walk using q1
      exact ⟨_, rfl, h⟩
theorem call_enum_one {prog : Program} {w : World} {A : Around} {E : Value → Shared → Prop} {s : Shared} {v : Value} {o : Obj} {H : Heap → Prop} {Q : Value → Shared → Prop} (B : Begins v o H) (h1 : H s.heap)
    (h : ∀ h', IsEnum h' (s.heap.objs.size + 1) s.heap.objs.size 0 .none → h'.get? s.heap.objs.size = some o → h'.objs.size = s.heap.objs.size + 2 →
      (∀ b o, s.heap.get? b = some o → h'.get? b = some o) → Q (.ref (s.heap.objs.size + 1)) { s with heap := h' }) :
    wpAny (model prog w) A (call (.type "enumerate") [v]) Q E s := by
  refine callType_new F.called_enumerate (by decide) (F.typeCall_enumerate_1 _) (F.newCall_enumerate_1 _) (fun obj => F.args_object_init_2 obj _) F.entry_enumerate_new
    (meets_enum_one B) ⟨h1, ?_⟩
  have hz : (s.heap.push o).objs.size = s.heap.objs.size + 1 := Heap.size_push ..
  show _ ∧ _
  rw [hz]
  have he : IsEnum ((s.heap.push o).push { cls := .type "enumerate", data := .fields #[.none, .bool false, .ref s.heap.objs.size, rawInt 0, .none, .none] }) (s.heap.objs.size + 1) s.heap.objs.size 0 .none := by
    have := Heap.get?_push_size (s.heap.push o) (o := { cls := .type "enumerate", data := .fields #[.none, .bool false, .ref s.heap.objs.size, rawInt 0, .none, .none] }) rfl
    rw [hz] at this; exact this
  refine ⟨⟨_, he, rfl⟩, h _ he (Heap.get?_push_of_some _ (Heap.get?_push_size _ B.free)) (by rw [Heap.size_push, hz]) fun b o x => Heap.get?_push_of_some _ (Heap.get?_push_of_some _ x)⟩
/-- the tuple at a, each item in a new pair -/
def Itet (K : PySem.W.Frag) (a : Addr) : It :=
  ⟨fun i H => ∃ (xs : List V) (x : V), SqT K H a xs ∧ xs[i]? = some x, fun i H v H' => ∃ T x, v = .ref T ∧ H T = none ∧ H' = upd H T (.tup [.int (i : Nat), x]) ∧ ∀ xs, SqT K H a xs → xs[i]? = some x, fun i H => ∃ xs : List V, SqT K H a xs ∧ xs.length ≤ i⟩
theorem turn_enumT {P : Program} {w : World} {K : PySem.W.Frag} {elts : List Expr} {kk : Nat} {tpos : Pos} (a e it : Addr) :
    Turn P w K (.Tuple elts kk tpos) (Itet K a) [e, it] e (fun i h => (∃ old, IsEnum h e it ((i : Nat) : Int) old) ∧ h.IsTupleIter it a i ∧ e ≠ it) where
  mem := by simp
  obj := fun i h st b hb => by
    obtain ⟨⟨old, he⟩, ⟨o, ho, hc, hd⟩, _⟩ := st
    have e' : b = e ∨ b = it := by simpa using hb
    rcases e' with z | z
    · rw [z]; exact ⟨_, he, fun v q => nomatch q⟩
    · rw [z]; exact ⟨o, ho, fun v q => by rw [hd] at q; cases q⟩
  keep := fun i h h' st k => let ⟨⟨old, he⟩, hi, hne⟩ := st; ⟨⟨old, k e (by simp) _ he⟩, hi.at fun o q => k it (by simp) o q, hne⟩
  item := by
    intro X hP hw hK hc i pins s σ H E I hf st hg
    subst hP hw hK
    obtain ⟨⟨old, he⟩, hit, hne⟩ := st
    obtain ⟨xs, x, hq, hx⟩ := hg
    obtain ⟨its, rv, p, hz⟩ := I.tuple hq
    obtain ⟨u, hu, ru⟩ := rv.get hx
    have hel : e < s.heap.objs.size := Heap.lt_size he
    have hil : it < s.heap.objs.size := by obtain ⟨_, q, _⟩ := hit; exact Heap.lt_size q
    have hai : a ≠ it := fun z => by
      obtain ⟨o1, h1, h2, _⟩ := p
      obtain ⟨o2, h3, h4, _⟩ := hit
      rw [z, h3] at h1
      cases h1
      rw [h4] at h2
      injection h2 with h2
      exact absurd h2 (by decide)
    have hae : a ≠ e := fun z => by
      obtain ⟨o1, h1, h2, _⟩ := p
      rw [z, show s.heap.get? e = some _ from he] at h1
      cases h1
      injection h2 with h2
      exact absurd h2 (by decide)
    have hlt : i < its.toArray.size := by
      have := (List.getElem?_eq_some_iff.mp hu).1
      simpa using this
    refine wpAny_pyNext_enum_itemD (Draws.tuple (prog := X.prog) (w := X.w) (A := X.A.in1) (show X.A.in1.handled = none from I.ok.hd hc) it a hai its.toArray) he ⟨hit, p⟩ hlt hne (fun z => by
        rcases List.mem_cons.mp z with z | z
        · exact hne z
        · exact hae (List.mem_singleton.mp z).symm) fun y h' tk hP ho hit' hT hsz hk => ?_
    have ey : y = u := by
      have h1 : its.toArray[i]? = some y := hP
      have h2 : its.toArray[i]? = some u := by simpa using hu
      rw [h1] at h2
      exact Option.some.inj h2
    subst ey
    refine ⟨_, rfl, wpAny_letOwnedTupleGo_enum (s := { s with heap := h', toks := tk + 1 }) ho fun h'' he' sb => ?_⟩
    have hT2 : h''.get? s.heap.objs.size = some { cls := .type "tuple", data := .seq #[.int i tk, y] } := (sb.2 _ (Nat.ne_of_gt hel)).trans hT
    have new : ObjOk X.prog X.w (upd H s.heap.objs.size (.tup [.int (i : Nat), x])) h'' s.heap.objs.size (.tup [.int (i : Nat), x]) :=
      ⟨by show 2 ≤ sizeLine; decide, [.int i tk, y], .cons ⟨_, rfl⟩ (.cons ru .nil), ⟨_, hT2, rfl, _, rfl⟩⟩
    have I1 : Inv X pins σ (upd H s.heap.objs.size (.tup [.int (i : Nat), x])) { s with heap := h'', toks := tk + 1 } :=
      I.turnedNew (ch := [e, it]) (fun b ob hb q => (sb.2 b (fun z => hb (by simp [z]))).trans (hk b ob (fun z => hb (by simp [z])) (fun z => hb (by simp [z])) q)) hf (Nat.le_refl _) new
    refine ⟨.ref s.heap.objs.size, _, I1, rfl, ⟨_, x, rfl, I.hok.fresh (Nat.le_refl _), rfl, fun ys hy => by rw [I.tuple_inj hy hq]; exact hx⟩, ⟨⟨y, ?_⟩, hit'.1.at fun o q => (sb.2 it (Ne.symm hne)).trans q, hne⟩, fun b hb => ?_⟩
    · have e1 : ((i + 1 : Nat) : Int) = (i : Int) + 1 := by omega
      rw [e1]; exact he'
    · have hb' : b < s.heap.objs.size := by
        have e' : b = e ∨ b = it := by simpa using hb
        rcases e' with z | z
        · rw [z]; exact hel
        · rw [z]; exact hil
      rw [upd_ne (Nat.ne_of_lt hb')]
      exact (hf b hb).1
  done := by
    intro X hP hw hK hc i pins s σ H E I hf st hg
    subst hP hw hK
    obtain ⟨⟨old, he⟩, hit, hne⟩ := st
    obtain ⟨xs, hq, hx⟩ := hg
    obtain ⟨its, rv, p, hz⟩ := I.tuple hq
    obtain ⟨f0, f1, f2, f3, f4, f5⟩ := hf it (by simp)
    have hl := rv.length
    have hn : its.toArray[i]? = none := by
      have : its.length ≤ i := by omega
      simpa using this
    have hT : s.TypeIs (.ref e) "enumerate" := ⟨_, he, rfl⟩
    unfold pyNext
    refine wpAny_bind (wpAny_attempt (wpAny_callSpecial?_slot (name := Str.ofString "__next__") hT F.slot_enumerate_next
      (wpAny_call_entry F.slot_enumerate_next hT F.entry_enumerate_next ?_ (F.args_enumerate_next_1 _))))
    show wpAny _ _ (field (.ref e) 2 >>= _) _ _ _
    refine wpAny_bind (wpAny_field he rfl (x := .ref it) rfl ?_)
    refine wpAny_bind (wpAny_nextOf_tuple_end (I.ok.hd hc) hit p hn fun h' x he' hx' => ?_)
    obtain ⟨o, ho, hc'⟩ := hx'
    refine wpAny_bind (wpAny_isInstance (T := "StopIteration") (b := true) ⟨o, ho, hc'⟩ isSubtype_stop ?_)
    exact wpAny_pure ⟨rfl, I.turned (t' := s.toks) (fun b o hb q => he' b o hb q) f0 f1 f3 f4 f5⟩
  self := fun A i s Q E st h => let ⟨⟨_, he⟩, _⟩ := st; wpAny_pyIter_enum he h
def iEnumT (K : PySem.W.Frag) (ta : TA) : TI := fun σ H R => ta σ H fun vs H1 => ∃ a xs, vs = [.ref a] ∧ SqT K H1 a xs ∧ R (Itet K a) H1
theorem pi_enumT {X : Cx} {e : Expr} {ta : TA} {p pos tpos : Pos} {elts : List Expr} {kk : Nat} (hg : Gl X "enumerate") (hm : X.mg "enumerate" = none) (ha : PA X [e] ta) (hs : starEach [e] X.env = [(false, eval e X.env)] := by rfl) :
    PI X (.Tuple elts kk tpos) (.Call (.Name "enumerate" p) [e] [] pos) (iEnumT X.K ta) := by
  refine ⟨fun pins s σ H R I h => ?_⟩
  refine Call_ (ld_blt I hg hm boot_enumerate (PyProof.Rows.callWith_type1 (thn (ha.run pos pins s σ H _ I h) fun us s1 ⟨vs, H1, I1, r1, q1⟩ => ?_) hs rfl))
  obtain ⟨a, xs, ex, hq, q⟩ := q1
  subst ex
  cases r1 with
  | cons r rr =>
    cases rr
    cases r
    obtain ⟨its, rv, p', hz⟩ := I1.tuple hq
    refine call_enum_one (begins_tuple a its.toArray) p' fun h' he hit hsz hk => wpAny_pyIter_enum he ?_
    have I2 : Inv X pins σ H1 { s1 with heap := h' } := I1.kept (t' := s1.toks) hk
    refine ⟨s1.heap.objs.size + 1, [s1.heap.objs.size + 1, s1.heap.objs.size], _, _, H1, rfl, I2, turn_enumT a (s1.heap.objs.size + 1) s1.heap.objs.size, ⟨⟨.none, he⟩, ⟨_, hit, rfl, rfl⟩, Nat.succ_ne_self _⟩, fun b hb => ?_, q⟩
    have e' : b = s1.heap.objs.size + 1 ∨ b = s1.heap.objs.size := by simpa using hb
    have hle : s1.heap.objs.size ≤ b := by
      rcases e' with z | z
      · rw [z]; exact Nat.le_add_right _ _
      · rw [z]; exact Nat.le_refl _
    exact I1.fpOk hle (I1.hok.fresh hle)
theorem walk_enumT {K : PySem.W.Frag} {a : Addr} {xs : List V} : Walk (Itet K a) xs.length (fun H => SqT K H a xs) (YPair (fun i => some (.int (i : Nat))) (fun i => xs[i]?)) := by
  refine ⟨fun i _ hi q => ⟨xs, xs[i], q, by simp [hi]⟩, fun _ q => ⟨xs, q, Nat.le_refl _⟩, fun i H v H' _ q y => ?_⟩
  obtain ⟨T, x, h1, h2, h3, h4⟩ := y
  exact ⟨T, .int (i : Nat), x, h1, h2, h3, rfl, h4 xs q⟩
end Dg
end

section
set_option maxHeartbeats 4000000
namespace Dg
open PySem PySem.Spec PyProof.Rows L2
abbrev natV (l : List Nat) : List V := l.map fun n : Nat => V.int (n : Int)
abbrev sUse : Stmt := top 18
abbrev nUse : List Str := ["machine", "sources", "state", "row", "target", "useful", "ready", "source", "_"]
theorem scUse : FnScope nUse ["machine"] (defScope sUse) := ⟨rfl, rfl, rfl, by decide +kernel, rfl, by decide +kernel, by decide +kernel⟩
def spUse (K : PySem.W.Frag) : Sp := fun vs H Q _ => ∃ (a : Addr) (M : Mach), vs = [.ref a] ∧ MachAt K H a M ∧ M.Sm ∧
  ∀ H' p us, Same H H' → H p = none → H' p = some (.lst (us.map V.bl)) → UsefulOk M us → Q (.ref p) H'
/-- the lists of the sources -/
structure SrcAt (H0 H : Hp) (S : Addr) (As : List Addr) (src : List (List Nat)) : Prop where
  same : Same H0 H
  s0 : H0 S = none
  s : H S = some (.lst (As.map V.ref))
  len : As.length = src.length
  nd : As.Nodup
  at_ : ∀ (i : Nat) (A : Addr) (l : List Nat), As[i]? = some A → src[i]? = some l → H0 A = none ∧ A ≠ S ∧ H A = some (.lst (natV l))
theorem SrcAt.other {H0 H : Hp} {S p : Addr} {As : List Addr} {src : List (List Nat)} {o : HO} (h : SrcAt H0 H S As src) (h0 : H0 p = none) (hS : p ≠ S) (hA : p ∉ As) : SrcAt H0 (upd H p o) S As src where
  same := same_in h0 h.same
  s0 := h.s0
  s := by rw [upd_ne (Ne.symm hS)]; exact h.s
  len := h.len
  nd := h.nd
  at_ := fun i A l e1 e2 => by
    obtain ⟨z1, z2, z3⟩ := h.at_ i A l e1 e2
    exact ⟨z1, z2, by rw [upd_ne (fun q => hA (by rw [← q]; exact List.mem_of_getElem? e1))]; exact z3⟩
theorem SrcAt.notin {H0 H : Hp} {S p : Addr} {As : List Addr} {src : List (List Nat)} (h : SrcAt H0 H S As src) (hp : H p = none) : p ≠ S ∧ p ∉ As := by
  refine ⟨fun z => ?_, fun z => ?_⟩
  · rw [z, h.s] at hp
    cases hp
  · obtain ⟨i, hi⟩ := List.mem_iff_getElem?.mp z
    have l := (List.getElem?_eq_some_iff.mp hi).1
    obtain ⟨_, _, q⟩ := h.at_ i p _ hi (List.getElem?_eq_getElem (by rw [← h.len]; exact l))
    rw [hp] at q
    cases q
theorem SrcAt.new {H0 H : Hp} {S p : Addr} {As : List Addr} {src : List (List Nat)} {o : HO} (h : SrcAt H0 H S As src) (hp : H p = none) : SrcAt H0 (upd H p o) S As src :=
  h.other (h.same.free hp) (h.notin hp).1 (h.notin hp).2
theorem SrcAt.add {H0 H : Hp} {S A : Addr} {As : List Addr} {src : List (List Nat)} {i s : Nat} {l : List Nat} (h : SrcAt H0 H S As src) (hA : As[i]? = some A) (hl : src[i]? = some l) : SrcAt H0 (upd H A (.lst (natV (l ++ [s])))) S As (src.set i (l ++ [s])) := by
  obtain ⟨z1, z2, z3⟩ := h.at_ i A l hA hl
  refine ⟨same_in z1 h.same, h.s0, by rw [upd_ne (Ne.symm z2)]; exact h.s, by rw [List.length_set]; exact h.len, h.nd, fun j B l' e1 e2 => ?_⟩
  by_cases q : i = j
  · subst q
    rw [hA] at e1
    cases e1
    rw [List.getElem?_set_self (List.getElem?_eq_some_iff.mp hl).1] at e2
    cases e2
    exact ⟨z1, z2, upd_same⟩
  · rw [List.getElem?_set_ne q] at e2
    obtain ⟨y1, y2, y3⟩ := h.at_ j B l' e1 e2
    refine ⟨y1, y2, ?_⟩
    rw [upd_ne (fun z => q (nodup_inj h.nd hA (by rw [← z]; exact e1)))]
    exact y3
theorem filt_mem {us : List Bool} {n : Nat} : ∀ s : Nat, s ∈ (List.range n).filter (fun s => us.getD s false) ↔ s < n ∧ us[s]? = some true := fun s => by
  rw [List.mem_filter, List.mem_range, List.getD_eq_getElem?_getD]
  cases us[s]? with
  | none => simp
  | some b => cases b <;> simp
section
variable {P : Program} {w : World} {K : PySem.W.Frag} {mg : Str → Option Value} {base : Heap} {f : Addr} {fd : FuncData}
theorem ok_use (F : Fun K "useful_states" "useful_states" sUse f fd) (me : mg "enumerate" = none) (mli : mg "list" = none) (mr : mg "range" = none) (ml : mg "len" = none) : FnOk P w K mg base CX0 1 f fd ["machine"] (spUse K) := by
  refine F.ok scUse (fun vs H Q E h => ?_) (fun cdv A outer s H vs Q E hr h => ?_)
  · obtain ⟨a, M, rfl, _⟩ := h
    rfl
  · obtain ⟨a, M, rfl, hMA, sm, q⟩ := h
    have o := sm.ok
    have hn := sm.n
    obtain ⟨b, c, ra, h⟩ := hMA
    refine ⟨_, pss_cons (ps_setLc (i := 1) (own := [("_", 8)]) (g := gName 8) rfl scUse.nd rfl rfl (sw_true rfl rfl rfl (by decide +kernel)) (pi_tup (pe_ix ix_tup (pv 0) pe_int (fun _ _ => rfl))) (blkOk_by (N := nUse) (sc := defScope sUse) (by decide +kernel))
        (fun _ _ _ _ _ => pg_name (i := 8) scUse.nd rfl (Or.inl rfl)) (fun _ _ _ _ _ => pts_nil) (fun _ _ _ _ _ => pe_lst pa_nil))
      (pss_cons (ps_for PassesOwn.never rfl (pi_enumT (by rfl) me (pa_cons (pe_ix ix_tup (pv 0) pe_int (fun _ _ => rfl)) pa_nil))
          (pg_tup rfl (pgs_cons (pg_name (i := 2) scUse.nd rfl (Or.inl rfl)) (pgs_cons (pg_name (i := 3) scUse.nd rfl (Or.inl rfl)) pgs_nil)))
          (pss_one (ps_for PassesOwn.never rfl (pi_tup (pv 3)) (pg_name (i := 4) scUse.nd rfl (Or.inl rfl))
            (pss_one (ps_if (pt_cmpR op_ge (pv 4) pe_int (nomark _))
              (pss_one (ps_expr (pe_bm PySem.F.plainAttrs_list PySem.F.slot_list_append PySem.F.type_list_append mt_append (pe_ix ix_list (pv 1) (pv 4) (fun _ _ => rfl)) (pa_cons (pv 2) pa_nil)))) pss_nil)))))
      (pss_cons (ps_set (i := 5) scUse.nd rfl (Or.inr rfl) (pe_callTy call_list_of (by rfl) mli (by decide +kernel) (pa_cons (pe_ix ix_tup (pv 0) pe_int (fun _ _ => rfl)) pa_nil)))
      (pss_cons (ps_setLc (i := 6) (own := [("state", 2)]) (g := gName 2) rfl scUse.nd rfl rfl (sw_true rfl rfl rfl (by decide +kernel)) (pi_range1 (by rfl) mr (pa_cons (pe_callB call_len_seq (by rfl) ml PySem.boot_len (pa_cons (pv 5) pa_nil)) pa_nil)) (blkOk_by (N := nUse) (sc := defScope sUse) (by decide +kernel))
        (fun _ _ _ _ _ => pg_name (i := 2) scUse.nd rfl (Or.inl rfl)) (fun _ _ _ _ _ => pts_one (pt_val (pe_ix (ixL K) (pv 5) (pv 2) (fun _ _ => rfl)))) (fun _ _ _ _ _ => pv 2))
      (pss_cons (ps_while PassesOwn.never (pt_cmpR op_gt (pe_callB call_len_seq (by rfl) ml PySem.boot_len (pa_cons (pv 6) pa_nil)) pe_int (nomark _))
          (pss_one (ps_for PassesOwn.never rfl (pi_list (pe_ix ix_list (pv 1) (pe_bm0 PySem.F.plainAttrs_list PySem.F.slot_list_pop PySem.F.type_list_pop mt_pop (pv 6)) (fun _ _ => rfl))) (pg_name (i := 7) scUse.nd rfl (Or.inl rfl))
            (pss_one (ps_if (pt_not (pt_val (pe_ix ix_list (pv 5) (pv 7) (fun _ _ => rfl))))
              (pss_cons (ps_asg pe_bl (pg_sub (pv 5) (pv 7) set_list)) (pss_one (ps_expr (pe_bm PySem.F.plainAttrs_list PySem.F.slot_list_append PySem.F.type_list_append mt_append (pv 6) (pa_cons (pv 7) pa_nil))))) pss_nil)))))
      (pss_one (ps_ret (pv 5))))))), ?_⟩
    -- sources = [[] for _ in machine[1]]
    have hl : (ra.map V.ref).length = M.rows.length := by rw [List.length_map]; exact h.r.1
    refine ⟨_, rfl, a, _, 1, .ref b, rfl, rfl, h.t, rfl, b, rfl, ⟨_, h.b⟩, fun S nS => ?_⟩
    have hS0 : Same H (upd H S (.lst [])) := same_upd nS
    refine lc_tup (K := K) (a := b) (xs := ra.map V.ref) (fun i H' => ∃ As : List Addr, As.length = i ∧ SrcAt H H' S As (List.replicate i []))
      ⟨[], rfl, hS0, nS, upd_same, rfl, List.nodup_nil, fun i A l e => absurd e (by simp)⟩ (fun i H' _ ⟨As, _, z⟩ => Same.tup z.same h.b) (fun i x H' hx ⟨As, eA, z⟩ => ?_) (fun H1 ⟨As, eA, z⟩ => ?_)
    · refine ⟨rfl, Nat.zero_le _, fun A nA => ⟨As.map V.ref, ?_, ?_, As ++ [A], by rw [List.length_append, eA]; rfl, ?_⟩⟩
      · rw [upd_ne (ne_of_none z.s nA)]
        exact z.s
      · have := (List.getElem?_eq_some_iff.mp hx).1
        rw [List.length_map, eA]
        exact small1000 (by omega)
      · have nn := z.notin nA
        have e1 : As.map V.ref ++ [V.ref A] = (As ++ [A]).map V.ref := by rw [List.map_append]; rfl
        have e2 : (List.replicate (i + 1) [] : List (List Nat)) = List.replicate i [] ++ [[]] := List.replicate_succ'
        rw [e1]
        refine ⟨same_in z.s0 (same_in (z.same.free nA) z.same), z.s0, upd_same, by rw [List.length_append, eA, List.length_replicate]; rfl, List.nodup_append.mpr ⟨z.nd, by simp, fun x hx y hy e => nn.2 (by rw [← List.mem_singleton.mp hy, ← e]; exact hx)⟩, fun j B l f1 f2 => ?_⟩
        rw [e2] at f2
        by_cases qj : j < As.length
        · rw [List.getElem?_append_left qj] at f1
          rw [List.getElem?_append_left (by rw [List.length_replicate, ← eA]; exact qj)] at f2
          obtain ⟨y1, y2, y3⟩ := z.at_ j B l f1 f2
          refine ⟨y1, y2, ?_⟩
          rw [upd_ne y2, upd_ne (ne_of_none y3 nA)]
          exact y3
        · have l1 := (List.getElem?_eq_some_iff.mp f1).1
          rw [List.length_append, List.length_singleton] at l1
          have ej : j = As.length := by omega
          rw [ej, List.getElem?_append_right (Nat.le_refl _), Nat.sub_self] at f1
          rw [ej, eA, List.getElem?_append_right (by rw [List.length_replicate]; exact Nat.le_refl _), List.length_replicate, Nat.sub_self] at f2
          cases f1
          cases f2
          exact ⟨z.same.free nA, nn.1, by rw [upd_ne nn.1, upd_same]; rfl⟩
    -- for state, row in enumerate(machine[1])
    have hAl : As.length = M.rows.length := eA.trans hl
    have z0 : SrcAt H H1 S As (List.replicate M.rows.length []) := by rw [← hl]; exact z
    have hz := h.same z.same
    refine ⟨_, rfl, a, _, 1, .ref b, rfl, rfl, hz.t, rfl, b, _, rfl, hz.b, ?_⟩
    refine for_it (walk_enumT (K := K) (a := b) (xs := ra.map V.ref)) (fun i σ H' => ∃ src x2 x3 x4, σ = [some (.ref a), some (.ref S), x2, x3, x4, none, none, none, none] ∧ SrcAt H H' S As src ∧ SrcP M src i 0)
      ⟨_, none, none, none, rfl, z0, SrcP.start⟩ (fun i σ H' _ ⟨_, _, _, _, _, y, _⟩ => Same.tup y.same h.b) ?_ ?_
    · rintro i x σ H2 H3 hi ⟨src, x2, x3, x4, rfl, y, hp⟩ ⟨T, v1, v2, rfl, nT, rfl, ev, er⟩
      have ev1 : v1 = V.int (i : Int) := (Option.some.inj ev).symm
      subst ev1
      have hiM : i < M.rows.length := by omega
      obtain ⟨p, _, h2, h3⟩ := h.row hiM
      have er1 : V.ref p = v2 := Option.some.inj (h2.symm.trans er)
      subst er1
      have y1 := y.new (o := .tup [V.int (i : Int), .ref p]) nT
      refine ⟨T, _, rfl, SqT.of upd_same, rfl, _, _, rfl, _, _, rfl, rfl, ?_⟩
      refine ⟨_, rfl, p, rfl, ⟨_, Same.tup y1.same h3⟩, ?_⟩
      have hrl : (M.rows[i].map V.int).length = M.k := by rw [List.length_map]; exact o.row _ (List.getElem_mem hiM)
      refine for_tup (K := K) (a := p) (xs := M.rows[i].map V.int) (fun b' σ H' => ∃ src x4, σ = [some (.ref a), some (.ref S), some (.int (i : Int)), some (.ref p), x4, none, none, none, none] ∧ SrcAt H H' S As src ∧ SrcP M src i b')
        ⟨src, x4, rfl, y1, hp⟩ (fun b' σ H' _ ⟨_, _, _, y', _⟩ => Same.tup y'.same h3) ?_ ?_
      · rintro b' x σ H4 hx ⟨src, x4, rfl, y4, hp4⟩
        have hb : b' < M.k := by
          have := (List.getElem?_eq_some_iff.mp hx).1
          omega
        rw [nxt_get o hiM hb] at hx
        have hx1 := Option.some.inj hx
        subst hx1
        have rg := nxt_rng o (i : Int) b'
        refine ⟨_, rfl, _, _, rfl, rfl, _, rfl, ite2 (fun e => ?_) (fun e => ?_)⟩
        · have e1 : (0 : Int) ≤ M.nxt (i : Int) b' := of_decide_eq_true e
          obtain ⟨t, et⟩ : ∃ t : Nat, M.nxt (i : Int) b' = (t : Int) := ⟨_, (Int.toNat_of_nonneg e1).symm⟩
          rw [et] at rg ⊢
          have ht : t < As.length := by omega
          obtain ⟨At, eAt⟩ := getE (l := As) (i := t) ht
          obtain ⟨lt, esr⟩ := getE (l := src) (i := t) (by rw [← y4.len]; exact ht)
          obtain ⟨w1, w2, w3⟩ := y4.at_ t _ _ eAt esr
          refine ⟨_, rfl, _, rfl, S, _, _, .ref At, rfl, rfl, SqL.of y4.s, atT rfl (by rw [List.getElem?_map, eAt]; rfl), .inl ⟨rfl, _, SqL.of w3⟩, _, rfl, At, _, _, rfl, rfl, w3, ?_, ?_⟩
          · have hle := hp4.small hn sm.k (by omega) (by omega) esr
            rw [List.length_map, sizeLine_eq]
            omega
          · have e2 : natV lt ++ [V.int (i : Int)] = natV (lt ++ [i]) := by rw [natV, natV, List.map_append]; rfl
            rw [e2]
            exact ⟨_, _, rfl, y4.add eAt esr, hp4.add et esr⟩
        · have e1 : ¬ (0 : Int) ≤ M.nxt (i : Int) b' := fun z => e (decide_eq_true z)
          exact ⟨src, _, rfl, y4, hp4.skip (by omega)⟩
      · rintro σ H4 ⟨src, x4, rfl, y4, hp4⟩
        exact ⟨src, _, _, _, rfl, y4, hp4.next o (by omega)⟩
    · rintro σ H2 ⟨src, x2, x3, x4, rfl, y, hp⟩
      rw [hl] at hp
      have hm2 := h.same y.same
      -- useful = list(machine[2])
      refine ⟨_, rfl, a, _, 2, .ref c, rfl, rfl, hm2.t, rfl, c, _, rfl, .inr hm2.c, fun U nU => ?_⟩
      have nU0 := y.same.free nU
      have y1 := y.new (o := .lst (M.acc.map V.bl)) nU
      have nUS := y.notin nU
      -- ready = [..]
      refine ⟨_, rfl, U, _, rfl, .inl (SqL.of upd_same), _, rfl, ?_, ?_, fun R nR => ?_⟩
      · omega
      · rw [List.length_map, o.acc]
        omega
      have eUR : U ≠ R := fun z => by rw [← z, upd_same] at nR; cases nR
      have nR2 : H2 R = none := none_of (same_upd nU) nR
      have nR0 := y.same.free nR2
      have nRS := y.notin nR2
      have accl : (M.acc.map V.bl).length = M.rows.length := by rw [List.length_map, o.acc]
      refine lc_range (lo := 0) (n := ((M.acc.map V.bl).length : Int).toNat) (fun i H' => SrcAt H H' S As src ∧ H' U = some (.lst (M.acc.map V.bl)) ∧ H' R = some (.lst (natV ((List.range i).filter fun s => M.acc.getD s false)))) ⟨?_, ?_, upd_same⟩ ?_ ?_
      · exact y1.other nR0 nRS.1 nRS.2
      · rw [upd_ne eUR, upd_same]
      · rintro i H3 hi ⟨y3, u3, r3⟩
        have hiM : i < M.rows.length := by omega
        have ea := List.getElem?_eq_getElem (l := M.acc) (i := i) (by rw [o.acc]; exact hiM)
        refine ⟨rfl, _, rfl, _, rfl, U, _, _, _, rfl, rfl, SqL.of u3, atT (j := i) (by omega) (by rw [List.getElem?_map, ea]; rfl), _, rfl, ite2 (fun e => ?_) (fun e => ?_)⟩
        · refine ⟨_, rfl, _, r3, ?_, y3.other nR0 nRS.1 nRS.2, by rw [upd_ne eUR]; exact u3, ?_⟩
          · have := List.length_filter_le (fun s => M.acc.getD s false) (List.range i)
            rw [List.length_range] at this
            rw [List.length_map]
            exact small1000 (by omega)
          · rw [upd_same, List.range_succ, List.filter_append, List.filter_cons, List.filter_nil, List.getD_eq_getElem?_getD, ea, Option.getD_some, e, natV, natV, List.map_append]
            have : (0 : Int) + (i : Int) = (i : Int) := by omega
            rw [this]
            rfl
        · refine ⟨y3, u3, ?_⟩
          rw [r3, List.range_succ, List.filter_append, List.filter_cons, List.filter_nil, List.getD_eq_getElem?_getD, ea, Option.getD_some, Bool.eq_false_iff.mpr e]
          simp
      · rintro H3 ⟨y3, u3, r3⟩
        have eN : ((M.acc.map V.bl).length : Int).toNat = M.rows.length := by omega
        rw [eN] at r3
        -- while len(ready) > 0
        refine ⟨fun m σ H' => ∃ us rd x7, σ = [some (.ref a), some (.ref S), x2, x3, x4, some (.ref U), some (.ref R), x7, none] ∧ SrcAt H H' S As src ∧ H' U = some (.lst (us.map V.bl)) ∧ H' R = some (.lst (natV rd)) ∧ UInv M us rd ∧ cntF us + rd.length ≤ m ∧ m ≤ 2000,
          ⟨2000, _, _, none, rfl, y3, u3, r3, UIn.start o (rd := (List.range M.rows.length).filter fun s => M.acc.getD s false) (fun s => ?_), ?_, Nat.le_refl _⟩, fun m σ H4 hW => ?_⟩
        · rw [filt_mem]
          constructor
          · exact fun z => z.2
          · exact fun z => ⟨by rw [← o.acc]; exact (List.getElem?_eq_some_iff.mp z).1, z⟩
        · have h1 := List.count_le_length (a := false) (l := M.acc)
          have h2 := List.length_filter_le (fun s => M.acc.getD s false) (List.range M.rows.length)
          rw [List.length_range] at h2
          rw [o.acc] at h1
          unfold cntF
          omega
        obtain ⟨us, rd, x7, rfl, y4, u4, r4, ui, hm, hm2⟩ := hW
        refine ⟨_, rfl, R, _, rfl, .inl (SqL.of r4), _, _, rfl, rfl, _, rfl, ite2 (fun e => ?_) (fun e => ?_)⟩
        · have e1 := of_decide_eq_true e
          rw [List.length_map] at e1
          have hrl : 0 < rd.length := by omega
          obtain ⟨rd', t, rfl⟩ : ∃ rd' t, rd = rd' ++ [t] := ⟨rd.dropLast, rd.getLast (by intro z; rw [z] at hrl; simp at hrl), (List.dropLast_concat_getLast _).symm⟩
          refine ⟨fun σ' H' => ∃ m', m' < m ∧ ∃ us rd x7, σ' = [some (.ref a), some (.ref S), x2, x3, x4, some (.ref U), some (.ref R), x7, none] ∧ SrcAt H H' S As src ∧ H' U = some (.lst (us.map V.bl)) ∧ H' R = some (.lst (natV rd)) ∧ UInv M us rd ∧ cntF us + rd.length ≤ m' ∧ m' ≤ 2000, fun _ _ z => z, ?_⟩
          have ht := ui.rdy t (by simp)
          have htM : t < M.rows.length := by rw [← ui.len]; exact (List.getElem?_eq_some_iff.mp ht).1
          obtain ⟨At, eAt⟩ := getE (l := As) (i := t) (by omega)
          obtain ⟨lt, esr⟩ := getE (l := src) (i := t) (by rw [← y4.len]; omega)
          have eR : (natV (rd' ++ [t])).dropLast = natV rd' := by rw [natV, List.map_append]; exact List.dropLast_concat
          have eRl : (natV (rd' ++ [t]))[(natV (rd' ++ [t])).length - 1]? = some (V.int (t : Int)) := by
            rw [natV, List.map_append, List.length_append, List.map_singleton, List.length_singleton, Nat.add_sub_cancel, List.getElem?_append_right (Nat.le_refl _), Nat.sub_self]
            rfl
          have y5 := y4.other (o := .lst (natV rd')) nR0 nRS.1 nRS.2
          refine ⟨_, rfl, _, rfl, .inl ⟨rfl, _, SqL.of r4⟩, R, _, _, rfl, rfl, r4, eRl, S, _, _, .ref At, rfl, rfl, SqL.of (by rw [eR]; exact y5.s), atT rfl (by rw [List.getElem?_map, eAt]; rfl), At, rfl, ?_⟩
          rw [eR]
          obtain ⟨w1, w2, w3⟩ := y5.at_ t _ _ eAt esr
          have hs : ∀ s : Nat, s ∈ lt ↔ ∃ a, M.nxt (s : Int) a = (t : Int) := fun s => hp.done o (Nat.le_refl _) esr s
          refine ⟨⟨_, SqL.of w3⟩, ?_⟩
          refine for_list (K := K) (a := At) (xs := natV lt) (fun i σ H' => ∃ us rd x7, σ = [some (.ref a), some (.ref S), x2, x3, x4, some (.ref U), some (.ref R), x7, none] ∧ SrcAt H H' S As src ∧ H' U = some (.lst (us.map V.bl)) ∧ H' R = some (.lst (natV rd)) ∧ UIn M us rd t (lt.drop i) ∧ cntF us + rd.length + 1 ≤ m)
            ⟨us, rd', x7, rfl, y5, ?_, upd_same, ui.pop hs, ?_⟩ (fun i σ H' _ ⟨_, _, _, _, y6, _⟩ => SqL.of (y6.at_ t _ _ eAt esr).2.2) ?_ ?_
          · rw [upd_ne eUR]
            exact u4
          · rw [List.length_append, List.length_singleton] at hm
            omega
          · rintro i x σ H6 hx ⟨us6, rd6, x7, rfl, y6, u6, r6, ui6, hm6⟩
            rw [List.getElem?_map] at hx
            obtain ⟨s, es⟩ : ∃ s : Nat, lt[i]? = some s := by
              cases e : lt[i]? with
              | none => rw [e] at hx; cases hx
              | some s => exact ⟨s, rfl⟩
            rw [es] at hx
            have hx1 : V.int (s : Int) = x := Option.some.inj hx
            subst hx1
            obtain ⟨al, ha⟩ := (hs s).mp (List.mem_of_getElem? es)
            have hsM : s < M.rows.length := (nxt_lt o ha).1
            obtain ⟨bs, eus⟩ := getE (l := us6) (i := s) (by rw [ui6.len]; exact hsM)
            have ed : lt.drop i = s :: lt.drop (i + 1) := by
              have hlt := (List.getElem?_eq_some_iff.mp es).1
              rw [List.drop_eq_getElem_cons hlt]
              rw [List.getElem?_eq_getElem hlt] at es
              rw [Option.some.inj es]
            rw [ed] at ui6
            refine ⟨_, rfl, _, rfl, U, _, _, .bl bs, rfl, rfl, SqL.of u6, atT rfl (by rw [List.getElem?_map, eus]; rfl), _, rfl, ?_⟩
            cases bs with
            | true =>
              exact ⟨us6, rd6, _, rfl, y6, u6, r6, ui6.skip eus, hm6⟩
            | false =>
              have ix : ixN (us6.map V.bl).length (s : Int) = some s := by
                unfold ixN
                rw [if_pos (by omega), if_pos (by rw [List.length_map, ui6.len]; omega), Int.toNat_natCast]
              have eset : (us6.map V.bl).set s (V.bl true) = (us6.set s true).map V.bl := by rw [List.map_set]
              have ucn := cntF_set eus
              refine ⟨_, rfl, _, rfl, U, _, _, _, rfl, rfl, u6, ix, ?_⟩
              refine ⟨_, rfl, .inl ⟨rfl, _, SqL.of (by rw [upd_ne (Ne.symm eUR)]; exact r6)⟩, _, rfl, R, _, _, rfl, rfl, by rw [upd_ne (Ne.symm eUR)]; exact r6, ?_, ?_⟩
              · rw [List.length_map]
                exact Nat.lt_of_le_of_lt (show rd6.length ≤ 2000 by omega) (by decide)
              · refine ⟨us6.set s true, rd6 ++ [s], _, rfl, (y6.other nU0 nUS.1 nUS.2).other nR0 nRS.1 nRS.2, ?_, ?_, ui6.mark eus ha, ?_⟩
                · rw [upd_ne eUR, upd_same, eset]
                · rw [upd_same, natV, natV, List.map_append]
                  rfl
                · rw [List.length_append, List.length_singleton]
                  omega
          · rintro σ H6 ⟨us6, rd6, x7, rfl, y6, u6, r6, ui6, hm6⟩
            rw [List.length_map, List.drop_length] at ui6
            exact ⟨m - 1, by omega, us6, rd6, x7, rfl, y6, u6, r6, ui6.rest, by omega, by omega⟩
        · have e1 : ¬ (0 : Int) < (((natV rd).length : Nat) : Int) := fun z => e (decide_eq_true z)
          rw [List.length_map] at e1
          have er : rd = [] := List.length_eq_zero_iff.mp (by omega)
          subst er
          exact ⟨_, rfl, q H4 U us y4.same nU0 u4 (UIn.done o ui)⟩
end
end Dg
end

section
set_option maxHeartbeats 4000000
/-! A dict whose keys are tuples of ints, or tuples (int, tuple of ints). -/
namespace Dg
open PySem PySem.Spec PyProof.Rows L2
def fkey (ns : List Int) : NestedKey := .tup (ns.map .num)
def nkey (m : Int × List Int) : NestedKey := .tup [.num m.1, fkey m.2]
theorem num_inj : ∀ {a b : List Int}, a.map NestedKey.num = b.map NestedKey.num → a = b
  | [], [], _ => rfl
  | x :: a, y :: b, h => by
    rw [List.map_cons, List.map_cons] at h
    injection h with h1 h2
    injection h1 with h1
    rw [h1, num_inj h2]
  | [], _ :: _, h => by cases h
  | _ :: _, [], h => by cases h
theorem fkey_inj {a b : List Int} (h : fkey a = fkey b) : a = b := by
  injection h with h
  exact num_inj h
theorem nkey_inj {a b : Int × List Int} (h : nkey a = nkey b) : a = b := by
  injection h with h
  injection h with h1 h2
  injection h2 with h2 _
  injection h1 with h1
  exact Prod.ext h1 (fkey_inj h2)
/-- the tuple at q is the key k -/
def KeyAt (K : PySem.W.Frag) (H : Hp) (k : NestedKey) (q : Addr) : Prop :=
  (∃ ns, k = fkey ns ∧ SqT K H q (ns.map V.int)) ∨ ∃ (a : Int) (r : Addr) (ns : List Int), k = nkey (a, ns) ∧ SqT K H q [.int a, .ref r] ∧ SqT K H r (ns.map V.int)
theorem KeyAt.ext {K : PySem.W.Frag} {H H' : Hp} {k : NestedKey} {q : Addr} (s : Ext H H') (h : KeyAt K H k q) : KeyAt K H' k q := by
  rcases h with ⟨ns, e, h⟩ | ⟨a, r, ns, e, h1, h2⟩
  · exact .inl ⟨ns, e, s.tup h⟩
  · exact .inr ⟨a, r, ns, e, s.tup h1, s.tup h2⟩
def KeysAt (K : PySem.W.Frag) (H : Hp) (ks : List NestedKey) (qs : List Addr) : Prop := ks.length = qs.length ∧ ∀ (i : Nat) (k : NestedKey) (q : Addr), ks[i]? = some k → qs[i]? = some q → KeyAt K H k q
theorem KeysAt.ext {K : PySem.W.Frag} {H H' : Hp} {ks : List NestedKey} {qs : List Addr} (s : Ext H H') (h : KeysAt K H ks qs) : KeysAt K H' ks qs := ⟨h.1, fun i k q e1 e2 => (h.2 i k q e1 e2).ext s⟩
theorem KeysAt.upd {K : PySem.W.Frag} {H : Hp} {ks : List NestedKey} {qs : List Addr} {R : Addr} {o o0 : HO} (h : KeysAt K H ks qs) (hR : H R = some o0) (h1 : ∀ xs, o0 ≠ .tup xs) (h2 : ∀ ob u, o0 ≠ .frz ob u) : KeysAt K (upd H R o) ks qs := by
  refine ⟨h.1, fun i k q e1 e2 => ?_⟩
  rcases h.2 i k q e1 e2 with ⟨ns, e, h⟩ | ⟨a, r, ns, e, z1, z2⟩
  · exact .inl ⟨ns, e, tup_upd hR h1 h2 h⟩
  · exact .inr ⟨a, r, ns, e, tup_upd hR h1 h2 z1, tup_upd hR h1 h2 z2⟩
theorem KeysAt.nil {K : PySem.W.Frag} {H : Hp} : KeysAt K H [] [] := ⟨rfl, fun i k q h => absurd h (by simp)⟩
theorem snoc_at {α : Type} {l : List α} {x y : α} {i : Nat} (h : (l ++ [x])[i]? = some y) : (i < l.length ∧ l[i]? = some y) ∨ (i = l.length ∧ x = y) := by
  by_cases q : i < l.length
  · rw [List.getElem?_append_left q] at h
    exact .inl ⟨q, h⟩
  · have l1 := (List.getElem?_eq_some_iff.mp h).1
    rw [List.length_append, List.length_singleton] at l1
    have e : i = l.length := by omega
    subst e
    rw [List.getElem?_append_right (Nat.le_refl _), Nat.sub_self] at h
    exact .inr ⟨rfl, Option.some.inj h⟩
theorem KeysAt.snoc {K : PySem.W.Frag} {H : Hp} {ks : List NestedKey} {qs : List Addr} {k : NestedKey} {q : Addr} (h : KeysAt K H ks qs) (hk : KeyAt K H k q) : KeysAt K H (ks ++ [k]) (qs ++ [q]) := by
  refine ⟨by rw [List.length_append, List.length_append, h.1]; rfl, fun i k' q' e1 e2 => ?_⟩
  rcases snoc_at e1 with ⟨l1, e1⟩ | ⟨l1, e1⟩
  · rcases snoc_at e2 with ⟨l2, e2⟩ | ⟨l2, e2⟩
    · exact h.2 i k' q' e1 e2
    · have := h.1
      omega
  · rcases snoc_at e2 with ⟨l2, e2⟩ | ⟨l2, e2⟩
    · have := h.1
      omega
    · subst e1 e2
      exact hk
/-- the dict at a: its keys, their tuples, the values -/
def KD (P : Program) (w : World) (a : Addr) (ks : List NestedKey) (qs : List Addr) (vs : List V) : HO := .ext fun h => (a == sysModules) = false ∧ ks.length ≤ sizeLine ∧ ∃ xs : List (NestedKey × Addr × Value), xs.map (·.1) = ks ∧ xs.map (·.2.1) = qs ∧ Vals vs (xs.map (·.2.2)) ∧
  ∃ o es ep, h.get? a = some o ∧ o.ExactDict ∧ o.data = .dict es ep ∧ es.toList = xs.map (entryOfKey (nestedKind P w)) ∧ ks.Nodup
theorem nums_all {h : Heap} : ∀ {ns : List Int} {us : List Value}, Vals (ns.map V.int) us → NestedAll h (ns.map .num) us
  | [], _, r => by cases r; exact .nil
  | n :: ns, _, r => by
    cases r with
    | cons r1 r2 =>
      obtain ⟨t, rfl⟩ := r1
      exact .cons (.int n t) (nums_all r2)
theorem nums_depth : ∀ ns : List Int, NestedKey.depthAll (ns.map .num) = 0
  | [] => rfl
  | n :: ns => by
    rw [List.map_cons, NestedKey.depthAll, nums_depth ns]
    rfl
section
variable {X : Cx} {pins : List (Addr × Obj)} {σ : L2.St} {H : Hp} {s : Shared} {a q : Addr} {ks : List NestedKey} {qs : List Addr} {vs : List V} {k : NestedKey} {A : Around} {E : Value → Shared → Prop}
theorem key_is (I : Inv X pins σ H s) (h : KeyAt X.K H k q) : (nestedKind X.prog X.w).is s.heap k q := by
  have flat : ∀ {q : Addr} {ns : List Int}, SqT X.K H q (ns.map V.int) → NestedIs s.heap (fkey ns) (.ref q) := fun {q ns} h => by
    obtain ⟨its, r, ⟨o, h1, h2, n, h3⟩, _⟩ := I.tuple h
    exact .tup h1 h2 h3 (by simpa using nums_all r)
  rcases h with ⟨ns, rfl, h⟩ | ⟨b, r, ns, rfl, h1, h2⟩
  · refine ⟨flat h, ?_⟩
    show NestedKey.depthAll (ns.map .num) + 1 ≤ 8
    rw [nums_depth]
    decide
  · obtain ⟨its, rv, ⟨o, g1, g2, n, g3⟩, _⟩ := I.tuple h1
    refine ⟨.tup g1 g2 g3 ?_, ?_⟩
    · cases rv with
      | cons r1 rv =>
        cases rv with
        | cons r2 rv =>
          cases rv
          obtain ⟨t, rfl⟩ := r1
          cases r2
          exact .cons (.int b t) (.cons (flat h2) .nil)
    · show max 0 (max (NestedKey.depthAll (ns.map .num) + 1) 0) + 1 ≤ 8
      rw [nums_depth]
      decide
theorem kd_get (I : Inv X pins σ H s) (e : H a = some (KD X.prog X.w a ks qs vs)) (hk : KeysAt X.K H ks qs) :
    (a == sysModules) = false ∧ ks.length ≤ sizeLine ∧ ∃ xs : List (NestedKey × Addr × Value), xs.map (·.1) = ks ∧ xs.map (·.2.1) = qs ∧ Vals vs (xs.map (·.2.2)) ∧ s.heap.DictOfH (nestedKind X.prog X.w) a xs := by
  obtain ⟨⟨h1, h2, xs, e1, e2, e3, o, es, ep, g1, g2, g3, g4, g5⟩, _, _⟩ := I.hok a _ e
  refine ⟨h1, h2, xs, e1, e2, e3, o, es, ep, g1, g2, g3, g4, fun x hx => ?_, by rw [e1]; exact g5⟩
  obtain ⟨i, hi⟩ := List.mem_iff_getElem?.mp hx
  refine key_is I (hk.2 i x.1 x.2.1 ?_ ?_)
  · rw [← e1, List.getElem?_map, hi]
    rfl
  · rw [← e2, List.getElem?_map, hi]
    rfl
theorem kd_nodup (I : Inv X pins σ H s) (e : H a = some (KD X.prog X.w a ks qs vs)) : ks.Nodup := by
  obtain ⟨⟨_, _, _, _, _, _, _, _, _, _, _, _, _, g⟩, _, _⟩ := I.hok a _ e
  exact g
theorem kd_ok {P : Program} {w : World} {H' : Hp} {h' : Heap} {xs : List (NestedKey × Addr × Value)} (h1 : (a == sysModules) = false) (h2 : ks.length ≤ sizeLine) (e1 : xs.map (·.1) = ks) (e2 : xs.map (·.2.1) = qs) (e3 : Vals vs (xs.map (·.2.2))) (d : h'.DictOfH (nestedKind P w) a xs) :
    ObjOk P w H' h' a (KD P w a ks qs vs) := by
  obtain ⟨o, es, ep, g1, g2, g3, g4, _, g5⟩ := d
  rw [e1] at g5
  exact ⟨⟨h1, h2, xs, e1, e2, e3, o, es, ep, g1, g2, g3, g4, g5⟩, ⟨o, g1⟩, fun h1 h2 ⟨a1, a2, xs, b1, b2, b3, o, es, ep, c1, c⟩ st => ⟨a1, a2, xs, b1, b2, b3, o, es, ep, st _ c1, c⟩⟩
/-- where a key stands -/
theorem at_some {xs : List (NestedKey × Addr × Value)} (e1 : xs.map (·.1) = ks) (nd : ks.Nodup) (e3 : Vals vs (xs.map (·.2.2))) {j : Nat} {v : V} (hj : ks[j]? = some k) (hv : vs[j]? = some v) : ∃ p, atKey xs k = some p ∧ RelV v p.2 := by
  rw [← e1, List.getElem?_map] at hj
  cases e : xs[j]? with
  | none => rw [e] at hj; cases hj
  | some x =>
    rw [e] at hj
    have ek : x.1 = k := Option.some.inj hj
    obtain ⟨u, hu, ru⟩ := e3.get hv
    rw [List.getElem?_map, e] at hu
    have eu : x.2.2 = u := Option.some.inj hu
    refine ⟨x.2, atKey_of_get (i := j) (by rw [e1]; exact nd) (by rw [e, ← ek]), ?_⟩
    rw [eu]
    exact ru
theorem at_none {xs : List (NestedKey × Addr × Value)} (e1 : xs.map (·.1) = ks) (hk : k ∉ ks) : atKey xs k = none :=
  atKey_none_of_get fun j p h => hk (by
    rw [← e1]
    exact List.mem_map.mpr ⟨_, List.mem_of_getElem? h, rfl⟩)
theorem kd_snoc {h' : Heap} {t' : Nat} {v : V} {u : Value} {xs : List (NestedKey × Addr × Value)} (I : Inv X pins σ H s) (e : H a = some (KD X.prog X.w a ks qs vs)) (h1 : (a == sysModules) = false) (hl : ks.length < sizeLine) (e1 : xs.map (·.1) = ks) (e2 : xs.map (·.2.1) = qs) (e3 : Vals vs (xs.map (·.2.2))) (rv : RelV v u) (hk : k ∉ ks)
    (d : h'.DictOfH (nestedKind X.prog X.w) a (storedH xs k q u)) (hs : Heap.SameBut a s.heap h') : Inv X pins σ (upd H a (KD X.prog X.w a (ks ++ [k]) (qs ++ [q]) (vs ++ [v]))) { s with heap := h', toks := t' } := by
  rw [storedH_new (at_none e1 hk)] at d
  have he : ∃ z, h'.get? a = some z := let ⟨z, _, _, hz, _⟩ := d; ⟨z, hz⟩
  refine d_write I (by rw [e]; exact True.intro) hs he (kd_ok h1 (by rw [List.length_append, List.length_singleton]; omega) (by rw [List.map_append, e1]; rfl) (by rw [List.map_append, e2]; rfl) (by
    rw [List.map_append]
    exact Vals.append e3 (.cons rv .nil)) d)
end
theorem kd_tup {P : Program} {w : World} {a : Addr} {ks : List NestedKey} {qs : List Addr} {vs : List V} (xs : List V) : KD P w a ks qs vs ≠ .tup xs := fun z => by unfold KD at z; cases z
theorem kd_frz {P : Program} {w : World} {a : Addr} {ks : List NestedKey} {qs : List Addr} {vs : List V} (ob : Obj) (u : HO) : KD P w a ks qs vs ≠ .frz ob u := fun z => by unfold KD at z; cases z
theorem kd_lst {P : Program} {w : World} {a : Addr} {ks : List NestedKey} {qs : List Addr} {vs : List V} (xs : List V) : KD P w a ks qs vs ≠ .lst xs := fun z => by unfold KD at z; cases z
/-! ### the rules -/
section
variable {X : Cx} {pos : Pos}
theorem room_in1 {A : Around} {P : Program} {w : World} (hu : A.units + 16 < cLine) : (nestedKind P w).room A.in1 := by
  show A.in1.units + 8 < cLine
  rw [Around.in1_units]
  omega
theorem hu16 {A : Around} {k : Nat} (hr : Room k A) : A.units + 16 < cLine := Nat.lt_of_le_of_lt (Nat.add_le_add_left (by decide : 16 ≤ 64) _) hr.units
/-- {} -/
def tKNew (P : Program) (w : World) : TE := fun _ H Q => ∀ p, H p = none → Q (.ref p) (upd H p (KD P w p [] [] []))
theorem kd_empty {P : Program} {w : World} {H : Hp} (h : Heap) (hb : sysModules < h.objs.size) : ObjOk P w H (h.push { cls := .type "dict", data := .dict #[] }) h.objs.size (KD P w h.objs.size [] [] []) := by
  have e : (h.push ({ cls := .type "dict", data := .dict #[] } : Obj)).get? h.objs.size = some { cls := .type "dict", data := .dict #[] } := Heap.get?_push_size _ rfl
  exact ⟨⟨beq_eq_false_iff_ne.mpr (Ne.symm (Nat.ne_of_lt hb)), Nat.zero_le _, [], rfl, rfl, .nil, _, #[], 0, e, ⟨rfl, rfl, rfl⟩, rfl, rfl, List.nodup_nil⟩, ⟨_, e⟩, fun h1 h2 ⟨a1, a2, xs, b1, b2, b3, o, es, ep, c1, c⟩ st => ⟨a1, a2, xs, b1, b2, b3, o, es, ep, st _ c1, c⟩⟩
theorem pe_kNew : PE X (.Dict [] [] pos) (tKNew X.prog X.w) := ⟨fun pins s σ H Q I h =>
  wpAny_Dict_empty ⟨.ref s.heap.objs.size, _, I.laid (a := s.heap.objs.size) (o := KD X.prog X.w s.heap.objs.size [] [] []) (t' := s.toks) (fun _ _ q => Heap.get?_push_of_some _ q) (Nat.le_refl _) (kd_empty s.heap I.big), rfl, h _ (I.hok.fresh (Nat.le_refl _))⟩⟩
/-- {k: v} -/
def tKOne (P : Program) (w : World) (K : PySem.W.Frag) (tk tv : TE) : TE := fun σ H Q => ∀ p, H p = none → tk σ (upd H p (KD P w p [] [] [])) fun x H1 => tv σ H1 fun v H2 => H2 p = some (KD P w p [] [] []) ∧ ∃ q k, x = .ref q ∧ KeyAt K H2 k q ∧ Q (.ref p) (upd H2 p (KD P w p [k] [q] [v]))
theorem pe_kOne {k v : Expr} {tk tv : TE} (hu : X.A.units + 16 < cLine) (hk : PE X k tk) (hv : PE X v tv) : PE X (.Dict [some k] [v] pos) (tKOne X.prog X.w X.K tk tv) := by
  refine ⟨fun pins s σ H Q I h => ?_⟩
  have hn := I.hok.fresh (Nat.le_refl s.heap.objs.size)
  have I1 := I.laid (a := s.heap.objs.size) (o := KD X.prog X.w s.heap.objs.size [] [] []) (h' := s.heap.push { cls := .type "dict", data := .dict #[] }) (t' := s.toks) (fun _ _ q => Heap.get?_push_of_some _ q) (Nat.le_refl _) (kd_empty s.heap I.big)
  rw [arm_eval_Dict, zip_pairTrees [some k] [v] X.env pos rfl rfl, dictDisplay_pairs (pairTrees [some k] [v] X.env pos) (fun z => by cases z) (show (1 : Nat) < 17 by decide)]
  refine wpAny_bind (wpAny_standAt (wpAny_bind (wpAny_subDictH (knd := nestedKind X.prog X.w) (by show X.A.units + 8 < cLine; omega) (by show 1 ≤ 15; decide) ?_)))
  refine pairTrees_cons_walk (thn (hk.run pins _ σ _ _ I1 (h _ hn)) fun u s1 ⟨x, H1, I2, rx, q1⟩ => thn (hv.run pins s1 σ H1 _ I2 q1) fun u2 s2 ⟨y, H2, I3, ry, e, q, k', ex, hk', q2⟩ => pairTrees_nil_walk ?_)
  subst ex
  obtain rfl : u = Value.ref q := rx
  obtain ⟨z1, z2, xs, e1, e2, e3, d⟩ := kd_get I3 e KeysAt.nil
  cases xs with
  | cons x xs => cases e1
  | nil =>
    refine ⟨[(k', q, u2)], ⟨rfl, rfl, key_is I3 hk', trivial⟩, d, fun h' tk' hm hs => wpAny_pure ?_⟩
    exact ⟨.ref s.heap.objs.size, _, kd_snoc (xs := []) (q := q) (k := k') I3 e z1 (by rw [sizeLine_eq]; decide) rfl rfl .nil ry (by simp) (show h'.DictOfH (nestedKind X.prog X.w) s.heap.objs.size (storedH [] k' q u2) from hm) hs, rfl, q2⟩
/-- in, not in -/
def rKIn (P : Program) (w : World) (K : PySem.W.Frag) (neg : Bool) : R2 := fun x y H Q => ∃ a ks qs vs q k, x = .ref q ∧ y = .ref a ∧ H a = some (KD P w a ks qs vs) ∧ KeysAt K H ks qs ∧ KeyAt K H k q ∧ Q (.bl (if neg then !decide (k ∈ ks) else decide (k ∈ ks))) H
theorem at_is {xs : List (NestedKey × Addr × Value)} {ks : List NestedKey} {k : NestedKey} (e1 : xs.map (·.1) = ks) (nd : ks.Nodup) : (atKey xs k).isSome = decide (k ∈ ks) := by
  by_cases h : k ∈ ks
  · rw [decide_eq_true h]
    obtain ⟨j, hj⟩ := List.mem_iff_getElem?.mp h
    rw [← e1, List.getElem?_map] at hj
    cases e : xs[j]? with
    | none => rw [e] at hj; cases hj
    | some x =>
      rw [e] at hj
      have ek : x.1 = k := Option.some.inj hj
      rw [atKey_of_get (i := j) (p := x.2) (by rw [e1]; exact nd) (by rw [e, ← ek])]
      rfl
  · rw [decide_eq_false h, at_none e1 h]
    rfl
theorem op_kIn (hu : X.A.units + 16 < cLine) : OpR X (compareOp .In) (rKIn X.prog X.w X.K false) := by
  intro pins s σ H x y v u Q I rx ry h
  obtain ⟨a, ks, qs, vs, q, k, rfl, rfl, e, hk, hq, hQ⟩ := h
  cases rx
  cases ry
  obtain ⟨z1, z2, xs, e1, e2, e3, d⟩ := kd_get I e hk
  refine wpAny_in_heap (room_in1 hu) (key_is I hq) z1 d ?_
  rw [at_is e1 (kd_nodup I e)]
  exact ⟨.bl (decide (k ∈ ks)), H, I.tok _, rfl, hQ⟩
theorem op_kNotIn (hu : X.A.units + 16 < cLine) : OpR X (compareOp .NotIn) (rKIn X.prog X.w X.K true) := by
  intro pins s σ H x y v u Q I rx ry h
  obtain ⟨a, ks, qs, vs, q, k, rfl, rfl, e, hk, hq, hQ⟩ := h
  cases rx
  cases ry
  obtain ⟨z1, z2, xs, e1, e2, e3, d⟩ := kd_get I e hk
  refine wpAny_notIn_heap (room_in1 hu) (key_is I hq) z1 d ?_
  rw [at_is e1 (kd_nodup I e)]
  exact ⟨.bl (!decide (k ∈ ks)), H, I.tok _, rfl, hQ⟩
/-- d[k] = v, k new -/
def rKPut (P : Program) (w : World) (K : PySem.W.Frag) : TSet := fun o i v H Q => ∃ a ks qs vs q k, o = .ref a ∧ i = .ref q ∧ H a = some (KD P w a ks qs vs) ∧ KeysAt K H ks qs ∧ KeyAt K H k q ∧ ks.length < sizeLine ∧ k ∉ ks ∧ Q (upd H a (KD P w a (ks ++ [k]) (qs ++ [q]) (vs ++ [v])))
theorem set_k (hu : X.A.units + 16 < cLine) : PSet X (rKPut X.prog X.w X.K) := by
  intro pins s σ H o i v ov iv u Q I ro ri rv h
  obtain ⟨a, ks, qs, vs, q, k, rfl, rfl, e, hk, hq, hl, hn, hQ⟩ := h
  cases ro
  cases ri
  obtain ⟨z1, z2, xs, e1, e2, e3, d⟩ := kd_get I e hk
  refine wpAny_setItem_heap (hsz := by rw [← e1, List.length_map] at z2; exact z2) (room_in1 hu) (key_is I hq) d fun h' d' hs => ?_
  exact ⟨_, kd_snoc I e z1 hl e1 e2 e3 rv hn d' hs, hQ⟩
/-- d[k] -/
def tKGet (P : Program) (w : World) (K : PySem.W.Frag) (td ty : TE) : TE := fun σ H Q => td σ H fun x H1 => ty σ H1 fun y H2 => ∃ a ks qs vs q k, ∃ (j : Nat) (v : V), x = .ref a ∧ y = .ref q ∧ H2 a = some (KD P w a ks qs vs) ∧ KeysAt K H2 ks qs ∧ KeyAt K H2 k q ∧ ks[j]? = some k ∧ vs[j]? = some v ∧ Q v H2
theorem pe_kget {o i : Expr} {td ty : TE} (hu : X.A.units + 16 < cLine) (ho : PE X o td) (hi : PE X i ty) (hs : NoSl i) : PE X (.Subscript o i pos) (tKGet X.prog X.w X.K td ty) := by
  refine ⟨fun pins s σ H Q I h => ?_⟩
  refine subD_of PySem.F.slot_dict_getitem.lookup hs (thn (ho.run pins s σ H _ I h) fun u s1 ⟨x, H1, I1, rx, q1⟩ => thn (hi.run pins s1 σ H1 _ I1 q1) fun iv s2 ⟨y, H2, I2, ry, a, ks, qs, vs, q, k, j, v, ex, ey, e, hk, hq, hj, hv, q2⟩ => ?_)
  subst ex ey
  cases (show u = Value.ref a from rx)
  cases (show iv = Value.ref q from ry)
  obtain ⟨z1, z2, xs, e1, e2, e3, d⟩ := kd_get I2 e hk
  obtain ⟨p, hp, rp⟩ := at_some e1 (kd_nodup I2 e) e3 hj hv
  exact ⟨d.typeIs, wpAny_getItem_heap (room_in1 hu) (key_is I2 hq) d hp ⟨v, H2, I2.tok _, rp, q2⟩⟩
/-- len(d) -/
def rKLen (P : Program) (w : World) (K : PySem.W.Frag) : List V → Hp → VK → Prop := fun xs H Q => ∃ a ks qs vs, xs = [.ref a] ∧ H a = some (KD P w a ks qs vs) ∧ KeysAt K H ks qs ∧ Q (.int ((ks.length : Nat) : Int)) H
theorem call_len_k : CallR X (.builtin "len") (rKLen X.prog X.w X.K) := by
  intro pins s σ H xs us Q I r h
  obtain ⟨a, ks, qs, vs, rfl, e, hk, q⟩ := h
  obtain ⟨u, rfl, rx⟩ := vals1 r
  obtain rfl : u = .ref a := rx
  obtain ⟨z1, z2, xs, e1, e2, e3, d⟩ := kd_get I e hk
  have hl : ks.length = xs.length := by rw [← e1, List.length_map]
  refine call_len_dictH z1 d (by rw [← hl]; rw [sizeLine_eq] at z2; omega) ?_
  rw [← hl]
  exact ⟨.int ((ks.length : Nat) : Int), H, I.tok _, ⟨_, rfl⟩, q⟩
/-- d.setdefault(k, z) -/
def tKSetd (P : Program) (w : World) (K : PySem.W.Frag) (td ty tx : TE) : TE := fun σ H Q => td σ H fun x H1 => ∃ a, x = .ref a ∧ (∃ ks qs vs, H1 a = some (KD P w a ks qs vs) ∧ KeysAt K H1 ks qs) ∧ ty σ H1 fun y H2 => tx σ H2 fun z H3 => ∃ ks qs vs q k, y = .ref q ∧ H3 a = some (KD P w a ks qs vs) ∧ KeysAt K H3 ks qs ∧ KeyAt K H3 k q ∧ ks.length < sizeLine ∧ vs.length = ks.length ∧
  (∀ (j : Nat) v, ks[j]? = some k → vs[j]? = some v → Q v H3) ∧ (k ∉ ks → Q z (upd H3 a (KD P w a (ks ++ [k]) (qs ++ [q]) (vs ++ [z]))))
theorem pe_ksetd {o e f : Expr} {td ty tx : TE} {apos cpos : Pos} (hu : X.A.units + 16 < cLine) (ho : PE X o td) (he : PE X e ty) (hf : PE X f tx) (m : M2 X o "setdefault" apos e f cpos) : PE X (.Call (.Attribute o "setdefault" apos) [e, f] [] cpos) (tKSetd X.prog X.w X.K td ty tx) := by
  refine ⟨fun pins s σ H Q I h => ?_⟩
  refine wpAny_Call_method m.base m.few m.line PySem.F.plainAttrs_dict PySem.F.slot_dict_setdefault PySem.F.type_dict_setdefault (thn (ho.run pins s σ H _ I h) fun u s1 ⟨x, H1, I1, rx, a, ex, ⟨ks, qs, vs, e0, hk0⟩, q1⟩ => ?_)
  subst ex
  obtain rfl : u = Value.ref a := rx
  obtain ⟨z1, _, xs0, _, _, _, d0⟩ := kd_get I1 e0 hk0
  refine ⟨d0.typeIs, fun b q => ?_, ?_⟩
  · cases q
    obtain ⟨ob, _, _, h1, h2, _⟩ := d0
    exact ⟨ob, h1, h2.2.1⟩
  rw [m.trees]
  refine Calls.callWith_builtin rfl (Calls.evalArgs_plain (Calls.spliced_cons (thn (he.run pins s1 σ H1 _ I1 q1) fun iv s2 ⟨y, H2, I2, ry, q2⟩ =>
    Calls.spliced_cons (thn (hf.run pins s2 σ H2 _ I2 q2) fun fv s3 ⟨z, H3, I3, rz, ks, qs, vs, q, k, ey, e, hk, hq, hl, hvl, q3, q4⟩ => Calls.spliced_nil ?_))))
  subst ey
  cases (show iv = Value.ref q from ry)
  obtain ⟨_, z2, xs, e1, e2, e3, d⟩ := kd_get I3 e hk
  have nd := kd_nodup I3 e
  refine call_setdefault_heap (hsz := by rw [← e1, List.length_map] at z2; exact z2) (room_in1 hu) (key_is I3 hq) z1 d (fun p hp => ?_) fun hn h' d' hs => ?_
  · have hm : k ∈ ks := by
      refine Classical.byContradiction fun z => ?_
      rw [at_none e1 z] at hp
      cases hp
    obtain ⟨j, hj⟩ := List.mem_iff_getElem?.mp hm
    obtain ⟨v, hv⟩ := getE (l := vs) (i := j) (by rw [hvl]; exact (List.getElem?_eq_some_iff.mp hj).1)
    obtain ⟨p', hp', rp⟩ := at_some e1 nd e3 hj hv
    rw [hp] at hp'
    cases hp'
    exact ⟨v, H3, I3.tok _, rp, q3 j v hj hv⟩
  · have hm : k ∉ ks := fun z => by
      have := at_is (k := k) e1 nd
      rw [hn, decide_eq_true z] at this
      cases this
    exact ⟨z, _, kd_snoc I3 e z1 hl e1 e2 e3 rz hm d' hs, rz, q4 hm⟩
end
/-! ### the same, the program, the world and the written part named -/
section
variable {X : Cx} {pos : Pos} (P : Program) (w : World) (K : PySem.W.Frag) (hP : X.prog = P := by rfl) (hw : X.w = w := by rfl) (hK : X.K = K := by rfl)
include hP hw hK in
theorem pe_kNewX : PE X (.Dict [] [] pos) (tKNew P w) := by
  subst hP hw
  exact pe_kNew
include hP hw hK in
theorem pe_kOneX {k v : Expr} {tk tv : TE} (hu : X.A.units + 16 < cLine) (hk : PE X k tk) (hv : PE X v tv) : PE X (.Dict [some k] [v] pos) (tKOne P w K tk tv) := by
  subst hP hw hK
  exact pe_kOne hu hk hv
include hP hw hK in
theorem op_kNotInX (hu : X.A.units + 16 < cLine) : OpR X (compareOp .NotIn) (rKIn P w K true) := by
  subst hP hw hK
  exact op_kNotIn hu
include hP hw hK in
theorem set_kX (hu : X.A.units + 16 < cLine) : PSet X (rKPut P w K) := by
  subst hP hw hK
  exact set_k hu
include hP hw hK in
theorem pe_kgetX {o i : Expr} {td ty : TE} (hu : X.A.units + 16 < cLine) (ho : PE X o td) (hi : PE X i ty) (hs : NoSl i) : PE X (.Subscript o i pos) (tKGet P w K td ty) := by
  subst hP hw hK
  exact pe_kget hu ho hi hs
end
end Dg
end

section
set_option maxHeartbeats 4000000
namespace Dg
open PySem PySem.Spec PyProof.Rows L2
abbrev sKin : Stmt := top 19
abbrev nKin : List Str := ["machine", "useful", "state", "kinds", "count", "numbers", "after", "row", "mark", "target"]
theorem scKin : FnScope nKin ["machine", "useful"] (defScope sKin) := ⟨rfl, rfl, rfl, by decide +kernel, rfl, by decide +kernel, by decide +kernel⟩
def spKin (K : PySem.W.Frag) : Sp := fun vs H Q _ => ∃ (a u : Addr) (M : Mach) (us : List Bool), vs = [.ref a, .ref u] ∧ MachAt K H a M ∧ M.Sm ∧ SqL K H u (us.map V.bl) ∧ UsefulOk M us ∧
  ∀ H' p ks, Same H H' → H p = none → H' p = some (.lst (ks.map V.int)) → KindsOk M ks → Q (.ref p) H'
abbrev idxV (n : Nat) : List V := (List.range n).map fun j : Nat => V.int (j : Int)
theorem idxV_succ (n : Nat) : idxV (n + 1) = idxV n ++ [V.int (n : Int)] := by
  rw [idxV, List.range_succ, List.map_append]
  rfl
theorem idxV_at {n j : Nat} (h : j < n) : (idxV n)[j]? = some (V.int (j : Int)) := by
  rw [List.getElem?_map, List.getElem?_eq_getElem (by rw [List.length_range]; exact h), List.getElem_range]
  rfl
theorem getI {α : Type} {l : List α} {i : Nat} {x : α} {f : α → V} (h : l[i]? = some x) : (l.map f)[i]? = some (f x) := by
  rw [List.getElem?_map, h]
  rfl
section
variable {P : Program} {w : World} {K : PySem.W.Frag} {mg : Str → Option Value} {base : Heap} {f : Addr} {fd : FuncData}
theorem ok_kin (F : Fun K "kinds_of" "kinds_of" sKin f fd) (me : mg "enumerate" = none) (mt : mg "tuple" = none) (mr : mg "range" = none) (ml : mg "len" = none) (mi : mg "int" = none) : FnOk P w K mg base CX0 1 f fd ["machine", "useful"] (spKin K) := by
  refine F.ok scKin (fun vs H Q E h => ?_) (fun cdv A outer s H vs Q E hr h => ?_)
  · obtain ⟨a, u, M, us, rfl, _⟩ := h
    rfl
  · obtain ⟨a, u, M, us, rfl, hMA, sm, hu, uo, q⟩ := h
    have o := sm.ok
    have hn := sm.n
    obtain ⟨b, c, ra, h⟩ := hMA
    have h16 := hu16 hr
    refine ⟨_, pss_cons (ps_set (i := 3) scKin.nd rfl (Or.inr rfl) (pe_lc (own := [("state", 2)]) (g := gName 2) rfl scKin.nd (pi_range1 (by rfl) mr (pa_cons (pe_callB call_len_seq (by rfl) ml PySem.boot_len (pa_cons (pv 1) pa_nil)) pa_nil)) (blkOk_by (N := nKin) (sc := defScope sKin) (by decide +kernel))
        (fun _ _ _ _ _ => pg_name (i := 2) scKin.nd rfl (Or.inl rfl)) (fun _ _ _ _ _ => pts_nil)
        (fun _ _ _ _ _ => pe_ifExp (pt_val (pe_ix (ixL K) (pv 1) (pv 2) (fun _ _ => rfl))) (pe_callTy call_int1 (by rfl) mi (by decide +kernel) (pa_cons (pe_ix (ixT K) (pe_ix (ixT K) (pv 0) pe_int (fun _ _ => rfl)) (pv 2) (fun _ _ => rfl)) pa_nil)) (pe_un un_neg pe_int))))
      (pss_cons (ps_set (i := 4) scKin.nd rfl (Or.inl rfl) pe_int)
      (pss_one (ps_while PassesOwn.never (pt_val pe_bl)
        (pss_cons (ps_set (i := 5) scKin.nd rfl (Or.inl rfl) pe_kNew)
        (pss_cons (ps_set (i := 6) scKin.nd rfl (Or.inl rfl) (pe_lst pa_nil))
        (pss_cons (ps_for PassesOwn.never rfl (pi_enumT (by rfl) me (pa_cons (pe_ix ix_tup (pv 0) pe_int (fun _ _ => rfl)) pa_nil))
          (pg_tup rfl (pgs_cons (pg_name (i := 2) scKin.nd rfl (Or.inl rfl)) (pgs_cons (pg_name (i := 7) scKin.nd rfl (Or.inl rfl)) pgs_nil)))
          (pss_one (ps_if (pt_not (pt_val (pe_ix ix_list (pv 1) (pv 2) (fun _ _ => rfl))))
            (pss_one (ps_expr (pe_bm PySem.F.plainAttrs_list PySem.F.slot_list_append PySem.F.type_list_append mt_append (pv 6) (pa_cons (pe_un un_neg pe_int) pa_nil))))
            (pss_cons (ps_set (i := 8) scKin.nd rfl (Or.inl rfl) (pe_tup (pa_cons (pe_ix ix_list (pv 3) (pv 2) (fun _ _ => rfl)) (pa_cons (pe_callTy call_tuple_of (by rfl) mt (by decide +kernel) (pa_cons
                (pe_lc (own := [("target", 9)]) (g := gName 9) rfl scKin.nd (pi_tup (pv 7)) (blkOk_by (N := nKin) (sc := defScope sKin) (by decide +kernel))
                  (fun _ _ _ _ _ => pg_name (i := 9) scKin.nd rfl (Or.inl rfl)) (fun _ _ _ _ _ => pts_nil)
                  (fun _ _ _ _ _ => pe_ifExp (pt_cmpR op_ge (pv 9) pe_int (nomark _)) (pe_ix (ixL K) (pv 3) (pv 9) (fun _ _ => rfl)) (pe_un un_neg pe_int))) pa_nil)) pa_nil))))
            (pss_one (ps_expr (pe_bm PySem.F.plainAttrs_list PySem.F.slot_list_append PySem.F.type_list_append mt_append (pv 6) (pa_cons (pe_ksetd h16 (pv 5) (pv 8) (pe_callB call_len_k (by rfl) ml PySem.boot_len (pa_cons (pv 5) pa_nil)) ⟨rfl, rfl, rfl, rfl⟩) pa_nil))))))))
        (pss_cons (ps_set (i := 3) scKin.nd rfl (Or.inr rfl) (pv 6))
        (pss_cons (ps_if (pt_cmpR op_eq (pe_callB call_len_k (by rfl) ml PySem.boot_len (pa_cons (pv 5) pa_nil)) (pv 4) (nomark _)) (pss_one (ps_ret (pv 3))) pss_nil)
        (pss_one (ps_set (i := 4) scKin.nd rfl (Or.inl rfl) (pe_callB call_len_k (by rfl) ml PySem.boot_len (pa_cons (pv 5) pa_nil)))))))))))), ?_⟩
    have hl : (ra.map V.ref).length = M.rows.length := by rw [List.length_map]; exact h.r.1
    have hul : (us.map V.bl).length = M.rows.length := by rw [List.length_map]; exact uo.1
    -- kinds = [..]
    refine ⟨_, rfl, u, _, rfl, .inl hu, _, rfl, by omega, by omega, fun kp nkp => ?_⟩
    have s0 : Same H (upd H kp (.lst [])) := same_upd nkp
    refine lc_range (lo := 0) (n := ((us.map V.bl).length : Int).toNat) (fun i H' => ∃ ks : List Int, H' = upd H kp (.lst (ks.map V.int)) ∧ ks.length = i ∧ (∀ s : Nat, s < i → us[s]? = some false → ks[s]? = some (-1)) ∧ (∀ s : Nat, s < i → us[s]? = some true → ks[s]? = some (if M.fin (s : Int) = true then 1 else 0)))
      ⟨[], rfl, rfl, fun s hs => by omega, fun s hs => by omega⟩ ?_ ?_
    · rintro i H' hi ⟨ks, rfl, el, c1, c2⟩
      have hiM : i < M.rows.length := by omega
      have sm1 : Same H (upd H kp (.lst (ks.map V.int))) := same_upd nkp
      obtain ⟨bs, eb⟩ := getE (l := us) (i := i) (by rw [uo.1]; exact hiM)
      have e0 : (0 : Int) + (i : Int) = (i : Int) := by omega
      refine ⟨rfl, _, rfl, _, rfl, u, _, _, .bl bs, rfl, rfl, sm1.seq hu, atT e0 (getI eb), _, rfl, ?_⟩
      have fin : ∀ v : Int, (us[i]? = some false → v = -1) → (us[i]? = some true → v = if M.fin (i : Int) = true then 1 else 0) → ∃ acc, (upd H kp (.lst (ks.map V.int))) kp = some (.lst acc) ∧ acc.length < sizeLine ∧ ∃ ks' : List Int, upd (upd H kp (.lst (ks.map V.int))) kp (.lst (acc ++ [V.int v])) = upd H kp (.lst (ks'.map V.int)) ∧ ks'.length = i + 1 ∧ (∀ s : Nat, s < i + 1 → us[s]? = some false → ks'[s]? = some (-1)) ∧ (∀ s : Nat, s < i + 1 → us[s]? = some true → ks'[s]? = some (if M.fin (s : Int) = true then 1 else 0)) := fun v d1 d2 => by
        refine ⟨_, upd_same, by rw [List.length_map, el]; exact small1000 (by omega), ks ++ [v], by rw [upd_upd, List.map_append]; rfl, by rw [List.length_append, el]; rfl, fun s hs e => ?_, fun s hs e => ?_⟩
        · by_cases q : s < i
          · rw [List.getElem?_append_left (by omega)]
            exact c1 s q e
          · have es : s = i := by omega
            subst es
            rw [List.getElem?_append_right (by omega), el, Nat.sub_self, d1 e]
            rfl
        · by_cases q : s < i
          · rw [List.getElem?_append_left (by omega)]
            exact c2 s q e
          · have es : s = i := by omega
            subst es
            rw [List.getElem?_append_right (by omega), el, Nat.sub_self, d2 e]
            rfl
      cases bs with
      | true =>
        have hm := h.same sm1
        refine ⟨_, rfl, a, _, 2, .ref c, rfl, rfl, hm.t, rfl, _, rfl, c, _, _, _, rfl, rfl, hm.c, atT e0 (fin_get o hiM), .inr ⟨_, rfl, ?_⟩⟩
        have ef : (if M.fin (i : Int) then (1 : Int) else 0) = if M.fin (i : Int) = true then 1 else 0 := rfl
        exact fin _ (fun z => by rw [eb] at z; cases z) (fun _ => ef)
      | false => exact ⟨_, rfl, fin _ (fun _ => rfl) (fun z => by rw [eb] at z; cases z)⟩
    · rintro H1 ⟨ks, rfl, el, c1, c2⟩
      have eN : ((us.map V.bl).length : Int).toNat = M.rows.length := by omega
      rw [eN] at el c1 c2
      have sm1 : Same H (upd H kp (.lst (ks.map V.int))) := same_upd nkp
      have ki : KInv M ks 0 := KInv.start o uo el (fun s e => c1 s (by rw [← uo.1]; exact (List.getElem?_eq_some_iff.mp e).1) e) (fun s e => c2 s (by rw [← uo.1]; exact (List.getElem?_eq_some_iff.mp e).1) e)
      -- while True
      refine ⟨fun m σ H' => ∃ kq ks cn x2 x5 x6 x7 x8, σ = [some (.ref a), some (.ref u), x2, some (.ref kq), some (.int ((cn : Nat) : Int)), x5, x6, x7, x8, none] ∧ Same H H' ∧ H kq = none ∧ H' kq = some (.lst (ks.map V.int)) ∧ KInv M ks cn ∧ m + cn = M.rows.length + 1,
        ⟨M.rows.length + 1, kp, ks, 0, none, none, none, none, none, rfl, sm1, nkp, upd_same, ki, rfl⟩, fun m σ H2 hW => ?_⟩
      obtain ⟨kq, ks, cn, x2, x5, x6, x7, x8, rfl, sm2, nkq, ekq, ki, em⟩ := hW
      refine ⟨_, rfl, ⟨fun σ' H' => ∃ m', m' < m ∧ ∃ kq ks cn x2 x5 x6 x7 x8, σ' = [some (.ref a), some (.ref u), x2, some (.ref kq), some (.int ((cn : Nat) : Int)), x5, x6, x7, x8, none] ∧ Same H H' ∧ H kq = none ∧ H' kq = some (.lst (ks.map V.int)) ∧ KInv M ks cn ∧ m' + cn = M.rows.length + 1, fun _ _ z => z, ?_⟩⟩
      -- numbers = {}; after = []
      intro D nD
      refine ⟨Nat.zero_le _, fun R nR => ?_⟩
      have eDR : D ≠ R := fun z => by rw [← z, upd_same] at nR; cases nR
      have nR2 : H2 R = none := none_of (same_upd nD) nR
      have kqD : kq ≠ D := ne_of_none ekq nD
      have kqR : kq ≠ R := ne_of_none ekq nR2
      have nD0 := sm2.free nD
      have nR0 := sm2.free nR2
      have sm3 : Same H (upd (upd H2 D (KD P w D [] [] [])) R (.lst [])) := same_in nR0 (same_in nD0 sm2)
      have hm3 := h.same sm3
      refine ⟨_, rfl, a, _, 1, .ref b, rfl, rfl, hm3.t, rfl, b, _, rfl, hm3.b, ?_⟩
      refine for_it (walk_enumT (K := K) (a := b) (xs := ra.map V.ref)) (fun i σ H' => ∃ ks' ms qs x2 x7 x8, σ = [some (.ref a), some (.ref u), x2, some (.ref kq), some (.int ((cn : Nat) : Int)), some (.ref D), some (.ref R), x7, x8, none] ∧ Same H H' ∧ H' kq = some (.lst (ks.map V.int)) ∧
          H' D = some (KD P w D (ms.map nkey) qs (idxV ms.length)) ∧ KeysAt K H' (ms.map nkey) qs ∧ H' R = some (.lst (ks'.map V.int)) ∧ KRound M us ks i ks' ms)
        ⟨[], [], [], x2, x7, x8, rfl, sm3, by rw [upd_ne kqR, upd_ne kqD]; exact ekq, by rw [upd_ne eDR, upd_same]; rfl, KeysAt.nil, upd_same, KRound.start⟩ (fun i σ H' _ ⟨_, _, _, _, _, _, _, y, _⟩ => Same.tup y h.b) ?_ ?_
      · rintro i x σ H4 H5 hi ⟨ks', ms, qs, x2, x7, x8, rfl, sm4, ek4, eD4, kk4, eR4, kr⟩ ⟨T, v1, v2, rfl, nT, rfl, ev, er⟩
        have ev1 : v1 = V.int (i : Int) := (Option.some.inj ev).symm
        subst ev1
        have hiM : i < M.rows.length := by omega
        obtain ⟨p, _, h2, h3⟩ := h.row hiM
        have er1 : V.ref p = v2 := Option.some.inj (h2.symm.trans er)
        subst er1
        have ss : Same H4 (upd H4 T (.tup [V.int (i : Int), .ref p])) := same_upd nT
        have sm5 := sm4.trans ss
        have ek5 := ss _ _ ek4
        have eD5 := ss _ _ eD4
        have kk5 := kk4.ext (Ext.of ss)
        have eR5 := ss _ _ eR4
        have eT5 : upd H4 T (.tup [V.int (i : Int), .ref p]) T = some (.tup [V.int (i : Int), .ref p]) := upd_same
        generalize upd H4 T (.tup [V.int (i : Int), .ref p]) = H5 at ss sm5 ek5 eD5 kk5 eR5 eT5 ⊢
        obtain ⟨bs, eb⟩ := getE (l := us) (i := i) (by rw [uo.1]; exact hiM)
        refine ⟨T, _, rfl, SqT.of eT5, rfl, _, _, rfl, _, _, rfl, rfl, ?_⟩
        refine ⟨_, rfl, _, rfl, u, _, _, .bl bs, rfl, rfl, sm5.seq hu, atT rfl (getI eb), _, rfl, ?_⟩
        have lks : (ks'.map V.int).length < sizeLine := by rw [List.length_map, kr.len]; exact small1000 (by omega)
        have hmn : (ms.map nkey).length = ms.length := List.length_map _
        cases bs with
        | false =>
          refine ⟨_, rfl, .inl ⟨rfl, _, SqL.of eR5⟩, _, rfl, R, _, _, rfl, rfl, eR5, lks, ?_⟩
          exact ⟨ks' ++ [-1], ms, qs, _, _, _, rfl, same_in nR0 sm5, by rw [upd_ne kqR]; exact ek5, by rw [upd_ne eDR]; exact eD5, kk5.upd eR5 (fun _ z => by cases z) (fun _ _ z => by cases z), by rw [upd_same, List.map_append]; rfl, kr.not_ eb⟩
        | true =>
          -- mark
          obtain ⟨v, ev⟩ := getE (l := ks) (i := i) (by rw [ki.len]; exact hiM)
          have er := row_at (M := M) (List.getElem?_eq_getElem hiM)
          refine ⟨_, rfl, _, rfl, kq, _, _, .int v, rfl, rfl, SqL.of ek5, atT rfl (getI ev), _, rfl, p, rfl, ⟨_, Same.tup sm5 h3⟩, fun L nL => ?_⟩
          have kqL : kq ≠ L := ne_of_none ek5 nL
          have hrl : (M.rows[i].map V.int).length = M.k := by rw [List.length_map]; exact o.row _ (List.getElem_mem hiM)
          refine lc_tup (K := K) (a := p) (xs := M.rows[i].map V.int) (fun b' H' => H' = upd H5 L (.lst (((M.rows[i].take b').map (kd ks)).map V.int))) rfl (fun b' H' _ e => by rw [e]; exact Same.tup (same_upd nL) (Same.tup sm5 h3)) ?_ ?_
          · rintro b' x H' hx rfl
            have hb : b' < M.k := by
              have := (List.getElem?_eq_some_iff.mp hx).1
              omega
            obtain ⟨t, et⟩ := getE (l := M.rows[i]) (i := b') (by rw [List.length_map] at hrl; omega)
            have hx1 : V.int t = x := Option.some.inj ((getI et).symm.trans hx)
            subst hx1
            have rg := o.ent _ (List.getElem_mem hiM) t (List.mem_of_getElem? et)
            have fin : ∀ z : Int, z = kd ks t → ∃ acc, (upd H5 L (.lst (((M.rows[i].take b').map (kd ks)).map V.int))) L = some (.lst acc) ∧ acc.length < sizeLine ∧ upd (upd H5 L (.lst (((M.rows[i].take b').map (kd ks)).map V.int))) L (.lst (acc ++ [V.int z])) = upd H5 L (.lst (((M.rows[i].take (b' + 1)).map (kd ks)).map V.int)) := fun z ez => by
              refine ⟨_, upd_same, ?_, ?_⟩
              · rw [List.length_map, List.length_map, List.length_take]
                exact Nat.lt_of_le_of_lt (Nat.min_le_left _ _) (small1000 (by have := sm.k; omega))
              · rw [upd_upd, List.take_add_one, et, ez, List.map_append, List.map_append]
                rfl
            refine ⟨rfl, _, rfl, _, _, rfl, rfl, _, rfl, ite2 (fun e => ?_) (fun e => ?_)⟩
            · have e1 : (0 : Int) ≤ t := of_decide_eq_true e
              have et2 : t = ((t.toNat : Nat) : Int) := by omega
              obtain ⟨z, ez⟩ := getE (l := ks) (i := t.toNat) (by rw [ki.len]; omega)
              refine ⟨_, rfl, _, rfl, kq, _, _, .int z, rfl, rfl, SqL.of (by rw [upd_ne kqL]; exact ek5), atT et2 (getI ez), fin z ?_⟩
              rw [et2]
              exact (kd_at ez).symm
            · have e1 : ¬ (0 : Int) ≤ t := fun z => e (decide_eq_true z)
              exact ⟨_, rfl, fin _ (kd_neg (by omega)).symm⟩
          · rintro H6 rfl
            rw [List.take_of_length_le (by rw [List.length_map]; exact Nat.le_refl _)]
            have ss6 : Same H5 (upd H5 L (.lst ((M.rows[i].map (kd ks)).map V.int))) := same_upd nL
            have eL6 : (upd H5 L (.lst ((M.rows[i].map (kd ks)).map V.int))) L = some (.lst ((M.rows[i].map (kd ks)).map V.int)) := upd_same
            generalize upd H5 L (.lst ((M.rows[i].map (kd ks)).map V.int)) = H6 at ss6 eL6 ⊢
            refine ⟨L, _, rfl, .inl ⟨SqL.of eL6, fun T1 nT1 => ?_⟩⟩
            have ss7 : Same H6 (upd H6 T1 (.tup ((M.rows[i].map (kd ks)).map V.int))) := same_upd nT1
            have eT7 : (upd H6 T1 (.tup ((M.rows[i].map (kd ks)).map V.int))) T1 = some (.tup ((M.rows[i].map (kd ks)).map V.int)) := upd_same
            generalize upd H6 T1 (.tup ((M.rows[i].map (kd ks)).map V.int)) = H7 at ss7 eT7 ⊢
            refine ⟨by show 2 ≤ sizeLine; decide, fun T2 nT2 => ?_⟩
            have ss8 : Same H7 (upd H7 T2 (.tup [V.int v, .ref T1])) := same_upd nT2
            have eT8 : (upd H7 T2 (.tup [V.int v, .ref T1])) T2 = some (.tup [V.int v, .ref T1]) := upd_same
            generalize upd H7 T2 (.tup [V.int v, .ref T1]) = H8 at ss8 eT8 ⊢
            have st : Same H5 H8 := (ss6.trans ss7).trans ss8
            have sm8 := sm5.trans st
            have ek8 := st _ _ ek5
            have eD8 := st _ _ eD5
            have kk8 := kk5.ext (Ext.of st)
            have eR8 := st _ _ eR5
            have emk : nkey (mark M ks i) = nkey (v, M.rows[i].map (kd ks)) := by
              unfold mark
              rw [er, kd_at ev]
            have hka : KeyAt K H8 (nkey (mark M ks i)) T2 := .inr ⟨v, T1, _, emk, SqT.of eT8, SqT.of (ss8 _ _ eT7)⟩
            have hle : ms.length ≤ M.rows.length := by
              have := nodup_sub_len (m := (List.range M.rows.length).map (mark M ks)) kr.nd fun m hm => by
                obtain ⟨j, hj⟩ := List.mem_iff_getElem?.mp hm
                obtain ⟨s, h1, _, h3⟩ := kr.sur j m hj
                exact List.mem_map.mpr ⟨s, List.mem_range.mpr (by omega), h3⟩
              rw [List.length_map, List.length_range] at this
              exact this
            refine ⟨_, rfl, .inl ⟨rfl, _, SqL.of eR8⟩, _, rfl, D, rfl, ⟨_, _, _, eD8, kk8⟩, _, rfl, _, rfl, D, _, _, _, rfl, eD8, kk8, _, _, _, T2, nkey (mark M ks i), rfl, eD8, kk8, hka, by rw [hmn]; exact small1000 (by omega), by rw [hmn, List.length_map, List.length_range], fun j z hj hz => ?_, fun hnm => ?_⟩
            · have hj2 : ms[j]? = some (mark M ks i) := by
                rw [List.getElem?_map] at hj
                cases e : ms[j]? with
                | none => rw [e] at hj; cases hj
                | some m =>
                  rw [e] at hj
                  rw [nkey_inj (Option.some.inj hj)]
              have ez : z = V.int (j : Int) := Option.some.inj (hz.symm.trans (idxV_at (List.getElem?_eq_some_iff.mp hj2).1))
              subst ez
              refine ⟨R, _, _, rfl, rfl, eR8, lks, ks' ++ [(j : Int)], ms, qs, _, _, _, rfl, same_in nR0 sm8, by rw [upd_ne kqR]; exact ek8, by rw [upd_ne eDR]; exact eD8, kk8.upd eR8 (fun _ z => by cases z) (fun _ _ z => by cases z), by rw [upd_same, List.map_append]; rfl, kr.old eb hj2⟩
            · have hnm2 : mark M ks i ∉ ms := fun z => hnm (List.mem_map.mpr ⟨_, z, rfl⟩)
              have eR9 : (upd H8 D (KD P w D (ms.map nkey ++ [nkey (mark M ks i)]) (qs ++ [T2]) (idxV ms.length ++ [V.int (((ms.map nkey).length : Nat) : Int)]))) R = some (.lst (ks'.map V.int)) := by
                rw [upd_ne (Ne.symm eDR)]
                exact eR8
              have kk9 : KeysAt K (upd H8 D (KD P w D (ms.map nkey ++ [nkey (mark M ks i)]) (qs ++ [T2]) (idxV ms.length ++ [V.int (((ms.map nkey).length : Nat) : Int)]))) (ms.map nkey ++ [nkey (mark M ks i)]) (qs ++ [T2]) := (kk8.snoc hka).upd eD8 kd_tup kd_frz
              refine ⟨R, _, _, rfl, rfl, eR9, lks, ks' ++ [(ms.length : Int)], ms ++ [mark M ks i], qs ++ [T2], _, _, _, rfl, same_in nR0 (same_in nD0 sm8), by rw [upd_ne kqR, upd_ne kqD]; exact ek8, ?_, ?_, ?_, kr.new eb hnm2⟩
              · rw [upd_ne eDR, upd_same, hmn, List.length_append, List.length_singleton, idxV_succ, List.map_append]
                rfl
              · rw [List.map_append]
                exact kk9.upd eR9 (fun _ z => by cases z) (fun _ _ z => by cases z)
              · rw [upd_same, hmn, List.map_append]
                rfl
      · rintro σ H4 ⟨ks', ms, qs, x2, x7, x8, rfl, sm4, ek4, eD4, kk4, eR4, kr⟩
        rw [hl] at kr
        have hmn : (ms.map nkey).length = ms.length := List.length_map _
        refine ⟨_, rfl, _, rfl, D, _, _, _, rfl, eD4, kk4, _, rfl, rfl, _, rfl, ite2 (fun e => ?_) (fun e => ?_)⟩
        · have e1 := V.int.inj (of_decide_eq_true e)
          rw [hmn] at e1
          exact ⟨_, rfl, q H4 R ks' sm4 nR0 eR4 (kr.stop o uo ki (by omega))⟩
        · have e1 : ¬ (((ms.map nkey).length : Nat) : Int) = (cn : Int) := fun z => e (decide_eq_true (by rw [z]))
          rw [hmn] at e1
          have g1 := kr.ge uo ki
          have g2 := kr.le
          refine ⟨_, rfl, D, _, _, _, rfl, eD4, kk4, ?_⟩
          rw [hmn]
          exact ⟨M.rows.length + 1 - ms.length, by omega, R, ks', ms.length, _, _, _, _, _, rfl, sm4, nR0, eR4, kr.up o uo ki, by omega⟩
end
end Dg
end

section
set_option maxHeartbeats 4000000
namespace Dg
open PySem PySem.Spec PyProof.Rows L2
abbrev sLea : Stmt := top 20
abbrev nLea : List Str := ["machine", "letters", "moves", "accepting", "useful", "kinds", "numbers", "order", "rows", "at", "row", "target", "state"]
theorem scLea : FnScope nLea ["machine"] (defScope sLea) := ⟨rfl, rfl, rfl, by decide +kernel, rfl, by decide +kernel, by decide +kernel⟩
def spLea (K : PySem.W.Frag) : Sp := fun vs H Q _ => ∃ (a : Addr) (M : Mach), vs = [.ref a] ∧ MachAt K H a M ∧ M.Sm ∧
  ∀ H' p m, Same H H' → MachAt K H' p m → Canon M.L m → m.k = M.k → Q (.ref p) H'
/-- the numbers of the kinds -/
structure NumAt (ks : List Int) (od : List Nat) (kvs : List (Key × V)) : Prop where
  len : kvs.length = od.length
  hit : ∀ (j s : Nat), od[j]? = some s → valV kvs (.inl (kd ks (s : Int))) = some (.int (j : Int))
  mis : ∀ (k : Int) (v : V), valV kvs (.inl k) = some v → ∃ s ∈ od, kd ks (s : Int) = k
theorem NumAt.start {ks : List Int} {s : Nat} : NumAt ks [s] [(.inl (kd ks (s : Int)), .int 0)] where
  len := rfl
  hit := fun j t h => by
    have l := (List.getElem?_eq_some_iff.mp h).1
    have e : j = 0 := by simp at l; omega
    subst e
    have e2 : s = t := Option.some.inj h
    subst e2
    exact valV_pos rfl
  mis := fun k v h => by
    by_cases q : (Sum.inl (kd ks (s : Int)) : Key) = .inl k
    · exact ⟨s, by simp, Sum.inl.inj q⟩
    · rw [valV_neg q] at h
      cases h
theorem NumAt.new {ks : List Int} {od : List Nat} {kvs : List (Key × V)} {t : Nat} (h : NumAt ks od kvs) (hn : valV kvs (.inl (kd ks (t : Int))) = none) : NumAt ks (od ++ [t]) (kvs ++ [(.inl (kd ks (t : Int)), .int (od.length : Int))]) where
  len := by rw [List.length_append, List.length_append, h.len]; rfl
  hit := fun j s e => by
    rw [valV_snoc _ _ _ _ hn]
    rcases snoc_at e with ⟨l, e1⟩ | ⟨l, e1⟩
    · rw [if_neg (fun z => by rw [← z, h.hit j s e1] at hn; cases hn)]
      exact h.hit j s e1
    · rw [← e1, if_pos rfl, l]
  mis := fun k v e => by
    rw [valV_snoc _ _ _ _ hn] at e
    by_cases q : (Sum.inl k : Key) = .inl (kd ks (t : Int))
    · exact ⟨t, by simp, (Sum.inl.inj q).symm⟩
    · rw [if_neg q] at e
      obtain ⟨s, h1, h2⟩ := h.mis k v e
      exact ⟨s, List.mem_append_left _ h1, h2⟩
section
variable {M : Mach} {ks : List Int}
theorem kind_at (ko : KindsOk M ks) {s : Nat} (hs : s < M.rows.length) : ks[s]? = some (kd ks (s : Int)) := by
  obtain ⟨v, e⟩ := getE (l := ks) (i := s) (by rw [ko.len]; exact hs)
  rw [e, kd_at e]
theorem kind_neg (ko : KindsOk M ks) {s : Nat} (hs : s < M.rows.length) : kd ks (s : Int) < 0 ↔ M.lang (s : Int) = dead := by
  have e := kind_at ko hs
  constructor
  · intro h
    refine Classical.byContradiction fun z => ?_
    have := ko.ll s _ z e
    omega
  · intro h
    rw [ko.dd s hs h] at e
    have := Option.some.inj e
    omega
theorem kind_eq (ko : KindsOk M ks) {s t : Nat} (hs : s < M.rows.length) (ht : t < M.rows.length) : kd ks (s : Int) = kd ks (t : Int) ↔ M.lang (s : Int) = M.lang (t : Int) := by
  have e1 := kind_at ko hs
  have e2 := kind_at ko ht
  constructor
  · intro h
    rw [h] at e1
    exact ko.eq s t _ e1 e2
  · intro h
    have := ko.lang s t hs ht h
    rw [e1, e2] at this
    exact Option.some.inj this
end
theorem natV_at {l : List Nat} {i s : Nat} (h : l[i]? = some s) : (natV l)[i]? = some (V.int (s : Int)) := by
  rw [natV, List.getElem?_map, h]
  rfl
theorem natV_snoc (l : List Nat) (t : Nat) : natV l ++ [V.int (t : Int)] = natV (l ++ [t]) := by
  rw [natV, natV, List.map_append]
  rfl
theorem intV_snoc (l : List Int) (t : Int) : l.map V.int ++ [V.int t] = (l ++ [t]).map V.int := by
  rw [List.map_append]
  rfl
theorem refV_snoc (l : List Addr) (t : Addr) : l.map V.ref ++ [V.ref t] = (l ++ [t]).map V.ref := by
  rw [List.map_append]
  rfl
/-- rows at addresses: one more -/
theorem RowsAt.snoc {K : PySem.W.Frag} {H : Hp} {ra : List Addr} {rows : List (List Int)} {p : Addr} {r : List Int} (h : RowsAt K H ra rows) (hp : SqT K H p (r.map V.int)) : RowsAt K H (ra ++ [p]) (rows ++ [r]) := by
  refine ⟨by rw [List.length_append, List.length_append, h.1]; rfl, fun i q r' e1 e2 => ?_⟩
  have hl := h.1
  rcases snoc_at e1 with ⟨l1, e1⟩ | ⟨l1, e1⟩
  · rcases snoc_at e2 with ⟨l2, e2⟩ | ⟨l2, e2⟩
    · exact h.2 i q r' e1 e2
    · omega
  · rcases snoc_at e2 with ⟨l2, e2⟩ | ⟨l2, e2⟩
    · omega
    · subst e1 e2
      exact hp
theorem RowsAt.upd {K : PySem.W.Frag} {H : Hp} {ra : List Addr} {rows : List (List Int)} {R : Addr} {o o0 : HO} (h : RowsAt K H ra rows) (hR : H R = some o0) (h1 : ∀ xs, o0 ≠ .tup xs) (h2 : ∀ ob u, o0 ≠ .frz ob u) : RowsAt K (upd H R o) ra rows :=
  ⟨h.1, fun i p r e1 e2 => tup_upd hR h1 h2 (h.2 i p r e1 e2)⟩
theorem lst_tup {ys : List V} (xs : List V) : HO.lst ys ≠ .tup xs := fun z => by cases z
theorem lst_frz {ys : List V} (ob : Obj) (u : HO) : HO.lst ys ≠ .frz ob u := fun z => by cases z
theorem dk_tup {kvs : List (Key × V)} (xs : List V) : HO.dK kvs ≠ .tup xs := fun z => by cases z
theorem dk_frz {kvs : List (Key × V)} (ob : Obj) (u : HO) : HO.dK kvs ≠ .frz ob u := fun z => by cases z
/-- (k, (), ()) -/
theorem emptyMach {K : PySem.W.Frag} {H : Hp} {k : Nat} {Q : VK} {σ : L2.St} {te : TE} (hte : ∀ R : VK, R (.int (k : Int)) H → te σ H R) (q : ∀ H' p, Same H H' → MachAt K H' p ⟨k, [], []⟩ → Q (.ref p) H') : tTup (tCons te (tCons (tTup tNil) (tCons (tTup tNil) tNil))) σ H Q := by
  refine hte _ ?_
  refine ⟨Nat.zero_le _, fun p1 n1 => ⟨Nat.zero_le _, fun p2 n2 => ⟨by show 3 ≤ sizeLine; decide, fun p n3 => ?_⟩⟩⟩
  have s1 : Same H (upd H p1 (.tup [])) := same_upd n1
  have s2 : Same (upd H p1 (.tup [])) (upd (upd H p1 (.tup [])) p2 (.tup [])) := same_upd n2
  have s3 := same_upd (o := .tup [V.int (k : Int), .ref p1, .ref p2]) n3
  exact q _ p ((s1.trans s2).trans s3) ⟨p1, p2, [], ⟨SqT.of upd_same, SqT.of (s3 _ _ (s2 _ _ upd_same)), ⟨rfl, fun i p r e => absurd e (by simp)⟩, SqT.of (s3 _ _ upd_same)⟩⟩
section
variable {P : Program} {w : World} {K : PySem.W.Frag} {mg : Str → Option Value} {base : Heap} {f fU fK : Addr} {fd fdU fdK : FuncData}
theorem ok_lea (F : Fun K "least_machine" "least_machine" sLea f fd) (GU : FnOk P w K mg base CX0 1 fU fdU ["machine"] (spUse K)) (GK : FnOk P w K mg base CX0 1 fK fdK ["machine", "useful"] (spKin K)) (kU : PySem.W.keepIn K (.ref fU) = true) (kK : PySem.W.keepIn K (.ref fK) = true) (bU : Binds K fdU ["machine"] []) (bK : Binds K fdK ["machine", "useful"] [])
    (mU : mg "useful_states" = some (.ref fU)) (mK : mg "kinds_of" = some (.ref fK)) (mt : mg "tuple" = none) (ml : mg "len" = none) : FnOk P w K mg base CX0 2 f fd ["machine"] (spLea K) := by
  refine F.ok scLea (fun vs H Q E h => ?_) (fun cdv A outer s H vs Q E hr h => ?_)
  · obtain ⟨a, M, rfl, _⟩ := h
    rfl
  · obtain ⟨a, M, rfl, hMA, sm, q⟩ := h
    have o := sm.ok
    have hn := sm.n
    have hMA0 := hMA
    obtain ⟨b, c, ra, h⟩ := hMA
    have hu := hu_of hr
    have nd := scLea.nd
    refine ⟨_, pss_cons (ps_asg (pv 0) (pg_tup (by rfl) (pgs_cons (pg_name (i := 1) nd rfl (Or.inl rfl)) (pgs_cons (pg_name (i := 2) nd rfl (Or.inl rfl)) (pgs_cons (pg_name (i := 3) nd rfl (Or.inr rfl)) pgs_nil)))))
      (pss_cons (ps_set (i := 4) nd rfl (Or.inl rfl) (pe_call GU hr (by rfl) mU kU bU .nil pass0 (pa_cons (pv 0) pa_nil)))
      (pss_cons (ps_if (PW.pt (pw_or (pt_cmpR op_eq (pe_callB call_len_seq (by rfl) ml PySem.boot_len (pa_cons (pv 2) pa_nil)) pe_int (nomark _)) (pw_or1 (pt_not (pt_val (pe_ix ix_list (pv 4) pe_int (fun _ _ => rfl)))))))
          (pss_one (ps_ret (pe_tup (pa_cons (pv 1) (pa_cons (pe_tup pa_nil) (pa_cons (pe_tup pa_nil) pa_nil)))))) pss_nil)
      (pss_cons (ps_set (i := 5) nd rfl (Or.inl rfl) (pe_call GK hr (by rfl) mK kK bK .nil pass0 (pa_cons (pv 0) (pa_cons (pv 4) pa_nil))))
      (pss_cons (ps_set (i := 6) nd rfl (Or.inl rfl) (pe_disp (pps_cons (pe_ix ix_list (pv 5) pe_int (fun _ _ => rfl)) pe_int pps_nil) (by rfl) (by rfl) (fun z => by cases z) (by decide)))
      (pss_cons (ps_set (i := 7) nd rfl (Or.inl rfl) (pe_lst (pa_cons pe_int pa_nil)))
      (pss_cons (ps_set (i := 8) nd rfl (Or.inl rfl) (pe_lst pa_nil))
      (pss_cons (ps_set (i := 9) nd rfl (Or.inl rfl) pe_int)
      (pss_cons (ps_while PassesOwn.never (pt_cmpR op_lt (pv 9) (pe_callB call_len_seq (by rfl) ml PySem.boot_len (pa_cons (pv 7) pa_nil)) (nomark _))
        (pss_cons (ps_set (i := 10) nd rfl (Or.inl rfl) (pe_lst pa_nil))
        (pss_cons (ps_for PassesOwn.never rfl (pi_tup (pe_ix ix_tup (pv 2) (pe_ix ix_list (pv 7) (pv 9) (fun _ _ => rfl)) (fun _ _ => rfl))) (pg_name (i := 11) nd rfl (Or.inl rfl))
          (pss_cons (ps_if (PW.pt (pw_or (pt_cmpR op_lt (pv 11) pe_int (nomark _)) (pw_or1 (pt_cmpR op_lt (pe_ix ix_list (pv 5) (pv 11) (fun _ _ => rfl)) pe_int (nomark _)))))
              (pss_cons (ps_expr (pe_bm PySem.F.plainAttrs_list PySem.F.slot_list_append PySem.F.type_list_append mt_append (pv 10) (pa_cons (pe_un un_neg pe_int) pa_nil))) (pss_one ps_continue)) pss_nil)
          (pss_cons (ps_if (pt_cmp (pc_dnotin hu (pe_ix ix_list (pv 5) (pv 11) (fun _ _ => rfl)) (pv 6)))
              (pss_cons (ps_dput hu (pv 6) (pe_ix ix_list (pv 5) (pv 11) (fun _ _ => rfl)) (pe_callB call_len_seq (by rfl) ml PySem.boot_len (pa_cons (pv 7) pa_nil)) rfl)
              (pss_one (ps_expr (pe_bm PySem.F.plainAttrs_list PySem.F.slot_list_append PySem.F.type_list_append mt_append (pv 7) (pa_cons (pv 11) pa_nil))))) pss_nil)
          (pss_one (ps_expr (pe_bm PySem.F.plainAttrs_list PySem.F.slot_list_append PySem.F.type_list_append mt_append (pv 10) (pa_cons (pe_dget hu (pv 6) (pe_ix ix_list (pv 5) (pv 11) (fun _ _ => rfl)) (fun _ _ => rfl)) pa_nil)))))))
        (pss_cons (ps_expr (pe_bm PySem.F.plainAttrs_list PySem.F.slot_list_append PySem.F.type_list_append mt_append (pv 8) (pa_cons (pe_callTy call_tuple_of (by rfl) mt (by decide +kernel) (pa_cons (pv 10) pa_nil)) pa_nil)))
        (pss_one (ps_aug (i := 9) nd rfl (Or.inl rfl) pe_int ip_add))))))
      (pss_one (ps_ret (pe_tup (pa_cons (pv 1) (pa_cons (pe_callTy call_tuple_of (by rfl) mt (by decide +kernel) (pa_cons (pv 8) pa_nil)) (pa_cons (pe_callTy call_tuple_of (by rfl) mt (by decide +kernel) (pa_cons
          (pe_lc (own := [("state", 12)]) (g := gName 12) rfl nd (pi_list (pv 7)) (blkOk_by (N := nLea) (sc := defScope sLea) (by decide +kernel)) (fun _ _ _ _ _ => pg_name (i := 12) nd rfl (Or.inl rfl)) (fun _ _ _ _ _ => pts_nil)
            (fun _ _ _ _ _ => pe_ix (ixT K) (pv 3) (pv 12) (fun _ _ => rfl))) pa_nil)) pa_nil)))))))))))))), ?_⟩
    have hl : (ra.map V.ref).length = M.rows.length := by rw [List.length_map]; exact h.r.1
    refine ⟨_, rfl, a, _, rfl, h.t, rfl, _, _, rfl, _, _, rfl, _, _, rfl, rfl, ?_⟩
    -- useful = useful_states(machine)
    refine ⟨_, rfl, a, M, rfl, hMA0, sm, fun H1 U us s1 nU eU uo => ?_⟩
    have hm1 := h.same s1
    have uol := uo.1
    -- if len(moves) == 0 or not useful[0]
    refine ⟨_, rfl, b, _, rfl, .inr hm1.b, rfl, _, rfl, ite2 (fun e => ?_) (fun e => ?_)⟩
    · have e1 := V.int.inj (of_decide_eq_true e)
      have hi : M.init = -1 := if_neg (by omega)
      have hd : M.L = dead := by show M.lang M.init = dead; rw [hi]; exact lang_dead (by omega)
      refine emptyMach (K := K) (k := M.k) (fun R r => ⟨_, rfl, r⟩) fun H' p s' hp => ?_
      exact q H' p _ (s1.trans s') hp (by rw [hd]; exact Canon.empty _) rfl
    have e1 : ¬ (((ra.map V.ref).length : Nat) : Int) = 0 := fun z => e (decide_eq_true (by rw [z]))
    have hn0 : 0 < M.rows.length := by omega
    have hi : M.init = 0 := if_pos hn0
    obtain ⟨u0, eu0⟩ := getE (l := us) (i := 0) (by rw [uol]; exact hn0)
    refine ⟨_, rfl, U, _, 0, .bl u0, rfl, rfl, SqL.of eU, atT (j := 0) rfl (getI eu0), _, rfl, ?_⟩
    cases u0 with
    | false =>
      have hd : M.L = dead := by
        show M.lang M.init = dead
        rw [hi]
        rcases us_at uo hn0 with ⟨z, _⟩ | ⟨_, z⟩
        · rw [eu0] at z
          cases z
        · exact z
      refine emptyMach (K := K) (k := M.k) (fun R r => ⟨_, rfl, r⟩) fun H' p s' hp => ?_
      exact q H' p _ (s1.trans s') hp (by rw [hd]; exact Canon.empty _) rfl
    | true =>
    have hlive : M.lang ((0 : Nat) : Int) ≠ dead := (uo.2 0 hn0).mp eu0
    -- kinds = kinds_of(machine, useful)
    refine ⟨_, rfl, _, rfl, a, U, M, us, rfl, hMA0.same s1, sm, SqL.of eU, uo, fun H2 Kp ks s2 nKp1 eKp ko => ?_⟩
    have nKp := s1.free nKp1
    have s02 := s1.trans s2
    -- numbers = {kinds[0]: 0}; order = [0]; rows = []
    intro D nD
    have s3 : Same H2 (upd H2 D (.dK [])) := same_upd nD
    refine ⟨_, rfl, Kp, _, 0, .int (kd ks ((0 : Nat) : Int)), rfl, rfl, SqL.of (s3 _ _ eKp), atT (j := 0) rfl (getI (kind_at ko hn0)), upd_same, [(.inl (kd ks ((0 : Nat) : Int)), .int 0)], rfl, by show 1 ≤ 15; decide, ?_⟩
    rw [upd_upd]
    have eD3 : (upd H2 D (.dK (mergeK [] [(Sum.inl (kd ks ((0 : Nat) : Int)), V.int 0)]))) D = some (.dK [(Sum.inl (kd ks ((0 : Nat) : Int)), V.int 0)]) := upd_same
    have s4 : Same H2 (upd H2 D (.dK (mergeK [] [(Sum.inl (kd ks ((0 : Nat) : Int)), V.int 0)]))) := same_upd nD
    have nD0 := s02.free nD
    generalize upd H2 D (.dK (mergeK [] [(Sum.inl (kd ks ((0 : Nat) : Int)), V.int 0)])) = H3 at eD3 s4 ⊢
    refine ⟨by show 1 ≤ sizeLine; decide, fun O nO => ?_⟩
    have s5 : Same H3 (upd H3 O (.lst [V.int 0])) := same_upd nO
    have eO4 : (upd H3 O (.lst [V.int 0])) O = some (.lst [V.int 0]) := upd_same
    have nO0 := (s02.trans s4).free nO
    generalize upd H3 O (.lst [V.int 0]) = H4 at s5 eO4 ⊢
    refine ⟨Nat.zero_le _, fun R nR => ?_⟩
    have s6 : Same H4 (upd H4 R (.lst [])) := same_upd nR
    have eR5 : (upd H4 R (.lst [])) R = some (.lst []) := upd_same
    have nR0 := ((s02.trans s4).trans s5).free nR
    have eOR : O ≠ R := ne_of_none eO4 nR
    have eDO : D ≠ O := ne_of_none eD3 nO
    have eDR : D ≠ R := ne_of_none (s5 _ _ eD3) nR
    have eKD : Kp ≠ D := ne_of_none eKp nD
    have eKO : Kp ≠ O := ne_of_none (s4 _ _ eKp) nO
    have eKR : Kp ≠ R := ne_of_none (s5 _ _ (s4 _ _ eKp)) nR
    have eK5 := s6 _ _ (s5 _ _ (s4 _ _ eKp))
    have eD5 := s6 _ _ (s5 _ _ eD3)
    have eO5 := s6 _ _ eO4
    have s05 := ((s02.trans s4).trans s5).trans s6
    generalize upd H4 R (.lst []) = H5 at s6 eR5 eK5 eD5 eO5 s05 ⊢
    clear s3 s4 s5 s6 eD3 eO4 nR nO nD
    -- while at < len(order)
    refine ⟨fun m σ H' => ∃ od kvs rs rows x10 x11, σ = [some (.ref a), some (.int (M.k : Int)), some (.ref b), some (.ref c), some (.ref U), some (.ref Kp), some (.ref D), some (.ref O), some (.ref R), some (.int ((rows.length : Nat) : Int)), x10, x11, none] ∧ Same H H' ∧ H' Kp = some (.lst (ks.map V.int)) ∧
        H' D = some (.dK kvs) ∧ H' O = some (.lst (natV od)) ∧ H' R = some (.lst (rs.map V.ref)) ∧ RowsAt K H' rs rows ∧ NumAt ks od kvs ∧ Bf M od rows [] ∧ m + rows.length = M.rows.length + 1,
      ⟨M.rows.length + 1, [0], _, [], [], none, none, rfl, s05, eK5, eD5, eO5, eR5, ⟨rfl, fun i p r e => absurd e (by simp)⟩, NumAt.start (s := 0), Bf.start hn0 hlive, rfl⟩, fun m σ H6 hW => ?_⟩
    obtain ⟨od, kvs, rs, rows, x10, x11, rfl, s6, eK6, eD6, eO6, eR6, ra6, na, bf, em⟩ := hW
    have hodl : (natV od).length = od.length := List.length_map _
    have hods := bf.size
    refine ⟨_, rfl, _, rfl, O, _, rfl, .inl (SqL.of eO6), _, _, rfl, rfl, _, rfl, ite2 (fun e => ?_) (fun e => ?_)⟩
    · have e1 := of_decide_eq_true e
      have hlt : rows.length < od.length := by omega
      refine ⟨fun σ' H' => ∃ m', m' < m ∧ ∃ od kvs rs rows x10 x11, σ' = [some (.ref a), some (.int (M.k : Int)), some (.ref b), some (.ref c), some (.ref U), some (.ref Kp), some (.ref D), some (.ref O), some (.ref R), some (.int ((rows.length : Nat) : Int)), x10, x11, none] ∧ Same H H' ∧ H' Kp = some (.lst (ks.map V.int)) ∧
        H' D = some (.dK kvs) ∧ H' O = some (.lst (natV od)) ∧ H' R = some (.lst (rs.map V.ref)) ∧ RowsAt K H' rs rows ∧ NumAt ks od kvs ∧ Bf M od rows [] ∧ m' + rows.length = M.rows.length + 1, fun _ _ z => z, ?_⟩
      -- row = []
      refine ⟨Nat.zero_le _, fun W nW => ?_⟩
      have s7 : Same H6 (upd H6 W (.lst [])) := same_upd nW
      have eW7 : (upd H6 W (.lst [])) W = some (.lst []) := upd_same
      have nW0 := s6.free nW
      have eOW : O ≠ W := ne_of_none eO6 nW
      have eDW : D ≠ W := ne_of_none eD6 nW
      have eRW : R ≠ W := ne_of_none eR6 nW
      have eKW : Kp ≠ W := ne_of_none eK6 nW
      have s07 := s6.trans s7
      have eK7 := s7 _ _ eK6
      have eD7 := s7 _ _ eD6
      have eO7 := s7 _ _ eO6
      have eR7 := s7 _ _ eR6
      have ra7 := ra6.same s7
      generalize upd H6 W (.lst []) = H7 at s7 eW7 s07 eK7 eD7 eO7 eR7 ra7 ⊢
      obtain ⟨st, est⟩ := getE hlt
      have hstM : st < M.rows.length := (bf.live st (List.mem_of_getElem? est)).1
      obtain ⟨p, _, h2, h3⟩ := h.row hstM
      have hm7 := h.same s07
      refine ⟨_, rfl, _, rfl, _, rfl, O, _, _, _, rfl, rfl, SqL.of eO7, atT rfl (natV_at est), b, _, _, .ref p, rfl, rfl, hm7.b, atT rfl h2, p, rfl, ⟨_, Same.tup s07 h3⟩, ?_⟩
      have hrl : (M.rows[st].map V.int).length = M.k := by rw [List.length_map]; exact o.row _ (List.getElem_mem hstM)
      refine for_tup (K := K) (a := p) (xs := M.rows[st].map V.int) (fun b' σ H' => ∃ od kvs row x11, σ = [some (.ref a), some (.int (M.k : Int)), some (.ref b), some (.ref c), some (.ref U), some (.ref Kp), some (.ref D), some (.ref O), some (.ref R), some (.int ((rows.length : Nat) : Int)), some (.ref W), x11, none] ∧ Same H H' ∧ H' Kp = some (.lst (ks.map V.int)) ∧
          H' D = some (.dK kvs) ∧ H' O = some (.lst (natV od)) ∧ H' R = some (.lst (rs.map V.ref)) ∧ H' W = some (.lst (row.map V.int)) ∧ RowsAt K H' rs rows ∧ NumAt ks od kvs ∧ Bf M od rows row ∧ row.length = b' ∧ od[rows.length]? = some st)
        ⟨od, kvs, [], x11, rfl, s07, eK7, eD7, eO7, eR7, eW7, ra7, na, bf, rfl, est⟩ (fun b' σ H' _ ⟨_, _, _, _, _, y, _⟩ => Same.tup y h3) ?_ ?_
      · rintro b' x σ H8 hx ⟨od, kvs, row, x11, rfl, s8, eK8, eD8, eO8, eR8, eW8, ra8, na, bf, erow, est⟩
        have hb : b' < M.k := by
          have := (List.getElem?_eq_some_iff.mp hx).1
          omega
        rw [nxt_get o hstM hb] at hx
        have hx1 := Option.some.inj hx
        subst hx1
        have rg := nxt_rng o (st : Int) b'
        have hrs : (row.map V.int).length < sizeLine := by rw [List.length_map, erow]; exact small1000 (by have := sm.k; omega)
        have hod8 := bf.size
        -- the row grows
        have grow : ∀ (od' : List Nat) (kvs' : List (Key × V)) (H9 : Hp) (z : Int), Same H H9 → H9 Kp = some (.lst (ks.map V.int)) → H9 D = some (.dK kvs') → H9 O = some (.lst (natV od')) → H9 R = some (.lst (rs.map V.ref)) → H9 W = some (.lst (row.map V.int)) → RowsAt K H9 rs rows → NumAt ks od' kvs' → Bf M od' rows row → od'[rows.length]? = some st → Ent M od' st row.length z →
            ∃ od kvs row2 x11, ([some (.ref a), some (.int (M.k : Int)), some (.ref b), some (.ref c), some (.ref U), some (.ref Kp), some (.ref D), some (.ref O), some (.ref R), some (.int ((rows.length : Nat) : Int)), some (.ref W), some (.int (M.nxt (st : Int) b')), none] : L2.St) = [some (.ref a), some (.int (M.k : Int)), some (.ref b), some (.ref c), some (.ref U), some (.ref Kp), some (.ref D), some (.ref O), some (.ref R), some (.int ((rows.length : Nat) : Int)), some (.ref W), x11, none] ∧ Same H (upd H9 W (.lst (row.map V.int ++ [V.int z]))) ∧ (upd H9 W (.lst (row.map V.int ++ [V.int z]))) Kp = some (.lst (ks.map V.int)) ∧
              (upd H9 W (.lst (row.map V.int ++ [V.int z]))) D = some (.dK kvs) ∧ (upd H9 W (.lst (row.map V.int ++ [V.int z]))) O = some (.lst (natV od)) ∧ (upd H9 W (.lst (row.map V.int ++ [V.int z]))) R = some (.lst (rs.map V.ref)) ∧ (upd H9 W (.lst (row.map V.int ++ [V.int z]))) W = some (.lst (row2.map V.int)) ∧ RowsAt K (upd H9 W (.lst (row.map V.int ++ [V.int z]))) rs rows ∧ NumAt ks od kvs ∧ Bf M od rows row2 ∧ row2.length = b' + 1 ∧ od[rows.length]? = some st := by
          intro od' kvs' H9 z s9 eK9 eD9 eO9 eR9 eW9 ra9 na9 bf9 est9 ent9
          exact ⟨od', kvs', row ++ [z], _, rfl, same_in nW0 s9, by rw [upd_ne eKW]; exact eK9, by rw [upd_ne eDW]; exact eD9, by rw [upd_ne eOW]; exact eO9, by rw [upd_ne eRW]; exact eR9, by rw [upd_same, intV_snoc], ra9.upd eW9 lst_tup lst_frz, na9, bf9.push est9 ent9, by rw [List.length_append, erow]; rfl, est9⟩
        -- target < 0 or kinds[target] < 0
        refine ⟨_, rfl, _, _, rfl, rfl, _, rfl, ite2 (fun e => ?_) (fun e => ?_)⟩
        · have e1 : M.nxt (st : Int) b' < 0 := of_decide_eq_true e
          refine ⟨_, rfl, .inl ⟨rfl, _, SqL.of eW8⟩, _, rfl, W, _, _, rfl, rfl, eW8, hrs, ?_⟩
          exact grow od kvs H8 (-1) s8 eK8 eD8 eO8 eR8 eW8 ra8 na bf est (.inl ⟨rfl, by rw [erow]; exact lang_dead e1⟩)
        · have e1 : ¬ M.nxt (st : Int) b' < 0 := fun z => e (decide_eq_true z)
          obtain ⟨t, et⟩ : ∃ t : Nat, M.nxt (st : Int) b' = (t : Int) := ⟨_, (Int.toNat_of_nonneg (by omega)).symm⟩
          rw [et] at rg grow ⊢
          have htM : t < M.rows.length := by omega
          have ekt := getI (f := V.int) (kind_at ko htM)
          refine ⟨_, rfl, _, rfl, Kp, _, _, .int (kd ks (t : Int)), rfl, rfl, SqL.of eK8, atT rfl ekt, _, _, rfl, rfl, _, rfl, ite2 (fun e2 => ?_) (fun e2 => ?_)⟩
          · have e3 : kd ks (t : Int) < 0 := of_decide_eq_true e2
            refine ⟨_, rfl, .inl ⟨rfl, _, SqL.of eW8⟩, _, rfl, W, _, _, rfl, rfl, eW8, hrs, ?_⟩
            exact grow od kvs H8 (-1) s8 eK8 eD8 eO8 eR8 eW8 ra8 na bf est (.inl ⟨rfl, by rw [erow, et]; exact (kind_neg ko htM).mp e3⟩)
          · have e3 : ¬ kd ks (t : Int) < 0 := fun z => e2 (decide_eq_true z)
            have hlt2 : M.lang (t : Int) ≠ dead := fun z => e3 ((kind_neg ko htM).mpr z)
            -- if kinds[target] not in numbers
            refine ⟨_, rfl, _, rfl, Kp, _, _, .int (kd ks (t : Int)), rfl, rfl, SqL.of eK8, atT rfl ekt, _, rfl, D, _, rfl, DGet.k (k := Sum.inl (kd ks (t : Int))) eD8, _, rfl, ?_⟩
            cases ev : valV kvs (Sum.inl (kd ks (t : Int))) with
            | some v =>
              obtain ⟨s', hs', es'⟩ := na.mis _ _ ev
              obtain ⟨j, hj⟩ := List.mem_iff_getElem?.mp hs'
              have hs'M := (bf.live s' hs').1
              have ev2 := na.hit j s' hj
              rw [es', ev] at ev2
              have ev3 : v = V.int (j : Int) := Option.some.inj ev2
              subst ev3
              -- row.append(numbers[..])
              refine ⟨_, rfl, .inl ⟨rfl, _, SqL.of eW8⟩, _, rfl, _, rfl, _, rfl, Kp, _, _, .int (kd ks (t : Int)), rfl, rfl, SqL.of eK8, atT rfl ekt, D, _, rfl, (by have g := DGet.k (k := Sum.inl (kd ks (t : Int))) eD8; rw [ev] at g; exact g), W, _, _, rfl, rfl, eW8, hrs, ?_⟩
              exact grow od kvs H8 (j : Int) s8 eK8 eD8 eO8 eR8 eW8 ra8 na bf est (.inr ⟨j, s', rfl, hj, by rw [erow, et]; exact (kind_eq ko hs'M htM).mp es'⟩)
            | none =>
              have hnin : ∀ u ∈ od, M.lang (u : Int) ≠ M.lang (t : Int) := fun u hu z => by
                obtain ⟨j, hj⟩ := List.mem_iff_getElem?.mp hu
                have := na.hit j u hj
                rw [(kind_eq ko (bf.live u hu).1 htM).mpr z, ev] at this
                cases this
              have bf2 := bf.new est (by omega) (by rw [erow]; exact et) htM hlt2 hnin
              have na2 := na.new ev
              have hk2 : kvs.length < sizeLine := by rw [na.len]; exact small1000 (by omega)
              have hodl8 : (natV od).length = od.length := List.length_map _
              -- numbers[..] = len(order)
              refine ⟨_, rfl, O, _, rfl, .inl (SqL.of eO8), _, rfl, _, rfl, _, rfl, Kp, _, _, .int (kd ks (t : Int)), rfl, rfl, SqL.of eK8, atT rfl ekt, D, _, rfl, DPut.k (k := Sum.inl (kd ks (t : Int))) eD8 hk2, ?_⟩
              rw [putK_new _ ev, hodl8]
              have s9 : Same H (upd H8 D (.dK (kvs ++ [(Sum.inl (kd ks (t : Int)), V.int (od.length : Int))]))) := same_in nD0 s8
              have eD9 : (upd H8 D (.dK (kvs ++ [(Sum.inl (kd ks (t : Int)), V.int (od.length : Int))]))) D = _ := upd_same
              have eK9 : (upd H8 D (.dK (kvs ++ [(Sum.inl (kd ks (t : Int)), V.int (od.length : Int))]))) Kp = _ := (upd_ne eKD).trans eK8
              have eO9 : (upd H8 D (.dK (kvs ++ [(Sum.inl (kd ks (t : Int)), V.int (od.length : Int))]))) O = _ := (upd_ne (Ne.symm eDO)).trans eO8
              have eR9 : (upd H8 D (.dK (kvs ++ [(Sum.inl (kd ks (t : Int)), V.int (od.length : Int))]))) R = _ := (upd_ne (Ne.symm eDR)).trans eR8
              have eW9 : (upd H8 D (.dK (kvs ++ [(Sum.inl (kd ks (t : Int)), V.int (od.length : Int))]))) W = _ := (upd_ne (Ne.symm eDW)).trans eW8
              have ra9 := ra8.upd (o := .dK (kvs ++ [(Sum.inl (kd ks (t : Int)), V.int (od.length : Int))])) eD8 dk_tup dk_frz
              generalize upd H8 D (.dK (kvs ++ [(Sum.inl (kd ks (t : Int)), V.int (od.length : Int))])) = H9 at s9 eD9 eK9 eO9 eR9 eW9 ra9 ⊢
              -- order.append(target)
              refine ⟨_, rfl, .inl ⟨rfl, _, SqL.of eO9⟩, _, rfl, O, _, _, rfl, rfl, eO9, by rw [hodl8]; exact small1000 (by omega), ?_⟩
              rw [natV_snoc]
              have s10 : Same H (upd H9 O (.lst (natV (od ++ [t])))) := same_in nO0 s9
              have eO10 : (upd H9 O (.lst (natV (od ++ [t])))) O = _ := upd_same
              have eK10 : (upd H9 O (.lst (natV (od ++ [t])))) Kp = _ := (upd_ne eKO).trans eK9
              have eD10 : (upd H9 O (.lst (natV (od ++ [t])))) D = _ := (upd_ne eDO).trans eD9
              have eR10 : (upd H9 O (.lst (natV (od ++ [t])))) R = _ := (upd_ne (Ne.symm eOR)).trans eR9
              have eW10 : (upd H9 O (.lst (natV (od ++ [t])))) W = _ := (upd_ne (Ne.symm eOW)).trans eW9
              have ra10 := ra9.upd (o := .lst (natV (od ++ [t]))) eO9 lst_tup lst_frz
              generalize upd H9 O (.lst (natV (od ++ [t]))) = H10 at s10 eO10 eK10 eD10 eR10 eW10 ra10 ⊢
              have hj : (od ++ [t])[od.length]? = some t := by rw [List.getElem?_append_right (Nat.le_refl _), Nat.sub_self]; rfl
              refine ⟨_, rfl, .inl ⟨rfl, _, SqL.of eW10⟩, _, rfl, _, rfl, _, rfl, Kp, _, _, .int (kd ks (t : Int)), rfl, rfl, SqL.of eK10, atT rfl ekt, D, _, rfl, (by have g := DGet.k (k := Sum.inl (kd ks (t : Int))) eD10; rw [na2.hit _ _ hj] at g; exact g), W, _, _, rfl, rfl, eW10, hrs, ?_⟩
              refine grow (od ++ [t]) _ H10 (od.length : Int) s10 eK10 eD10 eO10 eR10 eW10 ra10 na2 bf2 ?_ (.inr ⟨od.length, t, rfl, hj, by rw [erow, et]⟩)
              rw [List.getElem?_append_left (List.getElem?_eq_some_iff.mp est).1]
              exact est
      · rintro σ H8 ⟨od, kvs, row, x11, rfl, s8, eK8, eD8, eO8, eR8, eW8, ra8, na, bf, erow, est⟩
        rw [hrl] at erow
        have hlt8 := (List.getElem?_eq_some_iff.mp est).1
        -- rows.append(tuple(row))
        refine ⟨_, rfl, .inl ⟨rfl, _, SqL.of eR8⟩, _, rfl, W, _, rfl, .inl ⟨SqL.of eW8, fun T nT => ?_⟩⟩
        have s9 : Same H8 (upd H8 T (.tup (row.map V.int))) := same_upd nT
        have eT9 : (upd H8 T (.tup (row.map V.int))) T = some (.tup (row.map V.int)) := upd_same
        have eK9 := s9 _ _ eK8
        have eD9 := s9 _ _ eD8
        have eO9 := s9 _ _ eO8
        have eR9 := s9 _ _ eR8
        have ra9 := (ra8.same s9).snoc (SqT.of eT9)
        have s09 := s8.trans s9
        generalize upd H8 T (.tup (row.map V.int)) = H9 at s9 eT9 eK9 eD9 eO9 eR9 ra9 s09 ⊢
        have hrsl : rs.length = rows.length := ra8.1
        have hod8 := bf.size
        refine ⟨R, _, _, rfl, rfl, eR9, by rw [List.length_map, hrsl]; exact small1000 (by omega), ?_⟩
        refine ⟨_, rfl, _, _, rfl, rfl, m - 1, by omega, od, kvs, rs ++ [T], rows ++ [row], _, _, by rw [List.length_append]; rfl, same_in nR0 s09, by rw [upd_ne eKR]; exact eK9, by rw [upd_ne eDR]; exact eD9, by rw [upd_ne eOR]; exact eO9, by rw [upd_same, refV_snoc], ra9.upd eR9 lst_tup lst_frz, na, bf.endrow hlt8 erow, ?_⟩
        rw [List.length_append, List.length_singleton]
        omega
    · have e1 : ¬ ((rows.length : Nat) : Int) < (((natV od).length : Nat) : Int) := fun z => e (decide_eq_true z)
      have can := bf.done o (by omega)
      -- return (letters, tuple(rows), tuple([..]))
      refine ⟨_, rfl, _, rfl, R, _, rfl, .inl ⟨SqL.of eR6, fun T1 nT1 => ?_⟩⟩
      have s7 : Same H6 (upd H6 T1 (.tup (rs.map V.ref))) := same_upd nT1
      have eT1 : (upd H6 T1 (.tup (rs.map V.ref))) T1 = some (.tup (rs.map V.ref)) := upd_same
      have s07 := s6.trans s7
      have eO7 := s7 _ _ eO6
      have ra7 := ra6.same s7
      generalize upd H6 T1 (.tup (rs.map V.ref)) = H7 at s7 eT1 s07 eO7 ra7 ⊢
      refine ⟨_, rfl, O, rfl, ⟨_, SqL.of eO7⟩, fun L nL => ?_⟩
      have hm7 := h.same s07
      refine lc_list (K := K) (a := O) (xs := natV od) (fun i H' => H' = upd H7 L (.lst (((od.take i).map fun s => M.acc.getD s false).map V.bl))) rfl (fun i H' _ e => by rw [e]; exact SqL.of ((upd_ne (ne_of_none eO7 nL)).trans eO7)) ?_ ?_
      · rintro i x H' hx rfl
        obtain ⟨s', es'⟩ := getE (l := od) (i := i) (by have := (List.getElem?_eq_some_iff.mp hx).1; omega)
        have hx1 : V.int (s' : Int) = x := Option.some.inj ((natV_at es').symm.trans hx)
        subst hx1
        have hs'M := (bf.live s' (List.mem_of_getElem? es')).1
        obtain ⟨bv, ebv⟩ := getE (l := M.acc) (i := s') (by rw [o.acc]; exact hs'M)
        refine ⟨rfl, _, rfl, _, rfl, c, _, _, .bl bv, rfl, rfl, Same.tup (same_upd nL) hm7.c, atT rfl (getI ebv), _, upd_same, ?_, ?_⟩
        · rw [List.length_map, List.length_map, List.length_take]
          exact Nat.lt_of_le_of_lt (Nat.min_le_left _ _) (small1000 (by have := (List.getElem?_eq_some_iff.mp es').1; omega))
        · rw [upd_upd, List.take_add_one, es', List.map_append, List.map_append]
          show upd H7 L (.lst (_ ++ [V.bl bv])) = upd H7 L (.lst (_ ++ [V.bl (M.acc.getD s' false)]))
          rw [List.getD_eq_getElem?_getD, ebv]
          rfl
      · rintro H8 rfl
        rw [List.take_of_length_le (by rw [hodl]; exact Nat.le_refl _)]
        have s8 : Same H7 (upd H7 L (.lst ((od.map fun s => M.acc.getD s false).map V.bl))) := same_upd nL
        have eL8 : (upd H7 L (.lst ((od.map fun s => M.acc.getD s false).map V.bl))) L = _ := upd_same
        generalize upd H7 L (.lst ((od.map fun s => M.acc.getD s false).map V.bl)) = H8 at s8 eL8 ⊢
        refine ⟨L, _, rfl, .inl ⟨SqL.of eL8, fun T2 nT2 => ?_⟩⟩
        have s9 : Same H8 (upd H8 T2 (.tup ((od.map fun s => M.acc.getD s false).map V.bl))) := same_upd nT2
        have eT2 : (upd H8 T2 (.tup ((od.map fun s => M.acc.getD s false).map V.bl))) T2 = _ := upd_same
        generalize upd H8 T2 (.tup ((od.map fun s => M.acc.getD s false).map V.bl)) = H9 at s9 eT2 ⊢
        refine ⟨by show 3 ≤ sizeLine; decide, fun T3 nT3 => ?_⟩
        have s10 := same_upd (o := .tup [V.int (M.k : Int), .ref T1, .ref T2]) nT3
        have st := (s8.trans s9).trans s10
        refine q _ T3 ⟨M.k, rows, od.map fun s => M.acc.getD s false⟩ (s07.trans st) ⟨T1, T2, rs, ⟨SqT.of upd_same, SqT.of (st _ _ eT1), ra7.same st, SqT.of (s10 _ _ eT2)⟩⟩ ?_ rfl
        show Canon (M.lang M.init) _
        rw [hi]
        exact can
end
end Dg
end

section
set_option maxHeartbeats 4000000
namespace Dg
open PySem PySem.Spec PyProof.Rows L2
abbrev sAcs : Stmt := top 17
abbrev nAcs : List Str := ["machine", "word", "letters", "moves", "accepting", "state", "letter"]
theorem scAcs : FnScope nAcs ["machine", "word"] (defScope sAcs) := ⟨rfl, rfl, rfl, by decide +kernel, rfl, by decide +kernel, by decide +kernel⟩
def spAcs (K : PySem.W.Frag) : Sp := fun vs H Q _ => ∃ (a u : Addr) (M : Mach) (ws : List Nat), vs = [.ref a, .ref u] ∧ MachAt K H a M ∧ M.Ok ∧ SqL K H u (natV ws) ∧ Q (.bl (M.L ws)) H
section
variable {P : Program} {w : World} {K : PySem.W.Frag} {mg : Str → Option Value} {base : Heap} {f : Addr} {fd : FuncData}
theorem ok_acs (F : Fun K "accepts" "accepts" sAcs f fd) (ml : mg "len" = none) : FnOk P w K mg base CX0 1 f fd ["machine", "word"] (spAcs K) := by
  refine F.ok scAcs (fun vs H Q E h => ?_) (fun cdv A outer s H vs Q E hr h => ?_)
  · obtain ⟨a, u, M, ws, rfl, _⟩ := h
    rfl
  · obtain ⟨a, u, M, ws, rfl, ⟨b, c, ra, h⟩, o, hw, q⟩ := h
    have nd := scAcs.nd
    refine ⟨_, pss_cons (ps_asg (pv 0) (pg_tup (by rfl) (pgs_cons (pg_name (i := 2) nd rfl (Or.inl rfl)) (pgs_cons (pg_name (i := 3) nd rfl (Or.inl rfl)) (pgs_cons (pg_name (i := 4) nd rfl (Or.inl rfl)) pgs_nil)))))
      (pss_cons (ps_if (pt_cmpR op_eq (pe_callB call_len_seq (by rfl) ml PySem.boot_len (pa_cons (pv 3) pa_nil)) pe_int (nomark _)) (pss_one (ps_ret pe_bl)) pss_nil)
      (pss_cons (ps_set (i := 5) nd rfl (Or.inl rfl) pe_int)
      (pss_cons (ps_for PassesOwn.never rfl (pi_list (pv 1)) (pg_name (i := 6) nd rfl (Or.inl rfl))
        (pss_cons (ps_if (PW.pt (pw_or (pt_cmpR op_lt (pv 6) pe_int (nomark _)) (pw_or (pt_cmpR op_ge (pv 6) (pv 2) (nomark _)) (pw_or1 (pt_cmpR op_lt (pe_ix ix_tup (pe_ix ix_tup (pv 3) (pv 5) (fun _ _ => rfl)) (pv 6) (fun _ _ => rfl)) pe_int (nomark _))))))
            (pss_one (ps_ret pe_bl)) pss_nil)
        (pss_one (ps_set (i := 5) nd rfl (Or.inl rfl) (pe_ix ix_tup (pe_ix ix_tup (pv 3) (pv 5) (fun _ _ => rfl)) (pv 6) (fun _ _ => rfl))))))
      (pss_one (ps_ret (pe_ix ix_tup (pv 4) (pv 5) (fun _ _ => rfl))))))), ?_⟩
    have hl : (ra.map V.ref).length = M.rows.length := by rw [List.length_map]; exact h.r.1
    refine ⟨_, rfl, a, _, rfl, h.t, rfl, _, _, rfl, _, _, rfl, _, _, rfl, rfl, ?_⟩
    refine ⟨_, rfl, b, _, rfl, .inr h.b, rfl, _, rfl, ite2 (fun e => ?_) (fun e => ?_)⟩
    · have e1 := V.int.inj (of_decide_eq_true e)
      have hi : M.init = -1 := if_neg (by omega)
      have hd : M.L ws = false := by show M.lang M.init ws = false; rw [hi]; exact lang_neg (by omega) ws
      rw [hd] at q
      exact q
    have e1 : ¬ (((ra.map V.ref).length : Nat) : Int) = 0 := fun z => e (decide_eq_true (by rw [z]))
    have hi : M.init = ((0 : Nat) : Int) := if_pos (by omega)
    refine ⟨_, rfl, u, rfl, ⟨_, hw⟩, ?_⟩
    refine for_list (K := K) (a := u) (xs := natV ws) (fun i σ H' => H' = H ∧ ∃ (s : Nat) (x6 : _), σ = [some (.ref a), some (.ref u), some (.int (M.k : Int)), some (.ref b), some (.ref c), some (.int (s : Int)), x6] ∧ s < M.rows.length ∧ M.L ws = M.lang (s : Int) (ws.drop i))
      ⟨rfl, 0, none, rfl, by omega, by show M.lang M.init ws = _; rw [hi]; rfl⟩ (fun i σ H' _ ⟨e, _⟩ => by rw [e]; exact hw) ?_ ?_
    · rintro i x σ H' hx ⟨rfl, s, x6, rfl, hs, hL⟩
      have hiw : i < ws.length := by
        have := (List.getElem?_eq_some_iff.mp hx).1
        rw [List.length_map] at this
        exact this
      have ew := List.getElem?_eq_getElem hiw
      rw [List.drop_eq_getElem_cons hiw, lang_cons] at hL
      rw [natV_at ew] at hx
      have hx1 := Option.some.inj hx
      subst hx1
      generalize ws[i] = l at hL ⊢
      obtain ⟨p, _, h2, h3⟩ := h.row hs
      have stop : M.nxt (s : Int) l < 0 → Q (.bl false) H' := fun z => by
        rw [hL, lang_neg z] at q
        exact q
      refine ⟨_, rfl, _, _, rfl, rfl, _, rfl, ite2 (fun e => ?_) (fun e => ?_)⟩
      · have := of_decide_eq_true e
        exact absurd this (by omega)
      refine ⟨_, rfl, _, rfl, _, _, rfl, rfl, _, rfl, ite2 (fun e2 => ?_) (fun e2 => ?_)⟩
      · have e3 := of_decide_eq_true e2
        exact stop (by rw [nxt_out o (by omega)]; omega)
      · have e3 : ¬ (M.k : Int) ≤ (l : Int) := fun z => e2 (decide_eq_true z)
        have hlk : l < M.k := by omega
        have rg := nxt_rng o (s : Int) l
        refine ⟨_, rfl, _, rfl, b, _, _, .ref p, rfl, rfl, h.b, atT rfl h2, _, rfl, p, _, _, _, rfl, rfl, h3, atT rfl (nxt_get o hs hlk), _, _, rfl, rfl, _, rfl, ite2 (fun e4 => ?_) (fun e4 => ?_)⟩
        · exact stop (of_decide_eq_true e4)
        · have e5 : ¬ M.nxt (s : Int) l < 0 := fun z => e4 (decide_eq_true z)
          obtain ⟨t, et⟩ : ∃ t : Nat, M.nxt (s : Int) l = (t : Int) := ⟨_, (Int.toNat_of_nonneg (by omega)).symm⟩
          refine ⟨_, rfl, _, rfl, b, _, _, .ref p, rfl, rfl, h.b, atT rfl h2, _, rfl, p, _, _, _, rfl, rfl, h3, atT rfl (nxt_get o hs hlk), ?_⟩
          rw [et] at hL rg ⊢
          exact ⟨rfl, t, _, rfl, by omega, hL⟩
    · rintro σ H' ⟨rfl, s, x6, rfl, hs, hL⟩
      rw [show (natV ws).length = ws.length from List.length_map _, List.drop_length, lang_nil] at hL
      refine ⟨_, rfl, _, rfl, c, _, _, _, rfl, rfl, h.c, atT rfl (fin_get o hs), ?_⟩
      rw [hL] at q
      exact q
end
end Dg
end

section
set_option maxHeartbeats 4000000
namespace Dg
open PySem PySem.Spec PyProof.Rows L2
abbrev sCnt : Stmt := top 21
abbrev nCnt : List Str := ["machine", "length", "counts", "_", "after", "state", "row", "target"]
theorem scCnt : FnScope nCnt ["machine", "length"] (defScope sCnt) := ⟨rfl, rfl, rfl, by decide +kernel, rfl, by decide +kernel, by decide +kernel⟩
def spCnt (K : PySem.W.Frag) : Sp := fun vs H Q _ => ∃ (a : Addr) (M : Mach) (len : Nat), vs = [.ref a, .int (len : Int)] ∧ MachAt K H a M ∧ M.Sm ∧ len ≤ 100 ∧ ∀ H', Same H H' → Q (.int (cw M.k len M.L)) H'
/-- o[i] of a list -/
theorem get_list {X : Cx} (K : PySem.W.Frag) (hK : X.K = K := by rfl) : PGet X (fun x y H Q => ∃ p xs, ∃ (j : Nat), ∃ v, x = .ref p ∧ y = .int (j : Int) ∧ SqL K H p xs ∧ xs[j]? = some v ∧ Q v H) := by
  subst hK
  intro pins s σ H x y v u Q I rx ry h
  obtain ⟨p, xs, j, z, rfl, rfl, hq, he, q⟩ := h
  cases rx
  obtain ⟨t, rfl⟩ := ry
  obtain ⟨its, r, pl, hz⟩ := I.list hq
  obtain ⟨w, ew, rw'⟩ := r.get he
  have hl := r.length
  have hn := line63
  have := (List.getElem?_eq_some_iff.mp he).1
  exact wpAny_getItem_list pl.isList (by omega) (by omega) (by simpa using ew) ⟨z, H, I, rw', q⟩
theorem rep_int (n : Nat) (v : Int) : (List.replicate n [V.int v]).flatten = (List.replicate n v).map V.int := by
  induction n with
  | zero => rfl
  | succ n ih => rw [List.replicate_succ, List.flatten_cons, ih, List.replicate_succ]; rfl
theorem ixNat {n j : Nat} (hj : j < n) : ixN n (j : Int) = some j := by
  unfold ixN
  rw [if_pos (by omega), if_pos (by omega)]
  simp
theorem sum_snoc (l : List Int) (x : Int) : (l ++ [x]).sum = l.sum + x := by
  rw [List.sum_append]
  simp
section
variable {P : Program} {w : World} {K : PySem.W.Frag} {mg : Str → Option Value} {base : Heap} {f : Addr} {fd : FuncData} {uC : Value}
theorem ok_cnt (F : Fun K "count_words" "count_words" sCnt f fd) (me : mg "enumerate" = none) (mr : mg "range" = none) (ml : mg "len" = none) (ms : mg "sum" = none) (mC : mg "MAX_COUNT" = some uC) (rC : RelV (.int 100) uC) : FnOk P w K mg base CX0 1 f fd ["machine", "length"] (spCnt K) := by
  refine F.ok scCnt (fun vs H Q E h => ?_) (fun cdv A outer s H vs Q E hr h => ?_)
  · obtain ⟨a, M, len, rfl, _⟩ := h
    rfl
  · obtain ⟨a, M, len, rfl, hMA, sm, hlen, q⟩ := h
    have o := sm.ok
    have hn := sm.n
    obtain ⟨b, c, ra, h⟩ := hMA
    have nd := scCnt.nd
    refine ⟨_, pss_cons (ps_if (PW.pt (pw_or (pt_cmpR op_lt (pv 1) pe_int (nomark _)) (pw_or1 (pt_cmpR op_gt (pv 1) (pe_glob (by rfl) mC rC) (nomark _))))) (pss_one ps_never) pss_nil)
      (pss_cons (ps_set (i := 2) nd rfl (Or.inr rfl) (pe_op op_rep (pe_lst (pa_cons pe_int pa_nil)) (pe_callB call_len_seq (by rfl) ml PySem.boot_len (pa_cons (pe_ix ix_tup (pv 0) pe_int (fun _ _ => rfl)) pa_nil))))
      (pss_cons (ps_if (pt_cmpR op_gt (pe_callB call_len_seq (by rfl) ml PySem.boot_len (pa_cons (pv 2) pa_nil)) pe_int (nomark _)) (pss_one (ps_asg pe_int (pg_sub (pv 2) pe_int set_list))) pss_nil)
      (pss_cons (ps_for PassesOwn.never rfl (pi_range1 (by rfl) mr (pa_cons (pv 1) pa_nil)) (pg_name (i := 3) nd rfl (Or.inl rfl))
        (pss_cons (ps_set (i := 4) nd rfl (Or.inl rfl) (pe_op op_rep (pe_lst (pa_cons pe_int pa_nil)) (pe_callB call_len_seq (by rfl) ml PySem.boot_len (pa_cons (pv 2) pa_nil))))
        (pss_cons (ps_for PassesOwn.never rfl (pi_enumT (by rfl) me (pa_cons (pe_ix ix_tup (pv 0) pe_int (fun _ _ => rfl)) pa_nil))
            (pg_tup rfl (pgs_cons (pg_name (i := 5) nd rfl (Or.inl rfl)) (pgs_cons (pg_name (i := 6) nd rfl (Or.inl rfl)) pgs_nil)))
            (pss_one (ps_for PassesOwn.never rfl (pi_tup (pv 6)) (pg_name (i := 7) nd rfl (Or.inl rfl))
              (pss_one (ps_if (pt_cmpR op_ge (pv 7) pe_int (nomark _))
                (pss_one (ps_augS (pv 4) (pv 7) (get_list K) (pe_ix ix_list (pv 2) (pv 5) (fun _ _ => rfl)) ip_add set_list)) pss_nil)))))
        (pss_one (ps_set (i := 2) nd rfl (Or.inr rfl) (pv 4))))))
      (pss_one (ps_ret (pe_callB (cr_sum rfl) (by rfl) ms PyProof.Rows.boot_sum (pa_cons (pe_lc (own := [("state", 5)]) (g := gName 5) rfl nd (pi_range1 (by rfl) mr (pa_cons (pe_callB call_len_seq (by rfl) ml PySem.boot_len (pa_cons (pv 2) pa_nil)) pa_nil)) (blkOk_by (N := nCnt) (sc := defScope sCnt) (by decide +kernel))
          (fun _ _ _ _ _ => pg_name (i := 5) nd rfl (Or.inl rfl)) (fun _ _ _ _ _ => pts_one (pt_val (pe_ix (ixT K) (pe_ix (ixT K) (pv 0) pe_int (fun _ _ => rfl)) (pv 5) (fun _ _ => rfl)))) (fun _ _ _ _ _ => pe_ix (ixL K) (pv 2) (pv 5) (fun _ _ => rfl))) pa_nil))))))), ?_⟩
    have hl : (ra.map V.ref).length = M.rows.length := by rw [List.length_map]; exact h.r.1
    refine ⟨_, rfl, _, _, rfl, rfl, _, rfl, ite2 (fun e => absurd (of_decide_eq_true e) (by omega)) (fun _ => ?_)⟩
    refine ⟨_, rfl, _, _, rfl, rfl, _, rfl, ite2 (fun e => absurd (of_decide_eq_true e) (by omega)) (fun _ => ?_)⟩
    -- counts = [0] * len(machine[1])
    refine ⟨by show 1 ≤ sizeLine; decide, fun Z nZ => ?_⟩
    have s1 := same_upd (o := .lst [V.int 0]) nZ
    have h1 := h.same s1
    refine ⟨_, rfl, a, _, 1, .ref b, rfl, rfl, h1.t, rfl, b, _, rfl, .inr h1.b, Z, _, _, rfl, rfl, upd_same, by omega, by omega, ?_, fun C nC => ?_⟩
    · show 1 * ((((ra.map V.ref).length : Nat) : Int)).toNat ≤ sizeLine
      rw [Int.toNat_natCast, hl, Nat.one_mul]
      exact Nat.le_of_lt (small1000 hn)
    have e0 : (List.replicate ((((ra.map V.ref).length : Nat) : Int)).toNat [V.int 0]).flatten = (List.replicate M.rows.length (0 : Int)).map V.int := by rw [Int.toNat_natCast, hl]; exact rep_int _ _
    rw [e0]
    have s2 : Same H (upd (upd H Z (.lst [V.int 0])) C (.lst ((List.replicate M.rows.length (0 : Int)).map V.int))) := s1.trans (same_upd nC)
    have eC : (upd (upd H Z (.lst [V.int 0])) C (.lst ((List.replicate M.rows.length (0 : Int)).map V.int))) C = some (.lst ((List.replicate M.rows.length (0 : Int)).map V.int)) := upd_same
    have nC0 := s1.free nC
    clear h1
    generalize upd (upd H Z (.lst [V.int 0])) C (.lst ((List.replicate M.rows.length (0 : Int)).map V.int)) = H2 at s2 eC ⊢
    have lC : ((List.replicate M.rows.length (0 : Int)).map V.int).length = M.rows.length := by rw [List.length_map, List.length_replicate]
    refine ⟨_, rfl, C, _, rfl, .inl (SqL.of eC), _, _, rfl, rfl, _, rfl, ite2 (fun e => ?_) (fun e => ?_)⟩
    have e1 := of_decide_eq_true e
    refine ⟨_, rfl, C, _, _, 0, rfl, rfl, eC, ixNat (j := 0) (by omega), ?_⟩
    have em : ((List.replicate M.rows.length (0 : Int)).map V.int).set 0 (V.int 1) = ((List.replicate M.rows.length (0 : Int)).set 0 1).map V.int := by rw [List.map_set]
    rw [em]
    have hcs : ∀ s : Nat, s < ((List.replicate M.rows.length (0 : Int)).set 0 1).length → ((List.replicate M.rows.length (0 : Int)).set 0 1)[s]? = some (if s = 0 then 1 else 0) := fun s hs => by
      rw [List.length_set, List.length_replicate] at hs
      by_cases q : s = 0
      · subst q
        rw [List.getElem?_set_self (by rw [List.length_replicate]; exact hs), if_pos rfl]
      · rw [List.getElem?_set_ne (Ne.symm q), List.getElem?_replicate, if_pos hs, if_neg q]
    have lcs : ((List.replicate M.rows.length (0 : Int)).set 0 1).length = M.rows.length := by rw [List.length_set, List.length_replicate]
    generalize (List.replicate M.rows.length (0 : Int)).set 0 1 = cs at hcs lcs ⊢
    have s3 : Same H (upd H2 C (.lst (cs.map V.int))) := same_in nC0 s2
    have eC3 : (upd H2 C (.lst (cs.map V.int))) C = some (.lst (cs.map V.int)) := upd_same
    generalize upd H2 C (.lst (cs.map V.int)) = H3 at s3 eC3 ⊢
    rotate_left
    have e1 : ¬ (0 : Int) < ((((List.replicate M.rows.length (0 : Int)).map V.int).length : Nat) : Int) := fun z => e (decide_eq_true z)
    have hcs : ∀ s : Nat, s < (List.replicate M.rows.length (0 : Int)).length → (List.replicate M.rows.length (0 : Int))[s]? = some (if s = 0 then 1 else 0) := fun s hs => by
      rw [List.length_replicate] at hs
      omega
    have lcs : (List.replicate M.rows.length (0 : Int)).length = M.rows.length := List.length_replicate
    generalize List.replicate M.rows.length (0 : Int) = cs at hcs lcs eC ⊢
    have s3 := s2
    have eC3 := eC
    revert s3 eC3
    generalize H2 = H3
    intro s3 eC3
    all_goals
      clear e eC s2 e1
      refine ⟨_, rfl, _, rfl, by omega, by omega, ?_⟩
      refine for_range (lo := 0) (n := (len : Int).toNat) (fun i σ H' => ∃ Cc cs x3 x4 x5 x6 x7, σ = [some (.ref a), some (.int (len : Int)), some (.ref Cc), x3, x4, x5, x6, x7] ∧ Same H H' ∧ H Cc = none ∧ H' Cc = some (.lst (cs.map V.int)) ∧ cs.length = M.rows.length ∧ Wt M cs (len - i) = cw M.k len M.L)
        ⟨C, cs, none, none, none, none, none, rfl, s3, nC0, eC3, lcs, Wt_start lcs hcs⟩ ?_ ?_
      · rintro i σ H4 hi ⟨Cc, cs, x3, x4, x5, x6, x7, rfl, s4, nC4, eC4, lcs, hw⟩
        have hi2 : i < len := by omega
        refine ⟨by show 1 ≤ sizeLine; decide, fun Z nZ => ?_⟩
        have s5 := same_upd (o := .lst [V.int 0]) nZ
        have lcm : (cs.map V.int).length = M.rows.length := by rw [List.length_map]; exact lcs
        refine ⟨_, rfl, Cc, _, rfl, .inl (SqL.of (s5 _ _ eC4)), Z, _, _, rfl, rfl, upd_same, by omega, by omega, ?_, fun R nR => ?_⟩
        · show 1 * ((((cs.map V.int).length : Nat) : Int)).toNat ≤ sizeLine
          rw [Int.toNat_natCast, lcm, Nat.one_mul]
          exact Nat.le_of_lt (small1000 hn)
        have e1 : (List.replicate ((((cs.map V.int).length : Nat) : Int)).toNat [V.int 0]).flatten = (List.replicate M.rows.length (0 : Int)).map V.int := by rw [Int.toNat_natCast, lcm]; exact rep_int _ _
        rw [e1]
        have s6 : Same H4 (upd (upd H4 Z (.lst [V.int 0])) R (.lst ((List.replicate M.rows.length (0 : Int)).map V.int))) := s5.trans (same_upd nR)
        have eR : (upd (upd H4 Z (.lst [V.int 0])) R (.lst ((List.replicate M.rows.length (0 : Int)).map V.int))) R = some (.lst ((List.replicate M.rows.length (0 : Int)).map V.int)) := upd_same
        have nR4 := s5.free nR
        have nR0 := s4.free nR4
        have eCR : Cc ≠ R := ne_of_none eC4 nR4
        have eC5 := s6 _ _ eC4
        have s7 := s4.trans s6
        generalize upd (upd H4 Z (.lst [V.int 0])) R (.lst ((List.replicate M.rows.length (0 : Int)).map V.int)) = H5 at s7 eR eC5 ⊢
        clear s5 s6
        have h5 := h.same s7
        refine ⟨_, rfl, a, _, 1, .ref b, rfl, rfl, h5.t, rfl, b, _, rfl, h5.b, ?_⟩
        refine for_it (walk_enumT (K := K) (a := b) (xs := ra.map V.ref)) (fun i2 σ H' => ∃ af x3 x5 x6 x7, σ = [some (.ref a), some (.int (len : Int)), some (.ref Cc), x3, some (.ref R), x5, x6, x7] ∧ Same H H' ∧ H' Cc = some (.lst (cs.map V.int)) ∧ H' R = some (.lst (af.map V.int)) ∧ Cn M cs af i2 0)
          ⟨_, _, x5, x6, x7, rfl, s7, eC5, eR, Cn.start⟩ (fun i2 σ H' _ ⟨_, _, _, _, _, _, y, _⟩ => Same.tup y h.b) ?_ ?_
        · rintro i2 x σ H6 H7 hi2 ⟨af, x3, x5, x6, x7, rfl, s6, eC6, eR6, cn⟩ ⟨T, v1, v2, rfl, nT, rfl, ev, er⟩
          have ev1 : v1 = V.int (i2 : Int) := (Option.some.inj ev).symm
          subst ev1
          have hiM : i2 < M.rows.length := by omega
          obtain ⟨p, _, h2, h3⟩ := h.row hiM
          have er1 : V.ref p = v2 := Option.some.inj (h2.symm.trans er)
          subst er1
          have ss : Same H6 (upd H6 T (.tup [V.int (i2 : Int), .ref p])) := same_upd nT
          have s8 := s6.trans ss
          have eC8 := ss _ _ eC6
          have eR8 := ss _ _ eR6
          have eT8 : upd H6 T (.tup [V.int (i2 : Int), .ref p]) T = some (.tup [V.int (i2 : Int), .ref p]) := upd_same
          generalize upd H6 T (.tup [V.int (i2 : Int), .ref p]) = H8 at ss s8 eC8 eR8 eT8 ⊢
          refine ⟨T, _, rfl, SqT.of eT8, rfl, _, _, rfl, _, _, rfl, rfl, ?_⟩
          have hrl : (M.rows[i2].map V.int).length = M.k := by rw [List.length_map]; exact o.row _ (List.getElem_mem hiM)
          refine ⟨_, rfl, p, rfl, ⟨_, Same.tup s8 h3⟩, ?_⟩
          refine for_tup (K := K) (a := p) (xs := M.rows[i2].map V.int) (fun b' σ H' => ∃ af x7, σ = [some (.ref a), some (.int (len : Int)), some (.ref Cc), x3, some (.ref R), some (.int (i2 : Int)), some (.ref p), x7] ∧ Same H H' ∧ H' Cc = some (.lst (cs.map V.int)) ∧ H' R = some (.lst (af.map V.int)) ∧ Cn M cs af i2 b')
            ⟨af, x7, rfl, s8, eC8, eR8, cn⟩ (fun b' σ H' _ ⟨_, _, _, y, _⟩ => Same.tup y h3) ?_ ?_
          · rintro b' x σ H9 hx ⟨af, x7, rfl, s9, eC9, eR9, cn⟩
            have hb : b' < M.k := by
              have := (List.getElem?_eq_some_iff.mp hx).1
              omega
            rw [nxt_get o hiM hb] at hx
            have hx1 := Option.some.inj hx
            subst hx1
            have rg := nxt_rng o (i2 : Int) b'
            refine ⟨_, rfl, _, _, rfl, rfl, _, rfl, ite2 (fun e => ?_) (fun e => ?_)⟩
            · have e1 := of_decide_eq_true e
              obtain ⟨t, et⟩ : ∃ t : Nat, M.nxt (i2 : Int) b' = (t : Int) := ⟨_, (Int.toNat_of_nonneg (by omega)).symm⟩
              have htn : t < af.length := by rw [cn.1]; omega
              obtain ⟨v, ev⟩ := getE (l := af) (i := t) htn
              obtain ⟨c', ec⟩ := getE (l := cs) (i := i2) (by omega)
              refine ⟨_, rfl, _, rfl, R, _, t, .int v, rfl, by rw [et], SqL.of eR9, getI ev, _, rfl, _, rfl, Cc, _, _, .int c', rfl, rfl, SqL.of eC9, atT rfl (getI ec), _, _, rfl, rfl, R, _, _, t, rfl, rfl, eR9, by rw [et]; exact ixNat (by rw [List.length_map]; exact htn), ?_⟩
              have em : (af.map V.int).set t (V.int (v + c')) = (af.set t (v + c')).map V.int := by rw [List.map_set]
              rw [em]
              exact ⟨_, _, rfl, same_in nR0 s9, by rw [upd_ne eCR]; exact eC9, upd_same, cn.add et ec ev⟩
            · have e1 : ¬ (0 : Int) ≤ M.nxt (i2 : Int) b' := fun z => e (decide_eq_true z)
              exact ⟨af, _, rfl, s9, eC9, eR9, cn.skip (by omega)⟩
          · rintro σ H9 ⟨af, x7, rfl, s9, eC9, eR9, cn⟩
            rw [hrl] at cn
            exact ⟨af, x3, _, _, _, rfl, s9, eC9, eR9, cn.next⟩
        · rintro σ H6 ⟨af, x3, x5, x6, x7, rfl, s6, eC6, eR6, cn⟩
          rw [hl] at cn
          have hd := cn.done (len - (i + 1))
          rw [show len - (i + 1) + 1 = len - i by omega, hw] at hd
          exact ⟨_, rfl, R, af, _, _, _, _, _, rfl, s6, nR0, eR6, cn.1, hd⟩
      · rintro σ H4 ⟨Cc, cs, x3, x4, x5, x6, x7, rfl, s4, nC4, eC4, lcs, hw⟩
        have hw0 : Wt M cs 0 = cw M.k len M.L := by rw [← hw]; congr 1; omega
        rw [Wt_end o lcs] at hw0
        have lcm : (cs.map V.int).length = M.rows.length := by rw [List.length_map]; exact lcs
        refine ⟨_, rfl, Cc, _, rfl, .inl (SqL.of eC4), _, rfl, by omega, by omega, fun D nD => ?_⟩
        have nD0 := s4.free nD
        have eCD : Cc ≠ D := ne_of_none eC4 nD
        refine lc_range (lo := 0) (n := ((((cs.map V.int).length : Nat) : Int)).toNat) (fun i H' => ∃ ns : List Int, Same H H' ∧ H' Cc = some (.lst (cs.map V.int)) ∧ H' D = some (.lst (ns.map V.int)) ∧ ns.length ≤ i ∧ ns.sum = Dg.sm (fun s => if M.acc.getD s false = true then cs.getD s 0 else 0) i)
          ⟨[], same_in nD0 s4, by rw [upd_ne eCD]; exact eC4, upd_same, Nat.le_refl _, rfl⟩ ?_ ?_
        · rintro i H5 hi ⟨ns, s5, eC5, eD5, hns, hsum⟩
          have hiM : i < M.rows.length := by omega
          have h5 := h.same s5
          have e0 : (0 : Int) + (i : Int) = (i : Int) := by omega
          obtain ⟨c', ec⟩ := getE (l := cs) (i := i) (by omega)
          have ea := List.getElem?_eq_getElem (l := M.acc) (i := i) (by rw [o.acc]; exact hiM)
          refine ⟨rfl, _, rfl, a, _, 2, .ref c, rfl, rfl, h5.t, rfl, _, rfl, c, _, _, _, rfl, rfl, h5.c, atT e0 (by rw [List.getElem?_map, ea]; rfl), _, rfl, ite2 (fun e => ?_) (fun e => ?_)⟩
          · refine ⟨_, rfl, _, rfl, Cc, _, _, .int c', rfl, rfl, SqL.of eC5, atT e0 (getI ec), _, eD5, by rw [List.length_map]; exact small1000 (by omega), ns ++ [c'], same_in nD0 s5, by rw [upd_ne eCD]; exact eC5, by rw [upd_same, intV_snoc], by rw [List.length_append]; show ns.length + 1 ≤ i + 1; omega, ?_⟩
            rw [sum_snoc, hsum]
            show _ = _ + (if M.acc.getD i false = true then cs.getD i 0 else 0)
            rw [List.getD_eq_getElem?_getD, ea, Option.getD_some, if_pos e, List.getD_eq_getElem?_getD, ec, Option.getD_some]
          · refine ⟨ns, s5, eC5, eD5, by omega, ?_⟩
            rw [hsum]
            show _ = _ + (if M.acc.getD i false = true then cs.getD i 0 else 0)
            rw [List.getD_eq_getElem?_getD, ea, Option.getD_some, if_neg e, Int.add_zero]
        · rintro H5 ⟨ns, s5, eC5, eD5, hns, hsum⟩
          refine ⟨D, ns, rfl, SqL.of eD5, ?_⟩
          have : ns.sum = cw M.k len M.L := by rw [hsum, ← hw0]; congr 1
          rw [this]
          exact q _ s5
end
end Dg
end

section
set_option maxHeartbeats 4000000
namespace Dg
open PySem PySem.Spec PyProof.Rows L2
abbrev TT := List Int → List (Option (List Int))
def OptAt (K : PySem.W.Frag) (H : Hp) : Option (List Int) → V → Prop
  | none, v => v = .non
  | some t, v => ∃ p, v = .ref p ∧ SqT K H p (t.map V.int)
def OptsAt (K : PySem.W.Frag) (H : Hp) (ts : List (Option (List Int))) (vs : List V) : Prop := vs.length = ts.length ∧ ∀ (i : Nat) (o : Option (List Int)) (v : V), ts[i]? = some o → vs[i]? = some v → OptAt K H o v
theorem OptAt.ext {K : PySem.W.Frag} {H H' : Hp} {o : Option (List Int)} {v : V} (s : Ext H H') (h : OptAt K H o v) : OptAt K H' o v := by
  cases o with
  | none => exact h
  | some t =>
    obtain ⟨p, e, h⟩ := h
    exact ⟨p, e, s.tup h⟩
theorem OptAt.upd {K : PySem.W.Frag} {H : Hp} {o : Option (List Int)} {v : V} {R : Addr} {ob o0 : HO} (h : OptAt K H o v) (hR : H R = some o0) (h1 : ∀ xs, o0 ≠ .tup xs) (h2 : ∀ ob u, o0 ≠ .frz ob u) : OptAt K (upd H R ob) o v := by
  cases o with
  | none => exact h
  | some t =>
    obtain ⟨p, e, h⟩ := h
    exact ⟨p, e, tup_upd hR h1 h2 h⟩
/-- the promise of the def that tells the next places -/
def spT (K : PySem.W.Frag) (T : TT) (D : List Int → Prop) (W : List (Option V) → Hp → Prop) : List (Option V) → Sp := fun ws vs H Q _ => ∃ a q, vs = [.ref a] ∧ SqT K H a (q.map V.int) ∧ D q ∧ W ws H ∧
  ∀ H' L ys, Same H H' → H L = none → H' L = some (.lst ys) → OptsAt K H' (T q) ys → Q (.ref L) H'
theorem cellsLater {cl : List (Str × Addr)} {fr : List Str} {ws : List (Option V)} {fs ex : List Addr} {h0 h : Heap} {H0 H : Hp} (C : NdefX.CellsAt cl fr ws h0 H0) (u : Un fs ex H0 H h0 h) (hx : ∀ c, c ∉ ex) : NdefX.CellsAt cl fr ws h H := by
  have kp : ∀ y c, cl.lookup y = some c → ∀ v, h0.IsCell c v → h.IsCell c v := fun y c e v ⟨o, ho, hd⟩ => by
    obtain ⟨sl, q⟩ := u.any ho (C.all y c e).1 (hx c)
    exact ⟨_, q, hd⟩
  refine ⟨C.len, fun y c e => ?_, C.inj, fun i y e => ?_⟩
  · obtain ⟨n, v, z⟩ := C.all y c e
    refine ⟨?_, v, kp y c e v z⟩
    obtain ⟨o, ho, _⟩ := z
    exact u.free c o ho n (hx c)
  · obtain ⟨c, hc, hv⟩ := C.has i y e
    refine ⟨c, hc, fun v ev => ?_⟩
    obtain ⟨u', r, z⟩ := hv v ev
    exact ⟨u', r, kp y c hc _ z⟩
section
variable {X : Cx} {F : NdefX.NF} {f : Addr} {ps fr : List Str} {ws : List (Option V)} {sp : List (Option V) → Sp} {k j i : Nat} {x : Str} {t : TA} {e : Expr} {es : List Expr} {p pos : Pos}
/-- a(..), a a parameter that holds a function made elsewhere -/
theorem pe_actN (Fn : NdefX.NOk X.prog X.w X.K X.mg X.base CX0 k f F ps fr sp) (C : NdefX.CellsAt F.cl fr ws X.s_0.heap X.H_0) (hex : ∀ c, c ∉ X.ex) (hr : Room j X.A) (hk : k ≤ j) (hN : X.N[i]? = some x) (hv : Vis X.env.scope x) (ha : PA X (e :: es) t)
    (hd : (x == ("__debug__" : Str)) = false := by decide) (hcd : (x == ("__classdict__" : Str)) = false := by decide)
    (he : starEach (e :: es) X.env = (false, eval e X.env) :: starEach es X.env := by rfl) (hpl : (backTo pos (starEach es X.env)).any (·.1) = false := by rfl) :
    PE X (.Call (.Name x p) (e :: es) [] pos) (fun σ H Q => σ[i]? = some (some (.ref f)) ∧ H f = some (NdefX.FnO f F) ∧ t σ H fun vs H1 => H1 f = some (NdefX.FnO f F) ∧ H1 F.c = some (LamX.CodeO F.c F.qual) ∧ sp ws vs H1 Q E0) := by
  refine ⟨fun pins s σ H Q I h => ?_⟩
  obtain ⟨hs, hf, ht⟩ := h
  refine wpAny_Call_Name_kw (thn ((pe_var (pos := p) hN hv hd hcd).run pins s σ H (fun v H1 => v = .ref f ∧ H1 = H) I ⟨.ref f, hs, rfl, rfl⟩) fun u s1 ⟨v, H1, I1, r1, q1⟩ => ?_)
  obtain ⟨ev, eH⟩ := q1
  subst ev
  rw [eH] at I1
  obtain rfl : u = Value.ref f := r1
  refine PySem.W.callWith_F (first := []) (NdefX.fnAt_of I1 hf) (thn (ha.run pos pins s1 σ H _ I1 ht) fun us s2 ⟨vs, H2, I2, r, h1, h2, q⟩ => ⟨NdefX.fnAt_of I2 h1, ?_⟩) he hpl
  show wpAny _ _ (call (.ref f) us) _ _ _
  refine wpAny_call (codeAny_mono (Fn.run X.A X.stack s2 H2 us vs ws Q E0 (hr.mono hk) I2.env0 h1 h2 (cellsLater C I2.base hex) r q) fun r s' hq => ?_)
  cases r with
  | error e => exact (show False from hq).elim
  | ok fl =>
    cases fl with
    | ret u => exact I2.after hq
    | next => exact False.elim hq
    | brk => exact False.elim hq
    | cont => exact False.elim hq
end
/-! ### a def called, its promise told of the very state -/
section
variable {P : Program} {w : World} {K : PySem.W.Frag} {mg : Str → Option Value} {base : Heap}
theorem runS {x qual : Str} {st : Stmt} {f : Addr} {fd : FuncData} {N ps : List Str} {k : Nat} (F : Fun K x qual st f fd) (S : FnScope N ps (defScope st)) {A : Around} {outer : List Env} {s : Shared} {H : Hp} {args : Args} {us : List Value} {vs : List V} {Q : VK} {E : XK}
    (hr : Room (k + 1) A) (e0 : Env0 P w K mg base A outer s H) (hb : BindsTo s fd args (ps.zip us)) (r : Vals vs us) (hl : vs.length = ps.length)
    (hbody : ∀ cdv : Value, Room k (A.deeper (envOfC qual (defScope st) s.heap.objs.size f cdv)) → ∃ t, PSs (cxOf CX0 P w K mg base N qual (defScope st) f cdv A outer s H E).nox (defBody st) t ∧ t { nx := fun _ H' => Q .non H', rt := Q } (start N vs) H) :
    codeAny (model P w) A (.call (.ref f) args) (CR CX0 outer P w H s Q E) s := by
  obtain ⟨oc, od, kV, doc, pm, an, cdv, ct, osl, rfl, lk, hcd⟩ := F.ex
  refine LamX.run_ofS lk hcd S hr e0 hb r hl fun hr' => ?_
  obtain ⟨t, h, q⟩ := hbody cdv hr'
  exact ⟨t, h.nox, q⟩
end
/-- x(..), the promise told of the state and the names -/
theorem pe_callS {X : Cx} {f : Addr} {fd : FuncData} {ps : List Str} {x : Str} {t : TA} {e : Expr} {es : List Expr} {p pos : Pos} {sp : L2.St → List V → Hp → VK → Prop} (hg : Gl X x) (hm : X.mg x = some (.ref f)) (hk : PySem.W.keepIn X.K (.ref f) = true) (hb : Binds X.K fd ps [])
    (len : ∀ σ vs H Q, sp σ vs H Q → vs.length = ps.length)
    (run : ∀ (pins : List (Addr × Obj)) (s : Shared) (σ : L2.St) (H : Hp) (us : List Value) (vs : List V) (Q : VK), Inv X pins σ H s → BindsTo s fd ⟨us, []⟩ (ps.zip us) → Vals vs us → sp σ vs H Q → codeAny (model X.prog X.w) X.A (.call (.ref f) ⟨us, []⟩) (CR CX0 X.stack X.prog X.w H s Q E0) s)
    (ha : PA X (e :: es) t) (hdb : (x == ("__debug__" : Str)) = false := by decide) (he : starEach (e :: es) X.env = (false, eval e X.env) :: starEach es X.env := by rfl) (hpl : (backTo pos (starEach es X.env)).any (·.1) = false := by rfl) :
    PE X (.Call (.Name x p) (e :: es) [] pos) (fun σ H Q => t σ H fun vs H1 => sp σ vs H1 Q) := by
  refine ⟨fun pins s σ H Q I h => ?_⟩
  refine wpAny_Call_Name_kw (ld_glob I hg hm ?_ hdb)
  refine PySem.W.callWith_K (h₀ := X.base) I.ok.mod.kin hk (thn (ha.run pos pins s σ H _ I h) fun us s1 ⟨vs, H1, I1, r, q⟩ => ⟨I1.kIn, ?_⟩) he hpl
  have hl : us.length = ps.length := by rw [← r.length]; exact len _ _ _ _ q
  have hb2 := hb s1 us I1.kIn (by rw [List.append_nil]; exact hl)
  rw [List.append_nil] at hb2
  refine wpAny_call (codeAny_mono (run pins s1 σ H1 us vs Q I1 hb2 r q) fun r s' hq => ?_)
  cases r with
  | error e => exact (show False from hq).elim
  | ok fl =>
    cases fl with
    | ret u => exact I1.after hq
    | next => exact False.elim hq
    | brk => exact False.elim hq
    | cont => exact False.elim hq
end Dg
end

section
set_option maxHeartbeats 4000000
namespace Dg
open PySem PySem.Spec PyProof.Rows L2
abbrev sMet : Stmt := top 23
abbrev nMet : List Str := ["start", "targets_of", "most", "numbers", "order", "rows", "at", "row", "target"]
theorem scMet : FnScope nMet ["start", "targets_of", "most"] (defScope sMet) := ⟨rfl, rfl, rfl, by decide +kernel, rfl, by decide +kernel, by decide +kernel⟩
theorem OptsAt.ext {K : PySem.W.Frag} {H H' : Hp} {ts : List (Option (List Int))} {vs : List V} (s : Ext H H') (h : OptsAt K H ts vs) : OptsAt K H' ts vs := ⟨h.1, fun i o v e1 e2 => (h.2 i o v e1 e2).ext s⟩
theorem OptsAt.upd {K : PySem.W.Frag} {H : Hp} {ts : List (Option (List Int))} {vs : List V} {R : Addr} {ob o0 : HO} (h : OptsAt K H ts vs) (hR : H R = some o0) (h1 : ∀ xs, o0 ≠ .tup xs) (h2 : ∀ ob u, o0 ≠ .frz ob u) : OptsAt K (upd H R ob) ts vs := ⟨h.1, fun i o v e1 e2 => (h.2 i o v e1 e2).upd hR h1 h2⟩
/-- what a key of ints is -/
theorem keyTup {K : PySem.W.Frag} {H : Hp} {q : List Int} {p : Addr} (h : KeyAt K H (fkey q) p) : SqT K H p (q.map V.int) := by
  rcases h with ⟨ns, e, h⟩ | ⟨a, r, ns, e, _⟩
  · rw [fkey_inj e]
    exact h
  · unfold fkey nkey at e
    injection e with e
    cases q with
    | nil => cases e
    | cons x q =>
      cases q with
      | nil => cases e
      | cons y q =>
        rw [List.map_cons, List.map_cons] at e
        injection e with _ e
        injection e with e _
        cases e
theorem tupKey {K : PySem.W.Frag} {H : Hp} {q : List Int} {p : Addr} (h : SqT K H p (q.map V.int)) : KeyAt K H (fkey q) p := .inl ⟨q, rfl, h⟩
theorem getKk {ks : List (List Int)} {i : Nat} {q : List Int} (h : ks[i]? = some q) : (ks.map fkey)[i]? = some (fkey q) := by
  rw [List.getElem?_map, h]
  rfl
theorem fkey_mem {ks : List (List Int)} {t : List Int} (h : fkey t ∈ ks.map fkey) : t ∈ ks := by
  obtain ⟨u, hu, e⟩ := List.mem_map.mp h
  rw [← fkey_inj e]
  exact hu
/-- the promise of met -/
def spMetS (P : Program) (w : World) (K : PySem.W.Frag) (mg : Str → Option Value) (base : Heap) (k : Nat) (mk : Addr → NdefX.NF) (ps fr : List Str) : List (Option V) → List V → Hp → VK → Prop := fun ws vs H Q =>
  ∃ (p0 fT c' : Addr) (most mx : Nat) (st : List Int) (T : TT) (D : List Int → Prop) (W : List (Option V) → Hp → Prop), vs = [.ref p0, .ref fT, .int (most : Int)] ∧ H fT = some (NdefX.FnO fT (mk c')) ∧ H (mk c').c = some (LamX.CodeO (mk c').c (mk c').qual) ∧
    NdefX.NOk P w K mg base CX0 k fT (mk c') ps fr (spT K T D W) ∧ SqT K H p0 (st.map V.int) ∧ D st ∧ (∀ (q : List Int) (b : Nat) (t : List Int), D q → (T q)[b]? = some (some t) → D t) ∧ (∀ q, D q → (T q).length ≤ 1000) ∧
    (∀ ks : List (List Int), ks.Nodup → (∀ q ∈ ks, D q) → ks.length ≤ mx) ∧ mx ≤ most ∧ mx ≤ 1000 ∧ W ws H ∧ (∀ H1 H2, Same H1 H2 → W ws H1 → W ws H2) ∧
    ∀ (H' : Hp) (p O R : Addr) (qs rs : List Addr) (ks rows : List (List Int)), Same H H' → H' p = some (.tup [.ref O, .ref R]) → H' O = some (.lst (qs.map V.ref)) → KeysAt K H' (ks.map fkey) qs → H' R = some (.lst (rs.map V.ref)) → RowsAt K H' rs rows → Met T D st ks rows → ks.length ≤ mx → Q (.ref p) H'
section
variable {P : Program} {w : World} {K : PySem.W.Frag} {mg : Str → Option Value} {base : Heap} {f : Addr} {fd : FuncData} {k : Nat} {mk : Addr → NdefX.NF} {x : Str} {fr : List Str}
theorem met_run (F : Fun K "met" "met" sMet f fd) (mt : mg "tuple" = none) (ml : mg "len" = none) {A : Around} {outer : List Env} {s : Shared} {H : Hp} {us : List Value} {vs : List V} {ws : List (Option V)} {Q : VK} (hr : Room (k + 1) A) (e0 : Env0 P w K mg base A outer s H)
    (hb : BindsTo s fd ⟨us, []⟩ ((["start", "targets_of", "most"] : List Str).zip us)) (r : Vals vs us) (C : ∀ c', NdefX.CellsAt (mk c').cl fr ws s.heap H) (hsp : spMetS P w K mg base k mk [x] fr ws vs H Q) :
    codeAny (model P w) A (.call (.ref f) ⟨us, []⟩) (CR CX0 outer P w H s Q E0) s := by
  obtain ⟨p0, fT, c', most, mx, st, T, D, W, rfl, hf, hc, Fn, hp0, hD, hDT, hTl, hmx, hm1, hm2, hW, hWs, q⟩ := hsp
  refine runS F scMet hr e0 hb r rfl fun cdv hr' => ?_
  have nd := scMet.nd
  have hu := hu16 hr'
  have C' := C c'
  generalize hF : mk c' = Fk at hf hc Fn C'
  refine ⟨_, pss_cons (ps_set (i := 3) nd rfl (Or.inl rfl) (pe_kOneX P w K (hu := hu) (hk := pv 0) (hv := pe_int)))
    (pss_cons (ps_set (i := 4) nd rfl (Or.inl rfl) (pe_lst (pa_cons (pv 0) pa_nil)))
    (pss_cons (ps_set (i := 5) nd rfl (Or.inl rfl) (pe_lst pa_nil))
    (pss_cons (ps_set (i := 6) nd rfl (Or.inl rfl) pe_int)
    (pss_cons (ps_while PassesOwn.never (pt_cmpR op_lt (pv 6) (pe_callB call_len_seq (by rfl) ml PySem.boot_len (pa_cons (pv 4) pa_nil)) (nomark _))
      (pss_cons (ps_set (i := 7) nd rfl (Or.inl rfl) (pe_lst pa_nil))
      (pss_cons (ps_for PassesOwn.never rfl (pi_list (pe_actN (i := 1) Fn C' (fun c z => nomatch (show c ∈ ([] : List Addr) from z)) hr' (Nat.le_refl _) rfl (Or.inl rfl) (pa_cons (pe_ix ix_list (pv 4) (pv 6) (fun _ _ => rfl)) pa_nil))) (pg_name (i := 8) nd rfl (Or.inl rfl))
        (pss_cons (ps_if (PW.pt (pw_and (pt_cmpR op_notN (pv 8) pe_non (nomark _)) (pw_and1 (pt_cmpR (op_kNotInX P w K (hu := hu)) (pv 8) (pv 3) (by rfl)))))
            (pss_cons (ps_asg (pe_callB call_len_seq (by rfl) ml PySem.boot_len (pa_cons (pv 4) pa_nil)) (pg_sub (pv 3) (pv 8) (set_kX P w K (hu := hu))))
            (pss_cons (ps_expr (pe_bm PySem.F.plainAttrs_list PySem.F.slot_list_append PySem.F.type_list_append mt_append (pv 4) (pa_cons (pv 8) pa_nil)))
            (pss_one (ps_if (pt_cmpR op_gt (pe_callB call_len_seq (by rfl) ml PySem.boot_len (pa_cons (pv 4) pa_nil)) (pv 2) (nomark _)) (pss_one ps_never) pss_nil)))) pss_nil)
        (pss_one (ps_expr (pe_bm PySem.F.plainAttrs_list PySem.F.slot_list_append PySem.F.type_list_append mt_append (pv 7) (pa_cons (pe_ifExp (pt_cmpR op_isN (pv 8) pe_non (nomark _)) (pe_un un_neg pe_int) (pe_kgetX P w K (hu := hu) (ho := pv 3) (hi := pv 8) (hs := fun _ _ => rfl))) pa_nil))))))
      (pss_cons (ps_expr (pe_bm PySem.F.plainAttrs_list PySem.F.slot_list_append PySem.F.type_list_append mt_append (pv 5) (pa_cons (pe_callTy call_tuple_of (by rfl) mt (by decide +kernel) (pa_cons (pv 7) pa_nil)) pa_nil)))
      (pss_one (ps_aug (i := 6) nd rfl (Or.inl rfl) pe_int ip_add))))))
    (pss_one (ps_ret (pe_tup (pa_cons (pv 4) (pa_cons (pv 5) pa_nil))))))))), ?_⟩
  -- numbers = {start: 0}; order = [start]; rows = []
  intro Dd nD
  refine ⟨_, rfl, upd_same, p0, fkey st, rfl, tupKey (Same.tup (same_upd nD) hp0), ?_⟩
  rw [upd_upd]
  have s3 : Same H (upd H Dd (KD P w Dd [fkey st] [p0] [.int 0])) := same_upd nD
  have eD3 : (upd H Dd (KD P w Dd [fkey st] [p0] [.int 0])) Dd = some (KD P w Dd [fkey st] [p0] [.int 0]) := upd_same
  generalize upd H Dd (KD P w Dd [fkey st] [p0] [.int 0]) = H3 at s3 eD3 ⊢
  refine ⟨_, rfl, by show 1 ≤ sizeLine; decide, fun O nO => ?_⟩
  have s4 : Same H3 (upd H3 O (.lst [V.ref p0])) := same_upd nO
  have eO4 : (upd H3 O (.lst [V.ref p0])) O = some (.lst [V.ref p0]) := upd_same
  have nO0 := s3.free nO
  generalize upd H3 O (.lst [V.ref p0]) = H4 at s4 eO4 ⊢
  refine ⟨Nat.zero_le _, fun R nR => ?_⟩
  have s5 : Same H4 (upd H4 R (.lst [])) := same_upd nR
  have eR5 : (upd H4 R (.lst [])) R = some (.lst []) := upd_same
  have nR0 := (s3.trans s4).free nR
  have eOR : O ≠ R := ne_of_none eO4 nR
  have eDO : Dd ≠ O := ne_of_none eD3 nO
  have eDR : Dd ≠ R := ne_of_none (s4 _ _ eD3) nR
  have eD5 := s5 _ _ (s4 _ _ eD3)
  have eO5 := s5 _ _ eO4
  have s05 := (s3.trans s4).trans s5
  have kk5 : KeysAt K (upd H4 R (.lst [])) ([st].map fkey) [p0] := KeysAt.nil.snoc (tupKey (Same.tup s05 hp0))
  generalize upd H4 R (.lst []) = H5 at s5 eR5 eD5 eO5 s05 kk5 ⊢
  clear s3 s4 s5 eD3 eO4 nR nO
  have hnD0 := nD
  -- while at < len(order)
  refine ⟨fun m σ H' => ∃ ks qs rs rows x7 x8, σ = [some (.ref p0), some (.ref fT), some (.int (most : Int)), some (.ref Dd), some (.ref O), some (.ref R), some (.int ((rows.length : Nat) : Int)), x7, x8] ∧ Same H H' ∧
      H' Dd = some (KD P w Dd (ks.map fkey) qs (idxV ks.length)) ∧ KeysAt K H' (ks.map fkey) qs ∧ H' O = some (.lst (qs.map V.ref)) ∧ H' R = some (.lst (rs.map V.ref)) ∧ RowsAt K H' rs rows ∧ MB T D st ks rows [] ∧ m + rows.length = mx + 1,
    ⟨mx + 1, [st], [p0], [], [], none, none, rfl, s05, eD5, kk5, eO5, eR5, ⟨rfl, fun i p r e => absurd e (by simp)⟩, MB.start hD, rfl⟩, fun m σ H6 hW6 => ?_⟩
  obtain ⟨ks, qs, rs, rows, x7, x8, rfl, s6, eD6, kk6, eO6, eR6, ra6, mb, em⟩ := hW6
  have hql : (qs.map V.ref).length = ks.length := by rw [List.length_map, ← kk6.1, List.length_map]
  have hkm := hmx ks mb.nd mb.dom
  refine ⟨_, rfl, _, rfl, O, _, rfl, .inl (SqL.of eO6), _, _, rfl, rfl, _, rfl, ite2 (fun e => ?_) (fun e => ?_)⟩
  · have e1 := of_decide_eq_true e
    have hlt : rows.length < ks.length := by omega
    refine ⟨fun σ' H' => ∃ m', m' < m ∧ ∃ ks qs rs rows x7 x8, σ' = [some (.ref p0), some (.ref fT), some (.int (most : Int)), some (.ref Dd), some (.ref O), some (.ref R), some (.int ((rows.length : Nat) : Int)), x7, x8] ∧ Same H H' ∧
      H' Dd = some (KD P w Dd (ks.map fkey) qs (idxV ks.length)) ∧ KeysAt K H' (ks.map fkey) qs ∧ H' O = some (.lst (qs.map V.ref)) ∧ H' R = some (.lst (rs.map V.ref)) ∧ RowsAt K H' rs rows ∧ MB T D st ks rows [] ∧ m' + rows.length = mx + 1, fun _ _ z => z, ?_⟩
    -- row = []
    refine ⟨Nat.zero_le _, fun Wr nW => ?_⟩
    have s7 : Same H6 (upd H6 Wr (.lst [])) := same_upd nW
    have eW7 : (upd H6 Wr (.lst [])) Wr = some (.lst []) := upd_same
    have nW0 := s6.free nW
    have eOW : O ≠ Wr := ne_of_none eO6 nW
    have eDW : Dd ≠ Wr := ne_of_none eD6 nW
    have eRW : R ≠ Wr := ne_of_none eR6 nW
    have s07 := s6.trans s7
    have eD7 := s7 _ _ eD6
    have eO7 := s7 _ _ eO6
    have eR7 := s7 _ _ eR6
    have kk7 := kk6.ext (Ext.of s7)
    have ra7 := ra6.same s7
    generalize upd H6 Wr (.lst []) = H7 at s7 eW7 s07 eD7 eO7 eR7 kk7 ra7 ⊢
    obtain ⟨sq, esq⟩ := getE hlt
    obtain ⟨pq, epq⟩ := getE (l := qs) (i := rows.length) (by rw [List.length_map] at hql; omega)
    have hpq := keyTup (kk7.2 rows.length _ _ (getKk esq) epq)
    have hDq := mb.dom sq (List.mem_of_getElem? esq)
    refine ⟨rfl, s07 _ _ hf, ⟨_, rfl, _, rfl, O, _, _, .ref pq, rfl, rfl, SqL.of eO7, atT rfl (getI epq), s07 _ _ hf, s07 _ _ hc, pq, sq, rfl, hpq, hDq, hWs _ _ s07 hW, fun H8 L ys s8 nL eL8 oo => ?_⟩⟩
    have s08 := s07.trans s8
    have eD8 := s8 _ _ eD7
    have eO8 := s8 _ _ eO7
    have eR8 := s8 _ _ eR7
    have eW8 := s8 _ _ eW7
    have kk8 := kk7.ext (Ext.of s8)
    have ra8 := ra7.same s8
    have eDL : Dd ≠ L := ne_of_none eD7 nL
    have eOL : O ≠ L := ne_of_none eO7 nL
    have eRL : R ≠ L := ne_of_none eR7 nL
    have eWL : Wr ≠ L := ne_of_none eW7 nL
    clear s8 s7 nL
    refine ⟨L, rfl, ⟨_, SqL.of eL8⟩, ?_⟩
    refine for_list (K := K) (a := L) (xs := ys) (fun b' σ H' => ∃ ks qs row x8, σ = [some (.ref p0), some (.ref fT), some (.int (most : Int)), some (.ref Dd), some (.ref O), some (.ref R), some (.int ((rows.length : Nat) : Int)), some (.ref Wr), x8] ∧ Same H H' ∧
        H' Dd = some (KD P w Dd (ks.map fkey) qs (idxV ks.length)) ∧ KeysAt K H' (ks.map fkey) qs ∧ H' O = some (.lst (qs.map V.ref)) ∧ H' R = some (.lst (rs.map V.ref)) ∧ H' Wr = some (.lst (row.map V.int)) ∧ H' L = some (.lst ys) ∧ OptsAt K H' (T sq) ys ∧ RowsAt K H' rs rows ∧ MB T D st ks rows row ∧ row.length = b' ∧ ks[rows.length]? = some sq)
      ⟨ks, qs, [], x8, rfl, s08, eD8, kk8, eO8, eR8, eW8, eL8, oo, ra8, mb, rfl, esq⟩ (fun b' σ H' _ ⟨_, _, _, _, _, _, _, _, _, _, _, y, _⟩ => SqL.of y) ?_ ?_
    · rintro b' v σ H9 hv ⟨ks, qs, row, x8, rfl, s9, eD9, kk9, eO9, eR9, eW9, eL9, oo9, ra9, mb, erow, esq⟩
      have hb : b' < (T sq).length := by rw [← oo9.1]; exact (List.getElem?_eq_some_iff.mp hv).1
      have hT1 := hTl sq hDq
      have hkm := hmx ks mb.nd mb.dom
      have hql : qs.length = ks.length := by rw [← kk9.1, List.length_map]
      obtain ⟨ot, eot⟩ := getE (l := T sq) (i := b') hb
      have hO := oo9.2 b' ot v eot hv
      have hrs : (row.map V.int).length < sizeLine := by rw [List.length_map, erow]; exact small1000 (by omega)
      -- the row grows
      have grow : ∀ (ks' : List (List Int)) (qs' : List Addr) (H10 : Hp) (z : Int), Same H H10 → H10 Dd = some (KD P w Dd (ks'.map fkey) qs' (idxV ks'.length)) → KeysAt K H10 (ks'.map fkey) qs' → H10 O = some (.lst (qs'.map V.ref)) → H10 R = some (.lst (rs.map V.ref)) → H10 Wr = some (.lst (row.map V.int)) → H10 L = some (.lst ys) → OptsAt K H10 (T sq) ys → RowsAt K H10 rs rows → MB T D st ks' rows row → ks'[rows.length]? = some sq → EntT ks' T sq row.length z →
          ∃ ks qs row2 x8, ([some (.ref p0), some (.ref fT), some (.int (most : Int)), some (.ref Dd), some (.ref O), some (.ref R), some (.int ((rows.length : Nat) : Int)), some (.ref Wr), some v] : L2.St) = [some (.ref p0), some (.ref fT), some (.int (most : Int)), some (.ref Dd), some (.ref O), some (.ref R), some (.int ((rows.length : Nat) : Int)), some (.ref Wr), x8] ∧ Same H (upd H10 Wr (.lst (row.map V.int ++ [V.int z]))) ∧
            (upd H10 Wr (.lst (row.map V.int ++ [V.int z]))) Dd = some (KD P w Dd (ks.map fkey) qs (idxV ks.length)) ∧ KeysAt K (upd H10 Wr (.lst (row.map V.int ++ [V.int z]))) (ks.map fkey) qs ∧ (upd H10 Wr (.lst (row.map V.int ++ [V.int z]))) O = some (.lst (qs.map V.ref)) ∧ (upd H10 Wr (.lst (row.map V.int ++ [V.int z]))) R = some (.lst (rs.map V.ref)) ∧
            (upd H10 Wr (.lst (row.map V.int ++ [V.int z]))) Wr = some (.lst (row2.map V.int)) ∧ (upd H10 Wr (.lst (row.map V.int ++ [V.int z]))) L = some (.lst ys) ∧ OptsAt K (upd H10 Wr (.lst (row.map V.int ++ [V.int z]))) (T sq) ys ∧ RowsAt K (upd H10 Wr (.lst (row.map V.int ++ [V.int z]))) rs rows ∧ MB T D st ks rows row2 ∧ row2.length = b' + 1 ∧ ks[rows.length]? = some sq := by
        intro ks' qs' H10 z s10 eD10 kk10 eO10 eR10 eW10 eL10 oo10 ra10 mb10 esq10 ent10
        exact ⟨ks', qs', row ++ [z], _, rfl, same_in nW0 s10, by rw [upd_ne eDW]; exact eD10, kk10.upd eW10 lst_tup lst_frz, by rw [upd_ne eOW]; exact eO10, by rw [upd_ne eRW]; exact eR10, by rw [upd_same, intV_snoc], by rw [upd_ne (Ne.symm eWL)]; exact eL10, oo10.upd eW10 lst_tup lst_frz, ra10.upd eW10 lst_tup lst_frz, mb10.push esq10 ent10, by rw [List.length_append, erow]; rfl, esq10⟩
      cases ot with
      | none =>
        have ev : v = V.non := hO
        subst ev
        refine ⟨_, rfl, rfl, _, rfl, ite2 (fun e => absurd e (by decide)) (fun _ => ?_)⟩
        refine ⟨_, rfl, .inl ⟨rfl, _, SqL.of eW9⟩, _, rfl, rfl, _, rfl, ite2 (fun _ => ?_) (fun e => absurd (by decide) e)⟩
        refine ⟨_, rfl, Wr, _, _, rfl, rfl, eW9, hrs, ?_⟩
        exact grow ks qs H9 (-1) s9 eD9 kk9 eO9 eR9 eW9 eL9 oo9 ra9 mb esq (.inl ⟨rfl, by rw [erow]; exact eot⟩)
      | some t =>
        obtain ⟨p, ev, hp⟩ := hO
        subst ev
        have hDt := hDT sq b' t hDq eot
        have isN : decide (V.ref p = V.non) = false := decide_eq_false (fun z => by cases z)
        refine ⟨_, rfl, rfl, _, rfl, ite2 (fun _ => ?_) (fun e => absurd (by rw [isN]; rfl) e)⟩
        refine ⟨_, rfl, _, rfl, Dd, _, _, _, p, fkey t, rfl, rfl, eD9, kk9, tupKey hp, _, rfl, ?_⟩
        by_cases hm : t ∈ ks
        · have hm2 : fkey t ∈ ks.map fkey := List.mem_map.mpr ⟨_, hm, rfl⟩
          refine ite2 (fun e => ?_) (fun _ => ?_)
          · rw [if_pos rfl, decide_eq_true hm2] at e
            cases e
          obtain ⟨j, hj⟩ := List.mem_iff_getElem?.mp hm
          have hjl := (List.getElem?_eq_some_iff.mp hj).1
          refine ⟨_, rfl, .inl ⟨rfl, _, SqL.of eW9⟩, _, rfl, rfl, _, rfl, ite2 (fun e => absurd e (by rw [isN]; decide)) (fun _ => ?_)⟩
          refine ⟨_, rfl, _, rfl, Dd, _, _, _, p, fkey t, j, .int (j : Int), rfl, rfl, eD9, kk9, tupKey hp, getKk hj, idxV_at hjl, Wr, _, _, rfl, rfl, eW9, hrs, ?_⟩
          exact grow ks qs H9 (j : Int) s9 eD9 kk9 eO9 eR9 eW9 eL9 oo9 ra9 mb esq (.inr ⟨j, t, rfl, hj, by rw [erow]; exact eot⟩)
        · have hm2 : fkey t ∉ ks.map fkey := fun z => hm (fkey_mem z)
          refine ite2 (fun _ => ?_) (fun e => ?_)
          rotate_left
          · rw [if_pos rfl, decide_eq_false hm2] at e
            exact absurd rfl e
          have mb2 := mb.new (List.getElem?_eq_some_iff.mp esq).1 hDt hm
          have hkm2 := hmx _ mb2.nd mb2.dom
          rw [List.length_append, List.length_singleton] at hkm2
          have hqm : (qs.map V.ref).length = ks.length := by rw [List.length_map, hql]
          -- numbers[target] = len(order)
          refine ⟨_, rfl, O, _, rfl, .inl (SqL.of eO9), _, rfl, _, rfl, Dd, _, _, _, p, fkey t, rfl, rfl, eD9, kk9, tupKey hp, by rw [List.length_map]; exact small1000 (by omega), hm2, ?_⟩
          have eKD : idxV ks.length ++ [V.int (((qs.map V.ref).length : Nat) : Int)] = idxV (ks ++ [t]).length := by rw [hqm, List.length_append, List.length_singleton, idxV_succ]
          have eKs : ks.map fkey ++ [fkey t] = (ks ++ [t]).map fkey := by rw [List.map_append]; rfl
          rw [eKD, eKs]
          have kk10 : KeysAt K (upd H9 Dd (KD P w Dd ((ks ++ [t]).map fkey) (qs ++ [p]) (idxV (ks ++ [t]).length))) ((ks ++ [t]).map fkey) (qs ++ [p]) := by
            rw [← eKs]
            exact (kk9.snoc (tupKey hp)).upd eD9 kd_tup kd_frz
          have s10 : Same H (upd H9 Dd (KD P w Dd ((ks ++ [t]).map fkey) (qs ++ [p]) (idxV (ks ++ [t]).length))) := same_in hnD0 s9
          have eD10 : (upd H9 Dd (KD P w Dd ((ks ++ [t]).map fkey) (qs ++ [p]) (idxV (ks ++ [t]).length))) Dd = _ := upd_same
          have eO10 : (upd H9 Dd (KD P w Dd ((ks ++ [t]).map fkey) (qs ++ [p]) (idxV (ks ++ [t]).length))) O = _ := (upd_ne (Ne.symm eDO)).trans eO9
          have eR10 : (upd H9 Dd (KD P w Dd ((ks ++ [t]).map fkey) (qs ++ [p]) (idxV (ks ++ [t]).length))) R = _ := (upd_ne (Ne.symm eDR)).trans eR9
          have eW10 : (upd H9 Dd (KD P w Dd ((ks ++ [t]).map fkey) (qs ++ [p]) (idxV (ks ++ [t]).length))) Wr = _ := (upd_ne (Ne.symm eDW)).trans eW9
          have eL10 : (upd H9 Dd (KD P w Dd ((ks ++ [t]).map fkey) (qs ++ [p]) (idxV (ks ++ [t]).length))) L = _ := (upd_ne (Ne.symm eDL)).trans eL9
          have oo10 := oo9.upd (ob := KD P w Dd ((ks ++ [t]).map fkey) (qs ++ [p]) (idxV (ks ++ [t]).length)) eD9 kd_tup kd_frz
          have ra10 := ra9.upd (o := KD P w Dd ((ks ++ [t]).map fkey) (qs ++ [p]) (idxV (ks ++ [t]).length)) eD9 kd_tup kd_frz
          have hp10 := tup_upd (o := KD P w Dd ((ks ++ [t]).map fkey) (qs ++ [p]) (idxV (ks ++ [t]).length)) eD9 kd_tup kd_frz hp
          generalize upd H9 Dd (KD P w Dd ((ks ++ [t]).map fkey) (qs ++ [p]) (idxV (ks ++ [t]).length)) = H10 at kk10 s10 eD10 eO10 eR10 eW10 eL10 oo10 ra10 hp10 ⊢
          -- order.append(target)
          refine ⟨_, rfl, .inl ⟨rfl, _, SqL.of eO10⟩, _, rfl, O, _, _, rfl, rfl, eO10, by rw [hqm]; exact small1000 (by omega), ?_⟩
          rw [refV_snoc]
          have s11 : Same H (upd H10 O (.lst ((qs ++ [p]).map V.ref))) := same_in nO0 s10
          have eO11 : (upd H10 O (.lst ((qs ++ [p]).map V.ref))) O = _ := upd_same
          have eD11 : (upd H10 O (.lst ((qs ++ [p]).map V.ref))) Dd = _ := (upd_ne eDO).trans eD10
          have eR11 : (upd H10 O (.lst ((qs ++ [p]).map V.ref))) R = _ := (upd_ne (Ne.symm eOR)).trans eR10
          have eW11 : (upd H10 O (.lst ((qs ++ [p]).map V.ref))) Wr = _ := (upd_ne (Ne.symm eOW)).trans eW10
          have eL11 : (upd H10 O (.lst ((qs ++ [p]).map V.ref))) L = _ := (upd_ne (Ne.symm eOL)).trans eL10
          have kk11 := kk10.upd (o := .lst ((qs ++ [p]).map V.ref)) eO10 lst_tup lst_frz
          have oo11 := oo10.upd (ob := .lst ((qs ++ [p]).map V.ref)) eO10 lst_tup lst_frz
          have ra11 := ra10.upd (o := .lst ((qs ++ [p]).map V.ref)) eO10 lst_tup lst_frz
          have hp11 := tup_upd (o := .lst ((qs ++ [p]).map V.ref)) eO10 lst_tup lst_frz hp10
          generalize upd H10 O (.lst ((qs ++ [p]).map V.ref)) = H11 at kk11 s11 eD11 eO11 eR11 eW11 eL11 oo11 ra11 hp11 ⊢
          -- if len(order) > most
          have hq1 : ((qs ++ [p]).map V.ref).length = ks.length + 1 := by rw [List.length_map, List.length_append, hql]; rfl
          refine ⟨_, rfl, O, _, rfl, .inl (SqL.of eO11), _, rfl, _, _, rfl, rfl, _, rfl, ite2 (fun e => absurd (of_decide_eq_true e) (by omega)) (fun _ => ?_)⟩
          have hjt : (ks ++ [t])[ks.length]? = some t := by rw [List.getElem?_append_right (Nat.le_refl _), Nat.sub_self]; rfl
          refine ⟨_, rfl, .inl ⟨rfl, _, SqL.of eW11⟩, _, rfl, rfl, _, rfl, ite2 (fun e => absurd e (by rw [isN]; decide)) (fun _ => ?_)⟩
          refine ⟨_, rfl, _, rfl, Dd, _, _, _, p, fkey t, ks.length, .int ((ks.length : Nat) : Int), rfl, rfl, eD11, kk11, tupKey hp11, getKk hjt, idxV_at (by rw [List.length_append]; exact Nat.lt_succ_self _), Wr, _, _, rfl, rfl, eW11, hrs, ?_⟩
          refine grow (ks ++ [t]) (qs ++ [p]) H11 ((ks.length : Nat) : Int) s11 eD11 kk11 eO11 eR11 eW11 eL11 oo11 ra11 mb2 ?_ (.inr ⟨ks.length, t, rfl, hjt, by rw [erow]; exact eot⟩)
          rw [List.getElem?_append_left (List.getElem?_eq_some_iff.mp esq).1]
          exact esq
    · rintro σ H9 ⟨ks, qs, row, x8, rfl, s9, eD9, kk9, eO9, eR9, eW9, eL9, oo9, ra9, mb, erow, esq⟩
      rw [oo9.1] at erow
      have hlt9 := (List.getElem?_eq_some_iff.mp esq).1
      have hkm := hmx ks mb.nd mb.dom
      -- rows.append(tuple(row))
      refine ⟨_, rfl, .inl ⟨rfl, _, SqL.of eR9⟩, _, rfl, Wr, _, rfl, .inl ⟨SqL.of eW9, fun Tt nT => ?_⟩⟩
      have s10 : Same H9 (upd H9 Tt (.tup (row.map V.int))) := same_upd nT
      have eT10 : (upd H9 Tt (.tup (row.map V.int))) Tt = some (.tup (row.map V.int)) := upd_same
      have eD10 := s10 _ _ eD9
      have eO10 := s10 _ _ eO9
      have eR10 := s10 _ _ eR9
      have kk10 := kk9.ext (Ext.of s10)
      have ra10 := (ra9.same s10).snoc (SqT.of eT10)
      have s010 := s9.trans s10
      generalize upd H9 Tt (.tup (row.map V.int)) = H10 at s10 eT10 eD10 eO10 eR10 kk10 ra10 s010 ⊢
      have hrsl : rs.length = rows.length := ra9.1
      refine ⟨R, _, _, rfl, rfl, eR10, by rw [List.length_map, hrsl]; exact small1000 (by omega), ?_⟩
      refine ⟨_, rfl, _, _, rfl, rfl, m - 1, by omega, ks, qs, rs ++ [Tt], rows ++ [row], _, _, by rw [List.length_append]; rfl, same_in nR0 s010, by rw [upd_ne eDR]; exact eD10, kk10.upd eR10 lst_tup lst_frz, by rw [upd_ne eOR]; exact eO10, by rw [upd_same, refV_snoc], ra10.upd eR10 lst_tup lst_frz, mb.endrow esq erow, ?_⟩
      rw [List.length_append, List.length_singleton]
      omega
  · have e1 : ¬ ((rows.length : Nat) : Int) < (((qs.map V.ref).length : Nat) : Int) := fun z => e (decide_eq_true z)
    refine ⟨_, rfl, _, rfl, by show 2 ≤ sizeLine; decide, fun T3 nT3 => ?_⟩
    have s7 := same_upd (o := .tup [V.ref O, V.ref R]) nT3
    exact q _ T3 O R qs rs ks rows (s6.trans s7) upd_same (s7 _ _ eO6) (kk6.ext (Ext.of s7)) (s7 _ _ eR6) (ra6.same s7) (mb.done (by omega)) hkm
end
end Dg
end

section
set_option maxHeartbeats 4000000
namespace Dg
open PySem PySem.Spec PyProof.Rows L2
section
variable {prog : Program} {w : World} {A : Around} {E : Value → Shared → Prop} {s : Shared} {T : Addr} {Q : Value → Shared → Prop} {i j : Int} {t u : Tok}
theorem max2_tup (hh : A.handled = none) (hT : s.heap.IsTuple T #[.int i t, .int j u]) (h : ∀ h' tk v, (∀ b o, s.heap.get? b = some o → h'.get? b = some o) → Q (.int (if i < j then j else i) v) { s with heap := h', toks := tk }) :
    wpAny (model prog w) A (call (.builtin "max") [.ref T]) Q E s := by
  have hlt : T < s.heap.objs.size := by obtain ⟨_, e, _⟩ := hT; exact Heap.lt_size e
  have nn : Flt.NumV (Value.int i t) ∧ Flt.NumV (Value.int j u) := ⟨(lt_nu (x := .int i) (y := .int i) (c := decide (i < i)) ⟨t, rfl⟩ ⟨t, rfl⟩ rfl).1, (lt_nu (x := .int j) (y := .int j) (c := decide (j < j)) ⟨u, rfl⟩ ⟨u, rfl⟩ rfl).1⟩
  refine call_max_walk (wpAny_pyIter_tuple hT ?_)
  refine ⟨_, [_, T], [_], _, _, _, _, rfl, Walks.tuple (A := A.in1) hh _ T (Nat.ne_of_lt hlt) #[.int i t, .int j u],
    ⟨⟨_, Heap.get?_push_size _ rfl, rfl, rfl⟩, hT.push _⟩, fun d hd => ?_, by simp, Flt.cmpOf_gt #[.int i t, .int j u] (by simp [nn]), fun v h' tk hP hk => ?_⟩
  · show d < (s.heap.push _).objs.size
    rw [Heap.size_push]
    rcases List.mem_cons.mp hd with rfl | hd
    · exact Nat.lt_succ_self _
    · rcases List.mem_cons.mp hd with rfl | hd
      · exact Nat.lt_succ_of_lt hlt
      · cases hd
  · have hold : ∀ d o, s.heap.get? d = some o → h'.get? d = some o := fun d o e => by
      refine hk d o (fun hm => ?_) (Heap.get?_push_of_some _ e)
      rcases List.mem_cons.mp hm with e1 | hm
      · have := Heap.lt_size e; rw [e1] at this; exact Nat.lt_irrefl _ this
      · cases hm
    by_cases c : i < j
    · have hv : v = .int j u := by simp [argBest, Flt.ltV, c] at hP; exact hP.symm
      have := h h' tk u hold
      rw [if_pos c] at this
      rw [hv]
      exact this
    · have hv : v = .int i t := by simp [argBest, Flt.ltV, c] at hP; exact hP.symm
      have := h h' tk t hold
      rw [if_neg c] at this
      rw [hv]
      exact this
theorem min2_tup (hh : A.handled = none) (hT : s.heap.IsTuple T #[.int i t, .int j u]) (h : ∀ h' tk v, (∀ b o, s.heap.get? b = some o → h'.get? b = some o) → Q (.int (if j < i then j else i) v) { s with heap := h', toks := tk }) :
    wpAny (model prog w) A (call (.builtin "min") [.ref T]) Q E s := by
  have hlt : T < s.heap.objs.size := by obtain ⟨_, e, _⟩ := hT; exact Heap.lt_size e
  have nn : Flt.NumV (Value.int i t) ∧ Flt.NumV (Value.int j u) := ⟨(lt_nu (x := .int i) (y := .int i) (c := decide (i < i)) ⟨t, rfl⟩ ⟨t, rfl⟩ rfl).1, (lt_nu (x := .int j) (y := .int j) (c := decide (j < j)) ⟨u, rfl⟩ ⟨u, rfl⟩ rfl).1⟩
  refine call_min_walk (wpAny_pyIter_tuple hT ?_)
  refine ⟨_, [_, T], [_], _, _, _, _, rfl, Walks.tuple (A := A.in1) hh _ T (Nat.ne_of_lt hlt) #[.int i t, .int j u],
    ⟨⟨_, Heap.get?_push_size _ rfl, rfl, rfl⟩, hT.push _⟩, fun d hd => ?_, by simp, Flt.cmpOf_lt #[.int i t, .int j u] (by simp [nn]), fun v h' tk hP hk => ?_⟩
  · show d < (s.heap.push _).objs.size
    rw [Heap.size_push]
    rcases List.mem_cons.mp hd with rfl | hd
    · exact Nat.lt_succ_self _
    · rcases List.mem_cons.mp hd with rfl | hd
      · exact Nat.lt_succ_of_lt hlt
      · cases hd
  · have hold : ∀ d o, s.heap.get? d = some o → h'.get? d = some o := fun d o e => by
      refine hk d o (fun hm => ?_) (Heap.get?_push_of_some _ e)
      rcases List.mem_cons.mp hm with e1 | hm
      · have := Heap.lt_size e; rw [e1] at this; exact Nat.lt_irrefl _ this
      · cases hm
    by_cases c : j < i
    · have hv : v = .int j u := by simp [argBest, Flt.ltV, c] at hP; exact hP.symm
      have := h h' tk u hold
      rw [if_pos c] at this
      rw [hv]
      exact this
    · have hv : v = .int i t := by simp [argBest, Flt.ltV, c] at hP; exact hP.symm
      have := h h' tk t hold
      rw [if_neg c] at this
      rw [hv]
      exact this
end
section
variable {X : Cx}
abbrev rMaxT (K : PySem.W.Frag) : List V → Hp → VK → Prop := fun vs H Q => ∃ (p : Addr) (i j : Int), vs = [.ref p] ∧ SqT K H p [.int i, .int j] ∧ Q (.int (if i < j then j else i)) H
abbrev rMinT (K : PySem.W.Frag) : List V → Hp → VK → Prop := fun vs H Q => ∃ (p : Addr) (i j : Int), vs = [.ref p] ∧ SqT K H p [.int i, .int j] ∧ Q (.int (if j < i then j else i)) H
theorem call_maxT (K : PySem.W.Frag) (hK : X.K = K := by rfl) (hc : X.calm = true := by rfl) : CallR X (.builtin "max") (rMaxT K) := by
  subst hK
  intro pins s σ H vs us Q I r h
  obtain ⟨p, i, j, rfl, hs, q⟩ := h
  obtain ⟨its, rv, hl, _⟩ := I.tuple hs
  rw [Vals.ref1 r]
  cases rv with
  | cons r1 rv =>
    cases rv with
    | cons r2 rv =>
      cases rv
      obtain ⟨t, rfl⟩ := r1
      obtain ⟨u, rfl⟩ := r2
      exact max2_tup (I.ok.hd hc) hl fun h' tk v k => ⟨.int _, H, I.kept k, ⟨v, rfl⟩, q⟩
theorem call_minT (K : PySem.W.Frag) (hK : X.K = K := by rfl) (hc : X.calm = true := by rfl) : CallR X (.builtin "min") (rMinT K) := by
  subst hK
  intro pins s σ H vs us Q I r h
  obtain ⟨p, i, j, rfl, hs, q⟩ := h
  obtain ⟨its, rv, hl, _⟩ := I.tuple hs
  rw [Vals.ref1 r]
  cases rv with
  | cons r1 rv =>
    cases rv with
    | cons r2 rv =>
      cases rv
      obtain ⟨t, rfl⟩ := r1
      obtain ⟨u, rfl⟩ := r2
      exact min2_tup (I.ok.hd hc) hl fun h' tk v k => ⟨.int _, H, I.kept k, ⟨v, rfl⟩, q⟩
end
end Dg
end

section
set_option maxHeartbeats 4000000
namespace Dg
open PySem PySem.Spec PyProof.Rows L2
abbrev sSma : Stmt := top 24
abbrev nSma : List Str := ["letters", "rows", "accepting", "result"]
theorem scSma : FnScope nSma ["letters", "rows", "accepting"] (defScope sSma) := ⟨rfl, rfl, rfl, by decide +kernel, rfl, by decide +kernel, by decide +kernel⟩
def spSma (K : PySem.W.Frag) : Sp := fun vs H Q _ => ∃ (R As : Addr) (rs : List Addr) (M : Mach), vs = [.int (M.k : Int), .ref R, .ref As] ∧ SqL K H R (rs.map V.ref) ∧ RowsAt K H rs M.rows ∧ SqL K H As (M.acc.map V.bl) ∧ M.Sm ∧ M.rows.length ≤ 400 ∧
  ∀ H' p m, Same H H' → MachAt K H' p m → Canon M.L m → m.k = M.k → Q (.ref p) H'
theorem Same.seq {K : PySem.W.Frag} {H H' : Hp} {a : Addr} {xs : List V} (s : Same H H') (h : SqL K H a xs) : SqL K H' a xs := (Ext.of s).seq h
section
variable {P : Program} {w : World} {K : PySem.W.Frag} {mg : Str → Option Value} {base : Heap} {f fL : Addr} {fd fdL : FuncData} {uM : Value}
theorem ok_sma (F : Fun K "smallest" "smallest" sSma f fd) (GL : FnOk P w K mg base CX0 2 fL fdL ["machine"] (spLea K)) (kL : PySem.W.keepIn K (.ref fL) = true) (bL : Binds K fdL ["machine"] []) (mL : mg "least_machine" = some (.ref fL)) (mt : mg "tuple" = none) (ml : mg "len" = none)
    (mM : mg "MAX_MACHINE" = some uM) (rM : RelV (.int 400) uM) : FnOk P w K mg base CX0 3 f fd ["letters", "rows", "accepting"] (spSma K) := by
  refine F.ok scSma (fun vs H Q E h => ?_) (fun cdv A outer s H vs Q E hr h => ?_)
  · obtain ⟨R, As, rs, M, rfl, _⟩ := h
    rfl
  · obtain ⟨R, As, rs, M, rfl, hR, hra, hA, sm, h400, q⟩ := h
    have nd := scSma.nd
    refine ⟨_, pss_cons (ps_set (i := 3) nd rfl (Or.inl rfl) (pe_call GL hr (by rfl) mL kL bL .nil pass0 (pa_cons (pe_tup (pa_cons (pv 0) (pa_cons (pe_callTy call_tuple_of (by rfl) mt (by decide +kernel) (pa_cons (pv 1) pa_nil)) (pa_cons (pe_callTy call_tuple_of (by rfl) mt (by decide +kernel) (pa_cons (pv 2) pa_nil)) pa_nil)))) pa_nil)))
      (pss_cons (ps_if (pt_cmpR op_gt (pe_callB call_len_seq (by rfl) ml PySem.boot_len (pa_cons (pe_ix ix_tup (pv 3) pe_int (fun _ _ => rfl)) pa_nil)) (pe_glob (by rfl) mM rM) (nomark _)) (pss_one ps_never) pss_nil)
      (pss_one (ps_ret (pv 3)))), ?_⟩
    refine ⟨_, rfl, _, rfl, R, _, rfl, .inl ⟨hR, fun T1 nT1 => ?_⟩⟩
    have s1 := same_upd (o := .tup (rs.map V.ref)) nT1
    refine ⟨_, rfl, As, _, rfl, .inl ⟨s1.seq hA, fun T2 nT2 => ?_⟩⟩
    have s2 := same_upd (o := .tup (M.acc.map V.bl)) nT2
    refine ⟨by show 3 ≤ sizeLine; decide, fun T3 nT3 => ?_⟩
    have s3 := same_upd (o := .tup [V.int (M.k : Int), .ref T1, .ref T2]) nT3
    have s03 := (s1.trans s2).trans s3
    refine ⟨T3, M, rfl, ⟨T1, T2, rs, SqT.of upd_same, SqT.of (s3 _ _ (s2 _ _ upd_same)), hra.same s03, SqT.of (s3 _ _ upd_same)⟩, sm, fun H' p m s4 hm can hk => ?_⟩
    obtain ⟨b, c, ra, h⟩ := id hm
    have hsz := can.size sm.ok rfl
    have hl : (ra.map V.ref).length = m.rows.length := by rw [List.length_map]; exact h.r.1
    refine ⟨_, rfl, p, _, 1, .ref b, rfl, rfl, h.t, rfl, b, _, rfl, .inr h.b, _, _, rfl, rfl, _, rfl, ite2 (fun e => absurd (of_decide_eq_true e) (by omega)) (fun _ => ?_)⟩
    exact ⟨_, rfl, q _ _ _ (s03.trans s4) hm can hk⟩
end
end Dg
end

section
set_option maxHeartbeats 4000000
namespace Dg
open PySem PySem.Spec PyProof.Rows L2
abbrev sPai : Stmt := top 25
abbrev sTof : Stmt := (defBody sPai).getD 5 (.Pass ⟨0, 0, 0, 0⟩)
abbrev nTof : List Str := ["pair", "one", "two", "whole", "found", "letter", "left", "right", "gone"]
abbrev frTof : List Str := ["one", "two", "whole"]
theorem scTof : NdefX.NScope nTof ["pair"] frTof (C8.fnScope sTof) := NdefX.nscope_by (by decide +kernel)
def wTof (K : PySem.W.Frag) (whole : Bool) (M N : Mach) : List (Option V) → Hp → Prop := fun ws H => ∃ p1 p2, ws = [some (.ref p1), some (.ref p2), some (.bl whole)] ∧ MachAt K H p1 M ∧ MachAt K H p2 N
theorem OptsAt.snoc {K : PySem.W.Frag} {H : Hp} {ts : List (Option (List Int))} {vs : List V} {o : Option (List Int)} {v : V} (h : OptsAt K H ts vs) (hv : OptAt K H o v) : OptsAt K H (ts ++ [o]) (vs ++ [v]) := by
  refine ⟨by rw [List.length_append, List.length_append, h.1]; rfl, fun i o' v' e1 e2 => ?_⟩
  have hl := h.1
  rcases snoc_at e1 with ⟨l1, e1⟩ | ⟨l1, e1⟩
  · rcases snoc_at e2 with ⟨l2, e2⟩ | ⟨l2, e2⟩
    · exact h.2 i o' v' e1 e2
    · omega
  · rcases snoc_at e2 with ⟨l2, e2⟩ | ⟨l2, e2⟩
    · omega
    · subst e1 e2
      exact hv
theorem pT_get {whole : Bool} {M N : Mach} {l r : Int} {b : Nat} (hb : b < M.k) : (pT whole M N [l, r])[b]? = some (if gone whole (M.nxt l b) (N.nxt r b) = true then none else some [M.nxt l b, N.nxt r b]) := by
  unfold pT
  rw [List.getElem?_map, List.getElem?_eq_getElem (by rw [List.length_range]; exact hb), List.getElem_range]
  rfl
theorem take_succ_get {α : Type} {l : List α} {b : Nat} {x : α} (h : l[b]? = some x) : l.take (b + 1) = l.take b ++ [x] := by
  rw [List.take_add_one, h]
  rfl
section
variable {P : Program} {w : World} {K : PySem.W.Frag} {mg : Str → Option Value} {base : Heap} {fT c' fN : Addr} {fdN : FuncData} {qual : Str} {cl : List (Str × Addr)} {whole : Bool} {M N : Mach}
theorem nok_ofX {N ps fr : List Str} {F : NdefX.NF} {f : Addr} {k : Nat} {sp : List (Option V) → Sp} (S : NdefX.NScope N ps fr F.scope) (hb : ∀ (doc pm ctv : Value) (us : List Value), us.length = ps.length → bindArgs (F.fd doc pm ctv) ⟨us, []⟩ = pure (ps.zip us)) (len : ∀ ws vs H Q E, sp ws vs H Q E → vs.length = ps.length)
    (hbody : ∀ (A : Around) (outer : List Env) (s : Shared) (H : Hp) (vs : List V) (ws : List (Option V)) (Q : VK) (E : XK), Room k (A.deeper (NdefX.envF F f s.heap.objs.size)) → H f = some (NdefX.FnO f F) → H F.c = some (LamX.CodeO F.c F.qual) → ws.length = fr.length → sp ws vs H Q E →
      ∃ t, PSs (NdefX.ncx CX0 P w K mg base N F f A outer s H E).nox F.body t ∧ t { nx := fun _ H' => Q .non H', rt := Q } (NdefX.startF N vs ws) H) : NdefX.NOk P w K mg base CX0 (k + 1) f F ps fr sp :=
  NdefX.nok_of S hb len fun A outer s H vs ws Q E h1 h2 h3 h4 h5 => by
    obtain ⟨t, h, q⟩ := hbody A outer s H vs ws Q E h1 h2 h3 h4 h5
    exact ⟨t, h.nox, q⟩
theorem ok_tof (GN : FnOk P w K mg base CX0 1 fN fdN ["machine", "state", "letter"] (spNxt K)) (kN : PySem.W.keepIn K (.ref fN) = true) (bN : Binds K fdN ["machine", "state", "letter"] []) (mN : mg "next_state" = some (.ref fN)) (mr : mg "range" = none) (mmi : mg "min" = none) (mma : mg "max" = none)
    (o : M.Ok) (o' : N.Ok) (hk : M.k = N.k) (hk1 : M.k ≤ 1000) : NdefX.NOk P w K mg base CX0 2 fT (NdefX.NF.of sTof "targets_of" qual cl c') ["pair"] frTof (spT K (pT whole M N) (pD M N) (wTof K whole M N)) := by
  refine nok_ofX scTof (fun _ _ _ us hl => match us, hl with | [_], _ => rfl) (fun ws vs H Q E h => ?_) (fun A outer s H vs ws Q E hr hf hc hl h => ?_)
  · obtain ⟨a, q, rfl, _⟩ := h
    rfl
  · obtain ⟨a, q, rfl, ha, hD, ⟨p1, p2, rfl, ⟨b1, c1, ra1, h1⟩, hm2⟩, hq⟩ := h
    obtain ⟨l, r, rfl, hl', hr'⟩ := hD
    have nd := scTof.nd
    refine ⟨_, pss_cons (ps_set (i := 4) nd rfl (Or.inl rfl) (pe_lst pa_nil))
      (pss_cons (ps_for PassesOwn.never rfl (pi_range1 (by rfl) mr (pa_cons (pe_ix ix_tup (pv 1) pe_int (fun _ _ => rfl)) pa_nil)) (pg_name (i := 5) nd rfl (Or.inl rfl))
        (pss_cons (ps_set (i := 6) nd rfl (Or.inl rfl) (pe_call GN hr (by rfl) mN kN bN .nil pass0 (pa_cons (pv 1) (pa_cons (pe_ix ix_tup (pv 0) pe_int (fun _ _ => rfl)) (pa_cons (pv 5) pa_nil)))))
        (pss_cons (ps_set (i := 7) nd rfl (Or.inl rfl) (pe_call GN hr (by rfl) mN kN bN .nil pass0 (pa_cons (pv 2) (pa_cons (pe_ix ix_tup (pv 0) pe_int (fun _ _ => rfl)) (pa_cons (pv 5) pa_nil)))))
        (pss_cons (ps_set (i := 8) nd rfl (Or.inl rfl) (pe_ifExp (pt_val (pv 3)) (pe_cmpR op_lt (pe_callB (call_min2 rfl) (by rfl) mmi PyProof.Rows.boot_min (pa_cons (pv 6) (pa_cons (pv 7) pa_nil))) pe_int (nomark _))
            (pe_cmpR op_lt (pe_callB (call_max2 rfl) (by rfl) mma PyProof.Rows.boot_max (pa_cons (pv 6) (pa_cons (pv 7) pa_nil))) pe_int (nomark _))))
        (pss_one (ps_expr (pe_bm PySem.F.plainAttrs_list PySem.F.slot_list_append PySem.F.type_list_append mt_append (pv 4) (pa_cons (pe_ifExp (pt_val (pv 8)) pe_non (pe_tup (pa_cons (pv 6) (pa_cons (pv 7) pa_nil)))) pa_nil))))))))
      (pss_one (ps_ret (pv 4)))), ?_⟩
    refine ⟨Nat.zero_le _, fun L nL => ?_⟩
    have s1 : Same H (upd H L (.lst [])) := same_upd nL
    have hm1 := h1.same s1
    refine ⟨_, rfl, p1, _, 0, _, rfl, rfl, hm1.t, rfl, _, rfl, by omega, by omega, ?_⟩
    refine for_range (lo := 0) (n := ((M.k : Nat) : Int).toNat) (fun i σ H' => ∃ ys x5 x6 x7 x8, σ = [some (.ref a), some (.ref p1), some (.ref p2), some (.bl whole), some (.ref L), x5, x6, x7, x8] ∧ Same H H' ∧ H' L = some (.lst ys) ∧ OptsAt K H' ((pT whole M N [l, r]).take i) ys)
      ⟨[], none, none, none, none, rfl, s1, upd_same, rfl, fun i o v e => absurd e (by simp)⟩ ?_ ?_
    · rintro i σ H2 hi ⟨ys, x5, x6, x7, x8, rfl, s2, eL, oo⟩
      have hik : i < M.k := by omega
      have hyl : ys.length = i := by rw [oo.1, List.length_take, pT_len]; omega
      have e0 : V.int ((0 : Int) + (i : Int)) = V.int (i : Int) := by rw [Int.zero_add]
      have ha2 := Same.tup s2 ha
      refine ⟨_, rfl, _, rfl, a, _, 0, _, rfl, rfl, ha2, rfl, _, rfl, p1, M, l, i, by rw [← e0]; rfl, ⟨b1, c1, ra1, h1.same s2⟩, o, hl'.2, hik, ?_⟩
      refine ⟨_, rfl, _, rfl, a, _, 1, _, rfl, rfl, ha2, rfl, _, rfl, p2, N, r, i, by rw [← e0]; rfl, hm2.same s2, o', hr'.2, by omega, ?_⟩
      have hget := pT_get (whole := whole) (M := M) (N := N) (l := l) (r := r) hik
      cases whole
      · refine ⟨_, rfl, _, rfl, _, rfl, _, rfl, _, _, rfl, _, _, rfl, rfl, ?_⟩
        refine ⟨_, rfl, .inl ⟨rfl, _, SqL.of eL⟩, _, rfl, _, rfl, ite2 (fun e => ?_) (fun e => ?_)⟩
        · have hget : (pT false M N [l, r])[i]? = some none := by exact hget.trans (congrArg some (if_pos (show gone false (M.nxt l i) (N.nxt r i) = true from e)))
          refine ⟨L, _, _, rfl, rfl, eL, by rw [hyl]; exact small1000 (by omega), ys ++ [V.non], _, _, _, _, rfl, same_in nL s2, upd_same, ?_⟩
          rw [take_succ_get hget]
          exact (oo.snoc (o := none) rfl).upd eL lst_tup lst_frz
        · have hget : (pT false M N [l, r])[i]? = some (some [M.nxt l i, N.nxt r i]) := by exact hget.trans (congrArg some (if_neg (show ¬ gone false (M.nxt l i) (N.nxt r i) = true from e)))
          refine ⟨_, rfl, _, rfl, by show 2 ≤ sizeLine; decide, fun T nT => ?_⟩
          have s3 : Same H2 (upd H2 T (.tup [V.int (M.nxt l i), V.int (N.nxt r i)])) := same_upd nT
          have eT : (upd H2 T (.tup [V.int (M.nxt l i), V.int (N.nxt r i)])) T = some (.tup [V.int (M.nxt l i), V.int (N.nxt r i)]) := upd_same
          have eL3 := s3 _ _ eL
          have s03 := s2.trans s3
          have oo3 := (oo.ext (Ext.of s3)).snoc (o := some [M.nxt l i, N.nxt r i]) (v := V.ref T) ⟨T, rfl, SqT.of eT⟩
          generalize upd H2 T (.tup [V.int (M.nxt l i), V.int (N.nxt r i)]) = H3 at s3 eT eL3 s03 oo3 ⊢
          refine ⟨L, _, _, rfl, rfl, eL3, by rw [hyl]; exact small1000 (by omega), ys ++ [V.ref T], _, _, _, _, rfl, same_in nL s03, upd_same, ?_⟩
          rw [take_succ_get hget]
          exact oo3.upd eL3 lst_tup lst_frz
      · refine ⟨_, rfl, _, rfl, _, rfl, _, rfl, _, _, rfl, _, _, rfl, rfl, ?_⟩
        refine ⟨_, rfl, .inl ⟨rfl, _, SqL.of eL⟩, _, rfl, _, rfl, ite2 (fun e => ?_) (fun e => ?_)⟩
        · have hget : (pT true M N [l, r])[i]? = some none := by exact hget.trans (congrArg some (if_pos (show gone true (M.nxt l i) (N.nxt r i) = true from e)))
          refine ⟨L, _, _, rfl, rfl, eL, by rw [hyl]; exact small1000 (by omega), ys ++ [V.non], _, _, _, _, rfl, same_in nL s2, upd_same, ?_⟩
          rw [take_succ_get hget]
          exact (oo.snoc (o := none) rfl).upd eL lst_tup lst_frz
        · have hget : (pT true M N [l, r])[i]? = some (some [M.nxt l i, N.nxt r i]) := by exact hget.trans (congrArg some (if_neg (show ¬ gone true (M.nxt l i) (N.nxt r i) = true from e)))
          refine ⟨_, rfl, _, rfl, by show 2 ≤ sizeLine; decide, fun T nT => ?_⟩
          have s3 : Same H2 (upd H2 T (.tup [V.int (M.nxt l i), V.int (N.nxt r i)])) := same_upd nT
          have eT : (upd H2 T (.tup [V.int (M.nxt l i), V.int (N.nxt r i)])) T = some (.tup [V.int (M.nxt l i), V.int (N.nxt r i)]) := upd_same
          have eL3 := s3 _ _ eL
          have s03 := s2.trans s3
          have oo3 := (oo.ext (Ext.of s3)).snoc (o := some [M.nxt l i, N.nxt r i]) (v := V.ref T) ⟨T, rfl, SqT.of eT⟩
          generalize upd H2 T (.tup [V.int (M.nxt l i), V.int (N.nxt r i)]) = H3 at s3 eT eL3 s03 oo3 ⊢
          refine ⟨L, _, _, rfl, rfl, eL3, by rw [hyl]; exact small1000 (by omega), ys ++ [V.ref T], _, _, _, _, rfl, same_in nL s03, upd_same, ?_⟩
          rw [take_succ_get hget]
          exact oo3.upd eL3 lst_tup lst_frz
    · rintro σ H2 ⟨ys, x5, x6, x7, x8, rfl, s2, eL, oo⟩
      refine ⟨_, rfl, hq H2 L ys s2 nL eL ?_⟩
      rw [List.take_of_length_le (by rw [pT_len]; omega)] at oo
      exact oo
end
end Dg
end

section
set_option maxHeartbeats 4000000
namespace Dg
open PySem PySem.Spec PyProof.Rows L2
/-- a def whose code object is told -/
structure FunC (K : PySem.W.Frag) (x qual : Str) (st : Stmt) (f : Addr) (fd : FuncData) (c : Addr) : Prop where
  ex : ∃ (oc : Value) (od : Option Addr) (kV doc pm : Value) (an : Option Addr) (ct : Value) (osl : Array (Option Value)),
    fd = PySem.W.fnOf x qual (defArgs st) (defBody st) (defScope st) .none kV doc pm an (.ref c) ct ∧ K.lookup f = some ⟨oc, od, .func fd, osl⟩ ∧ PySem.W.codeIn K (.ref c) qual = true
  kp : PySem.W.keepIn K (.ref f) = true
theorem FunC.fun_ {K : PySem.W.Frag} {x qual : Str} {st : Stmt} {f : Addr} {fd : FuncData} {c : Addr} (F : FunC K x qual st f fd c) : Fun K x qual st f fd := by
  obtain ⟨oc, od, kV, doc, pm, an, ct, osl, h1, h2, h3⟩ := F.ex
  exact ⟨⟨oc, od, kV, doc, pm, an, .ref c, ct, osl, h1, h2, h3⟩, F.kp⟩
theorem FunC.ok {P : Program} {w : World} {K : PySem.W.Frag} {mg : Str → Option Value} {base : Heap} {x qual : Str} {st : Stmt} {f : Addr} {fd : FuncData} {c : Addr} {N ps : List Str} {k : Nat} {sp : Sp} (F : FunC K x qual st f fd c) (S : FnScope N ps (defScope st)) (len : ∀ vs H Q E, sp vs H Q E → vs.length = ps.length)
    (hbody : ∀ (A : Around) (outer : List Env) (s : Shared) (H : Hp) (vs : List V) (Q : VK) (E : XK), Room k (A.deeper (envOfC qual (defScope st) s.heap.objs.size f (.ref c))) → sp vs H Q E →
      ∃ t, PSs (cxOf CX0 P w K mg base N qual (defScope st) f (.ref c) A outer s H E).nox (defBody st) t ∧ t { nx := fun _ H' => Q .non H', rt := Q } (start N vs) H) : FnOk P w K mg base CX0 (k + 1) f fd ps sp := by
  obtain ⟨oc, od, kV, doc, pm, an, ct, osl, rfl, lk, hcd⟩ := F.ex
  refine fn_of lk hcd S len fun A outer s H vs Q E hr hsp => ?_
  obtain ⟨t, h, q⟩ := hbody A outer s H vs Q E hr hsp
  exact ⟨t, h.nox, q⟩
abbrev nPai : List Str := ["first", "second", "whole", "start", "targets_of", "order", "rows", "accepting", "left", "right", "ends", "one", "two"]
theorem scPai : FnScope nPai ["first", "second", "whole"] (defScope sPai) := ⟨rfl, rfl, rfl, by decide +kernel, rfl, by decide +kernel, by decide +kernel⟩
def spPai (K : PySem.W.Frag) (Tt : List NdefX.NTab) : Sp := fun vs H Q _ => ∃ (a a' : Addr) (whole : Bool) (M N : Mach), vs = [.ref a, .ref a', .bl whole] ∧ MachAt K H a M ∧ MachAt K H a' N ∧ M.Sm ∧ N.Sm ∧ M.k = N.k ∧ (M.rows.length + 1) * (N.rows.length + 1) ≤ 400 ∧ NdefX.TabsN Tt H ∧
  ∀ H' p m, Ext H H' → NdefX.TabsN Tt H' → MachAt K H' p m → Canon (comb whole M.L N.L) m → m.k = M.k → m.rows.length ≤ 400 → Q (.ref p) H'
theorem TabsN.same {T : List NdefX.NTab} {H H' : Hp} (s : Same H H') (t : NdefX.TabsN T H) : NdefX.TabsN T H' := t.ext s
section
variable {P : Program} {w : World} {K : PySem.W.Frag} {mg : Str → Option Value} {base : Heap}
/-- met(..) from a def that made the function -/
theorem pe_met {X : Cx} {fm : Addr} {fdm : FuncData} {k : Nat} {mk : Addr → NdefX.NF} {cl : List (Str × Addr)} {x : Str} {fr : List Str} {js : List Nat} {t : TA} {e : Expr} {es : List Expr} {p pos : Pos} (Fm : Fun X.K "met" "met" sMet fm fdm) (hg : Gl X "met") (hm : X.mg "met" = some (.ref fm)) (bM : Binds X.K fdm ["start", "targets_of", "most"] [])
    (mt : X.mg "tuple" = none) (ml : X.mg "len" = none) (hr : Room (k + 1) X.A) (hcl : ∀ c', (mk c').cl = cl) (cp : X.Ok → NdefX.Caps X cl fr js) (ha : PA X (e :: es) t)
    (he : starEach (e :: es) X.env = (false, eval e X.env) :: starEach es X.env := by rfl) (hpl : (backTo pos (starEach es X.env)).any (·.1) = false := by rfl) :
    PE X (.Call (.Name "met" p) (e :: es) [] pos) (fun σ H Q => t σ H fun vs H1 => spMetS X.prog X.w X.K X.mg X.base k mk [x] fr (js.map (NdefX.slotAt σ)) vs H1 Q) :=
  pe_callS (sp := fun σ vs H1 Q => spMetS X.prog X.w X.K X.mg X.base k mk [x] fr (js.map (NdefX.slotAt σ)) vs H1 Q) hg hm Fm.kp bM
    (fun σ vs H Q ⟨_, _, _, _, _, _, _, _, _, e, _⟩ => by rw [e]; rfl)
    (fun pins s σ H us vs Q I hb r hsp => met_run Fm mt ml hr I.env0 hb r (fun c' => by rw [hcl c']; exact NdefX.cells_of I (cp I.ok)) hsp) ha (by decide) he hpl
end
section
variable {P : Program} {w : World} {K : PySem.W.Frag} {mg : Str → Option Value} {base : Heap} {f fC fL fF fN fA fM fS c Pt : Addr} {fd fdC fdL fdF fdN fdA fdM fdS : FuncData} {uP : Value} {Tt : List NdefX.NTab} {nm : Nat → Nat → Str}
theorem ok_pai (F : FunC K "paired" "paired" sPai f fd c) (TB : LamX.TabB base mg c Pt) (hT : (Pt, nm) ∈ Tt) (hTu : ∀ p ∈ Tt, p.1 = Pt → p.2 = nm) (hnm : nm = fun _ _ => ("paired.<locals>.targets_of" : Str))
    (GC : FnOk P w K mg base CX0 1 fC fdC ["first", "second"] (spChk K)) (kC : PySem.W.keepIn K (.ref fC) = true) (bC : Binds K fdC ["first", "second"] []) (mC : mg "check_letters" = some (.ref fC))
    (GL : FnOk P w K mg base CX0 2 fL fdL ["machine"] (spLea K)) (kL : PySem.W.keepIn K (.ref fL) = true) (bL : Binds K fdL ["machine"] []) (mL : mg "least_machine" = some (.ref fL))
    (GF : FnOk P w K mg base CX0 1 fF fdF ["machine"] (spFst K)) (kF : PySem.W.keepIn K (.ref fF) = true) (bF : Binds K fdF ["machine"] []) (mF : mg "first_state" = some (.ref fF))
    (GN : FnOk P w K mg base CX0 1 fN fdN ["machine", "state", "letter"] (spNxt K)) (kN : PySem.W.keepIn K (.ref fN) = true) (bN : Binds K fdN ["machine", "state", "letter"] []) (mN : mg "next_state" = some (.ref fN))
    (GA : FnOk P w K mg base CX0 1 fA fdA ["machine", "state"] (spAcc K)) (kA : PySem.W.keepIn K (.ref fA) = true) (bA : Binds K fdA ["machine", "state"] []) (mA : mg "is_accepting" = some (.ref fA))
    (Fm : Fun K "met" "met" sMet fM fdM) (bM : Binds K fdM ["start", "targets_of", "most"] []) (mM : mg "met" = some (.ref fM))
    (GS : FnOk P w K mg base CX0 3 fS fdS ["letters", "rows", "accepting"] (spSma K)) (kS : PySem.W.keepIn K (.ref fS) = true) (bS : Binds K fdS ["letters", "rows", "accepting"] []) (mS : mg "smallest" = some (.ref fS))
    (mP : mg "MAX_PAIRS" = some uP) (rP : RelV (.int 4000) uP) (mr : mg "range" = none) (mmi : mg "min" = none) (mma : mg "max" = none) (mal : mg "all" = none) (man : mg "any" = none) (mt : mg "tuple" = none) (ml : mg "len" = none) :
    FnOk P w K mg base CX0 4 f fd ["first", "second", "whole"] (spPai K Tt) := by
  refine F.ok scPai (fun vs H Q E h => ?_) (fun A outer s H vs Q E hr h => ?_)
  · obtain ⟨a, a', whole, M, N, rfl, _⟩ := h
    rfl
  · obtain ⟨a, a', whole, M, N, rfl, hM, hN, sm, sn, hk, hsz, hTab, q⟩ := h
    have nd := scPai.nd
    have hnb : NdefX.ndefB (defScope sPai) (C8.fnScope sTof) frTof = true := by decide +kernel
    refine ⟨_, pss_cons (ps_expr (pe_call (GC.mono (by decide)) hr (by rfl) mC kC bC .nil pass0 (pa_cons (pv 0) (pa_cons (pv 1) pa_nil))))
      (pss_cons (ps_set (i := 11) nd rfl (Or.inr rfl) (pe_call (GL.mono (by decide)) hr (by rfl) mL kL bL .nil pass0 (pa_cons (pv 0) pa_nil)))
      (pss_cons (ps_set (i := 12) nd rfl (Or.inr rfl) (pe_call (GL.mono (by decide)) hr (by rfl) mL kL bL .nil pass0 (pa_cons (pv 1) pa_nil)))
      (pss_cons (ps_set (i := 3) nd rfl (Or.inl rfl) (pe_tup (pa_cons (pe_call (GF.mono (by decide)) hr (by rfl) mF kF bF .nil pass0 (pa_cons (pv 11) pa_nil)) (pa_cons (pe_call (GF.mono (by decide)) hr (by rfl) mF kF bF .nil pass0 (pa_cons (pv 12) pa_nil)) pa_nil))))
      (pss_cons (ps_if (PW.pt (pw_or (pt_cmpR op_lt (pe_callB (call_maxT K) (by rfl) mma PyProof.Rows.boot_max (pa_cons (pv 3) pa_nil)) pe_int (nomark _))
            (pw_or1 (PW.pt (pw_and (pt_val (pv 2)) (pw_and1 (pt_cmpR op_lt (pe_callB (call_minT K) (by rfl) mmi PyProof.Rows.boot_min (pa_cons (pv 3) pa_nil)) pe_int (nomark _))))))))
          (pss_one (ps_ret (pe_tup (pa_cons (pe_ix ix_tup (pv 0) pe_int (fun _ _ => rfl)) (pa_cons (pe_tup pa_nil) (pa_cons (pe_tup pa_nil) pa_nil)))))) pss_nil)
      (pss_cons (NdefX.ps_ndefMS (st := sTof) (T := Tt) (nm := nm) (c := c) (P := Pt) (i := 4) rfl TB rfl hT (by rw [hnm]; exact (show ("paired.<locals>.targets_of" : Str) = ("paired.<locals>." : Str) ++ ("targets_of" : Str) from by decide +kernel)) hTu (NdefX.ndef_free hnb) rfl rfl rfl nd rfl (Or.inl rfl) (Or.inr rfl))
      (pss_cons (ps_asg (pe_met (k := 2) (mk := NdefX.NF.of sTof "targets_of" (("paired.<locals>." : Str) ++ ("targets_of" : Str)) (cloFrom _ (C8.fnScope sTof).names [])) (js := [11, 12, 2]) (fr := frTof) (x := "pair") Fm (by rfl) mM bM mt ml hr (fun _ => rfl) (fun ok => NdefX.Caps.made ok (NdefX.ndef_free hnb) (NdefX.ndef_fr hnb) rfl) (pa_cons (pv 3) (pa_cons (pv 4) (pa_cons (pe_glob (by rfl) mP rP) pa_nil))))
          (pg_tup (by rfl) (pgs_cons (pg_name (i := 5) nd rfl (Or.inl rfl)) (pgs_cons (pg_name (i := 6) nd rfl (Or.inl rfl)) pgs_nil))))
      (pss_cons (ps_set (i := 7) nd rfl (Or.inl rfl) (pe_lst pa_nil))
      (pss_cons (ps_for PassesOwn.never rfl (pi_list (pv 5)) (pg_tup rfl (pgs_cons (pg_name (i := 8) nd rfl (Or.inl rfl)) (pgs_cons (pg_name (i := 9) nd rfl (Or.inl rfl)) pgs_nil)))
        (pss_cons (ps_set (i := 10) nd rfl (Or.inl rfl) (pe_lst (pa_cons (pe_call (GA.mono (by decide)) hr (by rfl) mA kA bA .nil pass0 (pa_cons (pv 11) (pa_cons (pv 8) pa_nil))) (pa_cons (pe_call (GA.mono (by decide)) hr (by rfl) mA kA bA .nil pass0 (pa_cons (pv 12) (pa_cons (pv 9) pa_nil))) pa_nil))))
        (pss_one (ps_expr (pe_bm PySem.F.plainAttrs_list PySem.F.slot_list_append PySem.F.type_list_append mt_append (pv 7) (pa_cons (pe_ifExp (pt_val (pv 2)) (pe_callB (cr_all rfl) (by rfl) mal PyProof.Rows.boot_all (pa_cons (pv 10) pa_nil)) (pe_callB (cr_any rfl) (by rfl) man PyProof.Rows.boot_any (pa_cons (pv 10) pa_nil))) pa_nil))))))
      (pss_one (ps_ret (pe_call GS hr (by rfl) mS kS bS .nil pass0 (pa_cons (pe_ix ix_tup (pv 0) pe_int (fun _ _ => rfl)) (pa_cons (pv 6) (pa_cons (pv 7) pa_nil)))))))))))))), ?_⟩
    have o := sm.ok
    have o' := sn.ok
    refine ⟨_, rfl, _, rfl, a, a', M, N, rfl, hM, hN, hk, ?_⟩
    refine ⟨_, rfl, a, M, rfl, hM, sm, fun H1 p1 m1 s1 hm1 can1 hk1 => ?_⟩
    refine ⟨_, rfl, a', N, rfl, hN.same s1, sn, fun H2 p2 m2 s2 hm2 can2 hk2 => ?_⟩
    have o1 := can1.ok
    have o2 := can2.ok
    have z1 := can1.size o rfl
    have z2 := can2.size o' rfl
    have hsz2 : (m1.rows.length + 1) * (m2.rows.length + 1) ≤ 400 := Nat.le_trans (Nat.mul_le_mul (Nat.succ_le_succ z1) (Nat.succ_le_succ z2)) hsz
    have L1 : m1.L = M.L := can1.lang (by rw [hk1]; exact fun w hw => sup_lang o w _ hw)
    have L2 : m2.L = N.L := can2.lang (by rw [hk2]; exact fun w hw => sup_lang o' w _ hw)
    have hkk : m1.k = m2.k := by rw [hk1, hk2, hk]
    have hk1000 : m1.k ≤ 1000 := by rw [hk1]; exact sm.k
    refine ⟨_, rfl, p1, m1, rfl, hm1.same s2, _, rfl, p2, m2, rfl, hm2, by show 2 ≤ sizeLine; decide, fun T nT => ?_⟩
    have s3 : Same H2 (upd H2 T (.tup [V.int m1.init, V.int m2.init])) := same_upd nT
    have eT : (upd H2 T (.tup [V.int m1.init, V.int m2.init])) T = some (.tup [V.int m1.init, V.int m2.init]) := upd_same
    have s03 := (s1.trans s2).trans s3
    have hm13 := (hm1.same s2).same s3
    have hm23 := hm2.same s3
    have hM3 := hM.same s03
    generalize upd H2 T (.tup [V.int m1.init, V.int m2.init]) = H3 at s3 eT s03 hm13 hm23 hM3 ⊢
    have early : comb whole M.L N.L = dead → ∀ (H' : Hp) (p : Addr), Same H3 H' → MachAt K H' p ⟨M.k, [], []⟩ → Q (.ref p) H' := fun hd H' p s4 hm => q H' p _ (Ext.of (s03.trans s4)) (hTab.ext (s03.trans s4)) hm (by rw [hd]; exact Canon.empty _) rfl (Nat.zero_le _)
    have hMt : ∃ b c, SqT K H3 a [.int (M.k : Int), .ref b, .ref c] := by
      obtain ⟨b, c, ra, h⟩ := hM3
      exact ⟨b, c, h.t⟩
    obtain ⟨bM', cM', hMt⟩ := hMt
    refine ⟨_, rfl, T, _, _, rfl, SqT.of eT, _, _, rfl, rfl, _, rfl, ite2 (fun e => ?_) (fun _ => ?_)⟩
    · have e1 := of_decide_eq_true e
      have d1 : m1.init < 0 ∧ m2.init < 0 := by split at e1 <;> omega
      refine emptyMach (K := K) (k := M.k) (fun R r => ⟨_, rfl, a, _, 0, _, rfl, rfl, hMt, rfl, r⟩) fun H' p s' hp => early ?_ H' p s' hp
      rw [← L1, ← L2]
      show comb whole (m1.lang m1.init) (m2.lang m2.init) = dead
      rw [lang_dead d1.1, lang_dead d1.2]
      funext w
      unfold comb
      cases whole <;> rfl
    refine ⟨_, rfl, _, rfl, ite2 (fun hw => ?_) (fun hw => ?_)⟩
    refine ⟨_, rfl, T, _, _, rfl, SqT.of eT, _, _, rfl, rfl, _, rfl, ite2 (fun e2 => ?_) (fun e2 => ?_)⟩
    · have e1 := of_decide_eq_true e2
      have hw : whole = true := hw
      subst hw
      refine emptyMach (K := K) (k := M.k) (fun R r => ⟨_, rfl, a, _, 0, _, rfl, rfl, hMt, rfl, r⟩) fun H' p s' hp => early ?_ H' p s' hp
      rw [← L1, ← L2]
      show comb true (m1.lang m1.init) (m2.lang m2.init) = dead
      funext w
      show (m1.lang m1.init w && m2.lang m2.init w) = false
      by_cases d : m1.init < 0
      · rw [lang_neg d, Bool.false_and]
      · have d2 : m2.init < 0 := by split at e1 <;> omega
        rw [lang_neg d2, Bool.and_false]
    all_goals
      refine ⟨hTab.ext s03, fun fT c' H4 e34 n34 tab4 nf ef ec => ?_⟩
      refine ⟨_, rfl, _, rfl, T, fT, c', 4000, (m1.rows.length + 1) * (m2.rows.length + 1), [m1.init, m2.init], pT whole m1 m2, pD m1 m2, wTof K whole m1 m2, rfl, ef, ec, ok_tof GN kN bN mN mr mmi mma o1 o2 hkk hk1000, Ext.tup e34 (SqT.of eT),
        ⟨_, _, rfl, init_rng, init_rng⟩, fun q b t hq h => pD_T o1 o2 h, fun q _ => by rw [pT_len]; exact hk1000, fun ks nd h => pD_len nd h, by omega, by omega, ⟨p1, p2, rfl, hm13.ext e34, hm23.ext e34⟩, fun H1 H2 s ⟨p1, p2, e, h1, h2⟩ => ⟨p1, p2, e, h1.same s, h2.same s⟩, fun H5 Tp O R qs rs ks rows s5 eTp eO kk eR ra met hks => ?_⟩
      have e05 : Ext H H5 := (Ext.of s03).trans (LamX.ExtN.trans e34 (Ext.of s5))
      have tab5 := tab4.ext s5
      have hm15 := (hm13.ext e34).same s5
      have hm25 := (hm23.ext e34).same s5
      have hMt5 := Same.tup s5 (Ext.tup e34 hMt)
      refine ⟨Tp, _, rfl, SqT.of eTp, rfl, _, _, rfl, _, _, rfl, rfl, ?_⟩
      refine ⟨Nat.zero_le _, fun Ac nAc => ?_⟩
      have s6 : Same H5 (upd H5 Ac (.lst [])) := same_upd nAc
      refine ⟨_, rfl, O, rfl, ⟨_, SqL.of (s6 _ _ eO)⟩, ?_⟩
      refine for_list (K := K) (a := O) (xs := qs.map V.ref) (fun i σ H' => ∃ acc x8 x9 x10, σ = [some (.ref a), some (.ref a'), some (.bl whole), some (.ref T), some (.ref fT), some (.ref O), some (.ref R), some (.ref Ac), x8, x9, x10, some (.ref p1), some (.ref p2)] ∧ Same H5 H' ∧ H' Ac = some (.lst (acc.map V.bl)) ∧ acc = (ks.take i).map fun q => pF whole m1 m2 q [])
        ⟨[], none, none, none, rfl, s6, upd_same, rfl⟩ (fun i σ H' _ ⟨_, _, _, _, _, y, _⟩ => SqL.of (y _ _ eO)) ?_ ?_
      · rintro i x σ H6 hx ⟨acc, x8, x9, x10, rfl, s7, eAc, hacc⟩
        obtain ⟨pq, epq⟩ := getE (l := qs) (i := i) (by have := (List.getElem?_eq_some_iff.mp hx).1; rw [List.length_map] at this; exact this)
        have hx1 : V.ref pq = x := Option.some.inj ((getI (f := V.ref) epq).symm.trans hx)
        subst hx1
        have hqk : qs.length = ks.length := by rw [← kk.1, List.length_map]
        obtain ⟨sq, esq⟩ := getE (l := ks) (i := i) (by rw [← hqk]; exact (List.getElem?_eq_some_iff.mp epq).1)
        obtain ⟨l, r, rfl, hl, hr2⟩ := met.dom sq (List.mem_of_getElem? esq)
        have hpq := Same.tup s7 (keyTup (kk.2 i _ _ (getKk esq) epq))
        have hil := (List.getElem?_eq_some_iff.mp esq).1
        refine ⟨pq, _, rfl, hpq, rfl, _, _, rfl, _, _, rfl, rfl, ?_⟩
        refine ⟨_, rfl, _, rfl, p1, m1, l, rfl, hm15.same s7, o1, hl.2, _, rfl, _, rfl, p2, m2, r, rfl, hm25.same s7, o2, hr2.2, by show 2 ≤ sizeLine; decide, fun En nEn => ?_⟩
        have s8 : Same H6 (upd H6 En (.lst [V.bl (m1.fin l), V.bl (m2.fin r)])) := same_upd nEn
        have eEn : (upd H6 En (.lst [V.bl (m1.fin l), V.bl (m2.fin r)])) En = some (.lst ([m1.fin l, m2.fin r].map V.bl)) := upd_same
        have eAc8 := s8 _ _ eAc
        have s78 := s7.trans s8
        generalize upd H6 En (.lst [V.bl (m1.fin l), V.bl (m2.fin r)]) = H8 at s8 eEn eAc8 s78 ⊢
        have hlen : (acc.map V.bl).length < sizeLine := by
          rw [List.length_map, hacc, List.length_map, List.length_take]
          exact Nat.lt_of_le_of_lt (Nat.min_le_left _ _) (small1000 (by omega))
        have eacc : ∀ b : Bool, b = pF whole m1 m2 [l, r] [] → acc.map V.bl ++ [V.bl b] = ((ks.take (i + 1)).map (fun q => pF whole m1 m2 q [])).map V.bl := fun b hb => by
          rw [take_succ_get esq, List.map_append, List.map_append, ← hacc, hb]
          rfl
        refine ⟨_, rfl, .inl ⟨rfl, _, SqL.of eAc8⟩, _, rfl, _, rfl, ite2 (fun hw => ?_) (fun hw => ?_)⟩
        · refine ⟨_, rfl, En, _, rfl, SqL.of eEn, Ac, _, _, rfl, rfl, eAc8, hlen, ?_⟩
          have hb : [m1.fin l, m2.fin r].all id = pF whole m1 m2 [l, r] [] := by
            have hw : whole = true := hw
            rw [hw]
            show (m1.fin l && (m2.fin r && true)) = (m1.fin l && m2.fin r)
            rw [Bool.and_true]
          rw [eacc _ hb]
          exact ⟨_, _, _, _, rfl, same_in nAc s78, upd_same, rfl⟩
        · refine ⟨_, rfl, En, _, rfl, SqL.of eEn, Ac, _, _, rfl, rfl, eAc8, hlen, ?_⟩
          have hb : [m1.fin l, m2.fin r].any id = pF whole m1 m2 [l, r] [] := by
            have hw : whole = false := by
              cases whole with
              | true => exact absurd rfl hw
              | false => rfl
            rw [hw]
            show (m1.fin l || (m2.fin r || false)) = (m1.fin l || m2.fin r)
            rw [Bool.or_false]
          rw [eacc _ hb]
          exact ⟨_, _, _, _, rfl, same_in nAc s78, upd_same, rfl⟩
      · rintro σ H6 ⟨acc, x8, x9, x10, rfl, s7, eAc, hacc⟩
        have hqk : qs.length = ks.length := by rw [← kk.1, List.length_map]
        rw [List.take_of_length_le (by rw [List.length_map, hqk]; exact Nat.le_refl _)] at hacc
        have hal : acc.length = ks.length := by rw [hacc, List.length_map]
        have hT : ∀ q, pD m1 m2 q → (pT whole m1 m2 q).length = M.k := fun q _ => by rw [pT_len, hk1]
        have okR : (⟨M.k, rows, acc⟩ : Mach).Ok := met.ok hT hal
        have hrl := met.len
        have lgR : (⟨M.k, rows, acc⟩ : Mach).L = comb whole M.L N.L := by
          rw [met.lang hT hal (pF whole m1 m2) (fun i q hq => by rw [hacc, List.getElem?_map, hq]; rfl) (fun q b _ h => pF_none h) (fun q t b _ h => pF_some h) (fun q hq => by
            obtain ⟨l, r, rfl, _⟩ := hq
            exact sup_comb (fun w hw => by rw [← hk1]; exact sup_lang o1 w _ hw) (fun w hw => by rw [hk, ← hk2]; exact sup_lang o2 w _ hw))]
          rw [← L1, ← L2]
          rfl
        refine ⟨_, rfl, a, _, 0, _, rfl, rfl, Same.tup s7 hMt5, rfl, _, rfl, _, rfl, R, Ac, rs, ⟨M.k, rows, acc⟩, rfl, SqL.of (s7 _ _ eR), ra.same s7, SqL.of eAc, ⟨okR, by show rows.length ≤ 1000; omega, sm.k⟩, by show rows.length ≤ 400; omega, fun H7 p m s8 hm can hkm => ?_⟩
        have hz3 := can.size okR rfl
        rw [lgR] at can
        exact q H7 p m (e05.trans (Ext.of (s7.trans s8))) ((tab5.ext s7).ext s8) hm can hkm (Nat.le_trans hz3 (by show rows.length ≤ 400; omega))
end
end Dg
end

section
set_option maxHeartbeats 4000000
namespace Dg
open PySem PySem.Spec PyProof.Rows L2
abbrev sBot : Stmt := top 26
abbrev sEit : Stmt := top 27
theorem scBot : FnScope ["first", "second"] ["first", "second"] (defScope sBot) := ⟨rfl, rfl, rfl, by decide +kernel, rfl, by decide +kernel, by decide +kernel⟩
theorem scEit : FnScope ["first", "second"] ["first", "second"] (defScope sEit) := ⟨rfl, rfl, rfl, by decide +kernel, rfl, by decide +kernel, by decide +kernel⟩
def spBE (K : PySem.W.Frag) (Tt : List NdefX.NTab) (whole : Bool) : Sp := fun vs H Q _ => ∃ (a a' : Addr) (M N : Mach), vs = [.ref a, .ref a'] ∧ MachAt K H a M ∧ MachAt K H a' N ∧ M.Sm ∧ N.Sm ∧ M.k = N.k ∧ (M.rows.length + 1) * (N.rows.length + 1) ≤ 400 ∧ NdefX.TabsN Tt H ∧
  ∀ H' p m, Ext H H' → NdefX.TabsN Tt H' → MachAt K H' p m → Canon (comb whole M.L N.L) m → m.k = M.k → m.rows.length ≤ 400 → Q (.ref p) H'
section
variable {P : Program} {w : World} {K : PySem.W.Frag} {mg : Str → Option Value} {base : Heap} {f fP : Addr} {fd fdP : FuncData} {Tt : List NdefX.NTab}
theorem ok_bot (F : Fun K "both" "both" sBot f fd) (GP : FnOk P w K mg base CX0 4 fP fdP ["first", "second", "whole"] (spPai K Tt)) (kP : PySem.W.keepIn K (.ref fP) = true) (bP : Binds K fdP ["first", "second", "whole"] []) (mP : mg "paired" = some (.ref fP)) :
    FnOk P w K mg base CX0 5 f fd ["first", "second"] (spBE K Tt true) := by
  refine F.ok scBot (fun vs H Q E h => ?_) (fun cdv A outer s H vs Q E hr h => ?_)
  · obtain ⟨a, a', M, N, rfl, _⟩ := h
    rfl
  · obtain ⟨a, a', M, N, rfl, hM, hN, sm, sn, hk, hsz, hT, q⟩ := h
    exact ⟨_, pss_one (ps_ret (pe_call GP hr (by rfl) mP kP bP .nil pass0 (pa_cons (pv 0) (pa_cons (pv 1) (pa_cons pe_bl pa_nil))))), _, rfl, _, rfl, a, a', true, M, N, rfl, hM, hN, sm, sn, hk, hsz, hT, q⟩
theorem ok_eit (F : Fun K "either" "either" sEit f fd) (GP : FnOk P w K mg base CX0 4 fP fdP ["first", "second", "whole"] (spPai K Tt)) (kP : PySem.W.keepIn K (.ref fP) = true) (bP : Binds K fdP ["first", "second", "whole"] []) (mP : mg "paired" = some (.ref fP)) :
    FnOk P w K mg base CX0 5 f fd ["first", "second"] (spBE K Tt false) := by
  refine F.ok scEit (fun vs H Q E h => ?_) (fun cdv A outer s H vs Q E hr h => ?_)
  · obtain ⟨a, a', M, N, rfl, _⟩ := h
    rfl
  · obtain ⟨a, a', M, N, rfl, hM, hN, sm, sn, hk, hsz, hT, q⟩ := h
    exact ⟨_, pss_one (ps_ret (pe_call GP hr (by rfl) mP kP bP .nil pass0 (pa_cons (pv 0) (pa_cons (pv 1) (pa_cons pe_bl pa_nil))))), _, rfl, _, rfl, a, a', false, M, N, rfl, hM, hN, sm, sn, hk, hsz, hT, q⟩
end
end Dg
end

section
set_option maxHeartbeats 4000000
namespace Dg
open PySem PySem.Spec PyProof.Rows L2
section
variable {X : Cx}
theorem sw_trueD {kx vx : Expr} {gs : List Comprehension} {scope : Scope} {pos py : Pos} {y : Str} {l : Nat} {env : Env} (hk : env.scope.kind = .function) (hy : env.scope.names.lookup y = some .local) (hl : (py.line == pos.line) = true)
    (ha : (scope.names.any fun (n, k) => n == y && (k == .local || k == .cell)) = false) : swapsWith (.DictComp kx vx gs scope pos) (some (.Name y py)) l env = pure true := by
  have ky : env.kindOf y = some .local := hy
  have hb : env.blockKind = .function := by unfold Env.blockKind; rw [hk]; rfl
  unfold swapsWith
  simp only [hb, ky, ha, Expr.pos, hl]
  rfl
theorem ps_setDc {i : Nat} {y : Str} {py : Pos} {kx vx tg iter : Expr} {ifs : List Expr} {scope : Scope} {own : List (Str × Nat)} {pos spos : Pos} {wi : TI} {g : TG} {tt : L2.TT} {tk tv : TE} (hc : X.calm = true) (hN : X.N.Nodup) (hy : X.N[i]? = some y) (hyl : X.env.scope.names.lookup y = some .local)
    (hsw : swapsWith (.DictComp kx vx [⟨tg, iter, ifs, 0⟩] scope pos) (some (.Name y py)) spos.line X.env = pure true) (hi : PI X tg iter wi) (ok : BlkOk X.N X.env.scope scope own)
    (hg : ∀ (s : Shared) (H : Hp) (C : Addr) (cl : List (Str × Addr)) (fp : List Addr), PG (X.blk s H scope (compEnvC scope cl C X.env) fp) tg g) (ht : ∀ (s : Shared) (H : Hp) (C : Addr) (cl : List (Str × Addr)) (fp : List Addr), PTs (X.blk s H scope (compEnvC scope cl C X.env) fp) ifs tt)
    (hk : ∀ (s : Shared) (H : Hp) (C : Addr) (cl : List (Str × Addr)) (fp : List Addr), PE (X.blk s H scope (compEnvC scope cl C X.env) fp) kx tk)
    (he : ∀ (s : Shared) (H : Hp) (C : Addr) (cl : List (Str × Addr)) (fp : List Addr), PE (X.blk s H scope (compEnvC scope cl C X.env) fp) vx tv) (hs : ∀ x, foldedSetIterable iter X.env x = pure x := by intro _; rfl) :
    PS X (.Assign [.Name y py] (.DictComp kx vx [⟨tg, iter, ifs, 0⟩] scope pos) spos) (tAsg (tDc wi g tt tk tv (own.map (·.2))) (gName i)) := by
  refine ⟨fun pins s σ H D I h => ?_⟩
  rw [exec_Assign_Name_used _ _ _ _ hsw]
  refine wpAny_bind (wpAny_standAt (wpAny_bind ?_))
  show wpAny _ X.A (do let _ ← comprehension (.DictComp kx vx [⟨tg, iter, ifs, 0⟩] scope pos) scope X.env (firstIterPos [⟨tg, iter, ifs, 0⟩] pos) newDict false (eval iter X.env) (some (assign (.Name y py) X.env))) _ _ s
  have h : tDc wi g tt tk tv (own.map (·.2)) σ H (fun x H1 => gName i x σ H1 D.nx) := h
  refine wpAny_bind (thn (dc_core (Qf := fun _ s' => SP X pins D .next s') hc hN I hi ok hg ht hk he hs h fun L C s' m H' I' q hn f => ?_) fun _ s' hq => wpAny_pure (wpAny_pure hq))
  show wpAny _ _ (assign (.Name y py) X.env (.ref L)) _ _ _
  refine wpAny_assign_Name (store_ok2 (v := V.ref L) I' hN hy (.inl hyl) rfl (fun s2 I2 ⟨a, sb, ha⟩ => ?_) (.inr hyl))
  obtain ⟨f0, f1, f2, f3, f4, f5⟩ := f
  have haC : C ≠ a := by
    rcases ha with z | z
    · rw [z]; exact f1
    · exact fun e => f4 y a z e.symm
  refine ⟨m, hn.sameBut sb haC, fun h3 sb3 => ?_⟩
  exact ⟨_, H', I2.turned (t' := s2.toks) (fun b o hb e => (sb3.2 b hb).trans e) f0 f1 f3 f4 f5, q⟩
theorem dc_list {K : PySem.W.Frag} {a : Addr} {xs : List V} {g : TG} {tt : L2.TT} {tk tv : TE} {vs : List Nat} {σ : L2.St} {H1 : Hp} {D : Addr} {Qd : Hp → Prop} (Pv : Nat → Hp → Prop) (h0 : Pv 0 (upd H1 D (.dK []))) (hl : ∀ i H, i ≤ xs.length → Pv i H → SqL K H a xs)
    (hs : ∀ i x H, xs[i]? = some x → Pv i H → g x (wipe σ vs) H fun σ2 H2 => wipe σ2 vs = wipe σ vs ∧ tt σ2 H2 fun b H3 =>
      if b = true then tk σ2 H3 fun y H4 => tv σ2 H4 fun z H5 => ∃ kvs k, y = kV k ∧ H5 D = some (.dK kvs) ∧ kvs.length < sizeLine ∧ Pv (i + 1) (upd H5 D (.dK (putK kvs k z))) else Pv (i + 1) H3) (hd : ∀ H, Pv xs.length H → Qd H) :
    ∃ W : Nat → Nat → Hp → Prop, (∃ m, W 0 m (upd H1 D (.dK []))) ∧ ∀ i m H, W i m H →
      ((Itl K a).stop i H ∧ Qd H) ∨ ((Itl K a).go i H ∧ ∃ Nx : Hp → Prop, (∀ H', Nx H' → ∃ m', m' < m ∧ W (i + 1) m' H') ∧ ∀ x H', (Itl K a).yld i H x H' → g x (wipe σ vs) H' fun σ2 H2 => wipe σ2 vs = wipe σ vs ∧ tt σ2 H2 fun b H3 =>
        if b = true then tk σ2 H3 fun y H4 => tv σ2 H4 fun z H5 => ∃ kvs k, y = kV k ∧ H5 D = some (.dK kvs) ∧ kvs.length < sizeLine ∧ Nx (upd H5 D (.dK (putK kvs k z))) else Nx H3) := by
  refine ⟨fun i m H => m = xs.length - i ∧ i ≤ xs.length ∧ Pv i H, ⟨xs.length, by simp, Nat.zero_le _, h0⟩, ?_⟩
  rintro i m H ⟨rfl, hi, p⟩
  have q := hl i H hi p
  by_cases hlt : i < xs.length
  · refine .inr ⟨⟨xs, xs[i], q, by simp [hlt]⟩, Pv (i + 1), fun H' p' => ⟨xs.length - (i + 1), by omega, rfl, hlt, p'⟩, fun x H' y => ?_⟩
    obtain ⟨e, y⟩ := y
    subst e
    exact hs i x _ (y xs q) p
  · have e : i = xs.length := by omega
    subst e
    exact .inl ⟨⟨xs, q, Nat.le_refl _⟩, hd H p⟩
end
abbrev sClo : Stmt := top 28
abbrev nClo : List Str := ["machine", "states", "hidden", "found", "order", "at", "letter", "target", "state"]
theorem scClo : FnScope nClo ["machine", "states", "hidden"] (defScope sClo) := ⟨rfl, rfl, rfl, by decide +kernel, rfl, by decide +kernel, by decide +kernel⟩
def spClo (K : PySem.W.Frag) : Sp := fun vs H Q _ => ∃ (a U L : Addr) (s : Int), vs = [.ref a, .ref U, .ref L] ∧ SqL K H U [.int s] ∧ SqL K H L [] ∧
  ∀ H' p, Same H H' → H' p = some (.tup [.int s]) → Q (.ref p) H'
section
variable {P : Program} {w : World} {K : PySem.W.Frag} {mg : Str → Option Value} {base : Heap} {f : Addr} {fd : FuncData}
theorem ok_clo (F : Fun K "closed" "closed" sClo f fd) (mli : mg "list" = none) (ml : mg "len" = none) (mt : mg "tuple" = none) (mso : mg "sorted" = none) : FnOk P w K mg base CX0 1 f fd ["machine", "states", "hidden"] (spClo K) := by
  refine F.ok scClo (fun vs H Q E h => ?_) (fun cdv A outer s H vs Q E hr h => ?_)
  · obtain ⟨a, U, L, s, rfl, _⟩ := h
    rfl
  · obtain ⟨a, U, L, st, rfl, hU, hL, q⟩ := h
    have nd := scClo.nd
    have hu := hu_of hr
    refine ⟨_, pss_cons (ps_setDc (i := 3) (own := [("state", 8)]) (g := gName 8) rfl nd rfl rfl (sw_trueD rfl rfl rfl (by decide +kernel)) (pi_list (pv 1)) (blkOk_by (N := nClo) (sc := defScope sClo) (by decide +kernel))
        (fun _ _ _ _ _ => pg_name (i := 8) nd rfl (Or.inl rfl)) (fun _ _ _ _ _ => pts_nil) (fun _ _ _ _ _ => pv 8) (fun _ _ _ _ _ => pe_bl))
      (pss_cons (ps_set (i := 4) nd rfl (Or.inl rfl) (pe_callTy (call_list_dK rfl) (by rfl) mli (by decide +kernel) (pa_cons (pv 3) pa_nil)))
      (pss_cons (ps_set (i := 5) nd rfl (Or.inl rfl) pe_int)
      (pss_cons (ps_while PassesOwn.never (pt_cmpR op_lt (pv 5) (pe_callB call_len_seq (by rfl) ml PySem.boot_len (pa_cons (pv 4) pa_nil)) (nomark _))
        (pss_cons (ps_for PassesOwn.never rfl (pi_list (pv 2)) (pg_name (i := 6) nd rfl (Or.inl rfl))
          (pss_cons (ps_set (i := 7) nd rfl (Or.inl rfl) (pe_ix ix_tup (pe_ix ix_tup (pe_ix ix_tup (pv 0) pe_int (fun _ _ => rfl)) (pe_ix ix_list (pv 4) (pv 5) (fun _ _ => rfl)) (fun _ _ => rfl)) (pv 6) (fun _ _ => rfl)))
          (pss_one (ps_if (PW.pt (pw_and (pt_cmpR op_ge (pv 7) pe_int (nomark _)) (pw_and1 (pt_cmp (pc_dnotin hu (pv 7) (pv 3))))))
            (pss_cons (ps_dput hu (pv 3) (pv 7) pe_bl rfl) (pss_one (ps_expr (pe_bm PySem.F.plainAttrs_list PySem.F.slot_list_append PySem.F.type_list_append mt_append (pv 4) (pa_cons (pv 7) pa_nil))))) pss_nil))))
        (pss_one (ps_aug (i := 5) nd rfl (Or.inl rfl) pe_int ip_add))))
      (pss_one (ps_ret (pe_callTy call_tuple_of (by rfl) mt (by decide +kernel) (pa_cons (pe_callB cr_sortedI (by rfl) mso PyProof.Rows.boot_sorted (pa_cons (pv 4) pa_nil)) pa_nil))))))), ?_⟩
    refine ⟨_, rfl, U, rfl, ⟨_, hU⟩, fun D nD => ?_⟩
    refine dc_list (K := K) (a := U) (xs := [.int st]) (fun i H' => H' = upd H D (.dK (([(.inl st, .bl true)] : List (Key × V)).take i))) rfl (fun i H' _ e => by rw [e]; exact (same_upd nD).seq hU) ?_ ?_
    · rintro i x H' hx rfl
      have hi : i = 0 := by have := (List.getElem?_eq_some_iff.mp hx).1; simp at this; omega
      subst hi
      have ex : V.int st = x := Option.some.inj hx
      subst ex
      exact ⟨rfl, _, rfl, _, .inl st, rfl, upd_same, (by decide +kernel : 0 < sizeLine), by rw [upd_upd]; rfl⟩
    · rintro H1 rfl
      have s1 : Same H (upd H D (.dK ([(.inl st, .bl true)] : List (Key × V)))) := same_upd nD
      have eD : (upd H D (.dK ([(.inl st, .bl true)] : List (Key × V)))) D = some (.dK [(.inl st, .bl true)]) := upd_same
      rw [show ([(.inl st, .bl true)] : List (Key × V)).take [V.int st].length = [(.inl st, .bl true)] from rfl]
      generalize upd H D (.dK ([(.inl st, .bl true)] : List (Key × V))) = H1 at s1 eD ⊢
      refine ⟨_, rfl, D, _, rfl, eD, fun O nO => ?_⟩
      have s2 : Same H1 (upd H1 O (.lst [V.int st])) := same_upd nO
      have eO : (upd H1 O (.lst [V.int st])) O = some (.lst ([st].map V.int)) := upd_same
      rw [show ([(.inl st, .bl true)] : List (Key × V)).map (fun kv => kV kv.1) = [V.int st] from rfl]
      have s02 := s1.trans s2
      generalize upd H1 O (.lst [V.int st]) = H2 at s2 eO s02 ⊢
      refine ⟨fun m σ H' => ∃ (i : Nat) (x6 x7 : Option V), σ = [some (.ref a), some (.ref U), some (.ref L), some (.ref D), some (.ref O), some (.int (i : Int)), x6, x7, none] ∧ H' = H2 ∧ i + m = 1,
        ⟨1, 0, none, none, rfl, rfl, rfl⟩, fun m σ H3 hW => ?_⟩
      obtain ⟨i, x6, x7, rfl, rfl, em⟩ := hW
      refine ⟨_, rfl, _, rfl, O, _, rfl, .inl (SqL.of eO), _, _, rfl, rfl, _, rfl, ite2 (fun e => ?_) (fun e => ?_)⟩
      · have e1 : (i : Int) < 1 := of_decide_eq_true e
        refine ⟨fun σ' H' => ∃ m', m' < m ∧ ∃ (i : Nat) (x6 x7 : Option V), σ' = [some (.ref a), some (.ref U), some (.ref L), some (.ref D), some (.ref O), some (.int (i : Int)), x6, x7, none] ∧ H' = H3 ∧ i + m' = 1, fun _ _ z => z, ?_⟩
        refine ⟨_, rfl, L, rfl, ⟨_, s02.seq hL⟩, ?_⟩
        refine for_list (K := K) (a := L) (xs := []) (fun _ σ H' => H' = H3 ∧ σ = [some (.ref a), some (.ref U), some (.ref L), some (.ref D), some (.ref O), some (.int (i : Int)), x6, x7, none]) ⟨rfl, rfl⟩ (fun _ _ _ _ ⟨e, _⟩ => by rw [e]; exact s02.seq hL) (fun i x σ H hx _ => absurd hx (by simp)) ?_
        rintro σ H' ⟨rfl, rfl⟩
        exact ⟨_, rfl, _, _, rfl, rfl, 0, by omega, i + 1, _, _, rfl, rfl, by omega⟩
      · refine ⟨_, rfl, O, [st], rfl, SqL.of eO, fun ns' p hperm _ np => ?_⟩
        have en : ns' = [st] := List.perm_singleton.mp hperm
        subst en
        have s3 : Same H3 (upd H3 p (.lst [V.int st])) := same_upd np
        refine ⟨p, [V.int st], rfl, .inl ⟨SqL.of upd_same, fun T nT => ?_⟩⟩
        exact q _ T (s02.trans (s3.trans (same_upd nT))) upd_same
end
end Dg
end

section
set_option maxHeartbeats 4000000
/-! A def within a def, with captured names and cells of its own. -/
namespace Dg
open PySem PySem.Spec PyProof.Rows L2
section
variable {M : Model} {A : Around} {E : Value → Shared → Prop} {s : Shared}
theorem newEnvC {scope : Scope} {globals : Addr} {closure : List (Str × Addr)} {binds : List (Str × Value)} {qual : Str} {func : Option Addr} {code : Value} {builtins : Addr} {Q : Env → Shared → Prop}
    (hl : ∀ x ∈ binds, scope.names.lookup x.1 = some .local) (hk : scope.kind = .function)
    (hQ : ∀ h', h'.Ns s.heap.objs.size (fun x => binds.reverse.lookup x) → Heap.SameBut s.heap.objs.size (pushCells (s.heap.push { cls := .type "frame", data := .dict #[] }) scope.names) h' →
      Q (newEnv scope s.heap.objs.size globals (cellsFrom (s.heap.objs.size + 1) scope.names closure) qual func code none builtins) { s with heap := h', toks := s.toks + binds.length }) :
    wpAny M A (newFunctionEnv scope globals closure binds qual func code none builtins) Q E s := by
  simp only [newFunctionEnv, Option.isSome_none, Bool.false_eq_true, if_false]
  simp only [newEnv] at hQ
  refine wpAny_bind (wpAny_alloc ?_)
  refine wpAny_bind (wpAny_layCells _ (fun name kind cells => by cases hkc : kind == NameKind.cell <;> simp [hkc]) _ _ _ _ ?_)
  rw [show ({ s with heap := s.heap.push { cls := .type "frame", data := .dict #[] } } : Shared).heap.objs.size = s.heap.objs.size + 1 from Heap.size_push ..]
  refine wpAny_bind ?_
  refine wpAny_forIn_list _
    (fun rest _ s' => ∃ done h', binds = done ++ rest ∧ s' = { s with heap := h', toks := s.toks + done.length } ∧
      h'.Ns s.heap.objs.size (fun x => done.reverse.lookup x) ∧
      Heap.SameBut s.heap.objs.size (pushCells (s.heap.push { cls := .type "frame", data := .dict #[] }) scope.names) h') _ ?_ ?_ binds _
    ⟨[], _, rfl, rfl, (Heap.Ns.new s.heap (.type "frame")).keeps (pushCells_keeps _ _), Heap.SameBut.refl ..⟩
  · rintro ⟨name, v⟩ rest _ s' ⟨done, h', hb, rfl, hns, hsb⟩
    have hk' : Env.kindOf { scope, locals := s.heap.objs.size, globals, cells := cellsFrom (s.heap.objs.size + 1) scope.names closure, qual, func, code, frame := some s.heap.objs.size, builtins } name = some .local :=
      hl (name, v) (by rw [hb]; simp)
    have hp : (({ scope, locals := s.heap.objs.size, globals, cells := cellsFrom (s.heap.objs.size + 1) scope.names closure, qual, func, code, frame := some s.heap.objs.size, builtins } : Env).scope.kind == .class || (({ scope, locals := s.heap.objs.size, globals, cells := cellsFrom (s.heap.objs.size + 1) scope.names closure, qual, func, code, frame := some s.heap.objs.size, builtins } : Env).scope.kind == .module &&
        ({ scope, locals := s.heap.objs.size, globals, cells := cellsFrom (s.heap.objs.size + 1) scope.names closure, qual, func, code, frame := some s.heap.objs.size, builtins } : Env).locals != ({ scope, locals := s.heap.objs.size, globals, cells := cellsFrom (s.heap.objs.size + 1) scope.names closure, qual, func, code, frame := some s.heap.objs.size, builtins } : Env).globals)) = false := by
      show (scope.kind == .class || (scope.kind == .module && _)) = false
      rw [hk]; rfl
    simp only [storeName_local hk' hp]
    refine wpAny_bind (wpAny_nsSet hns fun h'' hns' hsb' => wpAny_pure ⟨done ++ [(name, v)], h'', by simp [hb], ?_, ?_, hsb.trans hsb'⟩)
    · simp [Nat.add_assoc]
    · rw [lookup_reverse_snoc]; exact hns'
  · rintro _ s' ⟨done, h', hb, rfl, hns, hsb⟩
    rw [List.append_nil] at hb; subst hb
    exact wpAny_pure (hQ h' hns hsb)
end
theorem cellsFrom_app : ∀ (names : List (Str × NameKind)) (n : Nat) (acc : List (Str × Addr)), cellsFrom n names acc = cellsFrom n names [] ++ acc
  | [], _, _ => rfl
  | (name, kind) :: r, n, acc => by
    unfold cellsFrom
    split
    · rw [cellsFrom_app r (n + 1) ((name, n) :: acc), cellsFrom_app r (n + 1) [(name, n)], List.append_assoc]
      rfl
    · exact cellsFrom_app r n acc
theorem cellsFrom_mem : ∀ (names : List (Str × NameKind)) (n : Nat) {x : Str} {c : Addr}, (x, c) ∈ cellsFrom n names [] → (x, NameKind.cell) ∈ names
  | [], _, _, _, h => nomatch h
  | (name, kind) :: r, n, x, c, h => by
    unfold cellsFrom at h
    split at h
    · rename_i hk
      rw [cellsFrom_app] at h
      rcases List.mem_append.mp h with z | z
      · exact List.mem_cons_of_mem _ (cellsFrom_mem r _ z)
      · have e := List.mem_singleton.mp z
        injection e with e1 e2
        rw [e1, beq_iff_eq.mp hk]
        exact List.mem_cons_self
    · exact List.mem_cons_of_mem _ (cellsFrom_mem r _ h)
structure NScopeC (N ps fr : List Str) (sc : Scope) : Prop where
  kind : sc.kind = .function
  co : sc.isCoroutine = false
  gen : sc.isGenerator = false
  nd : N.Nodup
  pre : N.take (ps.length + fr.length) = ps ++ fr
  par : ∀ x ∈ ps, sc.names.lookup x = some .local
  own : ∀ y ∈ sc.names, y.2 = .cell → sc.names.lookup y.1 = some .cell
  free : ∀ y ∈ sc.names, y.2 = .free → y.1 ∈ fr
  frk : ∀ x ∈ fr, sc.names.lookup x = some .free
def nscCB (N ps fr : List Str) (sc : Scope) : Bool :=
  decide (sc.kind = .function) && !sc.isCoroutine && !sc.isGenerator && decide N.Nodup && decide (N.take (ps.length + fr.length) = ps ++ fr) && ps.all (fun x => decide (sc.names.lookup x = some .local)) && sc.names.all (fun y => !decide (y.2 = .cell) || decide (sc.names.lookup y.1 = some .cell)) && sc.names.all (fun y => !decide (y.2 = .free) || decide (y.1 ∈ fr)) && fr.all (fun x => decide (sc.names.lookup x = some .free))
theorem nscopeC_by {N ps fr : List Str} {sc : Scope} (h : nscCB N ps fr sc = true) : NScopeC N ps fr sc := by
  unfold nscCB at h
  simp only [Bool.and_eq_true, Bool.not_eq_true', decide_eq_true_eq, List.all_eq_true, Bool.or_eq_true, decide_eq_false_iff_not] at h
  obtain ⟨⟨⟨⟨⟨⟨⟨⟨h1, h2⟩, h3⟩, h4⟩, h5⟩, h6⟩, h7⟩, h8⟩, h9⟩ := h
  exact ⟨h1, h2, h3, h4, h5, h6, fun y hy e => (h7 y hy).elim (fun z => absurd e z) id, fun y hy e => (h8 y hy).elim (fun z => absurd e z) id, h9⟩
abbrev envFC (F : NdefX.NF) (f L : Addr) : Env := PySem.W.envX F.qual F.scope L f (.ref F.c) (cellsFrom (L + 1) F.scope.names F.cl)
def ncxC (CX : CXT) (P : Program) (w : World) (K : PySem.W.Frag) (mg : Str → Option Value) (base : Heap) (N : List Str) (F : NdefX.NF) (f : Addr) (A : Around) (outer : List Env) (s : Shared) (H : Hp) (E : XK) : Cx where
  prog := P
  w := w
  K := K
  mg := mg
  base := base
  A := A.deeper (envFC F f s.heap.objs.size)
  N := N
  s_0 := s
  H_0 := H
  env := envFC F f s.heap.objs.size
  outer := outer
  stack := envFC F f s.heap.objs.size :: outer
  ex := []
  calm := true
  fn := fun x => decide (F.scope.names.lookup x = some .cell)
  pn := []
  xe := fun e s' => wpAny (model P w) (A.deeper (envFC F f s.heap.objs.size)) (leaving (envFC F f s.heap.objs.size) e) (fun _ s'' => CX outer H s E e s'') (fun e' s'' => CX outer H s E e' s'') s'
section
variable {CX : CXT} {P : Program} {w : World} {K : PySem.W.Frag} {mg : Str → Option Value} {base : Heap} {N ps fr : List Str} {F : NdefX.NF} {f : Addr} {A : Around} {outer : List Env} {s : Shared} {H : Hp} {E : XK} {us : List Value} {vs : List V} {ws : List (Option V)}
theorem inv_startC {h₁ : Heap} {tk : Nat} (S : NScopeC N ps fr F.scope) (hd : A.handled = none) (e0 : Env0 P w K mg base A outer s H) (hl : vs.length = ps.length) (r : Vals vs us) (C : NdefX.CellsAt F.cl fr ws s.heap H) (hns : h₁.Ns s.heap.objs.size fun y => (ps.zip us).reverse.lookup y)
    (kp : ∀ b o, s.heap.get? b = some o → h₁.get? b = some o) (co : CellsOk h₁ (s.heap.objs.size + 1) (cellsFrom (s.heap.objs.size + 1) F.scope.names [])) : Inv (ncxC CX P w K mg base N F f A outer s H E) [] (NdefX.startF N vs ws) H { s with heap := h₁, toks := tk } := by
  have hpl : ps.length + fr.length ≤ N.length := by
    have q := congrArg List.length S.pre
    rw [List.length_take, List.length_append] at q
    omega
  have noA : ∀ b : Addr, b ∉ (ncxC CX P w K mg base N F f A outer s H E).ex := fun b z => absurd (show b ∈ ([] : List Addr) from z) (by simp)
  have cellK : ∀ {c : Addr} {v : Option Value}, s.heap.IsCell c v → h₁.IsCell c v := fun {c v} ⟨o, ho, hd⟩ => ⟨o, kp _ _ ho, hd⟩
  have eC : (ncxC CX P w K mg base N F f A outer s H E).env.cells = cellsFrom (s.heap.objs.size + 1) F.scope.names [] ++ F.cl := cellsFrom_app _ _ _
  -- a name of cells: its own, or captured
  have look : ∀ y c, (ncxC CX P w K mg base N F f A outer s H E).env.cells.lookup y = some c → ((y, c) ∈ cellsFrom (s.heap.objs.size + 1) F.scope.names [] ∧ s.heap.objs.size + 1 ≤ c ∧ h₁.IsCell c none ∧ F.scope.names.lookup y = some .cell) ∨ F.cl.lookup y = some c := fun y c e => by
    rw [eC, List.lookup_append] at e
    cases q : (cellsFrom (s.heap.objs.size + 1) F.scope.names []).lookup y with
    | some c' =>
      rw [q] at e
      have e1 : c' = c := Option.some.inj e
      subst e1
      have m := PySem.mem_of_lookup q
      obtain ⟨z1, z2⟩ := co.empty y c' m
      exact .inl ⟨m, z2, z1, S.own _ (cellsFrom_mem _ _ m) rfl⟩
    | none =>
      rw [q] at e
      exact .inr e
  have lookF : ∀ y, F.scope.names.lookup y = some .free → ∀ c, F.cl.lookup y = some c → (ncxC CX P w K mg base N F f A outer s H E).env.cells.lookup y = some c := fun y hy c e => by
    rw [eC, List.lookup_append]
    cases q : (cellsFrom (s.heap.objs.size + 1) F.scope.names []).lookup y with
    | some c' =>
      have := S.own _ (cellsFrom_mem _ _ (PySem.mem_of_lookup q)) rfl
      rw [show F.scope.names.lookup y = _ from hy] at this
      cases this
    | none => exact e
  have lt : ∀ y c, F.cl.lookup y = some c → c < s.heap.objs.size := fun y c e => by
    obtain ⟨_, v, z⟩ := C.all y c e
    exact z.lt
  refine ⟨⟨e0.mod, S.kind, rfl, rfl, Nat.le_refl _, fun x y c e1 e2 => ?_, fun y hy => ?_, fun y c z e => ?_, fun _ => hd, Around.frames_deeper e0.frames, .inr ⟨rfl, rfl⟩, fun b z => absurd z (noA b), e0.bs, e0.bsz, fun b _ _ => noA b,
      fun b z => absurd z (noA b), e0.funs, e0.frf⟩,
    rfl, e0.bare, Un.kept kp, ⟨_, hns, fun i y v e1 e2 e3 => ?_⟩, fun y c e => ?_, e0.hok.fresh (Nat.le_refl _), fun y c e => ?_, fun q hq => absurd (show q ∈ ([] : List (Addr × Obj)) ++ [] from hq) (by simp), e0.hok.kept kp, ?_⟩
  · rcases look x c e1 with ⟨m1, l1, _, _⟩ | q1
    · rcases look y c e2 with ⟨m2, _, _, _⟩ | q2
      · exact name_of_addr co.apart m1 m2
      · exact absurd (lt y c q2) (Nat.not_lt.mpr (Nat.le_of_succ_le l1))
    · rcases look y c e2 with ⟨m2, l2, _, _⟩ | q2
      · exact absurd (lt x c q1) (Nat.not_lt.mpr (Nat.le_of_succ_le l2))
      · exact C.inj x y c q1 q2
  · have hy : F.scope.names.lookup y = some .cell ∨ F.scope.names.lookup y = some .free := hy
    rcases hy with hy | hy
    · obtain ⟨c, hc⟩ := cell_has (n := s.heap.objs.size + 1) hy
      exact ⟨c, by rw [eC, List.lookup_append, hc]; rfl⟩
    · obtain ⟨i, hi⟩ := List.mem_iff_getElem?.mp (S.free _ (PySem.mem_of_lookup hy) rfl)
      obtain ⟨c, hc, _⟩ := C.has i y hi
      exact ⟨c, lookF y hy c hc⟩
  · have z : F.scope.names.lookup y = some .cell := of_decide_eq_true z
    rcases look y c e with ⟨_, l1, _, _⟩ | q1
    · show s.heap.objs.size ≤ c
      omega
    · obtain ⟨c2, hc2⟩ := cell_has (n := s.heap.objs.size + 1) z
      rw [eC, List.lookup_append, hc2] at e
      have e1 : c2 = c := Option.some.inj e
      subst e1
      have := (co.empty y c2 (PySem.mem_of_lookup hc2)).2
      show s.heap.objs.size ≤ c2
      omega
  · have e1 : N[i]? = some y := e1
    have clen := C.len
    unfold NdefX.startF at e2
    by_cases h1 : i < ps.length
    · have hq : (ps ++ fr)[i]? = some y := by
        rw [← S.pre, List.getElem?_take_of_lt (by omega)]
        exact e1
      rw [List.getElem?_append_left h1] at hq
      rw [List.getElem?_append_left (by rw [List.length_map]; omega), List.getElem?_map] at e2
      have ha : vs[i]? = some v := by
        cases e : vs[i]? with
        | none => rw [e] at e2; cases e2
        | some a => rw [e] at e2; cases e2; rfl
      obtain ⟨u, hu, rv⟩ := r.get ha
      have ndP : ps.Nodup := by
        have q := S.nd.sublist (List.take_sublist (ps.length + fr.length) N)
        rw [S.pre] at q
        exact (List.nodup_append.mp q).1
      exact ⟨u, rv, .inl ⟨S.par y (List.mem_of_getElem? hq), NdefX.zip_look ndP hq hu⟩⟩
    · rw [List.getElem?_append_right (by rw [List.length_map]; omega), List.length_map] at e2
      by_cases h2 : i < ps.length + fr.length
      · have hq : (ps ++ fr)[i]? = some y := by
          rw [← S.pre, List.getElem?_take_of_lt (by omega)]
          exact e1
        rw [List.getElem?_append_right (by omega)] at hq
        rw [List.getElem?_append_left (by omega), hl] at e2
        obtain ⟨c, hc, hv⟩ := C.has (i - ps.length) y hq
        obtain ⟨u, ru, hu⟩ := hv v e2
        have hfy := S.frk y (List.mem_of_getElem? hq)
        exact ⟨u, ru, .inr ⟨.inr hfy, c, lookF y hfy c hc, cellK hu⟩⟩
      · rw [List.getElem?_append_right (by omega), List.getElem?_replicate] at e2
        split at e2 <;> cases e2
  · rcases look y c e with ⟨_, _, z, _⟩ | q1
    · exact ⟨_, z⟩
    · obtain ⟨v, z⟩ := (C.all y c q1).2
      exact ⟨v, cellK z⟩
  · rcases look y c e with ⟨_, l1, _, _⟩ | q1
    · exact e0.hok.fresh (by omega)
    · exact (C.all y c q1).1
  · have clen := C.len
    unfold NdefX.startF
    show _ = N.length
    rw [List.length_append, List.length_append, List.length_map, List.length_replicate]
    omega
theorem nok_ofC {k : Nat} {sp : List (Option V) → Sp} (S : NScopeC N ps fr F.scope) (hb : ∀ (doc pm ctv : Value) (us : List Value), us.length = ps.length → bindArgs (F.fd doc pm ctv) ⟨us, []⟩ = pure (ps.zip us)) (len : ∀ ws vs H Q E, sp ws vs H Q E → vs.length = ps.length)
    (hbody : ∀ (A : Around) (outer : List Env) (s : Shared) (H : Hp) (vs : List V) (ws : List (Option V)) (Q : VK) (E : XK), Room k (A.deeper (envFC F f s.heap.objs.size)) → H f = some (NdefX.FnO f F) → H F.c = some (LamX.CodeO F.c F.qual) → ws.length = fr.length → sp ws vs H Q E →
      ∃ t, PSs (ncxC CX0 P w K mg base N F f A outer s H E).nox F.body t ∧ t { nx := fun _ H' => Q .non H', rt := Q } (NdefX.startF N vs ws) H) :
    NdefX.NOk P w K mg base CX0 (k + 1) f F ps fr sp := by
  refine ⟨len, fun A outer s H us vs ws Q E hr e0 hf hc C r hsp => ?_⟩
  have hl := len _ _ _ _ _ hsp
  have lim : s.heap.NoLimit := e0.mod.nolimit.keeps fun b o e => (e0.bs b o e).1
  obtain ⟨od, sl, doc, pm, ctv, ho⟩ := NdefX.fnO_at e0.hok hf
  refine codeAny_call_function hr.depth ho rfl S.co S.gen rfl (NdefX.codeO_at e0.hok hc) ?_
  rw [hb doc pm ctv us (by rw [← r.length]; exact hl)]
  refine wpAny_pure (newEnvC (fun ⟨n, _⟩ hy => S.par n (List.of_mem_zip hy).1) S.kind (fun h₁ hns hsb => ?_))
  have ok0 := cellsFrom_ok F.scope.names (s.heap.push { cls := .type "frame", data := .dict #[] }) (s.heap.objs.size + 1) [] ⟨fun _ _ hm => (nomatch hm), List.Pairwise.nil⟩ (by rw [Heap.size_push]; exact Nat.le_refl _)
  rw [Heap.size_push] at ok0
  have kp : ∀ b o, s.heap.get? b = some o → h₁.get? b = some o := fun b o e => hsb.extBut b o (Nat.ne_of_lt (Heap.lt_size e)) (pushCells_keeps _ _ b o (Heap.get?_push_of_some _ e))
  have ok1 : CellsOk h₁ (s.heap.objs.size + 1) (cellsFrom (s.heap.objs.size + 1) F.scope.names []) := ⟨fun n c hm => by
    obtain ⟨z1, z2⟩ := ok0.empty n c hm
    exact ⟨z1.sameBut hsb (Nat.ne_of_gt z2), z2⟩, ok0.apart⟩
  refine ⟨lim.keeps kp, ?_⟩
  show codeAny _ _ (.func F.body (envFC F f s.heap.objs.size)) _ _
  refine codeAny_func ?_
  obtain ⟨t, ht, hq⟩ := hbody A outer s H vs ws Q E (hr.deeper _) hf hc C.len hsp
  have I : Inv (ncxC CX0 P w K mg base N F f A outer s H E) [] (NdefX.startF N vs ws) H { s with heap := h₁, toks := s.toks + (ps.zip us).length } := inv_startC S hr.hd e0 hl r C hns kp ok1
  refine wpAny_mono (ht.nox.run [] _ (NdefX.startF N vs ws) H _ I hq) (fun fl s' hs => ?_) fun e s' hs => hs
  have fin : ∀ {σ' : L2.St} {H' : Hp} {v : V} {u : Value}, Inv (ncxC CX0 P w K mg base N F f A outer s H E) [] σ' H' s' → L2.RelV v u → Q v H' → CE outer P w H s Q u s' :=
    fun {σ' H' v u} J rv q => ⟨v, H', J.os, J.bare, J.base, J.hok, rv, q⟩
  cases fl with
  | ret u =>
    obtain ⟨v, σ', H', J, rv, q⟩ := hs
    exact fin J rv q
  | next =>
    obtain ⟨σ', H', J, q⟩ := hs
    exact fin (v := V.non) (u := Value.none) J rfl q
  | brk =>
    obtain ⟨_, _, _, q⟩ := hs
    exact False.elim q
  | cont =>
    obtain ⟨_, _, _, q⟩ := hs
    exact False.elim q
end
end Dg
end

section
set_option maxHeartbeats 4000000
namespace Dg
open PySem PySem.Spec PyProof.Rows L2
abbrev sHid : Stmt := top 29
abbrev sTho : Stmt := (defBody sHid).getD 4 (.Pass ⟨0, 0, 0, 0⟩)
abbrev nTho : List Str := ["states", "letters", "small", "found", "letter", "targets", "gone", "state"]
abbrev frTho : List Str := ["letters", "small"]
theorem scTho : NScopeC nTho ["states"] frTho (C8.fnScope sTho) := nscopeC_by (by decide +kernel)
def wTho (K : PySem.W.Frag) (M : Mach) : List (Option V) → Hp → Prop := fun ws H => ∃ L p, ws = [some (.ref L), some (.ref p)] ∧ H L = some (.lst []) ∧ MachAt K H p M
theorem hT_get {M : Mach} {s : Int} {b : Nat} (hb : b < M.k) : (hT M [s])[b]? = some (if M.nxt s b < 0 then none else some [M.nxt s b]) := by
  unfold hT
  rw [List.getElem?_map, List.getElem?_eq_getElem (by rw [List.length_range]; exact hb), List.getElem_range]
  rfl
section
variable {P : Program} {w : World} {K : PySem.W.Frag} {mg : Str → Option Value} {base : Heap} {fT c' fC : Addr} {fdC : FuncData} {qual : Str} {cl : List (Str × Addr)} {M : Mach}
theorem ok_tho (GC : FnOk P w K mg base CX0 1 fC fdC ["machine", "states", "hidden"] (spClo K)) (kC : PySem.W.keepIn K (.ref fC) = true) (bC : Binds K fdC ["machine", "states", "hidden"] []) (mC : mg "closed" = some (.ref fC)) (mr : mg "range" = none) (ml : mg "len" = none)
    (o : M.Ok) (hk1 : M.k ≤ 1000) : NdefX.NOk P w K mg base CX0 2 fT (NdefX.NF.of sTho "targets_of" qual cl c') ["states"] frTho (spT K (hT M) (hD M) (wTho K M)) := by
  refine nok_ofC scTho (fun _ _ _ us hl => match us, hl with | [_], _ => rfl) (fun ws vs H Q E h => ?_) (fun A outer s H vs ws Q E hr hf hc hl h => ?_)
  · obtain ⟨a, q, rfl, _⟩ := h
    rfl
  · obtain ⟨a, q, rfl, ha, hD', ⟨L, p, rfl, hL, hm⟩, hq⟩ := h
    obtain ⟨st, rfl, hst⟩ := hD'
    obtain ⟨b, c, ra, h⟩ := id hm
    have nd := scTho.nd
    refine ⟨_, pss_cons (ps_set (i := 3) nd rfl (Or.inl rfl) (pe_lst pa_nil))
      (pss_cons (ps_for PassesOwn.never rfl (pi_range1 (by rfl) mr (pa_cons (pe_ix ix_tup (pv 2) pe_int (fun _ _ => rfl)) pa_nil)) (pg_name (i := 4) nd rfl (Or.inr rfl) (.inl (show decide ((C8.fnScope sTho).names.lookup ("letter" : Str) = some .cell) = true from by decide +kernel)))
        (pss_cons (ps_setLc (i := 5) (own := [("state", 7)]) (g := gName 7) rfl nd rfl rfl (sw_true rfl rfl rfl (by decide +kernel)) (pi_tup (pv 0)) (blkOk_by (N := nTho) (sc := C8.fnScope sTho) (by decide +kernel))
            (fun _ _ _ _ _ => pg_name (i := 7) nd rfl (Or.inl rfl)) (fun _ _ _ _ _ => pts_one (pt_cmpR op_ge (pe_ix (ixT K) (pe_ix (ixT K) (pe_ix (ixT K) (pv 2) pe_int (fun _ _ => rfl)) (pv 7) (fun _ _ => rfl)) (pv 4) (fun _ _ => rfl)) pe_int (nomark _)))
            (fun _ _ _ _ _ => pe_ix (ixT K) (pe_ix (ixT K) (pe_ix (ixT K) (pv 2) pe_int (fun _ _ => rfl)) (pv 7) (fun _ _ => rfl)) (pv 4) (fun _ _ => rfl)))
        (pss_cons (ps_set (i := 6) nd rfl (Or.inl rfl) (pe_or (pe_cmpR op_in_seq (pv 4) (pv 1) (by rfl)) (pe_one (pe_cmpR op_eq (pe_callB call_len_seq (by rfl) ml PySem.boot_len (pa_cons (pv 5) pa_nil)) pe_int (nomark _)))))
        (pss_one (ps_expr (pe_bm PySem.F.plainAttrs_list PySem.F.slot_list_append PySem.F.type_list_append mt_append (pv 3) (pa_cons (pe_ifExp (pt_val (pv 6)) pe_non (pe_call GC hr (by rfl) mC kC bC .nil pass0 (pa_cons (pv 2) (pa_cons (pv 5) (pa_cons (pv 1) pa_nil))))) pa_nil)))))))
      (pss_one (ps_ret (pv 3)))), ?_⟩
    refine ⟨Nat.zero_le _, fun Fd nF => ?_⟩
    have s1 : Same H (upd H Fd (.lst [])) := same_upd nF
    refine ⟨_, rfl, p, _, 0, _, rfl, rfl, (h.same s1).t, rfl, _, rfl, by omega, by omega, ?_⟩
    refine for_range (lo := 0) (n := ((M.k : Nat) : Int).toNat) (fun i σ H' => ∃ ys x4 x5 x6 x7, σ = [some (.ref a), some (.ref L), some (.ref p), some (.ref Fd), x4, x5, x6, x7] ∧ Same H H' ∧ H' Fd = some (.lst ys) ∧ OptsAt K H' ((hT M [(st : Int)]).take i) ys)
      ⟨[], none, none, none, none, rfl, s1, upd_same, rfl, fun i o v e => absurd e (by simp)⟩ ?_ ?_
    · rintro i σ H2 hi ⟨ys, x4, x5, x6, x7, rfl, s2, eF, oo⟩
      have hik : i < M.k := by omega
      have hyl : ys.length = i := by rw [oo.1, List.length_take, hT_len]; omega
      rw [Int.zero_add]
      have hget := hT_get (M := M) (s := (st : Int)) hik
      have ha2 := Same.tup s2 ha
      have h2 := h.same s2
      -- targets = [..]
      refine ⟨_, rfl, a, rfl, ⟨_, ha2⟩, fun D nD => ?_⟩
      have nD0 := s2.free nD
      have eFD : Fd ≠ D := ne_of_none eF nD
      obtain ⟨pr, _, r2, r3⟩ := h.row hst
      have e1 : (hT M [(st : Int)])[i]? = some (if M.nxt (st : Int) i < 0 then none else some [M.nxt (st : Int) i]) := hget
      have rg := nxt_rng o (st : Int) i
      refine lc_tup (K := K) (a := a) (xs := [.int (st : Int)]) (fun j H' => H' = upd H2 D (.lst (if j = 0 then [] else if M.nxt (st : Int) i < 0 then [] else [V.int (M.nxt (st : Int) i)]))) rfl (fun j H' _ e => by rw [e]; exact Same.tup (same_upd nD) ha2) ?_ ?_
      · rintro j x H' hx rfl
        have hj : j = 0 := by have := (List.getElem?_eq_some_iff.mp hx).1; simp at this; omega
        subst hj
        have ex : V.int (st : Int) = x := Option.some.inj hx
        subst ex
        have h3 := h2.same (same_upd (o := .lst []) nD)
        have hr3 := Same.tup (s2.trans (same_upd (o := .lst []) nD)) r3
        rw [if_pos rfl]
        refine ⟨rfl, _, rfl, p, _, 1, .ref b, rfl, rfl, h3.t, rfl, _, rfl, b, _, _, .ref pr, rfl, rfl, h3.b, atT rfl r2, _, rfl, pr, _, _, _, rfl, rfl, hr3, atT rfl (nxt_get o hst hik), _, _, rfl, rfl, _, rfl, ite2 (fun e => ?_) (fun e => ?_)⟩
        · have e2 : (0 : Int) ≤ M.nxt (st : Int) i := of_decide_eq_true e
          refine ⟨_, rfl, p, _, 1, .ref b, rfl, rfl, h3.t, rfl, _, rfl, b, _, _, .ref pr, rfl, rfl, h3.b, atT rfl r2, _, rfl, pr, _, _, _, rfl, rfl, hr3, atT rfl (nxt_get o hst hik), _, upd_same, (by decide +kernel : 0 < sizeLine), ?_⟩
          rw [upd_upd, if_neg (by omega), if_neg (by omega)]
          rfl
        · have e2 : ¬ (0 : Int) ≤ M.nxt (st : Int) i := fun z => e (decide_eq_true z)
          rw [if_neg (by omega), if_pos (by omega)]
      · rintro H3 rfl
        rw [show ([V.int (st : Int)] : List V).length = 1 from rfl, if_neg (by decide)]
        by_cases hneg : M.nxt (st : Int) i < 0
        · rw [if_pos hneg] at hget ⊢
          have s3 : Same H2 (upd H2 D (.lst [])) := same_upd nD
          have eD : (upd H2 D (.lst [])) D = some (.lst []) := upd_same
          have eF3 := s3 _ _ eF
          have s03 := s2.trans s3
          have eL3 := s03 _ _ hL
          have oo3 := oo.ext (Ext.of s3)
          generalize upd H2 D (.lst []) = H3 at s3 eD eF3 s03 eL3 oo3 ⊢
          refine ⟨_, rfl, _, rfl, L, [], rfl, .inl (SqL.of eL3), rfl, rfl, _, rfl, ite2 (fun e => nomatch (show false = true from e)) (fun _ => ?_)⟩
          refine ⟨_, rfl, D, _, rfl, .inl (SqL.of eD), rfl, ?_⟩
          refine ⟨_, rfl, .inl ⟨rfl, _, SqL.of eF3⟩, _, rfl, _, rfl, ite2 (fun e => ?_) (fun e => absurd (by decide) e)⟩
          refine ⟨Fd, _, _, rfl, rfl, eF3, by rw [hyl]; exact small1000 (by omega), ys ++ [V.non], _, _, _, _, rfl, same_in nF s03, upd_same, ?_⟩
          rw [take_succ_get hget]
          exact (oo3.snoc (o := none) rfl).upd eF3 lst_tup lst_frz
        · rw [if_neg hneg] at hget ⊢
          have s3 : Same H2 (upd H2 D (.lst [V.int (M.nxt (st : Int) i)])) := same_upd nD
          have eD : (upd H2 D (.lst [V.int (M.nxt (st : Int) i)])) D = some (.lst [V.int (M.nxt (st : Int) i)]) := upd_same
          have eF3 := s3 _ _ eF
          have s03 := s2.trans s3
          have eL3 := s03 _ _ hL
          have oo3 := oo.ext (Ext.of s3)
          generalize upd H2 D (.lst [V.int (M.nxt (st : Int) i)]) = H3 at s3 eD eF3 s03 eL3 oo3 ⊢
          refine ⟨_, rfl, _, rfl, L, [], rfl, .inl (SqL.of eL3), rfl, rfl, _, rfl, ite2 (fun e => nomatch (show false = true from e)) (fun _ => ?_)⟩
          refine ⟨_, rfl, D, _, rfl, .inl (SqL.of eD), rfl, ?_⟩
          refine ⟨_, rfl, .inl ⟨rfl, _, SqL.of eF3⟩, _, rfl, _, rfl, ite2 (fun e => absurd (of_decide_eq_true e) (fun z => by cases z)) (fun _ => ?_)⟩
          refine ⟨_, rfl, _, rfl, _, rfl, p, D, L, M.nxt (st : Int) i, rfl, SqL.of eD, SqL.of eL3, fun H4 q' s4 eq' => ?_⟩
          have eF4 := s4 _ _ eF3
          have s04 := s03.trans s4
          refine ⟨Fd, _, _, rfl, rfl, eF4, by rw [hyl]; exact small1000 (by omega), ys ++ [V.ref q'], _, _, _, _, rfl, same_in nF s04, upd_same, ?_⟩
          rw [take_succ_get hget]
          exact ((oo3.ext (Ext.of s4)).snoc (o := some [M.nxt (st : Int) i]) (v := V.ref q') ⟨q', rfl, SqT.of eq'⟩).upd eF4 lst_tup lst_frz
    · rintro σ H2 ⟨ys, x4, x5, x6, x7, rfl, s2, eL, oo⟩
      refine ⟨_, rfl, hq H2 Fd ys s2 nF eL ?_⟩
      rw [List.take_of_length_le (by rw [hT_len]; omega)] at oo
      exact oo
end
end Dg
end

section
set_option maxHeartbeats 4000000
namespace Dg
open PySem PySem.Spec PyProof.Rows L2
section
variable {X : Cx} (P : Program) (w : World) (K : PySem.W.Frag) (hP : X.prog = P := by rfl) (hw : X.w = w := by rfl) (hK : X.K = K := by rfl)
/-- set([]), an empty list -/
abbrev rSetE (P : Program) (w : World) (K : PySem.W.Frag) : List V → Hp → VK → Prop := fun xs H Q => ∃ l : Addr, xs = [V.ref l] ∧ SqL K H l [] ∧ ∀ a, H a = none → Q (.ref a) (upd H a (SetTO P w a []))
include hP hw hK in
theorem call_setE (hc : X.calm = true) (hu : X.A.units + 64 < cLine) : CallR X (.type "set") (rSetE P w K) := by
  subst hP hw hK
  intro pins s σ H xs us Q I r h
  obtain ⟨l, e, hl, q⟩ := h
  refine cr_setOfT hc hu pins s σ H xs us Q I r ⟨l, [], e, hl, fun p hp => absurd hp (by simp), by decide, fun a L ha hL _ => ?_⟩
  have eL : L = [] := by
    cases L with
    | nil => rfl
    | cons p L => exact absurd (hL p List.mem_cons_self) (by simp)
  subst eL
  exact q a ha
abbrev rSortE (P : Program) (w : World) : List V → Hp → VK → Prop := fun vs H Q => ∃ a : Addr, vs = [V.ref a] ∧ H a = some (SetTO P w a []) ∧ ∀ p, H p = none → Q (.ref p) (upd H p (.lst []))
include hP hw hK in
theorem call_sortE (hc : X.calm = true) : CallR X (.builtin "sorted") (rSortE P w) := by
  subst hP hw hK
  intro pins s σ H vs us Q I r h
  obtain ⟨a, e, ha, q⟩ := h
  refine cr_sortedT hc pins s σ H vs us Q I r ⟨a, [], 1, 2, e, ha, fun p hp => absurd hp (by simp), Nat.le_refl _, fun p hp => absurd hp (by simp), fun L' p hL _ _ _ hp => ?_⟩
  have eL : L' = [] := List.Perm.eq_nil hL
  subst eL
  exact q p hp
include hK in
theorem anyK (hc : X.calm = true) : CallR X (.builtin "any") (rAny K) := by
  subst hK
  exact cr_any hc
end
theorem pi_tupK {X : Cx} {tg e : Expr} {te : TE} (K : PySem.W.Frag) (h : PE X e te) (hK : X.K = K := by rfl) : PI X tg e (iTup K te) := by
  subst hK
  exact pi_tup h
def scAcc2 : Scope := { kind := .function, names := [(".0", .local), ("states", .local), ("any", .globalImplicit), ("small", .cell)], isGenerator := false, isCoroutine := false }
abbrev nHid : List Str := ["machine", "hidden", "targets_of", "order", "rows", "accepting", "letters", "small", "letter", "states", "state"]
theorem scHid : FnScope nHid ["machine", "hidden"] (defScope sHid) := ⟨rfl, rfl, rfl, by decide +kernel, rfl, by decide +kernel, by decide +kernel⟩
def spHid (K : PySem.W.Frag) (Tt : List NdefX.NTab) : Sp := fun vs H Q _ => ∃ (a L : Addr) (M : Mach), vs = [.ref a, .ref L] ∧ SqL K H L [] ∧ MachAt K H a M ∧ M.Sm ∧ M.rows.length ≤ 400 ∧ NdefX.TabsN Tt H ∧
  ∀ H' p m, Ext H H' → NdefX.TabsN Tt H' → MachAt K H' p m → Canon M.L m → m.k = M.k → Q (.ref p) H'
section
variable {P : Program} {w : World} {K : PySem.W.Frag} {mg : Str → Option Value} {base : Heap} {f fC fL fM fS c Pt : Addr} {fd fdC fdL fdM fdS : FuncData} {uP : Value} {Tt : List NdefX.NTab} {nm : Nat → Nat → Str}
theorem ok_hid (F : FunC K "hide" "hide" sHid f fd c) (TB : LamX.TabB base mg c Pt) (hT : (Pt, nm) ∈ Tt) (hTu : ∀ p ∈ Tt, p.1 = Pt → p.2 = nm) (hnm : nm = fun _ _ => ("hide.<locals>.targets_of" : Str))
    (GC : FnOk P w K mg base CX0 1 fC fdC ["machine", "states", "hidden"] (spClo K)) (kC : PySem.W.keepIn K (.ref fC) = true) (bC : Binds K fdC ["machine", "states", "hidden"] []) (mC : mg "closed" = some (.ref fC))
    (GL : FnOk P w K mg base CX0 2 fL fdL ["machine"] (spLea K)) (kL : PySem.W.keepIn K (.ref fL) = true) (bL : Binds K fdL ["machine"] []) (mL : mg "least_machine" = some (.ref fL))
    (Fm : Fun K "met" "met" sMet fM fdM) (bM : Binds K fdM ["start", "targets_of", "most"] []) (mM : mg "met" = some (.ref fM))
    (GS : FnOk P w K mg base CX0 3 fS fdS ["letters", "rows", "accepting"] (spSma K)) (kS : PySem.W.keepIn K (.ref fS) = true) (bS : Binds K fdS ["letters", "rows", "accepting"] []) (mS : mg "smallest" = some (.ref fS))
    (mP : mg "MAX_MACHINE" = some uP) (rP : RelV (.int 400) uP) (mr : mg "range" = none) (mal : mg "all" = none) (man : mg "any" = none) (mt : mg "tuple" = none) (ml : mg "len" = none) (mse : mg "set" = none) (mso : mg "sorted" = none) :
    FnOk P w K mg base CX0 4 f fd ["machine", "hidden"] (spHid K Tt) := by
  refine F.ok scHid (fun vs H Q E h => ?_) (fun A outer s H vs Q E hr h => ?_)
  · obtain ⟨a, L, M, rfl, _⟩ := h
    rfl
  · obtain ⟨a, L, M, rfl, hL, hM, sm, h400, hTab, q⟩ := h
    have nd := scHid.nd
    have hnb : NdefX.ndefB (defScope sHid) (C8.fnScope sTho) frTho = true := by decide +kernel
    refine ⟨_, pss_cons (ps_if (pt_not (pt_val (pe_callB (cr_all rfl) (by rfl) mal PyProof.Rows.boot_all (pa_cons (pe_lc (own := [("letter", 8)]) (g := gName 8) rfl nd (pi_list (pv 1)) (blkOk_by (N := nHid) (sc := defScope sHid) (by decide +kernel))
            (fun _ _ _ _ _ => pg_name (i := 8) nd rfl (Or.inl rfl)) (fun _ _ _ _ _ => pts_nil) (fun _ _ _ _ _ => pe_chain op_le op_lt pe_int (pv 8) (pe_ix (ixT K) (pv 0) pe_int (fun _ _ => rfl)))) pa_nil)))) (pss_one ps_never) pss_nil)
      (pss_cons (ps_set (i := 7) nd rfl (Or.inr rfl) (pe_call (GL.mono (by decide)) hr (by rfl) mL kL bL .nil pass0 (pa_cons (pv 0) pa_nil)))
      (pss_cons (ps_if (pt_cmpR op_eq (pe_callB call_len_seq (by rfl) ml PySem.boot_len (pa_cons (pe_ix ix_tup (pv 7) pe_int (fun _ _ => rfl)) pa_nil)) pe_int (nomark _)) (pss_one (ps_ret (pv 7))) pss_nil)
      (pss_cons (ps_set (i := 6) nd rfl (Or.inr rfl) (pe_callB (call_sortE P w K (hc := rfl)) (by rfl) mso PyProof.Rows.boot_sorted (pa_cons (pe_callTy (call_setE P w K (hc := rfl) (hu := hr.units)) (by rfl) mse (by decide +kernel) (pa_cons (pv 1) pa_nil)) pa_nil)))
      (pss_cons (NdefX.ps_ndefMS (st := sTho) (T := Tt) (nm := nm) (c := c) (P := Pt) (i := 2) rfl TB rfl hT (by rw [hnm]; exact (show ("hide.<locals>.targets_of" : Str) = ("hide.<locals>." : Str) ++ ("targets_of" : Str) from by decide +kernel)) hTu (NdefX.ndef_free hnb) rfl rfl rfl nd rfl (Or.inl rfl) (Or.inr rfl))
      (pss_cons (ps_asg (pe_met (k := 2) (mk := NdefX.NF.of sTho "targets_of" (("hide.<locals>." : Str) ++ ("targets_of" : Str)) (cloFrom _ (C8.fnScope sTho).names [])) (js := [6, 7]) (fr := frTho) (x := "states") Fm (by rfl) mM bM mt ml hr (fun _ => rfl) (fun ok => NdefX.Caps.made ok (NdefX.ndef_free hnb) (NdefX.ndef_fr hnb) rfl)
            (pa_cons (pe_call (GC.mono (by decide)) hr (by rfl) mC kC bC .nil pass0 (pa_cons (pv 7) (pa_cons (pe_lst (pa_cons pe_int pa_nil)) (pa_cons (pv 6) pa_nil)))) (pa_cons (pv 2) (pa_cons (pe_glob (by rfl) mP rP) pa_nil))))
          (pg_tup (by rfl) (pgs_cons (pg_name (i := 3) nd rfl (Or.inl rfl)) (pgs_cons (pg_name (i := 4) nd rfl (Or.inl rfl)) pgs_nil))))
      (pss_cons (ps_setLc (i := 5) (own := [("states", 9)]) (g := gName 9) rfl nd rfl rfl (sw_true rfl rfl rfl (by decide +kernel)) (pi_list (pv 3)) (blkOk_by (N := nHid) (sc := defScope sHid) (by decide +kernel))
          (fun _ _ _ _ _ => pg_name (i := 9) nd rfl (Or.inl rfl)) (fun _ _ _ _ _ => pts_nil)
          (fun _ _ _ _ _ => pe_callB (anyK K (hc := rfl)) (by rfl) man PyProof.Rows.boot_any (pa_cons (pe_lc (own := [("state", 10)]) (g := gName 10) rfl nd (pi_tupK K (pv 9)) (blkOk_by (N := nHid) (sc := scAcc2) (by decide +kernel))
            (fun _ _ _ _ _ => pg_name (i := 10) nd rfl (Or.inl rfl)) (fun _ _ _ _ _ => pts_nil) (fun _ _ _ _ _ => pe_ix (ixT K) (pe_ix (ixT K) (pv 7) pe_int (fun _ _ => rfl)) (pv 10) (fun _ _ => rfl))) pa_nil)))
      (pss_one (ps_ret (pe_call GS hr (by rfl) mS kS bS .nil pass0 (pa_cons (pe_ix ix_tup (pv 7) pe_int (fun _ _ => rfl)) (pa_cons (pv 4) (pa_cons (pv 5) pa_nil)))))))))))), ?_⟩
    have o := sm.ok
    refine ⟨_, rfl, L, rfl, ⟨_, hL⟩, fun D nD => ?_⟩
    have s1 : Same H (upd H D (.lst [])) := same_upd nD
    refine lc_list (K := K) (a := L) (xs := []) (fun i H' => H' = upd H D (.lst [])) rfl (fun i H' _ e => by rw [e]; exact s1.seq hL) (fun i x H' hx => absurd hx (by simp)) ?_
    rintro H1 rfl
    refine ⟨D, [], rfl, SqL.of upd_same, _, rfl, ?_⟩
    refine ite2 (fun e => absurd e (by decide)) (fun _ => ?_)
    generalize upd H D (.lst []) = H1 at s1 ⊢
    -- small
    refine ⟨_, rfl, a, M, rfl, hM.same s1, sm, fun H2 p m s2 hm can hkm => ?_⟩
    have o1 := can.ok
    have z1 := can.size o rfl
    have L1 : m.L = M.L := can.lang (by rw [hkm]; exact fun w hw => sup_lang o w _ hw)
    obtain ⟨b, c0, ra, h⟩ := id hm
    have hl : (ra.map V.ref).length = m.rows.length := by rw [List.length_map]; exact h.r.1
    have s02 := s1.trans s2
    refine ⟨_, rfl, p, _, 1, .ref b, rfl, rfl, h.t, rfl, b, _, rfl, .inr h.b, rfl, _, rfl, ite2 (fun e => ?_) (fun e => ?_)⟩
    · exact ⟨_, rfl, q H2 p m (Ext.of s02) (hTab.ext s02) hm can hkm⟩
    have e1 : ¬ (((ra.map V.ref).length : Nat) : Int) = 0 := fun z => e (decide_eq_true (by rw [z]))
    have hn0 : 0 < m.rows.length := by omega
    have hi : m.init = ((0 : Nat) : Int) := if_pos hn0
    -- letters
    refine ⟨_, rfl, L, rfl, s02.seq hL, fun S nS => ⟨S, rfl, upd_same, fun Lt nLt => ?_⟩⟩
    have s3 : Same H2 (upd (upd H2 S (SetTO P w S [])) Lt (.lst [])) := (same_upd nS).trans (same_upd nLt)
    have eLt : (upd (upd H2 S (SetTO P w S [])) Lt (.lst [])) Lt = some (.lst []) := upd_same
    have s03 := s02.trans s3
    have hm3 := hm.same s3
    generalize upd (upd H2 S (SetTO P w S [])) Lt (.lst []) = H3 at s3 eLt s03 hm3 ⊢
    refine ⟨hTab.ext s03, fun fT c' H4 e34 n34 tab4 nf ef ec => ?_⟩
    have hm4 := hm3.ext e34
    have eLt4 := e34 _ _ eLt (fun ps z => by cases z)
    refine ⟨_, rfl, by show 1 ≤ sizeLine; decide, fun U nU => ?_⟩
    have s5 : Same H4 (upd H4 U (.lst [V.int 0])) := same_upd nU
    refine ⟨_, rfl, p, U, Lt, 0, rfl, SqL.of upd_same, SqL.of (s5 _ _ eLt4), fun H5 T s5' eT => ?_⟩
    have s45 := s5.trans s5'
    clear s5 s5'
    have hm5 := hm4.same s45
    have eLt5 := s45 _ _ eLt4
    refine ⟨_, rfl, T, fT, c', 400, m.rows.length, [0], Dg.hT m, hD m, wTho K m, rfl, s45 _ _ ef, s45 _ _ ec, ok_tho GC kC bC mC mr ml o1 (by rw [hkm]; exact sm.k), SqT.of eT,
      ⟨0, rfl, hn0⟩, fun q b t hq h => hD_T o1 h, fun q _ => by rw [hT_len, hkm]; exact sm.k, fun ks nd h => hD_len nd h, by omega, by omega, ⟨Lt, p, rfl, eLt5, hm5⟩, fun H1 H2 s ⟨Lx, px, e, h1, h2⟩ => ⟨Lx, px, e, s _ _ h1, h2.same s⟩, fun H6 Tp O R qs rs ks rows s6 eTp eO kk eR rar met hks => ?_⟩
    have e06 : Ext H H6 := (Ext.of s03).trans (LamX.ExtN.trans e34 (Ext.of (s45.trans s6)))
    have tab6 := (tab4.ext s45).ext s6
    obtain ⟨b, c0, ra, h⟩ := hm5.same s6
    refine ⟨Tp, _, rfl, SqT.of eTp, rfl, _, _, rfl, _, _, rfl, rfl, ?_⟩
    refine ⟨_, rfl, O, rfl, ⟨_, SqL.of eO⟩, fun Ac nAc => ?_⟩
    have hqk : qs.length = ks.length := by rw [← kk.1, List.length_map]
    refine lc_list (K := K) (a := O) (xs := qs.map V.ref) (fun i H' => ∃ acc : List Bool, Same H6 H' ∧ H' Ac = some (.lst (acc.map V.bl)) ∧ acc = (ks.take i).map fun q => hF m q [])
      ⟨[], same_upd nAc, upd_same, rfl⟩ (fun i H' _ ⟨_, y, _⟩ => SqL.of (y _ _ eO)) ?_ ?_
    · rintro i x H7 hx ⟨acc, s7, eAc, hacc⟩
      obtain ⟨pq, epq⟩ := getE (l := qs) (i := i) (by have := (List.getElem?_eq_some_iff.mp hx).1; rw [List.length_map] at this; exact this)
      have hx1 : V.ref pq = x := Option.some.inj ((getI (f := V.ref) epq).symm.trans hx)
      subst hx1
      obtain ⟨sq, esq⟩ := getE (l := ks) (i := i) (by rw [← hqk]; exact (List.getElem?_eq_some_iff.mp epq).1)
      obtain ⟨st, rfl, hst⟩ := met.dom sq (List.mem_of_getElem? esq)
      have hpq := Same.tup s7 (keyTup (kk.2 i _ _ (getKk esq) epq))
      have hil := (List.getElem?_eq_some_iff.mp esq).1
      refine ⟨rfl, _, rfl, pq, rfl, ⟨_, hpq⟩, fun D2 nD2 => ?_⟩
      have nA2 : Ac ≠ D2 := ne_of_none eAc nD2
      refine lc_tup (K := K) (a := pq) (xs := [.int (st : Int)]) (fun j H' => H' = upd H7 D2 (.lst (([m.fin (st : Int)].take j).map V.bl))) rfl (fun j H' _ e => by rw [e]; exact Same.tup (same_upd nD2) hpq) ?_ ?_
      · rintro j x H' hx rfl
        have hj : j = 0 := by have := (List.getElem?_eq_some_iff.mp hx).1; simp at this; omega
        subst hj
        have ex : V.int (st : Int) = x := Option.some.inj hx
        subst ex
        have h8 := (h.same s7).same (same_upd (o := .lst (([m.fin (st : Int)].take 0).map V.bl)) nD2)
        exact ⟨rfl, _, rfl, p, _, 2, .ref c0, rfl, rfl, h8.t, rfl, _, rfl, c0, _, _, _, rfl, rfl, h8.c, atT rfl (fin_get o1 hst), _, upd_same, (by decide +kernel : 0 < sizeLine), by rw [upd_upd]; rfl⟩
      · rintro H8 rfl
        refine ⟨D2, [m.fin (st : Int)], rfl, SqL.of upd_same, _, (upd_ne nA2).trans eAc, ?_, acc ++ [m.fin (st : Int)], same_in nAc (s7.trans (same_upd nD2)), ?_, ?_⟩
        · rw [List.length_map, hacc, List.length_map, List.length_take]
          exact Nat.lt_of_le_of_lt (Nat.min_le_left _ _) (small1000 (by omega))
        · rw [upd_same, List.map_append]
          show some (HO.lst (_ ++ [V.bl (m.fin (st : Int) || false)])) = _
          rw [Bool.or_false]
          rfl
        · rw [take_succ_get esq, List.map_append, ← hacc]
          rfl
    · rintro H7 ⟨acc, s7, eAc, hacc⟩
      rw [List.take_of_length_le (by rw [List.length_map, hqk]; exact Nat.le_refl _)] at hacc
      have hal : acc.length = ks.length := by rw [hacc, List.length_map]
      have hTm : ∀ q, hD m q → (Dg.hT m q).length = m.k := fun q _ => hT_len q
      have okR : (⟨m.k, rows, acc⟩ : Mach).Ok := met.ok hTm hal
      have hrl := met.len
      have lgR : (⟨m.k, rows, acc⟩ : Mach).L = M.L := by
        rw [met.lang hTm hal (hF m) (fun i q hq => by rw [hacc, List.getElem?_map, hq]; rfl) (fun q b _ h => hF_none h) (fun q t b _ h => hF_some h) (fun q hq => fun w hw => sup_lang o1 w _ hw)]
        rw [← L1]
        show m.lang 0 = m.lang m.init
        rw [hi]
        rfl
      have h7 := h.same s7
      refine ⟨_, rfl, p, _, 0, _, rfl, rfl, h7.t, rfl, _, rfl, _, rfl, R, Ac, rs, ⟨m.k, rows, acc⟩, rfl, SqL.of (s7 _ _ eR), rar.same s7, SqL.of eAc, ⟨okR, by show rows.length ≤ 1000; omega, by show m.k ≤ 1000; rw [hkm]; exact sm.k⟩, by show rows.length ≤ 400; omega, fun H8 p' m' s8 hm' can' hkm' => ?_⟩
      rw [lgR] at can'
      exact q H8 p' m' (e06.trans (Ext.of (s7.trans s8))) ((tab6.ext s7).ext s8) hm' can' (by rw [hkm']; exact hkm)
end
end Dg
end

section
set_option maxHeartbeats 4000000
namespace Dg
open PySem PySem.Spec PyProof.Rows L2
abbrev sDif : Stmt := top 12
abbrev nDif : List Str := ["first", "second", "start", "words", "order", "at", "pair", "letter", "other"]
theorem scDif : FnScope nDif ["first", "second"] (defScope sDif) := ⟨rfl, rfl, rfl, by decide +kernel, rfl, by decide +kernel, by decide +kernel⟩
def pkey (p : Pr) : NestedKey := fkey [p.1, p.2]
theorem pkey_inj {p q : Pr} (h : pkey p = pkey q) : p = q := by
  have e := fkey_inj h
  injection e with e1 e2
  injection e2 with e2 _
  exact Prod.ext e1 e2
theorem pkey_mem {ps : List Pr} {p : Pr} (h : pkey p ∈ ps.map pkey) : p ∈ ps := by
  obtain ⟨u, hu, e⟩ := List.mem_map.mp h
  rw [← pkey_inj e]
  exact hu
theorem getP {ps : List Pr} {i : Nat} {q : Pr} (h : ps[i]? = some q) : (ps.map pkey)[i]? = some (pkey q) := by
  rw [List.getElem?_map, h]
  rfl
theorem pairTup {K : PySem.W.Frag} {H : Hp} {p : Pr} {q : Addr} (h : KeyAt K H (pkey p) q) : SqT K H q [.int p.1, .int p.2] := keyTup h
theorem pairKey {K : PySem.W.Frag} {H : Hp} {p : Pr} {q : Addr} (h : SqT K H q [.int p.1, .int p.2]) : KeyAt K H (pkey p) q := tupKey (q := [p.1, p.2]) h
structure WAt (H : Hp) (O : Addr) (was : List Addr) (wds : List (List Nat)) : Prop where
  len : was.length = wds.length
  at_ : ∀ (i : Nat) (a : Addr) (w : List Nat), was[i]? = some a → wds[i]? = some w → a ≠ O ∧ H a = some (.lst (natV w))
theorem WAt.ext {H H' : Hp} {O : Addr} {was : List Addr} {wds : List (List Nat)} (s : Same H H') (h : WAt H O was wds) : WAt H' O was wds := ⟨h.len, fun i a w e1 e2 => ⟨(h.at_ i a w e1 e2).1, s _ _ (h.at_ i a w e1 e2).2⟩⟩
theorem WAt.order {H : Hp} {O : Addr} {was : List Addr} {wds : List (List Nat)} {o : HO} (h : WAt H O was wds) : WAt (upd H O o) O was wds := ⟨h.len, fun i a w e1 e2 => ⟨(h.at_ i a w e1 e2).1, (upd_ne (h.at_ i a w e1 e2).1).trans (h.at_ i a w e1 e2).2⟩⟩
theorem WAt.other {H : Hp} {O R : Addr} {was : List Addr} {wds : List (List Nat)} {o o0 : HO} (h : WAt H O was wds) (hR : H R = some o0) (hn : ∀ xs, o0 ≠ .lst xs) : WAt (upd H R o) O was wds := ⟨h.len, fun i a w e1 e2 => ⟨(h.at_ i a w e1 e2).1, (upd_ne (fun z => by
  have := (h.at_ i a w e1 e2).2
  rw [z, hR] at this
  exact hn _ (Option.some.inj this))).trans (h.at_ i a w e1 e2).2⟩⟩
theorem WAt.snoc {H : Hp} {O a : Addr} {was : List Addr} {wds : List (List Nat)} {w : List Nat} (h : WAt H O was wds) (ha : a ≠ O) (e : H a = some (.lst (natV w))) : WAt H O (was ++ [a]) (wds ++ [w]) := by
  refine ⟨by rw [List.length_append, List.length_append, h.len]; rfl, fun i a' w' e1 e2 => ?_⟩
  have hl := h.len
  rcases snoc_at e1 with ⟨l1, e1⟩ | ⟨l1, e1⟩
  · rcases snoc_at e2 with ⟨l2, e2⟩ | ⟨l2, e2⟩
    · exact h.at_ i a' w' e1 e2
    · omega
  · rcases snoc_at e2 with ⟨l2, e2⟩ | ⟨l2, e2⟩
    · omega
    · subst e1 e2
      exact ⟨ha, e⟩
def spDif (K : PySem.W.Frag) (CS : Addr) : Sp := fun vs H Q E => ∃ (a a' : Addr) (M N : Mach), vs = [.ref a, .ref a'] ∧ MachAt K H a M ∧ MachAt K H a' N ∧ M.Ok ∧ N.Ok ∧ M.k = N.k ∧ M.k ≤ 1000 ∧ (M.rows.length + 1) * (N.rows.length + 1) ≤ 400 ∧
  (M.L = N.L → ∀ H', Same H H' → E (.ref CS) none H') ∧
  ∀ H' p u ws, Same H H' → H' p = some (.tup [.ref u, .bl (M.L ws)]) → H' u = some (.lst (natV ws)) → M.L ws ≠ N.L ws → Q (.ref p) H'
/-- an own error's class: what the written part tells -/
structure ErrC (K : PySem.W.Frag) (mg : Str → Option Value) (x : Str) (C : Addr) : Prop where
  g : mg x = some (.ref C)
  x : PySem.W.excIn K C He.veBase "ValueError.__new__" = true
  k : PySem.W.keepIn K (.ref C) = true
  b : PySem.W.subIn K (.ref C) (.type "BaseException") = some true
  t : PySem.W.typeIn K (.ref C) = some (.type "type")
section
variable {P : Program} {w : World} {K : PySem.W.Frag} {mg : Str → Option Value} {base : Heap} {f fC fF fN fA CS : Addr} {fd fdC fdF fdN fdA : FuncData}
theorem ok_dif (F : Fun K "difference" "difference" sDif f fd) (ES : ErrC K mg "Same" CS)
    (GC : FnOk P w K mg base CX0 1 fC fdC ["first", "second"] (spChk K)) (kC : PySem.W.keepIn K (.ref fC) = true) (bC : Binds K fdC ["first", "second"] []) (mC : mg "check_letters" = some (.ref fC))
    (GF : FnOk P w K mg base CX0 1 fF fdF ["machine"] (spFst K)) (kF : PySem.W.keepIn K (.ref fF) = true) (bF : Binds K fdF ["machine"] []) (mF : mg "first_state" = some (.ref fF))
    (GN : FnOk P w K mg base CX0 1 fN fdN ["machine", "state", "letter"] (spNxt K)) (kN : PySem.W.keepIn K (.ref fN) = true) (bN : Binds K fdN ["machine", "state", "letter"] []) (mN : mg "next_state" = some (.ref fN))
    (GA : FnOk P w K mg base CX0 1 fA fdA ["machine", "state"] (spAcc K)) (kA : PySem.W.keepIn K (.ref fA) = true) (bA : Binds K fdA ["machine", "state"] []) (mA : mg "is_accepting" = some (.ref fA))
    (mr : mg "range" = none) (ml : mg "len" = none) :
    FnOk P w K mg base (L2.CX P w) 2 f fd ["first", "second"] (spDif K CS) := by
  refine F.okX scDif (fun vs H Q E h => ?_) (fun cdv A outer s H vs Q E hr h => ?_)
  · obtain ⟨a, a', M, N, rfl, _⟩ := h
    rfl
  · obtain ⟨a, a', M, N, rfl, hM, hN, o, o', hk, hk1, hsz, qE, q⟩ := h
    have nd := scDif.nd
    have hu := hu16 hr
    refine ⟨_, pss_cons (ps_expr (pe_call GC hr (by rfl) mC kC bC .nil pass0 (pa_cons (pv 0) (pa_cons (pv 1) pa_nil))))
      (pss_cons (ps_set (i := 2) nd rfl (Or.inl rfl) (pe_tup (pa_cons (pe_call GF hr (by rfl) mF kF bF .nil pass0 (pa_cons (pv 0) pa_nil)) (pa_cons (pe_call GF hr (by rfl) mF kF bF .nil pass0 (pa_cons (pv 1) pa_nil)) pa_nil))))
      (pss_cons (ps_set (i := 3) nd rfl (Or.inl rfl) (pe_kOneX P w K (hu := hu) (hk := pv 2) (hv := pe_lst pa_nil)))
      (pss_cons (ps_set (i := 4) nd rfl (Or.inl rfl) (pe_lst (pa_cons (pv 2) pa_nil)))
      (pss_cons (ps_set (i := 5) nd rfl (Or.inl rfl) pe_int)
      (pss_cons (ps_while (passes_of rfl) (pt_cmpR op_lt (pv 5) (pe_callB call_len_seq (by rfl) ml PySem.boot_len (pa_cons (pv 4) pa_nil)) (nomark _))
        (pss_cons (ps_set (i := 6) nd rfl (Or.inl rfl) (pe_ix ix_list (pv 4) (pv 5) (fun _ _ => rfl)))
        (pss_cons (ps_if (pt_cmpR op_ne (pe_call GA hr (by rfl) mA kA bA .nil pass0 (pa_cons (pv 0) (pa_cons (pe_ix ix_tup (pv 6) pe_int (fun _ _ => rfl)) pa_nil))) (pe_call GA hr (by rfl) mA kA bA .nil pass0 (pa_cons (pv 1) (pa_cons (pe_ix ix_tup (pv 6) pe_int (fun _ _ => rfl)) pa_nil))) (nomark _))
            (pss_one (ps_ret (pe_tup (pa_cons (pe_kgetX P w K (hu := hu) (ho := pv 3) (hi := pv 6) (hs := fun _ _ => rfl)) (pa_cons (pe_call GA hr (by rfl) mA kA bA .nil pass0 (pa_cons (pv 0) (pa_cons (pe_ix ix_tup (pv 6) pe_int (fun _ _ => rfl)) pa_nil))) pa_nil))))) pss_nil)
        (pss_cons (ps_for (passes_of rfl) rfl (pi_range1 (by rfl) mr (pa_cons (pe_ix ix_tup (pv 0) pe_int (fun _ _ => rfl)) pa_nil)) (pg_name (i := 7) nd rfl (Or.inl rfl))
          (pss_cons (ps_set (i := 8) nd rfl (Or.inl rfl) (pe_tup (pa_cons (pe_call GN hr (by rfl) mN kN bN .nil pass0 (pa_cons (pv 0) (pa_cons (pe_ix ix_tup (pv 6) pe_int (fun _ _ => rfl)) (pa_cons (pv 7) pa_nil)))) (pa_cons (pe_call GN hr (by rfl) mN kN bN .nil pass0 (pa_cons (pv 1) (pa_cons (pe_ix ix_tup (pv 6) pe_int (fun _ _ => rfl)) (pa_cons (pv 7) pa_nil)))) pa_nil))))
          (pss_one (ps_if (pt_cmpR (op_kNotInX P w K (hu := hu)) (pv 8) (pv 3) (by rfl))
            (pss_cons (ps_asg (pe_op op_cat (pe_kgetX P w K (hu := hu) (ho := pv 3) (hi := pv 6) (hs := fun _ _ => rfl)) (pe_lst (pa_cons (pv 7) pa_nil))) (pg_sub (pv 3) (pv 8) (set_kX P w K (hu := hu))))
              (pss_one (ps_expr (pe_bm PySem.F.plainAttrs_list PySem.F.slot_list_append PySem.F.type_list_append mt_append (pv 4) (pa_cons (pv 8) pa_nil))))) pss_nil))))
        (pss_one (ps_aug (i := 5) nd rfl (Or.inl rfl) pe_int ip_add))))))
      (pss_one (ps_raise rfl (takes_of rfl rfl rfl rfl) (pmk_own PySem.F.excBase_ValueError ES.x ES.g ES.k (raises_own ES.b ES.t) (by exact rfl))))))))), ?_⟩
    obtain ⟨bM, cM, raM, hm⟩ := id hM
    refine ⟨_, rfl, _, rfl, a, a', M, N, rfl, hM, hN, hk, ?_⟩
    refine ⟨_, rfl, a, M, rfl, hM, _, rfl, a', N, rfl, hN, by show 2 ≤ sizeLine; decide, fun T0 nT0 => ?_⟩
    have s1 : Same H (upd H T0 (.tup [V.int M.init, V.int N.init])) := same_upd nT0
    have eT1 : (upd H T0 (.tup [V.int M.init, V.int N.init])) T0 = some (.tup [V.int M.init, V.int N.init]) := upd_same
    generalize upd H T0 (.tup [V.int M.init, V.int N.init]) = H1 at s1 eT1 ⊢
    -- words = {start: []}
    intro Wd nW
    refine ⟨_, rfl, Nat.zero_le _, fun w0 nw0 => ?_⟩
    have eWw : Wd ≠ w0 := ne_of_none upd_same nw0
    refine ⟨(upd_ne eWw).trans upd_same, T0, pkey (M.init, N.init), rfl, pairKey (Same.tup ((same_upd nW).trans (same_upd nw0)) (SqT.of eT1)), ?_⟩
    have nw00 := (s1.trans (same_upd nW)).free nw0
    have nW0 := s1.free nW
    have s2 : Same H1 (upd (upd (upd H1 Wd (KD P w Wd [] [] [])) w0 (.lst [])) Wd (KD P w Wd [pkey (M.init, N.init)] [T0] [.ref w0])) := same_in nW (same_in ((same_upd nW).free nw0) (same_upd nW))
    have eW2 : (upd (upd (upd H1 Wd (KD P w Wd [] [] [])) w0 (.lst [])) Wd (KD P w Wd [pkey (M.init, N.init)] [T0] [.ref w0])) Wd = some (KD P w Wd [pkey (M.init, N.init)] [T0] [.ref w0]) := upd_same
    have ew2 : (upd (upd (upd H1 Wd (KD P w Wd [] [] [])) w0 (.lst [])) Wd (KD P w Wd [pkey (M.init, N.init)] [T0] [.ref w0])) w0 = some (.lst []) := (upd_ne (Ne.symm eWw)).trans upd_same
    generalize upd (upd (upd H1 Wd (KD P w Wd [] [] [])) w0 (.lst [])) Wd (KD P w Wd [pkey (M.init, N.init)] [T0] [.ref w0]) = H2 at s2 eW2 ew2 ⊢
    -- order = [start]
    refine ⟨_, rfl, by show 1 ≤ sizeLine; decide, fun O nO => ?_⟩
    have s3 : Same H2 (upd H2 O (.lst [V.ref T0])) := same_upd nO
    have eO3 : (upd H2 O (.lst [V.ref T0])) O = some (.lst [V.ref T0]) := upd_same
    have s02 := s1.trans s2
    have nO0 := s02.free nO
    have eWO : Wd ≠ O := ne_of_none eW2 nO
    have ewO : w0 ≠ O := ne_of_none ew2 nO
    have eW3 := s3 _ _ eW2
    have ew3 := s3 _ _ ew2
    have s03 := s02.trans s3
    have kk3 : KeysAt K (upd H2 O (.lst [V.ref T0])) ([(M.init, N.init)].map pkey) [T0] := KeysAt.nil.snoc (pairKey (Same.tup (s2.trans s3) (SqT.of eT1)))
    generalize upd H2 O (.lst [V.ref T0]) = H3 at s3 eO3 eW3 ew3 s03 kk3 ⊢
    clear s1 s2 s3 eT1 eW2 ew2 nw0 nO
    generalize hmx : (M.rows.length + 1) * (N.rows.length + 1) = mx at hsz
    -- while at < len(order)
    refine ⟨fun m σ H' => ∃ ps qs was wds x6 x7 x8, ∃ i : Nat, σ = [some (.ref a), some (.ref a'), some (.ref T0), some (.ref Wd), some (.ref O), some (.int (i : Int)), x6, x7, x8] ∧ Same H H' ∧ H' Wd = some (KD P w Wd (ps.map pkey) qs (was.map V.ref)) ∧ KeysAt K H' (ps.map pkey) qs ∧
        H' O = some (.lst (qs.map V.ref)) ∧ WAt H' O was wds ∧ wds.length = ps.length ∧ (∀ (j : Nat) (p : Pr) (wd : List Nat), ps[j]? = some p → wds[j]? = some wd → M.run M.init wd = p.1 ∧ N.run N.init wd = p.2 ∧ wd.length ≤ j) ∧ PB M N ps i 0 ∧ (∀ (j : Nat) (p : Pr), j < i → ps[j]? = some p → M.fin p.1 = N.fin p.2) ∧ m + i = mx + 1 ∧ i ≤ ps.length,
      ⟨mx + 1, [(M.init, N.init)], [T0], [w0], [[]], none, none, none, 0, rfl, s03, eW3, kk3, eO3, ⟨rfl, fun i a w e1 e2 => ?_⟩, rfl, fun j p wd e1 e2 => ?_, PB.start, fun j p h => by omega, rfl, Nat.zero_le _⟩, fun m σ H4 hW => ?_⟩
    · have l1 := (List.getElem?_eq_some_iff.mp e1).1
      have hi : i = 0 := by simp at l1; omega
      subst hi
      have a1 := Option.some.inj e1
      have a2 := Option.some.inj e2
      subst a1 a2
      exact ⟨ewO, ew3⟩
    · have l1 := (List.getElem?_eq_some_iff.mp e1).1
      have hi : j = 0 := by simp at l1; omega
      subst hi
      have a1 := Option.some.inj e1
      have a2 := Option.some.inj e2
      subst a1 a2
      exact ⟨rfl, rfl, Nat.le_refl _⟩
    obtain ⟨ps, qs, was, wds, x6, x7, x8, i, rfl, s4, eW4, kk4, eO4, wa4, wl, wr, pb, ag, em, hile⟩ := hW
    have hql : qs.length = ps.length := by rw [← kk4.1, List.length_map]
    have hqm : (qs.map V.ref).length = ps.length := by rw [List.length_map, hql]
    have hpm : ps.length ≤ mx := by rw [← hmx]; exact pb.len o o'
    refine ⟨_, rfl, _, rfl, O, _, rfl, .inl (SqL.of eO4), _, _, rfl, rfl, _, rfl, ite2 (fun e => ?_) (fun e => ?_)⟩
    · have e1 := of_decide_eq_true e
      have hlt : i < ps.length := by omega
      refine ⟨fun σ' H' => ∃ m', m' < m ∧ ∃ ps qs was wds x6 x7 x8, ∃ i : Nat, σ' = [some (.ref a), some (.ref a'), some (.ref T0), some (.ref Wd), some (.ref O), some (.int (i : Int)), x6, x7, x8] ∧ Same H H' ∧ H' Wd = some (KD P w Wd (ps.map pkey) qs (was.map V.ref)) ∧ KeysAt K H' (ps.map pkey) qs ∧
        H' O = some (.lst (qs.map V.ref)) ∧ WAt H' O was wds ∧ wds.length = ps.length ∧ (∀ (j : Nat) (p : Pr) (wd : List Nat), ps[j]? = some p → wds[j]? = some wd → M.run M.init wd = p.1 ∧ N.run N.init wd = p.2 ∧ wd.length ≤ j) ∧ PB M N ps i 0 ∧ (∀ (j : Nat) (p : Pr), j < i → ps[j]? = some p → M.fin p.1 = N.fin p.2) ∧ m' + i = mx + 1 ∧ i ≤ ps.length, fun _ _ z => z, ?_⟩
      obtain ⟨p, ep⟩ := getE hlt
      obtain ⟨l, r⟩ := p
      obtain ⟨pq, epq⟩ := getE (l := qs) (i := i) (by omega)
      obtain ⟨wd, ewd⟩ := getE (l := wds) (i := i) (by omega)
      obtain ⟨wa, ewa⟩ := getE (l := was) (i := i) (by rw [wa4.len]; omega)
      have hpq := pairTup (kk4.2 i _ _ (getP ep) epq)
      obtain ⟨rl, rr⟩ := pb.rng o o' _ (List.mem_of_getElem? ep)
      obtain ⟨run1, run2, hwdl⟩ := wr i _ _ ep ewd
      have run1 : M.run M.init wd = l := run1
      have run2 : N.run N.init wd = r := run2
      have rl : -1 ≤ l ∧ l < (M.rows.length : Int) := rl
      have rr : -1 ≤ r ∧ r < (N.rows.length : Int) := rr
      have hpq : SqT K H4 pq [.int l, .int r] := hpq
      have hM4 := hM.same s4
      have hN4 := hN.same s4
      refine ⟨_, rfl, _, rfl, O, _, _, .ref pq, rfl, rfl, SqL.of eO4, atT rfl (getI epq), ?_⟩
      refine ⟨_, rfl, _, rfl, pq, _, 0, _, rfl, rfl, hpq, rfl, a, M, l, rfl, hM4, o, rl.2, _, rfl, _, rfl, pq, _, 1, _, rfl, rfl, hpq, rfl, a', N, r, rfl, hN4, o', rr.2, rfl, _, rfl, ite2 (fun e => ?_) (fun e => ?_)⟩
      · have hne : M.fin l ≠ N.fin r := fun z => by
          rw [z] at e
          simp at e
        refine ⟨_, rfl, _, rfl, Wd, _, _, _, pq, pkey (l, r), i, .ref wa, rfl, rfl, eW4, kk4, pairKey hpq, getP ep, getI ewa, _, rfl, _, rfl, pq, _, 0, _, rfl, rfl, hpq, rfl, a, M, l, rfl, hM4, o, rl.2, by show 2 ≤ sizeLine; decide, fun Tn nT => ?_⟩
        have s5 := same_upd (o := .tup [V.ref wa, V.bl (M.fin l)]) nT
        have f1 : M.L wd = M.fin l := by rw [← run1]; exact lang_fin _ _
        have f2 : N.L wd = N.fin r := by rw [← run2]; exact lang_fin _ _
        exact q _ Tn wa wd (s4.trans s5) (by rw [f1]; exact upd_same) (s5 _ _ (wa4.at_ i wa wd ewa ewd).2) (by rw [f1, f2]; exact hne)
      · have heq : M.fin l = N.fin r := Classical.byContradiction fun z => e (by
          rw [decide_eq_false (fun y => z (V.bl.inj y))]
          rfl)
        have ag2 : ∀ (j : Nat) (p : Pr), j < i + 1 → ps[j]? = some p → M.fin p.1 = N.fin p.2 := fun j p hj hjp => by
          by_cases z : j < i
          · exact ag j p z hjp
          · have ej : j = i := by omega
            rw [ej, ep] at hjp
            have e2 := Option.some.inj hjp
            rw [← e2]
            exact heq
        refine ⟨_, rfl, a, _, 0, _, rfl, rfl, (hm.same s4).t, rfl, _, rfl, by omega, by omega, ?_⟩
        refine for_range (lo := 0) (n := ((M.k : Nat) : Int).toNat) (fun bb σ H' => ∃ ps qs was wds x7 x8, σ = [some (.ref a), some (.ref a'), some (.ref T0), some (.ref Wd), some (.ref O), some (.int (i : Int)), some (.ref pq), x7, x8] ∧ Same H H' ∧ H' Wd = some (KD P w Wd (ps.map pkey) qs (was.map V.ref)) ∧ KeysAt K H' (ps.map pkey) qs ∧
            H' O = some (.lst (qs.map V.ref)) ∧ WAt H' O was wds ∧ wds.length = ps.length ∧ (∀ (j : Nat) (p : Pr) (wd : List Nat), ps[j]? = some p → wds[j]? = some wd → M.run M.init wd = p.1 ∧ N.run N.init wd = p.2 ∧ wd.length ≤ j) ∧ PB M N ps i bb ∧ (∀ (j : Nat) (p : Pr), j < i + 1 → ps[j]? = some p → M.fin p.1 = N.fin p.2) ∧ ps[i]? = some (l, r) ∧ qs[i]? = some pq)
          ⟨ps, qs, was, wds, x7, x8, rfl, s4, eW4, kk4, eO4, wa4, wl, wr, pb, ag2, ep, epq⟩ ?_ ?_
        · rintro bb σ H5 hbb ⟨ps, qs, was, wds, x7, x8, rfl, s5, eW5, kk5, eO5, wa5, wl, wr, pb, ag, ep, epq⟩
          have hbk : bb < M.k := by omega
          rw [Int.zero_add]
          have hpm : ps.length ≤ mx := by rw [← hmx]; exact pb.len o o'
          have hil := (List.getElem?_eq_some_iff.mp ep).1
          have hql : qs.length = ps.length := by rw [← kk5.1, List.length_map]
          obtain ⟨wd, ewd⟩ := getE (l := wds) (i := i) (by omega)
          obtain ⟨wa, ewa⟩ := getE (l := was) (i := i) (by rw [wa5.len]; omega)
          have hpq5 : SqT K H5 pq [.int l, .int r] := pairTup (kk5.2 i _ _ (getP ep) epq)
          obtain ⟨run1, run2, hwdl⟩ := wr i _ _ ep ewd
          refine ⟨_, rfl, _, rfl, pq, _, 0, _, rfl, rfl, hpq5, rfl, _, rfl, a, M, l, bb, rfl, hM.same s5, o, rl.2, hbk, _, rfl, _, rfl, pq, _, 1, _, rfl, rfl, hpq5, rfl, _, rfl, a', N, r, bb, rfl, hN.same s5, o', rr.2, by omega, by show 2 ≤ sizeLine; decide, fun T nT => ?_⟩
          have s6 : Same H5 (upd H5 T (.tup [V.int (M.nxt l bb), V.int (N.nxt r bb)])) := same_upd nT
          have eT : (upd H5 T (.tup [V.int (M.nxt l bb), V.int (N.nxt r bb)])) T = some (.tup [V.int (M.nxt l bb), V.int (N.nxt r bb)]) := upd_same
          have s06 := s5.trans s6
          have eW6 := s6 _ _ eW5
          have eO6 := s6 _ _ eO5
          have kk6 := kk5.ext (Ext.of s6)
          have wa6 := wa5.ext s6
          have hpq6 := Same.tup s6 hpq5
          generalize upd H5 T (.tup [V.int (M.nxt l bb), V.int (N.nxt r bb)]) = H6 at s6 eT s06 eW6 eO6 kk6 wa6 hpq6 ⊢
          clear s6 s5 eW5 eO5 kk5 wa5 hpq5 nT
          have hTk : KeyAt K H6 (pkey (pnx M N (l, r) bb)) T := pairKey (SqT.of eT)
          refine ⟨_, rfl, _, rfl, Wd, _, _, _, T, pkey (pnx M N (l, r) bb), rfl, rfl, eW6, kk6, hTk, _, rfl, ?_⟩
          by_cases hm : pnx M N (l, r) bb ∈ ps
          · have hm2 : pkey (pnx M N (l, r) bb) ∈ ps.map pkey := List.mem_map.mpr ⟨_, hm, rfl⟩
            refine ite2 (fun e => ?_) (fun _ => ?_)
            · rw [if_pos rfl, decide_eq_true hm2] at e
              cases e
            exact ⟨ps, qs, was, wds, _, _, rfl, s06, eW6, kk6, eO6, wa6, wl, wr, pb.old ep hm, ag, ep, epq⟩
          · have hm2 : pkey (pnx M N (l, r) bb) ∉ ps.map pkey := fun z => hm (pkey_mem z)
            refine ite2 (fun _ => ?_) (fun e => ?_)
            rotate_left
            · rw [if_pos rfl, decide_eq_false hm2] at e
              exact absurd rfl e
            have pb2 := pb.new ep hm
            have hpm2 : (ps ++ [pnx M N (l, r) bb]).length ≤ mx := by rw [← hmx]; exact pb2.len o o'
            rw [List.length_append, List.length_singleton] at hpm2
            -- words[other] = words[pair] + [letter]
            refine ⟨_, rfl, _, rfl, Wd, _, _, _, pq, pkey (l, r), i, .ref wa, rfl, rfl, eW6, kk6, pairKey hpq6, getP ep, getI ewa, _, rfl, by show 1 ≤ sizeLine; decide, fun Z nZ => ?_⟩
            have s7 : Same H6 (upd H6 Z (.lst [V.int (bb : Int)])) := same_upd nZ
            refine ⟨wa, Z, _, _, rfl, rfl, s7 _ _ (wa6.at_ i wa wd ewa ewd).2, upd_same, ?_, fun wn nwn => ?_⟩
            · show (natV wd).length + 1 ≤ sizeLine
              rw [List.length_map]
              exact Nat.le_of_lt (small1000 (by omega))
            rw [natV_snoc]
            have s8 : Same H6 (upd (upd H6 Z (.lst [V.int (bb : Int)])) wn (.lst (natV (wd ++ [bb])))) := s7.trans (same_upd nwn)
            have ewn : (upd (upd H6 Z (.lst [V.int (bb : Int)])) wn (.lst (natV (wd ++ [bb])))) wn = some (.lst (natV (wd ++ [bb]))) := upd_same
            have ewnO : wn ≠ O := fun z => by
              rw [z, s7 _ _ eO6] at nwn
              cases nwn
            have s08 := s06.trans s8
            have eW8 := s8 _ _ eW6
            have eO8 := s8 _ _ eO6
            have kk8 := kk6.ext (Ext.of s8)
            have wa8 := (wa6.ext s8).snoc ewnO ewn
            have hTk8 := hTk.ext (Ext.of s8)
            generalize upd (upd H6 Z (.lst [V.int (bb : Int)])) wn (.lst (natV (wd ++ [bb]))) = H8 at s8 ewn s08 eW8 eO8 kk8 wa8 hTk8 ⊢
            clear s8 s7 s06 eW6 eO6 kk6 wa6 hTk nwn nZ
            refine ⟨_, rfl, _, rfl, Wd, _, _, _, T, pkey (pnx M N (l, r) bb), rfl, rfl, eW8, kk8, hTk8, by rw [List.length_map]; exact small1000 (by omega), hm2, ?_⟩
            have eKs : ps.map pkey ++ [pkey (pnx M N (l, r) bb)] = (ps ++ [pnx M N (l, r) bb]).map pkey := by rw [List.map_append]; rfl
            have eVs : was.map V.ref ++ [V.ref wn] = (was ++ [wn]).map V.ref := refV_snoc _ _
            rw [eKs, eVs]
            have kk9 : KeysAt K (upd H8 Wd (KD P w Wd ((ps ++ [pnx M N (l, r) bb]).map pkey) (qs ++ [T]) ((was ++ [wn]).map V.ref))) ((ps ++ [pnx M N (l, r) bb]).map pkey) (qs ++ [T]) := by
              rw [← eKs]
              exact (kk8.snoc hTk8).upd eW8 kd_tup kd_frz
            have s09 : Same H (upd H8 Wd (KD P w Wd ((ps ++ [pnx M N (l, r) bb]).map pkey) (qs ++ [T]) ((was ++ [wn]).map V.ref))) := same_in nW0 s08
            have eW9 : (upd H8 Wd (KD P w Wd ((ps ++ [pnx M N (l, r) bb]).map pkey) (qs ++ [T]) ((was ++ [wn]).map V.ref))) Wd = _ := upd_same
            have eO9 : (upd H8 Wd (KD P w Wd ((ps ++ [pnx M N (l, r) bb]).map pkey) (qs ++ [T]) ((was ++ [wn]).map V.ref))) O = _ := (upd_ne (Ne.symm eWO)).trans eO8
            have wa9 := wa8.other (o := KD P w Wd ((ps ++ [pnx M N (l, r) bb]).map pkey) (qs ++ [T]) ((was ++ [wn]).map V.ref)) eW8 kd_lst
            generalize upd H8 Wd (KD P w Wd ((ps ++ [pnx M N (l, r) bb]).map pkey) (qs ++ [T]) ((was ++ [wn]).map V.ref)) = H9 at kk9 s09 eW9 eO9 wa9 ⊢
            refine ⟨_, rfl, .inl ⟨rfl, _, SqL.of eO9⟩, _, rfl, O, _, _, rfl, rfl, eO9, by rw [List.length_map, hql]; exact small1000 (by omega), ?_⟩
            rw [refV_snoc]
            refine ⟨ps ++ [pnx M N (l, r) bb], qs ++ [T], was ++ [wn], wds ++ [wd ++ [bb]], _, _, rfl, same_in nO0 s09, (upd_ne eWO).trans eW9, kk9.upd eO9 lst_tup lst_frz, upd_same, wa9.order, by rw [List.length_append, List.length_append, wl]; rfl, fun j p wd2 e1 e2 => ?_, pb2, fun j p hj e1 => ?_, ?_, ?_⟩
            · rcases snoc_at e1 with ⟨l1, e1⟩ | ⟨l1, e1⟩
              · rcases snoc_at e2 with ⟨l2, e2⟩ | ⟨l2, e2⟩
                · exact wr j p wd2 e1 e2
                · omega
              · rcases snoc_at e2 with ⟨l2, e2⟩ | ⟨l2, e2⟩
                · omega
                · subst e1 e2
                  refine ⟨?_, ?_, ?_⟩
                  · rw [run_app, run1]
                    rfl
                  · rw [run_app, run2]
                    rfl
                  · rw [List.length_append, List.length_singleton]
                    omega
            · rw [List.getElem?_append_left (by omega)] at e1
              exact ag j p hj e1
            · rw [List.getElem?_append_left hil]
              exact ep
            · rw [List.getElem?_append_left (by omega)]
              exact epq
        · rintro σ H5 ⟨ps, qs, was, wds, x7, x8, rfl, s5, eW5, kk5, eO5, wa5, wl, wr, pb, ag, ep, epq⟩
          have hil := (List.getElem?_eq_some_iff.mp ep).1
          exact ⟨_, rfl, _, _, rfl, rfl, m - 1, by omega, ps, qs, was, wds, _, _, _, i + 1, rfl, s5, eW5, kk5, eO5, wa5, wl, wr, pb.next (by omega), ag, by omega, hil⟩
    · have e1 : ¬ (i : Int) < (((qs.map V.ref).length : Nat) : Int) := fun z => e (decide_eq_true z)
      have hL : M.L = N.L := pb.same o o' hk (by omega) fun p hp => by
        obtain ⟨j, hj⟩ := List.mem_iff_getElem?.mp hp
        exact ag j p (by have := (List.getElem?_eq_some_iff.mp hj).1; omega) hj
      exact qE hL _ s4
end
end Dg
end

section
set_option maxHeartbeats 4000000
/-! Pairs of ints compared; lists of them. -/
namespace Dg
open PySem PySem.Spec PyProof.Rows L2
def PlT (p q : Pr) : Prop := p.1 < q.1 ∨ p.1 = q.1 ∧ p.2 < q.2
theorem eqv_pair (a b c d : Int) : PyData.eqv (.tuple [.int a, .int b]) (.tuple [.int c, .int d]) = decide (((a, b) : Pr) = (c, d)) := by
  have e : PyData.eqv (.tuple [.int a, .int b]) (.tuple [.int c, .int d]) = ((a == c) && ((b == d) && true)) := by simp [PyData.eqv, PyData.eqvAll]
  rw [e, Bool.and_true]
  by_cases h1 : a = c
  · by_cases h2 : b = d
    · rw [decide_eq_true (by rw [h1, h2]), beq_iff_eq.mpr h1, beq_iff_eq.mpr h2]
      rfl
    · rw [decide_eq_false (fun z => h2 (Prod.ext_iff.mp z).2), beq_eq_false_iff_ne.mpr h2, Bool.and_false]
  · rw [decide_eq_false (fun z => h1 (Prod.ext_iff.mp z).1), beq_eq_false_iff_ne.mpr h1, Bool.false_and]
section
variable {X : Cx} (K : PySem.W.Frag) (hK : X.K = K := by rfl)
def rNeP (K : PySem.W.Frag) : R2 := fun x y H Q => ∃ (a b : Addr) (p q : Pr), x = .ref a ∧ y = .ref b ∧ SqT K H a [.int p.1, .int p.2] ∧ SqT K H b [.int q.1, .int q.2] ∧ Q (.bl (!decide (p = q))) H
def rEqP (K : PySem.W.Frag) : R2 := fun x y H Q => ∃ (a b : Addr) (p q : Pr), x = .ref a ∧ y = .ref b ∧ SqT K H a [.int p.1, .int p.2] ∧ SqT K H b [.int q.1, .int q.2] ∧ Q (.bl (decide (p = q))) H
def rGeP (K : PySem.W.Frag) : R2 := fun x y H Q => ∃ (a b : Addr) (p q : Pr), x = .ref a ∧ y = .ref b ∧ SqT K H a [.int p.1, .int p.2] ∧ SqT K H b [.int q.1, .int q.2] ∧ PlT p q ∧ Q (.bl false) H
theorem dp_pair {K : PySem.W.Frag} {H : Hp} {a : Addr} {i j : Int} (h : SqT K H a [.int i, .int j]) : Dp K H (.ref a) (.tuple [.int i, .int j]) := .tup h (.cons (.int i) (.cons (.int j) .nil))
include hK in
theorem op_neP (hu : X.A.units + 64 < cLine) : OpR X (compareOp .NotEq) (rNeP K) := by
  subst hK
  intro pins s σ H x y v u Q I rx ry h
  obtain ⟨a, b, p, q, e1, e2, ha, hb, hQ⟩ := h
  refine op_neD hu pins s σ H x y v u Q I rx ry ⟨_, _, by rw [e1]; exact dp_pair ha, by rw [e2]; exact dp_pair hb, by rfl, by rfl, ?_⟩
  rw [eqv_pair]
  exact hQ
include hK in
theorem op_eqP (hu : X.A.units + 64 < cLine) : OpR X (compareOp .Eq) (rEqP K) := by
  subst hK
  intro pins s σ H x y v u Q I rx ry h
  obtain ⟨a, b, p, q, e1, e2, ha, hb, hQ⟩ := h
  refine op_eqD hu pins s σ H x y v u Q I rx ry ⟨_, _, by rw [e1]; exact dp_pair ha, by rw [e2]; exact dp_pair hb, by rfl, by rfl, ?_⟩
  rw [eqv_pair]
  exact hQ
include hK in
theorem op_geP (hu : X.A.units < cLine) : OpR X (compareOp .GtE) (rGeP K) := by
  subst hK
  intro pins s σ H x y v u Q I rx ry h
  obtain ⟨a, b, p, q, rfl, rfl, ha, hb, hlt, hQ⟩ := h
  cases rx
  cases ry
  obtain ⟨its, r1, p1, _⟩ := I.tuple ha
  obtain ⟨its2, r2, p2, _⟩ := I.tuple hb
  obtain ⟨u1, u2, rfl, ra, rb⟩ := vals2 r1
  obtain ⟨w1, w2, rfl, rc, rd⟩ := vals2 r2
  obtain ⟨t1, rfl⟩ := ra
  obtain ⟨t2, rfl⟩ := rb
  obtain ⟨t3, rfl⟩ := rc
  obtain ⟨t4, rfl⟩ := rd
  have R := Ob.RcOp.tuples_ge (A := X.A) (s := s) (e := fun j => decide ([p.1, p.2].getD j 0 = [q.1, q.2].getD j 0)) (r := fun j => decide ([q.1, q.2].getD j 0 ≤ [p.1, p.2].getD j 0)) p1 p2 hu (fun j h1 h2 => ?_) (fun j h1 h2 _ => ?_)
  · have hz : Ob.lexAt (fun j => decide ([p.1, p.2].getD j 0 = [q.1, q.2].getD j 0)) (fun j => decide ([q.1, q.2].getD j 0 ≤ [p.1, p.2].getD j 0)) (decide ((#[Value.int q.1 t3, Value.int q.2 t4] : Array Value).size ≤ (#[Value.int p.1 t1, Value.int p.2 t2] : Array Value).size)) 0 2 = false := by
      show (if decide (p.1 = q.1) = true then (if decide (p.2 = q.2) = true then _ else decide (q.2 ≤ p.2)) else decide (q.1 ≤ p.1)) = false
      unfold PlT at hlt
      by_cases h1 : p.1 = q.1
      · rw [if_pos (decide_eq_true h1), if_neg (fun z => by have := of_decide_eq_true z; omega)]
        exact decide_eq_false (by omega)
      · rw [if_neg (fun z => h1 (of_decide_eq_true z))]
        exact decide_eq_false (by omega)
    refine R X.prog X.w X.xe (EP X pins σ Q) ?_
    show EP X pins σ Q (.bool (Ob.lexAt _ _ _ 0 2)) s
    rw [show Ob.lexAt (fun j => decide ([p.1, p.2].getD j 0 = [q.1, q.2].getD j 0)) (fun j => decide ([q.1, q.2].getD j 0 ≤ [p.1, p.2].getD j 0)) _ 0 2 = false from hz]
    exact ⟨.bl false, H, I, rfl, hQ⟩
  · have hj : j = 0 ∨ j = 1 := by
      have h1 : j < 2 := h1
      omega
    rcases hj with rfl | rfl
    · show SeqAt.EqAt _ _ (.int p.1 t1) (.int q.1 t3) (decide (p.1 = q.1))
      have z : (p.1 == q.1) = decide (p.1 = q.1) := by
        by_cases q' : p.1 = q.1
        · rw [decide_eq_true q']; exact beq_iff_eq.mpr q'
        · rw [decide_eq_false q']; exact beq_eq_false_iff_ne.mpr q'
      rw [← z]
      exact SeqAt.EqAt.int_int _ _ _ _
    · show SeqAt.EqAt _ _ (.int p.2 t2) (.int q.2 t4) (decide (p.2 = q.2))
      have z : (p.2 == q.2) = decide (p.2 = q.2) := by
        by_cases q' : p.2 = q.2
        · rw [decide_eq_true q']; exact beq_iff_eq.mpr q'
        · rw [decide_eq_false q']; exact beq_eq_false_iff_ne.mpr q'
      rw [← z]
      exact SeqAt.EqAt.int_int _ _ _ _
  · have hj : j = 0 ∨ j = 1 := by
      have h1 : j < 2 := h1
      omega
    rcases hj with rfl | rfl
    · exact Ob.RcOp.ge_int _ _ _ _
    · exact Ob.RcOp.ge_int _ _ _ _
end
/-- the tuples at qs are the pairs ps -/
structure TAt (H : Hp) (ps : List Pr) (qs : List Addr) : Prop where
  len : qs.length = ps.length
  at_ : ∀ (i : Nat) (p : Pr) (q : Addr), ps[i]? = some p → qs[i]? = some q → H q = some (.tup [.int p.1, .int p.2])
theorem TAt.keys {K : PySem.W.Frag} {H : Hp} {ps : List Pr} {qs : List Addr} (h : TAt H ps qs) : KeysAt K H (ps.map pkey) qs := by
  refine ⟨by rw [List.length_map, h.len], fun i k q e1 e2 => ?_⟩
  rw [List.getElem?_map] at e1
  cases e : ps[i]? with
  | none => rw [e] at e1; cases e1
  | some p =>
    rw [e] at e1
    have ek := Option.some.inj e1
    rw [← ek]
    exact pairKey (SqT.of (h.at_ i p q e e2))
theorem TAt.ext {H H' : Hp} {ps : List Pr} {qs : List Addr} (s : Same H H') (h : TAt H ps qs) : TAt H' ps qs := ⟨h.len, fun i p q e1 e2 => s _ _ (h.at_ i p q e1 e2)⟩
theorem TAt.upd {H : Hp} {ps : List Pr} {qs : List Addr} {R : Addr} {o o0 : HO} (h : TAt H ps qs) (hR : H R = some o0) (h1 : ∀ xs, o0 ≠ .tup xs) : TAt (upd H R o) ps qs := ⟨h.len, fun i p q e1 e2 => (upd_ne (ne_of (h.at_ i p q e1 e2) hR (fun z => h1 _ z.symm))).trans (h.at_ i p q e1 e2)⟩
theorem TAt.snoc {H : Hp} {ps : List Pr} {qs : List Addr} {p : Pr} {q : Addr} (h : TAt H ps qs) (hq : H q = some (.tup [.int p.1, .int p.2])) : TAt H (ps ++ [p]) (qs ++ [q]) := by
  refine ⟨by rw [List.length_append, List.length_append, h.len]; rfl, fun i p' q' e1 e2 => ?_⟩
  have hl := h.len
  rcases snoc_at e1 with ⟨l1, e1⟩ | ⟨l1, e1⟩
  · rcases snoc_at e2 with ⟨l2, e2⟩ | ⟨l2, e2⟩
    · exact h.at_ i p' q' e1 e2
    · omega
  · rcases snoc_at e2 with ⟨l2, e2⟩ | ⟨l2, e2⟩
    · omega
    · subst e1 e2
      exact hq
theorem TAt.nil {H : Hp} : TAt H [] [] := ⟨rfl, fun i p q e => absurd e (by simp)⟩
abbrev nowP : Pr := (-1, -1)
/-- what a relation tells -/
structure RelOk (M N : Mach) (zs : List Pr) : Prop where
  rng : ∀ p ∈ zs, (-1 ≤ p.1 ∧ p.1 < (M.rows.length : Int)) ∧ (-1 ≤ p.2 ∧ p.2 < (N.rows.length : Int))
  now : nowP ∉ zs
  ini : (M.init, N.init) ∈ zs ∨ (M.init, N.init) = nowP
  fin : ∀ p ∈ zs, M.fin p.1 = N.fin p.2
  cls : ∀ p ∈ zs, ∀ b, b < M.k → pnx M N p b ∈ zs ∨ pnx M N p b = nowP
theorem RelOk.of {M N : Mach} {ps zs : List Pr} {i : Nat} (h : PB M N ps i 0) (hi : ps.length ≤ i) (o : M.Ok) (o' : N.Ok) (ag : ∀ p ∈ ps, M.fin p.1 = N.fin p.2) (hz : ∀ p, p ∈ zs ↔ p ∈ ps ∧ p ≠ nowP) : RelOk M N zs where
  rng := fun p hp => h.rng o o' p ((hz p).mp hp).1
  now := fun z => ((hz _).mp z).2 rfl
  ini := by
    by_cases q : (M.init, N.init) = nowP
    · exact .inr q
    · exact .inl ((hz _).mpr ⟨List.mem_of_getElem? h.zero, q⟩)
  fin := fun p hp => ag p ((hz p).mp hp).1
  cls := fun p hp b hb => by
    by_cases q : pnx M N p b = nowP
    · exact .inr q
    · exact .inl ((hz _).mpr ⟨h.closed hi p ((hz p).mp hp).1 b hb, q⟩)
end Dg
end

section
set_option maxHeartbeats 4000000
namespace Dg
open PySem PySem.Spec PyProof.Rows L2
abbrev sRel : Stmt := top 32
abbrev nRel : List Str := ["first", "second", "start", "found", "order", "at", "pair", "letter", "other"]
theorem scRel : FnScope nRel ["first", "second"] (defScope sRel) := ⟨rfl, rfl, rfl, by decide +kernel, rfl, by decide +kernel, by decide +kernel⟩
def pk (H : Hp) (x : V) : Pr := match x with
  | .ref t => (match H t with
    | some (.tup [.int i, .int j]) => (i, j)
    | _ => (0, 0))
  | _ => (0, 0)
theorem pk_at {H : Hp} {t : Addr} {p : Pr} (h : H t = some (.tup [.int p.1, .int p.2])) : pk H (.ref t) = p := by
  show (match H t with
    | some (.tup [.int i, .int j]) => ((i, j) : Pr)
    | _ => (0, 0)) = p
  rw [h]
def refOf (x : V) : Addr := match x with
  | .ref t => t
  | _ => 0
theorem refs_refOf : ∀ {ys : List V}, (∀ y ∈ ys, ∃ t, y = V.ref t) → (ys.map refOf).map V.ref = ys
  | [], _ => rfl
  | y :: ys, h => by
    obtain ⟨t, e⟩ := h y List.mem_cons_self
    rw [List.map_cons, List.map_cons, refs_refOf fun y hy => h y (List.mem_cons_of_mem _ hy), e]
    rfl
def spRel (K : PySem.W.Frag) (CA : Addr) : Sp := fun vs H Q E => ∃ (a a' : Addr) (M N : Mach), vs = [.ref a, .ref a'] ∧ MachAt K H a M ∧ MachAt K H a' N ∧ M.Ok ∧ N.Ok ∧ M.k = N.k ∧ M.k ≤ 1000 ∧ (M.rows.length + 1) * (N.rows.length + 1) ≤ 400 ∧
  (M.L ≠ N.L → ∀ H', Same H H' → E (.ref CA) none H') ∧
  (M.L = N.L → ∀ H' R zs ts, Same H H' → H' R = some (.lst (ts.map V.ref)) → TAt H' zs ts → RelOk M N zs → zs.length ≤ 400 → (∀ (i : Nat) (x y : Pr), zs[i]? = some x → zs[i + 1]? = some y → PlT x y) → zs.Nodup → Q (.ref R) H')
section
variable {P : Program} {w : World} {K : PySem.W.Frag} {mg : Str → Option Value} {base : Heap} {f fC fF fN fA CA NW : Addr} {fd fdC fdF fdN fdA : FuncData}
theorem ok_rel (F : Fun K "relation" "relation" sRel f fd) (EA : ErrC K mg "Apart" CA) (mNW : mg "NOWHERE" = some (.ref NW)) (hNW : ∀ H : Hp, SqT K H NW [.int (-1), .int (-1)])
    (GC : FnOk P w K mg base CX0 1 fC fdC ["first", "second"] (spChk K)) (kC : PySem.W.keepIn K (.ref fC) = true) (bC : Binds K fdC ["first", "second"] []) (mC : mg "check_letters" = some (.ref fC))
    (GF : FnOk P w K mg base CX0 1 fF fdF ["machine"] (spFst K)) (kF : PySem.W.keepIn K (.ref fF) = true) (bF : Binds K fdF ["machine"] []) (mF : mg "first_state" = some (.ref fF))
    (GN : FnOk P w K mg base CX0 1 fN fdN ["machine", "state", "letter"] (spNxt K)) (kN : PySem.W.keepIn K (.ref fN) = true) (bN : Binds K fdN ["machine", "state", "letter"] []) (mN : mg "next_state" = some (.ref fN))
    (GA : FnOk P w K mg base CX0 1 fA fdA ["machine", "state"] (spAcc K)) (kA : PySem.W.keepIn K (.ref fA) = true) (bA : Binds K fdA ["machine", "state"] []) (mA : mg "is_accepting" = some (.ref fA))
    (mr : mg "range" = none) (ml : mg "len" = none) (mso : mg "sorted" = none) :
    FnOk P w K mg base (L2.CX P w) 2 f fd ["first", "second"] (spRel K CA) := by
  refine F.okX scRel (fun vs H Q E h => ?_) (fun cdv A outer s H vs Q E hr h => ?_)
  · obtain ⟨a, a', M, N, rfl, _⟩ := h
    rfl
  · obtain ⟨a, a', M, N, rfl, hM, hN, o, o', hk, hk1, hsz, qE, q⟩ := h
    have nd := scRel.nd
    have hu := hu16 hr
    refine ⟨_, pss_cons (ps_expr (pe_call GC hr (by rfl) mC kC bC .nil pass0 (pa_cons (pv 0) (pa_cons (pv 1) pa_nil))))
      (pss_cons (ps_set (i := 2) nd rfl (Or.inl rfl) (pe_tup (pa_cons (pe_call GF hr (by rfl) mF kF bF .nil pass0 (pa_cons (pv 0) pa_nil)) (pa_cons (pe_call GF hr (by rfl) mF kF bF .nil pass0 (pa_cons (pv 1) pa_nil)) pa_nil))))
      (pss_cons (ps_set (i := 3) nd rfl (Or.inl rfl) (pe_kOneX P w K (hu := hu) (hk := pv 2) (hv := pe_bl)))
      (pss_cons (ps_set (i := 4) nd rfl (Or.inl rfl) (pe_lst (pa_cons (pv 2) pa_nil)))
      (pss_cons (ps_set (i := 5) nd rfl (Or.inl rfl) pe_int)
      (pss_cons (ps_while (passes_of rfl) (pt_cmpR op_lt (pv 5) (pe_callB call_len_seq (by rfl) ml PySem.boot_len (pa_cons (pv 4) pa_nil)) (nomark _))
        (pss_cons (ps_set (i := 6) nd rfl (Or.inl rfl) (pe_ix ix_list (pv 4) (pv 5) (fun _ _ => rfl)))
        (pss_cons (ps_if (pt_cmpR op_ne (pe_call GA hr (by rfl) mA kA bA .nil pass0 (pa_cons (pv 0) (pa_cons (pe_ix ix_tup (pv 6) pe_int (fun _ _ => rfl)) pa_nil))) (pe_call GA hr (by rfl) mA kA bA .nil pass0 (pa_cons (pv 1) (pa_cons (pe_ix ix_tup (pv 6) pe_int (fun _ _ => rfl)) pa_nil))) (nomark _))
            (pss_one (ps_raise rfl (takes_of rfl rfl rfl rfl) (pmk_own PySem.F.excBase_ValueError EA.x EA.g EA.k (raises_own EA.b EA.t) (by exact rfl)))) pss_nil)
        (pss_cons (ps_for (passes_of rfl) rfl (pi_range1 (by rfl) mr (pa_cons (pe_ix ix_tup (pv 0) pe_int (fun _ _ => rfl)) pa_nil)) (pg_name (i := 7) nd rfl (Or.inl rfl))
          (pss_cons (ps_set (i := 8) nd rfl (Or.inl rfl) (pe_tup (pa_cons (pe_call GN hr (by rfl) mN kN bN .nil pass0 (pa_cons (pv 0) (pa_cons (pe_ix ix_tup (pv 6) pe_int (fun _ _ => rfl)) (pa_cons (pv 7) pa_nil)))) (pa_cons (pe_call GN hr (by rfl) mN kN bN .nil pass0 (pa_cons (pv 1) (pa_cons (pe_ix ix_tup (pv 6) pe_int (fun _ _ => rfl)) (pa_cons (pv 7) pa_nil)))) pa_nil))))
          (pss_one (ps_if (pt_cmpR (op_kNotInX P w K (hu := hu)) (pv 8) (pv 3) (by rfl))
            (pss_cons (ps_asg pe_bl (pg_sub (pv 3) (pv 8) (set_kX P w K (hu := hu))))
              (pss_one (ps_expr (pe_bm PySem.F.plainAttrs_list PySem.F.slot_list_append PySem.F.type_list_append mt_append (pv 4) (pa_cons (pv 8) pa_nil))))) pss_nil))))
        (pss_one (ps_aug (i := 5) nd rfl (Or.inl rfl) pe_int ip_add))))))
      (pss_one (ps_ret (pe_callB cr_sortedPO (by rfl) mso PyProof.Rows.boot_sorted (pa_cons (pe_lc (own := [("pair", 6)]) (g := gName 6) rfl nd (pi_list (pv 4)) (blkOk_by (N := nRel) (sc := defScope sRel) (by decide +kernel))
          (fun _ _ _ _ _ => pg_name (i := 6) nd rfl (Or.inl rfl)) (fun _ _ _ _ _ => pts_one (pt_cmpR (op_neP K (hu := hr.units)) (pv 6) (pe_glob (v := .ref NW) (by rfl) mNW rfl) (nomark _))) (fun _ _ _ _ _ => pv 6)) pa_nil))))))))), ?_⟩
    obtain ⟨bM, cM, raM, hm⟩ := id hM
    refine ⟨_, rfl, _, rfl, a, a', M, N, rfl, hM, hN, hk, ?_⟩
    refine ⟨_, rfl, a, M, rfl, hM, _, rfl, a', N, rfl, hN, by show 2 ≤ sizeLine; decide, fun T0 nT0 => ?_⟩
    have s1 : Same H (upd H T0 (.tup [V.int M.init, V.int N.init])) := same_upd nT0
    have eT1 : (upd H T0 (.tup [V.int M.init, V.int N.init])) T0 = some (.tup [V.int M.init, V.int N.init]) := upd_same
    generalize upd H T0 (.tup [V.int M.init, V.int N.init]) = H1 at s1 eT1 ⊢
    -- found = {start: True}
    intro Wd nW
    refine ⟨_, rfl, upd_same, T0, pkey (M.init, N.init), rfl, pairKey (Same.tup (same_upd nW) (SqT.of eT1)), ?_⟩
    have nW0 := s1.free nW
    rw [upd_upd]
    have s2 : Same H1 (upd H1 Wd (KD P w Wd [pkey (M.init, N.init)] [T0] [.bl true])) := same_upd nW
    have eW2 : (upd H1 Wd (KD P w Wd [pkey (M.init, N.init)] [T0] [.bl true])) Wd = some (KD P w Wd [pkey (M.init, N.init)] [T0] [.bl true]) := upd_same
    generalize upd H1 Wd (KD P w Wd [pkey (M.init, N.init)] [T0] [.bl true]) = H2 at s2 eW2 ⊢
    -- order = [start]
    refine ⟨_, rfl, by show 1 ≤ sizeLine; decide, fun O nO => ?_⟩
    have s3 : Same H2 (upd H2 O (.lst [V.ref T0])) := same_upd nO
    have eO3 : (upd H2 O (.lst [V.ref T0])) O = some (.lst [V.ref T0]) := upd_same
    have s02 := s1.trans s2
    have nO0 := s02.free nO
    have eWO : Wd ≠ O := ne_of_none eW2 nO
    have eW3 := s3 _ _ eW2
    have s03 := s02.trans s3
    have tt3 : TAt (upd H2 O (.lst [V.ref T0])) [(M.init, N.init)] [T0] := TAt.nil.snoc (s3 _ _ (s2 _ _ eT1))
    generalize upd H2 O (.lst [V.ref T0]) = H3 at s3 eO3 eW3 s03 tt3 ⊢
    clear s1 s2 s3 eT1 eW2 nO
    generalize hmx : (M.rows.length + 1) * (N.rows.length + 1) = mx at hsz
    -- while at < len(order)
    refine ⟨fun m σ H' => ∃ ps qs vs x6 x7 x8, ∃ i : Nat, σ = [some (.ref a), some (.ref a'), some (.ref T0), some (.ref Wd), some (.ref O), some (.int (i : Int)), x6, x7, x8] ∧ Same H H' ∧ H' Wd = some (KD P w Wd (ps.map pkey) qs vs) ∧ TAt H' ps qs ∧
        H' O = some (.lst (qs.map V.ref)) ∧ PB M N ps i 0 ∧ (∀ (j : Nat) (p : Pr), j < i → ps[j]? = some p → M.fin p.1 = N.fin p.2) ∧ m + i = mx + 1 ∧ i ≤ ps.length,
      ⟨mx + 1, [(M.init, N.init)], [T0], [.bl true], none, none, none, 0, rfl, s03, eW3, tt3, eO3, PB.start, fun j p h => by omega, rfl, Nat.zero_le _⟩, fun m σ H4 hW => ?_⟩
    obtain ⟨ps, qs, vs, x6, x7, x8, i, rfl, s4, eW4, tt4, eO4, pb, ag, em, hile⟩ := hW
    have hql : qs.length = ps.length := tt4.len
    have hqm : (qs.map V.ref).length = ps.length := by rw [List.length_map, hql]
    have hpm : ps.length ≤ mx := by rw [← hmx]; exact pb.len o o'
    refine ⟨_, rfl, _, rfl, O, _, rfl, .inl (SqL.of eO4), _, _, rfl, rfl, _, rfl, ite2 (fun e => ?_) (fun e => ?_)⟩
    · have e1 := of_decide_eq_true e
      have hlt : i < ps.length := by omega
      refine ⟨fun σ' H' => ∃ m', m' < m ∧ ∃ ps qs vs x6 x7 x8, ∃ i : Nat, σ' = [some (.ref a), some (.ref a'), some (.ref T0), some (.ref Wd), some (.ref O), some (.int (i : Int)), x6, x7, x8] ∧ Same H H' ∧ H' Wd = some (KD P w Wd (ps.map pkey) qs vs) ∧ TAt H' ps qs ∧
        H' O = some (.lst (qs.map V.ref)) ∧ PB M N ps i 0 ∧ (∀ (j : Nat) (p : Pr), j < i → ps[j]? = some p → M.fin p.1 = N.fin p.2) ∧ m' + i = mx + 1 ∧ i ≤ ps.length, fun _ _ z => z, ?_⟩
      obtain ⟨p, ep⟩ := getE hlt
      obtain ⟨l, r⟩ := p
      obtain ⟨pq, epq⟩ := getE (l := qs) (i := i) (by omega)
      have hpq : SqT K H4 pq [.int l, .int r] := SqT.of (tt4.at_ i _ _ ep epq)
      obtain ⟨rl, rr⟩ := pb.rng o o' _ (List.mem_of_getElem? ep)
      have rl : -1 ≤ l ∧ l < (M.rows.length : Int) := rl
      have rr : -1 ≤ r ∧ r < (N.rows.length : Int) := rr
      have hM4 := hM.same s4
      have hN4 := hN.same s4
      refine ⟨_, rfl, _, rfl, O, _, _, .ref pq, rfl, rfl, SqL.of eO4, atT rfl (getI epq), ?_⟩
      refine ⟨_, rfl, _, rfl, pq, _, 0, _, rfl, rfl, hpq, rfl, a, M, l, rfl, hM4, o, rl.2, _, rfl, _, rfl, pq, _, 1, _, rfl, rfl, hpq, rfl, a', N, r, rfl, hN4, o', rr.2, rfl, _, rfl, ite2 (fun e => ?_) (fun e => ?_)⟩
      · have hne : M.fin l ≠ N.fin r := fun z => by
          rw [z] at e
          simp at e
        exact qE (fun z => hne (pb.agree z _ (List.mem_of_getElem? ep))) _ s4
      · have heq : M.fin l = N.fin r := Classical.byContradiction fun z => e (by
          rw [decide_eq_false (fun y => z (V.bl.inj y))]
          rfl)
        have ag2 : ∀ (j : Nat) (p : Pr), j < i + 1 → ps[j]? = some p → M.fin p.1 = N.fin p.2 := fun j p hj hjp => by
          by_cases z : j < i
          · exact ag j p z hjp
          · have ej : j = i := by omega
            rw [ej, ep] at hjp
            have e2 := Option.some.inj hjp
            rw [← e2]
            exact heq
        refine ⟨_, rfl, a, _, 0, _, rfl, rfl, (hm.same s4).t, rfl, _, rfl, by omega, by omega, ?_⟩
        refine for_range (lo := 0) (n := ((M.k : Nat) : Int).toNat) (fun bb σ H' => ∃ ps qs vs x7 x8, σ = [some (.ref a), some (.ref a'), some (.ref T0), some (.ref Wd), some (.ref O), some (.int (i : Int)), some (.ref pq), x7, x8] ∧ Same H H' ∧ H' Wd = some (KD P w Wd (ps.map pkey) qs vs) ∧ TAt H' ps qs ∧
            H' O = some (.lst (qs.map V.ref)) ∧ PB M N ps i bb ∧ (∀ (j : Nat) (p : Pr), j < i + 1 → ps[j]? = some p → M.fin p.1 = N.fin p.2) ∧ ps[i]? = some (l, r) ∧ qs[i]? = some pq)
          ⟨ps, qs, vs, x7, x8, rfl, s4, eW4, tt4, eO4, pb, ag2, ep, epq⟩ ?_ ?_
        · rintro bb σ H5 hbb ⟨ps, qs, vs, x7, x8, rfl, s5, eW5, tt5, eO5, pb, ag, ep, epq⟩
          have hbk : bb < M.k := by omega
          rw [Int.zero_add]
          have hpm : ps.length ≤ mx := by rw [← hmx]; exact pb.len o o'
          have hil := (List.getElem?_eq_some_iff.mp ep).1
          have hql : qs.length = ps.length := tt5.len
          have hpq5 : SqT K H5 pq [.int l, .int r] := SqT.of (tt5.at_ i _ _ ep epq)
          refine ⟨_, rfl, _, rfl, pq, _, 0, _, rfl, rfl, hpq5, rfl, _, rfl, a, M, l, bb, rfl, hM.same s5, o, rl.2, hbk, _, rfl, _, rfl, pq, _, 1, _, rfl, rfl, hpq5, rfl, _, rfl, a', N, r, bb, rfl, hN.same s5, o', rr.2, by omega, by show 2 ≤ sizeLine; decide, fun T nT => ?_⟩
          have s6 : Same H5 (upd H5 T (.tup [V.int (M.nxt l bb), V.int (N.nxt r bb)])) := same_upd nT
          have eT : (upd H5 T (.tup [V.int (M.nxt l bb), V.int (N.nxt r bb)])) T = some (.tup [V.int (M.nxt l bb), V.int (N.nxt r bb)]) := upd_same
          have s06 := s5.trans s6
          have eW6 := s6 _ _ eW5
          have eO6 := s6 _ _ eO5
          have tt6 := tt5.ext s6
          generalize upd H5 T (.tup [V.int (M.nxt l bb), V.int (N.nxt r bb)]) = H6 at s6 eT s06 eW6 eO6 tt6 ⊢
          clear s6 s5 eW5 eO5 tt5 hpq5 nT
          have hTk : KeyAt K H6 (pkey (pnx M N (l, r) bb)) T := pairKey (SqT.of eT)
          have kk6 : KeysAt K H6 (ps.map pkey) qs := tt6.keys
          refine ⟨_, rfl, _, rfl, Wd, _, _, _, T, pkey (pnx M N (l, r) bb), rfl, rfl, eW6, kk6, hTk, _, rfl, ?_⟩
          by_cases hm : pnx M N (l, r) bb ∈ ps
          · have hm2 : pkey (pnx M N (l, r) bb) ∈ ps.map pkey := List.mem_map.mpr ⟨_, hm, rfl⟩
            refine ite2 (fun e => ?_) (fun _ => ?_)
            · rw [if_pos rfl, decide_eq_true hm2] at e
              cases e
            exact ⟨ps, qs, vs, _, _, rfl, s06, eW6, tt6, eO6, pb.old ep hm, ag, ep, epq⟩
          · have hm2 : pkey (pnx M N (l, r) bb) ∉ ps.map pkey := fun z => hm (pkey_mem z)
            refine ite2 (fun _ => ?_) (fun e => ?_)
            rotate_left
            · rw [if_pos rfl, decide_eq_false hm2] at e
              exact absurd rfl e
            have pb2 := pb.new ep hm
            have hpm2 : (ps ++ [pnx M N (l, r) bb]).length ≤ mx := by rw [← hmx]; exact pb2.len o o'
            rw [List.length_append, List.length_singleton] at hpm2
            refine ⟨_, rfl, _, rfl, Wd, _, _, _, T, pkey (pnx M N (l, r) bb), rfl, rfl, eW6, kk6, hTk, by rw [List.length_map]; exact small1000 (by omega), hm2, ?_⟩
            have eKs : ps.map pkey ++ [pkey (pnx M N (l, r) bb)] = (ps ++ [pnx M N (l, r) bb]).map pkey := by rw [List.map_append]; rfl
            rw [eKs]
            have tt9 : TAt (upd H6 Wd (KD P w Wd ((ps ++ [pnx M N (l, r) bb]).map pkey) (qs ++ [T]) (vs ++ [V.bl true]))) (ps ++ [pnx M N (l, r) bb]) (qs ++ [T]) := (tt6.snoc eT).upd eW6 kd_tup
            have s09 : Same H (upd H6 Wd (KD P w Wd ((ps ++ [pnx M N (l, r) bb]).map pkey) (qs ++ [T]) (vs ++ [V.bl true]))) := same_in nW0 s06
            have eW9 : (upd H6 Wd (KD P w Wd ((ps ++ [pnx M N (l, r) bb]).map pkey) (qs ++ [T]) (vs ++ [V.bl true]))) Wd = _ := upd_same
            have eO9 : (upd H6 Wd (KD P w Wd ((ps ++ [pnx M N (l, r) bb]).map pkey) (qs ++ [T]) (vs ++ [V.bl true]))) O = _ := (upd_ne (Ne.symm eWO)).trans eO6
            generalize upd H6 Wd (KD P w Wd ((ps ++ [pnx M N (l, r) bb]).map pkey) (qs ++ [T]) (vs ++ [V.bl true])) = H9 at tt9 s09 eW9 eO9 ⊢
            refine ⟨_, rfl, .inl ⟨rfl, _, SqL.of eO9⟩, _, rfl, O, _, _, rfl, rfl, eO9, by rw [List.length_map, hql]; exact small1000 (by omega), ?_⟩
            rw [refV_snoc]
            refine ⟨ps ++ [pnx M N (l, r) bb], qs ++ [T], _, _, _, rfl, same_in nO0 s09, (upd_ne eWO).trans eW9, tt9.upd eO9 lst_tup, upd_same, pb2, fun j p hj e1 => ?_, ?_, ?_⟩
            · rw [List.getElem?_append_left (by omega)] at e1
              exact ag j p hj e1
            · rw [List.getElem?_append_left hil]
              exact ep
            · rw [List.getElem?_append_left (by omega)]
              exact epq
        · rintro σ H5 ⟨ps, qs, vs, x7, x8, rfl, s5, eW5, tt5, eO5, pb, ag, ep, epq⟩
          have hil := (List.getElem?_eq_some_iff.mp ep).1
          exact ⟨_, rfl, _, _, rfl, rfl, m - 1, by omega, ps, qs, vs, _, _, _, i + 1, rfl, s5, eW5, tt5, eO5, pb.next (by omega), ag, by omega, hil⟩
    · have e1 : ¬ (i : Int) < (((qs.map V.ref).length : Nat) : Int) := fun z => e (decide_eq_true z)
      have hag : ∀ p ∈ ps, M.fin p.1 = N.fin p.2 := fun p hp => by
        obtain ⟨j, hj⟩ := List.mem_iff_getElem?.mp hp
        exact ag j p (by have := (List.getElem?_eq_some_iff.mp hj).1; omega) hj
      have hL : M.L = N.L := pb.same o o' hk (by omega) hag
      refine ⟨_, rfl, O, rfl, ⟨_, SqL.of eO4⟩, fun D nD => ?_⟩
      refine lc_list (K := K) (a := O) (xs := qs.map V.ref) (fun j H' => ∃ zs ts, Same H4 H' ∧ H' D = some (.lst (ts.map V.ref)) ∧ TAt H' zs ts ∧ zs = (ps.take j).filter fun p => !decide (p = nowP))
        ⟨[], [], same_upd nD, upd_same, TAt.nil, rfl⟩ (fun j H' _ ⟨_, _, y, _⟩ => SqL.of (y _ _ eO4)) ?_ ?_
      · rintro j x H5 hx ⟨zs, ts, s5, eD, tt, hz⟩
        obtain ⟨pq, epq⟩ := getE (l := qs) (i := j) (by have := (List.getElem?_eq_some_iff.mp hx).1; rw [List.length_map] at this; exact this)
        have hx1 : V.ref pq = x := Option.some.inj ((getI (f := V.ref) epq).symm.trans hx)
        subst hx1
        obtain ⟨p, ep⟩ := getE (l := ps) (i := j) (by rw [← hql]; exact (List.getElem?_eq_some_iff.mp epq).1)
        have hpq := s5 _ _ (tt4.at_ j _ _ ep epq)
        have ezs : (ps.take (j + 1)).filter (fun p => !decide (p = nowP)) = zs ++ [p].filter (fun p => !decide (p = nowP)) := by rw [take_succ_get ep, List.filter_append, ← hz]
        refine ⟨rfl, _, rfl, pq, NW, p, nowP, rfl, rfl, SqT.of hpq, hNW _, _, rfl, ite2 (fun e => ?_) (fun e => ?_)⟩
        · have e2 : (!decide (p = nowP)) = true := e
          refine ⟨_, rfl, _, eD, ?_, zs ++ [p], ts ++ [pq], same_in nD s5, by rw [upd_same, refV_snoc], (tt.snoc hpq).upd eD lst_tup, ?_⟩
          · rw [List.length_map, tt.len, hz]
            exact Nat.lt_of_le_of_lt (Nat.le_trans (List.length_filter_le _ _) (by rw [List.length_take]; exact Nat.min_le_right _ _)) (small1000 (by omega))
          · rw [ezs, List.filter_cons, if_pos e2]
            rfl
        · have e2 : ¬ (!decide (p = nowP)) = true := e
          refine ⟨zs, ts, s5, eD, tt, ?_⟩
          rw [ezs, List.filter_cons, if_neg e2, List.filter_nil, List.append_nil]
      · rintro H6 ⟨zs, ts, s6, eD, tt, hz⟩
        rw [List.take_of_length_le (by rw [hqm]; exact Nat.le_refl _)] at hz
        have hzl : zs.length ≤ ps.length := by rw [hz]; exact List.length_filter_le _ _
        have hmemz : ∀ p, p ∈ zs ↔ p ∈ ps ∧ p ≠ nowP := fun p => by
          rw [hz, List.mem_filter]
          constructor
          · rintro ⟨h1, h2⟩
            exact ⟨h1, fun z => by rw [decide_eq_true z] at h2; cases h2⟩
          · rintro ⟨h1, h2⟩
            exact ⟨h1, by rw [decide_eq_false h2]; rfl⟩
        have hnd : zs.Nodup := by rw [hz]; exact pb.nd.filter _
        -- each item of the list
        have item : ∀ y ∈ ts.map V.ref, ∃ (t : Addr) (p : Pr), y = V.ref t ∧ H6 t = some (.tup [.int p.1, .int p.2]) ∧ pk H6 y = p ∧ p ∈ zs := fun y hy => by
          obtain ⟨t, ht, e⟩ := List.mem_map.mp hy
          obtain ⟨j, hj⟩ := List.mem_iff_getElem?.mp ht
          obtain ⟨p, hp⟩ := getE (l := zs) (i := j) (by rw [← tt.len]; exact (List.getElem?_eq_some_iff.mp hj).1)
          have hh := tt.at_ j p t hp hj
          exact ⟨t, p, e.symm, hh, by rw [← e]; exact pk_at hh, List.mem_of_getElem? hp⟩
        have hmapk : (ts.map V.ref).map (pk H6) = zs := by
          refine List.ext_getElem? fun j => ?_
          rw [List.getElem?_map, List.getElem?_map]
          cases ej : ts[j]? with
          | none =>
            have : zs[j]? = none := List.getElem?_eq_none_iff.mpr (by rw [← tt.len]; exact List.getElem?_eq_none_iff.mp ej)
            rw [this]
            rfl
          | some t =>
            obtain ⟨p, hp⟩ := getE (l := zs) (i := j) (by rw [← tt.len]; exact (List.getElem?_eq_some_iff.mp ej).1)
            rw [hp]
            show some (pk H6 (V.ref t)) = some p
            rw [pk_at (tt.at_ j p t hp ej)]
        refine ⟨D, ts.map V.ref, pk H6, rfl, SqL.of eD, fun y hy => ?_, fun ys R hs hstb nR => ?_⟩
        · obtain ⟨t, p, e1, e2, e3, _⟩ := item y hy
          exact ⟨t, e1, by rw [e3]; exact e2⟩
        · have hyref : ∀ y ∈ ys, ∃ t, y = V.ref t := fun y hy => by
            obtain ⟨t, p, e1, _⟩ := item y (hstb.perm.mem_iff.mp hy)
            exact ⟨t, e1⟩
          have hperm : (ys.map (pk H6)).Perm zs := by
            rw [← hmapk]
            exact hstb.perm.map _
          have s7 : Same H6 (upd H6 R (.lst ys)) := same_upd nR
          have hzz : ∀ p, p ∈ ys.map (pk H6) ↔ p ∈ ps ∧ p ≠ nowP := fun p => hperm.mem_iff.trans (hmemz p)
          have hnd2 : (ys.map (pk H6)).Nodup := hperm.nodup_iff.mpr hnd
          refine q hL (upd H6 R (.lst ys)) R (ys.map (pk H6)) (ys.map refOf) (s4.trans (s6.trans s7)) (by rw [refs_refOf hyref]; exact upd_same) ⟨by rw [List.length_map, List.length_map], fun j p t e1 e2 => ?_⟩ (RelOk.of pb (by omega) o o' hag hzz) (by rw [hperm.length_eq]; omega) (fun j x y e1 e2 => ?_) hnd2
          · rw [List.getElem?_map] at e1 e2
            cases ej : ys[j]? with
            | none => rw [ej] at e1; cases e1
            | some y =>
              rw [ej] at e1 e2
              obtain ⟨t', p', f1, f2, f3, _⟩ := item y (hstb.perm.mem_iff.mp (List.mem_of_getElem? ej))
              have g1 : pk H6 y = p := Option.some.inj e1
              have g2 : refOf y = t := Option.some.inj e2
              rw [f3] at g1
              rw [f1] at g2
              have g2 : t' = t := g2
              subst g1 g2
              exact s7 _ _ f2
          · rw [List.getElem?_map] at e1 e2
            cases ej : ys[j]? with
            | none => rw [ej] at e1; cases e1
            | some u =>
              cases ej2 : ys[j + 1]? with
              | none => rw [ej2] at e2; cases e2
              | some v =>
                have h0 := hs
                rw [ej] at e1
                rw [ej2] at e2
                have g1 : pk H6 u = x := Option.some.inj e1
                have g2 : pk H6 v = y := Option.some.inj e2
                obtain ⟨b1, c1⟩ := List.getElem?_eq_some_iff.mp ej
                obtain ⟨b2, c2⟩ := List.getElem?_eq_some_iff.mp ej2
                have hlt := List.pairwise_iff_getElem.mp (show ys.Pairwise fun x y => ltP (pk H6) y x = false from h0) j (j + 1) b1 b2 (Nat.lt_succ_self _)
                rw [c1, c2] at hlt
                have hlt := SrtO.lexB_no.mp hlt
                rw [g1, g2] at hlt
                have hne : x ≠ y := fun z => by
                  have f1 : (ys.map (pk H6))[j]? = some x := by rw [List.getElem?_map, ej]; exact congrArg some g1
                  have f2 : (ys.map (pk H6))[j + 1]? = some x := by rw [List.getElem?_map, ej2, z]; exact congrArg some g2
                  have := nodup_inj hnd2 f1 f2
                  omega
                obtain ⟨x1, x2⟩ := x
                obtain ⟨y1, y2⟩ := y
                have hlt : ¬ (y1 < x1 ∨ (y1 = x1 ∧ y2 < x2)) := hlt
                have hne2 : ¬ (x1 = y1 ∧ x2 = y2) := fun ⟨z1, z2⟩ => hne (by rw [z1, z2])
                show x1 < y1 ∨ x1 = y1 ∧ x2 < y2
                omega
end
end Dg
end

section
set_option maxHeartbeats 4000000
namespace Dg
open PySem PySem.Spec PyProof.Rows L2
abbrev sFrm : Stmt := top 33
abbrev sCkr : Stmt := top 34
abbrev nFrm : List Str := ["first", "second", "pairs", "at", "pair"]
abbrev nCkr : List Str := ["first", "second", "pairs", "there", "pair", "letter", "other"]
theorem scFrm : FnScope nFrm ["first", "second", "pairs"] (defScope sFrm) := ⟨rfl, rfl, rfl, by decide +kernel, rfl, by decide +kernel, by decide +kernel⟩
theorem scCkr : FnScope nCkr ["first", "second", "pairs"] (defScope sCkr) := ⟨rfl, rfl, rfl, by decide +kernel, rfl, by decide +kernel, by decide +kernel⟩
def spFrm (K : PySem.W.Frag) : Sp := fun vs H Q _ => ∃ (a a' R : Addr) (M N : Mach) (zs : List Pr) (ts : List Addr), vs = [.ref a, .ref a', .ref R] ∧ MachAt K H a M ∧ MachAt K H a' N ∧ H R = some (.lst (ts.map V.ref)) ∧ TAt H zs ts ∧
  (∀ p ∈ zs, (-1 ≤ p.1 ∧ p.1 < (M.rows.length : Int)) ∧ (-1 ≤ p.2 ∧ p.2 < (N.rows.length : Int))) ∧ nowP ∉ zs ∧ (∀ (i : Nat) (x y : Pr), zs[i]? = some x → zs[i + 1]? = some y → PlT x y) ∧ ∀ H', Same H H' → Q .non H'
def spCkr (K : PySem.W.Frag) : Sp := fun vs H Q _ => ∃ (a a' R : Addr) (M N : Mach) (zs : List Pr) (ts : List Addr), vs = [.ref a, .ref a', .ref R] ∧ MachAt K H a M ∧ MachAt K H a' N ∧ M.Ok ∧ N.Ok ∧ M.k = N.k ∧ M.k ≤ 1000 ∧ H R = some (.lst (ts.map V.ref)) ∧ TAt H zs ts ∧ RelOk M N zs ∧ zs.length ≤ 400 ∧
  (∀ (i : Nat) (x y : Pr), zs[i]? = some x → zs[i + 1]? = some y → PlT x y) ∧ zs.Nodup ∧ ∀ H', Same H H' → Q .non H'
section
variable {P : Program} {w : World} {K : PySem.W.Frag} {mg : Str → Option Value} {base : Heap} {f fC fF fN fA fR NW : Addr} {fd fdC fdF fdN fdA fdR : FuncData}
theorem ok_frm (F : Fun K "check_form" "check_form" sFrm f fd) (mNW : mg "NOWHERE" = some (.ref NW)) (hNW : ∀ H : Hp, SqT K H NW [.int (-1), .int (-1)]) (me : mg "enumerate" = none) (ml : mg "len" = none) : FnOk P w K mg base CX0 1 f fd ["first", "second", "pairs"] (spFrm K) := by
  refine F.ok scFrm (fun vs H Q E h => ?_) (fun cdv A outer s H vs Q E hr h => ?_)
  · obtain ⟨a, a', R, M, N, zs, ts, rfl, _⟩ := h
    rfl
  · obtain ⟨a, a', R, M, N, zs, ts, rfl, ⟨b, c, ra, h⟩, ⟨b', c', ra', h'⟩, eR, tt, rng, now, srt, q⟩ := h
    have nd := scFrm.nd
    refine ⟨_, pss_one (ps_for PassesOwn.never rfl (pi_enum (by rfl) me (pa_cons (pv 2) pa_nil)) (pg_tup rfl (pgs_cons (pg_name (i := 3) nd rfl (Or.inl rfl)) (pgs_cons (pg_name (i := 4) nd rfl (Or.inl rfl)) pgs_nil)))
      (pss_cons (ps_if (PW.pt (pw_or (pt_not (pt_chain op_le op_lt (pe_un un_neg pe_int) (pe_ix ix_tup (pv 4) pe_int (fun _ _ => rfl)) (pe_callB call_len_seq (by rfl) ml PySem.boot_len (pa_cons (pe_ix ix_tup (pv 0) pe_int (fun _ _ => rfl)) pa_nil))))
          (pw_or (pt_not (pt_chain op_le op_lt (pe_un un_neg pe_int) (pe_ix ix_tup (pv 4) pe_int (fun _ _ => rfl)) (pe_callB call_len_seq (by rfl) ml PySem.boot_len (pa_cons (pe_ix ix_tup (pv 1) pe_int (fun _ _ => rfl)) pa_nil))))
          (pw_or1 (pt_cmpR (op_eqP K (hu := hr.units)) (pv 4) (pe_glob (v := .ref NW) (by rfl) mNW rfl) (nomark _)))))) (pss_one ps_never) pss_nil)
      (pss_one (ps_if (PW.pt (pw_and (pt_cmpR op_gt (pv 3) pe_int (nomark _)) (pw_and1 (pt_cmpR (op_geP K (hu := Nat.lt_of_le_of_lt (Nat.le_add_right _ 64) hr.units)) (pe_ix ix_list (pv 2) (pe_op op_sub (pv 3) pe_int) (fun _ _ => rfl)) (pv 4) (nomark _))))) (pss_one ps_never) pss_nil)))), ?_⟩
    have hl : (ra.map V.ref).length = M.rows.length := by rw [List.length_map]; exact h.r.1
    have hl' : (ra'.map V.ref).length = N.rows.length := by rw [List.length_map]; exact h'.r.1
    refine ⟨_, rfl, R, _, rfl, SqL.of eR, ?_⟩
    refine for_it (walk_enum (K := K) (a := R) (xs := ts.map V.ref)) (fun i σ H' => ∃ x3 x4, σ = [some (.ref a), some (.ref a'), some (.ref R), x3, x4] ∧ Same H H')
      ⟨none, none, rfl, fun _ _ e => e⟩ (fun i σ H' _ ⟨_, _, _, y⟩ => SqL.of (y _ _ eR)) ?_ ?_
    · rintro i x σ H2 H3 hi ⟨x3, x4, rfl, s2⟩ ⟨T, v1, v2, rfl, nT, rfl, ev, er⟩
      have ev1 : v1 = V.int (i : Int) := (Option.some.inj ev).symm
      subst ev1
      obtain ⟨t, et⟩ := getE (l := ts) (i := i) (by rw [List.length_map] at hi; exact hi)
      have er1 : V.ref t = v2 := Option.some.inj ((getI (f := V.ref) et).symm.trans er)
      subst er1
      obtain ⟨p, ep⟩ := getE (l := zs) (i := i) (by rw [← tt.len]; exact (List.getElem?_eq_some_iff.mp et).1)
      obtain ⟨r1, r2⟩ := rng p (List.mem_of_getElem? ep)
      have s3 : Same H2 (upd H2 T (.tup [V.int (i : Int), .ref t])) := same_upd nT
      have s03 := s2.trans s3
      have eT3 : upd H2 T (.tup [V.int (i : Int), .ref t]) T = some (.tup [V.int (i : Int), .ref t]) := upd_same
      generalize upd H2 T (.tup [V.int (i : Int), .ref t]) = H3 at s3 s03 eT3 ⊢
      have hp := SqT.of (K := K) (s03 _ _ (tt.at_ i p t ep et))
      refine ⟨T, _, rfl, SqT.of eT3, rfl, _, _, rfl, _, _, rfl, rfl, ?_⟩
      have h3 := h.same s03
      have h3' := h'.same s03
      refine ⟨_, rfl, _, rfl, t, _, 0, _, rfl, rfl, hp, rfl, _, _, rfl, rfl, _, rfl, ite2 (fun _ => ?_) (fun e => absurd (decide_eq_true (by omega)) e)⟩
      refine ⟨_, rfl, a, _, 1, .ref b, rfl, rfl, h3.t, rfl, b, _, rfl, .inr h3.b, _, _, rfl, rfl, _, rfl, ?_⟩
      have d1 : decide (p.1 < (((ra.map V.ref).length : Nat) : Int)) = true := decide_eq_true (by omega)
      rw [d1]
      refine ite2 (fun e => absurd e (by decide)) (fun _ => ?_)
      refine ⟨_, rfl, _, rfl, t, _, 1, _, rfl, rfl, hp, rfl, _, _, rfl, rfl, _, rfl, ite2 (fun _ => ?_) (fun e => absurd (decide_eq_true (by omega)) e)⟩
      refine ⟨_, rfl, a', _, 1, .ref b', rfl, rfl, h3'.t, rfl, b', _, rfl, .inr h3'.b, _, _, rfl, rfl, _, rfl, ?_⟩
      have d2 : decide (p.2 < (((ra'.map V.ref).length : Nat) : Int)) = true := decide_eq_true (by omega)
      rw [d2]
      refine ite2 (fun e => absurd e (by decide)) (fun _ => ?_)
      refine ⟨_, rfl, t, NW, p, nowP, rfl, rfl, hp, hNW _, _, rfl, ?_⟩
      have d3 : decide (p = nowP) = false := decide_eq_false fun z => now (by rw [← z]; exact List.mem_of_getElem? ep)
      rw [d3]
      refine ite2 (fun e => absurd e (by decide)) (fun _ => ?_)
      refine ⟨_, rfl, _, _, rfl, rfl, _, rfl, ite2 (fun e => ?_) (fun _ => ⟨_, _, rfl, s03⟩)⟩
      have e1 : (0 : Int) < (i : Int) := of_decide_eq_true e
      obtain ⟨j, hj⟩ : ∃ j : Nat, i = j + 1 := ⟨i - 1, by omega⟩
      obtain ⟨t', et'⟩ := getE (l := ts) (i := j) (by have := (List.getElem?_eq_some_iff.mp et).1; omega)
      obtain ⟨p', ep'⟩ := getE (l := zs) (i := j) (by rw [← tt.len]; exact (List.getElem?_eq_some_iff.mp et').1)
      have hp' := SqT.of (K := K) (s03 _ _ (tt.at_ j p' t' ep' et'))
      have hlt := srt j p' p ep' (by rw [← hj]; exact ep)
      exact ⟨_, rfl, _, rfl, _, _, rfl, rfl, R, _, _, .ref t', rfl, rfl, SqL.of (s03 _ _ eR), atT (j := j) (by omega) (getI et'), _, rfl, t', t, p', p, rfl, rfl, hp', hp, hlt, _, rfl, ite2 (fun e => absurd e (by decide)) (fun _ => ⟨_, _, rfl, s03⟩)⟩
    · rintro σ H2 ⟨x3, x4, rfl, s2⟩
      exact q _ s2
end
end Dg
end

section
set_option maxHeartbeats 4000000
namespace Dg
open PySem PySem.Spec PyProof.Rows L2
section
variable {P : Program} {w : World} {K : PySem.W.Frag} {mg : Str → Option Value} {base : Heap} {f fC fF fN fA fR NW : Addr} {fd fdC fdF fdN fdA fdR : FuncData}
theorem ok_ckr (F : Fun K "check_relation" "check_relation" sCkr f fd) (mNW : mg "NOWHERE" = some (.ref NW)) (hNW : ∀ H : Hp, SqT K H NW [.int (-1), .int (-1)])
    (GC : FnOk P w K mg base CX0 1 fC fdC ["first", "second"] (spChk K)) (kC : PySem.W.keepIn K (.ref fC) = true) (bC : Binds K fdC ["first", "second"] []) (mC : mg "check_letters" = some (.ref fC))
    (GR : FnOk P w K mg base CX0 1 fR fdR ["first", "second", "pairs"] (spFrm K)) (kR : PySem.W.keepIn K (.ref fR) = true) (bR : Binds K fdR ["first", "second", "pairs"] []) (mR : mg "check_form" = some (.ref fR))
    (GF : FnOk P w K mg base CX0 1 fF fdF ["machine"] (spFst K)) (kF : PySem.W.keepIn K (.ref fF) = true) (bF : Binds K fdF ["machine"] []) (mF : mg "first_state" = some (.ref fF))
    (GN : FnOk P w K mg base CX0 1 fN fdN ["machine", "state", "letter"] (spNxt K)) (kN : PySem.W.keepIn K (.ref fN) = true) (bN : Binds K fdN ["machine", "state", "letter"] []) (mN : mg "next_state" = some (.ref fN))
    (GA : FnOk P w K mg base CX0 1 fA fdA ["machine", "state"] (spAcc K)) (kA : PySem.W.keepIn K (.ref fA) = true) (bA : Binds K fdA ["machine", "state"] []) (mA : mg "is_accepting" = some (.ref fA))
    (mr : mg "range" = none) : FnOk P w K mg base CX0 2 f fd ["first", "second", "pairs"] (spCkr K) := by
  refine F.ok scCkr (fun vs H Q E h => ?_) (fun cdv A outer s H vs Q E hr h => ?_)
  · obtain ⟨a, a', R, M, N, zs, ts, rfl, _⟩ := h
    rfl
  · obtain ⟨a, a', R, M, N, zs, ts, rfl, hM, hN, o, o', hk, hk1, eR, tt, ro, h400, srt, hnd, q⟩ := h
    have nd := scCkr.nd
    have hu := hu16 hr
    refine ⟨_, pss_cons (ps_expr (pe_call GC hr (by rfl) mC kC bC .nil pass0 (pa_cons (pv 0) (pa_cons (pv 1) pa_nil))))
      (pss_cons (ps_expr (pe_call GR hr (by rfl) mR kR bR .nil pass0 (pa_cons (pv 0) (pa_cons (pv 1) (pa_cons (pv 2) pa_nil)))))
      (pss_cons (ps_set (i := 3) nd rfl (Or.inl rfl) (pe_kOneX P w K (hu := hu) (hk := pe_glob (v := .ref NW) (by rfl) mNW rfl) (hv := pe_bl)))
      (pss_cons (ps_for PassesOwn.never rfl (pi_list (pv 2)) (pg_name (i := 4) nd rfl (Or.inl rfl)) (pss_one (ps_asg pe_bl (pg_sub (pv 3) (pv 4) (set_kX P w K (hu := hu))))))
      (pss_cons (ps_if (pt_cmpR (op_kNotInX P w K (hu := hu)) (pe_tup (pa_cons (pe_call GF hr (by rfl) mF kF bF .nil pass0 (pa_cons (pv 0) pa_nil)) (pa_cons (pe_call GF hr (by rfl) mF kF bF .nil pass0 (pa_cons (pv 1) pa_nil)) pa_nil))) (pv 3) (by rfl)) (pss_one ps_never) pss_nil)
      (pss_one (ps_for PassesOwn.never rfl (pi_list (pv 2)) (pg_name (i := 4) nd rfl (Or.inl rfl))
        (pss_cons (ps_if (pt_cmpR op_ne (pe_call GA hr (by rfl) mA kA bA .nil pass0 (pa_cons (pv 0) (pa_cons (pe_ix ix_tup (pv 4) pe_int (fun _ _ => rfl)) pa_nil))) (pe_call GA hr (by rfl) mA kA bA .nil pass0 (pa_cons (pv 1) (pa_cons (pe_ix ix_tup (pv 4) pe_int (fun _ _ => rfl)) pa_nil))) (nomark _)) (pss_one ps_never) pss_nil)
        (pss_one (ps_for PassesOwn.never rfl (pi_range1 (by rfl) mr (pa_cons (pe_ix ix_tup (pv 0) pe_int (fun _ _ => rfl)) pa_nil)) (pg_name (i := 5) nd rfl (Or.inl rfl))
          (pss_cons (ps_set (i := 6) nd rfl (Or.inl rfl) (pe_tup (pa_cons (pe_call GN hr (by rfl) mN kN bN .nil pass0 (pa_cons (pv 0) (pa_cons (pe_ix ix_tup (pv 4) pe_int (fun _ _ => rfl)) (pa_cons (pv 5) pa_nil)))) (pa_cons (pe_call GN hr (by rfl) mN kN bN .nil pass0 (pa_cons (pv 1) (pa_cons (pe_ix ix_tup (pv 4) pe_int (fun _ _ => rfl)) (pa_cons (pv 5) pa_nil)))) pa_nil))))
          (pss_one (ps_if (pt_cmpR (op_kNotInX P w K (hu := hu)) (pv 6) (pv 3) (by rfl)) (pss_one ps_never) pss_nil)))))))))))), ?_⟩
    obtain ⟨bM, cM, raM, hm⟩ := id hM
    have htl := tt.len
    refine ⟨_, rfl, _, rfl, a, a', M, N, rfl, hM, hN, hk, ?_⟩
    refine ⟨_, rfl, _, rfl, _, rfl, a, a', R, M, N, zs, ts, rfl, hM, hN, eR, tt, ro.rng, ro.now, srt, fun H1 s1 => ?_⟩
    -- there = {NOWHERE: True}
    intro Wd nW
    refine ⟨upd_same, NW, pkey nowP, rfl, pairKey (hNW _), ?_⟩
    rw [upd_upd]
    have nW0 := s1.free nW
    have s2 : Same H1 (upd H1 Wd (KD P w Wd [pkey nowP] [NW] [.bl true])) := same_upd nW
    have eW2 : (upd H1 Wd (KD P w Wd [pkey nowP] [NW] [.bl true])) Wd = some (KD P w Wd [pkey nowP] [NW] [.bl true]) := upd_same
    have s02 := s1.trans s2
    generalize upd H1 Wd (KD P w Wd [pkey nowP] [NW] [.bl true]) = H2 at s2 eW2 s02 ⊢
    refine ⟨_, rfl, R, rfl, ⟨_, SqL.of (s02 _ _ eR)⟩, ?_⟩
    have kz : ∀ (H' : Hp) (i : Nat), Same H H' → KeysAt K H' ((nowP :: zs.take i).map pkey) (NW :: ts.take i) := fun H' i s => by
      have t1 : TAt H' (zs.take i) (ts.take i) := ⟨by rw [List.length_take, List.length_take, htl], fun j p t e1 e2 => by
        rw [List.getElem?_take] at e1 e2
        split at e1
        · rename_i hj
          rw [if_pos hj] at e2
          exact s _ _ (tt.at_ j p t e1 e2)
        · cases e1⟩
      have k1 := t1.keys (K := K)
      refine ⟨by show _ + 1 = _ + 1; rw [k1.1], fun j k' t e1 e2 => ?_⟩
      cases j with
      | zero =>
        have f1 := Option.some.inj e1
        have f2 := Option.some.inj e2
        rw [← f1, ← f2]
        exact pairKey (hNW _)
      | succ j => exact k1.2 j k' t e1 e2
    refine for_list (K := K) (a := R) (xs := ts.map V.ref) (fun i σ H' => ∃ vs x4, σ = [some (.ref a), some (.ref a'), some (.ref R), some (.ref Wd), x4, none, none] ∧ Same H H' ∧ H' Wd = some (KD P w Wd ((nowP :: zs.take i).map pkey) (NW :: ts.take i) vs))
      ⟨[.bl true], none, rfl, s02, eW2⟩ (fun i σ H' _ ⟨_, _, _, y, _⟩ => SqL.of (y _ _ eR)) ?_ ?_
    · rintro i x σ H3 hx ⟨vs, x4, rfl, s3, eW3⟩
      obtain ⟨t, et⟩ := getE (l := ts) (i := i) (by have := (List.getElem?_eq_some_iff.mp hx).1; rw [List.length_map] at this; exact this)
      have hx1 : V.ref t = x := Option.some.inj ((getI (f := V.ref) et).symm.trans hx)
      subst hx1
      obtain ⟨p, ep⟩ := getE (l := zs) (i := i) (by rw [← htl]; exact (List.getElem?_eq_some_iff.mp et).1)
      have hil := (List.getElem?_eq_some_iff.mp ep).1
      refine ⟨_, rfl, _, rfl, Wd, _, _, _, t, pkey p, rfl, rfl, eW3, kz H3 i s3, pairKey (SqT.of (s3 _ _ (tt.at_ i p t ep et))), ?_, fun z => ?_, vs ++ [V.bl true], _, rfl, same_in nW0 s3, ?_⟩
      · rw [List.length_map, List.length_cons, List.length_take]
        exact small1000 (by omega)
      · rcases List.mem_cons.mp (pkey_mem z) with z | z
        · exact ro.now (by rw [← z]; exact List.mem_of_getElem? ep)
        · obtain ⟨j, hj⟩ := List.mem_iff_getElem?.mp z
          rw [List.getElem?_take] at hj
          split at hj
          · have := nodup_inj hnd hj ep
            omega
          · cases hj
      · rw [upd_same, take_succ_get ep, take_succ_get et, List.map_cons, List.map_cons, List.map_append]
        rfl
    · rintro σ H3 ⟨vs, x4, rfl, s3, eW3⟩
      rw [List.length_map, List.take_of_length_le (Nat.le_refl _), List.take_of_length_le (by rw [htl]; exact Nat.le_refl _)] at eW3
      have kk3 : ∀ H', Same H H' → KeysAt K H' ((nowP :: zs).map pkey) (NW :: ts) := fun H' s => by
        have := kz H' zs.length s
        rw [List.take_of_length_le (Nat.le_refl _), List.take_of_length_le (by rw [htl]; exact Nat.le_refl _)] at this
        exact this
      have inn : ∀ p : Pr, (p ∈ zs ∨ p = nowP) → pkey p ∈ (nowP :: zs).map pkey := fun p hp => List.mem_map.mpr ⟨p, by
        rcases hp with h | h
        · exact List.mem_cons_of_mem _ h
        · rw [h]
          exact List.mem_cons_self, rfl⟩
      refine ⟨_, rfl, a, M, rfl, hM.same s3, _, rfl, a', N, rfl, hN.same s3, by show 2 ≤ sizeLine; decide, fun T0 nT0 => ?_⟩
      have s4 : Same H3 (upd H3 T0 (.tup [V.int M.init, V.int N.init])) := same_upd nT0
      have eT4 : (upd H3 T0 (.tup [V.int M.init, V.int N.init])) T0 = some (.tup [V.int M.init, V.int N.init]) := upd_same
      have s04 := s3.trans s4
      have eW4 := s4 _ _ eW3
      generalize upd H3 T0 (.tup [V.int M.init, V.int N.init]) = H4 at s4 eT4 s04 eW4 ⊢
      refine ⟨_, rfl, Wd, _, _, _, T0, pkey (M.init, N.init), rfl, rfl, eW4, kk3 H4 s04, pairKey (SqT.of eT4), _, rfl, ?_⟩
      rw [decide_eq_true (inn _ ro.ini)]
      refine ite2 (fun e => absurd e (by decide)) (fun _ => ?_)
      refine ⟨_, rfl, R, rfl, ⟨_, SqL.of (s04 _ _ eR)⟩, ?_⟩
      refine for_list (K := K) (a := R) (xs := ts.map V.ref) (fun i σ H' => ∃ x4 x5 x6, σ = [some (.ref a), some (.ref a'), some (.ref R), some (.ref Wd), x4, x5, x6] ∧ Same H H' ∧ H' Wd = some (KD P w Wd ((nowP :: zs).map pkey) (NW :: ts) vs))
        ⟨x4, none, none, rfl, s04, eW4⟩ (fun i σ H' _ ⟨_, _, _, _, y, _⟩ => SqL.of (y _ _ eR)) ?_ ?_
      · rintro i x σ H5 hx ⟨x4, x5, x6, rfl, s5, eW5⟩
        obtain ⟨t, et⟩ := getE (l := ts) (i := i) (by have := (List.getElem?_eq_some_iff.mp hx).1; rw [List.length_map] at this; exact this)
        have hx1 : V.ref t = x := Option.some.inj ((getI (f := V.ref) et).symm.trans hx)
        subst hx1
        obtain ⟨p, ep⟩ := getE (l := zs) (i := i) (by rw [← htl]; exact (List.getElem?_eq_some_iff.mp et).1)
        obtain ⟨l, r⟩ := p
        have hpz := List.mem_of_getElem? ep
        obtain ⟨rl, rr⟩ := ro.rng _ hpz
        have rl : -1 ≤ l ∧ l < (M.rows.length : Int) := rl
        have rr : -1 ≤ r ∧ r < (N.rows.length : Int) := rr
        have hf : M.fin l = N.fin r := ro.fin _ hpz
        have ht : ∀ H', Same H H' → SqT K H' t [.int l, .int r] := fun H' s => SqT.of (s _ _ (tt.at_ i _ t ep et))
        refine ⟨_, rfl, _, rfl, t, _, 0, _, rfl, rfl, ht _ s5, rfl, a, M, l, rfl, hM.same s5, o, rl.2, _, rfl, _, rfl, t, _, 1, _, rfl, rfl, ht _ s5, rfl, a', N, r, rfl, hN.same s5, o', rr.2, rfl, _, rfl, ite2 (fun e => ?_) (fun _ => ?_)⟩
        · rw [hf] at e
          simp at e
        refine ⟨_, rfl, a, _, 0, _, rfl, rfl, (hm.same s5).t, rfl, _, rfl, by omega, by omega, ?_⟩
        refine for_range (lo := 0) (n := ((M.k : Nat) : Int).toNat) (fun bb σ H' => ∃ x5 x6, σ = [some (.ref a), some (.ref a'), some (.ref R), some (.ref Wd), some (.ref t), x5, x6] ∧ Same H H' ∧ H' Wd = some (KD P w Wd ((nowP :: zs).map pkey) (NW :: ts) vs))
          ⟨x5, x6, rfl, s5, eW5⟩ ?_ ?_
        · rintro bb σ H6 hbb ⟨x5, x6, rfl, s6, eW6⟩
          have hbk : bb < M.k := by omega
          rw [Int.zero_add]
          refine ⟨_, rfl, _, rfl, t, _, 0, _, rfl, rfl, ht _ s6, rfl, _, rfl, a, M, l, bb, rfl, hM.same s6, o, rl.2, hbk, _, rfl, _, rfl, t, _, 1, _, rfl, rfl, ht _ s6, rfl, _, rfl, a', N, r, bb, rfl, hN.same s6, o', rr.2, by omega, by show 2 ≤ sizeLine; decide, fun T nT => ?_⟩
          have s7 : Same H6 (upd H6 T (.tup [V.int (M.nxt l bb), V.int (N.nxt r bb)])) := same_upd nT
          have eT : (upd H6 T (.tup [V.int (M.nxt l bb), V.int (N.nxt r bb)])) T = some (.tup [V.int (M.nxt l bb), V.int (N.nxt r bb)]) := upd_same
          have s07 := s6.trans s7
          have eW7 := s7 _ _ eW6
          generalize upd H6 T (.tup [V.int (M.nxt l bb), V.int (N.nxt r bb)]) = H7 at s7 eT s07 eW7 ⊢
          refine ⟨_, rfl, _, rfl, Wd, _, _, _, T, pkey (pnx M N (l, r) bb), rfl, rfl, eW7, kk3 H7 s07, pairKey (SqT.of eT), _, rfl, ?_⟩
          rw [decide_eq_true (inn _ (ro.cls _ hpz bb hbk))]
          exact ite2 (fun e => absurd e (by decide)) (fun _ => ⟨_, _, rfl, s07, eW7⟩)
        · rintro σ H6 ⟨x5, x6, rfl, s6, eW6⟩
          exact ⟨_, _, _, rfl, s6, eW6⟩
      · rintro σ H5 ⟨x4, x5, x6, rfl, s5, eW5⟩
        exact q _ s5
end
end Dg
end

section
set_option maxHeartbeats 4000000
namespace Dg
open PySem PySem.Spec PyProof.Rows L2
abbrev sNum : Stmt := top 36
abbrev nNum : List Str := ["_law_script", "_law_many", "_law_numbers_here", "_law_k", "_law_cell", "_law_j", "_law_mixed", "_law_base", "_law_last"]
theorem scNum : FnScope nNum ["_law_script", "_law_many"] (defScope sNum) := ⟨rfl, rfl, rfl, by decide +kernel, rfl, by decide +kernel, by decide +kernel⟩
def spNum (K : PySem.W.Frag) : Sp := fun vs H Q _ => ∃ (S : Addr) (many : Nat) (ks : List Int), vs = [.ref S, .int (many : Int)] ∧ SqL K H S (ks.map V.int) ∧ ks.length ≤ 1000 ∧ many ≤ 900 ∧
  ∀ H' p (ns : List Int), Same H H' → H' p = some (.lst (ns.map V.int)) → ns.length = many → Q (.ref p) H'
theorem cut_take {xs : List V} {m : Nat} : cutV xs none (some (m : Int)) = xs.take m := by
  unfold cutV
  rw [HT.sIx_none, HT.sIx_nat, List.drop_zero, Nat.sub_zero]
  by_cases h : m ≤ xs.length
  · rw [Nat.min_eq_left h]
  · rw [Nat.min_eq_right (by omega), List.take_of_length_le (Nat.le_refl _), List.take_of_length_le (by omega)]
section
variable {P : Program} {w : World} {K : PySem.W.Frag} {mg : Str → Option Value} {base : Heap} {f : Addr} {fd : FuncData}
theorem ok_num (F : Fun K "_law_numbers" "_law_numbers" sNum f fd) (mr : mg "range" = none) (ml : mg "len" = none) (ma : mg "abs" = none) (mi : mg "int" = none) (mx : mg "max" = none) : FnOk P w K mg base CX0 1 f fd ["_law_script", "_law_many"] (spNum K) := by
  refine F.ok scNum (fun vs H Q E h => ?_) (fun cdv A outer s H vs Q E hr h => ?_)
  · obtain ⟨S, many, ks, rfl, _⟩ := h
    rfl
  · obtain ⟨S, many, ks, rfl, hS, hks, hmany, q⟩ := h
    have nd := scNum.nd
    refine ⟨_, pss_cons (ps_set (i := 2) nd rfl (Or.inl rfl) (pe_lst pa_nil))
      (pss_cons (ps_for PassesOwn.never rfl (pi_range1 (by rfl) mr (pa_cons (pe_callB call_len_seq (by rfl) ml PySem.boot_len (pa_cons (pv 0) pa_nil)) pa_nil)) (pg_name (i := 3) nd rfl (Or.inl rfl))
        (pss_cons (ps_set (i := 4) nd rfl (Or.inl rfl) (pe_callB call_abs (by rfl) ma PyProof.Rows.boot_abs (pa_cons (pe_callTy call_int1 (by rfl) mi (by decide +kernel) (pa_cons (pe_ix ix_list (pv 0) (pv 3) (fun _ _ => rfl)) pa_nil)) pa_nil)))
        (pss_one (ps_if (pt_cmpR op_ge (pv 4) (pe_op op_pow pe_int pe_int) (nomark _))
          (pss_one (ps_for PassesOwn.never rfl (pi_range1 (by rfl) mr (pa_cons pe_int pa_nil)) (pg_name (i := 5) nd rfl (Or.inl rfl))
            (pss_one (ps_if (PW.pt (pw_and (pt_cmpR op_gt (pv 4) pe_int (nomark _)) (pw_and1 (pt_cmpR op_lt (pe_callB call_len_seq (by rfl) ml PySem.boot_len (pa_cons (pv 2) pa_nil)) (pv 1) (nomark _)))))
              (pss_cons (ps_expr (pe_bm PySem.F.plainAttrs_list PySem.F.slot_list_append PySem.F.type_list_append mt_append (pv 2) (pa_cons (pe_op op_mod (pv 4) pe_int) pa_nil)))
              (pss_one (ps_set (i := 4) nd rfl (Or.inl rfl) (pe_op op_fdiv (pv 4) pe_int)))) pss_nil))))
          (pss_one (ps_if (pt_cmpR op_lt (pe_callB call_len_seq (by rfl) ml PySem.boot_len (pa_cons (pv 2) pa_nil)) (pv 1) (nomark _))
            (pss_cons (ps_set (i := 6) nd rfl (Or.inl rfl) (pe_op op_mod (pe_callTy call_int1 (by rfl) mi (by decide +kernel) (pa_cons (pe_op op_add (pe_op op_add (pe_op op_mul (pv 4) pe_int) (pe_op op_mul (pv 3) pe_int)) pe_int) pa_nil)) pe_int))
            (pss_one (ps_expr (pe_bm PySem.F.plainAttrs_list PySem.F.slot_list_append PySem.F.type_list_append mt_append (pv 2) (pa_cons (pe_op op_fdiv (pe_op op_mod (pe_callTy call_int1 (by rfl) mi (by decide +kernel) (pa_cons (pe_op op_add (pe_op op_add (pe_op op_mul (pv 6) pe_int) (pe_op op_mul pe_int (pv 3))) pe_int) pa_nil)) pe_int) pe_int) pa_nil))))) pss_nil))))))
      (pss_cons (ps_set (i := 7) nd rfl (Or.inl rfl) (pe_callB call_len_seq (by rfl) ml PySem.boot_len (pa_cons (pv 2) pa_nil)))
      (pss_cons (ps_set (i := 8) nd rfl (Or.inl rfl) (pe_op op_add pe_int (pe_callB call_len_seq (by rfl) ml PySem.boot_len (pa_cons (pv 0) pa_nil))))
      (pss_cons (ps_for PassesOwn.never rfl (pi_range1 (by rfl) mr (pa_cons (pe_callB (call_max2 rfl) (by rfl) mx PyProof.Rows.boot_max (pa_cons pe_int (pa_cons (pe_op op_sub (pv 1) (pv 7)) pa_nil))) pa_nil)) (pg_name (i := 3) nd rfl (Or.inl rfl))
        (pss_cons (ps_if (pt_cmpR op_gt (pv 7) pe_int (nomark _)) (pss_one (ps_set (i := 8) nd rfl (Or.inl rfl) (pe_op op_add (pv 8) (pe_ix ix_list (pv 2) (pe_op op_mod (pv 3) (pv 7)) (fun _ _ => rfl))))) pss_nil)
        (pss_cons (ps_set (i := 8) nd rfl (Or.inl rfl) (pe_op op_mod (pe_callTy call_int1 (by rfl) mi (by decide +kernel) (pa_cons (pe_op op_add (pe_op op_mul (pv 8) pe_int) (pv 3)) pa_nil)) pe_int))
        (pss_one (ps_expr (pe_bm PySem.F.plainAttrs_list PySem.F.slot_list_append PySem.F.type_list_append mt_append (pv 2) (pa_cons (pe_op op_fdiv (pv 8) pe_int) pa_nil)))))))
      (pss_one (ps_ret (pe_slice sl_list (pv 2) po_none (po_some (pv 1))))))))), ?_⟩
    have hkl : (ks.map V.int).length = ks.length := List.length_map _
    refine ⟨Nat.zero_le _, fun L nL => ?_⟩
    have s1 : Same H (upd H L (.lst [])) := same_upd nL
    refine ⟨_, rfl, S, _, rfl, .inl (s1.seq hS), _, rfl, by omega, by omega, ?_⟩
    refine for_range (lo := 0) (n := (((ks.map V.int).length : Nat) : Int).toNat) (fun i σ H' => ∃ (ns : List Int) (x3 x4 x5 x6 : Option V), σ = [some (.ref S), some (.int (many : Int)), some (.ref L), x3, x4, x5, x6, none, none] ∧ Same H H' ∧ H' L = some (.lst (ns.map V.int)) ∧ ns.length ≤ many)
      ⟨[], none, none, none, none, rfl, s1, upd_same, Nat.zero_le _⟩ ?_ ?_
    · rintro i σ H2 hi ⟨ns, x3, x4, x5, x6, rfl, s2, eL, hns⟩
      rw [Int.zero_add]
      obtain ⟨k, ek⟩ := getE (l := ks) (i := i) (by omega)
      refine ⟨_, rfl, _, rfl, S, _, _, .int k, rfl, rfl, s2.seq hS, atT rfl (getI ek), .inl ⟨k, rfl, k, rfl, ?_⟩⟩
      generalize (if k < 0 then -k else k) = cell
      refine ⟨_, rfl, _, _, rfl, rfl, ⟨by decide, by decide, by decide⟩, _, _, rfl, rfl, _, rfl, ite2 (fun e => ?_) (fun e => ?_)⟩
      · -- the large ones
        refine ⟨60, rfl, by decide, by decide, ?_⟩
        refine for_range (lo := 0) (n := (60 : Int).toNat) (fun j σ H' => ∃ (ns : List Int) (cell : Int) (x5 : Option V), σ = [some (.ref S), some (.int (many : Int)), some (.ref L), some (.int (i : Int)), some (.int cell), x5, x6, none, none] ∧ Same H H' ∧ H' L = some (.lst (ns.map V.int)) ∧ ns.length ≤ many)
          ⟨ns, cell, x5, rfl, s2, eL, hns⟩ ?_ ?_
        · rintro j σ H3 hj ⟨ns, cell, x5, rfl, s3, eL, hns⟩
          have hnl : (ns.map V.int).length = ns.length := List.length_map _
          refine ⟨_, rfl, _, _, rfl, rfl, _, rfl, ite2 (fun _ => ?_) (fun _ => ⟨ns, cell, _, rfl, s3, eL, hns⟩)⟩
          refine ⟨_, rfl, L, _, rfl, .inl (SqL.of eL), _, rfl, _, _, rfl, rfl, _, rfl, ite2 (fun e => ?_) (fun _ => ⟨ns, cell, _, rfl, s3, eL, hns⟩)⟩
          have e1 := of_decide_eq_true e
          refine ⟨_, rfl, .inl ⟨rfl, _, SqL.of eL⟩, _, rfl, _, _, rfl, rfl, (by decide : (0 : Int) < 10007), L, _, _, rfl, rfl, eL, by rw [hnl]; exact small1000 (by omega), ?_⟩
          rw [intV_snoc]
          exact ⟨_, rfl, _, _, rfl, rfl, ⟨by decide, by decide⟩, _, _, _, rfl, same_in nL s3, upd_same, by rw [List.length_append, List.length_singleton]; omega⟩
        · rintro σ H3 ⟨ns, cell, x5, rfl, s3, eL, hns⟩
          exact ⟨ns, _, _, _, _, rfl, s3, eL, hns⟩
      · have hnl : (ns.map V.int).length = ns.length := List.length_map _
        refine ⟨_, rfl, L, _, rfl, .inl (SqL.of eL), _, rfl, _, _, rfl, rfl, _, rfl, ite2 (fun e => ?_) (fun _ => ⟨ns, _, _, _, _, rfl, s2, eL, hns⟩)⟩
        have e1 := of_decide_eq_true e
        refine ⟨_, rfl, _, _, rfl, rfl, .inr ⟨by decide, by decide⟩, _, rfl, _, _, rfl, rfl, .inr ⟨by decide, by decide⟩, _, _, rfl, rfl, _, _, rfl, rfl, .inl ⟨_, rfl, _, _, rfl, rfl, (by decide : (0 : Int) < 2147483647), ?_⟩⟩
        refine ⟨_, rfl, .inl ⟨rfl, _, SqL.of eL⟩, _, rfl, _, _, rfl, rfl, .inr ⟨by decide, by decide⟩, _, rfl, _, _, rfl, rfl, .inl ⟨by decide, by decide⟩, _, _, rfl, rfl, _, _, rfl, rfl, .inl ⟨_, rfl, _, _, rfl, rfl, (by decide : (0 : Int) < 2147483647), _, _, rfl, rfl, ⟨by decide, by decide⟩, L, _, _, rfl, rfl, eL, by rw [hnl]; exact small1000 (by omega), ?_⟩⟩
        rw [intV_snoc]
        exact ⟨_, _, _, _, _, rfl, same_in nL s2, upd_same, by rw [List.length_append, List.length_singleton]; omega⟩
    · rintro σ H2 ⟨ns, x3, x4, x5, x6, rfl, s2, eL, hns⟩
      have hnl : (ns.map V.int).length = ns.length := List.length_map _
      refine ⟨_, rfl, L, _, rfl, .inl (SqL.of eL), ?_⟩
      refine ⟨_, rfl, S, _, rfl, .inl (s2.seq hS), _, _, rfl, rfl, ?_⟩
      rw [hnl]
      have emx : (if (many : Int) - (ns.length : Int) > 0 then (many : Int) - (ns.length : Int) else 0) = ((many - ns.length : Nat) : Int) := by split <;> omega
      refine ⟨_, rfl, _, rfl, _, _, rfl, rfl, _, _, rfl, ?_⟩
      rw [emx]
      refine ⟨_, rfl, by omega, by omega, ?_⟩
      refine for_range (lo := 0) (n := ((many - ns.length : Nat) : Int).toNat) (fun i σ H' => ∃ (ns2 : List Int) (last : Int) (x3 : Option V), σ = [some (.ref S), some (.int (many : Int)), some (.ref L), x3, x4, x5, x6, some (.int (ns.length : Int)), some (.int last)] ∧ Same H H' ∧ H' L = some (.lst (ns2.map V.int)) ∧ ns2.length = ns.length + i)
        ⟨ns, _, x3, rfl, s2, eL, rfl⟩ ?_ ?_
      · rintro i σ H3 hi ⟨ns2, last, x3, rfl, s3, eL, hn2⟩
        rw [Int.zero_add]
        have hnl2 : (ns2.map V.int).length = ns2.length := List.length_map _
        refine ⟨_, rfl, _, _, rfl, rfl, _, rfl, ite2 (fun e => ?_) (fun e => ?_)⟩
        · have e1 := of_decide_eq_true e
          obtain ⟨z, ez⟩ := getE (l := ns2) (i := i % ns.length) (by have := Nat.mod_lt i (show 0 < ns.length by omega); omega)
          refine ⟨_, rfl, _, rfl, _, rfl, _, rfl, _, _, rfl, rfl, e1, L, _, _, .int z, rfl, rfl, SqL.of eL, atT (j := i % ns.length) (by rw [Int.natCast_emod]) (getI ez), _, _, rfl, rfl, ?_⟩
          refine ⟨_, rfl, _, _, rfl, rfl, .inr ⟨by decide, by decide⟩, _, rfl, _, _, rfl, rfl, .inl ⟨_, rfl, _, _, rfl, rfl, (by decide : (0 : Int) < 2147483647), ?_⟩⟩
          refine ⟨_, rfl, .inl ⟨rfl, _, SqL.of eL⟩, _, rfl, _, _, rfl, rfl, ⟨by decide, by decide⟩, L, _, _, rfl, rfl, eL, by rw [hnl2]; exact small1000 (by omega), ?_⟩
          rw [intV_snoc]
          exact ⟨_, _, _, rfl, same_in nL s3, upd_same, by rw [List.length_append, hn2]; rfl⟩
        · refine ⟨_, rfl, _, _, rfl, rfl, .inr ⟨by decide, by decide⟩, _, rfl, _, _, rfl, rfl, .inl ⟨_, rfl, _, _, rfl, rfl, (by decide : (0 : Int) < 2147483647), ?_⟩⟩
          refine ⟨_, rfl, .inl ⟨rfl, _, SqL.of eL⟩, _, rfl, _, _, rfl, rfl, ⟨by decide, by decide⟩, L, _, _, rfl, rfl, eL, by rw [hnl2]; exact small1000 (by omega), ?_⟩
          rw [intV_snoc]
          exact ⟨_, _, _, rfl, same_in nL s3, upd_same, by rw [List.length_append, hn2]; rfl⟩
      · rintro σ H3 ⟨ns2, last, x3, rfl, s3, eL, hn2⟩
        refine ⟨_, rfl, _, rfl, (many : Int), rfl, L, _, rfl, SqL.of eL, fun p np => ?_⟩
        rw [cut_take, ← List.map_take]
        exact q _ p (ns2.take many) (s3.trans (same_upd np)) upd_same (by rw [List.length_take]; omega)
end
end Dg
end

section
set_option maxHeartbeats 4000000
namespace Dg
open PySem PySem.Spec PyProof.Rows L2
abbrev sMac : Stmt := top 37
abbrev nMac : List Str := ["_law_numbers_here", "_law_at", "_law_letters", "_law_states", "_law_gaps", "_law_moves", "_law_accepting", "_law_state", "_law_row", "_law_letter", "_law_number", "_law_target"]
abbrev pMac : List Str := ["_law_numbers_here", "_law_at", "_law_letters", "_law_states", "_law_gaps"]
theorem scMac : FnScope nMac pMac (defScope sMac) := ⟨rfl, rfl, rfl, by decide +kernel, rfl, by decide +kernel, by decide +kernel⟩
def spMac (K : PySem.W.Frag) : Sp := fun vs H Q _ => ∃ (L : Addr) (at_ k n : Nat) (g : Int) (ns : List Int), vs = [.ref L, .int (at_ : Int), .int (k : Int), .int (n : Int), .int g] ∧ SqL K H L (ns.map V.int) ∧ 0 < ns.length ∧ ns.length ≤ 1000 ∧ k ≤ 1000 ∧ n ≤ 1000 ∧
  ∀ H' p M, Same H H' → MachAt K H' p M → M.Ok → M.k = k → M.rows.length = n → Q (.ref p) H'
section
variable {P : Program} {w : World} {K : PySem.W.Frag} {mg : Str → Option Value} {base : Heap} {f : Addr} {fd : FuncData}
theorem ok_mac (F : Fun K "_law_machine" "_law_machine" sMac f fd) (mr : mg "range" = none) (ml : mg "len" = none) (mi : mg "int" = none) (mt : mg "tuple" = none) : FnOk P w K mg base CX0 1 f fd pMac (spMac K) := by
  refine F.ok scMac (fun vs H Q E h => ?_) (fun cdv A outer s H vs Q E hr h => ?_)
  · obtain ⟨L, at_, k, n, g, ns, rfl, _⟩ := h
    rfl
  · obtain ⟨L, at_, k, n, g, ns, rfl, hL, hn0, hn1, hk, hn, q⟩ := h
    have nd := scMac.nd
    refine ⟨_, pss_cons (ps_set (i := 5) nd rfl (Or.inl rfl) (pe_lst pa_nil))
      (pss_cons (ps_set (i := 6) nd rfl (Or.inl rfl) (pe_lst pa_nil))
      (pss_cons (ps_for PassesOwn.never rfl (pi_range1 (by rfl) mr (pa_cons (pv 3) pa_nil)) (pg_name (i := 7) nd rfl (Or.inl rfl))
        (pss_cons (ps_set (i := 8) nd rfl (Or.inl rfl) (pe_lst pa_nil))
        (pss_cons (ps_for PassesOwn.never rfl (pi_range1 (by rfl) mr (pa_cons (pv 2) pa_nil)) (pg_name (i := 9) nd rfl (Or.inl rfl))
          (pss_cons (ps_set (i := 10) nd rfl (Or.inl rfl) (pe_ix ix_list (pv 0) (pe_op op_mod (pe_callTy call_int1 (by rfl) mi (by decide +kernel) (pa_cons (pe_op op_add (pe_op op_add (pv 1) (pe_op op_mul (pv 7) (pv 2))) (pv 9)) pa_nil)) (pe_callB call_len_seq (by rfl) ml PySem.boot_len (pa_cons (pv 0) pa_nil))) (fun _ _ => rfl)))
          (pss_cons (ps_set (i := 11) nd rfl (Or.inl rfl) (pe_op op_mod (pe_op op_fdiv (pv 10) pe_int) (pv 3)))
          (pss_cons (ps_if (pt_cmpR op_lt (pe_op op_mod (pv 10) pe_int) (pv 4) (nomark _)) (pss_one (ps_set (i := 11) nd rfl (Or.inl rfl) (pe_un un_neg pe_int))) pss_nil)
          (pss_one (ps_expr (pe_bm PySem.F.plainAttrs_list PySem.F.slot_list_append PySem.F.type_list_append mt_append (pv 8) (pa_cons (pv 11) pa_nil))))))))
        (pss_cons (ps_expr (pe_bm PySem.F.plainAttrs_list PySem.F.slot_list_append PySem.F.type_list_append mt_append (pv 5) (pa_cons (pe_callTy call_tuple_of (by rfl) mt (by decide +kernel) (pa_cons (pv 8) pa_nil)) pa_nil)))
        (pss_one (ps_expr (pe_bm PySem.F.plainAttrs_list PySem.F.slot_list_append PySem.F.type_list_append mt_append (pv 6) (pa_cons (pe_cmpR op_eq (pe_op op_mod (pe_op op_fdiv (pe_ix ix_list (pv 0) (pe_op op_mod (pe_callTy call_int1 (by rfl) mi (by decide +kernel) (pa_cons (pe_op op_add (pe_op op_add (pv 1) pe_int) (pv 7)) pa_nil)) (pe_callB call_len_seq (by rfl) ml PySem.boot_len (pa_cons (pv 0) pa_nil))) (fun _ _ => rfl)) pe_int) pe_int) pe_int (nomark _)) pa_nil))))))))
      (pss_one (ps_ret (pe_tup (pa_cons (pv 2) (pa_cons (pe_callTy call_tuple_of (by rfl) mt (by decide +kernel) (pa_cons (pv 5) pa_nil)) (pa_cons (pe_callTy call_tuple_of (by rfl) mt (by decide +kernel) (pa_cons (pv 6) pa_nil)) pa_nil)))))))), ?_⟩
    have hnl : (ns.map V.int).length = ns.length := List.length_map _
    -- an index modulo the length
    have get : ∀ x : Int, ∃ (z : Int), atI (ns.map V.int) (x % (((ns.map V.int).length : Nat) : Int)) = some (V.int z) := fun x => by
      rw [hnl]
      have h1 := Int.emod_nonneg x (show (ns.length : Int) ≠ 0 by omega)
      have h2 := Int.emod_lt_of_pos x (show (0 : Int) < (ns.length : Int) by omega)
      obtain ⟨z, ez⟩ := getE (l := ns) (i := (x % (ns.length : Int)).toNat) (by omega)
      exact ⟨z, atT (j := (x % (ns.length : Int)).toNat) (by omega) (getI ez)⟩
    refine ⟨Nat.zero_le _, fun Mv nMv => ?_⟩
    have s1 : Same H (upd H Mv (.lst [])) := same_upd nMv
    refine ⟨Nat.zero_le _, fun Ac nAc => ?_⟩
    have eMA : Mv ≠ Ac := ne_of_none upd_same nAc
    have nAc0 := s1.free nAc
    have s2 : Same H (upd (upd H Mv (.lst [])) Ac (.lst [])) := s1.trans (same_upd nAc)
    have eMv2 : (upd (upd H Mv (.lst [])) Ac (.lst [])) Mv = some (.lst []) := (upd_ne eMA).trans upd_same
    have eAc2 : (upd (upd H Mv (.lst [])) Ac (.lst [])) Ac = some (.lst []) := upd_same
    generalize upd (upd H Mv (.lst [])) Ac (.lst []) = H2 at s2 eMv2 eAc2 ⊢
    refine ⟨_, rfl, _, rfl, by omega, by omega, ?_⟩
    refine for_range (lo := 0) (n := ((n : Nat) : Int).toNat) (fun i σ H' => ∃ (rs : List Addr) (rows : List (List Int)) (acc : List Bool) (x7 x8 x9 x10 x11 : Option V), σ = [some (.ref L), some (.int (at_ : Int)), some (.int (k : Int)), some (.int (n : Int)), some (.int g), some (.ref Mv), some (.ref Ac), x7, x8, x9, x10, x11] ∧ Same H H' ∧
        H' Mv = some (.lst (rs.map V.ref)) ∧ H' Ac = some (.lst (acc.map V.bl)) ∧ RowsAt K H' rs rows ∧ rows.length = i ∧ acc.length = i ∧ ∀ r ∈ rows, r.length = k ∧ ∀ x ∈ r, -1 ≤ x ∧ x < (n : Int))
      ⟨[], [], [], none, none, none, none, none, rfl, s2, eMv2, eAc2, ⟨rfl, fun i p r e => absurd e (by simp)⟩, rfl, rfl, fun r hr => absurd hr (by simp)⟩ ?_ ?_
    · rintro i σ H3 hi ⟨rs, rows, acc, x7, x8, x9, x10, x11, rfl, s3, eMv, eAc, rat, hrl, hal, hro⟩
      have hin : i < n := by omega
      rw [Int.zero_add]
      refine ⟨Nat.zero_le _, fun Rw nRw => ?_⟩
      have s4 : Same H3 (upd H3 Rw (.lst [])) := same_upd nRw
      have eR4 : (upd H3 Rw (.lst [])) Rw = some (.lst []) := upd_same
      have eMR : Mv ≠ Rw := ne_of_none eMv nRw
      have eAR : Ac ≠ Rw := ne_of_none eAc nRw
      have nRw0 := s3.free nRw
      have s04 := s3.trans s4
      have eMv4 := s4 _ _ eMv
      have eAc4 := s4 _ _ eAc
      have rat4 := rat.same s4
      generalize upd H3 Rw (.lst []) = H4 at s4 eR4 s04 eMv4 eAc4 rat4 ⊢
      refine ⟨_, rfl, _, rfl, by omega, by omega, ?_⟩
      refine for_range (lo := 0) (n := ((k : Nat) : Int).toNat) (fun j σ H' => ∃ (row : List Int) (x9 x10 x11 : Option V), σ = [some (.ref L), some (.int (at_ : Int)), some (.int (k : Int)), some (.int (n : Int)), some (.int g), some (.ref Mv), some (.ref Ac), some (.int (i : Int)), some (.ref Rw), x9, x10, x11] ∧ Same H H' ∧
          H' Mv = some (.lst (rs.map V.ref)) ∧ H' Ac = some (.lst (acc.map V.bl)) ∧ RowsAt K H' rs rows ∧ H' Rw = some (.lst (row.map V.int)) ∧ row.length = j ∧ ∀ x ∈ row, -1 ≤ x ∧ x < (n : Int))
        ⟨[], x9, x10, x11, rfl, s04, eMv4, eAc4, rat4, eR4, rfl, fun x hx => absurd hx (by simp)⟩ ?_ ?_
      · rintro j σ H5 hj ⟨row, x9, x10, x11, rfl, s5, eMv5, eAc5, rat5, eR5, hrow, hrx⟩
        rw [Int.zero_add]
        obtain ⟨z, ez⟩ := get ((at_ : Int) + (i : Int) * (k : Int) + (j : Int))
        refine ⟨_, rfl, _, rfl, _, rfl, _, rfl, _, _, rfl, rfl, .inl ⟨by omega, by omega⟩, _, _, rfl, rfl, _, rfl, _, _, rfl, rfl, .inl ⟨_, rfl, _, rfl, L, _, rfl, .inl (s5.seq hL), _, _, rfl, rfl, (by rw [hnl]; omega : (0 : Int) < (((ns.map V.int).length : Nat) : Int)), L, _, _, .int z, rfl, rfl, s5.seq hL, ez, ?_⟩⟩
        refine ⟨_, rfl, _, _, rfl, rfl, ⟨by decide, by decide⟩, _, rfl, _, _, rfl, rfl, (by omega : (0 : Int) < (n : Int)), ?_⟩
        have grow : ∀ x : Int, -1 ≤ x ∧ x < (n : Int) → (upd H5 Rw (.lst (row.map V.int ++ [V.int x]))) Rw = some (.lst ((row ++ [x]).map V.int)) ∧ (row ++ [x]).length = j + 1 ∧ ∀ y ∈ row ++ [x], -1 ≤ y ∧ y < (n : Int) := fun x hx => ⟨by rw [upd_same, intV_snoc], by rw [List.length_append, hrow]; rfl, fun y hy => by
          rcases List.mem_append.mp hy with h | h
          · exact hrx y h
          · rw [List.mem_singleton.mp h]
            exact hx⟩
        have hsz : (row.map V.int).length < sizeLine := by rw [List.length_map, hrow]; exact small1000 (by omega)
        refine ⟨_, rfl, _, _, rfl, rfl, (by decide : (0 : Int) < 5), _, rfl, _, _, rfl, rfl, _, rfl, ite2 (fun _ => ?_) (fun _ => ?_)⟩
        · obtain ⟨g1, g2, g3⟩ := grow (-1) ⟨by omega, by omega⟩
          refine ⟨_, rfl, _, rfl, .inl ⟨rfl, _, SqL.of eR5⟩, _, rfl, Rw, _, _, rfl, rfl, eR5, hsz, ?_⟩
          exact ⟨_, _, _, _, rfl, same_in nRw0 s5, by rw [upd_ne eMR]; exact eMv5, by rw [upd_ne eAR]; exact eAc5, rat5.upd eR5 lst_tup lst_frz, g1, g2, g3⟩
        · have h1 := Int.emod_nonneg (z / 7) (show (n : Int) ≠ 0 by omega)
          have h2 := Int.emod_lt_of_pos (z / 7) (show (0 : Int) < (n : Int) by omega)
          obtain ⟨g1, g2, g3⟩ := grow (z / 7 % (n : Int)) ⟨by omega, h2⟩
          refine ⟨_, rfl, .inl ⟨rfl, _, SqL.of eR5⟩, _, rfl, Rw, _, _, rfl, rfl, eR5, hsz, ?_⟩
          exact ⟨_, _, _, _, rfl, same_in nRw0 s5, by rw [upd_ne eMR]; exact eMv5, by rw [upd_ne eAR]; exact eAc5, rat5.upd eR5 lst_tup lst_frz, g1, g2, g3⟩
      · rintro σ H5 ⟨row, x9, x10, x11, rfl, s5, eMv5, eAc5, rat5, eR5, hrow, hrx⟩
        refine ⟨_, rfl, .inl ⟨rfl, _, SqL.of eMv5⟩, _, rfl, Rw, _, rfl, .inl ⟨SqL.of eR5, fun T nT => ?_⟩⟩
        have s6 : Same H5 (upd H5 T (.tup (row.map V.int))) := same_upd nT
        have eT : (upd H5 T (.tup (row.map V.int))) T = some (.tup (row.map V.int)) := upd_same
        have s06 := s5.trans s6
        have eMv6 := s6 _ _ eMv5
        have eAc6 := s6 _ _ eAc5
        have rat6 := (rat5.same s6).snoc (SqT.of eT)
        generalize upd H5 T (.tup (row.map V.int)) = H6 at s6 eT s06 eMv6 eAc6 rat6 ⊢
        have hrsl : rs.length = rows.length := rat5.1
        refine ⟨Mv, _, _, rfl, rfl, eMv6, by rw [List.length_map, hrsl, hrl]; exact small1000 (by omega), ?_⟩
        rw [refV_snoc]
        have s7 : Same H (upd H6 Mv (.lst ((rs ++ [T]).map V.ref))) := same_in nMv s06
        have eMv7 : (upd H6 Mv (.lst ((rs ++ [T]).map V.ref))) Mv = _ := upd_same
        have eAc7 : (upd H6 Mv (.lst ((rs ++ [T]).map V.ref))) Ac = _ := (upd_ne (Ne.symm eMA)).trans eAc6
        have rat7 := rat6.upd (o := .lst ((rs ++ [T]).map V.ref)) eMv6 lst_tup lst_frz
        generalize upd H6 Mv (.lst ((rs ++ [T]).map V.ref)) = H7 at s7 eMv7 eAc7 rat7 ⊢
        obtain ⟨z, ez⟩ := get ((at_ : Int) + 131 + (i : Int))
        refine ⟨_, rfl, .inl ⟨rfl, _, SqL.of eAc7⟩, _, rfl, _, rfl, _, _, rfl, rfl, _, rfl, _, _, rfl, rfl, .inl ⟨_, rfl, _, rfl, L, _, rfl, .inl (s7.seq hL), _, _, rfl, rfl, (by rw [hnl]; omega : (0 : Int) < (((ns.map V.int).length : Nat) : Int)), L, _, _, .int z, rfl, rfl, s7.seq hL, ez, ?_⟩⟩
        refine ⟨_, _, rfl, rfl, ⟨by decide, by decide⟩, _, _, rfl, rfl, (by decide : (0 : Int) < 3), rfl, Ac, _, _, rfl, rfl, eAc7, by rw [List.length_map, hal]; exact small1000 (by omega), ?_⟩
        refine ⟨rs ++ [T], rows ++ [row], acc ++ [decide (V.int (z / 3 % 3) = V.int 0)], _, _, _, _, _, rfl, same_in nAc0 s7, by rw [upd_ne eMA]; exact eMv7, by rw [upd_same, List.map_append]; rfl, rat7.upd eAc7 lst_tup lst_frz, by rw [List.length_append, hrl]; rfl, by rw [List.length_append, hal]; rfl, fun r hr => ?_⟩
        rcases List.mem_append.mp hr with h | h
        · exact hro r h
        · rw [List.mem_singleton.mp h]
          exact ⟨by omega, hrx⟩
    · rintro σ H3 ⟨rs, rows, acc, x7, x8, x9, x10, x11, rfl, s3, eMv, eAc, rat, hrl, hal, hro⟩
      refine ⟨_, rfl, _, rfl, Mv, _, rfl, .inl ⟨SqL.of eMv, fun T1 nT1 => ?_⟩⟩
      have s4 := same_upd (o := .tup (rs.map V.ref)) nT1
      refine ⟨_, rfl, Ac, _, rfl, .inl ⟨s4.seq (SqL.of eAc), fun T2 nT2 => ?_⟩⟩
      have s5 := same_upd (o := .tup (acc.map V.bl)) nT2
      refine ⟨by show 3 ≤ sizeLine; decide, fun T3 nT3 => ?_⟩
      have s6 := same_upd (o := .tup [V.int (k : Int), .ref T1, .ref T2]) nT3
      have s46 := (s4.trans s5).trans s6
      have hrn : rows.length = n := by omega
      refine q _ T3 ⟨k, rows, acc⟩ (s3.trans s46) ⟨T1, T2, rs, SqT.of upd_same, SqT.of (s6 _ _ (s5 _ _ upd_same)), rat.same s46, SqT.of (s6 _ _ upd_same)⟩ ⟨by show acc.length = rows.length; omega, fun r hr => (hro r hr).1, fun r hr x hx => ?_⟩ rfl hrn
      have := (hro r hr).2 x hx
      show -1 ≤ x ∧ x < (rows.length : Int)
      omega
end
end Dg
end

section
set_option maxHeartbeats 4000000
namespace Dg
open PySem PySem.Spec PyProof.Rows L2
section
variable {X : Cx}
/-- what holds behind a statement is told -/
theorem ps_join {s : Stmt} {t : TS} (h : PS X s t) : PS X s (fun D σ H => ∃ J : L2.St → Hp → Prop, t { D with nx := J } σ H ∧ ∀ σ' H', J σ' H' → D.nx σ' H') := by
  refine ⟨fun pins s σ H D I hq => ?_⟩
  obtain ⟨J, h1, h2⟩ := hq
  refine thn (h.run pins s σ H _ I h1) fun f s' hs => ?_
  cases f with
  | next =>
    obtain ⟨σ', H', J', q⟩ := hs
    exact ⟨σ', H', J', h2 _ _ q⟩
  | brk => exact hs
  | cont => exact hs
  | ret u => exact hs
theorem listK (K : PySem.W.Frag) (hK : X.K = K := by rfl) : CallR X (.type "list") (fun xs H Q => ∃ p ys, xs = [.ref p] ∧ (SqL K H p ys ∨ SqT K H p ys) ∧ ∀ l, H l = none → Q (.ref l) (upd H l (.lst ys))) := by
  subst hK
  exact call_list_of
theorem tupleK (K : PySem.W.Frag) (hK : X.K = K := by rfl) : CallR X (.type "tuple") (fun xs H Q => ∃ p ys, xs = [.ref p] ∧ ((SqL K H p ys ∧ ∀ l, H l = none → Q (.ref l) (upd H l (.tup ys))) ∨ (SqT K H p ys ∧ Q (.ref p) H))) := by
  subst hK
  exact call_tuple_of
end
/-- a list of lists, all of one's own -/
structure RL (H0 H : Hp) (S : Addr) (As : List Addr) (rows : List (List Int)) : Prop where
  same : Same H0 H
  s0 : H0 S = none
  s : H S = some (.lst (As.map V.ref))
  len : As.length = rows.length
  nd : As.Nodup
  at_ : ∀ (i : Nat) (A : Addr) (r : List Int), As[i]? = some A → rows[i]? = some r → H0 A = none ∧ A ≠ S ∧ H A = some (.lst (r.map V.int))
section
variable {H0 H : Hp} {S p A : Addr} {As : List Addr} {rows : List (List Int)} {r : List Int} {i : Nat} {o : HO}
theorem RL.other (h : RL H0 H S As rows) (h0 : H0 p = none) (hS : p ≠ S) (hA : p ∉ As) : RL H0 (upd H p o) S As rows where
  same := same_in h0 h.same
  s0 := h.s0
  s := by rw [upd_ne (Ne.symm hS)]; exact h.s
  len := h.len
  nd := h.nd
  at_ := fun i A r e1 e2 => by
    obtain ⟨z1, z2, z3⟩ := h.at_ i A r e1 e2
    exact ⟨z1, z2, by rw [upd_ne (fun q => hA (by rw [← q]; exact List.mem_of_getElem? e1))]; exact z3⟩
theorem RL.notin (h : RL H0 H S As rows) (hp : H p = none) : p ≠ S ∧ p ∉ As := by
  refine ⟨fun z => ?_, fun z => ?_⟩
  · rw [z, h.s] at hp
    cases hp
  · obtain ⟨i, hi⟩ := List.mem_iff_getElem?.mp z
    obtain ⟨r, hr⟩ := getE (l := rows) (i := i) (by rw [← h.len]; exact (List.getElem?_eq_some_iff.mp hi).1)
    obtain ⟨_, _, q⟩ := h.at_ i p _ hi hr
    rw [hp] at q
    cases q
theorem RL.new (h : RL H0 H S As rows) (hp : H p = none) : RL H0 (upd H p o) S As rows := h.other (h.same.free hp) (h.notin hp).1 (h.notin hp).2
theorem RL.put (h : RL H0 H S As rows) (hA : As[i]? = some A) (hr : rows[i]? = some r) (r' : List Int) : RL H0 (upd H A (.lst (r'.map V.int))) S As (rows.set i r') := by
  obtain ⟨z1, z2, z3⟩ := h.at_ i A r hA hr
  refine ⟨same_in z1 h.same, h.s0, by rw [upd_ne (Ne.symm z2)]; exact h.s, by rw [List.length_set]; exact h.len, h.nd, fun j B l' e1 e2 => ?_⟩
  by_cases q : i = j
  · subst q
    rw [hA] at e1
    cases e1
    rw [List.getElem?_set_self (List.getElem?_eq_some_iff.mp hr).1] at e2
    cases e2
    exact ⟨z1, z2, upd_same⟩
  · rw [List.getElem?_set_ne q] at e2
    obtain ⟨y1, y2, y3⟩ := h.at_ j B l' e1 e2
    refine ⟨y1, y2, ?_⟩
    rw [upd_ne (fun z => q (nodup_inj h.nd hA (by rw [← z]; exact e1)))]
    exact y3
/-- one more list -/
theorem RL.snoc (h : RL H0 H S As rows) (h0 : H0 A = none) (hS : A ≠ S) (hA : A ∉ As) (e : H A = some (.lst (r.map V.int))) : RL H0 (upd H S (.lst ((As ++ [A]).map V.ref))) S (As ++ [A]) (rows ++ [r]) := by
  refine ⟨same_in h.s0 h.same, h.s0, upd_same, by rw [List.length_append, List.length_append, h.len]; rfl, List.nodup_append.mpr ⟨h.nd, by simp, fun x hx y hy e => hA (by rw [← List.mem_singleton.mp hy, ← e]; exact hx)⟩, fun i B r' e1 e2 => ?_⟩
  have hl := h.len
  rcases snoc_at e1 with ⟨l1, e1⟩ | ⟨l1, e1⟩
  · rcases snoc_at e2 with ⟨l2, e2⟩ | ⟨l2, e2⟩
    · obtain ⟨z1, z2, z3⟩ := h.at_ i B r' e1 e2
      exact ⟨z1, z2, (upd_ne z2).trans z3⟩
    · omega
  · rcases snoc_at e2 with ⟨l2, e2⟩ | ⟨l2, e2⟩
    · omega
    · subst e1 e2
      exact ⟨h0, hS, (upd_ne hS).trans e⟩
end
/-- rows and ends that fit -/
structure WF (k n : Nat) (rows : List (List Int)) (acc : List Bool) : Prop where
  num : rows.length = n
  acc : acc.length = n
  row : ∀ (i : Nat) (r : List Int), rows[i]? = some r → r.length = k ∧ ∀ x ∈ r, -1 ≤ x ∧ x < (n : Int)
theorem WF.ok {k n : Nat} {rows : List (List Int)} {acc : List Bool} (h : WF k n rows acc) : (⟨k, rows, acc⟩ : Mach).Ok := by
  refine ⟨h.acc.trans h.num.symm, fun r hr => ?_, fun r hr x hx => ?_⟩
  · obtain ⟨i, hi⟩ := List.mem_iff_getElem?.mp hr
    exact (h.row i r hi).1
  · obtain ⟨i, hi⟩ := List.mem_iff_getElem?.mp hr
    have := (h.row i r hi).2 x hx
    rw [← h.num] at this
    exact this
theorem WF.of {M : Mach} (o : M.Ok) : WF M.k M.rows.length M.rows M.acc := ⟨rfl, o.acc, fun i r hr => ⟨o.row r (List.mem_of_getElem? hr), o.ent r (List.mem_of_getElem? hr)⟩⟩
theorem WF.bset {k n : Nat} {rows : List (List Int)} {acc : List Bool} (h : WF k n rows acc) (i : Nat) (b : Bool) : WF k n rows (acc.set i b) := ⟨h.num, by rw [List.length_set]; exact h.acc, h.row⟩
theorem WF.rset {k n : Nat} {rows : List (List Int)} {acc : List Bool} (h : WF k n rows acc) {i j : Nat} {r : List Int} {x : Int} (hr : rows[i]? = some r) (hx : -1 ≤ x ∧ x < (n : Int)) : WF k n (rows.set i (r.set j x)) acc := by
  refine ⟨by rw [List.length_set]; exact h.num, h.acc, fun i' r' e => ?_⟩
  obtain ⟨h1, h2⟩ := h.row i r hr
  by_cases q : i = i'
  · subst q
    rw [List.getElem?_set_self (List.getElem?_eq_some_iff.mp hr).1] at e
    have e2 := Option.some.inj e
    subst e2
    refine ⟨by rw [List.length_set]; exact h1, fun y hy => ?_⟩
    rcases List.mem_or_eq_of_mem_set hy with z | z
    · exact h2 y z
    · rw [z]
      exact hx
  · rw [List.getElem?_set_ne q] at e
    exact h.row i' r' e
theorem WF.snoc {k n : Nat} {rows : List (List Int)} {acc : List Bool} (h : WF k n rows acc) {i : Nat} {r : List Int} (b : Bool) (hr : rows[i]? = some r) : WF k (n + 1) (rows ++ [r]) (acc ++ [b]) := by
  refine ⟨by rw [List.length_append, h.num]; rfl, by rw [List.length_append, h.acc]; rfl, fun i' r' e => ?_⟩
  rcases snoc_at e with ⟨_, e⟩ | ⟨_, e⟩
  · obtain ⟨h1, h2⟩ := h.row i' r' e
    exact ⟨h1, fun x hx => ⟨(h2 x hx).1, by have := (h2 x hx).2; omega⟩⟩
  · subst e
    obtain ⟨h1, h2⟩ := h.row i _ hr
    exact ⟨h1, fun x hx => ⟨(h2 x hx).1, by have := (h2 x hx).2; omega⟩⟩
abbrev sSec : Stmt := top 43
abbrev nSec : List Str := ["_law_machine_here", "_law_numbers_here", "_law_kind", "_law_row", "_law_moves", "_law_accepting", "_law_state", "_law_letter"]
theorem scSec : FnScope nSec ["_law_machine_here", "_law_numbers_here"] (defScope sSec) := ⟨rfl, rfl, rfl, by decide +kernel, rfl, by decide +kernel, by decide +kernel⟩
def spSec (K : PySem.W.Frag) : Sp := fun vs H Q _ => ∃ (a L : Addr) (M : Mach) (ns : List Int), vs = [.ref a, .ref L] ∧ MachAt K H a M ∧ M.Ok ∧ M.k ≤ 1000 ∧ M.rows.length ≤ 8 ∧ SqL K H L (ns.map V.int) ∧ 5 ≤ ns.length ∧ ns.length ≤ 1000 ∧
  ∀ H' p N, Same H H' → MachAt K H' p N → N.Ok → N.k = M.k → N.rows.length ≤ 9 → Q (.ref p) H'
section
variable {P : Program} {w : World} {K : PySem.W.Frag} {mg : Str → Option Value} {base : Heap} {f fM : Addr} {fd fdM : FuncData}
theorem ok_sec (F : Fun K "_law_second" "_law_second" sSec f fd) (GM : FnOk P w K mg base CX0 1 fM fdM pMac (spMac K)) (kM : PySem.W.keepIn K (.ref fM) = true) (bM : Binds K fdM pMac []) (mM : mg "_law_machine" = some (.ref fM))
    (mr : mg "range" = none) (ml : mg "len" = none) (mli : mg "list" = none) (mt : mg "tuple" = none) : FnOk P w K mg base CX0 2 f fd ["_law_machine_here", "_law_numbers_here"] (spSec K) := by
  refine F.ok scSec (fun vs H Q E h => ?_) (fun cdv A outer s H vs Q E hr h => ?_)
  · obtain ⟨a, L, M, ns, rfl, _⟩ := h
    rfl
  · obtain ⟨a, L, M, ns, rfl, hM, o, hk, hn, hL, hns, hns2, q⟩ := h
    obtain ⟨b, c, ra, h⟩ := id hM
    have nd := scSec.nd
    refine ⟨_, pss_cons (ps_set (i := 2) nd rfl (Or.inl rfl) (pe_op op_mod (pe_ix ix_list (pv 1) pe_int (fun _ _ => rfl)) pe_int))
      (pss_cons (ps_if (PW.pt (pw_or (pt_cmpR op_lt (pv 2) pe_int (nomark _)) (pw_or (pt_cmpR op_eq (pe_callB call_len_seq (by rfl) ml PySem.boot_len (pa_cons (pe_ix ix_tup (pv 0) pe_int (fun _ _ => rfl)) pa_nil)) pe_int (nomark _)) (pw_or1 (pt_cmpR op_eq (pe_ix ix_tup (pv 0) pe_int (fun _ _ => rfl)) pe_int (nomark _))))))
        (pss_one (ps_ret (pe_call GM hr (by rfl) mM kM bM .nil pass0 (pa_cons (pv 1) (pa_cons pe_int (pa_cons (pe_ix ix_tup (pv 0) pe_int (fun _ _ => rfl)) (pa_cons (pe_op op_mod (pe_ix ix_list (pv 1) pe_int (fun _ _ => rfl)) pe_int) (pa_cons (pe_op op_mod (pe_ix ix_list (pv 1) pe_int (fun _ _ => rfl)) pe_int) pa_nil)))))))) pss_nil)
      (pss_cons (ps_setLc (i := 4) (own := [("_law_row", 3)]) (g := gName 3) rfl nd rfl rfl (sw_true rfl rfl rfl (by decide +kernel)) (pi_tup (pe_ix ix_tup (pv 0) pe_int (fun _ _ => rfl))) (blkOk_by (N := nSec) (sc := defScope sSec) (by decide +kernel))
          (fun _ _ _ _ _ => pg_name (i := 3) nd rfl (Or.inl rfl)) (fun _ _ _ _ _ => pts_nil) (fun _ _ _ _ _ => pe_callTy (listK K) (by rfl) mli (by decide +kernel) (pa_cons (pv 3) pa_nil)))
      (pss_cons (ps_set (i := 5) nd rfl (Or.inl rfl) (pe_callTy (listK K) (by rfl) mli (by decide +kernel) (pa_cons (pe_ix ix_tup (pv 0) pe_int (fun _ _ => rfl)) pa_nil)))
      (pss_cons (ps_set (i := 6) nd rfl (Or.inl rfl) (pe_op op_mod (pe_ix ix_list (pv 1) pe_int (fun _ _ => rfl)) (pe_callB call_len_seq (by rfl) ml PySem.boot_len (pa_cons (pv 4) pa_nil))))
      (pss_cons (ps_join (ps_if (pt_cmpR op_eq (pv 2) pe_int (nomark _)) (pss_one (ps_asg (pe_not (pe_ix ix_list (pv 5) (pv 6) (fun _ _ => rfl))) (pg_sub (pv 5) (pv 6) set_list))) pss_nil))
      (pss_cons (ps_join (ps_if (pt_cmpR op_eq (pv 2) pe_int (nomark _)) (pss_one (ps_asg (pe_op op_sub (pe_op op_mod (pe_ix ix_list (pv 1) pe_int (fun _ _ => rfl)) (pe_op op_add (pe_callB call_len_seq (by rfl) ml PySem.boot_len (pa_cons (pv 4) pa_nil)) pe_int)) pe_int)
          (pg_sub (pe_ix ix_list (pv 4) (pv 6) (fun _ _ => rfl)) (pe_op op_mod (pe_ix ix_list (pv 1) pe_int (fun _ _ => rfl)) (pe_ix ix_tup (pv 0) pe_int (fun _ _ => rfl))) set_list))) pss_nil))
      (pss_cons (ps_join (ps_if (pt_cmpR op_eq (pv 2) pe_int (nomark _))
        (pss_cons (ps_expr (pe_bm PySem.F.plainAttrs_list PySem.F.slot_list_append PySem.F.type_list_append mt_append (pv 4) (pa_cons (pe_callTy (listK K) (by rfl) mli (by decide +kernel) (pa_cons (pe_ix ix_list (pv 4) (pv 6) (fun _ _ => rfl)) pa_nil)) pa_nil)))
        (pss_cons (ps_expr (pe_bm PySem.F.plainAttrs_list PySem.F.slot_list_append PySem.F.type_list_append mt_append (pv 5) (pa_cons (pe_ix ix_list (pv 5) (pv 6) (fun _ _ => rfl)) pa_nil)))
        (pss_one (ps_for PassesOwn.never rfl (pi_list (pv 4)) (pg_name (i := 3) nd rfl (Or.inl rfl))
          (pss_one (ps_for PassesOwn.never rfl (pi_range1 (by rfl) mr (pa_cons (pe_ix ix_tup (pv 0) pe_int (fun _ _ => rfl)) pa_nil)) (pg_name (i := 7) nd rfl (Or.inl rfl))
            (pss_one (ps_if (PW.pt (pw_and (pt_cmpR op_eq (pe_ix ix_list (pv 3) (pv 7) (fun _ _ => rfl)) (pv 6) (nomark _)) (pw_and1 (pt_cmpR op_eq (pe_op op_mod (pe_op op_fdiv (pe_ix ix_list (pv 1) pe_int (fun _ _ => rfl)) (pe_op op_add pe_int (pv 7))) pe_int) pe_int (nomark _)))))
              (pss_one (ps_asg (pe_op op_sub (pe_callB call_len_seq (by rfl) ml PySem.boot_len (pa_cons (pv 4) pa_nil)) pe_int) (pg_sub (pv 3) (pv 7) set_list))) pss_nil)))))))) pss_nil))
      (pss_one (ps_ret (pe_tup (pa_cons (pe_ix ix_tup (pv 0) pe_int (fun _ _ => rfl)) (pa_cons (pe_callTy (tupleK K) (by rfl) mt (by decide +kernel) (pa_cons (pe_lc (own := [("_law_row", 3)]) (g := gName 3) rfl nd (pi_list (pv 4)) (blkOk_by (N := nSec) (sc := defScope sSec) (by decide +kernel))
          (fun _ _ _ _ _ => pg_name (i := 3) nd rfl (Or.inl rfl)) (fun _ _ _ _ _ => pts_nil) (fun _ _ _ _ _ => pe_callTy (tupleK K) (by rfl) mt (by decide +kernel) (pa_cons (pv 3) pa_nil))) pa_nil)) (pa_cons (pe_callTy (tupleK K) (by rfl) mt (by decide +kernel) (pa_cons (pv 5) pa_nil)) pa_nil))))))))))))), ?_⟩
    have hnl : (ns.map V.int).length = ns.length := List.length_map _
    obtain ⟨z0, e0⟩ := getE (l := ns) (i := 0) (by omega)
    obtain ⟨z1, e1⟩ := getE (l := ns) (i := 1) (by omega)
    obtain ⟨z2, e2⟩ := getE (l := ns) (i := 2) (by omega)
    obtain ⟨z3, e3⟩ := getE (l := ns) (i := 3) (by omega)
    obtain ⟨z4, e4⟩ := getE (l := ns) (i := 4) (by omega)
    have hral : (ra.map V.ref).length = M.rows.length := by rw [List.length_map]; exact h.r.1
    refine ⟨_, rfl, L, _, 0, .int z0, rfl, rfl, hL, atT (j := 0) rfl (getI e0), _, _, rfl, rfl, (by decide : (0 : Int) < 6), ?_⟩
    refine ⟨_, rfl, _, _, rfl, rfl, _, rfl, ite2 (fun _ => ?_) (fun _ => ?_)⟩
    · refine ⟨_, rfl, _, rfl, a, _, 0, _, rfl, rfl, h.t, rfl, _, rfl, L, _, 1, .int z1, rfl, rfl, hL, atT (j := 1) rfl (getI e1), _, _, rfl, rfl, (by decide : (0 : Int) < 7), _, rfl, L, _, 2, .int z2, rfl, rfl, hL, atT (j := 2) rfl (getI e2), _, _, rfl, rfl, (by decide : (0 : Int) < 4), ?_⟩
      exact ⟨L, 5, M.k, (z1 % 7).toNat, z2 % 4, ns, by rw [Int.toNat_of_nonneg (by omega)]; rfl, hL, by omega, hns2, hk, by omega, fun H' p N s' hm ok hkN hnN => q H' p N s' hm ok hkN (by omega)⟩
    refine ⟨_, rfl, a, _, 1, .ref b, rfl, rfl, h.t, rfl, b, _, rfl, .inr h.b, rfl, _, rfl, ite2 (fun _ => ?_) (fun e => ?_)⟩
    · refine ⟨_, rfl, _, rfl, a, _, 0, _, rfl, rfl, h.t, rfl, _, rfl, L, _, 1, .int z1, rfl, rfl, hL, atT (j := 1) rfl (getI e1), _, _, rfl, rfl, (by decide : (0 : Int) < 7), _, rfl, L, _, 2, .int z2, rfl, rfl, hL, atT (j := 2) rfl (getI e2), _, _, rfl, rfl, (by decide : (0 : Int) < 4), ?_⟩
      exact ⟨L, 5, M.k, (z1 % 7).toNat, z2 % 4, ns, by rw [Int.toNat_of_nonneg (by omega)]; rfl, hL, by omega, hns2, hk, by omega, fun H' p N s' hm ok hkN hnN => q H' p N s' hm ok hkN (by omega)⟩
    have hn0 : 0 < M.rows.length := by
      have : ¬ (((ra.map V.ref).length : Nat) : Int) = 0 := fun z => e (decide_eq_true (by rw [z]))
      omega
    clear e
    refine ⟨_, rfl, a, _, 0, _, rfl, rfl, h.t, rfl, rfl, _, rfl, ite2 (fun _ => ?_) (fun e => ?_)⟩
    · refine ⟨_, rfl, _, rfl, a, _, 0, _, rfl, rfl, h.t, rfl, _, rfl, L, _, 1, .int z1, rfl, rfl, hL, atT (j := 1) rfl (getI e1), _, _, rfl, rfl, (by decide : (0 : Int) < 7), _, rfl, L, _, 2, .int z2, rfl, rfl, hL, atT (j := 2) rfl (getI e2), _, _, rfl, rfl, (by decide : (0 : Int) < 4), ?_⟩
      exact ⟨L, 5, M.k, (z1 % 7).toNat, z2 % 4, ns, by rw [Int.toNat_of_nonneg (by omega)]; rfl, hL, by omega, hns2, hk, by omega, fun H' p N s' hm ok hkN hnN => q H' p N s' hm ok hkN (by omega)⟩
    have hk0 : 0 < M.k := by
      have : ¬ ((M.k : Nat) : Int) = 0 := fun z => e (decide_eq_true (by rw [z]))
      omega
    clear e
    -- moves
    refine ⟨_, rfl, a, _, 1, .ref b, rfl, rfl, h.t, rfl, b, rfl, ⟨_, h.b⟩, fun Mv nMv => ?_⟩
    refine lc_tup (K := K) (a := b) (xs := ra.map V.ref) (fun i H' => ∃ As : List Addr, As.length = i ∧ RL H H' Mv As (M.rows.take i))
      ⟨[], rfl, same_upd nMv, nMv, upd_same, rfl, List.nodup_nil, fun i A l e => absurd e (by simp)⟩ (fun i H' _ ⟨As, _, z⟩ => Same.tup z.same h.b) ?_ ?_
    · rintro i x H' hx ⟨As, eA, z⟩
      have hi : i < M.rows.length := by have := (List.getElem?_eq_some_iff.mp hx).1; omega
      obtain ⟨p, _, r2, r3⟩ := h.row hi
      have hx1 : V.ref p = x := Option.some.inj (r2.symm.trans hx)
      subst hx1
      refine ⟨rfl, _, rfl, p, _, rfl, .inr (Same.tup z.same r3), fun A nA => ?_⟩
      have zn := z.new (o := .lst (M.rows[i].map V.int)) nA
      have nn := z.notin nA
      refine ⟨As.map V.ref, zn.s, by rw [List.length_map, eA]; exact small1000 (by omega), As ++ [A], by rw [List.length_append, eA]; rfl, ?_⟩
      rw [refV_snoc, take_succ_get (List.getElem?_eq_getElem hi)]
      exact zn.snoc (z.same.free nA) nn.1 nn.2 upd_same
    rintro H1 ⟨As, eAs, rl⟩
    rw [List.take_of_length_le (by omega)] at rl
    -- accepting
    refine ⟨_, rfl, a, _, 2, .ref c, rfl, rfl, (h.same rl.same).t, rfl, c, _, rfl, .inr (h.same rl.same).c, fun Ac nAc => ?_⟩
    have nAc0 := rl.same.free nAc
    obtain ⟨nAM, nAAs⟩ := rl.notin nAc
    have rl2 := rl.new (o := .lst (M.acc.map V.bl)) nAc
    have eAc2 : (upd H1 Ac (.lst (M.acc.map V.bl))) Ac = some (.lst (M.acc.map V.bl)) := upd_same
    generalize upd H1 Ac (.lst (M.acc.map V.bl)) = H2 at rl2 eAc2 ⊢
    clear rl nAc
    have hAl : (As.map V.ref).length = M.rows.length := by rw [List.length_map]; omega
    have zb1 := Int.emod_nonneg z1 (show (M.rows.length : Int) ≠ 0 by omega)
    have zb2 := Int.emod_lt_of_pos z1 (show (0 : Int) < (M.rows.length : Int) by omega)
    obtain ⟨st, est⟩ : ∃ st : Nat, z1 % (M.rows.length : Int) = (st : Int) := ⟨_, (Int.toNat_of_nonneg zb1).symm⟩
    have hst : st < M.rows.length := by omega
    refine ⟨_, rfl, L, _, 1, .int z1, rfl, rfl, rl2.same.seq hL, atT (j := 1) rfl (getI e1), _, rfl, Mv, _, rfl, .inl (SqL.of rl2.s), _, _, rfl, rfl, (by rw [hAl]; omega : (0 : Int) < (((As.map V.ref).length : Nat) : Int)), ?_⟩
    rw [show (fun i j : Int => V.int (i % j)) z1 (((As.map V.ref).length : Nat) : Int) = V.int (st : Int) from by show V.int (z1 % (((As.map V.ref).length : Nat) : Int)) = _; rw [hAl, est]]
    obtain ⟨Ast, eAst⟩ := getE (l := As) (i := st) (by omega)
    -- one end changed
    refine ⟨fun σ H' => ∃ (rows : List (List Int)) (acc : List Bool) (x3 x7 : Option V), σ = [some (.ref a), some (.ref L), some (.int (z0 % 6)), x3, some (.ref Mv), some (.ref Ac), some (.int (st : Int)), x7] ∧ RL H H' Mv As rows ∧ H' Ac = some (.lst (acc.map V.bl)) ∧ WF M.k M.rows.length rows acc, ?_, ?_⟩
    · refine ⟨_, rfl, rfl, _, rfl, ite2 (fun _ => ?_) (fun _ => ⟨_, _, _, _, rfl, rl2, eAc2, WF.of o⟩)⟩
      obtain ⟨bv, ebv⟩ := getE (l := M.acc) (i := st) (by rw [o.acc]; exact hst)
      refine ⟨_, rfl, _, rfl, Ac, _, _, .bl bv, rfl, rfl, SqL.of eAc2, atT rfl (getI ebv), bv, rfl, _, rfl, _, rfl, Ac, _, _, st, rfl, rfl, eAc2, ixNat (by rw [List.length_map, o.acc]; exact hst), ?_⟩
      have em : (M.acc.map V.bl).set st (V.bl (!bv)) = (M.acc.set st (!bv)).map V.bl := by rw [List.map_set]
      rw [em]
      exact ⟨_, _, _, _, rfl, rl2.other nAc0 nAM nAAs, upd_same, (WF.of o).bset _ _⟩
    clear rl2 eAc2
    rintro σ H3 ⟨rows, acc, x3, x7, rfl, rl3, eAc3, wf3⟩
    -- one entry changed
    refine ⟨fun σ H' => ∃ (rows : List (List Int)) (acc : List Bool) (x3 x7 : Option V), σ = [some (.ref a), some (.ref L), some (.int (z0 % 6)), x3, some (.ref Mv), some (.ref Ac), some (.int (st : Int)), x7] ∧ RL H H' Mv As rows ∧ H' Ac = some (.lst (acc.map V.bl)) ∧ WF M.k M.rows.length rows acc, ?_, ?_⟩
    · refine ⟨_, rfl, rfl, _, rfl, ite2 (fun _ => ?_) (fun _ => ⟨_, _, _, _, rfl, rl3, eAc3, wf3⟩)⟩
      obtain ⟨r, er⟩ := getE (l := rows) (i := st) (by rw [wf3.num]; exact hst)
      obtain ⟨_, _, eR⟩ := rl3.at_ st Ast r eAst er
      have hrl := (wf3.row st r er).1
      have y1 := Int.emod_nonneg z2 (show (M.k : Int) ≠ 0 by omega)
      have y2 := Int.emod_lt_of_pos z2 (show (0 : Int) < (M.k : Int) by omega)
      obtain ⟨j, ej⟩ : ∃ j : Nat, z2 % (M.k : Int) = (j : Int) := ⟨_, (Int.toNat_of_nonneg y1).symm⟩
      have w1 := Int.emod_nonneg z3 (show (M.rows.length : Int) + 1 ≠ 0 by omega)
      have w2 := Int.emod_lt_of_pos z3 (show (0 : Int) < (M.rows.length : Int) + 1 by omega)
      have hL3 := rl3.same.seq hL
      refine ⟨_, rfl, L, _, 3, .int z3, rfl, rfl, hL3, atT (j := 3) rfl (getI e3), _, rfl, Mv, _, rfl, .inl (SqL.of rl3.s), _, _, rfl, rfl, _, _, rfl, rfl, (by omega : (0 : Int) < (((As.map V.ref).length : Nat) : Int) + 1), _, _, rfl, rfl, ?_⟩
      refine ⟨_, rfl, _, rfl, Mv, _, _, .ref Ast, rfl, rfl, SqL.of rl3.s, atT rfl (getI eAst), _, rfl, L, _, 2, .int z2, rfl, rfl, hL3, atT (j := 2) rfl (getI e2), _, rfl, a, _, 0, _, rfl, rfl, (h.same rl3.same).t, rfl, _, _, rfl, rfl, (by omega : (0 : Int) < (M.k : Int)), Ast, _, _, j, rfl, rfl, eR, ?_, ?_⟩
      · rw [ej]
        exact ixNat (by rw [List.length_map, hrl]; omega)
      · have em : (r.map V.int).set j (V.int (z3 % ((((As.map V.ref).length : Nat) : Int) + 1) - 1)) = (r.set j (z3 % ((((As.map V.ref).length : Nat) : Int) + 1) - 1)).map V.int := by rw [List.map_set]
        rw [em]
        refine ⟨_, acc, _, _, rfl, rl3.put eAst er _, ?_, wf3.rset er ?_⟩
        · rw [upd_ne (fun z => nAAs (by rw [z]; exact List.mem_of_getElem? eAst))]
          exact eAc3
        · rw [hAl]
          omega
    clear rl3 eAc3 wf3 rows acc x3 x7
    rintro σ H3 ⟨rows, acc, x3, x7, rfl, rl3, eAc3, wf3⟩
    -- one state twice
    refine ⟨fun σ H' => ∃ (n' : Nat) (As : List Addr) (rows : List (List Int)) (acc : List Bool) (x3 x7 : Option V), σ = [some (.ref a), some (.ref L), some (.int (z0 % 6)), x3, some (.ref Mv), some (.ref Ac), some (.int (st : Int)), x7] ∧ RL H H' Mv As rows ∧ Ac ∉ As ∧ H' Ac = some (.lst (acc.map V.bl)) ∧ WF M.k n' rows acc ∧ n' ≤ 9, ?_, ?_⟩
    · refine ⟨_, rfl, rfl, _, rfl, ite2 (fun _ => ?_) (fun _ => ⟨_, _, _, _, _, _, rfl, rl3, nAAs, eAc3, wf3, by omega⟩)⟩
      obtain ⟨r, er⟩ := getE (l := rows) (i := st) (by rw [wf3.num]; exact hst)
      obtain ⟨_, _, eR⟩ := rl3.at_ st Ast r eAst er
      obtain ⟨bv, ebv⟩ := getE (l := acc) (i := st) (by rw [wf3.acc]; exact hst)
      refine ⟨_, rfl, .inl ⟨rfl, _, SqL.of rl3.s⟩, _, rfl, _, rfl, Mv, _, _, .ref Ast, rfl, rfl, SqL.of rl3.s, atT rfl (getI eAst), Ast, _, rfl, .inl (SqL.of eR), fun A2 nA2 => ?_⟩
      have rl4 := rl3.new (o := .lst (r.map V.int)) nA2
      obtain ⟨m1, m2⟩ := rl3.notin nA2
      have eA2 : (upd H3 A2 (.lst (r.map V.int))) A2 = some (.lst (r.map V.int)) := upd_same
      have nA20 := rl3.same.free nA2
      have eAc4 : (upd H3 A2 (.lst (r.map V.int))) Ac = some (.lst (acc.map V.bl)) := (upd_ne (ne_of_none eAc3 nA2)).trans eAc3
      have nAcA2 : Ac ≠ A2 := ne_of_none eAc3 nA2
      generalize upd H3 A2 (.lst (r.map V.int)) = H4 at rl4 eA2 eAc4 ⊢
      refine ⟨Mv, _, _, rfl, rfl, rl4.s, by rw [hAl]; exact small1000 (by omega), ?_⟩
      rw [refV_snoc]
      have rl5 := rl4.snoc nA20 m1 m2 eA2
      have eAc5 : (upd H4 Mv (.lst ((As ++ [A2]).map V.ref))) Ac = _ := (upd_ne nAM).trans eAc4
      generalize upd H4 Mv (.lst ((As ++ [A2]).map V.ref)) = H5 at rl5 eAc5 ⊢
      have nAAs2 : Ac ∉ As ++ [A2] := fun z => by
        rcases List.mem_append.mp z with z | z
        · exact nAAs z
        · exact nAcA2 (List.mem_singleton.mp z)
      refine ⟨_, rfl, .inl ⟨rfl, _, SqL.of eAc5⟩, _, rfl, _, rfl, Ac, _, _, .bl bv, rfl, rfl, SqL.of eAc5, atT rfl (getI ebv), Ac, _, _, rfl, rfl, eAc5, by rw [List.length_map, wf3.acc]; exact small1000 (by omega), ?_⟩
      have eaB : acc.map V.bl ++ [V.bl bv] = (acc ++ [bv]).map V.bl := by rw [List.map_append]; rfl
      rw [eaB]
      have rl6 := rl5.other (o := .lst ((acc ++ [bv]).map V.bl)) nAc0 nAM nAAs2
      have eAc6 : (upd H5 Ac (.lst ((acc ++ [bv]).map V.bl))) Ac = _ := upd_same
      have wf6 := wf3.snoc bv er
      generalize upd H5 Ac (.lst ((acc ++ [bv]).map V.bl)) = H6 at rl6 eAc6 ⊢
      generalize acc ++ [bv] = acc6 at eAc6 wf6
      have hAl2 : ((As ++ [A2]).map V.ref).length = M.rows.length + 1 := by rw [List.length_map, List.length_append]; show As.length + 1 = _; omega
      generalize hAs2 : As ++ [A2] = As2 at rl6 nAAs2 hAl2
      generalize hrows2 : rows ++ [r] = rows2 at rl6 wf6
      refine ⟨_, rfl, Mv, rfl, ⟨_, SqL.of rl6.s⟩, ?_⟩
      refine for_list (K := K) (a := Mv) (xs := As2.map V.ref) (fun i σ H' => ∃ (rows : List (List Int)) (x3 x7 : Option V), σ = [some (.ref a), some (.ref L), some (.int (z0 % 6)), x3, some (.ref Mv), some (.ref Ac), some (.int (st : Int)), x7] ∧ RL H H' Mv As2 rows ∧ H' Ac = some (.lst (acc6.map V.bl)) ∧ WF M.k (M.rows.length + 1) rows acc6)
        ⟨_, _, _, rfl, rl6, eAc6, wf6⟩ (fun i σ H' _ ⟨_, _, _, _, z, _⟩ => SqL.of z.s) ?_ ?_
      · rintro i x σ H7 hx ⟨rows, x3, x7, rfl, rl7, eAc7, wf7⟩
        obtain ⟨Ai, eAi⟩ := getE (l := As2) (i := i) (by have := (List.getElem?_eq_some_iff.mp hx).1; rw [List.length_map] at this; exact this)
        have hx1 : V.ref Ai = x := Option.some.inj ((getI (f := V.ref) eAi).symm.trans hx)
        subst hx1
        have hAiAc : Ac ≠ Ai := fun z => nAAs2 (by rw [z]; exact List.mem_of_getElem? eAi)
        refine ⟨_, rfl, a, _, 0, _, rfl, rfl, (h.same rl7.same).t, rfl, _, rfl, by omega, by omega, ?_⟩
        refine for_range (lo := 0) (n := ((M.k : Nat) : Int).toNat) (fun j σ H' => ∃ (rows : List (List Int)) (x7 : Option V), σ = [some (.ref a), some (.ref L), some (.int (z0 % 6)), some (.ref Ai), some (.ref Mv), some (.ref Ac), some (.int (st : Int)), x7] ∧ RL H H' Mv As2 rows ∧ H' Ac = some (.lst (acc6.map V.bl)) ∧ WF M.k (M.rows.length + 1) rows acc6)
          ⟨_, _, rfl, rl7, eAc7, wf7⟩ ?_ ?_
        · rintro j σ H8 hj ⟨rows, x7, rfl, rl8, eAc8, wf8⟩
          rw [Int.zero_add]
          obtain ⟨ri, eri⟩ := getE (l := rows) (i := i) (by rw [← rl8.len]; exact (List.getElem?_eq_some_iff.mp eAi).1)
          obtain ⟨_, _, eRi⟩ := rl8.at_ i Ai ri eAi eri
          have hril := (wf8.row i ri eri).1
          obtain ⟨x, ex⟩ := getE (l := ri) (i := j) (by omega)
          refine ⟨_, rfl, _, rfl, Ai, _, _, .int x, rfl, rfl, SqL.of eRi, atT rfl (getI ex), _, rfl, rfl, _, rfl, ite2 (fun _ => ?_) (fun _ => ⟨_, _, rfl, rl8, eAc8, wf8⟩)⟩
          refine ⟨_, rfl, L, _, 4, .int z4, rfl, rfl, rl8.same.seq hL, atT (j := 4) rfl (getI e4), _, rfl, _, _, rfl, rfl, _, _, rfl, rfl, ⟨by omega, by omega⟩, _, _, rfl, rfl, (by decide : (0 : Int) < 2), rfl, _, rfl, ite2 (fun _ => ?_) (fun _ => ⟨_, _, rfl, rl8, eAc8, wf8⟩)⟩
          refine ⟨_, rfl, Mv, _, rfl, .inl (SqL.of rl8.s), _, _, rfl, rfl, _, rfl, _, rfl, Ai, _, _, j, rfl, rfl, eRi, ixNat (by rw [List.length_map, hril]; omega), ?_⟩
          have em : (ri.map V.int).set j (V.int ((((As2.map V.ref).length : Nat) : Int) - 1)) = (ri.set j ((((As2.map V.ref).length : Nat) : Int) - 1)).map V.int := by rw [List.map_set]
          rw [em]
          exact ⟨_, _, rfl, rl8.put eAi eri _, (upd_ne hAiAc).trans eAc8, wf8.rset eri (by rw [hAl2]; omega)⟩
        · rintro σ H8 ⟨rows, x7, rfl, rl8, eAc8, wf8⟩
          exact ⟨_, _, _, rfl, rl8, eAc8, wf8⟩
      · rintro σ H7 ⟨rows, x3, x7, rfl, rl7, eAc7, wf7⟩
        exact ⟨_, _, _, _, _, _, rfl, rl7, nAAs2, eAc7, wf7, by omega⟩
    clear rl3 eAc3 wf3 rows acc x3 x7 eAst nAAs hAl eAs As
    rintro σ H3 ⟨n', As, rows, acc, x3, x7, rfl, rl3, nAAs, eAc3, wf3, hn'⟩
    refine ⟨_, rfl, a, _, 0, _, rfl, rfl, (h.same rl3.same).t, rfl, _, rfl, Mv, rfl, ⟨_, SqL.of rl3.s⟩, fun D nD => ?_⟩
    have nAD : Ac ≠ D := ne_of_none eAc3 nD
    have nD0 := rl3.same.free nD
    obtain ⟨nDM, nDA⟩ := rl3.notin nD
    refine lc_list (K := K) (a := Mv) (xs := As.map V.ref) (fun i H' => ∃ ts, RL H H' Mv As rows ∧ H' D = some (.lst (ts.map V.ref)) ∧ RowsAt K H' ts (rows.take i) ∧ H' Ac = some (.lst (acc.map V.bl)))
      ⟨[], rl3.new nD, upd_same, ⟨rfl, fun i p r e => absurd e (by simp)⟩, (upd_ne nAD).trans eAc3⟩ (fun i H' _ ⟨_, z, _⟩ => SqL.of z.s) ?_ ?_
    · rintro i x H4 hx ⟨ts, rl4, eD, rat, eAc4⟩
      obtain ⟨Ai, eAi⟩ := getE (l := As) (i := i) (by have := (List.getElem?_eq_some_iff.mp hx).1; rw [List.length_map] at this; exact this)
      have hx1 : V.ref Ai = x := Option.some.inj ((getI (f := V.ref) eAi).symm.trans hx)
      subst hx1
      obtain ⟨ri, eri⟩ := getE (l := rows) (i := i) (by rw [← rl4.len]; exact (List.getElem?_eq_some_iff.mp eAi).1)
      obtain ⟨_, _, eRi⟩ := rl4.at_ i Ai ri eAi eri
      have hil := (List.getElem?_eq_some_iff.mp eri).1
      refine ⟨rfl, _, rfl, Ai, _, rfl, .inl ⟨SqL.of eRi, fun T nT => ?_⟩⟩
      have s5 : Same H4 (upd H4 T (.tup (ri.map V.int))) := same_upd nT
      have eT : (upd H4 T (.tup (ri.map V.int))) T = some (.tup (ri.map V.int)) := upd_same
      have rl5 := rl4.new (o := .tup (ri.map V.int)) nT
      have eD5 := s5 _ _ eD
      have eAc5 := s5 _ _ eAc4
      have rat5 := (rat.same s5).snoc (SqT.of eT)
      generalize upd H4 T (.tup (ri.map V.int)) = H5 at s5 eT rl5 eD5 eAc5 rat5 ⊢
      have htl : ts.length ≤ i := by rw [rat.1, List.length_take]; exact Nat.min_le_left _ _
      have hrn := wf3.num
      refine ⟨_, eD5, by rw [List.length_map]; exact small1000 (by omega), ts ++ [T], rl5.other nD0 nDM nDA, by rw [upd_same, refV_snoc], ?_, (upd_ne nAD).trans eAc5⟩
      rw [take_succ_get eri]
      exact rat5.upd eD5 lst_tup lst_frz
    · rintro H4 ⟨ts, rl4, eD, rat, eAc4⟩
      rw [List.take_of_length_le (by rw [List.length_map, rl4.len]; exact Nat.le_refl _)] at rat
      refine ⟨D, _, rfl, .inl ⟨SqL.of eD, fun T1 nT1 => ?_⟩⟩
      have s5 := same_upd (o := .tup (ts.map V.ref)) nT1
      refine ⟨_, rfl, Ac, _, rfl, .inl ⟨SqL.of (s5 _ _ eAc4), fun T2 nT2 => ?_⟩⟩
      have s6 := same_upd (o := .tup (acc.map V.bl)) nT2
      refine ⟨by show 3 ≤ sizeLine; decide, fun T3 nT3 => ?_⟩
      have s7 := same_upd (o := .tup [V.int (M.k : Int), .ref T1, .ref T2]) nT3
      have s57 := (s5.trans s6).trans s7
      exact q _ T3 ⟨M.k, rows, acc⟩ (rl4.same.trans s57) ⟨T1, T2, ts, SqT.of upd_same, SqT.of (s7 _ _ (s6 _ _ upd_same)), rat.same s57, SqT.of (s7 _ _ upd_same)⟩ wf3.ok rfl (by show rows.length ≤ 9; rw [wf3.num]; exact hn')
end
end Dg
end

section
set_option maxHeartbeats 4000000
namespace Dg
open PySem PySem.Spec PyProof.Rows L2
def pd (p : Pr) : PyData := .tuple [.int p.1, .int p.2]
theorem pd_lay : ∀ ps : List Pr, PyData.canLayAll0 (ps.map pd) = true
  | [] => rfl
  | p :: ps => by
    rw [List.map_cons, PyData.canLayAll0, pd_lay ps]
    rfl
theorem pd_depth : ∀ ps : List Pr, PyData.depthAll (ps.map pd) ≤ 1
  | [] => by decide
  | p :: ps => by
    rw [List.map_cons, PyData.depthAll]
    have h := pd_depth ps
    have h2 : (pd p).depth = 1 := rfl
    omega
theorem pd_shaped (ps : List Pr) : SeqAt.shaped (.list (ps.map pd)) = true := by
  unfold SeqAt.shaped
  have h1 : PyData.canLay0 (.list (ps.map pd)) = true := pd_lay ps
  have h2 : PyData.depth (.list (ps.map pd)) = PyData.depthAll (ps.map pd) + 1 := by rw [PyData.depth]
  have h3 := pd_depth ps
  rw [h1, decide_eq_true (by omega)]
  rfl
theorem pd_any (q : Pr) : ∀ ps : List Pr, (ps.map pd).any (fun z => PyData.eqv z (pd q)) = decide (q ∈ ps)
  | [] => rfl
  | p :: ps => by
    rw [List.map_cons, List.any_cons, pd_any q ps]
    have e : PyData.eqv (pd p) (pd q) = decide (p = q) := eqv_pair _ _ _ _
    rw [e]
    by_cases h : p = q
    · have hm : q ∈ p :: ps := by rw [h]; exact List.mem_cons_self
      rw [decide_eq_true h, decide_eq_true hm]
      rfl
    · rw [decide_eq_false h, Bool.false_or]
      by_cases h2 : q ∈ ps
      · rw [decide_eq_true h2, decide_eq_true (List.mem_cons_of_mem _ h2)]
      · rw [decide_eq_false h2, decide_eq_false (fun z => (List.mem_cons.mp z).elim (fun z => h z.symm) h2)]
theorem pd_all {K : PySem.W.Frag} {H : Hp} : ∀ {ps : List Pr} {ts : List Addr}, TAt H ps ts → DpAll K H (ts.map V.ref) (ps.map pd)
  | [], [], _ => .nil
  | [], t :: ts, h => by have := h.len; cases this
  | p :: ps, [], h => by have := h.len; cases this
  | p :: ps, t :: ts, h => .cons (dp_pair (SqT.of (h.at_ 0 p t rfl rfl))) (pd_all ⟨by have := h.len; simpa using this, fun i p' q e1 e2 => h.at_ (i + 1) p' q e1 e2⟩)
theorem hu65 {k : Nat} {A : Around} (hr : Room k A) : A.units + 65 < cLine := by
  have := hr.un
  omega
theorem op_notInP {X : Cx} (K : PySem.W.Frag) (hK : X.K = K := by rfl) (hu : X.A.units + 65 < cLine) : OpR X (compareOp .NotIn) (fun x y H Q => ∃ (a R : Addr) (q : Pr) (ps : List Pr) (ts : List Addr), x = .ref a ∧ y = .ref R ∧ SqT K H a [.int q.1, .int q.2] ∧ H R = some (.lst (ts.map V.ref)) ∧ TAt H ps ts ∧ Q (.bl (!decide (q ∈ ps))) H) := by
  subst hK
  intro pins s σ H x y v u Q I rx ry h
  obtain ⟨a, R, q, ps, ts, e1, e2, ha, hR, tt, hQ⟩ := h
  refine op_notInD hu pins s σ H x y v u Q I rx ry ⟨pd q, ps.map pd, by rw [e1]; exact dp_pair ha, by rw [e2]; exact .lst (SqL.of hR) (pd_all tt), rfl, pd_shaped ps, ?_⟩
  rw [pd_any]
  exact hQ
abbrev sPrs : Stmt := top 41
abbrev nPrs : List Str := ["_law_first_here", "_law_second_here", "_law_pairs_here", "_law_at", "_law_letter", "_law_pair"]
theorem scPrs : FnScope nPrs ["_law_first_here", "_law_second_here"] (defScope sPrs) := ⟨rfl, rfl, rfl, by decide +kernel, rfl, by decide +kernel, by decide +kernel⟩
def spPrs (K : PySem.W.Frag) : Sp := fun vs H Q _ => ∃ (a a' : Addr) (M N : Mach), vs = [.ref a, .ref a'] ∧ MachAt K H a M ∧ MachAt K H a' N ∧ M.Ok ∧ N.Ok ∧ M.k = N.k ∧ M.k ≤ 1000 ∧ (M.rows.length + 1) * (N.rows.length + 1) ≤ 400 ∧
  ∀ H' R (ps : List Pr) (ts : List Addr) (i : Nat), Same H H' → H' R = some (.lst (ts.map V.ref)) → TAt H' ps ts → PB M N ps i 0 → ps.length ≤ i → Q (.ref R) H'
section
variable {P : Program} {w : World} {K : PySem.W.Frag} {mg : Str → Option Value} {base : Heap} {f fF fN : Addr} {fd fdF fdN : FuncData}
theorem ok_prs (F : Fun K "_law_pairs" "_law_pairs" sPrs f fd)
    (GF : FnOk P w K mg base CX0 1 fF fdF ["_law_machine_here"] (spFstS K)) (kF : PySem.W.keepIn K (.ref fF) = true) (bF : Binds K fdF ["_law_machine_here"] []) (mF : mg "_law_first" = some (.ref fF))
    (GN : FnOk P w K mg base CX0 1 fN fdN ["_law_machine_here", "_law_state", "_law_letter"] (spNxt K)) (kN : PySem.W.keepIn K (.ref fN) = true) (bN : Binds K fdN ["_law_machine_here", "_law_state", "_law_letter"] []) (mN : mg "_law_next" = some (.ref fN))
    (mr : mg "range" = none) (ml : mg "len" = none) : FnOk P w K mg base CX0 2 f fd ["_law_first_here", "_law_second_here"] (spPrs K) := by
  refine F.ok scPrs (fun vs H Q E h => ?_) (fun cdv A outer s H vs Q E hr h => ?_)
  · obtain ⟨a, a', M, N, rfl, _⟩ := h
    rfl
  · obtain ⟨a, a', M, N, rfl, hM, hN, o, o', hk, hk1, hsz, q⟩ := h
    have nd := scPrs.nd
    refine ⟨_, pss_cons (ps_set (i := 2) nd rfl (Or.inl rfl) (pe_lst (pa_cons (pe_tup (pa_cons (pe_call GF hr (by rfl) mF kF bF .nil pass0 (pa_cons (pv 0) pa_nil)) (pa_cons (pe_call GF hr (by rfl) mF kF bF .nil pass0 (pa_cons (pv 1) pa_nil)) pa_nil))) pa_nil)))
      (pss_cons (ps_for PassesOwn.never rfl (pi_range1 (by rfl) mr (pa_cons (pe_op op_mul (pe_op op_add (pe_callB call_len_seq (by rfl) ml PySem.boot_len (pa_cons (pe_ix ix_tup (pv 0) pe_int (fun _ _ => rfl)) pa_nil)) pe_int) (pe_op op_add (pe_callB call_len_seq (by rfl) ml PySem.boot_len (pa_cons (pe_ix ix_tup (pv 1) pe_int (fun _ _ => rfl)) pa_nil)) pe_int)) pa_nil)) (pg_name (i := 3) nd rfl (Or.inl rfl))
        (pss_one (ps_if (pt_cmpR op_lt (pv 3) (pe_callB call_len_seq (by rfl) ml PySem.boot_len (pa_cons (pv 2) pa_nil)) (nomark _))
          (pss_one (ps_for PassesOwn.never rfl (pi_range1 (by rfl) mr (pa_cons (pe_ix ix_tup (pv 0) pe_int (fun _ _ => rfl)) pa_nil)) (pg_name (i := 4) nd rfl (Or.inl rfl))
            (pss_cons (ps_set (i := 5) nd rfl (Or.inl rfl) (pe_tup (pa_cons (pe_call GN hr (by rfl) mN kN bN .nil pass0 (pa_cons (pv 0) (pa_cons (pe_ix ix_tup (pe_ix ix_list (pv 2) (pv 3) (fun _ _ => rfl)) pe_int (fun _ _ => rfl)) (pa_cons (pv 4) pa_nil)))) (pa_cons (pe_call GN hr (by rfl) mN kN bN .nil pass0 (pa_cons (pv 1) (pa_cons (pe_ix ix_tup (pe_ix ix_list (pv 2) (pv 3) (fun _ _ => rfl)) pe_int (fun _ _ => rfl)) (pa_cons (pv 4) pa_nil)))) pa_nil))))
            (pss_one (ps_if (pt_cmpR (op_notInP K (hu := hu65 hr)) (pv 5) (pv 2) (by rfl))
              (pss_one (ps_expr (pe_bm PySem.F.plainAttrs_list PySem.F.slot_list_append PySem.F.type_list_append mt_append (pv 2) (pa_cons (pv 5) pa_nil)))) pss_nil))))) pss_nil)))
      (pss_one (ps_ret (pv 2)))), ?_⟩
    obtain ⟨b, c, ra, h⟩ := id hM
    obtain ⟨b', c', ra', h'⟩ := id hN
    have hl : (ra.map V.ref).length = M.rows.length := by rw [List.length_map]; exact h.r.1
    have hl' : (ra'.map V.ref).length = N.rows.length := by rw [List.length_map]; exact h'.r.1
    refine ⟨_, rfl, a, M, rfl, hM, fun H1 s1 => ⟨_, rfl, a', N, rfl, hN.same s1, fun H2 s2 => ⟨by show 2 ≤ sizeLine; decide, fun T0 nT0 => ?_⟩⟩⟩
    have s3 : Same H2 (upd H2 T0 (.tup [V.int M.init, V.int N.init])) := same_upd nT0
    have eT3 : (upd H2 T0 (.tup [V.int M.init, V.int N.init])) T0 = some (.tup [V.int M.init, V.int N.init]) := upd_same
    have s03 := (s1.trans s2).trans s3
    generalize upd H2 T0 (.tup [V.int M.init, V.int N.init]) = H3 at s3 eT3 s03 ⊢
    refine ⟨by show 1 ≤ sizeLine; decide, fun R nR => ?_⟩
    have s4 : Same H3 (upd H3 R (.lst [V.ref T0])) := same_upd nR
    have eR4 : (upd H3 R (.lst [V.ref T0])) R = some (.lst [V.ref T0]) := upd_same
    have nR0 := s03.free nR
    have s04 := s03.trans s4
    have tt4 : TAt (upd H3 R (.lst [V.ref T0])) [(M.init, N.init)] [T0] := TAt.nil.snoc (s4 _ _ eT3)
    generalize upd H3 R (.lst [V.ref T0]) = H4 at s4 eR4 s04 tt4 ⊢
    clear s1 s2 s3 s4 s03 eT3 nR
    have h4 := h.same s04
    have h4' := h'.same s04
    refine ⟨_, rfl, a, _, 1, .ref b, rfl, rfl, h4.t, rfl, b, _, rfl, .inr h4.b, _, _, rfl, rfl, _, rfl, a', _, 1, .ref b', rfl, rfl, h4'.t, rfl, b', _, rfl, .inr h4'.b, _, _, rfl, rfl, _, _, rfl, rfl, .inl ⟨by have : M.rows.length + 1 ≤ 400 := Nat.le_trans (Nat.le_mul_of_pos_right _ (Nat.succ_pos _)) hsz; omega, by have : M.rows.length + 1 ≤ 400 := Nat.le_trans (Nat.le_mul_of_pos_right _ (Nat.succ_pos _)) hsz; omega⟩, ?_⟩
    have eprod : ((((ra.map V.ref).length : Nat) : Int) + 1) * ((((ra'.map V.ref).length : Nat) : Int) + 1) = (((M.rows.length + 1) * (N.rows.length + 1) : Nat) : Int) := by
      rw [hl, hl']
      push_cast
      rfl
    rw [show (fun i j : Int => V.int (i * j)) ((((ra.map V.ref).length : Nat) : Int) + 1) ((((ra'.map V.ref).length : Nat) : Int) + 1) = V.int (((M.rows.length + 1) * (N.rows.length + 1) : Nat) : Int) from congrArg V.int eprod]
    generalize hmx : (M.rows.length + 1) * (N.rows.length + 1) = mx at hsz
    refine ⟨_, rfl, by omega, by omega, ?_⟩
    refine for_range (lo := 0) (n := ((mx : Nat) : Int).toNat) (fun i σ H' => ∃ (ps : List Pr) (ts : List Addr) (x3 x4 x5 : Option V), σ = [some (.ref a), some (.ref a'), some (.ref R), x3, x4, x5] ∧ Same H H' ∧ H' R = some (.lst (ts.map V.ref)) ∧ TAt H' ps ts ∧ PB M N ps i 0)
      ⟨[(M.init, N.init)], [T0], none, none, none, rfl, s04, eR4, tt4, PB.start⟩ ?_ ?_
    · rintro i σ H5 hi ⟨ps, ts, x3, x4, x5, rfl, s5, eR5, tt5, pb⟩
      rw [Int.zero_add]
      have htl : (ts.map V.ref).length = ps.length := by rw [List.length_map, tt5.len]
      refine ⟨_, rfl, _, rfl, R, _, rfl, .inl (SqL.of eR5), _, _, rfl, rfl, _, rfl, ite2 (fun e => ?_) (fun e => ?_)⟩
      rotate_left
      · have e1 : ¬ (i : Int) < (((ts.map V.ref).length : Nat) : Int) := fun z => e (decide_eq_true z)
        exact ⟨ps, ts, _, _, _, rfl, s5, eR5, tt5, pb.over (by omega)⟩
      have e1 := of_decide_eq_true e
      obtain ⟨p, ep⟩ := getE (l := ps) (i := i) (by omega)
      obtain ⟨l, r⟩ := p
      obtain ⟨t, et⟩ := getE (l := ts) (i := i) (by rw [tt5.len]; omega)
      refine ⟨_, rfl, a, _, 0, _, rfl, rfl, (h.same s5).t, rfl, _, rfl, by omega, by omega, ?_⟩
      refine for_range (lo := 0) (n := ((M.k : Nat) : Int).toNat) (fun bb σ H' => ∃ (ps : List Pr) (ts : List Addr) (x4 x5 : Option V), σ = [some (.ref a), some (.ref a'), some (.ref R), some (.int (i : Int)), x4, x5] ∧ Same H H' ∧ H' R = some (.lst (ts.map V.ref)) ∧ TAt H' ps ts ∧ PB M N ps i bb ∧ ps[i]? = some (l, r) ∧ ts[i]? = some t)
        ⟨ps, ts, x4, x5, rfl, s5, eR5, tt5, pb, ep, et⟩ ?_ ?_
      · clear e1 e htl
        rintro bb σ H6 hbb ⟨ps, ts, x4, x5, rfl, s6, eR6, tt6, pb, ep, et⟩
        rw [Int.zero_add]
        have hbk : bb < M.k := by omega
        obtain ⟨rl, rr⟩ := pb.rng o o' _ (List.mem_of_getElem? ep)
        have rl : -1 ≤ l ∧ l < (M.rows.length : Int) := rl
        have rr : -1 ≤ r ∧ r < (N.rows.length : Int) := rr
        have hpt : SqT K H6 t [.int l, .int r] := SqT.of (tt6.at_ i _ _ ep et)
        have hpm : ps.length ≤ mx := by rw [← hmx]; exact pb.len o o'
        have hil := (List.getElem?_eq_some_iff.mp ep).1
        refine ⟨_, rfl, _, rfl, _, rfl, R, _, _, .ref t, rfl, rfl, SqL.of eR6, atT rfl (getI et), t, _, 0, _, rfl, rfl, hpt, rfl, _, rfl, a, M, l, bb, rfl, hM.same s6, o, rl.2, hbk, _, rfl, _, rfl, _, rfl, R, _, _, .ref t, rfl, rfl, SqL.of eR6, atT rfl (getI et), t, _, 1, _, rfl, rfl, hpt, rfl, _, rfl, a', N, r, bb, rfl, hN.same s6, o', rr.2, by omega, by show 2 ≤ sizeLine; decide, fun T nT => ?_⟩
        have s7 : Same H6 (upd H6 T (.tup [V.int (M.nxt l bb), V.int (N.nxt r bb)])) := same_upd nT
        have eT : (upd H6 T (.tup [V.int (M.nxt l bb), V.int (N.nxt r bb)])) T = some (.tup [V.int (M.nxt l bb), V.int (N.nxt r bb)]) := upd_same
        have s07 := s6.trans s7
        have eR7 := s7 _ _ eR6
        have tt7 := tt6.ext s7
        generalize upd H6 T (.tup [V.int (M.nxt l bb), V.int (N.nxt r bb)]) = H7 at s7 eT s07 eR7 tt7 ⊢
        refine ⟨_, rfl, _, rfl, T, R, pnx M N (l, r) bb, ps, ts, rfl, rfl, SqT.of eT, eR7, tt7, _, rfl, ?_⟩
        by_cases hm : pnx M N (l, r) bb ∈ ps
        · rw [decide_eq_true hm]
          exact ite2 (fun e => absurd e (by decide)) (fun _ => ⟨ps, ts, _, _, rfl, s07, eR7, tt7, pb.old ep hm, ep, et⟩)
        · rw [decide_eq_false hm]
          refine ite2 (fun _ => ?_) (fun e => absurd rfl e)
          have pb2 := pb.new ep hm
          refine ⟨_, rfl, .inl ⟨rfl, _, SqL.of eR7⟩, _, rfl, R, _, _, rfl, rfl, eR7, by rw [List.length_map, tt7.len]; exact small1000 (by omega), ?_⟩
          rw [refV_snoc]
          refine ⟨ps ++ [pnx M N (l, r) bb], ts ++ [T], _, _, rfl, same_in nR0 s07, upd_same, (tt7.snoc eT).upd eR7 lst_tup, pb2, ?_, ?_⟩
          · rw [List.getElem?_append_left hil]
            exact ep
          · rw [List.getElem?_append_left (by rw [tt7.len]; exact hil)]
            exact et
      · rintro σ H6 ⟨ps, ts, x4, x5, rfl, s6, eR6, tt6, pb, _, _⟩
        exact ⟨ps, ts, _, _, _, rfl, s6, eR6, tt6, pb.next (by omega)⟩
    · rintro σ H5 ⟨ps, ts, x3, x4, x5, rfl, s5, eR5, tt5, pb⟩
      have hpm : ps.length ≤ mx := by rw [← hmx]; exact pb.len o o'
      exact ⟨_, rfl, q H5 R ps ts _ s5 eR5 tt5 pb (by omega)⟩
end
end Dg
end

section
set_option maxHeartbeats 4000000
namespace Dg
open PySem PySem.Spec PyProof.Rows L2
abbrev sAlk : Stmt := top 42
abbrev nAlk : List Str := ["_law_first_here", "_law_second_here", "_law_pair"]
theorem scAlk : FnScope nAlk ["_law_first_here", "_law_second_here"] (defScope sAlk) := ⟨rfl, rfl, rfl, by decide +kernel, rfl, by decide +kernel, by decide +kernel⟩
def spAlk (K : PySem.W.Frag) : Sp := fun vs H Q _ => ∃ (a a' : Addr) (M N : Mach), vs = [.ref a, .ref a'] ∧ MachAt K H a M ∧ MachAt K H a' N ∧ M.Ok ∧ N.Ok ∧ M.k = N.k ∧ M.k ≤ 1000 ∧ (M.rows.length + 1) * (N.rows.length + 1) ≤ 400 ∧
  ∀ H' (b : Bool), Same H H' → (b = true ↔ M.L = N.L) → Q (.bl b) H'
section
variable {P : Program} {w : World} {K : PySem.W.Frag} {mg : Str → Option Value} {base : Heap} {f fP fE : Addr} {fd fdP fdE : FuncData}
theorem ok_alk (F : Fun K "_law_alike" "_law_alike" sAlk f fd)
    (GP : FnOk P w K mg base CX0 2 fP fdP ["_law_first_here", "_law_second_here"] (spPrs K)) (kP : PySem.W.keepIn K (.ref fP) = true) (bP : Binds K fdP ["_law_first_here", "_law_second_here"] []) (mP : mg "_law_pairs" = some (.ref fP))
    (GE : FnOk P w K mg base CX0 1 fE fdE ["_law_machine_here", "_law_state"] (spAcc K)) (kE : PySem.W.keepIn K (.ref fE) = true) (bE : Binds K fdE ["_law_machine_here", "_law_state"] []) (mE : mg "_law_ends" = some (.ref fE))
    (ma : mg "all" = none) : FnOk P w K mg base CX0 3 f fd ["_law_first_here", "_law_second_here"] (spAlk K) := by
  refine F.ok scAlk (fun vs H Q E h => ?_) (fun cdv A outer s H vs Q E hr h => ?_)
  · obtain ⟨a, a', M, N, rfl, _⟩ := h
    rfl
  · obtain ⟨a, a', M, N, rfl, hM, hN, o, o', hk, hk1, hsz, q⟩ := h
    have nd := scAlk.nd
    have GE2 : FnOk P w K mg base CX0 2 fE fdE ["_law_machine_here", "_law_state"] (spAcc K) := GE.mono (by decide)
    refine ⟨_, pss_one (ps_ret (pe_callB (cr_all rfl) (by rfl) ma PyProof.Rows.boot_all (pa_cons (pe_lc (own := [("_law_pair", 2)]) (g := gName 2) rfl nd (pi_list (pe_call GP hr (by rfl) mP kP bP .nil pass0 (pa_cons (pv 0) (pa_cons (pv 1) pa_nil)))) (blkOk_by (N := nAlk) (sc := defScope sAlk) (by decide +kernel))
          (fun _ _ _ _ _ => pg_name (i := 2) nd rfl (Or.inl rfl)) (fun _ _ _ _ _ => pts_nil)
          (fun _ _ _ _ _ => pe_cmpR op_eq (pe_call GE2 hr (by rfl) mE kE bE .nil pass0 (pa_cons (pv 0) (pa_cons (pe_ix (ixT K) (pv 2) pe_int (fun _ _ => rfl)) pa_nil))) (pe_call GE2 hr (by rfl) mE kE bE .nil pass0 (pa_cons (pv 1) (pa_cons (pe_ix (ixT K) (pv 2) pe_int (fun _ _ => rfl)) pa_nil))) (nomark _))) pa_nil))), ?_⟩
    refine ⟨_, rfl, _, rfl, a, a', M, N, rfl, hM, hN, o, o', hk, hk1, hsz, fun H1 R ps ts i s1 eR tt pb hpi => ?_⟩
    have hpm := pb.len o o'
    refine ⟨R, rfl, ⟨_, SqL.of eR⟩, fun D nD => ?_⟩
    refine lc_list (K := K) (a := R) (xs := ts.map V.ref) (fun j H' => H' = upd H1 D (.lst (((ps.take j).map fun p => decide (M.fin p.1 = N.fin p.2)).map V.bl))) rfl (fun j H' _ e => by rw [e]; exact SqL.of ((upd_ne (ne_of_none eR nD)).trans eR)) ?_ ?_
    · rintro j x H' hx rfl
      obtain ⟨t, et⟩ := getE (l := ts) (i := j) (by have := (List.getElem?_eq_some_iff.mp hx).1; rw [List.length_map] at this; exact this)
      have hx1 : V.ref t = x := Option.some.inj ((getI (f := V.ref) et).symm.trans hx)
      subst hx1
      obtain ⟨p, ep⟩ := getE (l := ps) (i := j) (by rw [← tt.len]; exact (List.getElem?_eq_some_iff.mp et).1)
      obtain ⟨l, r⟩ := p
      obtain ⟨rl, rr⟩ := pb.rng o o' _ (List.mem_of_getElem? ep)
      have rl : -1 ≤ l ∧ l < (M.rows.length : Int) := rl
      have rr : -1 ≤ r ∧ r < (N.rows.length : Int) := rr
      have s2 : Same H1 (upd H1 D (.lst (((ps.take j).map fun p => decide (M.fin p.1 = N.fin p.2)).map V.bl))) := same_upd nD
      have ht : SqT K (upd H1 D (.lst (((ps.take j).map fun p => decide (M.fin p.1 = N.fin p.2)).map V.bl))) t [.int l, .int r] := SqT.of (s2 _ _ (tt.at_ j _ t ep et))
      refine ⟨rfl, _, rfl, _, rfl, t, _, 0, _, rfl, rfl, ht, rfl, a, M, l, rfl, (hM.same s1).same s2, o, rl.2, _, rfl, _, rfl, t, _, 1, _, rfl, rfl, ht, rfl, a', N, r, rfl, (hN.same s1).same s2, o', rr.2, rfl, _, upd_same, ?_, ?_⟩
      · rw [List.length_map, List.length_map, List.length_take]
        have := (List.getElem?_eq_some_iff.mp ep).1
        exact Nat.lt_of_le_of_lt (Nat.min_le_left _ _) (small1000 (by omega))
      · rw [upd_upd, take_succ_get ep, List.map_append, List.map_append]
        have e : decide (V.bl (M.fin l) = V.bl (N.fin r)) = decide (M.fin l = N.fin r) := by
          by_cases z : M.fin l = N.fin r
          · rw [decide_eq_true z, decide_eq_true (by rw [z])]
          · rw [decide_eq_false z, decide_eq_false (fun y => z (V.bl.inj y))]
        rw [e]
        rfl
    · rintro H' rfl
      rw [List.take_of_length_le (by rw [List.length_map, tt.len]; exact Nat.le_refl _)]
      refine ⟨D, _, rfl, SqL.of upd_same, q _ _ (s1.trans (same_upd nD)) ?_⟩
      have hall : ((ps.map fun p => decide (M.fin p.1 = N.fin p.2)).all id = true) ↔ ∀ p ∈ ps, M.fin p.1 = N.fin p.2 := by
        rw [List.all_eq_true]
        constructor
        · intro h p hp
          exact of_decide_eq_true (h _ (List.mem_map.mpr ⟨p, hp, rfl⟩))
        · intro h x hx
          obtain ⟨p, hp, e⟩ := List.mem_map.mp hx
          rw [← e]
          exact decide_eq_true (h p hp)
      rw [hall]
      exact ⟨fun h => pb.same o o' hk hpi h, fun h => pb.agree h⟩
end
end Dg
end

section
set_option maxHeartbeats 4000000
namespace Dg
open PySem PySem.Spec PyProof.Rows L2
abbrev sSam : Stmt := top 44
abbrev sRld : Stmt := top 45
theorem scSam : FnScope ["_law_first_here", "_law_second_here"] ["_law_first_here", "_law_second_here"] (defScope sSam) := ⟨rfl, rfl, rfl, by decide +kernel, rfl, by decide +kernel, by decide +kernel⟩
abbrev nRld : List Str := ["_law_first_here", "_law_second_here", "_law_pairs_here"]
theorem scRld : FnScope nRld ["_law_first_here", "_law_second_here"] (defScope sRld) := ⟨rfl, rfl, rfl, by decide +kernel, rfl, by decide +kernel, by decide +kernel⟩
section
variable {P : Program} {w : World} {K : PySem.W.Frag} {mg : Str → Option Value} {base : Heap} {f fD fR fC CS CA : Addr} {fd fdD fdR fdC : FuncData}
theorem ok_sam (F : Fun K "_law_same" "_law_same" sSam f fd) (ES : ErrC K mg "Same" CS) (eS : PySem.W.exmOne K (.ref CS) (.ref CS) = some true)
    (GD : FnOk P w K mg base (L2.CX P w) 2 fD fdD ["first", "second"] (spDif K CS)) (kD : PySem.W.keepIn K (.ref fD) = true) (bD : Binds K fdD ["first", "second"] []) (mD : mg "difference" = some (.ref fD)) :
    FnOk P w K mg base CX0 3 f fd ["_law_first_here", "_law_second_here"] (spAlk K) := by
  refine F.ok scSam (fun vs H Q E h => ?_) (fun cdv A outer s H vs Q E hr h => ?_)
  · obtain ⟨a, a', M, N, rfl, _⟩ := h
    rfl
  · obtain ⟨a, a', M, N, rfl, hM, hN, o, o', hk, hk1, hsz, q⟩ := h
    refine ⟨_, pss_cons (ps_try_only (tb := fun W => tDrop (tCallS (spDif K CS) (WE W) (tCons (tVar 0) (tCons (tVar 1) tNil)))) (ts := fun _ _ _ => tRet (tC (.bl true))) (Wout := fun _ _ _ _ => False) rfl rfl ⟨rfl, by decide, Or.inl ES.g⟩ takes0
        (fun W pn xe tk _ => pss_one (ps_expr (L2.pe_callS GD hr (by rfl) mD kD bD (fun σ => passAt tk σ) (by exact (pa_cons (pv 0) (pa_cons (pv 1) pa_nil))))))
        (fun _ _ _ _ _ _ _ => pss_one (ps_ret pe_bl)))
      (pss_one (ps_ret pe_bl)), ?_⟩
    refine ⟨_, rfl, _, rfl, a, a', M, N, rfl, hM, hN, o, o', hk, hk1, hsz, fun hL H' s' => ⟨true, eS, fun _ x _ => q H' true s' ⟨fun _ => hL, fun _ => rfl⟩, fun z => (nomatch z)⟩, fun H' p u ws s1 _ _ hne => q H' false s1 ⟨fun z => (nomatch z), fun z => absurd (congrFun z ws) hne⟩⟩
theorem ok_rld (F : Fun K "_law_related" "_law_related" sRld f fd) (EA : ErrC K mg "Apart" CA) (eA : PySem.W.exmOne K (.ref CA) (.ref CA) = some true)
    (GR : FnOk P w K mg base (L2.CX P w) 2 fR fdR ["first", "second"] (spRel K CA)) (kR : PySem.W.keepIn K (.ref fR) = true) (bR : Binds K fdR ["first", "second"] []) (mR : mg "relation" = some (.ref fR))
    (GC : FnOk P w K mg base CX0 2 fC fdC ["first", "second", "pairs"] (spCkr K)) (kC : PySem.W.keepIn K (.ref fC) = true) (bC : Binds K fdC ["first", "second", "pairs"] []) (mC : mg "check_relation" = some (.ref fC)) :
    FnOk P w K mg base CX0 3 f fd ["_law_first_here", "_law_second_here"] (spAlk K) := by
  refine F.ok scRld (fun vs H Q E h => ?_) (fun cdv A outer s H vs Q E hr h => ?_)
  · obtain ⟨a, a', M, N, rfl, _⟩ := h
    rfl
  · obtain ⟨a, a', M, N, rfl, hM, hN, o, o', hk, hk1, hsz, q⟩ := h
    have nd := scRld.nd
    refine ⟨_, pss_cons (ps_try_only (tb := fun W => tAsg (tCallS (spRel K CA) (WE W) (tCons (tVar 0) (tCons (tVar 1) tNil))) (gName 2)) (ts := fun _ _ _ => tRet (tC (.bl false))) (Wout := fun _ _ _ _ => False) rfl rfl ⟨rfl, by decide, Or.inl EA.g⟩ takes0
        (fun W pn xe tk _ => pss_one (ps_set (i := 2) nd rfl (Or.inl rfl) (L2.pe_callS GR hr (by rfl) mR kR bR (fun σ => passAt tk σ) (by exact (pa_cons (pv 0) (pa_cons (pv 1) pa_nil))))))
        (fun _ _ _ _ _ _ _ => pss_one (ps_ret pe_bl)))
      (pss_one (ps_ret (pe_cmpR op_isN (pe_call GC hr (by rfl) mC kC bC .nil pass0 (pa_cons (pv 0) (pa_cons (pv 1) (pa_cons (pv 2) pa_nil)))) pe_non (nomark _)))), ?_⟩
    refine ⟨_, rfl, _, rfl, a, a', M, N, rfl, hM, hN, o, o', hk, hk1, hsz, fun hL H' s' => ⟨true, eA, fun _ x _ => q H' false s' ⟨fun z => (nomatch z), fun z => absurd z hL⟩, fun z => (nomatch z)⟩, fun hL H' R zs ts s1 eR tt ro h400 srt hnd => ?_⟩
    refine ⟨_, rfl, _, rfl, _, rfl, a, a', R, M, N, zs, ts, rfl, hM.same s1, hN.same s1, o, o', hk, hk1, eR, tt, ro, h400, srt, hnd, fun H2 s2 => ⟨rfl, ?_⟩⟩
    exact q H2 true (s1.trans s2) ⟨fun _ => hL, fun _ => rfl⟩
end
end Dg
end

section
set_option maxHeartbeats 4000000
/-! Machines compared. -/
namespace Dg
open PySem PySem.Spec PyProof.Rows L2
def rd (r : List Int) : PyData := .tuple (r.map PyData.int)
def md (m : Mach) : PyData := .tuple [.int (m.k : Int), .tuple (m.rows.map rd), .tuple (m.acc.map PyData.bool)]
theorem dp_map {α : Type} {K : PySem.W.Frag} {H : Hp} {f : α → V} {g : α → PyData} (h : ∀ x, Dp K H (f x) (g x)) : ∀ l : List α, DpAll K H (l.map f) (l.map g)
  | [] => .nil
  | x :: l => .cons (h x) (dp_map h l)
theorem dp_rows {K : PySem.W.Frag} {H : Hp} : ∀ {rows : List (List Int)} {ra : List Addr}, RowsAt K H ra rows → DpAll K H (ra.map V.ref) (rows.map rd)
  | [], [], _ => .nil
  | [], t :: ts, h => by have := h.1; cases this
  | p :: ps, [], h => by have := h.1; cases this
  | p :: ps, t :: ts, h => .cons (.tup (h.2 0 t p rfl rfl) (dp_map (fun x => .int x) p)) (dp_rows ⟨by have := h.1; simpa using this, fun i p' q e1 e2 => h.2 (i + 1) p' q e1 e2⟩)
theorem dp_mach {K : PySem.W.Frag} {H : Hp} {p : Addr} {m : Mach} (h : MachAt K H p m) : Dp K H (.ref p) (md m) := by
  obtain ⟨b, c, ra, h⟩ := h
  exact .tup h.t (.cons (.int _) (.cons (.tup h.b (dp_rows h.r)) (.cons (.tup h.c (dp_map (fun x => .bl x) m.acc)) .nil)))
theorem lay_map {α : Type} {g : α → PyData} (h : ∀ x, (g x).canLay0 = true) : ∀ l : List α, PyData.canLayAll0 (l.map g) = true
  | [] => rfl
  | x :: l => by
    rw [List.map_cons, PyData.canLayAll0, h x, lay_map h l]
    rfl
theorem depth_map {α : Type} {g : α → PyData} {n : Nat} (h : ∀ x, (g x).depth ≤ n) : ∀ l : List α, PyData.depthAll (l.map g) ≤ n
  | [] => Nat.zero_le _
  | x :: l => by
    rw [List.map_cons, PyData.depthAll]
    have h1 := h x
    have h2 := depth_map h l
    omega
theorem md_shaped (m : Mach) : SeqAt.shaped (md m) = true := by
  have l1 : ∀ r : List Int, (rd r).canLay0 = true := fun r => lay_map (g := PyData.int) (fun _ => rfl) r
  have l2 : PyData.canLayAll0 (m.rows.map rd) = true := lay_map l1 _
  have l3 : PyData.canLayAll0 (m.acc.map PyData.bool) = true := lay_map (fun _ => rfl) _
  have e1 : (md m).canLay0 = (true && (PyData.canLayAll0 (m.rows.map rd) && (PyData.canLayAll0 (m.acc.map PyData.bool) && true))) := rfl
  have d1 : ∀ r : List Int, (rd r).depth ≤ 1 := fun r => by
    have h : (rd r).depth = PyData.depthAll (r.map PyData.int) + 1 := rfl
    have := depth_map (g := PyData.int) (n := 0) (fun _ => Nat.le_refl 0) r
    omega
  have d2 := depth_map (n := 1) d1 m.rows
  have d3 := depth_map (g := PyData.bool) (n := 0) (fun _ => Nat.le_refl 0) m.acc
  have e2 : (md m).depth = max 0 (max (PyData.depthAll (m.rows.map rd) + 1) (max (PyData.depthAll (m.acc.map PyData.bool) + 1) 0)) + 1 := rfl
  unfold SeqAt.shaped
  rw [e1, l2, l3, decide_eq_true (by omega)]
  rfl
theorem eqv_map {α : Type} [DecidableEq α] {g : α → PyData} (h : ∀ x y, PyData.eqv (g x) (g y) = decide (x = y)) : ∀ l l' : List α, PyData.eqvAll (l.map g) (l'.map g) = decide (l = l')
  | [], [] => rfl
  | [], y :: l' => rfl
  | x :: l, [] => rfl
  | x :: l, y :: l' => by
    have e : PyData.eqvAll ((x :: l).map g) ((y :: l').map g) = (PyData.eqv (g x) (g y) && PyData.eqvAll (l.map g) (l'.map g)) := rfl
    rw [e, h, eqv_map h l l']
    by_cases h1 : x = y
    · by_cases h2 : l = l'
      · rw [decide_eq_true h1, decide_eq_true h2, decide_eq_true (by rw [h1, h2])]
        rfl
      · rw [decide_eq_true h1, decide_eq_false h2, decide_eq_false (fun z => h2 (List.cons.inj z).2)]
        rfl
    · rw [decide_eq_false h1, decide_eq_false (fun z => h1 (List.cons.inj z).1)]
      rfl
theorem eqv_int (i j : Int) : PyData.eqv (.int i) (.int j) = decide (i = j) := by
  have e : PyData.eqv (.int i) (.int j) = (i == j) := rfl
  rw [e]
  by_cases h : i = j
  · rw [decide_eq_true h]; exact beq_iff_eq.mpr h
  · rw [decide_eq_false h]; exact beq_eq_false_iff_ne.mpr h
theorem eqv_bool (i j : Bool) : PyData.eqv (.bool i) (.bool j) = decide (i = j) := by
  have e : PyData.eqv (.bool i) (.bool j) = (i == j) := rfl
  rw [e]
  cases i <;> cases j <;> rfl
theorem eqv_md (m m' : Mach) : PyData.eqv (md m) (md m') = decide (m = m') := by
  have e : PyData.eqv (md m) (md m') = (PyData.eqv (.int (m.k : Int)) (.int (m'.k : Int)) && (PyData.eqvAll (m.rows.map rd) (m'.rows.map rd) && (PyData.eqvAll (m.acc.map PyData.bool) (m'.acc.map PyData.bool) && true))) := rfl
  have er : ∀ r r' : List Int, PyData.eqv (rd r) (rd r') = decide (r = r') := fun r r' => eqv_map eqv_int r r'
  rw [e, eqv_int, eqv_map er, eqv_map eqv_bool, Bool.and_true]
  obtain ⟨k, rows, acc⟩ := m
  obtain ⟨k', rows', acc'⟩ := m'
  show (decide ((k : Int) = (k' : Int)) && (decide (rows = rows') && decide (acc = acc'))) = _
  by_cases h1 : k = k'
  · by_cases h2 : rows = rows'
    · by_cases h3 : acc = acc'
      · rw [decide_eq_true (by omega), decide_eq_true h2, decide_eq_true h3, decide_eq_true (by rw [h1, h2, h3])]
        rfl
      · rw [decide_eq_false h3, Bool.and_false, Bool.and_false, decide_eq_false (fun z => h3 (Mach.mk.inj z).2.2)]
    · rw [decide_eq_false h2, Bool.false_and, Bool.and_false, decide_eq_false (fun z => h2 (Mach.mk.inj z).2.1)]
  · rw [decide_eq_false (fun z => h1 (by omega)), Bool.false_and, decide_eq_false (fun z => h1 (Mach.mk.inj z).1)]
section
variable {X : Cx} (K : PySem.W.Frag) (hK : X.K = K := by rfl)
def rEqM (K : PySem.W.Frag) (neg : Bool) : R2 := fun x y H Q => ∃ (a b : Addr) (m m' : Mach), x = .ref a ∧ y = .ref b ∧ MachAt K H a m ∧ MachAt K H b m' ∧ Q (.bl (if neg then !decide (m = m') else decide (m = m'))) H
include hK in
theorem op_eqM (hu : X.A.units + 64 < cLine) : OpR X (compareOp .Eq) (rEqM K false) := by
  subst hK
  intro pins s σ H x y v u Q I rx ry h
  obtain ⟨a, b, m, m', e1, e2, ha, hb, hQ⟩ := h
  refine op_eqD hu pins s σ H x y v u Q I rx ry ⟨_, _, by rw [e1]; exact dp_mach ha, by rw [e2]; exact dp_mach hb, md_shaped _, md_shaped _, ?_⟩
  rw [eqv_md]
  exact hQ
include hK in
theorem op_neM (hu : X.A.units + 64 < cLine) : OpR X (compareOp .NotEq) (rEqM K true) := by
  subst hK
  intro pins s σ H x y v u Q I rx ry h
  obtain ⟨a, b, m, m', e1, e2, ha, hb, hQ⟩ := h
  refine op_neD hu pins s σ H x y v u Q I rx ry ⟨_, _, by rw [e1]; exact dp_mach ha, by rw [e2]; exact dp_mach hb, md_shaped _, md_shaped _, ?_⟩
  rw [eqv_md]
  exact hQ
end
/-! ### what the law says, of the languages -/
theorem comb_same (f : Lang) (whole : Bool) : comb whole f f = f := by
  funext w
  unfold comb
  cases whole
  · rw [if_neg (by decide)]
    cases f w <;> rfl
  · rw [if_pos rfl]
    cases f w <;> rfl
theorem comb_eq {f g : Lang} : comb true f g = comb false f g ↔ f = g := by
  constructor
  · intro h
    funext w
    have := congrFun h w
    unfold comb at this
    rw [if_pos rfl, if_neg (by decide)] at this
    cases hf : f w <;> cases hg : g w <;> rw [hf, hg] at this <;> first | rfl | cases this
  · intro h
    rw [h, comb_same, comb_same]
theorem Sup.of {M : Mach} (o : M.Ok) : Sup M.k M.L := fun w hw => sup_lang o w _ hw
theorem canon_eq {f g : Lang} {m m' : Mach} {k : Nat} (c : Canon f m) (c' : Canon g m') (hk : m.k = k) (hk' : m'.k = k) (hf : Sup k f) (hg : Sup k g) : m = m' ↔ f = g := by
  constructor
  · intro h
    have e1 : m.L = f := c.lang (by rw [hk]; exact hf)
    have e2 : m'.L = g := c'.lang (by rw [hk']; exact hg)
    rw [← e1, ← e2, h]
  · intro h
    subst h
    exact c.uniq c' (hk.trans hk'.symm)
end Dg
end

section
set_option maxHeartbeats 4000000
namespace Dg
open PySem PySem.Spec PyProof.Rows L2
abbrev sLaw : Stmt := top 46
abbrev nLaw : List Str := ["_law_script", "_law_numbers_here", "_law_first_here", "_law_second_here", "_law_same_here", "_law_meet", "_law_join", "_law_length", "_law_counts", "_law_word", "_law_whose", "_law_machine_here"]
theorem scLaw : FnScope nLaw ["_law_script"] (defScope sLaw) := ⟨rfl, rfl, rfl, by decide +kernel, rfl, by decide +kernel, by decide +kernel⟩
def spLaw (K : PySem.W.Frag) (Tt : List NdefX.NTab) : Sp := fun vs H Q _ => ∃ (S : Addr) (ks : List Int), vs = [.ref S] ∧ SqL K H S (ks.map V.int) ∧ ks.length ≤ 63 ∧ NdefX.TabsN Tt H ∧ ∀ H', Q (.bl true) H'
theorem cut_drop {xs : List V} {m : Nat} (h : m ≤ xs.length) : cutV xs (some (m : Int)) none = xs.drop m := by
  unfold cutV
  rw [HT.sIx_none, HT.sIx_nat, Nat.min_eq_left h, List.take_of_length_le (by rw [List.length_drop]; exact Nat.le_refl _)]
theorem bl_iff {a b : Bool} {p : Prop} (h1 : a = true ↔ p) (h2 : b = true ↔ p) : a = b := by
  cases a <;> cases b
  · rfl
  · exact absurd (h1.mpr (h2.mp rfl)) (by decide)
  · exact absurd (h2.mpr (h1.mp rfl)) (by decide)
  · rfl
theorem dec_iff {a : Bool} {p q : Prop} [Decidable q] (h1 : a = true ↔ p) (h2 : q ↔ p) : decide q = a := bl_iff (p := p) ⟨fun h => h2.mp (of_decide_eq_true h), fun h => decide_eq_true (h2.mpr h)⟩ h1
section
variable {P : Program} {w : World} {K : PySem.W.Frag} {mg : Str → Option Value} {base : Heap} {f f1 f2 f3 f4 f5 f6 f7 f8 f9 f10 f11 f12 f13 CS : Addr} {fd fd1 fd2 fd3 fd4 fd5 fd6 fd7 fd8 fd9 fd10 fd11 fd12 fd13 : FuncData} {Tt : List NdefX.NTab}
theorem ok_law (F : Fun K "law" "law" sLaw f fd)
    (G1 : FnOk P w K mg base CX0 1 f1 fd1 ["_law_script", "_law_many"] (spNum K)) (k1 : PySem.W.keepIn K (.ref f1) = true) (b1 : Binds K fd1 ["_law_script", "_law_many"] []) (m1 : mg "_law_numbers" = some (.ref f1))
    (G2 : FnOk P w K mg base CX0 1 f2 fd2 pMac (spMac K)) (k2 : PySem.W.keepIn K (.ref f2) = true) (b2 : Binds K fd2 pMac []) (m2 : mg "_law_machine" = some (.ref f2))
    (G3 : FnOk P w K mg base CX0 2 f3 fd3 ["_law_machine_here", "_law_numbers_here"] (spSec K)) (k3 : PySem.W.keepIn K (.ref f3) = true) (b3 : Binds K fd3 ["_law_machine_here", "_law_numbers_here"] []) (m3 : mg "_law_second" = some (.ref f3))
    (G4 : FnOk P w K mg base CX0 3 f4 fd4 ["_law_first_here", "_law_second_here"] (spAlk K)) (k4 : PySem.W.keepIn K (.ref f4) = true) (b4 : Binds K fd4 ["_law_first_here", "_law_second_here"] []) (m4 : mg "_law_alike" = some (.ref f4))
    (G5 : FnOk P w K mg base CX0 5 f5 fd5 ["first", "second"] (spBE K Tt true)) (k5 : PySem.W.keepIn K (.ref f5) = true) (b5 : Binds K fd5 ["first", "second"] []) (m5 : mg "both" = some (.ref f5))
    (G6 : FnOk P w K mg base CX0 5 f6 fd6 ["first", "second"] (spBE K Tt false)) (k6 : PySem.W.keepIn K (.ref f6) = true) (b6 : Binds K fd6 ["first", "second"] []) (m6 : mg "either" = some (.ref f6))
    (G7 : FnOk P w K mg base CX0 3 f7 fd7 ["_law_first_here", "_law_second_here"] (spAlk K)) (k7 : PySem.W.keepIn K (.ref f7) = true) (b7 : Binds K fd7 ["_law_first_here", "_law_second_here"] []) (m7 : mg "_law_same" = some (.ref f7))
    (G8 : FnOk P w K mg base CX0 3 f8 fd8 ["_law_first_here", "_law_second_here"] (spAlk K)) (k8 : PySem.W.keepIn K (.ref f8) = true) (b8 : Binds K fd8 ["_law_first_here", "_law_second_here"] []) (m8 : mg "_law_related" = some (.ref f8))
    (G9 : FnOk P w K mg base CX0 2 f9 fd9 ["machine"] (spLea K)) (k9 : PySem.W.keepIn K (.ref f9) = true) (b9 : Binds K fd9 ["machine"] []) (m9 : mg "least_machine" = some (.ref f9))
    (G10 : FnOk P w K mg base CX0 1 f10 fd10 ["machine", "length"] (spCnt K)) (k10 : PySem.W.keepIn K (.ref f10) = true) (b10 : Binds K fd10 ["machine", "length"] []) (m10 : mg "count_words" = some (.ref f10))
    (G11 : FnOk P w K mg base CX0 4 f11 fd11 ["machine", "hidden"] (spHid K Tt)) (k11 : PySem.W.keepIn K (.ref f11) = true) (b11 : Binds K fd11 ["machine", "hidden"] []) (m11 : mg "hide" = some (.ref f11))
    (G12 : FnOk P w K mg base (L2.CX P w) 2 f12 fd12 ["first", "second"] (spDif K CS)) (k12 : PySem.W.keepIn K (.ref f12) = true) (b12 : Binds K fd12 ["first", "second"] []) (m12 : mg "difference" = some (.ref f12))
    (G13 : FnOk P w K mg base CX0 1 f13 fd13 ["machine", "word"] (spAcs K)) (k13 : PySem.W.keepIn K (.ref f13) = true) (b13 : Binds K fd13 ["machine", "word"] []) (m13 : mg "accepts" = some (.ref f13))
    (mr : mg "range" = none) : FnOk P w K mg base CX0 6 f fd ["_law_script"] (spLaw K Tt) := by
  have G1 : FnOk P w K mg base CX0 5 f1 fd1 ["_law_script", "_law_many"] (spNum K) := G1.mono (by decide)
  have G2 : FnOk P w K mg base CX0 5 f2 fd2 pMac (spMac K) := G2.mono (by decide)
  have G3 : FnOk P w K mg base CX0 5 f3 fd3 ["_law_machine_here", "_law_numbers_here"] (spSec K) := G3.mono (by decide)
  have G4 : FnOk P w K mg base CX0 5 f4 fd4 ["_law_first_here", "_law_second_here"] (spAlk K) := G4.mono (by decide)
  have G7 : FnOk P w K mg base CX0 5 f7 fd7 ["_law_first_here", "_law_second_here"] (spAlk K) := G7.mono (by decide)
  have G8 : FnOk P w K mg base CX0 5 f8 fd8 ["_law_first_here", "_law_second_here"] (spAlk K) := G8.mono (by decide)
  have G9 : FnOk P w K mg base CX0 5 f9 fd9 ["machine"] (spLea K) := G9.mono (by decide)
  have G10 : FnOk P w K mg base CX0 5 f10 fd10 ["machine", "length"] (spCnt K) := G10.mono (by decide)
  have G11 : FnOk P w K mg base CX0 5 f11 fd11 ["machine", "hidden"] (spHid K Tt) := G11.mono (by decide)
  have G12 : FnOk P w K mg base (L2.CX P w) 5 f12 fd12 ["first", "second"] (spDif K CS) := G12.mono (by decide)
  have G13 : FnOk P w K mg base CX0 5 f13 fd13 ["machine", "word"] (spAcs K) := G13.mono (by decide)
  refine F.ok scLaw (fun vs H Q E h => ?_) (fun cdv A outer s H vs Q E hr h => ?_)
  · obtain ⟨S, ks, rfl, _⟩ := h
    rfl
  · obtain ⟨S, ks, rfl, hS, hks, hTab, q⟩ := h
    have nd := scLaw.nd
    have hu := hr.units
    refine ⟨_, pss_cons (ps_set (i := 1) nd rfl (Or.inl rfl) (pe_call G1 hr (by rfl) m1 k1 b1 .nil pass0 (pa_cons (pv 0) (pa_cons pe_int pa_nil))))
      (pss_cons (ps_set (i := 2) nd rfl (Or.inl rfl) (pe_call G2 hr (by rfl) m2 k2 b2 .nil pass0 (pa_cons (pv 1) (pa_cons pe_int (pa_cons (pe_op op_mod (pe_ix ix_list (pv 1) pe_int (fun _ _ => rfl)) pe_int) (pa_cons (pe_op op_mod (pe_ix ix_list (pv 1) pe_int (fun _ _ => rfl)) pe_int) (pa_cons (pe_op op_mod (pe_ix ix_list (pv 1) pe_int (fun _ _ => rfl)) pe_int) pa_nil)))))))
      (pss_cons (ps_set (i := 3) nd rfl (Or.inl rfl) (pe_call G3 hr (by rfl) m3 k3 b3 .nil pass0 (pa_cons (pv 2) (pa_cons (pe_slice sl_list (pv 1) (po_some pe_int) po_none) pa_nil))))
      (pss_cons (ps_set (i := 4) nd rfl (Or.inl rfl) (pe_call G4 hr (by rfl) m4 k4 b4 .nil pass0 (pa_cons (pv 2) (pa_cons (pv 3) pa_nil))))
      (pss_cons (ps_set (i := 5) nd rfl (Or.inl rfl) (pe_call G5 hr (by rfl) m5 k5 b5 .nil pass0 (pa_cons (pv 2) (pa_cons (pv 3) pa_nil))))
      (pss_cons (ps_set (i := 6) nd rfl (Or.inl rfl) (pe_call G6 hr (by rfl) m6 k6 b6 .nil pass0 (pa_cons (pv 2) (pa_cons (pv 3) pa_nil))))
      (pss_cons (ps_if (PW.pt (pw_or (pt_cmpR op_ne (pe_call G7 hr (by rfl) m7 k7 b7 .nil pass0 (pa_cons (pv 2) (pa_cons (pv 3) pa_nil))) (pv 4) (nomark _)) (pw_or1 (pt_cmpR op_ne (pe_call G8 hr (by rfl) m8 k8 b8 .nil pass0 (pa_cons (pv 2) (pa_cons (pv 3) pa_nil))) (pv 4) (nomark _))))) (pss_one (ps_ret pe_bl)) pss_nil)
      (pss_cons (ps_if (PW.pt (pw_or (pt_cmpR op_ne (pe_cmpR (op_eqM K (hu := hu)) (pe_call G9 hr (by rfl) m9 k9 b9 .nil pass0 (pa_cons (pv 2) pa_nil)) (pe_call G9 hr (by rfl) m9 k9 b9 .nil pass0 (pa_cons (pv 3) pa_nil)) (nomark _)) (pv 4) (nomark _)) (pw_or1 (pt_cmpR op_ne (pe_cmpR (op_eqM K (hu := hu)) (pv 5) (pv 6) (nomark _)) (pv 4) (nomark _))))) (pss_one (ps_ret pe_bl)) pss_nil)
      (pss_cons (ps_for PassesOwn.never rfl (pi_range1 (by rfl) mr (pa_cons pe_int pa_nil)) (pg_name (i := 7) nd rfl (Or.inr rfl))
        (pss_cons (ps_setLc (i := 8) (own := [("_law_machine_here", 11)]) (g := gName 11) rfl nd rfl rfl (sw_true rfl rfl rfl (by decide +kernel)) (pi_list (pe_lst (pa_cons (pv 2) (pa_cons (pv 3) (pa_cons (pv 5) (pa_cons (pv 6) pa_nil)))))) (blkOk_by (N := nLaw) (sc := defScope sLaw) (by decide +kernel))
            (fun _ _ _ _ _ => pg_name (i := 11) nd rfl (Or.inl rfl)) (fun _ _ _ _ _ => pts_nil) (fun _ _ _ _ _ => pe_call G10 hr (by rfl) m10 k10 b10 .nil pass0 (pa_cons (pv 11) (pa_cons (pv 7) pa_nil))))
        (pss_one (ps_if (PW.pt (pw_or (pt_cmpR op_ne (pe_op op_add (pe_ix ix_list (pv 8) pe_int (fun _ _ => rfl)) (pe_ix ix_list (pv 8) pe_int (fun _ _ => rfl))) (pe_op op_add (pe_ix ix_list (pv 8) pe_int (fun _ _ => rfl)) (pe_ix ix_list (pv 8) pe_int (fun _ _ => rfl))) (nomark _))
            (pw_or1 (PW.pt (pw_and (pt_val (pv 4)) (pw_and1 (pt_cmpR op_ne (pe_ix ix_list (pv 8) pe_int (fun _ _ => rfl)) (pe_ix ix_list (pv 8) pe_int (fun _ _ => rfl)) (nomark _)))))))) (pss_one (ps_ret pe_bl)) pss_nil))))
      (pss_cons (ps_if (PW.pt (pw_or (pt_cmpR (op_neM K (hu := hu)) (pe_call G11 hr (by rfl) m11 k11 b11 .nil pass0 (pa_cons (pv 2) (pa_cons (pe_lst pa_nil) pa_nil))) (pe_call G9 hr (by rfl) m9 k9 b9 .nil pass0 (pa_cons (pv 2) pa_nil)) (nomark _))
          (pw_or1 (pt_cmpR (op_neM K (hu := hu)) (pe_call G5 hr (by rfl) m5 k5 b5 .nil pass0 (pa_cons (pv 2) (pa_cons (pv 2) pa_nil))) (pe_call G9 hr (by rfl) m9 k9 b9 .nil pass0 (pa_cons (pv 2) pa_nil)) (nomark _))))) (pss_one (ps_ret pe_bl)) pss_nil)
      (pss_cons (ps_if (pt_val (pv 4)) (pss_one (ps_ret pe_bl)) pss_nil)
      (pss_cons (ps_asg (pe_call G12 hr (by rfl) m12 k12 b12 .nil passL (pa_cons (pv 2) (pa_cons (pv 3) pa_nil))) (pg_tup (by rfl) (pgs_cons (pg_name (i := 9) nd rfl (Or.inl rfl)) (pgs_cons (pg_name (i := 10) nd rfl (Or.inl rfl)) pgs_nil))))
      (pss_cons (ps_if (PW.pt (pw_or (pt_cmpR op_ne (pe_call G13 hr (by rfl) m13 k13 b13 .nil pass0 (pa_cons (pv 2) (pa_cons (pv 9) pa_nil))) (pv 10) (nomark _)) (pw_or1 (pt_cmpR op_eq (pe_call G13 hr (by rfl) m13 k13 b13 .nil pass0 (pa_cons (pv 3) (pa_cons (pv 9) pa_nil))) (pv 10) (nomark _))))) (pss_one (ps_ret pe_bl)) pss_nil)
      (pss_one (ps_ret (pe_and (pe_call G13 hr (by rfl) m13 k13 b13 .nil pass0 (pa_cons (pv 6) (pa_cons (pv 9) pa_nil))) (pe_one (pe_not (pe_call G13 hr (by rfl) m13 k13 b13 .nil pass0 (pa_cons (pv 5) (pa_cons (pv 9) pa_nil)))))))))))))))))))), ?_⟩
    refine ⟨_, rfl, S, 200, ks, rfl, hS, by omega, by omega, fun H1 L ns s1 eL hns => ?_⟩
    obtain ⟨z0, e0⟩ := getE (l := ns) (i := 0) (by omega)
    obtain ⟨z1, e1⟩ := getE (l := ns) (i := 1) (by omega)
    obtain ⟨z2, e2⟩ := getE (l := ns) (i := 2) (by omega)
    have y0 : 0 ≤ z0 % 4 ∧ z0 % 4 < 4 := ⟨by omega, by omega⟩
    have y1 : 0 ≤ z1 % 9 ∧ z1 % 9 < 9 := ⟨by omega, by omega⟩
    -- the two machines
    refine ⟨_, rfl, _, rfl, L, _, 0, .int z0, rfl, rfl, SqL.of eL, atT (j := 0) rfl (getI e0), _, _, rfl, rfl, (by decide : (0 : Int) < 4), _, rfl, L, _, 1, .int z1, rfl, rfl, SqL.of eL, atT (j := 1) rfl (getI e1), _, _, rfl, rfl, (by decide : (0 : Int) < 9), _, rfl, L, _, 2, .int z2, rfl, rfl, SqL.of eL, atT (j := 2) rfl (getI e2), _, _, rfl, rfl, (by decide : (0 : Int) < 4), ?_⟩
    refine ⟨L, 20, (z0 % 4).toNat, (z1 % 9).toNat, z2 % 4, ns, by rw [Int.toNat_of_nonneg y0.1, Int.toNat_of_nonneg y1.1]; rfl, SqL.of eL, by omega, by omega, by omega, by omega, fun H2 a M s2 hM o hkM hnM => ?_⟩
    have hk1000 : M.k ≤ 1000 := by omega
    have hn8 : M.rows.length ≤ 8 := by omega
    have eL2 := s2 _ _ eL
    refine ⟨_, rfl, _, rfl, 90, rfl, L, _, rfl, SqL.of eL2, fun Lb nLb => ?_⟩
    have ecut : cutV (ns.map V.int) (some 90) none = (ns.drop 90).map V.int := by
      have := cut_drop (xs := ns.map V.int) (m := 90) (by rw [List.length_map, hns]; decide)
      rw [List.map_drop]
      exact this
    rw [ecut]
    have s3 : Same H2 (upd H2 Lb (.lst ((ns.drop 90).map V.int))) := same_upd nLb
    refine ⟨a, Lb, M, ns.drop 90, rfl, hM.same s3, o, hk1000, hn8, SqL.of upd_same, by rw [List.length_drop]; omega, by rw [List.length_drop]; omega, fun H4 a' N s4 hN o' hkN hnN => ?_⟩
    have hM := (hM.same s3).same s4
    have s04 := ((s1.trans s2).trans s3).trans s4
    have tab := hTab.ext s04
    clear s1 s2 s3 s4 eL eL2 s04 hTab
    have sm : M.Sm := ⟨o, by omega, hk1000⟩
    have sn : N.Sm := ⟨o', by omega, by omega⟩
    have hkk : M.k = N.k := hkN.symm
    have hsz : (M.rows.length + 1) * (N.rows.length + 1) ≤ 400 := Nat.le_trans (Nat.mul_le_mul (Nat.succ_le_succ hn8) (Nat.succ_le_succ hnN)) (by decide)
    have hszM : (M.rows.length + 1) * (M.rows.length + 1) ≤ 400 := Nat.le_trans (Nat.mul_le_mul (Nat.succ_le_succ hn8) (Nat.succ_le_succ hn8)) (by decide)
    have supM : Sup M.k M.L := Sup.of o
    have supN : Sup M.k N.L := by rw [hkk]; exact Sup.of o'
    -- the same by the law's own way
    refine ⟨_, rfl, _, rfl, a, a', M, N, rfl, hM, hN, o, o', hkk, hk1000, hsz, fun H5 b s5 hb => ?_⟩
    have hM := hM.same s5
    have hN := hN.same s5
    have tab := tab.ext s5
    -- both, either
    refine ⟨_, rfl, _, rfl, a, a', M, N, rfl, hM, hN, sm, sn, hkk, hsz, tab, fun H6 pm mm e6 tab hmm cmm kmm zmm => ?_⟩
    have hM := hM.ext e6
    have hN := hN.ext e6
    refine ⟨_, rfl, _, rfl, a, a', M, N, rfl, hM, hN, sm, sn, hkk, hsz, tab, fun H7 pj mj e7 tab hmj cmj kmj zmj => ?_⟩
    have hM := hM.ext e7
    have hN := hN.ext e7
    have hmm := hmm.ext e7
    have Lmm : mm.L = comb true M.L N.L := cmm.lang (by rw [kmm]; exact sup_comb supM supN)
    have Lmj : mj.L = comb false M.L N.L := cmj.lang (by rw [kmj]; exact sup_comb supM supN)
    have smm : mm.Sm := ⟨cmm.ok, by omega, by omega⟩
    have smj : mj.Sm := ⟨cmj.ok, by omega, by omega⟩
    clear e6 e7 s5
    -- difference and relation say the same
    refine ⟨_, rfl, _, rfl, a, a', M, N, rfl, hM, hN, o, o', hkk, hk1000, hsz, fun H8 b7 s8 hb7 => ?_⟩
    have hM := hM.same s8
    have hN := hN.same s8
    have hmm := hmm.same s8
    have hmj := hmj.same s8
    have tab := tab.ext s8
    refine ⟨_, rfl, rfl, _, rfl, iteNS (by rw [bl_iff hb7 hb]) ?_⟩
    refine ⟨_, rfl, _, rfl, a, a', M, N, rfl, hM, hN, o, o', hkk, hk1000, hsz, fun H9 b8 s9 hb8 => ?_⟩
    have hM := hM.same s9
    have hN := hN.same s9
    have hmm := hmm.same s9
    have hmj := hmj.same s9
    have tab := tab.ext s9
    refine ⟨_, rfl, rfl, _, rfl, iteNS (by rw [bl_iff hb8 hb]) ?_⟩
    -- the least machines say the same
    refine ⟨_, rfl, a, M, rfl, hM, sm, fun H10 p1 l1 s10 hl1 c1 kl1 => ?_⟩
    have hM := hM.same s10
    have hN := hN.same s10
    have hmm := hmm.same s10
    have hmj := hmj.same s10
    have tab := tab.ext s10
    refine ⟨_, rfl, a', N, rfl, hN, sn, fun H11 p2 l2 s11 hl2 c2 kl2 => ?_⟩
    have hM := hM.same s11
    have hN := hN.same s11
    have hmm := hmm.same s11
    have hmj := hmj.same s11
    have tab := tab.ext s11
    have el : decide (l1 = l2) = b := dec_iff hb (canon_eq c1 c2 kl1 (kl2.trans hkN) supM supN)
    refine ⟨p1, p2, l1, l2, rfl, rfl, hl1.same s11, hl2, _, rfl, rfl, _, rfl, iteNS (congrArg V.bl el) ?_⟩
    have em : decide (mm = mj) = b := dec_iff hb ((canon_eq cmm cmj kmm kmj (sup_comb supM supN) (sup_comb supM supN)).trans comb_eq)
    refine ⟨_, rfl, _, rfl, pm, pj, mm, mj, rfl, rfl, hmm, hmj, _, rfl, rfl, _, rfl, iteNS (congrArg V.bl em) ?_⟩
    clear s8 s9 s10 s11 hl1 hl2
    -- the numbers of words
    refine ⟨13, rfl, by decide, by decide, ?_⟩
    refine for_range (lo := 0) (n := (13 : Int).toNat) (fun i σ H' => ∃ (x7 x8 : Option V), σ = [some (.ref S), some (.ref L), some (.ref a), some (.ref a'), some (.bl b), some (.ref pm), some (.ref pj), x7, x8, none, none, none] ∧ Same H11 H')
      ⟨none, none, rfl, fun _ _ e => e⟩ ?_ ?_
    · rintro i σ H12 hi ⟨x7, x8, rfl, s12⟩
      rw [Int.zero_add]
      have hi13 : i < 13 := hi
      refine ⟨_, rfl, _, rfl, _, rfl, _, rfl, by show 4 ≤ sizeLine; decide, fun C nC => ?_⟩
      have s13 : Same H12 (upd H12 C (.lst [V.ref a, V.ref a', V.ref pm, V.ref pj])) := same_upd nC
      have eC : (upd H12 C (.lst [V.ref a, V.ref a', V.ref pm, V.ref pj])) C = some (.lst [V.ref a, V.ref a', V.ref pm, V.ref pj]) := upd_same
      have s013 := s12.trans s13
      generalize upd H12 C (.lst [V.ref a, V.ref a', V.ref pm, V.ref pj]) = H13 at s13 eC s013 ⊢
      refine ⟨C, rfl, ⟨_, SqL.of eC⟩, fun D nD => ?_⟩
      have nD0 := s013.free nD
      have eCD : C ≠ D := ne_of_none eC nD
      refine lc_list (K := K) (a := C) (xs := [V.ref a, V.ref a', V.ref pm, V.ref pj]) (fun j H' => Same H13 H' ∧ H' D = some (.lst (([cw M.k i M.L, cw N.k i N.L, cw mm.k i mm.L, cw mj.k i mj.L].take j).map V.int)))
        ⟨same_upd nD, upd_same⟩ (fun j H' _ ⟨y, _⟩ => SqL.of (y _ _ eC)) ?_ ?_
      · rintro j x H14 hx ⟨s14, eD⟩
        have s014 := s013.trans s14
        have step : ∀ (p : Addr) (m : Mach), x = V.ref p → MachAt K H14 p m → m.Sm → [cw M.k i M.L, cw N.k i N.L, cw mm.k i mm.L, cw mj.k i mj.L][j]? = some (cw m.k i m.L) → _ := fun p m ex hm hsm hget =>
          (show ∃ (a : Addr) (M' : Mach) (len : Nat), [x, V.int (i : Int)] = [.ref a, .int (len : Int)] ∧ MachAt K H14 a M' ∧ M'.Sm ∧ len ≤ 100 ∧ ∀ H', Same H14 H' → ∃ acc, H' D = some (.lst acc) ∧ acc.length < sizeLine ∧ (Same H13 (upd H' D (.lst (acc ++ [V.int (cw M'.k len M'.L)]))) ∧ (upd H' D (.lst (acc ++ [V.int (cw M'.k len M'.L)]))) D = some (.lst (([cw M.k i M.L, cw N.k i N.L, cw mm.k i mm.L, cw mj.k i mj.L].take (j + 1)).map V.int))) from
            ⟨p, m, i, by rw [ex], hm, hsm, by omega, fun H' s' => ⟨_, s' _ _ eD, by
              rw [List.length_map, List.length_take]
              exact Nat.lt_of_le_of_lt (Nat.min_le_right _ _) (by show 4 < sizeLine; decide), same_in nD (s14.trans s'), by rw [upd_same, take_succ_get hget, List.map_append]; rfl⟩⟩)
        refine ⟨rfl, _, rfl, _, rfl, ?_⟩
        match j, hx with
        | 0, hx => exact step a M (Option.some.inj hx).symm (hM.same s014) sm rfl
        | 1, hx => exact step a' N (Option.some.inj hx).symm (hN.same s014) sn rfl
        | 2, hx => exact step pm mm (Option.some.inj hx).symm (hmm.same s014) smm rfl
        | 3, hx => exact step pj mj (Option.some.inj hx).symm (hmj.same s014) smj rfl
        | j + 4, hx => exact absurd hx (by simp)
      · rintro H14 ⟨s14, eD⟩
        have s014 := s013.trans s14
        have eD : H14 D = some (.lst [V.int (cw M.k i M.L), V.int (cw N.k i N.L), V.int (cw mm.k i mm.L), V.int (cw mj.k i mj.L)]) := eD
        have hsum : cw M.k i M.L + cw N.k i N.L = cw mm.k i mm.L + cw mj.k i mj.L := by
          rw [← hkk, kmm, kmj, Lmm, Lmj]
          exact cw_comb M.k i M.L N.L
        refine ⟨_, rfl, D, _, 0, _, rfl, rfl, SqL.of eD, rfl, _, rfl, D, _, 1, _, rfl, rfl, SqL.of eD, rfl, _, _, rfl, rfl, _, rfl, D, _, 2, _, rfl, rfl, SqL.of eD, rfl, _, rfl, D, _, 3, _, rfl, rfl, SqL.of eD, rfl, _, _, rfl, rfl, rfl, _, rfl, iteNS (congrArg V.int hsum) ?_⟩
        refine ⟨_, rfl, _, rfl, ite2 (fun hb1 => ?_) (fun _ => ⟨_, _, rfl, s014⟩)⟩
        have hL := hb.mp hb1
        have hcj : cw M.k i M.L = cw mj.k i mj.L := by rw [kmj, Lmj, ← hL, comb_same]
        exact ⟨_, rfl, D, _, 0, _, rfl, rfl, SqL.of eD, rfl, _, rfl, D, _, 3, _, rfl, rfl, SqL.of eD, rfl, rfl, _, rfl, iteNS (congrArg V.int hcj) ⟨_, _, rfl, s014⟩⟩
    rintro σ H12 ⟨x7, x8, rfl, s12⟩
    have hM := hM.same s12
    have hN := hN.same s12
    have hmm := hmm.same s12
    have hmj := hmj.same s12
    have tab := tab.ext s12
    -- nothing hidden
    refine ⟨_, rfl, Nat.zero_le _, fun Eh nE => ?_⟩
    have s13 : Same H12 (upd H12 Eh (.lst [])) := same_upd nE
    have hM := hM.same s13
    have hN := hN.same s13
    have hmm := hmm.same s13
    have hmj := hmj.same s13
    have tab := tab.ext s13
    refine ⟨a, Eh, M, rfl, SqL.of upd_same, hM, sm, by omega, tab, fun H14 ph mh e14 tab hmh cmh kmh => ?_⟩
    have hM := hM.ext e14
    have hN := hN.ext e14
    have hmm := hmm.ext e14
    have hmj := hmj.ext e14
    refine ⟨_, rfl, a, M, rfl, hM, sm, fun H15 p3 l3 s15 hl3 c3 kl3 => ?_⟩
    have hM := hM.same s15
    have hN := hN.same s15
    have hmm := hmm.same s15
    have hmj := hmj.same s15
    have tab := tab.ext s15
    refine ⟨ph, p3, mh, l3, rfl, rfl, hmh.same s15, hl3, _, rfl, iteNS (cmh.uniq c3 (kmh.trans kl3.symm)) ?_⟩
    refine ⟨_, rfl, _, rfl, a, a, M, M, rfl, hM, hM, sm, sm, rfl, hszM, tab, fun H16 pb mb e16 tab hmb cmb kmb _ => ?_⟩
    have hM := hM.ext e16
    have hN := hN.ext e16
    have hmm := hmm.ext e16
    have hmj := hmj.ext e16
    rw [comb_same] at cmb
    refine ⟨_, rfl, a, M, rfl, hM, sm, fun H17 p4 l4 s17 hl4 c4 kl4 => ?_⟩
    have hM := hM.same s17
    have hN := hN.same s17
    have hmm := hmm.same s17
    have hmj := hmj.same s17
    refine ⟨pb, p4, mb, l4, rfl, rfl, hmb.same s17, hl4, _, rfl, iteNS (cmb.uniq c4 (kmb.trans kl4.symm)) ?_⟩
    -- the same: done
    refine ⟨_, rfl, _, rfl, ite2 (fun _ => q _) (fun hb0 => ?_)⟩
    have hne : M.L ≠ N.L := fun z => hb0 (hb.mpr z)
    -- a first difference
    refine ⟨_, rfl, _, rfl, a, a', M, N, rfl, hM, hN, o, o', hkk, hk1000, hsz, fun hL => absurd hL hne, fun H18 pt pu ws s18 ept epu hws => ?_⟩
    have hM := hM.same s18
    have hN := hN.same s18
    have hmm := hmm.same s18
    have hmj := hmj.same s18
    refine ⟨pt, _, rfl, SqT.of ept, rfl, _, _, rfl, _, _, rfl, rfl, ?_⟩
    refine ⟨_, rfl, _, rfl, a, pu, M, ws, rfl, hM, o, SqL.of epu, _, rfl, rfl, _, rfl, iteNS rfl ?_⟩
    refine ⟨_, rfl, _, rfl, a', pu, N, ws, rfl, hN, o', SqL.of epu, _, rfl, rfl, _, rfl, ite2 (fun e => absurd (V.bl.inj (of_decide_eq_true e)).symm hws) (fun _ => ?_)⟩
    have lj : mj.L ws = true := by
      rw [Lmj]
      show (M.L ws || N.L ws) = true
      cases hf : M.L ws <;> cases hg : N.L ws <;> first | rfl | exact absurd (hf.trans hg.symm) hws
    have lm : mm.L ws = false := by
      rw [Lmm]
      show (M.L ws && N.L ws) = false
      cases hf : M.L ws <;> cases hg : N.L ws <;> first | rfl | exact absurd (hf.trans hg.symm) hws
    refine ⟨_, rfl, _, rfl, pj, pu, mj, ws, rfl, hmj, cmj.ok, SqL.of epu, ?_⟩
    rw [lj]
    refine ⟨_, rfl, ite2 (fun _ => ?_) (fun e => absurd rfl e)⟩
    refine ⟨_, rfl, _, rfl, pm, pu, mm, ws, rfl, hmm, cmm.ok, SqL.of epu, ?_⟩
    rw [lm]
    exact ⟨false, rfl, q _⟩
end
end Dg
end

section
set_option maxHeartbeats 0
namespace Dg
open PySem PySem.Spec PyProof.Rows L2
/-! ### the head: facts by names, the run -/
def d_first_state : He.DefD := ⟨("first_state", none), "first_state", "first_state", defArgs (top 8), defBody (top 8), defScope (top 8), [], []⟩
def d_next_state : He.DefD := ⟨("next_state", none), "next_state", "next_state", defArgs (top 9), defBody (top 9), defScope (top 9), [], []⟩
def d_is_accepting : He.DefD := ⟨("is_accepting", none), "is_accepting", "is_accepting", defArgs (top 10), defBody (top 10), defScope (top 10), [], []⟩
def d_check_letters : He.DefD := ⟨("check_letters", none), "check_letters", "check_letters", defArgs (top 11), defBody (top 11), defScope (top 11), [], []⟩
def d_difference : He.DefD := ⟨("difference", none), "difference", "difference", defArgs (top 12), defBody (top 12), defScope (top 12), [], []⟩
def d_accepts : He.DefD := ⟨("accepts", none), "accepts", "accepts", defArgs (top 17), defBody (top 17), defScope (top 17), [], []⟩
def d_useful_states : He.DefD := ⟨("useful_states", none), "useful_states", "useful_states", defArgs (top 18), defBody (top 18), defScope (top 18), [], []⟩
def d_kinds_of : He.DefD := ⟨("kinds_of", none), "kinds_of", "kinds_of", defArgs (top 19), defBody (top 19), defScope (top 19), [], []⟩
def d_least_machine : He.DefD := ⟨("least_machine", none), "least_machine", "least_machine", defArgs (top 20), defBody (top 20), defScope (top 20), [], []⟩
def d_count_words : He.DefD := ⟨("count_words", none), "count_words", "count_words", defArgs (top 21), defBody (top 21), defScope (top 21), [], []⟩
def d_met : He.DefD := ⟨("met", none), "met", "met", defArgs (top 23), defBody (top 23), defScope (top 23), [], []⟩
def d_smallest : He.DefD := ⟨("smallest", none), "smallest", "smallest", defArgs (top 24), defBody (top 24), defScope (top 24), [], []⟩
def d_paired : He.DefD := ⟨("paired", none), "paired", "paired", defArgs (top 25), defBody (top 25), defScope (top 25), [], []⟩
def d_both : He.DefD := ⟨("both", none), "both", "both", defArgs (top 26), defBody (top 26), defScope (top 26), [], []⟩
def d_either : He.DefD := ⟨("either", none), "either", "either", defArgs (top 27), defBody (top 27), defScope (top 27), [], []⟩
def d_closed : He.DefD := ⟨("closed", none), "closed", "closed", defArgs (top 28), defBody (top 28), defScope (top 28), [], []⟩
def d_hide : He.DefD := ⟨("hide", none), "hide", "hide", defArgs (top 29), defBody (top 29), defScope (top 29), [], []⟩
def d_relation : He.DefD := ⟨("relation", none), "relation", "relation", defArgs (top 32), defBody (top 32), defScope (top 32), [], []⟩
def d_check_form : He.DefD := ⟨("check_form", none), "check_form", "check_form", defArgs (top 33), defBody (top 33), defScope (top 33), [], []⟩
def d_check_relation : He.DefD := ⟨("check_relation", none), "check_relation", "check_relation", defArgs (top 34), defBody (top 34), defScope (top 34), [], []⟩
def d__law_numbers : He.DefD := ⟨("_law_numbers", none), "_law_numbers", "_law_numbers", defArgs (top 36), defBody (top 36), defScope (top 36), [], []⟩
def d__law_machine : He.DefD := ⟨("_law_machine", none), "_law_machine", "_law_machine", defArgs (top 37), defBody (top 37), defScope (top 37), [], []⟩
def d__law_next : He.DefD := ⟨("_law_next", none), "_law_next", "_law_next", defArgs (top 38), defBody (top 38), defScope (top 38), [], []⟩
def d__law_ends : He.DefD := ⟨("_law_ends", none), "_law_ends", "_law_ends", defArgs (top 39), defBody (top 39), defScope (top 39), [], []⟩
def d__law_first : He.DefD := ⟨("_law_first", none), "_law_first", "_law_first", defArgs (top 40), defBody (top 40), defScope (top 40), [], []⟩
def d__law_pairs : He.DefD := ⟨("_law_pairs", none), "_law_pairs", "_law_pairs", defArgs (top 41), defBody (top 41), defScope (top 41), [], []⟩
def d__law_alike : He.DefD := ⟨("_law_alike", none), "_law_alike", "_law_alike", defArgs (top 42), defBody (top 42), defScope (top 42), [], []⟩
def d__law_second : He.DefD := ⟨("_law_second", none), "_law_second", "_law_second", defArgs (top 43), defBody (top 43), defScope (top 43), [], []⟩
def d__law_same : He.DefD := ⟨("_law_same", none), "_law_same", "_law_same", defArgs (top 44), defBody (top 44), defScope (top 44), [], []⟩
def d__law_related : He.DefD := ⟨("_law_related", none), "_law_related", "_law_related", defArgs (top 45), defBody (top 45), defScope (top 45), [], []⟩
def d_law : He.DefD := ⟨("law", none), "law", "law", defArgs (top 46), defBody (top 46), defScope (top 46), [], []⟩
def fn : List He.DefD := [d_first_state, d_next_state, d_is_accepting, d_check_letters, d_difference, d_accepts, d_useful_states, d_kinds_of, d_least_machine, d_count_words, d_met, d_smallest, d_paired, d_both, d_either, d_closed, d_hide, d_relation, d_check_form, d_check_relation, d__law_numbers, d__law_machine, d__law_next, d__law_ends, d__law_first, d__law_pairs, d__law_alike, d__law_second, d__law_same, d__law_related, d_law]
def fa0 : List He.Fa := [.glo "first_state", .glo "next_state", .glo "is_accepting", .glo "check_letters", .glo "difference", .glo "accepts", .glo "useful_states", .glo "kinds_of", .glo "least_machine", .glo "count_words", .glo "met", .glo "smallest", .glo "paired", .glo "both", .glo "either", .glo "closed", .glo "hide", .glo "relation", .glo "check_form", .glo "check_relation"]
def fa1 : List He.Fa := [.glo "_law_numbers", .glo "_law_machine", .glo "_law_next", .glo "_law_ends", .glo "_law_first", .glo "_law_pairs", .glo "_law_alike", .glo "_law_second", .glo "_law_same", .glo "_law_related", .glo "law", .glo "NOWHERE", .glo "Same", .glo "Apart", .free "enumerate", .free "list", .free "range", .free "len", .free "tuple", .free "int"]
def fa2 : List He.Fa := [.free "sum", .free "sorted", .free "set", .free "all", .free "any", .free "min", .free "max", .free "abs", .int "MAX_MACHINE" 400, .int "MAX_PAIRS" 4000, .int "MAX_COUNT" 100, .exc "Same", .exc "Apart", .exm "Same" "Same" true, .exm "Apart" "Apart" true]
def fa : List He.Fa := fa0 ++ (fa1 ++ (fa2))
abbrev dPai : He.Defn := ("paired", none)
abbrev dHid : He.Defn := ("hide", none)
abbrev tf : List He.Defn := [dPai, dHid]
/-- NOWHERE stands as it was written; the two tables are not one -/
def exN (K : PySem.W.Frag) : Bool := match K.lookup (He.ga K "NOWHERE") with
  | some ⟨.type c, _, .seq its _, _⟩ => decide (c = "tuple") && (match its.toList with
    | [.int i _, .int j _] => decide (i = -1) && decide (j = -1)
    | _ => false)
  | _ => false
def ex (K : PySem.W.Frag) : Bool := exN K && (!decide ((He.cT K dPai).2 = (He.cT K dHid).2) && (!decide (mainGlobals = (He.cT K dPai).2) && !decide (mainGlobals = (He.cT K dHid).2)))
abbrev Rw : PySem.W.OpenRow := PySem.W.OpenLaw.row PySem.Challenge.rw_doppelganger_k33_whole_same_in_four_ways
abbrev hk : PySem.W.Hook := He.hookX 4 fa fn [] tf ex
def ob (s : PySem.W.SharedT) : He.AlX := He.obsX 4 fa fn [] tf ex (HandSHeadRun.getT s)
theorem ob_eq (s : PySem.W.SharedT) : ob s = hk.obs s.abs := He.obsX_eq (HandSHeadRun.getT_eq s)
def names1 : List PySem.Str := ["DoppelError", "NotAllowed", "BadForm", "TooLarge", "Same", "Apart", "first_state", "next_state", "is_accepting", "check_letters", "difference", "MAX_MACHINE", "MAX_PAIRS", "MAX_COUNT", "accepts", "useful_states", "kinds_of", "least_machine", "count_words", "met"]
def names2 : List PySem.Str := ["smallest", "paired", "both", "either", "closed", "hide", "NOWHERE", "relation", "check_form", "check_relation", "_law_numbers", "_law_machine", "_law_next", "_law_ends", "_law_first", "_law_pairs", "_law_alike", "_law_second", "_law_same", "_law_related"]
abbrev names : List PySem.Str := names1 ++ names2
theorem run (w : World) : HandSHeadRun.RunEq Rw (PySem.W.view Rw.prog [46]) hk ob 3000 names w := by
  intro os
  kernel_rfl
end Dg
end

section
set_option maxHeartbeats 4000000
namespace Dg
open PySem PySem.Spec PyProof.Rows L2
theorem fun_of {K : PySem.W.Frag} {x qual : Str} {st : Stmt} {f : Addr} {fd : FuncData} (F : FunD K x qual (defArgs st) (defBody st) (defScope st) [] [] f fd) : Fun K x qual st f fd := by
  obtain ⟨oc, od, dV, kV, doc, pm, an, cdv, ct, osl, h1, h2, h3, h4, _⟩ := F.ex
  rcases h4 with ⟨_, e⟩ | ⟨h, _⟩
  · subst e
    exact ⟨⟨oc, od, kV, doc, pm, an, cdv, ct, osl, h1, h2, h3⟩, F.kp⟩
  · exact absurd rfl h
theorem func_of {K : PySem.W.Frag} {x qual : Str} {st : Stmt} {p : He.Defn} {fd : FuncData} (F : Fun K x qual st (He.fAd K p) fd) : FunC K x qual st (He.fAd K p) fd (He.codeOf K p) := by
  obtain ⟨oc, od, kV, doc, pm, an, cdv, ct, osl, rfl, h2, h3⟩ := F.ex
  obtain ⟨c, rfl⟩ := He.codeIn_ref h3
  have e := He.codeOf_eq h2 rfl
  rw [e]
  exact ⟨⟨oc, od, kV, doc, pm, an, ct, osl, rfl, h2, h3⟩, F.kp⟩
theorem exN_ok {K : PySem.W.Frag} (h : exN K = true) : ∀ H : Hp, SqT K H (He.ga K "NOWHERE") [.int (-1), .int (-1)] := fun H => by
  unfold exN at h
  cases q : K.lookup (He.ga K "NOWHERE") with
  | none => rw [q] at h; cases h
  | some o =>
    obtain ⟨oc, od, dt, osl⟩ := o
    rw [q] at h
    cases oc with
    | type c =>
      cases dt with
      | seq its n =>
        obtain ⟨h1, h2⟩ := He.ba (show (decide (c = "tuple") && (match its.toList with
          | [.int i _, .int j _] => decide (i = -1) && decide (j = -1)
          | _ => false)) = true from h)
        have e1 := of_decide_eq_true h1
        cases e : its.toList with
        | nil => rw [e] at h2; cases h2
        | cons x r =>
          cases r with
          | nil => rw [e] at h2; cases x <;> cases h2
          | cons y r =>
            cases r with
            | cons z r => rw [e] at h2; cases x <;> cases y <;> cases h2
            | nil =>
              rw [e] at h2
              cases x with
              | int i t =>
                cases y with
                | int j u =>
                  obtain ⟨h3, h4⟩ := He.ba (show (decide (i = -1) && decide (j = -1)) = true from h2)
                  have e3 := of_decide_eq_true h3
                  have e4 := of_decide_eq_true h4
                  subst e1 e3 e4
                  refine .inr ⟨_, its, n, q, rfl, rfl, ?_, ?_⟩
                  · have : its.size = its.toList.length := by simp
                    rw [this, e]
                    show 2 ≤ sizeLine
                    decide
                  · rw [e]
                    exact .cons ⟨t, rfl⟩ (.cons ⟨u, rfl⟩ .nil)
                | _ => cases h2
              | _ => cases h2
      | _ => cases h
    | _ => cases h
theorem err_of {K : PySem.W.Frag} {h : Heap} {mg : Str → Option Value} {x : Str} (X : K.In h) (G : h.Ns mainGlobals mg) (c1 : (He.Fa.glo x).ok K = true) (c2 : (He.Fa.exc x).ok K = true) : ErrC K mg x (He.ga K x) := by
  obtain ⟨h1, h2, h3, h4⟩ := He.exc_ok c2
  exact ⟨He.glo_ok X G c1, h1, h2, h3, h4⟩
theorem rel_of {mg : Str → Option Value} {x : Str} {i : Int} (h : ∃ t, mg x = some (.int i t)) : ∃ u, mg x = some u ∧ RelV (.int i) u := by
  obtain ⟨t, e⟩ := h
  exact ⟨_, e, t, rfl⟩
abbrev nmP : Nat → Nat → Str := fun _ _ => "paired.<locals>.targets_of"
abbrev nmH : Nat → Nat → Str := fun _ _ => "hide.<locals>.targets_of"
abbrev TtOf (K : PySem.W.Frag) : List NdefX.NTab := [((He.cT K dPai).2, nmP), ((He.cT K dHid).2, nmH)]
theorem facts {P : Program} {w : World} {K : PySem.W.Frag} {h : Heap} {mg : Str → Option Value} {f : Addr} (X : K.In h) (G : h.Ns mainGlobals mg) (hfa : mg ("law" : Str) = some (.ref f)) (c : He.SaysX fa fn [] tf ex w h K) :
    ∃ fd : FuncData, (∀ (s : Shared) (v : Value), BindsTo s fd ⟨[v], []⟩ [("_law_script", v)]) ∧ ∀ base : Heap, K.In base → base.Ns mainGlobals mg → (∀ p ∈ tf.map (He.cT K), LamX.TabB base mg p.1 p.2) → FnOk P w K mg base CX0 6 f fd ["_law_script"] (spLaw K (TtOf K)) := by
  have cd := c.t.d
  obtain ⟨x1, x2⟩ := He.ba c.more
  obtain ⟨x3, _⟩ := He.ba x2
  have hNW := exN_ok x1
  have hne : (He.cT K dPai).2 ≠ (He.cT K dHid).2 := fun z => by
    rw [decide_eq_true z] at x3
    cases x3
  obtain ⟨fd_first_state, FD_first_state⟩ := cd.def_ 0 (d := d_first_state) rfl
  have F_first_state : Fun K "first_state" "first_state" (top 8) (He.fAd K ("first_state", none)) fd_first_state := fun_of FD_first_state
  have m_first_state : mg "first_state" = some (.ref (He.fAd K ("first_state", none))) := He.glo_ok X G (cd.fact 0 (f := .glo "first_state") rfl)
  have b_first_state : Binds K fd_first_state ["machine"] [] := F_first_state.binds fun _ _ _ _ _ _ us hl => match us, hl with | [_], _ => rfl
  obtain ⟨fd_next_state, FD_next_state⟩ := cd.def_ 1 (d := d_next_state) rfl
  have F_next_state : Fun K "next_state" "next_state" (top 9) (He.fAd K ("next_state", none)) fd_next_state := fun_of FD_next_state
  have m_next_state : mg "next_state" = some (.ref (He.fAd K ("next_state", none))) := He.glo_ok X G (cd.fact 1 (f := .glo "next_state") rfl)
  have b_next_state : Binds K fd_next_state ["machine", "state", "letter"] [] := F_next_state.binds fun _ _ _ _ _ _ us hl => match us, hl with | [_, _, _], _ => rfl
  obtain ⟨fd_is_accepting, FD_is_accepting⟩ := cd.def_ 2 (d := d_is_accepting) rfl
  have F_is_accepting : Fun K "is_accepting" "is_accepting" (top 10) (He.fAd K ("is_accepting", none)) fd_is_accepting := fun_of FD_is_accepting
  have m_is_accepting : mg "is_accepting" = some (.ref (He.fAd K ("is_accepting", none))) := He.glo_ok X G (cd.fact 2 (f := .glo "is_accepting") rfl)
  have b_is_accepting : Binds K fd_is_accepting ["machine", "state"] [] := F_is_accepting.binds fun _ _ _ _ _ _ us hl => match us, hl with | [_, _], _ => rfl
  obtain ⟨fd_check_letters, FD_check_letters⟩ := cd.def_ 3 (d := d_check_letters) rfl
  have F_check_letters : Fun K "check_letters" "check_letters" (top 11) (He.fAd K ("check_letters", none)) fd_check_letters := fun_of FD_check_letters
  have m_check_letters : mg "check_letters" = some (.ref (He.fAd K ("check_letters", none))) := He.glo_ok X G (cd.fact 3 (f := .glo "check_letters") rfl)
  have b_check_letters : Binds K fd_check_letters ["first", "second"] [] := F_check_letters.binds fun _ _ _ _ _ _ us hl => match us, hl with | [_, _], _ => rfl
  obtain ⟨fd_difference, FD_difference⟩ := cd.def_ 4 (d := d_difference) rfl
  have F_difference : Fun K "difference" "difference" (top 12) (He.fAd K ("difference", none)) fd_difference := fun_of FD_difference
  have m_difference : mg "difference" = some (.ref (He.fAd K ("difference", none))) := He.glo_ok X G (cd.fact 4 (f := .glo "difference") rfl)
  have b_difference : Binds K fd_difference ["first", "second"] [] := F_difference.binds fun _ _ _ _ _ _ us hl => match us, hl with | [_, _], _ => rfl
  obtain ⟨fd_accepts, FD_accepts⟩ := cd.def_ 5 (d := d_accepts) rfl
  have F_accepts : Fun K "accepts" "accepts" (top 17) (He.fAd K ("accepts", none)) fd_accepts := fun_of FD_accepts
  have m_accepts : mg "accepts" = some (.ref (He.fAd K ("accepts", none))) := He.glo_ok X G (cd.fact 5 (f := .glo "accepts") rfl)
  have b_accepts : Binds K fd_accepts ["machine", "word"] [] := F_accepts.binds fun _ _ _ _ _ _ us hl => match us, hl with | [_, _], _ => rfl
  obtain ⟨fd_useful_states, FD_useful_states⟩ := cd.def_ 6 (d := d_useful_states) rfl
  have F_useful_states : Fun K "useful_states" "useful_states" (top 18) (He.fAd K ("useful_states", none)) fd_useful_states := fun_of FD_useful_states
  have m_useful_states : mg "useful_states" = some (.ref (He.fAd K ("useful_states", none))) := He.glo_ok X G (cd.fact 6 (f := .glo "useful_states") rfl)
  have b_useful_states : Binds K fd_useful_states ["machine"] [] := F_useful_states.binds fun _ _ _ _ _ _ us hl => match us, hl with | [_], _ => rfl
  obtain ⟨fd_kinds_of, FD_kinds_of⟩ := cd.def_ 7 (d := d_kinds_of) rfl
  have F_kinds_of : Fun K "kinds_of" "kinds_of" (top 19) (He.fAd K ("kinds_of", none)) fd_kinds_of := fun_of FD_kinds_of
  have m_kinds_of : mg "kinds_of" = some (.ref (He.fAd K ("kinds_of", none))) := He.glo_ok X G (cd.fact 7 (f := .glo "kinds_of") rfl)
  have b_kinds_of : Binds K fd_kinds_of ["machine", "useful"] [] := F_kinds_of.binds fun _ _ _ _ _ _ us hl => match us, hl with | [_, _], _ => rfl
  obtain ⟨fd_least_machine, FD_least_machine⟩ := cd.def_ 8 (d := d_least_machine) rfl
  have F_least_machine : Fun K "least_machine" "least_machine" (top 20) (He.fAd K ("least_machine", none)) fd_least_machine := fun_of FD_least_machine
  have m_least_machine : mg "least_machine" = some (.ref (He.fAd K ("least_machine", none))) := He.glo_ok X G (cd.fact 8 (f := .glo "least_machine") rfl)
  have b_least_machine : Binds K fd_least_machine ["machine"] [] := F_least_machine.binds fun _ _ _ _ _ _ us hl => match us, hl with | [_], _ => rfl
  obtain ⟨fd_count_words, FD_count_words⟩ := cd.def_ 9 (d := d_count_words) rfl
  have F_count_words : Fun K "count_words" "count_words" (top 21) (He.fAd K ("count_words", none)) fd_count_words := fun_of FD_count_words
  have m_count_words : mg "count_words" = some (.ref (He.fAd K ("count_words", none))) := He.glo_ok X G (cd.fact 9 (f := .glo "count_words") rfl)
  have b_count_words : Binds K fd_count_words ["machine", "length"] [] := F_count_words.binds fun _ _ _ _ _ _ us hl => match us, hl with | [_, _], _ => rfl
  obtain ⟨fd_met, FD_met⟩ := cd.def_ 10 (d := d_met) rfl
  have F_met : Fun K "met" "met" (top 23) (He.fAd K ("met", none)) fd_met := fun_of FD_met
  have m_met : mg "met" = some (.ref (He.fAd K ("met", none))) := He.glo_ok X G (cd.fact 10 (f := .glo "met") rfl)
  have b_met : Binds K fd_met ["start", "targets_of", "most"] [] := F_met.binds fun _ _ _ _ _ _ us hl => match us, hl with | [_, _, _], _ => rfl
  obtain ⟨fd_smallest, FD_smallest⟩ := cd.def_ 11 (d := d_smallest) rfl
  have F_smallest : Fun K "smallest" "smallest" (top 24) (He.fAd K ("smallest", none)) fd_smallest := fun_of FD_smallest
  have m_smallest : mg "smallest" = some (.ref (He.fAd K ("smallest", none))) := He.glo_ok X G (cd.fact 11 (f := .glo "smallest") rfl)
  have b_smallest : Binds K fd_smallest ["letters", "rows", "accepting"] [] := F_smallest.binds fun _ _ _ _ _ _ us hl => match us, hl with | [_, _, _], _ => rfl
  obtain ⟨fd_paired, FD_paired⟩ := cd.def_ 12 (d := d_paired) rfl
  have F_paired : Fun K "paired" "paired" (top 25) (He.fAd K ("paired", none)) fd_paired := fun_of FD_paired
  have m_paired : mg "paired" = some (.ref (He.fAd K ("paired", none))) := He.glo_ok X G (cd.fact 12 (f := .glo "paired") rfl)
  have b_paired : Binds K fd_paired ["first", "second", "whole"] [] := F_paired.binds fun _ _ _ _ _ _ us hl => match us, hl with | [_, _, _], _ => rfl
  obtain ⟨fd_both, FD_both⟩ := cd.def_ 13 (d := d_both) rfl
  have F_both : Fun K "both" "both" (top 26) (He.fAd K ("both", none)) fd_both := fun_of FD_both
  have m_both : mg "both" = some (.ref (He.fAd K ("both", none))) := He.glo_ok X G (cd.fact 13 (f := .glo "both") rfl)
  have b_both : Binds K fd_both ["first", "second"] [] := F_both.binds fun _ _ _ _ _ _ us hl => match us, hl with | [_, _], _ => rfl
  obtain ⟨fd_either, FD_either⟩ := cd.def_ 14 (d := d_either) rfl
  have F_either : Fun K "either" "either" (top 27) (He.fAd K ("either", none)) fd_either := fun_of FD_either
  have m_either : mg "either" = some (.ref (He.fAd K ("either", none))) := He.glo_ok X G (cd.fact 14 (f := .glo "either") rfl)
  have b_either : Binds K fd_either ["first", "second"] [] := F_either.binds fun _ _ _ _ _ _ us hl => match us, hl with | [_, _], _ => rfl
  obtain ⟨fd_closed, FD_closed⟩ := cd.def_ 15 (d := d_closed) rfl
  have F_closed : Fun K "closed" "closed" (top 28) (He.fAd K ("closed", none)) fd_closed := fun_of FD_closed
  have m_closed : mg "closed" = some (.ref (He.fAd K ("closed", none))) := He.glo_ok X G (cd.fact 15 (f := .glo "closed") rfl)
  have b_closed : Binds K fd_closed ["machine", "states", "hidden"] [] := F_closed.binds fun _ _ _ _ _ _ us hl => match us, hl with | [_, _, _], _ => rfl
  obtain ⟨fd_hide, FD_hide⟩ := cd.def_ 16 (d := d_hide) rfl
  have F_hide : Fun K "hide" "hide" (top 29) (He.fAd K ("hide", none)) fd_hide := fun_of FD_hide
  have m_hide : mg "hide" = some (.ref (He.fAd K ("hide", none))) := He.glo_ok X G (cd.fact 16 (f := .glo "hide") rfl)
  have b_hide : Binds K fd_hide ["machine", "hidden"] [] := F_hide.binds fun _ _ _ _ _ _ us hl => match us, hl with | [_, _], _ => rfl
  obtain ⟨fd_relation, FD_relation⟩ := cd.def_ 17 (d := d_relation) rfl
  have F_relation : Fun K "relation" "relation" (top 32) (He.fAd K ("relation", none)) fd_relation := fun_of FD_relation
  have m_relation : mg "relation" = some (.ref (He.fAd K ("relation", none))) := He.glo_ok X G (cd.fact 17 (f := .glo "relation") rfl)
  have b_relation : Binds K fd_relation ["first", "second"] [] := F_relation.binds fun _ _ _ _ _ _ us hl => match us, hl with | [_, _], _ => rfl
  obtain ⟨fd_check_form, FD_check_form⟩ := cd.def_ 18 (d := d_check_form) rfl
  have F_check_form : Fun K "check_form" "check_form" (top 33) (He.fAd K ("check_form", none)) fd_check_form := fun_of FD_check_form
  have m_check_form : mg "check_form" = some (.ref (He.fAd K ("check_form", none))) := He.glo_ok X G (cd.fact 18 (f := .glo "check_form") rfl)
  have b_check_form : Binds K fd_check_form ["first", "second", "pairs"] [] := F_check_form.binds fun _ _ _ _ _ _ us hl => match us, hl with | [_, _, _], _ => rfl
  obtain ⟨fd_check_relation, FD_check_relation⟩ := cd.def_ 19 (d := d_check_relation) rfl
  have F_check_relation : Fun K "check_relation" "check_relation" (top 34) (He.fAd K ("check_relation", none)) fd_check_relation := fun_of FD_check_relation
  have m_check_relation : mg "check_relation" = some (.ref (He.fAd K ("check_relation", none))) := He.glo_ok X G (cd.fact 19 (f := .glo "check_relation") rfl)
  have b_check_relation : Binds K fd_check_relation ["first", "second", "pairs"] [] := F_check_relation.binds fun _ _ _ _ _ _ us hl => match us, hl with | [_, _, _], _ => rfl
  obtain ⟨fd__law_numbers, FD__law_numbers⟩ := cd.def_ 20 (d := d__law_numbers) rfl
  have F__law_numbers : Fun K "_law_numbers" "_law_numbers" (top 36) (He.fAd K ("_law_numbers", none)) fd__law_numbers := fun_of FD__law_numbers
  have m__law_numbers : mg "_law_numbers" = some (.ref (He.fAd K ("_law_numbers", none))) := He.glo_ok X G (cd.fact 20 (f := .glo "_law_numbers") rfl)
  have b__law_numbers : Binds K fd__law_numbers ["_law_script", "_law_many"] [] := F__law_numbers.binds fun _ _ _ _ _ _ us hl => match us, hl with | [_, _], _ => rfl
  obtain ⟨fd__law_machine, FD__law_machine⟩ := cd.def_ 21 (d := d__law_machine) rfl
  have F__law_machine : Fun K "_law_machine" "_law_machine" (top 37) (He.fAd K ("_law_machine", none)) fd__law_machine := fun_of FD__law_machine
  have m__law_machine : mg "_law_machine" = some (.ref (He.fAd K ("_law_machine", none))) := He.glo_ok X G (cd.fact 21 (f := .glo "_law_machine") rfl)
  have b__law_machine : Binds K fd__law_machine pMac [] := F__law_machine.binds fun _ _ _ _ _ _ us hl => match us, hl with | [_, _, _, _, _], _ => rfl
  obtain ⟨fd__law_next, FD__law_next⟩ := cd.def_ 22 (d := d__law_next) rfl
  have F__law_next : Fun K "_law_next" "_law_next" (top 38) (He.fAd K ("_law_next", none)) fd__law_next := fun_of FD__law_next
  have m__law_next : mg "_law_next" = some (.ref (He.fAd K ("_law_next", none))) := He.glo_ok X G (cd.fact 22 (f := .glo "_law_next") rfl)
  have b__law_next : Binds K fd__law_next ["_law_machine_here", "_law_state", "_law_letter"] [] := F__law_next.binds fun _ _ _ _ _ _ us hl => match us, hl with | [_, _, _], _ => rfl
  obtain ⟨fd__law_ends, FD__law_ends⟩ := cd.def_ 23 (d := d__law_ends) rfl
  have F__law_ends : Fun K "_law_ends" "_law_ends" (top 39) (He.fAd K ("_law_ends", none)) fd__law_ends := fun_of FD__law_ends
  have m__law_ends : mg "_law_ends" = some (.ref (He.fAd K ("_law_ends", none))) := He.glo_ok X G (cd.fact 23 (f := .glo "_law_ends") rfl)
  have b__law_ends : Binds K fd__law_ends ["_law_machine_here", "_law_state"] [] := F__law_ends.binds fun _ _ _ _ _ _ us hl => match us, hl with | [_, _], _ => rfl
  obtain ⟨fd__law_first, FD__law_first⟩ := cd.def_ 24 (d := d__law_first) rfl
  have F__law_first : Fun K "_law_first" "_law_first" (top 40) (He.fAd K ("_law_first", none)) fd__law_first := fun_of FD__law_first
  have m__law_first : mg "_law_first" = some (.ref (He.fAd K ("_law_first", none))) := He.glo_ok X G (cd.fact 24 (f := .glo "_law_first") rfl)
  have b__law_first : Binds K fd__law_first ["_law_machine_here"] [] := F__law_first.binds fun _ _ _ _ _ _ us hl => match us, hl with | [_], _ => rfl
  obtain ⟨fd__law_pairs, FD__law_pairs⟩ := cd.def_ 25 (d := d__law_pairs) rfl
  have F__law_pairs : Fun K "_law_pairs" "_law_pairs" (top 41) (He.fAd K ("_law_pairs", none)) fd__law_pairs := fun_of FD__law_pairs
  have m__law_pairs : mg "_law_pairs" = some (.ref (He.fAd K ("_law_pairs", none))) := He.glo_ok X G (cd.fact 25 (f := .glo "_law_pairs") rfl)
  have b__law_pairs : Binds K fd__law_pairs ["_law_first_here", "_law_second_here"] [] := F__law_pairs.binds fun _ _ _ _ _ _ us hl => match us, hl with | [_, _], _ => rfl
  obtain ⟨fd__law_alike, FD__law_alike⟩ := cd.def_ 26 (d := d__law_alike) rfl
  have F__law_alike : Fun K "_law_alike" "_law_alike" (top 42) (He.fAd K ("_law_alike", none)) fd__law_alike := fun_of FD__law_alike
  have m__law_alike : mg "_law_alike" = some (.ref (He.fAd K ("_law_alike", none))) := He.glo_ok X G (cd.fact 26 (f := .glo "_law_alike") rfl)
  have b__law_alike : Binds K fd__law_alike ["_law_first_here", "_law_second_here"] [] := F__law_alike.binds fun _ _ _ _ _ _ us hl => match us, hl with | [_, _], _ => rfl
  obtain ⟨fd__law_second, FD__law_second⟩ := cd.def_ 27 (d := d__law_second) rfl
  have F__law_second : Fun K "_law_second" "_law_second" (top 43) (He.fAd K ("_law_second", none)) fd__law_second := fun_of FD__law_second
  have m__law_second : mg "_law_second" = some (.ref (He.fAd K ("_law_second", none))) := He.glo_ok X G (cd.fact 27 (f := .glo "_law_second") rfl)
  have b__law_second : Binds K fd__law_second ["_law_machine_here", "_law_numbers_here"] [] := F__law_second.binds fun _ _ _ _ _ _ us hl => match us, hl with | [_, _], _ => rfl
  obtain ⟨fd__law_same, FD__law_same⟩ := cd.def_ 28 (d := d__law_same) rfl
  have F__law_same : Fun K "_law_same" "_law_same" (top 44) (He.fAd K ("_law_same", none)) fd__law_same := fun_of FD__law_same
  have m__law_same : mg "_law_same" = some (.ref (He.fAd K ("_law_same", none))) := He.glo_ok X G (cd.fact 28 (f := .glo "_law_same") rfl)
  have b__law_same : Binds K fd__law_same ["_law_first_here", "_law_second_here"] [] := F__law_same.binds fun _ _ _ _ _ _ us hl => match us, hl with | [_, _], _ => rfl
  obtain ⟨fd__law_related, FD__law_related⟩ := cd.def_ 29 (d := d__law_related) rfl
  have F__law_related : Fun K "_law_related" "_law_related" (top 45) (He.fAd K ("_law_related", none)) fd__law_related := fun_of FD__law_related
  have m__law_related : mg "_law_related" = some (.ref (He.fAd K ("_law_related", none))) := He.glo_ok X G (cd.fact 29 (f := .glo "_law_related") rfl)
  have b__law_related : Binds K fd__law_related ["_law_first_here", "_law_second_here"] [] := F__law_related.binds fun _ _ _ _ _ _ us hl => match us, hl with | [_, _], _ => rfl
  obtain ⟨fd_law, FD_law⟩ := cd.def_ 30 (d := d_law) rfl
  have F_law : Fun K "law" "law" (top 46) (He.fAd K ("law", none)) fd_law := fun_of FD_law
  have b_law : Binds K fd_law ["_law_script"] [] := F_law.binds fun _ _ _ _ _ _ us hl => match us, hl with | [_], _ => rfl
  have mNW : mg "NOWHERE" = some (.ref (He.ga K "NOWHERE")) := He.glo_ok X G (cd.fact 31 (f := .glo "NOWHERE") rfl)
  have z_enumerate : mg "enumerate" = none := He.free_ok X G (cd.fact 34 (f := .free "enumerate") rfl)
  have z_list : mg "list" = none := He.free_ok X G (cd.fact 35 (f := .free "list") rfl)
  have z_range : mg "range" = none := He.free_ok X G (cd.fact 36 (f := .free "range") rfl)
  have z_len : mg "len" = none := He.free_ok X G (cd.fact 37 (f := .free "len") rfl)
  have z_tuple : mg "tuple" = none := He.free_ok X G (cd.fact 38 (f := .free "tuple") rfl)
  have z_int : mg "int" = none := He.free_ok X G (cd.fact 39 (f := .free "int") rfl)
  have z_sum : mg "sum" = none := He.free_ok X G (cd.fact 40 (f := .free "sum") rfl)
  have z_sorted : mg "sorted" = none := He.free_ok X G (cd.fact 41 (f := .free "sorted") rfl)
  have z_set : mg "set" = none := He.free_ok X G (cd.fact 42 (f := .free "set") rfl)
  have z_all : mg "all" = none := He.free_ok X G (cd.fact 43 (f := .free "all") rfl)
  have z_any : mg "any" = none := He.free_ok X G (cd.fact 44 (f := .free "any") rfl)
  have z_min : mg "min" = none := He.free_ok X G (cd.fact 45 (f := .free "min") rfl)
  have z_max : mg "max" = none := He.free_ok X G (cd.fact 46 (f := .free "max") rfl)
  have z_abs : mg "abs" = none := He.free_ok X G (cd.fact 47 (f := .free "abs") rfl)
  obtain ⟨u_MAX_MACHINE, i_MAX_MACHINE, r_MAX_MACHINE⟩ := rel_of (He.int_ok X G (cd.fact 48 (f := .int "MAX_MACHINE" 400) rfl))
  obtain ⟨u_MAX_PAIRS, i_MAX_PAIRS, r_MAX_PAIRS⟩ := rel_of (He.int_ok X G (cd.fact 49 (f := .int "MAX_PAIRS" 4000) rfl))
  obtain ⟨u_MAX_COUNT, i_MAX_COUNT, r_MAX_COUNT⟩ := rel_of (He.int_ok X G (cd.fact 50 (f := .int "MAX_COUNT" 100) rfl))
  have ES : ErrC K mg "Same" (He.ga K "Same") := err_of X G (cd.fact 32 (f := .glo "Same") rfl) (cd.fact 51 (f := .exc "Same") rfl)
  have EA : ErrC K mg "Apart" (He.ga K "Apart") := err_of X G (cd.fact 33 (f := .glo "Apart") rfl) (cd.fact 52 (f := .exc "Apart") rfl)
  have eS := He.exm_ok (cd.fact 53 (f := .exm "Same" "Same" true) rfl)
  have eA := He.exm_ok (cd.fact 54 (f := .exm "Apart" "Apart" true) rfl)
  have e := hfa.symm.trans (He.glo_ok X G (cd.fact 30 (f := .glo "law") rfl))
  cases e
  refine ⟨fd_law, fun s v => ?_, fun base XB GB tb => ?_⟩
  · have hb : bindArgs fd_law ⟨[v], []⟩ = pure [(("_law_script" : Str), v)] := by
      obtain ⟨oc, od, kV, doc, pm, an, cdv, ct, osl, rfl, _⟩ := F_law.ex
      rfl
    exact BindsTo.of_eq hb
  have G_first_state : FnOk P w K mg base CX0 1 (He.fAd K ("first_state", none)) fd_first_state ["machine"] (spFst K) := ok_fst F_first_state z_len
  have G_next_state : FnOk P w K mg base CX0 1 (He.fAd K ("next_state", none)) fd_next_state ["machine", "state", "letter"] (spNxt K) := ok_nxt F_next_state
  have G_is_accepting : FnOk P w K mg base CX0 1 (He.fAd K ("is_accepting", none)) fd_is_accepting ["machine", "state"] (spAcc K) := ok_acc F_is_accepting
  have G_check_letters : FnOk P w K mg base CX0 1 (He.fAd K ("check_letters", none)) fd_check_letters ["first", "second"] (spChk K) := ok_chk F_check_letters
  have G__law_next : FnOk P w K mg base CX0 1 (He.fAd K ("_law_next", none)) fd__law_next ["_law_machine_here", "_law_state", "_law_letter"] (spNxt K) := ok_lnx F__law_next
  have G__law_ends : FnOk P w K mg base CX0 1 (He.fAd K ("_law_ends", none)) fd__law_ends ["_law_machine_here", "_law_state"] (spAcc K) := ok_len F__law_ends
  have G__law_first : FnOk P w K mg base CX0 1 (He.fAd K ("_law_first", none)) fd__law_first ["_law_machine_here"] (spFstS K) := ok_lfi F__law_first z_len z_int
  have G_useful_states : FnOk P w K mg base CX0 1 (He.fAd K ("useful_states", none)) fd_useful_states ["machine"] (spUse K) := ok_use F_useful_states z_enumerate z_list z_range z_len
  have G_kinds_of : FnOk P w K mg base CX0 1 (He.fAd K ("kinds_of", none)) fd_kinds_of ["machine", "useful"] (spKin K) := ok_kin F_kinds_of z_enumerate z_tuple z_range z_len z_int
  have G_least_machine : FnOk P w K mg base CX0 2 (He.fAd K ("least_machine", none)) fd_least_machine ["machine"] (spLea K) := ok_lea F_least_machine G_useful_states G_kinds_of F_useful_states.kp F_kinds_of.kp b_useful_states b_kinds_of m_useful_states m_kinds_of z_tuple z_len
  have G_accepts : FnOk P w K mg base CX0 1 (He.fAd K ("accepts", none)) fd_accepts ["machine", "word"] (spAcs K) := ok_acs F_accepts z_len
  have G_count_words : FnOk P w K mg base CX0 1 (He.fAd K ("count_words", none)) fd_count_words ["machine", "length"] (spCnt K) := ok_cnt F_count_words z_enumerate z_range z_len z_sum i_MAX_COUNT r_MAX_COUNT
  have G_smallest : FnOk P w K mg base CX0 3 (He.fAd K ("smallest", none)) fd_smallest ["letters", "rows", "accepting"] (spSma K) := ok_sma F_smallest G_least_machine F_least_machine.kp b_least_machine m_least_machine z_tuple z_len i_MAX_MACHINE r_MAX_MACHINE
  have tP : LamX.TabB base mg (He.codeOf K dPai) (He.cT K dPai).2 := tb (He.cT K dPai) (by simp)
  have tH : LamX.TabB base mg (He.codeOf K dHid) (He.cT K dHid).2 := tb (He.cT K dHid) (by simp)
  have uP : ∀ p ∈ TtOf K, p.1 = (He.cT K dPai).2 → p.2 = nmP := fun p hp e => by
    rcases List.mem_cons.mp hp with z | z
    · rw [z]
    · rw [List.mem_singleton.mp z] at e
      exact absurd e.symm hne
  have uH : ∀ p ∈ TtOf K, p.1 = (He.cT K dHid).2 → p.2 = nmH := fun p hp e => by
    rcases List.mem_cons.mp hp with z | z
    · rw [z] at e
      exact absurd e hne
    · rw [List.mem_singleton.mp z]
  have G_paired : FnOk P w K mg base CX0 4 (He.fAd K ("paired", none)) fd_paired ["first", "second", "whole"] (spPai K (TtOf K)) := ok_pai (func_of F_paired) tP List.mem_cons_self uP rfl G_check_letters F_check_letters.kp b_check_letters m_check_letters G_least_machine F_least_machine.kp b_least_machine m_least_machine G_first_state F_first_state.kp b_first_state m_first_state G_next_state F_next_state.kp b_next_state m_next_state G_is_accepting F_is_accepting.kp b_is_accepting m_is_accepting F_met b_met m_met G_smallest F_smallest.kp b_smallest m_smallest i_MAX_PAIRS r_MAX_PAIRS z_range z_min z_max z_all z_any z_tuple z_len
  have G_both : FnOk P w K mg base CX0 5 (He.fAd K ("both", none)) fd_both ["first", "second"] (spBE K (TtOf K) true) := ok_bot F_both G_paired F_paired.kp b_paired m_paired
  have G_either : FnOk P w K mg base CX0 5 (He.fAd K ("either", none)) fd_either ["first", "second"] (spBE K (TtOf K) false) := ok_eit F_either G_paired F_paired.kp b_paired m_paired
  have G_closed : FnOk P w K mg base CX0 1 (He.fAd K ("closed", none)) fd_closed ["machine", "states", "hidden"] (spClo K) := ok_clo F_closed z_list z_len z_tuple z_sorted
  have G_hide : FnOk P w K mg base CX0 4 (He.fAd K ("hide", none)) fd_hide ["machine", "hidden"] (spHid K (TtOf K)) := ok_hid (func_of F_hide) tH (List.mem_cons_of_mem _ List.mem_cons_self) uH rfl G_closed F_closed.kp b_closed m_closed G_least_machine F_least_machine.kp b_least_machine m_least_machine F_met b_met m_met G_smallest F_smallest.kp b_smallest m_smallest i_MAX_MACHINE r_MAX_MACHINE z_range z_all z_any z_tuple z_len z_set z_sorted
  have G_difference : FnOk P w K mg base (L2.CX P w) 2 (He.fAd K ("difference", none)) fd_difference ["first", "second"] (spDif K (He.ga K "Same")) := ok_dif F_difference ES G_check_letters F_check_letters.kp b_check_letters m_check_letters G_first_state F_first_state.kp b_first_state m_first_state G_next_state F_next_state.kp b_next_state m_next_state G_is_accepting F_is_accepting.kp b_is_accepting m_is_accepting z_range z_len
  have G_relation : FnOk P w K mg base (L2.CX P w) 2 (He.fAd K ("relation", none)) fd_relation ["first", "second"] (spRel K (He.ga K "Apart")) := ok_rel F_relation EA mNW hNW G_check_letters F_check_letters.kp b_check_letters m_check_letters G_first_state F_first_state.kp b_first_state m_first_state G_next_state F_next_state.kp b_next_state m_next_state G_is_accepting F_is_accepting.kp b_is_accepting m_is_accepting z_range z_len z_sorted
  have G_check_form : FnOk P w K mg base CX0 1 (He.fAd K ("check_form", none)) fd_check_form ["first", "second", "pairs"] (spFrm K) := ok_frm F_check_form mNW hNW z_enumerate z_len
  have G_check_relation : FnOk P w K mg base CX0 2 (He.fAd K ("check_relation", none)) fd_check_relation ["first", "second", "pairs"] (spCkr K) := ok_ckr F_check_relation mNW hNW G_check_letters F_check_letters.kp b_check_letters m_check_letters G_check_form F_check_form.kp b_check_form m_check_form G_first_state F_first_state.kp b_first_state m_first_state G_next_state F_next_state.kp b_next_state m_next_state G_is_accepting F_is_accepting.kp b_is_accepting m_is_accepting z_range
  have G__law_numbers : FnOk P w K mg base CX0 1 (He.fAd K ("_law_numbers", none)) fd__law_numbers ["_law_script", "_law_many"] (spNum K) := ok_num F__law_numbers z_range z_len z_abs z_int z_max
  have G__law_machine : FnOk P w K mg base CX0 1 (He.fAd K ("_law_machine", none)) fd__law_machine pMac (spMac K) := ok_mac F__law_machine z_range z_len z_int z_tuple
  have G__law_second : FnOk P w K mg base CX0 2 (He.fAd K ("_law_second", none)) fd__law_second ["_law_machine_here", "_law_numbers_here"] (spSec K) := ok_sec F__law_second G__law_machine F__law_machine.kp b__law_machine m__law_machine z_range z_len z_list z_tuple
  have G__law_pairs : FnOk P w K mg base CX0 2 (He.fAd K ("_law_pairs", none)) fd__law_pairs ["_law_first_here", "_law_second_here"] (spPrs K) := ok_prs F__law_pairs G__law_first F__law_first.kp b__law_first m__law_first G__law_next F__law_next.kp b__law_next m__law_next z_range z_len
  have G__law_alike : FnOk P w K mg base CX0 3 (He.fAd K ("_law_alike", none)) fd__law_alike ["_law_first_here", "_law_second_here"] (spAlk K) := ok_alk F__law_alike G__law_pairs F__law_pairs.kp b__law_pairs m__law_pairs G__law_ends F__law_ends.kp b__law_ends m__law_ends z_all
  have G__law_same : FnOk P w K mg base CX0 3 (He.fAd K ("_law_same", none)) fd__law_same ["_law_first_here", "_law_second_here"] (spAlk K) := ok_sam F__law_same ES eS G_difference F_difference.kp b_difference m_difference
  have G__law_related : FnOk P w K mg base CX0 3 (He.fAd K ("_law_related", none)) fd__law_related ["_law_first_here", "_law_second_here"] (spAlk K) := ok_rld F__law_related EA eA G_relation F_relation.kp b_relation m_relation G_check_relation F_check_relation.kp b_check_relation m_check_relation
  exact ok_law F_law G__law_numbers F__law_numbers.kp b__law_numbers m__law_numbers G__law_machine F__law_machine.kp b__law_machine m__law_machine G__law_second F__law_second.kp b__law_second m__law_second G__law_alike F__law_alike.kp b__law_alike m__law_alike G_both F_both.kp b_both m_both G_either F_either.kp b_either m_either G__law_same F__law_same.kp b__law_same m__law_same G__law_related F__law_related.kp b__law_related m__law_related G_least_machine F_least_machine.kp b_least_machine m_least_machine G_count_words F_count_words.kp b_count_words m_count_words G_hide F_hide.kp b_hide m_hide G_difference F_difference.kp b_difference m_difference G_accepts F_accepts.kp b_accepts m_accepts z_range
end Dg
end

section
set_option maxHeartbeats 0
open PySem PySem.W PySem.Calls PyProof.Rows
theorem PySem.Challenge.cw_doppelganger_k33_whole_same_in_four_ways_holds : PySem.Challenge.rw_doppelganger_k33_whole_same_in_four_ways.Holds := by
  w_on; o_law
  refine HandSHeadRun.head_any (r := OpenLaw.row PySem.Challenge.rw_doppelganger_k33_whole_same_in_four_ways) (q := view (OpenLaw.row PySem.Challenge.rw_doppelganger_k33_whole_same_in_four_ways).prog [46]) (H := Dg.hk) (ob := Dg.ob) (M := 3000) (loose := Dg.names) (d := HandSHeadRun.topDef (OpenLaw.row PySem.Challenge.rw_doppelganger_k33_whole_same_in_four_ways).prog 46) (kwd := []) Dg.ob_eq
    (by kernel_rfl) (fun s => by kernel_rfl) Dg.run (by kernel_rfl) (by kernel_rfl) (by kernel_rfl) (by rfl) (by first | assumption | decide +kernel) (by decide +kernel) ⟨rfl, rfl, rfl, rfl, rfl, by decide +kernel⟩ ?hw ?hc
  case hw => w_witness2
  case hc =>
    refine LamX.walk_ofTsE (l := PySem.Challenge.rw_doppelganger_k33_whole_same_in_four_ways) (n := 63) (k := 6) (x := "_law_script") (CX := fun _ => L2.CX0) rfl (by decide) (by kernel_rfl) ⟨rfl, by decide, by decide⟩ ?F (fun _ _ _ _ _ z => z)
    intro w mg fa h Y G hmg0
    obtain ⟨K, KX, c⟩ := Y
    have hmg : mg ("law" : PySem.Str) = some (.ref fa) := by
      have e : (HandSHeadRun.topDef (OpenLaw.row PySem.Challenge.rw_doppelganger_k33_whole_same_in_four_ways).prog 46).name = ("law" : PySem.Str) := by kernel_rfl
      rw [← e]
      exact hmg0
    obtain ⟨fd, hb, hF⟩ := Dg.facts (P := (PySem.Challenge.rw_doppelganger_k33_whole_same_in_four_ways).prog) (w := w) KX G hmg c
    have mem : ∀ p ∈ Dg.tf.map (He.cT K), ∃ d ∈ Dg.tf, p = He.cT K d := fun p hp => by
      obtain ⟨d, hd, e⟩ := List.mem_map.mp hp
      exact ⟨d, hd, e.symm⟩
    refine ⟨K, KX, fd, Dg.tf.map (He.cT K), Dg.spLaw K (Dg.TtOf K), fun p hp => ?_, fun p hp => ?_, fun p hp => ?_, hb, fun H a ns hl _ hH hS => ⟨a, ns, rfl, hS, hl, ?_, fun _ => rfl⟩, hF⟩
    · obtain ⟨d, hd, rfl⟩ := mem p hp
      exact c.empty d hd
    · obtain ⟨d, hd, rfl⟩ := mem p hp
      exact c.out d hd
    · obtain ⟨d, hd, rfl⟩ := mem p hp
      exact codeHd_of_K KX (c.hd d hd)
    · intro t ht
      rcases List.mem_cons.mp ht with z | z
      · rw [z]
        exact NdefX.TabN.nil (hH (He.cT K Dg.dPai) (List.mem_map.mpr ⟨Dg.dPai, List.mem_cons_self, rfl⟩))
      · rw [List.mem_singleton.mp z]
        exact NdefX.TabN.nil (hH (He.cT K Dg.dHid) (List.mem_map.mpr ⟨Dg.dHid, List.mem_cons_of_mem _ List.mem_cons_self, rfl⟩))
end

