import PyProof.Rows.All
import Wide.All
import OpenK.AllK
import Wide.FinOn
import HandS.ForMost
import HandS.Evl
import KE.SortData
import HandS.SetFor
import HandS.Strs
import HandS.DictComp
import HandS.Zip
import HandS.Conv
import HandS.Deep
import PySem.Challenge.RW_pagelend_k49_whole_an_order_or_why_none
set_option Elab.async false
set_option linter.all false
set_option maxRecDepth 100000
set_option maxHeartbeats 8000000
/-! The plain law: histories of one page, zones of values, reasons, and the greedy order. No program in sight. -/
namespace K49
structure Row where
  num : Int
  wr : Bool
  val : Int
  beg : Int
  fin : Int
  deriving DecidableEq

/-! ### zones -/
def nought (v : Int) : List Int := if v = 0 then [-1] else []
def ends (rs : List Row) (v : Int) : List Int := nought v ++ (rs.filter (fun r => decide (r.val = v))).map Row.fin
def begs (rs : List Row) (v : Int) : List Int := nought v ++ (rs.filter (fun r => decide (r.val = v))).map Row.beg
def IsMin (l : List Int) (m : Int) : Prop := m ∈ l ∧ ∀ y, y ∈ l → m ≤ y
def IsMax (l : List Int) (m : Int) : Prop := m ∈ l ∧ ∀ y, y ∈ l → y ≤ m
structure Zone (rs : List Row) (v f l : Int) : Prop where
  mn : IsMin (ends rs v) f
  mx : IsMax (begs rs v) l
def Has (rs : List Row) (v : Int) : Prop := v = 0 ∨ ∃ r, r ∈ rs ∧ r.val = v

theorem IsMin.uniq {l : List Int} {a b : Int} (h : IsMin l a) (k : IsMin l b) : a = b := by
  have := h.2 b k.1
  have := k.2 a h.1
  omega
theorem IsMax.uniq {l : List Int} {a b : Int} (h : IsMax l a) (k : IsMax l b) : a = b := by
  have := h.2 b k.1
  have := k.2 a h.1
  omega
theorem Zone.uniq {rs : List Row} {v f l f' l' : Int} (h : Zone rs v f l) (k : Zone rs v f' l') : f = f' ∧ l = l' := ⟨h.mn.uniq k.mn, h.mx.uniq k.mx⟩
theorem mem_ends {rs : List Row} {v x : Int} : x ∈ ends rs v ↔ (v = 0 ∧ x = -1) ∨ ∃ r, r ∈ rs ∧ r.val = v ∧ r.fin = x := by
  unfold ends nought
  rw [List.mem_append, List.mem_map]
  constructor
  · rintro (h | ⟨r, h, e⟩)
    · split at h
      · rename_i e
        exact .inl ⟨e, by simpa using h⟩
      · cases h
    · obtain ⟨h1, h2⟩ := List.mem_filter.mp h
      exact .inr ⟨r, h1, of_decide_eq_true h2, e⟩
  · rintro (⟨h, e⟩ | ⟨r, h1, h2, e⟩)
    · rw [if_pos h, e]
      exact .inl (by simp)
    · exact .inr ⟨r, List.mem_filter.mpr ⟨h1, decide_eq_true h2⟩, e⟩
theorem mem_begs {rs : List Row} {v x : Int} : x ∈ begs rs v ↔ (v = 0 ∧ x = -1) ∨ ∃ r, r ∈ rs ∧ r.val = v ∧ r.beg = x := by
  unfold begs nought
  rw [List.mem_append, List.mem_map]
  constructor
  · rintro (h | ⟨r, h, e⟩)
    · split at h
      · rename_i e
        exact .inl ⟨e, by simpa using h⟩
      · cases h
    · obtain ⟨h1, h2⟩ := List.mem_filter.mp h
      exact .inr ⟨r, h1, of_decide_eq_true h2, e⟩
  · rintro (⟨h, e⟩ | ⟨r, h1, h2, e⟩)
    · rw [if_pos h, e]
      exact .inl (by simp)
    · exact .inr ⟨r, List.mem_filter.mpr ⟨h1, decide_eq_true h2⟩, e⟩
theorem Zone.has {rs : List Row} {v f l : Int} (h : Zone rs v f l) : Has rs v := by
  rcases mem_ends.mp h.mn.1 with ⟨e, _⟩ | ⟨r, h1, h2, _⟩
  · exact .inl e
  · exact .inr ⟨r, h1, h2⟩
theorem Zone.fin_le {rs : List Row} {v f l : Int} (h : Zone rs v f l) {r : Row} (hr : r ∈ rs) (e : r.val = v) : f ≤ r.fin := h.mn.2 _ (mem_ends.mpr (.inr ⟨r, hr, e, rfl⟩))
theorem Zone.le_beg {rs : List Row} {v f l : Int} (h : Zone rs v f l) {r : Row} (hr : r ∈ rs) (e : r.val = v) : r.beg ≤ l := h.mx.2 _ (mem_begs.mpr (.inr ⟨r, hr, e, rfl⟩))
theorem zone_nil : Zone [] 0 (-1) (-1) := by
  refine ⟨⟨mem_ends.mpr (.inl ⟨rfl, rfl⟩), fun y hy => ?_⟩, ⟨mem_begs.mpr (.inl ⟨rfl, rfl⟩), fun y hy => ?_⟩⟩
  · rcases mem_ends.mp hy with ⟨_, e⟩ | ⟨r, h, _⟩
    · omega
    · cases h
  · rcases mem_begs.mp hy with ⟨_, e⟩ | ⟨r, h, _⟩
    · omega
    · cases h
theorem zone_other {rs : List Row} {r : Row} {v f l : Int} (h : Zone rs v f l) (e : r.val ≠ v) : Zone (rs ++ [r]) v f l := by
  have a : ends (rs ++ [r]) v = ends rs v := by
    unfold ends
    rw [List.filter_append, List.filter_cons, if_neg (by simpa using e)]
    simp
  have b : begs (rs ++ [r]) v = begs rs v := by
    unfold begs
    rw [List.filter_append, List.filter_cons, if_neg (by simpa using e)]
    simp
  exact ⟨by rw [a]; exact h.mn, by rw [b]; exact h.mx⟩
theorem zone_same {rs : List Row} {r : Row} {v f l : Int} (h : Zone rs v f l) (e : r.val = v) : Zone (rs ++ [r]) v (if r.fin < f then r.fin else f) (if r.beg > l then r.beg else l) := by
  have me : ∀ x, x ∈ ends (rs ++ [r]) v ↔ x ∈ ends rs v ∨ x = r.fin := fun x => by
    rw [mem_ends, mem_ends]
    constructor
    · rintro (h | ⟨s, h1, h2, h3⟩)
      · exact .inl (.inl h)
      · rcases List.mem_append.mp h1 with q | q
        · exact .inl (.inr ⟨s, q, h2, h3⟩)
        · have : s = r := by simpa using q
          subst this
          exact .inr h3.symm
    · rintro ((h | ⟨s, h1, h2, h3⟩) | h)
      · exact .inl h
      · exact .inr ⟨s, List.mem_append_left _ h1, h2, h3⟩
      · exact .inr ⟨r, List.mem_append_right _ (by simp), e, h.symm⟩
  have mb : ∀ x, x ∈ begs (rs ++ [r]) v ↔ x ∈ begs rs v ∨ x = r.beg := fun x => by
    rw [mem_begs, mem_begs]
    constructor
    · rintro (h | ⟨s, h1, h2, h3⟩)
      · exact .inl (.inl h)
      · rcases List.mem_append.mp h1 with q | q
        · exact .inl (.inr ⟨s, q, h2, h3⟩)
        · have : s = r := by simpa using q
          subst this
          exact .inr h3.symm
    · rintro ((h | ⟨s, h1, h2, h3⟩) | h)
      · exact .inl h
      · exact .inr ⟨s, List.mem_append_left _ h1, h2, h3⟩
      · exact .inr ⟨r, List.mem_append_right _ (by simp), e, h.symm⟩
  refine ⟨⟨?_, fun y hy => ?_⟩, ⟨?_, fun y hy => ?_⟩⟩
  · rw [me]
    split
    · exact .inr rfl
    · exact .inl h.mn.1
  · rcases (me y).mp hy with q | q
    · have := h.mn.2 y q
      split <;> omega
    · split <;> omega
  · rw [mb]
    split
    · exact .inr rfl
    · exact .inl h.mx.1
  · rcases (mb y).mp hy with q | q
    · have := h.mx.2 y q
      split <;> omega
    · split <;> omega
theorem zone_new {rs : List Row} {r : Row} (h : ¬ Has rs r.val) : Zone (rs ++ [r]) r.val r.fin r.beg := by
  refine ⟨⟨mem_ends.mpr (.inr ⟨r, List.mem_append_right _ (by simp), rfl, rfl⟩), fun y hy => ?_⟩, ⟨mem_begs.mpr (.inr ⟨r, List.mem_append_right _ (by simp), rfl, rfl⟩), fun y hy => ?_⟩⟩
  · rcases mem_ends.mp hy with ⟨e, _⟩ | ⟨s, h1, h2, h3⟩
    · exact (h (.inl e)).elim
    · rcases List.mem_append.mp h1 with q | q
      · exact (h (.inr ⟨s, q, h2⟩)).elim
      · have : s = r := by simpa using q
        subst this
        omega
  · rcases mem_begs.mp hy with ⟨e, _⟩ | ⟨s, h1, h2, h3⟩
    · exact (h (.inl e)).elim
    · rcases List.mem_append.mp h1 with q | q
      · exact (h (.inr ⟨s, q, h2⟩)).elim
      · have : s = r := by simpa using q
        subst this
        omega
theorem has_snoc {rs : List Row} {r : Row} {v : Int} : Has (rs ++ [r]) v ↔ Has rs v ∨ r.val = v := by
  unfold Has
  constructor
  · rintro (h | ⟨s, h1, h2⟩)
    · exact .inl (.inl h)
    · rcases List.mem_append.mp h1 with q | q
      · exact .inl (.inr ⟨s, q, h2⟩)
      · have : s = r := by simpa using q
        subst this
        exact .inr h2
  · rintro ((h | ⟨s, h1, h2⟩) | h)
    · exact .inl h
    · exact .inr ⟨s, List.mem_append_left _ h1, h2⟩
    · exact .inr ⟨r, List.mem_append_right _ (by simp), h⟩
theorem min_ex : ∀ (l : List Int), l ≠ [] → ∃ m, IsMin l m
  | [], h => (h rfl).elim
  | [a], _ => ⟨a, by simp, by simp⟩
  | a :: b :: r, _ => by
    obtain ⟨m, h1, h2⟩ := min_ex (b :: r) (by simp)
    by_cases c : a ≤ m
    · refine ⟨a, by simp, fun y hy => ?_⟩
      rcases List.mem_cons.mp hy with q | q
      · omega
      · have := h2 y q
        omega
    · refine ⟨m, List.mem_cons_of_mem _ h1, fun y hy => ?_⟩
      rcases List.mem_cons.mp hy with q | q
      · omega
      · exact h2 y q
theorem max_ex : ∀ (l : List Int), l ≠ [] → ∃ m, IsMax l m
  | [], h => (h rfl).elim
  | [a], _ => ⟨a, by simp, by simp⟩
  | a :: b :: r, _ => by
    obtain ⟨m, h1, h2⟩ := max_ex (b :: r) (by simp)
    by_cases c : m ≤ a
    · refine ⟨a, by simp, fun y hy => ?_⟩
      rcases List.mem_cons.mp hy with q | q
      · omega
      · have := h2 y q
        omega
    · refine ⟨m, List.mem_cons_of_mem _ h1, fun y hy => ?_⟩
      rcases List.mem_cons.mp hy with q | q
      · omega
      · exact h2 y q
theorem zone_ex {rs : List Row} {v : Int} (h : Has rs v) : ∃ f l, Zone rs v f l := by
  have he : ends rs v ≠ [] := by
    intro q
    rcases h with h | ⟨r, h1, h2⟩
    · have : (-1 : Int) ∈ ends rs v := mem_ends.mpr (.inl ⟨h, rfl⟩)
      rw [q] at this
      cases this
    · have : r.fin ∈ ends rs v := mem_ends.mpr (.inr ⟨r, h1, h2, rfl⟩)
      rw [q] at this
      cases this
  have hb : begs rs v ≠ [] := by
    intro q
    rcases h with h | ⟨r, h1, h2⟩
    · have : (-1 : Int) ∈ begs rs v := mem_begs.mpr (.inl ⟨h, rfl⟩)
      rw [q] at this
      cases this
    · have : r.beg ∈ begs rs v := mem_begs.mpr (.inr ⟨r, h1, h2, rfl⟩)
      rw [q] at this
      cases this
  obtain ⟨f, hf⟩ := min_ex _ he
  obtain ⟨l, hl⟩ := max_ex _ hb
  exact ⟨f, l, hf, hl⟩

/-! ### reasons -/
inductive Word where
  | early | both | within
  deriving DecidableEq
def Reason (rs : List Row) : Word → Int → Int → Prop
  | .early, a, b => ∃ r w, r ∈ rs ∧ w ∈ rs ∧ r.wr = false ∧ w.wr = true ∧ w.val = r.val ∧ r.fin < w.beg ∧ r.num = a ∧ w.num = b
  | .both, a, b => ∃ fa la fb lb, Zone rs a fa la ∧ Zone rs b fb lb ∧ a < b ∧ fa < lb ∧ fb < la ∧ fa < la ∧ fb < lb
  | .within, a, b => ∃ fa la fb lb, Zone rs a fa la ∧ Zone rs b fb lb ∧ a ≠ b ∧ fa < lb ∧ fb < la ∧ fa < la ∧ lb ≤ fb
def NoReason (rs : List Row) : Prop := ∀ w a b, ¬ Reason rs w a b

structure WF (rs : List Row) : Prop where
  nums : (rs.map Row.num).Nodup
  wvals : ∀ r s, r ∈ rs → s ∈ rs → r.wr = true → s.wr = true → r.val = s.val → r = s
  wpos : ∀ r, r ∈ rs → r.wr = true → r.val ≠ 0
  has : ∀ r, r ∈ rs → r.val ≠ 0 → ∃ w, w ∈ rs ∧ w.wr = true ∧ w.val = r.val
  beg0 : ∀ r, r ∈ rs → 0 ≤ r.beg
  lt : ∀ r, r ∈ rs → r.beg < r.fin
  len : rs.length ≤ 60
theorem WF.inj {rs : List Row} (h : WF rs) {r s : Row} (hr : r ∈ rs) (hs : s ∈ rs) (e : r.num = s.num) : r = s := by
  have key : ∀ (l : List Row), (l.map Row.num).Nodup → r ∈ l → s ∈ l → r = s := by
    intro l
    induction l with
    | nil => intro _ h; cases h
    | cons a t ih =>
      intro nd h1 h2
      rw [List.map_cons, List.nodup_cons] at nd
      rcases List.mem_cons.mp h1 with q1 | q1
      · rcases List.mem_cons.mp h2 with q2 | q2
        · rw [q1, q2]
        · subst q1
          exact (nd.1 (List.mem_map.mpr ⟨s, q2, e.symm⟩)).elim
      · rcases List.mem_cons.mp h2 with q2 | q2
        · subst q2
          exact (nd.1 (List.mem_map.mpr ⟨r, q1, e⟩)).elim
        · exact ih nd.2 q1 q2
  exact key rs h.nums hr hs
theorem WF.perm {rs qs : List Row} (h : WF rs) (p : qs.Perm rs) : WF qs where
  nums := (p.map Row.num).nodup_iff.mpr h.nums
  wvals := fun r s hr hs => h.wvals r s (p.mem_iff.mp hr) (p.mem_iff.mp hs)
  wpos := fun r hr => h.wpos r (p.mem_iff.mp hr)
  has := fun r hr e => by
    obtain ⟨w, h1, h2⟩ := h.has r (p.mem_iff.mp hr) e
    exact ⟨w, p.mem_iff.mpr h1, h2⟩
  beg0 := fun r hr => h.beg0 r (p.mem_iff.mp hr)
  lt := fun r hr => h.lt r (p.mem_iff.mp hr)
  len := by rw [p.length_eq]; exact h.len

/-- two values neither of which goes ahead of the other in both ways -/
theorem no_mutual {rs : List Row} (N : NoReason rs) {a b fa la fb lb : Int} (za : Zone rs a fa la) (zb : Zone rs b fb lb) (ne : a ≠ b) (h1 : fa < lb) (h2 : fb < la) : False := by
  by_cases oa : fa < la
  · by_cases ob : fb < lb
    · by_cases c : a < b
      · exact N .both a b ⟨fa, la, fb, lb, za, zb, c, h1, h2, oa, ob⟩
      · exact N .both b a ⟨fb, lb, fa, la, zb, za, by omega, h2, h1, ob, oa⟩
    · exact N .within a b ⟨fa, la, fb, lb, za, zb, ne, h1, h2, oa, by omega⟩
  · exact N .within b a ⟨fb, lb, fa, la, zb, za, fun e => ne e.symm, h2, h1, by omega, by omega⟩

/-- v goes behind no other one of ns -/
def First (rs : List Row) (ns : List Int) (v : Int) : Prop := ∀ o, o ∈ ns → o ≠ v → ∀ fo lo fv lv, Zone rs o fo lo → Zone rs v fv lv → lv ≤ fo

theorem least_by (g : Int → Int) : ∀ (ns : List Int), ns ≠ [] → ∃ v, v ∈ ns ∧ ∀ o, o ∈ ns → g v ≤ g o
  | [], h => (h rfl).elim
  | [a], _ => ⟨a, by simp, by simp⟩
  | a :: b :: r, _ => by
    obtain ⟨m, h1, h2⟩ := least_by g (b :: r) (by simp)
    by_cases c : g a ≤ g m
    · refine ⟨a, by simp, fun y hy => ?_⟩
      rcases List.mem_cons.mp hy with q | q
      · subst q; exact Int.le_refl _
      · have := h2 y q
        omega
    · refine ⟨m, List.mem_cons_of_mem _ h1, fun y hy => ?_⟩
      rcases List.mem_cons.mp hy with q | q
      · subst q; omega
      · exact h2 y q
open Classical in
noncomputable def sumZ (rs : List Row) (v : Int) : Int := if h : ∃ f l, Zone rs v f l then Classical.choose h + Classical.choose (Classical.choose_spec h) else 0
theorem sumZ_eq {rs : List Row} {v f l : Int} (z : Zone rs v f l) : sumZ rs v = f + l := by
  have h : ∃ f l, Zone rs v f l := ⟨f, l, z⟩
  unfold sumZ
  rw [dif_pos h]
  have q := Classical.choose_spec (Classical.choose_spec h)
  obtain ⟨e1, e2⟩ := z.uniq q
  omega
theorem first_ex {rs : List Row} (N : NoReason rs) {ns : List Int} (h : ns ≠ []) : ∃ v, v ∈ ns ∧ First rs ns v := by
  obtain ⟨v, hv, hm⟩ := least_by (sumZ rs) ns h
  refine ⟨v, hv, fun o ho ne fo lo fv lv zo zv => ?_⟩
  have m := hm o ho
  rw [sumZ_eq zo, sumZ_eq zv] at m
  by_cases c : lv ≤ fo
  · exact c
  · by_cases d : fv < lo
    · exact (no_mutual N zo zv ne (by omega) d).elim
    · omega

/-! ### the order -/
def ReadsOk : Int → List Row → Prop
  | _, [] => True
  | last, r :: t => (r.wr = false → r.val = last) ∧ ReadsOk r.val t
def lastVal : Int → List Row → Int
  | last, [] => last
  | _, r :: t => lastVal r.val t
theorem reads_append : ∀ {a b : List Row} {last : Int}, ReadsOk last a → ReadsOk (lastVal last a) b → ReadsOk last (a ++ b)
  | [], _, _, _, h => h
  | _ :: _, _, _, h, k => ⟨h.1, reads_append h.2 k⟩
theorem reads_same : ∀ {g : List Row} {v : Int}, (∀ x, x ∈ g → x.val = v) → ReadsOk v g
  | [], _, _ => trivial
  | x :: t, v, h => ⟨fun _ => h x (by simp), by rw [h x (by simp)]; exact reads_same fun y hy => h y (List.mem_cons_of_mem _ hy)⟩
/-- along an order of rows: the tasks read off -/
structure Good (rs : List Row) (out : List Row) : Prop where
  perm : out.Perm rs
  pair : out.Pairwise fun x y => x.beg ≤ y.fin
  reads : ReadsOk 0 out

/-- what sorted gives of the rows of one value: writes ahead, then reads by their begins -/
def KeyLe (x y : Row) : Prop := x.wr = true ∨ (x.wr = false ∧ y.wr = false ∧ x.beg ≤ y.beg)
structure Grp (rs : List Row) (v : Int) (g : List Row) : Prop where
  perm : g.Perm (rs.filter fun r => decide (r.val = v))
  pair : g.Pairwise KeyLe
theorem Grp.mem {rs g : List Row} {v : Int} (G : Grp rs v g) {x : Row} : x ∈ g ↔ x ∈ rs ∧ x.val = v := by
  rw [G.perm.mem_iff, List.mem_filter, decide_eq_true_eq]

structure Part (rs : List Row) (ns : List Int) (out : List Row) : Prop where
  perm : out.Perm (rs.filter fun r => decide (¬ r.val ∈ ns))
  pair : out.Pairwise fun x y => x.beg ≤ y.fin
  reads : ReadsOk 0 out
  zero : 0 ∈ ns → out = []
  ahead : ∀ x, x ∈ out → ∀ v, v ∈ ns → ∀ f l, Zone rs v f l → x.beg ≤ f
  has : ∀ v, v ∈ ns → Has rs v
theorem Part.start {rs : List Row} {ns : List Int} (hall : ∀ v, v ∈ ns ↔ Has rs v) : Part rs ns [] where
  perm := by
    have : rs.filter (fun r => decide (¬ r.val ∈ ns)) = [] := by
      rw [List.filter_eq_nil_iff]
      intro r hr
      have : r.val ∈ ns := (hall _).mpr (.inr ⟨r, hr, rfl⟩)
      simp [this]
    rw [this]
  pair := List.Pairwise.nil
  reads := trivial
  zero := fun _ => rfl
  ahead := fun _ h => nomatch h
  has := fun v h => (hall v).mp h
theorem Part.done {rs out : List Row} (P : Part rs [] out) : Good rs out where
  perm := by
    have e : rs.filter (fun r => decide (¬ r.val ∈ ([] : List Int))) = rs := List.filter_eq_self.mpr fun r _ => by simp
    have q := P.perm
    rw [e] at q
    exact q
  pair := P.pair
  reads := P.reads
theorem perm_split {rs a b : List Row} {p q s : Row → Bool} (ha : a.Perm (rs.filter p)) (hb : b.Perm (rs.filter q)) (h : ∀ r, r ∈ rs → s r = (p r || q r)) (d : ∀ r, r ∈ rs → ¬ (p r = true ∧ q r = true)) : (a ++ b).Perm (rs.filter s) := by
  refine (ha.append hb).trans ?_
  clear ha hb
  induction rs with
  | nil => exact List.Perm.refl _
  | cons r t ih =>
    have ih := ih (fun x hx => h x (List.mem_cons_of_mem _ hx)) (fun x hx => d x (List.mem_cons_of_mem _ hx))
    have e := h r (by simp)
    have n := d r (by simp)
    rw [List.filter_cons, List.filter_cons, List.filter_cons, e]
    cases hp : p r with
    | true =>
      have hq : q r = false := by
        cases hq : q r with
        | true => exact (n ⟨hp, hq⟩).elim
        | false => rfl
      rw [hq]
      simpa using ih
    | false =>
      cases hq : q r with
      | true =>
        simp only [Bool.false_or, if_true, Bool.false_eq_true, if_false]
        exact List.perm_middle.trans (ih.cons r)
      | false => simpa using ih
theorem Part.step {rs out g : List Row} {ns ns' : List Int} {v : Int} (W : WF rs) (N : NoReason rs) (P : Part rs ns out) (hv : v ∈ ns) (hf : First rs ns v) (G : Grp rs v g) (hns : ∀ x, x ∈ ns' ↔ x ∈ ns ∧ x ≠ v) : Part rs ns' (out ++ g) where
  perm := by
    refine perm_split P.perm G.perm (fun r _ => ?_) (fun r _ => ?_)
    · by_cases e : r.val = v
      · have : ¬ v ∈ ns' := fun q => ((hns _).mp q).2 rfl
        simp [this, e]
      · by_cases m : r.val ∈ ns
        · have : r.val ∈ ns' := (hns _).mpr ⟨m, e⟩
          simp [this, m, e]
        · have : ¬ r.val ∈ ns' := fun q => m ((hns _).mp q).1
          simp [this, m]
    · rintro ⟨h1, h2⟩
      have h1 := of_decide_eq_true h1
      have h2 := of_decide_eq_true h2
      rw [h2] at h1
      exact h1 hv
  pair := by
    obtain ⟨fv, lv, zv⟩ := zone_ex (P.has v hv)
    refine List.pairwise_append.mpr ⟨P.pair, ?_, fun x hx y hy => ?_⟩
    · refine List.Pairwise.imp_of_mem ?_ G.pair
      intro x y hx hy k
      obtain ⟨hx1, hx2⟩ := G.mem.mp hx
      obtain ⟨hy1, hy2⟩ := G.mem.mp hy
      have ly := W.lt y hy1
      rcases k with k | ⟨_, _, k⟩
      · cases ey : y.wr with
        | true =>
          have := W.wvals x y hx1 hy1 k ey (by rw [hx2, hy2])
          subst this
          omega
        | false =>
          by_cases c : y.fin < x.beg
          · exact (N .early y.num x.num ⟨y, x, hy1, hx1, ey, k, by rw [hx2, hy2], c, rfl, rfl⟩).elim
          · omega
      · omega
    · obtain ⟨hy1, hy2⟩ := G.mem.mp hy
      have a := P.ahead x hx v hv fv lv zv
      have b := zv.fin_le hy1 hy2
      omega
  reads := by
    refine reads_append P.reads ?_
    by_cases e : v = 0
    · rw [P.zero (e ▸ hv)]
      subst e
      exact reads_same fun x hx => (G.mem.mp hx).2
    · cases hg : g with
      | nil => trivial
      | cons x t =>
        have hx : x ∈ g := by rw [hg]; simp
        obtain ⟨hx1, hx2⟩ := G.mem.mp hx
        have hxw : x.wr = true := by
          cases hxw : x.wr with
          | true => rfl
          | false =>
            obtain ⟨w, w1, w2, w3⟩ := W.has x hx1 (by rw [hx2]; exact e)
            have hw : w ∈ g := G.mem.mpr ⟨w1, by rw [w3, hx2]⟩
            rw [hg] at hw
            rcases List.mem_cons.mp hw with q | q
            · rw [q, hxw] at w2
              cases w2
            · have pr := G.pair
              rw [hg] at pr
              rcases (List.pairwise_cons.mp pr).1 w q with k | ⟨_, k, _⟩
              · rw [hxw] at k
                cases k
              · rw [w2] at k
                cases k
        refine ⟨fun k => ?_, reads_same fun y hy => ?_⟩
        · rw [hxw] at k
          cases k
        · rw [hx2]
          exact (G.mem.mp (by rw [hg]; exact List.mem_cons_of_mem _ hy)).2
  zero := fun h => by
    obtain ⟨h0, hne⟩ := (hns 0).mp h
    exfalso
    obtain ⟨f0, l0, z0⟩ := zone_ex (P.has 0 h0)
    obtain ⟨fv, lv, zv⟩ := zone_ex (P.has v hv)
    have k := hf 0 h0 hne f0 l0 fv lv z0 zv
    have f0le : f0 ≤ -1 := z0.mn.2 _ (mem_ends.mpr (.inl ⟨rfl, rfl⟩))
    rcases P.has v hv with e | ⟨r, hr, e⟩
    · exact hne e.symm
    · have a := zv.le_beg hr e
      have b := W.beg0 r hr
      omega
  ahead := fun x hx u hu f l z => by
    obtain ⟨hu1, hu2⟩ := (hns u).mp hu
    rcases List.mem_append.mp hx with q | q
    · exact P.ahead x q u hu1 f l z
    · obtain ⟨hx1, hx2⟩ := G.mem.mp q
      obtain ⟨fv, lv, zv⟩ := zone_ex (P.has v hv)
      have a := zv.le_beg hx1 hx2
      have b := hf u hu1 hu2 f l fv lv z zv
      omega
  has := fun u hu => P.has u ((hns u).mp hu).1
end K49

/-! The defs of the text by their places, and their names by slots. -/
namespace K49
open PySem PySem.Spec PyProof.Rows L2
def topS (i : Nat) : Stmt := PySem.Challenge.pw_pagelend_k49_whole_an_order_or_why_none.main.body.getD i (.Pass ⟨0, 0, 0, 0⟩)
abbrev s_zones : Stmt := topS 1
theorem sc_zones : FnScope ["history", "found", "task", "kind", "value", "begin", "end", "first", "last"] ["history"] (defScope s_zones) := ⟨rfl, rfl, rfl, by decide +kernel, rfl, by decide +kernel, by decide +kernel⟩
abbrev s_is_early : Stmt := topS 2
theorem sc_is_early : FnScope ["history", "read", "write", "rows", "one", "other", "row"] ["history", "read", "write"] (defScope s_is_early) := ⟨rfl, rfl, rfl, by decide +kernel, rfl, by decide +kernel, by decide +kernel⟩
abbrev s_goes_ahead : Stmt := topS 3
theorem sc_goes_ahead : FnScope ["zone", "other"] ["zone", "other"] (defScope s_goes_ahead) := ⟨rfl, rfl, rfl, by decide +kernel, rfl, by decide +kernel, by decide +kernel⟩
abbrev s_is_open : Stmt := topS 4
theorem sc_is_open : FnScope ["zone"] ["zone"] (defScope s_is_open) := ⟨rfl, rfl, rfl, by decide +kernel, rfl, by decide +kernel, by decide +kernel⟩
abbrev s_clash : Stmt := topS 5
theorem sc_clash : FnScope ["zone", "other"] ["zone", "other"] (defScope s_clash) := ⟨rfl, rfl, rfl, by decide +kernel, rfl, by decide +kernel, by decide +kernel⟩
abbrev s_shows_none : Stmt := topS 6
theorem sc_shows_none : FnScope ["history", "reason", "word", "one", "other", "found"] ["history", "reason"] (defScope s_shows_none) := ⟨rfl, rfl, rfl, by decide +kernel, rfl, by decide +kernel, by decide +kernel⟩
abbrev s_earlies : Stmt := topS 7
theorem sc_earlies : FnScope ["history", "writes", "reads", "row"] ["history"] (defScope s_earlies) := ⟨rfl, rfl, rfl, by decide +kernel, rfl, by decide +kernel, by decide +kernel⟩
abbrev s_clashes : Stmt := topS 8
theorem sc_clashes : FnScope ["history", "found", "pairs", "told", "both", "one", "other", "row"] ["history"] (defScope s_clashes) := ⟨rfl, rfl, rfl, by decide +kernel, rfl, by decide +kernel, by decide +kernel⟩
abbrev s_next_value : Stmt := topS 9
theorem sc_next_value : FnScope ["found", "left", "value", "other"] ["found", "left"] (defScope s_next_value) := ⟨rfl, rfl, rfl, by decide +kernel, rfl, by decide +kernel, by decide +kernel⟩
abbrev s_ordered : Stmt := topS 10
theorem sc_ordered : FnScope ["history", "reasons", "found", "left", "tasks", "value", "rows", "row"] ["history"] (defScope s_ordered) := ⟨rfl, rfl, rfl, by decide +kernel, rfl, by decide +kernel, by decide +kernel⟩
abbrev s_is_order : Stmt := topS 11
theorem sc_is_order : FnScope ["history", "tasks", "rows", "last", "ahead", "task", "number", "kind", "value", "begin", "end", "row"] ["history", "tasks"] (defScope s_is_order) := ⟨rfl, rfl, rfl, by decide +kernel, rfl, by decide +kernel, by decide +kernel⟩
abbrev s__law_bag : Stmt := topS 13
theorem sc__law_bag : FnScope ["script", "k", "cell"] ["script", "k"] (defScope s__law_bag) := ⟨rfl, rfl, rfl, by decide +kernel, rfl, by decide +kernel, by decide +kernel⟩
abbrev s__law_take : Stmt := topS 14
theorem sc__law_take : FnScope ["bag", "many", "found"] ["bag", "many"] (defScope s__law_take) := ⟨rfl, rfl, rfl, by decide +kernel, rfl, by decide +kernel, by decide +kernel⟩
abbrev s__law_history : Stmt := topS 15
theorem sc__law_history : FnScope ["bag", "most", "many", "loose", "wild", "values", "rows", "numbers", "turn", "time", "start", "end", "number", "value", "left"] ["bag", "most"] (defScope s__law_history) := ⟨rfl, rfl, rfl, by decide +kernel, rfl, by decide +kernel, by decide +kernel⟩
abbrev s__law_order_right : Stmt := topS 16
theorem sc__law_order_right : FnScope ["history", "tasks", "rows", "row", "last", "at", "task"] ["history", "tasks"] (defScope s__law_order_right) := ⟨rfl, rfl, rfl, by decide +kernel, rfl, by decide +kernel, by decide +kernel⟩
abbrev s__law_zone : Stmt := topS 17
theorem sc__law_zone : FnScope ["history", "value", "nought", "ends", "row"] ["history", "value"] (defScope s__law_zone) := ⟨rfl, rfl, rfl, by decide +kernel, rfl, by decide +kernel, by decide +kernel⟩
abbrev s__law_reasons : Stmt := topS 18
theorem sc__law_reasons : FnScope ["history", "word", "found", "row", "writes", "one", "values", "places", "first", "other", "second", "value"] ["history", "word"] (defScope s__law_reasons) := ⟨rfl, rfl, rfl, by decide +kernel, rfl, by decide +kernel, by decide +kernel⟩
abbrev s_law : Stmt := topS 19
theorem sc_law : FnScope ["script", "k", "bag", "history", "handed", "told", "reasons", "word"] ["script"] (defScope s_law) := ⟨rfl, rfl, rfl, by decide +kernel, rfl, by decide +kernel, by decide +kernel⟩
end K49

/-! Rules of our own over the hand layer: sorted of a list of (truth, number, number), set of a list of numbers. -/
namespace K49
open PySem PySem.Spec PyProof.Rows L2

/-! ### tuples at addresses -/
def Tups {α : Type} (fld : α → List V) (H : Hp) (T : List (Addr × α)) : Prop := ∀ q, q ∈ T → H q.1 = some (.tup (fld q.2))
def refs {α : Type} (T : List (Addr × α)) : List V := T.map fun q => V.ref q.1
theorem refs_vals {α : Type} : ∀ {T : List (Addr × α)} {us : List Value}, Vals (refs T) us → us = T.map fun q => Value.ref q.1
  | [], _, .nil => rfl
  | q :: T, _, .cons r t => by
    cases r
    rw [refs_vals t] <;> rfl
theorem vals_refs {α : Type} : ∀ (T : List (Addr × α)), Vals (refs T) (T.map fun q => Value.ref q.1)
  | [] => .nil
  | _ :: T => .cons rfl (vals_refs T)
theorem refs_length {α : Type} (T : List (Addr × α)) : (refs T).length = T.length := List.length_map _

/-! ### the order of (truth, number, number) -/
def trip (r : Row) : List V := [.bl (!r.wr), .int r.beg, .int r.num]
def encT (q : Addr × Row) : PyData := .tuple [.bool (!q.2.wr), .int q.2.beg, .int q.2.num]
theorem alike_encT (a b : Addr × Row) : PySem.W.alike (encT a) (encT b) = true := by simp [encT, PySem.W.alike, PySem.W.alikeAll]
theorem depth_encT (a : Addr × Row) : (encT a).depth ≤ 1 := by simp [encT, PyData.depth, PyData.depthAll]
theorem keyLe_of {a b : Addr × Row} (h : PySem.W.dataLe false encT a b = true) : KeyLe a.2 b.2 := by
  have h : (!PySem.W.dataLt (encT b) (encT a)) = true := h
  unfold encT at h
  rw [PySem.W.dataLt_tuple, PySem.W.dataLt_cons (by simp [PySem.W.alike]), PySem.W.dataLt_cons (by simp [PySem.W.alike]), PySem.W.dataLt_cons (by simp [PySem.W.alike]), PySem.W.dataLt_bool, PySem.W.dataLt_int, PySem.W.dataLt_int] at h
  unfold KeyLe
  obtain ⟨_, n, w, v, g, f⟩ := a
  obtain ⟨_, n', w', v', g', f'⟩ := b
  simp only [PyData.eqv] at h ⊢
  cases w
  · cases w'
    · refine .inr ⟨rfl, rfl, ?_⟩
      simp only [Bool.not_false, beq_self_eq_true, if_true] at h
      by_cases e : g' = g
      · omega
      · have e' : (g' == g) = false := by simpa using e
        simp only [e', Bool.false_eq_true, if_false, Bool.not_eq_true', decide_eq_false_iff_not] at h
        omega
    · exfalso
      revert h
      simp [b2i]
  · exact .inl rfl

theorem each_refs {α : Type} : ∀ (T : List (Addr × α)), PySem.W.EachIs (fun (v : Value) (b : Addr × α) => v = Value.ref b.1) (T.map fun q => Value.ref q.1) T
  | [] => .nil
  | _ :: T => .cons rfl (each_refs T)
theorem refs_each {α : Type} : ∀ {T : List (Addr × α)} {us : List Value}, PySem.W.EachIs (fun (v : Value) (b : Addr × α) => v = Value.ref b.1) us T → us = T.map fun q => Value.ref q.1
  | [], _, .nil => rfl
  | q :: T, _, .cons e t => by
    rw [e, refs_each t] <;> rfl
def rSortedRows (K : PySem.W.Frag) : List V → Hp → VK → Prop := fun vs H Q => ∃ (a : Addr) (T : List (Addr × Row)), vs = [V.ref a] ∧ SqL K H a (refs T) ∧ Tups trip H T ∧
  ∀ (G : List (Addr × Row)) (p : Addr), G.Perm T → G.Pairwise (fun x y => KeyLe x.2 y.2) → H p = none → Q (.ref p) (upd H p (.lst (refs G)))
section
variable {X : Cx}
theorem each_reads {pins : List (Addr × Obj)} {σ : L2.St} {H : Hp} {s : Shared} (I : Inv X pins σ H s) : ∀ (T : List (Addr × Row)), Tups trip H T →
    PySem.W.EachIs (fun (v : Value) (b : Addr × Row) => ∃ as, Reads s.heap v (encT b) as) (T.map fun q => Value.ref q.1) T
  | [], _ => .nil
  | q :: T, h => by
    refine .cons ?_ (each_reads I T fun x hx => h x (List.mem_cons_of_mem _ hx))
    have hq := h q (by simp)
    exact Dp.reads I (encT q) (.ref q.1) (.ref q.1) (.tup (SqT.of hq) (.cons (.bl _) (.cons (.int _) (.cons (.int _) .nil)))) rfl
theorem cr_sortedRows (hu : X.A.units + 64 < cLine) : CallR X (.builtin "sorted") (rSortedRows X.K) := by
  intro pins s σ H vs us Q I r h
  obtain ⟨a, T, rfl, hs, hT, q⟩ := h
  obtain ⟨its, rv, hl, hz⟩ := I.list hs
  rw [Vals.ref1 r]
  have ei := refs_vals rv
  subst ei
  have hlen : T.length ≤ sizeLine := by
    rw [refs_length] at hz
    exact hz
  refine PySem.W.sorted_data (R := fun (v : Value) (b : Addr × Row) => v = Value.ref b.1) (enc := encT) hl.isList (each_refs T) (each_reads I T hT) (PySem.W.AllAlike.of alike_encT) (PySem.W.Sortable.tuples fun b => ⟨_, _, rfl⟩) hlen
    (fun b _ => by have := depth_encT b; omega) fun out hout he => ?_
  have pm : (T.mergeSort (PySem.W.dataLe false encT)).Perm T := List.mergeSort_perm _ _
  have eo := refs_each he
  subst eo
  obtain ⟨ep, hat⟩ := PyProof.Rows.sortedAll_at s.heap (T.map fun q => Value.ref q.1) (List.toArray ((T.mergeSort (PySem.W.dataLe false encT)).map fun q => Value.ref q.1))
  have hp : H (s.heap.objs.size + 1) = none := I.hok.fresh (Nat.le_succ _)
  refine ⟨.ref (s.heap.objs.size + 1), _, I.laid (t' := s.toks) (o := .lst (refs (T.mergeSort (PySem.W.dataLe false encT)))) (fun _ _ => PyProof.Rows.sortedAll_old) (Nat.le_succ _) ⟨?_, _, ep, vals_refs _, hat⟩, rfl, q _ _ pm ?_ hp⟩
  · rw [refs_length, pm.length_eq]
    exact hlen
  · exact (PySem.W.sort_pairwise (PySem.W.sortLe_total _ _ _) T).imp fun h => keyLe_of h
end
end K49

/-! A rule of our own: set(xs) of a list of numbers, as a set that can be sorted. -/
namespace K49
open PySem PySem.Spec PyProof.Rows L2
/-- a new set -/
abbrev newSet (w : World) : Obj := { cls := .type "set", dict := none, data := .set #[] 0 (.fresh 0 0 (!w.params.followText "set-order")) }
/-- what is to hold behind set(xs) -/
def Made (w : World) (s : Shared) (ns : List Int) (s' : Shared) : Prop :=
  ∃ h' tk c, s' = { s with heap := h', toks := tk } ∧ SetR w h' s.heap.objs.size (fun j => decide (j ∈ ns)) c ∧ c ≤ ns.length ∧ ∀ b o, s.heap.get? b = some o → h'.get? b = some o
section
variable {P : Program} {w : World} {A : Around} {E : Value → Shared → Prop} {s : Shared}
theorem ints_at {items : Array Value} {ns : List Int} (hit : IntsAre items.toList ns) (i : Nat) (v : Value) (hv : items[i]? = some v) : ∃ k t, ns[i]? = some k ∧ v = .int k t := by
  have el : items.size = ns.length := by
    have e := IntsAre.length hit
    simpa using e
  have lt : i < ns.length := el ▸ (Array.getElem?_eq_some_iff.mp hv).1
  obtain ⟨t, e⟩ := IntsAre.int_at hit i v (by simpa using hv)
  refine ⟨ns[i], t, List.getElem?_eq_getElem lt, ?_⟩
  subst e
  congr 1
  rw [List.getD_eq_getElem?_getD, List.getElem?_eq_getElem lt]
  rfl
/-- the body of set.__init__ over a list -/
theorem init_list {l : Addr} {items : Array Value} {ns : List Int} (hh : A.handled = none) (hl : s.heap.IsList l items) (hit : IntsAre items.toList ns) (hb : ns.length + 1 < scanBound)
    {R : PySem.Fin → Shared → Prop} (hR : ∀ s', Made w s ns s' → R (.done (.ret .none)) s') :
    wpAny (model P w) A (Builtin.«set.__init__» ⟨[.ref s.heap.objs.size, .ref l], []⟩) R E { s with heap := s.heap.push (newSet w) } := by
  obtain ⟨⟨cls, dd, data, sl⟩, ho, hc, n, hd⟩ := hl
  simp only at hc hd
  subst hc hd
  have lt : l < s.heap.objs.size := Heap.lt_size ho
  have ho1 := Heap.get?_push_of_some (newSet w) ho
  have hl1 : (s.heap.push (newSet w)).IsList l items := ⟨_, ho1, rfl, n, rfl⟩
  have hset : (s.heap.push (newSet w)).get? s.heap.objs.size = some (newSet w) := Heap.get?_push_size _ rfl
  have f1 := F.sub_list_set
  have f2 := F.sub_list_frozenset
  have f3 : (Value.type "list" == Value.type "dict") = false := by decide
  have size1 : (s.heap.push (newSet w)).objs.size = s.heap.objs.size + 1 := Heap.size_push ..
  have el : items.size = ns.length := by
    have e := IntsAre.length hit
    simpa using e
  unfold Builtin.«set.__init__» noKeywords Builtin.Frozenset.updateFrom
  generalize hPI : pyIter = PI
  wp_walk
  subst hPI
  refine wpAny_pyIter_list hl1 ?_
  refine wpAny_bind (wpAny_runValue ?_)
  have hw : A.in1.handled = none := by simp [hh]
  have lne : l ≠ (s.heap.push (newSet w)).objs.size := by
    rw [size1]
    exact Nat.ne_of_lt (Nat.lt_succ_of_lt lt)
  have apart : s.heap.objs.size ∉ [(s.heap.push (newSet w)).objs.size, l] := by
    rw [size1]
    simp only [List.mem_cons, List.not_mem_nil, or_false, not_or]
    exact ⟨Nat.ne_of_lt (Nat.lt_succ_self _), Nat.ne_of_gt lt⟩
  refine set_update_ints (ns := ns) ((Walks.list hw _ l lne items).toS) s.heap.objs.size apart el hb (fun i v hv => ints_at hit i v hv) items.size 0 _ (by omega) (Nat.zero_le _)
    ⟨⟨_, Heap.get?_push_size _ rfl, rfl, rfl⟩, hl1.push _⟩ ⟨0, Nat.le_refl 0, setR_new_at (Heap.get?_push_of_some _ hset)⟩ fun s' c hm hc hS => ?_
  obtain ⟨h', g', d', tk', os'⟩ := s'
  obtain rfl : g' = s.gens := hm.gens
  obtain rfl : d' = s.drawn := hm.drawn
  obtain rfl : os' = s.os := hm.os
  refine wpAny_pure ?_
  refine wpAny_pure (hR _ ⟨h', tk', c, rfl, hS, by omega, fun b o e => ?_⟩)
  have hlt : b < s.heap.objs.size := Heap.lt_size e
  refine hm.heap b o ?_ (Heap.get?_push_of_some _ (Heap.get?_push_of_some _ e))
  rw [size1]
  simp only [List.mem_cons, List.not_mem_nil, or_false, not_or]
  exact ⟨Nat.ne_of_lt hlt, Nat.ne_of_lt (Nat.lt_succ_of_lt hlt)⟩
/-- set(xs), xs a list of numbers, over the heap -/
theorem call_set_ints {l : Addr} {items : Array Value} {ns : List Int} {Q : Value → Shared → Prop} (hh : A.handled = none) (hl : s.heap.IsList l items) (hit : IntsAre items.toList ns) (hb : ns.length + 1 < scanBound)
    (h : ∀ s', Made w s ns s' → Q (.ref s.heap.objs.size) s') : wpAny (model P w) A (call (.type "set") [.ref l]) Q E s := by
  obtain ⟨c, tl, hmro⟩ := F.called_set.mro
  have g1 := F.called_set.made
  have g2 := F.called_set.sub
  have g3 := F.called_set.notType
  have g4 := F.called_set.canCreate
  have g5 := F.typeCall_set_1 (.ref l)
  refine wpAny_call (codeAny_of_tree ?_)
  show wpAny _ _ (callAny (.type "set") _) _ _ _
  refine wpAny_pure ⟨Code.quiet_builtin _ (by decide +kernel), codeAny_builtin F.entry_type_call ?_⟩
  rw [Around.under_plain (weight_type_call_type "set" [.ref l] []) rfl]
  repeat (any_goals (first | assumption | wp_step))
  refine codeAny_mono (code_set_led1 (.ref l) (E := E) (Q₁ := fun ob s1 => ob = .ref s.heap.objs.size ∧ s1 = { s with heap := s.heap.push (newSet w) }) ⟨rfl, rfl⟩) fun r s1 hr => ?_
  cases r with
  | error e => exact hr
  | ok fl =>
    cases fl with
    | ret ob =>
      obtain ⟨rfl, rfl⟩ := hr
      have hT : Shared.TypeIs { s with heap := s.heap.push (newSet w) } (.ref s.heap.objs.size) "set" := ⟨_, Heap.get?_push_size _ rfl, rfl⟩
      have g6 := F.called_set.init.lookup
      have g7 := F.called_set.init.bind (.ref s.heap.objs.size)
      repeat (any_goals (first | assumption | wp_step))
      refine codeAny_mono (codeAny_call_builtin (R := wants (fun r s2 => r = .none ∧ Made w s ns s2) E) F.called_set.init.plain F.entry_set_init (check_set_init_1 hT (init_list (by simp [hh]) hl hit hb fun s2 m => ⟨rfl, m⟩))) fun r2 s2 hr2 => ?_
      cases r2 with
      | error e => exact hr2
      | ok fl2 =>
        cases fl2 with
        | ret r =>
          obtain ⟨rfl, m⟩ := hr2
          repeat (any_goals (first | assumption | wp_step))
          exact h _ m
        | _ => exact hr2.elim
    | _ => exact hr.elim
end
section
variable {X : Cx}
def rSetOfI (K : PySem.W.Frag) (w : World) : List V → Hp → VK → Prop := fun vs H Q => ∃ (a : Addr) (ns : List Int), vs = [V.ref a] ∧ SqL K H a (ns.map V.int) ∧ ns.length ≤ 1000 ∧
  ∀ (p : Addr) (n : Nat), n ≤ ns.length → H p = none → Q (.ref p) (upd H p (SetO w p (fun j => decide (j ∈ ns)) n))
theorem cr_setOfI (hc : X.calm = true) : CallR X (.type "set") (rSetOfI X.K X.w) := by
  intro pins s σ H vs us Q I r h
  obtain ⟨a, ns, rfl, hs, hn, q⟩ := h
  obtain ⟨its, rv, pl, hz⟩ := I.list hs
  rw [Vals.ref1 r]
  refine call_set_ints (ns := ns) (I.ok.hd hc) pl.isList (by simpa using rv.ints) (by unfold scanBound; omega) fun s' m => ?_
  obtain ⟨h', tk, c, rfl, R, hcl, kp⟩ := m
  have hp : H s.heap.objs.size = none := I.hok.fresh (Nat.le_refl _)
  exact ⟨.ref s.heap.objs.size, _, I.laid (t' := tk) kp (Nat.le_refl _) (setO_new R), rfl, q _ _ hcl hp⟩
end
end K49

/-! What readings evaluate to, where new objects are made on the way. -/
namespace K49
open PySem PySem.Spec PyProof.Rows L2 Evl

/-- something of which R holds; a new object of which R holds -/
def EvR (te : TE) (σ : L2.St) (H : Hp) (R : V → Hp → Prop) : Prop := ∀ H1, Ex H H1 → ∀ Q : VK, (∀ v H2, Ex H1 H2 → R v H2 → Q v H2) → te σ H1 Q
def EvX (te : TE) (σ : L2.St) (H : Hp) (R : Addr → Hp → Prop) : Prop := ∀ H1, Ex H H1 → ∀ Q : VK, (∀ p H2, H1 p = none → Ex H1 H2 → R p H2 → Q (.ref p) H2) → te σ H1 Q
section
variable {K : PySem.W.Frag} {σ : L2.St} {H H' : Hp} {ta tb te tx : TE} {t u : TT} {x y z v : V} {D : Ends} {tu tw tz : TS} {g : TG}
theorem evR_of {v : V} (h : Ev te σ H v) : EvR te σ H (fun w _ => w = v) := fun H1 e Q q => h H1 e Q fun H2 e2 => q v H2 e2 rfl
theorem evR_imp {R R' : V → Hp → Prop} (h : EvR te σ H R) (i : ∀ v H', Ex H H' → R v H' → R' v H') : EvR te σ H R' := fun H1 e Q q => h H1 e Q fun v H2 e2 r => q v H2 e2 (i v H2 (e.trans e2) r)
theorem evX_imp {R R' : Addr → Hp → Prop} (h : EvX te σ H R) (i : ∀ p H', H p = none → Ex H H' → R p H' → R' p H') : EvX te σ H R' := fun H1 e Q q => h H1 e Q fun p H2 hp e2 r => q p H2 hp e2 (i p H2 (fresh_back e hp) (e.trans e2) r)
theorem evX_L {xs : List V} (h : EvL te σ H xs) : EvX te σ H (fun p H' => H' p = some (.lst xs)) := h
theorem evX_U {xs : List V} (h : EvU te σ H xs) : EvX te σ H (fun p H' => H' p = some (.tup xs)) := h
theorem evR_X {R : Addr → Hp → Prop} (h : EvX te σ H R) : EvR te σ H (fun v H' => ∃ p, v = .ref p ∧ R p H') := fun H1 e Q q => h H1 e Q fun p H2 hp e2 r => q _ H2 e2 ⟨p, rfl, r⟩

theorem s_asgX {i : Nat} {R : Addr → Hp → Prop} (h : EvX te σ H R) (k : ∀ p H1, H p = none → Ex H H1 → R p H1 → D.nx (σ.set i (some (.ref p))) H1) : tAsg te (gName i) D σ H := h H (Ex.refl H) _ fun p H1 hp e r => k p H1 hp e r
theorem q_asgX {i : Nat} {R : Addr → Hp → Prop} (h : EvX te σ H R) (k : ∀ p H1, H p = none → Ex H H1 → R p H1 → tz D (σ.set i (some (.ref p))) H1) : tSeq (tAsg te (gName i)) tz D σ H := s_asgX (D := { D with nx := tz D }) h k
theorem s_asgR {i : Nat} {R : V → Hp → Prop} (h : EvR te σ H R) (k : ∀ v H1, Ex H H1 → R v H1 → D.nx (σ.set i (some v)) H1) : tAsg te (gName i) D σ H := h H (Ex.refl H) _ fun v H1 e r => k v H1 e r
theorem q_asgR {i : Nat} {R : V → Hp → Prop} (h : EvR te σ H R) (k : ∀ v H1, Ex H H1 → R v H1 → tz D (σ.set i (some v)) H1) : tSeq (tAsg te (gName i)) tz D σ H := s_asgR (D := { D with nx := tz D }) h k
theorem s_retX {R : Addr → Hp → Prop} (h : EvX te σ H R) (k : ∀ p H1, H p = none → Ex H H1 → R p H1 → D.rt (.ref p) H1) : tRet te D σ H := h H (Ex.refl H) _ fun p H1 hp e r => k p H1 hp e r
theorem s_retR {R : V → Hp → Prop} (h : EvR te σ H R) (k : ∀ v H1, Ex H H1 → R v H1 → D.rt v H1) : tRet te D σ H := h H (Ex.refl H) _ fun v H1 e r => k v H1 e r

/-! ### what lists and tuples of known things hold -/
theorem Tups.ex {α : Type} {fld : α → List V} {T : List (Addr × α)} (h : Tups fld H T) (e : Ex H H') : Tups fld H' T := fun q hq => e _ _ (h q hq)
theorem Tups.nil {α : Type} {fld : α → List V} : Tups fld H ([] : List (Addr × α)) := fun _ h => nomatch h
theorem Tups.cons {α : Type} {fld : α → List V} {T : List (Addr × α)} {q : Addr × α} (h : H q.1 = some (.tup (fld q.2))) (t : Tups fld H T) : Tups fld H (q :: T) := fun p hp => by
  rcases List.mem_cons.mp hp with e | e
  · rw [e]; exact h
  · exact t p e
theorem Tups.app {α : Type} {fld : α → List V} {T S : List (Addr × α)} (t : Tups fld H T) (s : Tups fld H S) : Tups fld H (T ++ S) := fun p hp => (List.mem_append.mp hp).elim (t p) (s p)
theorem Tups.sub {α : Type} {fld : α → List V} {T S : List (Addr × α)} (t : Tups fld H T) (h : ∀ x, x ∈ S → x ∈ T) : Tups fld H S := fun p hp => t p (h p hp)
theorem refs_append {α : Type} (T S : List (Addr × α)) : refs (T ++ S) = refs T ++ refs S := List.map_append ..
/-- new tuples of the things xs -/
theorem tups_of {α : Type} {fld : α → List V} : ∀ {xs : List α} {ys : List V}, Paired (fun x v => ∃ p, v = V.ref p ∧ H p = some (.tup (fld x))) xs ys → ∃ T : List (Addr × α), ys = refs T ∧ T.map Prod.snd = xs ∧ Tups fld H T
  | _, _, .nil => ⟨[], rfl, rfl, Tups.nil⟩
  | _, _, .cons ⟨p, e, h⟩ t => by
    obtain ⟨T, e1, e2, e3⟩ := tups_of t
    subst e1 e2 e
    exact ⟨(p, _) :: T, rfl, rfl, Tups.cons h e3⟩
theorem Paired.imp2 {α β : Type} {F G : α → β → Prop} : ∀ {l₁ : List α} {l₂ : List β}, Paired F l₁ l₂ → (∀ a b, F a b → G a b) → Paired G l₁ l₂
  | _, _, .nil, _ => .nil
  | _, _, .cons r t, f => .cons (f _ _ r) (Paired.imp2 t f)
theorem paired_len {α β : Type} {F : α → β → Prop} : ∀ {l₁ : List α} {l₂ : List β}, Paired F l₁ l₂ → l₁.length = l₂.length
  | _, _, .nil => rfl
  | _, _, .cons _ t => by rw [List.length_cons, List.length_cons, paired_len t]
theorem paired_map {α β : Type} {f : α → β} : ∀ {l₁ : List α} {l₂ : List β}, Paired (fun a b => b = f a) l₁ l₂ → l₂ = l₁.map f
  | _, _, .nil => rfl
  | _, _, .cons e t => by rw [List.map_cons, e, paired_map t]

/-! ### comprehensions -/
theorem take_succ_filter {α : Type} {L : List α} {i : Nat} {x : α} {p : α → Bool} (h : L[i]? = some x) : (L.take (i + 1)).filter p = if p x = true then (L.take i).filter p ++ [x] else (L.take i).filter p := by
  rw [List.take_add_one, h, List.filter_append]
  show _ ++ List.filter p [x] = _
  rw [List.filter_cons]
  split
  · rfl
  · rw [List.filter_nil, List.append_nil]
/-- the tuples are kept -/
def TEx (H H' : Hp) : Prop := ∀ b xs, H b = some (.tup xs) → H' b = some (.tup xs)
theorem TEx.of (e : Ex H H') : TEx H H' := fun b xs h => e b _ h
theorem TEx.lst {D : Addr} {xs : List V} {o : HO} (h : H D = some (.lst xs)) : TEx H (upd H D o) := fun b ys hb => by
  rw [upd_ne (ne_of hb h (fun z => by cases z))]
  exact hb
theorem TEx.dk {D : Addr} {kvs : List (Key × V)} {o : HO} (h : H D = some (.dK kvs)) : TEx H (upd H D o) := fun b ys hb => by
  rw [upd_ne (ne_of hb h (fun z => by cases z))]
  exact hb
theorem TEx.trans {H1 H2 H3 : Hp} (a : TEx H1 H2) (b : TEx H2 H3) : TEx H1 H3 := fun c xs h => b c xs (a c xs h)
theorem Tups.tex {α : Type} {fld : α → List V} {T : List (Addr × α)} (h : Tups fld H T) (e : TEx H H') : Tups fld H' T := fun q hq => e _ _ (h q hq)
def TupR {α : Type} (fld : α → List V) (x : α) (v : V) (H : Hp) : Prop := ∃ p, v = V.ref p ∧ H p = some (.tup (fld x))
theorem TupR.mono {α : Type} {fld : α → List V} (x : α) (v : V) (H1 H2 : Hp) (e : TEx H1 H2) (h : TupR fld x v H1) : TupR fld x v H2 := let ⟨p, a, b⟩ := h; ⟨p, a, e _ _ b⟩
/-- one turn of a comprehension: what is kept -/
def CompAt {α : Type} (L : List α) (p : α → Bool) (R : α → V → Hp → Prop) (H1 : Hp) (Dl : Addr) (i : Nat) (H' : Hp) : Prop :=
  Ex H1 H' ∧ ∃ ys, H' Dl = some (.lst ys) ∧ ys.length ≤ i ∧ Paired (fun x v => R x v H') ((L.take i).filter p) ys
theorem comp_turn {α : Type} {L : List α} {tt : TT} {Dl : Addr} {i : Nat} {x : α} {H1 : Hp} {p : α → Bool} {R : α → V → Hp → Prop} {σ2 : L2.St} (hD : H1 Dl = none) (hi : L[i]? = some x) (hz : i < 40000) (pv : CompAt L p R H1 Dl i H')
    (ht : EvT tt σ2 H1 (p x)) (he : p x = true → EvR te σ2 H1 (R x)) (mono : ∀ x v H1 H2, TEx H1 H2 → R x v H1 → R x v H2) :
    tt σ2 H' fun b H3 => if b = true then te σ2 H3 fun y H4 => ∃ acc, H4 Dl = some (.lst acc) ∧ acc.length < sizeLine ∧ CompAt L p R H1 Dl (i + 1) (upd H4 Dl (.lst (acc ++ [y]))) else CompAt L p R H1 Dl (i + 1) H3 := by
  obtain ⟨e, ys, hy, hl, hp⟩ := pv
  refine ht H' e _ fun H3 e3 => ?_
  cases hpx : p x with
  | true =>
    show te σ2 H3 _
    refine he hpx H3 (e.trans e3) _ fun v H4 e4 r => ⟨ys, e4 _ _ (e3 _ _ hy), sz_lt (by omega), Ex.mut ((e.trans e3).trans e4) hD, ys ++ [v], upd_same, ?_, ?_⟩
    · rw [List.length_append, List.length_singleton]
      omega
    · rw [take_succ_filter hi, if_pos hpx]
      have t5 : TEx H4 (upd H4 Dl (.lst (ys ++ [v]))) := TEx.lst (e4 _ _ (e3 _ _ hy))
      exact Paired.snoc (Paired.imp2 hp fun a b q => mono a b _ _ ((TEx.of (e3.trans e4)).trans t5) q) (mono x v _ _ t5 r)
  | false =>
    show CompAt L p R H1 Dl (i + 1) H3
    refine ⟨e.trans e3, ys, e3 _ _ hy, by omega, ?_⟩
    rw [take_succ_filter hi, if_neg (by rw [hpx]; decide)]
    exact Paired.imp2 hp fun a b q => mono a b _ _ (TEx.of e3) q
/-- [te for g in tl if tt]: R tells of each item what is made of it -/
theorem ex_comp {α : Type} {L : List α} {rf : α → V} {a : Addr} {tl : TE} {tt : TT} {vs : List Nat} (p : α → Bool) (R : α → V → Hp → Prop) (σx : α → L2.St)
    (h : Ev tl σ H (.ref a)) (hx : SqL K H a (L.map rf)) (hz : L.length ≤ 40000)
    (hg : ∀ x, x ∈ L → ∀ H1, Ex H H1 → ∀ Q, Q (σx x) H1 → g (rf x) (wipe σ vs) H1 Q) (hw : ∀ x, x ∈ L → wipe (σx x) vs = wipe σ vs)
    (ht : ∀ x, x ∈ L → ∀ H1, Ex H H1 → EvT tt (σx x) H1 (p x)) (he : ∀ x, x ∈ L → p x = true → ∀ H1, Ex H H1 → EvR te (σx x) H1 (R x))
    (mono : ∀ x v H1 H2, TEx H1 H2 → R x v H1 → R x v H2) :
    EvX (tLc (iList K tl) g tt te vs) σ H (fun q H2 => ∃ ys, H2 q = some (.lst ys) ∧ Paired (fun x v => R x v H2) (L.filter p) ys) := fun H0 e0 Q q => h H0 e0 _ fun H1 e1 =>
  ⟨a, rfl, ⟨L.map rf, ex_l (e0.trans e1) hx⟩, fun Dl hD => by
    refine lc_list (xs := L.map rf) (CompAt L p R H1 Dl) ?_ ?_ ?_ ?_
    · exact ⟨Ex.new hD, [], upd_same, Nat.le_refl _, .nil⟩
    · exact fun i H' _ pv => ex_l ((e0.trans e1).trans pv.1) hx
    · intro i y H' hi pv
      rw [List.getElem?_map] at hi
      cases hxi : L[i]? with
      | none => rw [hxi] at hi; cases hi
      | some x =>
        rw [hxi] at hi
        obtain rfl : rf x = y := Option.some.inj hi
        have hm : x ∈ L := List.mem_of_getElem? hxi
        have hlt : i < L.length := (List.getElem?_eq_some_iff.mp hxi).1
        refine hg x hm H' ((e0.trans e1).trans pv.1) _ ⟨hw x hm, ?_⟩
        exact comp_turn hD hxi (by omega) pv (ht x hm H1 (e0.trans e1)) (fun k => he x hm k H1 (e0.trans e1)) mono
    · rintro H' ⟨e, ys, hy, _, hp⟩
      rw [List.length_map, List.take_length] at hp
      exact q Dl H' (fresh_back e1 hD) (e1.trans e) ⟨ys, hy, hp⟩⟩
/-- the same where the items alone tell what comes, no tuple made -/
theorem el_comp {α : Type} {L : List α} {rf : α → V} {a : Addr} {tl : TE} {tt : TT} {vs : List Nat} (p : α → Bool) (f : α → V) (σx : α → L2.St)
    (h : Ev tl σ H (.ref a)) (hx : SqL K H a (L.map rf)) (hz : L.length ≤ 40000)
    (hg : ∀ x, x ∈ L → ∀ H1, Ex H H1 → ∀ Q, Q (σx x) H1 → g (rf x) (wipe σ vs) H1 Q) (hw : ∀ x, x ∈ L → wipe (σx x) vs = wipe σ vs)
    (ht : ∀ x, x ∈ L → ∀ H1, Ex H H1 → EvT tt (σx x) H1 (p x)) (he : ∀ x, x ∈ L → p x = true → ∀ H1, Ex H H1 → Ev te (σx x) H1 (f x)) :
    EvL (tLc (iList K tl) g tt te vs) σ H ((L.filter p).map f) := by
  have z := ex_comp (te := te) p (fun x v _ => v = f x) σx h hx hz hg hw ht (fun x hm k H1 e => evR_of (he x hm k H1 e)) (fun _ _ _ _ _ q => q)
  intro H1 e Q q
  refine z H1 e Q fun p H2 hp e2 ⟨ys, hy, hq⟩ => q p H2 hp e2 ?_
  rw [hy, paired_map hq]
/-- the same where each item makes a new tuple -/
theorem et_comp {α : Type} {L : List α} {rf : α → V} {a : Addr} {tl : TE} {tt : TT} {vs : List Nat} (p : α → Bool) (fld : α → List V) (σx : α → L2.St)
    (h : Ev tl σ H (.ref a)) (hx : SqL K H a (L.map rf)) (hz : L.length ≤ 40000)
    (hg : ∀ x, x ∈ L → ∀ H1, Ex H H1 → ∀ Q, Q (σx x) H1 → g (rf x) (wipe σ vs) H1 Q) (hw : ∀ x, x ∈ L → wipe (σx x) vs = wipe σ vs)
    (ht : ∀ x, x ∈ L → ∀ H1, Ex H H1 → EvT tt (σx x) H1 (p x)) (he : ∀ x, x ∈ L → p x = true → ∀ H1, Ex H H1 → EvU te (σx x) H1 (fld x)) :
    EvX (tLc (iList K tl) g tt te vs) σ H (fun q H2 => ∃ T : List (Addr × α), H2 q = some (.lst (refs T)) ∧ T.map Prod.snd = L.filter p ∧ Tups fld H2 T) := by
  have z := ex_comp (te := te) p (TupR fld) σx h hx hz hg hw ht (fun x hm k H1 e => evR_X (he x hm k H1 e)) TupR.mono
  intro H1 e Q q
  refine z H1 e Q fun p H2 hp e2 ⟨ys, hy, hq⟩ => ?_
  obtain ⟨T, e1, e3, e4⟩ := tups_of hq
  subst e1
  exact q p H2 hp e2 ⟨T, hy, e3, e4⟩
theorem et_yes : EvT tYes σ H true := fun H1 _ _ q => q H1 (Ex.refl H1)
/-- targets -/
theorem go_name {j : Nat} {x : V} {σ1 : L2.St} : ∀ H1, Ex H H1 → ∀ Q, Q (σ1.set j (some x)) H1 → gName j x σ1 H1 Q := fun _ _ _ q => q
end
/-- a dict's entries by numbers -/
def ents {α : Type} (key : α → Int) (val : α → V) (L : List α) : List (Key × V) := L.map fun x => (Sum.inl (key x), val x)
section
variable {α : Type} {key : α → Int} {val : α → V}
theorem valV_ents_none : ∀ {L : List α} {k : Int}, (∀ x, x ∈ L → key x ≠ k) → valV (ents key val L) (Sum.inl k : Key) = none
  | [], _, _ => rfl
  | x :: L, k, h => by
    show valV ((Sum.inl (key x), val x) :: ents key val L) _ = none
    rw [valV_neg (fun e => h x (by simp) (Sum.inl.inj e))]
    exact valV_ents_none fun y hy => h y (List.mem_cons_of_mem _ hy)
theorem valV_ents : ∀ {L : List α} {x : α}, (L.map key).Nodup → x ∈ L → valV (ents key val L) (Sum.inl (key x) : Key) = some (val x)
  | [], _, _, h => nomatch h
  | y :: L, x, nd, h => by
    show valV ((Sum.inl (key y), val y) :: ents key val L) _ = _
    rw [List.map_cons, List.nodup_cons] at nd
    rcases List.mem_cons.mp h with e | e
    · subst e
      exact valV_pos rfl
    · rw [valV_neg (fun q => nd.1 (by
        have q' : key y = key x := Sum.inl.inj q
        rw [q']
        exact List.mem_map.mpr ⟨x, e, rfl⟩))]
      exact valV_ents nd.2 e
theorem putK_ents {L : List α} {x : α} (h : ∀ y, y ∈ L → key y ≠ key x) : putK (ents key val L) (Sum.inl (key x) : Key) (val x) = ents key val (L ++ [x]) := by
  rw [putK_new _ (valV_ents_none h)]
  unfold ents
  rw [List.map_append]
  rfl
theorem ents_length (L : List α) : (ents key val L).length = L.length := List.length_map _
theorem ents_keys (L : List α) : (ents key val L).map (·.1) = (L.map key).map Sum.inl := by
  unfold ents
  rw [List.map_map, List.map_map]
  rfl
end
section
variable {K : PySem.W.Frag} {σ : L2.St} {H H' : Hp} {g : TG}
/-- over a list that the block leaves as it is -/
theorem dc_lst {a : Addr} {xs : List V} {tt : TT} {tk tv : TE} {vs : List Nat} {H1 : Hp} {Dl : Addr} {Qd : Hp → Prop} (Pv : Nat → Hp → Prop) (h0 : Pv 0 (upd H1 Dl (.dK []))) (hl : ∀ i H, i ≤ xs.length → Pv i H → SqL K H a xs)
    (hs : ∀ i x H, xs[i]? = some x → Pv i H → g x (wipe σ vs) H fun σ2 H2 => wipe σ2 vs = wipe σ vs ∧ tt σ2 H2 fun b H3 =>
      if b = true then tk σ2 H3 fun y H4 => tv σ2 H4 fun z H5 => ∃ kvs k, y = kV k ∧ H5 Dl = some (.dK kvs) ∧ kvs.length < sizeLine ∧ Pv (i + 1) (upd H5 Dl (.dK (putK kvs k z))) else Pv (i + 1) H3) (hd : ∀ H, Pv xs.length H → Qd H) :
    ∃ W : Nat → Nat → Hp → Prop, (∃ m, W 0 m (upd H1 Dl (.dK []))) ∧ ∀ i m H, W i m H →
      ((Itl K a).stop i H ∧ Qd H) ∨ ((Itl K a).go i H ∧ ∃ Nx : Hp → Prop, (∀ H', Nx H' → ∃ m', m' < m ∧ W (i + 1) m' H') ∧ ∀ x H', (Itl K a).yld i H x H' → g x (wipe σ vs) H' fun σ2 H2 => wipe σ2 vs = wipe σ vs ∧ tt σ2 H2 fun b H3 =>
        if b = true then tk σ2 H3 fun y H4 => tv σ2 H4 fun z H5 => ∃ kvs k, y = kV k ∧ H5 Dl = some (.dK kvs) ∧ kvs.length < sizeLine ∧ Nx (upd H5 Dl (.dK (putK kvs k z))) else Nx H3) := by
  refine ⟨fun i m H => m + i = xs.length ∧ Pv i H, ⟨xs.length, rfl, h0⟩, fun i m H ⟨hm, pv⟩ => ?_⟩
  have q := hl i H (by omega) pv
  by_cases c : i < xs.length
  · refine .inr ⟨⟨xs, xs[i], q, List.getElem?_eq_getElem c⟩, Pv (i + 1), fun H' p' => ⟨m - 1, by omega, by omega, p'⟩, fun x H' y => ?_⟩
    obtain ⟨rfl, y⟩ := y
    exact hs i x _ (y xs q) pv
  · have e : i = xs.length := by omega
    subst e
    exact .inl ⟨⟨xs, q, Nat.le_refl _⟩, hd H pv⟩
/-- {tk: tv for g in tl if tt}, the keys numbers, all different -/
theorem ed_comp {α : Type} {L : List α} {rf : α → V} {a : Addr} {tl : TE} {tt : TT} {tk tv : TE} {vs : List Nat} (p : α → Bool) (key : α → Int) (val : α → V) (σx : α → L2.St)
    (h : Ev tl σ H (.ref a)) (hx : SqL K H a (L.map rf)) (hz : L.length ≤ 40000) (nd : ((L.filter p).map key).Nodup)
    (hg : ∀ x, x ∈ L → ∀ H1, Ex H H1 → ∀ Q, Q (σx x) H1 → g (rf x) (wipe σ vs) H1 Q) (hw : ∀ x, x ∈ L → wipe (σx x) vs = wipe σ vs)
    (ht : ∀ x, x ∈ L → ∀ H1, Ex H H1 → EvT tt (σx x) H1 (p x)) (hk : ∀ x, x ∈ L → p x = true → ∀ H1, Ex H H1 → Ev tk (σx x) H1 (.int (key x)))
    (hv : ∀ x, x ∈ L → p x = true → ∀ H1, Ex H H1 → Ev tv (σx x) H1 (val x)) :
    EvX (tDc (iList K tl) g tt tk tv vs) σ H (fun q H2 => H2 q = some (.dK (ents key val (L.filter p)))) := fun H0 e0 Q q => h H0 e0 _ fun H1 e1 =>
  ⟨a, rfl, ⟨L.map rf, ex_l (e0.trans e1) hx⟩, fun Dl hD => by
    refine dc_lst (xs := L.map rf) (fun i H' => Ex H1 H' ∧ H' Dl = some (.dK (ents key val ((L.take i).filter p)))) ?_ ?_ ?_ ?_
    · exact ⟨Ex.new hD, upd_same⟩
    · exact fun i H' _ pv => ex_l ((e0.trans e1).trans pv.1) hx
    · intro i y H' hi pv
      rw [List.getElem?_map] at hi
      cases hxi : L[i]? with
      | none => rw [hxi] at hi; cases hi
      | some x =>
        rw [hxi] at hi
        obtain rfl : rf x = y := Option.some.inj hi
        have hm : x ∈ L := List.mem_of_getElem? hxi
        have hlt : i < L.length := (List.getElem?_eq_some_iff.mp hxi).1
        obtain ⟨e, hd⟩ := pv
        refine hg x hm H' ((e0.trans e1).trans e) _ ⟨hw x hm, ?_⟩
        refine ht x hm H1 (e0.trans e1) H' e _ fun H3 e3 => ?_
        cases hpx : p x with
        | true =>
          show tk (σx x) H3 _
          refine hk x hm hpx H1 (e0.trans e1) H3 (e.trans e3) _ fun H4 e4 => ?_
          refine hv x hm hpx H1 (e0.trans e1) H4 ((e.trans e3).trans e4) _ fun H5 e5 => ?_
          have e' := ((e.trans e3).trans e4).trans e5
          refine ⟨_, Sum.inl (key x), rfl, e5 _ _ (e4 _ _ (e3 _ _ hd)), ?_, Ex.mut e' hD, ?_⟩
          · rw [ents_length]
            have := List.length_filter_le p (L.take i)
            rw [List.length_take] at this
            exact sz_lt (by omega)
          · rw [upd_same, take_succ_filter hxi, if_pos hpx, putK_ents]
            intro y hy q
            have nd2 : (((L.take (i + 1)).filter p).map key).Nodup := by
              refine nd.sublist ?_
              exact ((List.take_sublist (i + 1) L).filter p).map key
            rw [take_succ_filter hxi, if_pos hpx, List.map_append, List.nodup_append] at nd2
            exact nd2.2.2 _ (List.mem_map.mpr ⟨y, hy, rfl⟩) _ (by simp) q
        | false =>
          show Ex H1 H3 ∧ _
          refine ⟨e.trans e3, ?_⟩
          rw [take_succ_filter hxi, if_neg (by rw [hpx]; decide)]
          exact e3 _ _ hd
    · rintro H' ⟨e, hd⟩
      rw [List.length_map, List.take_length] at hd
      exact q Dl H' (fresh_back e1 hD) (e1.trans e) hd⟩
end
end K49

/-! A rule of our own: name = {k: v for ..} where the name is a local. -/
namespace K49
open PySem PySem.Spec PyProof.Rows L2
theorem swd_true {kx vx : Expr} {gs : List Comprehension} {scope : Scope} {pos py : Pos} {y : Str} {ln : Nat} {env : Env} (hk : env.scope.kind = .function) (hy : env.scope.names.lookup y = some .local) (hl : (py.line == pos.line) = true)
    (ha : (scope.names.any fun (n, k) => n == y && (k == .local || k == .cell)) = false) : swapsWith (.DictComp kx vx gs scope pos) (some (.Name y py)) ln env = pure true := by
  have e1 : env.kindOf y = some .local := hy
  have e2 : env.blockKind = .function := by
    unfold Env.blockKind
    rw [hk]
    rfl
  unfold swapsWith
  simp only [e2, e1, ha, Expr.pos, hl]
  rfl
section
variable {X : Cx} {i : Nat} {y : Str} {py : Pos} {kx vx tg iter : Expr} {ifs : List Expr} {scope : Scope} {own : List (Str × Nat)} {pos spos : Pos} {wi : TI} {g : TG} {tt : TT} {tk tv : TE}
theorem ps_setDc (hc : X.calm = true) (hN : X.N.Nodup) (hy : X.N[i]? = some y) (hyl : X.env.scope.names.lookup y = some .local)
    (hsw : swapsWith (.DictComp kx vx [⟨tg, iter, ifs, 0⟩] scope pos) (some (.Name y py)) spos.line X.env = pure true) (hi : PI X tg iter wi) (ok : BlkOk X.N X.env.scope scope own)
    (hg : ∀ s H C cl fp, PG (X.blk s H scope (compEnvC scope cl C X.env) fp) tg g) (ht : ∀ s H C cl fp, PTs (X.blk s H scope (compEnvC scope cl C X.env) fp) ifs tt)
    (hk : ∀ s H C cl fp, PE (X.blk s H scope (compEnvC scope cl C X.env) fp) kx tk) (he : ∀ s H C cl fp, PE (X.blk s H scope (compEnvC scope cl C X.env) fp) vx tv)
    (hs : ∀ x, foldedSetIterable iter X.env x = pure x := by intro _; rfl) :
    PS X (.Assign [.Name y py] (.DictComp kx vx [⟨tg, iter, ifs, 0⟩] scope pos) spos) (tAsg (tDc wi g tt tk tv (own.map (·.2))) (gName i)) := by
  constructor
  intro pins s σ H D I h
  rw [exec_Assign_Name_used _ _ _ _ hsw]
  refine wpAny_bind (wpAny_standAt (wpAny_bind ?_))
  have q := dc_core (pos := pos) (use := some (assign (.Name y py) X.env)) (pos' := firstIterPos [⟨tg, iter, ifs, 0⟩] pos) (Qf := fun _ s1 => SP X pins D .next s1) (Q := fun x H1 => gName i x σ H1 D.nx) hc hN I hi ok hg ht hk he hs h
    (fun L C s1 m H1 I1 q hn fp => by
      obtain ⟨a0, a1, a2, a3, a4, a5⟩ := fp
      show wpAny _ _ (assign (.Name y py) X.env (.ref L)) _ _ _
      refine wpAny_assign_Name (store_ok2 (v := V.ref L) I1 hN hy (.inl hyl) rfl (fun s2 I2 sb => ?_) (.inr hyl))
      obtain ⟨b, sb, hb⟩ := sb
      have ne : C ≠ b := hb.elim (fun z => z ▸ a1) fun z k => a4 y b z k.symm
      exact ⟨m, hn.sameBut sb ne, fun h3 sb3 => ⟨_, H1, I2.turned (t' := s2.toks) (fun c o hcn e => (sb3.2 c hcn).trans e) a0 a1 a3 a4 a5, q⟩⟩)
  show wpAny _ X.A (comprehension (.DictComp kx vx [⟨tg, iter, ifs, 0⟩] scope pos) scope X.env (firstIterPos [⟨tg, iter, ifs, 0⟩] pos) newDict false (eval iter X.env) (some (assign (.Name y py) X.env)) >>= fun _ => pure ()) _ _ s
  exact wpAny_bind (thn q fun _ s1 k => wpAny_pure (wpAny_pure k))
end
end K49

/-! What stands in the heap; goes_ahead, is_open, clash. -/
namespace K49
open PySem PySem.Spec PyProof.Rows L2 Evl

/-! ### rows, histories, zones in the heap -/
def kindS (w : Bool) : Str := if w then "write" else "read"
def Row.vs (r : Row) : List V := [.int r.num, .str (kindS r.wr), .int r.val, .int r.beg, .int r.fin]
abbrev Item := Addr × Row
abbrev rows (L : List Item) : List Row := L.map Prod.snd
structure Hist (H : Hp) (a : Addr) (L : List Item) : Prop where
  lst : H a = some (.lst (refs L))
  tup : Tups Row.vs H L
theorem Hist.ex {H H' : Hp} {a : Addr} {L : List Item} (h : Hist H a L) (e : Ex H H') : Hist H' a L := ⟨e _ _ h.lst, h.tup.ex e⟩
structure Zn where
  key : Int
  f : Int
  l : Int
def Zn.vs (z : Zn) : List V := [.int z.f, .int z.l]
abbrev ZItem := Addr × Zn
abbrev zkey (q : ZItem) : Int := q.2.key
abbrev zref (q : ZItem) : V := .ref q.1
structure ZAt (H : Hp) (d : Addr) (Z : List ZItem) : Prop where
  dk : H d = some (.dK (ents zkey zref Z))
  tup : Tups Zn.vs H Z
theorem ZAt.ex {H H' : Hp} {d : Addr} {Z : List ZItem} (h : ZAt H d Z) (e : Ex H H') : ZAt H' d Z := ⟨e _ _ h.dk, h.tup.ex e⟩
structure ZOf (rs : List Row) (Z : List ZItem) : Prop where
  nd : (Z.map zkey).Nodup
  zone : ∀ q, q ∈ Z → Zone rs q.2.key q.2.f q.2.l
  all : ∀ v, Has rs v → ∃ q, q ∈ Z ∧ q.2.key = v
  len : Z.length ≤ rs.length + 1
theorem kind_w (w : Bool) : decide (V.str (kindS w) = V.str "write") = w := by cases w <;> decide +kernel
theorem kind_r (w : Bool) : decide (V.str (kindS w) = V.str "read") = !w := by cases w <;> decide +kernel
section
variable {K : PySem.W.Frag} {σ : L2.St} {H : Hp} {i : Nat} {t : Addr} {r : Row}
theorem ev_num (h : H t = some (.tup r.vs)) (hs : σ[i]? = some (some (.ref t)) := by rfl) : Ev (tOp (rIxT K) (tVar i) (tC (.int 0))) σ H (.int r.num) := ev_op (ev_var hs) ev_c (rv_ixT (st_of h) rfl)
theorem ev_kind (h : H t = some (.tup r.vs)) (hs : σ[i]? = some (some (.ref t)) := by rfl) : Ev (tOp (rIxT K) (tVar i) (tC (.int 1))) σ H (.str (kindS r.wr)) := ev_op (ev_var hs) ev_c (rv_ixT (st_of h) rfl)
theorem ev_val (h : H t = some (.tup r.vs)) (hs : σ[i]? = some (some (.ref t)) := by rfl) : Ev (tOp (rIxT K) (tVar i) (tC (.int 2))) σ H (.int r.val) := ev_op (ev_var hs) ev_c (rv_ixT (st_of h) rfl)
theorem ev_beg (h : H t = some (.tup r.vs)) (hs : σ[i]? = some (some (.ref t)) := by rfl) : Ev (tOp (rIxT K) (tVar i) (tC (.int 3))) σ H (.int r.beg) := ev_op (ev_var hs) ev_c (rv_ixT (st_of h) rfl)
theorem ev_fin (h : H t = some (.tup r.vs)) (hs : σ[i]? = some (some (.ref t)) := by rfl) : Ev (tOp (rIxT K) (tVar i) (tC (.int 4))) σ H (.int r.fin) := ev_op (ev_var hs) ev_c (rv_ixT (st_of h) rfl)
end

/-! ### the small defs -/
def ahead (z y : Zn) : Bool := decide (z.f < y.l)
def isOpen (z : Zn) : Bool := decide (z.f < z.l)
def clashV (z y : Zn) : V := if ahead z y && ahead y z then (if isOpen z && isOpen y then .str "both" else if isOpen z then .str "within" else .non) else .non
def spAhead : Sp := fun vs H Q _ => ∃ (a b : Addr) (z y : Zn), vs = [.ref a, .ref b] ∧ H a = some (.tup z.vs) ∧ H b = some (.tup y.vs) ∧ RetV (.bl (ahead z y)) H Q
def spOpen : Sp := fun vs H Q _ => ∃ (a : Addr) (z : Zn), vs = [.ref a] ∧ H a = some (.tup z.vs) ∧ RetV (.bl (isOpen z)) H Q
def spClash : Sp := fun vs H Q _ => ∃ (a b : Addr) (z y : Zn), vs = [.ref a, .ref b] ∧ H a = some (.tup z.vs) ∧ H b = some (.tup y.vs) ∧ RetV (clashV z y) H Q
section
variable {P : Program} {w : World} {K : PySem.W.Frag} {mg : Str → Option Value} {base : Heap} {H : Hp}
theorem sv_ahead {a b : Addr} {z y : Zn} (ha : H a = some (.tup z.vs)) (hb : H b = some (.tup y.vs)) : SpV spAhead [.ref a, .ref b] H (.bl (ahead z y)) := fun H1 e Q q E => ⟨a, b, z, y, rfl, e _ _ ha, e _ _ hb, q⟩
theorem sv_open {a : Addr} {z : Zn} (ha : H a = some (.tup z.vs)) : SpV spOpen [.ref a] H (.bl (isOpen z)) := fun H1 e Q q E => ⟨a, z, rfl, e _ _ ha, q⟩
theorem sv_clash {a b : Addr} {z y : Zn} (ha : H a = some (.tup z.vs)) (hb : H b = some (.tup y.vs)) : SpV spClash [.ref a, .ref b] H (clashV z y) := fun H1 e Q q E => ⟨a, b, z, y, rfl, e _ _ ha, e _ _ hb, q⟩
theorem ok_ahead {f : Addr} {fd : FuncData} (F : Fun K "goes_ahead" "goes_ahead" s_goes_ahead f fd) : FnOk P w K mg base CX0 1 f fd ["zone", "other"] spAhead := by
  refine F.ok sc_goes_ahead (fun vs H Q E h => ?_) (fun cdv A outer s H vs Q E hr h => ?_)
  · obtain ⟨a, b, z, y, rfl, _⟩ := h
    rfl
  · obtain ⟨a, b, z, y, rfl, ha, hb, q⟩ := h
    refine ⟨_, pss_one (ps_ret (pe_cmpR op_lt (pe_ix ix_tup (pv 0) pe_int (fun _ _ => rfl)) (pe_ix ix_tup (pv 1) pe_int (fun _ _ => rfl)) (nomark _))), ?_⟩
    exact s_ret (ev_op (ev_op (ev_var rfl) ev_c (rv_ixT (st_of ha) rfl)) (ev_op (ev_var rfl) ev_c (rv_ixT (st_of hb) rfl)) rv_I0) q
theorem ok_open {f : Addr} {fd : FuncData} (F : Fun K "is_open" "is_open" s_is_open f fd) : FnOk P w K mg base CX0 1 f fd ["zone"] spOpen := by
  refine F.ok sc_is_open (fun vs H Q E h => ?_) (fun cdv A outer s H vs Q E hr h => ?_)
  · obtain ⟨a, z, rfl, _⟩ := h
    rfl
  · obtain ⟨a, z, rfl, ha, q⟩ := h
    refine ⟨_, pss_one (ps_ret (pe_cmpR op_lt (pe_ix ix_tup (pv 0) pe_int (fun _ _ => rfl)) (pe_ix ix_tup (pv 0) pe_int (fun _ _ => rfl)) (nomark _))), ?_⟩
    exact s_ret (ev_op (ev_op (ev_var rfl) ev_c (rv_ixT (st_of ha) rfl)) (ev_op (ev_var rfl) ev_c (rv_ixT (st_of ha) rfl)) rv_I0) q
theorem ok_clash {f fA fO : Addr} {fd fdA fdO : FuncData} (F : Fun K "clash" "clash" s_clash f fd) (FA : Fun K "goes_ahead" "goes_ahead" s_goes_ahead fA fdA) (bA : Binds K fdA ["zone", "other"] []) (gA : mg "goes_ahead" = some (.ref fA))
    (FO : Fun K "is_open" "is_open" s_is_open fO fdO) (bO : Binds K fdO ["zone"] []) (gO : mg "is_open" = some (.ref fO)) : FnOk P w K mg base CX0 2 f fd ["zone", "other"] spClash := by
  have GA : FnOk P w K mg base CX0 1 fA fdA ["zone", "other"] spAhead := ok_ahead FA
  have GO : FnOk P w K mg base CX0 1 fO fdO ["zone"] spOpen := ok_open FO
  refine F.ok sc_clash (fun vs H Q E h => ?_) (fun cdv A outer s H vs Q E hr h => ?_)
  · obtain ⟨a, b, z, y, rfl, _⟩ := h
    rfl
  · obtain ⟨a, b, z, y, rfl, ha, hb, q⟩ := h
    refine ⟨_, pss_cons (ps_if (PW.pt (pw_or (pt_not (pt_val (pe_call GA hr (by rfl) gA FA.kp bA .nil pass0 (pa_cons (pv 0) (pa_cons (pv 1) pa_nil)))))
        (pw_or1 (pt_not (pt_val (pe_call GA hr (by rfl) gA FA.kp bA .nil pass0 (pa_cons (pv 1) (pa_cons (pv 0) pa_nil)))))))) (pss_one (ps_ret pe_non)) pss_nil)
      (pss_cons (ps_if (PW.pt (pw_and (pt_val (pe_call GO hr (by rfl) gO FO.kp bO .nil pass0 (pa_cons (pv 0) pa_nil))) (pw_and1 (pt_val (pe_call GO hr (by rfl) gO FO.kp bO .nil pass0 (pa_cons (pv 1) pa_nil))))))
        (pss_one (ps_ret pe_str)) pss_nil)
      (pss_one (ps_ret (pe_ifExp (pt_val (pe_call GO hr (by rfl) gO FO.kp bO .nil pass0 (pa_cons (pv 0) pa_nil))) pe_str pe_non)))), ?_⟩
    refine q_when (et_or (et_not (et_B (ev_call (ea_cons (ev_var rfl) (ea_cons (ev_var rfl) ea_nil)) (sv_ahead ha hb)))) (fun _ => et_not (et_B (ev_call (ea_cons (ev_var rfl) (ea_cons (ev_var rfl) ea_nil)) (sv_ahead hb ha))))) (fun h H1 e1 => ?_) (fun h H1 e1 => ?_)
    · have ev : clashV z y = .non := by
        unfold clashV
        rw [if_neg]
        intro k
        simp only [Bool.and_eq_true] at k
        rw [k.1, k.2] at h
        cases h
      exact s_ret ev_c fun H2 e2 => ev ▸ q H2 (e1.trans e2)
    · have k : (ahead z y && ahead y z) = true := by
        cases h1 : ahead z y <;> cases h2 : ahead y z <;> rw [h1, h2] at h <;> first | rfl | cases h
      refine q_when (et_and (et_B (ev_call (ea_cons (ev_var rfl) ea_nil) (sv_open (e1 _ _ ha)))) (fun _ => et_B (ev_call (ea_cons (ev_var rfl) ea_nil) (sv_open (e1 _ _ hb))))) (fun h2 H2 e2 => ?_) (fun h2 H2 e2 => ?_)
      · have ev : clashV z y = .str "both" := by
          unfold clashV
          rw [if_pos k, if_pos h2]
        exact s_ret ev_c fun H3 e3 => ev ▸ q H3 ((e1.trans e2).trans e3)
      · have ev : clashV z y = if isOpen z then .str "within" else .non := by
          unfold clashV
          rw [if_pos k, if_neg (by rw [h2]; decide)]
        refine s_ret (v := clashV z y) (ev_if (et_B (ev_call (ea_cons (ev_var rfl) ea_nil) (sv_open ((e1.trans e2) _ _ ha)))) (fun h3 => ?_) (fun h3 => ?_)) fun H3 e3 => q H3 ((e1.trans e2).trans e3)
        · rw [ev, if_pos h3]
          exact ev_c
        · rw [ev, if_neg (by rw [h3]; decide)]
          exact ev_c
end
end K49

/-! zones. -/
namespace K49
open PySem PySem.Spec PyProof.Rows L2 Evl

/-- what the top leaves as built-ins -/
structure Blt (mg : Str → Option Value) : Prop where
  mn : mg "min" = none
  mx : mg "max" = none
  ls : mg "list" = none
  an : mg "any" = none
  so : mg "sorted" = none
  ln : mg "len" = none
  ab : mg "abs" = none
  rg : mg "range" = none
  isi : mg "isinstance" = none
  it : mg "int" = none
  st : mg "set" = none
  zp : mg "zip" = none
  tp : mg "tuple" = none

/-! ### the dict of zones grows -/
theorem rows_take (L : List Item) (i : Nat) : rows (L.take i) = (rows L).take i := List.map_take ..
theorem rows_snoc {L : List Item} {i : Nat} {q : Item} (h : L[i]? = some q) : rows (L.take (i + 1)) = rows (L.take i) ++ [q.2] := by
  rw [List.take_add_one, h]
  exact List.map_append ..
theorem putK_set {Z : List ZItem} {v : Int} {p : Addr} {z : Zn} (hz : z.key = v) (h : ∃ q, q ∈ Z ∧ q.2.key = v) :
    putK (ents zkey zref Z) (Sum.inl v : Key) (.ref p) = ents zkey zref (Z.map fun q => if q.2.key = v then (p, z) else q) := by
  unfold putK
  have ha : ((ents zkey zref Z).any fun kv => decide (kv.1 = (Sum.inl v : Key))) = true := by
    obtain ⟨q, hq, e⟩ := h
    refine List.any_eq_true.mpr ⟨(Sum.inl q.2.key, .ref q.1), List.mem_map.mpr ⟨q, hq, rfl⟩, ?_⟩
    rw [e]
    simp
  rw [if_pos ha]
  unfold ents
  rw [List.map_map, List.map_map]
  refine List.map_congr_left fun q _ => ?_
  by_cases e : q.2.key = v
  · simp [Function.comp, e, hz, zkey, zref]
  · simp [Function.comp, e, zkey, zref]
theorem ZOf.start {p : Addr} : ZOf [] [(p, ⟨0, -1, -1⟩)] where
  nd := by simp
  zone := fun q hq => by
    obtain rfl : q = (p, ⟨0, -1, -1⟩) := by simpa using hq
    exact zone_nil
  all := fun v h => by
    rcases h with h | ⟨r, h, _⟩
    · exact ⟨(p, ⟨0, -1, -1⟩), by simp, h.symm⟩
    · cases h
  len := Nat.le_refl _
theorem ZOf.same {rs : List Row} {Z : List ZItem} {r : Row} {p : Addr} {q : ZItem} (h : ZOf rs Z) (hq : q ∈ Z) (e : q.2.key = r.val) :
    ZOf (rs ++ [r]) (Z.map fun x => if x.2.key = r.val then (p, ⟨r.val, if r.fin < q.2.f then r.fin else q.2.f, if r.beg > q.2.l then r.beg else q.2.l⟩) else x) where
  nd := by
    rw [List.map_map]
    have : Z.map (zkey ∘ fun x => if x.2.key = r.val then (p, (⟨r.val, if r.fin < q.2.f then r.fin else q.2.f, if r.beg > q.2.l then r.beg else q.2.l⟩ : Zn)) else x) = Z.map zkey := by
      refine List.map_congr_left fun x _ => ?_
      by_cases c : x.2.key = r.val
      · simp [Function.comp, c, zkey]
      · simp [Function.comp, c, zkey]
    rw [this]
    exact h.nd
  zone := fun x hx => by
    obtain ⟨y, hy, ey⟩ := List.mem_map.mp hx
    by_cases c : y.2.key = r.val
    · rw [if_pos c] at ey
      subst ey
      have zq := h.zone q hq
      rw [e] at zq
      exact zone_same zq rfl
    · rw [if_neg c] at ey
      subst ey
      exact zone_other (h.zone y hy) fun k => c k.symm
  all := fun v hv => by
    rcases has_snoc.mp hv with k | k
    · obtain ⟨y, hy, ey⟩ := h.all v k
      refine ⟨_, List.mem_map.mpr ⟨y, hy, rfl⟩, ?_⟩
      by_cases c : y.2.key = r.val
      · rw [if_pos c]
        exact c.symm.trans ey
      · rw [if_neg c]
        exact ey
    · refine ⟨_, List.mem_map.mpr ⟨q, hq, rfl⟩, ?_⟩
      rw [if_pos e]
      exact k
  len := by
    have := h.len
    rw [List.length_map, List.length_append, List.length_singleton]
    omega
theorem ZOf.new {rs : List Row} {Z : List ZItem} {r : Row} {p : Addr} (h : ZOf rs Z) (hn : ∀ q, q ∈ Z → q.2.key ≠ r.val) : ZOf (rs ++ [r]) (Z ++ [(p, ⟨r.val, r.fin, r.beg⟩)]) := by
  have hnh : ¬ Has rs r.val := fun k => by
    obtain ⟨q, hq, e⟩ := h.all _ k
    exact hn q hq e
  refine ⟨?_, fun x hx => ?_, fun v hv => ?_, ?_⟩
  · rw [List.map_append]
    refine List.nodup_append.mpr ⟨h.nd, by simp, fun a ha b hb => ?_⟩
    obtain ⟨q, hq, e⟩ := List.mem_map.mp ha
    obtain rfl : b = r.val := by simpa using hb
    exact fun k => hn q hq (e.trans k)
  · rcases List.mem_append.mp hx with k | k
    · exact zone_other (h.zone x k) fun e => hn x k e.symm
    · obtain rfl : x = (p, ⟨r.val, r.fin, r.beg⟩) := by simpa using k
      exact zone_new hnh
  · rcases has_snoc.mp hv with k | k
    · obtain ⟨y, hy, ey⟩ := h.all v k
      exact ⟨y, List.mem_append_left _ hy, ey⟩
    · exact ⟨(p, ⟨r.val, r.fin, r.beg⟩), List.mem_append_right _ (by simp), k⟩
  · have := h.len
    rw [List.length_append, List.length_append, List.length_singleton, List.length_singleton]
    omega

/-- a dict of zones, new at d -/
def spZones : Sp := fun vs H Q _ => ∃ (a : Addr) (L : List Item), vs = [.ref a] ∧ Hist H a L ∧ L.length ≤ 60 ∧
  ∀ (H' : Hp) (d : Addr) (Z : List ZItem), Ex H H' → H d = none → ZAt H' d Z → ZOf (rows L) Z → Q (.ref d) H'
section
variable {P : Program} {w : World} {K : PySem.W.Frag} {mg : Str → Option Value} {base : Heap} {H : Hp}
theorem ok_zones {f : Addr} {fd : FuncData} (F : Fun K "zones" "zones" s_zones f fd) (T : Blt mg) : FnOk P w K mg base CX0 1 f fd ["history"] spZones := by
  refine F.ok sc_zones (fun vs H Q E h => ?_) (fun cdv A outer s H vs Q E hr h => ?_)
  · obtain ⟨a, L, rfl, _⟩ := h
    rfl
  · obtain ⟨a, L, rfl, hL, hlen, q⟩ := h
    have nd := sc_zones.nd
    have hu := hu_of hr
    refine ⟨_, pss_cons (ps_set (i := 1) nd rfl (.inl rfl) (pe_disp (pps_cons pe_int (pe_tup (pa_cons (pe_un un_neg pe_int) (pa_cons (pe_un un_neg pe_int) pa_nil))) pps_nil) (by rfl) (by rfl) (fun z => by cases z) (by decide)))
      (pss_cons (ps_for PassesOwn.never rfl (pi_list (pv 0))
          (pg_tup rfl (pgs_cons (pg_name (i := 2) nd rfl (.inl rfl)) (pgs_cons (pg_name (i := 3) nd rfl (.inl rfl)) (pgs_cons (pg_name (i := 4) nd rfl (.inl rfl)) (pgs_cons (pg_name (i := 5) nd rfl (.inl rfl)) (pgs_cons (pg_name (i := 6) nd rfl (.inl rfl)) pgs_nil))))))
        (pss_cons (ps_asg (pe_dget2 hu (pv 1) (pv 4) (pe_tup (pa_cons (pv 6) (pa_cons (pv 5) pa_nil))) ⟨rfl, rfl, rfl, rfl⟩) (pg_tup rfl (pgs_cons (pg_name (i := 7) nd rfl (.inl rfl)) (pgs_cons (pg_name (i := 8) nd rfl (.inl rfl)) pgs_nil))))
        (pss_one (ps_dput hu (pv 1) (pv 4) (pe_tup (pa_cons (pe_callB (call_min2 rfl) (by rfl) T.mn (by decide +kernel) (pa_cons (pv 7) (pa_cons (pv 6) pa_nil))) (pa_cons (pe_callB (call_max2 rfl) (by rfl) T.mx (by decide +kernel) (pa_cons (pv 8) (pa_cons (pv 5) pa_nil))) pa_nil))) rfl))))
      (pss_one (ps_ret (pv 1)))), ?_⟩
    -- found = {0: (-1, -1)}
    intro d hd
    refine ⟨_, rfl, _, rfl, by show 2 ≤ sizeLine; decide, fun p hp => ?_⟩
    have ndp : d ≠ p := fun e => by
      rw [← e, upd_same] at hp
      cases hp
    refine ⟨by rw [upd_ne ndp]; exact upd_same, [(Sum.inl 0, .ref p)], rfl, by show 1 ≤ 15; decide, ?_⟩
    -- the loop
    have hp0 : H p = none := by
      rw [upd_ne ndp.symm] at hp
      exact hp
    refine ⟨_, rfl, a, rfl, ⟨refs L, sq_of ?_⟩, for_list (K := K) (a := a) (xs := refs L) (fun i σ H' => ∃ (Z : List ZItem) (j2 j3 j4 j5 j6 j7 j8 : Option V), σ = [some (.ref a), some (.ref d), j2, j3, j4, j5, j6, j7, j8] ∧ Ex H H' ∧ ZAt H' d Z ∧ ZOf (rows (L.take i)) Z) ?_ ?_ ?_ ?_⟩
    · rw [upd_ne (ne_of_none hL.lst hd), upd_ne (ne_of_none hL.lst hp0), upd_ne (ne_of_none hL.lst hd)]
      exact hL.lst
    · refine ⟨[(p, ⟨0, -1, -1⟩)], none, none, none, none, none, none, none, rfl, Ex.mut (Ex.mut (Ex.new hd) hp0) hd, ⟨upd_same, ?_⟩, ?_⟩
      · refine Tups.cons ?_ Tups.nil
        show (upd (upd (upd H d (.dK [])) p (.tup [.int (-1), .int (-1)])) d _) p = _
        rw [upd_ne ndp.symm, upd_same]
        rfl
      · exact ZOf.start
    · rintro i σ H' _ ⟨_, _, _, _, _, _, _, _, _, e, _⟩
      exact sq_of (e _ _ hL.lst)
    · rintro i y σ H' hi ⟨Z, j2, j3, j4, j5, j6, j7, j8, rfl, e, hZ, zo⟩
      unfold refs at hi
      rw [List.getElem?_map] at hi
      cases hxi : L[i]? with
      | none => rw [hxi] at hi; cases hi
      | some x =>
        rw [hxi] at hi
        obtain rfl : V.ref x.1 = y := Option.some.inj hi
        have hm : x ∈ L := List.mem_of_getElem? hxi
        have ht := e _ _ (hL.tup x hm)
        have hlt : i < L.length := (List.getElem?_eq_some_iff.mp hxi).1
        refine ⟨x.1, x.2.vs, rfl, st_of ht, rfl, _, _, rfl, _, _, rfl, _, _, rfl, _, _, rfl, _, _, rfl, rfl, ?_⟩
        refine ⟨_, rfl, d, rfl, .inl ⟨_, .inl hZ.dk⟩, _, rfl, _, rfl, _, rfl, by show 2 ≤ sizeLine; decide, fun p hp => ?_⟩
        have e1 : Ex H' (upd H' p (.tup [.int x.2.fin, .int x.2.beg])) := Ex.new hp
        refine ⟨_, DGet.k (k := Sum.inl x.2.val) (e1 _ _ hZ.dk), ?_⟩
        -- the end, whatever first and last are
        have fin : ∀ (f l : Int) (Z' : Addr → List ZItem), (∀ p', putK (ents zkey zref Z) (Sum.inl x.2.val : Key) (.ref p') = ents zkey zref (Z' p')) →
            (∀ p' H2, Tups Zn.vs H2 Z → H2 p' = some (.tup [.int (if x.2.fin < f then x.2.fin else f), .int (if x.2.beg > l then x.2.beg else l)]) → Tups Zn.vs H2 (Z' p')) →
            (∀ p', ZOf (rows (L.take i) ++ [x.2]) (Z' p')) → ∀ t H1, Ex H' H1 → H1 t = some (.tup [.int f, .int l]) → 
            gTup K 2 (gCons (gName 7) (gCons (gName 8) gNil)) (.ref t) [some (.ref a), some (.ref d), some (.int x.2.num), some (.str (kindS x.2.wr)), some (.int x.2.val), some (.int x.2.beg), some (.int x.2.fin), j7, j8] H1
              (sDPut (tVar 1) (tVar 4) (tTup (tCons (tCB (fun xs H Q => ∃ i j, xs = [.int i, .int j] ∧ Q (.int (if j < i then j else i)) H) (tCons (tVar 7) (tCons (tVar 6) tNil))) (tCons (tCB (fun xs H Q => ∃ i j, xs = [.int i, .int j] ∧ Q (.int (if j > i then j else i)) H) (tCons (tVar 8) (tCons (tVar 5) tNil))) tNil)))
                { nx := fun σ H' => ∃ (Z : List ZItem) (j2 j3 j4 j5 j6 j7 j8 : Option V), σ = [some (.ref a), some (.ref d), j2, j3, j4, j5, j6, j7, j8] ∧ Ex H H' ∧ ZAt H' d Z ∧ ZOf (rows (L.take (i + 1))) Z,
                  ct := fun σ H' => ∃ (Z : List ZItem) (j2 j3 j4 j5 j6 j7 j8 : Option V), σ = [some (.ref a), some (.ref d), j2, j3, j4, j5, j6, j7, j8] ∧ Ex H H' ∧ ZAt H' d Z ∧ ZOf (rows (L.take (i + 1))) Z,
                  bk := (tRet (tVar 1) { nx := fun _ H' => Q .non H', rt := Q }), rt := Q }) := by
          intro f l Z' hput htup hzo t H1 e1 h1
          refine ⟨t, _, rfl, st_of h1, rfl, _, _, rfl, _, _, rfl, rfl, ?_⟩
          refine ⟨_, rfl, _, rfl, _, _, rfl, _, rfl, _, rfl, _, _, rfl, by show 2 ≤ sizeLine; decide, fun p' hp' => ?_⟩
          have hdk : (upd H1 p' (.tup [.int (if x.2.fin < f then x.2.fin else f), .int (if x.2.beg > l then x.2.beg else l)])) d = some (.dK (ents zkey zref Z)) := Ex.new hp' _ _ (e1 _ _ hZ.dk)
          refine ⟨_, rfl, _, rfl, d, _, rfl, DPut.k (k := Sum.inl x.2.val) hdk ?_, ?_⟩
          · rw [ents_length]
            have := zo.len
            rw [List.length_map, List.length_take] at this
            exact sz_lt (by omega)
          · refine ⟨Z' p', _, _, _, _, _, _, _, rfl, ?_, ⟨?_, ?_⟩, ?_⟩
            · exact Ex.mut ((e.trans e1).trans (Ex.new hp')) hd
            · rw [upd_same, hput]
            · have ndp' : p' ≠ d := fun k => by
                rw [k] at hp'
                rw [e1 _ _ hZ.dk] at hp'
                cases hp'
              refine htup p' _ ?_ ?_
              · exact (hZ.tup.ex (e1.trans (Ex.new hp'))).tex (TEx.dk hdk)
              · rw [upd_ne ndp']
                exact upd_same
            · rw [rows_snoc hxi]
              exact hzo p'
        by_cases c : ∃ q, q ∈ Z ∧ q.2.key = x.2.val
        · obtain ⟨z, hz, ek⟩ := c
          have lk : valV (ents zkey zref Z) (Sum.inl x.2.val : Key) = some (.ref z.1) := by
            have := valV_ents (key := zkey) (val := zref) zo.nd hz
            rw [show zkey z = x.2.val from ek] at this
            exact this
          rw [lk]
          refine fin z.2.f z.2.l (fun p' => Z.map fun y => if y.2.key = x.2.val then (p', ⟨x.2.val, if x.2.fin < z.2.f then x.2.fin else z.2.f, if x.2.beg > z.2.l then x.2.beg else z.2.l⟩) else y) (fun p' => putK_set (v := x.2.val) (z := ⟨x.2.val, if x.2.fin < z.2.f then x.2.fin else z.2.f, if x.2.beg > z.2.l then x.2.beg else z.2.l⟩) rfl ⟨z, hz, ek⟩) ?_ (fun p' => ZOf.same zo hz ek) z.1 _ e1 (e1 _ _ (hZ.tup z hz))
          intro p' H2 ht2 hp2 y hy
          obtain ⟨u, hu', eu⟩ := List.mem_map.mp hy
          by_cases c : u.2.key = x.2.val
          · rw [if_pos c] at eu
            subst eu
            exact hp2
          · rw [if_neg c] at eu
            subst eu
            exact ht2 u hu'
        · have hn : ∀ q, q ∈ Z → q.2.key ≠ x.2.val := fun q hq k => c ⟨q, hq, k⟩
          have lk : valV (ents zkey zref Z) (Sum.inl x.2.val : Key) = none := valV_ents_none fun y hy => hn y hy
          rw [lk]
          refine fin x.2.fin x.2.beg (fun p' => Z ++ [(p', ⟨x.2.val, x.2.fin, x.2.beg⟩)]) (fun p' => putK_ents (key := zkey) (val := zref) (x := (p', ⟨x.2.val, x.2.fin, x.2.beg⟩)) hn) ?_ (fun p' => ZOf.new zo hn) p _ e1 upd_same
          intro p' H2 ht2 hp2
          refine ht2.app (Tups.cons ?_ Tups.nil)
          rw [hp2]
          simp [Zn.vs]
    · rintro σ H' ⟨Z, _, _, _, _, _, _, _, rfl, e, hZ, zo⟩
      rw [refs_length, List.take_length] at zo
      exact ⟨_, rfl, q H' d Z e hd hZ zo⟩
end
end K49

/-! is_early, shows_none, earlies. -/
namespace K49
open PySem PySem.Spec PyProof.Rows L2 Evl
/-- t[i], in a comprehension's block too -/
theorem pe_col {X : Cx} (K : PySem.W.Frag) {a b : Expr} {ta tb : TE} {pos : Pos} (ha : PE X a ta) (hb : PE X b tb) (hs : PlainIx b := by intro _ _; rfl) (hK : X.K = K := by rfl) : PE X (.Subscript a b pos) (tOp (rIxT K) ta tb) := by
  subst hK
  exact pe_ix ix_tup ha hb hs
section
variable {σ : L2.St} {H : Hp} {td ty : TE} {d : Addr} {kvs : List (Key × V)} {k : Int}
theorem ev_dget {v : V} (hd : Ev td σ H (.ref d)) (hk : Ev ty σ H (.int k)) (h : Rd H d (.dK kvs)) (hv : valV kvs (Sum.inl k : Key) = some v) : Ev (tDGet td ty) σ H v := fun H1 e Q q =>
  hd H1 e _ fun H2 e2 => hk H2 (e.trans e2) _ fun H3 e3 => ⟨d, v, rfl, .inl ⟨kvs, Sum.inl k, ex_rd ((e.trans e2).trans e3) h, rfl, hv.symm⟩, q H3 (e2.trans e3)⟩
theorem ev_din (hd : Ev td σ H (.ref d)) (hk : Ev ty σ H (.int k)) (h : Rd H d (.dK kvs)) : Ev (tDIn ty td) σ H (.bl (valV kvs (Sum.inl k : Key)).isSome) := fun H1 e Q q =>
  hk H1 e _ fun H2 e2 => hd H2 (e.trans e2) _ fun H3 e3 => ⟨d, _, rfl, .inl ⟨kvs, Sum.inl k, ex_rd ((e.trans e2).trans e3) h, rfl, rfl⟩, q H3 (e2.trans e3)⟩
theorem ev_dnotin (hd : Ev td σ H (.ref d)) (hk : Ev ty σ H (.int k)) (h : Rd H d (.dK kvs)) : Ev (tDNotIn ty td) σ H (.bl (!(valV kvs (Sum.inl k : Key)).isSome)) := fun H1 e Q q =>
  hk H1 e _ fun H2 e2 => hd H2 (e.trans e2) _ fun H3 e3 => ⟨d, _, rfl, .inl ⟨kvs, Sum.inl k, ex_rd ((e.trans e2).trans e3) h, rfl, rfl⟩, q H3 (e2.trans e3)⟩
end
theorem q_par {σ : L2.St} {H : Hp} {D : Ends} {tz : TS} {i j : Nat} {ta : TA} {v u : V} (h : EvA ta σ H [v, u]) (k : ∀ H1, Ex H H1 → tz D ((σ.set i (some v)).set j (some u)) H1) : tSeq (tPar i j ta) tz D σ H := h H (Ex.refl H) _ fun H1 e => ⟨v, u, rfl, k H1 e⟩
/-! ### the dict of rows by their numbers -/
abbrev inum (q : Item) : Int := q.2.num
abbrev iref (q : Item) : V := .ref q.1
theorem filter_yes {α : Type} (L : List α) : L.filter (fun _ => true) = L := List.filter_eq_self.mpr fun _ _ => rfl
theorem nums_nd {L : List Item} (W : WF (rows L)) : (L.map inum).Nodup := by
  have h := W.nums
  rw [List.map_map] at h
  exact h
theorem len_rows {L : List Item} (W : WF (rows L)) : L.length ≤ 60 := by
  have h := W.len
  rw [List.length_map] at h
  exact h
theorem row_at {L : List Item} (W : WF (rows L)) {x : Item} (hx : x ∈ L) : valV (ents inum iref L) (Sum.inl x.2.num : Key) = some (.ref x.1) := valV_ents (key := inum) (val := iref) (nums_nd W) hx
theorem mem_rows {L : List Item} {r : Row} (h : r ∈ rows L) : ∃ x, x ∈ L ∧ x.2 = r := by
  obtain ⟨x, hx, e⟩ := List.mem_map.mp h
  exact ⟨x, hx, e⟩
theorem in_rows {L : List Item} {x : Item} (h : x ∈ L) : x.2 ∈ rows L := List.mem_map.mpr ⟨x, h, rfl⟩
/-! ### reasons -/
def wordS : Word → Str
  | .early => "early"
  | .both => "both"
  | .within => "within"
abbrev Rsn := Word × Int × Int
def Rsn.vs (x : Rsn) : List V := [.str (wordS x.1), .int x.2.1, .int x.2.2]
abbrev RItem := Addr × Rsn
theorem word_eq (w u : Word) : decide (V.str (wordS w) = V.str (wordS u)) = decide (w = u) := by
  cases w <;> cases u <;> decide +kernel
/-- R holds just the reasons of the word -/
def RList (rs : List Row) (w : Word) (R : List RItem) : Prop := ∀ y : Rsn, (∃ x, x ∈ R ∧ x.2 = y) ↔ (y.1 = w ∧ Reason rs y.1 y.2.1 y.2.2)

def spEarly : Sp := fun vs H Q _ => ∃ (a : Addr) (n m : Int) (L : List Item), vs = [.ref a, .int n, .int m] ∧ Hist H a L ∧ WF (rows L) ∧ Reason (rows L) .early n m ∧ RetV (.bl true) H Q
def spShows : Sp := fun vs H Q _ => ∃ (a t : Addr) (x : Rsn) (L : List Item), vs = [.ref a, .ref t] ∧ Hist H a L ∧ WF (rows L) ∧ H t = some (.tup x.vs) ∧ Reason (rows L) x.1 x.2.1 x.2.2 ∧ RetV (.bl true) H Q
section
variable {P : Program} {w : World} {K : PySem.W.Frag} {mg : Str → Option Value} {base : Heap} {H : Hp}
theorem sv_early {a : Addr} {n m : Int} {L : List Item} (hL : Hist H a L) (W : WF (rows L)) (R : Reason (rows L) .early n m) : SpV spEarly [.ref a, .int n, .int m] H (.bl true) := fun H1 e Q q E => ⟨a, n, m, L, rfl, hL.ex e, W, R, q⟩
theorem sv_zones {a : Addr} {L : List Item} {σ : L2.St} {E : XK} {te : TE} (ha : Ev te σ H (.ref a)) (hL : Hist H a L) (hl : L.length ≤ 60) : EvX (tCall spZones [] E (tCons te tNil)) σ H (fun d H' => ∃ Z, ZAt H' d Z ∧ ZOf (rows L) Z) := fun H1 e Q q =>
  ha H1 e _ fun H2 e2 => ⟨a, L, rfl, hL.ex (e.trans e2), hl, fun H' d Z e3 hd hZ zo => q d H' (fresh_back e2 hd) (e2.trans e3) ⟨Z, hZ, zo⟩⟩
theorem ok_early {f : Addr} {fd : FuncData} (F : Fun K "is_early" "is_early" s_is_early f fd) : FnOk P w K mg base CX0 1 f fd ["history", "read", "write"] spEarly := by
  refine F.ok sc_is_early (fun vs H Q E h => ?_) (fun cdv A outer s H vs Q E hr h => ?_)
  · obtain ⟨a, n, m, L, rfl, _⟩ := h
    rfl
  · obtain ⟨a, n, m, L, rfl, hL, W, R, q⟩ := h
    have nd := sc_is_early.nd
    have hu := hu_of hr
    refine ⟨_, pss_cons (ps_setDc (i := 3) (own := [("row", 6)]) (g := gName 6) (tt := tYes) rfl nd rfl rfl (swd_true rfl rfl rfl (by decide +kernel)) (pi_list (pv 0)) (blkOk_by (own := [("row", 6)]) (N := ["history", "read", "write", "rows", "one", "other", "row"]) (sc := defScope s_is_early) (by decide +kernel)) (fun _ _ _ _ _ => pg_name (i := 6) nd rfl (.inl rfl)) (fun _ _ _ _ _ => pts_nil)
        (fun _ _ _ _ _ => pe_col K (pv 6) pe_int) (fun _ _ _ _ _ => pv 6))
      (pss_cons (ps_if (PW.pt (pw_or (pt_cmp (pc_dnotin hu (pv 1) (pv 3))) (pw_or1 (pt_cmp (pc_dnotin hu (pv 2) (pv 3)))))) (pss_one (ps_ret pe_bl)) pss_nil)
      (pss_cons (ps_par (i := 4) (j := 5) rfl nd rfl rfl (by decide) rfl rfl (pa_cons (pe_dget hu (pv 3) (pv 1) (fun _ _ => rfl)) (pa_cons (pe_dget hu (pv 3) (pv 2) (fun _ _ => rfl)) pa_nil)) (by rfl))
      (pss_one (ps_ret (pe_and (pe_cmpR op_eq (pe_ix ix_tup (pv 4) pe_int (fun _ _ => rfl)) pe_str (nomark _)) (pe_and (pe_cmpR op_eq (pe_ix ix_tup (pv 5) pe_int (fun _ _ => rfl)) pe_str (nomark _))
        (pe_and (pe_cmpR op_eq (pe_ix ix_tup (pv 4) pe_int (fun _ _ => rfl)) (pe_ix ix_tup (pv 5) pe_int (fun _ _ => rfl)) (nomark _)) (pe_one (pe_cmpR op_lt (pe_ix ix_tup (pv 4) pe_int (fun _ _ => rfl)) (pe_ix ix_tup (pv 5) pe_int (fun _ _ => rfl)) (nomark _)))))))))), ?_⟩
    obtain ⟨r, u, hr1, hu1, rw1, uw1, ev, lt, en, em⟩ := R
    obtain ⟨x, hx, rfl⟩ := mem_rows hr1
    obtain ⟨y, hy, rfl⟩ := mem_rows hu1
    subst en em
    have hlen := len_rows W
    refine q_asgX (ed_comp (L := L) (rf := iref) (fun _ => true) inum iref (fun z => [some (.ref a), some (.int x.2.num), some (.int y.2.num), none, none, none, some (.ref z.1)]) (ev_var rfl) (sq_of hL.lst) (by omega)
      (by rw [filter_yes]; exact nums_nd W) (fun z _ H1 _ Q q => q) (fun _ _ => rfl) (fun _ _ _ _ => et_yes) (fun z hz _ H1 e1 => ev_num (e1 _ _ (hL.tup z hz))) (fun z hz _ H1 e1 => ev_var rfl)) fun d H1 hd e1 hdk => ?_
    rw [filter_yes] at hdk
    have rd : Rd H1 d (.dK (ents inum iref L)) := .inl hdk
    refine q_when (b := false) (et_is (et_or (et_B (ev_dnotin (ev_var rfl) (ev_var rfl) rd)) (fun _ => et_B (ev_dnotin (ev_var rfl) (ev_var rfl) rd))) ?_) (fun h => nomatch h) (fun _ H2 e2 => ?_)
    · rw [row_at W hx, row_at W hy]
      rfl
    have hrow : H2 x.1 = some (.tup x.2.vs) := (e1.trans e2) _ _ (hL.tup x hx)
    have hrow2 : H2 y.1 = some (.tup y.2.vs) := (e1.trans e2) _ _ (hL.tup y hy)
    refine q_par (ea_cons (ev_dget (ev_var rfl) (ev_var rfl) (ex_rd e2 rd) (row_at W hx)) (ea_cons (ev_dget (ev_var rfl) (ev_var rfl) (ex_rd e2 rd) (row_at W hy)) ea_nil)) fun H3 e3 => ?_
    have h1 := e3 _ _ hrow
    have h2 := e3 _ _ hrow2
    refine s_ret (v := .bl true) (ev_is (ev_andV (ev_op (ev_kind h1) ev_c (rv_eq rfl)) fun _ => ev_andV (ev_op (ev_kind h2) ev_c (rv_eq rfl)) fun _ => ev_andV (ev_op (ev_val h1) (ev_val h2) (rv_eq rfl)) fun _ => ev_op (ev_fin h1) (ev_beg h2) rv_I0) ?_) fun H4 e4 => q H4 (((e1.trans e2).trans e3).trans e4)
    rw [kind_r, kind_w, rw1, uw1, ev, decide_eq_true lt]
    simp
theorem ok_shows {f fE fZ fC : Addr} {fd fdE fdZ fdC : FuncData} (F : Fun K "shows_none" "shows_none" s_shows_none f fd) (T : Blt mg) (FE : Fun K "is_early" "is_early" s_is_early fE fdE) (bE : Binds K fdE ["history", "read", "write"] []) (gE : mg "is_early" = some (.ref fE))
    (FZ : Fun K "zones" "zones" s_zones fZ fdZ) (bZ : Binds K fdZ ["history"] []) (gZ : mg "zones" = some (.ref fZ)) (FC : Fun K "clash" "clash" s_clash fC fdC) (bC : Binds K fdC ["zone", "other"] []) (gC : mg "clash" = some (.ref fC))
    (GC : FnOk P w K mg base CX0 2 fC fdC ["zone", "other"] spClash) : FnOk P w K mg base CX0 3 f fd ["history", "reason"] spShows := by
  have GE : FnOk P w K mg base CX0 1 fE fdE ["history", "read", "write"] spEarly := ok_early FE
  have GZ : FnOk P w K mg base CX0 1 fZ fdZ ["history"] spZones := ok_zones FZ T
  refine F.ok sc_shows_none (fun vs H Q E h => ?_) (fun cdv A outer s H vs Q E hr h => ?_)
  · obtain ⟨a, t, x, L, rfl, _⟩ := h
    rfl
  · obtain ⟨a, t, x, L, rfl, hL, W, ht, R, q⟩ := h
    obtain ⟨u, n, m⟩ := x
    have nd := sc_shows_none.nd
    have hu := hu_of hr
    have hr1 : Room 1 _ := hr.mono (by decide)
    refine ⟨_, pss_cons (ps_asg (pv 1) (pg_tup rfl (pgs_cons (pg_name (i := 2) nd rfl (.inl rfl)) (pgs_cons (pg_name (i := 3) nd rfl (.inl rfl)) (pgs_cons (pg_name (i := 4) nd rfl (.inl rfl)) pgs_nil)))))
      (pss_cons (ps_if (pt_cmpR op_eq (pv 2) pe_str (nomark _)) (pss_one (ps_ret (pe_call GE hr1 (by rfl) gE FE.kp bE .nil pass0 (pa_cons (pv 0) (pa_cons (pv 3) (pa_cons (pv 4) pa_nil)))))) pss_nil)
      (pss_cons (ps_set (i := 5) nd rfl (.inl rfl) (pe_call GZ hr1 (by rfl) gZ FZ.kp bZ .nil pass0 (pa_cons (pv 0) pa_nil)))
      (pss_cons (ps_if (PW.pt (pw_or (pt_cmpR op_notIn_seq (pv 2) (pe_tup (pa_cons pe_str (pa_cons pe_str pa_nil))) (by rfl)) (pw_or (pt_cmpR op_eq (pv 3) (pv 4) (nomark _)) (pw_or (pt_cmp (pc_dnotin hu (pv 3) (pv 5))) (pw_or1 (pt_cmp (pc_dnotin hu (pv 4) (pv 5))))))))
        (pss_one (ps_ret pe_bl)) pss_nil)
      (pss_one (ps_ret (pe_and (pe_cmpR op_eq (pe_call GC hr (by rfl) gC FC.kp bC .nil pass0 (pa_cons (pe_dget hu (pv 5) (pv 3) (fun _ _ => rfl)) (pa_cons (pe_dget hu (pv 5) (pv 4) (fun _ _ => rfl)) pa_nil))) (pv 2) (nomark _))
        (pe_one (pe_or (pe_cmpR op_eq (pv 2) pe_str (nomark _)) (pe_one (pe_cmpR op_lt (pv 3) (pv 4) (nomark _))))))))))), ?_⟩
    refine ⟨_, rfl, t, _, rfl, st_of ht, rfl, _, _, rfl, _, _, rfl, _, _, rfl, rfl, ?_⟩
    have hlen := len_rows W
    refine q_when (b := decide (u = .early)) (et_is (et_test (ev_op (ev_var rfl) ev_c (rv_eq rfl))) (word_eq u .early)) (fun h H1 e1 => ?_) (fun h H1 e1 => ?_)
    · obtain rfl : u = .early := of_decide_eq_true h
      exact s_ret (ev_call (ea_cons (ev_var rfl) (ea_cons (ev_var rfl) (ea_cons (ev_var rfl) ea_nil))) (sv_early (hL.ex e1) W R)) fun H2 e2 => q H2 (e1.trans e2)
    · have ne : u ≠ .early := of_decide_eq_false h
      refine q_asgX (sv_zones (ev_var rfl) (hL.ex e1) hlen) fun d H2 hd e2 ⟨Z, hZ, zo⟩ => ?_
      obtain ⟨fa, la, fb, lb, za, zb, nab, h1, h2, h3, h4⟩ : ∃ fa la fb lb, Zone (rows L) n fa la ∧ Zone (rows L) m fb lb ∧ n ≠ m ∧ fa < lb ∧ fb < la ∧ fa < la ∧ ((u = .both ∧ n < m ∧ fb < lb) ∨ (u = .within ∧ lb ≤ fb)) := by
        cases u with
        | early => exact (ne rfl).elim
        | both =>
          obtain ⟨fa, la, fb, lb, za, zb, c, h1, h2, h3, h4⟩ := R
          exact ⟨fa, la, fb, lb, za, zb, Int.ne_of_lt c, h1, h2, h3, .inl ⟨rfl, c, h4⟩⟩
        | within =>
          obtain ⟨fa, la, fb, lb, za, zb, c, h1, h2, h3, h4⟩ := R
          exact ⟨fa, la, fb, lb, za, zb, c, h1, h2, h3, .inr ⟨rfl, h4⟩⟩
      obtain ⟨qa, qa1, qa2⟩ := zo.all n za.has
      obtain ⟨qb, qb1, qb2⟩ := zo.all m zb.has
      have va : valV (ents zkey zref Z) (Sum.inl n : Key) = some (.ref qa.1) := by
        rw [← qa2]
        exact valV_ents (key := zkey) (val := zref) zo.nd qa1
      have vb : valV (ents zkey zref Z) (Sum.inl m : Key) = some (.ref qb.1) := by
        rw [← qb2]
        exact valV_ents (key := zkey) (val := zref) zo.nd qb1
      have wa := zo.zone qa qa1
      have wb := zo.zone qb qb1
      rw [qa2] at wa
      rw [qb2] at wb
      obtain ⟨ea1, ea2⟩ := za.uniq wa
      obtain ⟨eb1, eb2⟩ := zb.uniq wb
      have rd : Rd H2 d (.dK (ents zkey zref Z)) := .inl hZ.dk
      refine q_when (b := false) (et_is (et_or (et_test (ev_niU (ev_var rfl) (eu_tup (ea_cons ev_c (ea_cons ev_c ea_nil)) (by show 2 ≤ 100000; decide)) rfl rfl)) (fun _ => et_or (et_test (ev_op (ev_var rfl) (ev_var rfl) (rv_eq rfl)))
        (fun _ => et_or (et_B (ev_dnotin (ev_var rfl) (ev_var rfl) rd)) (fun _ => et_B (ev_dnotin (ev_var rfl) (ev_var rfl) rd))))) ?_) (fun h => nomatch h) (fun _ H3 e3 => ?_)
      · have i1 : (!inV (.str (wordS u)) [.str "both", .str "within"]) = false := by
          rcases h4 with ⟨rfl, _⟩ | ⟨rfl, _⟩ <;> decide +kernel
        have i2 : decide (V.int n = V.int m) = false := decide_eq_false fun k => nab (V.int.inj k)
        rw [va, vb]
        show (!inV (.str (wordS u)) [.str "both", .str "within"] || (decide (V.int n = V.int m) || (!true || !true))) = false
        rw [i1, i2]
        rfl
      · have ca : H3 qa.1 = some (.tup qa.2.vs) := e3 _ _ (hZ.tup qa qa1)
        have cb : H3 qb.1 = some (.tup qb.2.vs) := e3 _ _ (hZ.tup qb qb1)
        have cv : clashV qa.2 qb.2 = .str (wordS u) := by
          unfold clashV ahead isOpen
          rw [← ea1, ← ea2, ← eb1, ← eb2, decide_eq_true h1, decide_eq_true h2, decide_eq_true h3]
          rcases h4 with ⟨rfl, _, k⟩ | ⟨rfl, k⟩
          · rw [decide_eq_true k]
            rfl
          · rw [decide_eq_false (by omega : ¬ fb < lb)]
            rfl
        refine s_ret (v := .bl true) (ev_is (ev_andV (ev_op (ev_call (ea_cons (ev_dget (ev_var rfl) (ev_var rfl) (ex_rd e3 rd) va) (ea_cons (ev_dget (ev_var rfl) (ev_var rfl) (ex_rd e3 rd) vb) ea_nil)) (sv_clash ca cb)) (ev_var rfl) (rv_eq (by rw [cv]; rfl)))
          fun _ => ev_orV (ev_op (ev_var rfl) ev_c (rv_eq rfl)) fun _ => ev_op (ev_var rfl) (ev_var rfl) rv_I0) ?_) fun H4 e4 => q H4 (((e1.trans e2).trans e3).trans e4)
        rw [cv]
        rcases h4 with ⟨rfl, k, _⟩ | ⟨rfl, k⟩
        · show V.bl (decide (V.str (wordS .both) = V.str (wordS .both)) && (decide (V.str (wordS .both) = V.str "within") || decide (n < m))) = V.bl true
          rw [decide_eq_true k]
          simp
        · show V.bl (decide (V.str (wordS .within) = V.str (wordS .within)) && (decide (V.str (wordS .within) = V.str "within") || decide (n < m))) = V.bl true
          rw [show decide (V.str (wordS .within) = V.str "within") = true by decide +kernel]
          simp
end
end K49

/-! earlies. -/
namespace K49
open PySem PySem.Spec PyProof.Rows L2 Evl

theorem writes_nd {L : List Item} (W : WF (rows L)) : ((L.filter fun q => q.2.wr).map fun q => q.2.val).Nodup := by
  have h := nums_nd W
  have h : (L.map inum).Pairwise (· ≠ ·) := h
  rw [List.pairwise_map] at h
  show ((L.filter fun q => q.2.wr).map fun q => q.2.val).Pairwise (· ≠ ·)
  rw [List.pairwise_map]
  refine List.Pairwise.imp_of_mem ?_ (h.sublist List.filter_sublist)
  intro x y hx hy ne e
  obtain ⟨hx1, hx2⟩ := List.mem_filter.mp hx
  obtain ⟨hy1, hy2⟩ := List.mem_filter.mp hy
  have := W.wvals x.2 y.2 (in_rows hx1) (in_rows hy1) hx2 hy2 e
  exact ne (by rw [show inum x = x.2.num from rfl, this])
/-- the write of the value of x -/
def wOf (L : List Item) (x : Item) : Item := ((L.filter fun q => q.2.wr).find? fun q => decide (q.2.val = x.2.val)).getD x
theorem wOf_spec {L : List Item} {x : Item} (h : ∃ y, y ∈ L ∧ y.2.wr = true ∧ y.2.val = x.2.val) : wOf L x ∈ L ∧ (wOf L x).2.wr = true ∧ (wOf L x).2.val = x.2.val := by
  unfold wOf
  cases e : (L.filter fun q => q.2.wr).find? fun q => decide (q.2.val = x.2.val) with
  | none =>
    obtain ⟨y, h1, h2, h3⟩ := h
    have := List.find?_eq_none.mp e y (List.mem_filter.mpr ⟨h1, h2⟩)
    exact (this (decide_eq_true h3)).elim
  | some y =>
    obtain ⟨h1, h2⟩ := List.mem_filter.mp (List.mem_of_find?_eq_some e)
    have h3 := List.find?_some e
    exact ⟨h1, h2, of_decide_eq_true h3⟩
def spEarlies : Sp := fun vs H Q _ => ∃ (a : Addr) (L : List Item), vs = [.ref a] ∧ Hist H a L ∧ WF (rows L) ∧
  ∀ (H' : Hp) (p : Addr) (R : List RItem), Ex H H' → H p = none → H' p = some (.lst (refs R)) → Tups Rsn.vs H' R → RList (rows L) .early R → R.length ≤ 60 → Q (.ref p) H'
section
variable {P : Program} {w : World} {K : PySem.W.Frag} {mg : Str → Option Value} {base : Heap} {H : Hp}
theorem ok_earlies {f : Addr} {fd : FuncData} (F : Fun K "earlies" "earlies" s_earlies f fd) : FnOk P w K mg base CX0 1 f fd ["history"] spEarlies := by
  refine F.ok sc_earlies (fun vs H Q E h => ?_) (fun cdv A outer s H vs Q E hr h => ?_)
  · obtain ⟨a, L, rfl, _⟩ := h
    rfl
  · obtain ⟨a, L, rfl, hL, W, q⟩ := h
    have nd := sc_earlies.nd
    have hu := hu_of hr
    have hlen := len_rows W
    refine ⟨_, pss_cons (ps_set (i := 1) nd rfl (.inr rfl) (pe_dc (own := [("row", 3)]) (g := gName 3) rfl nd (pi_list (pv 0)) (blkOk_by (own := [("row", 3)]) (N := ["history", "writes", "reads", "row"]) (sc := defScope s_earlies) (by decide +kernel)) (fun _ _ _ _ _ => pg_name (i := 3) nd rfl (.inl rfl))
        (fun _ _ _ _ _ => pts_one (pt_cmpR op_eq (pe_col K (pv 3) pe_int) pe_str (nomark _))) (fun _ _ _ _ _ => pe_col K (pv 3) pe_int) (fun _ _ _ _ _ => pv 3)))
      (pss_cons (ps_setLc (i := 2) (own := [("row", 3)]) (g := gName 3) rfl nd rfl rfl (sw_true rfl rfl rfl (by decide +kernel)) (pi_list (pv 0)) (blkOk_by (own := [("row", 3)]) (N := ["history", "writes", "reads", "row"]) (sc := defScope s_earlies) (by decide +kernel)) (fun _ _ _ _ _ => pg_name (i := 3) nd rfl (.inl rfl))
        (fun _ _ _ _ _ => pts_one (PW.pt (pw_and (pt_cmpR op_eq (pe_col K (pv 3) pe_int) pe_str (nomark _)) (pw_and1 (pt_cmp (pc_din hu (pe_col K (pv 3) pe_int) (pv 1))))))) (fun _ _ _ _ _ => pv 3))
      (pss_one (ps_ret (pe_lc (own := [("row", 3)]) (g := gName 3) rfl nd (pi_list (pv 2)) (blkOk_by (own := [("row", 3)]) (N := ["history", "writes", "reads", "row"]) (sc := defScope s_earlies) (by decide +kernel)) (fun _ _ _ _ _ => pg_name (i := 3) nd rfl (.inl rfl))
        (fun _ _ _ _ _ => pts_one (pt_cmpR op_lt (pe_col K (pv 3) pe_int) (pe_col K (pe_dget hu (pv 1) (pe_col K (pv 3) pe_int) (fun _ _ => rfl)) pe_int) (nomark _)))
        (fun _ _ _ _ _ => pe_tup (pa_cons pe_str (pa_cons (pe_col K (pv 3) pe_int) (pa_cons (pe_col K (pe_dget hu (pv 1) (pe_col K (pv 3) pe_int) (fun _ _ => rfl)) pe_int) pa_nil)))))))), ?_⟩
    -- writes
    refine q_asgX (ed_comp (L := L) (rf := iref) (fun x => x.2.wr) (fun x => x.2.val) iref (fun z => [some (.ref a), none, none, some (.ref z.1)]) (ev_var rfl) (sq_of hL.lst) (by omega)
      (writes_nd W) (fun z _ H1 _ Q q => q) (fun _ _ => rfl) (fun z hz H1 e1 => et_is (et_test (ev_op (ev_kind (e1 _ _ (hL.tup z hz))) ev_c (rv_eq rfl))) (kind_w _)) (fun z hz _ H1 e1 => ev_val (e1 _ _ (hL.tup z hz))) (fun z hz _ H1 e1 => ev_var rfl)) fun d H1 hd e1 hdk => ?_
    have rd : Rd H1 d (.dK (ents (fun x : Item => x.2.val) iref (L.filter fun x => x.2.wr))) := .inl hdk
    have look : ∀ x : Item, (∃ y, y ∈ L ∧ y.2.wr = true ∧ y.2.val = x.2.val) → valV (ents (fun x : Item => x.2.val) iref (L.filter fun x => x.2.wr)) (Sum.inl x.2.val : Key) = some (.ref (wOf L x).1) := fun x hx => by
      obtain ⟨h1, h2, h3⟩ := wOf_spec hx
      rw [← h3]
      exact valV_ents (key := fun x : Item => x.2.val) (val := iref) (writes_nd W) (List.mem_filter.mpr ⟨h1, h2⟩)
    have look2 : ∀ x : Item, (valV (ents (fun x : Item => x.2.val) iref (L.filter fun x => x.2.wr)) (Sum.inl x.2.val : Key)).isSome = true → ∃ y, y ∈ L ∧ y.2.wr = true ∧ y.2.val = x.2.val := fun x hx => by
      by_cases c : ∃ y, y ∈ L ∧ y.2.wr = true ∧ y.2.val = x.2.val
      · exact c
      · rw [valV_ents_none (key := fun x : Item => x.2.val) (val := iref) (fun y hy e => c ⟨y, (List.mem_filter.mp hy).1, (List.mem_filter.mp hy).2, e⟩)] at hx
        cases hx
    -- reads
    refine q_asgX (evX_L (el_comp (L := L) (rf := iref) (fun x => !x.2.wr && (valV (ents (fun x : Item => x.2.val) iref (L.filter fun x => x.2.wr)) (Sum.inl x.2.val : Key)).isSome) iref (fun z => [some (.ref a), some (.ref d), none, some (.ref z.1)]) (ev_var rfl) (sq_of (e1 _ _ hL.lst)) (by omega)
      (fun z _ H1 _ Q q => q) (fun _ _ => rfl) (fun z hz H2 e2 => et_and (et_is (et_test (ev_op (ev_kind ((e1.trans e2) _ _ (hL.tup z hz))) ev_c (rv_eq rfl))) (kind_r _)) (fun _ => et_B (ev_din (ev_var rfl) (ev_val ((e1.trans e2) _ _ (hL.tup z hz))) (ex_rd e2 rd)))) (fun z hz _ H1 e1 => ev_var rfl))) fun l H2 hl e2 hll => ?_
    -- the reasons
    generalize hL2 : L.filter (fun x => !x.2.wr && (valV (ents (fun x : Item => x.2.val) iref (L.filter fun x => x.2.wr)) (Sum.inl x.2.val : Key)).isSome) = L2 at hll
    have mem2 : ∀ x, x ∈ L2 ↔ x ∈ L ∧ x.2.wr = false ∧ ∃ y, y ∈ L ∧ y.2.wr = true ∧ y.2.val = x.2.val := fun x => by
      rw [← hL2, List.mem_filter, Bool.and_eq_true]
      constructor
      · rintro ⟨h1, h2, h3⟩
        exact ⟨h1, by simpa using h2, look2 x h3⟩
      · rintro ⟨h1, h2, h3⟩
        refine ⟨h1, by simpa using h2, ?_⟩
        rw [look x h3]
        rfl
    have hlen2 : L2.length ≤ L.length := by
      rw [← hL2]
      exact List.length_filter_le _ _
    have rows2 : ∀ x, x ∈ L2 → ∀ H3, Ex H2 H3 → H3 x.1 = some (.tup x.2.vs) := fun x hx H3 e3 => ((e1.trans e2).trans e3) _ _ (hL.tup x ((mem2 x).mp hx).1)
    have rowsw : ∀ x, x ∈ L2 → ∀ H3, Ex H2 H3 → H3 (wOf L x).1 = some (.tup (wOf L x).2.vs) := fun x hx H3 e3 => ((e1.trans e2).trans e3) _ _ (hL.tup _ (wOf_spec ((mem2 x).mp hx).2.2).1)
    refine s_retX (et_comp (L := L2) (rf := iref) (fun x => decide (x.2.fin < (wOf L x).2.beg)) (fun x => [.str "early", .int x.2.num, .int (wOf L x).2.num]) (fun z => [some (.ref a), some (.ref d), some (.ref l), some (.ref z.1)]) (ev_var rfl) (sq_of hll) (by omega)
      (fun z _ H1 _ Q q => q) (fun _ _ => rfl) (fun z hz H3 e3 => et_test (ev_op (ev_fin (rows2 z hz H3 e3)) (ev_op (ev_dget (ev_var rfl) (ev_val (rows2 z hz H3 e3)) (ex_rd (e2.trans e3) rd) (look z ((mem2 z).mp hz).2.2)) ev_c (rv_ixT (st_of (rowsw z hz H3 e3)) rfl)) rv_I0))
      (fun z hz _ H3 e3 => eu_tup (ea_cons ev_c (ea_cons (ev_num (rows2 z hz H3 e3)) (ea_cons (ev_op (ev_dget (ev_var rfl) (ev_val (rows2 z hz H3 e3)) (ex_rd (e2.trans e3) rd) (look z ((mem2 z).mp hz).2.2)) ev_c (rv_ixT (st_of (rowsw z hz H3 e3)) rfl)) ea_nil))) (by show 3 ≤ 100000; decide))) fun p H3 hp e3 ⟨T, h1, h2, h3⟩ => ?_
    refine q H3 p (T.map fun t => (t.1, ((Word.early, t.2.2.num, (wOf L t.2).2.num) : Rsn))) ((e1.trans e2).trans e3) (fresh_back (e1.trans e2) hp) ?_ ?_ ?_ ?_
    · rw [h1]
      unfold refs
      rw [List.map_map]
      rfl
    · intro x hx
      obtain ⟨t, ht, rfl⟩ := List.mem_map.mp hx
      exact h3 t ht
    · have mt : ∀ x, (∃ t, t ∈ T ∧ t.2 = x) ↔ x ∈ L2 ∧ x.2.fin < (wOf L x).2.beg := fun x => by
        have := List.mem_filter (as := L2) (p := fun x => decide (x.2.fin < (wOf L x).2.beg)) (x := x)
        rw [← h2, List.mem_map, decide_eq_true_eq] at this
        exact this
      intro y
      constructor
      · rintro ⟨x, hx, rfl⟩
        obtain ⟨t, ht, rfl⟩ := List.mem_map.mp hx
        obtain ⟨k1, k2⟩ := (mt t.2).mp ⟨t, ht, rfl⟩
        obtain ⟨m1, m2, m3⟩ := (mem2 _).mp k1
        obtain ⟨w1, w2, w3⟩ := wOf_spec m3
        exact ⟨rfl, t.2.2, (wOf L t.2).2, in_rows m1, in_rows w1, m2, w2, w3, k2, rfl, rfl⟩
      · obtain ⟨u, n, m⟩ := y
        rintro ⟨h, R⟩
        obtain rfl : u = .early := h
        obtain ⟨r, v, hr1, hv1, rw1, vw1, ev, lt, en, em⟩ := R
        obtain ⟨x, hx, rfl⟩ := mem_rows hr1
        obtain ⟨z, hz, rfl⟩ := mem_rows hv1
        have hex : ∃ y, y ∈ L ∧ y.2.wr = true ∧ y.2.val = x.2.val := ⟨z, hz, vw1, ev⟩
        obtain ⟨w1, w2, w3⟩ := wOf_spec hex
        have eqw : (wOf L x).2 = z.2 := W.wvals _ _ (in_rows w1) hv1 w2 vw1 (w3.trans ev.symm)
        obtain ⟨t, ht, et⟩ := (mt x).mpr ⟨(mem2 x).mpr ⟨hx, rw1, hex⟩, by rw [eqw]; exact lt⟩
        refine ⟨_, List.mem_map.mpr ⟨t, ht, rfl⟩, ?_⟩
        show (Word.early, t.2.2.num, (wOf L t.2).2.num) = (Word.early, n, m)
        rw [et, eqw, en, em]
    · rw [List.length_map]
      have e := congrArg List.length h2
      rw [List.length_map] at e
      have := List.length_filter_le (fun x => decide (x.2.fin < (wOf L x).2.beg)) L2
      omega
end
end K49

/-! clashes. -/
namespace K49
open PySem PySem.Spec PyProof.Rows L2 Evl

/-! ### pairs of keys -/
section
variable {α : Type} {key : α → Int}
def inner (key : α → Int) (x : α) (L : List α) : List (Int × Int) := (L.filter fun y => decide (key x ≠ key y)).map fun y => (key x, key y)
def outer (key : α → Int) (Z L : List α) : List (Int × Int) := L.flatMap fun x => inner key x Z
theorem mem_outer {Z : List α} {a b : Int} : (a, b) ∈ outer key Z Z ↔ (∃ x, x ∈ Z ∧ key x = a) ∧ (∃ y, y ∈ Z ∧ key y = b) ∧ a ≠ b := by
  unfold outer inner
  rw [List.mem_flatMap]
  constructor
  · rintro ⟨x, hx, h⟩
    obtain ⟨y, hy, e⟩ := List.mem_map.mp h
    obtain ⟨h1, h2⟩ := List.mem_filter.mp hy
    obtain ⟨rfl, rfl⟩ := Prod.mk.inj e
    exact ⟨⟨x, hx, rfl⟩, ⟨y, h1, rfl⟩, of_decide_eq_true h2⟩
  · rintro ⟨⟨x, hx, rfl⟩, ⟨y, hy, rfl⟩, ne⟩
    exact ⟨x, hx, List.mem_map.mpr ⟨y, List.mem_filter.mpr ⟨hy, decide_eq_true ne⟩, rfl⟩⟩
theorem inner_snoc {L : List α} {x y : α} {j : Nat} (h : L[j]? = some y) : inner key x (L.take (j + 1)) = inner key x (L.take j) ++ (if key x ≠ key y then [(key x, key y)] else []) := by
  unfold inner
  rw [take_succ_filter h]
  by_cases c : key x ≠ key y
  · rw [if_pos (decide_eq_true c), if_pos c, List.map_append]
    rfl
  · rw [if_neg (by rw [decide_eq_false c]; decide), if_neg c, List.append_nil]
theorem outer_snoc {Z : List α} {x : α} {i : Nat} (h : Z[i]? = some x) : outer key Z (Z.take (i + 1)) = outer key Z (Z.take i) ++ inner key x Z := by
  unfold outer
  rw [List.take_add_one, h, List.flatMap_append]
  show _ ++ (inner key x Z ++ []) = _
  rw [List.append_nil]
end
def Pr.vs (x : Int × Int) : List V := [.int x.1, .int x.2]
theorem unlock_ex {H H' : Hp} {d : Addr} {u v : HO} (hd : H d = some u) (e : Ex (upd H d v) H') : Ex H (upd H' d u) := fun b o hb => by
  by_cases c : b = d
  · subst c
    rw [hd] at hb
    rw [upd_same]
    exact hb
  · rw [upd_ne c]
    exact e b o (by rw [upd_ne c]; exact hb)
section
variable {K : PySem.W.Frag} {σ : L2.St} {H H' : Hp}
/-- where the pairs stand: i whole turns and j of the next -/
def PairsAt {α : Type} (key : α → Int) (Z : List α) (H1 : Hp) (Dl : Addr) (xs : List (Int × Int)) (n : Nat) (H' : Hp) : Prop :=
  Ex H1 H' ∧ ∃ T : List (Addr × (Int × Int)), H' Dl = some (.lst (refs T)) ∧ Tups Pr.vs H' T ∧ T.map Prod.snd = xs ∧ T.length ≤ n
/-- [(one, other) for one in d for other in d if one != other] over a locked dict of numbers -/
theorem ex_pairs {α : Type} {key : α → Int} {val : α → V} {Z : List α} {d : Addr} {o : Obj} {td td1 : TE} {g g1 : TG} {tt1 : TT} {te : TE} {vs vs1 : List Nat} (hz : Z.length ≤ 100) (sx : α → L2.St) (sy : α → α → L2.St)
    (hH : H d = some (.frz o (.dK (ents key val Z)))) (hd : Ev td σ H (.ref d)) (hg : ∀ x, x ∈ Z → ∀ H1 Q, Q (sx x) H1 → g (.int (key x)) (wipe σ vs) H1 Q) (hw : ∀ x, x ∈ Z → wipe (sx x) vs = wipe σ vs)
    (hd1 : ∀ x, x ∈ Z → Ev td1 (sx x) H (.ref d)) (hg1 : ∀ x y, x ∈ Z → y ∈ Z → ∀ H1 Q, Q (sy x y) H1 → g1 (.int (key y)) (wipe (sx x) vs1) H1 Q) (hw1 : ∀ x y, x ∈ Z → y ∈ Z → wipe (sy x y) vs1 = wipe (sx x) vs1)
    (ht : ∀ x y, x ∈ Z → y ∈ Z → EvT tt1 (sy x y) H (decide (key x ≠ key y))) (he : ∀ x y, x ∈ Z → y ∈ Z → EvU te (sy x y) H [.int (key x), .int (key y)]) :
    EvX (tLc2 (iKeys td) g tYes (iKeys td1) g1 tt1 te vs vs1) σ H (fun p H2 => ∃ T : List (Addr × (Int × Int)), H2 p = some (.lst (refs T)) ∧ Tups Pr.vs H2 T ∧ T.map Prod.snd = outer key Z Z ∧ T.length ≤ 10000) := fun H0 e0 Q q => hd H0 e0 _ fun H1 e1 =>
  ⟨d, o, rfl, .inl ⟨_, (e0.trans e1) _ _ hH, fun Dl hD => by
    have key_at : ∀ i, i < Z.length → ∀ (kv : Key × V), (ents key val Z)[i]? = some kv → ∃ x, Z[i]? = some x ∧ x ∈ Z ∧ kv = (Sum.inl (key x), val x) := by
      intro i hi kv h
      unfold ents at h
      rw [List.getElem?_map] at h
      cases hxi : Z[i]? with
      | none => rw [hxi] at h; cases h
      | some x =>
        rw [hxi] at h
        exact ⟨x, rfl, List.mem_of_getElem? hxi, (Option.some.inj h).symm⟩
    have frz : ∀ {H'}, Ex H1 H' → H' d = some (.frz o (.dK (ents key val Z))) := fun e => ((e0.trans e1).trans e) _ _ hH
    refine ⟨fun i m H' => m + i = Z.length ∧ PairsAt key Z H1 Dl (outer key Z (Z.take i)) (i * Z.length) H', ⟨Z.length, rfl, Ex.new hD, [], upd_same, Tups.nil, rfl, Nat.zero_le _⟩, ?_⟩
    rintro i m H' ⟨hm, e, T, hT, tT, mT, lT⟩
    by_cases hi : i < Z.length
    · refine .inr ⟨⟨frz e, by rw [ents_length]; exact hi⟩, PairsAt key Z H1 Dl (outer key Z (Z.take (i + 1))) ((i + 1) * Z.length), fun H2 p => ⟨m - 1, by omega, by omega, p⟩, ?_⟩
      rintro v H2 ⟨rfl, k, u, hk, rfl⟩
      obtain ⟨x, hx, hxm, ek⟩ := key_at i hi _ hk
      obtain ⟨rfl, rfl⟩ := Prod.mk.inj ek
      refine hg x hxm _ _ ⟨hw x hxm, ?_⟩
      refine et_yes (σ := sx x) (H := H2) H2 (Ex.refl _) _ fun H2b e2b => ?_
      refine iteT ?_
      refine hd1 x hxm _ (((e0.trans e1).trans e).trans e2b) _ fun H3 e3' => ?_
      have e3 : Ex H2 H3 := e2b.trans e3'
      refine ⟨d, o, rfl, .inl ⟨_, frz (e.trans e3), ?_⟩⟩
      refine ⟨fun j k H' => k + j = Z.length ∧ PairsAt key Z H1 Dl (outer key Z (Z.take i) ++ inner key x (Z.take j)) (i * Z.length + j) H', ⟨Z.length, rfl, e.trans e3, T, e3 _ _ hT, tT.ex e3, ?_, by omega⟩, ?_⟩
      · rw [mT]
        show _ = _ ++ inner key x []
        exact (List.append_nil _).symm
      · rintro j k H4 ⟨hk4, e4, T4, hT4, tT4, mT4, lT4⟩
        by_cases hj : j < Z.length
        · refine .inr ⟨⟨frz e4, by rw [ents_length]; exact hj⟩, PairsAt key Z H1 Dl (outer key Z (Z.take i) ++ inner key x (Z.take (j + 1))) (i * Z.length + (j + 1)), fun H2 p => ⟨k - 1, by omega, by omega, p⟩, ?_⟩
          rintro v H5 ⟨rfl, k5, u5, hk5, rfl⟩
          obtain ⟨y, hy, hym, ek5⟩ := key_at j hj _ hk5
          obtain ⟨rfl, rfl⟩ := Prod.mk.inj ek5
          refine hg1 x y hxm hym _ _ ⟨hw1 x y hxm hym, ?_⟩
          refine ht x y hxm hym _ ((e0.trans e1).trans e4) _ fun H6 e6 => ?_
          by_cases c : key x ≠ key y
          · rw [decide_eq_true c]
            refine iteT ?_
            refine he x y hxm hym _ (((e0.trans e1).trans e4).trans e6) _ fun p H7 hp e7 hp7 => ⟨refs T4, e7 _ _ (e6 _ _ hT4), ?_, ?_⟩
            · rw [refs_length]
              have b1 : i * Z.length ≤ 100 * 100 := Nat.mul_le_mul (by omega) hz
              exact sz_lt (by omega)
            · have nd : H1 Dl = none := hD
              have t7 : TEx H7 (upd H7 Dl (.lst (refs T4 ++ [.ref p]))) := TEx.lst (e7 _ _ (e6 _ _ hT4))
              refine ⟨Ex.mut ((e4.trans e6).trans e7) nd, T4 ++ [(p, (key x, key y))], ?_, ?_, ?_, ?_⟩
              · rw [upd_same, refs_append]
                rfl
              · exact (((tT4.ex (e6.trans e7)).tex t7)).app (Tups.cons (t7 _ _ hp7) Tups.nil)
              · rw [List.map_append, mT4, inner_snoc hy, if_pos c, List.append_assoc]
                rfl
              · rw [List.length_append, List.length_singleton]
                omega
          · rw [decide_eq_false c]
            show PairsAt key Z H1 Dl _ _ H6
            refine ⟨e4.trans e6, T4, e6 _ _ hT4, tT4.ex e6, ?_, by omega⟩
            rw [mT4, inner_snoc hy, if_neg c, List.append_nil]
        · have ej : j = Z.length := by omega
          subst ej
          refine .inl ⟨⟨frz e4, by rw [ents_length]; exact Nat.le_refl _⟩, e4, T4, hT4, tT4, ?_, ?_⟩
          · rw [mT4, List.take_length, outer_snoc hx]
          · rw [Nat.succ_mul]
            exact lT4
    · have ei : i = Z.length := by omega
      subst ei
      rw [List.take_length] at mT
      refine .inl ⟨⟨frz e, by rw [ents_length]; exact Nat.le_refl _⟩, q Dl H' (fresh_back e1 hD) (e1.trans e) ⟨T, hT, tT, mT, ?_⟩⟩
      have b1 : Z.length * Z.length ≤ 100 * 100 := Nat.mul_le_mul hz hz
      omega⟩⟩
end
end K49

/-! clashes. -/
namespace K49
open PySem PySem.Spec PyProof.Rows L2 Evl

/-- the zone of a value -/
def zq (Z : List ZItem) (a : Int) : ZItem := (Z.find? fun q => decide (q.2.key = a)).getD (0, ⟨0, 0, 0⟩)
theorem zq_spec {Z : List ZItem} {a : Int} (h : ∃ q, q ∈ Z ∧ q.2.key = a) : zq Z a ∈ Z ∧ (zq Z a).2.key = a := by
  unfold zq
  cases e : Z.find? fun q => decide (q.2.key = a) with
  | none =>
    obtain ⟨y, h1, h2⟩ := h
    have := List.find?_eq_none.mp e y h1
    exact (this (decide_eq_true h2)).elim
  | some y =>
    have h3 := List.find?_some e
    exact ⟨List.mem_of_find?_eq_some e, of_decide_eq_true h3⟩
theorem zq_at {rs : List Row} {Z : List ZItem} (zo : ZOf rs Z) {a : Int} (h : ∃ q, q ∈ Z ∧ q.2.key = a) : valV (ents zkey zref Z) (Sum.inl a : Key) = some (.ref (zq Z a).1) := by
  obtain ⟨h1, h2⟩ := zq_spec h
  have := valV_ents (key := zkey) (val := zref) zo.nd h1
  rw [show zkey (zq Z a) = a from h2] at this
  exact this
theorem scal_clash (z y : Zn) (s : Str) : scal (clashV z y) (.str s) = true := by
  unfold clashV
  split
  · split
    · rfl
    · split
      · rfl
      · rfl
  · rfl
theorem clash_both (z y : Zn) : decide (clashV z y = .str "both") = true ↔ z.f < y.l ∧ y.f < z.l ∧ z.f < z.l ∧ y.f < y.l := by
  rw [decide_eq_true_eq]
  unfold clashV ahead isOpen
  have n1 : ¬ (V.str "within" = V.str "both") := by decide +kernel
  have n2 : ¬ (V.non = V.str "both") := by intro h; cases h
  by_cases h1 : z.f < y.l <;> by_cases h2 : y.f < z.l <;> by_cases h3 : z.f < z.l <;> by_cases h4 : y.f < y.l <;> simp [h1, h2, h3, h4, n1, n2]
theorem clash_within (z y : Zn) : decide (clashV z y = .str "within") = true ↔ z.f < y.l ∧ y.f < z.l ∧ z.f < z.l ∧ y.l ≤ y.f := by
  rw [decide_eq_true_eq]
  unfold clashV ahead isOpen
  have n1 : ¬ (V.str "both" = V.str "within") := by decide +kernel
  have n2 : ¬ (V.non = V.str "within") := by intro h; cases h
  by_cases h1 : z.f < y.l <;> by_cases h2 : y.f < z.l <;> by_cases h3 : z.f < z.l <;> by_cases h4 : y.f < y.l <;> simp [h1, h2, h3, h4, n1, n2] <;> omega
def spClashes : Sp := fun vs H Q _ => ∃ (a : Addr) (L : List Item), vs = [.ref a] ∧ Hist H a L ∧ L.length ≤ 60 ∧
  ∀ (H' : Hp) (p : Addr) (B W : List RItem), Ex H H' → H p = none → H' p = some (.lst (refs (B ++ W))) → Tups Rsn.vs H' (B ++ W) → RList (rows L) .both B → RList (rows L) .within W → (B ++ W).length ≤ 20000 → Q (.ref p) H'
abbrev PItem := Addr × (Int × Int)
section
variable {P : Program} {w : World} {K : PySem.W.Frag} {mg : Str → Option Value} {base : Heap} {H : Hp}
theorem rl_of {rs : List Row} {Z : List ZItem} (zo : ZOf rs Z) {u : Word} {T : List (Addr × PItem)} {c : Int × Int → Bool} (hT : ∀ x : Int × Int, (∃ t, t ∈ T ∧ t.2.2 = x) ↔ ((∃ q, q ∈ Z ∧ q.2.key = x.1) ∧ (∃ q, q ∈ Z ∧ q.2.key = x.2) ∧ x.1 ≠ x.2) ∧ c x = true)
    (hu : ∀ a b, (∃ q, q ∈ Z ∧ q.2.key = a) → (∃ q, q ∈ Z ∧ q.2.key = b) → a ≠ b → (c (a, b) = true ↔ Reason rs u a b)) (hz : ∀ a b, Reason rs u a b → Has rs a ∧ Has rs b ∧ a ≠ b) :
    RList rs u (T.map fun t => (t.1, ((u, t.2.2.1, t.2.2.2) : Rsn))) := by
  intro y
  constructor
  · rintro ⟨x, hx, rfl⟩
    obtain ⟨t, ht, rfl⟩ := List.mem_map.mp hx
    obtain ⟨⟨h1, h2, h3⟩, h4⟩ := (hT t.2.2).mp ⟨t, ht, rfl⟩
    exact ⟨rfl, (hu _ _ h1 h2 h3).mp h4⟩
  · obtain ⟨v, a, b⟩ := y
    rintro ⟨h, R⟩
    obtain rfl : v = u := h
    obtain ⟨k1, k2, k3⟩ := hz a b R
    have k1 := zo.all a k1
    have k2 := zo.all b k2
    obtain ⟨t, ht, e⟩ := (hT (a, b)).mpr ⟨⟨k1, k2, k3⟩, (hu a b k1 k2 k3).mpr R⟩
    exact ⟨_, List.mem_map.mpr ⟨t, ht, rfl⟩, by rw [e]⟩
theorem ok_clashes {f fZ fC : Addr} {fd fdZ fdC : FuncData} (F : Fun K "clashes" "clashes" s_clashes f fd) (T : Blt mg) (FZ : Fun K "zones" "zones" s_zones fZ fdZ) (bZ : Binds K fdZ ["history"] []) (gZ : mg "zones" = some (.ref fZ))
    (FC : Fun K "clash" "clash" s_clash fC fdC) (bC : Binds K fdC ["zone", "other"] []) (gC : mg "clash" = some (.ref fC)) (GC : FnOk P w K mg base CX0 2 fC fdC ["zone", "other"] spClash) : FnOk P w K mg base CX0 3 f fd ["history"] spClashes := by
  have GZ : FnOk P w K mg base CX0 1 fZ fdZ ["history"] spZones := ok_zones FZ T
  refine F.ok sc_clashes (fun vs H Q E h => ?_) (fun cdv A outer s H vs Q E hr h => ?_)
  · obtain ⟨a, L, rfl, _⟩ := h
    rfl
  · obtain ⟨a, L, rfl, hL, hlen, q⟩ := h
    have nd := sc_clashes.nd
    have hu := hu_of hr
    have hr1 : Room 1 _ := hr.mono (by decide)
    refine ⟨_, pss_cons (ps_set (i := 1) nd rfl (.inr rfl) (pe_call GZ hr1 (by rfl) gZ FZ.kp bZ .nil pass0 (pa_cons (pv 0) pa_nil)))
      (pss_cons (ps_lock (ps_setLc2 (i := 2) (own := [("one", 5), ("other", 6)]) (vs1 := [6]) (g := gName 5) (tt := tYes) (wi1 := iKeys (tVar 1)) (g1 := gName 6) rfl nd rfl rfl (sw_true rfl rfl rfl (by decide +kernel)) (pi_keys (pv 1))
        (blkOk_by (own := [("one", 5), ("other", 6)]) (N := ["history", "found", "pairs", "told", "both", "one", "other", "row"]) (sc := defScope s_clashes) (by decide +kernel)) (by decide) (fun _ _ _ _ _ => pg_name (i := 5) nd rfl (.inl rfl)) (fun _ _ _ _ _ => pts_nil)
        (fun _ _ _ _ _ => pi_keys (pv 1)) (fun _ _ _ _ _ => pg_name (i := 6) nd rfl (.inl rfl)) (fun _ _ _ _ _ => pts_one (pt_cmpR op_ne (pv 5) (pv 6) (nomark _))) (fun _ _ _ _ _ => pe_tup (pa_cons (pv 5) (pa_cons (pv 6) pa_nil)))))
      (pss_cons (ps_setLc (i := 3) (own := [("one", 5), ("other", 6)]) (g := gTup K 2 (gCons (gName 5) (gCons (gName 6) gNil))) (tt := tYes) rfl nd rfl rfl (sw_true rfl rfl rfl (by decide +kernel)) (pi_list (pv 2))
        (blkOk_by (own := [("one", 5), ("other", 6)]) (N := ["history", "found", "pairs", "told", "both", "one", "other", "row"]) (sc := defScope s_clashes) (by decide +kernel)) (fun _ _ _ _ _ => pg_tup rfl (pgs_cons (pg_name (i := 5) nd rfl (.inl rfl)) (pgs_cons (pg_name (i := 6) nd rfl (.inl rfl)) pgs_nil))) (fun _ _ _ _ _ => pts_nil)
        (fun _ _ _ _ _ => pe_tup (pa_cons (pe_call GC hr (by rfl) gC FC.kp bC .nil pass0 (pa_cons (pe_dget hu (pv 1) (pv 5) (fun _ _ => rfl)) (pa_cons (pe_dget hu (pv 1) (pv 6) (fun _ _ => rfl)) pa_nil))) (pa_cons (pv 5) (pa_cons (pv 6) pa_nil)))))
      (pss_cons (ps_setLc (i := 4) (own := [("row", 7)]) (g := gName 7) rfl nd rfl rfl (sw_true rfl rfl rfl (by decide +kernel)) (pi_list (pv 3))
        (blkOk_by (own := [("row", 7)]) (N := ["history", "found", "pairs", "told", "both", "one", "other", "row"]) (sc := defScope s_clashes) (by decide +kernel)) (fun _ _ _ _ _ => pg_name (i := 7) nd rfl (.inl rfl))
        (fun _ _ _ _ _ => pts_one (PW.pt (pw_and (pt_cmpR op_eq (pe_col K (pv 7) pe_int) pe_str (nomark _)) (pw_and1 (pt_cmpR op_lt (pe_col K (pv 7) pe_int) (pe_col K (pv 7) pe_int) (nomark _)))))) (fun _ _ _ _ _ => pv 7))
      (pss_one (ps_ret (pe_op op_cat (pv 4) (pe_lc (own := [("row", 7)]) (g := gName 7) rfl nd (pi_list (pv 3))
        (blkOk_by (own := [("row", 7)]) (N := ["history", "found", "pairs", "told", "both", "one", "other", "row"]) (sc := defScope s_clashes) (by decide +kernel)) (fun _ _ _ _ _ => pg_name (i := 7) nd rfl (.inl rfl))
        (fun _ _ _ _ _ => pts_one (pt_cmpR op_eq (pe_col K (pv 7) pe_int) pe_str (nomark _))) (fun _ _ _ _ _ => pv 7)))))))), ?_⟩
    -- found
    refine q_asgX (sv_zones (ev_var rfl) hL hlen) fun d H1 hd e1 ⟨Z, hZ, zo⟩ => ?_
    have lenZ : Z.length ≤ 61 := by
      have := zo.len
      rw [List.length_map] at this
      omega
    -- pairs
    refine ⟨d, .dK (ents zkey zref Z), hZ.dk, trivial, fun od => ?_⟩
    refine s_asgX (ex_pairs (key := zkey) (val := zref) (Z := Z) (d := d) (o := od) (H := upd H1 d (.frz od (.dK (ents zkey zref Z)))) (by omega) (fun x => [some (.ref a), some (.ref d), none, none, none, some (.int x.2.key), none, none])
      (fun x y => [some (.ref a), some (.ref d), none, none, none, some (.int x.2.key), some (.int y.2.key), none]) upd_same (ev_var rfl) (fun x _ _ Q q => q) (fun _ _ => rfl) (fun _ _ => ev_var rfl) (fun x y _ _ _ Q q => q) (fun _ _ _ _ => rfl)
      (fun x y _ _ => et_is (et_test (ev_op (ev_var rfl) (ev_var rfl) (rv_ne rfl))) ?_) (fun x y _ _ => eu_tup (ea_cons (ev_var rfl) (ea_cons (ev_var rfl) ea_nil)) (by show 2 ≤ 100000; decide))) fun p H2 hp e2 ⟨T1, hp1, tp1, mp1, lp1⟩ => ?_
    · by_cases c : x.2.key = y.2.key
      · simp [c, zkey]
      · have : ¬ V.int x.2.key = V.int y.2.key := fun k => c (V.int.inj k)
        simp [c, zkey, this]
    refine ⟨e2 _ _ upd_same, ?_⟩
    have e12 : Ex H1 (upd H2 d (.dK (ents zkey zref Z))) := unlock_ex hZ.dk e2
    have ndp : p ≠ d := fun k => by
      rw [k, upd_same] at hp
      cases hp
    have hp2 : (upd H2 d (.dK (ents zkey zref Z))) p = some (.lst (refs T1)) := by
      rw [upd_ne ndp]
      exact hp1
    have tp2 : Tups Pr.vs (upd H2 d (.dK (ents zkey zref Z))) T1 := fun x hx => by
      have hx := tp1 x hx
      rw [upd_ne (ne_of hx (e2 _ _ upd_same) (fun z => by cases z))]
      exact hx
    generalize upd H2 d (.dK (ents zkey zref Z)) = H3 at e12 hp2 tp2
    have hZ3 : ZAt H3 d Z := hZ.ex e12
    have rd : Rd H3 d (.dK (ents zkey zref Z)) := .inl hZ3.dk
    have m1 : ∀ x : Int × Int, (∃ t, t ∈ T1 ∧ t.2 = x) ↔ (∃ q, q ∈ Z ∧ q.2.key = x.1) ∧ (∃ q, q ∈ Z ∧ q.2.key = x.2) ∧ x.1 ≠ x.2 := fun x => by
      rw [← mem_outer (key := zkey) (Z := Z), ← mp1, List.mem_map]
    have m1' : ∀ t, t ∈ T1 → (∃ q, q ∈ Z ∧ q.2.key = t.2.1) ∧ (∃ q, q ∈ Z ∧ q.2.key = t.2.2) ∧ t.2.1 ≠ t.2.2 := fun t ht => (m1 t.2).mp ⟨t, ht, rfl⟩
    -- told
    refine q_asgX (et_comp (L := T1) (rf := fun t => .ref t.1) (fun _ => true) (fun t : PItem => [clashV (zq Z t.2.1).2 (zq Z t.2.2).2, .int t.2.1, .int t.2.2]) (fun t => [some (.ref a), some (.ref d), some (.ref p), none, none, some (.int t.2.1), some (.int t.2.2), none])
      (ev_var rfl) (sq_of hp2) (by omega) (fun t ht H4 e4 Q q => ⟨t.1, _, rfl, st_of (e4 _ _ (tp2 t ht)), rfl, _, _, rfl, _, _, rfl, rfl, q⟩) (fun _ _ => rfl) (fun _ _ _ _ => et_yes)
      (fun t ht _ H4 e4 => eu_tup (ea_cons (ev_call (ea_cons (ev_dget (ev_var rfl) (ev_var rfl) (ex_rd e4 rd) (zq_at zo (m1' t ht).1)) (ea_cons (ev_dget (ev_var rfl) (ev_var rfl) (ex_rd e4 rd) (zq_at zo (m1' t ht).2.1)) ea_nil))
        (sv_clash (e4 _ _ (hZ3.tup _ (zq_spec (m1' t ht).1).1)) (e4 _ _ (hZ3.tup _ (zq_spec (m1' t ht).2.1).1)))) (ea_cons (ev_var rfl) (ea_cons (ev_var rfl) ea_nil))) (by show 3 ≤ 100000; decide))) fun l H4 hl e4 ⟨T2, hl1, ml1, tl1⟩ => ?_
    rw [filter_yes] at ml1
    have lenT2 : T2.length = T1.length := by
      have e := congrArg List.length ml1
      rw [List.length_map] at e
      exact e
    have m2 : ∀ t, t ∈ T2 → t.2 ∈ T1 := fun t ht => by
      rw [← ml1]
      exact List.mem_map.mpr ⟨t, ht, rfl⟩
    have m3 : ∀ x : Int × Int, (∃ t, t ∈ T2 ∧ t.2.2 = x) ↔ (∃ q, q ∈ Z ∧ q.2.key = x.1) ∧ (∃ q, q ∈ Z ∧ q.2.key = x.2) ∧ x.1 ≠ x.2 := fun x => by
      rw [← m1]
      constructor
      · rintro ⟨t, ht, e⟩
        exact ⟨t.2, m2 t ht, e⟩
      · rintro ⟨t, ht, e⟩
        rw [← ml1] at ht
        obtain ⟨u, hu, rfl⟩ := List.mem_map.mp ht
        exact ⟨u, hu, e⟩
    -- both
    have col0 : ∀ {σ : L2.St} {i : Nat} {t : Addr × PItem} {H5 : Hp}, t ∈ T2 → Ex H4 H5 → σ[i]? = some (some (.ref t.1)) → Ev (tOp (rIxT K) (tVar i) (tC (.int 0))) σ H5 (clashV (zq Z t.2.2.1).2 (zq Z t.2.2.2).2) := fun ht e hs => ev_op (ev_var hs) ev_c (rv_ixT (st_of (e _ _ (tl1 _ ht))) rfl)
    have col1 : ∀ {σ : L2.St} {i : Nat} {t : Addr × PItem} {H5 : Hp}, t ∈ T2 → Ex H4 H5 → σ[i]? = some (some (.ref t.1)) → Ev (tOp (rIxT K) (tVar i) (tC (.int 1))) σ H5 (.int t.2.2.1) := fun ht e hs => ev_op (ev_var hs) ev_c (rv_ixT (st_of (e _ _ (tl1 _ ht))) rfl)
    have col2 : ∀ {σ : L2.St} {i : Nat} {t : Addr × PItem} {H5 : Hp}, t ∈ T2 → Ex H4 H5 → σ[i]? = some (some (.ref t.1)) → Ev (tOp (rIxT K) (tVar i) (tC (.int 2))) σ H5 (.int t.2.2.2) := fun ht e hs => ev_op (ev_var hs) ev_c (rv_ixT (st_of (e _ _ (tl1 _ ht))) rfl)
    refine q_asgX (evX_L (el_comp (L := T2) (rf := fun t => .ref t.1) (fun t => decide (clashV (zq Z t.2.2.1).2 (zq Z t.2.2.2).2 = .str "both") && decide (t.2.2.1 < t.2.2.2)) (fun t => .ref t.1) (fun t => [some (.ref a), some (.ref d), some (.ref p), some (.ref l), none, none, none, some (.ref t.1)])
      (ev_var rfl) (sq_of hl1) (by omega) (fun t _ H1 _ Q q => q) (fun _ _ => rfl) (fun t ht H5 e5 => et_and (et_test (ev_op (col0 ht e5 rfl) ev_c (rv_eq (scal_clash _ _ _)))) (fun _ => et_test (ev_op (col1 ht e5 rfl) (col2 ht e5 rfl) rv_I0))) (fun t _ _ H5 e5 => ev_var rfl))) fun b H5 hb e5 hb1 => ?_
    -- the end
    refine s_retX (R := fun p H' => H' p = some (.lst (refs (T2.filter fun t => decide (clashV (zq Z t.2.2.1).2 (zq Z t.2.2.2).2 = .str "both") && decide (t.2.2.1 < t.2.2.2)) ++ refs (T2.filter fun t => decide (clashV (zq Z t.2.2.1).2 (zq Z t.2.2.2).2 = .str "within"))))) ?_ fun r H6 hr6 e6 hr1 => ?_
    · intro H6 e6 Q6 q6
      refine ⟨_, rfl, ?_⟩
      refine el_comp (L := T2) (rf := fun t => .ref t.1) (H := H5) (fun t => decide (clashV (zq Z t.2.2.1).2 (zq Z t.2.2.2).2 = .str "within")) (fun t => .ref t.1) (fun t => [some (.ref a), some (.ref d), some (.ref p), some (.ref l), some (.ref b), none, none, some (.ref t.1)])
        (ev_var rfl) (sq_of (e5 _ _ hl1)) (by omega) (fun t _ H1 _ Q q => q) (fun _ _ => rfl) (fun t ht H5 e5' => et_test (ev_op (col0 ht (e5.trans e5') rfl) ev_c (rv_eq (scal_clash _ _ _)))) (fun t _ _ H5 e5 => ev_var rfl) H6 e6 _ fun c H7 hc e7 hc1 => ?_
      refine ⟨b, c, _, _, rfl, rfl, e7 _ _ (e6 _ _ hb1), hc1, ?_, fun r hr => q6 r _ (fresh_back e7 hr) (e7.trans (Ex.new hr)) upd_same⟩
      rw [List.length_map, List.length_map]
      have l1 := List.length_filter_le (fun t => decide (clashV (zq Z t.2.2.1).2 (zq Z t.2.2.2).2 = .str "both") && decide (t.2.2.1 < t.2.2.2)) T2
      have l2 := List.length_filter_le (fun t => decide (clashV (zq Z t.2.2.1).2 (zq Z t.2.2.2).2 = .str "within")) T2
      exact sz_of (by omega)
    · have e56 := e5.trans e6
      have eH := ((e1.trans e12).trans e4).trans e56
      refine q H6 r ((T2.filter fun t => decide (clashV (zq Z t.2.2.1).2 (zq Z t.2.2.2).2 = .str "both") && decide (t.2.2.1 < t.2.2.2)).map fun t => (t.1, ((Word.both, t.2.2.1, t.2.2.2) : Rsn)))
        ((T2.filter fun t => decide (clashV (zq Z t.2.2.1).2 (zq Z t.2.2.2).2 = .str "within")).map fun t => (t.1, ((Word.within, t.2.2.1, t.2.2.2) : Rsn))) eH (fresh_back (((e1.trans e12).trans e4).trans e5) hr6) ?_ ?_ ?_ ?_ ?_
      · rw [hr1, refs_append]
        unfold refs
        rw [List.map_map, List.map_map]
        rfl
      · refine Tups.app (fun x hx => ?_) (fun x hx => ?_)
        · obtain ⟨t, ht, rfl⟩ := List.mem_map.mp hx
          obtain ⟨ht1, ht2⟩ := List.mem_filter.mp ht
          rw [Bool.and_eq_true, decide_eq_true_eq] at ht2
          have : H6 t.1 = some (.tup [clashV (zq Z t.2.2.1).2 (zq Z t.2.2.2).2, .int t.2.2.1, .int t.2.2.2]) := e56 _ _ (tl1 t ht1)
          rw [ht2.1] at this
          exact this
        · obtain ⟨t, ht, rfl⟩ := List.mem_map.mp hx
          obtain ⟨ht1, ht2⟩ := List.mem_filter.mp ht
          rw [decide_eq_true_eq] at ht2
          have : H6 t.1 = some (.tup [clashV (zq Z t.2.2.1).2 (zq Z t.2.2.2).2, .int t.2.2.1, .int t.2.2.2]) := e56 _ _ (tl1 t ht1)
          rw [ht2] at this
          exact this
      · refine rl_of zo (c := fun x => decide (clashV (zq Z x.1).2 (zq Z x.2).2 = .str "both") && decide (x.1 < x.2)) (fun x => ?_) (fun n m hn hm ne => ?_) fun n m R => ?_
        · rw [← m3]
          constructor
          · rintro ⟨t, ht, rfl⟩
            obtain ⟨h1, h2⟩ := List.mem_filter.mp ht
            exact ⟨⟨t, h1, rfl⟩, h2⟩
          · rintro ⟨⟨t, ht, rfl⟩, h2⟩
            exact ⟨t, List.mem_filter.mpr ⟨ht, h2⟩, rfl⟩
        · obtain ⟨n1, n2⟩ := zq_spec hn
          obtain ⟨k1, k2⟩ := zq_spec hm
          have zn := zo.zone _ n1
          have zm := zo.zone _ k1
          rw [n2] at zn
          rw [k2] at zm
          show (decide (clashV (zq Z n).2 (zq Z m).2 = .str "both") && decide (n < m)) = true ↔ _
          rw [Bool.and_eq_true, clash_both, decide_eq_true_eq]
          constructor
          · rintro ⟨⟨c1, c2, c3, c4⟩, c5⟩
            exact ⟨_, _, _, _, zn, zm, c5, c1, c2, c3, c4⟩
          · rintro ⟨fa, la, fb, lb, za, zb, c5, c1, c2, c3, c4⟩
            obtain ⟨rfl, rfl⟩ := za.uniq zn
            obtain ⟨rfl, rfl⟩ := zb.uniq zm
            exact ⟨⟨c1, c2, c3, c4⟩, c5⟩
        · obtain ⟨fa, la, fb, lb, za, zb, c5, _⟩ := R
          exact ⟨za.has, zb.has, Int.ne_of_lt c5⟩
      · refine rl_of zo (c := fun x => decide (clashV (zq Z x.1).2 (zq Z x.2).2 = .str "within")) (fun x => ?_) (fun n m hn hm ne => ?_) fun n m R => ?_
        · rw [← m3]
          constructor
          · rintro ⟨t, ht, rfl⟩
            obtain ⟨h1, h2⟩ := List.mem_filter.mp ht
            exact ⟨⟨t, h1, rfl⟩, h2⟩
          · rintro ⟨⟨t, ht, rfl⟩, h2⟩
            exact ⟨t, List.mem_filter.mpr ⟨ht, h2⟩, rfl⟩
        · obtain ⟨n1, n2⟩ := zq_spec hn
          obtain ⟨k1, k2⟩ := zq_spec hm
          have zn := zo.zone _ n1
          have zm := zo.zone _ k1
          rw [n2] at zn
          rw [k2] at zm
          rw [clash_within]
          constructor
          · rintro ⟨c1, c2, c3, c4⟩
            exact ⟨_, _, _, _, zn, zm, ne, c1, c2, c3, c4⟩
          · rintro ⟨fa, la, fb, lb, za, zb, c5, c1, c2, c3, c4⟩
            obtain ⟨rfl, rfl⟩ := za.uniq zn
            obtain ⟨rfl, rfl⟩ := zb.uniq zm
            exact ⟨c1, c2, c3, c4⟩
        · obtain ⟨fa, la, fb, lb, za, zb, c5, _⟩ := R
          exact ⟨za.has, zb.has, c5⟩
      · rw [List.length_append, List.length_map, List.length_map]
        have l1 := List.length_filter_le (fun t => decide (clashV (zq Z t.2.2.1).2 (zq Z t.2.2.2).2 = .str "both") && decide (t.2.2.1 < t.2.2.2)) T2
        have l2 := List.length_filter_le (fun t => decide (clashV (zq Z t.2.2.1).2 (zq Z t.2.2.2).2 = .str "within")) T2
        omega
end
end K49

/-! data compared with []; next_value. -/
namespace K49
open PySem PySem.Spec PyProof.Rows L2 Evl

/-! ### things as data -/
section
variable {K : PySem.W.Frag} {H H' : Hp} {σ : L2.St}
theorem dp_ints : ∀ ns : List Int, DpAll K H (ns.map V.int) (ns.map PyData.int)
  | [] => .nil
  | n :: ns => .cons (.int n) (dp_ints ns)
theorem lay_ints : ∀ ns : List Int, PyData.canLayAll0 (ns.map PyData.int) = true
  | [] => by simp [PyData.canLayAll0]
  | n :: ns => by simp [PyData.canLayAll0, PyData.canLay0, lay_ints ns]
theorem dep_ints : ∀ ns : List Int, PyData.depthAll (ns.map PyData.int) = 0
  | [] => by simp [PyData.depthAll]
  | n :: ns => by simp [PyData.depthAll, PyData.depth, dep_ints ns]
theorem shaped_list {ds : List PyData} {k : Nat} (h : PyData.canLayAll0 ds = true) (hd : PyData.depthAll ds ≤ k) (hk : k ≤ 60) : SeqAt.shaped (.list ds) = true := by
  show (PyData.canLay0 (.list ds) && decide (PyData.depth (.list ds) ≤ 64)) = true
  rw [Bool.and_eq_true]
  refine ⟨by simp only [PyData.canLay0]; exact h, decide_eq_true ?_⟩
  simp only [PyData.depth]
  omega
theorem shaped_ints (ns : List Int) : SeqAt.shaped (.list (ns.map PyData.int)) = true := shaped_list (k := 0) (lay_ints ns) (Nat.le_of_eq (dep_ints ns)) (by decide)
/-- flat things of fixed kinds -/
structure Flat {α : Type} (fld : α → List V) (enc : α → List PyData) : Prop where
  dp : ∀ K H x, DpAll K H (fld x) (enc x)
  lay : ∀ x, PyData.canLayAll0 (enc x) = true
  dep : ∀ x, PyData.depthAll (enc x) = 0
def encs {α : Type} (enc : α → List PyData) (T : List (Addr × α)) : List PyData := T.map fun q => PyData.tuple (enc q.2)
theorem dp_tups {α : Type} {fld : α → List V} {enc : α → List PyData} (F : Flat fld enc) : ∀ {T : List (Addr × α)}, Tups fld H T → DpAll K H (refs T) (encs enc T)
  | [], _ => .nil
  | q :: T, h => .cons (.tup (SqT.of (h q (by simp))) (F.dp K H q.2)) (dp_tups F fun x hx => h x (List.mem_cons_of_mem _ hx))
theorem lay_tups {α : Type} {fld : α → List V} {enc : α → List PyData} (F : Flat fld enc) : ∀ (T : List (Addr × α)), PyData.canLayAll0 (encs enc T) = true
  | [] => by simp [encs, PyData.canLayAll0]
  | q :: T => by
    have := lay_tups F T
    unfold encs at this ⊢
    simp [PyData.canLayAll0, PyData.canLay0, F.lay, this]
theorem dep_tups {α : Type} {fld : α → List V} {enc : α → List PyData} (F : Flat fld enc) : ∀ (T : List (Addr × α)), PyData.depthAll (encs enc T) ≤ 1
  | [] => by simp [encs, PyData.depthAll]
  | q :: T => by
    have := dep_tups F T
    unfold encs at this ⊢
    simp only [List.map_cons, PyData.depthAll, PyData.depth, F.dep]
    omega
theorem shaped_tups {α : Type} {fld : α → List V} {enc : α → List PyData} (F : Flat fld enc) (T : List (Addr × α)) : SeqAt.shaped (.list (encs enc T)) = true := shaped_list (lay_tups F T) (dep_tups F T) (by decide)
theorem dp_list {α : Type} {fld : α → List V} {enc : α → List PyData} (F : Flat fld enc) {a : Addr} {T : List (Addr × α)} (h : H a = some (.lst (refs T))) (t : Tups fld H T) : Dp K H (.ref a) (.list (encs enc T)) := .lst (SqL.of h) (dp_tups F t)
theorem ok_word (u : Word) : PyData.strOk (wordS u) = true := by cases u <;> decide +kernel
theorem ok_kind (b : Bool) : PyData.strOk (kindS b) = true := by cases b <;> decide +kernel
def rsnD (x : Rsn) : List PyData := [.str (wordS x.1), .int x.2.1, .int x.2.2]
theorem flat_rsn : Flat Rsn.vs rsnD := ⟨fun _ _ x => .cons (.str _) (.cons (.int _) (.cons (.int _) .nil)), fun x => by simp [rsnD, PyData.canLayAll0, PyData.canLay0, ok_word], fun x => by simp [rsnD, PyData.depthAll, PyData.depth]⟩
def rowD (r : Row) : List PyData := [.int r.num, .str (kindS r.wr), .int r.val, .int r.beg, .int r.fin]
theorem flat_row : Flat Row.vs rowD := ⟨fun _ _ x => .cons (.int _) (.cons (.str _) (.cons (.int _) (.cons (.int _) (.cons (.int _) .nil)))), fun x => by simp [rowD, PyData.canLayAll0, PyData.canLay0, ok_kind], fun x => by simp [rowD, PyData.depthAll, PyData.depth]⟩
theorem eqv_nil (ds : List PyData) : PyData.eqv (.list ds) (.list []) = ds.isEmpty := by
  cases ds <;> simp [PyData.eqv, PyData.eqvAll]
/-- xs != [] -/
theorem et_neNil {ta : TE} {a : Addr} {ds : List PyData} (ha : Ev ta σ H (.ref a)) (hd : ∀ H1, Ex H H1 → Dp K H1 (.ref a) (.list ds)) (hs : SeqAt.shaped (.list ds) = true) : EvT (tTest (tOp (rNeD K) ta (tLst tNil))) σ H (!ds.isEmpty) :=
  et_test (ev_opL (xs := []) ha (el_lst ea_nil (by show 0 ≤ 100000; decide)) fun p H1 hp e => fun H2 e2 Q q => ⟨.list ds, .list [], hd H2 (e.trans e2), .lst (SqL.of (e2 _ _ hp)) .nil, hs, rfl, by rw [eqv_nil]; exact q H2 (Ex.refl _)⟩)
theorem et_eqNil {ta : TE} {a : Addr} {ds : List PyData} (ha : Ev ta σ H (.ref a)) (hd : ∀ H1, Ex H H1 → Dp K H1 (.ref a) (.list ds)) (hs : SeqAt.shaped (.list ds) = true) : EvT (tTest (tOp (rEqD K) ta (tLst tNil))) σ H ds.isEmpty :=
  et_test (ev_opL (xs := []) ha (el_lst ea_nil (by show 0 ≤ 100000; decide)) fun p H1 hp e => fun H2 e2 Q q => ⟨.list ds, .list [], hd H2 (e.trans e2), .lst (SqL.of (e2 _ _ hp)) .nil, hs, rfl, by rw [eqv_nil]; exact q H2 (Ex.refl _)⟩)
theorem encs_empty {α : Type} {enc : α → List PyData} (T : List (Addr × α)) : (encs enc T).isEmpty = T.isEmpty := by cases T <;> rfl
theorem ev_any {te : TE} {bs : List Bool} (h : EvL te σ H (bs.map V.bl)) : Ev (tCB (rAny K) (tCons te tNil)) σ H (.bl (bs.any id)) := fun H1 e Q q =>
  h H1 e _ fun p H2 hp e2 hl => ⟨p, bs, rfl, SqL.of hl, q H2 e2⟩
end

def spNext : Sp := fun vs H Q _ => ∃ (d l : Addr) (rs : List Row) (Z : List ZItem) (ns : List Int), vs = [.ref d, .ref l] ∧ ZAt H d Z ∧ ZOf rs Z ∧ H l = some (.lst (ns.map V.int)) ∧ (∀ v, v ∈ ns → ∃ q, q ∈ Z ∧ q.2.key = v) ∧ ns.length ≤ 100 ∧ (∃ v, v ∈ ns ∧ First rs ns v) ∧
  ∀ (v : Int) (H' : Hp), v ∈ ns → First rs ns v → Ex H H' → Q (.int v) H'
section
variable {P : Program} {w : World} {K : PySem.W.Frag} {mg : Str → Option Value} {base : Heap} {H : Hp}
theorem ok_next {f fA : Addr} {fd fdA : FuncData} (F : Fun K "next_value" "next_value" s_next_value f fd) (T : Blt mg) (FA : Fun K "goes_ahead" "goes_ahead" s_goes_ahead fA fdA) (bA : Binds K fdA ["zone", "other"] []) (gA : mg "goes_ahead" = some (.ref fA)) :
    FnOk P w K mg base CX0 2 f fd ["found", "left"] spNext := by
  have GA : FnOk P w K mg base CX0 1 fA fdA ["zone", "other"] spAhead := ok_ahead FA
  refine F.ok sc_next_value (fun vs H Q E h => ?_) (fun cdv A outer s H vs Q E hr h => ?_)
  · obtain ⟨d, l, rs, Z, ns, rfl, _⟩ := h
    rfl
  · obtain ⟨d, l, rs, Z, ns, rfl, hZ, zo, hl, hk, hlen, hex, q⟩ := h
    have nd := sc_next_value.nd
    have hu := hu_of hr
    refine ⟨_, pss_cons (ps_for PassesOwn.never rfl (pi_list (pv 1)) (pg_name (i := 2) nd rfl (.inr rfl))
        (pss_one (ps_if (pt_not (pt_val (pe_callB (cr_any rfl) (by rfl) T.an (by decide +kernel) (pa_cons (pe_lc (own := [("other", 3)]) (g := gName 3) rfl nd (pi_list (pv 1))
            (blkOk_by (own := [("other", 3)]) (N := ["found", "left", "value", "other"]) (sc := defScope s_next_value) (by decide +kernel)) (fun _ _ _ _ _ => pg_name (i := 3) nd rfl (.inl rfl)) (fun _ _ _ _ _ => pts_one (pt_cmpR op_ne (pv 3) (pv 2) (nomark _)))
            (fun _ _ _ _ _ => pe_call GA hr (by rfl) gA FA.kp bA .nil pass0 (pa_cons (pe_dget hu (pv 0) (pv 3) (fun _ _ => rfl)) (pa_cons (pe_dget hu (pv 0) (pv 2) (fun _ _ => rfl)) pa_nil)))) pa_nil))))
          (pss_one (ps_ret (pv 2))) pss_nil)))
      (pss_one (ps_ret (pe_ix ix_list (pv 1) pe_int (fun _ _ => rfl)))), ?_⟩
    refine ⟨_, rfl, l, rfl, ⟨_, sq_of hl⟩, for_list (K := K) (a := l) (xs := ns.map V.int) (fun i σ H' => ∃ j2, σ = [some (.ref d), some (.ref l), j2, none] ∧ Ex H H' ∧ ∀ k v, k < i → ns[k]? = some v → ¬ First rs ns v) ?_ ?_ ?_ ?_⟩
    · exact ⟨none, rfl, Ex.refl _, fun k v hk => absurd hk (Nat.not_lt_zero _)⟩
    · rintro i σ H' _ ⟨j2, rfl, e, _⟩
      exact sq_of (e _ _ hl)
    · rintro i y σ H' hi ⟨j2, rfl, e, no⟩
      rw [List.getElem?_map] at hi
      cases hxi : ns[i]? with
      | none => rw [hxi] at hi; cases hi
      | some v =>
        rw [hxi] at hi
        obtain rfl : V.int v = y := Option.some.inj hi
        have hv : v ∈ ns := List.mem_of_getElem? hxi
        have rd : Rd H' d (.dK (ents zkey zref Z)) := .inl (hZ.ex e).dk
        have key : (((ns.filter fun o => !decide (V.int o = V.int v)).map fun o => ahead (zq Z o).2 (zq Z v).2).any id) = true ↔ ¬ First rs ns v := by
          rw [List.any_map, List.any_eq_true]
          constructor
          · rintro ⟨o, ho, ha⟩ fst
            obtain ⟨h1, h2⟩ := List.mem_filter.mp ho
            have ne : o ≠ v := fun k => by simp [k] at h2
            obtain ⟨o1, o2⟩ := zq_spec (hk o h1)
            obtain ⟨v1, v2⟩ := zq_spec (hk v hv)
            have zo1 := zo.zone _ o1
            have zv1 := zo.zone _ v1
            rw [o2] at zo1
            rw [v2] at zv1
            have le := fst o h1 ne _ _ _ _ zo1 zv1
            have lt : (zq Z o).2.f < (zq Z v).2.l := of_decide_eq_true ha
            omega
          · intro nf
            apply Classical.byContradiction
            intro none
            apply nf
            intro o ho ne fo lo fv lv zo2 zv2
            obtain ⟨o1, o2⟩ := zq_spec (hk o ho)
            obtain ⟨v1, v2⟩ := zq_spec (hk v hv)
            have zo1 := zo.zone _ o1
            have zv1 := zo.zone _ v1
            rw [o2] at zo1
            rw [v2] at zv1
            obtain ⟨rfl, rfl⟩ := zo2.uniq zo1
            obtain ⟨rfl, rfl⟩ := zv2.uniq zv1
            by_cases c : (zq Z v).2.l ≤ (zq Z o).2.f
            · exact c
            · exact (none ⟨o, List.mem_filter.mpr ⟨ho, by simp [ne]⟩, decide_eq_true (by omega)⟩).elim
        refine s_when (et_not (et_B (ev_any (K := K) (bs := (ns.filter fun o => !decide (V.int o = V.int v)).map fun o => ahead (zq Z o).2 (zq Z v).2) ?_))) (fun h H2 e2 => ?_) (fun h H2 e2 => ?_)
        · rw [List.map_map]
          exact el_comp (L := ns) (rf := V.int) (fun o => !decide (V.int o = V.int v)) (fun o => .bl (ahead (zq Z o).2 (zq Z v).2)) (fun o => [some (.ref d), some (.ref l), some (.int v), some (.int o)]) (ev_var rfl) (sq_of (e _ _ hl)) (by omega)
            (fun t _ H1 _ Q q => q) (fun _ _ => rfl) (fun o ho H5 e5 => et_test (ev_op (ev_var rfl) (ev_var rfl) (rv_ne rfl)))
            (fun o ho _ H5 e5 => ev_call (ea_cons (ev_dget (ev_var rfl) (ev_var rfl) (ex_rd e5 rd) (zq_at zo (hk o ho))) (ea_cons (ev_dget (ev_var rfl) (ev_var rfl) (ex_rd e5 rd) (zq_at zo (hk v hv))) ea_nil))
              (sv_ahead ((e.trans e5) _ _ (hZ.tup _ (zq_spec (hk o ho)).1)) ((e.trans e5) _ _ (hZ.tup _ (zq_spec (hk v hv)).1))))
        · have fst : First rs ns v := Classical.byContradiction fun nf => by
            rw [key.mpr nf] at h
            cases h
          exact s_ret (ev_var rfl) fun H3 e3 => q v H3 hv fst ((e.trans e2).trans e3)
        · refine ⟨_, rfl, e.trans e2, fun k u hku hu => ?_⟩
          by_cases c : k = i
          · subst c
            rw [hxi] at hu
            obtain rfl := Option.some.inj hu
            refine key.mp ?_
            revert h
            generalize (((ns.filter fun o => !decide (V.int o = V.int v)).map fun o => ahead (zq Z o).2 (zq Z v).2).any id) = b
            intro h
            cases b with
            | true => rfl
            | false => cases h
          · exact no k u (by omega) hu
    · rintro σ H' ⟨j2, rfl, e, no⟩
      exfalso
      obtain ⟨v, hv, fst⟩ := hex
      obtain ⟨k, hk, ek⟩ := List.getElem_of_mem hv
      exact no k v (by rw [List.length_map]; exact hk) (by rw [List.getElem?_eq_getElem hk, ek]) fst
end
end K49

/-! ordered. -/
namespace K49
open PySem PySem.Spec PyProof.Rows L2 Evl
section
variable {K : PySem.W.Frag} {H H' : Hp} {σ : L2.St} {ta tb te : TE}
theorem el_cat {a : Addr} {xs ys : List V} (ha : Ev ta σ H (.ref a)) (hx : H a = some (.lst xs)) (hb : EvL tb σ H ys) (hl : xs.length + ys.length ≤ 100000) : EvL (tOp rCat ta tb) σ H (xs ++ ys) := fun H1 e Q q =>
  ha H1 e _ fun H2 e2 => hb H2 (e.trans e2) _ fun b H3 hb3 e3 hy => ⟨a, b, xs, ys, rfl, rfl, ((e.trans e2).trans e3) _ _ hx, hy, sz_of hl, fun p hp => q p _ (fresh_back (e2.trans e3) hp) ((e2.trans e3).trans (Ex.new hp)) upd_same⟩
theorem el_keys {d : Addr} {Z : List ZItem} (ha : Ev ta σ H (.ref d)) (hZ : H d = some (.dK (ents zkey zref Z))) :
    EvL (tCB (fun xs H Q => ∃ (a : Addr) (kvs : List (Key × V)), xs = [.ref a] ∧ Rd H a (.dK kvs) ∧ ∀ p, H p = none → Q (.ref p) (upd H p (.lst (kvs.map fun kv => kV kv.1)))) (tCons ta tNil)) σ H ((Z.map zkey).map V.int) := fun H1 e Q q =>
  ha H1 e _ fun H2 e2 => ⟨d, _, rfl, .inl ((e.trans e2) _ _ hZ), fun p hp => q p _ (fresh_back e2 hp) (e2.trans (Ex.new hp)) (by
    rw [upd_same]
    unfold ents
    rw [List.map_map, List.map_map]
    rfl)⟩
theorem ex_sorted {T : Hp → List (Addr × Row) → Prop} (h : EvX te σ H (fun p H2 => ∃ S, H2 p = some (.lst (refs S)) ∧ Tups trip H2 S ∧ T H2 S)) :
    EvX (tCB (rSortedRows K) (tCons te tNil)) σ H (fun p H2 => ∃ G S H0, H2 p = some (.lst (refs G)) ∧ Tups trip H2 G ∧ T H0 S ∧ G.Perm S ∧ G.Pairwise fun x y => KeyLe x.2 y.2) := fun H1 e Q q =>
  h H1 e _ fun b H2 hb e2 ⟨S, hS, tS, t⟩ => ⟨b, S, rfl, SqL.of hS, tS, fun G p pm pw hp => q p _ (fresh_back e2 hp) (e2.trans (Ex.new hp)) ⟨G, S, H2, upd_same, (tS.ex (Ex.new hp)).sub fun x hx => pm.mem_iff.mp hx, t, pm, pw⟩⟩
end
theorem mem_erase {ns : List Int} {j : Nat} {v : Int} (nd : ns.Nodup) (h : ns[j]? = some v) (x : Int) : x ∈ ns.eraseIdx j ↔ x ∈ ns ∧ x ≠ v := by
  rw [List.mem_eraseIdx_iff_getElem?]
  constructor
  · rintro ⟨i, ne, hi⟩
    refine ⟨List.mem_of_getElem? hi, fun e => ne ?_⟩
    subst e
    exact nd_ix nd hi h
  · rintro ⟨hx, ne⟩
    obtain ⟨i, hi⟩ := List.getElem?_of_mem hx
    refine ⟨i, fun e => ?_, hi⟩
    subst e
    rw [h] at hi
    exact ne (Option.some.inj hi).symm
/-- what goes first of the words -/
def Ahead (rs : List Row) (u : Word) : Prop := (u ≠ .early → ∀ a b, ¬ Reason rs .early a b) ∧ (u = .within → ∀ a b, ¬ Reason rs .both a b)
/-- what ordered tells, at p -/
def Told (rs : List Row) (H : Hp) (p : Addr) : Prop :=
  (∃ x : Rsn, H p = some (.tup x.vs) ∧ Reason rs x.1 x.2.1 x.2.2 ∧ Ahead rs x.1) ∨
  (∃ (l : Addr) (out : List Row), H p = some (.tup [.str "order", .ref l]) ∧ H l = some (.lst (out.map fun r => .int r.num)) ∧ Good rs out ∧ NoReason rs)
def spOrdered : Sp := fun vs H Q _ => ∃ (a : Addr) (L : List Item), vs = [.ref a] ∧ Hist H a L ∧ WF (rows L) ∧ ∀ (H' : Hp) (p : Addr), Ex H H' → Told (rows L) H' p → Q (.ref p) H'
theorem rl_nil {rs : List Row} {u : Word} (h : RList rs u []) (a b : Int) : ¬ Reason rs u a b := fun R => by
  obtain ⟨x, hx, _⟩ := (h (u, a, b)).mpr ⟨rfl, R⟩
  cases hx
section
variable {P : Program} {w : World} {K : PySem.W.Frag} {mg : Str → Option Value} {base : Heap} {H : Hp}
theorem ok_ordered {f fE fC fZ fN : Addr} {fd fdE fdC fdZ fdN : FuncData} (F : Fun K "ordered" "ordered" s_ordered f fd) (T : Blt mg)
    (FE : Fun K "earlies" "earlies" s_earlies fE fdE) (bE : Binds K fdE ["history"] []) (gE : mg "earlies" = some (.ref fE)) (FC : Fun K "clashes" "clashes" s_clashes fC fdC) (bC : Binds K fdC ["history"] []) (gC : mg "clashes" = some (.ref fC))
    (FZ : Fun K "zones" "zones" s_zones fZ fdZ) (bZ : Binds K fdZ ["history"] []) (gZ : mg "zones" = some (.ref fZ)) (FN : Fun K "next_value" "next_value" s_next_value fN fdN) (bN : Binds K fdN ["found", "left"] []) (gN : mg "next_value" = some (.ref fN))
    (GC : FnOk P w K mg base CX0 3 fC fdC ["history"] spClashes) (GN : FnOk P w K mg base CX0 2 fN fdN ["found", "left"] spNext) : FnOk P w K mg base CX0 4 f fd ["history"] spOrdered := by
  have GE : FnOk P w K mg base CX0 1 fE fdE ["history"] spEarlies := ok_earlies FE
  have GZ : FnOk P w K mg base CX0 1 fZ fdZ ["history"] spZones := ok_zones FZ T
  refine F.ok sc_ordered (fun vs H Q E h => ?_) (fun cdv A outer s H vs Q E hr h => ?_)
  · obtain ⟨a, L, rfl, _⟩ := h
    rfl
  · obtain ⟨a, L, rfl, hL, W, q⟩ := h
    have nd := sc_ordered.nd
    have hu := hu_of hr
    have hr1 : Room 1 _ := hr.mono (by decide)
    have hr2 : Room 2 _ := hr.mono (by decide)
    have hlen := len_rows W
    refine ⟨_, pss_cons (ps_set (i := 1) nd rfl (.inl rfl) (pe_op op_cat (pe_call GE hr1 (by rfl) gE FE.kp bE .nil pass0 (pa_cons (pv 0) pa_nil)) (pe_call GC hr (by rfl) gC FC.kp bC .nil pass0 (pa_cons (pv 0) pa_nil))))
      (pss_cons (ps_if (pt_cmpR (op_neD hr.units) (pv 1) (pe_lst pa_nil) (nomark _)) (pss_one (ps_ret (pe_ix ix_list (pv 1) pe_int (fun _ _ => rfl)))) pss_nil)
      (pss_cons (ps_set (i := 2) nd rfl (.inl rfl) (pe_call GZ hr1 (by rfl) gZ FZ.kp bZ .nil pass0 (pa_cons (pv 0) pa_nil)))
      (pss_cons (ps_set (i := 3) nd rfl (.inl rfl) (pe_callTy (call_listD rfl) (by rfl) T.ls (by decide +kernel) (pa_cons (pv 2) pa_nil)))
      (pss_cons (ps_set (i := 4) nd rfl (.inl rfl) (pe_lst pa_nil))
      (pss_cons (ps_while PassesOwn.never (pt_cmpR (op_neD hr.units) (pv 3) (pe_lst pa_nil) (nomark _))
        (pss_cons (ps_set (i := 5) nd rfl (.inr rfl) (pe_call GN hr2 (by rfl) gN FN.kp bN .nil pass0 (pa_cons (pv 2) (pa_cons (pv 3) pa_nil))))
        (pss_cons (ps_expr (pe_bm PySem.F.plainAttrs_list PySem.F.slot_list_remove PySem.F.type_list_remove mt_remove (pv 3) (pa_cons (pv 5) pa_nil)))
        (pss_cons (ps_set (i := 6) nd rfl (.inl rfl) (pe_callB (cr_sortedRows hr.units) (by rfl) T.so (by decide +kernel) (pa_cons (pe_lc (own := [("row", 7)]) (g := gName 7) rfl nd (pi_list (pv 0))
            (blkOk_by (own := [("row", 7)]) (N := ["history", "reasons", "found", "left", "tasks", "value", "rows", "row"]) (sc := defScope s_ordered) (by decide +kernel)) (fun _ _ _ _ _ => pg_name (i := 7) nd rfl (.inl rfl)) (fun _ _ _ _ _ => pts_one (pt_cmpR op_eq (pe_col K (pv 7) pe_int) (pv 5) (nomark _)))
            (fun _ _ _ _ _ => pe_tup (pa_cons (pe_cmpR op_eq (pe_col K (pv 7) pe_int) pe_str (nomark _)) (pa_cons (pe_col K (pv 7) pe_int) (pa_cons (pe_col K (pv 7) pe_int) pa_nil))))) pa_nil)))
        (pss_one (ps_set (i := 4) nd rfl (.inl rfl) (pe_op op_cat (pv 4) (pe_lc (own := [("row", 7)]) (g := gName 7) (tt := tYes) rfl nd (pi_list (pv 6))
            (blkOk_by (own := [("row", 7)]) (N := ["history", "reasons", "found", "left", "tasks", "value", "rows", "row"]) (sc := defScope s_ordered) (by decide +kernel)) (fun _ _ _ _ _ => pg_name (i := 7) nd rfl (.inl rfl)) (fun _ _ _ _ _ => pts_nil)
            (fun _ _ _ _ _ => pe_col K (pv 7) pe_int)))))))))
      (pss_one (ps_ret (pe_tup (pa_cons pe_str (pa_cons (pv 4) pa_nil)))))))))), ?_⟩
    -- reasons
    refine q_asgX (R := fun p H1 => ∃ (RE B Wn : List RItem), H1 p = some (.lst (refs (RE ++ (B ++ Wn)))) ∧ Tups Rsn.vs H1 (RE ++ (B ++ Wn)) ∧ RList (rows L) .early RE ∧ RList (rows L) .both B ∧ RList (rows L) .within Wn) ?_ fun r H1 hr0 e1 ⟨RE, B, Wn, h1, t1, rE, rB, rW⟩ => ?_
    · intro H1 e1 Q1 q1
      refine ⟨_, rfl, a, L, rfl, hL.ex e1, W, fun H2 p RE e2 hp hp1 tp rE lE => ?_⟩
      refine ⟨_, rfl, a, L, rfl, hL.ex (e1.trans e2), hlen, fun H3 p3 B Wn e3 hp3 hp31 tp3 rB rW lB => ?_⟩
      refine ⟨p, p3, _, _, rfl, rfl, e3 _ _ hp1, hp31, ?_, fun z hz => ?_⟩
      · rw [refs_length, refs_length]
        exact sz_of (by omega)
      · refine q1 z _ (fresh_back (e2.trans e3) hz) ((e2.trans e3).trans (Ex.new hz)) ⟨RE, B, Wn, ?_, ?_, rE, rB, rW⟩
        · rw [upd_same, refs_append RE]
        · exact ((tp.ex e3).app tp3).ex (Ex.new hz)
    -- if reasons != []
    refine q_when (et_neNil (ev_var rfl) (fun H2 e2 => dp_list flat_rsn (e2 _ _ h1) (t1.ex e2)) (shaped_tups flat_rsn _)) (fun hne H2 e2 => ?_) (fun hne H2 e2 => ?_)
    · rw [encs_empty] at hne
      cases hR : RE ++ (B ++ Wn) with
      | nil => rw [hR] at hne; cases hne
      | cons x S =>
        rw [hR] at h1 t1
        have hx := t1 x (by simp)
        refine s_ret (v := .ref x.1) (ev_op (ev_var rfl) ev_c (rv_ixL (sq_of (e2 _ _ h1)) (atI_nat (j := 0) rfl))) fun H3 e3 => q H3 x.1 ((e1.trans e2).trans e3) (.inl ⟨x.2, (e2.trans e3) _ _ hx, ?_⟩)
        cases hE : RE with
        | cons y RE' =>
          rw [hE] at hR
          obtain ⟨rfl, _⟩ := List.cons.inj hR
          obtain ⟨k1, k2⟩ := (rE y.2).mp ⟨y, by rw [hE]; simp, rfl⟩
          exact ⟨k2, fun k => (k k1).elim, fun k => by rw [k1] at k; cases k⟩
        | nil =>
          rw [hE] at hR rE
          have hR : B ++ Wn = x :: S := hR
          cases hB : B with
          | cons y B' =>
            rw [hB] at hR
            obtain ⟨rfl, _⟩ := List.cons.inj hR
            obtain ⟨k1, k2⟩ := (rB y.2).mp ⟨y, by rw [hB]; simp, rfl⟩
            exact ⟨k2, fun _ => rl_nil rE, fun k => by rw [k1] at k; cases k⟩
          | nil =>
            rw [hB] at hR rB
            have hR : Wn = x :: S := hR
            obtain ⟨k1, k2⟩ := (rW x.2).mp ⟨x, by rw [hR]; simp, rfl⟩
            exact ⟨k2, fun _ => rl_nil rE, fun _ => rl_nil rB⟩
    · rw [encs_empty] at hne
      have hR : RE ++ (B ++ Wn) = [] := by
        cases hR : RE ++ (B ++ Wn) with
        | nil => rfl
        | cons x S => rw [hR] at hne; cases hne
      obtain ⟨eE, hR2⟩ := List.append_eq_nil_iff.mp hR
      obtain ⟨eB, eW⟩ := List.append_eq_nil_iff.mp hR2
      rw [eE] at rE
      rw [eB] at rB
      rw [eW] at rW
      have N : NoReason (rows L) := fun u n m => by
        cases u with
        | early => exact rl_nil rE n m
        | both => exact rl_nil rB n m
        | within => exact rl_nil rW n m
      have e12 := e1.trans e2
      -- found, left, tasks
      refine q_asgX (sv_zones (ev_var rfl) (hL.ex e12) hlen) fun d H3 hd e3 ⟨Z, hZ, zo⟩ => ?_
      have lenZ : Z.length ≤ 61 := by
        have := zo.len
        rw [List.length_map] at this
        omega
      refine q_asgX (evX_L (el_keys (ev_var rfl) hZ.dk)) fun l H4 hl e4 hl4 => ?_
      refine q_asgX (evX_L (el_lst ea_nil (by show 0 ≤ 100000; decide))) fun tk H5 htk e5 htk5 => ?_
      have eH := (((e12.trans e3).trans e4).trans e5)
      have hl0 : H l = none := fresh_back (e12.trans e3) hl
      -- the loop
      refine s_while (D := { nx := tRet (tTup (tCons (tC (.str "order")) (tCons (tVar 4) tNil))) { nx := fun _ H' => Q .non H', rt := Q }, rt := Q }) (fun m σ H' => ∃ (ns : List Int) (out : List Row) (tk : Addr) (j5 j6 : Option V), m = ns.length ∧ σ = [some (.ref a), some (.ref r), some (.ref d), some (.ref l), some (.ref tk), j5, j6, none] ∧ Ex H H' ∧ ZAt H' d Z ∧
        H' l = some (.lst (ns.map V.int)) ∧ H' tk = some (.lst (out.map fun r => .int r.num)) ∧ tk ≠ l ∧ ns.Nodup ∧ (∀ v, v ∈ ns → ∃ q, q ∈ Z ∧ q.2.key = v) ∧ ns.length ≤ 100 ∧ Part (rows L) ns out) (Z.map zkey).length ?_ ?_
      · refine ⟨Z.map zkey, [], tk, none, none, rfl, rfl, eH, (hZ.ex e4).ex e5, e5 _ _ hl4, htk5, ?_, zo.nd, fun v hv => ?_, by rw [List.length_map]; omega, Part.start fun v => ?_⟩
        · intro k
          rw [k, hl4] at htk
          cases htk
        · obtain ⟨z, hz, e⟩ := List.mem_map.mp hv
          exact ⟨z, hz, e⟩
        · constructor
          · intro hv
            obtain ⟨z, hz, e⟩ := List.mem_map.mp hv
            have := (zo.zone z hz).has
            rw [show z.2.key = v from e] at this
            exact this
          · intro hv
            obtain ⟨z, hz, e⟩ := zo.all v hv
            exact List.mem_map.mpr ⟨z, hz, e⟩
      · rintro m σ H' ⟨ns, out, tk, j5, j6, rfl, rfl, e, hZ', hl', htk', ntl, ndn, hk, hn, PT⟩
        refine ⟨_, et_neNil (ds := ns.map PyData.int) (ev_var rfl) (fun H2 e2 => .lst (SqL.of (e2 _ _ hl')) (dp_ints ns)) (shaped_ints ns), fun hb H1 e1 => ?_, fun hb H1 e1 => ?_⟩
        · have hne : ns ≠ [] := fun k => by
            rw [k] at hb
            cases hb
          refine ⟨fun σ H2 => ∃ (ns' : List Int) (out : List Row) (tk : Addr) (j5 j6 : Option V), ns'.length < ns.length ∧ σ = [some (.ref a), some (.ref r), some (.ref d), some (.ref l), some (.ref tk), j5, j6, none] ∧ Ex H H2 ∧ ZAt H2 d Z ∧
            H2 l = some (.lst (ns'.map V.int)) ∧ H2 tk = some (.lst (out.map fun r => .int r.num)) ∧ tk ≠ l ∧ ns'.Nodup ∧ (∀ v, v ∈ ns' → ∃ q, q ∈ Z ∧ q.2.key = v) ∧ ns'.length ≤ 100 ∧ Part (rows L) ns' out,
            fun σ2 H2 ⟨ns', out, tk, j5, j6, lt, rest⟩ => ⟨ns'.length, lt, ns', out, tk, j5, j6, rfl, rest⟩, ?_⟩
          -- value = next_value(found, left)
          refine ⟨_, rfl, _, rfl, d, l, rows L, Z, ns, rfl, hZ'.ex e1, zo, e1 _ _ hl', hk, hn, first_ex N hne, fun v H2 hv fst e2 => ?_⟩
          obtain ⟨j, hj⟩ := List.getElem?_of_mem hv
          -- left.remove(value)
          have hl2 := e2 _ _ (e1 _ _ hl')
          refine ⟨_, rfl, .inl ⟨rfl, _, sq_of hl2⟩, _, rfl, l, ns, v, j, rfl, rfl, hl2, hj, fun m hm k => ?_, ?_⟩
          · exact absurd (nd_ix ndn k hj) (by omega)
          generalize hH3 : upd H2 l (.lst ((ns.eraseIdx j).map V.int)) = H3
          have eH3 : Ex H H3 := by
            rw [← hH3]
            exact Ex.mut ((e.trans e1).trans e2) hl0
          have tx : TEx H2 H3 := by
            rw [← hH3]
            exact TEx.lst hl2
          have hl3 : H3 l = some (.lst ((ns.eraseIdx j).map V.int)) := by
            rw [← hH3]
            exact upd_same
          have htk3 : H3 tk = some (.lst (out.map fun r => .int r.num)) := by
            rw [← hH3, upd_ne ntl]
            exact e2 _ _ (e1 _ _ htk')
          have hZ3 : ZAt H3 d Z := by
            refine ⟨?_, ((hZ'.ex e1).ex e2).tup.tex tx⟩
            have h2 := ((hZ'.ex e1).ex e2).dk
            rw [← hH3, upd_ne (ne_of h2 hl2 (fun z => by cases z))]
            exact h2
          have row3 : ∀ x, x ∈ L → ∀ {H4}, Ex H3 H4 → H4 x.1 = some (.tup x.2.vs) := fun x hx _ e4 => (eH3.trans e4) _ _ (hL.tup x hx)
          have mem' := mem_erase ndn hj
          have lenE : (ns.eraseIdx j).length < ns.length := by
            have hj' := (List.getElem?_eq_some_iff.mp hj).1
            rw [List.length_eraseIdx_of_lt hj']
            omega
          -- rows = sorted([..])
          refine q_asgX (ex_sorted (T := fun _ S => S.map Prod.snd = (rows L).filter fun r => decide (r.val = v)) (evX_imp (et_comp (L := L) (rf := iref) (fun x => decide (x.2.val = v)) (fun x => trip x.2) (fun x => [some (.ref a), some (.ref r), some (.ref d), some (.ref l), some (.ref tk), some (.int v), j6, some (.ref x.1)])
            (ev_var rfl) (sq_of (eH3 _ _ hL.lst)) (by omega) (fun t _ H1 _ Q q => q) (fun _ _ => rfl) (fun x hx H4 e4 => et_is (et_test (ev_op (ev_val (row3 x hx e4)) (ev_var rfl) (rv_eq rfl))) ?_)
            (fun x hx _ H4 e4 => eu_tup (ea_cons (ev_is (ev_op (ev_kind (row3 x hx e4)) ev_c (rv_eq rfl)) (by rw [kind_r])) (ea_cons (ev_beg (row3 x hx e4)) (ea_cons (ev_num (row3 x hx e4)) ea_nil))) (by show 3 ≤ 100000; decide))) fun p H4 hp e4 ⟨S, hS, mS, tS⟩ => ⟨S.map fun t => (t.1, t.2.2), ?_, ?_, ?_⟩)) fun g H4 hg e4 ⟨G, S, _, hG, tG, mS, pm, pw⟩ => ?_
          · by_cases c : x.2.val = v
            · simp [c]
            · have : ¬ V.int x.2.val = V.int v := fun k => c (V.int.inj k)
              simp [c, this]
          · rw [hS]
            unfold refs
            rw [List.map_map]
            rfl
          · intro x hx
            obtain ⟨t, ht, rfl⟩ := List.mem_map.mp hx
            exact tS t ht
          · have := congrArg (List.map Prod.snd) mS
            rw [List.map_map] at this ⊢
            rw [List.filter_map]
            exact this
          have grp : Grp (rows L) v (G.map Prod.snd) := by
            refine ⟨?_, List.pairwise_map.mpr pw⟩
            rw [← mS]
            exact pm.map _
          have lenG : G.length ≤ 60 := by
            have e := congrArg List.length mS
            rw [List.length_map] at e
            have := List.length_filter_le (fun r => decide (r.val = v)) (rows L)
            rw [List.length_map] at this
            rw [pm.length_eq]
            omega
          have lenO : out.length ≤ 60 := by
            rw [PT.perm.length_eq]
            have := List.length_filter_le (fun r : Row => decide (¬ r.val ∈ ns)) (rows L)
            rw [List.length_map] at this
            omega
          -- tasks = tasks + [..]
          refine s_asgX (evX_L (el_cat (ev_var rfl) (e4 _ _ htk3) (el_comp (L := G) (rf := fun t => .ref t.1) (fun _ => true) (fun t => .int t.2.num) (fun x => [some (.ref a), some (.ref r), some (.ref d), some (.ref l), some (.ref tk), some (.int v), some (.ref g), some (.ref x.1)])
            (ev_var rfl) (sq_of hG) (by omega) (fun t _ H1 _ Q q => q) (fun _ _ => rfl) (fun _ _ _ _ => et_yes) (fun t ht _ H5 e5 => ev_op (ev_var rfl) ev_c (rv_ixT (st_of (e5 _ _ (tG t ht))) rfl))) ?_)) fun tk2 H5 htk2 e5 htk25 => ?_
          · rw [filter_yes, List.length_map, List.length_map]
            omega
          refine ⟨ns.eraseIdx j, out ++ G.map Prod.snd, tk2, _, _, lenE, rfl, (eH3.trans e4).trans e5, (hZ3.ex e4).ex e5, e5 _ _ (e4 _ _ hl3), ?_, ?_, ndn.sublist (List.eraseIdx_sublist ..), fun u hu => hk u ((mem' u).mp hu).1, by omega, PT.step W N hv fst grp mem'⟩
          · rw [htk25, filter_yes, List.map_append, List.map_map]
            rfl
          · intro k
            have := e4 _ _ hl3
            rw [← k, htk2] at this
            cases this
        · have hnil : ns = [] := by
            cases ns with
            | nil => rfl
            | cons x S => cases hb
          subst hnil
          refine s_retX (evX_U (eu_tup (ea_cons ev_c (ea_cons (ev_var rfl) ea_nil)) (by show 2 ≤ 100000; decide))) fun p H2 hp e2 hp2 => q H2 p ((e.trans e1).trans e2) (.inr ⟨tk, out, hp2, (e1.trans e2) _ _ htk', PT.done, N⟩)
end
end K49

/-! is_order. -/
namespace K49
open PySem PySem.Spec PyProof.Rows L2 Evl

/-! ### along an order -/
theorem lastVal_snoc : ∀ (xs : List Row) (r : Row) (v : Int), lastVal v (xs ++ [r]) = r.val
  | [], _, _ => rfl
  | x :: xs, r, v => lastVal_snoc xs r x.val
theorem reads_at : ∀ {out : List Row} {v : Int} {i : Nat} {r : Row}, ReadsOk v out → out[i]? = some r → r.wr = false → r.val = lastVal v (out.take i)
  | [], _, _, _, _, h, _ => by simp at h
  | x :: t, v, 0, r, R, h, w => by
    obtain rfl : x = r := by simpa using h
    exact R.1 w
  | x :: t, v, i + 1, r, R, h, w => reads_at (out := t) R.2 (by simpa using h) w
theorem lastVal_take {out : List Row} {i : Nat} {r : Row} (h : out[i]? = some r) : lastVal 0 (out.take (i + 1)) = r.val := by
  rw [List.take_add_one, h]
  exact lastVal_snoc _ _ _
theorem pair_drop {out : List Row} {i : Nat} {r y : Row} (h : out.Pairwise fun x y => x.beg ≤ y.fin) (hr : out[i]? = some r) (hy : y ∈ out.drop (i + 1)) : r.beg ≤ y.fin := by
  obtain ⟨hi, e⟩ := List.getElem?_eq_some_iff.mp hr
  have h2 : (out.drop i).Pairwise fun x y => x.beg ≤ y.fin := h.sublist (List.drop_sublist i out)
  rw [List.drop_eq_getElem_cons hi, e] at h2
  exact (List.pairwise_cons.mp h2).1 y hy
theorem Good.mem {rs out : List Row} (G : Good rs out) {r : Row} : r ∈ out ↔ r ∈ rs := G.perm.mem_iff
section
variable {K : PySem.W.Frag} {H H' : Hp} {σ : L2.St} {ta tb te : TE}
/-- a new list of the numbers ns, rising -/
def Rise (ns : List Int) (p : Addr) (H : Hp) : Prop := ∃ ys : List Int, H p = some (.lst (ys.map V.int)) ∧ ys.Perm ns ∧ ys.Pairwise (· ≤ ·)
theorem ex_sortD {d : Addr} {kvs : List (Key × V)} {ns : List Int} (ha : Ev ta σ H (.ref d)) (h : H d = some (.dK kvs)) (hk : kvs.map (·.1) = ns.map Sum.inl) (hn : ns.length < 64) :
    EvX (tCB (fun xs H Q => ∃ (a : Addr) (kvs : List (Key × V)) (ks : List Int), xs = [.ref a] ∧ Rd H a (.dK kvs) ∧ kvs.map (·.1) = ks.map Sum.inl ∧ ks.length < 64 ∧ ∀ (ys : List Int) (p : Addr), ys.Perm ks → ys.Pairwise (· ≤ ·) → H p = none → Q (.ref p) (upd H p (.lst (ys.map V.int)))) (tCons ta tNil)) σ H (Rise ns) := fun H1 e Q q =>
  ha H1 e _ fun H2 e2 => ⟨d, kvs, ns, rfl, .inl ((e.trans e2) _ _ h), hk, hn, fun ys p pm pw hp => q p _ (fresh_back e2 hp) (e2.trans (Ex.new hp)) ⟨ys, upd_same, pm, pw⟩⟩
theorem ex_sortL {l : Addr} {ns : List Int} (ha : Ev ta σ H (.ref l)) (h : H l = some (.lst (ns.map V.int))) (hn : ns.length < 64) : EvX (tCB (rSorted K) (tCons ta tNil)) σ H (Rise ns) := fun H1 e Q q =>
  ha H1 e _ fun H2 e2 => ⟨l, ns, rfl, sq_of ((e.trans e2) _ _ h), hn, fun ys p pm pw hp => q p _ (fresh_back e2 hp) (e2.trans (Ex.new hp)) ⟨ys, upd_same, pm, pw⟩⟩
/-- sorted(..) != sorted(..) of the same numbers -/
theorem et_sameSort {ns ms : List Int} (ha : EvX ta σ H (Rise ns)) (hb : EvX tb σ H (Rise ms)) (hp : ns.Perm ms) : EvT (tTest (tOp (rNeD K) ta tb)) σ H false := fun H1 e Q q =>
  ha H1 e _ fun p H2 hp2 e2 ⟨ys, hy, py, sy⟩ => hb H2 (e.trans e2) _ fun r H3 hr3 e3 ⟨zs, hz, pz, sz⟩ => by
    have ez : ys = zs := PySem.W.ksm_same (py.trans (hp.trans pz.symm)) sy sz
    subst ez
    refine ⟨.list (ys.map PyData.int), .list (ys.map PyData.int), .lst (SqL.of (e3 _ _ hy)) (dp_ints ys), .lst (SqL.of hz) (dp_ints ys), shaped_ints ys, shaped_ints ys, ?_⟩
    rw [SeqAt.eqv_refl _ (SeqAt.canLay_of_shaped (shaped_ints ys))]
    exact ⟨false, rfl, q H3 (e2.trans e3)⟩
end
theorem nums_map (out : List Row) : (out.map fun r => V.int r.num) = (out.map Row.num).map V.int := by
  rw [List.map_map]
  rfl
theorem item_num (L : List Item) : L.map inum = (rows L).map Row.num := by
  rw [List.map_map]
  rfl
def spIsOrder : Sp := fun vs H Q _ => ∃ (a l : Addr) (L : List Item) (out : List Row), vs = [.ref a, .ref l] ∧ Hist H a L ∧ WF (rows L) ∧ H l = some (.lst (out.map fun r => .int r.num)) ∧ Good (rows L) out ∧ RetV (.bl true) H Q
section
variable {P : Program} {w : World} {K : PySem.W.Frag} {mg : Str → Option Value} {base : Heap} {H : Hp}
theorem ok_isOrder {f : Addr} {fd : FuncData} (F : Fun K "is_order" "is_order" s_is_order f fd) (T : Blt mg) : FnOk P w K mg base CX0 1 f fd ["history", "tasks"] spIsOrder := by
  refine F.ok sc_is_order (fun vs H Q E h => ?_) (fun cdv A outer s H vs Q E hr h => ?_)
  · obtain ⟨a, l, L, out, rfl, _⟩ := h
    rfl
  · obtain ⟨a, l, L, out, rfl, hL, W, hl, G, q⟩ := h
    have nd := sc_is_order.nd
    have hu := hu_of hr
    have hlen := len_rows W
    have lenO : out.length ≤ 60 := by
      rw [G.perm.length_eq, List.length_map]
      exact hlen
    refine ⟨_, pss_cons (ps_setDc (i := 2) (own := [("row", 11)]) (g := gName 11) (tt := tYes) rfl nd rfl rfl (swd_true rfl rfl rfl (by decide +kernel)) (pi_list (pv 0))
        (blkOk_by (own := [("row", 11)]) (N := ["history", "tasks", "rows", "last", "ahead", "task", "number", "kind", "value", "begin", "end", "row"]) (sc := defScope s_is_order) (by decide +kernel)) (fun _ _ _ _ _ => pg_name (i := 11) nd rfl (.inl rfl)) (fun _ _ _ _ _ => pts_nil)
        (fun _ _ _ _ _ => pe_col K (pv 11) pe_int) (fun _ _ _ _ _ => pv 11))
      (pss_cons (ps_if (pt_cmpR (op_neD hr.units) (pe_callB (call_sortedDI rfl) (by rfl) T.so (by decide +kernel) (pa_cons (pv 2) pa_nil)) (pe_callB cr_sorted (by rfl) T.so (by decide +kernel) (pa_cons (pv 1) pa_nil)) (nomark _)) (pss_one (ps_ret pe_bl)) pss_nil)
      (pss_cons (ps_set (i := 3) nd rfl (.inl rfl) pe_int)
      (pss_cons (ps_set (i := 4) nd rfl (.inl rfl) (pe_un un_neg pe_int))
      (pss_cons (ps_for PassesOwn.never rfl (pi_list (pv 1)) (pg_name (i := 5) nd rfl (.inl rfl))
        (pss_cons (ps_asg (pe_dget hu (pv 2) (pv 5) (fun _ _ => rfl)) (pg_tup rfl (pgs_cons (pg_name (i := 6) nd rfl (.inl rfl)) (pgs_cons (pg_name (i := 7) nd rfl (.inl rfl)) (pgs_cons (pg_name (i := 8) nd rfl (.inl rfl)) (pgs_cons (pg_name (i := 9) nd rfl (.inl rfl)) (pgs_cons (pg_name (i := 10) nd rfl (.inl rfl)) pgs_nil)))))))
        (pss_cons (ps_if (PW.pt (pw_or (pt_cmpR op_lt (pv 10) (pv 4) (nomark _)) (pw_or1 (PW.pt (pw_and (pt_cmpR op_eq (pv 7) pe_str (nomark _)) (pw_and1 (pt_cmpR op_ne (pv 8) (pv 3) (nomark _)))))))) (pss_one (ps_ret pe_bl)) pss_nil)
        (pss_cons (ps_set (i := 4) nd rfl (.inl rfl) (pe_callB (call_max2 rfl) (by rfl) T.mx (by decide +kernel) (pa_cons (pv 4) (pa_cons (pv 9) pa_nil))))
        (pss_one (ps_set (i := 3) nd rfl (.inl rfl) (pv 8)))))))
      (pss_one (ps_ret pe_bl)))))), ?_⟩
    refine q_asgX (ed_comp (L := L) (rf := iref) (fun _ => true) inum iref (fun z => [some (.ref a), some (.ref l), none, none, none, none, none, none, none, none, none, some (.ref z.1)]) (ev_var rfl) (sq_of hL.lst) (by omega)
      (by rw [filter_yes]; exact nums_nd W) (fun z _ H1 _ Q q => q) (fun _ _ => rfl) (fun _ _ _ _ => et_yes) (fun z hz _ H1 e1 => ev_num (e1 _ _ (hL.tup z hz))) (fun z hz _ H1 e1 => ev_var rfl)) fun d H1 hd e1 hdk => ?_
    rw [filter_yes] at hdk
    have hl1 : H1 l = some (.lst ((out.map Row.num).map V.int)) := by
      rw [← nums_map]
      exact e1 _ _ hl
    have pm : (L.map inum).Perm (out.map Row.num) := by
      rw [item_num]
      exact (G.perm.map _).symm
    refine q_when (et_sameSort (ex_sortD (ns := L.map inum) (ev_var rfl) hdk (ents_keys L) (by rw [List.length_map]; omega)) (ex_sortL (ns := out.map Row.num) (ev_var rfl) hl1 (by rw [List.length_map]; omega)) pm) (fun h => nomatch h) (fun _ H2 e2 => ?_)
    refine q_asg ev_c fun H3 e3 => ?_
    refine q_asg (v := .int (-1)) (ev_un ev_c ru_neg) fun H4 e4 => ?_
    have e14 := (e2.trans e3).trans e4
    refine ⟨_, rfl, l, rfl, ⟨_, sq_of (e14 _ _ hl1)⟩, for_list (K := K) (a := l) (xs := (out.map Row.num).map V.int) (fun i σ H' => ∃ (ah : Int) (j5 j6 j7 j8 j9 j10 : Option V), σ = [some (.ref a), some (.ref l), some (.ref d), some (.int (lastVal 0 (out.take i))), some (.int ah), j5, j6, j7, j8, j9, j10, none] ∧ Ex H1 H' ∧ ∀ y, y ∈ out.drop i → ah ≤ y.fin) ?_ ?_ ?_ ?_⟩
    · refine ⟨-1, none, none, none, none, none, none, rfl, e14, fun y hy => ?_⟩
      have hy := G.mem.mp (List.mem_of_mem_drop hy)
      have h1 := W.beg0 y hy
      have h2 := W.lt y hy
      omega
    · rintro i σ H' _ ⟨_, _, _, _, _, _, _, _, e, _⟩
      exact sq_of (e _ _ hl1)
    · rintro i y σ H' hi ⟨ah, j5, j6, j7, j8, j9, j10, rfl, e, hah⟩
      rw [List.map_map, List.getElem?_map] at hi
      cases hxi : out[i]? with
      | none => rw [hxi] at hi; cases hi
      | some r =>
        rw [hxi] at hi
        obtain rfl : V.int r.num = y := Option.some.inj hi
        obtain ⟨hi1, hi2⟩ := List.getElem?_eq_some_iff.mp hxi
        have hro : r ∈ out := List.mem_of_getElem? hxi
        obtain ⟨x, hx, rfl⟩ := mem_rows (G.mem.mp hro)
        have hrow := (e1.trans e) _ _ (hL.tup x hx)
        refine ev_dget (H := H') (ev_var rfl) (ev_var rfl) (.inl (e _ _ hdk)) (row_at W hx) H' (Ex.refl _) _ fun H5 e5 => ?_
        refine ⟨x.1, x.2.vs, rfl, st_of (e5 _ _ hrow), rfl, _, _, rfl, _, _, rfl, _, _, rfl, _, _, rfl, _, _, rfl, rfl, ?_⟩
        have c1 : ah ≤ x.2.fin := hah _ (by
          rw [List.drop_eq_getElem_cons hi1, hi2]
          exact List.mem_cons_self ..)
        refine q_when (b := false) (et_is (et_or (et_test (ev_op (ev_var rfl) (ev_var rfl) rv_I0)) (fun _ => et_and (et_test (ev_op (ev_var rfl) ev_c (rv_eq rfl))) (fun _ => et_test (ev_op (ev_var rfl) (ev_var rfl) (rv_ne rfl))))) ?_) (fun h => nomatch h) (fun _ H6 e6 => ?_)
        · rw [kind_r, decide_eq_false (by omega : ¬ x.2.fin < ah)]
          cases hw : x.2.wr with
          | true => rfl
          | false =>
            rw [reads_at G.reads hxi hw]
            simp
        refine q_asg (v := .int (if x.2.beg > ah then x.2.beg else ah)) (ev_max2 (ev_var rfl) (ev_var rfl)) fun H7 e7 => ?_
        refine s_asg (ev_var rfl) fun H8 e8 => ?_
        refine ⟨if x.2.beg > ah then x.2.beg else ah, some (.int x.2.num), some (.int x.2.num), some (.str (kindS x.2.wr)), some (.int x.2.val), some (.int x.2.beg), some (.int x.2.fin), ?_, (((e.trans e5).trans e6).trans e7).trans e8, fun y hy => ?_⟩
        · rw [lastVal_take hxi]
          rfl
        · have k1 := pair_drop G.pair hxi hy
          have k2 := hah y (by
            rw [List.drop_eq_getElem_cons hi1]
            exact List.mem_cons_of_mem _ hy)
          split <;> omega
    · rintro σ H' ⟨ah, _, _, _, _, _, _, rfl, e, _⟩
      dsimp only
      refine s_ret (v := .bl true) ev_c fun H5 e5 => ?_
      exact q H5 ((e1.trans e).trans e5)
end
end K49

/-! _law_order_right. -/
namespace K49
open PySem PySem.Spec PyProof.Rows L2 Evl
section
variable {K : PySem.W.Frag} {H H' : Hp} {σ : L2.St} {g : TG} {te : TE}
/-- el_comp over a new list -/
theorem el_compN {α : Type} {L : List α} {rf : α → V} {tl : TE} {tt : TT} {vs : List Nat} (p : α → Bool) (f : α → V) (σx : α → L2.St)
    (h : EvL tl σ H (L.map rf)) (hz : L.length ≤ 40000)
    (hg : ∀ x, x ∈ L → ∀ H1, Ex H H1 → ∀ Q, Q (σx x) H1 → g (rf x) (wipe σ vs) H1 Q) (hw : ∀ x, x ∈ L → wipe (σx x) vs = wipe σ vs)
    (ht : ∀ x, x ∈ L → ∀ H1, Ex H H1 → EvT tt (σx x) H1 (p x)) (he : ∀ x, x ∈ L → p x = true → ∀ H1, Ex H H1 → Ev te (σx x) H1 (f x)) :
    EvL (tLc (iList K tl) g tt te vs) σ H ((L.filter p).map f) := fun H0 e0 Q q => h H0 e0 _ fun a H1 ha e1 hx =>
  el_comp (K := K) (tl := tC (.ref a)) p f σx (H := H1) (σ := σ) ev_c (sq_of hx) hz (fun x hx H2 e2 => hg x hx H2 ((e0.trans e1).trans e2)) hw (fun x hx H2 e2 => ht x hx H2 ((e0.trans e1).trans e2)) (fun x hx k H2 e2 => he x hx k H2 ((e0.trans e1).trans e2))
    H1 (Ex.refl _) Q fun p H2 hp e2 h2 => q p H2 (fresh_back e1 hp) (e1.trans e2) h2
theorem cut_drop (xs : List V) (k : Nat) : cutV xs (some (k : Int)) none = xs.drop k := by
  unfold cutV
  rw [HT.sIx_nat, HT.sIx_none]
  by_cases h : k ≤ xs.length
  · rw [Nat.min_eq_left h]
    exact List.take_of_length_le (by rw [List.length_drop]; omega)
  · rw [Nat.min_eq_right (by omega), List.drop_length, List.drop_of_length_le (by omega)]
    exact List.take_nil
end
/-- the item of a row -/
def itemOf (L : List Item) (r : Row) : Item := (L.find? fun x => decide (x.2 = r)).getD (0, r)
theorem itemOf_spec {L : List Item} {r : Row} (h : r ∈ rows L) : itemOf L r ∈ L ∧ (itemOf L r).2 = r := by
  unfold itemOf
  cases e : L.find? fun x => decide (x.2 = r) with
  | none =>
    obtain ⟨x, hx, ex⟩ := mem_rows h
    exact (List.find?_eq_none.mp e x hx (decide_eq_true ex)).elim
  | some x =>
    have h3 := List.find?_some e
    exact ⟨List.mem_of_find?_eq_some e, of_decide_eq_true h3⟩
def spRight : Sp := fun vs H Q _ => ∃ (a l : Addr) (L : List Item) (out : List Row), vs = [.ref a, .ref l] ∧ Hist H a L ∧ WF (rows L) ∧ H l = some (.lst (out.map fun r => .int r.num)) ∧ Good (rows L) out ∧ RetV (.bl true) H Q
section
variable {P : Program} {w : World} {K : PySem.W.Frag} {mg : Str → Option Value} {base : Heap} {H : Hp}
theorem ok_right {f : Addr} {fd : FuncData} (F : Fun K "_law_order_right" "_law_order_right" s__law_order_right f fd) (T : Blt mg) : FnOk P w K mg base CX0 1 f fd ["history", "tasks"] spRight := by
  refine F.ok sc__law_order_right (fun vs H Q E h => ?_) (fun cdv A outer s H vs Q E hr h => ?_)
  · obtain ⟨a, l, L, out, rfl, _⟩ := h
    rfl
  · obtain ⟨a, l, L, out, rfl, hL, W, hl, G, q⟩ := h
    have nd := sc__law_order_right.nd
    have hu := hu_of hr
    have hlen := len_rows W
    have lenO : out.length ≤ 60 := by
      rw [G.perm.length_eq, List.length_map]
      exact hlen
    refine ⟨_, pss_cons (ps_set (i := 2) nd rfl (.inr rfl) pe_dnewK)
      (pss_cons (ps_for PassesOwn.never rfl (pi_list (pv 0)) (pg_name (i := 3) nd rfl (.inr rfl)) (pss_one (ps_dput hu (pv 2) (pe_ix ix_tup (pv 3) pe_int (fun _ _ => rfl)) (pv 3) rfl)))
      (pss_cons (ps_if (PW.pt (pw_or (pt_not (pt_val (pe_callB RZ.call_isTy (by rfl) T.isi (by decide +kernel) (pa_cons (pv 1) (pa_cons (pe_bltn (v := .ty "list") (by rfl) T.ls (by decide +kernel) rfl) pa_nil)))))
          (pw_or1 (pt_cmpR (op_neD hr.units) (pe_callB (call_sortedDI rfl) (by rfl) T.so (by decide +kernel) (pa_cons (pv 2) pa_nil)) (pe_callB cr_sorted (by rfl) T.so (by decide +kernel) (pa_cons (pv 1) pa_nil)) (nomark _))))) (pss_one (ps_ret pe_bl)) pss_nil)
      (pss_cons (ps_set (i := 4) nd rfl (.inl rfl) pe_int)
      (pss_cons (ps_for PassesOwn.never rfl (pi_range1 rfl T.rg (pa_cons (pe_callB call_len_seq (by rfl) T.ln PySem.boot_len (pa_cons (pv 1) pa_nil)) pa_nil)) (pg_name (i := 5) nd rfl (.inl rfl))
        (pss_cons (ps_set (i := 3) nd rfl (.inr rfl) (pe_dget hu (pv 2) (pe_ix ix_list (pv 1) (pv 5) (fun _ _ => rfl)) (fun _ _ => rfl)))
        (pss_cons (ps_if (pt_cmpR (op_neD hr.units) (pe_lc (own := [("task", 6)]) (g := gName 6) rfl nd (pi_list (pe_slice sl_list (pv 1) (po_some (pe_op op_add (pv 5) pe_int)) po_none))
            (blkOk_by (own := [("task", 6)]) (N := ["history", "tasks", "rows", "row", "last", "at", "task"]) (sc := defScope s__law_order_right) (by decide +kernel)) (fun _ _ _ _ _ => pg_name (i := 6) nd rfl (.inl rfl))
            (fun _ _ _ _ _ => pts_one (pt_cmpR op_lt (pe_col K (pe_dget hu (pv 2) (pv 6) (fun _ _ => rfl)) pe_int) (pe_col K (pv 3) pe_int) (nomark _))) (fun _ _ _ _ _ => pv 6)) (pe_lst pa_nil) (nomark _)) (pss_one (ps_ret pe_bl)) pss_nil)
        (pss_cons (ps_if (PW.pt (pw_and (pt_cmpR op_eq (pe_ix ix_tup (pv 3) pe_int (fun _ _ => rfl)) pe_str (nomark _)) (pw_and1 (pt_cmpR op_ne (pe_ix ix_tup (pv 3) pe_int (fun _ _ => rfl)) (pv 4) (nomark _))))) (pss_one (ps_ret pe_bl)) pss_nil)
        (pss_one (ps_set (i := 4) nd rfl (.inl rfl) (pe_ix ix_tup (pv 3) pe_int (fun _ _ => rfl))))))))
      (pss_one (ps_ret pe_bl)))))), ?_⟩
    -- rows = {}
    intro d hd
    refine ⟨_, rfl, a, rfl, ⟨refs L, sq_of (Ex.new hd _ _ hL.lst)⟩, for_list (K := K) (a := a) (xs := refs L) (fun i σ H' => ∃ j3, σ = [some (.ref a), some (.ref l), some (.ref d), j3, none, none, none] ∧ Ex H H' ∧ H' d = some (.dK (ents inum iref (L.take i)))) ?_ ?_ ?_ ?_⟩
    · exact ⟨none, rfl, Ex.new hd, upd_same⟩
    · rintro i σ H' _ ⟨j3, rfl, e, _⟩
      exact sq_of (e _ _ hL.lst)
    · rintro i y σ H' hi ⟨j3, rfl, e, hdk⟩
      unfold refs at hi
      rw [List.getElem?_map] at hi
      cases hxi : L[i]? with
      | none => rw [hxi] at hi; cases hi
      | some x =>
        rw [hxi] at hi
        obtain rfl : V.ref x.1 = y := Option.some.inj hi
        have hm : x ∈ L := List.mem_of_getElem? hxi
        have ht := e _ _ (hL.tup x hm)
        refine ⟨_, rfl, _, rfl, _, rfl, x.1, x.2.vs, 0, _, rfl, rfl, st_of ht, rfl, d, _, rfl, DPut.k (k := Sum.inl x.2.num) hdk ?_, _, rfl, Ex.mut e hd, ?_⟩
        · rw [ents_length, List.length_take]
          exact sz_lt (by omega)
        · have pk := putK_ents (key := inum) (val := iref) (L := L.take i) (x := x) fun y hy k => by
            have nd2 : ((L.take (i + 1)).map inum).Nodup := (nums_nd W).sublist ((List.take_sublist (i + 1) L).map inum)
            rw [List.take_add_one, hxi, List.map_append, List.nodup_append] at nd2
            exact nd2.2.2 _ (List.mem_map.mpr ⟨y, hy, rfl⟩) _ (by simp) k
          rw [upd_same]
          show some (HO.dK (putK (ents inum iref (L.take i)) (Sum.inl (inum x)) (iref x))) = _
          rw [pk, List.take_add_one, hxi]
          rfl
    · rintro σ H1 ⟨j3, rfl, e1, hdk⟩
      rw [refs_length, List.take_length] at hdk
      have hl1 : H1 l = some (.lst ((out.map Row.num).map V.int)) := by
        rw [← nums_map]
        exact e1 _ _ hl
      have pm : (L.map inum).Perm (out.map Row.num) := by
        rw [item_num]
        exact (G.perm.map _).symm
      refine q_when (b := false) (et_is (et_or (et_not (et_B (ev_cb (z := .bl true) (ea_cons (ev_var rfl) (ea_cons ev_c ea_nil)) fun H2 e2 Q q => ⟨.ref l, "list", rfl, .lst (e2 _ _ hl1), q H2 (Ex.refl _)⟩)))
        (fun _ => et_sameSort (ex_sortD (ns := L.map inum) (ev_var rfl) hdk (ents_keys L) (by rw [List.length_map]; omega)) (ex_sortL (ns := out.map Row.num) (ev_var rfl) hl1 (by rw [List.length_map]; omega)) pm)) rfl) (fun h => nomatch h) (fun _ H2 e2 => ?_)
      refine q_asg ev_c fun H3 e3 => ?_
      have e13 := e2.trans e3
      refine q_forR1 (n := ((out.map Row.num).map V.int).length) (ea_cons (ev_len (ev_var rfl) (sq_of (e13 _ _ hl1))) ea_nil) (by rw [List.length_map, List.length_map]; omega) (fun i σ H' => ∃ j3 j5, σ = [some (.ref a), some (.ref l), some (.ref d), j3, some (.int (lastVal 0 (out.take i))), j5, none] ∧ Ex H1 H') ?_ ?_ ?_
      · exact fun H4 e4 => ⟨_, _, rfl, e13.trans e4⟩
      · rintro i σ H' hi ⟨j3, j5, rfl, e⟩
        rw [List.length_map, List.length_map] at hi
        have hi' : i < out.length := by omega
        have hxi : out[i]? = some out[i] := List.getElem?_eq_getElem hi'
        generalize out[i] = r at hxi
        have hro : r ∈ out := List.mem_of_getElem? hxi
        obtain ⟨x, hx, rfl⟩ := mem_rows (G.mem.mp hro)
        have atx : ((out.map Row.num).map V.int)[i]? = some (.int x.2.num) := by
          rw [List.map_map, List.getElem?_map, hxi]
          rfl
        refine q_asg (v := .ref x.1) (ev_dget (ev_var rfl) (ev_op (ev_var rfl) (ev_var rfl) (rv_ixL (sq_of (e _ _ hl1)) (atI_nat atx))) (.inl (e _ _ hdk)) (row_at W hx)) fun H4 e4 => ?_
        have hrow : ∀ {H5}, Ex H4 H5 → H5 x.1 = some (.tup x.2.vs) := fun e5 => (((e1.trans e).trans e4).trans e5) _ _ (hL.tup x hx)
        have rowr : ∀ r, r ∈ out.drop (i + 1) → ∀ {H5}, Ex H4 H5 → H5 (itemOf L r).1 = some (.tup r.vs) := fun r hr _ e5 => by
          obtain ⟨k1, k2⟩ := itemOf_spec (G.mem.mp (List.mem_of_mem_drop hr))
          have := (((e1.trans e).trans e4).trans e5) _ _ (hL.tup _ k1)
          rw [k2] at this
          exact this
        have rd : Rd H4 d (.dK (ents inum iref L)) := .inl ((e.trans e4) _ _ hdk)
        have look : ∀ r, r ∈ out.drop (i + 1) → valV (ents inum iref L) (Sum.inl r.num : Key) = some (.ref (itemOf L r).1) := fun r hr => by
          obtain ⟨k1, k2⟩ := itemOf_spec (G.mem.mp (List.mem_of_mem_drop hr))
          have := row_at W k1
          rw [k2] at this
          exact this
        have cl := el_compN (K := K) (L := out.drop (i + 1)) (rf := fun r => .int r.num) (tl := tSl (rSlL K) (tVar 1) (tPart (tOp (rI0 fun i j => .int (i + j)) (tVar 5) (tC (.int 1)))) tNoPart) (H := H4)
          (σ := [some (.ref a), some (.ref l), some (.ref d), some (.ref x.1), some (.int (lastVal 0 (out.take i))), some (.int (i : Int)), none]) (g := gName 6) (vs := [6])
          (tt := tTest (tOp (rI0 fun i j => .bl (decide (i < j))) (tOp (rIxT K) (tDGet (tVar 2) (tVar 6)) (tC (.int 4))) (tOp (rIxT K) (tVar 3) (tC (.int 3))))) (te := tVar 6) (fun r => decide (r.fin < x.2.beg)) (fun r => .int r.num)
          (fun r => [some (.ref a), some (.ref l), some (.ref d), some (.ref x.1), some (.int (lastVal 0 (out.take i))), some (.int (i : Int)), some (.int r.num)]) ?_ (by rw [List.length_drop]; omega)
          (fun t _ H1 _ Q q => q) (fun _ _ => rfl) (fun r hr H5 e5 => et_test (ev_op (ev_op (ev_dget (ev_var rfl) (ev_var rfl) (ex_rd e5 rd) (look r hr)) ev_c (rv_ixT (st_of (rowr r hr e5)) rfl)) (ev_beg (hrow e5)) rv_I0)) (fun r hr _ H5 e5 => ev_var rfl)
        · have fe : (out.drop (i + 1)).filter (fun r => decide (r.fin < x.2.beg)) = [] := by
            rw [List.filter_eq_nil_iff]
            intro y hy k
            have k1 := pair_drop G.pair hxi hy
            have k2 := of_decide_eq_true k
            omega
          rw [fe] at cl
          refine q_when (b := false) (et_test (ev_opLL (xs := []) (ys := []) cl (el_lst ea_nil (by show 0 ≤ 100000; decide)) fun p z H5 hp hz e5 => fun H6 e6 Q q => ⟨.list [], .list [], .lst (SqL.of (e6 _ _ hp)) .nil, .lst (SqL.of (e6 _ _ hz)) .nil, rfl, rfl, q H6 (Ex.refl _)⟩)) (fun h => nomatch h) (fun _ H5 e5 => ?_)
          refine q_when (b := false) (et_is (et_and (et_test (ev_op (ev_kind (hrow e5)) ev_c (rv_eq rfl))) (fun _ => et_test (ev_op (ev_val (hrow e5)) (ev_var rfl) (rv_ne rfl)))) ?_) (fun h => nomatch h) (fun _ H6 e6 => ?_)
          · rw [kind_r]
            cases hw : x.2.wr with
            | true => rfl
            | false =>
              rw [reads_at G.reads hxi hw]
              simp
          refine s_asg (ev_val (hrow (e5.trans e6))) fun H7 e7 => ?_
          refine ⟨some (.ref x.1), some (.int (i : Int)), ?_, (((e.trans e4).trans e5).trans e6).trans e7⟩
          rw [lastVal_take hxi]
          rfl
        · have := el_sl (K := K) (σ := [some (.ref a), some (.ref l), some (.ref d), some (.ref x.1), some (.int (lastVal 0 (out.take i))), some (.int (i : Int)), none]) (te := tVar 1) (tl := tPart (tOp (rI0 fun i j => .int (i + j)) (tVar 5) (tC (.int 1)))) (th := tNoPart) (hi := none) (lo := some ((i + 1 : Nat) : Int)) (ev_var rfl)
            (eo_some (ev_is (ev_op (ev_var rfl) ev_c rv_I0) rfl)) eo_none (sq_of ((e.trans e4) _ _ hl1))
          rw [cut_drop, List.map_map, ← List.map_drop] at this
          exact this
      · rintro σ H' ⟨j3, j5, rfl, e⟩
        refine s_ret (v := .bl true) ev_c fun H5 e5 => ?_
        exact q H5 ((e1.trans e).trans e5)
end
end K49

/-! _law_zone. -/
namespace K49
open PySem PySem.Spec PyProof.Rows L2 Evl
section
variable {K : PySem.W.Frag} {H H' : Hp} {σ : L2.St} {ta tb te : TE}
theorem el_rep {xs : List V} {k : Int} (ha : EvL ta σ H xs) (hb : Ev tb σ H (.int k)) (hk : 0 ≤ k ∧ k ≤ 100) (hl : xs.length ≤ 100) : EvL (tOp rRep ta tb) σ H (List.replicate k.toNat xs).flatten := fun H1 e Q q =>
  ha H1 e _ fun a H2 ha2 e2 h2 => hb H2 (e.trans e2) _ fun H3 e3 => ⟨a, k, xs, rfl, rfl, e3 _ _ h2, by omega, by omega, by
    have h3 : k.toNat ≤ 100 := by omega
    have h4 : xs.length * k.toNat ≤ 100 * 100 := Nat.mul_le_mul hl h3
    exact sz_of (by omega), fun p hp => q p _ (fresh_back (e2.trans e3) hp) ((e2.trans e3).trans (Ex.new hp)) upd_same⟩
theorem el_catLL {xs ys : List V} (ha : EvL ta σ H xs) (hb : EvL tb σ H ys) (hl : xs.length + ys.length ≤ 100000) : EvL (tOp rCat ta tb) σ H (xs ++ ys) := fun H1 e Q q =>
  ha H1 e _ fun a H2 ha2 e2 h2 => hb H2 (e.trans e2) _ fun b H3 hb3 e3 hy => ⟨a, b, xs, ys, rfl, rfl, e3 _ _ h2, hy, sz_of hl, fun p hp => q p _ (fresh_back (e2.trans e3) hp) ((e2.trans e3).trans (Ex.new hp)) upd_same⟩
end
theorem rep_nought (v : Int) : (List.replicate (if decide (V.int v = V.int 0) = true then (1 : Int) else 0).toNat [V.int (-1)]).flatten = (nought v).map V.int := by
  unfold nought
  by_cases c : v = 0
  · subst c
    rw [if_pos rfl, if_pos (by simp)]
    rfl
  · have : ¬ V.int v = V.int 0 := fun k => c (V.int.inj k)
    rw [if_neg c, if_neg (by simp [this])]
    rfl
theorem filter_rows (L : List Item) (v : Int) : (rows L).filter (fun r => decide (r.val = v)) = rows (L.filter fun x => decide (x.2.val = v)) := List.filter_map ..
theorem nought_len (v : Int) : (nought v).length ≤ 1 := by
  unfold nought
  split <;> decide
def spZone : Sp := fun vs H Q _ => ∃ (a : Addr) (v : Int) (L : List Item), vs = [.ref a, .int v] ∧ Hist H a L ∧ L.length ≤ 60 ∧ Has (rows L) v ∧
  ∀ (H' : Hp) (p : Addr) (f l : Int), Ex H H' → H p = none → H' p = some (.tup [.int f, .int l]) → Zone (rows L) v f l → Q (.ref p) H'
section
variable {P : Program} {w : World} {K : PySem.W.Frag} {mg : Str → Option Value} {base : Heap} {H : Hp}
theorem ok_zone {f : Addr} {fd : FuncData} (F : Fun K "_law_zone" "_law_zone" s__law_zone f fd) (T : Blt mg) : FnOk P w K mg base CX0 1 f fd ["history", "value"] spZone := by
  refine F.ok sc__law_zone (fun vs H Q E h => ?_) (fun cdv A outer s H vs Q E hr h => ?_)
  · obtain ⟨a, v, L, rfl, _⟩ := h
    rfl
  · obtain ⟨a, v, L, rfl, hL, hlen, hv, q⟩ := h
    have nd := sc__law_zone.nd
    have hu := hu_of hr
    refine ⟨_, pss_cons (ps_set (i := 2) nd rfl (.inl rfl) (pe_op op_rep (pe_lst (pa_cons (pe_un un_neg pe_int) pa_nil)) (pe_callTy call_int1 (by rfl) T.it (by decide +kernel) (pa_cons (pe_cmpR op_eq (pv 1) pe_int (nomark _)) pa_nil))))
      (pss_cons (ps_set (i := 3) nd rfl (.inl rfl) (pe_op op_cat (pv 2) (pe_lc (own := [("row", 4)]) (g := gName 4) rfl nd (pi_list (pv 0))
          (blkOk_by (own := [("row", 4)]) (N := ["history", "value", "nought", "ends", "row"]) (sc := defScope s__law_zone) (by decide +kernel)) (fun _ _ _ _ _ => pg_name (i := 4) nd rfl (.inl rfl)) (fun _ _ _ _ _ => pts_one (pt_cmpR op_eq (pe_col K (pv 4) pe_int) (pv 1) (nomark _))) (fun _ _ _ _ _ => pe_col K (pv 4) pe_int))))
      (pss_one (ps_ret (pe_tup (pa_cons (pe_callB (cr_min rfl) (by rfl) T.mn (by decide +kernel) (pa_cons (pv 3) pa_nil)) (pa_cons (pe_callB (cr_max rfl) (by rfl) T.mx (by decide +kernel) (pa_cons (pe_op op_cat (pv 2) (pe_lc (own := [("row", 4)]) (g := gName 4) rfl nd (pi_list (pv 0))
          (blkOk_by (own := [("row", 4)]) (N := ["history", "value", "nought", "ends", "row"]) (sc := defScope s__law_zone) (by decide +kernel)) (fun _ _ _ _ _ => pg_name (i := 4) nd rfl (.inl rfl)) (fun _ _ _ _ _ => pts_one (pt_cmpR op_eq (pe_col K (pv 4) pe_int) (pv 1) (nomark _))) (fun _ _ _ _ _ => pe_col K (pv 4) pe_int))) pa_nil)) pa_nil)))))), ?_⟩
    have same : ∀ x : Item, decide (V.int x.2.val = V.int v) = decide (x.2.val = v) := fun x => by
      by_cases c : x.2.val = v
      · simp [c]
      · have : ¬ V.int x.2.val = V.int v := fun k => c (V.int.inj k)
        simp [c, this]
    have lenF := List.length_filter_le (fun x : Item => decide (x.2.val = v)) L
    have ln := nought_len v
    -- nought
    refine q_asgX (evX_L (el_rep (xs := [.int (-1)]) (el_lst (ea_cons (ev_un ev_c ru_neg) ea_nil) (by show 1 ≤ 100000; decide)) (k := if decide (V.int v = V.int 0) = true then 1 else 0)
      (ev_cb (ea_cons (ev_op (ev_var rfl) ev_c (rv_eq rfl)) ea_nil) fun H1 e1 Q q => .inr ⟨_, rfl, q H1 (Ex.refl _)⟩) (by split <;> omega) (by decide))) fun n H1 hn e1 hn1 => ?_
    rw [rep_nought] at hn1
    -- ends
    refine q_asgX (evX_L (el_cat (ev_var rfl) hn1 (el_comp (L := L) (rf := iref) (fun x => decide (x.2.val = v)) (fun x => .int x.2.fin) (fun x => [some (.ref a), some (.int v), some (.ref n), none, some (.ref x.1)]) (ev_var rfl) (sq_of (e1 _ _ hL.lst)) (by omega)
      (fun t _ H1 _ Q q => q) (fun _ _ => rfl) (fun x hx H2 e2 => et_is (et_test (ev_op (ev_val ((e1.trans e2) _ _ (hL.tup x hx))) (ev_var rfl) (rv_eq rfl))) (same x)) (fun x hx _ H2 e2 => ev_fin ((e1.trans e2) _ _ (hL.tup x hx)))) ?_)) fun m H2 hm e2 hm2 => ?_
    · rw [List.length_map, List.length_map]
      omega
    have em : (nought v).map V.int ++ ((L.filter fun x => decide (x.2.val = v)).map fun x => V.int x.2.fin) = (ends (rows L) v).map V.int := by
      unfold ends
      rw [filter_rows, List.map_append, List.map_map, List.map_map]
      rfl
    rw [em] at hm2
    have ne1 : 0 < (ends (rows L) v).length := by
      obtain ⟨f, l, z⟩ := zone_ex hv
      exact List.length_pos_of_mem z.mn.1
    have ne2 : 0 < (begs (rows L) v).length := by
      obtain ⟨f, l, z⟩ := zone_ex hv
      exact List.length_pos_of_mem z.mx.1
    refine ⟨_, rfl, m, _, rfl, sq_of hm2, ne1, fun f hf1 hf2 => ?_⟩
    refine el_cat (H := H2) (ev_var rfl) (e2 _ _ hn1) (el_comp (L := L) (rf := iref) (fun x => decide (x.2.val = v)) (fun x => .int x.2.beg) (fun x => [some (.ref a), some (.int v), some (.ref n), some (.ref m), some (.ref x.1)]) (ev_var rfl) (sq_of ((e1.trans e2) _ _ hL.lst)) (by omega)
      (fun t _ H1 _ Q q => q) (fun _ _ => rfl) (fun x hx H3 e3 => et_is (et_test (ev_op (ev_val (((e1.trans e2).trans e3) _ _ (hL.tup x hx))) (ev_var rfl) (rv_eq rfl))) (same x)) (fun x hx _ H3 e3 => ev_beg (((e1.trans e2).trans e3) _ _ (hL.tup x hx)))) ?_ H2 (Ex.refl _) _ fun b H3 hb e3 hb3 => ?_
    · rw [List.length_map, List.length_map]
      omega
    have eb : (nought v).map V.int ++ ((L.filter fun x => decide (x.2.val = v)).map fun x => V.int x.2.beg) = (begs (rows L) v).map V.int := by
      unfold begs
      rw [filter_rows, List.map_append, List.map_map, List.map_map]
      rfl
    rw [eb] at hb3
    refine ⟨b, _, rfl, sq_of hb3, ne2, fun l hl1 hl2 => ⟨by show 2 ≤ sizeLine; decide, fun p hp => ?_⟩⟩
    exact q _ p f l (((e1.trans e2).trans e3).trans (Ex.new hp)) (fresh_back ((e1.trans e2).trans e3) hp) upd_same ⟨⟨hf1, hf2⟩, ⟨hl1, hl2⟩⟩
end
end K49

/-! _law_reasons. -/
namespace K49
open PySem PySem.Spec PyProof.Rows L2 Evl

/-! ### all but one object kept -/
def But (f : Addr) (H H' : Hp) : Prop := ∀ b o, b ≠ f → H b = some o → H' b = some o
theorem But.refl (f : Addr) (H : Hp) : But f H H := fun _ _ _ h => h
theorem But.ex {f : Addr} {H H1 H2 : Hp} (a : But f H H1) (e : Ex H1 H2) : But f H H2 := fun b o n h => e b o (a b o n h)
theorem But.upd {f : Addr} {H H1 : Hp} {o : HO} (a : But f H H1) : But f H (upd H1 f o) := fun b u n h => by
  rw [upd_ne n]
  exact a b u n h
theorem But.trans {f : Addr} {H H1 H2 : Hp} (a : But f H H1) (c : But f H1 H2) : But f H H2 := fun b o n h => c b o n (a b o n h)
theorem But.of {f : Addr} {H H1 : Hp} (e : Ex H H1) : But f H H1 := fun b o _ h => e b o h
theorem But.all {f : Addr} {H H1 H2 : Hp} (e : Ex H H1) (h : H f = none) (a : But f H1 H2) : Ex H H2 := fun b o hb => a b o (ne_of_none hb h) (e b o hb)

/-! ### the reasons of two values, as the loops find them -/
def cnd (u : Word) (z y : ZItem) : Bool := (decide (z.2.key ≠ y.2.key) && (decide (z.2.f < y.2.l) && (decide (y.2.f < z.2.l) && decide (z.2.f < z.2.l)))) &&
  ((decide (u = .both) && (decide (z.2.key < y.2.key) && decide (y.2.f < y.2.l))) || (decide (u = .within) && decide (y.2.l ≤ y.2.f)))
def prs (u : Word) (z : ZItem) (L : List ZItem) : List Rsn := (L.filter (cnd u z)).map fun y => (u, z.2.key, y.2.key)
def prss (u : Word) (Z L : List ZItem) : List Rsn := L.flatMap fun z => prs u z Z
theorem prs_snoc {u : Word} {z y : ZItem} {L : List ZItem} {j : Nat} (h : L[j]? = some y) : prs u z (L.take (j + 1)) = prs u z (L.take j) ++ (if cnd u z y = true then [(u, z.2.key, y.2.key)] else []) := by
  unfold prs
  rw [take_succ_filter h]
  by_cases c : cnd u z y = true
  · rw [if_pos c, if_pos c, List.map_append]
    rfl
  · rw [if_neg c, if_neg c, List.append_nil]
theorem prss_snoc {u : Word} {z : ZItem} {Z : List ZItem} {i : Nat} (h : Z[i]? = some z) : prss u Z (Z.take (i + 1)) = prss u Z (Z.take i) ++ prs u z Z := by
  unfold prss
  rw [List.take_add_one, h, List.flatMap_append]
  show _ ++ (prs u z Z ++ []) = _
  rw [List.append_nil]
theorem mem_prss {u : Word} {Z : List ZItem} {y : Rsn} : y ∈ prss u Z Z ↔ ∃ z w, z ∈ Z ∧ w ∈ Z ∧ cnd u z w = true ∧ y = (u, z.2.key, w.2.key) := by
  unfold prss prs
  rw [List.mem_flatMap]
  constructor
  · rintro ⟨z, hz, h⟩
    obtain ⟨w, hw, e⟩ := List.mem_map.mp h
    obtain ⟨h1, h2⟩ := List.mem_filter.mp hw
    exact ⟨z, w, hz, h1, h2, e.symm⟩
  · rintro ⟨z, w, hz, hw, h, e⟩
    exact ⟨z, hz, List.mem_map.mpr ⟨w, List.mem_filter.mpr ⟨hw, h⟩, e.symm⟩⟩
theorem cnd_reason {rs : List Row} {u : Word} {z y : ZItem} (hu : u ≠ .early) (hz : Zone rs z.2.key z.2.f z.2.l) (hy : Zone rs y.2.key y.2.f y.2.l) : cnd u z y = true ↔ Reason rs u z.2.key y.2.key := by
  unfold cnd
  cases u with
  | early => exact (hu rfl).elim
  | both =>
    simp only [Bool.and_eq_true, Bool.or_eq_true, decide_eq_true_eq]
    constructor
    · rintro ⟨⟨h1, h2, h3, h4⟩, (⟨_, h5, h6⟩ | ⟨h, _⟩)⟩
      · exact ⟨_, _, _, _, hz, hy, h5, h2, h3, h4, h6⟩
      · cases h
    · rintro ⟨fa, la, fb, lb, za, zb, c5, c1, c2, c3, c4⟩
      obtain ⟨rfl, rfl⟩ := za.uniq hz
      obtain ⟨rfl, rfl⟩ := zb.uniq hy
      exact ⟨⟨Int.ne_of_lt c5, c1, c2, c3⟩, .inl ⟨trivial, c5, c4⟩⟩
  | within =>
    simp only [Bool.and_eq_true, Bool.or_eq_true, decide_eq_true_eq]
    constructor
    · rintro ⟨⟨h1, h2, h3, h4⟩, (⟨h, _⟩ | ⟨_, h5⟩)⟩
      · cases h
      · exact ⟨_, _, _, _, hz, hy, h1, h2, h3, h4, h5⟩
    · rintro ⟨fa, la, fb, lb, za, zb, c5, c1, c2, c3, c4⟩
      obtain ⟨rfl, rfl⟩ := za.uniq hz
      obtain ⟨rfl, rfl⟩ := zb.uniq hy
      exact ⟨⟨c5, c1, c2, c3⟩, .inr ⟨trivial, c4⟩⟩
/-- the reasons stand at f, all else as in H0 -/
structure Rs (f : Addr) (H0 : Hp) (xs : List Rsn) (n : Nat) (H : Hp) : Prop where
  but : But f H0 H
  ex : ∃ R : List RItem, H f = some (.lst (refs R)) ∧ Tups Rsn.vs H R ∧ R.map Prod.snd = xs ∧ R.length ≤ n
theorem Rs.ext {f : Addr} {H0 H H' : Hp} {xs : List Rsn} {n : Nat} (h : Rs f H0 xs n H) (e : Ex H H') : Rs f H0 xs n H' := by
  obtain ⟨R, h1, h2, h3, h4⟩ := h.ex
  exact ⟨h.but.ex e, R, e _ _ h1, h2.ex e, h3, h4⟩
theorem Rs.more {f : Addr} {H0 H : Hp} {xs : List Rsn} {n m : Nat} (h : Rs f H0 xs n H) (k : n ≤ m) : Rs f H0 xs m H := by
  obtain ⟨R, h1, h2, h3, h4⟩ := h.ex
  exact ⟨h.but, R, h1, h2, h3, Nat.le_trans h4 k⟩
section
variable {K : PySem.W.Frag} {D : Ends} {σ : L2.St}
/-- found.append((word, one, other)) -/
theorem rs_app {f : Addr} {H0 H : Hp} {xs : List Rsn} {n : Nat} {y : Rsn} {ta te : TE} (h : Rs f H0 xs n H) (hn : n ≤ 50000) (ha : Ev ta σ H (.ref f)) (hy : EvU te σ H y.vs) (k : ∀ H1, Rs f H0 (xs ++ [y]) (n + 1) H1 → D.nx σ H1) :
    tDrop (tBM K "list" rAppend ta (tCons te tNil)) D σ H := by
  obtain ⟨R, h1, h2, h3, h4⟩ := h.ex
  refine s_appU h1 ha hy (by rw [refs_length]; omega) fun p H1 hp e hp1 => k _ ?_
  have t : TEx H1 (upd H1 f (.lst (refs R ++ [.ref p]))) := TEx.lst (e _ _ h1)
  refine ⟨(h.but.ex e).upd, R ++ [(p, y)], ?_, ((h2.ex e).tex t).app (Tups.cons (t _ _ hp1) Tups.nil), ?_, ?_⟩
  · rw [upd_same, refs_append]
    rfl
  · rw [List.map_append, h3]
    rfl
  · rw [List.length_append, List.length_singleton]
    omega
end
def spReasons : Sp := fun vs H Q _ => ∃ (a : Addr) (u : Word) (L : List Item), vs = [.ref a, .str (wordS u)] ∧ Hist H a L ∧ WF (rows L) ∧
  ∀ (H' : Hp) (p : Addr) (R : List RItem), Ex H H' → H p = none → H' p = some (.lst (refs R)) → Tups Rsn.vs H' R → RList (rows L) u R → R.length ≤ 10000 → Q (.ref p) H'
end K49

/-! _law_reasons, the def. -/
namespace K49
open PySem PySem.Spec PyProof.Rows L2 Evl

/-! ### the early ones, as the loop finds them -/
def eas (r : Row) (Ws : List Item) : List Rsn := (Ws.filter fun x => decide (x.2.val = r.val) && decide (r.fin < x.2.beg)).map fun x => (Word.early, r.num, x.2.num)
def eass (Ws Rs : List Item) : List Rsn := Rs.flatMap fun r => eas r.2 Ws
theorem eass_snoc {Ws Rs : List Item} {r : Item} {i : Nat} (h : Rs[i]? = some r) : eass Ws (Rs.take (i + 1)) = eass Ws (Rs.take i) ++ eas r.2 Ws := by
  unfold eass
  rw [List.take_add_one, h, List.flatMap_append]
  show _ ++ (eas r.2 Ws ++ []) = _
  rw [List.append_nil]
theorem mem_eass {Ws Rs : List Item} {y : Rsn} : y ∈ eass Ws Rs ↔ ∃ r x, r ∈ Rs ∧ x ∈ Ws ∧ x.2.val = r.2.val ∧ r.2.fin < x.2.beg ∧ y = (Word.early, r.2.num, x.2.num) := by
  unfold eass eas
  rw [List.mem_flatMap]
  constructor
  · rintro ⟨r, hr, h⟩
    obtain ⟨x, hx, e⟩ := List.mem_map.mp h
    obtain ⟨h1, h2⟩ := List.mem_filter.mp hx
    rw [Bool.and_eq_true, decide_eq_true_eq, decide_eq_true_eq] at h2
    exact ⟨r, x, hr, h1, h2.1, h2.2, e.symm⟩
  · rintro ⟨r, x, hr, hx, h1, h2, e⟩
    exact ⟨r, hr, List.mem_map.mpr ⟨x, List.mem_filter.mpr ⟨hx, by rw [decide_eq_true h1, decide_eq_true h2]; rfl⟩, e.symm⟩⟩
theorem rl_of_list {rs : List Row} {u : Word} {R : List RItem} {xs : List Rsn} (h : R.map Prod.snd = xs) (hx : ∀ y, y ∈ xs ↔ (y.1 = u ∧ Reason rs y.1 y.2.1 y.2.2)) : RList rs u R := fun y => by
  rw [← hx, ← h, List.mem_map]
theorem dint (a b : Int) : decide (V.int a = V.int b) = decide (a = b) := by
  by_cases c : a = b
  · simp [c]
  · have : ¬ V.int a = V.int b := fun k => c (V.int.inj k)
    simp [c, this]
/-- new zones of the values ns -/
theorem zones_of {rs : List Row} {H : Hp} : ∀ {ns : List Int} {ys : List V}, Paired (fun v x => ∃ z : Zn, z.key = v ∧ Zone rs v z.f z.l ∧ TupR Zn.vs z x H) ns ys →
    ∃ PZ : List ZItem, ys = refs PZ ∧ PZ.map zkey = ns ∧ (∀ q, q ∈ PZ → Zone rs q.2.key q.2.f q.2.l) ∧ Tups Zn.vs H PZ
  | _, _, .nil => ⟨[], rfl, rfl, fun _ h => (nomatch h), Tups.nil⟩
  | _, _, .cons ⟨z, e, hz, p, e2, h⟩ t => by
    obtain ⟨PZ, e1, e3, e4, e5⟩ := zones_of t
    subst e1 e3 e2 e
    refine ⟨(p, z) :: PZ, rfl, rfl, fun q hq => ?_, Tups.cons h e5⟩
    rcases List.mem_cons.mp hq with k | k
    · rw [k]
      exact hz
    · exact e4 q k
abbrev nmR : List Str := ["history", "word", "found", "row", "writes", "one", "values", "places", "first", "other", "second", "value"]
section
variable {P : Program} {w : World} {K : PySem.W.Frag} {mg : Str → Option Value} {base : Heap} {H : Hp}
/-- values = sorted(set([0] + ..)) -/
theorem ex_values {σ : L2.St} {te : TE} {xs : List Int} (h : EvL te σ H (xs.map V.int)) (hn : xs.length ≤ 60) :
    EvX (tCB (rSortedSet w) (tCons (tCB (rSetOfI K w) (tCons (tOp rCat (tLst (tCons (tC (.int 0)) tNil)) te) tNil)) tNil)) σ H (fun p H2 => ∃ ns : List Int, H2 p = some (.lst (ns.map V.int)) ∧ ns.Pairwise (· < ·) ∧ (∀ v, v ∈ ns ↔ v = 0 ∨ v ∈ xs) ∧ ns.length ≤ 61) := fun H1 e Q q => by
  have hl : EvL (tOp rCat (tLst (tCons (tC (.int 0)) tNil)) te) σ H ((0 :: xs).map V.int) := by
    have := el_catLL (xs := [V.int 0]) (el_lst (ea_cons ev_c ea_nil) (by show 1 ≤ 100000; decide)) h (by rw [List.length_map]; show 1 + _ ≤ _; omega)
    exact this
  refine hl H1 e _ fun a H2 ha e2 ha2 => ⟨a, 0 :: xs, rfl, sq_of ha2, by rw [List.length_cons]; omega, fun b n hb hbn => ⟨b, _, n, rfl, upd_same, ?_, fun ns p hp1 hp2 hp3 hp4 => ?_⟩⟩
  · rw [List.length_cons] at hb
    omega
  · refine q p _ (fresh_back (e2.trans (Ex.new hbn)) hp4) ((e2.trans (Ex.new hbn)).trans (Ex.new hp4)) ⟨ns, upd_same, hp1, fun v => ?_, ?_⟩
    · rw [hp2, decide_eq_true_eq, List.mem_cons]
    · rw [List.length_cons] at hb
      omega
theorem ok_reasons {f fZ : Addr} {fd fdZ : FuncData} (F : Fun K "_law_reasons" "_law_reasons" s__law_reasons f fd) (T : Blt mg) (FZ : Fun K "_law_zone" "_law_zone" s__law_zone fZ fdZ) (bZ : Binds K fdZ ["history", "value"] []) (gZ : mg "_law_zone" = some (.ref fZ)) :
    FnOk P w K mg base CX0 2 f fd ["history", "word"] spReasons := by
  have GZ : FnOk P w K mg base CX0 1 fZ fdZ ["history", "value"] spZone := ok_zone FZ T
  refine F.ok sc__law_reasons (fun vs H Q E h => ?_) (fun cdv A outer s H vs Q E hr h => ?_)
  · obtain ⟨a, u, L, rfl, _⟩ := h
    rfl
  · obtain ⟨a, u, L, rfl, hL, W, q⟩ := h
    have nd := sc__law_reasons.nd
    have hu := hu_of hr
    have hlen := len_rows W
    refine ⟨_, pss_cons (ps_set (i := 2) nd rfl (.inl rfl) (pe_lst pa_nil))
      (pss_cons (ps_if (pt_cmpR op_eq (pv 1) pe_str (nomark _))
          (pss_cons (ps_setLc (i := 4) (own := [("row", 3)]) (g := gName 3) rfl nd rfl rfl (sw_true rfl rfl rfl (by decide +kernel)) (pi_list (pv 0)) (blkOk_by (own := [("row", 3)]) (N := nmR) (sc := defScope s__law_reasons) (by decide +kernel)) (fun _ _ _ _ _ => pg_name (i := 3) nd rfl (.inl rfl))
              (fun _ _ _ _ _ => pts_one (pt_cmpR op_eq (pe_col K (pv 3) pe_int) pe_str (nomark _))) (fun _ _ _ _ _ => pv 3))
          (pss_cons (ps_for PassesOwn.never rfl (pi_list (pe_lc (own := [("row", 3)]) (g := gName 3) rfl nd (pi_list (pv 0)) (blkOk_by (own := [("row", 3)]) (N := nmR) (sc := defScope s__law_reasons) (by decide +kernel)) (fun _ _ _ _ _ => pg_name (i := 3) nd rfl (.inl rfl))
              (fun _ _ _ _ _ => pts_one (pt_cmpR op_eq (pe_col K (pv 3) pe_int) pe_str (nomark _))) (fun _ _ _ _ _ => pv 3))) (pg_name (i := 3) nd rfl (.inr rfl))
            (pss_one (ps_set (i := 2) nd rfl (.inl rfl) (pe_op op_cat (pv 2) (pe_lc (own := [("one", 5)]) (g := gName 5) rfl nd (pi_list (pv 4)) (blkOk_by (own := [("one", 5)]) (N := nmR) (sc := defScope s__law_reasons) (by decide +kernel)) (fun _ _ _ _ _ => pg_name (i := 5) nd rfl (.inl rfl))
              (fun _ _ _ _ _ => pts_one (PW.pt (pw_and (pt_cmpR op_eq (pe_col K (pv 5) pe_int) (pe_col K (pv 3) pe_int) (nomark _)) (pw_and1 (pt_cmpR op_lt (pe_col K (pv 3) pe_int) (pe_col K (pv 5) pe_int) (nomark _))))))
              (fun _ _ _ _ _ => pe_tup (pa_cons (pv 1) (pa_cons (pe_col K (pv 3) pe_int) (pa_cons (pe_col K (pv 5) pe_int) pa_nil)))))))))
          (pss_one (ps_ret (pv 2))))) pss_nil)
      (pss_cons (ps_set (i := 6) nd rfl (.inl rfl) (pe_callB (cr_sortedSet rfl) (by rfl) T.so (by decide +kernel) (pa_cons (pe_callTy (cr_setOfI rfl) (by rfl) T.st (by decide +kernel) (pa_cons (pe_op op_cat (pe_lst (pa_cons pe_int pa_nil))
          (pe_lc (own := [("row", 3)]) (g := gName 3) (tt := tYes) rfl nd (pi_list (pv 0)) (blkOk_by (own := [("row", 3)]) (N := nmR) (sc := defScope s__law_reasons) (by decide +kernel)) (fun _ _ _ _ _ => pg_name (i := 3) nd rfl (.inl rfl)) (fun _ _ _ _ _ => pts_nil) (fun _ _ _ _ _ => pe_col K (pv 3) pe_int))) pa_nil)) pa_nil)))
      (pss_cons (ps_setLc (i := 7) (own := [("value", 11)]) (g := gName 11) (tt := tYes) rfl nd rfl rfl (sw_true rfl rfl rfl (by decide +kernel)) (pi_list (pv 6)) (blkOk_by (own := [("value", 11)]) (N := nmR) (sc := defScope s__law_reasons) (by decide +kernel)) (fun _ _ _ _ _ => pg_name (i := 11) nd rfl (.inl rfl)) (fun _ _ _ _ _ => pts_nil)
          (fun _ _ _ _ _ => pe_call GZ hr (by rfl) gZ FZ.kp bZ .nil pass0 (pa_cons (pv 0) (pa_cons (pv 11) pa_nil))))
      (pss_cons (ps_for PassesOwn.never rfl (pi_zip (by rfl) T.zp (pa_cons (pv 6) (pa_cons (pv 7) pa_nil))) (pg_tup rfl (pgs_cons (pg_name (i := 5) nd rfl (.inl rfl)) (pgs_cons (pg_name (i := 8) nd rfl (.inl rfl)) pgs_nil)))
        (pss_one (ps_for PassesOwn.never rfl (pi_zip (by rfl) T.zp (pa_cons (pv 6) (pa_cons (pv 7) pa_nil))) (pg_tup rfl (pgs_cons (pg_name (i := 9) nd rfl (.inl rfl)) (pgs_cons (pg_name (i := 10) nd rfl (.inl rfl)) pgs_nil)))
          (pss_one (ps_if (PW.pt (pw_and (pt_cmpR op_ne (pv 5) (pv 9) (nomark _)) (pw_and (pt_cmpR op_lt (pe_ix ix_tup (pv 8) pe_int (fun _ _ => rfl)) (pe_ix ix_tup (pv 10) pe_int (fun _ _ => rfl)) (nomark _))
              (pw_and (pt_cmpR op_lt (pe_ix ix_tup (pv 10) pe_int (fun _ _ => rfl)) (pe_ix ix_tup (pv 8) pe_int (fun _ _ => rfl)) (nomark _)) (pw_and1 (pt_cmpR op_lt (pe_ix ix_tup (pv 8) pe_int (fun _ _ => rfl)) (pe_ix ix_tup (pv 8) pe_int (fun _ _ => rfl)) (nomark _)))))))
            (pss_cons (ps_if (PW.pt (pw_and (pt_cmpR op_eq (pv 1) pe_str (nomark _)) (pw_and (pt_cmpR op_lt (pv 5) (pv 9) (nomark _)) (pw_and1 (pt_cmpR op_lt (pe_ix ix_tup (pv 10) pe_int (fun _ _ => rfl)) (pe_ix ix_tup (pv 10) pe_int (fun _ _ => rfl)) (nomark _))))))
                (pss_one (ps_expr (pe_bm PySem.F.plainAttrs_list PySem.F.slot_list_append PySem.F.type_list_append mt_append (pv 2) (pa_cons (pe_tup (pa_cons (pv 1) (pa_cons (pv 5) (pa_cons (pv 9) pa_nil)))) pa_nil)))) pss_nil)
            (pss_one (ps_if (PW.pt (pw_and (pt_cmpR op_eq (pv 1) pe_str (nomark _)) (pw_and1 (pt_cmpR op_ge (pe_ix ix_tup (pv 10) pe_int (fun _ _ => rfl)) (pe_ix ix_tup (pv 10) pe_int (fun _ _ => rfl)) (nomark _)))))
                (pss_one (ps_expr (pe_bm PySem.F.plainAttrs_list PySem.F.slot_list_append PySem.F.type_list_append mt_append (pv 2) (pa_cons (pe_tup (pa_cons (pv 1) (pa_cons (pv 5) (pa_cons (pv 9) pa_nil)))) pa_nil)))) pss_nil))) pss_nil)))))
      (pss_one (ps_ret (pv 2))))))), ?_⟩
    -- found = []
    refine q_asgX (evX_L (el_lst ea_nil (by show 0 ≤ 100000; decide))) fun fa H1 hfa e1 hfa1 => ?_
    refine q_when (b := decide (u = .early)) (et_is (et_test (ev_op (ev_var rfl) ev_c (rv_eq rfl))) (word_eq u .early)) (fun h H2 e2 => ?_) (fun h H2 e2 => ?_)
    · obtain rfl : u = .early := of_decide_eq_true h
      have e12 := e1.trans e2
      -- writes
      refine q_asgX (evX_L (el_comp (L := L) (rf := iref) (fun x => x.2.wr) iref (fun x => [some (.ref a), some (.str (wordS .early)), some (.ref fa), some (.ref x.1), none, none, none, none, none, none, none, none]) (ev_var rfl) (sq_of (e12 _ _ hL.lst)) (by omega)
        (fun t _ H1 _ Q q => q) (fun _ _ => rfl) (fun x hx H3 e3 => et_is (et_test (ev_op (ev_kind ((e12.trans e3) _ _ (hL.tup x hx))) ev_c (rv_eq rfl))) (kind_w _)) (fun x hx _ H3 e3 => ev_var rfl))) fun wl H3 hwl e3 hwl3 => ?_
      generalize hWs : L.filter (fun x => x.2.wr) = Ws at hwl3
      have memW : ∀ x, x ∈ Ws ↔ x ∈ L ∧ x.2.wr = true := fun x => by rw [← hWs, List.mem_filter]
      have lenW : Ws.length ≤ 60 := by
        rw [← hWs]
        have := List.length_filter_le (fun x : Item => x.2.wr) L
        omega
      have e13 := e12.trans e3
      -- the loop
      refine q_forNL (xs := (L.filter fun x => !x.2.wr).map iref) (el_comp (L := L) (rf := iref) (fun x => !x.2.wr) iref (fun x => [some (.ref a), some (.str (wordS .early)), some (.ref fa), some (.ref x.1), some (.ref wl), none, none, none, none, none, none, none]) (ev_var rfl) (sq_of (e13 _ _ hL.lst)) (by omega)
        (fun t _ H1 _ Q q => q) (fun _ _ => rfl) (fun x hx H4 e4 => et_is (et_test (ev_op (ev_kind ((e13.trans e4) _ _ (hL.tup x hx))) ev_c (rv_eq rfl))) (kind_r _)) (fun x hx _ H4 e4 => ev_var rfl))
        (fun p i σ H' => ∃ (f : Addr) (j3 : Option V), σ = [some (.ref a), some (.str (wordS .early)), some (.ref f), j3, some (.ref wl), none, none, none, none, none, none, none] ∧ Ex H3 H' ∧ H' p = some (.lst ((L.filter fun x => !x.2.wr).map iref)) ∧ H f = none ∧
          ∃ R : List RItem, H' f = some (.lst (refs R)) ∧ Tups Rsn.vs H' R ∧ R.map Prod.snd = eass Ws ((L.filter fun x => !x.2.wr).take i) ∧ R.length ≤ i * 60) ?_ ?_ ?_ ?_
      · exact fun p H4 hp e4 hp4 => ⟨fa, none, rfl, e4, hp4, hfa, [], ((e2.trans e3).trans e4) _ _ hfa1, Tups.nil, rfl, Nat.zero_le _⟩
      · rintro p i σ H' _ ⟨f, j3, rfl, e, hp, _⟩
        exact sq_of hp
      · rintro p i y σ H' hi ⟨f, j3, rfl, e, hp, hf, R, hR, tR, mR, lR⟩
        rw [List.getElem?_map] at hi
        cases hxi : (L.filter fun x => !x.2.wr)[i]? with
        | none => rw [hxi] at hi; cases hi
        | some x =>
          rw [hxi] at hi
          obtain rfl : V.ref x.1 = y := Option.some.inj hi
          have hm : x ∈ L := (List.mem_filter.mp (List.mem_of_getElem? hxi)).1
          have hi60 : i < 60 := by
            have h1 := (List.getElem?_eq_some_iff.mp hxi).1
            have h2 := List.length_filter_le (fun x : Item => !x.2.wr) L
            omega
          refine s_asgX (R := fun z H'' => ∃ R' : List RItem, H'' z = some (.lst (refs R')) ∧ Tups Rsn.vs H'' R' ∧ R'.map Prod.snd = eass Ws ((L.filter fun x => !x.2.wr).take (i + 1)) ∧ R'.length ≤ (i + 1) * 60) ?_ fun z H5 hz e5 hz5 => ?_
          · intro H4 e4 Q4 q4
            refine ⟨_, rfl, ?_⟩
            refine et_comp (K := K) (L := Ws) (rf := iref) (H := H') (fun y => decide (y.2.val = x.2.val) && decide (x.2.fin < y.2.beg)) (fun y => [.str (wordS .early), .int x.2.num, .int y.2.num])
              (fun y => [some (.ref a), some (.str (wordS .early)), some (.ref f), some (.ref x.1), some (.ref wl), some (.ref y.1), none, none, none, none, none, none]) (ev_var rfl) (sq_of (e _ _ hwl3)) (by omega) (fun t _ H1 _ Q q => q) (fun _ _ => rfl)
              (fun y hy H5 e5 => et_and (et_is (et_test (ev_op (ev_val (((e13.trans e).trans e5) _ _ (hL.tup y ((memW y).mp hy).1))) (ev_val (((e13.trans e).trans e5) _ _ (hL.tup x hm))) (rv_eq rfl))) (dint _ _))
                (fun _ => et_test (ev_op (ev_fin (((e13.trans e).trans e5) _ _ (hL.tup x hm))) (ev_beg (((e13.trans e).trans e5) _ _ (hL.tup y ((memW y).mp hy).1))) rv_I0)))
              (fun y hy _ H5 e5 => eu_tup (ea_cons (ev_var rfl) (ea_cons (ev_num (((e13.trans e).trans e5) _ _ (hL.tup x hm))) (ea_cons (ev_num (((e13.trans e).trans e5) _ _ (hL.tup y ((memW y).mp hy).1))) ea_nil))) (by show 3 ≤ 100000; decide))
              H4 e4 _ fun b H5 hb e5 ⟨S, hS, mS, tS⟩ => ?_
            have lenS : S.length ≤ 60 := by
              have e := congrArg List.length mS
              rw [List.length_map] at e
              have := List.length_filter_le (fun y : Item => decide (y.2.val = x.2.val) && decide (x.2.fin < y.2.beg)) Ws
              omega
            refine ⟨f, b, _, _, rfl, rfl, e5 _ _ (e4 _ _ hR), hS, ?_, fun z hz => ?_⟩
            · rw [refs_length, refs_length]
              exact sz_of (by omega)
            · refine q4 z _ (fresh_back e5 hz) (e5.trans (Ex.new hz)) ⟨R ++ S.map fun t => (t.1, ((Word.early, x.2.num, t.2.2.num) : Rsn)), ?_, ?_, ?_, ?_⟩
              · rw [upd_same, refs_append]
                unfold refs
                rw [List.map_map]
                rfl
              · refine (tR.ex ((e4.trans e5).trans (Ex.new hz))).app fun t ht => ?_
                obtain ⟨v, hv, rfl⟩ := List.mem_map.mp ht
                exact Ex.new hz _ _ (tS v hv)
              · rw [List.map_append, mR, eass_snoc hxi]
                unfold eas
                rw [← mS, List.map_map, List.map_map]
                rfl
              · rw [List.length_append, List.length_map]
                omega
          · obtain ⟨R', h1, h2, h3, h4⟩ := hz5
            exact ⟨z, some (.ref x.1), rfl, e.trans e5, e5 _ _ hp, fresh_back (e13.trans e) hz, R', h1, h2, h3, h4⟩
      · rintro p σ H' ⟨f, j3, rfl, e, hp, hf, R, hR, tR, mR, lR⟩
        rw [List.length_map, List.take_length] at mR
        refine s_ret (v := .ref f) (ev_var rfl) fun H5 e5 => q H5 f R ((e13.trans e).trans e5) hf (e5 _ _ hR) (tR.ex e5) (rl_of_list mR fun y => ?_) ?_
        · rw [mem_eass]
          constructor
          · rintro ⟨r, x, hr, hx, h1, h2, rfl⟩
            obtain ⟨r1, r2⟩ := List.mem_filter.mp hr
            obtain ⟨x1, x2⟩ := (memW x).mp hx
            exact ⟨rfl, r.2, x.2, in_rows r1, in_rows x1, by simpa using r2, x2, h1, h2, rfl, rfl⟩
          · obtain ⟨v, n, m⟩ := y
            rintro ⟨hv, RR⟩
            obtain rfl : v = .early := hv
            obtain ⟨r, x, hr, hx, h1, h2, h3, h4, rfl, rfl⟩ := RR
            obtain ⟨r', hr', rfl⟩ := mem_rows hr
            obtain ⟨x', hx', rfl⟩ := mem_rows hx
            exact ⟨r', x', List.mem_filter.mpr ⟨hr', by simpa using h1⟩, (memW x').mpr ⟨hx', h2⟩, h3, h4, rfl⟩
        · rw [List.length_map] at lR
          have := List.length_filter_le (fun x : Item => !x.2.wr) L
          omega
    · have nu : u ≠ .early := of_decide_eq_false h
      have e12 := e1.trans e2
      have hfa2 := e2 _ _ hfa1
      -- values
      refine q_asgX (ex_values (K := K) (w := w) (xs := L.map fun x => x.2.val) (by
        have := el_comp (K := K) (L := L) (rf := iref) (te := tOp (rIxT K) (tVar 3) (tC (.int 2))) (tt := tYes) (g := gName 3) (vs := [3]) (tl := tVar 0) (fun _ => true) (fun x => .int x.2.val) (σ := [some (.ref a), some (.str (wordS u)), some (.ref fa), none, none, none, none, none, none, none, none, none]) (fun x => [some (.ref a), some (.str (wordS u)), some (.ref fa), some (.ref x.1), none, none, none, none, none, none, none, none]) (ev_var rfl) (sq_of (e12 _ _ hL.lst)) (by omega)
          (fun t _ H1 _ Q q => q) (fun _ _ => rfl) (fun _ _ _ _ => et_yes) (fun x hx _ H3 e3 => ev_val ((e12.trans e3) _ _ (hL.tup x hx)))
        rw [filter_yes] at this
        rw [List.map_map]
        exact this) (by rw [List.length_map]; exact hlen)) fun vl H3 hvl e3 ⟨ns, hvl3, sns, mns, lns⟩ => ?_
      have has : ∀ v, v ∈ ns ↔ Has (rows L) v := fun v => by
        rw [mns]
        unfold Has
        constructor
        · rintro (k | k)
          · exact .inl k
          · obtain ⟨x, hx, e⟩ := List.mem_map.mp k
            exact .inr ⟨x.2, in_rows hx, e⟩
        · rintro (k | ⟨r, hr, e⟩)
          · exact .inl k
          · obtain ⟨x, hx, rfl⟩ := mem_rows hr
            exact .inr (List.mem_map.mpr ⟨x, hx, e⟩)
      have e13 := e12.trans e3
      -- places
      refine q_asgX (ex_comp (L := ns) (rf := V.int) (fun _ => true) (fun v x H => ∃ z : Zn, z.key = v ∧ Zone (rows L) v z.f z.l ∧ TupR Zn.vs z x H) (fun v => [some (.ref a), some (.str (wordS u)), some (.ref fa), none, none, none, some (.ref vl), none, none, none, none, some (.int v)]) (ev_var rfl) (sq_of hvl3) (by omega)
        (fun t _ H1 _ Q q => q) (fun _ _ => rfl) (fun _ _ _ _ => et_yes) (fun v hv _ H4 e4 => fun H5 e5 Q5 q5 => ⟨_, rfl, _, rfl, a, v, L, rfl, hL.ex ((e13.trans e4).trans e5), hlen, (has v).mp hv, fun H6 p f l e6 hp hp1 z => q5 (.ref p) H6 e6 ⟨⟨v, f, l⟩, rfl, z, p, rfl, hp1⟩⟩)
        (fun v x H1 H2 t ⟨z, h1, h2, h3⟩ => ⟨z, h1, h2, TupR.mono z x H1 H2 t h3⟩)) fun pl H4 hpl e4 ⟨ys, hpl4, pz⟩ => ?_
      rw [filter_yes] at pz
      obtain ⟨PZ, rfl, kz, zz, tz⟩ := zones_of pz
      have lenZ : PZ.length = ns.length := by
        rw [← kz, List.length_map]
      have hfa4 : H4 fa = some (.lst (refs ([] : List RItem))) := (e3.trans e4) _ _ hfa2
      have nvl : vl ≠ fa := fun k => by
        rw [k, hfa2] at hvl
        cases hvl
      have npl : pl ≠ fa := fun k => by
        rw [k, e3 _ _ hfa2] at hpl
        cases hpl
      have nz : ∀ {z}, z ∈ PZ → z.1 ≠ fa := fun hz => ne_of (tz _ hz) hfa4 (fun k => by cases k)
      have at_ : ∀ {i : Nat} {x y : V}, (ns.map V.int)[i]? = some x → (refs PZ)[i]? = some y → ∃ z, PZ[i]? = some z ∧ z ∈ PZ ∧ x = .int z.2.key ∧ y = .ref z.1 := fun {i x y} hx hy => by
        unfold refs at hy
        rw [List.getElem?_map] at hy
        cases hzi : PZ[i]? with
        | none => rw [hzi] at hy; cases hy
        | some z =>
          rw [hzi] at hy
          rw [← kz, List.map_map, List.getElem?_map, hzi] at hx
          exact ⟨z, rfl, List.mem_of_getElem? hzi, (Option.some.inj hx).symm, (Option.some.inj hy).symm⟩
      have lens : (ns.map V.int).length = (refs PZ).length := by
        rw [List.length_map, refs_length, lenZ]
      have e14 := e13.trans e4
      -- the loops
      refine ⟨_, rfl, _, rfl, vl, pl, ns.map V.int, refs PZ, rfl, sq_of (e4 _ _ hvl3), sq_of hpl4, RZ.for_zipL (K := K) lens (fun i σ H' => ∃ j5 j8 j9 j10, σ = [some (.ref a), some (.str (wordS u)), some (.ref fa), none, none, j5, some (.ref vl), some (.ref pl), j8, j9, j10, none] ∧ Rs fa H4 (prss u PZ (PZ.take i)) (i * PZ.length) H') ?_ ?_ ?_ ?_⟩
      · exact ⟨none, none, none, none, rfl, But.refl _ _, [], hfa4, Tups.nil, rfl, Nat.zero_le _⟩
      · rintro i σ H' ⟨_, _, _, _, _, rs⟩
        exact ⟨sq_of (rs.but _ _ nvl (e4 _ _ hvl3)), sq_of (rs.but _ _ npl hpl4)⟩
      · rintro i x y T1 σ H' hx hy ⟨j5, j8, j9, j10, rfl, rs⟩ hT1
        obtain ⟨z, hzi, hz, rfl, rfl⟩ := at_ hx hy
        have hi : i < PZ.length := (List.getElem?_eq_some_iff.mp hzi).1
        have rs := rs.ext (Ex.new (o := .tup [.int z.2.key, .ref z.1]) hT1)
        refine ⟨T1, _, rfl, st_of upd_same, rfl, _, _, rfl, _, _, rfl, rfl, ?_⟩
        generalize upd H' T1 (.tup [.int z.2.key, .ref z.1]) = H5 at rs
        refine ⟨_, rfl, _, rfl, vl, pl, ns.map V.int, refs PZ, rfl, sq_of (rs.but _ _ nvl (e4 _ _ hvl3)), sq_of (rs.but _ _ npl hpl4), RZ.for_zipL (K := K) lens (fun j σ H' => ∃ j9 j10, σ = [some (.ref a), some (.str (wordS u)), some (.ref fa), none, none, some (.int z.2.key), some (.ref vl), some (.ref pl), some (.ref z.1), j9, j10, none] ∧
          Rs fa H4 (prss u PZ (PZ.take i) ++ prs u z (PZ.take j)) (i * PZ.length + j) H') ?_ ?_ ?_ ?_⟩
        · refine ⟨_, _, rfl, ?_⟩
          have e0 : prss u PZ (PZ.take i) ++ prs u z (PZ.take 0) = prss u PZ (PZ.take i) := List.append_nil _
          rw [e0]
          exact rs
        · rintro j σ H' ⟨_, _, _, rs⟩
          exact ⟨sq_of (rs.but _ _ nvl (e4 _ _ hvl3)), sq_of (rs.but _ _ npl hpl4)⟩
        · rintro j x y T2 σ H' hx hy ⟨j9, j10, rfl, rs⟩ hT2
          obtain ⟨v, hvj, hv, rfl, rfl⟩ := at_ hx hy
          have hj : j < PZ.length := (List.getElem?_eq_some_iff.mp hvj).1
          have rs := rs.ext (Ex.new (o := .tup [.int v.2.key, .ref v.1]) hT2)
          refine ⟨T2, _, rfl, st_of upd_same, rfl, _, _, rfl, _, _, rfl, rfl, ?_⟩
          generalize upd H' T2 (.tup [.int v.2.key, .ref v.1]) = H6 at rs
          have hz6 : H6 z.1 = some (.tup z.2.vs) := rs.but _ _ (nz hz) (tz z hz)
          have hv6 : H6 v.1 = some (.tup v.2.vs) := rs.but _ _ (nz hv) (tz v hv)
          have bound : i * PZ.length + (j + 1) ≤ 50000 := by
            have h1 : i * PZ.length ≤ 61 * 61 := Nat.mul_le_mul (by omega) (by omega)
            omega
          have zf : ∀ {H7}, Ex H6 H7 → Ev (tOp (rIxT K) (tVar 8) (tC (.int 0))) [some (.ref a), some (.str (wordS u)), some (.ref fa), none, none, some (.int z.2.key), some (.ref vl), some (.ref pl), some (.ref z.1), some (.int v.2.key), some (.ref v.1), none] H7 (.int z.2.f) := fun e => ev_op (ev_var rfl) ev_c (rv_ixT (st_of (e _ _ hz6)) rfl)
          have zl : ∀ {H7}, Ex H6 H7 → Ev (tOp (rIxT K) (tVar 8) (tC (.int 1))) [some (.ref a), some (.str (wordS u)), some (.ref fa), none, none, some (.int z.2.key), some (.ref vl), some (.ref pl), some (.ref z.1), some (.int v.2.key), some (.ref v.1), none] H7 (.int z.2.l) := fun e => ev_op (ev_var rfl) ev_c (rv_ixT (st_of (e _ _ hz6)) rfl)
          have vf : ∀ {H7}, H7 v.1 = some (.tup v.2.vs) → Ev (tOp (rIxT K) (tVar 10) (tC (.int 0))) [some (.ref a), some (.str (wordS u)), some (.ref fa), none, none, some (.int z.2.key), some (.ref vl), some (.ref pl), some (.ref z.1), some (.int v.2.key), some (.ref v.1), none] H7 (.int v.2.f) := fun h => ev_op (ev_var rfl) ev_c (rv_ixT (st_of h) rfl)
          have vl_ : ∀ {H7}, H7 v.1 = some (.tup v.2.vs) → Ev (tOp (rIxT K) (tVar 10) (tC (.int 1))) [some (.ref a), some (.str (wordS u)), some (.ref fa), none, none, some (.int z.2.key), some (.ref vl), some (.ref pl), some (.ref z.1), some (.int v.2.key), some (.ref v.1), none] H7 (.int v.2.l) := fun h => ev_op (ev_var rfl) ev_c (rv_ixT (st_of h) rfl)
          -- what comes behind the turn
          have yes : cnd u z v = true → ∀ H7, Rs fa H4 (prss u PZ (PZ.take i) ++ prs u z (PZ.take j) ++ [((u, z.2.key, v.2.key) : Rsn)]) (i * PZ.length + j + 1) H7 → Rs fa H4 (prss u PZ (PZ.take i) ++ prs u z (PZ.take (j + 1))) (i * PZ.length + (j + 1)) H7 := fun c H7 r => by
            rw [prs_snoc hvj, if_pos c, ← List.append_assoc]
            exact r
          have no : ¬ cnd u z v = true → ∀ H7, Rs fa H4 (prss u PZ (PZ.take i) ++ prs u z (PZ.take j)) (i * PZ.length + j) H7 → Rs fa H4 (prss u PZ (PZ.take i) ++ prs u z (PZ.take (j + 1))) (i * PZ.length + (j + 1)) H7 := fun c H7 r => by
            rw [prs_snoc hvj, if_neg c, List.append_nil]
            exact r.more (by omega)
          have tupE : ∀ {H7}, EvU (tTup (tCons (tVar 1) (tCons (tVar 5) (tCons (tVar 9) tNil)))) [some (.ref a), some (.str (wordS u)), some (.ref fa), none, none, some (.int z.2.key), some (.ref vl), some (.ref pl), some (.ref z.1), some (.int v.2.key), some (.ref v.1), none] H7 (Rsn.vs (u, z.2.key, v.2.key)) := eu_tup (ea_cons (ev_var rfl) (ea_cons (ev_var rfl) (ea_cons (ev_var rfl) ea_nil))) (by show 3 ≤ 100000; decide)
          refine s_when (b := decide (z.2.key ≠ v.2.key) && (decide (z.2.f < v.2.l) && (decide (v.2.f < z.2.l) && decide (z.2.f < z.2.l)))) (et_and (et_is (et_test (ev_op (ev_var rfl) (ev_var rfl) (rv_ne rfl))) (by rw [dint]; simp)) (fun _ => et_and (et_test (ev_op (zf (Ex.refl _)) (vl_ hv6) rv_I0)) (fun _ => et_and (et_test (ev_op (vf hv6) (zl (Ex.refl _)) rv_I0)) (fun _ => et_test (ev_op (zf (Ex.refl _)) (zl (Ex.refl _)) rv_I0))))) (fun c1 H7 e7 => ?_) (fun c1 H7 e7 => ?_)
          · refine q_when (b := decide (u = .both) && (decide (z.2.key < v.2.key) && decide (v.2.f < v.2.l))) (et_and (et_is (et_test (ev_op (ev_var rfl) ev_c (rv_eq rfl))) (word_eq u .both)) (fun _ => et_and (et_test (ev_op (ev_var rfl) (ev_var rfl) rv_I0)) (fun _ => et_test (ev_op (vf (e7 _ _ hv6)) (vl_ (e7 _ _ hv6)) rv_I0)))) (fun c2 H8 e8 => ?_) (fun c2 H8 e8 => ?_)
            · have hb : u = .both := by
                rw [Bool.and_eq_true, decide_eq_true_eq] at c2
                exact c2.1
              have c : cnd u z v = true := by
                unfold cnd
                rw [c1, c2]
                rfl
              refine rs_app ((rs.ext e7).ext e8) (by omega) (ev_var rfl) tupE fun H9 r9 => ?_
              have hv9 : H9 v.1 = some (.tup v.2.vs) := r9.but _ _ (nz hv) (tz v hv)
              refine s_when (b := decide (u = .within) && decide (v.2.l ≤ v.2.f)) (et_and (et_is (et_test (ev_op (ev_var rfl) ev_c (rv_eq rfl))) (word_eq u .within)) (fun _ => et_test (ev_op (vf hv9) (vl_ hv9) rv_I0))) (fun c3 H10 e10 => ?_) (fun c3 H10 e10 => ?_)
              · rw [hb] at c3
                cases c3
              · exact ⟨_, _, rfl, yes c H10 (r9.ext e10)⟩
            · refine s_when (b := decide (u = .within) && decide (v.2.l ≤ v.2.f)) (et_and (et_is (et_test (ev_op (ev_var rfl) ev_c (rv_eq rfl))) (word_eq u .within)) (fun _ => et_test (ev_op (vf ((e7.trans e8) _ _ hv6)) (vl_ ((e7.trans e8) _ _ hv6)) rv_I0))) (fun c3 H9 e9 => ?_) (fun c3 H9 e9 => ?_)
              · have c : cnd u z v = true := by
                  unfold cnd
                  rw [c1, c2, c3]
                  rfl
                exact rs_app (((rs.ext e7).ext e8).ext e9) (by omega) (ev_var rfl) tupE fun H10 r10 => ⟨_, _, rfl, yes c H10 r10⟩
              · have c : ¬ cnd u z v = true := by
                  unfold cnd
                  rw [c1, c2, c3]
                  decide
                exact ⟨_, _, rfl, no c H9 (((rs.ext e7).ext e8).ext e9)⟩
          · have c : ¬ cnd u z v = true := by
              unfold cnd
              rw [c1]
              intro k
              cases k
            exact ⟨_, _, rfl, no c H7 (rs.ext e7)⟩
        · rintro σ H' ⟨j9, j10, rfl, rs⟩
          refine ⟨_, _, _, _, rfl, ?_⟩
          rw [List.length_map, ← lenZ, List.take_length, ← prss_snoc hzi] at rs
          rw [Nat.succ_mul]
          exact rs
      · rintro σ H' ⟨j5, j8, j9, j10, rfl, rs⟩
        rw [List.length_map, ← lenZ, List.take_length] at rs
        obtain ⟨R, hR, tR, mR, lR⟩ := rs.ex
        refine s_ret (v := .ref fa) (ev_var rfl) fun H5 e5 => q H5 fa R ((But.all e1 hfa ((But.of (e2.trans (e3.trans e4))).trans rs.but)).trans e5) hfa (e5 _ _ hR) (tR.ex e5) (rl_of_list mR fun y => ?_) ?_
        · rw [mem_prss]
          have zkeys : ∀ v, Has (rows L) v → ∃ z, z ∈ PZ ∧ z.2.key = v := fun v hv => by
            have h1 := (has v).mpr hv
            rw [← kz] at h1
            obtain ⟨z, hz, e⟩ := List.mem_map.mp h1
            exact ⟨z, hz, e⟩
          constructor
          · rintro ⟨z, v, hz, hv, c, rfl⟩
            exact ⟨rfl, (cnd_reason nu (zz z hz) (zz v hv)).mp c⟩
          · obtain ⟨t, n, m⟩ := y
            rintro ⟨ht, RR⟩
            obtain rfl : t = u := ht
            have hn : Has (rows L) n ∧ Has (rows L) m := by
              cases t with
              | early => exact (nu rfl).elim
              | both =>
                obtain ⟨_, _, _, _, za, zb, _⟩ := RR
                exact ⟨za.has, zb.has⟩
              | within =>
                obtain ⟨_, _, _, _, za, zb, _⟩ := RR
                exact ⟨za.has, zb.has⟩
            obtain ⟨z, hz, rfl⟩ := zkeys n hn.1
            obtain ⟨v, hv, rfl⟩ := zkeys m hn.2
            exact ⟨z, v, hz, hv, (cnd_reason nu (zz z hz) (zz v hv)).mpr RR, rfl⟩
        · have h1 : PZ.length * PZ.length ≤ 61 * 61 := Nat.mul_le_mul (by omega) (by omega)
          omega
end
end K49

/-! _law_bag, _law_take. -/
namespace K49
open PySem PySem.Spec PyProof.Rows L2 Evl
/-- a bag at p -/
def Bag (H : Hp) (p : Addr) : Prop := ∃ b0 b1 : Int, H p = some (.lst [.int b0, .int b1]) ∧ 0 ≤ b0 ∧ 0 ≤ b1 ∧ b1 ≤ 2147483647
theorem Bag.ex {H H' : Hp} {p : Addr} (b : Bag H p) (e : Ex H H') : Bag H' p := let ⟨b0, b1, h, r⟩ := b; ⟨b0, b1, e _ _ h, r⟩
def spBag (K : PySem.W.Frag) : Sp := fun vs H Q _ => ∃ (a : Addr) (k : Int) (ns : List Int), vs = [.ref a, .int k] ∧ SqL K H a (ns.map V.int) ∧ ns.length ≤ 63 ∧ 0 ≤ k ∧ k ≤ 100 ∧
  ∀ (H' : Hp) (p : Addr), Ex H H' → H p = none → Bag H' p → Q (.ref p) H'
def spTake : Sp := fun vs H Q _ => ∃ (p : Addr) (m : Int), vs = [.ref p, .int m] ∧ Bag H p ∧ 0 < m ∧ m ≤ 1000000 ∧ ∀ (i : Int) (H' : Hp), 0 ≤ i → i < m → Bag H' p → But p H H' → Q (.int i) H'
section
variable {P : Program} {w : World} {K : PySem.W.Frag} {mg : Str → Option Value} {base : Heap} {H : Hp}
theorem mod_in {x m : Int} (h : 0 < m) : 0 ≤ x % m ∧ x % m < m := ⟨Int.emod_nonneg _ (by omega), Int.emod_lt_of_pos _ h⟩
theorem ok_bag {f : Addr} {fd : FuncData} (F : Fun K "_law_bag" "_law_bag" s__law_bag f fd) (T : Blt mg) : FnOk P w K mg base CX0 1 f fd ["script", "k"] (spBag K) := by
  refine F.ok sc__law_bag (fun vs H Q E h => ?_) (fun cdv A outer s H vs Q E hr h => ?_)
  · obtain ⟨a, k, ns, rfl, _⟩ := h
    rfl
  · obtain ⟨a, k, ns, rfl, hs, hn, k0, k1, q⟩ := h
    have nd := sc__law_bag.nd
    refine ⟨_, pss_cons (ps_set (i := 2) nd rfl (.inl rfl) pe_int)
      (pss_cons (ps_if (pt_cmpR op_lt (pv 1) (pe_callB call_len_seq (by rfl) T.ln PySem.boot_len (pa_cons (pv 0) pa_nil)) (nomark _)) (pss_one (ps_set (i := 2) nd rfl (.inl rfl) (pe_callB call_abs (by rfl) T.ab (by decide +kernel) (pa_cons (pe_ix ix_list (pv 0) (pv 1) (fun _ _ => rfl)) pa_nil)))) pss_nil)
      (pss_cons (ps_if (pt_cmpR op_lt (pv 2) (pe_op op_pow pe_int pe_int) (nomark _))
        (pss_one (ps_ret (pe_lst (pa_cons pe_int (pa_cons (pe_op op_add pe_int (pe_op op_mod (pe_op op_add (pe_op op_mul (pv 2) pe_int) (pe_op op_mul pe_int (pv 1))) pe_int)) pa_nil))))) pss_nil)
      (pss_one (ps_ret (pe_lst (pa_cons (pv 2) (pa_cons (pe_op op_add pe_int (pe_op op_mod (pe_op op_add (pv 2) (pv 1)) pe_int)) pa_nil))))))), ?_⟩
    refine q_asg ev_c fun H1 e1 => ?_
    -- behind the first if: some cell
    have go : ∀ (c : Int) (H2 : Hp), Ex H H2 → 0 ≤ c → tSeq (tIfS (tTest (tOp (rI0 fun i j => .bl (decide (i < j))) (tVar 2) (tOp (rI CPow fun i j => .int (i ^ j.toNat)) (tC (.int 10)) (tC (.int 18)))))
        (tRet (tLst (tCons (tC (.int 0)) (tCons (tOp (rI0 fun i j => .int (i + j)) (tC (.int 1)) (tOp (rI (fun _ j => 0 < j) fun i j => .int (i % j)) (tOp (rI0 fun i j => .int (i + j)) (tOp (rI CMul fun i j => .int (i * j)) (tVar 2) (tC (.int 7919))) (tOp (rI CMul fun i j => .int (i * j)) (tC (.int 104729)) (tVar 1))) (tC (.int 2147483646)))) tNil)))) tNext)
        (tRet (tLst (tCons (tVar 2) (tCons (tOp (rI0 fun i j => .int (i + j)) (tC (.int 1)) (tOp (rI (fun _ j => 0 < j) fun i j => .int (i % j)) (tOp (rI0 fun i j => .int (i + j)) (tVar 2) (tVar 1)) (tC (.int 2147483646)))) tNil)))) { nx := fun _ H' => Q .non H', rt := Q } [some (.ref a), some (.int k), some (.int c)] H2 := by
      intro c H2 e2 hc
      refine q_when (b := decide (c < 10 ^ 18)) (et_test (ev_op (ev_var rfl) (ev_op ev_c ev_c (rv_I ⟨by decide, by decide, by decide⟩)) rv_I0)) (fun h H3 e3 => ?_) (fun h H3 e3 => ?_)
      · have lt := of_decide_eq_true h
        have hm := mod_in (x := c * 7919 + 104729 * k) (m := 2147483646) (by decide)
        refine s_retL (el_lst (ea_cons ev_c (ea_cons (ev_op ev_c (ev_op (ev_op (ev_op (ev_var rfl) ev_c (rv_I (.inl ⟨by omega, by omega⟩))) (ev_op ev_c (ev_var rfl) (rv_I (.inl ⟨by decide, by decide⟩))) rv_I0) ev_c (rv_I (by decide))) rv_I0) ea_nil)) (by show 2 ≤ 100000; decide)) fun p H4 hp e4 hp4 =>
          q H4 p ((e2.trans e3).trans e4) (fresh_back (e2.trans e3) hp) ⟨_, _, hp4, by omega, by omega, by omega⟩
      · have hm := mod_in (x := c + k) (m := 2147483646) (by decide)
        refine s_retL (el_lst (ea_cons (ev_var rfl) (ea_cons (ev_op ev_c (ev_op (ev_op (ev_var rfl) (ev_var rfl) rv_I0) ev_c (rv_I (by decide))) rv_I0) ea_nil)) (by show 2 ≤ 100000; decide)) fun p H4 hp e4 hp4 =>
          q H4 p ((e2.trans e3).trans e4) (fresh_back (e2.trans e3) hp) ⟨_, _, hp4, hc, by omega, by omega⟩
    refine q_when (b := decide (k < ((ns.map V.int).length : Int))) (et_test (ev_op (ev_var rfl) (ev_len (ev_var rfl) (ex_l e1 hs)) rv_I0)) (fun h H2 e2 => ?_) (fun h H2 e2 => ?_)
    · have lt := of_decide_eq_true h
      rw [List.length_map] at lt
      have hk : k.toNat < ns.length := by omega
      have ek : k = ((k.toNat : Nat) : Int) := by omega
      refine s_asg (v := .int (if ns[k.toNat] < 0 then -ns[k.toNat] else ns[k.toNat])) (ev_cb (ea_cons (ev_op (ev_var rfl) (ev_var rfl) (rv_ixL (ex_l (e1.trans e2) hs) (v := .int ns[k.toNat]) (at_of ek (by rw [List.getElem?_map, List.getElem?_eq_getElem hk]; rfl)))) ea_nil) fun H3 e3 Q q => ⟨_, rfl, q H3 (Ex.refl _)⟩) fun H3 e3 => ?_
      refine go _ H3 ((e1.trans e2).trans e3) ?_
      split <;> omega
    · exact go 0 H2 (e1.trans e2) (Int.le_refl 0)
theorem ok_take {f : Addr} {fd : FuncData} (F : Fun K "_law_take" "_law_take" s__law_take f fd) : FnOk P w K mg base CX0 1 f fd ["bag", "many"] spTake := by
  refine F.ok sc__law_take (fun vs H Q E h => ?_) (fun cdv A outer s H vs Q E hr h => ?_)
  · obtain ⟨p, m, rfl, _⟩ := h
    rfl
  · obtain ⟨p, m, rfl, ⟨b0, b1, hp, h0, h1, h2⟩, m0, m1, q⟩ := h
    have nd := sc__law_take.nd
    refine ⟨_, pss_cons (ps_if (pt_cmpR op_gt (pe_ix ix_list (pv 0) pe_int (fun _ _ => rfl)) pe_int (nomark _))
        (pss_cons (ps_set (i := 2) nd rfl (.inl rfl) (pe_op op_mod (pe_ix ix_list (pv 0) pe_int (fun _ _ => rfl)) (pv 1)))
        (pss_cons (ps_asg (pe_op op_fdiv (pe_ix ix_list (pv 0) pe_int (fun _ _ => rfl)) (pv 1)) (pg_sub (pv 0) pe_int set_list))
        (pss_one (ps_ret (pv 2))))) pss_nil)
      (pss_cons (ps_asg (pe_op op_mod (pe_op op_mul (pe_ix ix_list (pv 0) pe_int (fun _ _ => rfl)) pe_int) pe_int) (pg_sub (pv 0) pe_int set_list))
      (pss_one (ps_ret (pe_op op_mod (pe_op op_fdiv (pe_op op_mod (pe_op op_mul (pe_ix ix_list (pv 0) pe_int (fun _ _ => rfl)) (pe_ix ix_list (pv 0) pe_int (fun _ _ => rfl))) pe_int) pe_int) (pv 1))))), ?_⟩
    have c0 : ∀ {σ : L2.St} {H' : Hp}, Ex H H' → σ[0]? = some (some (.ref p)) → Ev (tOp (rIxL K) (tVar 0) (tC (.int 0))) σ H' (.int b0) := fun e hs => ev_op (ev_var hs) ev_c (rv_ixL (sq_of (e _ _ hp)) (atI_nat (j := 0) rfl))
    have c1 : ∀ {σ : L2.St} {H' : Hp}, Ex H H' → σ[0]? = some (some (.ref p)) → Ev (tOp (rIxL K) (tVar 0) (tC (.int 1))) σ H' (.int b1) := fun e hs => ev_op (ev_var hs) ev_c (rv_ixL (sq_of (e _ _ hp)) (atI_nat (j := 1) rfl))
    refine q_when (b := decide (0 < b0)) (et_test (ev_op (c0 (Ex.refl _) rfl) ev_c rv_I0)) (fun h H1 e1 => ?_) (fun h H1 e1 => ?_)
    · refine q_asg (v := .int (b0 % m)) (ev_op (c0 e1 rfl) (ev_var rfl) (rv_I m0)) fun H2 e2 => ?_
      refine q_setL (j := 0) (xs := [.int b0, .int b1]) ((e1.trans e2) _ _ hp) (v := .int (b0 / m)) (ev_op (c0 (e1.trans e2) rfl) (ev_var rfl) (rv_I ⟨m0, by omega⟩)) (ev_var rfl) ev_c (by show 0 < 2; decide) fun H3 e3 => ?_
      have hm := mod_in (x := b0) m0
      refine s_ret (v := .int (b0 % m)) (ev_var rfl) fun H4 e4 => q _ H4 hm.1 hm.2 ⟨b0 / m, b1, e4 _ _ upd_same, Int.ediv_nonneg h0 (by omega), h1, h2⟩ ((But.of ((e1.trans e2).trans e3)).upd.ex e4)
    · have hm := mod_in (x := b1 * 48271) (m := 2147483647) (by decide)
      refine q_setL (j := 1) (xs := [.int b0, .int b1]) (e1 _ _ hp) (v := .int (b1 * 48271 % 2147483647)) (ev_op (ev_op (c1 e1 rfl) ev_c (rv_I (.inl ⟨by omega, by omega⟩))) ev_c (rv_I (by decide))) (ev_var rfl) ev_c (by show 1 < 2; decide) fun H2 e2 => ?_
      have hp2 : (upd H2 p (.lst ([V.int b0, V.int b1].set 1 (.int (b1 * 48271 % 2147483647))))) p = some (.lst [.int b0, .int (b1 * 48271 % 2147483647)]) := upd_same
      have bt : But p H (upd H2 p (.lst ([V.int b0, V.int b1].set 1 (.int (b1 * 48271 % 2147483647))))) := (But.of (e1.trans e2)).upd
      generalize upd H2 p (.lst ([V.int b0, V.int b1].set 1 (.int (b1 * 48271 % 2147483647)))) = H3 at hp2 bt
      generalize b1 * 48271 % 2147483647 = d at hp2 hm
      have d1 : ∀ {σ : L2.St}, σ[0]? = some (some (.ref p)) → Ev (tOp (rIxL K) (tVar 0) (tC (.int 1))) σ H3 (.int d) := fun hs => ev_op (ev_var hs) ev_c (rv_ixL (sq_of hp2) (atI_nat (j := 1) rfl))
      have hm2 := mod_in (x := d * d % 2147483629 / 64) m0
      refine s_ret (v := .int (d * d % 2147483629 / 64 % m)) (ev_op (ev_op (ev_op (ev_op (d1 rfl) (d1 rfl) (rv_I (.inl ⟨by omega, by omega⟩))) ev_c (rv_I (by decide))) ev_c (rv_I ⟨by decide, by decide⟩)) (ev_var rfl) (rv_I m0)) fun H4 e4 => q _ H4 hm2.1 hm2.2 ⟨b0, d, e4 _ _ hp2, h0, hm.1, by omega⟩ (bt.ex e4)
theorem take_go {σ : L2.St} {te : TE} {E : XK} {p : Addr} {m : Int} {Q : VK} (ha : σ[0]? = some (some (.ref p))) (hb : Bag H p) (hm : Ev te σ H (.int m)) (h1 : 0 < m ∧ m ≤ 1000000) (k : ∀ i H', 0 ≤ i → i < m → Bag H' p → But p H H' → Q (.int i) H') :
    tCall spTake [] E (tCons (tVar 0) (tCons te tNil)) σ H Q := ⟨.ref p, ha, hm H (Ex.refl _) _ fun H1 e1 => ⟨p, m, rfl, hb.ex e1, h1.1, h1.2, fun i H' h0 hi hb' bt => k i H' h0 hi hb' ((But.of e1).trans bt)⟩⟩
end
end K49

/-! _law_history: the mathematics and the heap. -/
namespace K49
open PySem PySem.Spec PyProof.Rows L2 Evl

/-! ### well-formed histories grow -/
theorem WF.nil : WF [] := ⟨by simp, fun _ _ h => (nomatch h), fun _ h => (nomatch h), fun _ h => (nomatch h), fun _ h => (nomatch h), fun _ h => (nomatch h), by decide⟩
theorem WF.snoc {rs : List Row} {r : Row} (W : WF rs) (hn : ∀ s, s ∈ rs → s.num ≠ r.num) (hw : r.wr = true → (∀ s, s ∈ rs → s.wr = true → s.val ≠ r.val) ∧ r.val ≠ 0)
    (hr : r.wr = false → r.val = 0 ∨ ∃ w, w ∈ rs ∧ w.wr = true ∧ w.val = r.val) (hb : 0 ≤ r.beg) (hl : r.beg < r.fin) (hlen : rs.length < 60) : WF (rs ++ [r]) where
  nums := by
    rw [List.map_append]
    refine List.nodup_append.mpr ⟨W.nums, by simp, fun a ha b hb => ?_⟩
    obtain ⟨s, hs, rfl⟩ := List.mem_map.mp ha
    obtain rfl : b = r.num := by simpa using hb
    exact hn s hs
  wvals := fun x y hx hy wx wy e => by
    rcases List.mem_append.mp hx with kx | kx <;> rcases List.mem_append.mp hy with ky | ky
    · exact W.wvals x y kx ky wx wy e
    · obtain rfl : y = r := by simpa using ky
      exact ((hw wy).1 x kx wx e).elim
    · obtain rfl : x = r := by simpa using kx
      exact ((hw wx).1 y ky wy e.symm).elim
    · obtain rfl : x = r := by simpa using kx
      obtain rfl : y = x := by simpa using ky
      rfl
  wpos := fun x hx wx => by
    rcases List.mem_append.mp hx with hx | hx
    · exact W.wpos x hx wx
    · obtain rfl : x = r := by simpa using hx
      exact (hw wx).2
  has := fun x hx ne => by
    rcases List.mem_append.mp hx with hx | hx
    · obtain ⟨w, h1, h2⟩ := W.has x hx ne
      exact ⟨w, List.mem_append_left _ h1, h2⟩
    · obtain rfl : x = r := by simpa using hx
      cases e : x.wr with
      | true => exact ⟨x, List.mem_append_right _ (by simp), e, rfl⟩
      | false =>
        rcases hr e with k | ⟨w, h1, h2⟩
        · exact (ne k).elim
        · exact ⟨w, List.mem_append_left _ h1, h2⟩
  beg0 := fun x hx => by
    rcases List.mem_append.mp hx with hx | hx
    · exact W.beg0 x hx
    · obtain rfl : x = r := by simpa using hx
      exact hb
  lt := fun x hx => by
    rcases List.mem_append.mp hx with hx | hx
    · exact W.lt x hx
    · obtain rfl : x = r := by simpa using hx
      exact hl
  len := by
    rw [List.length_append, List.length_singleton]
    omega
/-- the value that is written at a turn -/
def wv (t : Nat) : Int := 1 + ((t : Int) * 100 + 11) % 999
theorem wv_pos (t : Nat) : wv t ≠ 0 := by
  unfold wv
  omega
theorem wv_inj {s t : Nat} (hs : s < t) (ht : t < 60) : wv s ≠ wv t := by
  unfold wv
  omega
/-- behind t turns: the values, the rows, the numbers left -/
structure HM (t : Nat) (vs : List Int) (rs : List Row) (ns : List Int) : Prop where
  wf : WF rs
  len : rs.length = t
  vals : ∀ v, v ∈ vs → v = 0 ∨ ∃ x, x ∈ rs ∧ x.wr = true ∧ x.val = v
  vlen : vs.length ≤ t + 1
  vne : 0 < vs.length
  wvs : ∀ x, x ∈ rs → x.wr = true → ∃ k, k < t ∧ x.val = wv k
  nsd : ns.Nodup
  nd : ∀ x, x ∈ rs → ¬ x.num ∈ ns
  nl : ns.length + t = 70
theorem HM.start {ns : List Int} (h1 : ns.Nodup) (h2 : ns.length = 70) : HM 0 [0] [] ns :=
  ⟨WF.nil, rfl, fun v hv => .inl (by simpa using hv), Nat.le_refl _, by decide, fun _ h => (nomatch h), h1, fun _ h => (nomatch h), h2⟩
theorem HM.write {t : Nat} {vs ns : List Int} {rs : List Row} {k : Nat} {n beg fin : Int} (M : HM t vs rs ns) (ht : t < 60) (hk : ns[k]? = some n) (hb : 0 ≤ beg) (hl : beg < fin) :
    HM (t + 1) (vs ++ [wv t]) (rs ++ [⟨n, true, wv t, beg, fin⟩]) (ns.eraseIdx k) where
  wf := M.wf.snoc (fun s hs e => M.nd s hs (by rw [show s.num = n from e]; exact List.mem_of_getElem? hk)) (fun _ => ⟨fun s hs ws e => by
      obtain ⟨j, hj, ej⟩ := M.wvs s hs ws
      exact wv_inj hj ht (ej.symm.trans e), wv_pos t⟩) (fun h => nomatch h) hb hl (by rw [M.len]; exact ht)
  len := by
    rw [List.length_append, M.len]
    rfl
  vals := fun v hv => by
    rcases List.mem_append.mp hv with h | h
    · rcases M.vals v h with k | ⟨x, h1, h2⟩
      · exact .inl k
      · exact .inr ⟨x, List.mem_append_left _ h1, h2⟩
    · obtain rfl : v = wv t := by simpa using h
      exact .inr ⟨⟨n, true, wv t, beg, fin⟩, List.mem_append_right _ (by simp), rfl, rfl⟩
  vlen := by
    have := M.vlen
    rw [List.length_append, List.length_singleton]
    omega
  vne := by
    rw [List.length_append, List.length_singleton]
    omega
  wvs := fun x hx wx => by
    rcases List.mem_append.mp hx with h | h
    · obtain ⟨j, hj, ej⟩ := M.wvs x h wx
      exact ⟨j, by omega, ej⟩
    · obtain rfl : x = ⟨n, true, wv t, beg, fin⟩ := by simpa using h
      exact ⟨t, by omega, rfl⟩
  nsd := M.nsd.sublist (List.eraseIdx_sublist ..)
  nd := fun x hx hm => by
    obtain ⟨h1, h2⟩ := (mem_erase M.nsd hk _).mp hm
    rcases List.mem_append.mp hx with h | h
    · exact M.nd x h h1
    · obtain rfl : x = ⟨n, true, wv t, beg, fin⟩ := by simpa using h
      exact h2 rfl
  nl := by
    have h1 := (List.getElem?_eq_some_iff.mp hk).1
    have := M.nl
    rw [List.length_eraseIdx_of_lt h1]
    omega
theorem HM.read {t : Nat} {vs ns : List Int} {rs : List Row} {k : Nat} {n v beg fin : Int} (M : HM t vs rs ns) (ht : t < 60) (hk : ns[k]? = some n) (hv : v ∈ vs) (hb : 0 ≤ beg) (hl : beg < fin) :
    HM (t + 1) vs (rs ++ [⟨n, false, v, beg, fin⟩]) (ns.eraseIdx k) where
  wf := M.wf.snoc (fun s hs e => M.nd s hs (by rw [show s.num = n from e]; exact List.mem_of_getElem? hk)) (fun h => nomatch h) (fun _ => M.vals v hv) hb hl (by rw [M.len]; exact ht)
  len := by
    rw [List.length_append, M.len]
    rfl
  vals := fun u hu => by
    rcases M.vals u hu with k | ⟨x, h1, h2⟩
    · exact .inl k
    · exact .inr ⟨x, List.mem_append_left _ h1, h2⟩
  vlen := by
    have := M.vlen
    omega
  vne := M.vne
  wvs := fun x hx wx => by
    rcases List.mem_append.mp hx with h | h
    · obtain ⟨j, hj, ej⟩ := M.wvs x h wx
      exact ⟨j, by omega, ej⟩
    · obtain rfl : x = ⟨n, false, v, beg, fin⟩ := by simpa using h
      cases wx
  nsd := M.nsd.sublist (List.eraseIdx_sublist ..)
  nd := fun x hx hm => by
    obtain ⟨h1, h2⟩ := (mem_erase M.nsd hk _).mp hm
    rcases List.mem_append.mp hx with h | h
    · exact M.nd x h h1
    · obtain rfl : x = ⟨n, false, v, beg, fin⟩ := by simpa using h
      exact h2 rfl
  nl := by
    have h1 := (List.getElem?_eq_some_iff.mp hk).1
    have := M.nl
    rw [List.length_eraseIdx_of_lt h1]
    omega

/-! ### the heap while the history is made -/
structure HS (H0 : Hp) (p va ra na : Addr) (vs : List Int) (L : List Item) (ns : List Int) (H : Hp) : Prop where
  but : But p H0 H
  bag : Bag H p
  v : H va = some (.lst (vs.map V.int))
  r : H ra = some (.lst (refs L))
  n : H na = some (.lst (ns.map V.int))
  tup : Tups Row.vs H L
  f1 : H0 va = none
  f2 : H0 ra = none
  f3 : H0 na = none
  d1 : va ≠ p
  d2 : ra ≠ p
  d3 : na ≠ p
  d4 : va ≠ ra
  d5 : va ≠ na
  d6 : ra ≠ na
section
variable {H0 H H' : Hp} {p va ra na : Addr} {vs ns : List Int} {L : List Item}
theorem tups_but {f : Addr} {xs : List V} (t : Tups Row.vs H L) (h : H f = some (.lst xs)) (b : But f H H') : Tups Row.vs H' L := fun q hq => b _ _ (ne_of (t q hq) h (fun k => by cases k)) (t q hq)
theorem HS.ext (s : HS H0 p va ra na vs L ns H) (e : Ex H H') : HS H0 p va ra na vs L ns H' :=
  ⟨s.but.ex e, s.bag.ex e, e _ _ s.v, e _ _ s.r, e _ _ s.n, s.tup.ex e, s.f1, s.f2, s.f3, s.d1, s.d2, s.d3, s.d4, s.d5, s.d6⟩
theorem HS.take (s : HS H0 p va ra na vs L ns H) (b : Bag H' p) (t : But p H H') : HS H0 p va ra na vs L ns H' := by
  obtain ⟨b0, b1, hp, _⟩ := s.bag
  exact ⟨s.but.trans t, b, t _ _ s.d1 s.v, t _ _ s.d2 s.r, t _ _ s.d3 s.n, tups_but s.tup hp t, s.f1, s.f2, s.f3, s.d1, s.d2, s.d3, s.d4, s.d5, s.d6⟩
theorem ne_fresh {a : Addr} {o : HO} {b : Addr} (h : H0 a = none) (k : H0 b = some o) : b ≠ a := ne_of_none k h
theorem HS.setV (s : HS H0 p va ra na vs L ns H) (ws : List Int) : HS H0 p va ra na ws L ns (upd H va (.lst (ws.map V.int))) where
  but := fun b o n h => by
    rw [upd_ne (ne_fresh s.f1 h)]
    exact s.but b o n h
  bag := by
    obtain ⟨b0, b1, hp, r⟩ := s.bag
    exact ⟨b0, b1, by rw [upd_ne s.d1.symm]; exact hp, r⟩
  v := upd_same
  r := by
    rw [upd_ne s.d4.symm]
    exact s.r
  n := by
    rw [upd_ne s.d5.symm]
    exact s.n
  tup := s.tup.tex (TEx.lst s.v)
  f1 := s.f1
  f2 := s.f2
  f3 := s.f3
  d1 := s.d1
  d2 := s.d2
  d3 := s.d3
  d4 := s.d4
  d5 := s.d5
  d6 := s.d6
theorem HS.setN (s : HS H0 p va ra na vs L ns H) (ms : List Int) : HS H0 p va ra na vs L ms (upd H na (.lst (ms.map V.int))) where
  but := fun b o n h => by
    rw [upd_ne (ne_fresh s.f3 h)]
    exact s.but b o n h
  bag := by
    obtain ⟨b0, b1, hp, r⟩ := s.bag
    exact ⟨b0, b1, by rw [upd_ne s.d3.symm]; exact hp, r⟩
  v := by
    rw [upd_ne s.d5]
    exact s.v
  r := by
    rw [upd_ne s.d6]
    exact s.r
  n := upd_same
  tup := s.tup.tex (TEx.lst s.n)
  f1 := s.f1
  f2 := s.f2
  f3 := s.f3
  d1 := s.d1
  d2 := s.d2
  d3 := s.d3
  d4 := s.d4
  d5 := s.d5
  d6 := s.d6
theorem HS.setR (s : HS H0 p va ra na vs L ns H) {x : Item} (hx : H x.1 = some (.tup x.2.vs)) : HS H0 p va ra na vs (L ++ [x]) ns (upd H ra (.lst (refs L ++ [.ref x.1]))) where
  but := fun b o n h => by
    rw [upd_ne (ne_fresh s.f2 h)]
    exact s.but b o n h
  bag := by
    obtain ⟨b0, b1, hp, r⟩ := s.bag
    exact ⟨b0, b1, by rw [upd_ne s.d2.symm]; exact hp, r⟩
  v := by
    rw [upd_ne s.d4]
    exact s.v
  r := by
    rw [upd_same, refs_append]
    rfl
  n := by
    rw [upd_ne s.d6.symm]
    exact s.n
  tup := (s.tup.tex (TEx.lst s.r)).app (Tups.cons (TEx.lst s.r _ _ hx) Tups.nil)
  f1 := s.f1
  f2 := s.f2
  f3 := s.f3
  d1 := s.d1
  d2 := s.d2
  d3 := s.d3
  d4 := s.d4
  d5 := s.d5
  d6 := s.d6
end
theorem loose_at {i : Int} (h0 : 0 ≤ i) (h1 : i < 4) : ∃ v : Int, atI [V.int 1, V.int 3, V.int 8, V.int 40] i = some (.int v) ∧ 1 ≤ v ∧ v ≤ 40 := by
  rcases (by omega : i = 0 ∨ i = 1 ∨ i = 2 ∨ i = 3) with rfl | rfl | rfl | rfl
  · exact ⟨1, atI_nat (j := 0) rfl, by omega, by omega⟩
  · exact ⟨3, atI_nat (j := 1) rfl, by omega, by omega⟩
  · exact ⟨8, atI_nat (j := 2) rfl, by omega, by omega⟩
  · exact ⟨40, atI_nat (j := 3) rfl, by omega, by omega⟩
def spHistory : Sp := fun vs H Q _ => ∃ (p : Addr) (m : Int), vs = [.ref p, .int m] ∧ Bag H p ∧ 0 ≤ m ∧ m ≤ 60 ∧
  ∀ (H' : Hp) (q : Addr) (L : List Item), But p H H' → Bag H' p → H q = none → q ≠ p → Hist H' q L → WF (rows L) → Q (.ref q) H'
end K49

/-! _law_history: the walk. -/
namespace K49
open PySem PySem.Spec PyProof.Rows L2 Evl
theorem map_cut {α β : Type} {f : α → β} : ∀ (l : List α) (k : Nat), (l.map f).eraseIdx k = (l.eraseIdx k).map f
  | [], _ => rfl
  | _ :: _, 0 => rfl
  | a :: l, k + 1 => by
    show f a :: (l.map f).eraseIdx k = f a :: (l.eraseIdx k).map f
    rw [map_cut l k]
theorem cut_perm {α : Type} : ∀ {l : List α} {k : Nat} {x : α}, l[k]? = some x → (x :: l.eraseIdx k).Perm l
  | [], _, _, h => nomatch h
  | a :: l, 0, x, h => by
    obtain rfl : a = x := Option.some.inj h
    exact List.Perm.refl _
  | a :: l, k + 1, x, h => (List.Perm.swap a x _).trans ((cut_perm (l := l) (k := k) h).cons a)
theorem seq_at {i : Int} {n : Nat} (h0 : 0 ≤ i) (h1 : i < n) : seqIndex? i n = some i.toNat := by
  have e : (if i < 0 then i + (n : Int) else i) = i := if_neg (by omega)
  unfold seqIndex?
  rw [e]
  show (if (decide (0 ≤ i) && decide (i < (n : Int))) = true then some i.toNat else none) = _
  rw [decide_eq_true h0, decide_eq_true h1]
  rfl
theorem if_ways {c : Prop} [Decidable c] {A B : Prop} (h1 : c → A) (h2 : ¬ c → B) : if c then A else B := by
  split
  · exact h1 ‹_›
  · exact h2 ‹_›
def nums70 : List Int := (List.range 70).map Int.ofNat
theorem nums70_nd : nums70.Nodup := by
  refine List.Pairwise.map _ ?_ List.nodup_range
  intro a b h k
  exact h (Int.ofNat.inj k)
theorem nums70_len : nums70.length = 70 := by
  unfold nums70
  rw [List.length_map, List.length_range]
theorem nums70_rg : rgV 0 70 = nums70.map V.int := by
  unfold nums70 rgV
  rw [List.map_map]
  show (List.range 70).map _ = _
  refine List.map_congr_left fun i _ => ?_
  show V.int (0 + (i : Int)) = V.int (i : Int)
  rw [Int.zero_add]
theorem q_way {tu tz : TS} {D : Ends} {σ : L2.St} {H : Hp} {M : L2.St → Hp → Prop} (k : ∀ σ' H', M σ' H' → tz D σ' H') (h : ∀ N : L2.St → Hp → Prop, (∀ σ' H', M σ' H' → N σ' H') → tu { D with nx := N } σ H) : tSeq tu tz D σ H := h _ k
theorem but_fresh {f : Addr} {H H1 : Hp} {a : Addr} (b : But f H H1) (h : H1 a = none) (n : a ≠ f) : H a = none := by
  cases e : H a with
  | none => rfl
  | some o =>
    rw [b a o n e] at h
    cases h
theorem ne_of_some {H : Hp} {a b : Addr} {o : HO} (h : H a = none) (k : H b = some o) : a ≠ b := fun e => by
  rw [e, k] at h
  cases h
theorem but_upd {f a : Addr} {H H1 : Hp} {o : HO} (b : But f H H1) (h : H a = none) : But f H (upd H1 a o) := fun c u n k => by
  rw [upd_ne (ne_fresh h k)]
  exact b c u n k
theorem bag_upd {H : Hp} {p a : Addr} {o : HO} (b : Bag H p) (n : a ≠ p) : Bag (upd H a o) p := by
  obtain ⟨b0, b1, hp, r⟩ := b
  exact ⟨b0, b1, by rw [upd_ne n.symm]; exact hp, r⟩
section
variable {P : Program} {w : World} {K : PySem.W.Frag} {mg : Str → Option Value} {base : Heap} {H : Hp}
theorem q_take {σ : L2.St} {te : TE} {tz : TS} {D : Ends} {E : XK} {p : Addr} {m : Int} {i : Nat} (ha : σ[0]? = some (some (.ref p))) (hb : Bag H p) (hm : Ev te σ H (.int m)) (h1 : 0 < m ∧ m ≤ 1000000)
    (k : ∀ v H', 0 ≤ v → v < m → Bag H' p → But p H H' → tz D (σ.set i (some (.int v))) H') : tSeq (tAsg (tCall spTake [] E (tCons (tVar 0) (tCons te tNil))) (gName i)) tz D σ H := take_go ha hb hm h1 k
theorem q_ixM {σ : L2.St} {ta tb : TE} {tz : TS} {D : Ends} {i : Nat} {xs : List V} (ha : EvL ta σ H xs) (k : ∀ c H1, H c = none → Ex H H1 → H1 c = some (.lst xs) → tb σ H1 fun y H2 => rIxL K (.ref c) y H2 fun v H3 => tz D (σ.set i (some v)) H3) :
    tSeq (tAsg (tOp (rIxL K) ta tb) (gName i)) tz D σ H := ha H (Ex.refl _) _ k
theorem s_ifAnd {σ : L2.St} {t u : TT} {tu : TS} {D : Ends} {b : Bool} (h : EvT t σ H b) (h1 : b = false → ∀ H1, Ex H H1 → D.nx σ H1) (h2 : b = true → ∀ H1, Ex H H1 → u σ H1 fun c H2 => if c = true then tu D σ H2 else D.nx σ H2) : tIfS (tAnd t u) tu tNext D σ H :=
  h H (Ex.refl _) _ fun H1 e => by
    cases b with
    | true => exact h2 rfl H1 e
    | false => exact h1 rfl H1 e
theorem ok_history {f fT : Addr} {fd fdT : FuncData} (F : Fun K "_law_history" "_law_history" s__law_history f fd) (T : Blt mg) (FT : Fun K "_law_take" "_law_take" s__law_take fT fdT) (bT : Binds K fdT ["bag", "many"] []) (gT : mg "_law_take" = some (.ref fT)) :
    FnOk P w K mg base CX0 2 f fd ["bag", "most"] spHistory := by
  have GT : FnOk P w K mg base CX0 1 fT fdT ["bag", "many"] spTake := ok_take FT
  refine F.ok sc__law_history (fun vs H Q E h => ?_) (fun cdv A outer s H vs Q E hr h => ?_)
  · obtain ⟨p, m, rfl, _⟩ := h
    rfl
  · obtain ⟨p, m, rfl, hb, m0, m1, q⟩ := h
    have nd := sc__law_history.nd
    refine ⟨_, pss_cons (ps_set (i := 2) nd rfl (.inl rfl) (pe_call GT hr (by rfl) gT FT.kp bT .nil pass0 (pa_cons (pv 0) (pa_cons (pe_op op_add (pv 1) pe_int) pa_nil))))
      (pss_cons (ps_set (i := 3) nd rfl (.inl rfl) (pe_ix ix_list (pe_lst (pa_cons pe_int (pa_cons pe_int (pa_cons pe_int (pa_cons pe_int pa_nil))))) (pe_call GT hr (by rfl) gT FT.kp bT .nil pass0 (pa_cons (pv 0) (pa_cons pe_int pa_nil))) (fun _ _ => rfl)))
      (pss_cons (ps_set (i := 4) nd rfl (.inl rfl) (pe_call GT hr (by rfl) gT FT.kp bT .nil pass0 (pa_cons (pv 0) (pa_cons pe_int pa_nil))))
      (pss_cons (ps_set (i := 5) nd rfl (.inl rfl) (pe_lst (pa_cons pe_int pa_nil)))
      (pss_cons (ps_set (i := 6) nd rfl (.inl rfl) (pe_lst pa_nil))
      (pss_cons (ps_set (i := 7) nd rfl (.inl rfl) (pe_listRg rfl (by rfl) T.ls (prg_1 (by rfl) T.rg pe_int)))
      (pss_cons (ps_for PassesOwn.never rfl (pi_range1 rfl T.rg (pa_cons (pv 2) pa_nil)) (pg_name (i := 8) nd rfl (.inl rfl))
        (pss_cons (ps_set (i := 9) nd rfl (.inl rfl) (pe_op op_add (pe_op op_mul pe_int (pv 8)) pe_int))
        (pss_cons (ps_set (i := 10) nd rfl (.inl rfl) (pe_callB (call_max2 rfl) (by rfl) T.mx (by decide +kernel) (pa_cons pe_int (pa_cons (pe_op op_sub (pv 9) (pe_call GT hr (by rfl) gT FT.kp bT .nil pass0 (pa_cons (pv 0) (pa_cons (pe_op op_mul pe_int (pv 3)) pa_nil)))) pa_nil))))
        (pss_cons (ps_set (i := 11) nd rfl (.inl rfl) (pe_op op_add (pe_op op_add (pv 9) pe_int) (pe_call GT hr (by rfl) gT FT.kp bT .nil pass0 (pa_cons (pv 0) (pa_cons (pe_op op_mul pe_int (pv 3)) pa_nil)))))
        (pss_cons (ps_set (i := 12) nd rfl (.inl rfl) (pe_bm PySem.F.plainAttrs_list PySem.F.slot_list_pop PySem.F.type_list_pop mt_popAt (pv 7) (pa_cons (pe_call GT hr (by rfl) gT FT.kp bT .nil pass0 (pa_cons (pv 0) (pa_cons (pe_callB call_len_seq (by rfl) T.ln PySem.boot_len (pa_cons (pv 7) pa_nil)) pa_nil))) pa_nil)))
        (pss_one (ps_if (pt_cmpR op_eq (pe_call GT hr (by rfl) gT FT.kp bT .nil pass0 (pa_cons (pv 0) (pa_cons pe_int pa_nil))) pe_int (nomark _))
          (pss_cons (ps_expr (pe_bm PySem.F.plainAttrs_list PySem.F.slot_list_append PySem.F.type_list_append mt_append (pv 5) (pa_cons (pe_op op_add pe_int (pe_op op_mod (pe_op op_add (pe_op op_mul (pv 8) pe_int) pe_int) pe_int)) pa_nil)))
          (pss_one (ps_expr (pe_bm PySem.F.plainAttrs_list PySem.F.slot_list_append PySem.F.type_list_append mt_append (pv 6) (pa_cons (pe_tup (pa_cons (pv 12) (pa_cons pe_str (pa_cons (pe_ix ix_list (pv 5) (pe_un un_neg pe_int) (fun _ _ => rfl)) (pa_cons (pv 10) (pa_cons (pv 11) pa_nil)))))) pa_nil)))))
          (pss_cons (ps_set (i := 13) nd rfl (.inl rfl) (pe_ix ix_list (pv 5) (pe_un un_neg pe_int) (fun _ _ => rfl)))
          (pss_cons (ps_if (PW.pt (pw_and (pt_cmpR op_eq (pv 4) pe_int (nomark _)) (pw_and1 (pt_cmpR op_eq (pe_call GT hr (by rfl) gT FT.kp bT .nil pass0 (pa_cons (pv 0) (pa_cons pe_int pa_nil))) pe_int (nomark _)))))
            (pss_one (ps_set (i := 13) nd rfl (.inl rfl) (pe_ix ix_list (pv 5) (pe_call GT hr (by rfl) gT FT.kp bT .nil pass0 (pa_cons (pv 0) (pa_cons (pe_callB call_len_seq (by rfl) T.ln PySem.boot_len (pa_cons (pv 5) pa_nil)) pa_nil))) (fun _ _ => rfl)))) pss_nil)
          (pss_one (ps_expr (pe_bm PySem.F.plainAttrs_list PySem.F.slot_list_append PySem.F.type_list_append mt_append (pv 6) (pa_cons (pe_tup (pa_cons (pv 12) (pa_cons pe_str (pa_cons (pv 13) (pa_cons (pv 10) (pa_cons (pv 11) pa_nil)))))) pa_nil)))))))))))))
      (pss_cons (ps_set (i := 14) nd rfl (.inl rfl) (pe_callTy call_list_of (by rfl) T.ls (by decide +kernel) (pa_cons (pv 6) pa_nil)))
      (pss_cons (ps_set (i := 6) nd rfl (.inl rfl) (pe_lst pa_nil))
      (pss_cons (ps_while PassesOwn.never (pt_cmpR (op_neD hr.units) (pv 14) (pe_lst pa_nil) (nomark _))
        (pss_one (ps_expr (pe_bm PySem.F.plainAttrs_list PySem.F.slot_list_append PySem.F.type_list_append mt_append (pv 6) (pa_cons (pe_bm PySem.F.plainAttrs_list PySem.F.slot_list_pop PySem.F.type_list_pop mt_popAt (pv 14) (pa_cons (pe_call GT hr (by rfl) gT FT.kp bT .nil pass0 (pa_cons (pv 0) (pa_cons (pe_callB call_len_seq (by rfl) T.ln PySem.boot_len (pa_cons (pv 14) pa_nil)) pa_nil))) pa_nil)) pa_nil)))))
      (pss_one (ps_ret (pv 6)))))))))))), ?_⟩
    refine q_take (m := m + 1) rfl hb (ev_op (ev_var rfl) ev_c rv_I0) ⟨by omega, by omega⟩ fun many H1 y0 y1 b1 t1 => ?_
    -- loose
    refine q_ixM (xs := [.int 1, .int 3, .int 8, .int 40]) (el_lst (ea_cons ev_c (ea_cons ev_c (ea_cons ev_c (ea_cons ev_c ea_nil)))) (by show 4 ≤ 100000; decide)) fun c H2 hc e2 hc2 => ?_
    have cp : c ≠ p := by
      obtain ⟨_, _, hp, _⟩ := b1
      exact ne_of_some hc hp
    refine take_go (m := 4) rfl (b1.ex e2) ev_c ⟨by decide, by decide⟩ fun lo H3 i0 i1 b3 t3 => ?_
    obtain ⟨loose, hat, l1, l2⟩ := loose_at i0 i1
    refine ⟨c, _, lo, .int loose, rfl, rfl, sq_of (t3 _ _ cp hc2), hat, ?_⟩
    have a3 : But p H H3 := (t1.ex e2).trans t3
    clear hat hc2 e2 t3 t1
    -- wild
    refine q_take (m := 4) rfl b3 ev_c ⟨by decide, by decide⟩ fun wild H4 _ _ b4 t4 => ?_
    have a4 : But p H H4 := a3.trans t4
    refine q_asgL (xs := [.int 0]) (el_lst (ea_cons ev_c ea_nil) (by show 1 ≤ 100000; decide)) fun va H5 hva e5 hva5 => ?_
    refine q_asgL (xs := []) (el_lst ea_nil (by show 0 ≤ 100000; decide)) fun ra H6 hra e6 hra6 => ?_
    refine ⟨70, rfl, ⟨by decide, by decide, by decide, by decide, by decide⟩, fun na hna => ?_⟩
    have nva : va ≠ p := by
      obtain ⟨_, _, hp, _⟩ := b4
      exact ne_of_some hva hp
    have nra : ra ≠ p := by
      obtain ⟨_, _, hp, _⟩ := b4.ex e5
      exact ne_of_some hra hp
    have nna : na ≠ p := by
      obtain ⟨_, _, hp, _⟩ := (b4.ex e5).ex e6
      exact ne_of_some hna hp
    have e7 : Ex H6 (upd H6 na (.lst (rgV 0 70))) := Ex.new hna
    have S0 : HS H p va ra na [0] [] nums70 (upd H6 na (.lst (rgV 0 70))) :=
      { but := ((a4.ex e5).ex e6).ex e7
        bag := ((b4.ex e5).ex e6).ex e7
        v := (e6.trans e7) _ _ hva5
        r := e7 _ _ hra6
        n := by rw [upd_same, nums70_rg]
        tup := Tups.nil
        f1 := but_fresh a4 hva nva
        f2 := but_fresh (a4.ex e5) hra nra
        f3 := but_fresh ((a4.ex e5).ex e6) hna nna
        d1 := nva
        d2 := nra
        d3 := nna
        d4 := (ne_of_some hra hva5).symm
        d5 := (ne_of_some hna (e6 _ _ hva5)).symm
        d6 := (ne_of_some hna hra6).symm }
    have M0 : HM 0 [0] (rows []) nums70 := HM.start nums70_nd nums70_len
    generalize upd H6 na (.lst (rgV 0 70)) = H7 at S0
    clear e7 hna hra hra6 hva hva5 e5 e6 b4 t4 a3 a4 b3 b1 hb
    refine q_forR1 (n := many) (ea_cons (ev_var rfl) ea_nil) ⟨y0, by omega⟩ (fun i σ' H' => ∃ (vs : List Int) (L : List Item) (ns : List Int) (j8 j9 j10 j11 j12 j13 : Option V),
      σ' = [some (.ref p), some (.int m), some (.int many), some (.int loose), some (.int wild), some (.ref va), some (.ref ra), some (.ref na), j8, j9, j10, j11, j12, j13, none] ∧ HS H p va ra na vs L ns H' ∧ HM i vs (rows L) ns) ?_ ?_ ?_
    · intro H8 e8
      exact ⟨[0], [], _, none, none, none, none, none, none, rfl, S0.ext e8, M0⟩
    · rintro i σ' H8 hi ⟨vs, L, ns, j8, j9, j10, j11, j12, j13, rfl, S, M⟩
      have hi60 : i < 60 := by omega
      -- time
      refine q_asg (v := .int (10 * i + 1)) (ev_op (ev_op ev_c (ev_var rfl) (rv_I (.inl ⟨by decide, by decide⟩))) ev_c rv_I0) fun H9 e9 => ?_
      replace S := S.ext e9
      -- start
      refine ⟨_, rfl, take_go (m := 10 * loose) rfl S.bag (ev_op ev_c (ev_var rfl) (rv_I (.inl ⟨by decide, by decide⟩))) ⟨by omega, by omega⟩ fun x H10 x0 x1 bx tx => ⟨_, _, rfl, rfl, 0, _, rfl, ?_⟩⟩
      replace S := S.take bx tx
      clear bx tx
      have hbeg : 0 ≤ (if (10 * (i : Int) + 1 - x) > 0 then (10 * (i : Int) + 1 - x) else 0) ∧ (if (10 * (i : Int) + 1 - x) > 0 then (10 * (i : Int) + 1 - x) else 0) ≤ 10 * (i : Int) + 1 := by split <;> omega
      generalize (if (10 * (i : Int) + 1 - x) > 0 then (10 * (i : Int) + 1 - x) else 0) = beg at hbeg
      -- end
      refine ⟨_, rfl, ⟨_, _, rfl, rfl, take_go (m := 10 * loose) rfl S.bag (ev_op ev_c (ev_var rfl) (rv_I (.inl ⟨by decide, by decide⟩))) ⟨by omega, by omega⟩ fun y H11 y0 y1 by' ty => ⟨_, _, rfl, rfl, ?_⟩⟩⟩
      replace S := S.take by' ty
      clear by' ty
      have hfin : beg < 10 * (i : Int) + 1 + 1 + y := by omega
      -- number
      have nl := M.nl
      refine ⟨_, rfl, .inl ⟨rfl, _, sq_of S.n⟩, take_go (m := ((ns.map V.int).length : Int)) rfl S.bag (ev_len (ev_var rfl) (sq_of S.n)) ⟨by rw [List.length_map]; omega, by rw [List.length_map]; omega⟩ fun k H12 k0 k1 bk tk => ?_⟩
      replace S := S.take bk tk
      clear bk tk
      rw [List.length_map] at k1
      have hk : k.toNat < ns.length := by omega
      have hget : ns[k.toNat]? = some ns[k.toNat] := List.getElem?_eq_getElem hk
      refine ⟨na, _, k, k.toNat, .int ns[k.toNat], rfl, rfl, S.n, by omega, by omega, seq_at k0 (by rw [List.length_map]; exact k1), by rw [List.getElem?_map, hget]; rfl, ?_⟩
      rw [map_cut]
      replace S := S.setN (ns.eraseIdx k.toNat)
      generalize upd H12 na (.lst ((ns.eraseIdx k.toNat).map V.int)) = H13 at S
      generalize ns[k.toNat] = num at hget
      -- write or read
      refine take_go (m := 2) rfl S.bag ev_c ⟨by decide, by decide⟩ fun z H14 _ _ bz tz => ⟨rfl, _, rfl, ?_⟩
      replace S := S.take bz tz
      clear bz tz
      have vlen := M.vlen
      have rlen := M.len
      rw [List.length_map] at rlen
      refine if_ways (fun _ => ?_) (fun _ => ?_)
      · refine q_app S.v (ev_var rfl) (v := .int (wv i)) (ev_op ev_c (ev_op (ev_op (ev_op (ev_var rfl) ev_c (rv_I (.inr ⟨by decide, by decide⟩))) ev_c rv_I0) ev_c (rv_I (by decide))) rv_I0) (by rw [List.length_map]; omega) fun H15 e15 => ?_
        rw [show vs.map V.int ++ [.int (wv i)] = (vs ++ [wv i]).map V.int from by rw [List.map_append]; rfl]
        replace S := (S.ext e15).setV (vs ++ [wv i])
        generalize upd H15 va (.lst ((vs ++ [wv i]).map V.int)) = H16 at S
        refine s_appU (xs := refs L) S.r (ev_var rfl) (ys := (⟨num, true, wv i, beg, 10 * (i : Int) + 1 + 1 + y⟩ : Row).vs) (eu_tup (ea_cons (ev_var rfl) (ea_cons ev_c (ea_cons (ev_op (ev_var rfl) (ev_un ev_c ru_neg) (rv_ixL (sq_of S.v) ?_)) (ea_cons (ev_var rfl) (ea_cons (ev_var rfl) ea_nil))))) (by show 5 ≤ 100000; decide)) (by rw [refs_length]; omega) fun t H17 ht e17 ht17 => ?_
        · rw [List.map_append]
          exact atI_last _ _
        · refine ⟨vs ++ [wv i], L ++ [(t, ⟨num, true, wv i, beg, 10 * (i : Int) + 1 + 1 + y⟩)], ns.eraseIdx k.toNat, _, _, _, _, _, _, rfl, (S.ext e17).setR (x := (t, ⟨num, true, wv i, beg, 10 * (i : Int) + 1 + 1 + y⟩)) ht17, ?_⟩
          rw [show rows (L ++ [(t, (⟨num, true, wv i, beg, 10 * (i : Int) + 1 + 1 + y⟩ : Row))]) = rows L ++ [⟨num, true, wv i, beg, 10 * (i : Int) + 1 + 1 + y⟩] from List.map_append ..]
          exact M.write hi60 hget hbeg.1 hfin
      · have vne : vs ≠ [] := fun k => by
          have := M.vne
          rw [k] at this
          cases this
        have vl := List.dropLast_concat_getLast vne
        refine q_asg (v := .int (vs.getLast vne)) (ev_op (ev_var rfl) (ev_un ev_c ru_neg) (rv_ixL (sq_of S.v) ?_)) fun H15 e15 => ?_
        · have e := congrArg (List.map V.int) vl
          rw [List.map_append] at e
          rw [← e]
          exact atI_last _ _
        replace S := S.ext e15
        refine q_way (M := fun σ' H' => ∃ v, v ∈ vs ∧ σ' = [some (.ref p), some (.int m), some (.int many), some (.int loose), some (.int wild), some (.ref va), some (.ref ra), some (.ref na), some (.int i), some (.int (10 * i + 1)), some (.int beg), some (.int (10 * (i : Int) + 1 + 1 + y)), some (.int num), some (.int v), none] ∧ HS H p va ra na vs L (ns.eraseIdx k.toNat) H') ?_ ?_
        · rintro σ' H16 ⟨v, hv, rfl, S⟩
          refine s_appU (xs := refs L) S.r (ev_var rfl) (ys := (⟨num, false, v, beg, 10 * (i : Int) + 1 + 1 + y⟩ : Row).vs) (eu_tup (ea_cons (ev_var rfl) (ea_cons ev_c (ea_cons (ev_var rfl) (ea_cons (ev_var rfl) (ea_cons (ev_var rfl) ea_nil))))) (by show 5 ≤ 100000; decide)) (by rw [refs_length]; omega) fun t H17 ht e17 ht17 => ?_
          refine ⟨vs, L ++ [(t, ⟨num, false, v, beg, 10 * (i : Int) + 1 + 1 + y⟩)], ns.eraseIdx k.toNat, _, _, _, _, _, _, rfl, (S.ext e17).setR (x := (t, ⟨num, false, v, beg, 10 * (i : Int) + 1 + 1 + y⟩)) ht17, ?_⟩
          rw [show rows (L ++ [(t, (⟨num, false, v, beg, 10 * (i : Int) + 1 + 1 + y⟩ : Row))]) = rows L ++ [⟨num, false, v, beg, 10 * (i : Int) + 1 + 1 + y⟩] from List.map_append ..]
          exact M.read hi60 hget hv hbeg.1 hfin
        · intro N hN
          have stay : ∀ H', HS H p va ra na vs L (ns.eraseIdx k.toNat) H' → N [some (.ref p), some (.int m), some (.int many), some (.int loose), some (.int wild), some (.ref va), some (.ref ra), some (.ref na), some (.int i), some (.int (10 * i + 1)), some (.int beg), some (.int (10 * (i : Int) + 1 + 1 + y)), some (.int num), some (.int (vs.getLast vne)), none] H' :=
            fun H' S => hN _ _ ⟨_, List.getLast_mem vne, rfl, S⟩
          refine s_ifAnd (et_test (ev_op (ev_var rfl) ev_c (rv_eq rfl))) (fun _ H16 e16 => stay _ (S.ext e16)) fun _ H16 e16 => ?_
          replace S := S.ext e16
          refine take_go (m := 2) rfl S.bag ev_c ⟨by decide, by decide⟩ fun z H17 _ _ bz tz => ⟨rfl, _, rfl, ?_⟩
          replace S := S.take bz tz
          refine if_ways (fun _ => ?_) (fun _ => ?_)
          · refine ⟨_, rfl, take_go (m := ((vs.map V.int).length : Int)) rfl S.bag (ev_len (ev_var rfl) (sq_of S.v)) ⟨by rw [List.length_map]; have := M.vne; omega, by rw [List.length_map]; omega⟩ fun j H18 j0 j1 bj tj => ?_⟩
            rw [List.length_map] at j1
            have hj : j.toNat < vs.length := by omega
            replace S := S.take bj tj
            exact ⟨va, _, j, .int vs[j.toNat], rfl, rfl, sq_of S.v, at_of (j := j.toNat) (by omega) (by rw [List.getElem?_map, List.getElem?_eq_getElem hj]; rfl), hN _ _ ⟨_, List.getElem_mem hj, rfl, S⟩⟩
          · exact stay _ S
    · rintro σ' H8 ⟨vs, L, ns, j8, j9, j10, j11, j12, j13, rfl, S, M⟩
      have rlen := M.len
      rw [List.length_map] at rlen
      refine q_asgL (xs := refs L) (el_list (ev_var rfl) (sq_of S.r)) fun lf H9 hlf e9 hlf9 => ?_
      refine q_asgL (xs := []) (el_lst ea_nil (by show 0 ≤ 100000; decide)) fun r2 H10 hr2 e10 hr210 => ?_
      have nlf : lf ≠ p := by
        obtain ⟨_, _, hp, _⟩ := S.bag
        exact ne_of_some hlf hp
      have nr2 : r2 ≠ p := by
        obtain ⟨_, _, hp, _⟩ := S.bag.ex e9
        exact ne_of_some hr2 hp
      have nrl : r2 ≠ lf := ne_of_some hr2 hlf9
      have flf : H lf = none := but_fresh S.but hlf nlf
      have fr2 : H r2 = none := but_fresh (S.but.ex e9) hr2 nr2
      refine q_while (fun m' σ' H' => ∃ (Lr Lf : List Item), m' = Lf.length ∧ σ' = [some (.ref p), some (.int m), some (.int many), some (.int loose), some (.int wild), some (.ref va), some (.ref r2), some (.ref na), j8, j9, j10, j11, j12, j13, some (.ref lf)] ∧
        Bag H' p ∧ But p H H' ∧ H' r2 = some (.lst (refs Lr)) ∧ H' lf = some (.lst (refs Lf)) ∧ Tups Row.vs H' L ∧ (Lr ++ Lf).Perm L) L.length ?_ ?_
      · exact ⟨[], L, rfl, rfl, (S.bag.ex e9).ex e10, (S.but.ex e9).ex e10, hr210, e10 _ _ hlf9, (S.tup.ex e9).ex e10, List.Perm.refl _⟩
      · rintro m' σ' H11 ⟨Lr, Lf, rfl, rfl, b, bt, hr', hl', tp, pm⟩
        have pl := pm.length_eq
        rw [List.length_append] at pl
        have tf : Tups Row.vs H11 Lf := tp.sub fun x hx => pm.mem_iff.mp (List.mem_append_right _ hx)
        refine ⟨_, et_neNil (ev_var rfl) (fun H2 e2 => dp_list flat_row (e2 _ _ hl') (tf.ex e2)) (shaped_tups flat_row _), fun hne H12 e12 => ?_, fun hne H12 e12 => ?_⟩
        · rw [encs_empty] at hne
          refine ⟨_, fun _ _ h => h, ?_⟩
          have lne : 0 < Lf.length := by
            cases Lf with
            | nil => cases hne
            | cons _ _ => exact Nat.succ_pos _
          refine ⟨_, rfl, .inl ⟨rfl, _, sq_of (e12 _ _ hr')⟩, ⟨_, rfl, .inl ⟨rfl, _, sq_of (e12 _ _ hl')⟩, take_go (m := ((refs Lf).length : Int)) rfl (b.ex e12) (ev_len (ev_var rfl) (sq_of (e12 _ _ hl'))) ⟨by rw [refs_length]; omega, by rw [refs_length]; omega⟩ fun v H13 v0 v1 b13 t13 => ?_⟩⟩
          rw [refs_length] at v1
          have hv : v.toNat < Lf.length := by omega
          have hget : Lf[v.toNat]? = some Lf[v.toNat] := List.getElem?_eq_getElem hv
          have hl13 : H13 lf = some (.lst (refs Lf)) := t13 _ _ nlf (e12 _ _ hl')
          have hr13 : H13 r2 = some (.lst (refs Lr)) := t13 _ _ nr2 (e12 _ _ hr')
          have tp13 : Tups Row.vs H13 L := by
            obtain ⟨_, _, hp, _⟩ := b.ex e12
            exact tups_but (tp.ex e12) hp t13
          refine ⟨lf, refs Lf, v, v.toNat, .ref Lf[v.toNat].1, rfl, rfl, hl13, by omega, by omega, seq_at v0 (by rw [refs_length]; exact v1), by unfold refs; rw [List.getElem?_map, hget]; rfl, ⟨r2, refs Lr, .ref Lf[v.toNat].1, rfl, rfl, by rw [upd_ne nrl]; exact hr13, sz_lt (by rw [refs_length]; omega), ?_⟩⟩
          refine ⟨(Lf.eraseIdx v.toNat).length, by rw [List.length_eraseIdx_of_lt hv]; omega, Lr ++ [Lf[v.toNat]], Lf.eraseIdx v.toNat, rfl, rfl, bag_upd (bag_upd b13 nlf) nr2, but_upd (but_upd ((bt.ex e12).trans t13) flf) fr2, ?_, ?_, ?_, ?_⟩
          · rw [upd_same, refs_append]
            rfl
          · rw [upd_ne nrl.symm, upd_same]
            exact congrArg some (congrArg HO.lst (map_cut _ _))
          · exact (tp13.tex (TEx.lst hl13)).tex (TEx.lst (by rw [upd_ne nrl]; exact hr13))
          · rw [List.append_assoc]
            exact ((cut_perm hget).append_left Lr).trans pm
        · rw [encs_empty] at hne
          have hnil : Lf = [] := by
            cases Lf with
            | nil => rfl
            | cons _ _ => cases hne
          subst hnil
          rw [List.append_nil] at pm
          refine s_ret (v := .ref r2) (ev_var rfl) fun H13 e13 => q H13 r2 Lr ((bt.ex e12).ex e13) ((b.ex e12).ex e13) fr2 nr2 ⟨(e12.trans e13) _ _ hr', (tp.sub fun x hx => pm.mem_iff.mp hx).ex (e12.trans e13)⟩ (M.wf.perm (pm.map Prod.snd))
end
end K49

/-! law. -/
namespace K49
open PySem PySem.Spec PyProof.Rows L2 Evl
def spLaw (K : PySem.W.Frag) : Sp := fun vs H Q _ => ∃ (a : Addr) (ns : List Int), vs = [.ref a] ∧ SqL K H a (ns.map V.int) ∧ ns.length ≤ 63 ∧ ∀ H', Q (.bl true) H'
theorem most_at {i : Int} (h0 : 0 ≤ i) (h1 : i < 4) : ∃ v : Int, atI [V.int 6, V.int 12, V.int 30, V.int 60] i = some (.int v) ∧ 0 ≤ v ∧ v ≤ 60 := by
  rcases (by omega : i = 0 ∨ i = 1 ∨ i = 2 ∨ i = 3) with rfl | rfl | rfl | rfl
  · exact ⟨6, atI_nat (j := 0) rfl, by omega, by omega⟩
  · exact ⟨12, atI_nat (j := 1) rfl, by omega, by omega⟩
  · exact ⟨30, atI_nat (j := 2) rfl, by omega, by omega⟩
  · exact ⟨60, atI_nat (j := 3) rfl, by omega, by omega⟩
theorem shaped_tup {α : Type} {fld : α → List V} {enc : α → List PyData} (F : Flat fld enc) (x : α) : SeqAt.shaped (.tuple (enc x)) = true := by
  show (PyData.canLay0 (.tuple (enc x)) && decide (PyData.depth (.tuple (enc x)) ≤ 64)) = true
  rw [Bool.and_eq_true]
  refine ⟨by simp only [PyData.canLay0]; exact F.lay x, decide_eq_true ?_⟩
  simp only [PyData.depth, F.dep]
  omega
/-- what the words found: a list of reasons -/
def word3 : List Word := [.early, .both, .within]
def Found (rs : List Row) (i : Nat) (R : List RItem) : Prop := (R = [] ∧ ∀ j u, j < i → word3[j]? = some u → ∀ a b, ¬ Reason rs u a b) ∨ (R ≠ [] ∧ ∃ u, RList rs u R ∧ Ahead rs u)
theorem Found.next {rs : List Row} {i : Nat} {u : Word} {R : List RItem} (h : ∀ j u, j < i → word3[j]? = some u → ∀ a b, ¬ Reason rs u a b) (hu : word3[i]? = some u) (hR : RList rs u R) : Found rs (i + 1) R := by
  by_cases e : R = []
  · subst e
    refine .inl ⟨rfl, fun j v hj hv a b => ?_⟩
    by_cases c : j = i
    · subst c
      rw [hu] at hv
      obtain rfl := Option.some.inj hv
      exact rl_nil hR a b
    · exact h j v (by omega) hv a b
  · refine .inr ⟨e, u, hR, fun ne => ?_, fun eq => ?_⟩
    · match i, hu with
      | 0, hu => exact (ne (Option.some.inj hu).symm).elim
      | i + 1, hu => exact h 0 .early (by omega) rfl
    · subst eq
      match i, hu with
      | 0, hu => cases hu
      | 1, hu => cases hu
      | i + 2, hu => exact h 1 .both (by omega) rfl
theorem Found.more {rs : List Row} {i j : Nat} {R : List RItem} (h : Found rs i R) (e : R ≠ []) : Found rs j R := by
  rcases h with ⟨k, _⟩ | k
  · exact (e k).elim
  · exact .inr k
theorem Found.none {rs : List Row} (h : Found rs 3 []) : NoReason rs := by
  rcases h with ⟨_, k⟩ | ⟨k, _⟩
  · intro u
    cases u with
    | early => exact k 0 .early (by omega) rfl
    | both => exact k 1 .both (by omega) rfl
    | within => exact k 2 .within (by omega) rfl
  · exact (k rfl).elim
theorem ahead_uniq {rs : List Row} {u v : Word} {a b c d : Int} (hu : Ahead rs u) (hv : Ahead rs v) (ru : Reason rs u a b) (rv : Reason rs v c d) : u = v := by
  cases u <;> cases v <;> first | rfl | exact (hu.1 (by decide) _ _ rv).elim | exact (hv.1 (by decide) _ _ ru).elim | exact (hu.2 rfl _ _ rv).elim | exact (hv.2 rfl _ _ ru).elim
section
variable {P : Program} {w : World} {K : PySem.W.Frag} {mg : Str → Option Value} {base : Heap} {H : Hp}
theorem q_hist {σ : L2.St} {ta tm : TE} {tz : TS} {D : Ends} {E E' : XK} {p : Addr} {xs : List V} {i : Nat} (h2 : σ[2]? = some (some (.ref p))) (hb : Bag H p) (ha : EvL ta σ H xs) (hm : Ev tm σ H (.int 4)) (hx : ∀ j : Int, 0 ≤ j → j < 4 → ∃ m : Int, atI xs j = some (.int m) ∧ 0 ≤ m ∧ m ≤ 60)
    (k : ∀ H' q L, But p H H' → H q = none → Hist H' q L → WF (rows L) → tz D (σ.set i (some (.ref q))) H') :
    tSeq (tAsg (tCall spHistory [] E (tCons (tVar 2) (tCons (tOp (rIxL K) ta (tCall spTake [] E' (tCons (tVar 2) (tCons tm tNil)))) tNil))) (gName i)) tz D σ H :=
  ⟨.ref p, h2, ha H (Ex.refl _) _ fun c H1 hc e1 hc1 => ⟨.ref p, h2, hm H1 e1 _ fun H2 e2 => ⟨p, 4, rfl, hb.ex (e1.trans e2), by decide, by decide, fun j H3 j0 j1 b3 t3 => by
    obtain ⟨m, hat, m0, m1⟩ := hx j j0 j1
    have cp : c ≠ p := by
      obtain ⟨_, _, hp, _⟩ := hb
      exact ne_of_some hc hp
    exact ⟨c, xs, j, .int m, rfl, rfl, sq_of (t3 _ _ cp (e2 _ _ hc1)), hat, p, m, rfl, b3, m0, m1, fun H' q L bt b' hq nq hL W => k H' q L (((But.of (e1.trans e2)).trans t3).trans bt) (but_fresh ((But.of (e1.trans e2)).trans t3) hq nq) hL W⟩⟩⟩⟩
theorem ok_law {f f1 f2 f3 f4 f5 f6 f7 f8 : Addr} {fd fd1 fd2 fd3 fd4 fd5 fd6 fd7 fd8 : FuncData} (F : Fun K "law" "law" s_law f fd) (T : Blt mg)
    (F1 : Fun K "_law_bag" "_law_bag" s__law_bag f1 fd1) (b1 : Binds K fd1 ["script", "k"] []) (g1 : mg "_law_bag" = some (.ref f1)) (G1 : FnOk P w K mg base CX0 1 f1 fd1 ["script", "k"] (spBag K))
    (F2 : Fun K "_law_take" "_law_take" s__law_take f2 fd2) (b2 : Binds K fd2 ["bag", "many"] []) (g2 : mg "_law_take" = some (.ref f2)) (G2 : FnOk P w K mg base CX0 1 f2 fd2 ["bag", "many"] spTake)
    (F3 : Fun K "_law_history" "_law_history" s__law_history f3 fd3) (b3 : Binds K fd3 ["bag", "most"] []) (g3 : mg "_law_history" = some (.ref f3)) (G3 : FnOk P w K mg base CX0 2 f3 fd3 ["bag", "most"] spHistory)
    (F4 : Fun K "ordered" "ordered" s_ordered f4 fd4) (b4 : Binds K fd4 ["history"] []) (g4 : mg "ordered" = some (.ref f4)) (G4 : FnOk P w K mg base CX0 4 f4 fd4 ["history"] spOrdered)
    (F5 : Fun K "_law_reasons" "_law_reasons" s__law_reasons f5 fd5) (b5 : Binds K fd5 ["history", "word"] []) (g5 : mg "_law_reasons" = some (.ref f5)) (G5 : FnOk P w K mg base CX0 2 f5 fd5 ["history", "word"] spReasons)
    (F6 : Fun K "_law_order_right" "_law_order_right" s__law_order_right f6 fd6) (b6 : Binds K fd6 ["history", "tasks"] []) (g6 : mg "_law_order_right" = some (.ref f6)) (G6 : FnOk P w K mg base CX0 1 f6 fd6 ["history", "tasks"] spRight)
    (F7 : Fun K "is_order" "is_order" s_is_order f7 fd7) (b7 : Binds K fd7 ["history", "tasks"] []) (g7 : mg "is_order" = some (.ref f7)) (G7 : FnOk P w K mg base CX0 1 f7 fd7 ["history", "tasks"] spIsOrder)
    (F8 : Fun K "shows_none" "shows_none" s_shows_none f8 fd8) (b8 : Binds K fd8 ["history", "reason"] []) (g8 : mg "shows_none" = some (.ref f8)) (G8 : FnOk P w K mg base CX0 3 f8 fd8 ["history", "reason"] spShows) :
    FnOk P w K mg base CX0 5 f fd ["script"] (spLaw K) := by
  refine F.ok sc_law (fun vs H Q E h => ?_) (fun cdv A outer s H vs Q E hr h => ?_)
  · obtain ⟨a, ns, rfl, _⟩ := h
    rfl
  · obtain ⟨a, ns, rfl, hs, hn, q⟩ := h
    have nd := sc_law.nd
    have hr1 : Room 1 _ := hr.mono (by decide)
    have hr2 : Room 2 _ := hr.mono (by decide)
    have hr3 : Room 3 _ := hr.mono (by decide)
    have hu65 : (A.deeper (envOfC "law" (defScope s_law) s.heap.objs.size f cdv)).units + 65 < cLine := by
      have := hr.un
      omega
    refine ⟨_, pss_cons (ps_for PassesOwn.never rfl (pi_range1 rfl T.rg (pa_cons (pe_op op_add pe_int (pe_callB (call_min2 rfl) (by rfl) T.mn (by decide +kernel) (pa_cons (pe_callB call_len_seq (by rfl) T.ln PySem.boot_len (pa_cons (pv 0) pa_nil)) (pa_cons pe_int pa_nil)))) pa_nil)) (pg_name (i := 1) nd rfl (.inl rfl))
        (pss_cons (ps_set (i := 2) nd rfl (.inl rfl) (pe_call G1 hr1 (by rfl) g1 F1.kp b1 .nil pass0 (pa_cons (pv 0) (pa_cons (pv 1) pa_nil))))
        (pss_cons (ps_set (i := 3) nd rfl (.inl rfl) (pe_call G3 hr2 (by rfl) g3 F3.kp b3 .nil pass0 (pa_cons (pv 2) (pa_cons (pe_ix ix_list (pe_lst (pa_cons pe_int (pa_cons pe_int (pa_cons pe_int (pa_cons pe_int pa_nil))))) (pe_call G2 hr1 (by rfl) g2 F2.kp b2 .nil pass0 (pa_cons (pv 2) (pa_cons pe_int pa_nil))) (fun _ _ => rfl)) pa_nil))))
        (pss_cons (ps_set (i := 4) nd rfl (.inl rfl) (pe_callTy call_list_of (by rfl) T.ls (by decide +kernel) (pa_cons (pv 3) pa_nil)))
        (pss_cons (ps_set (i := 5) nd rfl (.inl rfl) (pe_call G4 hr (by rfl) g4 F4.kp b4 .nil pass0 (pa_cons (pv 4) pa_nil)))
        (pss_cons (ps_if (PW.pt (pw_or (pt_cmpR (op_neD hr.units) (pv 4) (pv 3) (nomark _)) (pw_or1 (pt_not (pt_val (pe_callB RZ.call_isTy (by rfl) T.isi (by decide +kernel) (pa_cons (pv 5) (pa_cons (pe_bltn (v := .ty "tuple") (by rfl) T.tp (by decide +kernel) rfl) pa_nil)))))))) (pss_one (ps_ret pe_bl)) pss_nil)
        (pss_cons (ps_set (i := 6) nd rfl (.inl rfl) (pe_lst pa_nil))
        (pss_cons (ps_for PassesOwn.never rfl (pi_list (pe_lst (pa_cons pe_str (pa_cons pe_str (pa_cons pe_str pa_nil))))) (pg_name (i := 7) nd rfl (.inl rfl))
          (pss_one (ps_if (pt_cmpR (op_eqD hr.units) (pv 6) (pe_lst pa_nil) (nomark _)) (pss_one (ps_set (i := 6) nd rfl (.inl rfl) (pe_call G5 hr2 (by rfl) g5 F5.kp b5 .nil pass0 (pa_cons (pv 3) (pa_cons (pv 7) pa_nil))))) pss_nil)))
        (pss_one (ps_if (pt_cmpR (op_eqD hr.units) (pv 6) (pe_lst pa_nil) (nomark _))
          (pss_cons (ps_if (PW.pt (pw_or (pt_cmpR op_ne (pe_callB call_len_seq (by rfl) T.ln PySem.boot_len (pa_cons (pv 5) pa_nil)) pe_int (nomark _)) (pw_or (pt_cmpR op_ne (pe_ix ix_tup (pv 5) pe_int (fun _ _ => rfl)) pe_str (nomark _))
              (pw_or1 (pt_not (pt_val (pe_call G6 hr1 (by rfl) g6 F6.kp b6 .nil pass0 (pa_cons (pv 3) (pa_cons (pe_ix ix_tup (pv 5) pe_int (fun _ _ => rfl)) pa_nil))))))))) (pss_one (ps_ret pe_bl)) pss_nil)
          (pss_one (ps_if (pt_not (pt_val (pe_call G7 hr1 (by rfl) g7 F7.kp b7 .nil pass0 (pa_cons (pv 3) (pa_cons (pe_ix ix_tup (pv 5) pe_int (fun _ _ => rfl)) pa_nil))))) (pss_one (ps_ret pe_bl)) pss_nil)))
          (pss_one (ps_if (PW.pt (pw_or (pt_cmpR (op_notInD hu65) (pv 5) (pv 6) (by rfl)) (pw_or1 (pt_not (pt_val (pe_call G8 hr3 (by rfl) g8 F8.kp b8 .nil pass0 (pa_cons (pv 3) (pa_cons (pv 5) pa_nil)))))))) (pss_one (ps_ret pe_bl)) pss_nil))))))))))))
      (pss_one (ps_ret pe_bl)), ?_⟩
    refine q_forR1 (n := 1 + (if 3 < ((ns.map V.int).length : Int) then 3 else ((ns.map V.int).length : Int))) (ea_cons (ev_op ev_c (ev_cb (z := .int (if 3 < ((ns.map V.int).length : Int) then 3 else ((ns.map V.int).length : Int))) (ea_cons (ev_len (ev_var rfl) hs) (ea_cons ev_c ea_nil)) (fun H1 e1 Q q => ⟨_, _, rfl, q H1 (Ex.refl _)⟩)) rv_I0) ea_nil) ⟨by split <;> omega, by split <;> omega⟩
      (fun i σ' H' => ∃ j1 j2 j3 j4 j5 j6 j7 : Option V, σ' = [some (.ref a), j1, j2, j3, j4, j5, j6, j7] ∧ Ex H H') ?_ ?_ ?_
    · exact fun H1 e1 => ⟨none, none, none, none, none, none, none, rfl, e1⟩
    · rintro i σ' H1 hi ⟨j1, j2, j3, j4, j5, j6, j7, rfl, e1⟩
      have hi4 : (i : Int) ≤ 100 := by
        split at hi <;> omega
      refine ⟨_, rfl, _, rfl, a, i, ns, rfl, ex_l e1 hs, hn, by omega, hi4, fun H2 p e2 hp b => ?_⟩
      refine q_hist (xs := [.int 6, .int 12, .int 30, .int 60]) rfl b (el_lst (ea_cons ev_c (ea_cons ev_c (ea_cons ev_c (ea_cons ev_c ea_nil)))) (by show 4 ≤ 100000; decide)) ev_c (fun j => most_at) fun H3 hs L bt hq hL W => ?_
      have e3 : Ex H H3 := e1.trans (But.all e2 hp bt)
      have hlen := len_rows W
      refine q_asgL (xs := refs L) (el_list (ev_var rfl) (sq_of hL.lst)) fun hd H4 hhd e4 hhd4 => ?_
      refine ⟨_, rfl, hd, L, rfl, ⟨hhd4, hL.tup.ex e4⟩, W, fun H5 t e5 told => ?_⟩
      have ht : ∃ xs, H5 t = some (.tup xs) := by
        rcases told with ⟨x, h, _⟩ | ⟨l, out, h, _⟩
        · exact ⟨_, h⟩
        · exact ⟨_, h⟩
      obtain ⟨xs, ht⟩ := ht
      have e35 := e4.trans e5
      have e05 : Ex H H5 := e3.trans e35
      have hL5 : Hist H5 hs L := hL.ex e35
      have hD5 : H5 hd = some (.lst (refs L)) := e5 _ _ hhd4
      clear e1 e2 e3 e4 e5 bt b hp hq hhd hhd4 e35
      refine q_when (b := false) (et_is (et_or (a := false) (et_test (ev_op (ev_var (v := .ref hd) rfl) (ev_var (v := .ref hs) rfl) (fun H' e Q q => ⟨.list (encs rowD L), .list (encs rowD L), dp_list flat_row (e _ _ hD5) (hL5.tup.ex e), dp_list flat_row (e _ _ hL5.lst) (hL5.tup.ex e), shaped_tups flat_row _, shaped_tups flat_row _, by
          rw [SeqAt.eqv_refl _ (by simp only [PyData.canLay0]; exact lay_tups flat_row L)]
          exact q H' (Ex.refl _)⟩))) (fun _ => et_not (et_B (b := true) (ev_cb (z := .bl true) (ea_cons (ev_var (v := .ref t) rfl) (ea_cons ev_c ea_nil)) (fun H' e Q q => ⟨_, _, rfl, .tup (e _ _ ht), q H' (Ex.refl _)⟩))))) rfl) (fun h => nomatch h) fun _ H6 e6 => ?_
      refine q_asgL (xs := []) (el_lst ea_nil (by show 0 ≤ 100000; decide)) fun r0 H7 hr0 e7 hr07 => ?_
      refine q_forNLn (xs := word3.map fun u => V.str (wordS u)) (el_lst (show EvA _ _ _ [V.str "early", V.str "both", V.str "within"] from ea_cons ev_c (ea_cons ev_c (ea_cons ev_c ea_nil))) (by show 3 ≤ 100000; decide))
        (fun pl i' σ' H' => ∃ (rp : Addr) (R : List RItem) (j7 : Option V), σ' = [some (.ref a), some (.int i), some (.ref p), some (.ref hs), some (.ref hd), some (.ref t), some (.ref rp), j7] ∧ Ex H5 H' ∧ H' pl = some (.lst (word3.map fun u => V.str (wordS u))) ∧ H' rp = some (.lst (refs R)) ∧ Tups Rsn.vs H' R ∧ R.length ≤ 10000 ∧ Found (rows L) i' R) ?_ ?_ ?_ ?_
      · intro pl H8 hpl e8 hpl8
        exact ⟨r0, [], _, rfl, (e6.trans e7).trans e8, hpl8, e8 _ _ hr07, Tups.nil, by decide, .inl ⟨rfl, fun _ _ k => absurd k (Nat.not_lt_zero _)⟩⟩
      · rintro pl i' σ' H8 _ ⟨rp, R, j7, rfl, e, hpl, _⟩
        exact sq_of hpl
      · rintro pl i' x σ' H8 hx ⟨rp, R, j7, rfl, e, hpl, hR, tR, lR, fnd⟩
        rw [List.getElem?_map] at hx
        cases hw : word3[i']? with
        | none => rw [hw] at hx; cases hx
        | some u =>
          rw [hw] at hx
          obtain rfl : V.str (wordS u) = x := Option.some.inj hx
          refine s_when (et_eqNil (ev_var rfl) (fun H2 e2 => dp_list flat_rsn (e2 _ _ hR) (tR.ex e2)) (shaped_tups flat_rsn _)) (fun h H9 e9 => ?_) (fun h H9 e9 => ?_)
          · rw [encs_empty] at h
            have hnil : R = [] := by
              cases R with
              | nil => rfl
              | cons _ _ => cases h
            subst hnil
            have no : ∀ j u, j < i' → word3[j]? = some u → ∀ a b, ¬ Reason (rows L) u a b := by
              rcases fnd with ⟨_, k⟩ | ⟨k, _⟩
              · exact k
              · exact (k rfl).elim
            exact ⟨_, rfl, _, rfl, hs, u, L, rfl, hL5.ex (e.trans e9), W, fun H10 rp' R' e10 hrp' hR' tR' rl lR' => ⟨rp', R', _, rfl, (e.trans e9).trans e10, (e9.trans e10) _ _ hpl, hR', tR', lR', Found.next no hw rl⟩⟩
          · rw [encs_empty] at h
            exact ⟨rp, R, _, rfl, e.trans e9, e9 _ _ hpl, e9 _ _ hR, tR.ex e9, lR, fnd.more fun k => by rw [k] at h; cases h⟩
      · rintro pl σ' H8 ⟨rp, R, j7, rfl, e, hpl, hR, tR, lR, fnd⟩
        have fnd : Found (rows L) 3 R := fnd
        refine s_if (et_eqNil (ev_var rfl) (fun H2 e2 => dp_list flat_rsn (e2 _ _ hR) (tR.ex e2)) (shaped_tups flat_rsn _)) (fun h H9 e9 => ?_) (fun h H9 e9 => ?_)
        · rw [encs_empty] at h
          have hnil : R = [] := by
            cases R with
            | nil => rfl
            | cons _ _ => cases h
          subst hnil
          have N := fnd.none
          rcases told with ⟨x, _, rx, _⟩ | ⟨l, out, ho, hl, G, _⟩
          · exact (N _ _ _ rx).elim
          · have e59 := e.trans e9
            have hist : ∀ {H'}, Ex H9 H' → Hist H' hs L := fun e' => hL5.ex (e59.trans e')
            have to1 : ∀ {H'}, Ex H9 H' → H' t = some (.tup [.str "order", .ref l]) := fun e' => (e59.trans e') _ _ ho
            have hl' : ∀ {H'}, Ex H9 H' → H' l = some (.lst (out.map fun r => .int r.num)) := fun e' => (e59.trans e') _ _ hl
            refine q_when (b := false) (et_is (et_or (et_test (ev_op (ev_cb (z := .int 2) (ea_cons (ev_var (v := .ref t) rfl) ea_nil) (fun H' e Q q => ⟨t, _, rfl, .inr (st_of (to1 e)), q H' (Ex.refl _)⟩)) ev_c (rv_ne rfl)))
              (fun _ => et_or (et_test (ev_op (ev_op (ev_var (v := .ref t) rfl) ev_c (rv_ixT (st_of (to1 (Ex.refl _))) rfl)) ev_c (rv_ne rfl)))
              (fun _ => et_not (et_B (b := true) (ev_call (ea_cons (ev_var (v := .ref hs) rfl) (ea_cons (ev_op (ev_var (v := .ref t) rfl) ev_c (rv_ixT (v := .ref l) (st_of (to1 (Ex.refl _))) rfl)) ea_nil)) (fun H' e Q q E => ⟨hs, l, L, out, rfl, hist e, W, hl' e, G, q⟩)))))) (by decide +kernel)) (fun h => nomatch h) fun _ H10 e10 => ?_
            refine s_when (b := false) (et_is (et_not (et_B (b := true) (ev_call (ea_cons (ev_var (v := .ref hs) rfl) (ea_cons (ev_op (ev_var (v := .ref t) rfl) ev_c (rv_ixT (v := .ref l) (st_of (to1 e10)) rfl)) ea_nil)) (fun H' e Q q E => ⟨hs, l, L, out, rfl, hist (e10.trans e), W, hl' (e10.trans e), G, q⟩)))) rfl) (fun h => nomatch h) fun _ H11 e11 => ?_
            exact ⟨_, _, _, _, _, _, _, rfl, e05.trans ((e59.trans e10).trans e11)⟩
        · rw [encs_empty] at h
          have hne : R ≠ [] := fun k => by rw [k] at h; cases h
          rcases fnd with ⟨k, _⟩ | ⟨_, u, rl, au⟩
          · exact (hne k).elim
          rcases told with ⟨x, hx, rx, ax⟩ | ⟨l, out, _, _, _, N⟩
          · have e59 := e.trans e9
            have hu : x.1 = u := by
              cases R with
              | nil => exact (hne rfl).elim
              | cons y S =>
                obtain ⟨k1, k2⟩ := (rl y.2).mp ⟨y, by simp, rfl⟩
                rw [k1] at k2
                exact ahead_uniq ax au rx k2
            obtain ⟨r, hr', er⟩ := (rl x).mpr ⟨hu, rx⟩
            have hany : (encs rsnD R).any (fun z => PyData.eqv z (.tuple (rsnD x))) = true := by
              refine List.any_eq_true.mpr ⟨.tuple (rsnD x), List.mem_map.mpr ⟨r, hr', by rw [er]⟩, SeqAt.eqv_refl _ ?_⟩
              simp only [PyData.canLay0]
              exact flat_rsn.lay x
            refine s_when (b := false) (et_is (et_or (a := false) (et_test (ev_op (ev_var (v := .ref t) rfl) (ev_var (v := .ref rp) rfl) (fun H' e' Q q => ⟨.tuple (rsnD x), encs rsnD R, .tup (SqT.of ((e59.trans e') _ _ hx)) (flat_rsn.dp _ _ x), dp_list flat_rsn ((e9.trans e') _ _ hR) (tR.ex (e9.trans e')), shaped_tup flat_rsn x, shaped_tups flat_rsn R, by
                rw [hany]
                exact q H' (Ex.refl _)⟩))) (fun _ => et_not (et_B (b := true) (ev_call (ea_cons (ev_var (v := .ref hs) rfl) (ea_cons (ev_var (v := .ref t) rfl) ea_nil)) (fun H' e' Q q E => ⟨hs, t, x, L, rfl, hL5.ex (e59.trans e'), W, (e59.trans e') _ _ hx, rx, q⟩))))) rfl) (fun h => nomatch h) fun _ H10 e10 => ?_
            exact ⟨_, _, _, _, _, _, _, rfl, e05.trans (e59.trans e10)⟩
          · exfalso
            cases R with
            | nil => exact hne rfl
            | cons y S =>
              obtain ⟨k1, k2⟩ := (rl y.2).mp ⟨y, by simp, rfl⟩
              exact N _ _ _ k2
    · rintro σ' H1 ⟨j1, j2, j3, j4, j5, j6, j7, rfl, e1⟩
      exact s_ret ev_c fun H2 e2 => q H2
end
end K49

namespace K49
open PySem PySem.Spec PyProof.Rows L2
theorem all_mk {l : PySem.W.OpenLaw} {w : World} {K : PySem.W.Frag} {h : Heap} {mg : Str → Option Value} {fa f1 f2 f3 f4 f5 f6 f7 f8 f9 f10 f11 f12 f13 f14 f15 f16 f17 f18 : Addr} (X : K.In h) (G : h.Ns mainGlobals mg) (hfa : mg "law" = some (.ref fa))
    {od1 an1 od2 an2 od3 an3 od4 an4 od5 an5 od6 an6 od7 an7 od8 an8 od9 an9 od10 an10 od11 an11 od12 an12 od13 an13 od14 an14 od15 an15 od16 an16 od17 an17 od18 an18 : Option Addr} {sl1 sl2 sl3 sl4 sl5 sl6 sl7 sl8 sl9 sl10 sl11 sl12 sl13 sl14 sl15 sl16 sl17 sl18 : Array (Option Value)} {oc1 kV1 dc1 pm1 cd1 ct1 oc2 kV2 dc2 pm2 cd2 ct2 oc3 kV3 dc3 pm3 cd3 ct3 oc4 kV4 dc4 pm4 cd4 ct4 oc5 kV5 dc5 pm5 cd5 ct5 oc6 kV6 dc6 pm6 cd6 ct6 oc7 kV7 dc7 pm7 cd7 ct7 oc8 kV8 dc8 pm8 cd8 ct8 oc9 kV9 dc9 pm9 cd9 ct9 oc10 kV10 dc10 pm10 cd10 ct10 oc11 kV11 dc11 pm11 cd11 ct11 oc12 kV12 dc12 pm12 cd12 ct12 oc13 kV13 dc13 pm13 cd13 ct13 oc14 kV14 dc14 pm14 cd14 ct14 oc15 kV15 dc15 pm15 cd15 ct15 oc16 kV16 dc16 pm16 cd16 ct16 oc17 kV17 dc17 pm17 cd17 ct17 oc18 kV18 dc18 pm18 cd18 ct18 : Value}
    (a1 : PySem.W.nsIn K mainGlobals "zones" = some (some (.ref f1))) (l1 : K.lookup f1 = some ⟨oc1, od1, .func (PySem.W.fnOf "zones" "zones" (defArgs s_zones) (defBody s_zones) (defScope s_zones) .none kV1 dc1 pm1 an1 cd1 ct1), sl1⟩) (c1 : PySem.W.codeIn K cd1 "zones" = true) (k1 : PySem.W.keepIn K (.ref f1) = true)
    (a2 : PySem.W.nsIn K mainGlobals "is_early" = some (some (.ref f2))) (l2 : K.lookup f2 = some ⟨oc2, od2, .func (PySem.W.fnOf "is_early" "is_early" (defArgs s_is_early) (defBody s_is_early) (defScope s_is_early) .none kV2 dc2 pm2 an2 cd2 ct2), sl2⟩) (c2 : PySem.W.codeIn K cd2 "is_early" = true) (k2 : PySem.W.keepIn K (.ref f2) = true)
    (a3 : PySem.W.nsIn K mainGlobals "goes_ahead" = some (some (.ref f3))) (l3 : K.lookup f3 = some ⟨oc3, od3, .func (PySem.W.fnOf "goes_ahead" "goes_ahead" (defArgs s_goes_ahead) (defBody s_goes_ahead) (defScope s_goes_ahead) .none kV3 dc3 pm3 an3 cd3 ct3), sl3⟩) (c3 : PySem.W.codeIn K cd3 "goes_ahead" = true) (k3 : PySem.W.keepIn K (.ref f3) = true)
    (a4 : PySem.W.nsIn K mainGlobals "is_open" = some (some (.ref f4))) (l4 : K.lookup f4 = some ⟨oc4, od4, .func (PySem.W.fnOf "is_open" "is_open" (defArgs s_is_open) (defBody s_is_open) (defScope s_is_open) .none kV4 dc4 pm4 an4 cd4 ct4), sl4⟩) (c4 : PySem.W.codeIn K cd4 "is_open" = true) (k4 : PySem.W.keepIn K (.ref f4) = true)
    (a5 : PySem.W.nsIn K mainGlobals "clash" = some (some (.ref f5))) (l5 : K.lookup f5 = some ⟨oc5, od5, .func (PySem.W.fnOf "clash" "clash" (defArgs s_clash) (defBody s_clash) (defScope s_clash) .none kV5 dc5 pm5 an5 cd5 ct5), sl5⟩) (c5 : PySem.W.codeIn K cd5 "clash" = true) (k5 : PySem.W.keepIn K (.ref f5) = true)
    (a6 : PySem.W.nsIn K mainGlobals "shows_none" = some (some (.ref f6))) (l6 : K.lookup f6 = some ⟨oc6, od6, .func (PySem.W.fnOf "shows_none" "shows_none" (defArgs s_shows_none) (defBody s_shows_none) (defScope s_shows_none) .none kV6 dc6 pm6 an6 cd6 ct6), sl6⟩) (c6 : PySem.W.codeIn K cd6 "shows_none" = true) (k6 : PySem.W.keepIn K (.ref f6) = true)
    (a7 : PySem.W.nsIn K mainGlobals "earlies" = some (some (.ref f7))) (l7 : K.lookup f7 = some ⟨oc7, od7, .func (PySem.W.fnOf "earlies" "earlies" (defArgs s_earlies) (defBody s_earlies) (defScope s_earlies) .none kV7 dc7 pm7 an7 cd7 ct7), sl7⟩) (c7 : PySem.W.codeIn K cd7 "earlies" = true) (k7 : PySem.W.keepIn K (.ref f7) = true)
    (a8 : PySem.W.nsIn K mainGlobals "clashes" = some (some (.ref f8))) (l8 : K.lookup f8 = some ⟨oc8, od8, .func (PySem.W.fnOf "clashes" "clashes" (defArgs s_clashes) (defBody s_clashes) (defScope s_clashes) .none kV8 dc8 pm8 an8 cd8 ct8), sl8⟩) (c8 : PySem.W.codeIn K cd8 "clashes" = true) (k8 : PySem.W.keepIn K (.ref f8) = true)
    (a9 : PySem.W.nsIn K mainGlobals "next_value" = some (some (.ref f9))) (l9 : K.lookup f9 = some ⟨oc9, od9, .func (PySem.W.fnOf "next_value" "next_value" (defArgs s_next_value) (defBody s_next_value) (defScope s_next_value) .none kV9 dc9 pm9 an9 cd9 ct9), sl9⟩) (c9 : PySem.W.codeIn K cd9 "next_value" = true) (k9 : PySem.W.keepIn K (.ref f9) = true)
    (a10 : PySem.W.nsIn K mainGlobals "ordered" = some (some (.ref f10))) (l10 : K.lookup f10 = some ⟨oc10, od10, .func (PySem.W.fnOf "ordered" "ordered" (defArgs s_ordered) (defBody s_ordered) (defScope s_ordered) .none kV10 dc10 pm10 an10 cd10 ct10), sl10⟩) (c10 : PySem.W.codeIn K cd10 "ordered" = true) (k10 : PySem.W.keepIn K (.ref f10) = true)
    (a11 : PySem.W.nsIn K mainGlobals "is_order" = some (some (.ref f11))) (l11 : K.lookup f11 = some ⟨oc11, od11, .func (PySem.W.fnOf "is_order" "is_order" (defArgs s_is_order) (defBody s_is_order) (defScope s_is_order) .none kV11 dc11 pm11 an11 cd11 ct11), sl11⟩) (c11 : PySem.W.codeIn K cd11 "is_order" = true) (k11 : PySem.W.keepIn K (.ref f11) = true)
    (a12 : PySem.W.nsIn K mainGlobals "_law_bag" = some (some (.ref f12))) (l12 : K.lookup f12 = some ⟨oc12, od12, .func (PySem.W.fnOf "_law_bag" "_law_bag" (defArgs s__law_bag) (defBody s__law_bag) (defScope s__law_bag) .none kV12 dc12 pm12 an12 cd12 ct12), sl12⟩) (c12 : PySem.W.codeIn K cd12 "_law_bag" = true) (k12 : PySem.W.keepIn K (.ref f12) = true)
    (a13 : PySem.W.nsIn K mainGlobals "_law_take" = some (some (.ref f13))) (l13 : K.lookup f13 = some ⟨oc13, od13, .func (PySem.W.fnOf "_law_take" "_law_take" (defArgs s__law_take) (defBody s__law_take) (defScope s__law_take) .none kV13 dc13 pm13 an13 cd13 ct13), sl13⟩) (c13 : PySem.W.codeIn K cd13 "_law_take" = true) (k13 : PySem.W.keepIn K (.ref f13) = true)
    (a14 : PySem.W.nsIn K mainGlobals "_law_history" = some (some (.ref f14))) (l14 : K.lookup f14 = some ⟨oc14, od14, .func (PySem.W.fnOf "_law_history" "_law_history" (defArgs s__law_history) (defBody s__law_history) (defScope s__law_history) .none kV14 dc14 pm14 an14 cd14 ct14), sl14⟩) (c14 : PySem.W.codeIn K cd14 "_law_history" = true) (k14 : PySem.W.keepIn K (.ref f14) = true)
    (a15 : PySem.W.nsIn K mainGlobals "_law_order_right" = some (some (.ref f15))) (l15 : K.lookup f15 = some ⟨oc15, od15, .func (PySem.W.fnOf "_law_order_right" "_law_order_right" (defArgs s__law_order_right) (defBody s__law_order_right) (defScope s__law_order_right) .none kV15 dc15 pm15 an15 cd15 ct15), sl15⟩) (c15 : PySem.W.codeIn K cd15 "_law_order_right" = true) (k15 : PySem.W.keepIn K (.ref f15) = true)
    (a16 : PySem.W.nsIn K mainGlobals "_law_zone" = some (some (.ref f16))) (l16 : K.lookup f16 = some ⟨oc16, od16, .func (PySem.W.fnOf "_law_zone" "_law_zone" (defArgs s__law_zone) (defBody s__law_zone) (defScope s__law_zone) .none kV16 dc16 pm16 an16 cd16 ct16), sl16⟩) (c16 : PySem.W.codeIn K cd16 "_law_zone" = true) (k16 : PySem.W.keepIn K (.ref f16) = true)
    (a17 : PySem.W.nsIn K mainGlobals "_law_reasons" = some (some (.ref f17))) (l17 : K.lookup f17 = some ⟨oc17, od17, .func (PySem.W.fnOf "_law_reasons" "_law_reasons" (defArgs s__law_reasons) (defBody s__law_reasons) (defScope s__law_reasons) .none kV17 dc17 pm17 an17 cd17 ct17), sl17⟩) (c17 : PySem.W.codeIn K cd17 "_law_reasons" = true) (k17 : PySem.W.keepIn K (.ref f17) = true)
    (a18 : PySem.W.nsIn K mainGlobals "law" = some (some (.ref f18))) (l18 : K.lookup f18 = some ⟨oc18, od18, .func (PySem.W.fnOf "law" "law" (defArgs s_law) (defBody s_law) (defScope s_law) .none kV18 dc18 pm18 an18 cd18 ct18), sl18⟩) (c18 : PySem.W.codeIn K cd18 "law" = true) (k18 : PySem.W.keepIn K (.ref f18) = true)
    (z_min : PySem.W.nsIn K mainGlobals "min" = some none) (z_max : PySem.W.nsIn K mainGlobals "max" = some none) (z_list : PySem.W.nsIn K mainGlobals "list" = some none) (z_any : PySem.W.nsIn K mainGlobals "any" = some none) (z_sorted : PySem.W.nsIn K mainGlobals "sorted" = some none) (z_len : PySem.W.nsIn K mainGlobals "len" = some none) (z_abs : PySem.W.nsIn K mainGlobals "abs" = some none) (z_range : PySem.W.nsIn K mainGlobals "range" = some none) (z_isinstance : PySem.W.nsIn K mainGlobals "isinstance" = some none) (z_int : PySem.W.nsIn K mainGlobals "int" = some none) (z_set : PySem.W.nsIn K mainGlobals "set" = some none) (z_zip : PySem.W.nsIn K mainGlobals "zip" = some none) (z_tuple : PySem.W.nsIn K mainGlobals "tuple" = some none) :
    ∃ fd : FuncData, (∀ (s : Shared) (v : Value), BindsTo s fd ⟨[v], []⟩ [("script", v)]) ∧ ∀ base : Heap, K.In base → base.Ns mainGlobals mg → FnOk l.prog w K mg base CX0 5 fa fd ["script"] (spLaw K) := by
  have e := hfa.symm.trans (PySem.W.mg_of X G a18)
  cases e
  have F1 := fun_mk (st := s_zones) l1 c1 k1
  have F2 := fun_mk (st := s_is_early) l2 c2 k2
  have F3 := fun_mk (st := s_goes_ahead) l3 c3 k3
  have F4 := fun_mk (st := s_is_open) l4 c4 k4
  have F5 := fun_mk (st := s_clash) l5 c5 k5
  have F6 := fun_mk (st := s_shows_none) l6 c6 k6
  have F7 := fun_mk (st := s_earlies) l7 c7 k7
  have F8 := fun_mk (st := s_clashes) l8 c8 k8
  have F9 := fun_mk (st := s_next_value) l9 c9 k9
  have F10 := fun_mk (st := s_ordered) l10 c10 k10
  have F11 := fun_mk (st := s_is_order) l11 c11 k11
  have F12 := fun_mk (st := s__law_bag) l12 c12 k12
  have F13 := fun_mk (st := s__law_take) l13 c13 k13
  have F14 := fun_mk (st := s__law_history) l14 c14 k14
  have F15 := fun_mk (st := s__law_order_right) l15 c15 k15
  have F16 := fun_mk (st := s__law_zone) l16 c16 k16
  have F17 := fun_mk (st := s__law_reasons) l17 c17 k17
  have F18 := fun_mk (st := s_law) l18 c18 k18
  have b1 := F1.binds (ps := ["history"]) fun _ _ _ _ _ _ us hl => match us, hl with | [_], _ => rfl
  have g1 := PySem.W.mg_of X G a1
  have b2 := F2.binds (ps := ["history", "read", "write"]) fun _ _ _ _ _ _ us hl => match us, hl with | [_, _, _], _ => rfl
  have g2 := PySem.W.mg_of X G a2
  have b3 := F3.binds (ps := ["zone", "other"]) fun _ _ _ _ _ _ us hl => match us, hl with | [_, _], _ => rfl
  have g3 := PySem.W.mg_of X G a3
  have b4 := F4.binds (ps := ["zone"]) fun _ _ _ _ _ _ us hl => match us, hl with | [_], _ => rfl
  have g4 := PySem.W.mg_of X G a4
  have b5 := F5.binds (ps := ["zone", "other"]) fun _ _ _ _ _ _ us hl => match us, hl with | [_, _], _ => rfl
  have g5 := PySem.W.mg_of X G a5
  have b6 := F6.binds (ps := ["history", "reason"]) fun _ _ _ _ _ _ us hl => match us, hl with | [_, _], _ => rfl
  have g6 := PySem.W.mg_of X G a6
  have b7 := F7.binds (ps := ["history"]) fun _ _ _ _ _ _ us hl => match us, hl with | [_], _ => rfl
  have g7 := PySem.W.mg_of X G a7
  have b8 := F8.binds (ps := ["history"]) fun _ _ _ _ _ _ us hl => match us, hl with | [_], _ => rfl
  have g8 := PySem.W.mg_of X G a8
  have b9 := F9.binds (ps := ["found", "left"]) fun _ _ _ _ _ _ us hl => match us, hl with | [_, _], _ => rfl
  have g9 := PySem.W.mg_of X G a9
  have b10 := F10.binds (ps := ["history"]) fun _ _ _ _ _ _ us hl => match us, hl with | [_], _ => rfl
  have g10 := PySem.W.mg_of X G a10
  have b11 := F11.binds (ps := ["history", "tasks"]) fun _ _ _ _ _ _ us hl => match us, hl with | [_, _], _ => rfl
  have g11 := PySem.W.mg_of X G a11
  have b12 := F12.binds (ps := ["script", "k"]) fun _ _ _ _ _ _ us hl => match us, hl with | [_, _], _ => rfl
  have g12 := PySem.W.mg_of X G a12
  have b13 := F13.binds (ps := ["bag", "many"]) fun _ _ _ _ _ _ us hl => match us, hl with | [_, _], _ => rfl
  have g13 := PySem.W.mg_of X G a13
  have b14 := F14.binds (ps := ["bag", "most"]) fun _ _ _ _ _ _ us hl => match us, hl with | [_, _], _ => rfl
  have g14 := PySem.W.mg_of X G a14
  have b15 := F15.binds (ps := ["history", "tasks"]) fun _ _ _ _ _ _ us hl => match us, hl with | [_, _], _ => rfl
  have g15 := PySem.W.mg_of X G a15
  have b16 := F16.binds (ps := ["history", "value"]) fun _ _ _ _ _ _ us hl => match us, hl with | [_, _], _ => rfl
  have g16 := PySem.W.mg_of X G a16
  have b17 := F17.binds (ps := ["history", "word"]) fun _ _ _ _ _ _ us hl => match us, hl with | [_, _], _ => rfl
  have g17 := PySem.W.mg_of X G a17
  have T : Blt mg := ⟨PySem.W.mg_none_of X G z_min, PySem.W.mg_none_of X G z_max, PySem.W.mg_none_of X G z_list, PySem.W.mg_none_of X G z_any, PySem.W.mg_none_of X G z_sorted, PySem.W.mg_none_of X G z_len, PySem.W.mg_none_of X G z_abs, PySem.W.mg_none_of X G z_range, PySem.W.mg_none_of X G z_isinstance, PySem.W.mg_none_of X G z_int, PySem.W.mg_none_of X G z_set, PySem.W.mg_none_of X G z_zip, PySem.W.mg_none_of X G z_tuple⟩
  refine ⟨PySem.W.fnOf "law" "law" (defArgs s_law) (defBody s_law) (defScope s_law) .none kV18 dc18 pm18 an18 cd18 ct18, fun s v => .of_eq rfl, fun base _ _ => ?_⟩
  have Q5 := ok_clash (P := l.prog) (w := w) (base := base) F5 F3 b3 g3 F4 b4 g4
  have Q8 := ok_clashes F8 T F1 b1 g1 F5 b5 g5 Q5
  have Q9 := ok_next (P := l.prog) (w := w) (base := base) F9 T F3 b3 g3
  have Q10 := ok_ordered F10 T F7 b7 g7 F8 b8 g8 F1 b1 g1 F9 b9 g9 Q8 Q9
  have Q6 := ok_shows F6 T F2 b2 g2 F1 b1 g1 F5 b5 g5 Q5
  have Q17 := ok_reasons (P := l.prog) (w := w) (base := base) F17 T F16 b16 g16
  have Q14 := ok_history (P := l.prog) (w := w) (base := base) F14 T F13 b13 g13
  exact ok_law F18 T F12 b12 g12 (ok_bag F12 T) F13 b13 g13 (ok_take F13) F14 b14 g14 Q14 F10 b10 g10 Q10 F17 b17 g17 Q17 F15 b15 g15 (ok_right F15 T) F11 b11 g11 (ok_isOrder F11 T) F6 b6 g6 Q6
theorem walk {l : PySem.W.OpenLaw} {q : Program} {loose : List Str} {XP : (Str → Option Value) → Heap → Prop} {YP : World → Heap → Prop} {d : DefRec} {K : Params → PySem.W.Frag} (hn : l.most = some 63) (hdf : d.params.defaults = [])
    (hY : ∀ (w : World) (h : Heap), YP w h → (K w.params).In h)
    (F : ∀ (w : World) (mg : Str → Option Value) (fa : Addr) (h : Heap), (K w.params).In h → h.Ns mainGlobals mg → mg d.name = some (.ref fa) →
      ∃ fd : FuncData, (∀ (s : Shared) (u : Value), BindsTo s fd ⟨[u], []⟩ [("script", u)]) ∧ ∀ base : Heap, (K w.params).In base → base.Ns mainGlobals mg → FnOk l.prog w (K w.params) mg base CX0 5 fa fd ["script"] (spLaw (K w.params))) :
    PySem.W.WalkO q loose XP YP l.row.toRowW d [] (fun f vs => PySem.call f vs) :=
  L2.walk_of (n := 63) (k := 5) (x := "script") (CX := fun _ => CX0) (sp := fun w => spLaw (K w.params)) hn (by decide) hdf ⟨rfl, by decide, by decide⟩ hY F (fun _ _ a ns hl _ hS => ⟨a, ns, rfl, hS, hl, fun _ => rfl⟩) fun _ _ _ _ _ z => z
end K49

open PySem PySem.W PyProof.Rows in
set_option maxRecDepth 100000 in
set_option maxHeartbeats 0 in
theorem PySem.Challenge.cw_pagelend_k49_whole_an_order_or_why_none_holds : PySem.Challenge.rw_pagelend_k49_whole_an_order_or_why_none.Holds := by
  w_on; o_law; k_head; (case hw => w_witness2)
  k_fill
  refine K49.walk (l := PySem.Challenge.rw_pagelend_k49_whole_an_order_or_why_none) rfl rfl (fun w h Y => PySem.W.kIn_of Y) ?F
  case F =>
    intro w mg fa h KX G hmg
    refine' K49.all_mk KX G hmg ?a1 ?l1 ?c1 ?k1 ?a2 ?l2 ?c2 ?k2 ?a3 ?l3 ?c3 ?k3 ?a4 ?l4 ?c4 ?k4 ?a5 ?l5 ?c5 ?k5 ?a6 ?l6 ?c6 ?k6 ?a7 ?l7 ?c7 ?k7 ?a8 ?l8 ?c8 ?k8 ?a9 ?l9 ?c9 ?k9 ?a10 ?l10 ?c10 ?k10 ?a11 ?l11 ?c11 ?k11 ?a12 ?l12 ?c12 ?k12 ?a13 ?l13 ?c13 ?k13 ?a14 ?l14 ?c14 ?k14 ?a15 ?l15 ?c15 ?k15 ?a16 ?l16 ?c16 ?k16 ?a17 ?l17 ?c17 ?k17 ?a18 ?l18 ?c18 ?k18 ?z_min ?z_max ?z_list ?z_any ?z_sorted ?z_len ?z_abs ?z_range ?z_isinstance ?z_int ?z_set ?z_zip ?z_tuple
    (case a1 => k_is)
    (case l1 => k_is)
    (case c1 => k_is)
    (case k1 => k_is)
    (case a2 => k_is)
    (case l2 => k_is)
    (case c2 => k_is)
    (case k2 => k_is)
    (case a3 => k_is)
    (case l3 => k_is)
    (case c3 => k_is)
    (case k3 => k_is)
    (case a4 => k_is)
    (case l4 => k_is)
    (case c4 => k_is)
    (case k4 => k_is)
    (case a5 => k_is)
    (case l5 => k_is)
    (case c5 => k_is)
    (case k5 => k_is)
    (case a6 => k_is)
    (case l6 => k_is)
    (case c6 => k_is)
    (case k6 => k_is)
    (case a7 => k_is)
    (case l7 => k_is)
    (case c7 => k_is)
    (case k7 => k_is)
    (case a8 => k_is)
    (case l8 => k_is)
    (case c8 => k_is)
    (case k8 => k_is)
    (case a9 => k_is)
    (case l9 => k_is)
    (case c9 => k_is)
    (case k9 => k_is)
    (case a10 => k_is)
    (case l10 => k_is)
    (case c10 => k_is)
    (case k10 => k_is)
    (case a11 => k_is)
    (case l11 => k_is)
    (case c11 => k_is)
    (case k11 => k_is)
    (case a12 => k_is)
    (case l12 => k_is)
    (case c12 => k_is)
    (case k12 => k_is)
    (case a13 => k_is)
    (case l13 => k_is)
    (case c13 => k_is)
    (case k13 => k_is)
    (case a14 => k_is)
    (case l14 => k_is)
    (case c14 => k_is)
    (case k14 => k_is)
    (case a15 => k_is)
    (case l15 => k_is)
    (case c15 => k_is)
    (case k15 => k_is)
    (case a16 => k_is)
    (case l16 => k_is)
    (case c16 => k_is)
    (case k16 => k_is)
    (case a17 => k_is)
    (case l17 => k_is)
    (case c17 => k_is)
    (case k17 => k_is)
    (case a18 => k_is)
    (case l18 => k_is)
    (case c18 => k_is)
    (case k18 => k_is)
    (case z_min => k_is)
    (case z_max => k_is)
    (case z_list => k_is)
    (case z_any => k_is)
    (case z_sorted => k_is)
    (case z_len => k_is)
    (case z_abs => k_is)
    (case z_range => k_is)
    (case z_isinstance => k_is)
    (case z_int => k_is)
    (case z_set => k_is)
    (case z_zip => k_is)
    (case z_tuple => k_is)

