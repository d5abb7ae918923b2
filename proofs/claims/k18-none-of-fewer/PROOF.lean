import PyProof.Rows.All
import Wide.All
import OpenK.AllK
import Wide.FinOn
import HandS.ForMost
import HandS.Exc
import HandS.ExcOwn
import HandS.IsInst
import HandS.Wide
import HandS.Deep
import HandS.OwnEq
import HandS.CallLocal
import HandS.Codes
import HandS.Defaults
import HandS.Strs
import HandS.SetFor
import HandS.EndTab
import HandS.Evl
import KE.SortKeyHeap
import KE.KDictItemsList
import KE.KDictKeyed
import KE.KeyNested
import PySem.Challenge.RW_cellblocks_k18_whole_none_of_fewer
import HandS.SortKw
import KE.KDictZip
import HandS.MapObj
import KE.KTurns
import KE.KDictPairs
import HandS.Small
import HandS.EndOwn
set_option Elab.async false
set_option linter.all false
set_option maxRecDepth 100000
set_option maxHeartbeats 4000000
namespace CB
abbrev Run := Int × Option Int
structure Blk where
  top : Int
  left : Int
  bottom : Option Int
  right : Option Int
  deriving DecidableEq

/-! ### lists in a strict order -/
theorem sorted_ext {α : Type} {lt : α → α → Prop} (asym : ∀ a b, lt a b → ¬ lt b a) : ∀ {l l' : List α}, l.Pairwise lt → l'.Pairwise lt → (∀ x, x ∈ l ↔ x ∈ l') → l = l'
  | [], [], _, _, _ => rfl
  | [], y :: ys, _, _, h => absurd ((h y).mpr List.mem_cons_self) (by simp)
  | x :: xs, [], _, _, h => absurd ((h x).mp List.mem_cons_self) (by simp)
  | x :: xs, y :: ys, p, q, h => by
    have irr : ∀ a, ¬ lt a a := fun a e => asym a a e e
    obtain ⟨p1, p2⟩ := List.pairwise_cons.mp p
    obtain ⟨q1, q2⟩ := List.pairwise_cons.mp q
    have exy : x = y := by
      rcases List.mem_cons.mp ((h x).mp List.mem_cons_self) with e | e
      · exact e
      · rcases List.mem_cons.mp ((h y).mpr List.mem_cons_self) with e' | e'
        · exact e'.symm
        · exact absurd (q1 x e) (asym _ _ (p1 y e'))
    subst exy
    have ih := sorted_ext asym p2 q2 (fun z => by
      constructor
      · intro hz
        rcases List.mem_cons.mp ((h z).mp (List.mem_cons_of_mem _ hz)) with e | e
        · subst e; exact absurd (p1 _ hz) (irr _)
        · exact e
      · intro hz
        rcases List.mem_cons.mp ((h z).mpr (List.mem_cons_of_mem _ hz)) with e | e
        · subst e; exact absurd (q1 _ hz) (irr _)
        · exact e)
    rw [ih]
theorem nodup_len {α : Type} [DecidableEq α] : ∀ (l m : List α), l.Nodup → (∀ x, x ∈ l → x ∈ m) → l.length ≤ m.length
  | [], m, _, _ => Nat.zero_le _
  | x :: l, m, h, hs => by
    obtain ⟨h1, h2⟩ := List.nodup_cons.mp h
    have hx := hs x List.mem_cons_self
    have ih := nodup_len l (m.erase x) h2 (fun y hy => by
      have hne : y ≠ x := fun e => h1 (e ▸ hy)
      exact (List.mem_erase_of_ne hne).mpr (hs y (List.mem_cons_of_mem _ hy)))
    have := List.length_erase_of_mem hx
    have hp : 0 < m.length := List.length_pos_of_mem hx
    rw [List.length_cons]
    omega
theorem nodup_len_eq {α : Type} [DecidableEq α] {l m : List α} (hl : l.Nodup) (hm : m.Nodup) (h : ∀ x, x ∈ l ↔ x ∈ m) : l.length = m.length :=
  Nat.le_antisymm (nodup_len l m hl fun x => (h x).mp) (nodup_len m l hm fun x => (h x).mpr)

/-! ### sorted cuts -/
def insU (x : Int) : List Int → List Int
  | [] => [x]
  | y :: r => if x < y then x :: y :: r else if x = y then y :: r else y :: insU x r
theorem mem_insU (x z : Int) : ∀ l : List Int, z ∈ insU x l ↔ z = x ∨ z ∈ l
  | [] => by simp [insU]
  | y :: r => by
    unfold insU
    split
    · simp
    · split
      · rename_i h; subst h; simp
      · simp [mem_insU x z r]
        constructor
        · rintro (h | h | h) <;> simp [h]
        · rintro (h | h | h) <;> simp [h]
theorem insU_sorted (x : Int) : ∀ l : List Int, l.Pairwise (· < ·) → (insU x l).Pairwise (· < ·)
  | [], _ => by simp [insU]
  | y :: r, h => by
    obtain ⟨h1, h2⟩ := List.pairwise_cons.mp h
    unfold insU
    split
    · rename_i hx
      refine List.pairwise_cons.mpr ⟨fun z hz => ?_, h⟩
      rcases List.mem_cons.mp hz with e | e
      · subst e; exact hx
      · exact Int.lt_trans hx (h1 z e)
    · split
      · exact h
      · refine List.pairwise_cons.mpr ⟨fun z hz => ?_, insU_sorted x r h2⟩
        rcases (mem_insU x z r).mp hz with e | e
        · subst e; omega
        · exact h1 z e
def sortU (xs : List Int) : List Int := xs.foldr insU []
theorem mem_sortU (z : Int) : ∀ xs : List Int, z ∈ sortU xs ↔ z ∈ xs
  | [] => by simp [sortU]
  | x :: xs => by
    show z ∈ insU x (sortU xs) ↔ _
    rw [mem_insU, mem_sortU z xs, List.mem_cons]
theorem sortU_sorted : ∀ xs : List Int, (sortU xs).Pairwise (· < ·)
  | [] => by simp [sortU]
  | x :: xs => insU_sorted x _ (sortU_sorted xs)
theorem sortU_uniq {l xs : List Int} (h : l.Pairwise (· < ·)) (hm : ∀ z, z ∈ l ↔ z ∈ xs) : l = sortU xs :=
  sorted_ext (lt := fun a b : Int => a < b) (fun a b h => by omega) h (sortU_sorted xs) fun z => (hm z).trans (mem_sortU z xs).symm
theorem insU_length (x : Int) : ∀ l : List Int, (insU x l).length ≤ l.length + 1
  | [] => by simp [insU]
  | y :: r => by
    have := insU_length x r
    unfold insU
    split
    · simp
    · split <;> simp <;> omega
theorem sortU_length : ∀ xs : List Int, (sortU xs).length ≤ xs.length
  | [] => by simp [sortU]
  | x :: xs => by
    have h1 := sortU_length xs
    have h2 := insU_length x (sortU xs)
    show (insU x (sortU xs)).length ≤ xs.length + 1
    omega

/-! ### spans -/
def inR (r : Run) (c : Int) : Prop := r.1 ≤ c ∧ ∀ b, r.2 = some b → c ≤ b
def inRb (r : Run) (c : Int) : Bool := decide (r.1 ≤ c) && (match r.2 with | none => true | some b => decide (c ≤ b))
theorem inRb_iff {r : Run} {c : Int} : inRb r c = true ↔ inR r c := by
  obtain ⟨a, b⟩ := r
  cases b with
  | none => simp [inRb, inR]
  | some b => simp [inRb, inR]
def spans : List Int → List Run
  | [] => []
  | [c] => [(c, none)]
  | c :: d :: r => (c, some (d - 1)) :: spans (d :: r)
theorem spans_length : ∀ l : List Int, (spans l).length = l.length
  | [] => rfl
  | [c] => rfl
  | c :: d :: r => by
    show (spans (d :: r)).length + 1 = (d :: r).length + 1
    rw [spans_length (d :: r)]
/-- no cut lies within a span -/
theorem span_const : ∀ {cs : List Int}, cs.Pairwise (· < ·) → ∀ {p : Run}, p ∈ spans cs → ∀ {c x : Int}, inR p c → x ∈ cs → (x ≤ c ↔ x ≤ p.1)
  | [], _, p, hp, _, _, _, _ => by simp [spans] at hp
  | [a], _, p, hp, c, x, hc, hx => by
    simp [spans] at hp
    simp at hx
    subst hp hx
    have := hc.1
    constructor
    · intro _; exact Int.le_refl _
    · intro _; exact this
  | a :: d :: r, h, p, hp, c, x, hc, hx => by
    obtain ⟨h1, h2⟩ := List.pairwise_cons.mp h
    have had : a < d := h1 d List.mem_cons_self
    rcases List.mem_cons.mp hp with e | e
    · subst e
      have c1 := hc.1
      have c2 := hc.2 (d - 1) rfl
      simp only at c1 c2 ⊢
      rcases List.mem_cons.mp hx with e | e
      · subst e; omega
      · have : d ≤ x := by
          rcases List.mem_cons.mp e with e | e
          · omega
          · have := (List.pairwise_cons.mp h2).1 x e
            omega
        omega
    · have hp1 : d ≤ p.1 := by
        have key : ∀ (l : List Int), l.Pairwise (· < ·) → ∀ p ∈ spans l, p.1 ∈ l := by
          intro l
          induction l using spans.induct with
          | case1 => intro _ p hp; simp [spans] at hp
          | case2 c => intro _ p hp; simp [spans] at hp; subst hp; simp
          | case3 c d r ih =>
            intro hl p hp
            rcases List.mem_cons.mp hp with e | e
            · subst e; exact List.mem_cons_self
            · exact List.mem_cons_of_mem _ (ih (List.pairwise_cons.mp hl).2 p e)
        have := key _ h2 p e
        rcases List.mem_cons.mp this with e | e
        · omega
        · have := (List.pairwise_cons.mp h2).1 _ e; omega
      rcases List.mem_cons.mp hx with ex | ex
      · subst ex
        have := hc.1
        constructor <;> intro _ <;> omega
      · exact span_const h2 e hc ex
theorem spans_first : ∀ {cs : List Int} {p : Run}, p ∈ spans cs → p.1 ∈ cs := by
  intro l
  induction l using spans.induct with
  | case1 => intro p hp; simp [spans] at hp
  | case2 c => intro p hp; simp [spans] at hp; subst hp; simp
  | case3 c d r ih =>
    intro p hp
    rcases List.mem_cons.mp hp with e | e
    · subst e; exact List.mem_cons_self
    · exact List.mem_cons_of_mem _ (ih e)
theorem span_cover : ∀ {cs : List Int}, cs.Pairwise (· < ·) → ∀ {c x : Int}, x ∈ cs → x ≤ c → ∃ p ∈ spans cs, inR p c
  | [], _, _, _, hx, _ => by simp at hx
  | [a], _, c, x, hx, hc => by
    simp at hx; subst hx
    exact ⟨(x, none), by simp [spans], hc, by simp⟩
  | a :: d :: r, h, c, x, hx, hc => by
    obtain ⟨h1, h2⟩ := List.pairwise_cons.mp h
    by_cases hd : d ≤ c
    · obtain ⟨p, hp, q⟩ := span_cover h2 (List.mem_cons_self (a := d) (l := r)) hd
      exact ⟨p, List.mem_cons_of_mem _ hp, q⟩
    · have : a ≤ c := by
        rcases List.mem_cons.mp hx with e | e
        · omega
        · have := h1 x e; omega
      exact ⟨(a, some (d - 1)), List.mem_cons_self, this, fun b hb => by cases hb; omega⟩
/-- the ends of stretches among the cuts: a stretch has a span wholly or not at all -/
def cutsOf (es : List Run) : List Int := es.map (·.1) ++ es.filterMap (fun e => e.2.map (· + 1))
theorem mem_cuts1 {es : List Run} {e : Run} (h : e ∈ es) : e.1 ∈ cutsOf es := List.mem_append_left _ (List.mem_map.mpr ⟨e, h, rfl⟩)
theorem mem_cuts2 {es : List Run} {e : Run} {b : Int} (h : e ∈ es) (hb : e.2 = some b) : b + 1 ∈ cutsOf es :=
  List.mem_append_right _ (List.mem_filterMap.mpr ⟨e, h, by rw [hb]; rfl⟩)
theorem cuts_span {cs : List Int} (h : cs.Pairwise (· < ·)) {es : List Run} (hc : ∀ x ∈ cutsOf es, x ∈ cs) {p : Run} (hp : p ∈ spans cs) {c : Int} (hx : inR p c) {e : Run} (he : e ∈ es) : inR e c ↔ inR e p.1 := by
  have a1 := span_const h hp hx (hc _ (mem_cuts1 he))
  unfold inR
  constructor
  · rintro ⟨q1, q2⟩
    refine ⟨a1.mp q1, fun b hb => ?_⟩
    have a2 := span_const h hp hx (hc _ (mem_cuts2 he hb))
    have := q2 b hb
    have := hx.1
    omega
  · rintro ⟨q1, q2⟩
    refine ⟨a1.mpr q1, fun b hb => ?_⟩
    have a2 := span_const h hp hx (hc _ (mem_cuts2 he hb))
    have := q2 b hb
    have n : ¬ (b + 1 ≤ p.1) := by omega
    have := mt a2.mp n
    omega
theorem cuts_length (es : List Run) : (cutsOf es).length ≤ 2 * es.length := by
  unfold cutsOf
  rw [List.length_append, List.length_map]
  have := List.length_filterMap_le (fun e : Run => e.2.map (· + 1)) es
  omega
end CB
namespace CB
/-! ### runs of a row -/
def SepR (r r' : Run) : Prop := ∃ b, r.2 = some b ∧ b + 1 < r'.1
def Val (r : Run) : Prop := ∀ b, r.2 = some b → r.1 ≤ b
structure IsRuns (S : Int → Prop) (R : List Run) : Prop where
  sep : R.Pairwise SepR
  val : ∀ r ∈ R, Val r
  cov : ∀ x, S x ↔ ∃ r ∈ R, inR r x
/-- a stretch that can't be made longer -/
structure IsRun (S : Int → Prop) (r : Run) : Prop where
  all : ∀ x, inR r x → S x
  val : Val r
  ahead : ¬ S (r.1 - 1)
  behind : ∀ b, r.2 = some b → ¬ S (b + 1)
theorem Val.first {r : Run} (h : Val r) : inR r r.1 := ⟨Int.le_refl _, h⟩
theorem SepR.apart {r r' : Run} (h : SepR r r') {x y : Int} (hx : inR r x) (hy : inR r' y) : x + 1 < y := by
  obtain ⟨b, e, l⟩ := h
  have := hx.2 b e
  have := hy.1
  omega
theorem pair_cases {α : Type} {T : α → α → Prop} : ∀ {l : List α}, l.Pairwise T → ∀ {a b : α}, a ∈ l → b ∈ l → a = b ∨ T a b ∨ T b a
  | [], _, _, _, h, _ => by simp at h
  | x :: l, p, a, b, ha, hb => by
    obtain ⟨h1, h2⟩ := List.pairwise_cons.mp p
    rcases List.mem_cons.mp ha with e | e
    · subst e
      rcases List.mem_cons.mp hb with e' | e'
      · subst e'; exact .inl rfl
      · exact .inr (.inl (h1 b e'))
    · rcases List.mem_cons.mp hb with e' | e'
      · subst e'; exact .inr (.inr (h1 a e))
      · exact pair_cases h2 e e'
theorem IsRuns.mem {S : Int → Prop} {R : List Run} (h : IsRuns S R) {r : Run} : r ∈ R ↔ IsRun S r := by
  constructor
  · intro hr
    refine ⟨fun x hx => (h.cov x).mpr ⟨r, hr, hx⟩, h.val r hr, fun hs => ?_, fun b hb hs => ?_⟩
    · obtain ⟨r', hr', hx⟩ := (h.cov _).mp hs
      rcases pair_cases h.sep hr hr' with e | e | e
      · subst e; have := hx.1; omega
      · have := e.apart (h.val r hr).first hx; omega
      · have := e.apart hx (h.val r hr).first; omega
    · obtain ⟨r', hr', hx⟩ := (h.cov _).mp hs
      have hv := h.val r hr b hb
      have hbr : inR r b := ⟨hv, fun b' hb' => by rw [hb] at hb'; cases hb'; exact Int.le_refl _⟩
      rcases pair_cases h.sep hr hr' with e | e | e
      · subst e; have := hx.2 b hb; omega
      · have := e.apart hbr hx; omega
      · have := e.apart hx hbr; omega
  · intro hr
    obtain ⟨r', hr', hx⟩ := (h.cov _).mp (hr.all _ hr.val.first)
    have e1 : r'.1 = r.1 := by
      by_cases q : r'.1 = r.1
      · exact q
      · exfalso
        have := hx.1
        refine hr.ahead ((h.cov _).mpr ⟨r', hr', by omega, fun b hb => ?_⟩)
        have := hx.2 b hb
        omega
    have e2 : r'.2 = r.2 := by
      cases q : r.2 with
      | none =>
        cases q' : r'.2 with
        | none => rfl
        | some b' =>
          exfalso
          have hv := h.val r' hr' b' q'
          have : S (b' + 1) := hr.all _ ⟨by omega, by rw [q]; simp⟩
          obtain ⟨r2, hr2, hx2⟩ := (h.cov _).mp this
          have hbr : inR r' b' := ⟨hv, fun b' hb' => by rw [q'] at hb'; cases hb'; exact Int.le_refl _⟩
          rcases pair_cases h.sep hr' hr2 with e | e | e
          · subst e; have := hx2.2 b' q'; omega
          · have := e.apart hbr hx2; omega
          · have := e.apart hx2 hbr; omega
      | some b =>
        have hv := hr.val b q
        cases q' : r'.2 with
        | none =>
          exfalso
          exact hr.behind b q ((h.cov _).mpr ⟨r', hr', by omega, by rw [q']; simp⟩)
        | some b' =>
          have hv' := h.val r' hr' b' q'
          by_cases c1 : b' < b
          · exfalso
            have : S (b' + 1) := hr.all _ ⟨by omega, by rw [q]; intro z hz; cases hz; omega⟩
            obtain ⟨r2, hr2, hx2⟩ := (h.cov _).mp this
            have hbr : inR r' b' := ⟨hv', fun b' hb' => by rw [q'] at hb'; cases hb'; exact Int.le_refl _⟩
            rcases pair_cases h.sep hr' hr2 with e | e | e
            · subst e; have := hx2.2 b' q'; omega
            · have := e.apart hbr hx2; omega
            · have := e.apart hx2 hbr; omega
          · by_cases c2 : b < b'
            · exfalso
              exact hr.behind b q ((h.cov _).mpr ⟨r', hr', by omega, by rw [q']; intro z hz; cases hz; omega⟩)
            · have : b' = b := by omega
              rw [this]
    have : r = r' := Prod.ext e1.symm e2.symm
    rw [this]; exact hr'
theorem IsRuns.uniq {S : Int → Prop} {R R' : List Run} (h : IsRuns S R) (h' : IsRuns S R') : R = R' := by
  have key : ∀ {R : List Run}, IsRuns S R → R.Pairwise (fun a b => a.1 < b.1) := fun {R} h => by
    refine List.Pairwise.imp_of_mem (fun {a b} ha hb e => ?_) h.sep
    have := e.apart (h.val a ha).first (h.val b hb).first
    omega
  exact sorted_ext (lt := fun a b : Run => a.1 < b.1) (fun a b q => by omega) (key h) (key h') fun x => (h.mem).trans (h'.mem).symm
theorem IsRuns.congr {S T : Int → Prop} {R : List Run} (h : IsRuns S R) (e : ∀ x, S x ↔ T x) : IsRuns T R := ⟨h.sep, h.val, fun x => (e x).symm.trans (h.cov x)⟩
theorem IsRun.congr {S T : Int → Prop} {r : Run} (h : IsRun S r) (e : ∀ x, S x ↔ T x) : IsRun T r :=
  ⟨fun x hx => (e x).mp (h.all x hx), h.val, fun q => h.ahead ((e _).mpr q), fun b hb q => h.behind b hb ((e _).mpr q)⟩
theorem IsRuns.nodup {S : Int → Prop} {R : List Run} (h : IsRuns S R) : R.Nodup := by
  refine List.Pairwise.imp_of_mem (fun {a b} ha hb e q => ?_) h.sep
  subst q
  have := e.apart (h.val a ha).first (h.val a ha).first
  omega
theorem IsRuns.empty {S : Int → Prop} (h : ∀ x, ¬ S x) : IsRuns S [] := ⟨.nil, by simp, fun x => by simp [h x]⟩

/-- one more stretch behind some runs -/
def addRun (R : List Run) (f : Int) (l : Option Int) : List Run :=
  match R.getLast? with
  | some r => if r.2 = some (f - 1) then R.dropLast ++ [(r.1, l)] else R ++ [(f, l)]
  | none => R ++ [(f, l)]
theorem addRun_nil (f : Int) (l : Option Int) : addRun [] f l = [(f, l)] := rfl
theorem addRun_snoc (R : List Run) (r : Run) (f : Int) (l : Option Int) : addRun (R ++ [r]) f l = if r.2 = some (f - 1) then R ++ [(r.1, l)] else (R ++ [r]) ++ [(f, l)] := by
  unfold addRun
  rw [List.getLast?_append]
  simp
theorem addRun_length (R : List Run) (f : Int) (l : Option Int) : (addRun R f l).length ≤ R.length + 1 := by
  rcases List.eq_nil_or_concat R with e | ⟨R', r, e⟩
  · subst e; simp [addRun_nil]
  · subst e
    rw [List.concat_eq_append, addRun_snoc]
    split <;> simp
/-- what is known ahead of c -/
structure Ahead (S : Int → Prop) (R : List Run) (c : Int) : Prop where
  sep : R.Pairwise SepR
  val : ∀ r ∈ R, Val r
  fin : ∀ r ∈ R, ∃ b, r.2 = some b ∧ b < c
  cov : ∀ x, x < c → (S x ↔ ∃ r ∈ R, inR r x)
theorem add_core {S : Int → Prop} {R : List Run} {c : Int} (h : Ahead S R c) {l : Option Int} (hl : ∀ b, l = some b → c ≤ b) (hS : ∀ x, inR (c, l) x → S x) :
    (addRun R c l).Pairwise SepR ∧ (∀ r ∈ addRun R c l, Val r) ∧ (∀ x, (x < c ∨ inR (c, l) x) → (S x ↔ ∃ r ∈ addRun R c l, inR r x)) ∧ (∀ r ∈ addRun R c l, r ∈ R ∨ r.2 = l) := by
  rcases List.eq_nil_or_concat R with e | ⟨R', r, e⟩
  · subst e
    rw [addRun_nil]
    refine ⟨by simp, fun r hr => ?_, fun x hx => ?_, fun r hr => ?_⟩
    · simp at hr; subst hr; exact hl
    · rcases hx with hx | hx
      · have := h.cov x hx
        rw [this]
        simp
        intro q; have := q.1; simp at this; omega
      · simp [hS x hx, hx]
    · simp at hr; subst hr; exact .inr rfl
  · subst e
    rw [List.concat_eq_append] at h ⊢
    rw [addRun_snoc]
    obtain ⟨b0, hb0, hlt⟩ := h.fin r (by simp)
    have hv0 := h.val r (by simp) b0 hb0
    obtain ⟨s1, s2, s3⟩ := List.pairwise_append.mp h.sep
    split
    · rename_i q
      have e0 : b0 = c - 1 := by rw [hb0] at q; exact Option.some.inj q
      have memR : ∀ y, y ∈ R' ++ [(r.1, l)] → y ∈ R' ∨ y = (r.1, l) := fun y hy => by simpa using hy
      refine ⟨List.pairwise_append.mpr ⟨s1, by simp, fun a ha b hb => ?_⟩, fun y hy => ?_, fun x hx => ?_, fun y hy => ?_⟩
      · simp at hb; subst hb
        exact s3 a ha r (by simp)
      · rcases memR y hy with z | z
        · exact h.val y (by simp [z])
        · subst z; intro b hb; have := hl b hb; simp; omega
      · rcases hx with hx | hx
        · rw [h.cov x hx]
          constructor
          · rintro ⟨y, hy, hyx⟩
            have hy' : y ∈ R' ∨ y = r := by simpa using hy
            rcases hy' with z | z
            · exact ⟨y, by simp [z], hyx⟩
            · subst z
              exact ⟨(y.1, l), by simp, hyx.1, fun b hb => by have := hl b hb; omega⟩
          · rintro ⟨y, hy, hyx⟩
            rcases memR y hy with z | z
            · exact ⟨y, by simp [z], hyx⟩
            · subst z
              exact ⟨r, by simp, hyx.1, fun b hb => by rw [hb0] at hb; cases hb; omega⟩
        · constructor
          · intro _
            refine ⟨(r.1, l), by simp, ?_, hx.2⟩
            have := hx.1
            simp at this ⊢
            omega
          · intro _; exact hS x hx
      · rcases memR y hy with z | z
        · exact .inl (by simp [z])
        · subst z; exact .inr rfl
    · rename_i q
      have memR : ∀ y, y ∈ (R' ++ [r]) ++ [(c, l)] → y ∈ R' ++ [r] ∨ y = (c, l) := fun y hy => (List.mem_append.mp hy).imp id fun z => by simpa using z
      refine ⟨List.pairwise_append.mpr ⟨h.sep, by simp, fun a ha b hb => ?_⟩, fun y hy => ?_, fun x hx => ?_, fun y hy => ?_⟩
      · simp at hb; subst hb
        have : a ∈ R' ∨ a = r := by simpa using ha
        rcases this with z | z
        · obtain ⟨b, e1, e2⟩ := s3 a z r (by simp)
          exact ⟨b, e1, by simp; omega⟩
        · subst z
          refine ⟨b0, hb0, ?_⟩
          have : b0 ≠ c - 1 := fun z => q (by rw [hb0, z])
          simp; omega
      · rcases memR y hy with z | z
        · exact h.val y z
        · subst z; exact hl
      · rcases hx with hx | hx
        · rw [h.cov x hx]
          constructor
          · rintro ⟨y, hy, hyx⟩; exact ⟨y, List.mem_append_left _ hy, hyx⟩
          · rintro ⟨y, hy, hyx⟩
            rcases memR y hy with z | z
            · exact ⟨y, z, hyx⟩
            · subst z; have := hyx.1; simp at this; omega
        · constructor
          · intro _; exact ⟨(c, l), by simp, hx⟩
          · intro _; exact hS x hx
      · rcases memR y hy with z | z
        · exact .inl z
        · subst z; exact .inr rfl
/-- the runs over spans, by a test at each span's first place -/
def runsOver (t : Int → Bool) (ps : List Run) (R : List Run) : List Run := ps.foldl (fun R p => if t p.1 = true then addRun R p.1 p.2 else R) R
theorem runsOver_cons (t : Int → Bool) (p : Run) (ps : List Run) (R : List Run) : runsOver t (p :: ps) R = runsOver t ps (if t p.1 = true then addRun R p.1 p.2 else R) := rfl
theorem runsOver_nil (t : Int → Bool) (R : List Run) : runsOver t [] R = R := rfl
theorem runsOver_snoc (t : Int → Bool) (p : Run) (ps : List Run) (R : List Run) : runsOver t (ps ++ [p]) R = (if t p.1 = true then addRun (runsOver t ps R) p.1 p.2 else runsOver t ps R) := by
  unfold runsOver
  rw [List.foldl_append]; rfl
theorem runsOver_length (t : Int → Bool) : ∀ (ps R : List Run), (runsOver t ps R).length ≤ R.length + ps.length
  | [], R => by simp [runsOver_nil]
  | p :: ps, R => by
    rw [runsOver_cons]
    have h1 := runsOver_length t ps (if t p.1 = true then addRun R p.1 p.2 else R)
    have h2 := addRun_length R p.1 p.2
    rw [List.length_cons]
    by_cases q : t p.1 = true
    · rw [if_pos q] at h1 ⊢; omega
    · rw [if_neg q] at h1 ⊢; omega
theorem runs_go {S : Int → Prop} {t : Int → Bool} : ∀ (cs : List Int) (c : Int), (c :: cs).Pairwise (· < ·) → (∀ p ∈ spans (c :: cs), ∀ x, inR p x → (S x ↔ t p.1 = true)) → ∀ R, Ahead S R c → IsRuns S (runsOver t (spans (c :: cs)) R)
  | [], c, _, hc, R, h => by
    show IsRuns S (if t c = true then addRun R c none else R)
    have hc' := hc (c, none) (by simp [spans])
    split
    · rename_i q
      obtain ⟨a1, a2, a3, a4⟩ := add_core (l := none) h (by simp) (fun x hx => (hc' x hx).mpr q)
      refine ⟨a1, a2, fun x => a3 x ?_⟩
      by_cases hx : x < c
      · exact .inl hx
      · exact .inr ⟨by simp; omega, by simp⟩
    · rename_i q
      refine ⟨h.sep, h.val, fun x => ?_⟩
      by_cases hx : x < c
      · exact h.cov x hx
      · constructor
        · intro hS
          exact absurd ((hc' x ⟨by simp; omega, by simp⟩).mp hS) q
        · rintro ⟨r, hr, hx'⟩
          obtain ⟨b, e, l⟩ := h.fin r hr
          have := hx'.2 b e
          omega
  | d :: r, c, hp, hc, R, h => by
    obtain ⟨h1, h2⟩ := List.pairwise_cons.mp hp
    have hcd : c < d := h1 d List.mem_cons_self
    show IsRuns S (runsOver t (spans (d :: r)) (if t c = true then addRun R c (some (d - 1)) else R))
    have hc' := hc (c, some (d - 1)) List.mem_cons_self
    refine runs_go r d h2 (fun p hp => hc p (List.mem_cons_of_mem _ hp)) _ ?_
    split
    · rename_i q
      obtain ⟨a1, a2, a3, a4⟩ := add_core (l := some (d - 1)) h (by intro b hb; cases hb; omega) (fun x hx => (hc' x hx).mpr q)
      refine ⟨a1, a2, fun r hr => ?_, fun x hx => a3 x ?_⟩
      · rcases a4 r hr with z | z
        · obtain ⟨b, e, l⟩ := h.fin r z
          exact ⟨b, e, by omega⟩
        · exact ⟨d - 1, z, by omega⟩
      · by_cases hx' : x < c
        · exact .inl hx'
        · exact .inr ⟨by simp; omega, by intro b hb; cases hb; omega⟩
    · rename_i q
      refine ⟨h.sep, h.val, fun r hr => ?_, fun x hx => ?_⟩
      · obtain ⟨b, e, l⟩ := h.fin r hr
        exact ⟨b, e, by omega⟩
      · by_cases hx' : x < c
        · exact h.cov x hx'
        · constructor
          · intro hS
            exact absurd ((hc' x ⟨by simp; omega, by intro b hb; cases hb; omega⟩).mp hS) q
          · rintro ⟨r, hr, hx'⟩
            obtain ⟨b, e, l⟩ := h.fin r hr
            have := hx'.2 b e
            omega
theorem runs_ok {S : Int → Prop} {t : Int → Bool} {cs : List Int} (hp : cs.Pairwise (· < ·)) (hc : ∀ p ∈ spans cs, ∀ x, inR p x → (S x ↔ t p.1 = true)) (h0 : ∀ x, S x → ∃ c ∈ cs, c ≤ x) : IsRuns S (runsOver t (spans cs) []) := by
  cases cs with
  | nil => exact IsRuns.empty fun x hx => by obtain ⟨c, hc, _⟩ := h0 x hx; simp at hc
  | cons c cs =>
    refine runs_go cs c hp hc [] ⟨.nil, by simp, by simp, fun x hx => ?_⟩
    constructor
    · intro hS
      obtain ⟨c', hc', hl⟩ := h0 x hS
      rcases List.mem_cons.mp hc' with e | e
      · omega
      · have := (List.pairwise_cons.mp hp).1 c' e; omega
    · simp
end CB
namespace CB
/-! ### the form of an area -/
abbrev Cells := Int → Int → Prop
abbrev Blk.rows (b : Blk) : Run := (b.top, b.bottom)
abbrev Blk.cols (b : Blk) : Run := (b.left, b.right)
def cellsOf (L : List Blk) : Cells := fun r c => ∃ b ∈ L, inR b.rows r ∧ inR b.cols c
structure BOk (b : Blk) : Prop where
  t : 1 ≤ b.top
  l : 1 ≤ b.left
  v : Val b.rows
  h : Val b.cols
def Dom (S : Cells) : Prop := ∀ r c, S r c → 1 ≤ r ∧ 1 ≤ c
theorem dom_of {L : List Blk} (h : ∀ b ∈ L, BOk b) : Dom (cellsOf L) := fun _ _ ⟨b, hb, h1, h2⟩ => ⟨Int.le_trans (h b hb).t h1.1, Int.le_trans (h b hb).l h2.1⟩
structure IsForm (S : Cells) (b : Blk) : Prop where
  val : Val b.rows
  all : ∀ r, inR b.rows r → IsRun (S r) b.cols
  ahead : ¬ IsRun (S (b.top - 1)) b.cols
  behind : ∀ x, b.bottom = some x → ¬ IsRun (S (x + 1)) b.cols
def bLt (a b : Blk) : Prop := a.top < b.top ∨ (a.top = b.top ∧ a.left < b.left)
structure Form (S : Cells) (L : List Blk) : Prop where
  ord : L.Pairwise bLt
  mem : ∀ b, b ∈ L ↔ IsForm S b
theorem bLt_asym (a b : Blk) (h : bLt a b) : ¬ bLt b a := by unfold bLt at *; omega
theorem Form.uniq {S : Cells} {L L' : List Blk} (h : Form S L) (h' : Form S L') : L = L' := sorted_ext bLt_asym h.ord h'.ord fun x => (h.mem x).trans (h'.mem x).symm
theorem IsForm.first {S : Cells} {b : Blk} (h : IsForm S b) : IsRun (S b.top) b.cols := h.all _ h.val.first
theorem IsForm.ok {S : Cells} (hd : Dom S) {b : Blk} (h : IsForm S b) : BOk b := by
  have q := hd _ _ (h.first.all _ h.first.val.first)
  exact ⟨q.1, q.2, h.val, h.first.val⟩
/-- two runs of a row that have a cell in common are one -/
theorem IsRun.one {S : Int → Prop} {r r' : Run} {x : Int} (h : IsRun S r) (h' : IsRun S r') (hx : inR r x) (hx' : inR r' x) : r = r' := by
  have e1 : r.1 = r'.1 := by
    have a1 := hx.1
    have a2 := hx'.1
    by_cases c1 : r.1 < r'.1
    · exact absurd (h.all (r'.1 - 1) ⟨by omega, fun b hb => by have := hx.2 b hb; omega⟩) h'.ahead
    · by_cases c2 : r'.1 < r.1
      · exact absurd (h'.all (r.1 - 1) ⟨by omega, fun b hb => by have := hx'.2 b hb; omega⟩) h.ahead
      · omega
  refine Prod.ext e1 ?_
  cases q : r.2 with
  | none =>
    cases q' : r'.2 with
    | none => rfl
    | some b' =>
      have := hx'.2 b' q'
      have := hx.1
      exact absurd (h.all (b' + 1) ⟨by omega, by rw [q]; simp⟩) (h'.behind b' q')
  | some b =>
    have h1 := hx.2 b q
    have h2 := hx.1
    have h3 := hx'.1
    cases q' : r'.2 with
    | none => exact absurd (h'.all (b + 1) ⟨by omega, by rw [q']; simp⟩) (h.behind b q)
    | some b' =>
      have h4 := hx'.2 b' q'
      by_cases c1 : b < b'
      · exact absurd (h'.all (b + 1) ⟨by omega, by rw [q']; intro z hz; cases hz; omega⟩) (h.behind b q)
      · by_cases c2 : b' < b
        · exact absurd (h.all (b' + 1) ⟨by omega, by rw [q]; intro z hz; cases hz; omega⟩) (h'.behind b' q')
        · rw [show b = b' by omega]
/-- two blocks of a form with one run and one row -/
theorem IsForm.same {S : Cells} {a b : Blk} (ha : IsForm S a) (hb : IsForm S b) (hc : a.cols = b.cols) {r : Int} (h1 : inR a.rows r) (h2 : inR b.rows r) : a = b := by
  have key : ∀ {a b : Blk}, IsForm S a → IsForm S b → a.cols = b.cols → inR a.rows r → inR b.rows r → ¬ a.top < b.top := fun {a b} ha hb hc h1 h2 q => by
    refine hb.ahead ?_
    rw [← hc]
    have h21 : b.top ≤ r := h2.1
    refine ha.all _ ⟨by show a.top ≤ b.top - 1; omega, fun x hx => ?_⟩
    have := h1.2 x hx
    omega
  have et : a.top = b.top := by
    have := key ha hb hc h1 h2
    have := key hb ha hc.symm h2 h1
    omega
  have key2 : ∀ {a b : Blk}, IsForm S a → IsForm S b → a.cols = b.cols → inR a.rows r → inR b.rows r → ∀ x, a.bottom = some x → ∃ y, b.bottom = some y ∧ y ≤ x := fun {a b} ha hb hc h1 h2 x hx => by
    have hr := h1.2 x hx
    cases q : b.bottom with
    | none =>
      refine absurd ?_ (ha.behind x hx)
      rw [hc]
      have := h2.1
      exact hb.all _ ⟨by omega, by intro z hz; rw [show b.rows.2 = b.bottom from rfl, q] at hz; cases hz⟩
    | some y =>
      refine ⟨y, rfl, ?_⟩
      refine Int.not_lt.mp fun hlt => (ha.behind x hx) ?_
      rw [hc]
      have := h2.1
      exact hb.all _ ⟨by omega, by intro z hz; rw [show b.rows.2 = b.bottom from rfl, q] at hz; cases hz; omega⟩
  have eb : a.bottom = b.bottom := by
    cases q : a.bottom with
    | none =>
      cases q' : b.bottom with
      | none => rfl
      | some y =>
        obtain ⟨z, hz, _⟩ := key2 hb ha hc.symm h2 h1 y q'
        rw [q] at hz; cases hz
    | some x =>
      obtain ⟨y, hy, l1⟩ := key2 ha hb hc h1 h2 x q
      obtain ⟨z, hz, l2⟩ := key2 hb ha hc.symm h2 h1 y hy
      rw [q] at hz; cases hz
      rw [hy, show x = y by omega]
  have e3 : a.left = b.left := congrArg Prod.fst hc
  have e4 : a.right = b.right := congrArg Prod.snd hc
  cases a; cases b
  simp only at et eb e3 e4
  subst et eb e3 e4
  rfl
theorem IsForm.key {S : Cells} {a b : Blk} (ha : IsForm S a) (hb : IsForm S b) (h1 : a.top = b.top) (h2 : a.left = b.left) : a = b := by
  have r1 := ha.first
  have r2 := hb.first
  rw [← h1] at r2
  have hc : a.cols = b.cols := r1.one r2 (x := a.left) r1.val.first (by have := r2.val.first; rw [show b.cols.1 = a.left from h2.symm] at this; exact this)
  exact ha.same hb hc (r := a.top) ha.val.first (by rw [h1]; exact hb.val.first)
/-! ### the cells of a form -/
theorem exists_min {P : Nat → Prop} : ∀ n, P n → ∃ m, P m ∧ ∀ k, k < m → ¬ P k := by
  intro n
  induction n using Nat.strongRecOn with
  | ind n ih =>
    intro h
    by_cases q : ∃ k, k < n ∧ P k
    · obtain ⟨k, hk, hp⟩ := q
      exact ih k hk hp
    · exact ⟨n, h, fun k hk hp => q ⟨k, hk, hp⟩⟩
/-- a run of a row stands in rows from some first one on -/
theorem top_of {S : Cells} (hd : Dom S) {run : Run} {r : Int} (h : IsRun (S r) run) : ∃ t, t ≤ r ∧ (∀ x, t ≤ x → x ≤ r → IsRun (S x) run) ∧ ¬ IsRun (S (t - 1)) run := by
  have hr1 : 1 ≤ r := (hd r run.1 (h.all _ h.val.first)).1
  have h0 : ¬ IsRun (S (r - ((r.toNat : Nat) : Int))) run := fun q => by
    have := (hd _ run.1 (q.all _ q.val.first)).1
    omega
  obtain ⟨m, h1, h2⟩ := exists_min (P := fun n => ¬ IsRun (S (r - (n : Int))) run) _ h0
  have hm : m ≠ 0 := fun e => by
    subst e
    apply h1
    simpa using h
  refine ⟨r - (m : Int) + 1, by omega, fun x hx1 hx2 => ?_, ?_⟩
  · have := h2 (r - x).toNat (by omega)
    have e : r - (((r - x).toNat : Nat) : Int) = x := by omega
    rw [e] at this
    exact Classical.not_not.mp this
  · have e : r - (m : Int) + 1 - 1 = r - (m : Int) := by omega
    rw [e]
    exact h1
theorem bottom_of {S : Cells} {run : Run} {r : Int} (h : IsRun (S r) run) : ∃ o : Option Int, (∀ x, r ≤ x → (∀ b, o = some b → x ≤ b) → IsRun (S x) run) ∧ (∀ b, o = some b → r ≤ b ∧ ¬ IsRun (S (b + 1)) run) := by
  by_cases q : ∃ n : Nat, ¬ IsRun (S (r + (n : Int))) run
  · obtain ⟨n, hn⟩ := q
    obtain ⟨m, h1, h2⟩ := exists_min (P := fun n : Nat => ¬ IsRun (S (r + (n : Int))) run) n hn
    have hm : m ≠ 0 := fun e => by
      subst e
      apply h1
      simpa using h
    refine ⟨some (r + (m : Int) - 1), fun x hx1 hx2 => ?_, fun b hb => ?_⟩
    · have := hx2 _ rfl
      have := h2 (x - r).toNat (by omega)
      have e : r + (((x - r).toNat : Nat) : Int) = x := by omega
      rw [e] at this
      exact Classical.not_not.mp this
    · cases hb
      refine ⟨by omega, ?_⟩
      have e : r + (m : Int) - 1 + 1 = r + (m : Int) := by omega
      rw [e]
      exact h1
  · refine ⟨none, fun x hx1 _ => ?_, by simp⟩
    have := fun hn => q ⟨(x - r).toNat, hn⟩
    have e : r + (((x - r).toNat : Nat) : Int) = x := by omega
    rw [e] at this
    exact Classical.not_not.mp this
/-- each run of a row is a block's of the form -/
theorem form_at {S : Cells} (hd : Dom S) {run : Run} {r : Int} (h : IsRun (S r) run) : ∃ b, IsForm S b ∧ b.cols = run ∧ inR b.rows r := by
  obtain ⟨t, h1, h2, h3⟩ := top_of hd h
  obtain ⟨o, h4, h5⟩ := bottom_of h
  refine ⟨⟨t, run.1, o, run.2⟩, ⟨fun b hb => by have := (h5 b hb).1; show t ≤ b; omega, fun x hx => ?_, h3, fun b hb => (h5 b hb).2⟩, rfl, h1, fun b hb => (h5 b hb).1⟩
  by_cases q : x ≤ r
  · exact h2 x hx.1 q
  · exact h4 x (by omega) hx.2
/-- rows that have runs -/
def HasRuns (S : Cells) : Prop := ∀ r, ∃ R, IsRuns (S r) R
theorem form_cells {S : Cells} (hd : Dom S) (hr : HasRuns S) {L : List Blk} (h : Form S L) (r c : Int) : cellsOf L r c ↔ S r c := by
  constructor
  · rintro ⟨b, hb, h1, h2⟩
    exact (((h.mem b).mp hb).all r h1).all c h2
  · intro hS
    obtain ⟨R, hR⟩ := hr r
    obtain ⟨run, hrun, hx⟩ := (hR.cov c).mp hS
    obtain ⟨b, f1, f2, f3⟩ := form_at hd (hR.mem.mp hrun)
    exact ⟨b, (h.mem b).mpr f1, f3, by rw [f2]; exact hx⟩
theorem Form.congr {S T : Cells} {L : List Blk} (h : Form S L) (e : ∀ r c, S r c ↔ T r c) : Form T L := by
  have : S = T := by funext r c; exact propext (e r c)
  rw [← this]; exact h
/-! ### sorting blocks -/
def bLe (a b : Blk) : Bool := decide (a.top < b.top) || (decide (a.top = b.top) && decide (a.left ≤ b.left))
theorem bLe_iff {a b : Blk} : bLe a b = true ↔ (a.top < b.top ∨ (a.top = b.top ∧ a.left ≤ b.left)) := by simp [bLe]
def sortB (L : List Blk) : List Blk := L.mergeSort bLe
theorem sortB_form {S : Cells} {L : List Blk} (hn : L.Nodup) (hm : ∀ b, b ∈ L ↔ IsForm S b) : Form S (sortB L) := by
  have hp : (sortB L).Perm L := List.mergeSort_perm L bLe
  have hmem : ∀ b, b ∈ sortB L ↔ IsForm S b := fun b => hp.mem_iff.trans (hm b)
  refine ⟨?_, hmem⟩
  have hs : (sortB L).Pairwise (fun a b => bLe a b = true) := List.pairwise_mergeSort (fun a b c h1 h2 => by rw [bLe_iff] at *; omega) (fun a b => by
    by_cases q : bLe a b = true
    · simp [q]
    · have := mt bLe_iff.mpr q
      have : bLe b a = true := bLe_iff.mpr (by omega)
      simp [this]) L
  have hnd : (sortB L).Nodup := hp.nodup_iff.mpr hn
  have := List.pairwise_and_iff.mpr ⟨hs, hnd⟩
  refine List.Pairwise.imp_of_mem (fun {a b} ha hb e => ?_) this
  obtain ⟨e1, e2⟩ := e
  have e1 := bLe_iff.mp e1
  rcases e1 with q | ⟨q1, q2⟩
  · exact .inl q
  · by_cases q : a.left = b.left
    · exact absurd (((hmem a).mp ha).key ((hmem b).mp hb) q1 q) e2
    · exact .inr ⟨q1, by omega⟩
end CB
namespace CB
theorem nodup_of_map {α β : Type} {f : α → β} {l : List α} (h : (l.map f).Nodup) : l.Nodup :=
  (List.pairwise_map.mp h).imp fun e q => e (congrArg f q)
/-! ### bands, and the blocks by them -/
abbrev Band := Int × Option Int × List Run
structure BandOk (S : Cells) (b : Band) : Prop where
  val : ∀ l, b.2.1 = some l → b.1 ≤ l
  ne : b.2.2 ≠ []
  runs : ∀ r, inR (b.1, b.2.1) r → IsRuns (S r) b.2.2
/-- the bands from behind row h on -/
def BandsFrom (S : Cells) : Option Int → List Band → Prop
  | none, bs => bs = []
  | some h, [] => ∀ r, h < r → ∀ c, ¬ S r c
  | some h, b :: bs => h < b.1 ∧ (∀ r, h < r → r < b.1 → ∀ c, ¬ S r c) ∧ BandOk S b ∧ BandsFrom S b.2.1 bs
abbrev Begun := List (Run × Int)
/-- what is closed at a band, and what is gone on with -/
def closes (h : Int) (b : Band) (p : Run × Int) : Bool := decide (p.1 ∉ b.2.2) || decide (b.1 ≠ h + 1)
def closedBy (h : Int) (b : Band) (d : Begun) : List Blk := (d.filter (closes h b)).map fun p => ⟨p.2, p.1.1, some h, p.1.2⟩
def keptBy (h : Int) (b : Band) (d : Begun) : Begun := d.filter fun p => !closes h b p
def setRun (first : Int) (d : Begun) (run : Run) : Begun := if run ∈ d.map (·.1) then d else d ++ [(run, first)]
def begunBy (first : Int) (runs : List Run) (d : Begun) : Begun := runs.foldl (setRun first) d
theorem begun_cons (first : Int) (run : Run) (runs : List Run) (d : Begun) : begunBy first (run :: runs) d = begunBy first runs (setRun first d run) := rfl
theorem begun_mem (first : Int) : ∀ (runs : List Run) (d : Begun) (p : Run × Int), p ∈ begunBy first runs d ↔ p ∈ d ∨ (p.1 ∈ runs ∧ p.1 ∉ d.map (·.1) ∧ p.2 = first)
  | [], d, p => by simp [begunBy]
  | run :: runs, d, p => by
    rw [begun_cons, begun_mem first runs]
    by_cases q : run ∈ d.map (·.1)
    · have e : setRun first d run = d := if_pos q
      rw [e]
      constructor
      · rintro (h | ⟨h1, h2, h3⟩)
        · exact .inl h
        · exact .inr ⟨List.mem_cons_of_mem _ h1, h2, h3⟩
      · rintro (h | ⟨h1, h2, h3⟩)
        · exact .inl h
        · rcases List.mem_cons.mp h1 with e | e
          · rw [e] at h2; exact absurd q h2
          · exact .inr ⟨e, h2, h3⟩
    · have e : setRun first d run = d ++ [(run, first)] := if_neg q
      rw [e]
      constructor
      · rintro (h | ⟨h1, h2, h3⟩)
        · rcases List.mem_append.mp h with h | h
          · exact .inl h
          · have h : p = (run, first) := by simpa using h
            subst h
            exact .inr ⟨List.mem_cons_self, q, rfl⟩
        · rw [List.map_append] at h2
          exact .inr ⟨List.mem_cons_of_mem _ h1, fun z => h2 (List.mem_append_left _ z), h3⟩
      · rintro (h | ⟨h1, h2, h3⟩)
        · exact .inl (List.mem_append_left _ h)
        · by_cases e : p.1 = run
          · have : p = (run, first) := Prod.ext e h3
            exact .inl (by rw [this]; simp)
          · refine .inr ⟨(List.mem_cons.mp h1).resolve_left e, fun z => ?_, h3⟩
            rw [List.map_append] at z
            rcases List.mem_append.mp z with z | z
            · exact h2 z
            · simp at z; exact e z
theorem begun_nodup (first : Int) : ∀ (runs : List Run) (d : Begun), (d.map (·.1)).Nodup → ((begunBy first runs d).map (·.1)).Nodup
  | [], d, h => h
  | run :: runs, d, h => by
    rw [begun_cons]
    refine begun_nodup first runs _ ?_
    unfold setRun
    split
    · exact h
    · rename_i q
      rw [List.map_append]
      refine List.nodup_append.mpr ⟨h, by simp, fun a ha b hb e => ?_⟩
      simp at hb
      subst e hb
      exact q ha
theorem begun_length (first : Int) : ∀ (runs : List Run) (d : Begun), (begunBy first runs d).length ≤ d.length + runs.length
  | [], d => by simp [begunBy]
  | run :: runs, d => by
    rw [begun_cons]
    have := begun_length first runs (setRun first d run)
    have h2 : (setRun first d run).length ≤ d.length + 1 := by
      unfold setRun
      split
      · omega
      · simp
    rw [List.length_cons]
    omega
/-- the state behind a band -/
structure FS where
  found : List Blk
  begun : Begun
  behind : Option Int
def FS.step (f : FS) (b : Band) : FS :=
  match f.behind with
  | some h => ⟨f.found ++ closedBy h b f.begun, begunBy b.1 b.2.2 (keptBy h b f.begun), b.2.1⟩
  | none => f
def FS.close (f : FS) : List Blk := f.found ++ f.begun.map fun p => ⟨p.2, p.1.1, f.behind, p.1.2⟩
def formB (bs : List Band) : List Blk := sortB ((bs.foldl FS.step ⟨[], [], some 0⟩).close)
structure FOk (S : Cells) (f : FS) : Prop where
  key : (f.begun.map (·.1)).Nodup
  nd : f.found.Nodup
  /-- behind row h -/
  bg : ∀ h, f.behind = some h → ∀ p : Run × Int, p ∈ f.begun ↔ (p.2 ≤ h ∧ (∀ r, p.2 ≤ r → r ≤ h → IsRun (S r) p.1) ∧ ¬ IsRun (S (p.2 - 1)) p.1)
  fd : ∀ h, f.behind = some h → ∀ b, b ∈ f.found ↔ (IsForm S b ∧ ∃ x, b.bottom = some x ∧ x < h)
  /-- behind the last row -/
  bgN : f.behind = none → ∀ p : Run × Int, p ∈ f.begun ↔ ((∀ r, p.2 ≤ r → IsRun (S r) p.1) ∧ ¬ IsRun (S (p.2 - 1)) p.1)
  fdN : f.behind = none → ∀ b, b ∈ f.found ↔ (IsForm S b ∧ ∃ x, b.bottom = some x)
theorem fok_start {S : Cells} (hd : Dom S) : FOk S ⟨[], [], some 0⟩ where
  key := by simp
  nd := by simp
  bg := fun h e p => by
    cases e
    simp only [List.not_mem_nil, false_iff]
    rintro ⟨h1, h2, _⟩
    have q := h2 p.2 (Int.le_refl _) h1
    have := (hd _ p.1.1 (q.all _ q.val.first)).1
    omega
  fd := fun h e b => by
    cases e
    simp only [List.not_mem_nil, false_iff]
    rintro ⟨h1, x, hx, hl⟩
    have := (h1.ok hd).t
    have := h1.val x hx
    simp at this
    omega
  bgN := fun e => nomatch e
  fdN := fun e => nomatch e
theorem fok_step {S : Cells} (hd : Dom S) {f : FS} (F : FOk S f) {h : Int} (hh : f.behind = some h) {b : Band} (h1 : h < b.1) (h2 : ∀ r, h < r → r < b.1 → ∀ c, ¬ S r c) (B : BandOk S b) : FOk S (f.step b) := by
  obtain ⟨fd0, bg0, bh0⟩ := f
  have hh : bh0 = some h := hh
  subst hh
  obtain ⟨f1, l, R⟩ := b
  have h1 : h < f1 := h1
  have hval : ∀ x, l = some x → f1 ≤ x := B.val
  have hruns : ∀ r, inR (f1, l) r → IsRuns (S r) R := B.runs
  have bg := F.bg h rfl
  have fd := F.fd h rfl
  simp only at bg fd
  have inf : inR (f1, l) f1 := ⟨Int.le_refl _, hval⟩
  -- whether a run goes on in the next row
  have next : ∀ run, IsRun (S (h + 1)) run ↔ (run ∈ R ∧ f1 = h + 1) := fun run => by
    constructor
    · intro q
      have e : f1 = h + 1 := by
        by_cases e : f1 = h + 1
        · exact e
        · exact absurd (q.all _ q.val.first) (h2 (h + 1) (by omega) (by omega) _)
      refine ⟨?_, e⟩
      rw [← e] at q
      exact (hruns f1 inf).mem.mpr q
    · rintro ⟨q, e⟩
      rw [← e]
      exact (hruns f1 inf).mem.mp q
  have cl : ∀ p : Run × Int, closes h (f1, l, R) p = true ↔ ¬ IsRun (S (h + 1)) p.1 := fun p => by
    rw [next]
    simp only [closes, Bool.or_eq_true, decide_eq_true_eq]
    constructor
    · rintro (q | q) ⟨z1, z2⟩
      · exact q z1
      · exact q z2
    · intro q
      by_cases z : p.1 ∈ R
      · exact .inr fun e => q ⟨z, e⟩
      · exact .inl z
  have kp : ∀ p : Run × Int, p ∈ keptBy h (f1, l, R) bg0 ↔ p ∈ bg0 ∧ IsRun (S (h + 1)) p.1 := fun p => by
    unfold keptBy
    rw [List.mem_filter]
    have := cl p
    cases e : closes h (f1, l, R) p
    · rw [e] at this
      simp only [Bool.false_eq_true, false_iff, Classical.not_not] at this
      simp [this]
    · rw [e] at this
      simp only [true_iff] at this
      simp [this]
  have cb : ∀ x : Blk, x ∈ closedBy h (f1, l, R) bg0 ↔ IsForm S x ∧ x.bottom = some h := fun x => by
    unfold closedBy
    rw [List.mem_map]
    constructor
    · rintro ⟨p, hp, rfl⟩
      obtain ⟨hp1, hp2⟩ := List.mem_filter.mp hp
      obtain ⟨a1, a2, a3⟩ := (bg p).mp hp1
      refine ⟨⟨fun y hy => ?_, fun r hr => ?_, a3, fun y hy => ?_⟩, rfl⟩
      · cases hy; exact a1
      · exact a2 r hr.1 (hr.2 h rfl)
      · cases hy; exact (cl p).mp hp2
    · rintro ⟨q, hb⟩
      refine ⟨(x.cols, x.top), List.mem_filter.mpr ⟨(bg _).mpr ⟨q.val h hb, fun r r1 r2 => q.all r ⟨r1, fun y hy => ?_⟩, q.ahead⟩, (cl _).mpr (q.behind h hb)⟩, ?_⟩
      · rw [show x.rows.2 = x.bottom from rfl, hb] at hy; cases hy; exact r2
      · obtain ⟨t, le, bo, ri⟩ := x
        simp only at hb
        subst hb
        rfl
  -- a run of the band has begun at its row, or before
  have row : ∀ run, run ∈ R → ∀ r, inR (f1, l) r → IsRun (S r) run := fun run hr r hi => (hruns r hi).mem.mp hr
  have keys : ∀ run, run ∈ (keptBy h (f1, l, R) bg0).map (·.1) ↔ IsRun (S h) run ∧ IsRun (S (h + 1)) run := fun run => by
    rw [List.mem_map]
    constructor
    · rintro ⟨p, hp, rfl⟩
      obtain ⟨q1, q2⟩ := (kp p).mp hp
      obtain ⟨a1, a2, a3⟩ := (bg p).mp q1
      exact ⟨a2 h a1 (Int.le_refl _), q2⟩
    · rintro ⟨q1, q2⟩
      obtain ⟨t, t1, t2, t3⟩ := top_of hd q1
      exact ⟨(run, t), (kp _).mpr ⟨(bg _).mpr ⟨t1, t2, t3⟩, q2⟩, rfl⟩
  have mem : ∀ p : Run × Int, p ∈ begunBy f1 R (keptBy h (f1, l, R) bg0) ↔ (p.1 ∈ R ∧ p.2 ≤ f1 ∧ (∀ r, p.2 ≤ r → r ≤ f1 → IsRun (S r) p.1) ∧ ¬ IsRun (S (p.2 - 1)) p.1) := fun p => by
    rw [begun_mem, kp, keys]
    constructor
    · rintro (⟨q1, q2⟩ | ⟨q1, q2, q3⟩)
      · obtain ⟨a1, a2, a3⟩ := (bg p).mp q1
        obtain ⟨m1, m2⟩ := (next _).mp q2
        refine ⟨m1, by omega, fun r r1 r2 => ?_, a3⟩
        by_cases e : r ≤ h
        · exact a2 r r1 e
        · rw [show r = h + 1 by omega]; exact q2
      · refine ⟨q1, by omega, fun r r1 r2 => ?_, fun z => q2 ?_⟩
        · rw [show r = f1 by omega]; exact row _ q1 f1 inf
        · rw [q3] at z
          have e : f1 = h + 1 := by
            by_cases e : f1 = h + 1
            · exact e
            · exact absurd (z.all _ z.val.first) (h2 (f1 - 1) (by omega) (by omega) _)
          rw [show f1 - 1 = h by omega] at z
          exact ⟨z, (next _).mpr ⟨q1, e⟩⟩
    · rintro ⟨q1, q2, q3, q4⟩
      by_cases e : p.2 ≤ h
      · have n1 : IsRun (S (h + 1)) p.1 := q3 (h + 1) (by omega) (by omega)
        exact .inl ⟨(bg p).mpr ⟨e, fun r r1 r2 => q3 r r1 (by omega), q4⟩, n1⟩
      · have e2 : p.2 = f1 := by
          by_cases e2 : p.2 = f1
          · exact e2
          · have := q3 p.2 (Int.le_refl _) q2
            exact absurd (this.all _ this.val.first) (h2 p.2 (by omega) (by omega) _)
        refine .inr ⟨q1, fun ⟨z1, z2⟩ => q4 ?_, e2⟩
        have e3 := ((next _).mp z2).2
        rw [e2, show f1 - 1 = h by omega]
        exact z1
  refine ⟨begun_nodup f1 R _ ?_, ?_, fun h' hl p => ?_, fun h' hl x => ?_, fun hl p => ?_, fun hl x => ?_⟩
  · exact F.key.sublist (List.filter_sublist.map _)
  · show (fd0 ++ closedBy h (f1, l, R) bg0).Nodup
    refine List.nodup_append.mpr ⟨F.nd, ?_, fun a ha c hc e => ?_⟩
    · unfold closedBy
      have k1 : (bg0.filter (closes h (f1, l, R))).map (·.1) |>.Nodup := F.key.sublist (List.filter_sublist.map _)
      refine nodup_of_map (f := fun x : Blk => x.cols) ?_
      rw [List.map_map]
      exact k1
    · subst e
      obtain ⟨_, x, hx, hlt⟩ := (fd a).mp ha
      obtain ⟨_, hx'⟩ := (cb a).mp hc
      rw [hx] at hx'; cases hx'; omega
  · have hl : l = some h' := hl
    have hfl := hval h' hl
    show p ∈ begunBy f1 R (keptBy h (f1, l, R) bg0) ↔ _
    rw [mem]
    constructor
    · rintro ⟨q1, q2, q3, q4⟩
      refine ⟨by omega, fun r r1 r2 => ?_, q4⟩
      by_cases e : r ≤ f1
      · exact q3 r r1 e
      · exact row _ q1 r ⟨by simp; omega, fun y hy => by rw [show ((f1, l) : Run).2 = l from rfl, hl] at hy; cases hy; exact r2⟩
    · rintro ⟨q1, q2, q3⟩
      have inl : inR (f1, l) h' := ⟨hfl, fun y hy => by rw [show ((f1, l) : Run).2 = l from rfl, hl] at hy; cases hy; exact Int.le_refl _⟩
      have m : p.1 ∈ R := (hruns h' inl).mem.mpr (q2 h' q1 (Int.le_refl _))
      refine ⟨m, ?_, fun r r1 r2 => q2 r r1 (by omega), q3⟩
      refine Int.not_lt.mp fun hlt => q3 (row _ m _ ⟨by simp; omega, fun y hy => by rw [show ((f1, l) : Run).2 = l from rfl, hl] at hy; cases hy; omega⟩)
  · have hl : l = some h' := hl
    have hfl := hval h' hl
    show x ∈ fd0 ++ closedBy h (f1, l, R) bg0 ↔ _
    rw [List.mem_append, fd, cb]
    constructor
    · rintro (⟨q, y, hy, hlt⟩ | ⟨q, hy⟩)
      · exact ⟨q, y, hy, by omega⟩
      · exact ⟨q, h, hy, by omega⟩
    · rintro ⟨q, y, hy, hlt⟩
      by_cases e1 : y < h
      · exact .inl ⟨q, y, hy, e1⟩
      · by_cases e2 : y = h
        · exact .inr ⟨q, by rw [hy, e2]⟩
        · exfalso
          have hyr : inR x.rows y := ⟨q.val y hy, fun z hz => by rw [show x.rows.2 = x.bottom from rfl, hy] at hz; cases hz; exact Int.le_refl _⟩
          have q1 := q.all y hyr
          by_cases e3 : y < f1
          · exact h2 y (by omega) e3 _ (q1.all _ q1.val.first)
          · have i1 : inR (f1, l) y := ⟨by simp; omega, fun z hz => by rw [show ((f1, l) : Run).2 = l from rfl, hl] at hz; cases hz; omega⟩
            have i2 : inR (f1, l) (y + 1) := ⟨by simp; omega, fun z hz => by rw [show ((f1, l) : Run).2 = l from rfl, hl] at hz; cases hz; omega⟩
            exact q.behind y hy ((hruns _ i2).mem.mp ((hruns _ i1).mem.mpr q1))
  · have hl : l = none := hl
    show p ∈ begunBy f1 R (keptBy h (f1, l, R) bg0) ↔ _
    rw [mem]
    have inn : ∀ r, f1 ≤ r → inR (f1, l) r := fun r hr => ⟨hr, fun y hy => by rw [show ((f1, l) : Run).2 = l from rfl, hl] at hy; cases hy⟩
    constructor
    · rintro ⟨q1, q2, q3, q4⟩
      refine ⟨fun r r1 => ?_, q4⟩
      by_cases e : r ≤ f1
      · exact q3 r r1 e
      · exact row _ q1 r (inn r (by omega))
    · rintro ⟨q2, q3⟩
      have hle : p.2 ≤ f1 := by
        refine Int.not_lt.mp fun hlt => q3 ?_
        have m : p.1 ∈ R := (hruns p.2 (inn _ (by omega))).mem.mpr (q2 p.2 (Int.le_refl _))
        exact row _ m _ (inn _ (by omega))
      exact ⟨(hruns f1 inf).mem.mpr (q2 f1 hle), hle, fun r r1 _ => q2 r r1, q3⟩
  · have hl : l = none := hl
    show x ∈ fd0 ++ closedBy h (f1, l, R) bg0 ↔ _
    rw [List.mem_append, fd, cb]
    have inn : ∀ r, f1 ≤ r → inR (f1, l) r := fun r hr => ⟨hr, fun y hy => by rw [show ((f1, l) : Run).2 = l from rfl, hl] at hy; cases hy⟩
    constructor
    · rintro (⟨q, y, hy, hlt⟩ | ⟨q, hy⟩)
      · exact ⟨q, y, hy⟩
      · exact ⟨q, h, hy⟩
    · rintro ⟨q, y, hy⟩
      by_cases e1 : y < h
      · exact .inl ⟨q, y, hy, e1⟩
      · by_cases e2 : y = h
        · exact .inr ⟨q, by rw [hy, e2]⟩
        · exfalso
          have hyr : inR x.rows y := ⟨q.val y hy, fun z hz => by rw [show x.rows.2 = x.bottom from rfl, hy] at hz; cases hz; exact Int.le_refl _⟩
          have q1 := q.all y hyr
          by_cases e3 : y < f1
          · exact h2 y (by omega) e3 _ (q1.all _ q1.val.first)
          · exact q.behind y hy ((hruns _ (inn _ (by omega))).mem.mp ((hruns _ (inn y (by omega))).mem.mpr q1))
theorem fok_all {S : Cells} (hd : Dom S) : ∀ (bs : List Band) (f : FS), FOk S f → BandsFrom S f.behind bs → FOk S (bs.foldl FS.step f) ∧ BandsFrom S (bs.foldl FS.step f).behind []
  | [], f, F, h => ⟨F, h⟩
  | b :: bs, f, F, h => by
    cases q : f.behind with
    | none => rw [q] at h; exact absurd h (by simp [BandsFrom])
    | some x =>
      rw [q] at h
      obtain ⟨h1, h2, h3, h4⟩ := h
      have e : (f.step b).behind = b.2.1 := by unfold FS.step; rw [q]
      exact fok_all hd bs (f.step b) (fok_step hd F q h1 h2 h3) (by rw [e]; exact h4)
theorem formB_ok {S : Cells} (hd : Dom S) {bs : List Band} (h : BandsFrom S (some 0) bs) : Form S (formB bs) := by
  obtain ⟨F, hl⟩ := fok_all hd bs ⟨[], [], some 0⟩ (fok_start hd) h
  unfold formB
  generalize bs.foldl FS.step ⟨[], [], some 0⟩ = f at F hl
  have inj : (f.begun.map fun p => (⟨p.2, p.1.1, f.behind, p.1.2⟩ : Blk)).Nodup := by
    refine nodup_of_map (f := fun x : Blk => x.cols) ?_
    rw [List.map_map]
    exact F.key
  cases q : f.behind with
  | none =>
    have m2 : ∀ b, b ∈ (f.begun.map fun p => (⟨p.2, p.1.1, f.behind, p.1.2⟩ : Blk)) ↔ IsForm S b ∧ b.bottom = none := fun b => by
      rw [List.mem_map]
      constructor
      · rintro ⟨p, hp, rfl⟩
        obtain ⟨a1, a2⟩ := (F.bgN q p).mp hp
        refine ⟨⟨fun y hy => ?_, fun r hr => a1 r hr.1, a2, fun y hy => ?_⟩, q⟩
        · rw [show (Blk.rows ⟨p.2, p.1.1, f.behind, p.1.2⟩).2 = f.behind from rfl, q] at hy; cases hy
        · rw [show (Blk.mk p.2 p.1.1 f.behind p.1.2).bottom = f.behind from rfl, q] at hy; cases hy
      · rintro ⟨a, hb⟩
        refine ⟨(b.cols, b.top), (F.bgN q _).mpr ⟨fun r hr => a.all r ⟨hr, fun y hy => by rw [show b.rows.2 = b.bottom from rfl, hb] at hy; cases hy⟩, a.ahead⟩, ?_⟩
        obtain ⟨t, le, bo, ri⟩ := b
        simp only at hb
        subst hb
        rw [q]
    refine sortB_form (List.nodup_append.mpr ⟨F.nd, inj, fun a ha c hc e => ?_⟩) fun b => ?_
    · subst e
      obtain ⟨_, x, hx⟩ := (F.fdN q a).mp ha
      rw [((m2 a).mp hc).2] at hx; cases hx
    · show b ∈ f.found ++ _ ↔ _
      rw [List.mem_append, F.fdN q, m2]
      constructor
      · rintro (⟨a, _⟩ | ⟨a, _⟩) <;> exact a
      · intro a
        cases e : b.bottom with
        | none => exact .inr ⟨a, rfl⟩
        | some x => exact .inl ⟨a, x, rfl⟩
  | some h =>
    rw [q] at hl
    have hl : ∀ r, h < r → ∀ c, ¬ S r c := hl
    have m2 : ∀ b, b ∈ (f.begun.map fun p => (⟨p.2, p.1.1, f.behind, p.1.2⟩ : Blk)) ↔ IsForm S b ∧ b.bottom = some h := fun b => by
      rw [List.mem_map]
      constructor
      · rintro ⟨p, hp, rfl⟩
        obtain ⟨a1, a2, a3⟩ := (F.bg h q p).mp hp
        refine ⟨⟨fun y hy => ?_, fun r hr => a2 r hr.1 (hr.2 h q), a3, fun y hy z => ?_⟩, q⟩
        · rw [show (Blk.rows ⟨p.2, p.1.1, f.behind, p.1.2⟩).2 = f.behind from rfl, q] at hy; cases hy; exact a1
        · rw [show (Blk.mk p.2 p.1.1 f.behind p.1.2).bottom = f.behind from rfl, q] at hy; cases hy
          exact hl _ (by omega) _ (z.all _ z.val.first)
      · rintro ⟨a, hb⟩
        refine ⟨(b.cols, b.top), (F.bg h q _).mpr ⟨a.val h hb, fun r hr h2 => a.all r ⟨hr, fun y hy => by rw [show b.rows.2 = b.bottom from rfl, hb] at hy; cases hy; exact h2⟩, a.ahead⟩, ?_⟩
        obtain ⟨t, le, bo, ri⟩ := b
        simp only at hb
        subst hb
        rw [q]
    refine sortB_form (List.nodup_append.mpr ⟨F.nd, inj, fun a ha c hc e => ?_⟩) fun b => ?_
    · subst e
      obtain ⟨_, x, hx, hlt⟩ := (F.fd h q a).mp ha
      rw [((m2 a).mp hc).2] at hx; cases hx; omega
    · show b ∈ f.found ++ _ ↔ _
      rw [List.mem_append, F.fd h q, m2]
      constructor
      · rintro (⟨a, _⟩ | ⟨a, _⟩) <;> exact a
      · intro a
        cases e : b.bottom with
        | none =>
          have z := a.all (max b.top (h + 1)) ⟨by simp; omega, fun y hy => by rw [show b.rows.2 = b.bottom from rfl, e] at hy; cases hy⟩
          exact absurd (z.all _ z.val.first) (hl _ (by omega) _)
        | some x =>
          have hv := a.val x e
          have z := a.all x ⟨hv, fun y hy => by rw [show b.rows.2 = b.bottom from rfl, e] at hy; cases hy; exact Int.le_refl _⟩
          have : ¬ h < x := fun q => hl x q _ (z.all _ z.val.first)
          by_cases e2 : x = h
          · exact .inr ⟨a, by rw [e2]⟩
          · exact .inl ⟨a, x, rfl, by omega⟩
end CB
namespace CB
/-! ### the program's way -/
def anyR (E : List Run) (c : Int) : Bool := E.any fun e => inRb e c
theorem anyR_iff {E : List Run} {c : Int} : anyR E c = true ↔ ∃ e ∈ E, inR e c := by
  unfold anyR
  rw [List.any_eq_true]
  constructor
  · rintro ⟨e, h1, h2⟩; exact ⟨e, h1, inRb_iff.mp h2⟩
  · rintro ⟨e, h1, h2⟩; exact ⟨e, h1, inRb_iff.mpr h2⟩
def runsBy (E : List Run) : List Run := runsOver (anyR E) (spans (sortU (cutsOf E))) []
theorem runsBy_ok (E : List Run) : IsRuns (fun c => ∃ e ∈ E, inR e c) (runsBy E) := by
  refine runs_ok (sortU_sorted _) (fun p hp x hx => ?_) (fun x hx => ?_)
  · rw [anyR_iff]
    have k : ∀ e ∈ E, (inR e x ↔ inR e p.1) := fun e he => cuts_span (sortU_sorted _) (fun z hz => (mem_sortU z _).mpr hz) hp hx he
    constructor
    · rintro ⟨e, h1, h2⟩; exact ⟨e, h1, (k e h1).mp h2⟩
    · rintro ⟨e, h1, h2⟩; exact ⟨e, h1, (k e h1).mpr h2⟩
  · obtain ⟨e, h1, h2⟩ := hx
    exact ⟨e.1, (mem_sortU _ _).mpr (mem_cuts1 h1), h2.1⟩
def colsAt (L : List Blk) (r : Int) : List Run := (L.filter fun b => inRb b.rows r).map (·.cols)
theorem colsAt_iff {L : List Blk} {r c : Int} : (∃ e ∈ colsAt L r, inR e c) ↔ cellsOf L r c := by
  unfold colsAt cellsOf
  constructor
  · rintro ⟨e, h1, h2⟩
    obtain ⟨b, hb, rfl⟩ := List.mem_map.mp h1
    obtain ⟨h3, h4⟩ := List.mem_filter.mp hb
    exact ⟨b, h3, inRb_iff.mp h4, h2⟩
  · rintro ⟨b, h1, h2, h3⟩
    exact ⟨b.cols, List.mem_map.mpr ⟨b, List.mem_filter.mpr ⟨h1, inRb_iff.mpr h2⟩, rfl⟩, h3⟩
theorem runsAt_ok (L : List Blk) (r : Int) : IsRuns (cellsOf L r) (runsBy (colsAt L r)) := (runsBy_ok _).congr fun _ => colsAt_iff
theorem hasRuns (L : List Blk) : HasRuns (cellsOf L) := fun r => ⟨_, runsAt_ok L r⟩
theorem IsRuns.nil_iff {S : Int → Prop} {R : List Run} (h : IsRuns S R) : R = [] ↔ ∀ x, ¬ S x := by
  constructor
  · intro e x hx
    subst e
    obtain ⟨r, hr, _⟩ := (h.cov x).mp hx
    simp at hr
  · intro q
    cases R with
    | nil => rfl
    | cons r R => exact absurd ((h.cov r.1).mpr ⟨r, List.mem_cons_self, (h.val r List.mem_cons_self).first⟩) (q _)
def bandOf (g : Int → List Run) (p : Run) : Option Band := if g p.1 = [] then none else some (p.1, p.2, g p.1)
theorem band_go {S : Cells} {g : Int → List Run} : ∀ (cs : List Int) (c h : Int), (c :: cs).Pairwise (· < ·) → h < c → (∀ r, h < r → r < c → ∀ x, ¬ S r x) → (∀ p ∈ spans (c :: cs), ∀ r, inR p r → IsRuns (S r) (g p.1)) →
    BandsFrom S (some h) ((spans (c :: cs)).filterMap (bandOf g))
  | [], c, h, _, hl, he, hg => by
    have hg' := hg (c, none) (by simp [spans])
    have e0 : spans [c] = [(c, none)] := rfl
    rw [e0]
    by_cases q : g c = []
    · have e1 : bandOf g (c, none) = none := if_pos q
      rw [List.filterMap_cons, e1]
      intro r hr x
      by_cases z : r < c
      · exact he r hr z x
      · have := hg' r ⟨by simp; omega, by simp⟩
        exact this.nil_iff.mp q x
    · have e1 : bandOf g (c, none) = some (c, none, g c) := if_neg q
      rw [List.filterMap_cons, e1]
      exact ⟨hl, he, ⟨by simp, q, hg'⟩, rfl⟩
  | d :: cs, c, h, hp, hl, he, hg => by
    obtain ⟨h1, h2⟩ := List.pairwise_cons.mp hp
    have hcd : c < d := h1 d List.mem_cons_self
    have e0 : spans (c :: d :: cs) = (c, some (d - 1)) :: spans (d :: cs) := rfl
    rw [e0]
    have hg' := hg (c, some (d - 1)) List.mem_cons_self
    have hgr : ∀ p ∈ spans (d :: cs), ∀ r, inR p r → IsRuns (S r) (g p.1) := fun p hp => hg p (List.mem_cons_of_mem _ hp)
    by_cases q : g c = []
    · have e1 : bandOf g (c, some (d - 1)) = none := if_pos q
      rw [List.filterMap_cons, e1]
      refine band_go cs d h h2 (by omega) (fun r hr1 hr2 x => ?_) hgr
      by_cases z : r < c
      · exact he r hr1 z x
      · have := hg' r ⟨by simp; omega, by intro b hb; cases hb; omega⟩
        exact this.nil_iff.mp q x
    · have e1 : bandOf g (c, some (d - 1)) = some (c, some (d - 1), g c) := if_neg q
      rw [List.filterMap_cons, e1]
      exact ⟨hl, he, ⟨by intro b hb; cases hb; show c ≤ d - 1; omega, q, hg'⟩, band_go cs d (d - 1) h2 (by omega) (fun r a b => by omega) hgr⟩
def bandsBy (L : List Blk) : List Band := (spans (sortU (cutsOf (L.map (·.rows))))).filterMap (bandOf fun r => runsBy (colsAt L r))
theorem rows_const {L : List Blk} {cs : List Int} (h : cs.Pairwise (· < ·)) (hc : ∀ x ∈ cutsOf (L.map (·.rows)), x ∈ cs) {p : Run} (hp : p ∈ spans cs) {r : Int} (hr : inR p r) (c : Int) : cellsOf L p.1 c ↔ cellsOf L r c := by
  have k : ∀ b ∈ L, (inR b.rows r ↔ inR b.rows p.1) := fun b hb => cuts_span h hc hp hr (List.mem_map.mpr ⟨b, hb, rfl⟩)
  unfold cellsOf
  constructor
  · rintro ⟨b, h1, h2, h3⟩; exact ⟨b, h1, (k b h1).mpr h2, h3⟩
  · rintro ⟨b, h1, h2, h3⟩; exact ⟨b, h1, (k b h1).mp h2, h3⟩
theorem bandsBy_ok {L : List Blk} (h : ∀ b ∈ L, BOk b) : BandsFrom (cellsOf L) (some 0) (bandsBy L) := by
  unfold bandsBy
  have hs := sortU_sorted (cutsOf (L.map (·.rows)))
  have hm := fun z => mem_sortU z (cutsOf (L.map (·.rows)))
  have hrow : ∀ {p : Run}, p ∈ spans (sortU (cutsOf (L.map (·.rows)))) → ∀ r, inR p r → IsRuns (cellsOf L r) (runsBy (colsAt L p.1)) := fun {p} hp r hr => by
    exact (runsAt_ok L p.1).congr fun c => rows_const hs (fun x hx => (hm x).mpr hx) hp hr c
  have hge : ∀ z ∈ sortU (cutsOf (L.map (·.rows))), 1 ≤ z := fun z hz => by
    have hz := (hm z).mp hz
    unfold cutsOf at hz
    rcases List.mem_append.mp hz with q | q
    · obtain ⟨e, he, rfl⟩ := List.mem_map.mp q
      obtain ⟨b, hb, rfl⟩ := List.mem_map.mp he
      exact (h b hb).t
    · obtain ⟨e, he, q2⟩ := List.mem_filterMap.mp q
      obtain ⟨b, hb, rfl⟩ := List.mem_map.mp he
      obtain ⟨y, hy, rfl⟩ := Option.map_eq_some_iff.mp q2
      have := (h b hb).v y hy
      have := (h b hb).t
      simp at *
      omega
  have hcov : ∀ r x, cellsOf L r x → ∃ c ∈ sortU (cutsOf (L.map (·.rows))), c ≤ r := fun r x ⟨b, hb, h1, _⟩ => ⟨b.top, (hm _).mpr (mem_cuts1 (List.mem_map.mpr ⟨b, hb, rfl⟩)), h1.1⟩
  revert hs hrow hge hcov
  clear hm
  generalize sortU (cutsOf (L.map (·.rows))) = cs
  intro hs hrow hge hcov
  cases cs with
  | nil => exact fun r _ x hx => by obtain ⟨c, hc, _⟩ := hcov r x hx; simp at hc
  | cons c cs =>
    refine band_go cs c 0 hs (by have := hge c List.mem_cons_self; omega) (fun r h1 h2 x hx => ?_) (fun p hp => hrow hp)
    obtain ⟨c', hc', hl⟩ := hcov r x hx
    rcases List.mem_cons.mp hc' with e | e
    · omega
    · have := (List.pairwise_cons.mp hs).1 c' e; omega
def formOf (L : List Blk) : List Blk := formB (bandsBy L)
theorem formOf_ok {L : List Blk} (h : ∀ b ∈ L, BOk b) : Form (cellsOf L) (formOf L) := formB_ok (dom_of h) (bandsBy_ok h)
theorem form_bok {S : Cells} (hd : Dom S) {L : List Blk} (h : Form S L) : ∀ b ∈ L, BOk b := fun b hb => ((h.mem b).mp hb).ok hd
/-- the form of a form is itself -/
theorem formOf_form {M L : List Blk} (hM : ∀ b ∈ M, BOk b) (h : Form (cellsOf M) L) : formOf L = L := by
  have h1 := formOf_ok (form_bok (dom_of hM) h)
  refine (h1.congr fun r c => form_cells (dom_of hM) (hasRuns M) h r c).uniq h

/-! ### the law's way -/
def hasB (L : List Blk) (r c : Int) : Bool := L.any fun b => inRb b.rows r && inRb b.cols c
theorem hasB_iff {L : List Blk} {r c : Int} : hasB L r c = true ↔ cellsOf L r c := by
  unfold hasB cellsOf
  rw [List.any_eq_true]
  constructor
  · rintro ⟨b, h1, h2⟩
    rw [Bool.and_eq_true] at h2
    exact ⟨b, h1, inRb_iff.mp h2.1, inRb_iff.mp h2.2⟩
  · rintro ⟨b, h1, h2, h3⟩
    exact ⟨b, h1, by rw [Bool.and_eq_true]; exact ⟨inRb_iff.mpr h2, inRb_iff.mpr h3⟩⟩
def lawCuts (E : List Run) : List Int := sortU (1 :: cutsOf E)
def sidesOf (L : List Blk) : List Run := spans (lawCuts (L.map (·.cols)))
def lawRow (L : List Blk) (r : Int) : List Run := runsOver (hasB L r) (sidesOf L) []
def lawLines (L : List Blk) : List Band := (spans (lawCuts (L.map (·.rows)))).map fun p => (p.1, p.2, lawRow L p.1)
theorem lawRow_ok (L : List Blk) (r : Int) : IsRuns (cellsOf L r) (lawRow L r) := by
  refine runs_ok (sortU_sorted _) (fun p hp x hx => ?_) (fun x hx => ?_)
  · rw [hasB_iff]
    have k : ∀ b ∈ L, (inR b.cols x ↔ inR b.cols p.1) := fun b hb => cuts_span (sortU_sorted _) (fun z hz => (mem_sortU z _).mpr (List.mem_cons_of_mem _ hz)) hp hx (List.mem_map.mpr ⟨b, hb, rfl⟩)
    unfold cellsOf
    constructor
    · rintro ⟨b, h1, h2, h3⟩; exact ⟨b, h1, h2, (k b h1).mp h3⟩
    · rintro ⟨b, h1, h2, h3⟩; exact ⟨b, h1, h2, (k b h1).mpr h3⟩
  · obtain ⟨b, h1, h2, h3⟩ := hx
    exact ⟨b.left, (mem_sortU _ _).mpr (List.mem_cons_of_mem _ (mem_cuts1 (List.mem_map.mpr ⟨b, h1, rfl⟩))), h3.1⟩
/-- lines from row t on, without a gap, to the end -/
def LinesFrom (S : Cells) : Int → List Band → Prop
  | _, [] => False
  | t, [b] => b.1 = t ∧ b.2.1 = none ∧ ∀ r, t ≤ r → IsRuns (S r) b.2.2
  | t, b :: b' :: rest => b.1 = t ∧ ∃ e, b.2.1 = some e ∧ t ≤ e ∧ (∀ r, t ≤ r → r ≤ e → IsRuns (S r) b.2.2) ∧ LinesFrom S (e + 1) (b' :: rest)
theorem lines_go {S : Cells} {g : Int → List Run} : ∀ (cs : List Int) (c : Int), (c :: cs).Pairwise (· < ·) → (∀ p ∈ spans (c :: cs), ∀ r, inR p r → IsRuns (S r) (g p.1)) → LinesFrom S c ((spans (c :: cs)).map fun p => (p.1, p.2, g p.1))
  | [], c, _, hg => ⟨rfl, rfl, fun r hr => hg (c, none) (by simp [spans]) r ⟨hr, by simp⟩⟩
  | d :: cs, c, hp, hg => by
    obtain ⟨h1, h2⟩ := List.pairwise_cons.mp hp
    have hcd : c < d := h1 d List.mem_cons_self
    have ih := lines_go cs d h2 (g := g) (fun p hp => hg p (List.mem_cons_of_mem _ hp))
    have e0 : spans (c :: d :: cs) = (c, some (d - 1)) :: spans (d :: cs) := rfl
    rw [e0, List.map_cons]
    have hg' := hg (c, some (d - 1)) List.mem_cons_self
    cases e : (spans (d :: cs)).map fun p => (p.1, p.2, g p.1) with
    | nil => rw [e] at ih; exact ih.elim
    | cons b' rest =>
      rw [e] at ih
      refine ⟨rfl, d - 1, rfl, by omega, fun r h1 h2 => hg' r ⟨h1, by intro b hb; cases hb; exact h2⟩, ?_⟩
      rw [show d - 1 + 1 = d by omega]
      exact ih
theorem lawLines_ok {L : List Blk} (h : ∀ b ∈ L, BOk b) : LinesFrom (cellsOf L) 1 (lawLines L) := by
  unfold lawLines lawCuts
  have hs := sortU_sorted (1 :: cutsOf (L.map (·.rows)))
  have hm := fun z => mem_sortU z (1 :: cutsOf (L.map (·.rows)))
  have hrow : ∀ {p : Run}, p ∈ spans (sortU (1 :: cutsOf (L.map (·.rows)))) → ∀ r, inR p r → IsRuns (cellsOf L r) (lawRow L p.1) := fun {p} hp r hr =>
    (lawRow_ok L p.1).congr fun c => rows_const hs (fun x hx => (hm x).mpr (List.mem_cons_of_mem _ hx)) hp hr c
  have hge : ∀ z ∈ sortU (1 :: cutsOf (L.map (·.rows))), 1 ≤ z := fun z hz => by
    have hz := (hm z).mp hz
    rcases List.mem_cons.mp hz with e | hz
    · omega
    unfold cutsOf at hz
    rcases List.mem_append.mp hz with q | q
    · obtain ⟨e, he, rfl⟩ := List.mem_map.mp q
      obtain ⟨b, hb, rfl⟩ := List.mem_map.mp he
      exact (h b hb).t
    · obtain ⟨e, he, q2⟩ := List.mem_filterMap.mp q
      obtain ⟨b, hb, rfl⟩ := List.mem_map.mp he
      obtain ⟨y, hy, rfl⟩ := Option.map_eq_some_iff.mp q2
      have := (h b hb).v y hy
      have := (h b hb).t
      simp at *
      omega
  have h1 : 1 ∈ sortU (1 :: cutsOf (L.map (·.rows))) := (hm 1).mpr List.mem_cons_self
  revert hs hrow hge h1
  clear hm
  generalize sortU (1 :: cutsOf (L.map (·.rows))) = cs
  intro hs hrow hge h1
  cases cs with
  | nil => simp at h1
  | cons c cs =>
    have e : c = 1 := by
      have := hge c List.mem_cons_self
      rcases List.mem_cons.mp h1 with e | e
      · omega
      · have := (List.pairwise_cons.mp hs).1 1 e; omega
    subst e
    exact lines_go cs 1 hs (fun p hp => hrow hp)
/-- as far down as a run stands -/
def lawExt (run : Run) : Option Int → List Band → Option Int
  | o, [] => o
  | o, b :: rest => if run ∈ b.2.2 then lawExt run b.2.1 rest else o
def lawFold : List Run → List Band → List Blk
  | _, [] => []
  | prev, b :: rest => ((b.2.2.filter fun run => decide (run ∉ prev)).map fun run => ⟨b.1, run.1, lawExt run b.2.1 rest, run.2⟩) ++ lawFold b.2.2 rest
theorem LinesFrom.first {S : Cells} : ∀ {t : Int} {b : Band} {rest : List Band}, LinesFrom S t (b :: rest) → b.1 = t ∧ IsRuns (S t) b.2.2 ∧ (∀ e, b.2.1 = some e → t ≤ e ∧ (∀ r, t ≤ r → r ≤ e → IsRuns (S r) b.2.2) ∧ LinesFrom S (e + 1) rest) ∧ (b.2.1 = none → rest = [] ∧ ∀ r, t ≤ r → IsRuns (S r) b.2.2)
  | t, b, [], h => by
    obtain ⟨h1, h2, h3⟩ := h
    refine ⟨h1, h3 t (Int.le_refl _), ?_, fun _ => ⟨rfl, h3⟩⟩
    intro e he
    rw [h2] at he
    cases he
  | t, b, b' :: rest, h => by
    obtain ⟨h1, e, h2, h3, h4, h5⟩ := h
    exact ⟨h1, h4 t (Int.le_refl _) h3, fun e' he => by rw [h2] at he; cases he; exact ⟨h3, h4, h5⟩, fun he => by rw [h2] at he; cases he⟩
theorem lawExt_ok {S : Cells} {run : Run} : ∀ (rest : List Band) (e : Int), LinesFrom S (e + 1) rest → IsRun (S e) run →
    (∀ r, e ≤ r → (∀ y, lawExt run (some e) rest = some y → r ≤ y) → IsRun (S r) run) ∧ (∀ y, lawExt run (some e) rest = some y → e ≤ y ∧ ¬ IsRun (S (y + 1)) run)
  | [], e, h, _ => h.elim
  | b :: rest, e, h, he => by
    obtain ⟨h1, h2, h3, h4⟩ := h.first
    by_cases q : run ∈ b.2.2
    · have e1 : lawExt run (some e) (b :: rest) = lawExt run b.2.1 rest := if_pos q
      rw [e1]
      cases hl : b.2.1 with
      | none =>
        obtain ⟨hr, h5⟩ := h4 hl
        subst hr
        refine ⟨fun r hr _ => ?_, by simp [lawExt]⟩
        by_cases z : r = e
        · rw [z]; exact he
        · exact (h5 r (by omega)).mem.mp q
      | some e' =>
        obtain ⟨h5, h6, h7⟩ := h3 e' hl
        obtain ⟨a1, a2⟩ := lawExt_ok rest e' h7 ((h6 e' h5 (Int.le_refl _)).mem.mp q)
        refine ⟨fun r hr hy => ?_, fun y hy => ⟨by have := (a2 y hy).1; omega, (a2 y hy).2⟩⟩
        by_cases z : r = e
        · rw [z]; exact he
        · by_cases z2 : r ≤ e'
          · exact (h6 r (by omega) z2).mem.mp q
          · exact a1 r (by omega) hy
    · have e1 : lawExt run (some e) (b :: rest) = some e := if_neg q
      rw [e1]
      refine ⟨fun r hr hy => ?_, fun y hy => ?_⟩
      · have := hy e rfl
        rw [show r = e by omega]; exact he
      · cases hy
        exact ⟨Int.le_refl _, fun z => q (h2.mem.mpr z)⟩
theorem lawFold_mem {S : Cells} : ∀ (lines : List Band) (prev : List Run) (t : Int), LinesFrom S t lines → (∀ run, run ∈ prev ↔ IsRun (S (t - 1)) run) → ∀ b, b ∈ lawFold prev lines ↔ (IsForm S b ∧ t ≤ b.top)
  | [], _, _, h, _, _ => h.elim
  | l :: rest, prev, t, h, hp, b => by
    obtain ⟨h1, h2, h3, h4⟩ := h.first
    have e1 : lawFold prev (l :: rest) = ((l.2.2.filter fun run => decide (run ∉ prev)).map fun run => ⟨l.1, run.1, lawExt run l.2.1 rest, run.2⟩) ++ lawFold l.2.2 rest := rfl
    rw [e1, List.mem_append]
    -- what begins at t
    have new : (∃ run, (run ∈ l.2.2 ∧ run ∉ prev) ∧ (⟨l.1, run.1, lawExt run l.2.1 rest, run.2⟩ : Blk) = b) ↔ (IsForm S b ∧ b.top = t) := by
      have made : ∀ run, run ∈ l.2.2 → run ∉ prev → IsForm S ⟨l.1, run.1, lawExt run l.2.1 rest, run.2⟩ := fun run q1 q2 => by
        have hb : ∀ o, lawExt run l.2.1 rest = o → (∀ r, t ≤ r → (∀ y, o = some y → r ≤ y) → IsRun (S r) run) ∧ (∀ y, o = some y → t ≤ y ∧ ¬ IsRun (S (y + 1)) run) := fun o ho => by
          subst ho
          cases hl : l.2.1 with
          | none =>
            obtain ⟨hr, h5⟩ := h4 hl
            subst hr
            exact ⟨fun r hr _ => (h5 r hr).mem.mp q1, by simp [lawExt]⟩
          | some e =>
            obtain ⟨h5, h6, h7⟩ := h3 e hl
            obtain ⟨a1, a2⟩ := lawExt_ok rest e h7 ((h6 e h5 (Int.le_refl _)).mem.mp q1)
            refine ⟨fun r hr hy => ?_, fun y hy => ⟨by have := (a2 y hy).1; omega, (a2 y hy).2⟩⟩
            by_cases z : r ≤ e
            · exact (h6 r hr z).mem.mp q1
            · exact a1 r (by omega) hy
        obtain ⟨b1, b2⟩ := hb _ rfl
        refine ⟨fun y hy => ?_, fun r hr => b1 r (by have := hr.1; simp at this; omega) fun y hy => hr.2 y hy, ?_, fun y hy => (b2 y hy).2⟩
        · show l.1 ≤ y
          rw [h1]; exact (b2 y hy).1
        · show ¬ IsRun (S (l.1 - 1)) run
          rw [h1, ← hp]; exact q2
      constructor
      · rintro ⟨run, ⟨q1, q2⟩, rfl⟩
        exact ⟨made run q1 q2, h1⟩
      · rintro ⟨f, ht⟩
        have m1 : b.cols ∈ l.2.2 := by
          refine h2.mem.mpr ?_
          rw [← ht]; exact f.first
        have m2 : b.cols ∉ prev := by
          rw [hp, ← ht]; exact f.ahead
        refine ⟨b.cols, ⟨m1, m2⟩, ?_⟩
        refine (made _ m1 m2).key f ?_ rfl
        show l.1 = b.top
        rw [h1, ht]
    have fst : b ∈ ((l.2.2.filter fun run => decide (run ∉ prev)).map fun run => (⟨l.1, run.1, lawExt run l.2.1 rest, run.2⟩ : Blk)) ↔ (IsForm S b ∧ b.top = t) := by
      rw [← new, List.mem_map]
      constructor
      · rintro ⟨run, hr, e⟩
        obtain ⟨q1, q2⟩ := List.mem_filter.mp hr
        exact ⟨run, ⟨q1, of_decide_eq_true q2⟩, e⟩
      · rintro ⟨run, ⟨q1, q2⟩, e⟩
        exact ⟨run, List.mem_filter.mpr ⟨q1, decide_eq_true q2⟩, e⟩
    rw [fst]
    cases hl : l.2.1 with
    | none =>
      obtain ⟨hr, h5⟩ := h4 hl
      subst hr
      constructor
      · rintro (⟨f, e⟩ | q)
        · exact ⟨f, by omega⟩
        · simp [lawFold] at q
      · rintro ⟨f, e⟩
        refine .inl ⟨f, ?_⟩
        by_cases z : b.top = t
        · exact z
        · exfalso
          exact f.ahead ((h5 _ (by omega)).mem.mp ((h5 b.top e).mem.mpr f.first))
    | some e =>
      obtain ⟨h5, h6, h7⟩ := h3 e hl
      rw [lawFold_mem rest l.2.2 (e + 1) h7 (fun run => by rw [show e + 1 - 1 = e by omega]; exact (h6 e h5 (Int.le_refl _)).mem) b]
      constructor
      · rintro (⟨f, q⟩ | ⟨f, q⟩)
        · exact ⟨f, by omega⟩
        · exact ⟨f, by omega⟩
      · rintro ⟨f, q⟩
        by_cases z : b.top = t
        · exact .inl ⟨f, z⟩
        · by_cases z2 : e + 1 ≤ b.top
          · exact .inr ⟨f, z2⟩
          · exfalso
            exact f.ahead ((h6 _ (by omega) (by omega)).mem.mp ((h6 b.top q (by omega)).mem.mpr f.first))
theorem lawFold_nodup {S : Cells} : ∀ (lines : List Band) (prev : List Run) (t : Int), LinesFrom S t lines → (∀ run, run ∈ prev ↔ IsRun (S (t - 1)) run) → (lawFold prev lines).Nodup
  | [], _, _, h, _ => h.elim
  | l :: rest, prev, t, h, hp => by
    obtain ⟨h1, h2, h3, h4⟩ := h.first
    have e1 : lawFold prev (l :: rest) = ((l.2.2.filter fun run => decide (run ∉ prev)).map fun run => ⟨l.1, run.1, lawExt run l.2.1 rest, run.2⟩) ++ lawFold l.2.2 rest := rfl
    rw [e1]
    have n1 : ((l.2.2.filter fun run => decide (run ∉ prev)).map fun run => (⟨l.1, run.1, lawExt run l.2.1 rest, run.2⟩ : Blk)).Nodup := by
      refine nodup_of_map (f := fun x : Blk => x.cols) ?_
      rw [List.map_map]
      have : ((fun x : Blk => x.cols) ∘ fun run : Run => (⟨l.1, run.1, lawExt run l.2.1 rest, run.2⟩ : Blk)) = id := rfl
      rw [this, List.map_id]
      exact h2.nodup.sublist List.filter_sublist
    cases hl : l.2.1 with
    | none =>
      obtain ⟨hr, h5⟩ := h4 hl
      subst hr
      rw [hl] at n1
      simpa [lawFold] using n1
    | some e =>
      obtain ⟨h5, h6, h7⟩ := h3 e hl
      have hp' : ∀ run, run ∈ l.2.2 ↔ IsRun (S (e + 1 - 1)) run := fun run => by rw [show e + 1 - 1 = e by omega]; exact (h6 e h5 (Int.le_refl _)).mem
      rw [hl] at n1
      refine List.nodup_append.mpr ⟨n1, lawFold_nodup rest l.2.2 (e + 1) h7 hp', fun a ha c hc e' => ?_⟩
      subst e'
      obtain ⟨run, _, rfl⟩ := List.mem_map.mp ha
      have := ((lawFold_mem rest l.2.2 (e + 1) h7 hp' _).mp hc).2
      simp at this
      omega
def formLaw (L : List Blk) : List Blk := sortB (lawFold [] (lawLines L))
theorem formLaw_ok {L : List Blk} (h : ∀ b ∈ L, BOk b) : Form (cellsOf L) (formLaw L) := by
  have hp : ∀ run, run ∈ ([] : List Run) ↔ IsRun (cellsOf L (1 - 1)) run := fun run => by
    simp only [List.not_mem_nil, false_iff]
    intro q
    have := (dom_of h _ _ (q.all _ q.val.first)).1
    omega
  refine sortB_form (lawFold_nodup _ _ 1 (lawLines_ok h) hp) fun b => ?_
  rw [lawFold_mem _ _ 1 (lawLines_ok h) hp]
  constructor
  · exact fun q => q.1
  · exact fun q => ⟨q, (q.ok (dom_of h)).t⟩
theorem form_same {L : List Blk} (h : ∀ b ∈ L, BOk b) : formOf L = formLaw L := (formOf_ok h).uniq (formLaw_ok h)
/-- the runs of a row, sought among the lines -/
def lawRuns : List Band → Int → List Run
  | [], _ => []
  | b :: rest, r => if inRb (b.1, b.2.1) r = true then b.2.2 else lawRuns rest r
theorem lawRuns_ok {S : Cells} : ∀ (lines : List Band) (t : Int), LinesFrom S t lines → ∀ r, t ≤ r → IsRuns (S r) (lawRuns lines r)
  | [], _, h, _, _ => h.elim
  | b :: rest, t, h, r, hr => by
    obtain ⟨h1, h2, h3, h4⟩ := h.first
    have e1 : lawRuns (b :: rest) r = if inRb (b.1, b.2.1) r = true then b.2.2 else lawRuns rest r := rfl
    rw [e1]
    cases hl : b.2.1 with
    | none =>
      obtain ⟨_, h5⟩ := h4 hl
      rw [if_pos (inRb_iff.mpr ⟨by simp; omega, by simp⟩)]
      exact h5 r hr
    | some e =>
      obtain ⟨h5, h6, h7⟩ := h3 e hl
      by_cases z : r ≤ e
      · rw [if_pos (inRb_iff.mpr ⟨by simp; omega, by intro y hy; cases hy; exact z⟩)]
        exact h6 r hr z
      · rw [if_neg (fun q => z ((inRb_iff.mp q).2 e rfl))]
        exact lawRuns_ok rest (e + 1) h7 r (by omega)
end CB
namespace CW
open PySem PySem.Spec PyProof.Rows L2 Evl
/-! ### the text by places -/
def topS (i : Nat) : Stmt := PySem.Challenge.pw_cellblocks_k18_whole_none_of_fewer.main.body.getD i (.Pass ⟨0, 0, 0, 0⟩)
abbrev sWhole : Stmt := topS 8
abbrev sCount : Stmt := topS 9
abbrev sEnd : Stmt := topS 16
abbrev sBInit : Stmt := inClass (topS 21) 0
abbrev sBEq : Stmt := inClass (topS 21) 1
abbrev sAt : Stmt := topS 25
abbrev sStr : Stmt := topS 26
abbrev sCuts : Stmt := topS 27
abbrev sWith : Stmt := topS 28
abbrev sRuns : Stmt := topS 29
abbrev sCols : Stmt := topS 30
abbrev sBands : Stmt := topS 31
abbrev sForm : Stmt := topS 32
abbrev sFirst : Stmt := topS 33
abbrev sEither : Stmt := topS 34
abbrev sChkB : Stmt := topS 36
abbrev sChkA : Stmt := topS 37
abbrev sAInit : Stmt := inClass (topS 38) 0
abbrev sAEq : Stmt := inClass (topS 38) 1
abbrev sALen : Stmt := inClass (topS 38) 2
abbrev sABlocks : Stmt := inClass (topS 38) 5
abbrev sAFirsts : Stmt := inClass (topS 38) 6
abbrev sABy : Stmt := inClass (topS 38) 9
abbrev sAJoin : Stmt := inClass (topS 38) 11
abbrev sLCell : Stmt := topS 40
abbrev sLMix : Stmt := topS 41
abbrev sLSrc : Stmt := topS 42
abbrev sLNext : Stmt := topS 43
abbrev sLMade : Stmt := topS 44
abbrev sLTup : Stmt := topS 45
abbrev sLCuts : Stmt := topS 46
abbrev sLSpans : Stmt := topS 47
abbrev sLHas : Stmt := topS 48
abbrev sLRows : Stmt := topS 49
abbrev sLFormBy : Stmt := topS 50
abbrev sLForm : Stmt := topS 51
abbrev sLRuns : Stmt := topS 52
abbrev sLWin : Stmt := topS 53
abbrev sLApart : Stmt := topS 54
abbrev sLFew : Stmt := topS 55
abbrev sLaw : Stmt := topS 56
/-! ### what is said of a value -/
abbrev Obs (α : Type) := Hp → V → α → Prop
def Mono {α : Type} (P : Obs α) : Prop := ∀ H H' v x, Ex H H' → P H v x → P H' v x
def oInt : Obs Int := fun _ v i => v = .int i
def oV : Option Int → V
  | none => .non
  | some i => .int i
def oOpt : Obs (Option Int) := fun _ v o => v = oV o
def oTup2 {α β : Type} (P : Obs α) (Q : Obs β) : Obs (α × β) := fun H v x => ∃ p a b, v = .ref p ∧ H p = some (.tup [a, b]) ∧ P H a x.1 ∧ Q H b x.2
def oTup3 {α β γ : Type} (P : Obs α) (Q : Obs β) (R : Obs γ) : Obs (α × β × γ) := fun H v x => ∃ p a b c, v = .ref p ∧ H p = some (.tup [a, b, c]) ∧ P H a x.1 ∧ Q H b x.2.1 ∧ R H c x.2.2
def Items {α : Type} (P : Obs α) (H : Hp) : List V → List α → Prop
  | [], [] => True
  | v :: vs, x :: xs => P H v x ∧ Items P H vs xs
  | _, _ => False
def oLst {α : Type} (P : Obs α) : Obs (List α) := fun H v xs => ∃ p vs, v = .ref p ∧ H p = some (.lst vs) ∧ Items P H vs xs
theorem mono_int : Mono oInt := fun _ _ _ _ _ h => h
theorem mono_opt : Mono oOpt := fun _ _ _ _ _ h => h
theorem mono_tup2 {α β : Type} {P : Obs α} {Q : Obs β} (hP : Mono P) (hQ : Mono Q) : Mono (oTup2 P Q) := fun H H' v x e ⟨p, a, b, h1, h2, h3, h4⟩ => ⟨p, a, b, h1, e _ _ h2, hP _ _ _ _ e h3, hQ _ _ _ _ e h4⟩
theorem mono_tup3 {α β γ : Type} {P : Obs α} {Q : Obs β} {R : Obs γ} (hP : Mono P) (hQ : Mono Q) (hR : Mono R) : Mono (oTup3 P Q R) := fun H H' v x e ⟨p, a, b, c, h1, h2, h3, h4, h5⟩ => ⟨p, a, b, c, h1, e _ _ h2, hP _ _ _ _ e h3, hQ _ _ _ _ e h4, hR _ _ _ _ e h5⟩
theorem Items.mono {α : Type} {P : Obs α} (hP : Mono P) {H H' : Hp} (e : Ex H H') : ∀ {vs : List V} {xs : List α}, Items P H vs xs → Items P H' vs xs
  | [], [], _ => trivial
  | _ :: _, _ :: _, h => ⟨hP _ _ _ _ e h.1, Items.mono hP e h.2⟩
  | [], _ :: _, h => h.elim
  | _ :: _, [], h => h.elim
theorem mono_lst {α : Type} {P : Obs α} (hP : Mono P) : Mono (oLst P) := fun H H' v xs e ⟨p, vs, h1, h2, h3⟩ => ⟨p, vs, h1, e _ _ h2, h3.mono hP e⟩
theorem Items.length {α : Type} {P : Obs α} {H : Hp} : ∀ {vs : List V} {xs : List α}, Items P H vs xs → vs.length = xs.length
  | [], [], _ => rfl
  | _ :: _, _ :: _, h => congrArg (· + 1) (Items.length h.2)
  | [], _ :: _, h => h.elim
  | _ :: _, [], h => h.elim
theorem Items.snoc {α : Type} {P : Obs α} {H : Hp} {v : V} {x : α} (hv : P H v x) : ∀ {vs : List V} {xs : List α}, Items P H vs xs → Items P H (vs ++ [v]) (xs ++ [x])
  | [], [], _ => ⟨hv, trivial⟩
  | _ :: _, _ :: _, h => ⟨h.1, Items.snoc hv h.2⟩
  | [], _ :: _, h => h.elim
  | _ :: _, [], h => h.elim
theorem Items.append {α : Type} {P : Obs α} {H : Hp} {ws : List V} {ys : List α} (hw : Items P H ws ys) : ∀ {vs : List V} {xs : List α}, Items P H vs xs → Items P H (vs ++ ws) (xs ++ ys)
  | [], [], _ => hw
  | _ :: _, _ :: _, h => ⟨h.1, Items.append hw h.2⟩
  | [], _ :: _, h => h.elim
  | _ :: _, [], h => h.elim
theorem Items.get {α : Type} {P : Obs α} {H : Hp} : ∀ {vs : List V} {xs : List α}, Items P H vs xs → ∀ {i : Nat} {v : V}, vs[i]? = some v → ∃ x, xs[i]? = some x ∧ P H v x
  | [], [], _, i, v, h => by simp at h
  | _ :: _, x :: _, h, 0, v, e => by
    have e := Option.some.inj e
    exact ⟨x, rfl, e ▸ h.1⟩
  | _ :: _, _ :: _, h, i + 1, v, e => Items.get h.2 e
  | [], _ :: _, h, _, _, _ => h.elim
  | _ :: _, [], h, _, _, _ => h.elim
theorem Items.get' {α : Type} {P : Obs α} {H : Hp} : ∀ {vs : List V} {xs : List α}, Items P H vs xs → ∀ {i : Nat} {x : α}, xs[i]? = some x → ∃ v, vs[i]? = some v ∧ P H v x
  | [], [], _, i, v, h => by simp at h
  | v :: _, _ :: _, h, 0, x, e => by
    have e := Option.some.inj e
    exact ⟨v, rfl, e ▸ h.1⟩
  | _ :: _, _ :: _, h, i + 1, v, e => Items.get' h.2 e
  | [], _ :: _, h, _, _, _ => h.elim
  | _ :: _, [], h, _, _, _ => h.elim
theorem Items.take {α : Type} {P : Obs α} {H : Hp} : ∀ {vs : List V} {xs : List α} (n : Nat), Items P H vs xs → Items P H (vs.take n) (xs.take n)
  | _, _, 0, _ => trivial
  | [], [], _ + 1, _ => trivial
  | _ :: _, _ :: _, n + 1, h => ⟨h.1, Items.take n h.2⟩
  | [], _ :: _, _, h => h.elim
  | _ :: _, [], _, h => h.elim
theorem Items.drop {α : Type} {P : Obs α} {H : Hp} : ∀ {vs : List V} {xs : List α} (n : Nat), Items P H vs xs → Items P H (vs.drop n) (xs.drop n)
  | _, _, 0, h => h
  | [], [], _ + 1, _ => trivial
  | _ :: _, _ :: _, n + 1, h => Items.drop n h.2
  | [], _ :: _, _, h => h.elim
  | _ :: _, [], _, h => h.elim
theorem items_ints {H : Hp} : ∀ (ns : List Int), Items oInt H (ns.map V.int) ns
  | [] => trivial
  | n :: ns => ⟨rfl, items_ints ns⟩
theorem ints_items {H : Hp} : ∀ {vs : List V} {ns : List Int}, Items oInt H vs ns → vs = ns.map V.int
  | [], [], _ => rfl
  | v :: vs, n :: ns, h => by
    have h1 : v = V.int n := h.1
    rw [h1, ints_items h.2]; rfl
  | [], _ :: _, h => h.elim
  | _ :: _, [], h => h.elim

/-! ### a def by its name -/
structure Cal (P : Program) (w : World) (K : PySem.W.Frag) (mg : Str → Option Value) (base : Heap) (x : Str) (k : Nat) (sp : Sp) : Prop where
  ex : ∃ f fd ps, mg x = some (.ref f) ∧ FnOk P w K mg base CX0 k f fd ps sp ∧ PySem.W.keepIn K (.ref f) = true ∧ Binds K fd ps []
theorem Cal.mono {P : Program} {w : World} {K : PySem.W.Frag} {mg : Str → Option Value} {base : Heap} {x : Str} {j k : Nat} {sp : Sp} (c : Cal P w K mg base x j sp) (h : j ≤ k) : Cal P w K mg base x k sp := by
  obtain ⟨f, fd, ps, h1, h2, h3, h4⟩ := c.ex
  exact ⟨f, fd, ps, h1, h2.mono h, h3, h4⟩
theorem Cal.imp {P : Program} {w : World} {K : PySem.W.Frag} {mg : Str → Option Value} {base : Heap} {x : Str} {k : Nat} {sp sp' : Sp} (c : Cal P w K mg base x k sp) (h : ∀ vs H Q E, sp' vs H Q E → sp vs H Q E) : Cal P w K mg base x k sp' := by
  obtain ⟨f, fd, ps, h1, h2, h3, h4⟩ := c.ex
  exact ⟨f, fd, ps, h1, h2.imp h, h3, h4⟩
theorem pe_cal {X : Cx} {x : Str} {p pos : Pos} {e : Expr} {es : List Expr} {t : TA} {k : Nat} {sp : Sp} (c : Cal X.prog X.w X.K X.mg X.base x k sp) (hr : Room k X.A) (hg : Gl X x) (ha : PA X (e :: es) t) (hdb : (x == ("__debug__" : Str)) = false := by decide)
    (he : starEach (e :: es) X.env = (false, eval e X.env) :: starEach es X.env := by rfl) (hpl : (backTo pos (starEach es X.env)).any (·.1) = false := by rfl) : PE X (.Call (.Name x p) (e :: es) [] pos) (tCall sp [] E0 t) := by
  obtain ⟨f, fd, ps, h1, h2, h3, h4⟩ := c.ex
  exact pe_call h2 hr hg h1 h3 h4 .nil pass0 ha hdb he hpl
/-- a def of the text keeps its promise, so it may be called by its name -/
theorem cal_mk {P : Program} {w : World} {K : PySem.W.Frag} {mg : Str → Option Value} {base : Heap} {x : Str} {st : Stmt} {f : Addr} {fd : FuncData} {N ps : List Str} {k : Nat} {sp : Sp} (F : Fun K x x st f fd) (g : mg x = some (.ref f)) (S : FnScope N ps (defScope st))
    (hb : ∀ (kV doc pm : Value) (an : Option Addr) (cdv ct : Value) (us : List Value), us.length = ps.length → bindArgs (PySem.W.fnOf x x (defArgs st) (defBody st) (defScope st) .none kV doc pm an cdv ct) ⟨us, []⟩ = pure (ps.zip us))
    (len : ∀ vs H Q E, sp vs H Q E → vs.length = ps.length)
    (hbody : ∀ (cdv : Value) (A : Around) (outer : List Env) (s : Shared) (H : Hp) (vs : List V) (Q : VK) (E : XK), Room k (A.deeper (envOfC x (defScope st) s.heap.objs.size f cdv)) → sp vs H Q E →
      ∃ t, PSs (cxOf CX0 P w K mg base N x (defScope st) f cdv A outer s H E).nox (defBody st) t ∧ t { nx := fun _ H' => Q .non H', rt := Q } (start N vs) H) : Cal P w K mg base x (k + 1) sp :=
  ⟨f, fd, ps, g, F.ok S len hbody, F.kp, F.binds hb⟩
end CW
namespace CW
open PySem PySem.Spec PyProof.Rows L2 Evl
section
variable {P : Program} {w : World} {K : PySem.W.Frag} {mg : Str → Option Value} {base : Heap} {f : Addr} {fd : FuncData}
/-! ### is_whole, is_count: at a whole number -/
def spWhole : Sp := fun vs H Q _ => ∃ n : Int, vs = [.int n] ∧ Q (.bl true) H
theorem scWhole : FnScope ["thing"] ["thing"] (defScope sWhole) := ⟨rfl, rfl, rfl, by decide +kernel, rfl, by decide +kernel, by decide +kernel⟩
theorem cal_whole (F : Fun K "is_whole" "is_whole" sWhole f fd) (g : mg "is_whole" = some (.ref f)) (m1 : mg "isinstance" = none) (m2 : mg "int" = none) (m3 : mg "bool" = none) : Cal P w K mg base "is_whole" 1 spWhole := by
  refine cal_mk F g scWhole (fun _ _ _ _ _ _ us hl => match us, hl with | [_], _ => rfl) (fun vs H Q E ⟨n, e, _⟩ => by rw [e]; rfl) fun cdv A outer s H vs Q E hr ⟨n, e, q⟩ => ?_
  subst e
  refine ⟨_, pss_one (ps_ret (pe_and (pe_callB call_isi (by rfl) m1 (by decide +kernel) (pa_cons (pv 0) (pa_cons (pe_bltn (v := .ty "int") (by rfl) m2 (by decide +kernel) rfl) pa_nil)))
    (pe_one (pe_not (pe_callB call_isi (by rfl) m1 (by decide +kernel) (pa_cons (pv 0) (pa_cons (pe_bltn (v := .ty "bool") (by rfl) m3 (by decide +kernel) rfl) pa_nil))))))), ?_⟩
  refine ⟨_, rfl, _, _, _, _, true, rfl, .ty "int", .base (.int n), kit_ty (by decide +kernel), true, rfl, ?_⟩
  refine iteT ⟨_, rfl, _, _, _, _, false, rfl, .ty "bool", .base (.int n), kit_ty (by decide +kernel), false, rfl, q⟩
def spCount : Sp := fun vs H Q _ => ∃ n : Int, vs = [.int n] ∧ Q (.bl (decide (1 ≤ n))) H
theorem scCount : FnScope ["thing"] ["thing"] (defScope sCount) := ⟨rfl, rfl, rfl, by decide +kernel, rfl, by decide +kernel, by decide +kernel⟩
theorem cal_count (F : Fun K "is_count" "is_count" sCount f fd) (g : mg "is_count" = some (.ref f)) (c : Cal P w K mg base "is_whole" 1 spWhole) : Cal P w K mg base "is_count" 2 spCount := by
  refine cal_mk F g scCount (fun _ _ _ _ _ _ us hl => match us, hl with | [_], _ => rfl) (fun vs H Q E ⟨n, e, _⟩ => by rw [e]; rfl) fun cdv A outer s H vs Q E hr ⟨n, e, q⟩ => ?_
  subst e
  refine ⟨_, pss_one (ps_ret (pe_and (pe_cal c hr (by rfl) (pa_cons (pv 0) pa_nil)) (pe_one (pe_cmpR op_ge (pv 0) pe_int (nomark _))))), ?_⟩
  exact ⟨_, rfl, n, rfl, true, rfl, iteT ⟨_, rfl, _, _, rfl, rfl, q⟩⟩
/-! ### is_end -/
def endOk (a : Int) (b : Option Int) : Bool := match b with | none => true | some b => decide (1 ≤ b) && decide (a ≤ b)
def spEnd : Sp := fun vs H Q _ => ∃ (a : Int) (b : Option Int), vs = [.int a, oV b] ∧ Q (.bl (endOk a b)) H
theorem scEnd : FnScope ["first", "last"] ["first", "last"] (defScope sEnd) := ⟨rfl, rfl, rfl, by decide +kernel, rfl, by decide +kernel, by decide +kernel⟩
theorem cal_end (F : Fun K "is_end" "is_end" sEnd f fd) (g : mg "is_end" = some (.ref f)) (c : Cal P w K mg base "is_count" 2 spCount) : Cal P w K mg base "is_end" 3 spEnd := by
  refine cal_mk F g scEnd (fun _ _ _ _ _ _ us hl => match us, hl with | [_, _], _ => rfl) (fun vs H Q E ⟨a, b, e, _⟩ => by rw [e]; rfl) fun cdv A outer s H vs Q E hr ⟨a, b, e, q⟩ => ?_
  subst e
  refine ⟨_, pss_one (ps_ret (pe_or (pe_cmp (pc_isN (pv 1)) rfl) (pe_one (pe_and (pe_cal c hr (by rfl) (pa_cons (pv 1) pa_nil)) (pe_one (pe_cmpR op_ge (pv 1) (pv 0) (nomark _))))))), ?_⟩
  cases b with
  | none => exact ⟨_, rfl, true, rfl, iteT q⟩
  | some b =>
    refine ⟨_, rfl, false, rfl, iteF ⟨_, rfl, b, rfl, decide (1 ≤ b), rfl, ?_⟩⟩
    have q : Q (.bl (decide (1 ≤ b) && decide (a ≤ b))) H := q
    cases e : decide (1 ≤ b) with
    | true =>
      rw [e, Bool.true_and] at q
      exact iteT ⟨_, rfl, _, rfl, _, _, rfl, rfl, q⟩
    | false =>
      rw [e, Bool.false_and] at q
      exact iteF q
/-! ### is_at -/
def spAt : Sp := fun vs H Q _ => ∃ (a : Int) (b : Option Int) (n : Int), vs = [.int a, oV b, .int n] ∧ Q (.bl (CB.inRb (a, b) n)) H
theorem scAt : FnScope ["first", "last", "number"] ["first", "last", "number"] (defScope sAt) := ⟨rfl, rfl, rfl, by decide +kernel, rfl, by decide +kernel, by decide +kernel⟩
theorem cal_at (F : Fun K "is_at" "is_at" sAt f fd) (g : mg "is_at" = some (.ref f)) : Cal P w K mg base "is_at" 1 spAt := by
  refine cal_mk F g scAt (fun _ _ _ _ _ _ us hl => match us, hl with | [_, _, _], _ => rfl) (fun vs H Q E ⟨a, b, n, e, _⟩ => by rw [e]; rfl) fun cdv A outer s H vs Q E hr ⟨a, b, n, e, q⟩ => ?_
  subst e
  refine ⟨_, pss_one (ps_ret (pe_and (pe_cmpR op_le (pv 0) (pv 2) (nomark _)) (pe_one (pe_or (pe_cmp (pc_isN (pv 1)) rfl) (pe_one (pe_cmpR op_le (pv 2) (pv 1) (nomark _))))))), ?_⟩
  refine ⟨_, rfl, _, rfl, _, _, rfl, rfl, decide (a ≤ n), rfl, ?_⟩
  cases b with
  | none =>
    have q : Q (.bl (decide (a ≤ n) && true)) H := q
    cases e : decide (a ≤ n) with
    | true => rw [e] at q; exact iteT ⟨_, rfl, true, rfl, iteT q⟩
    | false => rw [e] at q; exact iteF q
  | some b =>
    have q : Q (.bl (decide (a ≤ n) && decide (n ≤ b))) H := q
    cases e : decide (a ≤ n) with
    | true => rw [e, Bool.true_and] at q; exact iteT ⟨_, rfl, false, rfl, iteF ⟨_, rfl, _, rfl, _, _, rfl, rfl, q⟩⟩
    | false => rw [e] at q; exact iteF q
/-! ### either -/
def spEither : Sp := fun vs H Q _ => ∃ a b : Bool, vs = [.bl a, .bl b] ∧ Q (.bl (a || b)) H
theorem scEither : FnScope ["one", "other"] ["one", "other"] (defScope sEither) := ⟨rfl, rfl, rfl, by decide +kernel, rfl, by decide +kernel, by decide +kernel⟩
theorem cal_either (F : Fun K "either" "either" sEither f fd) (g : mg "either" = some (.ref f)) : Cal P w K mg base "either" 1 spEither := by
  refine cal_mk F g scEither (fun _ _ _ _ _ _ us hl => match us, hl with | [_, _], _ => rfl) (fun vs H Q E ⟨a, b, e, _⟩ => by rw [e]; rfl) fun cdv A outer s H vs Q E hr ⟨a, b, e, q⟩ => ?_
  subst e
  refine ⟨_, pss_one (ps_ret (pe_or (pv 0) (pe_one (pv 1)))), ?_⟩
  refine ⟨_, rfl, a, rfl, ?_⟩
  cases a with
  | true => exact iteT q
  | false => exact iteF ⟨_, rfl, q⟩
end
end CW
namespace CW
open PySem PySem.Spec PyProof.Rows L2
open Evl (Ex Ex.refl Ex.trans Ex.new Ex.mut fresh_back)
/-! ### what is known (H, within the heap H1) and how it grows: behind a step H' is known, within H2; what else stood in H1 is no part of it -/
structure Up (H H1 H' H2 : Hp) : Prop where
  a : Ex H H'
  b : Ex H1 H2
  c : Ex H' H2
  n : ∀ p, H1 p ≠ none → H p = none → H' p = none
theorem Up.refl {H H1 : Hp} (e : Ex H H1) : Up H H1 H H1 := ⟨Ex.refl _, Ex.refl _, e, fun _ _ h => h⟩
theorem Up.trans {H H1 H' H2 H'' H3 : Hp} (u : Up H H1 H' H2) (v : Up H' H2 H'' H3) : Up H H1 H'' H3 :=
  ⟨u.a.trans v.a, u.b.trans v.b, v.c, fun p h1 h2 => v.n p (fun z => by
    cases q : H1 p with
    | none => exact h1 q
    | some o => rw [u.b p o q] at z; cases z) (u.n p h1 h2)⟩
theorem none_of_ex {H H1 : Hp} (e : Ex H H1) {p : Addr} (h : H1 p = none) : H p = none := fresh_back e h
theorem Up.new {H H1 : Hp} (e : Ex H H1) {p : Addr} {o : HO} (h : H1 p = none) : Up H H1 (upd H p o) (upd H1 p o) := by
  refine ⟨Ex.new (none_of_ex e h), Ex.new h, fun b u hb => ?_, fun q h1 h2 => ?_⟩
  · by_cases z : b = p
    · rw [z, upd_same] at hb ⊢; exact hb
    · rw [upd_ne z] at hb ⊢; exact e b u hb
  · have z : q ≠ p := fun z => h1 (by rw [z]; exact h)
    rw [upd_ne z]; exact h2
/-- an object that is no part of what is known changes -/
theorem Ex.touch {H H1 : Hp} (e : Ex H H1) {p : Addr} {o : HO} (h : H p = none) : Ex H (upd H1 p o) := Ex.mut e h
/-- a made object becomes known -/
theorem Ex.known {H H1 : Hp} (e : Ex H H1) {p : Addr} {o : HO} (h : H1 p = some o) : Ex (upd H p o) H1 := fun b u hb => by
  by_cases z : b = p
  · rw [z, upd_same] at hb; cases hb; rw [z]; exact h
  · rw [upd_ne z] at hb; exact e b u hb

/-- from what is known, t gives a value of which P holds -/
def Gv {α : Type} (t : Hp → (α → Hp → Prop) → Prop) (H : Hp) (P : α → Hp → Prop) : Prop := ∀ H1, Ex H H1 → ∀ Q : α → Hp → Prop, (∀ v H' H2, Up H H1 H' H2 → P v H' → Q v H2) → t H1 Q
section
variable {α β : Type} {H : Hp}
theorem gv_bind {t : Hp → (α → Hp → Prop) → Prop} {k : α → Hp → (β → Hp → Prop) → Prop} {P : α → Hp → Prop} {Q : β → Hp → Prop} (h : Gv t H P) (hk : ∀ v H', Ex H H' → P v H' → Gv (k v) H' Q) : Gv (fun H1 R => t H1 fun v H2 => k v H2 R) H Q :=
  fun H1 e R q => h H1 e _ fun v H' H2 u p => hk v H' u.a p H2 u.c R fun w H'' H3 u' p' => q w H'' H3 (u.trans u') p'
theorem gv_ret {v : α} {P : α → Hp → Prop} (h : P v H) : Gv (fun H1 Q => Q v H1) H P := fun H1 e Q q => q v H H1 (Up.refl e) h
theorem gv_new {o : HO} {P : V → Hp → Prop} (h : ∀ p, H p = none → P (.ref p) (upd H p o)) : Gv (fun H1 Q => ∀ p, H1 p = none → Q (V.ref p) (upd H1 p o)) H P := fun H1 e Q q p hp => q _ _ _ (Up.new e hp) (h p (none_of_ex e hp))
theorem Gv.imp {t : Hp → (α → Hp → Prop) → Prop} {P Q : α → Hp → Prop} (h : Gv t H P) (k : ∀ v H', Ex H H' → P v H' → Q v H') : Gv t H Q := fun H1 e R q => h H1 e R fun v H' H2 u p => q v H' H2 u (k v H' u.a p)
end
section
variable {K : PySem.W.Frag} {σ : L2.St} {H Hf Ha : Hp} {ta tb te tl : TE} {t u : TT} {r : R2} {P Q : V → Hp → Prop}
theorem gv_var {i : Nat} {v : V} (h : σ[i]? = some (some v)) (p : P v H) : Gv (tVar i σ) H P := fun H1 e R q => ⟨v, h, q v H H1 (Up.refl e) p⟩
theorem gv_c {v : V} (p : P v H) : Gv (tC v σ) H P := fun H1 e R q => q v H H1 (Up.refl e) p
theorem gv_op {Pa Pb : V → Hp → Prop} (ha : Gv (ta σ) H Pa) (hb : ∀ v H', Ex H H' → Pa v H' → Gv (tb σ) H' Pb) (hr : ∀ v w H' H'', Ex H H' → Ex H' H'' → Pa v H' → Pb w H'' → Gv (r v w) H'' P) : Gv (tOp r ta tb σ) H P :=
  fun H1 e R q => ha H1 e _ fun v H' H2 u p => hb v H' u.a p H2 u.c _ fun w H'' H3 u' p' => hr v w H' H'' u.a u'.a p p' H3 u'.c R fun z H4 H5 u'' p'' => q z H4 H5 ((u.trans u').trans u'') p''
theorem gv_I0 {g : Int → Int → V} {i j : Int} (p : P (g i j) H) : Gv (rI0 g (.int i) (.int j)) H P := fun H1 e R q => ⟨i, j, rfl, rfl, q _ H H1 (Up.refl e) p⟩
theorem gv_I {C : Int → Int → Prop} {g : Int → Int → V} {i j : Int} (c : C i j) (p : P (g i j) H) : Gv (rI C g (.int i) (.int j)) H P := fun H1 e R q => ⟨i, j, rfl, rfl, c, q _ H H1 (Up.refl e) p⟩
/-- both ints -/
theorem gv_opI {g : Int → Int → V} {i j : Int} (ha : Gv (ta σ) H (fun v _ => v = .int i)) (hb : ∀ H', Ex H H' → Gv (tb σ) H' (fun v _ => v = .int j)) (p : ∀ H', Ex H H' → P (g i j) H') : Gv (tOp (rI0 g) ta tb σ) H P :=
  gv_op ha (fun _ H' e _ => hb H' e) fun v w H' H'' e e' h1 h2 => by subst h1 h2; exact gv_I0 (p H'' (e.trans e'))
theorem gv_opC {C : Int → Int → Prop} {g : Int → Int → V} {i j : Int} (ha : Gv (ta σ) H (fun v _ => v = .int i)) (hb : ∀ H', Ex H H' → Gv (tb σ) H' (fun v _ => v = .int j)) (c : C i j) (p : ∀ H', Ex H H' → P (g i j) H') : Gv (tOp (rI C g) ta tb σ) H P :=
  gv_op ha (fun _ H' e _ => hb H' e) fun v w H' H'' e e' h1 h2 => by subst h1 h2; exact gv_I c (p H'' (e.trans e'))
theorem gv_eq {x y : V} (hs : scal x y = true) (p : P (.bl (decide (x = y))) H) : Gv (rEq x y) H P := fun H1 e R q => ⟨hs, q _ H H1 (Up.refl e) p⟩
theorem gv_ne {x y : V} (hs : scal x y = true) (p : P (.bl (!decide (x = y))) H) : Gv (rNe x y) H P := fun H1 e R q => ⟨hs, q _ H H1 (Up.refl e) p⟩
/-- tests -/
def GT (t : TT) (σ : L2.St) (H : Hp) (b : Bool) : Prop := Gv (t σ) H (fun c _ => c = b)
theorem gt_test {b : Bool} (h : Gv (te σ) H (fun v _ => v = .bl b)) : GT (tTest te) σ H b := fun H1 e R q => h H1 e _ fun v H' H2 u p => ⟨b, p, q b H' H2 u rfl⟩
theorem gt_B {b : Bool} (h : Gv (te σ) H (fun v _ => v = .bl b)) : GT (tB te) σ H b := fun H1 e R q => h H1 e _ fun v H' H2 u p => ⟨b, p, q b H' H2 u rfl⟩
theorem gt_and {a b : Bool} (h1 : GT t σ H a) (h2 : a = true → ∀ H', Ex H H' → GT u σ H' b) : GT (tAnd t u) σ H (a && b) := fun H1 e R q => h1 H1 e _ fun c H' H2 up p => by
  subst p
  cases c with
  | true => exact h2 rfl H' up.a H2 up.c R fun b' H'' H3 up' p' => q b' H'' H3 (up.trans up') (by rw [p']; rfl)
  | false => exact q false H' H2 up rfl
theorem gt_or {a b : Bool} (h1 : GT t σ H a) (h2 : a = false → ∀ H', Ex H H' → GT u σ H' b) : GT (tOr t u) σ H (a || b) := fun H1 e R q => h1 H1 e _ fun c H' H2 up p => by
  subst p
  cases c with
  | true => exact q true H' H2 up rfl
  | false => exact h2 rfl H' up.a H2 up.c R fun b' H'' H3 up' p' => q b' H'' H3 (up.trans up') (by rw [p']; rfl)
theorem gt_not {a : Bool} (h1 : GT t σ H a) : GT (tNot t) σ H (!a) := fun H1 e R q => h1 H1 e _ fun c H' H2 up p => q _ H' H2 up (by rw [p])
theorem gt_is {a b : Bool} (h : GT t σ H a) (e : a = b) : GT t σ H b := e ▸ h
theorem gv_andV {a b : Bool} (h1 : Gv (ta σ) H (fun v _ => v = .bl a)) (h2 : a = true → ∀ H', Ex H H' → Gv (tb σ) H' (fun v _ => v = .bl b)) : Gv (tAndV ta tb σ) H (fun v _ => v = .bl (a && b)) := fun H1 e R q => h1 H1 e _ fun v H' H2 up p => by
  refine ⟨a, p, ?_⟩
  cases a with
  | true => exact h2 rfl H' up.a H2 up.c R fun b' H'' H3 up' p' => q b' H'' H3 (up.trans up') p'
  | false => exact q _ H' H2 up rfl
theorem gv_orV {a b : Bool} (h1 : Gv (ta σ) H (fun v _ => v = .bl a)) (h2 : a = false → ∀ H', Ex H H' → Gv (tb σ) H' (fun v _ => v = .bl b)) : Gv (tOrV ta tb σ) H (fun v _ => v = .bl (a || b)) := fun H1 e R q => h1 H1 e _ fun v H' H2 up p => by
  refine ⟨a, p, ?_⟩
  cases a with
  | true => exact q _ H' H2 up rfl
  | false => exact h2 rfl H' up.a H2 up.c R fun b' H'' H3 up' p' => q b' H'' H3 (up.trans up') p'
theorem gv_notV {a : Bool} (h1 : Gv (ta σ) H (fun v _ => v = .bl a)) : Gv (tNotV ta σ) H (fun v _ => v = .bl (!a)) := fun H1 e R q => h1 H1 e _ fun v H' H2 up p => ⟨a, p, q _ H' H2 up rfl⟩
theorem gv_isN {o : Option Int} (h : Gv (ta σ) H (fun v _ => v = oV o)) : Gv (tIsN ta σ) H (fun v _ => v = .bl o.isNone) := fun H1 e R q => h H1 e _ fun v H' H2 up p => q _ H' H2 up (by rw [p]; cases o <;> rfl)
theorem gv_notN {o : Option Int} (h : Gv (ta σ) H (fun v _ => v = oV o)) : Gv (tNotN ta σ) H (fun v _ => v = .bl o.isSome) := fun H1 e R q => h H1 e _ fun v H' H2 up p => q _ H' H2 up (by rw [p]; cases o <;> rfl)
/-- argument lists -/
theorem ga_nil {PA : List V → Hp → Prop} (p : PA [] H) : Gv (tNil σ) H PA := fun H1 e R q => q _ H H1 (Up.refl e) p
theorem ga_cons {tr : TA} {Pa : V → Hp → Prop} {PA : List V → Hp → Prop} (h : Gv (ta σ) H Pa) (hr : ∀ v H', Ex H H' → Pa v H' → Gv (tr σ) H' (fun vs H'' => PA (v :: vs) H'')) : Gv (tCons ta tr σ) H PA :=
  fun H1 e R q => h H1 e _ fun v H' H2 u p => hr v H' u.a p H2 u.c _ fun vs H'' H3 u' p' => q _ H'' H3 (u.trans u') p'
theorem gv_tup {t : TA} {PA : List V → Hp → Prop} (h : Gv (t σ) H PA) (hl : ∀ vs H', PA vs H' → vs.length ≤ 1000) (hp : ∀ vs H' p, Ex H H' → PA vs H' → H' p = none → P (.ref p) (upd H' p (.tup vs))) : Gv (tTup t σ) H P :=
  fun H1 e R q => h H1 e _ fun vs H' H2 u p => ⟨Nat.le_trans (hl vs H' p) (by decide), fun a na => q _ _ _ (u.trans (Up.new u.c na)) (hp vs H' a u.a p (none_of_ex u.c na))⟩
theorem gv_lst {t : TA} {PA : List V → Hp → Prop} (h : Gv (t σ) H PA) (hl : ∀ vs H', PA vs H' → vs.length ≤ 1000) (hp : ∀ vs H' p, Ex H H' → PA vs H' → H' p = none → P (.ref p) (upd H' p (.lst vs))) : Gv (tLst t σ) H P :=
  fun H1 e R q => h H1 e _ fun vs H' H2 u p => ⟨Nat.le_trans (hl vs H' p) (by decide), fun a na => q _ _ _ (u.trans (Up.new u.c na)) (hp vs H' a u.a p (none_of_ex u.c na))⟩
theorem gv_cb {r : List V → Hp → VK → Prop} {t : TA} {PA : List V → Hp → Prop} (h : Gv (t σ) H PA) (hr : ∀ vs H', Ex H H' → PA vs H' → Gv (r vs) H' P) : Gv (tCB r t σ) H P :=
  fun H1 e R q => h H1 e _ fun v H' H2 u p => hr v H' u.a p H2 u.c R fun z H4 H5 u'' p'' => q z H4 H5 (u.trans u'') p''
end
/-! ### promises -/
def SpO {α : Type} (pre : List V → Hp → α → Prop) (post : α → V → Hp → Prop) : Sp := fun vs H1 Q _ => ∃ (x : α) (H : Hp), Ex H H1 ∧ pre vs H x ∧ ∀ v H' H2, Up H H1 H' H2 → post x v H' → Q v H2
theorem gv_call {α : Type} {σ : L2.St} {H : Hp} {pre : List V → Hp → α → Prop} {post : α → V → Hp → Prop} {dvs : List V} {E : XK} {ta : TA} {PA : List V → Hp → Prop} (x : α) (h : Gv (ta σ) H PA) (hp : ∀ vs H', Ex H H' → PA vs H' → pre (vs ++ dvs) H' x) :
    Gv (tCall (SpO pre post) dvs E ta σ) H (post x) := fun H1 e Q q => h H1 e _ fun vs H' H2 u p => ⟨x, H', u.c, hp vs H' u.a p, fun v H'' H3 u' p' => q v H'' H3 (u.trans u') p'⟩
/-- a promise of a plain value -/
theorem gv_callV {σ : L2.St} {H : Hp} {sp : Sp} {dvs : List V} {E : XK} {ta : TA} {PA : List V → Hp → Prop} {P : V → Hp → Prop} (h : Gv (ta σ) H PA) (hp : ∀ vs H', Ex H H' → PA vs H' → ∃ v, P v H' ∧ ∀ H2 (Q : VK), Q v H2 → sp (vs ++ dvs) H2 Q E) :
    Gv (tCall sp dvs E ta σ) H P := fun H1 e Q q => h H1 e _ fun vs H' H2 u p => by
  obtain ⟨v, hv, hs⟩ := hp vs H' u.a p
  exact hs H2 Q (q v H' H2 u hv)
/-! ### statements: F known, A the heap -/
section
variable {K : PySem.W.Frag} {σ : L2.St} {F A : Hp} {te tl : TE} {t : TT} {P : V → Hp → Prop} {D : Ends} {tz tu tw tb : TS} {g : TG}
theorem st_asg {i : Nat} (hx : Ex F A) (h : Gv (te σ) F P) (k : ∀ v F' A', Up F A F' A' → P v F' → D.nx (σ.set i (some v)) A') : tAsg te (gName i) D σ A := h A hx _ fun v F' A' u p => k v F' A' u p
theorem sq_asg {i : Nat} (hx : Ex F A) (h : Gv (te σ) F P) (k : ∀ v F' A', Up F A F' A' → P v F' → tz D (σ.set i (some v)) A') : tSeq (tAsg te (gName i)) tz D σ A := st_asg (D := { D with nx := tz D }) hx h k
theorem st_ret (hx : Ex F A) (h : Gv (te σ) F P) (k : ∀ v F' A', Up F A F' A' → P v F' → D.rt v A') : tRet te D σ A := h A hx _ fun v F' A' u p => k v F' A' u p
theorem st_if {b : Bool} (hx : Ex F A) (h : GT t σ F b) (h1 : b = true → ∀ F' A', Up F A F' A' → tu D σ A') (h2 : b = false → ∀ F' A', Up F A F' A' → tw D σ A') : tIfS t tu tw D σ A := h A hx _ fun c F' A' u p => by
  subst p
  cases c with
  | true => exact h1 rfl F' A' u
  | false => exact h2 rfl F' A' u
theorem sq_if {b : Bool} (hx : Ex F A) (h : GT t σ F b) (h1 : b = true → ∀ F' A', Up F A F' A' → tu { D with nx := tz D } σ A') (h2 : b = false → ∀ F' A', Up F A F' A' → tw { D with nx := tz D } σ A') : tSeq (tIfS t tu tw) tz D σ A := st_if (D := { D with nx := tz D }) hx h h1 h2
theorem sq_when {b : Bool} (hx : Ex F A) (h : GT t σ F b) (h1 : b = true → ∀ F' A', Up F A F' A' → tu { D with nx := tz D } σ A') (h2 : b = false → ∀ F' A', Up F A F' A' → tz D σ A') : tSeq (tIfS t tu tNext) tz D σ A := st_if (D := { D with nx := tz D }) hx h h1 h2
/-- over a list of things of a kind -/
theorem st_for {α : Type} {Po : Obs α} (hPo : Mono Po) {xs : List α} (hx : Ex F A) (h : Gv (tl σ) F (fun v H1 => oLst Po H1 v xs)) (W : Hp → Nat → L2.St → Hp → Hp → Prop)
    (hW : ∀ B i σ' F' A', W B i σ' F' A' → Ex B F' ∧ Ex F' A') (h0 : ∀ F' A', Up F A F' A' → W F' 0 σ F' A')
    (hs : ∀ B i x v σ' F' A', xs[i]? = some x → W B i σ' F' A' → Po F' v x → g v σ' A' fun σ2 A2 => tb { D with nx := fun σ3 A3 => ∃ F3, W B (i + 1) σ3 F3 A3, ct := fun σ3 A3 => ∃ F3, W B (i + 1) σ3 F3 A3, bk := D.nx } σ2 A2)
    (hd : ∀ B σ' F' A', W B xs.length σ' F' A' → D.nx σ' A') : tFor (iList K tl) g tb D σ A := h A hx _ fun v F1 A1 u p => by
  obtain ⟨a, vs, rfl, ha, hi⟩ := p
  refine ⟨a, rfl, ⟨vs, SqL.of (u.c a _ ha)⟩, for_list (xs := vs) (fun i σ' A' => ∃ F', W F1 i σ' F' A') ⟨F1, h0 F1 A1 u⟩ (fun i σ' A' _ ⟨F', w⟩ => ?_) (fun i y σ' A' hy ⟨F', w⟩ => ?_) (fun σ' A' ⟨F', w⟩ => ?_)⟩
  · obtain ⟨e1, e2⟩ := hW _ _ _ _ _ w
    exact SqL.of (e2 a _ (e1 a _ ha))
  · obtain ⟨e1, e2⟩ := hW _ _ _ _ _ w
    obtain ⟨x, hx1, hx2⟩ := hi.get hy
    exact hs F1 i x y σ' F' A' hx1 w (hPo _ _ _ _ e1 hx2)
  · rw [hi.length] at w
    exact hd F1 σ' F' A' w
theorem sq_for {α : Type} {Po : Obs α} (hPo : Mono Po) {xs : List α} (hx : Ex F A) (h : Gv (tl σ) F (fun v H1 => oLst Po H1 v xs)) (W : Hp → Nat → L2.St → Hp → Hp → Prop)
    (hW : ∀ B i σ' F' A', W B i σ' F' A' → Ex B F' ∧ Ex F' A') (h0 : ∀ F' A', Up F A F' A' → W F' 0 σ F' A')
    (hs : ∀ B i x v σ' F' A', xs[i]? = some x → W B i σ' F' A' → Po F' v x → g v σ' A' fun σ2 A2 => tb { D with nx := fun σ3 A3 => ∃ F3, W B (i + 1) σ3 F3 A3, ct := fun σ3 A3 => ∃ F3, W B (i + 1) σ3 F3 A3, bk := tz D } σ2 A2)
    (hd : ∀ B σ' F' A', W B xs.length σ' F' A' → tz D σ' A') : tSeq (tFor (iList K tl) g tb) tz D σ A := st_for (D := { D with nx := tz D }) hPo hx h W hW h0 hs hd
/-! targets -/
theorem g_two {i j : Nat} {p : Addr} {a b : V} {Q : L2.St → Hp → Prop} (h : A p = some (.tup [a, b])) (q : Q ((σ.set i (some a)).set j (some b)) A) : gTup K 2 (gCons (gName i) (gCons (gName j) gNil)) (.ref p) σ A Q :=
  ⟨p, [a, b], rfl, SqT.of h, rfl, a, [b], rfl, b, [], rfl, rfl, q⟩
theorem g_three {i j k : Nat} {p : Addr} {a b c : V} {Q : L2.St → Hp → Prop} (h : A p = some (.tup [a, b, c])) (q : Q (((σ.set i (some a)).set j (some b)).set k (some c)) A) : gTup K 3 (gCons (gName i) (gCons (gName j) (gCons (gName k) gNil))) (.ref p) σ A Q :=
  ⟨p, [a, b, c], rfl, SqT.of h, rfl, a, [b, c], rfl, b, [c], rfl, c, [], rfl, rfl, q⟩
theorem g_four {i j k l : Nat} {p : Addr} {a b c d : V} {Q : L2.St → Hp → Prop} (h : A p = some (.tup [a, b, c, d])) (q : Q ((((σ.set i (some a)).set j (some b)).set k (some c)).set l (some d)) A) : gTup K 4 (gCons (gName i) (gCons (gName j) (gCons (gName k) (gCons (gName l) gNil)))) (.ref p) σ A Q :=
  ⟨p, [a, b, c, d], rfl, SqT.of h, rfl, a, [b, c, d], rfl, b, [c, d], rfl, c, [d], rfl, d, [], rfl, rfl, q⟩
/-! ### comprehensions over a list of things of a kind -/
theorem filterMap_take {α β : Type} (f : α → Option β) {xs : List α} {i : Nat} {x : α} (h : xs[i]? = some x) : (xs.take (i + 1)).filterMap f = (xs.take i).filterMap f ++ (f x).toList := by
  rw [List.take_add_one, h, List.filterMap_append]
  show _ ++ List.filterMap f [x] = _
  rw [List.filterMap_cons]
  cases f x <;> rfl
theorem gv_lc {α β : Type} {Po : Obs α} {Ro : Obs β} (hPo : Mono Po) (hRo : Mono Ro) (f : α → Option β) {xs : List α} {H : Hp} {vs : List Nat} (hz : xs.length ≤ 100000) (h : Gv (tl σ) H (fun v H1 => oLst Po H1 v xs))
    (turn : ∀ v x F A, Ex H F → Ex F A → x ∈ xs → Po F v x → ∃ σ2, (∀ Q : L2.St → Hp → Prop, Q σ2 A → g v (wipe σ vs) A Q) ∧ wipe σ2 vs = wipe σ vs ∧ GT t σ2 F (f x).isSome ∧ ∀ y, f x = some y → ∀ F', Ex F F' → Gv (te σ2) F' (fun w F2 => Ro F2 w y)) :
    Gv (tLc (iList K tl) g t te vs σ) H (fun v H1 => oLst Ro H1 v (xs.filterMap f)) := fun H1 e Q q => h H1 e _ fun v F1 A1 u p => by
  obtain ⟨a, ws, rfl, ha, hi⟩ := p
  refine ⟨a, rfl, ⟨ws, SqL.of (u.c a _ ha)⟩, fun Dl hD => ?_⟩
  refine lc_list (xs := ws) (fun i A' => ∃ F' acc, Ex F1 F' ∧ Ex F' A' ∧ Ex A1 A' ∧ F' Dl = none ∧ (∀ p, A1 p ≠ none → F1 p = none → F' p = none) ∧ A' Dl = some (.lst acc) ∧ acc.length ≤ i ∧ Items Ro F' acc ((xs.take i).filterMap f))
    ⟨F1, [], Ex.refl _, Ex.touch u.c (none_of_ex u.c hD), Ex.new hD, none_of_ex u.c hD, fun _ _ z => z, upd_same, Nat.le_refl _, trivial⟩ (fun i A' _ ⟨F', acc, e1, e2, _⟩ => SqL.of (e2 a _ (e1 a _ ha))) (fun i y A' hy ⟨F', acc, e1, e2, e3, nD, nn, hacc, hlen, its⟩ => ?_) fun A' ⟨F', acc, e1, e2, e3, nD, nn, hacc, hlen, its⟩ => ?_
  · obtain ⟨x, hx1, hx2⟩ := hi.get hy
    have hil : i < xs.length := (List.getElem?_eq_some_iff.mp hx1).1
    obtain ⟨σ2, hg, hw, ht, he⟩ := turn y x F' A' (u.a.trans e1) e2 (List.mem_of_getElem? hx1) (hPo _ _ _ _ e1 hx2)
    refine hg _ ⟨hw, ht A' e2 _ fun b F2 A2 u2 hb => ?_⟩
    subst hb
    cases hf : f x with
    | none =>
      refine iteF ⟨F2, acc, e1.trans u2.a, u2.c, e3.trans u2.b, u2.n _ (fun z => by rw [hacc] at z; cases z) nD, fun p h1 h2 => u2.n p (fun z => ?_) (nn p h1 h2), u2.b _ _ hacc, by omega, ?_⟩
      · cases w : A1 p with
        | none => exact h1 w
        | some o => rw [e3 p o w] at z; cases z
      · rw [filterMap_take f hx1, hf]
        show Items Ro F2 acc (_ ++ [])
        rw [List.append_nil]
        exact its.mono hRo u2.a
    | some z =>
      refine iteT (he z hf F2 u2.a A2 u2.c _ fun w F3 A3 u3 hw3 => ?_)
      have hacc3 := u3.b _ _ (u2.b _ _ hacc)
      have nD3 : F3 Dl = none := u3.n _ (fun z => by rw [u2.b _ _ hacc] at z; cases z) (u2.n _ (fun z => by rw [hacc] at z; cases z) nD)
      refine ⟨acc, hacc3, Nat.lt_of_lt_of_le (show acc.length < 100001 by omega) (by decide), F3, acc ++ [w], (e1.trans u2.a).trans u3.a, Ex.touch u3.c nD3, Ex.mut ((e3.trans u2.b).trans u3.b) hD, nD3, fun p h1 h2 => ?_, upd_same, by rw [List.length_append]; show acc.length + 1 ≤ i + 1; omega, ?_⟩
      · have k1 : A' p ≠ none := fun z => by
          cases w : A1 p with
          | none => exact h1 w
          | some o => rw [e3 p o w] at z; cases z
        have k2 : A2 p ≠ none := fun z => by
          cases w : A' p with
          | none => exact k1 w
          | some o => rw [u2.b p o w] at z; cases z
        exact u3.n p k2 (u2.n p k1 (nn p h1 h2))
      · rw [filterMap_take f hx1, hf]
        exact Items.snoc hw3 (its.mono hRo (u2.a.trans u3.a))
  · have hl := hi.length
    rw [hl, List.take_length] at its
    refine q _ (upd F' Dl (.lst acc)) A' ⟨(u.a.trans e1).trans (Ex.new nD), u.b.trans e3, Ex.known e2 hacc, fun p h1 h2 => ?_⟩ ⟨Dl, acc, rfl, upd_same, its.mono hRo (Ex.new nD)⟩
    have k1 : A1 p ≠ none := fun z => by
      cases w : H1 p with
      | none => exact h1 w
      | some o => rw [u.b p o w] at z; cases z
    have hne : p ≠ Dl := fun z => k1 (by rw [z]; exact hD)
    rw [upd_ne hne]
    exact nn p k1 (u.n p h1 h2)
end
end CW
namespace CW
open PySem PySem.Spec PyProof.Rows L2
open Evl (Ex Ex.refl Ex.trans Ex.new Ex.mut fresh_back)
abbrev g2 (K : PySem.W.Frag) (i j : Nat) : TG := gTup K 2 (gCons (gName i) (gCons (gName j) gNil))
abbrev g4 (K : PySem.W.Frag) (i j k l : Nat) : TG := gTup K 4 (gCons (gName i) (gCons (gName j) (gCons (gName k) (gCons (gName l) gNil))))
abbrev oRun : Obs CB.Run := oTup2 oInt oOpt
theorem mono_run : Mono oRun := mono_tup2 mono_int mono_opt
theorem sz100 {n : Nat} (h : n ≤ 100000) : n ≤ sizeLine := Nat.le_trans h (by decide)
theorem szlt {n : Nat} (h : n < 100000) : n < sizeLine := Nat.lt_of_lt_of_le h (by decide)
section
variable {K : PySem.W.Frag} {σ : L2.St} {H : Hp} {ta tb te : TE} {P : V → Hp → Prop}
theorem oLst.new {α : Type} {Po : Obs α} (hPo : Mono Po) {H : Hp} {p : Addr} {vs : List V} {xs : List α} (hp : H p = none) (h : Items Po H vs xs) : oLst Po (upd H p (.lst vs)) (.ref p) xs := ⟨p, vs, rfl, upd_same, h.mono hPo (Ex.new hp)⟩
theorem gv_cat {α : Type} {Po : Obs α} (hPo : Mono Po) {x y : V} {xs ys : List α} (hx : oLst Po H x xs) (hy : oLst Po H y ys) (hz : xs.length + ys.length ≤ 100000) : Gv (rCat x y) H (fun v H' => oLst Po H' v (xs ++ ys)) := fun H1 e Q q => by
  obtain ⟨l, vs, rfl, h1, i1⟩ := hx
  obtain ⟨b, ws, rfl, h2, i2⟩ := hy
  refine ⟨l, b, vs, ws, rfl, rfl, e _ _ h1, e _ _ h2, sz100 (by rw [i1.length, i2.length]; exact hz), fun p hp => q _ _ _ (Up.new e hp) ?_⟩
  exact oLst.new hPo (none_of_ex e hp) (Items.append i2 i1)
/-- xs + ys, the parts made on the way -/
theorem gv_catE {α : Type} {Po : Obs α} (hPo : Mono Po) {xs ys : List α} (ha : Gv (ta σ) H (fun v H' => oLst Po H' v xs)) (hb : ∀ H', Ex H H' → Gv (tb σ) H' (fun v H' => oLst Po H' v ys)) (hz : xs.length + ys.length ≤ 100000) : Gv (tOp rCat ta tb σ) H (fun v H' => oLst Po H' v (xs ++ ys)) :=
  gv_op ha (fun _ H' e _ => hb H' e) fun v w H' H'' e e' h1 h2 => gv_cat hPo (mono_lst hPo _ _ _ _ e' h1) h2 hz
theorem gv_ixL {α : Type} {Po : Obs α} {x : V} {xs : List α} {i : Int} {y : α} (hx : oLst Po H x xs) (ha : atI xs i = some y) : Gv (rIxL K x (.int i)) H (fun v H' => Po H' v y ∧ H' = H) := fun H1 e Q q => by
  obtain ⟨l, vs, rfl, h1, i1⟩ := hx
  have hl := i1.length
  unfold atI at ha
  rw [← hl] at ha
  cases hj : ixN vs.length i with
  | none => rw [hj] at ha; cases ha
  | some j =>
    rw [hj] at ha
    obtain ⟨v, hv, hp⟩ := i1.get' (show xs[j]? = some y from ha)
    refine ⟨l, vs, i, v, rfl, rfl, SqL.of (e _ _ h1), ?_, q v H H1 (Up.refl e) ⟨hp, rfl⟩⟩
    unfold atI
    rw [hj]
    exact hv
theorem gv_ixT {p : Addr} {vs : List V} {i : Int} {y : V} (hx : H p = some (.tup vs)) (ha : atI vs i = some y) (hp : P y H) : Gv (rIxT K (.ref p) (.int i)) H P := fun H1 e Q q =>
  ⟨p, vs, i, y, rfl, rfl, SqT.of (e _ _ hx), ha, q _ H H1 (Up.refl e) hp⟩
theorem atI_last {α : Type} {xs : List α} {y : α} (h : xs.getLast? = some y) : atI xs (-1) = some y := by
  cases xs with
  | nil => simp at h
  | cons x r =>
    unfold atI ixN
    rw [if_neg (by omega), if_pos (by rw [List.length_cons]; omega)]
    rw [List.getLast?_eq_getElem?] at h
    have e : ((-1 : Int) + ((x :: r).length : Int)).toNat = (x :: r).length - 1 := by
      rw [List.length_cons]; omega
    show (x :: r)[((-1 : Int) + ((x :: r).length : Int)).toNat]? = some y
    rw [e]; exact h
theorem gv_neg {n : Int} (h : Gv (te σ) H (fun v _ => v = .int n)) : Gv (tUn (rU fun i => .int (-i)) te σ) H (fun v _ => v = .int (-n)) := fun H1 e Q q => h H1 e _ fun v H' H2 u p => ⟨n, p, q _ H' H2 u rfl⟩
theorem gv_lenL {α : Type} {Po : Obs α} {x : V} {xs : List α} (hx : oLst Po H x xs) (hp : P (.int xs.length) H) : Gv (fun H1 Q => (fun xs H Q => ∃ p ys, xs = [V.ref p] ∧ (SqL K H p ys ∨ SqT K H p ys) ∧ Q (V.int ys.length) H) [x] H1 Q) H P := fun H1 e Q q => by
  obtain ⟨l, vs, rfl, h1, i1⟩ := hx
  exact ⟨l, vs, rfl, .inl (SqL.of (e _ _ h1)), q _ H H1 (Up.refl e) (by rw [i1.length]; exact hp)⟩
/-- slices -/
theorem go_none : Gv (tNoPart σ) H (fun o _ => o = none) := fun H1 e Q q => q none H H1 (Up.refl e) rfl
theorem go_some {n : Int} (h : Gv (te σ) H (fun v _ => v = .int n)) : Gv (tPart te σ) H (fun o _ => o = some n) := fun H1 e Q q => h H1 e _ fun v H' H2 u p => ⟨n, p, q _ H' H2 u rfl⟩
theorem cutV_items {α : Type} {Po : Obs α} {H : Hp} {vs : List V} {xs : List α} (h : Items Po H vs xs) (lo hi : Option Int) : Items Po H (cutV vs lo hi) ((xs.drop (HT.sIx xs.length 0 lo)).take (HT.sIx xs.length xs.length hi - HT.sIx xs.length 0 lo)) := by
  unfold cutV
  rw [h.length]
  exact (h.drop _).take _
theorem gv_slL {α : Type} {Po : Obs α} (hPo : Mono Po) {tl th : TO} {lo hi : Option Int} {xs : List α} (h : Gv (te σ) H (fun v H' => oLst Po H' v xs)) (h1 : ∀ H', Ex H H' → Gv (tl σ) H' (fun o _ => o = lo)) (h2 : ∀ H', Ex H H' → Gv (th σ) H' (fun o _ => o = hi)) :
    Gv (tSl (rSlL K) te tl th σ) H (fun v H' => oLst Po H' v ((xs.drop (HT.sIx xs.length 0 lo)).take (HT.sIx xs.length xs.length hi - HT.sIx xs.length 0 lo))) := fun H1 e Q q =>
  h H1 e _ fun v H' H2 u p => h1 H' u.a H2 u.c _ fun o1 H3 H4 u1 p1 => h2 H3 (u.a.trans u1.a) H4 u1.c _ fun o2 H5 H6 u2 p2 => by
    subst p1 p2
    obtain ⟨l, vs, rfl, g, i1⟩ := mono_lst hPo _ _ _ _ (u1.a.trans u2.a) p
    refine ⟨l, vs, rfl, SqL.of (u2.c _ _ g), fun a ha => q _ _ _ (((u.trans u1).trans u2).trans (Up.new u2.c ha)) ?_⟩
    exact oLst.new hPo (none_of_ex u2.c ha) (cutV_items i1 _ _)
end
/-! ### data for == -/
def dOpt : Option Int → PyData
  | none => .none
  | some i => .int i
def dRun (r : CB.Run) : PyData := .tuple [.int r.1, dOpt r.2]
theorem dp_opt {K : PySem.W.Frag} {H : Hp} {v : V} {o : Option Int} (h : oOpt H v o) : Dp K H v (dOpt o) := by
  have h : v = oV o := h
  subst h
  cases o with
  | none => exact .non
  | some i => exact .int i
theorem dp_run {K : PySem.W.Frag} {H : Hp} {v : V} {r : CB.Run} (h : oRun H v r) : Dp K H v (dRun r) := by
  obtain ⟨p, a, b, rfl, h1, h2, h3⟩ := h
  have h2 : a = .int r.1 := h2
  subst h2
  exact .tup (SqT.of h1) (.cons (.int _) (.cons (dp_opt h3) .nil))
theorem dp_items {K : PySem.W.Frag} {α : Type} {Po : Obs α} {H : Hp} {d : α → PyData} (hd : ∀ v x, Po H v x → Dp K H v (d x)) : ∀ {vs : List V} {xs : List α}, Items Po H vs xs → DpAll K H vs (xs.map d)
  | [], [], _ => .nil
  | _ :: _, _ :: _, h => .cons (hd _ _ h.1) (dp_items hd h.2)
  | [], _ :: _, h => h.elim
  | _ :: _, [], h => h.elim
theorem dp_lst {K : PySem.W.Frag} {α : Type} {Po : Obs α} {H : Hp} {d : α → PyData} (hd : ∀ v x, Po H v x → Dp K H v (d x)) {v : V} {xs : List α} (h : oLst Po H v xs) : Dp K H v (.list (xs.map d)) := by
  obtain ⟨p, vs, rfl, h1, h2⟩ := h
  exact .lst (SqL.of h1) (dp_items hd h2)
theorem lay_opt (o : Option Int) : (dOpt o).canLay0 = true := by cases o <;> simp [dOpt, PyData.canLay0]
theorem depth_opt (o : Option Int) : (dOpt o).depth = 0 := by cases o <;> simp [dOpt, PyData.depth]
theorem lay_run (r : CB.Run) : (dRun r).canLay0 = true := by simp [dRun, PyData.canLay0, PyData.canLayAll0, lay_opt]
theorem depth_run (r : CB.Run) : (dRun r).depth = 1 := by simp [dRun, PyData.depth, PyData.depthAll, depth_opt]
theorem lay_all {α : Type} {d : α → PyData} (h : ∀ x, (d x).canLay0 = true) : ∀ xs : List α, PyData.canLayAll0 (xs.map d) = true
  | [] => by simp [PyData.canLayAll0]
  | x :: xs => by simp [PyData.canLayAll0, h x, lay_all h xs]
theorem depth_all {α : Type} {d : α → PyData} {n : Nat} (h : ∀ x, (d x).depth ≤ n) : ∀ xs : List α, PyData.depthAll (xs.map d) ≤ n
  | [] => by simp [PyData.depthAll]
  | x :: xs => by
    have h1 := depth_all h xs
    have h2 := h x
    simp only [List.map_cons, PyData.depthAll]
    omega
theorem shaped_of {d : PyData} (h1 : d.canLay0 = true) (h2 : d.depth ≤ 64) : SeqAt.shaped d = true := by
  show (d.canLay0 && decide (d.depth ≤ 64)) = true
  rw [h1, decide_eq_true h2]; rfl
theorem shaped_lst {α : Type} {d : α → PyData} (h : ∀ x, (d x).canLay0 = true) {n : Nat} (hn : n ≤ 60) (h2 : ∀ x, (d x).depth ≤ n) (xs : List α) : SeqAt.shaped (.list (xs.map d)) = true := by
  refine shaped_of (by simp only [PyData.canLay0]; exact lay_all h xs) ?_
  have := depth_all h2 xs
  simp only [PyData.depth]
  omega
theorem eqv_opt (a b : Option Int) : PyData.eqv (dOpt a) (dOpt b) = decide (a = b) := by
  cases a <;> cases b <;> simp [dOpt, PyData.eqv]
  exact Bool.beq_eq_decide_eq _ _
theorem eqv_run (a b : CB.Run) : PyData.eqv (dRun a) (dRun b) = decide (a = b) := by
  obtain ⟨a1, a2⟩ := a
  obtain ⟨b1, b2⟩ := b
  have e : PyData.eqv (dRun (a1, a2)) (dRun (b1, b2)) = ((a1 == b1) && (PyData.eqv (dOpt a2) (dOpt b2) && true)) := by simp only [dRun, PyData.eqv, PyData.eqvAll]
  rw [e, eqv_opt, Bool.and_true, Bool.beq_eq_decide_eq, ← Bool.decide_and]
  simp [Prod.ext_iff]
theorem eqv_all {α : Type} [DecidableEq α] {d : α → PyData} (h : ∀ a b, PyData.eqv (d a) (d b) = decide (a = b)) : ∀ xs ys : List α, PyData.eqvAll (xs.map d) (ys.map d) = decide (xs = ys)
  | [], [] => by simp [PyData.eqvAll]
  | [], _ :: _ => by simp [PyData.eqvAll]
  | _ :: _, [] => by simp [PyData.eqvAll]
  | x :: xs, y :: ys => by
    have ih := eqv_all h xs ys
    simp only [List.map_cons, PyData.eqvAll, h, ih]
    rw [← Bool.decide_and]
    simp
theorem eqv_lst {α : Type} [DecidableEq α] {d : α → PyData} (h : ∀ a b, PyData.eqv (d a) (d b) = decide (a = b)) (xs ys : List α) : PyData.eqv (.list (xs.map d)) (.list (ys.map d)) = decide (xs = ys) := by
  have e : PyData.eqv (.list (xs.map d)) (.list (ys.map d)) = PyData.eqvAll (xs.map d) (ys.map d) := by simp only [PyData.eqv]
  rw [e, eqv_all h]
/-- xs != ys, lists of things of a kind -/
theorem gv_neL {K : PySem.W.Frag} {α : Type} [DecidableEq α] {Po : Obs α} (hPo : Mono Po) {d : α → PyData} (hd : ∀ H v x, Po H v x → Dp K H v (d x)) (hl : ∀ x, (d x).canLay0 = true) {n : Nat} (hn : n ≤ 60) (h2 : ∀ x, (d x).depth ≤ n) (he : ∀ a b, PyData.eqv (d a) (d b) = decide (a = b))
    {σ : L2.St} {H : Hp} {ta tb : TE} {xs ys : List α} (ha : Gv (ta σ) H (fun v H' => oLst Po H' v xs)) (hb : ∀ H', Ex H H' → Gv (tb σ) H' (fun v H' => oLst Po H' v ys)) : Gv (tOp (rNeD K) ta tb σ) H (fun v _ => v = .bl (!decide (xs = ys))) :=
  gv_op ha (fun _ H' e _ => hb H' e) fun v w H' H'' e e' h1 h3 => fun H1 e1 Q q =>
    ⟨.list (xs.map d), .list (ys.map d), dp_lst (hd _) (mono_lst hPo _ _ _ _ (e'.trans e1) h1), dp_lst (hd _) (mono_lst hPo _ _ _ _ e1 h3), shaped_lst hl hn h2 xs, shaped_lst hl hn h2 ys, q _ H'' H1 (Up.refl e1) (by rw [eqv_lst he])⟩
/-- x in xs, x not in xs -/
theorem gv_inL {K : PySem.W.Frag} {α : Type} [DecidableEq α] {Po : Obs α} (hPo : Mono Po) {d : α → PyData} (hd : ∀ H v x, Po H v x → Dp K H v (d x)) (hl : ∀ x, (d x).canLay0 = true) {n : Nat} (hn : n ≤ 60) (h2 : ∀ x, (d x).depth ≤ n) (he : ∀ a b, PyData.eqv (d a) (d b) = decide (a = b))
    {σ : L2.St} {H : Hp} {ta tb : TE} {x : α} {xs : List α} (ha : Gv (ta σ) H (fun v H' => Po H' v x)) (hb : ∀ H', Ex H H' → Gv (tb σ) H' (fun v H' => oLst Po H' v xs)) : Gv (tOp (rNotInD K) ta tb σ) H (fun v _ => v = .bl (!decide (x ∈ xs))) :=
  gv_op ha (fun _ H' e _ => hb H' e) fun v w H' H'' e e' h1 h3 => fun H1 e1 Q q => by
    have ea : (xs.map d).any (fun z => PyData.eqv z (d x)) = decide (x ∈ xs) := by
      rw [List.any_map]
      have : ((fun z => PyData.eqv z (d x)) ∘ d) = fun z => decide (z = x) := by funext z; exact he z x
      rw [this]
      rw [Bool.eq_iff_iff, List.any_eq_true, decide_eq_true_eq]
      constructor
      · rintro ⟨z, h1, h2⟩; rw [← of_decide_eq_true h2]; exact h1
      · intro h; exact ⟨x, h, decide_eq_true rfl⟩
    refine ⟨d x, xs.map d, hd _ _ _ (hPo _ _ _ _ (e'.trans e1) h1), dp_lst (hd _) (mono_lst hPo _ _ _ _ e1 h3), shaped_of (hl x) (by have := h2 x; omega), shaped_lst hl hn h2 xs, q _ H'' H1 (Up.refl e1) (by rw [ea])⟩

section
variable {P : Program} {w : World} {K : PySem.W.Frag} {mg : Str → Option Value} {base : Heap} {f : Addr} {fd : FuncData}
/-! ### cuts_of -/
def preLst {α : Type} (Po : Obs α) (ok : List α → Prop) : List V → Hp → List α → Prop := fun vs H xs => ∃ v, vs = [v] ∧ oLst Po H v xs ∧ ok xs
def spCuts : Sp := SpO (preLst oRun fun es => es.length ≤ 10000) (fun es v H => oLst oInt H v (CB.cutsOf es))
theorem scCuts : FnScope ["ends", "first", "last"] ["ends"] (defScope sCuts) := ⟨rfl, rfl, rfl, by decide +kernel, rfl, by decide +kernel, by decide +kernel⟩
theorem cal_cuts (F : Fun K "cuts_of" "cuts_of" sCuts f fd) (g : mg "cuts_of" = some (.ref f)) : Cal P w K mg base "cuts_of" 1 spCuts := by
  refine cal_mk F g scCuts (fun _ _ _ _ _ _ us hl => match us, hl with | [_], _ => rfl) (fun vs H Q E ⟨es, H0, _, ⟨v, e, _⟩, _⟩ => by rw [e]; rfl) fun cdv A outer s H vs Q E hr ⟨es, H0, hx, ⟨v, e, hv, hz⟩, q⟩ => ?_
  subst e
  refine ⟨_, pss_one (ps_ret (pe_op op_cat
    (pe_lc (g := g2 K 1 2) (own := [("first", 1), ("last", 2)]) (by rfl) scCuts.nd (pi_list (pv 0)) (blkOk_by (N := ["ends", "first", "last"]) (sc := defScope sCuts) (by decide +kernel))
      (fun _ _ _ _ _ => pg_tup rfl (pgs_cons (pg_name (i := 1) scCuts.nd rfl (Or.inl rfl) (Or.inr rfl)) (pgs_cons (pg_name (i := 2) scCuts.nd rfl (Or.inl rfl) (Or.inr rfl)) pgs_nil))) (fun _ _ _ _ _ => pts_nil) (fun _ _ _ _ _ => pv 1))
    (pe_lc (g := g2 K 1 2) (own := [("first", 1), ("last", 2)]) (by rfl) scCuts.nd (pi_list (pv 0)) (blkOk_by (N := ["ends", "first", "last"]) (sc := defScope sCuts) (by decide +kernel))
      (fun _ _ _ _ _ => pg_tup rfl (pgs_cons (pg_name (i := 1) scCuts.nd rfl (Or.inl rfl) (Or.inr rfl)) (pgs_cons (pg_name (i := 2) scCuts.nd rfl (Or.inl rfl) (Or.inr rfl)) pgs_nil))) (fun _ _ _ _ _ => pts_one (pt_cmp (pc_notN (pv 2)) rfl)) (fun _ _ _ _ _ => pe_op op_add (pv 2) pe_int)))), ?_⟩
  have hlen : (CB.cutsOf es).length ≤ 100000 := by have := CB.cuts_length es; omega
  have hsum : (es.map (·.1)).length + (es.filterMap fun e => e.2.map (· + 1)).length ≤ 100000 := by
    rw [← List.length_append]; exact hlen
  refine st_ret hx (gv_catE mono_int ?_ (fun H' e => ?_) hsum) fun v F' A' u p => q v F' A' u p
  · have := gv_lc (K := K) (g := g2 K 1 2) (t := tYes) (te := tVar 1) (tl := tVar 0) (σ := start ["ends", "first", "last"] [v]) (vs := [1, 2]) mono_run mono_int (fun r : CB.Run => some r.1) (by omega : es.length ≤ 100000)
      (gv_var (v := v) (by rfl) hv) (fun y x F1 A1 _ e2 _ hy => by
        obtain ⟨p, a, b, rfl, h1, h2, h3⟩ := hy
        refine ⟨_, fun Q hQ => g_two (e2 _ _ h1) hQ, rfl, fun H1 e1 R r => r true F1 H1 (Up.refl e1) rfl, fun y hy F2 e3 => ?_⟩
        cases hy
        exact gv_var (by rfl) h2)
    rw [List.filterMap_eq_map'] at this
    exact this
  · exact gv_lc (K := K) (g := g2 K 1 2) (tl := tVar 0) (σ := start ["ends", "first", "last"] [v]) (vs := [1, 2]) mono_run mono_int (fun r : CB.Run => r.2.map (· + 1)) (by omega : es.length ≤ 100000)
      (gv_var (v := v) (by rfl) (mono_lst mono_run _ _ _ _ e hv)) (fun y x F1 A1 _ e2 _ hy => by
        obtain ⟨p, a, b, rfl, h1, h2, h3⟩ := hy
        refine ⟨_, fun Q hQ => g_two (e2 _ _ h1) hQ, rfl, gt_is (gt_B (gv_notN (o := x.2) (gv_var (by rfl) h3))) (by cases x.2 <;> rfl), fun y hy F2 e3 => ?_⟩
        obtain ⟨z, hz1, hz2⟩ := Option.map_eq_some_iff.mp hy
        subst hz2
        have h3 : b = oV x.2 := h3
        rw [hz1] at h3
        exact gv_opI (gv_var (v := b) (by rfl) h3) (fun _ _ => gv_c rfl) fun _ _ => rfl)
end
end CW
namespace CW
open PySem PySem.Spec PyProof.Rows L2
open Evl (Ex Ex.refl Ex.trans Ex.new Ex.mut fresh_back)
/-! ### a class of the text -/
structure CTxt (K : PySem.W.Frag) (C : Addr) : Prop where
  cl : Cls K C
  ha : PySem.W.findIn K (.ref C) "__class__" = some (some (.builtin "object.__class__"))
  hn : PySem.W.specialIn K (.builtin "object.__class__") "__get__" = some (some (.builtin "getset_descriptor.__get__"))
  hk : PySem.W.takesIn K (.builtin "object.__class__") = some true
  hm : PySem.W.mroIn K C (.type "object") = some true
  one : PySem.W.kitOne K (.ref C) (.ref C) = some true
structure BTxt (K : PySem.W.Frag) (C : Addr) : Prop extends CTxt K C where
  nT : NoAttr K C "top"
  nL : NoAttr K C "left"
  nB : NoAttr K C "bottom"
  nR : NoAttr K C "right"
theorem CTxt.ty {K : PySem.W.Frag} {C : Addr} (T : CTxt K C) {H : Hp} {a dx : Addr} {fs : List (Str × V)} (h : H a = some (.ins C dx fs)) : TyX K H (.ref a) (.ref C) := .base (.ins h T.cl T.ha T.hn T.hk T.hm)
/-! ### blocks -/
def bF (b : CB.Blk) : List (Str × V) := [("top", .int b.top), ("left", .int b.left), ("bottom", oV b.bottom), ("right", oV b.right)]
theorem tl_ : ¬ (("top" : Str) = "left") := by decide +kernel
theorem tb_ : ¬ (("top" : Str) = "bottom") := by decide +kernel
theorem tr_ : ¬ (("top" : Str) = "right") := by decide +kernel
theorem lb_ : ¬ (("left" : Str) = "bottom") := by decide +kernel
theorem lr_ : ¬ (("left" : Str) = "right") := by decide +kernel
theorem br_ : ¬ (("bottom" : Str) = "right") := by decide +kernel
theorem bF_put (b : CB.Blk) : putF "right" (oV b.right) (putF "bottom" (oV b.bottom) (putF "left" (.int b.left) (putF "top" (.int b.top) []))) = bF b := by
  have e1 : putF "top" (.int b.top) [] = [(("top" : Str), V.int b.top)] := rfl
  have e2 : putF "left" (.int b.left) [(("top" : Str), V.int b.top)] = [(("top" : Str), V.int b.top), ("left", V.int b.left)] := by
    show (if ("top" : Str) = "left" then _ else (("top" : Str), V.int b.top) :: putF "left" (V.int b.left) []) = _
    rw [if_neg tl_]; rfl
  have e3 : putF "bottom" (oV b.bottom) [(("top" : Str), V.int b.top), ("left", V.int b.left)] = [(("top" : Str), V.int b.top), ("left", V.int b.left), ("bottom", oV b.bottom)] := by
    show (if ("top" : Str) = "bottom" then _ else (("top" : Str), V.int b.top) :: (if ("left" : Str) = "bottom" then _ else (("left" : Str), V.int b.left) :: putF "bottom" (oV b.bottom) [])) = _
    rw [if_neg tb_, if_neg lb_]; rfl
  rw [e1, e2, e3]
  show (if ("top" : Str) = "right" then _ else (("top" : Str), V.int b.top) :: (if ("left" : Str) = "right" then _ else (("left" : Str), V.int b.left) :: (if ("bottom" : Str) = "right" then _ else (("bottom" : Str), oV b.bottom) :: putF "right" (oV b.right) []))) = _
  rw [if_neg tr_, if_neg lr_, if_neg br_]; rfl
theorem lk_hd {f : Str} {v : V} {r : List (Str × V)} : ((f, v) :: r).lookup f = some v := by simp [List.lookup]
theorem lk_tl {f g : Str} {v : V} {r : List (Str × V)} (h : ¬ g = f) : ((f, v) :: r).lookup g = r.lookup g := by
  have : (g == f) = false := beq_eq_false_iff_ne.mpr h
  simp [List.lookup, this]
theorem bF_top (b : CB.Blk) : (bF b).lookup ("top" : Str) = some (.int b.top) := lk_hd
theorem bF_left (b : CB.Blk) : (bF b).lookup ("left" : Str) = some (.int b.left) := by unfold bF; rw [lk_tl (fun z => tl_ z.symm)]; exact lk_hd
theorem bF_bottom (b : CB.Blk) : (bF b).lookup ("bottom" : Str) = some (oV b.bottom) := by unfold bF; rw [lk_tl (fun z => tb_ z.symm), lk_tl (fun z => lb_ z.symm)]; exact lk_hd
theorem bF_right (b : CB.Blk) : (bF b).lookup ("right" : Str) = some (oV b.right) := by unfold bF; rw [lk_tl (fun z => tr_ z.symm), lk_tl (fun z => lr_ z.symm), lk_tl (fun z => br_ z.symm)]; exact lk_hd
def oBlk (C : Addr) : Obs CB.Blk := fun H v b => ∃ p dx, v = .ref p ∧ H p = some (.ins C dx (bF b))
theorem mono_blk (C : Addr) : Mono (oBlk C) := fun H H' v x e ⟨p, dx, h1, h2⟩ => ⟨p, dx, h1, e _ _ h2⟩
section
variable {K : PySem.W.Frag} {σ : L2.St} {H : Hp} {ta tb te : TE} {P : V → Hp → Prop} {C : Addr}
theorem gv_fld {f : Str} {b : CB.Blk} {x : V} (T : Cls K C) (n : NoAttr K C f) (l : (bF b).lookup f = some x) (h : Gv (ta σ) H (fun v H' => oBlk C H' v b)) (p : ∀ H', Ex H H' → P x H') : Gv (tFld K ta f σ) H P := fun H1 e Q q => h H1 e _ fun v H' H2 u hv => by
  obtain ⟨a, dx, rfl, hb⟩ := hv
  exact ⟨a, C, dx, bF b, x, rfl, u.c _ _ hb, T, n, l, q x H' H2 u (p H' u.a)⟩
end
section
variable {P : Program} {w : World} {K : PySem.W.Frag} {mg : Str → Option Value} {base : Heap} {f C : Addr} {fd : FuncData}
/-! ### Block.__init__ -/
def spBInit (C : Addr) : Sp := fun vs H Q _ => ∃ (p dx : Addr) (b : CB.Blk), vs = [.ref p, .int b.top, .int b.left, oV b.bottom, oV b.right] ∧ CB.BOk b ∧ H p = some (.ins C dx []) ∧ Q .non (upd H p (.ins C dx (bF b)))
theorem scBInit : FnScope ["self", "top", "left", "bottom", "right"] ["self", "top", "left", "bottom", "right"] (defScope sBInit) := ⟨rfl, rfl, rfl, by decide +kernel, rfl, by decide +kernel, by decide +kernel⟩
theorem endOk_of {a : Int} {b : Option Int} (h1 : 1 ≤ a) (h : CB.Val (a, b)) : endOk a b = true := by
  cases b with
  | none => rfl
  | some b =>
    have : a ≤ b := h b rfl
    show (decide (1 ≤ b) && decide (a ≤ b)) = true
    rw [decide_eq_true (show 1 ≤ b by omega), decide_eq_true this]; rfl
theorem ok_binit {dvs : List V} (F : FunD K "__init__" "Block.__init__" (defArgs sBInit) (defBody sBInit) (defScope sBInit) dvs [] f fd)
    (T : BTxt K C) (c1 : Cal P w K mg base "is_count" 2 spCount) (c2 : Cal P w K mg base "is_end" 3 spEnd) : FnOk P w K mg base CX0 4 f fd ["self", "top", "left", "bottom", "right"] (spBInit C) := by
  refine F.ok scBInit (fun vs H Q E ⟨p, dx, b, e, _⟩ => by rw [e]; rfl) fun cdv A outer s H vs Q E hr ⟨p, dx, b, e, ok, hp, q⟩ => ?_
  subst e
  have hr2 := hr.mono (show 2 ≤ 3 by decide)
  refine ⟨_, pss_cons (ps_if (PW.pt (pw_or (pt_not (pt_val (pe_cal c1 hr2 (by rfl) (pa_cons (pv 1) pa_nil)))) (pw_or (pt_not (pt_val (pe_cal c1 hr2 (by rfl) (pa_cons (pv 2) pa_nil))))
      (pw_or (pt_not (pt_val (pe_cal c2 hr (by rfl) (pa_cons (pv 1) (pa_cons (pv 3) pa_nil))))) (pw_or1 (pt_not (pt_val (pe_cal c2 hr (by rfl) (pa_cons (pv 2) (pa_cons (pv 4) pa_nil)))))))))) pss_never pss_nil)
    (pss_cons (ps_fld (pv 0) (pv 1) rfl) (pss_cons (ps_fld (pv 0) (pv 2) rfl) (pss_cons (ps_fld (pv 0) (pv 3) rfl) (pss_one (ps_fld (pv 0) (pv 4) rfl))))), ?_⟩
  -- the test
  refine ⟨_, rfl, b.top, rfl, true, by rw [decide_eq_true ok.t], iteF ?_⟩
  refine ⟨_, rfl, b.left, rfl, true, by rw [decide_eq_true ok.l], iteF ?_⟩
  refine ⟨_, rfl, _, rfl, b.top, b.bottom, rfl, true, by rw [endOk_of ok.t ok.v], iteF ?_⟩
  refine ⟨_, rfl, _, rfl, b.left, b.right, rfl, true, by rw [endOk_of ok.l ok.h], iteF ?_⟩
  -- the fields
  refine ⟨_, rfl, _, rfl, p, C, dx, [], rfl, hp, T.cl, T.nT, (by show 0 < 1000; decide), ?_⟩
  refine ⟨_, rfl, _, rfl, p, C, dx, _, rfl, upd_same, T.cl, T.nL, (by show 1 < 1000; decide), ?_⟩
  refine ⟨_, rfl, _, rfl, p, C, dx, _, rfl, upd_same, T.cl, T.nB, (by have := length_putF "left" (V.int b.left) (putF "top" (V.int b.top) []); have e1 : (putF "top" (V.int b.top) []).length = 1 := rfl; omega), ?_⟩
  refine ⟨_, rfl, _, rfl, p, C, dx, _, rfl, upd_same, T.cl, T.nR, (by
    have h1 := length_putF "left" (V.int b.left) (putF "top" (V.int b.top) [])
    have e1 : (putF "top" (V.int b.top) []).length = 1 := rfl
    have h2 := length_putF "bottom" (oV b.bottom) (putF "left" (V.int b.left) (putF "top" (V.int b.top) []))
    omega), ?_⟩
  rw [bF_put, upd_upd, upd_upd, upd_upd]
  exact q
/-! ### Block.__eq__ of like blocks -/
def SameB (C : Addr) (a b : Addr) (H : Hp) : Prop := ∃ x dx dy, H a = some (.ins C dx (bF x)) ∧ H b = some (.ins C dy (bF x))
def dBlk (b : CB.Blk) : PyData := .tuple [.int b.top, .int b.left, dOpt b.bottom, dOpt b.right]
theorem lay_blk (r : CB.Blk) : (dBlk r).canLay0 = true := by simp [dBlk, PyData.canLay0, PyData.canLayAll0, lay_opt]
theorem depth_blk (r : CB.Blk) : (dBlk r).depth = 1 := by simp [dBlk, PyData.depth, PyData.depthAll, depth_opt]
theorem eqv_blk (a b : CB.Blk) : PyData.eqv (dBlk a) (dBlk b) = decide (a = b) := by
  obtain ⟨a1, a2, a3, a4⟩ := a
  obtain ⟨b1, b2, b3, b4⟩ := b
  have e : PyData.eqv (dBlk ⟨a1, a2, a3, a4⟩) (dBlk ⟨b1, b2, b3, b4⟩) = ((a1 == b1) && ((a2 == b2) && (PyData.eqv (dOpt a3) (dOpt b3) && (PyData.eqv (dOpt a4) (dOpt b4) && true)))) := by simp only [dBlk, PyData.eqv, PyData.eqvAll]
  rw [e, eqv_opt, eqv_opt, Bool.and_true, Bool.beq_eq_decide_eq, Bool.beq_eq_decide_eq, ← Bool.decide_and, ← Bool.decide_and, ← Bool.decide_and]
  simp
theorem scBEq : FnScope ["self", "other", "here"] ["self", "other"] (defScope sBEq) := ⟨rfl, rfl, rfl, by decide +kernel, rfl, by decide +kernel, by decide +kernel⟩
theorem ok_beq (F : Fun K "__eq__" "Block.__eq__" sBEq f fd) (T : BTxt K C) (m1 : mg "isinstance" = none) (gB : mg "Block" = some (.ref C)) : FnOk P w K mg base CX0 1 f fd ["self", "other"] (spEq (SameB C)) := by
  refine F.ok scBEq (fun vs H Q E ⟨a, b, e, _⟩ => by rw [e]; rfl) fun cdv A outer s H vs Q E hr ⟨a, b, e, ⟨x, dx, dy, ha, hb⟩, q⟩ => ?_
  subst e
  have fld : ∀ {i : Nat} {nm : Str} {N : List Str}, True := fun {_ _ _} => trivial
  refine ⟨_, pss_cons (ps_if (pt_not (pt_val (pe_callB call_isi (by rfl) m1 (by decide +kernel) (pa_cons (pv 1) (pa_cons (pe_glob (v := .ref C) (by rfl) gB rfl) pa_nil))))) (pss_one (ps_ret pe_bl)) pss_nil)
    (pss_cons (ps_set (i := 2) scBEq.nd rfl (.inl rfl) (pe_tup (pa_cons (pe_fld (pv 0) rfl) (pa_cons (pe_fld (pv 0) rfl) (pa_cons (pe_fld (pv 0) rfl) (pa_cons (pe_fld (pv 0) rfl) pa_nil))))))
    (pss_one (ps_ret (pe_cmpR (op_eqD hr.units) (pv 2) (pe_tup (pa_cons (pe_fld (pv 1) rfl) (pa_cons (pe_fld (pv 1) rfl) (pa_cons (pe_fld (pv 1) rfl) (pa_cons (pe_fld (pv 1) rfl) pa_nil))))) (nomark _))))), ?_⟩
  refine ⟨_, rfl, _, _, _, _, true, rfl, .own C, T.ty hb, T.one, true, rfl, iteF ?_⟩
  refine ⟨_, rfl, a, C, dx, _, _, rfl, ha, T.cl, T.nT, bF_top x, _, rfl, a, C, dx, _, _, rfl, ha, T.cl, T.nL, bF_left x, _, rfl, a, C, dx, _, _, rfl, ha, T.cl, T.nB, bF_bottom x, _, rfl, a, C, dx, _, _, rfl, ha, T.cl, T.nR, bF_right x, ?_⟩
  refine ⟨(by show 4 ≤ sizeLine; decide), fun p np => ?_⟩
  have e1 : Ex H (upd H p (.tup [.int x.top, .int x.left, oV x.bottom, oV x.right])) := Ex.new np
  have hb1 := e1 _ _ hb
  refine ⟨_, rfl, _, rfl, b, C, dy, _, _, rfl, hb1, T.cl, T.nT, bF_top x, _, rfl, b, C, dy, _, _, rfl, hb1, T.cl, T.nL, bF_left x, _, rfl, b, C, dy, _, _, rfl, hb1, T.cl, T.nB, bF_bottom x, _, rfl, b, C, dy, _, _, rfl, hb1, T.cl, T.nR, bF_right x, ?_⟩
  refine ⟨(by show 4 ≤ sizeLine; decide), fun p2 np2 => ?_⟩
  have e2 := Ex.new (o := .tup [.int x.top, .int x.left, oV x.bottom, oV x.right]) np2
  have dp : ∀ {H : Hp} {p : Addr}, H p = some (.tup [.int x.top, .int x.left, oV x.bottom, oV x.right]) → Dp K H (.ref p) (dBlk x) := fun {H p} h =>
    .tup (SqT.of h) (.cons (.int _) (.cons (.int _) (.cons (dp_opt rfl) (.cons (dp_opt rfl) .nil))))
  refine ⟨dBlk x, dBlk x, dp (e2 _ _ upd_same), dp upd_same, shaped_of (lay_blk x) (by rw [depth_blk]; decide), shaped_of (lay_blk x) (by rw [depth_blk]; decide), ?_⟩
  rw [eqv_blk, decide_eq_true rfl]
  exact q _ (e1.trans e2)
/-! ### first_cell -/
def oCell : Obs (Int × Int) := oTup2 oInt oInt
theorem mono_cell : Mono oCell := mono_tup2 mono_int mono_int
def preOne {α : Type} (Po : Obs α) : List V → Hp → α → Prop := fun vs H x => ∃ v, vs = [v] ∧ Po H v x
def spFirst (C : Addr) : Sp := SpO (preOne (oBlk C)) (fun b v H => oCell H v (b.top, b.left))
theorem scFirst : FnScope ["block"] ["block"] (defScope sFirst) := ⟨rfl, rfl, rfl, by decide +kernel, rfl, by decide +kernel, by decide +kernel⟩
theorem cal_first (F : Fun K "first_cell" "first_cell" sFirst f fd) (g : mg "first_cell" = some (.ref f)) (T : BTxt K C) : Cal P w K mg base "first_cell" 1 (spFirst C) := by
  refine cal_mk F g scFirst (fun _ _ _ _ _ _ us hl => match us, hl with | [_], _ => rfl) (fun vs H Q E ⟨b, H0, _, ⟨v, e, _⟩, _⟩ => by rw [e]; rfl) fun cdv A outer s H vs Q E hr ⟨b, H0, hx, ⟨v, e, hv⟩, q⟩ => ?_
  subst e
  refine ⟨_, pss_one (ps_ret (pe_tup (pa_cons (pe_fld (pv 0) rfl) (pa_cons (pe_fld (pv 0) rfl) pa_nil)))), ?_⟩
  refine st_ret hx (gv_tup (PA := fun vs _ => vs = [.int b.top, .int b.left])
    (ga_cons (gv_fld (P := fun v _ => v = .int b.top) T.cl T.nT (bF_top b) (gv_var rfl hv) (fun _ _ => rfl)) fun x H1 e1 h1 => ga_cons (gv_fld (P := fun v _ => v = .int b.left) T.cl T.nL (bF_left b) (gv_var rfl (mono_blk C _ _ _ _ e1 hv)) (fun _ _ => rfl)) fun y H2 e2 h2 => ga_nil (by rw [h1, h2]))
    (fun vs H' h => by rw [h]; show 2 ≤ 1000; decide) (fun vs H' p _ h hp => ?_)) fun v F' A' u p => q v F' A' u p
  subst h
  exact ⟨p, _, _, rfl, upd_same, rfl, rfl⟩
/-! ### columns_at -/
def spCols (C : Addr) : Sp := SpO (fun vs H (x : List CB.Blk × Int) => ∃ v, vs = [v, .int x.2] ∧ oLst (oBlk C) H v x.1 ∧ x.1.length ≤ 10000) (fun x v H => oLst oRun H v (CB.colsAt x.1 x.2))
theorem scCols : FnScope ["blocks", "row", "block"] ["blocks", "row"] (defScope sCols) := ⟨rfl, rfl, rfl, by decide +kernel, rfl, by decide +kernel, by decide +kernel⟩
theorem colsAt_fm (L : List CB.Blk) (r : Int) : CB.colsAt L r = L.filterMap fun b => if CB.inRb b.rows r = true then some b.cols else none := by
  unfold CB.colsAt
  induction L with
  | nil => rfl
  | cons b L ih =>
    rw [List.filter_cons, List.filterMap_cons]
    by_cases h : CB.inRb b.rows r = true
    · rw [if_pos h, if_pos h, List.map_cons, ih]
    · rw [if_neg h, if_neg h, ih]
theorem cal_cols (F : Fun K "columns_at" "columns_at" sCols f fd) (g : mg "columns_at" = some (.ref f)) (T : BTxt K C) (c : Cal P w K mg base "is_at" 1 spAt) : Cal P w K mg base "columns_at" 2 (spCols C) := by
  refine cal_mk F g scCols (fun _ _ _ _ _ _ us hl => match us, hl with | [_, _], _ => rfl) (fun vs H Q E ⟨x, H0, _, ⟨v, e, _⟩, _⟩ => by rw [e]; rfl) fun cdv A outer s H vs Q E hr ⟨⟨L, r⟩, H0, hx, ⟨v, e, hv, hz⟩, q⟩ => ?_
  subst e
  have hz : L.length ≤ 10000 := hz
  refine ⟨_, pss_one (ps_ret (pe_lc (g := gName 2) (tt := tB (tCall spAt [] E0 (tCons (tFld K (tVar 2) "top") (tCons (tFld K (tVar 2) "bottom") (tCons (tVar 1) tNil))))) (te := tTup (tCons (tFld K (tVar 2) "left") (tCons (tFld K (tVar 2) "right") tNil)))
      (own := [("block", 2)]) (by rfl) scCols.nd (pi_list (pv 0)) (blkOk_by (N := ["blocks", "row", "block"]) (sc := defScope sCols) (by decide +kernel))
      (fun _ _ _ _ _ => pg_name (i := 2) scCols.nd rfl (Or.inl rfl)) (fun _ _ _ _ _ => pts_one (pt_val (pe_cal c hr (by rfl) (pa_cons (pe_fld (pv 2) rfl) (pa_cons (pe_fld (pv 2) rfl) (pa_cons (pv 1) pa_nil))))))
      (fun _ _ _ _ _ => pe_tup (pa_cons (pe_fld (pv 2) rfl) (pa_cons (pe_fld (pv 2) rfl) pa_nil))))), ?_⟩
  refine st_ret hx ?_ fun v F' A' u p => q v F' A' u p
  show Gv _ H0 (fun v H => oLst oRun H v (CB.colsAt L r))
  rw [colsAt_fm]
  refine gv_lc (mono_blk C) mono_run (fun b => if CB.inRb b.rows r = true then some b.cols else none) (by omega) (gv_var rfl hv) fun y b F1 A1 eF e2 _ hy => ?_
  refine ⟨_, fun Q hQ => hQ, rfl, ?_, fun z hz F2 e3 => ?_⟩
  · refine gt_B (gv_callV (PA := fun vs _ => vs = [.int b.top, oV b.bottom, .int r]) (ga_cons (gv_fld (P := fun v _ => v = .int b.top) T.cl T.nT (bF_top b) (gv_var rfl hy) (fun _ _ => rfl)) fun x H1 e1 h1 =>
      ga_cons (gv_fld (P := fun v _ => v = oV b.bottom) T.cl T.nB (bF_bottom b) (gv_var rfl (mono_blk C _ _ _ _ e1 hy)) (fun _ _ => rfl)) fun x2 H2 e2 h2 => ga_cons (gv_var (v := .int r) (P := fun v _ => v = .int r) rfl rfl) fun x3 H3 e3 h3 => ga_nil (by rw [h1, h2, h3])) fun vs H' _ h => ?_)
    subst h
    refine ⟨.bl (CB.inRb b.rows r), ?_, fun H2 Q q => ⟨b.top, b.bottom, r, rfl, q⟩⟩
    cases CB.inRb b.rows r <;> rfl
  · by_cases hb : CB.inRb b.rows r = true
    · rw [if_pos hb] at hz
      cases hz
      refine gv_tup (PA := fun vs _ => vs = [.int b.left, oV b.right])
        (ga_cons (gv_fld (P := fun v _ => v = .int b.left) T.cl T.nL (bF_left b) (gv_var rfl (mono_blk C _ _ _ _ e3 hy)) (fun _ _ => rfl)) fun x H1 e1 h1 => ga_cons (gv_fld (P := fun v _ => v = oV b.right) T.cl T.nR (bF_right b) (gv_var rfl (mono_blk C _ _ _ _ (e3.trans e1) hy)) (fun _ _ => rfl)) fun y H2 e2 h2 => ga_nil (by rw [h1, h2]))
        (fun vs H' h => by rw [h]; show 2 ≤ 1000; decide) (fun vs H' p _ h hp => ?_)
      subst h
      exact ⟨p, _, _, rfl, upd_same, rfl, rfl⟩
    · rw [if_neg hb] at hz; cases hz
end
end CW
namespace CW
open PySem PySem.Spec PyProof.Rows L2
open Evl (Ex Ex.refl Ex.trans Ex.new Ex.mut fresh_back)
theorem Up.touch {H H1 F A : Hp} (u : Up H H1 F A) {p : Addr} {o : HO} (h1 : H1 p = none) (h2 : F p = none) : Up H H1 F (upd A p o) := ⟨u.a, Ex.mut u.b h1, Ex.touch u.c h2, u.n⟩
/-- the made object becomes known -/
theorem Up.known {H H1 F A : Hp} (u : Up H H1 F A) {p : Addr} {o : HO} (h1 : H1 p = none) (h2 : F p = none) (h3 : A p = some o) : Up H H1 (upd F p o) A :=
  ⟨u.a.trans (Ex.new h2), u.b, Ex.known u.c h3, fun q k1 k2 => by
    have : q ≠ p := fun z => k1 (by rw [z]; exact h1)
    rw [upd_ne this]; exact u.n q k1 k2⟩
def oBool : Obs Bool := fun _ v b => v = .bl b
theorem mono_bool : Mono oBool := fun _ _ _ _ _ h => h
theorem bools_items {H : Hp} : ∀ {vs : List V} {bs : List Bool}, Items oBool H vs bs → vs = bs.map V.bl
  | [], [], _ => rfl
  | v :: vs, n :: ns, h => by
    have h1 : v = V.bl n := h.1
    rw [h1, bools_items h.2]; rfl
  | [], _ :: _, h => h.elim
  | _ :: _, [], h => h.elim
section
variable {K : PySem.W.Frag} {σ : L2.St} {F A : Hp} {ta te : TE} {P : V → Hp → Prop} {D : Ends} {tz : TS}
theorem gv_any {bs : List Bool} {x : V} {H : Hp} (hx : oLst oBool H x bs) : Gv (rAny K [x]) H (fun v _ => v = .bl (bs.any id)) := fun H1 e Q q => by
  obtain ⟨a, vs, rfl, h1, h2⟩ := hx
  have := bools_items h2
  subst this
  exact ⟨a, bs, rfl, SqL.of (e _ _ h1), q _ H H1 (Up.refl e) rfl⟩
theorem gv_all {bs : List Bool} {x : V} {H : Hp} (hx : oLst oBool H x bs) : Gv (rAll K [x]) H (fun v _ => v = .bl (bs.all id)) := fun H1 e Q q => by
  obtain ⟨a, vs, rfl, h1, h2⟩ := hx
  have := bools_items h2
  subst this
  exact ⟨a, bs, rfl, SqL.of (e _ _ h1), q _ H H1 (Up.refl e) rfl⟩
/-- p.append(e), p no part of what is known -/
theorem st_app {i : Nat} {p : Addr} {vs : List V} (hx : Ex F A) (hp : A p = some (.lst vs)) (hn : F p = none) (hi : σ[i]? = some (some (.ref p))) (hz : vs.length < 100000) (h : Gv (te σ) F P)
    (k : ∀ v F' A', Up F A F' A' → P v F' → F' p = none → A' p = some (.lst vs) → D.nx σ (upd A' p (.lst (vs ++ [v])))) : tDrop (tBM K "list" rAppend (tVar i) (tCons te tNil)) D σ A := by
  refine ⟨.ref p, hi, .inl ⟨rfl, vs, SqL.of hp⟩, ?_⟩
  refine h A hx _ fun v F' A' u q => ⟨p, vs, v, rfl, rfl, u.b _ _ hp, szlt hz, ?_⟩
  exact k v F' A' u q (u.n p (fun z => by rw [hp] at z; cases z) hn) (u.b _ _ hp)
theorem sq_app {i : Nat} {p : Addr} {vs : List V} (hx : Ex F A) (hp : A p = some (.lst vs)) (hn : F p = none) (hi : σ[i]? = some (some (.ref p))) (hz : vs.length < 100000) (h : Gv (te σ) F P)
    (k : ∀ v F' A', Up F A F' A' → P v F' → F' p = none → A' p = some (.lst vs) → tz D σ (upd A' p (.lst (vs ++ [v])))) : tSeq (tDrop (tBM K "list" rAppend (tVar i) (tCons te tNil))) tz D σ A := st_app (D := { D with nx := tz D }) hx hp hn hi hz h k
/-- found = [] that is to grow: made, no part of what is known -/
theorem sq_nil {i : Nat} {H0 H1 : Hp} (u : Up H0 H1 F A) (k : ∀ p, H1 p = none → F p = none → Up H0 H1 F (upd A p (.lst [])) → tz D (σ.set i (some (.ref p))) (upd A p (.lst []))) : tSeq (tAsg (tLst tNil) (gName i)) tz D σ A :=
  ⟨Nat.zero_le _, fun p hp => k p (none_of_ex u.b hp) (none_of_ex u.c hp) (u.touch (none_of_ex u.b hp) (none_of_ex u.c hp))⟩
end
/-- xs != [] of runs -/
theorem gv_neRuns {K : PySem.W.Frag} {σ : L2.St} {H : Hp} {ta tb : TE} {xs ys : List CB.Run} (ha : Gv (ta σ) H (fun v H' => oLst oRun H' v xs)) (hb : ∀ H', Ex H H' → Gv (tb σ) H' (fun v H' => oLst oRun H' v ys)) : Gv (tOp (rNeD K) ta tb σ) H (fun v _ => v = .bl (!decide (xs = ys))) :=
  gv_neL mono_run (d := dRun) (fun H v x => dp_run) lay_run (n := 1) (by decide) (fun x => Nat.le_of_eq (depth_run x)) eqv_run ha hb
theorem gv_nilL {α : Type} {Po : Obs α} {σ : L2.St} {H : Hp} : Gv (tLst tNil σ) H (fun v H' => oLst Po H' v []) :=
  gv_lst (PA := fun vs _ => vs = []) (ga_nil rfl) (fun vs _ h => by rw [h]; exact Nat.zero_le _) fun vs H' p _ h hp => by subst h; exact ⟨p, [], rfl, upd_same, trivial⟩
/-- a pair made -/
theorem gv_pair {α β : Type} {Pa : Obs α} {Pb : Obs β} (hA : Mono Pa) (hB : Mono Pb) {σ : L2.St} {H : Hp} {ta tb : TE} {x : α} {y : β} (ha : Gv (ta σ) H (fun v H' => Pa H' v x)) (hb : ∀ H', Ex H H' → Gv (tb σ) H' (fun v H' => Pb H' v y)) :
    Gv (tTup (tCons ta (tCons tb tNil)) σ) H (fun v H' => oTup2 Pa Pb H' v (x, y)) :=
  gv_tup (PA := fun vs H' => ∃ a b, vs = [a, b] ∧ Pa H' a x ∧ Pb H' b y) (ga_cons ha fun a H1 e1 h1 => ga_cons (hb H1 e1) fun b H2 e2 h2 => ga_nil ⟨a, b, rfl, hA _ _ _ _ e2 h1, h2⟩)
    (fun vs H' ⟨a, b, h, _⟩ => by rw [h]; show 2 ≤ 1000; decide) fun vs H' p _ ⟨a, b, h, h1, h2⟩ hp => by
      subst h
      exact ⟨p, a, b, rfl, upd_same, hA _ _ _ _ (Ex.new hp) h1, hB _ _ _ _ (Ex.new hp) h2⟩
theorem gv_triple {α β γ : Type} {Pa : Obs α} {Pb : Obs β} {Pc : Obs γ} (hA : Mono Pa) (hB : Mono Pb) (hC : Mono Pc) {σ : L2.St} {H : Hp} {ta tb tc : TE} {x : α} {y : β} {z : γ} (ha : Gv (ta σ) H (fun v H' => Pa H' v x)) (hb : ∀ H', Ex H H' → Gv (tb σ) H' (fun v H' => Pb H' v y)) (hc : ∀ H', Ex H H' → Gv (tc σ) H' (fun v H' => Pc H' v z)) :
    Gv (tTup (tCons ta (tCons tb (tCons tc tNil))) σ) H (fun v H' => oTup3 Pa Pb Pc H' v (x, y, z)) :=
  gv_tup (PA := fun vs H' => ∃ a b c, vs = [a, b, c] ∧ Pa H' a x ∧ Pb H' b y ∧ Pc H' c z) (ga_cons ha fun a H1 e1 h1 => ga_cons (hb H1 e1) fun b H2 e2 h2 => ga_cons (hc H2 (e1.trans e2)) fun c H3 e3 h3 => ga_nil ⟨a, b, c, rfl, hA _ _ _ _ (e2.trans e3) h1, hB _ _ _ _ e3 h2, h3⟩)
    (fun vs H' ⟨a, b, c, h, _⟩ => by rw [h]; show 3 ≤ 1000; decide) fun vs H' p _ ⟨a, b, c, h, h1, h2, h3⟩ hp => by
      subst h
      exact ⟨p, a, b, c, rfl, upd_same, hA _ _ _ _ (Ex.new hp) h1, hB _ _ _ _ (Ex.new hp) h2, hC _ _ _ _ (Ex.new hp) h3⟩
/-- a list of one thing -/
theorem gv_single {α : Type} {Pa : Obs α} (hA : Mono Pa) {σ : L2.St} {H : Hp} {ta : TE} {x : α} (ha : Gv (ta σ) H (fun v H' => Pa H' v x)) : Gv (tLst (tCons ta tNil) σ) H (fun v H' => oLst Pa H' v [x]) :=
  gv_lst (PA := fun vs H' => ∃ a, vs = [a] ∧ Pa H' a x) (ga_cons ha fun a H1 e1 h1 => ga_nil ⟨a, rfl, h1⟩) (fun vs H' ⟨a, h, _⟩ => by rw [h]; show 1 ≤ 1000; decide) fun vs H' p _ ⟨a, h, h1⟩ hp => by
    subst h
    exact ⟨p, [a], rfl, upd_same, hA _ _ _ _ (Ex.new hp) h1, trivial⟩
/-- run[0], run[1] of a pair -/
theorem gv_fst {K : PySem.W.Frag} {α β : Type} {Pa : Obs α} {Pb : Obs β} (hA : Mono Pa) {σ : L2.St} {H : Hp} {ta tb : TE} {x : α × β} (ha : Gv (ta σ) H (fun v H' => oTup2 Pa Pb H' v x)) (hb : ∀ H', Ex H H' → Gv (tb σ) H' (fun v _ => v = .int 0)) : Gv (tOp (rIxT K) ta tb σ) H (fun v H' => Pa H' v x.1) :=
  gv_op ha (fun _ H' e _ => hb H' e) fun v w H' H'' e e' ⟨p, a, b, h1, h2, h3, h4⟩ hw => by
    subst h1 hw
    exact gv_ixT (y := a) (e' _ _ h2) (atI_nat (j := 0) rfl) (hA _ _ _ _ e' h3)
theorem gv_snd {K : PySem.W.Frag} {α β : Type} {Pa : Obs α} {Pb : Obs β} (hB : Mono Pb) {σ : L2.St} {H : Hp} {ta tb : TE} {x : α × β} (ha : Gv (ta σ) H (fun v H' => oTup2 Pa Pb H' v x)) (hb : ∀ H', Ex H H' → Gv (tb σ) H' (fun v _ => v = .int 1)) : Gv (tOp (rIxT K) ta tb σ) H (fun v H' => Pb H' v x.2) :=
  gv_op ha (fun _ H' e _ => hb H' e) fun v w H' H'' e e' ⟨p, a, b, h1, h2, h3, h4⟩ hw => by
    subst h1 hw
    exact gv_ixT (y := b) (e' _ _ h2) (atI_nat (j := 1) rfl) (hB _ _ _ _ e' h4)
/-- xs[-1] -/
theorem gv_last {K : PySem.W.Frag} {α : Type} {Pa : Obs α} {σ : L2.St} {H : Hp} {ta tb : TE} {xs : List α} {y : α} (hA : Mono Pa) (hl : xs.getLast? = some y) (ha : Gv (ta σ) H (fun v H' => oLst Pa H' v xs)) (hb : ∀ H', Ex H H' → Gv (tb σ) H' (fun v _ => v = .int (-1))) :
    Gv (tOp (rIxL K) ta tb σ) H (fun v H' => Pa H' v y) :=
  gv_op ha (fun _ H' e _ => hb H' e) fun v w H' H'' e e' h1 hw => by
    subst hw
    exact (gv_ixL (mono_lst hA _ _ _ _ e' h1) (atI_last hl)).imp fun v H3 _ h => h.2 ▸ h.1
theorem cut_last {α : Type} (xs : List α) : (xs.drop (HT.sIx xs.length 0 none)).take (HT.sIx xs.length xs.length (some (-1)) - HT.sIx xs.length 0 none) = xs.dropLast := by
  rw [HT.sIx_none]
  show (xs.drop 0).take ((if (-1 : Int) < 0 then ((-1 : Int) + (xs.length : Int)).toNat else min (-1 : Int).toNat xs.length) - 0) = _
  rw [if_pos (by decide), List.drop_zero, List.dropLast_eq_take]
  congr 1
  omega
section
variable {P : Program} {w : World} {K : PySem.W.Frag} {mg : Str → Option Value} {base : Heap} {f C fE : Addr} {fd : FuncData}
/-! ### with_run -/
def spWith : Sp := SpO (fun vs H (x : List CB.Run × Int × Option Int) => ∃ v, vs = [v, .int x.2.1, oV x.2.2] ∧ oLst oRun H v x.1 ∧ x.1.length ≤ 10000) (fun x v H => oLst oRun H v (CB.addRun x.1 x.2.1 x.2.2))
theorem scWith : FnScope ["runs", "first", "last"] ["runs", "first", "last"] (defScope sWith) := ⟨rfl, rfl, rfl, by decide +kernel, rfl, by decide +kernel, by decide +kernel⟩
theorem oV_eq {o : Option Int} {i : Int} : decide (oV o = V.int i) = decide (o = some i) := by
  cases o with
  | none => rw [decide_eq_false (fun q => by cases q), decide_eq_false (fun q => by cases q)]
  | some j =>
    have : (oV (some j) = V.int i) ↔ (some j = some i) := ⟨fun q => by cases q; rfl, fun q => by cases q; rfl⟩
    exact decide_eq_decide.mpr this
theorem scal_oV (o : Option Int) (i : Int) : scal (oV o) (.int i) = true := by cases o <;> rfl
theorem cal_with (F : Fun K "with_run" "with_run" sWith f fd) (g : mg "with_run" = some (.ref f)) : Cal P w K mg base "with_run" 1 spWith := by
  refine cal_mk F g scWith (fun _ _ _ _ _ _ us hl => match us, hl with | [_, _, _], _ => rfl) (fun vs H Q E ⟨x, H0, _, ⟨v, e, _⟩, _⟩ => by rw [e]; rfl) fun cdv A outer s H vs Q E hr ⟨⟨R, a, o⟩, H0, hx, ⟨v, e, hv, hz⟩, q⟩ => ?_
  subst e
  have hz : R.length ≤ 10000 := hz
  have hv : oLst oRun H0 v R := hv
  refine ⟨_, pss_cons (ps_if (PW.pt (pw_and (pt_cmpR (op_neD hr.units) (pv 0) (pe_lst pa_nil) (nomark _)) (pw_and1 (pt_cmpR op_eq (pe_ix ix_tup (pe_ix ix_list (pv 0) (pe_un un_neg pe_int) (fun _ _ => rfl)) pe_int (fun _ _ => rfl)) (pe_op op_sub (pv 1) pe_int) (nomark _)))))
      (pss_one (ps_ret (pe_op op_cat (pe_slice sl_list (pv 0) po_none (po_some (pe_un un_neg pe_int))) (pe_lst (pa_cons (pe_tup (pa_cons (pe_ix ix_tup (pe_ix ix_list (pv 0) (pe_un un_neg pe_int) (fun _ _ => rfl)) pe_int (fun _ _ => rfl)) (pa_cons (pv 2) pa_nil))) pa_nil))))) pss_nil)
    (pss_one (ps_ret (pe_op op_cat (pv 0) (pe_lst (pa_cons (pe_tup (pa_cons (pv 1) (pa_cons (pv 2) pa_nil))) pa_nil))))), ?_⟩
  have neg1 : ∀ {σ : L2.St} {H : Hp}, Gv (tUn (rU fun i => .int (-i)) (tC (.int 1)) σ) H (fun v _ => v = .int (-1)) := fun {σ H} => gv_neg (n := 1) (gv_c rfl)
  have grow : ∀ {H1 : Hp}, Ex H0 H1 → Gv (tOp rCat (tVar 0) (tLst (tCons (tTup (tCons (tVar 1) (tCons (tVar 2) tNil))) tNil)) (start ["runs", "first", "last"] [v, .int a, oV o])) H1 (fun v H' => oLst oRun H' v (R ++ [(a, o)])) := fun {H1} e1 =>
    gv_catE mono_run (gv_var rfl (mono_lst mono_run _ _ _ _ e1 hv)) (fun H2 e2 => gv_single mono_run (gv_pair mono_int mono_opt (gv_var (v := .int a) rfl rfl) fun H3 e3 => gv_var (v := oV o) rfl rfl)) (by rw [List.length_singleton]; omega)
  have fin : ∀ {F1 A1 : Hp}, Up H0 H F1 A1 → CB.addRun R a o = R ++ [(a, o)] → tRet (tOp rCat (tVar 0) (tLst (tCons (tTup (tCons (tVar 1) (tCons (tVar 2) tNil))) tNil))) { nx := fun _ H' => Q .non H', rt := Q } (start ["runs", "first", "last"] [v, .int a, oV o]) A1 := fun {F1 A1} u er =>
    st_ret u.c (grow u.a) fun v F' A' u' p => q v F' A' (u.trans u') (by show oLst oRun F' v (CB.addRun R a o); rw [er]; exact p)
  have test : ∀ (b : Bool), (∀ r, R.getLast? = some r → decide (r.2 = some (a - 1)) = b) → GT (tAnd (tTest (tOp (rNeD K) (tVar 0) (tLst tNil))) (tTest (tOp rEq (tOp (rIxT K) (tOp (rIxL K) (tVar 0) (tUn (rU fun i => .int (-i)) (tC (.int 1)))) (tC (.int 1))) (tOp (rI0 fun i j => .int (i - j)) (tVar 1) (tC (.int 1))))))
      (start ["runs", "first", "last"] [v, .int a, oV o]) H0 ((!decide (R = [])) && b) := fun b hb =>
    gt_and (gt_test (gv_neRuns (gv_var rfl hv) fun _ _ => gv_nilL)) fun hne H1 e1 => by
      have hR : R ≠ [] := by simpa using hne
      obtain ⟨r, hr⟩ : ∃ r, R.getLast? = some r := by
        cases h : R.getLast? with
        | none => exact absurd (List.getLast?_eq_none_iff.mp h) hR
        | some r => exact ⟨r, rfl⟩
      refine gt_test (gv_op (Pa := fun v _ => v = oV r.2) (Pb := fun v _ => v = .int (a - 1)) (gv_snd mono_opt (gv_last mono_run hr (gv_var rfl (mono_lst mono_run _ _ _ _ e1 hv)) fun _ _ => neg1) fun _ _ => gv_c rfl) (fun _ _ _ _ => gv_opI (gv_var (v := .int a) rfl rfl) (fun _ _ => gv_c rfl) fun _ _ => rfl) fun x y H2 H3 e2 e3 h1 h2 => ?_)
      subst h1 h2
      exact gv_eq (scal_oV _ _) (by rw [oV_eq, hb r hr])
  by_cases hj : ∃ r, R.getLast? = some r ∧ r.2 = some (a - 1)
  · obtain ⟨r, hr, hj⟩ := hj
    refine sq_when hx (test true (fun r' hr' => by rw [hr] at hr'; cases hr'; exact decide_eq_true hj)) (fun _ F1 A1 u => ?_) (fun hb _ _ _ => ?_)
    · refine st_ret u.c (gv_catE mono_run (xs := R.dropLast) (ys := [(r.1, o)]) ?_ (fun H2 e2 => gv_single mono_run (gv_pair mono_int mono_opt (gv_fst mono_int (gv_last mono_run hr (gv_var rfl (mono_lst mono_run _ _ _ _ (u.a.trans e2) hv)) fun _ _ => neg1) fun _ _ => gv_c rfl) fun H3 e3 => gv_var (v := oV o) rfl rfl)) (by rw [List.length_singleton, List.length_dropLast]; omega)) fun v F' A' u' p => q v F' A' (u.trans u') ?_
      · have := gv_slL (K := K) mono_run (lo := none) (hi := some (-1)) (xs := R) (te := tVar 0) (tl := tNoPart) (th := tPart (tUn (rU fun i => .int (-i)) (tC (.int 1)))) (σ := start ["runs", "first", "last"] [v, .int a, oV o]) (H := F1) (gv_var rfl (mono_lst mono_run _ _ _ _ u.a hv)) (fun _ _ => go_none) (fun _ _ => go_some neg1)
        rw [cut_last] at this
        exact this
      · have er : CB.addRun R a o = R.dropLast ++ [(r.1, o)] := by
          unfold CB.addRun
          rw [hr]
          exact if_pos hj
        show oLst oRun F' v (CB.addRun R a o)
        rw [er]
        exact p
    · have : R ≠ [] := fun z => by rw [z] at hr; cases hr
      simp [this] at hb
  · refine sq_when hx (test false (fun r' hr' => decide_eq_false fun z => hj ⟨r', hr', z⟩)) (fun hb _ _ _ => by simp at hb) (fun _ F1 A1 u => fin u ?_)
    unfold CB.addRun
    cases h : R.getLast? with
    | none => rfl
    | some r => exact if_neg fun z => hj ⟨r, h, z⟩
end
end CW
namespace CW
open PySem PySem.Spec PyProof.Rows L2
open Evl (Ex Ex.refl Ex.trans Ex.new Ex.mut fresh_back)
theorem map_fm {α β : Type} (g : α → β) (xs : List α) : xs.filterMap (fun x => some (g x)) = xs.map g := by
  induction xs with
  | nil => rfl
  | cons x xs ih => rw [List.filterMap_cons, List.map_cons, ih]
section
variable {P : Program} {w : World} {K : PySem.W.Frag} {mg : Str → Option Value} {base : Heap} {f C fE : Addr} {fd : FuncData}
def spStr : Sp := SpO (preLst oInt fun cs => cs.length ≤ 62) (fun cs v H => oLst oRun H v (CB.spans (CB.sortU cs)))
/-! ### runs_by -/
def spRuns (fE : Addr) : Sp := SpO (fun vs H (x : List CB.Run × List CB.Run) => ∃ v1 v2, vs = [v1, v2, .ref fE] ∧ oLst oRun H v1 x.1 ∧ oLst oRun H v2 x.2 ∧ x.1.length + x.2.length ≤ 31) (fun x v H => oLst oRun H v (CB.runsBy (x.1 ++ x.2)))
theorem scRuns : FnScope ["one", "other", "keeps", "found", "first", "last", "in_one", "in_other", "run"] ["one", "other", "keeps"] (defScope sRuns) := ⟨rfl, rfl, rfl, by decide +kernel, rfl, by decide +kernel, by decide +kernel⟩
abbrev tAny (K : PySem.W.Frag) (i : Nat) : TE := tCB (rAny K) (tCons (tLc (iList K (tVar i)) (gName 8) tYes (tCall spAt [] E0 (tCons (tOp (rIxT K) (tVar 8) (tC (.int 0))) (tCons (tOp (rIxT K) (tVar 8) (tC (.int 1))) (tCons (tVar 4) tNil)))) [8]) tNil)
theorem cal_runs (F : Fun K "runs_by" "runs_by" sRuns f fd) (g : mg "runs_by" = some (.ref f)) (gE : mg "either" = some (.ref fE)) (m1 : mg "any" = none) (cS : Cal P w K mg base "stretches" 1 spStr) (cC : Cal P w K mg base "cuts_of" 1 spCuts) (cA : Cal P w K mg base "is_at" 1 spAt) (cE : Cal P w K mg base "either" 1 spEither) (cW : Cal P w K mg base "with_run" 1 spWith) :
    Cal P w K mg base "runs_by" 2 (spRuns fE) := by
  refine cal_mk F g scRuns (fun _ _ _ _ _ _ us hl => match us, hl with | [_, _, _], _ => rfl) (fun vs H Q E ⟨x, H0, _, ⟨v1, v2, e, _⟩, _⟩ => by rw [e]; rfl) fun cdv A outer s H vs Q E hr ⟨⟨R1, R2⟩, H0, hx, ⟨v1, v2, e, hv1, hv2, hz⟩, q⟩ => ?_
  subst e
  have hz : R1.length + R2.length ≤ 31 := hz
  have hv1 : oLst oRun H0 v1 R1 := hv1
  have hv2 : oLst oRun H0 v2 R2 := hv2
  obtain ⟨fE', fdE, psE, gE', FE, kE, bE⟩ := cE.ex
  have eE : fE' = fE := by
    rw [gE] at gE'; cases gE'; rfl
  subst eE
  refine ⟨_, pss_cons (ps_set (i := 3) scRuns.nd rfl (.inl rfl) (pe_lst pa_nil))
    (pss_cons (ps_for PassesOwn.never rfl (pi_list (pe_cal cS hr (by rfl) (pa_cons (pe_cal cC hr (by rfl) (pa_cons (pe_op op_cat (pv 0) (pv 1)) pa_nil)) pa_nil)))
        (pg_tup rfl (pgs_cons (pg_name (i := 4) scRuns.nd rfl (.inr rfl)) (pgs_cons (pg_name (i := 5) scRuns.nd rfl (.inl rfl)) pgs_nil)))
      (pss_cons (ps_set (te := tAny K 0) (i := 6) scRuns.nd rfl (.inl rfl) (pe_callB (cr_any rfl) (by rfl) m1 (by decide +kernel) (pa_cons (pe_lc (g := gName 8) (tt := tYes) (own := [("run", 8)]) (by rfl) scRuns.nd (pi_list (pv 0)) (blkOk_by (N := ["one", "other", "keeps", "found", "first", "last", "in_one", "in_other", "run"]) (sc := defScope sRuns) (by decide +kernel))
          (fun _ _ _ _ _ => pg_name (i := 8) scRuns.nd rfl (Or.inl rfl)) (fun _ _ _ _ _ => pts_nil) (fun _ _ _ _ _ => pe_cal cA hr (by rfl) (pa_cons (pe_ix ix_tup (pv 8) pe_int (fun _ _ => rfl)) (pa_cons (pe_ix ix_tup (pv 8) pe_int (fun _ _ => rfl)) (pa_cons (pv 4) pa_nil))))) pa_nil)))
      (pss_cons (ps_set (te := tAny K 1) (i := 7) scRuns.nd rfl (.inl rfl) (pe_callB (cr_any rfl) (by rfl) m1 (by decide +kernel) (pa_cons (pe_lc (g := gName 8) (tt := tYes) (own := [("run", 8)]) (by rfl) scRuns.nd (pi_list (pv 1)) (blkOk_by (N := ["one", "other", "keeps", "found", "first", "last", "in_one", "in_other", "run"]) (sc := defScope sRuns) (by decide +kernel))
          (fun _ _ _ _ _ => pg_name (i := 8) scRuns.nd rfl (Or.inl rfl)) (fun _ _ _ _ _ => pts_nil) (fun _ _ _ _ _ => pe_cal cA hr (by rfl) (pa_cons (pe_ix ix_tup (pv 8) pe_int (fun _ _ => rfl)) (pa_cons (pe_ix ix_tup (pv 8) pe_int (fun _ _ => rfl)) (pa_cons (pv 4) pa_nil))))) pa_nil)))
      (pss_one (ps_if (pt_val (pe_callL (i := 2) FE hr rfl (.inl rfl) kE bE .nil pass0 (pa_cons (pv 6) (pa_cons (pv 7) pa_nil)))) (pss_one (ps_set (i := 3) scRuns.nd rfl (.inl rfl) (pe_cal cW hr (by rfl) (pa_cons (pv 3) (pa_cons (pv 4) (pa_cons (pv 5) pa_nil)))))) pss_nil)))))
    (pss_one (ps_ret (pv 3)))), ?_⟩
  have hcl : (CB.cutsOf (R1 ++ R2)).length ≤ 62 := by
    have := CB.cuts_length (R1 ++ R2)
    rw [List.length_append] at this
    omega
  have hps : (CB.spans (CB.sortU (CB.cutsOf (R1 ++ R2)))).length ≤ 62 := by
    rw [CB.spans_length]
    have := CB.sortU_length (CB.cutsOf (R1 ++ R2))
    omega
  -- found = []
  refine sq_asg (P := fun v F => oLst oRun F v []) hx gv_nilL fun v3 F1 A1 u1 h3 => ?_
  -- the loop
  refine sq_for mono_run u1.c (xs := CB.spans (CB.sortU (CB.cutsOf (R1 ++ R2)))) ?_
    (fun B i σ F A => Ex B F ∧ Up H0 H F A ∧ ∃ w3 y4 y5 y6 y7 y8, σ = [some v1, some v2, some (.ref fE'), some w3, y4, y5, y6, y7, y8] ∧ oLst oRun F w3 (CB.runsOver (CB.anyR (R1 ++ R2)) ((CB.spans (CB.sortU (CB.cutsOf (R1 ++ R2)))).take i) []))
    (fun B i σ F A ⟨e, u, _⟩ => ⟨e, u.c⟩) (fun F2 A2 u2 => ⟨Ex.refl _, u1.trans u2, v3, none, none, none, none, none, rfl, mono_lst mono_run _ _ _ _ u2.a h3⟩) ?_ ?_
  · -- stretches(cuts_of(one + other))
    refine gv_call (PA := fun vs H' => ∃ v, vs = [v] ∧ oLst oInt H' v (CB.cutsOf (R1 ++ R2))) (CB.cutsOf (R1 ++ R2)) (ga_cons (gv_call (PA := fun vs H' => ∃ v, vs = [v] ∧ oLst oRun H' v (R1 ++ R2)) (R1 ++ R2) (ga_cons (gv_catE mono_run (gv_var rfl (mono_lst mono_run _ _ _ _ u1.a hv1)) (fun H2 e2 => gv_var rfl (mono_lst mono_run _ _ _ _ (u1.a.trans e2) hv2)) (by omega)) fun v H2 e2 h2 => ga_nil ⟨v, rfl, h2⟩) fun vs H2 e2 ⟨v, ev, h2⟩ => ?_) fun v H2 e2 h2 => ga_nil ⟨v, rfl, h2⟩) fun vs H2 e2 ⟨v, ev, h2⟩ => ?_
    · subst ev; exact ⟨v, rfl, h2, by show (R1 ++ R2).length ≤ 10000; rw [List.length_append]; omega⟩
    · subst ev; exact ⟨v, rfl, h2, hcl⟩
  · rintro B i ⟨c, d⟩ v σ F2 A2 hi ⟨eB, u2, w3, y4, y5, y6, y7, y8, rfl, hw⟩ ⟨p, a, b, rfl, hp, ha, hb⟩
    have ha : a = .int c := ha
    have hb : b = oV d := hb
    subst ha hb
    refine g_two (u2.c _ _ hp) ?_
    -- any([...]) twice
    have any : ∀ (j : Nat) (vj : V) (R : List CB.Run) (σ' : L2.St) (F' : Hp), R.length ≤ 31 → σ'[j]? = some (some vj) → (wipe σ' [8])[j]? = some (some vj) → (∀ x, wipe ((wipe σ' [8]).set 8 (some x)) [8] = wipe σ' [8]) → (∀ x, ((wipe σ' [8]).set 8 (some x))[8]? = some (some x)) → (∀ x, ((wipe σ' [8]).set 8 (some x))[4]? = some (some (.int c))) → oLst oRun F' vj R →
        Gv (tAny K j σ') F' (fun v _ => v = .bl (CB.anyR R c)) := fun j vj R σ' F' hR hj hj2 hw8 h8 h4 hv => by
      refine gv_cb (PA := fun vs H' => ∃ v, vs = [v] ∧ oLst oBool H' v (R.map fun r => CB.inRb r c)) (ga_cons ?_ fun v H2 e2 h2 => ga_nil ⟨v, rfl, h2⟩) fun vs H2 e2 ⟨v, ev, h2⟩ => ?_
      · rw [← map_fm]
        refine gv_lc mono_run mono_bool (fun r => some (CB.inRb r c)) (by omega) (gv_var hj hv) fun y x F3 A3 eF e3 _ hy => ⟨_, fun Q hQ => hQ, hw8 y, fun H1 e1 R r => r true F3 H1 (Up.refl e1) rfl, fun z hz F4 e4 => ?_⟩
        cases hz
        refine gv_callV (PA := fun vs _ => vs = [.int x.1, oV x.2, .int c]) (ga_cons (gv_fst mono_int (gv_var (h8 y) (mono_run _ _ _ _ e4 hy)) fun _ _ => gv_c rfl) fun x1 H3 e5 h3 => ga_cons (gv_snd mono_opt (gv_var (h8 y) (mono_run _ _ _ _ (e4.trans e5) hy)) fun _ _ => gv_c rfl) fun x2 H4 e6 h4' => ga_cons (gv_var (P := fun v _ => v = .int c) (h4 y) rfl) fun x3 H5 e7 h5 => ga_nil (by rw [show x1 = .int x.1 from h3, show x2 = oV x.2 from h4', h5])) fun vs H' _ hvs => ?_
        subst hvs
        exact ⟨.bl (CB.inRb x c), rfl, fun H2 Q q => ⟨x.1, x.2, c, rfl, q⟩⟩
      · subst ev
        refine (gv_any h2).imp fun v H3 _ h => ?_
        rw [h]
        unfold CB.anyR
        rw [List.any_map]
        rfl
    refine sq_asg u2.c (any 0 v1 R1 _ F2 (by omega) rfl rfl (fun _ => rfl) (fun _ => rfl) (fun _ => rfl) (mono_lst mono_run _ _ _ _ u2.a hv1)) fun x6 F3 A3 u3 h6 => ?_
    refine sq_asg u3.c (any 1 v2 R2 _ F3 (by omega) rfl rfl (fun _ => rfl) (fun _ => rfl) (fun _ => rfl) (mono_lst mono_run _ _ _ _ (u2.a.trans u3.a) hv2)) fun x7 F4 A4 u4 h7 => ?_
    subst h6 h7
    have eU : (CB.anyR R1 c || CB.anyR R2 c) = CB.anyR (R1 ++ R2) c := by unfold CB.anyR; rw [List.any_append]
    have step : CB.runsOver (CB.anyR (R1 ++ R2)) ((CB.spans (CB.sortU (CB.cutsOf (R1 ++ R2)))).take (i + 1)) [] = if CB.anyR (R1 ++ R2) c = true then CB.addRun (CB.runsOver (CB.anyR (R1 ++ R2)) ((CB.spans (CB.sortU (CB.cutsOf (R1 ++ R2)))).take i) []) c d else CB.runsOver (CB.anyR (R1 ++ R2)) ((CB.spans (CB.sortU (CB.cutsOf (R1 ++ R2)))).take i) [] := by
      rw [List.take_add_one, hi]
      exact CB.runsOver_snoc _ _ _ _
    have hwl : (CB.runsOver (CB.anyR (R1 ++ R2)) ((CB.spans (CB.sortU (CB.cutsOf (R1 ++ R2)))).take i) []).length ≤ 10000 := by
      have := CB.runsOver_length (CB.anyR (R1 ++ R2)) ((CB.spans (CB.sortU (CB.cutsOf (R1 ++ R2)))).take i) []
      rw [List.length_take] at this
      simp only [List.length_nil] at this
      omega
    refine st_if u4.c (b := CB.anyR (R1 ++ R2) c) (gt_B ?_) (fun hb F5 A5 u5 => ?_) (fun hb F5 A5 u5 => ?_)
    · refine fun H1 e1 R r => ⟨rfl, ?_⟩
      refine ⟨_, rfl, _, rfl, _, _, rfl, ?_⟩
      rw [eU]
      exact r _ F4 H1 (Up.refl e1) rfl
    · have uu := ((u2.trans u3).trans u4).trans u5
      have e25 := ((u3.a.trans u4.a).trans u5.a)
      refine st_asg u5.c (gv_call (PA := fun vs H' => vs = [w3, .int c, oV d]) (CB.runsOver (CB.anyR (R1 ++ R2)) ((CB.spans (CB.sortU (CB.cutsOf (R1 ++ R2)))).take i) [], c, d) (ga_cons (gv_var (P := fun v _ => v = w3) rfl rfl) fun x1 H3 e3 h3 => ga_cons (gv_var (P := fun v _ => v = .int c) rfl rfl) fun x2 H4 e4 h4 => ga_cons (gv_var (P := fun v _ => v = oV d) rfl rfl) fun x3 H5 e5 h5 => ga_nil (by rw [h3, h4, h5])) fun vs H6 e6 hvs => ?_) fun v F6 A6 u6 h6 => ?_
      · subst hvs
        exact ⟨w3, rfl, mono_lst mono_run _ _ _ _ (e25.trans e6) hw, hwl⟩
      · refine ⟨F6, (eB.trans e25).trans u6.a, uu.trans u6, v, _, _, _, _, _, rfl, ?_⟩
        rw [step, if_pos hb]
        exact h6
    · have uu := ((u2.trans u3).trans u4).trans u5
      have e25 := ((u3.a.trans u4.a).trans u5.a)
      refine ⟨F5, eB.trans e25, uu, w3, _, _, _, _, _, rfl, ?_⟩
      rw [step, if_neg (by rw [hb]; decide)]
      exact mono_lst mono_run _ _ _ _ e25 hw
  · rintro B σ F2 A2 ⟨eB, u2, w3, y4, y5, y6, y7, y8, rfl, hw⟩
    rw [List.take_length] at hw
    exact st_ret u2.c (gv_var rfl hw) fun v F' A' u' p => q v F' A' (u2.trans u') p
end
end CW
namespace CW
open PySem PySem.Spec PyProof.Rows L2
open Evl (Ex Ex.refl Ex.trans Ex.new Ex.mut fresh_back)
abbrev oBand : Obs CB.Band := oTup3 oInt oOpt (oLst oRun)
theorem mono_band : Mono oBand := mono_tup3 mono_int mono_opt (mono_lst mono_run)
section
variable {P : Program} {w : World} {K : PySem.W.Frag} {mg : Str → Option Value} {base : Heap} {f C fE : Addr} {fd : FuncData}
/-! ### bands_by -/
def spBands (C fE : Addr) : Sp := SpO (fun vs H (x : List CB.Blk × List CB.Blk) => ∃ v1 v2, vs = [v1, v2, .ref fE] ∧ oLst (oBlk C) H v1 x.1 ∧ oLst (oBlk C) H v2 x.2 ∧ x.1.length + x.2.length ≤ 31) (fun x v H => oLst oBand H v (CB.bandsBy (x.1 ++ x.2)))
theorem scBands : FnScope ["one", "other", "keeps", "found", "first", "last", "runs", "block"] ["one", "other", "keeps"] (defScope sBands) := ⟨rfl, rfl, rfl, by decide +kernel, rfl, by decide +kernel, by decide +kernel⟩
theorem gt_yes {σ : L2.St} {H : Hp} : GT tYes σ H true := fun H1 e1 R r => r true H H1 (Up.refl e1) rfl
theorem colsAt_append (L M : List CB.Blk) (r : Int) : CB.colsAt (L ++ M) r = CB.colsAt L r ++ CB.colsAt M r := by
  unfold CB.colsAt
  rw [List.filter_append, List.map_append]
theorem colsAt_len (L : List CB.Blk) (r : Int) : (CB.colsAt L r).length ≤ L.length := by
  unfold CB.colsAt
  rw [List.length_map]
  exact List.length_filter_le _ _
theorem cal_bands (F : Fun K "bands_by" "bands_by" sBands f fd) (g : mg "bands_by" = some (.ref f)) (T : BTxt K C) (cS : Cal P w K mg base "stretches" 1 spStr) (cC : Cal P w K mg base "cuts_of" 1 spCuts) (cR : Cal P w K mg base "runs_by" 2 (spRuns fE)) (cX : Cal P w K mg base "columns_at" 2 (spCols C)) :
    Cal P w K mg base "bands_by" 3 (spBands C fE) := by
  refine cal_mk F g scBands (fun _ _ _ _ _ _ us hl => match us, hl with | [_, _, _], _ => rfl) (fun vs H Q E ⟨x, H0, _, ⟨v1, v2, e, _⟩, _⟩ => by rw [e]; rfl) fun cdv A outer s H vs Q E hr ⟨⟨L1, L2'⟩, H0, hx, ⟨v1, v2, e, hv1, hv2, hz⟩, q⟩ => ?_
  subst e
  have hz : L1.length + L2'.length ≤ 31 := hz
  have hv1 : oLst (oBlk C) H0 v1 L1 := hv1
  have hv2 : oLst (oBlk C) H0 v2 L2' := hv2
  have hr1 := hr.mono (show 1 ≤ 2 by decide)
  refine ⟨_, pss_cons (ps_set (i := 3) scBands.nd rfl (.inl rfl) (pe_lst pa_nil))
    (pss_cons (ps_for PassesOwn.never rfl (pi_list (pe_cal cS hr1 (by rfl) (pa_cons (pe_cal cC hr1 (by rfl) (pa_cons (pe_lc (g := gName 7) (tt := tYes) (te := tTup (tCons (tFld K (tVar 7) "top") (tCons (tFld K (tVar 7) "bottom") tNil))) (own := [("block", 7)]) (by rfl) scBands.nd (pi_list (pe_op op_cat (pv 0) (pv 1))) (blkOk_by (N := ["one", "other", "keeps", "found", "first", "last", "runs", "block"]) (sc := defScope sBands) (by decide +kernel))
          (fun _ _ _ _ _ => pg_name (i := 7) scBands.nd rfl (Or.inl rfl)) (fun _ _ _ _ _ => pts_nil) (fun _ _ _ _ _ => pe_tup (pa_cons (pe_fld (pv 7) rfl) (pa_cons (pe_fld (pv 7) rfl) pa_nil)))) pa_nil)) pa_nil)))
        (pg_tup rfl (pgs_cons (pg_name (i := 4) scBands.nd rfl (.inl rfl)) (pgs_cons (pg_name (i := 5) scBands.nd rfl (.inl rfl)) pgs_nil)))
      (pss_cons (ps_set (i := 6) scBands.nd rfl (.inl rfl) (pe_cal cR hr (by rfl) (pa_cons (pe_cal cX hr (by rfl) (pa_cons (pv 0) (pa_cons (pv 4) pa_nil))) (pa_cons (pe_cal cX hr (by rfl) (pa_cons (pv 1) (pa_cons (pv 4) pa_nil))) (pa_cons (pv 2) pa_nil)))))
      (pss_one (ps_if (pt_cmpR (op_neD hr.units) (pv 6) (pe_lst pa_nil) (nomark _)) (pss_one (ps_expr (pe_bm PySem.F.plainAttrs_list PySem.F.slot_list_append PySem.F.type_list_append mt_append (pv 3) (pa_cons (pe_tup (pa_cons (pv 4) (pa_cons (pv 5) (pa_cons (pv 6) pa_nil)))) pa_nil)))) pss_nil))))
    (pss_one (ps_ret (pv 3)))), ?_⟩
  have hcl : (CB.cutsOf ((L1 ++ L2').map (·.rows))).length ≤ 62 := by
    have := CB.cuts_length ((L1 ++ L2').map (·.rows))
    rw [List.length_map, List.length_append] at this
    omega
  -- found = []
  refine sq_nil (Up.refl hx) fun p nH nF u1 => ?_
  have ends : Gv (tLc (iList K (tOp rCat (tVar 0) (tVar 1))) (gName 7) tYes (tTup (tCons (tFld K (tVar 7) "top") (tCons (tFld K (tVar 7) "bottom") tNil))) [7] (((start ["one", "other", "keeps", "found", "first", "last", "runs", "block"] [v1, v2, .ref fE])).set 3 (some (.ref p)))) H0 (fun v H' => oLst oRun H' v ((L1 ++ L2').map (·.rows))) := by
    rw [← map_fm]
    refine gv_lc (mono_blk C) mono_run (fun b => some b.rows) (xs := L1 ++ L2') (by rw [List.length_append]; omega) (gv_catE (mono_blk C) (gv_var rfl hv1) (fun H2 e2 => gv_var rfl (mono_lst (mono_blk C) _ _ _ _ e2 hv2)) (by omega)) fun y b F3 A3 eF e3 _ hy => ⟨_, fun Q hQ => hQ, rfl, gt_yes, fun z hz F4 e4 => ?_⟩
    cases hz
    exact gv_pair mono_int mono_opt (gv_fld (P := fun v H' => oInt H' v b.top) T.cl T.nT (bF_top b) (gv_var rfl (mono_blk C _ _ _ _ e4 hy)) (fun _ _ => rfl)) fun H5 e5 => gv_fld (P := fun v H' => oOpt H' v b.bottom) T.cl T.nB (bF_bottom b) (gv_var rfl (mono_blk C _ _ _ _ (e4.trans e5) hy)) (fun _ _ => rfl)
  -- the loop
  refine sq_for mono_run u1.c (xs := CB.spans (CB.sortU (CB.cutsOf ((L1 ++ L2').map (·.rows))))) ?_
    (fun B i σ F A => Ex B F ∧ Up H0 H F A ∧ F p = none ∧ ∃ ws y4 y5 y6 y7, σ = [some v1, some v2, some (.ref fE), some (.ref p), y4, y5, y6, y7] ∧ A p = some (.lst ws) ∧ ws.length ≤ i ∧ Items oBand F ws (((CB.spans (CB.sortU (CB.cutsOf ((L1 ++ L2').map (·.rows))))).take i).filterMap (CB.bandOf fun r => CB.runsBy (CB.colsAt (L1 ++ L2') r))))
    (fun B i σ F A ⟨e, u, _⟩ => ⟨e, u.c⟩) (fun F2 A2 u2 => ⟨Ex.refl _, u1.trans u2, u2.n p (by rw [upd_same]; simp) nF, [], none, none, none, none, rfl, u2.b _ _ upd_same, Nat.zero_le _, trivial⟩) ?_ ?_
  · refine gv_call (PA := fun vs H' => ∃ v, vs = [v] ∧ oLst oInt H' v (CB.cutsOf ((L1 ++ L2').map (·.rows)))) (CB.cutsOf ((L1 ++ L2').map (·.rows))) (ga_cons (gv_call (PA := fun vs H' => ∃ v, vs = [v] ∧ oLst oRun H' v ((L1 ++ L2').map (·.rows))) ((L1 ++ L2').map (·.rows)) (ga_cons ends fun v H2 e2 h2 => ga_nil ⟨v, rfl, h2⟩) fun vs H2 e2 ⟨v, ev, h2⟩ => ?_) fun v H2 e2 h2 => ga_nil ⟨v, rfl, h2⟩) fun vs H2 e2 ⟨v, ev, h2⟩ => ?_
    · subst ev; exact ⟨v, rfl, h2, hcl⟩
    · subst ev; exact ⟨v, rfl, h2, by show ((L1 ++ L2').map (·.rows)).length ≤ 10000; rw [List.length_map, List.length_append]; omega⟩
  · rintro B i ⟨c, d⟩ v σ F2 A2 hi ⟨eB, u2, np, ws, y4, y5, y6, y7, rfl, hws, hlen, hit⟩ ⟨pp, a, b, rfl, hp, ha, hb⟩
    have ha : a = .int c := ha
    have hb : b = oV d := hb
    subst ha hb
    refine g_two (u2.c _ _ hp) ?_
    have hil : i < 100000 := by
      have h1 := (List.getElem?_eq_some_iff.mp hi).1
      rw [CB.spans_length] at h1
      have := CB.sortU_length (CB.cutsOf ((L1 ++ L2').map (·.rows)))
      omega
    -- runs = runs_by(..)
    refine sq_asg (P := fun v F => oLst oRun F v (CB.runsBy (CB.colsAt (L1 ++ L2') c))) u2.c ?_ fun x6 F3 A3 u3 h6 => ?_
    · rw [colsAt_append]
      refine gv_call (PA := fun vs H' => ∃ a b, vs = [a, b, .ref fE] ∧ oLst oRun H' a (CB.colsAt L1 c) ∧ oLst oRun H' b (CB.colsAt L2' c)) (CB.colsAt L1 c, CB.colsAt L2' c) (ga_cons (gv_call (PA := fun vs _ => vs = [v1, .int c]) (L1, c) (ga_cons (gv_var (P := fun v _ => v = v1) rfl rfl) fun x1 H3 e3 h3 => ga_cons (gv_var (P := fun v _ => v = .int c) rfl rfl) fun x2 H4 e4 h4 => ga_nil (by rw [h3, h4])) fun vs H3 e3 hvs => ?_) fun z1 H3 e3 h3 =>
        ga_cons (gv_call (PA := fun vs _ => vs = [v2, .int c]) (L2', c) (ga_cons (gv_var (P := fun v _ => v = v2) rfl rfl) fun x1 H4 e4 h4 => ga_cons (gv_var (P := fun v _ => v = .int c) rfl rfl) fun x2 H5 e5 h5 => ga_nil (by rw [h4, h5])) fun vs H4 e4 hvs => ?_) fun z2 H4 e4 h4 => ga_cons (gv_var (P := fun v _ => v = .ref fE) rfl rfl) fun z3 H5 e5 h5 => ga_nil ⟨z1, z2, by rw [h5], mono_lst mono_run _ _ _ _ (e4.trans e5) h3, mono_lst mono_run _ _ _ _ e5 h4⟩) fun vs H3 e3 ⟨a, b, hvs, ha, hb⟩ => ?_
      · subst hvs; exact ⟨v1, rfl, mono_lst (mono_blk C) _ _ _ _ (u2.a.trans e3) hv1, by show L1.length ≤ 10000; omega⟩
      · subst hvs; exact ⟨v2, rfl, mono_lst (mono_blk C) _ _ _ _ ((u2.a.trans e3).trans e4) hv2, by show L2'.length ≤ 10000; omega⟩
      · subst hvs
        refine ⟨a, b, rfl, ha, hb, ?_⟩
        have h1 := colsAt_len L1 c
        have h2 := colsAt_len L2' c
        show (CB.colsAt L1 c).length + (CB.colsAt L2' c).length ≤ 31
        omega
    · have hws3 := u3.b _ _ hws
      have np3 : F3 p = none := u3.n p (fun z => by rw [hws] at z; cases z) np
      have nH1 : H p = none := nH
      have step : ((CB.spans (CB.sortU (CB.cutsOf ((L1 ++ L2').map (·.rows))))).take (i + 1)).filterMap (CB.bandOf fun r => CB.runsBy (CB.colsAt (L1 ++ L2') r)) = ((CB.spans (CB.sortU (CB.cutsOf ((L1 ++ L2').map (·.rows))))).take i).filterMap (CB.bandOf fun r => CB.runsBy (CB.colsAt (L1 ++ L2') r)) ++ (CB.bandOf (fun r => CB.runsBy (CB.colsAt (L1 ++ L2') r)) (c, d)).toList := filterMap_take (CB.bandOf fun r => CB.runsBy (CB.colsAt (L1 ++ L2') r)) hi
      refine st_if u3.c (gt_test (gv_neRuns (gv_var rfl h6) fun _ _ => gv_nilL)) (fun hne F4 A4 u4 => ?_) (fun hne F4 A4 u4 => ?_)
      · have hR : CB.runsBy (CB.colsAt (L1 ++ L2') c) ≠ [] := by simpa using hne
        refine st_app (P := fun v F' => oBand F' v (c, d, CB.runsBy (CB.colsAt (L1 ++ L2') c))) u4.c (u4.b _ _ hws3) (u4.n p (fun z => by rw [hws3] at z; cases z) np3) rfl (by omega)
          (gv_triple mono_int mono_opt (mono_lst mono_run) (gv_var (v := .int c) rfl rfl) (fun H5 e5 => gv_var (v := oV d) rfl rfl) (fun H5 e5 => gv_var rfl (mono_lst mono_run _ _ _ _ (u4.a.trans e5) h6))) fun x F5 A5 u5 hx5 np5 hA5 => ?_
        refine ⟨F5, ((eB.trans u3.a).trans u4.a).trans u5.a, (((u2.trans u3).trans u4).trans u5).touch nH1 np5, np5, ws ++ [x], _, _, _, _, rfl, upd_same, by rw [List.length_append]; show ws.length + 1 ≤ i + 1; omega, ?_⟩
        rw [step]
        have eb : CB.bandOf (fun r => CB.runsBy (CB.colsAt (L1 ++ L2') r)) (c, d) = some (c, d, CB.runsBy (CB.colsAt (L1 ++ L2') c)) := if_neg hR
        rw [eb]
        exact Items.snoc hx5 (hit.mono mono_band ((u3.a.trans u4.a).trans u5.a))
      · have hR : CB.runsBy (CB.colsAt (L1 ++ L2') c) = [] := by simpa using hne
        refine ⟨F4, (eB.trans u3.a).trans u4.a, (u2.trans u3).trans u4, u4.n p (fun z => by rw [hws3] at z; cases z) np3, ws, _, _, _, _, rfl, u4.b _ _ hws3, by omega, ?_⟩
        rw [step]
        have eb : CB.bandOf (fun r => CB.runsBy (CB.colsAt (L1 ++ L2') r)) (c, d) = none := if_pos hR
        rw [eb]
        show Items oBand F4 ws (_ ++ [])
        rw [List.append_nil]
        exact hit.mono mono_band (u3.a.trans u4.a)
  · rintro B σ F2 A2 ⟨eB, u2, np, ws, y4, y5, y6, y7, rfl, hws, hlen, hit⟩
    rw [List.take_length] at hit
    refine ⟨.ref p, rfl, q _ (upd F2 p (.lst ws)) A2 (u2.known nH np hws) ⟨p, ws, rfl, upd_same, hit.mono mono_band (Ex.new np)⟩⟩
end
end CW
namespace CW
open PySem PySem.Spec PyProof.Rows L2
open Evl (Ex Ex.refl Ex.trans Ex.new Ex.mut fresh_back)
/-! ### set(xs) of a list of whole numbers -/
/-- a new set, its order the text's -/
abbrev noSet (W : World) : Obj := { cls := .type "set", dict := none, data := .set #[] 0 (.fresh 0 0 (!W.params.followText "set-order")) }
abbrev withSet (W : World) (sh : Shared) : Shared := { sh with heap := sh.heap.push (noSet W) }
section
variable {Pg : Program} {W : World} {Ar : Around} {Er : Value → Shared → Prop} {sh : Shared}
set_option maxHeartbeats 8000000 in
theorem set_of_ints {b : Addr} {cells : Array Value} (ks : List Int) {Qr : Value → Shared → Prop} (calm : Ar.handled = none) (isl : sh.heap.IsList b cells) (are : IntsAre cells.toList ks) (few : ks.length + 1 < scanBound)
    (done : ∀ (hp : Heap) (tk m : Nat), SetR W hp sh.heap.objs.size (fun j => decide (j ∈ ks)) m → m ≤ ks.length → (∀ p o, sh.heap.get? p = some o → hp.get? p = some o) → Qr (.ref sh.heap.objs.size) { sh with heap := hp, toks := tk }) :
    wpAny (model Pg W) Ar (call (.type "set") [.ref b]) Qr Er sh := by
  have nz : cells.size = ks.length := by rw [← Array.length_toList]; exact IntsAre.length are
  obtain ⟨cX, tX, mX⟩ := F.called_set.mro
  have mk := F.called_set.made
  have sb := F.called_set.sub
  refine wpAny_call (codeAny_of_tree (show wpAny _ _ (callAny (.type "set") _) _ _ _ from wpAny_pure ⟨Code.quiet_builtin _ (by decide +kernel), codeAny_builtin F.entry_type_call ?_⟩))
  rw [Around.under_plain (weight_type_call_type "set" [.ref b] []) rfl]
  have x1 := F.called_set.notType
  have x2 := F.called_set.canCreate
  have x3 := F.typeCall_set_1 (.ref b)
  repeat (any_goals (first | assumption | wp_step))

  refine codeAny_mono (code_set_led1 (.ref b) (E := Er) (Q₁ := fun v s1 => v = .ref sh.heap.objs.size ∧ s1 = withSet W sh) ⟨rfl, rfl⟩) fun z s1 hz => ?_
  cases z with
  | error e => exact hz
  | ok z =>
    cases z with
    | ret v =>
      obtain ⟨rfl, rfl⟩ := hz
      have gS : (withSet W sh).heap.get? sh.heap.objs.size = some (noSet W) := Heap.get?_push_size _ rfl
      have tS : Shared.TypeIs (withSet W sh) (.ref sh.heap.objs.size) "set" := ⟨_, gS, rfl⟩
      have i1 := F.called_set.init.lookup
      have i2 := F.called_set.init.bind (.ref sh.heap.objs.size)
      repeat (any_goals (first | assumption | wp_step))

      refine codeAny_mono (codeAny_call_builtin (R := wants (fun v2 s2 => v2 = .none ∧ ∃ hp tk m, s2 = { sh with heap := hp, toks := tk } ∧ SetR W hp sh.heap.objs.size (fun j => decide (j ∈ ks)) m ∧ m ≤ ks.length ∧ ∀ p o, sh.heap.get? p = some o → hp.get? p = some o) Er)
        F.called_set.init.plain F.entry_set_init (check_set_init_1 tS ?_)) fun z2 s2 hz2 => ?_
      · obtain ⟨ob, hob, hcl, nl, hdt⟩ := isl
        obtain ⟨ocl, odi, oda, osl⟩ := ob
        simp only at hcl hdt
        subst hcl; subst hdt
        have hob2 : (withSet W sh).heap.get? b = some { cls := .type "list", dict := odi, data := .seq cells nl, slots := osl } := Heap.get?_push_of_some _ hob
        have y1 := F.sub_list_set
        have y2 := F.sub_list_frozenset
        have ne : (Value.type "list" == Value.type "dict") = false := by decide
        have il : (withSet W sh).heap.IsList b cells := ⟨_, hob2, rfl, nl, rfl⟩
        unfold Builtin.«set.__init__» noKeywords Builtin.Frozenset.updateFrom
        generalize hIt : pyIter = It
        wp_walk
        subst hIt

        refine wpAny_pyIter_list il (wpAny_bind (wpAny_runValue ?_))
        have lt : b < sh.heap.objs.size := Heap.lt_size hob
        have sz : (withSet W sh).heap.objs.size = sh.heap.objs.size + 1 := Heap.size_push ..
        have nI : b ≠ (withSet W sh).heap.objs.size := by rw [sz]; exact Nat.ne_of_lt (Nat.lt_succ_of_lt lt)
        have nS : sh.heap.objs.size ∉ [(withSet W sh).heap.objs.size, b] := by
          rw [sz]
          intro hm
          rcases List.mem_cons.mp hm with z | z
          · exact absurd z (Nat.ne_of_lt (Nat.lt_succ_self _))
          · exact absurd (List.mem_singleton.mp z) (Nat.ne_of_gt lt)
        refine set_update_ints ((Walks.list (show Ar.in1.in1.in1.handled = none by simp [calm]) _ b nI cells).toS) sh.heap.objs.size nS ks nz few (fun i v hv => ?_) (cells.size - 0) 0 _ (by omega) (Nat.zero_le _)
          ⟨⟨_, Heap.get?_push_size _ rfl, rfl, rfl⟩, il.push _⟩ ⟨0, Nat.le_refl 0, setR_new_at (Heap.get?_push_of_some _ gS)⟩ fun s3 m hm hm2 hR => ?_
        · have hi : i < ks.length := by rw [← nz]; exact (Array.getElem?_eq_some_iff.mp hv).1
          obtain ⟨t, e⟩ := PyProof.Rows.IntsAre.int_at are i v (by rw [Array.getElem?_toList]; exact hv)
          refine ⟨ks[i], t, List.getElem?_eq_getElem hi, ?_⟩
          rw [e, List.getD_eq_getElem?_getD, List.getElem?_eq_getElem hi] <;> rfl
        · obtain ⟨hp, g3, d3, tk, o3⟩ := s3
          cases (show g3 = sh.gens from hm.gens)
          cases (show d3 = sh.drawn from hm.drawn)
          cases (show o3 = sh.os from hm.os)
          refine wpAny_pure (show wpAny _ _ (ret Value.none) _ _ _ from wpAny_pure ⟨rfl, hp, tk, m, rfl, hR, by omega, fun p o e => ?_⟩)
          have lp : p < sh.heap.objs.size := Heap.lt_size e
          refine hm.heap p o (fun hmem => ?_) (Heap.get?_push_of_some _ (Heap.get?_push_of_some _ e))
          rw [sz] at hmem
          rcases List.mem_cons.mp hmem with z | z
          · exact absurd z (Nat.ne_of_lt lp)
          · exact absurd (List.mem_singleton.mp z) (Nat.ne_of_lt (Nat.lt_succ_of_lt lp))
      · cases z2 with
        | error e => exact hz2
        | ok z2 =>
          cases z2 with
          | ret r =>
            obtain ⟨rfl, hp, tk, m, rfl, hR, hm, hk⟩ := hz2
            repeat (any_goals (first | assumption | wp_step))
            exact done _ _ _ hR hm hk
          | _ => exact hz2.elim
    | _ => exact hz.elim
end
section
variable {X : Cx}
/-- set(xs) -/
def rSetI (W : World) (K : PySem.W.Frag) : List V → Hp → VK → Prop := fun vs H Q => ∃ (a : Addr) (ks : List Int), vs = [V.ref a] ∧ SqL K H a (ks.map V.int) ∧ ks.length ≤ 1000 ∧
  ∀ (p : Addr) (m : Nat), H p = none → m ≤ ks.length → Q (.ref p) (upd H p (SetO W p (fun j => decide (j ∈ ks)) m))
theorem cr_setI (hc : X.calm = true) : CallR X (.type "set") (rSetI X.w X.K) := by
  intro pins s σ H vs us Q I r h
  obtain ⟨a, ks, rfl, ha, hz, q⟩ := h
  rw [Vals.ref1 r]
  obtain ⟨its, rv, pl, hl⟩ := I.list ha
  refine set_of_ints ks (I.ok.hd hc) pl.isList (ints_of_vals rv) (by unfold scanBound; omega) fun hp tk m R hm hk => ?_
  exact ⟨.ref _, upd H s.heap.objs.size (SetO X.w s.heap.objs.size (fun j => decide (j ∈ ks)) m), I.laid (t' := tk) hk (Nat.le_refl _) (setO_new R), rfl, q _ _ (I.hok.fresh (Nat.le_refl _)) hm⟩
end
end CW
namespace CW
open PySem PySem.Spec PyProof.Rows L2
open Evl (Ex Ex.refl Ex.trans Ex.new Ex.mut fresh_back)
section
variable {K : PySem.W.Frag} {σ : L2.St} {F A : Hp} {ta : TA} {D : Ends} {tz tb : TS} {g : TG}
/-- for i, x in enumerate(xs) -/
theorem sq_forE {α : Type} {Po : Obs α} (hPo : Mono Po) {xs : List α} (hx : Ex F A) (h : Gv (ta σ) F (fun vs H1 => ∃ v, vs = [v] ∧ oLst Po H1 v xs)) (W : Hp → Nat → L2.St → Hp → Hp → Prop)
    (hW : ∀ B i σ' F' A', W B i σ' F' A' → Ex B F' ∧ Ex F' A') (h0 : ∀ F' A', Up F A F' A' → W F' 0 σ F' A')
    (hs : ∀ B i x v σ' F' A' T, xs[i]? = some x → W B i σ' F' A' → Po F' v x → A' T = none → g (.ref T) σ' (upd A' T (.tup [.int (i : Nat), v])) fun σ2 A2 => tb { D with nx := fun σ3 A3 => ∃ F3, W B (i + 1) σ3 F3 A3, ct := fun σ3 A3 => ∃ F3, W B (i + 1) σ3 F3 A3, bk := tz D } σ2 A2)
    (hd : ∀ B σ' F' A', W B xs.length σ' F' A' → tz D σ' A') : tSeq (tFor (iEnum K ta) g tb) tz D σ A := by
  refine h A hx _ fun vs F1 A1 u p => ?_
  obtain ⟨v, rfl, a, ws, rfl, ha, hi⟩ := p
  refine ⟨a, ws, rfl, SqL.of (u.c a _ ha), fun i m σ' A' => m = xs.length - i ∧ i ≤ xs.length ∧ ∃ F', W F1 i σ' F' A', ⟨xs.length, rfl, Nat.zero_le _, F1, h0 F1 A1 u⟩, ?_⟩
  rintro i m σ' A' ⟨rfl, hle, F', w⟩
  obtain ⟨e1, e2⟩ := hW _ _ _ _ _ w
  have hq : SqL K A' a ws := SqL.of (e2 a _ (e1 a _ ha))
  have hl := hi.length
  by_cases hlt : i < xs.length
  · have hlw : i < ws.length := by rw [hl]; exact hlt
    refine .inr ⟨⟨ws, ws[i], hq, List.getElem?_eq_getElem hlw⟩, fun σ3 A3 => ∃ F3, W F1 (i + 1) σ3 F3 A3, fun σ3 A3 ⟨F3, w3⟩ => ⟨xs.length - (i + 1), by omega, rfl, hlt, F3, w3⟩, fun y A2 hy => ?_⟩
    obtain ⟨T, x, rfl, hT, rfl, hall⟩ := hy
    obtain ⟨y, hy1, hy2⟩ := hi.get (hall ws hq)
    exact hs F1 i y x σ' F' A' T hy1 w (hPo _ _ _ _ e1 hy2) hT
  · have : i = xs.length := by omega
    subst this
    exact .inl ⟨⟨ws, hq, by omega⟩, hd F1 σ' F' A' w⟩
theorem spans_get : ∀ (cs : List Int) (i : Nat) (c : Int), cs[i]? = some c → (CB.spans cs)[i]? = some (c, (cs[i + 1]?).map (· - 1))
  | [], i, c, h => by simp at h
  | [x], 0, c, h => by
    have h := Option.some.inj h
    subst h; rfl
  | [x], i + 1, c, h => by simp at h
  | x :: y :: r, 0, c, h => by
    have h := Option.some.inj h
    subst h; rfl
  | x :: y :: r, i + 1, c, h => by
    have := spans_get (y :: r) i c h
    exact this
end
section
variable {P : Program} {w : World} {K : PySem.W.Frag} {mg : Str → Option Value} {base : Heap} {f C fE : Addr} {fd : FuncData}
/-! ### stretches -/
theorem scStr : FnScope ["cuts", "found", "k", "first", "last"] ["cuts"] (defScope sStr) := ⟨rfl, rfl, rfl, by decide +kernel, rfl, by decide +kernel, by decide +kernel⟩
theorem cal_str (F : Fun K "stretches" "stretches" sStr f fd) (g : mg "stretches" = some (.ref f)) (m1 : mg "sorted" = none) (m2 : mg "set" = none) (m3 : mg "enumerate" = none) (m4 : mg "len" = none) : Cal P w K mg base "stretches" 1 spStr := by
  refine cal_mk F g scStr (fun _ _ _ _ _ _ us hl => match us, hl with | [_], _ => rfl) (fun vs H Q E ⟨x, H0, _, ⟨v, e, _⟩, _⟩ => by rw [e]; rfl) fun cdv A outer s H vs Q E hr ⟨cs, H0, hx, ⟨v, e, hv, hz⟩, q⟩ => ?_
  subst e
  have hz : cs.length ≤ 62 := hz
  refine ⟨_, pss_cons (ps_set (i := 0) scStr.nd rfl (.inl rfl) (pe_callB (cr_sortedSet rfl) (by rfl) m1 (by decide +kernel) (pa_cons (pe_callTy (cr_setI rfl) (by rfl) m2 (by decide +kernel) (pa_cons (pv 0) pa_nil)) pa_nil)))
    (pss_cons (ps_set (i := 1) scStr.nd rfl (.inl rfl) (pe_lst pa_nil))
    (pss_cons (ps_for PassesOwn.never rfl (pi_enum (by rfl) m3 (pa_cons (pv 0) pa_nil)) (pg_tup rfl (pgs_cons (pg_name (i := 2) scStr.nd rfl (.inl rfl)) (pgs_cons (pg_name (i := 3) scStr.nd rfl (.inl rfl)) pgs_nil)))
      (pss_cons (ps_set (i := 4) scStr.nd rfl (.inl rfl) pe_non)
      (pss_cons (ps_if (pt_cmpR op_lt (pe_op op_add (pv 2) pe_int) (pe_callB call_len_seq (by rfl) m4 (by decide +kernel) (pa_cons (pv 0) pa_nil)) (nomark _)) (pss_one (ps_set (i := 4) scStr.nd rfl (.inl rfl) (pe_op op_sub (pe_ix ix_list (pv 0) (pe_op op_add (pv 2) pe_int) (fun _ _ => rfl)) pe_int))) pss_nil)
      (pss_one (ps_expr (pe_bm PySem.F.plainAttrs_list PySem.F.slot_list_append PySem.F.type_list_append mt_append (pv 1) (pa_cons (pe_tup (pa_cons (pv 3) (pa_cons (pv 4) pa_nil))) pa_nil)))))))
    (pss_one (ps_ret (pv 1))))), ?_⟩
  have hcl := CB.sortU_length cs
  -- cuts = sorted(set(cuts))
  refine sq_asg (P := fun v F => oLst oInt F v (CB.sortU cs)) hx ?_ fun v1 F1 A1 u1 h1 => ?_
  · refine gv_cb (PA := fun vs H' => ∃ a n, vs = [V.ref a] ∧ H' a = some (SetO w a (fun j => decide (j ∈ cs)) n) ∧ n ≤ cs.length) (ga_cons (gv_cb (PA := fun vs H' => vs = [v] ∧ oLst oInt H' v cs) (ga_cons (gv_var rfl (P := fun z H' => z = v ∧ oLst oInt H' v cs) ⟨rfl, hv⟩) fun z H2 e2 h2 => ga_nil ⟨by rw [h2.1], h2.2⟩)
      fun vs H2 e2 ⟨hvs, hv2⟩ => show Gv _ _ (fun (z : V) H' => ∃ a n, z = V.ref a ∧ H' a = some (SetO w a (fun j => decide (j ∈ cs)) n) ∧ n ≤ cs.length) from ?_) fun z H2 e2 ⟨a, n, hz', h1, h2⟩ => ga_nil ⟨a, n, by rw [hz'], h1, h2⟩) fun vs H2 e2 ⟨a, n, hvs, ha, hn⟩ => ?_
    · subst hvs
      obtain ⟨a, ws, rfl, ha, hi⟩ := hv2
      have := ints_items hi
      subst this
      refine fun H3 e3 R r => ⟨a, cs, rfl, SqL.of (e3 _ _ ha), by omega, fun p m np hm => r _ _ _ (Up.new e3 np) ⟨p, m, rfl, upd_same, hm⟩⟩
    · subst hvs
      refine fun H3 e3 R r => ⟨a, _, n, rfl, e3 _ _ ha, by omega, fun ns p hp hm hl np => r _ _ _ (Up.new e3 np) ?_⟩
      have : ns = CB.sortU cs := CB.sortU_uniq hp fun z => (hm z).trans (by rw [decide_eq_true_eq])
      subst this
      exact ⟨p, _, rfl, upd_same, items_ints _⟩
  refine sq_nil u1 fun p nH nF u2 => ?_
  refine sq_forE mono_int u2.c (xs := CB.sortU cs) (ga_cons (gv_var rfl h1) fun z H2 e2 h2 => ga_nil ⟨z, rfl, h2⟩)
    (fun B i σ F A => Ex B F ∧ Up H0 H F A ∧ F p = none ∧ ∃ ws y2 y3 y4, σ = [some v1, some (.ref p), y2, y3, y4] ∧ A p = some (.lst ws) ∧ ws.length ≤ i ∧ oLst oInt F v1 (CB.sortU cs) ∧ Items oRun F ws ((CB.spans (CB.sortU cs)).take i))
    (fun B i σ F A ⟨e, u, _⟩ => ⟨e, u.c⟩) (fun F2 A2 u2' => ⟨Ex.refl _, u2.trans u2', u2'.n p (by rw [upd_same]; simp) nF, [], none, none, none, rfl, u2'.b _ _ upd_same, Nat.zero_le _, mono_lst mono_int _ _ _ _ u2'.a h1, trivial⟩) ?_ ?_
  · rintro B i c cv σ F2 A2 T hi ⟨eB, u3, np, ws, y2, y3, y4, rfl, hws, hlen, hv1, hit⟩ hcv hT
    have hcv : cv = .int c := hcv
    subst hcv
    refine g_two upd_same ?_
    have hTF : F2 T = none := none_of_ex u3.c hT
    have hTH : H T = none := none_of_ex u3.b hT
    have u4 : Up H0 H F2 (upd A2 T (.tup [.int (i : Nat), .int c])) := u3.touch hTH hTF
    have hpT : p ≠ T := fun z => by rw [z] at hws; rw [hws] at hT; cases hT
    have hws4 : upd A2 T (.tup [.int (i : Nat), .int c]) p = some (.lst ws) := by rw [upd_ne hpT]; exact hws
    have hil : i < (CB.sortU cs).length := (List.getElem?_eq_some_iff.mp hi).1
    have hsp := spans_get _ _ _ hi
    have step : (CB.spans (CB.sortU cs)).take (i + 1) = (CB.spans (CB.sortU cs)).take i ++ [(c, ((CB.sortU cs)[i + 1]?).map (· - 1))] := by
      rw [List.take_add_one, hsp]; rfl
    refine sq_asg (P := fun v _ => v = .non) u4.c (gv_c rfl) fun z F5 A5 u5 hz5 => ?_
    subst hz5
    have lenc : ∀ {σ : L2.St} {F5 : Hp}, σ[0]? = some (some v1) → Ex F2 F5 → Gv (tCB (Evl.rLenS K) (tCons (tVar 0) tNil) σ) F5 (fun v _ => v = .int ((CB.sortU cs).length : Nat)) := fun {σ F5} hσ e5 =>
      gv_cb (PA := fun vs H' => vs = [v1] ∧ oLst oInt H' v1 (CB.sortU cs)) (ga_cons (gv_var hσ (P := fun z H' => z = v1 ∧ oLst oInt H' v1 (CB.sortU cs)) ⟨rfl, mono_lst mono_int _ _ _ _ e5 hv1⟩) fun z H2 e2 h2 => ga_nil ⟨by rw [h2.1], h2.2⟩) fun vs H2 e2 ⟨hvs, h2⟩ => by
        subst hvs
        exact gv_lenL h2 rfl
    have idx : ∀ {σ : L2.St} {F5 : Hp}, σ[2]? = some (some (.int (i : Nat))) → Gv (tOp (rI0 fun i j => .int (i + j)) (tVar 2) (tC (.int 1)) σ) F5 (fun v _ => v = .int ((i : Int) + 1)) := fun {σ F5} hσ => gv_opI (gv_var (P := fun v _ => v = .int (i : Nat)) hσ rfl) (fun _ _ => gv_c rfl) fun _ _ => rfl
    -- the append
    have app : ∀ {F6 A6 : Hp} (o : Option Int) (D : Ends), Up H0 H F6 A6 → Ex F2 F6 → Ex B F6 → F6 p = none → A6 p = some (.lst ws) → o = ((CB.sortU cs)[i + 1]?).map (· - 1) →
        (∀ σ3 A3, (∃ F3, Ex B F3 ∧ Up H0 H F3 A3 ∧ F3 p = none ∧ ∃ ws y2 y3 y4, σ3 = [some v1, some (.ref p), y2, y3, y4] ∧ A3 p = some (.lst ws) ∧ ws.length ≤ i + 1 ∧ oLst oInt F3 v1 (CB.sortU cs) ∧ Items oRun F3 ws ((CB.spans (CB.sortU cs)).take (i + 1))) → D.nx σ3 A3) →
        tDrop (tBM K "list" rAppend (tVar 1) (tCons (tTup (tCons (tVar 3) (tCons (tVar 4) tNil))) tNil)) D [some v1, some (.ref p), some (.int (i : Nat)), some (.int c), some (oV o)] A6 := fun {F6 A6} o D u6 e6 eB6 np6 hw6 ho hD => by
      refine st_app (P := fun v F' => oRun F' v (c, o)) u6.c hw6 np6 rfl (by omega) (gv_pair mono_int mono_opt (gv_var (v := .int c) rfl rfl) (fun H5 e5 => gv_var (v := oV o) rfl rfl)) fun x F7 A7 u7 hx7 np7 hA7 => ?_
      refine hD _ _ ⟨F7, eB6.trans u7.a, (u6.trans u7).touch nH np7, np7, ws ++ [x], _, _, _, rfl, upd_same, by rw [List.length_append]; show ws.length + 1 ≤ i + 1; omega, mono_lst mono_int _ _ _ _ (e6.trans u7.a) hv1, ?_⟩
      rw [step, ← ho]
      exact Items.snoc hx7 (hit.mono mono_run (e6.trans u7.a))
    have np5 : F5 p = none := u5.n p (fun z => by rw [hws4] at z; cases z) np
    have hws5 := u5.b _ _ hws4
    refine sq_when u5.c (b := decide ((i : Int) + 1 < ((CB.sortU cs).length : Nat))) (gt_test (gv_opI (idx rfl) (fun H2 e2 => lenc rfl (u5.a.trans e2)) fun _ _ => rfl)) (fun hb F6 A6 u6 => ?_) (fun hb F6 A6 u6 => ?_)
    · have hlt : i + 1 < (CB.sortU cs).length := by have := of_decide_eq_true hb; omega
      refine st_asg (P := fun v _ => v = .int ((CB.sortU cs)[i + 1] - 1)) u6.c (gv_opI (i := (CB.sortU cs)[i + 1]) (gv_op (Pa := fun v F' => oLst oInt F' v (CB.sortU cs)) (Pb := fun v _ => v = .int ((i : Int) + 1)) (gv_var rfl (mono_lst mono_int _ _ _ _ (u5.a.trans u6.a) hv1)) (fun _ _ _ _ => idx rfl) fun x y H2 H3 e2 e3 hx2 hy2 => ?_) (fun _ _ => gv_c rfl) fun _ _ => rfl) fun z F7 A7 u7 hz7 => ?_
      · subst hy2
        refine (gv_ixL (y := (CB.sortU cs)[i + 1]) (mono_lst mono_int _ _ _ _ e3 hx2) ?_).imp fun v H4 _ h => h.1
        have : ((i : Int) + 1) = ((i + 1 : Nat) : Int) := by omega
        rw [this]
        exact atI_nat (List.getElem?_eq_getElem hlt)
      · subst hz7
        refine app (some ((CB.sortU cs)[i + 1] - 1)) _ (((u4.trans u5).trans u6).trans u7) ((u5.a.trans u6.a).trans u7.a) (((eB.trans u5.a).trans u6.a).trans u7.a) ?_ ?_ ?_ fun _ _ z => z
        · exact u7.n p (fun z => by rw [u6.b _ _ hws5] at z; cases z) (u6.n p (fun z => by rw [hws5] at z; cases z) np5)
        · exact u7.b _ _ (u6.b _ _ hws5)
        · rw [List.getElem?_eq_getElem hlt]; rfl
    · have hlt : ¬ i + 1 < (CB.sortU cs).length := by have := of_decide_eq_false hb; omega
      refine app none _ ((u4.trans u5).trans u6) (u5.a.trans u6.a) ((eB.trans u5.a).trans u6.a) (u6.n p (fun z => by rw [hws5] at z; cases z) np5) (u6.b _ _ hws5) ?_ fun _ _ z => z
      rw [List.getElem?_eq_none (by omega)]; rfl
  · rintro B σ F2 A2 ⟨eB, u3, np, ws, y2, y3, y4, rfl, hws, hlen, hv1, hit⟩
    have : (CB.spans (CB.sortU cs)).take (CB.sortU cs).length = CB.spans (CB.sortU cs) := by rw [← CB.spans_length, List.take_length]
    rw [this] at hit
    refine ⟨.ref p, rfl, q _ (upd F2 p (.lst ws)) A2 (u3.known nH np hws) ⟨p, ws, rfl, upd_same, hit.mono mono_run (Ex.new np)⟩⟩
end
end CW
namespace CW
open PySem PySem.Spec PyProof.Rows L2
open Evl (Ex Ex.refl Ex.trans Ex.new Ex.mut fresh_back)
/-! ### a dict whose keys are runs -/
def endKey : Option Int → NestedKey
  | none => .none
  | some b => .num b
def keyOf (r : CB.Run) : NestedKey := .tup [.num r.1, endKey r.2]
theorem keyOf_inj {r r' : CB.Run} (h : keyOf r = keyOf r') : r = r' := by
  obtain ⟨a, b⟩ := r
  obtain ⟨c, d⟩ := r'
  unfold keyOf at h
  injection h with h
  injection h with h1 h2
  injection h1 with h1
  injection h2 with h2 _
  have e : b = d := by
    cases b <;> cases d <;> simp [endKey] at h2 <;> first | rfl | (rw [h2])
  simp only at h1
  rw [h1, e]
/-- the run, its tuple's address, its first row -/
abbrev Beg := CB.Run × Addr × Int
abbrev RawB := NestedKey × Addr × Value
def rawRel (y : Beg) (x : RawB) : Prop := x.1 = keyOf y.1 ∧ x.2.1 = y.2.1 ∧ ∃ t, x.2.2 = .int y.2.2 t
def RawAt (P : Program) (w : World) (h : Heap) (d : Addr) (xs : List RawB) : Prop := ∃ o es ep, h.get? d = some o ∧ o.ExactDict ∧ o.data = .dict es ep ∧ es.toList = xs.map (entryOfKey (nestedKind P w)) ∧ (xs.map (·.1)).Nodup
def BegO (P : Program) (w : World) (d : Addr) (ys : List Beg) : HO := .ext fun h => (d == sysModules) = false ∧ ∃ xs, Paired rawRel ys xs ∧ RawAt P w h d xs
theorem RawAt.at {P : Program} {w : World} {h h' : Heap} {d : Addr} {xs : List RawB} (r : RawAt P w h d xs) (k : ∀ o, h.get? d = some o → h'.get? d = some o) : RawAt P w h' d xs := by
  obtain ⟨o, es, ep, ho, x⟩ := r
  exact ⟨o, es, ep, k _ ho, x⟩
theorem begO_new {P : Program} {w : World} {H : Hp} {h : Heap} {d : Addr} {ys : List Beg} {xs : List RawB} (hs : (d == sysModules) = false) (p : Paired rawRel ys xs) (r : RawAt P w h d xs) : ObjOk P w H h d (BegO P w d ys) := by
  refine ⟨⟨hs, xs, p, r⟩, let ⟨o, _, _, ho, _⟩ := r; ⟨o, ho⟩, fun h1 h2 q k => ?_⟩
  obtain ⟨z, xs, p, r⟩ := q
  exact ⟨z, xs, p, r.at k⟩
def BK (H : Hp) (ys : List Beg) : Prop := ∀ y ∈ ys, H y.2.1 = some (.tup [.int y.1.1, oV y.1.2])
theorem BK.mono {H H' : Hp} {ys : List Beg} (b : BK H ys) (e : Ex H H') : BK H' ys := fun y hy => e _ _ (b y hy)
theorem paired_memR {α β : Type} {F : α → β → Prop} : ∀ {xs : List α} {ys : List β}, Paired F xs ys → ∀ {y : β}, y ∈ ys → ∃ x ∈ xs, F x y
  | _, _, .cons h t, y, hy => by
    rcases List.mem_cons.mp hy with e | hy
    · subst e
      exact ⟨_, List.mem_cons_self, h⟩
    · obtain ⟨x, hx, r⟩ := paired_memR t hy
      exact ⟨x, List.mem_cons_of_mem _ hx, r⟩
theorem paired_memL {α β : Type} {F : α → β → Prop} : ∀ {xs : List α} {ys : List β}, Paired F xs ys → ∀ {x : α}, x ∈ xs → ∃ y ∈ ys, F x y
  | _, _, .cons h t, y, hy => by
    rcases List.mem_cons.mp hy with e | hy
    · subst e
      exact ⟨_, List.mem_cons_self, h⟩
    · obtain ⟨x, hx, r⟩ := paired_memL t hy
      exact ⟨x, List.mem_cons_of_mem _ hx, r⟩
theorem paired_snoc {α β : Type} {F : α → β → Prop} {x : α} {y : β} (hxy : F x y) : ∀ {xs : List α} {ys : List β}, Paired F xs ys → Paired F (xs ++ [x]) (ys ++ [y])
  | _, _, .nil => .cons hxy .nil
  | _, _, .cons h t => .cons h (paired_snoc hxy t)
theorem raw_without {r : CB.Run} : ∀ {ys : List Beg} {xs : List RawB}, Paired rawRel ys xs → Paired rawRel (ys.filter fun y => decide (y.1 ≠ r)) (withoutH xs (keyOf r))
  | _, _, .nil => .nil
  | _, _, @Paired.cons _ _ _ y x ys xs h t => by
    have ih := raw_without (r := r) t
    unfold withoutH at ih ⊢
    rw [List.filter_cons, List.filter_cons]
    by_cases q : y.1 = r
    · have q2 : x.1 = keyOf r := by rw [h.1, q]
      rw [if_neg (by simp [q]), if_neg (by simp [q2])]
      exact ih
    · have q2 : x.1 ≠ keyOf r := fun z => q (keyOf_inj (h.1.symm.trans z))
      rw [if_pos (by simp [q]), if_pos (by simp [q2])]
      exact .cons h ih
theorem raw_at {r : CB.Run} {ys : List Beg} {xs : List RawB} (p : Paired rawRel ys xs) : (atKey xs (keyOf r)).isSome = true ↔ r ∈ ys.map (·.1) := by
  unfold atKey
  rw [Option.isSome_map, List.find?_isSome]
  constructor
  · rintro ⟨x, hx, e⟩
    obtain ⟨y, hy, q⟩ := paired_memR p hx
    have e : x.1 = keyOf r := of_decide_eq_true e
    have : y.1 = r := keyOf_inj (q.1.symm.trans e)
    exact List.mem_map.mpr ⟨y, hy, this⟩
  · intro h
    obtain ⟨y, hy, e⟩ := List.mem_map.mp h
    obtain ⟨x, hx, q⟩ := paired_memL p hy
    exact ⟨x, hx, decide_eq_true (by rw [q.1, e])⟩
section
variable {X : Cx} {pins : List (Addr × Obj)} {σ : L2.St} {H : Hp} {s : Shared} {d : Addr}
theorem nested_of (I : Inv X pins σ H s) {a : Addr} {r : CB.Run} (h : H a = some (.tup [.int r.1, oV r.2])) : (nestedKind X.prog X.w).is s.heap (keyOf r) a := by
  obtain ⟨its, rv, ⟨o, ho, hc, n, hd⟩, _⟩ := I.tuple (SqT.of h)
  refine ⟨?_, ?_⟩
  · cases rv with
    | cons r1 t1 =>
      cases t1 with
      | cons r2 t2 =>
        cases t2
        obtain ⟨t, rfl⟩ := r1
        refine .tup ho hc hd (.cons (.int _ _) (.cons ?_ .nil))
        obtain ⟨ra, rb⟩ := r
        cases rb with
        | none =>
          cases r2
          exact .none
        | some b =>
          obtain ⟨t, rfl⟩ := r2
          exact .int _ _
  · obtain ⟨ra, rb⟩ := r
    cases rb <;> simp [keyOf, endKey, NestedKey.depth, NestedKey.depthAll]
theorem begO_get {ys : List Beg} (I : Inv X pins σ H s) (hd : H d = some (BegO X.prog X.w d ys)) : (d == sysModules) = false ∧ ∃ xs, Paired rawRel ys xs ∧ RawAt X.prog X.w s.heap d xs := (I.hok d _ hd).1
theorem dictH_of {ys : List Beg} (I : Inv X pins σ H s) {xs : List RawB} (p : Paired rawRel ys xs) (r : RawAt X.prog X.w s.heap d xs) (k : BK H ys) : s.heap.DictOfH (nestedKind X.prog X.w) d xs := by
  obtain ⟨o, es, ep, ho, hx, hd, he, hn⟩ := r
  refine ⟨o, es, ep, ho, hx, hd, he, fun x hx => ?_, hn⟩
  obtain ⟨y, hy, q⟩ := paired_memR p hx
  rw [q.1, q.2.1]
  exact nested_of I (k y hy)
theorem rawAt_of {xs : List RawB} {h : Heap} {P : Program} {w : World} (r : h.DictOfH (nestedKind P w) d xs) : RawAt P w h d xs := by
  obtain ⟨o, es, ep, ho, hx, hd, he, _, hn⟩ := r
  exact ⟨o, es, ep, ho, hx, hd, he, hn⟩
theorem begO_ty {ys : List Beg} (I : Inv X pins σ H s) (hd : H d = some (BegO X.prog X.w d ys)) : s.TypeIs (.ref d) "dict" ∧ ∀ a, Value.ref d = .ref a → ∃ ob, s.heap.get? a = some ob ∧ ob.dict = none := by
  obtain ⟨_, xs, _, o, es, ep, ho, hx, hdt, _⟩ := begO_get I hd
  exact ⟨⟨o, ho, hx.1⟩, fun a e => by cases e; exact ⟨o, ho, hx.2.1⟩⟩
end
/-! ### {}, setdefault, pop, items -/
def setB (ys : List Beg) (r : CB.Run) (a : Addr) (i : Int) : List Beg := if r ∈ ys.map (·.1) then ys else ys ++ [(r, a, i)]
def popB (ys : List Beg) (r : CB.Run) : List Beg := ys.filter fun y => decide (y.1 ≠ r)
section
variable {X : Cx} {o e : Expr} {es : List Expr} {td : TE} {t : TA} {apos cpos pos : Pos}
def tBNew (P : Program) (w : World) : TE := fun _ H Q => ∀ p, H p = none → Q (.ref p) (upd H p (BegO P w p []))
theorem pe_bnew : PE X (.Dict [] [] pos) (tBNew X.prog X.w) := ⟨fun pins s σ H Q I h =>
  wpAny_Dict_empty ⟨.ref s.heap.objs.size, _, I.laid (a := s.heap.objs.size) (t' := s.toks) (fun _ _ q => Heap.get?_push_of_some _ q) (Nat.le_refl _)
    (begO_new (xs := []) (beq_eq_false_iff_ne.mpr (Ne.symm (Nat.ne_of_lt I.big))) .nil ⟨_, #[], 0, Heap.get?_push_size _ rfl, ⟨rfl, rfl, rfl⟩, rfl, rfl, List.nodup_nil⟩), rfl, h _ (I.hok.fresh (Nat.le_refl _))⟩⟩
/-- d.setdefault(run, i) -/
def rBSet (P : Program) (w : World) : V → List V → Hp → VK → Prop := fun x xs H Q => ∃ (d a : Addr) (ys : List Beg) (r : CB.Run) (i : Int), x = .ref d ∧ xs = [.ref a, .int i] ∧ H d = some (BegO P w d ys) ∧ H a = some (.tup [.int r.1, oV r.2]) ∧ BK H ys ∧ ys.length ≤ 10000 ∧
  ∀ v, Q v (upd H d (BegO P w d (setB ys r a i)))
def rBPop (P : Program) (w : World) : V → List V → Hp → VK → Prop := fun x xs H Q => ∃ (d a : Addr) (ys : List Beg) (r : CB.Run), x = .ref d ∧ xs = [.ref a] ∧ H d = some (BegO P w d ys) ∧ H a = some (.tup [.int r.1, oV r.2]) ∧ BK H ys ∧ ys.length ≤ 10000 ∧ r ∈ ys.map (·.1) ∧
  ∀ v, Q v (upd H d (BegO P w d (popB ys r)))
def tBM1 (P : Program) (w : World) (rr : V → List V → Hp → VK → Prop) (to : TE) (t : TA) : TE := fun σ H Q => to σ H fun x H1 => (∃ d ys, x = V.ref d ∧ H1 d = some (BegO P w d ys)) ∧ t σ H1 fun xs H2 => rr x xs H2 Q
theorem raw_len {ys : List Beg} {xs : List RawB} (p : Paired rawRel ys xs) : xs.length = ys.length := (Paired.length p).symm
theorem mt_bset (hu : X.A.units + 9 < cLine) : MtR X "dict.setdefault" (rBSet X.prog X.w) := by
  intro pins s σ H x xs v us Q I rx rxs h
  obtain ⟨d, a, ys, r, i, rfl, rfl, hd, ha, hk, hz, q⟩ := h
  cases rx
  cases rxs with
  | cons ra rt =>
    cases rt with
    | cons ri rt =>
      cases rt
      cases ra
      obtain ⟨ti, rfl⟩ := ri
      obtain ⟨hs, raw, hp, hr⟩ := begO_get I hd
      have hl := raw_len hp
      refine call_setdefault_heap (knd := nestedKind X.prog X.w) (k := keyOf r) (xs := raw) (by show X.A.in1.units + 8 < cLine; exact hu) (nested_of I ha) hs (dictH_of I hp hr hk) (fun p he => ?_) (fun he h' hd' sb => ?_) (by rw [hl]; exact sz100 (by omega))
      · have hin : r ∈ ys.map (·.1) := (raw_at hp).mp (by rw [he]; rfl)
        have e : setB ys r a i = ys := if_pos hin
        have hmem : ∃ x ∈ raw, x.2 = p := by
          unfold atKey at he
          obtain ⟨x, hx, e⟩ := Option.map_eq_some_iff.mp he
          exact ⟨x, List.mem_of_find?_eq_some hx, e⟩
        obtain ⟨x, hx, rfl⟩ := hmem
        obtain ⟨y, hy, _, _, tt, ht⟩ := paired_memR hp hx
        have J := I.write (x := d) (e := d) (t' := s.toks + (nestedKind X.prog X.w).draws (keyOf r)) (h' := s.heap) (o := BegO X.prog X.w d ys) (by rw [hd]; trivial) (.inl rfl) (fun b u _ q => q) (let ⟨o, _, _, ho, _⟩ := hr; ⟨o, ho⟩) (begO_new hs hp hr)
        refine ⟨.int y.2.2, _, J, ⟨tt, ht⟩, ?_⟩
        have := q (.int y.2.2)
        rw [e] at this
        exact this
      · have hin : r ∉ ys.map (·.1) := fun z => by
          have := (raw_at hp).mpr z
          rw [he] at this; cases this
        have e : setB ys r a i = ys ++ [(r, a, i)] := if_neg hin
        rw [storedH_new he] at hd'
        have hr' := rawAt_of hd'
        have hp' : Paired rawRel (ys ++ [(r, a, i)]) (raw ++ [(keyOf r, a, .int i ti)]) := paired_snoc ⟨rfl, rfl, ti, rfl⟩ hp
        have J := I.write (x := d) (e := d) (t' := s.toks + (nestedKind X.prog X.w).draws (keyOf r)) (h' := h') (o := BegO X.prog X.w d (ys ++ [(r, a, i)])) (by rw [hd]; trivial) (.inl rfl) (fun b u hb q => (sb.2 b hb).trans q) (let ⟨o, _, _, ho, _⟩ := hr'; ⟨o, ho⟩) (begO_new hs hp' hr')
        refine ⟨.int i, _, J, ⟨ti, rfl⟩, ?_⟩
        have := q (.int i)
        rw [e] at this
        exact this
theorem mt_bpop (hu : X.A.units + 9 < cLine) : MtR X "dict.pop" (rBPop X.prog X.w) := by
  intro pins s σ H x xs v us Q I rx rxs h
  obtain ⟨d, a, ys, r, rfl, rfl, hd, ha, hk, hz, hin, q⟩ := h
  cases rx
  cases rxs with
  | cons ra rt =>
    cases rt
    cases ra
    obtain ⟨hs, raw, hp, hr⟩ := begO_get I hd
    have hl := raw_len hp
    have he := (raw_at hp).mpr hin
    obtain ⟨p, he⟩ := Option.isSome_iff_exists.mp he
    have hmem : ∃ x ∈ raw, x.2 = p := by
      unfold atKey at he
      obtain ⟨x, hx, e⟩ := Option.map_eq_some_iff.mp he
      exact ⟨x, List.mem_of_find?_eq_some hx, e⟩
    obtain ⟨x, hx, rfl⟩ := hmem
    obtain ⟨y, hy, _, _, tt, ht⟩ := paired_memR hp hx
    refine call_pop_heap (knd := nestedKind X.prog X.w) (k := keyOf r) (xs := raw) (more := []) (.inl rfl) (F.args_dict_pop_2 _ _) (by show X.A.in1.units + 8 < cLine; exact hu) (nested_of I ha) hs (dictH_of I hp hr hk) he (fun h' hd' sb => ?_) (by rw [hl]; exact sz100 (by omega))
    have hr' := rawAt_of hd'
    have J := I.write (x := d) (e := d) (t' := s.toks + (nestedKind X.prog X.w).draws (keyOf r)) (h' := h') (o := BegO X.prog X.w d (popB ys r)) (by rw [hd]; trivial) (.inl rfl) (fun b u hb q => (sb.2 b hb).trans q) (let ⟨o, _, _, ho, _⟩ := hr'; ⟨o, ho⟩) (begO_new hs (raw_without hp) hr')
    exact ⟨.int y.2.2, _, J, ⟨tt, ht⟩, q _⟩
theorem pe_bm1 {id : String} {m : Str} {rr : V → List V → Hp → VK → Prop} (slot : Slot "dict" m id) (ty : typeOf (.builtin id) = pure (.type "method_descriptor")) (hm : MtR X id rr) (ho : PE X o td) (ha : PA X (e :: es) t)
    (hbase : attributeBase o m X.env (eval o X.env) = eval o X.env := by rfl)
    (hfew : ((backTo cpos (starEach (e :: es) X.env)).all (fun x => !x.1) && (backToKw cpos (keywordEach [] X.env)).all (fun x => x.1.isSome)
      && decide ((e :: es).length + ([] : List Keyword).length + (if ([] : List Keyword).isEmpty then 0 else 1) < 30)) = true := by rfl)
    (hline : (apos.endLine == cpos.line) = true := by rfl) (hs : starEach (e :: es) X.env = (false, eval e X.env) :: starEach es X.env := by rfl) (hplain : (backTo cpos (starEach es X.env)).any (·.1) = false := by rfl) :
    PE X (.Call (.Attribute o m apos) (e :: es) [] cpos) (tBM1 X.prog X.w rr td t) := by
  refine ⟨fun pins s σ H Q I h => wpAny_Call_method_late hbase hfew hline rfl (thn (ho.run pins s σ H _ I h) fun v s1 ⟨x, H1, I1, r1, ty1, q1⟩ => ?_)⟩
  obtain ⟨d, ys, rfl, hd⟩ := ty1
  cases r1
  obtain ⟨h1, h2⟩ := begO_ty I1 hd
  refine ⟨"dict", id, F.plainAttrs_dict, slot, ty, h1, h2, ?_⟩
  have hA := ha.run cpos pins s1 σ H1 _ I1 q1
  rw [hs] at hA ⊢
  exact Calls.callWith_builtin (by show (false || (backTo cpos (starEach es X.env)).any (·.1)) = false; rw [hplain] <;> rfl) (Calls.evalArgs_plain (thn hA fun us s2 ⟨vs, H2, I2, r2, q2⟩ => hm pins s2 σ H2 (.ref d) vs (.ref d) us Q I2 rfl r2 q2))
end
end CW
namespace CW
open PySem PySem.Spec PyProof.Rows L2
open Evl (Ex Ex.refl Ex.trans Ex.new Ex.mut fresh_back)
/-! ### list(begun.items()) -/
/-- the pairs tracked at their addresses -/
def layT : Hp → List Addr → List Beg → Hp
  | H, a :: as, y :: ys => layT (upd H a (.tup [.ref y.2.1, .int y.2.2])) as ys
  | H, _, _ => H
theorem layT_off {b : Addr} : ∀ (as : List Addr) (ys : List Beg) (H : Hp), b ∉ as → layT H as ys b = H b
  | [], _, _, _ => rfl
  | _ :: _, [], _, _ => rfl
  | a :: as, y :: ys, H, h => by
    have h1 : b ≠ a := fun z => h (by rw [z]; exact List.mem_cons_self)
    have ih := layT_off as ys (upd H a (.tup [.ref y.2.1, .int y.2.2])) fun z => h (List.mem_cons_of_mem _ z)
    rw [upd_ne h1] at ih
    exact ih
theorem layT_at : ∀ (as : List Addr) (ys : List Beg) (H : Hp), as.length = ys.length → as.Nodup → Paired (fun (t : Addr) (y : Beg) => layT H as ys t = some (.tup [.ref y.2.1, .int y.2.2])) as ys
  | [], [], _, _, _ => .nil
  | [], _ :: _, _, h, _ => by cases h
  | _ :: _, [], _, h, _ => by cases h
  | a :: as, y :: ys, H, h, hn => by
    obtain ⟨n1, n2⟩ := List.nodup_cons.mp hn
    have ih := layT_at as ys (upd H a (.tup [.ref y.2.1, .int y.2.2])) (Nat.succ.inj h) n2
    refine .cons ?_ ih
    have := layT_off (b := a) as ys (upd H a (.tup [.ref y.2.1, .int y.2.2])) n1
    rw [upd_same] at this
    exact this
theorem refs_vals : ∀ as : List Addr, Vals (as.map V.ref) (as.map Value.ref)
  | [] => .nil
  | _ :: as => .cons rfl (refs_vals as)
theorem pr_ix {α β : Type} {F : α → β → Prop} : ∀ {xs : List α} {ys : List β}, Paired F xs ys → ∀ {x : α}, x ∈ xs → ∃ (j : Nat) (y : β), xs[j]? = some x ∧ ys[j]? = some y ∧ F x y
  | _, _, .cons h t, x, hx => by
    rcases List.mem_cons.mp hx with e | hx
    · subst e
      exact ⟨0, _, rfl, rfl, h⟩
    · obtain ⟨j, y, e⟩ := pr_ix t hx
      exact ⟨j + 1, y, e⟩
theorem pr_get {α β : Type} {F : α → β → Prop} : ∀ {xs : List α} {ys : List β}, Paired F xs ys → ∀ {i : Nat} {x : α}, xs[i]? = some x → ∃ y, ys[i]? = some y ∧ F x y
  | _, _, .nil, i, x, h => by cases h
  | _, _, .cons r t, 0, x, h => by
    cases Option.some.inj h
    exact ⟨_, rfl, r⟩
  | _, _, .cons r t, i + 1, x, h => pr_get t h
/-- what an entry holds -/
theorem raw_entry {P : Program} {w : World} {ys : List Beg} {xs : List RawB} (p : Paired rawRel ys xs) {es : Array DictEntry} (he : es.toList = xs.map (entryOfKey (nestedKind P w))) : es.size = ys.length ∧ ∀ (j : Nat) (y : Beg), ys[j]? = some y → ∃ hj : j < es.size, es[j].key = .ref y.2.1 ∧ ∃ t, es[j].val = .int y.2.2 t := by
  have hz : es.size = xs.length := size_of_entries he
  refine ⟨by rw [hz, raw_len p], fun j y hy => ?_⟩
  obtain ⟨x, hx, q⟩ := pr_get p hy
  have hj : j < es.size := by rw [hz]; exact (List.getElem?_eq_some_iff.mp hx).1
  have e := entry_at he j
  rw [Array.getElem?_eq_getElem hj, hx, Option.map_some] at e
  have e := Option.some.inj e
  refine ⟨hj, ?_, ?_⟩
  · rw [e]
    show Value.ref x.2.1 = _
    rw [q.2.1]
  · obtain ⟨_, _, t, ht⟩ := q
    refine ⟨t, ?_⟩
    rw [e]
    exact ht
def rBItems (P : Program) (w : World) : V → Hp → VK → Prop := fun x H Q => ∃ (d : Addr) (ys : List Beg), x = .ref d ∧ H d = some (BegO P w d ys) ∧ ys.length ≤ 10000 ∧
  ∀ (p : Addr) (ts : List Addr), H p = none → (∀ t ∈ ts, H t = none) → p ∉ ts → ts.Nodup → ts.length = ys.length → Q (.ref p) (layT (upd H p (.lst (ts.map V.ref))) ts ys)
def tBItems (P : Program) (w : World) (te : TE) : TE := fun σ H Q => te σ H fun x H1 => rBItems P w x H1 Q
section
variable {X : Cx} {e : Expr} {te : TE} {p apos cpos pos : Pos}
theorem bitems_laid {pins : List (Addr × Obj)} {σ : L2.St} {H : Hp} {s : Shared} {h' : Heap} {tk : Nat} {ys : List Beg} {xs : List RawB} {es : Array DictEntry} {acc : Array Value} {c : Nat} {as : List Addr} (I : Inv X pins σ H s) (hz : ys.length ≤ sizeLine) (pr : Paired rawRel ys xs)
    (he : es.toList = xs.map (entryOfKey (nestedKind X.prog X.w)))
    (hk : ∀ b o, s.heap.get? b = some o → h'.get? b = some o) (hS : h'.get? s.heap.objs.size = some { cls := .type "list", dict := none, data := .seq acc c, slots := #[] }) (hl : as.length = es.size) (hG : PySem.W.DilG es s.heap.objs.size h' as) (hacc : acc.toList = as.map Value.ref) :
    H s.heap.objs.size = none ∧ (∀ t ∈ as, H t = none) ∧ s.heap.objs.size ∉ as ∧ as.Nodup ∧ as.length = ys.length ∧ Inv X pins σ (layT (upd H s.heap.objs.size (.lst (as.map V.ref))) as ys) { s with heap := h', toks := tk } := by
  obtain ⟨lz, ent⟩ := raw_entry pr he
  have hSn : s.heap.objs.size ∉ as := fun z => Nat.lt_irrefl _ (hG.above _ z)
  have nd : as.Nodup := List.Pairwise.imp (fun {a b} (h : a < b) => Nat.ne_of_lt h) hG.rise
  have new : ∀ t ∈ as, H t = none := fun t ht => I.hok.fresh (Nat.le_of_lt (hG.above t ht))
  have newS : H s.heap.objs.size = none := I.hok.fresh (Nat.le_refl _)
  have la : as.length = ys.length := hl.trans lz
  refine ⟨newS, new, hSn, nd, la, ?_⟩
  have atP := layT_at as ys (upd H s.heap.objs.size (.lst (as.map V.ref))) la nd
  have off : ∀ b, b ∉ as → b ≠ s.heap.objs.size → layT (upd H s.heap.objs.size (.lst (as.map V.ref))) as ys b = H b := fun b h1 h2 => by rw [layT_off as ys _ h1, upd_ne h2]
  have low : ∀ b o, s.heap.get? b = some o → b ∉ as ∧ b ≠ s.heap.objs.size := fun b o e => ⟨fun z => absurd (Heap.lt_size e) (Nat.not_lt.mpr (Nat.le_of_lt (hG.above b z))), Nat.ne_of_lt (Heap.lt_size e)⟩
  have kp : ∀ b u, H b = some u → (layT (upd H s.heap.objs.size (.lst (as.map V.ref))) as ys) b = some u := fun b u e => by
    rw [off b (fun z => by rw [new b z] at e; cases e) (fun z => by rw [z, newS] at e; cases e)]
    exact e
  have eS : layT (upd H s.heap.objs.size (.lst (as.map V.ref))) as ys s.heap.objs.size = some (.lst (as.map V.ref)) := by rw [layT_off as ys _ hSn, upd_same]
  have un : Un (frs X.stack) [] H (layT (upd H s.heap.objs.size (.lst (as.map V.ref))) as ys) s.heap h' := by
    refine ⟨fun b o q _ _ _ => hk b o q, fun b o q _ _ _ => ⟨o.slots, hk b o q⟩, fun b o q n _ => ?_, fun b o q _ => ⟨o, hk b o q⟩, fun b xs q => kp b _ q, fun b o u q => kp b _ q, fun b ps q => ⟨#[], by rw [kp b _ q]; simp⟩⟩
    obtain ⟨z1, z2⟩ := low b o q
    rw [off b z1 z2]
    exact n
  refine I.call' (ch := []) rfl un (fun b u q => ?_) I.bare fun b z => by simp at z
  by_cases hb : b ∈ as
  · obtain ⟨j, y, e1, e2, e3⟩ := pr_ix atP hb
    rw [e3] at q
    cases q
    obtain ⟨hj, f3⟩ := hG.pairs j b e1
    obtain ⟨_, g1, t, g2⟩ := ent j y e2
    rw [g1, g2] at f3
    exact ⟨by show 2 ≤ sizeLine; decide, [.ref y.2.1, .int y.2.2 t], .cons rfl (.cons ⟨t, rfl⟩ .nil), ⟨_, f3, rfl, _, rfl⟩⟩
  · by_cases hb2 : b = s.heap.objs.size
    · rw [hb2] at q ⊢
      rw [eS] at q
      cases q
      refine ⟨by rw [List.length_map, la]; exact hz, acc.toList, c, by rw [hacc]; exact refs_vals as, ?_⟩
      rw [Array.toArray_toList]
      exact hS
    · rw [off b hb hb2] at q
      exact (I.hok b u q).stay (fun d v _ y => hk d v y) (fun d y => kp d _ y) fun d xs y => kp d _ y
theorem pe_bitems (hc : X.calm = true) (he : PE X e te) (hg : Gl X "list") (hm : X.mg "list" = none) (hv : bootBuiltins "list" = some (.type "list")) (hbase : attributeBase e "items" X.env (eval e X.env) = eval e X.env := by rfl) (hline : (apos.endLine == cpos.line) = true := by rfl)
    (hs : starEach [.Call (.Attribute e "items" apos) [] [] cpos] X.env = (false, eval (.Call (.Attribute e "items" apos) [] [] cpos) X.env) :: starEach [] X.env := by rfl) :
    PE X (.Call (.Name "list" p) [.Call (.Attribute e "items" apos) [] [] cpos] [] pos) (tBItems X.prog X.w te) := by
  refine ⟨fun pins s σ H Q I hq => wpAny_Call_Name_kw (ld_blt I hg hm hv (PyProof.Rows.callWith_type1 ?_ hs rfl))⟩
  rw [hs]
  refine Calls.spliced_cons (wpAny_Call_method (T := "dict") (id := "dict.items") hbase rfl hline F.plainAttrs_dict F.slot_dict_items F.type_dict_items (thn (he.run pins s σ H _ I hq) fun u s1 ⟨x, H1, I1, rx, d, ys, ex, hd, hz, q⟩ => ?_))
  subst ex
  cases rx
  obtain ⟨hs0, raw, hp, o, des, ep, ho, hx, hdt, hen, hnd⟩ := begO_get I1 hd
  have I2 : Inv X pins σ H1 { s1 with heap := s1.heap.push { cls := .type "dict_items", data := .fields #[.ref d] } } := I1.kept (t' := s1.toks) fun b ob q => Heap.get?_push_of_some _ q
  refine ⟨⟨o, ho, hx.1⟩, fun a e => by cases e; exact ⟨o, ho, hx.2.1⟩, ?_⟩
  have hraw : s1.heap.DictRaw d des ep := ⟨o, ho, hx, hdt⟩
  show wpAny _ _ (callWith cpos (.builtin "dict.items") [.ref d] [] []) _ X.xe s1
  refine method_meetsIn F.slot_dict_items F.entry_dict_items rfl (PySem.evalArgs_none ⟨rfl, ⟨o, ho, hx.1⟩, F.args_dict_items_1 _, _, meets_dict_items_raw d hs0, ⟨_, _, hraw⟩, ?_⟩)
  have hsz : des.size ≤ sizeLine := by
    rw [(raw_entry hp hen).1]
    exact sz100 (by omega)
  refine Calls.spliced_nil (PySem.W.dil_call (es := des) (ep := ep) (I1.ok.hd hc) ⟨_, Heap.get?_push_size _ rfl, rfl, rfl⟩ (hraw.at fun o e => Heap.get?_push_of_some _ e) hsz fun h' tk acc c as hk hS hl hG hacc => ?_)
  obtain ⟨k1, k2, k3, k4, k5, J⟩ := bitems_laid (tk := tk) I2 (sz100 (by omega)) hp hen hk hS hl hG hacc
  exact ⟨.ref _, _, J, rfl, q _ as k1 k2 k3 k4 k5⟩
end
/-! ### for run, top in begun.items(), the dict locked -/
def ItB (P : Program) (w : World) (d : Addr) (o : Obj) (ys : List Beg) : It :=
  ⟨fun i H => H d = some (.frz o (BegO P w d ys)) ∧ i < ys.length, fun i H x H' => ∃ T y, ys[i]? = some y ∧ x = .ref T ∧ H T = none ∧ H' = upd H T (.tup [.ref y.2.1, .int y.2.2]), fun i H => H d = some (.frz o (BegO P w d ys)) ∧ ys.length ≤ i⟩
theorem begF_get {X : Cx} {pins : List (Addr × Obj)} {σ : L2.St} {H : Hp} {s : Shared} {d : Addr} {o : Obj} {ys : List Beg} (I : Inv X pins σ H s) (hd : H d = some (.frz o (BegO X.prog X.w d ys))) :
    s.heap.get? d = some o ∧ (d == sysModules) = false ∧ ∃ xs, Paired rawRel ys xs ∧ RawAt X.prog X.w s.heap d xs := let ⟨h1, h2⟩ := I.hok d _ hd; ⟨h1, h2.1⟩
theorem turn_bitems {P : Program} {w : World} {K : PySem.W.Frag} {elts : List Expr} {kk : Nat} {tpos : Pos} {d : Addr} {o : Obj} {ys : List Beg} {des : Array DictEntry} {ep : Nat} (it : Addr) (hod : o.data = .dict des ep) (hsz : des.size = ys.length) :
    Turn P w K (.Tuple elts kk tpos) (ItB P w d o ys) [it] it (fun i h => ∃ ok ov, IsItemIter h it d i des.size ep ok ov) where
  mem := by simp
  obj := fun i h st b hb => by
    have e : b = it := by simpa using hb
    subst e
    obtain ⟨ok, ov, e⟩ := st
    exact ⟨_, e, fun v z => nomatch z⟩
  keep := fun i h h' st k => let ⟨ok, ov, e⟩ := st; ⟨ok, ov, k it (by simp) _ e⟩
  item := by
    intro X hP hw hK hc i pins s σ H E I hf st hg
    subst hP hw hK
    obtain ⟨hd, hi⟩ := hg
    obtain ⟨hgd, hs0, raw, hp, o', es', ep', ho', hx, hdt, hen, hnd⟩ := begF_get I hd
    rw [hgd] at ho'
    cases ho'
    rw [hod] at hdt
    injection hdt with e1 e2
    subst e1 e2
    obtain ⟨y, hy⟩ : ∃ y, ys[i]? = some y := ⟨ys[i], List.getElem?_eq_getElem hi⟩
    obtain ⟨hj, g1, t, g2⟩ := (raw_entry hp hen).2 i y hy
    obtain ⟨ok, ov, he⟩ := st
    have hlt : it < s.heap.objs.size := Heap.lt_size he
    refine wpAny_pyNext_items_item_raw he ⟨o, hgd, hx, hod⟩ hj fun h' ho hT hz hk => ?_
    refine ⟨_, rfl, wpAny_letOwnedTupleGo_items (s := { s with heap := h' }) ho fun h'' he' sb => ?_⟩
    have hT2 := (sb.2 _ (Nat.ne_of_gt hlt)).trans hT
    rw [g1, g2] at hT2
    have new : ObjOk X.prog X.w (upd H s.heap.objs.size (.tup [.ref y.2.1, .int y.2.2])) h'' s.heap.objs.size (.tup [.ref y.2.1, .int y.2.2]) :=
      ⟨by show 2 ≤ sizeLine; decide, [.ref y.2.1, .int y.2.2 t], .cons rfl (.cons ⟨t, rfl⟩ .nil), ⟨_, hT2, rfl, _, rfl⟩⟩
    have I1 : Inv X pins σ (upd H s.heap.objs.size (.tup [.ref y.2.1, .int y.2.2])) { s with heap := h'' } :=
      I.turnedNew (t' := s.toks) (ch := [it]) (fun b ob hb e => (sb.2 b (by simpa using hb)).trans (hk b ob (by simpa using hb) e)) hf (Nat.le_refl _) new
    refine ⟨.ref s.heap.objs.size, _, I1, rfl, ⟨_, y, hy, rfl, I.hok.fresh (Nat.le_refl _), rfl⟩, ⟨_, _, he'⟩, fun b hb => ?_⟩
    have e : b = it := by simpa using hb
    rw [e, upd_ne (Nat.ne_of_lt hlt)]
    exact (hf it (by simp)).1
  done := by
    intro X hP hw hK hc i pins s σ H E I hf st hg
    subst hP hw hK
    obtain ⟨hd, hi⟩ := hg
    obtain ⟨f0, f1, f2, f3, f4, f5⟩ := hf it (by simp)
    obtain ⟨hgd, hs0, raw, hp, o', es', ep', ho', hx, hdt, hen, hnd⟩ := begF_get I hd
    obtain ⟨ok, ov, he⟩ := st
    exact wpAny_pyNext_items_end_raw (I.ok.hd hc) he ⟨o, hgd, by rw [hgd] at ho'; cases ho'; exact hx, hod⟩ (by omega) fun h' eb => ⟨rfl, I.turned (t' := s.toks) (fun b ob hb e => eb b ob hb e) f0 f1 f3 f4 f5⟩
  self := fun A i s Q E st h => let ⟨_, _, e⟩ := st; wpAny_pyIter_itemiter e h
def iBItems (P : Program) (w : World) (td : TE) : TI := fun σ H R => td σ H fun x H1 => ∃ d o ys, x = .ref d ∧ H1 d = some (.frz o (BegO P w d ys)) ∧ R (ItB P w d o ys) H1
theorem pi_bitems {X : Cx} {e : Expr} {td : TE} {apos cpos : Pos} {elts : List Expr} {kk : Nat} {tpos : Pos} (he : PE X e td) (hbase : attributeBase e "items" X.env (eval e X.env) = eval e X.env := by rfl) (hline : (apos.endLine == cpos.line) = true := by rfl) :
    PI X (.Tuple elts kk tpos) (.Call (.Attribute e "items" apos) [] [] cpos) (iBItems X.prog X.w td) := by
  refine ⟨fun pins s σ H R I h => wpAny_Call_method (T := "dict") (id := "dict.items") hbase rfl hline F.plainAttrs_dict F.slot_dict_items F.type_dict_items (thn (he.run pins s σ H _ I h) fun u s1 ⟨x, H1, I1, rx, d, o, ys, ex, hd, q⟩ => ?_)⟩
  subst ex
  cases rx
  obtain ⟨hgd, hs0, raw, hp, o', des, ep, ho', hx, hdt, hen, hnd⟩ := begF_get I1 hd
  rw [hgd] at ho'
  cases ho'
  have hraw : s1.heap.DictRaw d des ep := ⟨o, hgd, hx, hdt⟩
  have I2 : Inv X pins σ H1 { s1 with heap := s1.heap.push { cls := .type "dict_items", data := .fields #[.ref d] } } := I1.kept (t' := s1.toks) fun b ob q => Heap.get?_push_of_some _ q
  refine ⟨⟨o, hgd, hx.1⟩, fun a e => by cases e; exact ⟨o, hgd, hx.2.1⟩, ?_⟩
  show wpAny _ _ (callWith cpos (.builtin "dict.items") [.ref d] [] []) _ X.xe s1
  refine method_meetsIn F.slot_dict_items F.entry_dict_items rfl (PySem.evalArgs_none ⟨rfl, ⟨o, hgd, hx.1⟩, F.args_dict_items_1 _, _, meets_dict_items_raw d hs0, ⟨_, _, hraw⟩, ?_⟩)
  exact wpAny_pyIter_items_raw ⟨_, Heap.get?_push_size _ rfl, rfl, rfl⟩ (hraw.at fun o e => Heap.get?_push_of_some _ e) (pi_one (tk := s1.toks) I2 _ (turn_bitems _ hdt (raw_entry hp hen).1) ⟨.none, .none, Heap.get?_push_size _ rfl⟩ q)
end CW
namespace CW
open PySem PySem.Spec PyProof.Rows L2
open Evl (Ex Ex.refl Ex.trans Ex.new Ex.mut fresh_back)
/-! ### sorted(xs, key=f), f one that makes things -/
section
variable {X : Cx} {pins : List (Addr × Obj)} {σ : L2.St} {H H' : Hp} {s : Shared} {h' : Heap}
/-- our own records changed, one of them tracked from here on -/
theorem settle {t' : Nat} {ch : List Addr} {T : Addr} {ob : HO} (I : Inv X pins σ H s) (fp : ∀ b ∈ ch, FpOk X pins H b) (hT : T ∈ ch) (k : ∀ b o, b ∉ ch → s.heap.get? b = some o → h'.get? b = some o) (new : ObjOk X.prog X.w (upd H T ob) h' T ob) :
    Inv X pins σ (upd H T ob) { s with heap := h', toks := t' } := by
  have nT := (fp T hT).1
  have nch : ∀ b u, H b = some u → b ∉ ch := fun b u e z => by rw [(fp b z).1] at e; cases e
  refine I.step (g' := s.gens) (d' := s.drawn) (ch := ch) (fun b hb => ⟨(fp b hb).2.2.2.1, (fp b hb).2.1, (fp b hb).2.2.2.2.1, (fp b hb).2.2.2.2.2⟩) (fun b o _ _ hc e _ => k b o hc e) (fun b o _ _ hc e _ => ⟨o.slots, k b o hc e⟩)
    (fun b o hc e n => by rw [upd_ne (show b ≠ T from fun z => hc (by rw [z]; exact hT))]; exact n) (fun b o hc e => ⟨o, k b o hc e⟩) (fun b xs e => by rw [upd_ne (ne_of_none e nT)]; exact e) (fun b o u e => by rw [upd_ne (ne_of_none e nT)]; exact e)
    (fun b ps e => ⟨#[], by rw [upd_ne (ne_of_none e nT), e]; simp⟩) (fun m hm => let ⟨o, es, ep, ho, r⟩ := hm; ⟨o, es, ep, k _ o (fun z => (fp _ z).2.1 rfl) ho, r⟩) (fun b u e => ?_) I.bare
  by_cases hb : b = T
  · subst hb
    rw [upd_same] at e
    cases e
    exact new
  · rw [upd_ne hb] at e
    refine (I.hok b u e).stay (fun c v hc q => k c v ?_ q) (fun c q => by rw [upd_ne (ne_of_none q nT)]; exact q) fun c xs q => by rw [upd_ne (ne_of_none q nT)]; exact q
    rcases hc with z | z
    · rw [z]; exact nch b u e
    · exact nch c _ z
def cellD (c : Int × Int) : PyData := .tuple [.int c.1, .int c.2]
theorem reads_cell (I : Inv X pins σ H s) {v : V} {c : Int × Int} {u : Value} (h : oCell H v c) (r : RelV v u) : Reads s.heap u (cellD c) [] := by
  obtain ⟨p, a, b, rfl, hp, ha, hb⟩ := h
  cases r
  have ha : a = .int c.1 := ha
  have hb : b = .int c.2 := hb
  subst ha hb
  obtain ⟨its, rv, ⟨o, ho, hc, n, hd⟩, _⟩ := I.tuple (SqT.of hp)
  cases rv with
  | cons r1 t1 =>
    cases t1 with
    | cons r2 t2 =>
      cases t2
      obtain ⟨t, rfl⟩ := r1
      obtain ⟨t', rfl⟩ := r2
      exact .tuple (as := []) ho hc hd (.cons (as := []) (bs := []) (.int _ _) (.cons (as := []) (bs := []) (.int _ _) .nil))
theorem reads_cells (I : Inv X pins σ H s) : ∀ {vs : List V} {us : List Value} {cs : List (Int × Int)}, Items oCell H vs cs → Vals vs us → PySem.W.EachIs (fun v k => ∃ as, Reads s.heap v k as) us (cs.map cellD)
  | [], _, [], _, .nil => .nil
  | _ :: _, _, _ :: _, h, .cons r t => .cons ⟨[], reads_cell I h.1 r⟩ (reads_cells I h.2 t)
  | [], _, _ :: _, h, _ => h.elim
  | _ :: _, _, [], h, _ => h.elim
theorem each_items {β : Type} {Po : Obs β} : ∀ {vs : List V} {us : List Value} {bs : List β}, Items Po H vs bs → Vals vs us → PySem.W.EachIs (fun u b => ∃ v, RelV v u ∧ Po H v b) us bs
  | [], _, [], _, .nil => .nil
  | _ :: _, _, _ :: _, h, .cons r t => .cons ⟨_, r, h.1⟩ (each_items h.2 t)
  | [], _, _ :: _, h, _ => h.elim
  | _ :: _, _, [], h, _ => h.elim
theorem items_each {β : Type} {Po : Obs β} : ∀ {us : List Value} {bs : List β}, PySem.W.EachIs (fun u b => ∃ v, RelV v u ∧ Po H v b) us bs → ∃ vs, Items Po H vs bs ∧ Vals vs us
  | _, _, .nil => ⟨[], trivial, .nil⟩
  | _, _, .cons ⟨v, r, p⟩ t => let ⟨vs, h1, h2⟩ := items_each t; ⟨v :: vs, ⟨p, h1⟩, .cons r h2⟩
/-- what a call of the key gives, further in -/
structure KeyF (X : Cx) (A : Around) (f : Addr) {β : Type} (Po : Obs β) (kx ky : β → Int) (ok : β → Prop) (need : List (Addr × Obj)) (F0 H0 : Hp) : Prop where
  run : ∀ (pins : List (Addr × Obj)) (σ : L2.St) (s : Shared) (F H : Hp) (v : V) (b : β) (u : Value), (∀ q ∈ need, q ∈ pins) → Inv X pins σ H s → Up F0 H0 F H → RelV v u → Po F v b → ok b →
    wpAny (model X.prog X.w) A (call (.ref f) [u]) (fun u' s' => ∃ v' H' F', Inv X pins σ H' s' ∧ RelV v' u' ∧ Up F H F' H' ∧ oCell F' v' (kx b, ky b)) (fun _ _ => False) s
def leK {β : Type} (kx ky : β → Int) : β → β → Bool := fun p q => decide (kx p < kx q ∨ (kx p = kx q ∧ ky p ≤ ky q))
theorem vals_snoc {v : V} {u : Value} (r : RelV v u) : ∀ {vs : List V} {us : List Value}, Vals vs us → Vals (vs ++ [v]) (us ++ [u])
  | _, _, .nil => .cons r .nil
  | _, _, .cons a t => .cons a (vals_snoc r t)
theorem vals_gets {vs : List V} {us : List Value} (r : Vals vs us) {i : Nat} {u : Value} (h : us[i]? = some u) : ∃ v, vs[i]? = some v ∧ RelV v u := by
  have hl := r.length
  have hi : i < vs.length := by rw [hl]; exact (List.getElem?_eq_some_iff.mp h).1
  obtain ⟨u', h1, h2⟩ := r.get (List.getElem?_eq_getElem hi)
  rw [h] at h1
  cases h1
  exact ⟨_, List.getElem?_eq_getElem hi, h2⟩
theorem sort_rest {A : Around} {f a kS : Addr} {β : Type} {Po : Obs β} {kx ky : β → Int} {ok : β → Prop} {need : List (Addr × Obj)} {F : Hp} {vs : List V} {us : List Value} {bs : List β} {e1 : Nat} {Pf : PySem.Fin → Shared → Prop} {E : Value → Shared → Prop} (hPo : Mono Po)
    (hneed : ∀ q ∈ need, q ∈ pins) (K : KeyF X A f Po kx ky ok need F H) (hok : ∀ b ∈ bs, ok b) (I : Inv X pins σ H s) (fp : ∀ b ∈ [a, kS], FpOk X pins H b) (hka : kS ≠ a) (na : s.heap.get? a = some (seqObj "list" #[] e1)) (nk : s.heap.get? kS = some (seqObj "list" #[] 0))
    (hx : Ex F H) (it : Items Po F vs bs) (rv : Vals vs us) (hz : bs.length ≤ 100000) (hu : A.units + 1 < cLine)
    (h : ∀ (s' : Shared) (H' F' : Hp) (ws : List V) (h' : Heap) (tk : Nat), Up F H F' H' → H' a = none → Items Po F' ws (bs.mergeSort (leK kx ky)) → Inv X pins σ (upd H' a (.lst ws)) { s' with heap := h', toks := tk } → Pf (.done (.ret .none)) { s' with heap := h', toks := tk }) :
    wpAny (model X.prog X.w) A (ksk_rest a (.ref f) false us.toArray e1 (.ref kS)) Pf E s := by
  have hlv : vs.length = bs.length := it.length
  have hlu : us.length = bs.length := by rw [← hlv]; exact rv.length.symm
  have hL : us.length ≤ sizeLine := by rw [hlu]; exact sz100 hz
  unfold ksk_rest
  refine wpAny_bind (wpAny_rule ?_)
  first
    | rw [List.forIn_toArray]
    | (rw [← Array.forIn_toList]; simp only [List.toList_toArray])
    | rw [← Array.forIn_toList]
  refine wpAny_bind (ksk_fold (fun i s' => ∃ (H' F' : Hp) (kA : Array Value) (e : Nat) (ks : List V), Inv X pins σ H' s' ∧ (∀ b ∈ [a, kS], H' b = none) ∧ Up F H F' H' ∧ s'.heap.get? kS = some (seqObj "list" kA e) ∧ s'.heap.get? a = some (seqObj "list" #[] e1) ∧ Vals ks kA.toList ∧ Items oCell F' ks ((bs.take i).map fun b => (kx b, ky b)))
    us 0 s ⟨H, F, #[], 0, [], I, fun b hb => (fp b hb).1, Up.refl hx, nk, na, .nil, trivial⟩ ?step ?done)
  case step =>
    rintro j x s' hj ⟨H', F', kA, e, ks, I', hn, u, nk', na', rk, ik⟩
    simp only [Nat.zero_add] at ik ⊢
    obtain ⟨v, hv, rx⟩ := vals_gets rv hj
    obtain ⟨b, hb, pb⟩ := it.get hv
    have hjl : j < bs.length := (List.getElem?_eq_some_iff.mp hb).1
    have hkz : kA.size ≤ 100000 := by
      have h1 : ks.length = kA.size := by have := rk.length; simpa using this
      have h2 := ik.length
      rw [List.length_map, List.length_take] at h2
      omega
    have fa := fp a (by simp)
    have fk := fp kS (by simp)
    -- the two records held as they stand
    have I2 : Inv X (pins ++ [(a, seqObj "list" #[] e1), (kS, seqObj "list" kA e)]) σ H' s' := I'.pins_of fun p hp => by
      rcases List.mem_append.mp hp with hp | hp
      · exact I'.pin p (List.mem_append_right _ hp)
      · rcases List.mem_cons.mp hp with hp | hp
        · subst hp
          exact ⟨na', hn a (by simp), fa.2.1, fa.2.2.1, fun v z => by cases z⟩
        · cases List.mem_singleton.mp hp
          exact ⟨nk', hn kS (by simp), fk.2.1, fk.2.2.1, fun v z => by cases z⟩
    refine wpAny_bind (wpAny_attempt (wpAny_mono (K.run _ σ s' F' H' v b x (fun q hq => List.mem_append_left _ (hneed q hq)) I2 u rx (hPo _ _ _ _ u.a pb) (hok b (List.mem_of_getElem? hb))) (fun w' s'' hr => ?_) fun _ _ hF => hF.elim))
    obtain ⟨v', H'', F'', I3, r', u', cv⟩ := hr
    have pa := I3.pin (a, seqObj "list" #[] e1) (by simp)
    have pk := I3.pin (kS, seqObj "list" kA e) (by simp)
    have I4 : Inv X pins σ H'' s'' := I3.pins_of fun p hp => I3.pin p (List.mem_append_right _ (List.mem_append_left _ hp))
    obtain ⟨c2, hc2⟩ : ∃ c2, (s''.heap.update kS (Obj.mapSeq (·.push w'))).get? kS = some (seqObj "list" (kA.push w') c2) := ⟨_, get?_update_seq pk.1 (·.push w')⟩
    have sb := Heap.SameBut.update s''.heap kS (Obj.mapSeq (·.push w'))
    refine wpAny_bind (listUpdate_at pk.1 rfl ?_ (sz100 hkz) (Nat.le_trans (Nat.le_of_eq (Array.size_push ..)) (Nat.succ_le_succ (sz100 hkz))))
    have I5 : Inv X pins σ H'' { s'' with heap := s''.heap.update kS (Obj.mapSeq (·.push w')), toks := s''.toks } := I4.turned (it := kS) (fun b o hb e => (sb.2 b hb).trans e) pk.2.1 fk.2.1 fk.2.2.2.1 fk.2.2.2.2.1 fk.2.2.2.2.2
    refine wpAny_pure ⟨rfl, H'', F'', kA.push w', c2, ks ++ [v'], I5, fun b hb => ?_, u.trans u', hc2, (sb.2 a hka.symm).trans pa.1, ?_, ?_⟩
    · rcases List.mem_cons.mp hb with z | z
      · rw [z]; exact pa.2.1
      · rw [List.mem_singleton.mp z]; exact pk.2.1
    · rw [Array.toList_push]
      exact vals_snoc r' rk
    · rw [List.take_add_one, hb]
      simp only [Option.toList_some, List.map_append, List.map_cons, List.map_nil]
      exact Items.snoc cv (ik.mono mono_cell u'.a)
  case done =>
    rintro s' ⟨H', F', kA, e, ks, I', hn, u, nk', na', rk, ik⟩
    have e3 : bs.take (0 + us.length) = bs := List.take_of_length_le (by omega)
    rw [e3] at ik
    have hsz : kA.size = us.length := by
      have h1 : ks.length = kA.size := by have := rk.length; simpa using this
      have h2 := ik.length
      rw [List.length_map] at h2
      omega
    have er : PySem.W.EachIs (fun v k => ∃ as, Reads s'.heap v k as) kA.toList (bs.map fun b => cellD (kx b, ky b)) := by
      have := reads_cells I' (ik.mono mono_cell u.c) rk
      rw [List.map_map] at this
      exact this
    have al : PySem.W.AllAlike (bs.map fun b => cellD (kx b, ky b)) := PySem.W.AllAlike.of fun b b' => by simp [cellD, PySem.W.alike, PySem.W.alikeAll]
    have so : PySem.W.Sortable (bs.map fun b => cellD (kx b, ky b)) := PySem.W.Sortable.tuples fun b => ⟨_, _, rfl⟩
    have dp : ∀ d, d ∈ bs.map (fun b => cellD (kx b, ky b)) → A.units + d.depth < cLine := fun d hd => by
      obtain ⟨b, _, rfl⟩ := List.mem_map.mp hd
      have : (cellD (kx b, ky b)).depth = 1 := by simp [cellD, PyData.depth, PyData.depthAll]
      rw [this]; exact hu
    refine wpAny_bind (listItems_at nk' rfl ?_)
    refine PySem.W.keyH_end (κ := PySem.W.dataKind s'.heap (bs.map fun b => cellD (kx b, ky b))) (h₁ := PySem.W.hideAll s'.heap [kS]) (fun b o _ e => PySem.W.of_hideAll _ e) (PySem.W.hideAll_none _ (by simp)) nk' na' hka (PySem.W.SortsAt.data er al so dp) hsz hL fun h' tk c kp ha => ?_
    have eo : PySem.W.EachIs (fun z b => ∃ v, RelV v z ∧ Po F' v b) (PySem.W.sortVals (PySem.W.dataKind s'.heap (bs.map fun b => cellD (kx b, ky b))) false kA.toList us) (bs.mergeSort (PySem.W.dataLe false fun b => cellD (kx b, ky b))) :=
      PySem.W.keyedOut_each (fun b => cellD (kx b, ky b)) ⟨s'.heap, kA.toList, al, rfl, er⟩ (each_items (it.mono hPo u.a) rv)
    have ele : (PySem.W.dataLe false fun b => cellD (kx b, ky b)) = leK kx ky := PySem.W.dataLe_ii kx ky
    rw [ele] at eo
    obtain ⟨ws, iw, rw_⟩ := items_each eo
    refine h s' H' F' ws h' tk u (hn a (by simp)) iw ?_
    refine settle (ch := [a, kS]) I' (fun b hb => ⟨hn b hb, (fp b hb).2⟩) (by simp) (fun b o hb e => ?_) ⟨?_, _, c, rw_, ha⟩
    · have h1 : b ≠ a := fun z => hb (by simp [z])
      have h2 : b ∉ [kS] := fun z => hb (by rw [List.mem_singleton.mp z]; simp)
      exact kp b o h1 (PySem.W.hideAll_get _ e h2)
    · rw [iw.length, List.length_mergeSort]
      exact sz100 hz
end
def rSortK (X : Cx) {β : Type} (Po : Obs β) (kx ky : β → Int) (ok : β → Prop) : List V → List V → Hp → VK → Prop := fun vs zs H Q => ∃ (l f : Addr) (F : Hp) (bs : List β), vs = [.ref l] ∧ zs = [.ref f] ∧ Ex F H ∧ oLst Po F (.ref l) bs ∧ (∀ b ∈ bs, ok b) ∧ bs.length ≤ 100000 ∧
  KeyF X X.A.in1.in1 f Po kx ky ok [] F H ∧ ∀ v H' H2, Up F H H' H2 → oLst Po H' v (bs.mergeSort (leK kx ky)) → Q v H2
theorem sort_inv {X : Cx} {β : Type} {Po : Obs β} (hPo : Mono Po) {kx ky : β → Int} {ok : β → Prop} (hu : X.A.units + 3 < cLine) {need pins : List (Addr × Obj)} {σ : L2.St} {H F : Hp} {s : Shared} {l f : Addr} {bs : List β} {Q : VK} (I : Inv X pins σ H s) (hneed : ∀ q ∈ need, q ∈ pins)
    (hx : Ex F H) (hl : oLst Po F (.ref l) bs) (hok : ∀ b ∈ bs, ok b) (hz : bs.length ≤ 100000) (K : KeyF X X.A.in1.in1 f Po kx ky ok need F H) (q : ∀ v H' H2, Up F H H' H2 → oLst Po H' v (bs.mergeSort (leK kx ky)) → Q v H2) :
    wpAny (model X.prog X.w) X.A (call (.builtin "sorted") [.ref l] [(Str.ofString "key", .ref f)]) (EP X pins σ Q) X.xe s := by
  obtain ⟨_, vs, e, hl1, it⟩ := hl
  cases e
  obtain ⟨its, rv, pl, hlen⟩ := I.list (SqL.of (hx _ _ hl1))
  have hlv : its.length = bs.length := by rw [← it.length]; exact rv.length.symm
  have hL : its.length ≤ sizeLine := by rw [hlv]; exact sz100 hz
  have ho := PySem.W.copyHeap_at s.heap its
  refine PySem.W.sorted_of_sort pl.isList hL (ksk_s1 _ _) (fun x => ksk_l1 _ _) fun E' => ?_
  show wpAny _ _ (Builtin.«list.sort» ⟨[.ref (s.heap.objs.size + 1)], [(Str.ofString "key", .ref f)]⟩) _ _ _
  rw [ksk_t1]
  obtain ⟨e1, ho1⟩ : ∃ e1, ((PySem.W.copyHeap s.heap its).update (s.heap.objs.size + 1) (Obj.mapSeq fun _ => (#[] : Array Value))).get? (s.heap.objs.size + 1) = some (seqObj "list" #[] e1) := ⟨_, get?_update_seq ho fun _ => #[]⟩
  have ha : s.heap.objs.size + 1 < (PySem.W.copyHeap s.heap its).objs.size := Heap.lt_size ho
  have hkS : (((PySem.W.copyHeap s.heap its).update (s.heap.objs.size + 1) (Obj.mapSeq fun _ => (#[] : Array Value))).push (seqObj "tuple" its.toArray 0)).objs.size = (PySem.W.copyHeap s.heap its).objs.size + 1 := by rw [size_push', Heap.size_update]
  unfold ksk_tree
  refine wpAny_bind (listItems_at ho rfl (wpAny_bind (listUpdate_at ho rfl ?_ (by rw [List.size_toArray]; exact hL) (Nat.zero_le _))))
  refine wpAny_bind (seqEpoch_at ho1 rfl (wpAny_bind (wpAny_newTuple ?_ (by show its.length ≤ _; exact hL))))
  refine wpAny_bind (wpAny_newList (wpAny_holding ?_) (Nat.zero_le _))
  have I1 : Inv X pins σ H { s with heap := (((PySem.W.copyHeap s.heap its).update (s.heap.objs.size + 1) (Obj.mapSeq fun _ => (#[] : Array Value))).push (seqObj "tuple" its.toArray 0)).push (seqObj "list" #[] 0), toks := s.toks } := I.kept fun b o e => PySem.W.sorting_copy_old e
  refine sort_rest (X := X) (a := s.heap.objs.size + 1) (kS := (((PySem.W.copyHeap s.heap its).update (s.heap.objs.size + 1) (Obj.mapSeq fun _ => (#[] : Array Value))).push (seqObj "tuple" its.toArray 0)).objs.size) hPo hneed K hok I1 (fun b hb => ?_) (by rw [hkS]; exact Nat.ne_of_gt (Nat.lt_succ_of_lt ha)) (Heap.get?_push_of_some _ (Heap.get?_push_of_some _ ho1)) (Heap.get?_push_size _ rfl) hx it rv hz hu fun s' H' F' ws h' tk u na iw J => ⟨rfl, ?_⟩
  · have hb2 : s.heap.objs.size ≤ b := by
      rcases List.mem_cons.mp hb with z | z
      · rw [z]; exact Nat.le_succ _
      · rw [List.mem_singleton.mp z, hkS]
        exact Nat.le_of_lt (Nat.lt_succ_of_lt (Nat.lt_of_succ_lt ha))
    exact I.fpOk hb2 (I.hok.fresh hb2)
  · refine ⟨.ref (s.heap.objs.size + 1), _, J, rfl, q _ (upd F' (s.heap.objs.size + 1) (.lst ws)) _ (u.trans (Up.new u.c na)) ?_⟩
    exact oLst.new hPo (none_of_ex u.c na) iw
theorem cr_sortK {X : Cx} {β : Type} {Po : Obs β} (hPo : Mono Po) {kx ky : β → Int} {ok : β → Prop} (hu : X.A.units + 3 < cLine) : CallRK X (.builtin "sorted") [Str.ofString "key"] (rSortK X Po kx ky ok) := by
  intro pins s σ H xs zs us ws Q I r r2 h
  obtain ⟨l, f, F, bs, rfl, rfl, hx, hl, hok, hz, K, q⟩ := h
  rw [Vals.ref1 r, Vals.ref1 r2]
  exact sort_inv hPo hu I (fun q hq => by cases hq) hx hl hok hz K q
/-- a def of the text as the key -/
theorem keyF_def {X : Cx} {β : Type} {Po : Obs β} {kx ky : β → Int} {F0 H0 : Hp} {f : Addr} {fd : FuncData} {ps : List Str} {k : Nat} (Fn : FnOk X.prog X.w X.K X.mg X.base CX0 k f fd ps (SpO (preOne Po) (fun b v H => oCell H v (kx b, ky b)))) (hb : Binds X.K fd ps []) (hr : Room (k + 2) X.A) :
    KeyF X X.A.in1.in1 f Po kx ky (fun _ => True) [] F0 H0 := ⟨fun pins σ s F H v b u _ I up r p _ => by
  have rv : Vals [v] [u] := .cons r .nil
  have e : SpO (preOne Po) (fun b v H => oCell H v (kx b, ky b)) [v] H (fun v' H' => ∃ F', Up F H F' H' ∧ oCell F' v' (kx b, ky b)) E0 := ⟨b, F, up.c, ⟨v, rfl, p⟩, fun v' F' H' u q => ⟨F', u, q⟩⟩
  have hl : ([u] : List Value).length = ps.length := Fn.len _ _ _ _ e
  refine wpAny_call (codeAny_mono (Fn.run X.A.in1.in1 X.stack s H ⟨[u], []⟩ [u] [v] _ E0 hr.in1.in1 I.env0.in1.in1 (hb s [u] I.kIn hl) rv e) fun r s' hq => ?_)
  cases r with
  | error e => exact False.elim hq
  | ok fl =>
    cases fl with
    | ret u' =>
      obtain ⟨v', H', J, rr, F', up', c⟩ := I.after hq
      exact ⟨v', H', F', J, rr, up', c⟩
    | next => exact False.elim hq
    | brk => exact False.elim hq
    | cont => exact False.elim hq⟩
end CW
namespace CB
/-! ### more on the blocks by bands -/
theorem fok_take {S : Cells} (hd : Dom S) : ∀ (bs : List Band) (f : FS), FOk S f → BandsFrom S f.behind bs → ∀ i, FOk S ((bs.take i).foldl FS.step f) ∧ BandsFrom S ((bs.take i).foldl FS.step f).behind (bs.drop i)
  | _, f, F, h, 0 => ⟨F, h⟩
  | [], f, F, h, i + 1 => ⟨F, h⟩
  | b :: bs, f, F, h, i + 1 => by
    cases q : f.behind with
    | none => rw [q] at h; exact absurd h (by simp [BandsFrom])
    | some x =>
      rw [q] at h
      obtain ⟨h1, h2, h3, h4⟩ := h
      have e : (f.step b).behind = b.2.1 := by unfold FS.step; rw [q]
      exact fok_take hd bs (f.step b) (fok_step hd F q h1 h2 h3) (by rw [e]; exact h4) i
theorem fs_snoc {bs : List Band} {i : Nat} {b : Band} (h : bs[i]? = some b) (f : FS) : (bs.take (i + 1)).foldl FS.step f = ((bs.take i).foldl FS.step f).step b := by
  rw [List.take_add_one, h, List.foldl_append]
  rfl
theorem closed_kept (h : Int) (b : Band) (d : Begun) : (closedBy h b d).length + (keptBy h b d).length = d.length := by
  unfold closedBy keptBy
  rw [List.length_map]
  induction d with
  | nil => rfl
  | cons p d ih =>
    rw [List.filter_cons, List.filter_cons]
    cases q : closes h b p <;> simp only [q, if_true, Bool.not_true, Bool.not_false, if_false, List.length_cons, Bool.false_eq_true] <;> omega
theorem fs_len : ∀ (bs : List Band) (f : FS), (∀ b ∈ bs, b.2.2.length ≤ 100) → (bs.foldl FS.step f).found.length + (bs.foldl FS.step f).begun.length ≤ f.found.length + f.begun.length + 100 * bs.length
  | [], f, _ => by simp
  | b :: bs, f, hb => by
    have ih := fs_len bs (f.step b) fun c hc => hb c (List.mem_cons_of_mem _ hc)
    have h1 := hb b List.mem_cons_self
    have h2 : (f.step b).found.length + (f.step b).begun.length ≤ f.found.length + f.begun.length + 100 := by
      unfold FS.step
      cases f.behind with
      | none => simp only; omega
      | some h =>
        simp only
        rw [List.length_append]
        have e1 := begun_length b.1 b.2.2 (keptBy h b f.begun)
        have e2 := closed_kept h b f.begun
        omega
    rw [List.foldl_cons, List.length_cons]
    omega
theorem begun_bok {S : Cells} (hd : Dom S) {f : FS} (F : FOk S f) {p : Run × Int} (hp : p ∈ f.begun) : BOk ⟨p.2, p.1.1, f.behind, p.1.2⟩ := by
  cases q : f.behind with
  | some h =>
    obtain ⟨h1, h2, _⟩ := (F.bg h q p).mp hp
    have r := h2 p.2 (Int.le_refl _) h1
    have d := hd _ p.1.1 (r.all _ r.val.first)
    exact ⟨d.1, d.2, fun x hx => by cases hx; exact h1, r.val⟩
  | none =>
    obtain ⟨h2, _⟩ := (F.bgN q p).mp hp
    have r := h2 p.2 (Int.le_refl _)
    have d := hd _ p.1.1 (r.all _ r.val.first)
    exact ⟨d.1, d.2, fun x hx => (by cases hx), r.val⟩
end CB
namespace CW
open PySem PySem.Spec PyProof.Rows L2
open Evl (Ex Ex.refl Ex.trans Ex.new Ex.mut fresh_back)
section
variable {K : PySem.W.Frag} {P : Program} {w : World} {σ : L2.St} {F A : Hp} {C : Addr} {ta : TA} {te : TE}
/-- Block(..) -/
theorem gv_make {b : CB.Blk} {PA : List V → Hp → Prop} (h : Gv (ta σ) F PA) (hp : ∀ vs F', Ex F F' → PA vs F' → vs = [.int b.top, .int b.left, oV b.bottom, oV b.right]) (ok : CB.BOk b) : Gv (tMake C (spBInit C) [] E0 ta σ) F (fun v F' => oBlk C F' v b) := fun H1 e Q q => h H1 e _ fun vs F' H2 u p x dx nx ndx hne => by
  have hv := hp vs F' u.a p
  subst hv
  refine ⟨x, dx, b, rfl, ok, upd_same, rfl, ?_⟩
  rw [upd_upd]
  have nx' : upd H2 dx (.own x) x = none := by rw [upd_ne (Ne.symm hne)]; exact nx
  have u2 := u.trans (Up.new (o := .own x) u.c ndx)
  refine q (.ref x) (upd (upd F' dx (.own x)) x (.ins C dx (bF b))) _ (u2.trans (Up.new u2.c nx')) ⟨x, dx, rfl, upd_same⟩
/-! ### the pairs of begun.items() -/
def oPair : Obs Beg := fun H v y => ∃ t, v = .ref t ∧ H t = some (.tup [.ref y.2.1, .int y.2.2])
theorem mono_pair : Mono oPair := fun H H' v x e ⟨t, h1, h2⟩ => ⟨t, h1, e _ _ h2⟩
theorem up_lay : ∀ (ts : List Addr) (ys : List Beg) {H H1 : Hp}, Ex H H1 → (∀ t ∈ ts, H1 t = none) → ts.Nodup → Up H H1 (layT H ts ys) (layT H1 ts ys)
  | [], _, H, H1, e, _, _ => Up.refl e
  | _ :: _, [], H, H1, e, _, _ => Up.refl e
  | t :: ts, y :: ys, H, H1, e, hn, nd => by
    obtain ⟨n1, n2⟩ := List.nodup_cons.mp nd
    have u1 := Up.new (o := .tup [.ref y.2.1, .int y.2.2]) e (hn t List.mem_cons_self)
    have u2 := up_lay ts ys u1.c (fun t' ht' => by
      rw [upd_ne (show t' ≠ t from fun z => n1 (by rw [← z]; exact ht'))]
      exact hn t' (List.mem_cons_of_mem _ ht')) n2
    exact u1.trans u2
theorem lay_items : ∀ {ts : List Addr} {ys : List Beg} {H : Hp}, Paired (fun (t : Addr) (y : Beg) => H t = some (.tup [.ref y.2.1, .int y.2.2])) ts ys → Items oPair H (ts.map V.ref) ys
  | _, _, _, .nil => trivial
  | _, _, _, .cons h t => ⟨⟨_, rfl, h⟩, lay_items t⟩
/-- list(begun.items()), begun no part of what is known -/
theorem b_items {d : Addr} {ys : List Beg} {Q : VK} {i : Nat} (hx : Ex F A) (hσ : σ[i]? = some (some (.ref d))) (hd : A d = some (BegO P w d ys)) (hz : ys.length ≤ 10000) (q : ∀ v F' A', Up F A F' A' → oLst oPair F' v ys → Q v A') : tBItems P w (tVar i) σ A Q := by
  refine ⟨.ref d, hσ, d, ys, rfl, hd, hz, fun p ts np nts hp nd hl => ?_⟩
  have u1 := Up.new (o := .lst (ts.map V.ref)) hx np
  have nts' : ∀ t ∈ ts, upd A p (.lst (ts.map V.ref)) t = none := fun t ht => by rw [upd_ne (show t ≠ p from fun z => hp (by rw [← z]; exact ht))]; exact nts t ht
  have u2 := up_lay ts ys u1.c nts' nd
  refine q _ _ _ (u1.trans u2) ⟨p, ts.map V.ref, rfl, ?_, lay_items (layT_at ts ys _ hl nd)⟩
  rw [layT_off ts ys _ hp, upd_same]
/-- the list of what is made of each, begun locked -/
theorem lc_bitems {β : Type} {Ro : Obs β} (hRo : Mono Ro) {d : Addr} {o : Obj} {ys : List Beg} {i j k : Nat} {vs : List Nat} (f : Beg → β) (hx : Ex F A) (hσ : σ[i]? = some (some (.ref d))) (hd : A d = some (.frz o (BegO P w d ys))) (nd : F d = none) (hz : ys.length ≤ 10000)
    (hw : ∀ a b, wipe (((wipe σ vs).set j (some a)).set k (some b)) vs = wipe σ vs)
    (turn : ∀ F', Ex F F' → ∀ y ∈ ys, Gv (te (((wipe σ vs).set j (some (.ref y.2.1))).set k (some (.int y.2.2)))) F' (fun v F2 => Ro F2 v (f y)))
    {Q : VK} (q : ∀ v F' A', Up F A F' A' → F' d = none → oLst Ro F' v (ys.map f) → Q v A') : tLc (iBItems P w (tVar i)) (g2 K j k) tYes te vs σ A Q := by
  refine ⟨.ref d, hσ, d, o, ys, rfl, hd, fun Dl hD => ?_⟩
  refine ⟨fun i m A' => m = ys.length - i ∧ i ≤ ys.length ∧ ∃ F' acc, Ex F F' ∧ Ex F' A' ∧ Ex A A' ∧ F' Dl = none ∧ (∀ p, A p ≠ none → F p = none → F' p = none) ∧ A' Dl = some (.lst acc) ∧ acc.length ≤ i ∧ Items Ro F' acc ((ys.take i).map f),
    ⟨ys.length, rfl, Nat.zero_le _, F, [], Ex.refl _, Ex.touch hx (none_of_ex hx hD), Ex.new hD, none_of_ex hx hD, fun _ _ z => z, upd_same, Nat.le_refl _, trivial⟩, ?_⟩
  rintro i m A' ⟨rfl, hle, F', acc, e1, e2, e3, nD, nn, hacc, hlen, its⟩
  by_cases hlt : i < ys.length
  · refine .inr ⟨⟨e3 _ _ hd, hlt⟩, fun A2 => i + 1 ≤ ys.length ∧ ∃ F' acc, Ex F F' ∧ Ex F' A2 ∧ Ex A A2 ∧ F' Dl = none ∧ (∀ p, A p ≠ none → F p = none → F' p = none) ∧ A2 Dl = some (.lst acc) ∧ acc.length ≤ i + 1 ∧ Items Ro F' acc ((ys.take (i + 1)).map f), fun A2 h => ⟨ys.length - (i + 1), by omega, rfl, h⟩, ?_⟩
    rintro x A2 ⟨T, y, hy, rfl, hT, rfl⟩
    have eT := Ex.new (o := .tup [.ref y.2.1, .int y.2.2]) hT
    have neT : Dl ≠ T := fun z => by rw [z, hT] at hacc; cases hacc
    refine g_two upd_same ⟨hw _ _, ?_⟩
    unfold tYes
    refine iteT ?_
    refine turn F' e1 y (List.mem_of_getElem? hy) _ (e2.trans eT) _ fun v F3 A3 u3 hv => ?_
    have hacc2 : upd A' T (.tup [.ref y.2.1, .int y.2.2]) Dl = some (.lst acc) := by rw [upd_ne neT]; exact hacc
    have hacc3 := u3.b _ _ hacc2
    have nD3 : F3 Dl = none := u3.n _ (fun z => by rw [hacc2] at z; cases z) nD
    refine ⟨acc, hacc3, szlt (by omega), hlt, F3, acc ++ [v], e1.trans u3.a, Ex.touch u3.c nD3, Ex.mut ((e3.trans eT).trans u3.b) hD, nD3, fun p h1 h2 => ?_, upd_same, by rw [List.length_append]; show acc.length + 1 ≤ i + 1; omega, ?_⟩
    · refine u3.n p (fun z => ?_) (nn p h1 h2)
      cases w : A p with
      | none => exact h1 w
      | some o => rw [(e3.trans eT) p o w] at z; cases z
    · rw [List.take_add_one, hy, List.map_append]
      exact Items.snoc hv (its.mono hRo u3.a)
  · have e : i = ys.length := by omega
    subst e
    rw [List.take_length] at its
    refine .inl ⟨⟨e3 _ _ hd, Nat.le_refl _⟩, ?_⟩
    have hne : Dl ≠ d := fun z => by rw [z, hd] at hD; cases hD
    refine q _ (upd F' Dl (.lst acc)) A' ⟨e1.trans (Ex.new nD), e3, Ex.known e2 hacc, fun p h1 h2 => ?_⟩ ?_ ⟨Dl, acc, rfl, upd_same, its.mono hRo (Ex.new nD)⟩
    · have hp : p ≠ Dl := fun z => h1 (by rw [z]; exact hD)
      rw [upd_ne hp]
      exact nn p h1 h2
    · rw [upd_ne (Ne.symm hne)]
      exact nn d (fun z => by rw [hd] at z; cases z) nd
end
end CW
namespace CW
open PySem PySem.Spec PyProof.Rows L2
open Evl (Ex Ex.refl Ex.trans Ex.new Ex.mut fresh_back)
/-! ### form_of -/
def pr (y : Beg) : CB.Run × Int := (y.1, y.2.2)
theorem map_fst_pr (ys : List Beg) : (ys.map pr).map (·.1) = ys.map (·.1) := by rw [List.map_map]; rfl
theorem setB_pr (ys : List Beg) (r : CB.Run) (a : Addr) (i : Int) : (setB ys r a i).map pr = CB.setRun i (ys.map pr) r := by
  unfold setB CB.setRun
  rw [map_fst_pr]
  split
  · rfl
  · rw [List.map_append]; rfl
/-- what is left behind the first j -/
def leftB (h : Int) (b : CB.Band) (ys : List Beg) (j : Nat) : List Beg := ((ys.take j).filter fun y => !CB.closes h b (pr y)) ++ ys.drop j
theorem leftB_all (h : Int) (b : CB.Band) (ys : List Beg) : (leftB h b ys ys.length).map pr = CB.keptBy h b (ys.map pr) := by
  unfold leftB CB.keptBy
  rw [List.take_length, List.drop_length, List.append_nil, List.filter_map]
  rfl
theorem leftB_keep {h : Int} {b : CB.Band} {ys : List Beg} {j : Nat} {y : Beg} (hy : ys[j]? = some y) (hc : CB.closes h b (pr y) = false) : leftB h b ys (j + 1) = leftB h b ys j := by
  unfold leftB
  have e : ys.drop j = y :: ys.drop (j + 1) := by
    obtain ⟨hj, e⟩ := List.getElem?_eq_some_iff.mp hy
    rw [← e]; exact List.drop_eq_getElem_cons hj
  rw [List.take_add_one, hy, List.filter_append, e]
  simp [hc]
theorem leftB_pop {h : Int} {b : CB.Band} {ys : List Beg} {j : Nat} {y : Beg} (nd : (ys.map (·.1)).Nodup) (hy : ys[j]? = some y) (hc : CB.closes h b (pr y) = true) : popB (leftB h b ys j) y.1 = leftB h b ys (j + 1) := by
  unfold leftB popB
  have e : ys.drop j = y :: ys.drop (j + 1) := by
    obtain ⟨hj, e⟩ := List.getElem?_eq_some_iff.mp hy
    rw [← e]; exact List.drop_eq_getElem_cons hj
  have whole : ys = ys.take j ++ y :: ys.drop (j + 1) := by rw [← e, List.take_append_drop]
  rw [whole, List.map_append, List.map_cons, List.nodup_append] at nd
  obtain ⟨_, nd2, nd3⟩ := nd
  have nd4 := (List.nodup_cons.mp nd2).1
  rw [List.take_add_one, hy, List.filter_append, List.filter_append, e]
  have e1 : List.filter (fun z => decide (z.1 ≠ y.1)) ((ys.take j).filter (fun z => !CB.closes h b (pr z))) = (ys.take j).filter (fun z => !CB.closes h b (pr z)) := by
    refine List.filter_eq_self.mpr fun z hz => ?_
    have hz := (List.mem_filter.mp hz).1
    exact decide_eq_true fun q => nd3 z.1 (List.mem_map.mpr ⟨z, hz, rfl⟩) y.1 List.mem_cons_self q
  have e2 : (ys.drop (j + 1)).filter (fun z => decide (z.1 ≠ y.1)) = ys.drop (j + 1) := by
    refine List.filter_eq_self.mpr fun z hz => ?_
    exact decide_eq_true fun q => nd4 (by rw [← q]; exact List.mem_map.mpr ⟨z, hz, rfl⟩)
  rw [e1, List.filter_cons, if_neg (by simp), e2]
  simp [hc]
theorem closed_snoc {h : Int} {b : CB.Band} {ys : List Beg} {j : Nat} {y : Beg} (hy : ys[j]? = some y) : CB.closedBy h b ((ys.take (j + 1)).map pr) = CB.closedBy h b ((ys.take j).map pr) ++ (if CB.closes h b (pr y) = true then [⟨y.2.2, y.1.1, some h, y.1.2⟩] else []) := by
  unfold CB.closedBy
  rw [List.take_add_one, hy, List.map_append, List.filter_append, List.map_append]
  simp only [Option.toList_some, List.map_cons, List.map_nil]
  rw [List.filter_cons]
  cases q : CB.closes h b (pr y) <;> simp [pr]
theorem leftB_sub {h : Int} {b : CB.Band} {ys : List Beg} {j : Nat} {z : Beg} (hz : z ∈ leftB h b ys j) : z ∈ ys := by
  rcases List.mem_append.mp hz with hz | hz
  · exact List.mem_of_mem_take (List.mem_filter.mp hz).1
  · exact List.mem_of_mem_drop hz
theorem leftB_len (h : Int) (b : CB.Band) (ys : List Beg) (j : Nat) : (leftB h b ys j).length ≤ ys.length := by
  unfold leftB
  rw [List.length_append, List.length_drop]
  have h1 := List.length_filter_le (fun y => !CB.closes h b (pr y)) (ys.take j)
  rw [List.length_take] at h1
  omega
theorem setB_sub {ys : List Beg} {r : CB.Run} {a : Addr} {i : Int} {z : Beg} (h : z ∈ setB ys r a i) : z ∈ ys ∨ z = (r, a, i) := by
  unfold setB at h
  split at h
  · exact .inl h
  · rcases List.mem_append.mp h with h | h
    · exact .inl h
    · exact .inr (List.mem_singleton.mp h)
def preForm (bs : List CB.Band) : Prop := (∃ S, CB.Dom S ∧ CB.BandsFrom S (some 0) bs) ∧ bs.length ≤ 63 ∧ ∀ b ∈ bs, b.2.2.length ≤ 100
def spForm (C : Addr) : Sp := SpO (preLst oBand preForm) (fun bs v H => oLst (oBlk C) H v (CB.formB bs))
theorem leK_bLe : leK (fun b : CB.Blk => b.top) (fun b => b.left) = CB.bLe := by
  funext a b
  unfold leK CB.bLe
  rw [Bool.eq_iff_iff]
  simp
abbrev fs0 : CB.FS := ⟨[], [], some 0⟩
/-- the state in the heap -/
structure FState (P : Program) (w : World) (C p d : Addr) (F A : Hp) (found : List CB.Blk) (ys : List Beg) : Prop where
  np : F p = none
  nd : F d = none
  fl : ∃ ws, A p = some (.lst ws) ∧ Items (oBlk C) F ws found
  dl : A d = some (BegO P w d ys)
  bk : BK F ys
section
variable {P : Program} {w : World} {C p d : Addr} {F A F' A' : Hp} {found : List CB.Blk} {ys : List Beg}
theorem FState.ne (s : FState P w C p d F A found ys) : d ≠ p := fun z => by
  obtain ⟨ws, h, _⟩ := s.fl
  have := s.dl
  rw [z, h] at this
  cases this
theorem FState.up (s : FState P w C p d F A found ys) (u : Up F A F' A') : FState P w C p d F' A' found ys := by
  obtain ⟨ws, h, it⟩ := s.fl
  exact ⟨u.n p (fun z => by rw [h] at z; cases z) s.np, u.n d (fun z => by rw [s.dl] at z; cases z) s.nd, ⟨ws, u.b _ _ h, it.mono (mono_blk C) u.a⟩, u.b _ _ s.dl, s.bk.mono u.a⟩
/-- begun changes -/
theorem FState.beg (s : FState P w C p d F A found ys) {ys' : List Beg} (b : BK F ys') : FState P w C p d F (upd A d (BegO P w d ys')) found ys' := by
  obtain ⟨ws, h, it⟩ := s.fl
  exact ⟨s.np, s.nd, ⟨ws, by rw [upd_ne (Ne.symm s.ne)]; exact h, it⟩, upd_same, b⟩
/-- found grows -/
theorem FState.app (s : FState P w C p d F A found ys) {ws : List V} {more : List CB.Blk} (it : Items (oBlk C) F ws (found ++ more)) : FState P w C p d F (upd A p (.lst ws)) (found ++ more) ys :=
  ⟨s.np, s.nd, ⟨ws, upd_same, it⟩, by rw [upd_ne s.ne]; exact s.dl, s.bk⟩
theorem Up.unlock {o o' : HO} {d : Addr} (hd : A d = some o) (nd : F d = none) (u : Up F (upd A d o') F' A') : Up F A F' (upd A' d o) := by
  have nd' : F' d = none := u.n d (fun z => by rw [upd_same] at z; cases z) nd
  refine ⟨u.a, fun b x e => ?_, Ex.touch u.c nd', fun q h1 h2 => u.n q (fun z => ?_) h2⟩
  · by_cases z : b = d
    · rw [z, upd_same, ← hd, ← z]; exact e
    · rw [upd_ne z]
      exact u.b b x (by rw [upd_ne z]; exact e)
  · by_cases y : q = d
    · rw [y, upd_same] at z; cases z
    · rw [upd_ne y] at z; exact h1 z
end
end CW
namespace CW
open PySem PySem.Spec PyProof.Rows L2
open Evl (Ex Ex.refl Ex.trans Ex.new Ex.mut fresh_back)
section
variable {K : PySem.W.Frag} {σ : L2.St} {F A : Hp} {tl : TE} {D : Ends} {tz tb : TS} {g : TG}
/-- a list made out of what stands in the heap, walked -/
theorem sq_forA {α : Type} {Po : Obs α} (hPo : Mono Po) {xs : List α} (h : ∀ Q : VK, (∀ v F' A', Up F A F' A' → oLst Po F' v xs → Q v A') → tl σ A Q) (W : Hp → Nat → L2.St → Hp → Hp → Prop)
    (hW : ∀ B i σ' F' A', W B i σ' F' A' → Ex B F' ∧ Ex F' A') (h0 : ∀ F' A', Up F A F' A' → W F' 0 σ F' A')
    (hs : ∀ B i x v σ' F' A', xs[i]? = some x → W B i σ' F' A' → Po F' v x → g v σ' A' fun σ2 A2 => tb { D with nx := fun σ3 A3 => ∃ F3, W B (i + 1) σ3 F3 A3, ct := fun σ3 A3 => ∃ F3, W B (i + 1) σ3 F3 A3, bk := tz D } σ2 A2)
    (hd : ∀ B σ' F' A', W B xs.length σ' F' A' → tz D σ' A') : tSeq (tFor (iList K tl) g tb) tz D σ A := h _ fun v F1 A1 u p => by
  obtain ⟨a, vs, rfl, ha, hi⟩ := p
  refine ⟨a, rfl, ⟨vs, SqL.of (u.c a _ ha)⟩, for_list (xs := vs) (fun i σ' A' => ∃ F', W F1 i σ' F' A') ⟨F1, h0 F1 A1 u⟩ (fun i σ' A' _ ⟨F', w⟩ => ?_) (fun i y σ' A' hy ⟨F', w⟩ => ?_) (fun σ' A' ⟨F', w⟩ => ?_)⟩
  · obtain ⟨e1, e2⟩ := hW _ _ _ _ _ w
    exact SqL.of (e2 a _ (e1 a _ ha))
  · obtain ⟨e1, e2⟩ := hW _ _ _ _ _ w
    obtain ⟨x, hx1, hx2⟩ := hi.get hy
    exact hs F1 i x y σ' F' A' hx1 w (hPo _ _ _ _ e1 hx2)
  · rw [hi.length] at w
    exact hd F1 σ' F' A' w
theorem sq_bnew {P : Program} {w : World} {i : Nat} {H0 H1 : Hp} (u : Up H0 H1 F A) (k : ∀ d, H1 d = none → F d = none → A d = none → Up H0 H1 F (upd A d (BegO P w d [])) → tz D (σ.set i (some (.ref d))) (upd A d (BegO P w d []))) : tSeq (tAsg (tBNew P w) (gName i)) tz D σ A :=
  fun d hd => k d (none_of_ex u.b hd) (none_of_ex u.c hd) hd (u.touch (none_of_ex u.b hd) (none_of_ex u.c hd))
theorem upd_comm {H : Hp} {a b : Addr} {o o' : HO} (h : a ≠ b) : upd (upd H a o) b o' = upd (upd H b o') a o := by
  funext c
  unfold upd
  by_cases h1 : c = b
  · by_cases h2 : c = a
    · exact absurd (h2.symm.trans h1) h
    · rw [if_pos h1, if_neg h2, if_pos h1]
  · rw [if_neg h1]
    by_cases h2 : c = a
    · rw [if_pos h2, if_pos h2]
    · rw [if_neg h2, if_neg h2, if_neg h1]
theorem blk_args {a : Addr} {r : CB.Run} {t : Int} {o : Option Int} {H : Hp} (h7 : σ[7]? = some (some (.ref a))) (ha : H a = some (.tup [.int r.1, oV r.2])) (h8 : σ[8]? = some (some (.int t))) (h3 : σ[3]? = some (some (oV o))) :
    Gv (tCons (tVar 8) (tCons (tOp (rIxT K) (tVar 7) (tC (.int 0))) (tCons (tVar 3) (tCons (tOp (rIxT K) (tVar 7) (tC (.int 1))) tNil))) σ) H (fun vs _ => vs = [.int t, .int r.1, oV o, oV r.2]) := by
  have hr : ∀ {H' : Hp}, Ex H H' → oRun H' (.ref a) r := fun {H'} e => ⟨a, _, _, rfl, e _ _ ha, rfl, rfl⟩
  refine ga_cons (gv_var (P := fun v _ => v = .int t) h8 rfl) fun v1 H1 e1 q1 => ga_cons (gv_fst mono_int (gv_var h7 (hr e1)) fun _ _ => gv_c rfl) fun v2 H2 e2 q2 => ga_cons (gv_var (P := fun v _ => v = oV o) h3 rfl) fun v3 H3 e3 q3 => ga_cons (gv_snd mono_opt (gv_var h7 (hr ((e1.trans e2).trans e3))) fun _ _ => gv_c rfl) fun v4 H4 e4 q4 => ga_nil ?_
  rw [q1, show v2 = .int r.1 from q2, q3, show v4 = oV r.2 from q4]
end
theorem roomU {k : Nat} {A : Around} (r : Room k A) {n : Nat} (h : n ≤ 200) : A.units + n < cLine := by have := r.un; omega
section
variable {P : Program} {w : World} {K : PySem.W.Frag} {mg : Str → Option Value} {base : Heap} {f C fE : Addr} {fd : FuncData}
theorem scForm : FnScope ["bands", "found", "begun", "behind", "first", "last", "runs", "run", "top"] ["bands"] (defScope sForm) := ⟨rfl, rfl, rfl, by decide +kernel, rfl, by decide +kernel, by decide +kernel⟩
theorem cal_form (F : Fun K "form_of" "form_of" sForm f fd) (g : mg "form_of" = some (.ref f)) (m1 : mg "list" = none) (m2 : mg "sorted" = none) (cB : C8.Mak P w K mg base 4 "Block" C (spBInit C) []) (cF : Cal P w K mg base "first_cell" 1 (spFirst C)) :
    Cal P w K mg base "form_of" 6 (spForm C) := by
  obtain ⟨fF, fdF, psF, gF, FnF, kpF, bF⟩ := cF.ex
  refine cal_mk F g scForm (fun _ _ _ _ _ _ us hl => match us, hl with | [_], _ => rfl) (fun vs H Q E ⟨x, H0, _, ⟨v, e, _⟩, _⟩ => by rw [e]; rfl) fun cdv A outer s H vs Q E hr ⟨bs, H0, hx, ⟨v, e, hv, hok⟩, q⟩ => ?_
  subst e
  obtain ⟨⟨S, hdom, hfrom⟩, hlen, hruns⟩ := hok
  refine ⟨_, pss_cons (ps_set (i := 1) scForm.nd rfl (.inl rfl) (pe_lst pa_nil))
    (pss_cons (ps_set (i := 2) scForm.nd rfl (.inl rfl) pe_bnew)
    (pss_cons (ps_set (i := 3) scForm.nd rfl (.inr rfl) pe_int)
    (pss_cons (ps_for PassesOwn.never rfl (pi_list (pv 0)) (pg_tup rfl (pgs_cons (pg_name (i := 4) scForm.nd rfl (.inl rfl)) (pgs_cons (pg_name (i := 5) scForm.nd rfl (.inl rfl)) (pgs_cons (pg_name (i := 6) scForm.nd rfl (.inl rfl)) pgs_nil))))
      (pss_cons (ps_for PassesOwn.never rfl (pi_list (pe_bitems rfl (pv 2) (by rfl) m1 (by decide +kernel))) (pg_tup rfl (pgs_cons (pg_name (i := 7) scForm.nd rfl (.inl rfl)) (pgs_cons (pg_name (i := 8) scForm.nd rfl (.inl rfl)) pgs_nil)))
        (pss_one (ps_if (PW.pt (pw_or (pt_cmpR (op_notInD (roomU hr (by decide))) (pv 7) (pv 6) (by rfl)) (pw_or1 (pt_cmpR op_ne (pv 4) (pe_op op_add (pv 3) pe_int) (nomark _)))))
          (pss_cons (ps_expr (pe_bm PySem.F.plainAttrs_list PySem.F.slot_list_append PySem.F.type_list_append mt_append (pv 1) (pa_cons (C8.pe_mk cB hr (by decide) (by rfl) (pa_cons (pv 8) (pa_cons (pe_ix ix_tup (pv 7) pe_int (fun _ _ => rfl)) (pa_cons (pv 3) (pa_cons (pe_ix ix_tup (pv 7) pe_int (fun _ _ => rfl)) pa_nil))))) pa_nil)))
          (pss_one (ps_expr (pe_bm1 PySem.F.slot_dict_pop (by rfl) (mt_bpop (roomU hr (by decide))) (pv 2) (pa_cons (pv 7) pa_nil))))) pss_nil)))
      (pss_cons (ps_for PassesOwn.never rfl (pi_list (pv 6)) (pg_name (i := 7) scForm.nd rfl (.inl rfl))
        (pss_one (ps_expr (pe_bm1 PySem.F.slot_dict_setdefault (by rfl) (mt_bset (roomU hr (by decide))) (pv 2) (pa_cons (pv 7) (pa_cons (pv 4) pa_nil))))))
      (pss_one (ps_set (i := 3) scForm.nd rfl (.inr rfl) (pv 5))))))
    (pss_cons (ps_lock (ps_expr (pe_bm PySem.F.plainAttrs_list PySem.F.slot_list_extend PySem.F.type_list_extend mt_extend (pv 1) (pa_cons
      (pe_lc (g := g2 K 7 8) (own := [("run", 7), ("top", 8)]) (tt := tYes) (te := tMake C (spBInit C) [] E0 (tCons (tVar 8) (tCons (tOp (rIxT K) (tVar 7) (tC (.int 0))) (tCons (tVar 3) (tCons (tOp (rIxT K) (tVar 7) (tC (.int 1))) tNil))))) (by rfl) scForm.nd (pi_bitems (pv 2))
        (blkOk_by (N := ["bands", "found", "begun", "behind", "first", "last", "runs", "run", "top"]) (sc := defScope sForm) (by decide +kernel))
        (fun _ _ _ _ _ => pg_tup rfl (pgs_cons (pg_name (i := 7) scForm.nd rfl (Or.inl rfl) (Or.inr rfl)) (pgs_cons (pg_name (i := 8) scForm.nd rfl (Or.inl rfl) (Or.inr rfl)) pgs_nil))) (fun _ _ _ _ _ => pts_nil)
        (fun _ _ _ _ _ => C8.pe_mk cB hr (by decide) (by rfl) (pa_cons (pv 8) (pa_cons (pe_ix ix_tup (pv 7) pe_int (fun _ _ => rfl)) (pa_cons (pv 3) (pa_cons (pe_ix ix_tup (pv 7) pe_int (fun _ _ => rfl)) pa_nil)))))) pa_nil))))
    (pss_one (ps_ret (pe_callBK (cr_sortK (Po := oBlk C) (kx := fun b => b.top) (ky := fun b => b.left) (ok := fun _ => True) (mono_blk C) (roomU hr (by decide))) (by rfl) m2 (by decide +kernel) (pa_cons (pv 1) pa_nil) (pk_cons (pe_glob (v := .ref fF) (by rfl) gF rfl) pk_nil)))))))), ?_⟩
  have hv : oLst oBand H0 v bs := hv
  refine sq_nil (Up.refl hx) fun p nH nF u1 => ?_
  refine sq_bnew u1 fun d dH dF dA u2 => ?_
  have hpd : p ≠ d := fun z => by rw [← z, upd_same] at dA; cases dA
  refine sq_asg (P := fun v _ => v = .int 0) u2.c (gv_c rfl) fun z F3 A3 u3 hz3 => ?_
  subst hz3
  have fs3 : FState P w C p d F3 A3 [] [] := FState.up (A := upd (upd H p (.lst [])) d (BegO P w d [])) (F := H0) ⟨nF, dF, ⟨[], by rw [upd_ne hpd, upd_same], trivial⟩, upd_same, fun y hy => by cases hy⟩ u3
  have U3 := u2.trans u3
  have lens : ∀ i, ((bs.take i).foldl CB.FS.step fs0).found.length + ((bs.take i).foldl CB.FS.step fs0).begun.length ≤ 6300 := fun i => by
    have h1 := CB.fs_len (bs.take i) fs0 fun b hb => hruns b (List.mem_of_mem_take hb)
    have h2 : (bs.take i).length ≤ 63 := by rw [List.length_take]; omega
    have h3 : fs0.found.length = 0 := rfl
    have h4 : fs0.begun.length = 0 := rfl
    omega
  refine sq_for mono_band U3.c (xs := bs) (gv_var rfl (mono_lst mono_band _ _ _ _ U3.a hv))
    (fun B i σ F A => Ex B F ∧ Up H0 H F A ∧ ∃ ys, FState P w C p d F A ((bs.take i).foldl CB.FS.step fs0).found ys ∧ ys.map pr = ((bs.take i).foldl CB.FS.step fs0).begun ∧ ∃ y4 y5 y6 y7 y8, σ = [some v, some (.ref p), some (.ref d), some (oV ((bs.take i).foldl CB.FS.step fs0).behind), y4, y5, y6, y7, y8])
    (fun B i σ F A ⟨e, u, _⟩ => ⟨e, u.c⟩) (fun F4 A4 u4 => ⟨Ex.refl _, U3.trans u4, [], fs3.up u4, rfl, none, none, none, none, none, rfl⟩) ?_ ?_
  · rintro B i ⟨f1, l, R⟩ vb σ F4 A4 hi ⟨eB, u4, ys, fs4, hys, y4, y5, y6, y7, y8, rfl⟩ hvb
    obtain ⟨tb, b1, b2, vR, rfl, htb, hb1, hb2, hvR⟩ := hvb
    have hb1 : b1 = .int f1 := hb1
    have hb2 : b2 = oV l := hb2
    subst hb1 hb2
    have hvR : oLst oRun F4 vR R := hvR
    refine g_three (u4.c _ _ htb) ?_
    obtain ⟨Fk, Hf⟩ := CB.fok_take hdom bs fs0 (CB.fok_start hdom) hfrom i
    have hdr : bs.drop i = (f1, l, R) :: bs.drop (i + 1) := by
      obtain ⟨hj, e⟩ := List.getElem?_eq_some_iff.mp hi
      rw [← e]; exact List.drop_eq_getElem_cons hj
    rw [hdr] at Hf
    have hstep := CB.fs_snoc hi fs0
    have hR100 : R.length ≤ 100 := hruns (f1, l, R) (List.mem_of_getElem? hi)
    have hl4 := lens i
    revert Fk Hf hstep fs4 hys hl4
    generalize (bs.take i).foldl CB.FS.step fs0 = fi
    intro fs4 hys Fk Hf hstep hl4
    obtain ⟨h, hh⟩ : ∃ h, fi.behind = some h := by
      cases q : fi.behind with
      | none => rw [q] at Hf; exact absurd Hf (by simp [CB.BandsFrom])
      | some h => exact ⟨h, rfl⟩
    have hsq : fi.step (f1, l, R) = ⟨fi.found ++ CB.closedBy h (f1, l, R) fi.begun, CB.begunBy f1 R (CB.keptBy h (f1, l, R) fi.begun), l⟩ := by
      unfold CB.FS.step
      rw [hh]
    have hlys : ys.length = fi.begun.length := by rw [← hys, List.length_map]
    have hnd : (ys.map (·.1)).Nodup := by
      have := Fk.key
      rw [← hys, map_fst_pr] at this
      exact this
    have eh : oV fi.behind = .int h := by rw [hh]; rfl
    rw [eh]
    have clen : ∀ j, (CB.closedBy h (f1, l, R) ((ys.take j).map pr)).length ≤ 6300 := fun j => by
      have h1 := CB.closed_kept h (f1, l, R) ((ys.take j).map pr)
      rw [List.length_map, List.length_take] at h1
      omega
    -- what is gone on with, what is closed
    refine sq_forA mono_pair (xs := ys) (fun Q q => b_items u4.c rfl fs4.dl (by omega) q)
      (fun B' j σ' F' A' => Ex B' F' ∧ Ex F4 F' ∧ Up H0 H F' A' ∧ FState P w C p d F' A' (fi.found ++ CB.closedBy h (f1, l, R) ((ys.take j).map pr)) (leftB h (f1, l, R) ys j) ∧ ∃ y7 y8, σ' = [some v, some (.ref p), some (.ref d), some (.int h), some (.int f1), some (oV l), some vR, y7, y8])
      (fun B' j σ' F' A' ⟨e, _, u, _⟩ => ⟨e, u.c⟩) (fun F' A' u => ⟨Ex.refl _, u.a, u4.trans u, by
        have e1 : CB.closedBy h (f1, l, R) ((ys.take 0).map pr) = [] := rfl
        have e2 : leftB h (f1, l, R) ys 0 = ys := rfl
        rw [e1, e2, List.append_nil]
        exact fs4.up u, _, _, rfl⟩) ?_ ?_
    · rintro B' j y vy σ' F5 A5 hj ⟨eB5, e45, u5, fs5, y7, y8, rfl⟩ ⟨t, rfl, ht⟩
      refine g_two (u5.c _ _ ht) ?_
      have hymem := List.mem_of_getElem? hj
      have hkey : F5 y.2.1 = some (.tup [.int y.1.1, oV y.1.2]) := e45 _ _ (fs4.bk y hymem)
      have hrun : ∀ {F' : Hp}, Ex F5 F' → oRun F' (.ref y.2.1) y.1 := fun {F'} e => ⟨y.2.1, _, _, rfl, e _ _ hkey, rfl, rfl⟩
      refine st_if u5.c (b := CB.closes h (f1, l, R) (pr y)) (gt_is (gt_or (gt_test (gv_inL (x := y.1) (xs := R) mono_run (d := dRun) (fun H v x => dp_run) lay_run (n := 1) (by decide) (fun x => Nat.le_of_eq (depth_run x)) eqv_run (gv_var rfl (hrun (Ex.refl _))) fun H' e => gv_var rfl (mono_lst mono_run _ _ _ _ (e45.trans e) hvR)))
        (fun _ H' e => gt_test (b := decide (f1 ≠ h + 1)) (gv_op (Pa := fun v _ => v = .int f1) (Pb := fun v _ => v = .int (h + 1)) (gv_var rfl rfl) (fun _ _ _ _ => gv_opI (gv_var (P := fun v _ => v = .int h) rfl rfl) (fun _ _ => gv_c rfl) fun _ _ => rfl) fun a b H2 H3 e2 e3 h2 h3 => by
          subst h2 h3
          refine gv_ne rfl ?_
          have : (V.int f1 = V.int (h + 1)) ↔ f1 = h + 1 := ⟨fun q => by cases q; rfl, fun q => by rw [q]⟩
          simp [this]))) ?_) (fun hb F6 A6 u6 => ?_) (fun hb F6 A6 u6 => ?_)
      · rw [Bool.eq_iff_iff]
        simp [CB.closes, pr]
        exact or_congr decide_eq_true_iff.symm Iff.rfl
      · obtain ⟨ws, hws, itw⟩ := fs5.fl
        have fs6 := fs5.up u6
        obtain ⟨ws6, hws6, itw6⟩ := fs6.fl
        have e46 := e45.trans u6.a
        have hkey6 := u6.a _ _ hkey
        have hlw : ws6.length ≤ 12600 := by
          have h1 := itw6.length
          rw [List.length_append] at h1
          have h2 := clen j
          omega
        have hbok : CB.BOk ⟨y.2.2, y.1.1, some h, y.1.2⟩ := by
          have hp : pr y ∈ fi.begun := by rw [← hys]; exact List.mem_map.mpr ⟨y, hymem, rfl⟩
          have := CB.begun_bok hdom Fk hp
          rw [hh] at this
          exact this
        refine sq_app (P := fun v F' => oBlk C F' v ⟨y.2.2, y.1.1, some h, y.1.2⟩) u6.c hws6 fs6.np rfl (by omega) (gv_make (PA := fun vs _ => vs = [.int y.2.2, .int y.1.1, oV (some h), oV y.1.2]) (blk_args (o := some h) rfl hkey6 rfl rfl) (fun vs F' _ hq => hq) hbok) fun x F7 A7 u7 hx7 np7 hA7 => ?_
        have fs7 := fs6.up u7
        have itn : Items (oBlk C) F7 (ws6 ++ [x]) ((fi.found ++ CB.closedBy h (f1, l, R) ((ys.take j).map pr)) ++ [⟨y.2.2, y.1.1, some h, y.1.2⟩]) := Items.snoc hx7 (itw6.mono (mono_blk C) u7.a)
        have fs8 := fs7.app itn
        have u8 : Up H0 H F7 (upd A7 p (.lst (ws6 ++ [x]))) := ((u5.trans u6).trans u7).touch nH np7
        have hin : y.1 ∈ (leftB h (f1, l, R) ys j).map (·.1) := by
          refine List.mem_map.mpr ⟨y, List.mem_append_right _ ?_, rfl⟩
          obtain ⟨hjl, e⟩ := List.getElem?_eq_some_iff.mp hj
          rw [List.drop_eq_getElem_cons hjl, e]
          exact List.mem_cons_self
        have hll := leftB_len h (f1, l, R) ys j
        refine ⟨.ref d, rfl, ⟨d, _, rfl, fs8.dl⟩, .ref y.2.1, rfl, d, y.2.1, _, y.1, rfl, rfl, fs8.dl, u8.c _ _ (u7.a _ _ hkey6), (fun z hz => u8.c _ _ (fs8.bk z hz)), by omega, hin, fun _ => ?_⟩
        refine ⟨F7, (eB5.trans u6.a).trans u7.a, e46.trans u7.a, u8.touch dH fs8.nd, ?_, _, _, rfl⟩
        have e1 : CB.closedBy h (f1, l, R) ((ys.take (j + 1)).map pr) = CB.closedBy h (f1, l, R) ((ys.take j).map pr) ++ [⟨y.2.2, y.1.1, some h, y.1.2⟩] := by rw [closed_snoc hj, if_pos hb]
        rw [leftB_pop hnd hj hb, e1, ← List.append_assoc]
        exact fs8.beg fun z hz => e46.trans u7.a _ _ (fs4.bk z (leftB_sub hz))
      · refine ⟨F6, eB5.trans u6.a, e45.trans u6.a, u5.trans u6, ?_, _, _, rfl⟩
        rw [leftB_keep hj hb, closed_snoc hj, if_neg (by rw [hb]; decide), List.append_nil]
        exact fs5.up u6
    · rintro B' σ' F5 A5 ⟨eB5, e45, u5, fs5, y7, y8, rfl⟩
      rw [List.take_length, hys] at fs5
      have hkp := leftB_all h (f1, l, R) ys
      rw [hys] at hkp
      have hkl : (CB.keptBy h (f1, l, R) fi.begun).length ≤ 6300 := by
        have := CB.closed_kept h (f1, l, R) fi.begun
        omega
      -- the runs that begin
      refine sq_for mono_run u5.c (xs := R) (gv_var rfl (mono_lst mono_run _ _ _ _ e45 hvR))
        (fun B' j σ' F' A' => Ex B' F' ∧ Ex F4 F' ∧ Up H0 H F' A' ∧ ∃ ys', FState P w C p d F' A' (fi.found ++ CB.closedBy h (f1, l, R) fi.begun) ys' ∧ ys'.map pr = CB.begunBy f1 (R.take j) (CB.keptBy h (f1, l, R) fi.begun) ∧ ∃ y7 y8, σ' = [some v, some (.ref p), some (.ref d), some (.int h), some (.int f1), some (oV l), some vR, y7, y8])
        (fun B' j σ' F' A' ⟨e, _, u, _⟩ => ⟨e, u.c⟩) (fun F' A' u => ⟨Ex.refl _, e45.trans u.a, u5.trans u, _, fs5.up u, hkp, _, _, rfl⟩) ?_ ?_
      · rintro B2 j r vr σ' F6 A6 hj ⟨eB6, e46, u6, ys', fs6, hpr, y7, y8, rfl⟩ ⟨a, a1, a2, rfl, ha, h1, h2⟩
        have h1 : a1 = .int r.1 := h1
        have h2 : a2 = oV r.2 := h2
        subst h1 h2
        have hyl : ys'.length ≤ 10000 := by
          have e1 : ys'.length = (ys'.map pr).length := (List.length_map _).symm
          have e2 := CB.begun_length f1 (R.take j) (CB.keptBy h (f1, l, R) fi.begun)
          rw [hpr] at e1
          rw [List.length_take] at e2
          omega
        refine ⟨.ref d, rfl, ⟨d, _, rfl, fs6.dl⟩, .ref a, rfl, .int f1, rfl, d, a, ys', r, f1, rfl, rfl, fs6.dl, u6.c _ _ ha, (fun z hz => u6.c _ _ (fs6.bk z hz)), hyl, fun _ => ?_⟩
        refine ⟨F6, eB6, e46, u6.touch dH fs6.nd, setB ys' r a f1, fs6.beg fun z hz => ?_, ?_, _, _, rfl⟩
        · rcases setB_sub hz with hz | rfl
          · exact fs6.bk z hz
          · exact ha
        · rw [setB_pr, hpr, List.take_add_one, hj]
          unfold CB.begunBy
          rw [List.foldl_append]
          rfl
      · rintro B2 σ' F6 A6 ⟨eB6, e46, u6, ys', fs6, hpr, y7, y8, rfl⟩
        rw [List.take_length] at hpr
        refine st_asg (P := fun v _ => v = oV l) u6.c (gv_var rfl rfl) fun z F7 A7 u7 hz7 => ?_
        subst hz7
        rw [hstep, hsq]
        exact ⟨F7, (eB.trans e46).trans u7.a, u6.trans u7, ys', fs6.up u7, hpr, _, _, _, _, _, rfl⟩
  · rintro B σ F4 A4 ⟨eB, u4, ys, fs4, hys, y4, y5, y6, y7, y8, rfl⟩
    rw [List.take_length] at fs4 hys
    rw [List.take_length]
    have hl4 := lens bs.length
    rw [List.take_length] at hl4
    obtain ⟨Fk, Hf⟩ := CB.fok_all hdom bs fs0 (CB.fok_start hdom) hfrom
    have hform : CB.formB bs = CB.sortB (bs.foldl CB.FS.step fs0).close := rfl
    revert Fk Hf fs4 hys hl4 hform
    generalize bs.foldl CB.FS.step fs0 = fi
    intro fs4 hys hl4 Fk Hf hform
    have hlys : ys.length = fi.begun.length := by rw [← hys, List.length_map]
    obtain ⟨ws, hws, itw⟩ := fs4.fl
    have hlw : ws.length = fi.found.length := itw.length
    refine ⟨d, BegO P w d ys, fs4.dl, trivial, fun od => ?_⟩
    have hws' : upd A4 d (.frz od (BegO P w d ys)) p = some (.lst ws) := by rw [upd_ne hpd]; exact hws
    refine ⟨.ref p, rfl, .inl ⟨rfl, ws, SqL.of hws'⟩, ?_⟩
    refine lc_bitems (mono_blk C) (fun y => ⟨y.2.2, y.1.1, fi.behind, y.1.2⟩) (Ex.touch u4.c fs4.nd) rfl upd_same fs4.nd (by omega) (fun a b => rfl) (fun F' e y hy => ?_) fun vz F5 A5 u5 nd5 hz5 => ?_
    · have hbok : CB.BOk ⟨y.2.2, y.1.1, fi.behind, y.1.2⟩ := by
        have hp : pr y ∈ fi.begun := by rw [← hys]; exact List.mem_map.mpr ⟨y, hy, rfl⟩
        exact CB.begun_bok hdom Fk hp
      exact gv_make (PA := fun vs _ => vs = [.int y.2.2, .int y.1.1, oV fi.behind, oV y.1.2]) (blk_args (o := fi.behind) rfl (e _ _ (fs4.bk y hy)) rfl rfl) (fun vs F' _ hq => hq) hbok
    · obtain ⟨zb, zs, rfl, hzb, itz⟩ := hz5
      have hlz : zs.length = ys.length := by rw [itz.length, List.length_map]
      have np5 : F5 p = none := u5.n p (fun z => by have := hws'.symm.trans z; cases this) fs4.np
      refine ⟨p, zb, ws, zs, rfl, rfl, u5.b _ _ hws', u5.c _ _ hzb, sz100 (by omega), ?_, ?_⟩
      · rw [upd_ne (Ne.symm hpd)]
        exact u5.b _ _ upd_same
      · have uU : Up F4 A4 F5 (upd A5 d (BegO P w d ys)) := Up.unlock fs4.dl fs4.nd u5
        have U5 := (u4.trans uU).touch (o := .lst (ws ++ zs)) nH np5
        have eC : upd (upd A5 p (.lst (ws ++ zs))) d (BegO P w d ys) = upd (upd A5 d (BegO P w d ys)) p (.lst (ws ++ zs)) := upd_comm hpd
        rw [eC]
        have U6 := U5.known nH np5 upd_same
        have its : Items (oBlk C) (upd F5 p (.lst (ws ++ zs))) (ws ++ zs) fi.close := by
          have h1 := itw.mono (mono_blk C) (uU.a.trans (Ex.new (o := .lst (ws ++ zs)) np5))
          have h2 := itz.mono (mono_blk C) (Ex.new (o := .lst (ws ++ zs)) np5)
          have h3 : (fi.begun.map fun p => (⟨p.2, p.1.1, fi.behind, p.1.2⟩ : CB.Blk)) = ys.map fun y => ⟨y.2.2, y.1.1, fi.behind, y.1.2⟩ := by
            rw [← hys, List.map_map]; rfl
          unfold CB.FS.close
          rw [h3]
          exact Items.append h2 h1
        have hcl : fi.close.length ≤ 6300 := by
          rw [← its.length, List.length_append]; omega
        refine ⟨.ref p, rfl, p, fF, upd F5 p (.lst (ws ++ zs)), fi.close, rfl, rfl, U6.c, ⟨p, _, rfl, upd_same, its⟩, fun _ _ => trivial, by omega, keyF_def (Po := oBlk C) (kx := fun b : CB.Blk => b.top) (ky := fun b : CB.Blk => b.left) FnF bF (hr.mono (by decide)), fun v9 H9 A9 u9 h9 => ?_⟩
        refine q v9 H9 A9 (U6.trans u9) ?_
        show oLst (oBlk C) H9 v9 (CB.formB bs)
        rw [hform]
        unfold CB.sortB
        rw [← leK_bLe]
        exact h9
end
end CW
namespace CW
open PySem PySem.Spec PyProof.Rows L2
open Evl (Ex Ex.refl Ex.trans Ex.new Ex.mut fresh_back)
/-! ### x != y of instances with an own == alone; len(x) by an own __len__ -/
section
variable {prog : Program} {w : World} {A : Around} {E : Value → Shared → Prop} {s : Shared} {K : PySem.W.Frag} {x C L f : Addr} {h₀ : Heap} {m : Str → Option Value} {ox : Obj} {od : Option Obj} {b tb : Value}
theorem ifBound_ne {M : Model} {args : List Value} {Q : Option Value → Shared → Prop} (X : K.In s.heap) (I : PySem.W.InstAt s.heap x ox C od) (hs : PySem.W.findIn K (.ref C) "__ne__" = some (some (.builtin "object.__ne__")))
    (h : wpAny M A (call (.builtin "object.__ne__") (.ref x :: args)) (fun v => Q (some v)) E s) : wpAny M A (callSpecialIfBound? (.ref x) "__ne__" args) Q E s := by
  simp only [callSpecialIfBound?, bindSpecialIfBound?]
  refine wpAny_holding (wpAny_bind (wpAny_bind (wpAny_bind (I.type.here ((PySem.W.looks_findIn X hs).here (wpAny_bind (wpAny_askSetting (wpAny_ite ?_))))))))
  have last : wpAny M A (call (.builtin "object.__ne__") ([.ref x] ++ args) >>= fun v => pure (some v)) Q E s := wpAny_bind (wpAny_mono h (fun v s' h' => wpAny_pure h') fun _ _ h' => h')
  split
  · exact wpAny_bind (wpAny_of_eq (F.cmp_object.ne.bind _) (wpAny_pure (by exact last)))
  · exact wpAny_tryCatch (wpAny_bind (wpAny_of_eq (F.cmp_object.ne.bind _) (wpAny_pure (by exact last))))
theorem ne_own {Q : Value → Shared → Prop} (hu : A.units + 1 < cLine) (hk : ∀ b o, h₀.get? b = some o → s.heap.get? b = some o) (X₀ : K.In h₀) (I : PySem.W.InstAt s.heap x ox C od) (hb : PySem.W.Looks (model prog w) s.heap (typeOf b) tb) (hn : PySem.W.notFirst K C tb = true)
    (hs : PySem.W.findIn K (.ref C) "__ne__" = some (some (.builtin "object.__ne__"))) (he : PySem.W.findIn K (.ref C) "__eq__" = some (some (.ref f))) (hf : PySem.W.isFn K (.ref f) = true) (hm : PySem.W.mroIn K C (.type "object") = some true)
    (h : wpAny (model prog w) A.in1 (call (.ref f) [.ref x, b]) (fun v s' => ∃ c, v = .bool c ∧ Q (.bool (!c)) s') E s) : wpAny (model prog w) A (richCompare .NotEq (.ref x) b) Q E s := by
  have X := X₀.keeps hk
  have body : ∀ {R : PySem.Fin → Shared → Prop}, (∀ c s', Q (.bool (!c)) s' → R (.done (.ret (.bool (!c)))) s') → wpAny (model prog w) A.in1 (Builtin.«object.__ne__» ⟨[.ref x, b], []⟩) R E s := fun {R} hR => by
    unfold Builtin.«object.__ne__»
    show wpAny _ _ (cRoomFor "comparison" [.ref x, b] >>= _) _ _ _
    refine wpAny_bind (wpAny_cRoomFor (show A.in1.units < cLine from hu) ?_)
    refine wpAny_bind (m := callSpecialIfBound? (.ref x) (Str.ofString "__eq__") [b]) (PySem.W.ifBound_K X I he hf (wpAny_mono h (fun v s' hv => ?_) fun _ _ e => e))
    obtain ⟨c, rfl, q⟩ := hv
    show wpAny _ _ (truthy (.bool c) >>= _) _ _ _
    exact wpAny_bind (wpAny_truthy_bool (wpAny_pure (hR c s' q)))
  have one : wpAny (model prog w) A (tryCompare (.ref x) "__ne__" b) (fun r s' => ∃ v, r = some v ∧ Q v s') E s := by
    unfold tryCompare
    refine wpAny_bind (ifBound_ne X I hs (wpAny_call (codeAny_call_builtin F.cmp_object.ne.plain F.cmpEntry_ne (PySem.W.check_slot F.cmpKind_ne F.cmpSplit_ne (I.type.andThen (PySem.W.looks_mroIn X hm)) (F.cmpArgs_ne _ _) (body fun c s' q => wpAny_pure ⟨_, rfl, q⟩)))))
  unfold richCompare
  simp only [oneThing_ref]
  refine wpAny_holding (wpAny_bind (wpAny_cRoomFor (Nat.lt_of_succ_lt hu) (wpAny_bind (I.type.here (wpAny_bind (hb.here ?_))))))
  rw [cmpInfo_NotEq]
  dsimp only
  split
  · rename_i q
    have e : PySem.W.subIn K tb (.ref C) = some false := by
      rcases Bool.or_eq_true_iff.mp hn with e | e
      · rw [beq_iff_eq.mp e] at q; simp at q
      · exact beq_iff_eq.mp e
    refine wpAny_bind ((PySem.W.looks_subIn X e).here ?_)
    simp only [Bool.false_eq_true, if_false]
    refine wpAny_bind (wpAny_mono one (fun r s' z => ?_) fun _ _ e => e)
    obtain ⟨v, rfl, hq⟩ := z
    exact wpAny_pure hq
  · refine wpAny_bind (wpAny_pure ?_)
    simp only [Bool.false_eq_true, if_false]
    refine wpAny_bind (wpAny_mono one (fun r s' z => ?_) fun _ _ e => e)
    obtain ⟨v, rfl, hq⟩ := z
    exact wpAny_pure hq
end
section
variable {X : Cx} {k : Nat} {C f : Addr} {fd : FuncData} {ps : List Str} {sp : Sp}
/-- the callee runs at A, somewhere within -/
theorem run_at {A : Around} {pins : List (Addr × Obj)} {σ : L2.St} {H : Hp} {s : Shared} {Q : VK} {E : Value → Shared → Prop} {us : List Value} {vs : List V} (F : FnOk X.prog X.w X.K X.mg X.base CX0 k f fd ps sp) (hr : Room k A) (hb : Binds X.K fd ps []) (fr : A.frames = X.A.frames)
    (I : Inv X pins σ H s) (r : Vals vs us) (h : sp vs H Q E0) : wpAny (model X.prog X.w) A (call (.ref f) us) (EP X pins σ Q) E s := by
  have hl : us.length = ps.length := by rw [← r.length]; exact F.len _ _ _ _ h
  have e0 : Env0 X.prog X.w X.K X.mg X.base A X.stack s H := by
    have e := I.env0
    exact ⟨by rw [fr]; exact e.frames, e.mod, e.bs, e.bsz, e.funs, e.frf, e.hok, e.bare⟩
  refine wpAny_call (codeAny_mono (F.run A X.stack s H ⟨us, []⟩ us vs Q E0 hr e0 (by
    have := hb s us I.kIn (by simpa using hl)
    simpa using this) r h) fun r s' hq => ?_)
  cases r with
  | error e => exact False.elim hq
  | ok fl =>
    cases fl with
    | ret w => exact I.after hq
    | next => exact False.elim hq
    | brk => exact False.elim hq
    | cont => exact False.elim hq
def rNeG (C : Addr) (R : Addr → Addr → Hp → Prop) : R2 := fun x y H Q => DIns C R x y H ∧ ∀ H', Ext H H' → Q (.bl false) H'
theorem op_neG {R : Addr → Addr → Hp → Prop} (F : FnOk X.prog X.w X.K X.mg X.base CX0 k f fd ps (spEq R)) (hn : PySem.W.findIn X.K (.ref C) "__ne__" = some (some (.builtin "object.__ne__"))) (hs : PySem.W.findIn X.K (.ref C) "__eq__" = some (some (.ref f)))
    (hf : PySem.W.isFn X.K (.ref f) = true) (hm : PySem.W.mroIn X.K C (.type "object") = some true) (hb : Binds X.K fd ps []) (hr : Room (k + 1) X.A) : OpR X (compareOp .NotEq) (rNeG C R) := by
  intro pins s σ H x y v u Q I rx ry h
  obtain ⟨⟨a, b, dx, dy, fs, gs, rfl, rfl, ha, hb', hR⟩, q⟩ := h
  cases rx
  cases ry
  obtain ⟨mA, J, _⟩ := ins_get I.hok ha
  obtain ⟨mB, J', _⟩ := ins_get I.hok hb'
  obtain ⟨od, J, _⟩ := J.look
  obtain ⟨od', J', _⟩ := J'.look
  obtain ⟨m, hF⟩ := I.fr
  show wpAny (model X.prog X.w) X.A (richCompare .NotEq (.ref a) (.ref b)) _ _ _
  refine ne_own (tb := .ref C) (by have := hr.un; omega) hF.keep I.ok.mod.kin J J'.type (by simp [PySem.W.notFirst]) hn hs hf hm ?_
  have hsp : spEq R [.ref a, .ref b] H (fun v H' => v = .bl true ∧ Ext H H') E0 := ⟨a, b, rfl, hR, fun H' e => ⟨rfl, e⟩⟩
  refine wpAny_mono (run_at F hr.in1 hb rfl I (show Vals [V.ref a, V.ref b] [Value.ref a, Value.ref b] from .cons rfl (.cons rfl .nil)) hsp) (fun v s' z => ?_) fun _ _ e => e
  obtain ⟨z, H', I', rz, ez, ex⟩ := z
  subst ez
  cases rz
  exact ⟨true, rfl, .bl false, H', I', rfl, q H' ex⟩
/-- len(x) -/
def rLenO (C : Addr) (sp : Sp) : List V → Hp → VK → Prop := fun vs H Q => ∃ a dx fs, vs = [.ref a] ∧ H a = some (.ins C dx fs) ∧ sp [.ref a] H (fun v H' => ∃ n : Int, v = .int n ∧ 0 ≤ n ∧ n < 2 ^ 63 ∧ Q (.int n) H') E0
theorem call_lenO (F : FnOk X.prog X.w X.K X.mg X.base CX0 k f fd ps sp) (hs : PySem.W.findIn X.K (.ref C) "__len__" = some (some (.ref f))) (hf : PySem.W.isFn X.K (.ref f) = true) (hb : Binds X.K fd ps []) (hr : Room (k + 1) X.A) : CallR X (.builtin "len") (rLenO C sp) := by
  intro pins s σ H vs us Q I r h
  obtain ⟨a, dx, fs, rfl, ha, q⟩ := h
  rw [Vals.ref1 r]
  obtain ⟨mA, J, _⟩ := ins_get I.hok ha
  obtain ⟨od, J, _⟩ := J.look
  obtain ⟨m, hF⟩ := I.fr
  refine PySem.W.len_K hF I.ok.mod.kin J hs hf (wpAny_mono (run_at F hr.in1 hb rfl I (show Vals [V.ref a] [Value.ref a] from .cons rfl .nil) q) (fun v s' z => ?_) fun _ _ e => e)
  obtain ⟨z, H', I', rz, n, ez, h0, h1, q⟩ := z
  subst ez
  obtain ⟨t, rfl⟩ := rz
  exact ⟨⟨h0, h1⟩, .int n, H', I'.tok _, ⟨_, rfl⟩, q⟩
end
end CW
namespace CB
/-- as many, and as they should be -/
def okL (L : List Blk) : Prop := L.length ≤ 31 ∧ ∀ b ∈ L, BOk b
theorem runsBy_len (E : List Run) : (runsBy E).length ≤ 2 * E.length := by
  unfold runsBy
  have h1 := runsOver_length (anyR E) (spans (sortU (cutsOf E))) []
  rw [spans_length] at h1
  have h2 := sortU_length (cutsOf E)
  have h3 := cuts_length E
  simp only [List.length_nil] at h1
  omega
theorem bandsBy_len (L : List Blk) : (bandsBy L).length ≤ 2 * L.length := by
  unfold bandsBy
  have h1 := List.length_filterMap_le (bandOf fun r => runsBy (colsAt L r)) (spans (sortU (cutsOf (L.map (·.rows)))))
  rw [spans_length] at h1
  have h2 := sortU_length (cutsOf (L.map (·.rows)))
  have h3 := cuts_length (L.map (·.rows))
  rw [List.length_map] at h3
  omega
theorem bandsBy_runs {L : List Blk} {b : Band} (h : b ∈ bandsBy L) : b.2.2.length ≤ 2 * L.length := by
  unfold bandsBy at h
  obtain ⟨p, _, e⟩ := List.mem_filterMap.mp h
  unfold bandOf at e
  split at e
  · cases e
  · cases e
    have h1 := runsBy_len (colsAt L p.1)
    have h2 : (colsAt L p.1).length ≤ L.length := by
      unfold colsAt
      rw [List.length_map]
      exact List.length_filter_le _ _
    show (runsBy (colsAt L p.1)).length ≤ _
    omega
end CB
namespace CW
open PySem PySem.Spec PyProof.Rows L2
open Evl (Ex Ex.refl Ex.trans Ex.new Ex.mut fresh_back)
theorem preForm_of {L : List CB.Blk} (h : CB.okL L) : preForm (CB.bandsBy L) := by
  refine ⟨⟨_, CB.dom_of h.2, CB.bandsBy_ok h.2⟩, ?_, fun b hb => ?_⟩
  · have := CB.bandsBy_len L
    have := h.1
    omega
  · have := CB.bandsBy_runs hb
    have := h.1
    omega
structure ATxt (K : PySem.W.Frag) (C : Addr) : Prop extends CTxt K C where
  nF : NoAttr K C "form"
def oArea (CA C : Addr) : Obs (List CB.Blk) := fun H v L => ∃ p dx fl, v = .ref p ∧ H p = some (.ins CA dx [("form", fl)]) ∧ oLst (oBlk C) H fl L
theorem mono_area (CA C : Addr) : Mono (oArea CA C) := fun H H' v L e ⟨p, dx, fl, h1, h2, h3⟩ => ⟨p, dx, fl, h1, e _ _ h2, mono_lst (mono_blk C) _ _ _ _ e h3⟩
section
variable {K : PySem.W.Frag} {σ : L2.St} {F A : Hp} {C CA : Addr} {ta : TE} {t : TA} {D : Ends}
theorem gv_isiO {P : V → Hp → Prop} (T : CTxt K C) (h : Gv (ta σ) F P) (hp : ∀ v F', Ex F F' → P v F' → ∃ a dx fs, v = .ref a ∧ F' a = some (.ins C dx fs)) : Gv (tCB (rIsi K) (tCons ta (tCons (tC (.ref C)) tNil)) σ) F (fun v _ => v = .bl true) := fun H1 e Q q => h H1 e _ fun v F' H2 u p => by
  obtain ⟨a, dx, fs, rfl, hf⟩ := hp v F' u.a p
  exact ⟨_, _, _, _, true, rfl, .own C, T.ty (u.c _ _ hf), T.one, q _ F' H2 u rfl⟩
theorem gv_isiL {α : Type} {Po : Obs α} {xs : List α} (h : Gv (ta σ) F (fun v F' => oLst Po F' v xs)) : Gv (tCB (rIsi K) (tCons ta (tCons (tC (.ty "list")) tNil)) σ) F (fun v _ => v = .bl true) := fun H1 e Q q => h H1 e _ fun v F' H2 u p => by
  obtain ⟨a, vs, rfl, hf, _⟩ := p
  exact ⟨_, _, _, _, true, rfl, .ty "list", .base (.lst (u.c _ _ hf)), kit_ty (by decide +kernel), q _ F' H2 u rfl⟩
/-- self.form -/
theorem gv_form {L : List CB.Blk} (T : ATxt K CA) (h : Gv (ta σ) F (fun v F' => oArea CA C F' v L)) : Gv (tFld K ta "form" σ) F (fun v F' => oLst (oBlk C) F' v L) := fun H1 e Q q => h H1 e _ fun v F' H2 u ⟨p, dx, fl, hv, hp, hl⟩ => by
  subst hv
  exact ⟨p, CA, dx, [("form", fl)], fl, rfl, u.c _ _ hp, T.cl, T.nF, lk_hd, q fl F' H2 u hl⟩
def spAInit (CA C : Addr) : Sp := fun vs H1 Q _ => ∃ (p dx : Addr) (v : V) (L : List CB.Blk) (F : Hp), vs = [.ref p, v] ∧ Ex F H1 ∧ F p = none ∧ H1 p = some (.ins CA dx []) ∧ ((v = .non ∧ L = []) ∨ oLst (oBlk C) F v L) ∧ CB.okL L ∧
  ∀ F' H2 fl, Up F H1 F' H2 → oLst (oBlk C) F' fl (CB.formOf L) → Q .non (upd H2 p (.ins CA dx [("form", fl)]))
/-- Area(..) -/
theorem gv_makeA {L : List CB.Blk} {dvs : List V} {PA : List V → Hp → Prop} (h : Gv (t σ) F PA) (hp : ∀ vs F', Ex F F' → PA vs F' → ∃ v, vs ++ dvs = [v] ∧ ((v = .non ∧ L = []) ∨ oLst (oBlk C) F' v L)) (ok : CB.okL L) : Gv (tMake CA (spAInit CA C) dvs E0 t σ) F (fun v F' => oArea CA C F' v (CB.formOf L)) := fun H1 e Q q => h H1 e _ fun vs F' H2 u p x dx nx ndx hne => by
  obtain ⟨v, hv, hl⟩ := hp vs F' u.a p
  rw [hv]
  have nFx : F' x = none := none_of_ex u.c nx
  have nFd : F' dx = none := none_of_ex u.c ndx
  have e1 : Ex F' (upd (upd H2 dx (.own x)) x (.ins CA dx [])) := Ex.touch (Ex.touch u.c nFd) nFx
  have nx' : upd H2 dx (.own x) x = none := by rw [upd_ne (Ne.symm hne)]; exact nx
  have e2 : Ex H2 (upd (upd H2 dx (.own x)) x (.ins CA dx [])) := (Ex.new ndx).trans (Ex.new nx')
  refine ⟨x, dx, v, L, F', rfl, e1, nFx, upd_same, hl, ok, fun F'' H3 fl u2 hfl => ⟨rfl, ?_⟩⟩
  have nF2 : F'' x = none := u2.n x (fun z => by rw [upd_same] at z; cases z) nFx
  refine q (.ref x) (upd F'' x (.ins CA dx [("form", fl)])) _ (u.trans ⟨u2.a.trans (Ex.new nF2), Ex.mut (e2.trans u2.b) nx, Ex.known (Ex.touch u2.c nF2) upd_same, fun q' h1 h2 => ?_⟩) ⟨x, dx, fl, rfl, upd_same, mono_lst (mono_blk C) _ _ _ _ (Ex.new nF2) hfl⟩
  have hq : q' ≠ x := fun z => h1 (by rw [z]; exact nx)
  rw [upd_ne hq]
  refine u2.n q' (fun z => ?_) h2
  cases w : H2 q' with
  | none => exact h1 w
  | some o => rw [e2 q' o w] at z; cases z
end
section
variable {P : Program} {w : World} {K : PySem.W.Frag} {mg : Str → Option Value} {base : Heap} {f C CA fE : Addr} {fd : FuncData}
/-! ### checked_blocks, checked_area -/
def spChkB (C : Addr) : Sp := SpO (preLst (oBlk C) fun L => L.length ≤ 10000) (fun _ v _ => v = .non)
theorem scChkB : FnScope ["blocks", "block"] ["blocks"] (defScope sChkB) := ⟨rfl, rfl, rfl, by decide +kernel, rfl, by decide +kernel, by decide +kernel⟩
theorem cal_chkB (F : Fun K "checked_blocks" "checked_blocks" sChkB f fd) (g : mg "checked_blocks" = some (.ref f)) (T : BTxt K C) (m1 : mg "isinstance" = none) (m2 : mg "list" = none) (m3 : mg "all" = none) (gB : mg "Block" = some (.ref C)) : Cal P w K mg base "checked_blocks" 1 (spChkB C) := by
  refine cal_mk F g scChkB (fun _ _ _ _ _ _ us hl => match us, hl with | [_], _ => rfl) (fun vs H Q E ⟨x, H0, _, ⟨v, e, _⟩, _⟩ => by rw [e]; rfl) fun cdv A outer s H vs Q E hr ⟨L, H0, hx, ⟨v, e, hv, hz⟩, q⟩ => ?_
  subst e
  have hz : L.length ≤ 10000 := hz
  have hv : oLst (oBlk C) H0 v L := hv
  refine ⟨_, pss_one (ps_if (PW.pt (pw_or (pt_not (pt_val (pe_callB call_isi (by rfl) m1 (by decide +kernel) (pa_cons (pv 0) (pa_cons (pe_bltn (v := .ty "list") (by rfl) m2 (by decide +kernel) rfl) pa_nil)))))
    (pw_or1 (pt_not (pt_val (pe_callB (cr_all rfl) (by rfl) m3 (by decide +kernel) (pa_cons (pe_lc (g := gName 1) (tt := tYes) (te := tCB (rIsi K) (tCons (tVar 1) (tCons (tC (.ref C)) tNil))) (own := [("block", 1)]) (by rfl) scChkB.nd (pi_list (pv 0)) (blkOk_by (N := ["blocks", "block"]) (sc := defScope sChkB) (by decide +kernel))
      (fun _ _ _ _ _ => pg_name (i := 1) scChkB.nd rfl (Or.inl rfl)) (fun _ _ _ _ _ => pts_nil) (fun _ _ _ _ _ => pe_callB call_isi (by rfl) m1 (by decide +kernel) (pa_cons (pv 1) (pa_cons (pe_glob (v := .ref C) (by rfl) gB rfl) pa_nil)))) pa_nil))))))) pss_never pss_nil), ?_⟩
  have comp : ∀ {H1 : Hp}, Ex H0 H1 → Gv (tLc (iList K (tVar 0)) (gName 1) tYes (tCB (rIsi K) (tCons (tVar 1) (tCons (tC (.ref C)) tNil))) [1] (start ["blocks", "block"] [v])) H1 (fun v H' => oLst oBool H' v (L.map fun _ => true)) := fun {H1} e1 => by
    rw [← map_fm]
    refine gv_lc (mono_blk C) mono_bool (fun _ => some true) (by omega) (gv_var rfl (mono_lst (mono_blk C) _ _ _ _ e1 hv)) fun y b F3 A3 eF e3 _ hy => ?_
    refine ⟨_, fun Q hQ => hQ, rfl, gt_yes, fun z hz F4 e4 => ?_⟩
    cases hz
    exact gv_isiO T.toCTxt (gv_var (P := fun v F' => oBlk C F' v b) rfl (mono_blk C _ _ _ _ e4 hy)) fun v F' _ ⟨p, dx, h1, h2⟩ => ⟨p, dx, _, h1, h2⟩
  refine st_if hx (b := false) (gt_is (gt_or (a := false) (b := false) (gt_not (a := true) (gt_B (gv_isiL (Po := oBlk C) (gv_var rfl hv)))) fun _ H1 e1 => gt_not (a := true) (gt_B (gv_cb (PA := fun vs H' => ∃ v, vs = [v] ∧ oLst oBool H' v (L.map fun _ => true)) (ga_cons (comp e1) fun v H2 e2 h2 => ga_nil ⟨v, rfl, h2⟩) fun vs H2 e2 ⟨v, ev, h2⟩ => ?_))) rfl) (fun hb => by cases hb) fun _ F1 A1 u1 => q .non F1 A1 u1 rfl
  subst ev
  refine (gv_all h2).imp fun v H3 _ h => ?_
  rw [h, List.all_map]
  have : (L.all (id ∘ fun _ => true)) = true := List.all_eq_true.mpr fun _ _ => rfl
  rw [this]
def spChkA (CA C : Addr) : Sp := SpO (preOne (oArea CA C)) (fun _ v _ => v = .non)
theorem scChkA : FnScope ["thing"] ["thing"] (defScope sChkA) := ⟨rfl, rfl, rfl, by decide +kernel, rfl, by decide +kernel, by decide +kernel⟩
theorem cal_chkA (F : Fun K "checked_area" "checked_area" sChkA f fd) (g : mg "checked_area" = some (.ref f)) (T : ATxt K CA) (m1 : mg "isinstance" = none) (gA : mg "Area" = some (.ref CA)) : Cal P w K mg base "checked_area" 1 (spChkA CA C) := by
  refine cal_mk F g scChkA (fun _ _ _ _ _ _ us hl => match us, hl with | [_], _ => rfl) (fun vs H Q E ⟨x, H0, _, ⟨v, e, _⟩, _⟩ => by rw [e]; rfl) fun cdv A outer s H vs Q E hr ⟨L, H0, hx, ⟨v, e, hv⟩, q⟩ => ?_
  subst e
  refine ⟨_, pss_one (ps_if (pt_not (pt_val (pe_callB call_isi (by rfl) m1 (by decide +kernel) (pa_cons (pv 0) (pa_cons (pe_glob (v := .ref CA) (by rfl) gA rfl) pa_nil))))) pss_never pss_nil), ?_⟩
  refine st_if hx (b := false) (gt_not (a := true) (gt_B (gv_isiO T.toCTxt (gv_var (P := fun v F' => oArea CA C F' v L) rfl hv) fun v F' _ ⟨p, dx, fl, h1, h2, _⟩ => ⟨p, dx, _, h1, h2⟩))) (fun hb => by cases hb) fun _ F1 A1 u1 => q .non F1 A1 u1 rfl
end
end CW
namespace CW
open PySem PySem.Spec PyProof.Rows L2
open Evl (Ex Ex.refl Ex.trans Ex.new Ex.mut fresh_back)
section
variable {K : PySem.W.Frag} {σ : L2.St} {F A : Hp} {C CA : Addr} {ta : TE} {t : TA} {D : Ends}
theorem gv_meth {α : Type} {pre : List V → Hp → α → Prop} {post : α → V → Hp → Prop} {m : Str} {dvs : List V} {L : List CB.Blk} {PA : List V → Hp → Prop} (x : α) (hm : ¬ ("form" : Str) = m) (ho : Gv (ta σ) F (fun v F' => oArea CA C F' v L))
    (h : ∀ v F', Ex F F' → oArea CA C F' v L → Gv (t σ) F' (fun vs F'' => PA (v :: vs) F'')) (hp : ∀ vs F', Ex F F' → PA vs F' → pre (vs ++ dvs) F' x) : Gv (tMeth CA m (SpO pre post) dvs E0 ta t σ) F (post x) := fun H1 e Q q => ho H1 e _ fun v F' H2 u p => by
  obtain ⟨a, dx, fl, rfl, hf, hl⟩ := id p
  refine ⟨a, dx, _, rfl, u.c _ _ hf, ?_, ?_⟩
  · rw [lk_tl (fun z => hm z.symm)]; rfl
  · exact h _ F' u.a p H2 u.c _ fun vs F'' H3 u' p' => ⟨x, F'', u'.c, hp _ F'' (u.a.trans u'.a) p', fun w F3 H4 u'' p'' => q w F3 H4 ((u.trans u').trans u'') p''⟩
theorem gv_listOf {α : Type} {Po : Obs α} (hPo : Mono Po) {xs : List α} (h : Gv (ta σ) F (fun v F' => oLst Po F' v xs)) : Gv (tCB (Evl.rListS K) (tCons ta tNil) σ) F (fun v F' => oLst Po F' v xs) := fun H1 e Q q => h H1 e _ fun v F' H2 u ⟨p, vs, hv, hp, hi⟩ => by
  subst hv
  exact ⟨p, vs, rfl, .inl (SqL.of (u.c _ _ hp)), fun l hl => q _ _ _ (u.trans (Up.new u.c hl)) (oLst.new hPo (none_of_ex u.c hl) hi)⟩
theorem gv_lenOf {α : Type} {Po : Obs α} {xs : List α} (h : Gv (ta σ) F (fun v F' => oLst Po F' v xs)) : Gv (tCB (Evl.rLenS K) (tCons ta tNil) σ) F (fun v _ => v = .int (xs.length : Nat)) := fun H1 e Q q => h H1 e _ fun v F' H2 u ⟨p, vs, hv, hp, hi⟩ => by
  subst hv
  refine ⟨p, vs, rfl, .inl (SqL.of (u.c _ _ hp)), ?_⟩
  rw [hi.length]
  exact q _ F' H2 u rfl
end
section
variable {P : Program} {w : World} {K : PySem.W.Frag} {mg : Str → Option Value} {base : Heap} {f C CA fE : Addr} {fd : FuncData}
/-! ### Area.__init__ -/
theorem scAInit : FnScope ["self", "blocks"] ["self", "blocks"] (defScope sAInit) := ⟨rfl, rfl, rfl, by decide +kernel, rfl, by decide +kernel, by decide +kernel⟩
theorem ok_ainit {dvs : List V} (F : FunD K "__init__" "Area.__init__" (defArgs sAInit) (defBody sAInit) (defScope sAInit) dvs [] f fd) (T : ATxt K CA) (cC : Cal P w K mg base "checked_blocks" 1 (spChkB C)) (cB : Cal P w K mg base "bands_by" 3 (spBands C fE)) (cF : Cal P w K mg base "form_of" 6 (spForm C)) (gE : mg "either" = some (.ref fE)) :
    FnOk P w K mg base CX0 7 f fd ["self", "blocks"] (spAInit CA C) := by
  refine F.ok scAInit (fun vs H Q E ⟨p, dx, v, L, F, e, _⟩ => by rw [e]; rfl) fun cdv A outer s H vs Q E hr ⟨p, dx, v, L, F0, e, hx, np, hp, hv, ok, q⟩ => ?_
  subst e
  refine ⟨_, pss_cons (ps_if (pt_cmp (pc_isN (pv 1)) rfl) (pss_one (ps_set (i := 1) scAInit.nd rfl (.inl rfl) (pe_lst pa_nil))) pss_nil)
    (pss_cons (ps_expr (pe_cal cC (hr.mono (by decide)) (by rfl) (pa_cons (pv 1) pa_nil)))
    (pss_one (ps_fld (pv 0) (pe_cal cF hr (by rfl) (pa_cons (pe_cal cB (hr.mono (by decide)) (by rfl) (pa_cons (pv 1) (pa_cons (pe_lst pa_nil) (pa_cons (pe_glob (v := .ref fE) (by rfl) gE rfl) pa_nil)))) pa_nil)) rfl))), ?_⟩
  -- behind the default
  have tail : ∀ {v' : V} {F1 A1 : Hp}, Up F0 H F1 A1 → oLst (oBlk C) F1 v' L → (tSeq (tDrop (tCall (spChkB C) [] E0 (tCons (tVar 1) tNil))) (sFld K (tVar 0) (tCall (spForm C) [] E0 (tCons (tCall (spBands C fE) [] E0 (tCons (tVar 1) (tCons (tLst tNil) (tCons (tC (.ref fE)) tNil)))) tNil)) "form"))
      { nx := fun _ H' => Q .non H', rt := Q } [some (.ref p), some v'] A1 := fun {v' F1 A1} u1 hv1 => by
    refine (show Gv (tCall (spChkB C) [] E0 (tCons (tVar 1) tNil) [some (.ref p), some v']) F1 (fun v _ => v = .non) from gv_call (PA := fun vs H' => vs = [v'] ∧ oLst (oBlk C) H' v' L) L (ga_cons (gv_var (P := fun z H' => z = v' ∧ oLst (oBlk C) H' v' L) rfl ⟨rfl, hv1⟩) fun z H2 e2 h2 => ga_nil ⟨by rw [h2.1], h2.2⟩) fun vs H2 e2 ⟨hvs, h2⟩ => ?_) A1 u1.c _ fun z F2 A2 u2 _ => ?_
    · subst hvs
      exact ⟨v', rfl, h2, by have := ok.1; omega⟩
    · have hform : Gv (tCall (spForm C) [] E0 (tCons (tCall (spBands C fE) [] E0 (tCons (tVar 1) (tCons (tLst tNil) (tCons (tC (.ref fE)) tNil)))) tNil) [some (.ref p), some v']) F2 (fun v H' => oLst (oBlk C) H' v (CB.formOf L)) := by
        refine gv_call (PA := fun vs H' => ∃ z, vs = [z] ∧ oLst oBand H' z (CB.bandsBy L)) (CB.bandsBy L) (ga_cons (gv_call (PA := fun vs H' => ∃ a b, vs = [a, b, .ref fE] ∧ oLst (oBlk C) H' a L ∧ oLst (oBlk C) H' b []) (L, []) (ga_cons (gv_var rfl (mono_lst (mono_blk C) _ _ _ _ u2.a hv1)) fun a H3 e3 h3 => ga_cons gv_nilL fun b H4 e4 h4 => ga_cons (gv_c (P := fun v _ => v = .ref fE) rfl) fun c H5 e5 h5 => ga_nil ⟨a, b, by rw [h5], mono_lst (mono_blk C) _ _ _ _ (e4.trans e5) h3, mono_lst (mono_blk C) _ _ _ _ e5 h4⟩) fun vs H3 e3 ⟨a, b, hvs, h3, h4⟩ => ?_) fun z H3 e3 h3 => ga_nil ⟨z, rfl, ?_⟩) fun vs H3 e3 ⟨z, hvs, h3⟩ => ?_
        · subst hvs
          exact ⟨a, b, rfl, h3, h4, by have := ok.1; show L.length + 0 ≤ 31; omega⟩
        · have h3 : oLst oBand H3 z (CB.bandsBy (L ++ [])) := h3
          rw [List.append_nil] at h3
          exact h3
        · subst hvs
          exact ⟨z, rfl, h3, preForm_of ok⟩
      refine hform A2 u2.c _ fun fl F3 A3 u3 hfl => ?_
      have hp3 := u3.b _ _ (u2.b _ _ (u1.b _ _ hp))
      refine ⟨_, rfl, p, CA, dx, [], rfl, hp3, T.cl, T.nF, (by show 0 < 1000; decide), ?_⟩
      exact q F3 A3 fl ((u1.trans u2).trans u3) hfl
  have u0 : Up F0 H F0 H := Up.refl hx
  rcases hv with ⟨rfl, rfl⟩ | hv
  · refine ⟨_, rfl, true, rfl, iteT ⟨Nat.zero_le _, fun l hl => ?_⟩⟩
    have u1 := u0.trans (Up.new (o := .lst []) hx hl)
    exact tail u1 ⟨l, [], rfl, upd_same, trivial⟩
  · obtain ⟨l, ws, rfl, hl, hi⟩ := id hv
    refine ⟨_, rfl, false, rfl, iteF ?_⟩
    exact tail u0 hv
end
end CW
namespace CW
open PySem PySem.Spec PyProof.Rows L2
open Evl (Ex Ex.refl Ex.trans Ex.new Ex.mut fresh_back)
def SameA (CA C : Addr) (a b : Addr) (H : Hp) : Prop := ∃ L, oArea CA C H (.ref a) L ∧ oArea CA C H (.ref b) L
theorem prs_blk {C : Addr} {H : Hp} : ∀ {vs ws : List V} {L : List CB.Blk}, Items (oBlk C) H vs L → Items (oBlk C) H ws L → Prs (DIns C (SameB C)) vs ws H
  | [], [], [], _, _ => Prs.nil
  | v :: vs, w :: ws, b :: L, ⟨⟨p, dx, h1, h2⟩, t⟩, ⟨⟨p', dx', h1', h2'⟩, t'⟩ => Prs.cons ⟨p, p', dx, dx', _, _, h1, h1', h2, h2', ⟨b, dx, dx', h2, h2'⟩⟩ (prs_blk t t')
  | [], _ :: _, [], _, h => h.elim
  | _ :: _, _, [], h, _ => h.elim
  | [], _, _ :: _, h, _ => h.elim
  | _ :: _, [], _ :: _, _, h => h.elim
theorem dlist_blk {C : Addr} {H : Hp} {v w : V} {L : List CB.Blk} (h : oLst (oBlk C) H v L) (h' : oLst (oBlk C) H w L) : DList (DIns C (SameB C)) v w H := by
  obtain ⟨p, vs, rfl, h1, h2⟩ := h
  obtain ⟨p', ws, rfl, h1', h2'⟩ := h'
  exact ⟨p, p', vs, ws, rfl, rfl, h1, h1', prs_blk h2 h2'⟩
theorem mon_blk (C : Addr) : Mon (DIns C (SameB C)) := mon_ins fun a b H H' e ⟨x, dx, dy, h1, h2⟩ => ⟨x, dx, dy, e _ _ h1, e _ _ h2⟩
section
variable {P : Program} {w : World} {K : PySem.W.Frag} {mg : Str → Option Value} {base : Heap} {f fB C CA fE : Addr} {fd fdB : FuncData}
theorem scAEq : FnScope ["self", "other"] ["self", "other"] (defScope sAEq) := ⟨rfl, rfl, rfl, by decide +kernel, rfl, by decide +kernel, by decide +kernel⟩
theorem ok_aeq (F : Fun K "__eq__" "Area.__eq__" sAEq f fd) (T : ATxt K CA) (m1 : mg "isinstance" = none) (gA : mg "Area" = some (.ref CA)) (FB : FnOk P w K mg base CX0 1 fB fdB ["self", "other"] (spEq (SameB C)))
    (hsB : PySem.W.findIn K (.ref C) "__eq__" = some (some (.ref fB))) (hfB : PySem.W.isFn K (.ref fB) = true) (hbB : Binds K fdB ["self", "other"] []) : FnOk P w K mg base CX0 3 f fd ["self", "other"] (spEq (SameA CA C)) := by
  refine F.ok scAEq (fun vs H Q E ⟨a, b, e, _⟩ => by rw [e]; rfl) fun cdv A outer s H vs Q E hr ⟨a, b, e, ⟨L, ha, hb⟩, q⟩ => ?_
  subst e
  refine ⟨_, pss_one (ps_ret (pe_and (pe_callB call_isi (by rfl) m1 (by decide +kernel) (pa_cons (pv 1) (pa_cons (pe_glob (v := .ref CA) (by rfl) gA rfl) pa_nil)))
    (pe_one (pe_cmpR (op_eqG (rcG_list (mon_blk C) (eqG_ins FB hsB hfB hbB pass0)) hr) (pe_fld (pv 0) rfl) (pe_fld (pv 1) rfl) (nomark _))))), ?_⟩
  obtain ⟨pa, dxa, fla, ea, ha1, ha2⟩ := ha
  obtain ⟨pb, dxb, flb, eb, hb1, hb2⟩ := hb
  cases ea
  cases eb
  refine ⟨_, rfl, _, _, _, _, true, rfl, .own CA, T.ty hb1, T.one, true, rfl, iteT ?_⟩
  exact ⟨_, rfl, a, CA, dxa, _, fla, rfl, ha1, T.cl, T.nF, lk_hd, _, rfl, b, CA, dxb, _, flb, rfl, hb1, T.cl, T.nF, lk_hd, dlist_blk ha2 hb2, fun H' e => q H' e⟩
def spALen (CA C : Addr) : Sp := SpO (preOne (oArea CA C)) (fun L v _ => v = .int (L.length : Nat))
theorem scALen : FnScope ["self"] ["self"] (defScope sALen) := ⟨rfl, rfl, rfl, by decide +kernel, rfl, by decide +kernel, by decide +kernel⟩
theorem ok_alen (F : Fun K "__len__" "Area.__len__" sALen f fd) (T : ATxt K CA) (m1 : mg "len" = none) : FnOk P w K mg base CX0 1 f fd ["self"] (spALen CA C) := by
  refine F.ok scALen (fun vs H Q E ⟨L, H0, _, ⟨v, e, _⟩, _⟩ => by rw [e]; rfl) fun cdv A outer s H vs Q E hr ⟨L, H0, hx, ⟨v, e, hv⟩, q⟩ => ?_
  subst e
  refine ⟨_, pss_one (ps_ret (pe_callB call_len_seq (by rfl) m1 (by decide +kernel) (pa_cons (pe_fld (pv 0) rfl) pa_nil))), ?_⟩
  exact st_ret hx (gv_lenOf (gv_form T (gv_var (i := 0) rfl hv))) fun v F' A' u p => q v F' A' u p
def spABlocks (CA C : Addr) : Sp := SpO (preOne (oArea CA C)) (fun L v H => oLst (oBlk C) H v L)
theorem scABlocks : FnScope ["self"] ["self"] (defScope sABlocks) := ⟨rfl, rfl, rfl, by decide +kernel, rfl, by decide +kernel, by decide +kernel⟩
theorem ok_ablocks (F : Fun K "blocks" "Area.blocks" sABlocks f fd) (T : ATxt K CA) (m1 : mg "list" = none) : FnOk P w K mg base CX0 1 f fd ["self"] (spABlocks CA C) := by
  refine F.ok scABlocks (fun vs H Q E ⟨L, H0, _, ⟨v, e, _⟩, _⟩ => by rw [e]; rfl) fun cdv A outer s H vs Q E hr ⟨L, H0, hx, ⟨v, e, hv⟩, q⟩ => ?_
  subst e
  refine ⟨_, pss_one (ps_ret (pe_callTy call_list_of (by rfl) m1 (by decide +kernel) (pa_cons (pe_fld (pv 0) rfl) pa_nil))), ?_⟩
  exact st_ret hx (gv_listOf (mono_blk C) (gv_form T (gv_var (i := 0) rfl hv))) fun v F' A' u p => q v F' A' u p
def spAFirsts (CA C : Addr) : Sp := SpO (fun vs H L => preOne (oArea CA C) vs H L ∧ L.length ≤ 10000) (fun L v H => oLst oCell H v (L.map fun b => (b.top, b.left)))
theorem scAFirsts : FnScope ["self", "block"] ["self"] (defScope sAFirsts) := ⟨rfl, rfl, rfl, by decide +kernel, rfl, by decide +kernel, by decide +kernel⟩
theorem ok_afirsts (F : Fun K "firsts" "Area.firsts" sAFirsts f fd) (T : ATxt K CA) (cF : Cal P w K mg base "first_cell" 1 (spFirst C)) : FnOk P w K mg base CX0 2 f fd ["self"] (spAFirsts CA C) := by
  refine F.ok scAFirsts (fun vs H Q E ⟨L, H0, _, ⟨⟨v, e, _⟩, _⟩, _⟩ => by rw [e]; rfl) fun cdv A outer s H vs Q E hr ⟨L, H0, hx, ⟨⟨v, e, hv⟩, hz⟩, q⟩ => ?_
  subst e
  refine ⟨_, pss_one (ps_ret (pe_lc (g := gName 1) (tt := tYes) (te := tCall (spFirst C) [] E0 (tCons (tVar 1) tNil)) (own := [("block", 1)]) (by rfl) scAFirsts.nd (pi_list (pe_fld (pv 0) rfl)) (blkOk_by (N := ["self", "block"]) (sc := defScope sAFirsts) (by decide +kernel))
    (fun _ _ _ _ _ => pg_name (i := 1) scAFirsts.nd rfl (Or.inl rfl)) (fun _ _ _ _ _ => pts_nil) (fun _ _ _ _ _ => pe_cal cF hr (by rfl) (pa_cons (pv 1) pa_nil)))), ?_⟩
  have comp : Gv (tLc (iList K (tFld K (tVar 0) "form")) (gName 1) tYes (tCall (spFirst C) [] E0 (tCons (tVar 1) tNil)) [1] (start ["self", "block"] [v])) H0 (fun v H' => oLst oCell H' v (L.map fun b => (b.top, b.left))) := by
    rw [← map_fm]
    refine gv_lc (mono_blk C) mono_cell (fun b => some (b.top, b.left)) (by omega) (gv_form T (gv_var (i := 0) rfl hv)) fun y b F3 A3 eF e3 _ hy => ?_
    refine ⟨_, fun Q hQ => hQ, rfl, gt_yes, fun z hz F4 e4 => ?_⟩
    cases hz
    refine gv_call (PA := fun vs H' => ∃ z, vs = [z] ∧ oBlk C H' z b) b (ga_cons (gv_var (P := fun v F' => oBlk C F' v b) rfl (mono_blk C _ _ _ _ e4 hy)) fun z H5 e5 h5 => ga_nil ⟨z, rfl, h5⟩) fun vs H5 e5 ⟨z, hvs, h5⟩ => ?_
    subst hvs
    exact ⟨z, rfl, h5⟩
  exact st_ret hx comp fun v F' A' u p => q v F' A' u p
def spABy (CA C fE : Addr) : Sp := SpO (fun vs H (x : List CB.Blk × List CB.Blk) => (∃ v1 v2, vs = [v1, v2, .ref fE] ∧ oArea CA C H v1 x.1 ∧ oArea CA C H v2 x.2) ∧ CB.okL (x.1 ++ x.2) ∧ (CB.formOf (x.1 ++ x.2)).length ≤ 31) (fun x v H => oArea CA C H v (CB.formOf (x.1 ++ x.2)))
theorem scABy : FnScope ["self", "other", "keeps"] ["self", "other", "keeps"] (defScope sABy) := ⟨rfl, rfl, rfl, by decide +kernel, rfl, by decide +kernel, by decide +kernel⟩
theorem ok_aby (F : Fun K "by" "Area.by" sABy f fd) (T : ATxt K CA) (cC : Cal P w K mg base "checked_area" 1 (spChkA CA C)) (cB : Cal P w K mg base "bands_by" 3 (spBands C fE)) (cF : Cal P w K mg base "form_of" 6 (spForm C)) (mA : C8.Mak P w K mg base 7 "Area" CA (spAInit CA C) []) :
    FnOk P w K mg base CX0 9 f fd ["self", "other", "keeps"] (spABy CA C fE) := by
  refine F.ok scABy (fun vs H Q E ⟨x, H0, _, ⟨⟨v1, v2, e, _⟩, _⟩, _⟩ => by rw [e]; rfl) fun cdv A outer s H vs Q E hr ⟨⟨L, M⟩, H0, hx, ⟨⟨v1, v2, e, h1, h2⟩, ok, hfl⟩, q⟩ => ?_
  subst e
  have h1 : oArea CA C H0 v1 L := h1
  have h2 : oArea CA C H0 v2 M := h2
  have ok : CB.okL (L ++ M) := ok
  refine ⟨_, pss_cons (ps_expr (pe_cal cC (hr.mono (by decide)) (by rfl) (pa_cons (pv 1) pa_nil)))
    (pss_one (ps_ret (C8.pe_mk mA hr (by decide) (by rfl) (pa_cons (pe_cal cF (hr.mono (by decide)) (by rfl) (pa_cons (pe_cal cB (hr.mono (by decide)) (by rfl) (pa_cons (pe_fld (pv 0) rfl) (pa_cons (pe_fld (pv 1) rfl) (pa_cons (pv 2) pa_nil)))) pa_nil)) pa_nil)))), ?_⟩
  refine (show Gv (tCall (spChkA CA C) [] E0 (tCons (tVar 1) tNil) (start ["self", "other", "keeps"] [v1, v2, .ref fE])) H0 (fun v _ => v = .non) from gv_call (PA := fun vs H' => ∃ z, vs = [z] ∧ oArea CA C H' z M) M (ga_cons (gv_var (i := 1) rfl h2) fun z H2 e2 h2 => ga_nil ⟨z, rfl, h2⟩) fun vs H2 e2 ⟨z, hvs, h2⟩ => ?_) H hx _ fun z F1 A1 u1 _ => ?_
  · subst hvs
    exact ⟨z, rfl, h2⟩
  have hbands : Gv (tCall (spBands C fE) [] E0 (tCons (tFld K (tVar 0) "form") (tCons (tFld K (tVar 1) "form") (tCons (tVar 2) tNil))) (start ["self", "other", "keeps"] [v1, v2, .ref fE])) F1 (fun v H' => oLst oBand H' v (CB.bandsBy (L ++ M))) := by
    refine gv_call (PA := fun vs H' => ∃ a b, vs = [a, b, .ref fE] ∧ oLst (oBlk C) H' a L ∧ oLst (oBlk C) H' b M) (L, M) (ga_cons (gv_form T (gv_var (i := 0) rfl (mono_area CA C _ _ _ _ u1.a h1))) fun a H3 e3 h3 => ga_cons (gv_form T (gv_var (i := 1) rfl (mono_area CA C _ _ _ _ (u1.a.trans e3) h2))) fun b H4 e4 h4 => ga_cons (gv_var (i := 2) (P := fun v _ => v = .ref fE) rfl rfl) fun c H5 e5 h5 => ga_nil ⟨a, b, by rw [h5], mono_lst (mono_blk C) _ _ _ _ (e4.trans e5) h3, mono_lst (mono_blk C) _ _ _ _ e5 h4⟩) fun vs H3 e3 ⟨a, b, hvs, h3, h4⟩ => ?_
    subst hvs
    have := ok.1
    rw [List.length_append] at this
    exact ⟨a, b, rfl, h3, h4, this⟩
  have hform : Gv (tCall (spForm C) [] E0 (tCons (tCall (spBands C fE) [] E0 (tCons (tFld K (tVar 0) "form") (tCons (tFld K (tVar 1) "form") (tCons (tVar 2) tNil)))) tNil) (start ["self", "other", "keeps"] [v1, v2, .ref fE])) F1 (fun v H' => oLst (oBlk C) H' v (CB.formOf (L ++ M))) := by
    refine gv_call (PA := fun vs H' => ∃ z, vs = [z] ∧ oLst oBand H' z (CB.bandsBy (L ++ M))) (CB.bandsBy (L ++ M)) (ga_cons hbands fun z H3 e3 h3 => ga_nil ⟨z, rfl, h3⟩) fun vs H3 e3 ⟨z, hvs, h3⟩ => ?_
    subst hvs
    exact ⟨z, rfl, h3, preForm_of ok⟩
  have hF := CB.formOf_ok ok.2
  have hok2 : CB.okL (CB.formOf (L ++ M)) := ⟨hfl, CB.form_bok (CB.dom_of ok.2) hF⟩
  have hmake : Gv (tMake CA (spAInit CA C) [] E0 (tCons (tCall (spForm C) [] E0 (tCons (tCall (spBands C fE) [] E0 (tCons (tFld K (tVar 0) "form") (tCons (tFld K (tVar 1) "form") (tCons (tVar 2) tNil)))) tNil)) tNil) (start ["self", "other", "keeps"] [v1, v2, .ref fE])) F1 (fun v H' => oArea CA C H' v (CB.formOf (CB.formOf (L ++ M)))) :=
    gv_makeA (PA := fun vs H' => ∃ z, vs = [z] ∧ oLst (oBlk C) H' z (CB.formOf (L ++ M))) (ga_cons hform fun z H3 e3 h3 => ga_nil ⟨z, rfl, h3⟩) (fun vs F' _ ⟨z, hvs, h3⟩ => ⟨z, by rw [hvs]; rfl, .inr h3⟩) hok2
  refine st_ret u1.c hmake fun v F' A' u p => q v F' A' (u1.trans u) ?_
  rw [CB.formOf_form ok.2 hF] at p
  exact p
def spAJoin (CA C : Addr) : Sp := SpO (fun vs H (x : List CB.Blk × List CB.Blk) => (∃ v1 v2, vs = [v1, v2] ∧ oArea CA C H v1 x.1 ∧ oArea CA C H v2 x.2) ∧ CB.okL (x.1 ++ x.2) ∧ (CB.formOf (x.1 ++ x.2)).length ≤ 31) (fun x v H => oArea CA C H v (CB.formOf (x.1 ++ x.2)))
theorem scAJoin : FnScope ["self", "other"] ["self", "other"] (defScope sAJoin) := ⟨rfl, rfl, rfl, by decide +kernel, rfl, by decide +kernel, by decide +kernel⟩
theorem ok_ajoin (F : Fun K "joined" "Area.joined" sAJoin f fd) (mB : C8.Met P w K mg base 9 CA "by" (spABy CA C fE) []) (gE : mg "either" = some (.ref fE)) : FnOk P w K mg base CX0 10 f fd ["self", "other"] (spAJoin CA C) := by
  refine F.ok scAJoin (fun vs H Q E ⟨x, H0, _, ⟨⟨v1, v2, e, _⟩, _⟩, _⟩ => by rw [e]; rfl) fun cdv A outer s H vs Q E hr ⟨⟨L, M⟩, H0, hx, ⟨⟨v1, v2, e, h1, h2⟩, ok, hfl⟩, q⟩ => ?_
  subst e
  have h1 : oArea CA C H0 v1 L := h1
  have h2 : oArea CA C H0 v2 M := h2
  refine ⟨_, pss_one (ps_ret (C8.pe_mt (m := "by") mB hr (by decide) (pv 0) (pa_cons (pv 1) (pa_cons (pe_glob (v := .ref fE) (by rfl) gE rfl) pa_nil)))), ?_⟩
  have hm : Gv (tMeth CA "by" (spABy CA C fE) [] E0 (tVar 0) (tCons (tVar 1) (tCons (tC (.ref fE)) tNil)) (start ["self", "other"] [v1, v2])) H0 (fun v H' => oArea CA C H' v (CB.formOf (L ++ M))) := by
    refine gv_meth (PA := fun vs H' => ∃ a b, vs = [a, b, .ref fE] ∧ oArea CA C H' a L ∧ oArea CA C H' b M) (L, M) (by decide +kernel) (gv_var (i := 0) rfl h1) (fun v F' e hv => ga_cons (gv_var (i := 1) rfl (mono_area CA C _ _ _ _ e h2)) fun b H4 e4 h4 => ga_cons (gv_c (P := fun v _ => v = .ref fE) rfl) fun c H5 e5 h5 => ga_nil ⟨v, b, by rw [h5], mono_area CA C _ _ _ _ (e4.trans e5) hv, mono_area CA C _ _ _ _ e5 h4⟩) fun vs F' e ⟨a, b, hvs, ha, hb⟩ => ?_
    subst hvs
    exact ⟨⟨a, b, rfl, ha, hb⟩, ok, hfl⟩
  exact st_ret hx hm fun v F' A' u p => q v F' A' u p
end
end CW
namespace CW
open PySem PySem.Spec PyProof.Rows L2
open Evl (Ex Ex.refl Ex.trans Ex.new Ex.mut fresh_back)
/-! ### list(zip(xs, ys)) -/
abbrev pairObj (x y : Value) : Obj := { cls := .type "tuple", data := .seq #[x, y] }
/-- at as, in order, newly laid pairs -/
structure Laid (val : Nat → Value × Value) (lo : Nat) (h : Heap) (as : List Addr) : Prop where
  rise : as.Pairwise (· < ·)
  above : ∀ a ∈ as, lo ≤ a
  pairs : ∀ (j : Nat) (a : Addr), as[j]? = some a → h.get? a = some (pairObj (val j).1 (val j).2)
theorem Laid.lt {val : Nat → Value × Value} {lo : Nat} {h : Heap} {as : List Addr} (g : Laid val lo h as) {a : Addr} (ha : a ∈ as) : a < h.objs.size := by
  obtain ⟨j, hj⟩ := List.mem_iff_getElem?.mp ha
  exact Heap.lt_size (g.pairs j a hj)
section
variable {Pg : Program} {W : World} {Ar : Around} {R : Result → Shared → Prop} {sh : Shared}
theorem fill_pairs {S I : Addr} {wr : List Addr} {val : Nat → Value × Value} {n lo : Nat} {St : Nat → Heap → Prop} {res : Value} {g0 : Heap} (hSw : S ∉ wr) (hlo : ∀ b ∈ S :: wr, b < lo)
    (frame : ∀ i h h', St i h → (∀ b o, b ≠ S → h.get? b = some o → h'.get? b = some o) → St i h')
    (item : ∀ i (s : Shared) (Q : Option Value → Shared → Prop) (E : Value → Shared → Prop), i < n → St i s.heap → S < s.heap.objs.size → (∀ h', St (i + 1) h' → h'.get? s.heap.objs.size = some (pairObj (val i).1 (val i).2) → (∀ b o, b ∉ wr → s.heap.get? b = some o → h'.get? b = some o) → Q (some (.ref s.heap.objs.size)) { s with heap := h' }) → wpAny (model Pg W) Ar.in1 (pyNext (.ref I)) Q E s)
    (done : ∀ (s : Shared) (Q : Option Value → Shared → Prop) (E : Value → Shared → Prop), St n s.heap → (∀ h', (∀ b o, b ∉ wr → s.heap.get? b = some o → h'.get? b = some o) → Q none { s with heap := h' }) → wpAny (model Pg W) Ar.in1 (pyNext (.ref I)) Q E s)
    (hn : n ≤ sizeLine)
    (hR : ∀ h' c acc as, (∀ b o, b ∉ S :: wr → g0.get? b = some o → h'.get? b = some o) → h'.get? S = some { cls := .type "list", dict := none, data := .seq acc c, slots := #[] } → as.length = n → Laid val lo h' as → acc.toList = as.map Value.ref → R (.ok (.ret res)) { sh with heap := h' }) :
    ∀ (k i : Nat) (h : Heap) (c : Nat) (acc : Array Value) (as : List Addr), n - i = k → i ≤ n → St i h → (∀ b o, b ∉ S :: wr → g0.get? b = some o → h.get? b = some o) → h.get? S = some { cls := .type "list", dict := none, data := .seq acc c, slots := #[] } → acc.toList = as.map Value.ref → as.length = i → Laid val lo h as → lo ≤ h.objs.size →
      codeAny (model Pg W) Ar (.builtin "list.extend.loop" ⟨[.ref S, .ref I, res], []⟩) R { sh with heap := h } := by
  intro k
  induction k with
  | zero =>
    intro i h c acc as hk hi hst hkeep hS hacc hal hG hlh
    have e : i = n := by omega
    subst e
    refine codeAny_builtin PySem.F.entry_extend_loop ?_
    rw [Around.under_plainId PySem.F.plain_extend_loop _]
    show wpAny _ Ar.in1 (pyNext (.ref I) >>= _) _ _ _
    refine wpAny_bind (done { sh with heap := h } _ _ hst fun h' hk' => wpAny_pure (hR h' c acc as (fun b o hb e => ?_) ?_ hal ⟨hG.rise, hG.above, fun j a hj => ?_⟩ hacc))
    · exact hk' b o (fun z => hb (List.mem_cons_of_mem _ z)) (hkeep b o hb e)
    · exact hk' S _ hSw hS
    · refine hk' a _ (fun z => ?_) (hG.pairs j a hj)
      exact absurd (Nat.lt_of_lt_of_le (hlo a (List.mem_cons_of_mem _ z)) (hG.above a (List.mem_of_getElem? hj))) (Nat.lt_irrefl _)
  | succ k ih =>
    intro i h c acc as hk hi hst hkeep hS hacc hal hG hlh
    have hlt : i < n := by omega
    have hsz : acc.size = i := by rw [← Array.length_toList, hacc, List.length_map, hal]
    have hSl : S < h.objs.size := Heap.lt_size hS
    refine codeAny_builtin PySem.F.entry_extend_loop ?_
    rw [Around.under_plainId PySem.F.plain_extend_loop _]
    show wpAny _ Ar.in1 (pyNext (.ref I) >>= _) _ _ _
    refine wpAny_bind (item i { sh with heap := h } _ _ hlt hst hSl fun h' hst' ht hk' => ?_)
    dsimp only at ht hk' ⊢
    have hS' := hk' S _ hSw hS
    have nS : h.objs.size ≠ S := Nat.ne_of_gt hSl
    have up : ∀ b o, b ≠ S → h'.get? b = some o → (h'.update S (Obj.mapSeq (·.push (Value.ref h.objs.size)))).get? b = some o := fun b o hb e => (Heap.get?_update_other _ _ (Ne.symm hb)).trans e
    show wpAny _ Ar.in1 (updateSeq S (·.push (Value.ref h.objs.size)) >>= _) _ _ _
    refine wpAny_bind (wpAny_updateSeq hS' rfl (wpAny_pure ⟨plainId_quiet PySem.F.plain_extend_loop _, ih (i + 1) _ _ (acc.push (Value.ref h.objs.size)) (as ++ [h.objs.size]) (by omega) hlt (frame (i + 1) h' _ hst' up) (fun b o hb e => ?_) (Heap.get?_update_self _ hS' rfl) (by rw [Array.toList_push, hacc, List.map_append]; rfl) (by rw [List.length_append, hal]; rfl) ⟨?_, ?_, ?_⟩ ?_⟩) (by rw [hsz]; omega) (by show (acc.push (Value.ref h.objs.size)).size ≤ sizeLine + 1; rw [Array.size_push, hsz]; omega))
    · exact up b o (fun z => hb (by rw [z]; exact List.mem_cons_self)) (hk' b o (fun z => hb (List.mem_cons_of_mem _ z)) (hkeep b o hb e))
    · refine List.pairwise_append.mpr ⟨hG.rise, List.pairwise_singleton _ _, fun a ha b hb => ?_⟩
      rw [List.mem_singleton.mp hb]
      exact hG.lt ha
    · intro a ha
      rcases List.mem_append.mp ha with ha | ha
      · exact hG.above a ha
      · rw [List.mem_singleton.mp ha]; exact hlh
    · intro j b hj
      have keepP : ∀ {a : Addr} {o : Obj}, lo ≤ a → h.get? a = some o → (h'.update S (Obj.mapSeq (·.push (Value.ref h.objs.size)))).get? a = some o := fun {a o} ha e => by
        have n1 : a ∉ S :: wr := fun z => absurd (Nat.lt_of_lt_of_le (hlo a z) ha) (Nat.lt_irrefl _)
        exact up a o (fun z => n1 (by rw [z]; exact List.mem_cons_self)) (hk' a o (fun z => n1 (List.mem_cons_of_mem _ z)) e)
      rcases Nat.lt_trichotomy j as.length with h1 | h1 | h1
      · rw [List.getElem?_append_left h1] at hj
        exact keepP (hG.above b (List.mem_of_getElem? hj)) (hG.pairs j b hj)
      · subst h1
        have hb : h.objs.size = b := by simpa using hj
        subst hb
        rw [hal]
        exact up _ _ nS ht
      · rw [List.getElem?_eq_none (by rw [List.length_append, List.length_singleton]; omega)] at hj
        cases hj
    · exact Nat.le_of_lt (Nat.lt_of_le_of_lt hlh (Heap.lt_size (up _ _ nS ht)))
end
/-- the zip's records at the i-th turn -/
def ZTurn (z TI TO i1 i2 l1 l2 S : Addr) (xs ys : Array Value) (i : Nat) (h : Heap) : Prop := IsPair h TI (.ref i1) (.ref i2) ∧ h.IsListIter i1 l1 i ∧ h.IsListIter i2 l2 i ∧ h.IsList l1 xs ∧ h.IsList l2 ys ∧
  ((IsZip h z TI TO .none ∧ ∃ a b, IsPair h TO a b) ∨ ∃ T f oT, IsZipHeld h z TI TO T f ∧ h.get? T = some oT ∧ T ≠ z ∧ T ≠ i1 ∧ T ≠ i2 ∧ T ≠ S)
section
variable {Pg : Program} {W : World} {Ar : Around} {sh : Shared} {z TI TO i1 i2 l1 l2 S : Addr} {xs ys : Array Value}
theorem ZTurn.keep {i : Nat} {h h' : Heap} (st : ZTurn z TI TO i1 i2 l1 l2 S xs ys i h) (nS : S ∉ [z, TI, TO, i1, i2, l1, l2]) (k : ∀ b o, b ≠ S → h.get? b = some o → h'.get? b = some o) : ZTurn z TI TO i1 i2 l1 l2 S xs ys i h' := by
  simp only [List.mem_cons, List.not_mem_nil, or_false, not_or] at nS
  obtain ⟨n1, n2, n3, n4, n5, n6, n7⟩ := nS
  obtain ⟨hTI, h1, h2, hl1, hl2, hz⟩ := st
  refine ⟨k _ _ (Ne.symm n2) hTI, h1.at fun o e => k _ o (Ne.symm n4) e, h2.at fun o e => k _ o (Ne.symm n5) e, hl1.at fun o e => k _ o (Ne.symm n6) e, hl2.at fun o e => k _ o (Ne.symm n7) e, ?_⟩
  rcases hz with ⟨hz, a, b, hTO⟩ | ⟨T, f, oT, hz, hT, r1, r2, r3, r4⟩
  · exact .inl ⟨k _ _ (Ne.symm n1) hz, a, b, k _ _ (Ne.symm n3) hTO⟩
  · exact .inr ⟨T, f, oT, k _ _ (Ne.symm n1) hz, k _ _ r4 hT, r1, r2, r3, r4⟩
theorem ZTurn.item {A : Around} {i : Nat} {s : Shared} {Q : Option Value → Shared → Prop} {E : Value → Shared → Prop} {x y : Value} (D : ZipApart z TI TO i1 i2 l1 l2) (st : ZTurn z TI TO i1 i2 l1 l2 S xs ys i s.heap) (hS : S < s.heap.objs.size) (hx : xs[i]? = some x) (hy : ys[i]? = some y)
    (q : ∀ h', ZTurn z TI TO i1 i2 l1 l2 S xs ys (i + 1) h' → h'.get? s.heap.objs.size = some (pairObj x y) → (∀ b o, b ∉ [z, TO, i1, i2] → s.heap.get? b = some o → h'.get? b = some o) → Q (some (.ref s.heap.objs.size)) { s with heap := h' }) : wpAny (model Pg W) A (pyNext (.ref z)) Q E s := by
  obtain ⟨hTI, h1, h2, hl1, hl2, hz⟩ := st
  have lt : ∀ {c o}, s.heap.get? c = some o → s.heap.objs.size ≠ c := fun e => Nat.ne_of_gt (Heap.lt_size e)
  have n1 : s.heap.objs.size ≠ i1 := let ⟨_, e, _⟩ := h1; lt e
  have n2 : s.heap.objs.size ≠ i2 := let ⟨_, e, _⟩ := h2; lt e
  have off : ∀ {c : Addr}, c ∉ [z, TO, i1, i2] → c ≠ z ∧ c ≠ TO ∧ c ≠ i1 ∧ c ≠ i2 := fun {c} hc => ⟨fun x => hc (by simp [x]), fun x => hc (by simp [x]), fun x => hc (by simp [x]), fun x => hc (by simp [x])⟩
  rcases hz with ⟨hz, a, b, hTO⟩ | ⟨T, f, oT, hz, hT, r1, r2, r3, r4⟩
  · refine wpAny_pyNext_zip_item D hz hTI hTO h1 h2 hl1 hl2 hx hy fun h' a1 a2 a3 a4 a5 a6 hk => q h' ⟨hk _ _ D.TIz D.TITO D.TIi1 D.TIi2 hTI, a3, a4, hl1.at fun o e => hk _ o D.l1z D.l1TO D.l1i1 D.l1i2 e, hl2.at fun o e => hk _ o D.l2z D.l2TO D.l2i1 D.l2i2 e,
      .inr ⟨s.heap.objs.size, false, _, a1, a5, lt hz, n1, n2, Nat.ne_of_gt hS⟩⟩ a5 fun c o hc e => ?_
    obtain ⟨c1, c2, c3, c4⟩ := off hc
    exact hk c o c1 c2 c3 c4 e
  · refine wpAny_pyNext_zip_item_held D hz hT hTI h1 h2 hl1 hl2 hx hy fun h' a1 a3 a4 a5 a6 hk => q h' ⟨hk _ _ D.TIz D.TIi1 D.TIi2 hTI, a3, a4, hl1.at fun o e => hk _ o D.l1z D.l1i1 D.l1i2 e, hl2.at fun o e => hk _ o D.l2z D.l2i1 D.l2i2 e,
      .inr ⟨T, true, oT, a1, hk _ _ r1 r2 r3 hT, r1, r2, r3, r4⟩⟩ a5 fun c o hc e => ?_
    obtain ⟨c1, c2, c3, c4⟩ := off hc
    exact hk c o c1 c3 c4 e
theorem ZTurn.done {A : Around} {i : Nat} {s : Shared} {Q : Option Value → Shared → Prop} {E : Value → Shared → Prop} (hh : A.handled = none) (D : ZipApart z TI TO i1 i2 l1 l2) (st : ZTurn z TI TO i1 i2 l1 l2 S xs ys i s.heap) (hend : xs[i]? = none ∨ ys[i]? = none)
    (q : ∀ h', (∀ b o, b ∉ [z, TO, i1, i2] → s.heap.get? b = some o → h'.get? b = some o) → Q none { s with heap := h' }) : wpAny (model Pg W) A (pyNext (.ref z)) Q E s := by
  obtain ⟨hTI, h1, h2, hl1, hl2, hz⟩ := st
  have off : ∀ {c : Addr}, c ∉ [z, TO, i1, i2] → c ≠ z ∧ c ≠ TO ∧ c ≠ i1 ∧ c ≠ i2 := fun {c} hc => ⟨fun x => hc (by simp [x]), fun x => hc (by simp [x]), fun x => hc (by simp [x]), fun x => hc (by simp [x])⟩
  rcases hz with ⟨hz, a, b, hTO⟩ | ⟨T, f, oT, hz, hT, r1, r2, r3, r4⟩
  · refine wpAny_pyNext_zip_end hh D hz hTI hTO h1 h2 hl1 hl2 hend fun h' hk => q h' fun c o hc e => ?_
    obtain ⟨c1, c2, c3, c4⟩ := off hc
    exact hk c o c1 c2 c3 c4 e
  · refine wpAny_pyNext_zip_end_held hh D hz hT hTI h1 h2 hl1 hl2 hend fun h' hk => q h' fun c o hc e => ?_
    obtain ⟨c1, c2, c3, c4⟩ := off hc
    exact hk c o c1 c3 c4 e
theorem ZTurn.ty {i : Nat} {s : Shared} (st : ZTurn z TI TO i1 i2 l1 l2 S xs ys i s.heap) : s.TypeIs (.ref z) "zip" := by
  rcases st.2.2.2.2.2 with ⟨hz, _⟩ | ⟨_, _, _, hz, _⟩
  · exact ⟨_, hz, rfl⟩
  · exact ⟨_, hz, rfl⟩
theorem zip_nolen : typeLookup (.type "zip") "__len__" = pure none := by rw [typeLookup_type, builtinLookup_eq_fast]; kernel_rfl
theorem zip_nohint : typeLookup (.type "zip") "__length_hint__" = pure none := by rw [typeLookup_type, builtinLookup_eq_fast]; kernel_rfl
end
end CW
namespace CW
open PySem PySem.Spec PyProof.Rows L2
open Evl (Ex Ex.refl Ex.trans Ex.new Ex.mut fresh_back)
section
variable {Pg : Program} {W : World} {Ar : Around} {Er : Value → Shared → Prop} {sh : Shared} {z TI TO i1 i2 l1 l2 : Addr} {xs ys : Array Value}
def zval (xs ys : Array Value) (j : Nat) : Value × Value := ((xs[j]?).getD .none, (ys[j]?).getD .none)
theorem list_of_zip {Q : Value → Shared → Prop} (hh : Ar.handled = none) (D : ZipApart z TI TO i1 i2 l1 l2) (hz : IsZip sh.heap z TI TO .none) (st : ∀ S : Addr, sh.heap.objs.size ≤ S → ZTurn z TI TO i1 i2 l1 l2 S xs ys 0 sh.heap) (hTO : TO < sh.heap.objs.size) (hsz : ys.size = xs.size) (hn : xs.size ≤ sizeLine)
    (h : ∀ h' c acc as, (∀ b o, b ∉ [z, TO, i1, i2] → sh.heap.get? b = some o → h'.get? b = some o) → h'.get? sh.heap.objs.size = some { cls := .type "list", dict := none, data := .seq acc c, slots := #[] } → as.length = xs.size → Laid (zval xs ys) (sh.heap.objs.size + 1) h' as → acc.toList = as.map Value.ref → Q (.ref sh.heap.objs.size) { sh with heap := h' }) :
    wpAny (model Pg W) Ar (call (.type "list") [.ref z]) Q Er sh := by
  refine callType_codes (Q₁ := fun v s₁ => v = .ref sh.heap.objs.size ∧ s₁ = { sh with heap := sh.heap.push { cls := .type "list", data := .seq #[] } }) PySem.F.called_list (PySem.F.typeCall_list_1 _) PySem.F.entry_list_init (code_list_new _ ⟨rfl, rfl⟩) fun v s₁ hv => ?_
  obtain ⟨rfl, rfl⟩ := hv
  have st0 := st sh.heap.objs.size (Nat.le_refl _)
  have lows : ∀ b ∈ [z, TI, TO, i1, i2, l1, l2], b < sh.heap.objs.size := by
    obtain ⟨hTI, ⟨_, h1, _⟩, ⟨_, h2, _⟩, ⟨_, hl1, _⟩, ⟨_, hl2, _⟩, hz0⟩ := id st0
    intro b hb
    simp only [List.mem_cons, List.not_mem_nil, or_false] at hb
    rcases hb with e | e | e | e | e | e | e <;> rw [e]
    · exact Heap.lt_size hz
    · exact Heap.lt_size hTI
    · exact hTO
    · exact Heap.lt_size h1
    · exact Heap.lt_size h2
    · exact Heap.lt_size hl1
    · exact Heap.lt_size hl2
  have nS : sh.heap.objs.size ∉ [z, TI, TO, i1, i2, l1, l2] := fun hm => Nat.lt_irrefl _ (lows _ hm)
  have nS2 : sh.heap.objs.size ∉ [z, TO, i1, i2] := fun hm => nS (by
    simp only [List.mem_cons, List.not_mem_nil, or_false] at hm ⊢
    rcases hm with e | e | e | e <;> simp [e])
  have hS : (sh.heap.push { cls := .type "list", data := .seq #[] }).get? sh.heap.objs.size = some { cls := .type "list", data := .seq #[] } := Heap.get?_push_size _ rfl
  refine ⟨⟨_, hS, rfl⟩, PySem.F.args_list_init_2 _ _, ?_⟩
  show wpAny _ _ (do let old ← Builtin.List.listItems (.ref sh.heap.objs.size); Builtin.List.listUpdate (.ref sh.heap.objs.size) (fun _ => #[]); letGo old.toList.reverse; Builtin.List.listExtendWith (.ref sh.heap.objs.size) (.ref z) .none) _ _ _
  refine wpAny_bind (listItems_at hS rfl ?_)
  refine wpAny_bind (listUpdate_at hS rfl ?_ (Nat.zero_le _) (Nat.zero_le _))
  have hS2 := Heap.get?_update_self (Obj.mapSeq (fun _ => (#[] : Array Value))) hS rfl
  refine wpAny_bind (wpAny_letGo ?_)
  have up2 : ∀ b o, b ≠ sh.heap.objs.size → sh.heap.get? b = some o → ((sh.heap.push { cls := .type "list", data := .seq #[] }).update sh.heap.objs.size (Obj.mapSeq fun _ => (#[] : Array Value))).get? b = some o := fun b o hb e => (Heap.get?_update_other _ _ (Ne.symm hb)).trans (Heap.get?_push_of_some _ e)
  have st2 := st0.keep nS up2
  have hz2 := up2 z _ (fun e => nS (by simp [e])) hz
  unfold Builtin.List.listExtendWith
  refine wpAny_bind (wpAny_typeOf (T := "zip") ⟨_, hz2, rfl⟩ ?_)
  have r1 : Builtin.List.listSameRef (.ref sh.heap.objs.size) (.ref z) = false := by
    have : sh.heap.objs.size ≠ z := fun e => nS (by simp [e])
    simp [Builtin.List.listSameRef, this]
  have r2 : (Value.type "zip" == Value.type "list") = false := by decide
  have r3 : (Value.type "zip" == Value.type "tuple") = false := by decide
  simp only [r1, r2, r3, Bool.or_false, Bool.false_eq_true, if_false]
  refine wpAny_bind (wpAny_pyIter_zip hz2 ?_)
  refine wpAny_bind (wpAny_holding ?_)
  unfold Builtin.List.listLengthHint
  refine wpAny_bind (wpAny_specialOf (T := "zip") ⟨_, hz2, rfl⟩ zip_nolen ?_)
  show wpAny _ _ (specialOf (Value.ref z) (Str.ofString "__length_hint__") >>= _) _ _ _
  refine wpAny_bind (wpAny_specialOf (T := "zip") ⟨_, hz2, rfl⟩ zip_nohint ?_)
  refine wpAny_pure ?_
  show wpAny _ _ (rule "list.extend.makes-room" >>= fun _ => Builtin.List.listTouch (.ref sh.heap.objs.size) >>= fun _ =>
    again (.builtin "list.extend.loop" ⟨[.ref sh.heap.objs.size, .ref z, .none], []⟩)) _ _ _
  refine wpAny_bind (wpAny_rule (wpAny_bind ?_))
  show wpAny _ _ (updateSeq sh.heap.objs.size (·.push .none) >>= fun _ => updateSeq sh.heap.objs.size (·.pop)) _ _ _
  refine wpAny_bind (wpAny_updateSeq hS2 rfl ?_)
  have hS3 := Heap.get?_update_self (Obj.mapSeq (·.push Value.none)) hS2 rfl
  refine wpAny_updateSeq (hz := by seq_fits) hS3 rfl ?_
  have hS4 := Heap.get?_update_self (Obj.mapSeq (·.pop)) hS3 rfl
  have up4 : ∀ b o, b ≠ sh.heap.objs.size → sh.heap.get? b = some o → ((((sh.heap.push { cls := .type "list", data := .seq #[] }).update sh.heap.objs.size (Obj.mapSeq fun _ => (#[] : Array Value))).update sh.heap.objs.size (Obj.mapSeq (·.push Value.none))).update sh.heap.objs.size (Obj.mapSeq (·.pop))).get? b = some o := fun b o hb e =>
    (Heap.get?_update_other _ _ (Ne.symm hb)).trans ((Heap.get?_update_other _ _ (Ne.symm hb)).trans (up2 b o hb e))
  have st4 := st0.keep nS up4
  have hlen4 : sh.heap.objs.size + 1 ≤ ((((sh.heap.push { cls := .type "list", data := .seq #[] }).update sh.heap.objs.size (Obj.mapSeq fun _ => (#[] : Array Value))).update sh.heap.objs.size (Obj.mapSeq (·.push Value.none))).update sh.heap.objs.size (Obj.mapSeq (·.pop))).objs.size := by
    rw [Heap.size_update, Heap.size_update, Heap.size_update, Heap.size_push]
    exact Nat.le_refl _
  refine wpAny_pure ⟨plainId_quiet PySem.F.plain_extend_loop _, ?_⟩
  refine fill_pairs (St := ZTurn z TI TO i1 i2 l1 l2 sh.heap.objs.size xs ys) (wr := [z, TO, i1, i2]) (val := zval xs ys) (n := xs.size) (lo := sh.heap.objs.size + 1) (g0 := sh.heap) (S := sh.heap.objs.size) nS2 (fun b hb => ?_) (fun i h1 h2 s1 hk => s1.keep nS hk) (fun i s Q E hi s1 hS q => ?_) (fun s Q E s1 q => ?_) hn (fun h' c acc as hk hS' hl hG hacc => ⟨rfl, h h' c acc as (fun b o hb e => hk b o (fun hm => ?_) e) hS' hl hG hacc⟩)
    (xs.size - 0) 0 _ _ #[] [] rfl (Nat.zero_le _) st4 (fun b o hb e => up4 b o (fun z => hb (by rw [z]; exact List.mem_cons_self)) e) hS4 rfl rfl ⟨List.Pairwise.nil, (fun a ha => by cases ha), fun j a hj => by simp at hj⟩ hlen4
  · rcases List.mem_cons.mp hb with e | e
    · rw [e]; exact Nat.lt_succ_self _
    · have : b ∈ [z, TI, TO, i1, i2, l1, l2] := by
        simp only [List.mem_cons, List.not_mem_nil, or_false] at e ⊢
        rcases e with e | e | e | e <;> simp [e]
      exact Nat.lt_succ_of_lt (lows b this)
  · have ex := Array.getElem?_eq_getElem hi
    have ey := Array.getElem?_eq_getElem (show i < ys.size by omega)
    refine s1.item D hS ex ey fun h' s2 hp hk => q h' s2 ?_ hk
    unfold zval
    rw [ex, ey]
    exact hp
  · exact s1.done hh D (.inl (Array.getElem?_eq_none (Nat.le_refl _))) q
  · rcases List.mem_cons.mp hm with z | z
    · rw [z] at e; exact absurd (Heap.lt_size e) (Nat.lt_irrefl _)
    · exact hb z
end
/-- pairs tracked at their addresses -/
def layV : Hp → List Addr → List (V × V) → Hp
  | H, a :: as, y :: ys => layV (upd H a (.tup [y.1, y.2])) as ys
  | H, _, _ => H
theorem layV_off {b : Addr} : ∀ (as : List Addr) (ys : List (V × V)) (H : Hp), b ∉ as → layV H as ys b = H b
  | [], _, _, _ => rfl
  | _ :: _, [], _, _ => rfl
  | a :: as, y :: ys, H, h => by
    have h1 : b ≠ a := fun z => h (by rw [z]; exact List.mem_cons_self)
    have ih := layV_off as ys (upd H a (.tup [y.1, y.2])) fun z => h (List.mem_cons_of_mem _ z)
    rw [upd_ne h1] at ih
    exact ih
theorem layV_at : ∀ (as : List Addr) (ys : List (V × V)) (H : Hp), as.length = ys.length → as.Nodup → Paired (fun (t : Addr) (y : V × V) => layV H as ys t = some (.tup [y.1, y.2])) as ys
  | [], [], _, _, _ => .nil
  | [], _ :: _, _, h, _ => by cases h
  | _ :: _, [], _, h, _ => by cases h
  | a :: as, y :: ys, H, h, hn => by
    obtain ⟨n1, n2⟩ := List.nodup_cons.mp hn
    have ih := layV_at as ys (upd H a (.tup [y.1, y.2])) (Nat.succ.inj h) n2
    refine .cons ?_ ih
    have := layV_off (b := a) as ys (upd H a (.tup [y.1, y.2])) n1
    rw [upd_same] at this
    exact this
theorem up_layV : ∀ (ts : List Addr) (ys : List (V × V)) {H H1 : Hp}, Ex H H1 → (∀ t ∈ ts, H1 t = none) → ts.Nodup → Up H H1 (layV H ts ys) (layV H1 ts ys)
  | [], _, H, H1, e, _, _ => Up.refl e
  | _ :: _, [], H, H1, e, _, _ => Up.refl e
  | t :: ts, y :: ys, H, H1, e, hn, nd => by
    obtain ⟨n1, n2⟩ := List.nodup_cons.mp nd
    have u1 := Up.new (o := .tup [y.1, y.2]) e (hn t List.mem_cons_self)
    have u2 := up_layV ts ys u1.c (fun t' ht' => by
      rw [upd_ne (show t' ≠ t from fun z => n1 (by rw [← z]; exact ht'))]
      exact hn t' (List.mem_cons_of_mem _ ht')) n2
    exact u1.trans u2
def rListZip (K : PySem.W.Frag) : List V → Hp → VK → Prop := fun vs H Q => ∃ (a b : Addr) (xs ys : List V), vs = [.ref a, .ref b] ∧ SqL K H a xs ∧ SqL K H b ys ∧ ys.length = xs.length ∧
  ∀ (p : Addr) (ts : List Addr), H p = none → (∀ t ∈ ts, H t = none) → p ∉ ts → ts.Nodup → ts.length = xs.length → Q (.ref p) (layV (upd H p (.lst (ts.map V.ref))) ts (xs.zip ys))
def tListZip (K : PySem.W.Frag) (ta : TA) : TE := fun σ H Q => ta σ H fun vs H1 => rListZip K vs H1 Q
section
variable {X : Cx} {e e2 : Expr} {ta : TA} {p p2 pos pos2 : Pos}
theorem pe_listZip (hc : X.calm = true) (hg : Gl X "list") (hm : X.mg "list" = none) (hg2 : Gl X "zip") (hm2 : X.mg "zip" = none) (ha : PA X [e, e2] ta)
    (hs : starEach [e, e2] X.env = (false, eval e X.env) :: starEach [e2] X.env := by rfl) (hpl : (backTo pos2 (starEach [e2] X.env)).any (·.1) = false := by rfl)
    (hs1 : starEach [.Call (.Name "zip" p2) [e, e2] [] pos2] X.env = (false, eval (.Call (.Name "zip" p2) [e, e2] [] pos2) X.env) :: starEach [] X.env := by rfl) :
    PE X (.Call (.Name "list" p) [.Call (.Name "zip" p2) [e, e2] [] pos2] [] pos) (tListZip X.K ta) := by
  refine ⟨fun pins s σ H Q I hq => wpAny_Call_Name_kw (ld_blt I hg hm (show bootBuiltins "list" = some (.type "list") from by decide +kernel) (PyProof.Rows.callWith_type1 ?_ hs1 rfl))⟩
  rw [hs1]
  refine Calls.spliced_cons (wpAny_Call_Name_kw (ld_blt I hg2 hm2 PyProof.Rows.boot_zip (PyProof.Rows.callWith_type1 (thn (ha.run pos2 pins s σ H _ I hq) fun us s1 ⟨vs, H1, I1, r1, q1⟩ => ?_) hs hpl)))
  obtain ⟨a, b, xs, ys, rfl, hqx, hqy, hlen, q⟩ := q1
  cases r1 with
  | cons r rr =>
    cases rr with
    | cons r' rr =>
      cases rr
      cases r
      cases r'
      obtain ⟨its, rv, p1, hz1⟩ := I1.list hqx
      obtain ⟨its2, rv2, p2, _⟩ := I1.list hqy
      have la : a < s1.heap.objs.size := p1.lt
      have lb : b < s1.heap.objs.size := p2.lt
      have e1 := rv.length
      have e2' := rv2.length
      refine call_zip_2 p1.isList p2.isList fun h' hz hTI hTO h1 h2 hsz hk => Calls.spliced_nil ?_
      have I2 : Inv X pins σ H1 { s1 with heap := h', toks := s1.toks } := I1.kept hk
      refine list_of_zip (sh := { s1 with heap := h' }) (I1.ok.hd hc) (PySem.W.ktu_apart s1.heap.objs.size a b la lb) hz (fun S hS => ⟨hTI, h1, h2, p1.isList.at fun o e => hk _ o e, p2.isList.at fun o e => hk _ o e, .inl ⟨hz, _, _, hTO⟩⟩) (Heap.lt_size hTO) (by rw [List.size_toArray, List.size_toArray]; omega) (by rw [List.size_toArray]; omega) fun h2 c acc as hk2 hS hl hG hacc => ?_
      have hal : as.length = xs.length := by rw [hl, List.size_toArray]; omega
      have hS' : h'.objs.size ∉ as := fun z => absurd (hG.above _ z) (Nat.not_le.mpr (Nat.lt_succ_self _))
      have nd : as.Nodup := List.Pairwise.imp (fun {a b} (h : a < b) => Nat.ne_of_lt h) hG.rise
      have new : ∀ t ∈ as, H1 t = none := fun t ht => I2.hok.fresh (Nat.le_trans (Nat.le_succ _) (hG.above t ht))
      have newS : H1 h'.objs.size = none := I2.hok.fresh (Nat.le_refl _)
      have hzl : (xs.zip ys).length = as.length := by rw [List.length_zip, hal]; omega
      have atP := layV_at as (xs.zip ys) (upd H1 h'.objs.size (.lst (as.map V.ref))) hzl.symm nd
      have off : ∀ b, b ∉ as → b ≠ h'.objs.size → layV (upd H1 h'.objs.size (.lst (as.map V.ref))) as (xs.zip ys) b = H1 b := fun b h1 h2 => by rw [layV_off as _ _ h1, upd_ne h2]
      have low : ∀ b o, s1.heap.get? b = some o → b ∉ as ∧ b ≠ h'.objs.size ∧ h2.get? b = some o := fun b o e => by
        have hb : b < s1.heap.objs.size := Heap.lt_size e
        refine ⟨fun z => ?_, ?_, hk2 b o (fun z => ?_) (hk b o e)⟩
        · have := hG.above b z
          have h5 : h'.objs.size = s1.heap.objs.size + 5 := hsz
          exact absurd (Nat.lt_of_lt_of_le (Nat.lt_of_le_of_lt (Nat.le_of_lt hb) (by rw [h5]; omega)) this) (Nat.lt_irrefl _)
        · have h5 : h'.objs.size = s1.heap.objs.size + 5 := hsz
          rw [h5]
          exact Nat.ne_of_lt (Nat.lt_of_lt_of_le hb (Nat.le_add_right _ _))
        · simp only [List.mem_cons, List.not_mem_nil, or_false] at z
          rcases z with z | z | z | z
          · exact absurd (z ▸ hb) (Nat.not_lt.mpr (Nat.le_add_right _ _))
          · exact absurd (z ▸ hb) (Nat.not_lt.mpr (Nat.le_add_right _ _))
          · exact absurd (z ▸ hb) (Nat.lt_irrefl _)
          · exact absurd (z ▸ hb) (Nat.not_lt.mpr (Nat.le_add_right _ _))
      have kp : ∀ b u, H1 b = some u → layV (upd H1 h'.objs.size (.lst (as.map V.ref))) as (xs.zip ys) b = some u := fun b u e => by
        rw [off b (fun z => by rw [new b z] at e; cases e) (fun z => by rw [z, newS] at e; cases e)]
        exact e
      have eS : layV (upd H1 h'.objs.size (.lst (as.map V.ref))) as (xs.zip ys) h'.objs.size = some (.lst (as.map V.ref)) := by rw [layV_off as _ _ hS', upd_same]
      have un : Un (frs X.stack) [] H1 (layV (upd H1 h'.objs.size (.lst (as.map V.ref))) as (xs.zip ys)) s1.heap h2 := by
        refine ⟨fun b o q _ _ _ => (low b o q).2.2, fun b o q _ _ _ => ⟨o.slots, (low b o q).2.2⟩, fun b o q n _ => ?_, fun b o q _ => ⟨o, (low b o q).2.2⟩, fun b xs q => kp b _ q, fun b o u q => kp b _ q, fun b ps q => ⟨#[], by rw [kp b _ q]; simp⟩⟩
        obtain ⟨z1, z2, _⟩ := low b o q
        rw [off b z1 z2]
        exact n
      have J : Inv X pins σ (layV (upd H1 h'.objs.size (.lst (as.map V.ref))) as (xs.zip ys)) { s1 with heap := h2, gens := s1.gens, drawn := s1.drawn, toks := s1.toks } := by
        refine I1.call (ch := []) un (fun b u q => ?_) I1.bare fun b z => by simp at z
        by_cases hb : b ∈ as
        · obtain ⟨j, y, j1, j2, j3⟩ := pr_ix atP hb
          rw [j3] at q
          cases q
          have f3 := hG.pairs j b j1
          have hjx : j < xs.length := by rw [← hal]; exact (List.getElem?_eq_some_iff.mp j1).1
          rw [List.getElem?_zip_eq_some] at j2
          obtain ⟨u1, g1, g2⟩ := rv.get j2.1
          obtain ⟨u2, g3, g4⟩ := rv2.get j2.2
          have ev : zval its.toArray its2.toArray j = (u1, u2) := by
            unfold zval
            simp [g1, g3]
          rw [ev] at f3
          exact ⟨by show 2 ≤ sizeLine; decide, [u1, u2], .cons g2 (.cons g4 .nil), ⟨_, f3, rfl, _, rfl⟩⟩
        · by_cases hb2 : b = h'.objs.size
          · rw [hb2] at q ⊢
            rw [eS] at q
            cases q
            refine ⟨by rw [List.length_map, hal]; exact hz1, acc.toList, c, by rw [hacc]; exact refs_vals as, ?_⟩
            rw [Array.toArray_toList]
            exact hS
          · rw [off b hb hb2] at q
            exact (I1.hok b u q).stay (fun d v _ y => (low d v y).2.2) (fun d y => kp d _ y) fun d xs y => kp d _ y
      exact ⟨.ref _, _, J, rfl, q _ as newS new hS' nd hal⟩
end
end CW
namespace CW
open PySem PySem.Spec PyProof.Rows L2
open Evl (Ex Ex.refl Ex.trans Ex.new Ex.mut fresh_back)
section
variable {P : Program} {w : World} {K : PySem.W.Frag} {mg : Str → Option Value} {base : Heap} {f C CA fE : Addr} {fd : FuncData}
/-! ### the script's cells, the draws -/
def spCellA (K : PySem.W.Frag) : Sp := fun vs H Q _ => ∃ (l : Addr) (ns : List Int) (k : Nat), vs = [.ref l, .int k] ∧ SqL K H l (ns.map V.int) ∧ ∀ n, Q (.int n) H
theorem scLCell : FnScope ["_law_script", "_law_k"] ["_law_script", "_law_k"] (defScope sLCell) := ⟨rfl, rfl, rfl, by decide +kernel, rfl, by decide +kernel, by decide +kernel⟩
theorem cal_cellA (F : Fun K "_law_cell_at" "_law_cell_at" sLCell f fd) (g : mg "_law_cell_at" = some (.ref f)) (m1 : mg "len" = none) : Cal P w K mg base "_law_cell_at" 1 (spCellA K) := by
  refine cal_mk F g scLCell (fun _ _ _ _ _ _ us hl => match us, hl with | [_, _], _ => rfl) (fun vs H Q E ⟨l, ns, k, e, _⟩ => by rw [e]; rfl) fun cdv A outer s H vs Q E hr ⟨l, ns, k, e, hl, q⟩ => ?_
  subst e
  refine ⟨_, pss_cons (ps_if (pt_cmpR op_lt (pv 1) (pe_callB call_len_seq (by rfl) m1 (by decide +kernel) (pa_cons (pv 0) pa_nil)) (nomark _)) (pss_one (ps_ret (pe_ix ix_list (pv 0) (pv 1) (fun _ _ => rfl)))) pss_nil) (pss_one (ps_ret pe_int)), ?_⟩
  refine ⟨_, rfl, _, rfl, l, _, rfl, .inl hl, (k : Int), _, rfl, rfl, _, rfl, ?_⟩
  by_cases hk : k < ns.length
  · have hd : decide ((k : Int) < ((ns.map V.int).length : Nat)) = true := decide_eq_true (by rw [List.length_map]; omega)
    rw [hd]
    refine iteT ⟨_, rfl, _, rfl, l, _, (k : Int), .int ns[k], rfl, rfl, hl, atI_nat ?_, q _⟩
    rw [List.getElem?_map, List.getElem?_eq_getElem hk]; rfl
  · have hd : decide ((k : Int) < ((ns.map V.int).length : Nat)) = false := decide_eq_false (by rw [List.length_map]; omega)
    rw [hd]
    exact iteF (q 0)
def spMixA : Sp := fun vs H Q _ => ∃ c k : Int, vs = [.int c, .int k] ∧ ∀ n, Q (.int n) H
theorem scLMix : FnScope ["_law_cell", "_law_k", "_law_number"] ["_law_cell", "_law_k"] (defScope sLMix) := ⟨rfl, rfl, rfl, by decide +kernel, rfl, by decide +kernel, by decide +kernel⟩
theorem cal_mixA (F : Fun K "_law_mixed" "_law_mixed" sLMix f fd) (g : mg "_law_mixed" = some (.ref f)) : Cal P w K mg base "_law_mixed" 1 spMixA := by
  refine cal_mk F g scLMix (fun _ _ _ _ _ _ us hl => match us, hl with | [_, _], _ => rfl) (fun vs H Q E ⟨c, k, e, _⟩ => by rw [e]; rfl) fun cdv A outer s H vs Q E hr ⟨c, k, e, q⟩ => ?_
  subst e
  refine ⟨_, pss_cons (ps_set (i := 2) scLMix.nd rfl (.inl rfl) (pe_op op_add (pe_op op_add (pe_op op_add (pe_op op_mod (pv 0) pe_int) (pe_op op_mul (pe_op op_fdivW (pv 0) pe_int) pe_int)) (pe_op op_mul pe_int (pv 1))) pe_int))
    (pss_cons (ps_set (i := 2) scLMix.nd rfl (.inl rfl) (pe_op op_mod (pe_op op_mul (pv 2) pe_int) pe_int))
    (pss_cons (ps_set (i := 2) scLMix.nd rfl (.inl rfl) (pe_op op_mod (pe_op op_mul (pv 2) (pe_op op_add (pe_op op_add (pe_op op_fdivW (pv 2) pe_int) pe_int) (pv 1))) pe_int))
    (pss_one (ps_ret (pe_op op_mod (pe_op op_mul (pv 2) (pe_op op_add (pe_op op_fdivW (pv 2) pe_int) pe_int)) pe_int))))), ?_⟩
  have m1 : ∀ n : Int, 0 ≤ n % 2147483629 ∧ n % 2147483629 < 2147483629 := fun n => ⟨Int.emod_nonneg _ (by decide), Int.emod_lt_of_pos _ (by decide)⟩
  have m2 : ∀ n : Int, 0 ≤ n % 2147483587 ∧ n % 2147483587 < 2147483587 := fun n => ⟨Int.emod_nonneg _ (by decide), Int.emod_lt_of_pos _ (by decide)⟩
  have dv : ∀ i : Int, CDivW i 2147483629 := fun i => wide_div (b := 32) (by decide) (by decide) (by decide) (by decide)
  have d9 : ∀ i : Int, CDivW i 907 := fun i => wide_div (b := 32) (by decide) (by decide) (by decide) (by decide)
  have d12 : ∀ i : Int, CDivW i 1201 := fun i => wide_div (b := 32) (by decide) (by decide) (by decide) (by decide)
  refine ⟨_, rfl, _, _, rfl, rfl, (by decide : (0 : Int) < 2147483629), _, rfl, _, _, rfl, rfl, dv c, _, _, rfl, rfl, .inr ⟨by decide, by decide⟩, _, _, rfl, rfl, _, rfl, _, _, rfl, rfl, .inl ⟨by decide, by decide⟩, _, _, rfl, rfl, _, _, rfl, rfl, ?_⟩
  refine ⟨_, rfl, _, _, rfl, rfl, .inr ⟨by decide, by decide⟩, _, _, rfl, rfl, (by decide : (0 : Int) < 2147483629), ?_⟩
  generalize (c % 2147483629 + c / 2147483629 * 30011 + 69621 * k + 1) * 48271 = n1
  have h1 := m1 n1
  refine ⟨_, rfl, _, rfl, _, _, rfl, rfl, d9 _, _, _, rfl, rfl, _, rfl, _, _, rfl, rfl, _, _, rfl, rfl, .inl ⟨by omega, by omega⟩, _, _, rfl, rfl, (by decide : (0 : Int) < 2147483587), ?_⟩
  generalize n1 % 2147483629 * (n1 % 2147483629 / 907 + 16831 + k) = n2
  have h2 := m2 n2
  exact ⟨_, rfl, _, rfl, _, _, rfl, rfl, d12 _, _, _, rfl, rfl, _, _, rfl, rfl, .inl ⟨by omega, by omega⟩, _, _, rfl, rfl, (by decide : (0 : Int) < 2147483563), q _⟩
def spSrc : Sp := fun vs H Q _ => ∃ c : Int, vs = [.int c] ∧ ∀ p, H p = none → Q (.ref p) (upd H p (.lst [.int c, .int c, .int 0]))
theorem scLSrc : FnScope ["_law_cell"] ["_law_cell"] (defScope sLSrc) := ⟨rfl, rfl, rfl, by decide +kernel, rfl, by decide +kernel, by decide +kernel⟩
theorem cal_src (F : Fun K "_law_source" "_law_source" sLSrc f fd) (g : mg "_law_source" = some (.ref f)) : Cal P w K mg base "_law_source" 1 spSrc := by
  refine cal_mk F g scLSrc (fun _ _ _ _ _ _ us hl => match us, hl with | [_], _ => rfl) (fun vs H Q E ⟨c, e, _⟩ => by rw [e]; rfl) fun cdv A outer s H vs Q E hr ⟨c, e, q⟩ => ?_
  subst e
  refine ⟨_, pss_one (ps_ret (pe_lst (pa_cons (pv 0) (pa_cons (pv 0) (pa_cons pe_int pa_nil))))), ?_⟩
  exact ⟨_, rfl, _, rfl, (by show 3 ≤ sizeLine; decide), fun p np => q p np⟩
def spNext : Sp := fun vs H Q _ => ∃ (p : Addr) (m a b c : Int), vs = [.ref p, .int m] ∧ 0 < m ∧ m < 1000000 ∧ H p = some (.lst [.int a, .int b, .int c]) ∧ ∀ r a' b' c' : Int, 0 ≤ r → r < m → Q (.int r) (upd H p (.lst [.int a', .int b', .int c']))
theorem scLNext : FnScope ["_law_source_here", "_law_many", "_law_found"] ["_law_source_here", "_law_many"] (defScope sLNext) := ⟨rfl, rfl, rfl, by decide +kernel, rfl, by decide +kernel, by decide +kernel⟩
theorem cal_next (F : Fun K "_law_next" "_law_next" sLNext f fd) (g : mg "_law_next" = some (.ref f)) (cM : Cal P w K mg base "_law_mixed" 1 spMixA) : Cal P w K mg base "_law_next" 2 spNext := by
  refine cal_mk F g scLNext (fun _ _ _ _ _ _ us hl => match us, hl with | [_, _], _ => rfl) (fun vs H Q E ⟨p, m, a, b, c, e, _⟩ => by rw [e]; rfl) fun cdv A outer s H vs Q E hr ⟨p, m, a, b, c, e, hm0, hm1, hp, q⟩ => ?_
  subst e
  refine ⟨_, pss_cons (ps_if (pt_cmpR op_ge (pe_ix ix_list (pv 0) pe_int (fun _ _ => rfl)) (pe_op op_pow pe_int pe_int) (nomark _))
      (pss_cons (ps_set (i := 2) scLNext.nd rfl (.inl rfl) (pe_op op_mod (pe_ix ix_list (pv 0) pe_int (fun _ _ => rfl)) (pv 1)))
      (pss_cons (ps_asg (pe_op op_fdivW (pe_ix ix_list (pv 0) pe_int (fun _ _ => rfl)) (pv 1)) (pg_sub (pv 0) pe_int set_list))
      (pss_one (ps_ret (pv 2))))) pss_nil)
    (pss_cons (ps_asg (pe_op op_add (pe_ix ix_list (pv 0) pe_int (fun _ _ => rfl)) pe_int) (pg_sub (pv 0) pe_int set_list))
    (pss_one (ps_ret (pe_op op_mod (pe_cal cM hr (by rfl) (pa_cons (pe_ix ix_list (pv 0) pe_int (fun _ _ => rfl)) (pa_cons (pe_ix ix_list (pv 0) pe_int (fun _ _ => rfl)) pa_nil))) (pv 1))))), ?_⟩
  have ix : ∀ {H' : Hp} {xs : List V} {i : Nat} {v : V}, H' p = some (.lst xs) → xs[i]? = some v → ∃ (p' : Addr) (xs : List V) (i' : Int) (v' : V), V.ref p = .ref p' ∧ V.int (i : Nat) = .int i' ∧ SqL K H' p' xs ∧ atI xs i' = some v' ∧ v' = v := fun {H' xs i v} h1 h2 => ⟨p, xs, i, v, rfl, rfl, SqL.of h1, atI_nat h2, rfl⟩
  refine ⟨_, rfl, p, _, 0, .int a, rfl, rfl, SqL.of hp, rfl, _, _, rfl, rfl, ⟨by decide, by decide, by decide⟩, _, _, rfl, rfl, ?_⟩
  have mod : ∀ n : Int, 0 ≤ n % m ∧ n % m < m := fun n => ⟨Int.emod_nonneg _ (by omega), Int.emod_lt_of_pos _ hm0⟩
  have dv : CDivW a m := wide_div (b := 32) hm0 (show m.natAbs < 2 ^ 32 by omega) (by decide) (by decide)
  refine ⟨_, rfl, ?_⟩
  by_cases hb : decide ((10 : Int) ^ (18 : Int).toNat ≤ a) = true
  · rw [hb]
    refine iteT ?_
    refine ⟨_, rfl, p, _, 0, .int a, rfl, rfl, SqL.of hp, rfl, _, rfl, _, _, rfl, rfl, hm0, ?_⟩
    refine ⟨_, rfl, p, _, 0, .int a, rfl, rfl, SqL.of hp, rfl, _, rfl, _, _, rfl, rfl, dv, ?_⟩
    refine ⟨_, rfl, p, _, 0, 0, rfl, rfl, hp, rfl, ?_⟩
    exact ⟨_, rfl, q _ _ _ _ (mod a).1 (mod a).2⟩
  · have hb : decide ((10 : Int) ^ (18 : Int).toNat ≤ a) = false := by simpa using hb
    rw [hb]
    refine iteF ?_
    refine ⟨_, rfl, p, _, 2, .int c, rfl, rfl, SqL.of hp, rfl, _, _, rfl, rfl, ?_⟩
    refine ⟨_, rfl, p, _, 2, 2, rfl, rfl, hp, rfl, ?_⟩
    refine ⟨_, rfl, p, _, 1, .int b, rfl, rfl, SqL.of upd_same, rfl, _, rfl, p, _, 2, .int (c + 1), rfl, rfl, SqL.of upd_same, rfl, b, c + 1, rfl, fun n => ?_⟩
    exact ⟨_, rfl, _, _, rfl, rfl, hm0, q _ _ _ _ (mod n).1 (mod n).2⟩
end
end CW
namespace CW
open PySem PySem.Spec PyProof.Rows L2
open Evl (Ex Ex.refl Ex.trans Ex.new Ex.mut fresh_back)
/-! ### dicts whose keys are whole numbers, every value True -/
def DB (ks : List Int) : List (Key × V) := ks.map fun k => (Sum.inl k, V.bl true)
def addK (ks : List Int) (k : Int) : List Int := if k ∈ ks then ks else ks ++ [k]
theorem putK_DB (ks : List Int) (k : Int) : putK (DB ks) (Sum.inl k) (V.bl true) = DB (addK ks k) := by
  unfold putK addK DB
  have e : ((ks.map fun k => ((Sum.inl k : Key), V.bl true)).any fun kv => decide (kv.1 = Sum.inl k)) = decide (k ∈ ks) := by
    rw [List.any_map, Bool.eq_iff_iff, List.any_eq_true, decide_eq_true_eq]
    constructor
    · rintro ⟨x, hx, h⟩
      have h : (Sum.inl x : Key) = Sum.inl k := of_decide_eq_true h
      cases h
      exact hx
    · intro h
      exact ⟨k, h, decide_eq_true rfl⟩
  rw [e]
  by_cases h : k ∈ ks
  · rw [if_pos (decide_eq_true h), if_pos h, List.map_map]
    refine List.map_congr_left fun x _ => ?_
    show (if (Sum.inl x : Key) = Sum.inl k then ((Sum.inl x : Key), V.bl true) else (Sum.inl x, V.bl true)) = _
    split <;> rfl
  · rw [if_neg (by rw [decide_eq_false h]; decide), if_neg h, List.map_append]
    rfl
theorem mergeK_DB : ∀ (more ks : List Int), mergeK (DB ks) (DB more) = DB (more.foldl addK ks)
  | [], ks => rfl
  | k :: more, ks => by
    show mergeK (putK (DB ks) (Sum.inl k) (V.bl true)) (DB more) = _
    rw [putK_DB, mergeK_DB more]
    rfl
theorem mem_addK {ks : List Int} {k z : Int} : z ∈ addK ks k ↔ z ∈ ks ∨ z = k := by
  unfold addK
  split
  · rename_i h
    exact ⟨.inl, fun q => q.elim id fun e => e ▸ h⟩
  · simp
theorem nodup_addK {ks : List Int} {k : Int} (h : ks.Nodup) : (addK ks k).Nodup := by
  unfold addK
  split
  · exact h
  · rename_i q
    refine List.nodup_append.mpr ⟨h, by simp, fun a ha b hb e => ?_⟩
    rw [List.mem_singleton.mp hb] at e
    exact q (e ▸ ha)
theorem len_addK (ks : List Int) (k : Int) : (addK ks k).length ≤ ks.length + 1 := by
  unfold addK
  split
  · omega
  · simp
theorem mem_addAll : ∀ (more ks : List Int) (z : Int), z ∈ more.foldl addK ks ↔ z ∈ ks ∨ z ∈ more
  | [], ks, z => by simp
  | k :: more, ks, z => by
    rw [List.foldl_cons, mem_addAll more, mem_addK, List.mem_cons, or_assoc]
theorem nodup_addAll : ∀ (more ks : List Int), ks.Nodup → (more.foldl addK ks).Nodup
  | [], ks, h => h
  | k :: more, ks, h => nodup_addAll more _ (nodup_addK h)
theorem len_addAll : ∀ (more ks : List Int), (more.foldl addK ks).length ≤ ks.length + more.length
  | [], ks => by simp
  | k :: more, ks => by
    have h1 := len_addAll more (addK ks k)
    have h2 := len_addK ks k
    rw [List.foldl_cons, List.length_cons]
    omega
theorem strict_of : ∀ {l : List Int}, l.Pairwise (· ≤ ·) → l.Nodup → l.Pairwise (· < ·)
  | [], _, _ => .nil
  | x :: l, h, d => by
    obtain ⟨h1, h2⟩ := List.pairwise_cons.mp h
    obtain ⟨d1, d2⟩ := List.nodup_cons.mp d
    refine List.pairwise_cons.mpr ⟨fun y hy => ?_, strict_of h2 d2⟩
    have a := h1 y hy
    have b : x ≠ y := fun z => d1 (z ▸ hy)
    omega
/-! ### d.update(xs) of a list of pairs -/
def rUpdP (K : PySem.W.Frag) : V → List V → Hp → VK → Prop := fun x xs H Q => ∃ (d a : Addr) (ps : List Addr) (acc kvs : List (Key × V)), x = .ref d ∧ xs = [.ref a] ∧ H d = some (.dK acc) ∧ SqL K H a (ps.map V.ref) ∧ Paired (fun p kv => SqT K H p [kV kv.1, kv.2]) ps kvs ∧ acc.length + kvs.length ≤ 10000 ∧ Q .non (upd H d (.dK (mergeK acc kvs)))
section
variable {X : Cx}
theorem pairs_vals {pins : List (Addr × Obj)} {σ : L2.St} {H : Hp} {s : Shared} (I : Inv X pins σ H s) : ∀ {ps : List Addr} {kvs : List (Key × V)}, Paired (fun p kv => SqT X.K H p [kV kv.1, kv.2]) ps kvs →
    ∃ (prs : List (Key × Value)) (vps : List (Value × Value)), KV kvs prs ∧ prs.length = ps.length ∧ vps.length = ps.length ∧ ∀ (j : Nat) (u x : Value), vps[j]? = some (u, x) → ∃ (b : Addr) (k : Key), ps[j]? = some b ∧ prs[j]? = some (k, x) ∧ IsTup s.heap b #[u, x] ∧ keyIs k u = true
  | _, _, .nil => ⟨[], [], .nil, rfl, rfl, fun j u x e => by simp at e⟩
  | _, _, .cons (a := p) (b := kv) h t => by
    obtain ⟨prs, vps, r, hl, hl2, hp⟩ := pairs_vals I t
    obtain ⟨its, rv, ht, _⟩ := I.tuple h
    obtain ⟨u, y, rfl, ru, ry⟩ := vals2 rv
    refine ⟨(kv.1, y) :: prs, (u, y) :: vps, .cons ⟨rfl, ry⟩ r, by rw [List.length_cons, List.length_cons, hl], by rw [List.length_cons, List.length_cons, hl2], fun j u' x e => ?_⟩
    cases j with
    | zero =>
      cases Option.some.inj e
      exact ⟨p, kv.1, rfl, rfl, ht, kV_is (P := X.prog) (w := X.w) ru⟩
    | succ j =>
      obtain ⟨b, k, e1, e2, e3⟩ := hp j u' x (by simpa using e)
      exact ⟨b, k, by simpa using e1, by simpa using e2, e3⟩
theorem mt_updP (hc : X.calm = true) : MtR X "dict.update" (rUpdP X.K) := by
  intro pins s σ H x xs v us Q I rx rxs h
  obtain ⟨d, a, ps, acc, kvs, rfl, rfl, hd, ha, hp, hz, q⟩ := h
  cases rx
  cases rxs with
  | cons ra rt =>
    cases rt
    cases ra
    obtain ⟨its, rv, pl, hlz⟩ := I.list ha
    have hits := refs_at rv
    obtain ⟨prs, vps, rk, hl1, hl2, hpr⟩ := pairs_vals I hp
    obtain ⟨hz1, hs1, vs, racc, hdo⟩ := I.hok d _ hd
    have lk := Paired.length hp
    have lacc : acc.length = vs.length := Paired.length racc
    obtain ⟨od, es, ep, hod, hxd, hdd, _⟩ := id hdo
    have hlen : its.toArray.size = vps.length := by rw [List.size_toArray, hits, List.length_map, hl2]
    have items : PairItems s.heap its.toArray (fun j => (ps[j]?).getD 0) vps := ⟨hlen, fun j k v hj => by
      obtain ⟨b, kk, e1, e2, e3, e4⟩ := hpr j k v hj
      refine ⟨?_, .inl ?_⟩
      · rw [hits]
        simp [e1]
      · show s.heap.IsTuple ((ps[j]?).getD 0) #[k, v]
        rw [e1]
        exact e3⟩
    have ok : PlainSeq "list" s.heap a its.toArray ∧ PairItems s.heap its.toArray (fun j => (ps[j]?).getD 0) vps := by
      obtain ⟨o, n, ho, h1, h2, h3⟩ := pl
      exact ⟨⟨o, n, ho, h1, h2, h3⟩, items⟩
    refine call_update_pairs (knd := mixKind X.prog X.w) (acc := vs) (kvs := prs) (PairArg.list a its.toArray (fun j => (ps[j]?).getD 0) vps) (I.ok.hd hc) ok (fun hm => ?_) ⟨by rw [hl1, hl2], fun i key v hi => ?_⟩ hdo (by have e1 := lacc; have e2 := hl2; have e3 := lk; exact sz100 (by omega)) fun h' tk hd' hk => ?_
    · rcases List.mem_cons.mp hm with e | e
      · obtain ⟨o, n, ho, h1, h2, h3⟩ := pl
        rw [← e, hod] at ho
        cases ho
        rw [hdd] at h3
        cases h3
      · obtain ⟨j, hj, e⟩ := List.mem_map.mp e
        have hj : j < vps.length := List.mem_range.mp hj
        obtain ⟨b, kk, e1, e2, ⟨o, ho, h1, n, h2⟩, e4⟩ := hpr j vps[j].1 vps[j].2 (by rw [List.getElem?_eq_getElem hj])
        have e : (ps[j]?).getD 0 = d := e
        rw [e1] at e
        have e : b = d := e
        rw [e, hod] at ho
        cases ho
        rw [hdd] at h2
        cases h2
    · obtain ⟨b, kk, e1, e2, e3, e4⟩ := hpr i key v hi
      exact ⟨kk, e2, e4⟩
    · have hlm : (mergeK acc kvs).length ≤ sizeLine := Nat.le_trans (length_mergeK kvs acc) (sz100 (by omega))
      have J := I.write (x := d) (e := d) (t' := tk) (h' := h') (o := .dK (mergeK acc kvs)) (by rw [hd]; trivial) (.inl rfl) (fun b u hb e => hk b u hb (by simp) e) (let ⟨o, _, _, ho, _⟩ := hd'; ⟨o, ho⟩) ⟨hlm, hs1, merged vs prs, KV.merge rk racc, hd'⟩
      exact ⟨.non, _, J, rfl, q⟩
end
end CW
namespace CB
theorem spans_zip : ∀ (cs : List Int), cs ≠ [] → spans cs = cs.zip ((cs.drop 1).map (fun c => some (c - 1)) ++ [none])
  | [], h => absurd rfl h
  | [c], _ => rfl
  | c :: d :: r, _ => by
    have ih := spans_zip (d :: r) (by simp)
    show (c, some (d - 1)) :: spans (d :: r) = _
    rw [ih]
    rfl
theorem lawCuts_ne (E : List Run) : lawCuts E ≠ [] := fun h => by
  have : (1 : Int) ∈ lawCuts E := (mem_sortU _ _).mpr List.mem_cons_self
  rw [h] at this
  cases this
theorem lawCuts_len (E : List Run) : (lawCuts E).length ≤ 1 + 2 * E.length := by
  have h1 := sortU_length (1 :: cutsOf E)
  have h2 := cuts_length E
  rw [List.length_cons] at h1
  show (sortU (1 :: cutsOf E)).length ≤ _
  omega
/-- whether a number is at most an end -/
def leEnd (n : Int) : Option Int → Bool
  | none => true
  | some b => decide (n ≤ b)
theorem inRb_le (a n : Int) (o : Option Int) : inRb (a, o) n = (decide (a ≤ n) && leEnd n o) := by
  unfold inRb leEnd
  cases o <;> rfl
end CB
namespace CW
open PySem PySem.Spec PyProof.Rows L2
open Evl (Ex Ex.refl Ex.trans Ex.new Ex.mut fresh_back)
/-- a block as the law tells it -/
def oBT : Obs CB.Blk := fun H v b => ∃ p, v = .ref p ∧ H p = some (.tup [.int b.top, .int b.left, oV b.bottom, oV b.right])
theorem mono_bt : Mono oBT := fun H H' v b e ⟨p, h1, h2⟩ => ⟨p, h1, e _ _ h2⟩
section
variable {K : PySem.W.Frag} {σ : L2.St} {F A : Hp} {C CA : Addr} {ta tb te : TE} {t : TA} {D : Ends}
theorem gv_bt {b : CB.Blk} {t1 t2 t3 t4 : TE} (h1 : Gv (t1 σ) F (fun v _ => v = .int b.top)) (h2 : ∀ F', Ex F F' → Gv (t2 σ) F' (fun v _ => v = .int b.left)) (h3 : ∀ F', Ex F F' → Gv (t3 σ) F' (fun v _ => v = oV b.bottom)) (h4 : ∀ F', Ex F F' → Gv (t4 σ) F' (fun v _ => v = oV b.right)) :
    Gv (tTup (tCons t1 (tCons t2 (tCons t3 (tCons t4 tNil)))) σ) F (fun v F' => oBT F' v b) :=
  gv_tup (PA := fun vs _ => vs = [.int b.top, .int b.left, oV b.bottom, oV b.right]) (ga_cons h1 fun v1 F1 e1 q1 => ga_cons (h2 F1 e1) fun v2 F2 e2 q2 => ga_cons (h3 F2 (e1.trans e2)) fun v3 F3 e3 q3 => ga_cons (h4 F3 ((e1.trans e2).trans e3)) fun v4 F4 e4 q4 => ga_nil (by rw [q1, q2, q3, q4]))
    (fun vs F' h => by rw [h]; show 4 ≤ 1000; decide) fun vs F' p _ h hp => by subst h; exact ⟨p, rfl, upd_same⟩
theorem items_zip {α β : Type} {Pa : Obs α} {Pb : Obs β} {G : Hp} : ∀ {ts : List Addr} {as bs : List V} {xs : List α} {ys : List β}, Paired (fun (t : Addr) (y : V × V) => G t = some (.tup [y.1, y.2])) ts (as.zip bs) → Items Pa G as xs → Items Pb G bs ys → Items (oTup2 Pa Pb) G (ts.map V.ref) (xs.zip ys)
  | _, [], _, [], _, h, _, _ => by cases h; trivial
  | _, _ :: _, [], _ :: _, [], h, _, _ => by cases h; trivial
  | _, x :: _, y :: _, _ :: _, _ :: _, .cons h1 h2, ia, ib => ⟨⟨_, x, y, rfl, h1, ia.1, ib.1⟩, items_zip h2 ia.2 ib.2⟩
  | _, [], _, _ :: _, _, _, ia, _ => ia.elim
  | _, _ :: _, _, [], _, _, ia, _ => ia.elim
  | _, _ :: _, [], _ :: _, _ :: _, _, _, ib => ib.elim
  | _, _ :: _, _ :: _, _ :: _, [], _, _, ib => ib.elim
theorem gv_listZip {α β : Type} {Pa : Obs α} {Pb : Obs β} (hA : Mono Pa) (hB : Mono Pb) {xs : List α} {ys : List β} (hl : ys.length = xs.length) (h : Gv (t σ) F (fun vs F' => ∃ v w, vs = [v, w] ∧ oLst Pa F' v xs ∧ oLst Pb F' w ys)) :
    Gv (tListZip K t σ) F (fun v F' => oLst (oTup2 Pa Pb) F' v (xs.zip ys)) := fun H1 e Q q => h H1 e _ fun vs F' H2 u ⟨v, w, hvs, ⟨a, as, hv, ha, ia⟩, ⟨b, bs, hw, hb, ib⟩⟩ => by
  subst hvs hv hw
  have la := ia.length
  have lb := ib.length
  refine ⟨a, b, as, bs, rfl, SqL.of (u.c _ _ ha), SqL.of (u.c _ _ hb), by omega, fun p ts np nts hp nd hlt => ?_⟩
  have u1 := Up.new (o := .lst (ts.map V.ref)) u.c np
  have nts' : ∀ t ∈ ts, upd H2 p (.lst (ts.map V.ref)) t = none := fun t ht => by rw [upd_ne (show t ≠ p from fun z => hp (by rw [← z]; exact ht))]; exact nts t ht
  have u2 := up_layV ts (as.zip bs) u1.c nts' nd
  refine q _ _ _ ((u.trans u1).trans u2) ⟨p, ts.map V.ref, rfl, ?_, ?_⟩
  · rw [layV_off ts _ _ hp, upd_same]
  · have at' := layV_at ts (as.zip bs) (upd F' p (.lst (ts.map V.ref))) (by rw [List.length_zip]; omega) nd
    have eF : Ex F' (layV (upd F' p (.lst (ts.map V.ref))) ts (as.zip bs)) := u1.a.trans u2.a
    revert at' eF
    generalize layV (upd F' p (.lst (ts.map V.ref))) ts (as.zip bs) = G
    intro at' eF
    exact items_zip at' (ia.mono hA eF) (ib.mono hB eF)
end
end CW
namespace CW
open PySem PySem.Spec PyProof.Rows L2
open Evl (Ex Ex.refl Ex.trans Ex.new Ex.mut fresh_back)
theorem cut_one {α : Type} (xs : List α) : (xs.drop (HT.sIx xs.length 0 (some 1))).take (HT.sIx xs.length xs.length none - HT.sIx xs.length 0 (some 1)) = xs.drop 1 := by
  rw [HT.sIx_none]
  have e : HT.sIx xs.length 0 (some 1) = min 1 xs.length := by
    show (if (1 : Int) < 0 then ((1 : Int) + (xs.length : Int)).toNat else min (1 : Int).toNat xs.length) = _
    rw [if_neg (by decide)]; rfl
  rw [e]
  cases xs with
  | nil => rfl
  | cons x xs =>
    rw [List.length_cons, show min 1 (xs.length + 1) = 1 by omega]
    show xs.take _ = xs
    exact List.take_of_length_le (by omega)
section
variable {P : Program} {w : World} {K : PySem.W.Frag} {mg : Str → Option Value} {base : Heap} {f C CA fE : Addr} {fd : FuncData}
/-! ### _law_made, _law_tuples -/
def spLMade (C : Addr) : Sp := SpO (preLst oBT fun L => L.length ≤ 10000 ∧ ∀ b ∈ L, CB.BOk b) (fun L v H => oLst (oBlk C) H v L)
theorem scLMade : FnScope ["_law_blocks", "_law_top", "_law_left", "_law_bottom", "_law_right"] ["_law_blocks"] (defScope sLMade) := ⟨rfl, rfl, rfl, by decide +kernel, rfl, by decide +kernel, by decide +kernel⟩
theorem cal_lmade (F : Fun K "_law_made" "_law_made" sLMade f fd) (g : mg "_law_made" = some (.ref f)) (cB : C8.Mak P w K mg base 4 "Block" C (spBInit C) []) : Cal P w K mg base "_law_made" 6 (spLMade C) := by
  refine cal_mk F g scLMade (fun _ _ _ _ _ _ us hl => match us, hl with | [_], _ => rfl) (fun vs H Q E ⟨x, H0, _, ⟨v, e, _⟩, _⟩ => by rw [e]; rfl) fun cdv A outer s H vs Q E hr ⟨L, H0, hx, ⟨v, e, hv, hz, hok⟩, q⟩ => ?_
  subst e
  have hv : oLst oBT H0 v L := hv
  refine ⟨_, pss_one (ps_ret (pe_lc (g := g4 K 1 2 3 4) (tt := tYes) (te := tMake C (spBInit C) [] E0 (tCons (tVar 1) (tCons (tVar 2) (tCons (tVar 3) (tCons (tVar 4) tNil))))) (own := [("_law_top", 1), ("_law_left", 2), ("_law_bottom", 3), ("_law_right", 4)]) (by rfl) scLMade.nd (pi_list (pv 0)) (blkOk_by (N := ["_law_blocks", "_law_top", "_law_left", "_law_bottom", "_law_right"]) (sc := defScope sLMade) (by decide +kernel))
      (fun _ _ _ _ _ => pg_tup rfl (pgs_cons (pg_name (i := 1) scLMade.nd rfl (Or.inl rfl) (Or.inr rfl)) (pgs_cons (pg_name (i := 2) scLMade.nd rfl (Or.inl rfl) (Or.inr rfl)) (pgs_cons (pg_name (i := 3) scLMade.nd rfl (Or.inl rfl) (Or.inr rfl)) (pgs_cons (pg_name (i := 4) scLMade.nd rfl (Or.inl rfl) (Or.inr rfl)) pgs_nil))))) (fun _ _ _ _ _ => pts_nil)
      (fun _ _ _ _ _ => C8.pe_mk cB hr (by decide) (by rfl) (pa_cons (pv 1) (pa_cons (pv 2) (pa_cons (pv 3) (pa_cons (pv 4) pa_nil))))))), ?_⟩
  have comp : Gv (tLc (iList K (tVar 0)) (g4 K 1 2 3 4) tYes (tMake C (spBInit C) [] E0 (tCons (tVar 1) (tCons (tVar 2) (tCons (tVar 3) (tCons (tVar 4) tNil))))) [1, 2, 3, 4] (start ["_law_blocks", "_law_top", "_law_left", "_law_bottom", "_law_right"] [v])) H0 (fun v H' => oLst (oBlk C) H' v (L.map id)) := by
    rw [← map_fm]
    refine gv_lc mono_bt (mono_blk C) (fun b => some (id b)) (by omega) (gv_var (i := 0) rfl hv) fun y b F3 A3 eF e3 hb hy => ?_
    obtain ⟨p, rfl, hp⟩ := hy
    refine ⟨_, fun Q hQ => g_four (e3 _ _ hp) hQ, rfl, gt_yes, fun z hz F4 e4 => ?_⟩
    cases hz
    exact gv_make (PA := fun vs _ => vs = [.int b.top, .int b.left, oV b.bottom, oV b.right]) (ga_cons (gv_var (P := fun v _ => v = .int b.top) rfl rfl) fun v1 F1 e1 q1 => ga_cons (gv_var (P := fun v _ => v = .int b.left) rfl rfl) fun v2 F2 e2 q2 => ga_cons (gv_var (P := fun v _ => v = oV b.bottom) rfl rfl) fun v3 F3 e3 q3 => ga_cons (gv_var (P := fun v _ => v = oV b.right) rfl rfl) fun v4 F4 e4 q4 => ga_nil (by rw [q1, q2, q3, q4])) (fun vs F' _ h => h) (hok b hb)
  rw [List.map_id] at comp
  exact st_ret hx comp fun v F' A' u p => q v F' A' u p
def spLTup (C : Addr) : Sp := SpO (preLst (oBlk C) fun L => L.length ≤ 10000) (fun L v H => oLst oBT H v L)
theorem scLTup : FnScope ["_law_blocks", "_law_block"] ["_law_blocks"] (defScope sLTup) := ⟨rfl, rfl, rfl, by decide +kernel, rfl, by decide +kernel, by decide +kernel⟩
theorem cal_ltup (F : Fun K "_law_tuples" "_law_tuples" sLTup f fd) (g : mg "_law_tuples" = some (.ref f)) (T : BTxt K C) : Cal P w K mg base "_law_tuples" 1 (spLTup C) := by
  refine cal_mk F g scLTup (fun _ _ _ _ _ _ us hl => match us, hl with | [_], _ => rfl) (fun vs H Q E ⟨x, H0, _, ⟨v, e, _⟩, _⟩ => by rw [e]; rfl) fun cdv A outer s H vs Q E hr ⟨L, H0, hx, ⟨v, e, hv, hz⟩, q⟩ => ?_
  subst e
  have hz : L.length ≤ 10000 := hz
  have hv : oLst (oBlk C) H0 v L := hv
  refine ⟨_, pss_one (ps_ret (pe_lc (g := gName 1) (tt := tYes) (te := tTup (tCons (tFld K (tVar 1) "top") (tCons (tFld K (tVar 1) "left") (tCons (tFld K (tVar 1) "bottom") (tCons (tFld K (tVar 1) "right") tNil))))) (own := [("_law_block", 1)]) (by rfl) scLTup.nd (pi_list (pv 0)) (blkOk_by (N := ["_law_blocks", "_law_block"]) (sc := defScope sLTup) (by decide +kernel))
      (fun _ _ _ _ _ => pg_name (i := 1) scLTup.nd rfl (Or.inl rfl)) (fun _ _ _ _ _ => pts_nil) (fun _ _ _ _ _ => pe_tup (pa_cons (pe_fld (pv 1) rfl) (pa_cons (pe_fld (pv 1) rfl) (pa_cons (pe_fld (pv 1) rfl) (pa_cons (pe_fld (pv 1) rfl) pa_nil))))))), ?_⟩
  have comp : Gv (tLc (iList K (tVar 0)) (gName 1) tYes (tTup (tCons (tFld K (tVar 1) "top") (tCons (tFld K (tVar 1) "left") (tCons (tFld K (tVar 1) "bottom") (tCons (tFld K (tVar 1) "right") tNil))))) [1] (start ["_law_blocks", "_law_block"] [v])) H0 (fun v H' => oLst oBT H' v (L.map id)) := by
    rw [← map_fm]
    refine gv_lc (mono_blk C) mono_bt (fun b => some (id b)) (by omega) (gv_var (i := 0) rfl hv) fun y b F3 A3 eF e3 hb hy => ?_
    refine ⟨_, fun Q hQ => hQ, rfl, gt_yes, fun z hz F4 e4 => ?_⟩
    cases hz
    have var : ∀ {F' : Hp}, Ex F4 F' → Gv (tVar 1 ((wipe (start ["_law_blocks", "_law_block"] [v]) [1]).set 1 (some y))) F' (fun v F' => oBlk C F' v b) := fun {F'} e => gv_var rfl (mono_blk C _ _ _ _ (e4.trans e) hy)
    exact gv_bt (gv_fld (P := fun v _ => v = .int b.top) T.cl T.nT (bF_top b) (var (Ex.refl _)) (fun _ _ => rfl)) (fun F' e => gv_fld (P := fun v _ => v = .int b.left) T.cl T.nL (bF_left b) (var e) (fun _ _ => rfl)) (fun F' e => gv_fld (P := fun v _ => v = oV b.bottom) T.cl T.nB (bF_bottom b) (var e) (fun _ _ => rfl)) (fun F' e => gv_fld (P := fun v _ => v = oV b.right) T.cl T.nR (bF_right b) (var e) (fun _ _ => rfl))
  rw [List.map_id] at comp
  exact st_ret hx comp fun v F' A' u p => q v F' A' u p
/-! ### _law_spans -/
def spLSpans : Sp := SpO (preLst oInt fun cs => cs ≠ [] ∧ cs.length ≤ 1000) (fun cs v H => oLst oRun H v (CB.spans cs))
theorem scLSpans : FnScope ["_law_cuts_here", "_law_cut"] ["_law_cuts_here"] (defScope sLSpans) := ⟨rfl, rfl, rfl, by decide +kernel, rfl, by decide +kernel, by decide +kernel⟩
theorem cal_lspans (F : Fun K "_law_spans" "_law_spans" sLSpans f fd) (g : mg "_law_spans" = some (.ref f)) (m1 : mg "list" = none) (m2 : mg "zip" = none) : Cal P w K mg base "_law_spans" 1 spLSpans := by
  refine cal_mk F g scLSpans (fun _ _ _ _ _ _ us hl => match us, hl with | [_], _ => rfl) (fun vs H Q E ⟨x, H0, _, ⟨v, e, _⟩, _⟩ => by rw [e]; rfl) fun cdv A outer s H vs Q E hr ⟨cs, H0, hx, ⟨v, e, hv, hne, hz⟩, q⟩ => ?_
  subst e
  have hv : oLst oInt H0 v cs := hv
  refine ⟨_, pss_one (ps_ret (pe_listZip rfl (by rfl) m1 (by rfl) m2 (pa_cons (pv 0) (pa_cons (pe_op op_cat
    (pe_lc (g := gName 1) (tt := tYes) (te := tOp (rI0 fun i j => .int (i - j)) (tVar 1) (tC (.int 1))) (own := [("_law_cut", 1)]) (by rfl) scLSpans.nd (pi_list (pe_slice sl_list (pv 0) (po_some pe_int) po_none)) (blkOk_by (N := ["_law_cuts_here", "_law_cut"]) (sc := defScope sLSpans) (by decide +kernel))
      (fun _ _ _ _ _ => pg_name (i := 1) scLSpans.nd rfl (Or.inl rfl)) (fun _ _ _ _ _ => pts_nil) (fun _ _ _ _ _ => pe_op op_sub (pv 1) pe_int))
    (pe_lst (pa_cons pe_non pa_nil))) pa_nil)))), ?_⟩
  have comp : ∀ {F1 : Hp}, Ex H0 F1 → Gv (tLc (iList K (tSl (rSlL K) (tVar 0) (tPart (tC (.int 1))) tNoPart)) (gName 1) tYes (tOp (rI0 fun i j => .int (i - j)) (tVar 1) (tC (.int 1))) [1] (start ["_law_cuts_here", "_law_cut"] [v])) F1 (fun v H' => oLst oOpt H' v ((cs.drop 1).map fun c => some (c - 1))) := fun {F1} e1 => by
    rw [← map_fm]
    have hsl := gv_slL (K := K) mono_int (lo := some 1) (hi := none) (xs := cs) (te := tVar 0) (tl := tPart (tC (.int 1))) (th := tNoPart) (σ := start ["_law_cuts_here", "_law_cut"] [v]) (H := F1) (gv_var (i := 0) rfl (mono_lst mono_int _ _ _ _ e1 hv)) (fun _ _ => go_some (gv_c rfl)) (fun _ _ => go_none)
    rw [cut_one] at hsl
    refine gv_lc mono_int mono_opt (fun c => some (some (c - 1))) (by rw [List.length_drop]; omega) hsl fun y c F3 A3 eF e3 hb hy => ?_
    have hy : y = .int c := hy
    subst hy
    refine ⟨_, fun Q hQ => hQ, rfl, gt_yes, fun z hz F4 e4 => ?_⟩
    cases hz
    exact gv_opI (gv_var (P := fun v _ => v = .int c) rfl rfl) (fun _ _ => gv_c rfl) fun _ _ => rfl
  have second : ∀ {F1 : Hp}, Ex H0 F1 → Gv (tOp rCat (tLc (iList K (tSl (rSlL K) (tVar 0) (tPart (tC (.int 1))) tNoPart)) (gName 1) tYes (tOp (rI0 fun i j => .int (i - j)) (tVar 1) (tC (.int 1))) [1]) (tLst (tCons (tC .non) tNil)) (start ["_law_cuts_here", "_law_cut"] [v])) F1 (fun v H' => oLst oOpt H' v ((cs.drop 1).map (fun c => some (c - 1)) ++ [none])) := fun {F1} e1 =>
    gv_catE mono_opt (comp e1) (fun F2 e2 => gv_single mono_opt (gv_c rfl)) (by rw [List.length_map, List.length_drop, List.length_singleton]; omega)
  refine st_ret hx (gv_listZip (K := K) mono_int mono_opt (xs := cs) (ys := (cs.drop 1).map (fun c => some (c - 1)) ++ [none]) ?_ (ga_cons (gv_var (i := 0) rfl hv) fun a F1 e1 h1 => ga_cons (second e1) fun b F2 e2 h2 => ga_nil ⟨a, b, rfl, mono_lst mono_int _ _ _ _ e2 h1, h2⟩)) fun v F' A' u p => q v F' A' u ?_
  · rw [List.length_append, List.length_map, List.length_drop, List.length_singleton]
    have : 0 < cs.length := List.length_pos_iff.mpr hne
    omega
  · show oLst oRun F' v (CB.spans cs)
    rw [CB.spans_zip cs hne]
    exact p
end
end CW
namespace CW
open PySem PySem.Spec PyProof.Rows L2
open Evl (Ex Ex.refl Ex.trans Ex.new Ex.mut fresh_back)
/-- a key and True -/
def oKT : Obs Int := fun H v k => ∃ p, v = .ref p ∧ H p = some (.tup [.int k, .bl true])
theorem mono_kt : Mono oKT := fun H H' v b e ⟨p, h1, h2⟩ => ⟨p, h1, e _ _ h2⟩
theorem kt_pairs {K : PySem.W.Frag} {H : Hp} : ∀ {vs : List V} {ks : List Int}, Items oKT H vs ks → ∃ ps : List Addr, vs = ps.map V.ref ∧ Paired (fun p (kv : Key × V) => SqT K H p [kV kv.1, kv.2]) ps (DB ks)
  | [], [], _ => ⟨[], rfl, .nil⟩
  | _ :: _, _ :: _, ⟨⟨p, rfl, hp⟩, t⟩ => let ⟨ps, e, h⟩ := kt_pairs t; ⟨p :: ps, by rw [e]; rfl, .cons (SqT.of hp) h⟩
  | [], _ :: _, h => h.elim
  | _ :: _, [], h => h.elim
section
variable {P : Program} {w : World} {K : PySem.W.Frag} {mg : Str → Option Value} {base : Heap} {f C CA fE : Addr} {fd : FuncData}
def spLCuts : Sp := SpO (preLst oRun fun es => es.length ≤ 31) (fun es v H => oLst oInt H v (CB.lawCuts es))
theorem scLCuts : FnScope ["_law_ends", "_law_some", "_law_first", "_law_last"] ["_law_ends"] (defScope sLCuts) := ⟨rfl, rfl, rfl, by decide +kernel, rfl, by decide +kernel, by decide +kernel⟩
theorem cal_lcuts (F : Fun K "_law_cuts" "_law_cuts" sLCuts f fd) (g : mg "_law_cuts" = some (.ref f)) (m1 : mg "dict" = none) (m2 : mg "sorted" = none) : Cal P w K mg base "_law_cuts" 1 spLCuts := by
  refine cal_mk F g scLCuts (fun _ _ _ _ _ _ us hl => match us, hl with | [_], _ => rfl) (fun vs H Q E ⟨x, H0, _, ⟨v, e, _⟩, _⟩ => by rw [e]; rfl) fun cdv A outer s H vs Q E hr ⟨es, H0, hx, ⟨v, e, hv, hz⟩, q⟩ => ?_
  subst e
  have hv : oLst oRun H0 v es := hv
  have hz : es.length ≤ 31 := hz
  refine ⟨_, pss_cons (ps_set (i := 1) scLCuts.nd rfl (.inl rfl) (pe_callTy (call_dictP rfl) (by rfl) m1 (by decide +kernel) (pa_cons
      (pe_lc (g := g2 K 2 3) (tt := tYes) (te := tTup (tCons (tVar 2) (tCons (tC (.bl true)) tNil))) (own := [("_law_first", 2), ("_law_last", 3)]) (by rfl) scLCuts.nd (pi_list (pv 0)) (blkOk_by (N := ["_law_ends", "_law_some", "_law_first", "_law_last"]) (sc := defScope sLCuts) (by decide +kernel))
        (fun _ _ _ _ _ => pg_tup rfl (pgs_cons (pg_name (i := 2) scLCuts.nd rfl (Or.inl rfl) (Or.inr rfl)) (pgs_cons (pg_name (i := 3) scLCuts.nd rfl (Or.inl rfl) (Or.inr rfl)) pgs_nil))) (fun _ _ _ _ _ => pts_nil) (fun _ _ _ _ _ => pe_tup (pa_cons (pv 2) (pa_cons pe_bl pa_nil)))) pa_nil)))
    (pss_cons (ps_expr (pe_bm PySem.F.plainAttrs_dict PySem.F.slot_dict_update PySem.F.type_dict_update (mt_updP rfl) (pv 1) (pa_cons
      (pe_lc (g := g2 K 2 3) (tt := tB (tNotN (tVar 3))) (te := tTup (tCons (tOp (rI0 fun i j => .int (i + j)) (tVar 3) (tC (.int 1))) (tCons (tC (.bl true)) tNil))) (own := [("_law_first", 2), ("_law_last", 3)]) (by rfl) scLCuts.nd (pi_list (pv 0)) (blkOk_by (N := ["_law_ends", "_law_some", "_law_first", "_law_last"]) (sc := defScope sLCuts) (by decide +kernel))
        (fun _ _ _ _ _ => pg_tup rfl (pgs_cons (pg_name (i := 2) scLCuts.nd rfl (Or.inl rfl) (Or.inr rfl)) (pgs_cons (pg_name (i := 3) scLCuts.nd rfl (Or.inl rfl) (Or.inr rfl)) pgs_nil))) (fun _ _ _ _ _ => pts_one (pt_cmp (pc_notN (pv 3)) rfl)) (fun _ _ _ _ _ => pe_tup (pa_cons (pe_op op_add (pv 3) pe_int) (pa_cons pe_bl pa_nil)))) pa_nil)))
    (pss_cons (ps_asg pe_bl (pg_sub (pv 1) pe_int (set_dict (roomU hr (by decide)))))
    (pss_one (ps_ret (pe_callB (call_sortedDI rfl) (by rfl) m2 (by decide +kernel) (pa_cons (pv 1) pa_nil)))))), ?_⟩
  have hlen : (CB.cutsOf es).length ≤ 62 := by have := CB.cuts_length es; omega
  have hcut : CB.cutsOf es = es.map (·.1) ++ es.filterMap fun e => e.2.map (· + 1) := rfl
  rw [hcut, List.length_append, List.length_map] at hlen
  -- the two lists
  have c1 : Gv (tLc (iList K (tVar 0)) (g2 K 2 3) tYes (tTup (tCons (tVar 2) (tCons (tC (.bl true)) tNil))) [2, 3] (start ["_law_ends", "_law_some", "_law_first", "_law_last"] [v])) H0 (fun v H' => oLst oKT H' v (es.map (·.1))) := by
    rw [← map_fm]
    refine gv_lc mono_run mono_kt (fun e => some e.1) (by omega) (gv_var (i := 0) rfl hv) fun y r F3 A3 eF e3 hb hy => ?_
    obtain ⟨p, a, b, rfl, hp, ha, hb⟩ := hy
    refine ⟨_, fun Q hQ => g_two (e3 _ _ hp) hQ, rfl, gt_yes, fun z hz F4 e4 => ?_⟩
    cases hz
    have ha : a = .int r.1 := ha
    subst ha
    exact gv_tup (PA := fun vs _ => vs = [.int r.1, .bl true]) (ga_cons (gv_var (P := fun v _ => v = .int r.1) rfl rfl) fun v1 F1 e1 q1 => ga_cons (gv_c (P := fun v _ => v = .bl true) rfl) fun v2 F2 e2 q2 => ga_nil (by rw [q1, q2])) (fun vs F' h => by rw [h]; show 2 ≤ 1000; decide) fun vs F' p _ h hp => by subst h; exact ⟨p, rfl, upd_same⟩
  have c2 : ∀ {F1 : Hp} {x : Option V}, Ex H0 F1 → Gv (tLc (iList K (tVar 0)) (g2 K 2 3) (tB (tNotN (tVar 3))) (tTup (tCons (tOp (rI0 fun i j => .int (i + j)) (tVar 3) (tC (.int 1))) (tCons (tC (.bl true)) tNil))) [2, 3] [some v, x, none, none]) F1 (fun v H' => oLst oKT H' v (es.filterMap fun e => e.2.map (· + 1))) := fun {F1 x} e1 => by
    refine gv_lc mono_run mono_kt (fun e : CB.Run => e.2.map (· + 1)) (by omega) (gv_var (i := 0) rfl (mono_lst mono_run _ _ _ _ e1 hv)) fun y r F3 A3 eF e3 hb hy => ?_
    obtain ⟨p, a, b, rfl, hp, ha, hb⟩ := hy
    have hb : b = oV r.2 := hb
    subst hb
    refine ⟨_, fun Q hQ => g_two (e3 _ _ hp) hQ, rfl, gt_is (gt_B (gv_notN (o := r.2) (gv_var rfl rfl))) (by cases r.2 <;> rfl), fun z hz F4 e4 => ?_⟩
    obtain ⟨o, ho, hz⟩ := Option.map_eq_some_iff.mp hz
    subst hz
    exact gv_tup (PA := fun vs _ => vs = [.int (o + 1), .bl true]) (ga_cons (gv_opI (P := fun v _ => v = .int (o + 1)) (gv_var (P := fun v _ => v = .int o) rfl (by rw [ho]; rfl)) (fun _ _ => gv_c rfl) fun _ _ => rfl) fun v1 F1 e1 q1 => ga_cons (gv_c (P := fun v _ => v = .bl true) rfl) fun v2 F2 e2 q2 => ga_nil (by rw [q1, q2])) (fun vs F' h => by rw [h]; show 2 ≤ 1000; decide) fun vs F' p _ h hp => by subst h; exact ⟨p, rfl, upd_same⟩
  delta tSeq tAsg tCB tCons
  refine c1 H hx _ fun l1 F1 A1 u1 hl1 => ?_
  obtain ⟨a1, vs1, rfl, ha1, hi1⟩ := hl1
  obtain ⟨ps1, rfl, hp1⟩ := kt_pairs (K := K) (hi1.mono mono_kt u1.c)
  refine ⟨a1, ps1, _, rfl, SqL.of (u1.c _ _ ha1), hp1, fun d nd => ?_⟩
  rw [show ([] : List (Key × V)) = DB [] from rfl, mergeK_DB]
  have ndF : F1 d = none := none_of_ex u1.c nd
  have ndH : H d = none := none_of_ex u1.b nd
  have u2 : Up H0 H F1 (upd A1 d (.dK (DB ((es.map (·.1)).foldl addK [])))) := u1.touch ndH ndF
  -- update
  refine ⟨.ref d, rfl, .inr (.inr (.inl ⟨rfl, .inl ⟨_, upd_same⟩⟩)), ?_⟩
  refine c2 u2.a _ u2.c _ fun l2 F2 A2 u3 hl2 => ?_
  obtain ⟨a2, vs2, rfl, ha2, hi2⟩ := hl2
  obtain ⟨ps2, rfl, hp2⟩ := kt_pairs (K := K) (hi2.mono mono_kt u3.c)
  have hd2 := u3.b _ _ (upd_same (H := A1) (a := d) (o := .dK (DB ((es.map (·.1)).foldl addK []))))
  have ndF2 : F2 d = none := u3.n d (fun z => by rw [upd_same] at z; cases z) ndF
  have l1 := len_addAll (es.map (·.1)) []
  rw [List.length_map, List.length_nil] at l1
  refine ⟨d, a2, ps2, _, _, rfl, rfl, hd2, SqL.of (u3.c _ _ ha2), hp2, by unfold DB; rw [List.length_map, List.length_map]; omega, ?_⟩
  rw [mergeK_DB]
  have u4 := (u2.trans u3).touch (o := .dK (DB ((es.filterMap fun e => e.2.map (· + 1)).foldl addK ((es.map (·.1)).foldl addK [])))) ndH ndF2
  -- some[1] = True
  have l2 := len_addAll (es.filterMap fun e => e.2.map (· + 1)) ((es.map (·.1)).foldl addK [])
  refine ⟨_, rfl, d, _, rfl, DPut.k (k := Sum.inl 1) upd_same (by unfold DB; rw [List.length_map]; exact szlt (by omega)), ?_⟩
  rw [putK_DB, upd_upd]
  -- sorted
  have l3 := len_addK ((es.filterMap fun e => e.2.map (· + 1)).foldl addK ((es.map (·.1)).foldl addK [])) 1
  refine ⟨_, rfl, d, _, addK ((es.filterMap fun e => e.2.map (· + 1)).foldl addK ((es.map (·.1)).foldl addK [])) 1, rfl, .inl upd_same, by unfold DB; rw [List.map_map]; rfl, by omega, fun ys p hperm hsort np => ?_⟩
  have hnd : ys.Nodup := hperm.nodup_iff.mpr (nodup_addK (nodup_addAll _ _ (nodup_addAll _ _ List.nodup_nil)))
  have e : ys = CB.lawCuts es := CB.sortU_uniq (strict_of hsort hnd) fun z => by
    rw [hperm.mem_iff, mem_addK, mem_addAll, mem_addAll, hcut, List.mem_cons, List.mem_append]
    simp only [List.not_mem_nil, false_or]
    constructor
    · rintro ((h | h) | h)
      · exact .inr (.inl h)
      · exact .inr (.inr h)
      · exact .inl h
    · rintro (h | h | h)
      · exact .inr h
      · exact .inl (.inl h)
      · exact .inl (.inr h)
  subst e
  have u5 : Up H0 H F2 (upd A2 d (.dK (DB (addK ((es.filterMap fun e => e.2.map (· + 1)).foldl addK ((es.map (·.1)).foldl addK [])) 1)))) := (u2.trans u3).touch ndH ndF2
  exact q _ _ _ (u5.trans (Up.new u5.c np)) ⟨p, _, rfl, upd_same, items_ints _⟩
end
end CW
namespace CW
open PySem PySem.Spec PyProof.Rows L2
open Evl (Ex Ex.refl Ex.trans Ex.new Ex.mut fresh_back)
/-! ### a list that grows, no part of what is known -/
structure Grow {α : Type} (Po : Obs α) (p : Addr) (F A : Hp) (xs : List α) : Prop where
  np : F p = none
  ex : ∃ ws, A p = some (.lst ws) ∧ Items Po F ws xs
section
variable {α : Type} {Po : Obs α} {p : Addr} {F A F' A' H0 H : Hp} {xs : List α}
theorem Grow.up (g : Grow Po p F A xs) (hPo : Mono Po) (u : Up F A F' A') : Grow Po p F' A' xs := by
  obtain ⟨np, ws, h, it⟩ := g
  exact ⟨u.n p (fun z => by rw [h] at z; cases z) np, ws, u.b _ _ h, it.mono hPo u.a⟩
theorem Grow.off {q : Addr} {o : HO} (g : Grow Po p F A xs) (h : p ≠ q) : Grow Po p F (upd A q o) xs := by
  obtain ⟨np, ws, hw, it⟩ := g
  exact ⟨np, ws, by rw [upd_ne h]; exact hw, it⟩
theorem Grow.made (np : F p = none) : Grow Po p F (upd A p (.lst [])) [] := ⟨np, [], upd_same, trivial⟩
theorem Grow.ne {β : Type} {Qo : Obs β} {q : Addr} {ys : List β} (g : Grow Po p F A xs) (h : A q = none) : p ≠ q := fun z => by
  obtain ⟨_, ws, hw, _⟩ := g
  rw [z, h] at hw; cases hw
/-- what has grown is known from here on -/
theorem Grow.known (g : Grow Po p F A xs) (hPo : Mono Po) (u : Up H0 H F A) (hp : H p = none) : ∃ F', Up H0 H F' A ∧ Ex F F' ∧ oLst Po F' (.ref p) xs ∧ (∀ q, q ≠ p → F' q = F q) := by
  obtain ⟨np, ws, hw, it⟩ := g
  exact ⟨upd F p (.lst ws), u.known hp np hw, Ex.new np, ⟨p, ws, rfl, upd_same, it.mono hPo (Ex.new np)⟩, fun q h => upd_ne h⟩
/-- it may be read, known for a while -/
theorem Grow.read (g : Grow Po p F A xs) (hPo : Mono Po) (hx : Ex F A) : ∃ ws, A p = some (.lst ws) ∧ Ex (upd F p (.lst ws)) A ∧ Ex F (upd F p (.lst ws)) ∧ oLst Po (upd F p (.lst ws)) (.ref p) xs := by
  obtain ⟨np, ws, hw, it⟩ := g
  exact ⟨ws, hw, Ex.known hx hw, Ex.new np, ⟨p, ws, rfl, upd_same, it.mono hPo (Ex.new np)⟩⟩
/-- all but what stands at p -/
def hide (p : Addr) (H : Hp) : Hp := fun q => if q = p then none else H q
theorem hide_same : hide p F p = none := if_pos rfl
theorem hide_ne {q : Addr} (h : q ≠ p) : hide p F q = F q := if_neg h
theorem hide_ex (h : F p = none) (e : Ex F A) : Ex F (hide p A) := fun b o hb => by
  by_cases z : b = p
  · rw [z, h] at hb; cases hb
  · rw [hide_ne z]; exact e b o hb
theorem ex_hide : Ex (hide p A) A := fun b o hb => by
  by_cases z : b = p
  · rw [z, hide_same] at hb; cases hb
  · rw [hide_ne z] at hb; exact hb
theorem Up.forget {o : HO} (np : F p = none) (u : Up (upd F p o) A F' A') : Up F A (hide p F') A' := by
  refine ⟨hide_ex np ((Ex.new np).trans u.a), u.b, ex_hide.trans u.c, fun q h1 h2 => ?_⟩
  by_cases z : q = p
  · rw [z, hide_same]
  · rw [hide_ne z]
    exact u.n q h1 (by rw [upd_ne z]; exact h2)
end
section
variable {K : PySem.W.Frag} {σ : L2.St} {F A : Hp} {te : TE} {D : Ends} {tz : TS}
theorem st_appG {α : Type} {Po : Obs α} (hPo : Mono Po) {i : Nat} {p : Addr} {xs : List α} {x : α} (hx : Ex F A) (g : Grow Po p F A xs) (hi : σ[i]? = some (some (.ref p))) (hz : xs.length < 100000) (h : Gv (te σ) F (fun v F' => Po F' v x))
    (k : ∀ F' A' ws, Up F A F' A' → F' p = none → A' p ≠ none → Grow Po p F' (upd A' p (.lst ws)) (xs ++ [x]) → D.nx σ (upd A' p (.lst ws))) : tDrop (tBM K "list" rAppend (tVar i) (tCons te tNil)) D σ A := by
  obtain ⟨np, ws, hw, it⟩ := g
  refine st_app hx hw np hi (by rw [it.length]; exact hz) h fun v F' A' u hv np' hw' => k F' A' _ u np' (by rw [hw']; simp) ⟨np', _, upd_same, Items.snoc hv (it.mono hPo u.a)⟩
theorem sq_appG {α : Type} {Po : Obs α} (hPo : Mono Po) {i : Nat} {p : Addr} {xs : List α} {x : α} (hx : Ex F A) (g : Grow Po p F A xs) (hi : σ[i]? = some (some (.ref p))) (hz : xs.length < 100000) (h : Gv (te σ) F (fun v F' => Po F' v x))
    (k : ∀ F' A' ws, Up F A F' A' → F' p = none → A' p ≠ none → Grow Po p F' (upd A' p (.lst ws)) (xs ++ [x]) → tz D σ (upd A' p (.lst ws))) : tSeq (tDrop (tBM K "list" rAppend (tVar i) (tCons te tNil))) tz D σ A := st_appG (D := { D with nx := tz D }) hPo hx g hi hz h k
/-- row <= bottom, bottom perhaps None -/
theorem gt_end {i j : Nat} {n : Int} {o : Option Int} (hi : σ[i]? = some (some (oV o))) (hj : σ[j]? = some (some (.int n))) : GT (tOr (tB (tIsN (tVar i))) (tTest (tOp (rI0 fun i j => .bl (decide (i ≤ j))) (tVar j) (tVar i)))) σ F (CB.leEnd n o) := by
  refine gt_is (gt_or (b := CB.leEnd n o) (gt_B (gv_isN (gv_var hi rfl))) fun ho H' e => ?_) ?_
  · cases o with
    | none => cases ho
    | some b => exact gt_test (gv_opI (gv_var (P := fun v _ => v = .int n) hj rfl) (fun _ _ => gv_var (P := fun v _ => v = .int b) hi rfl) fun _ _ => rfl)
  · cases o <;> rfl
theorem gt_le {i j : Nat} {a b : Int} (hi : σ[i]? = some (some (.int a))) (hj : σ[j]? = some (some (.int b))) : GT (tTest (tOp (rI0 fun i j => .bl (decide (i ≤ j))) (tVar i) (tVar j))) σ F (decide (a ≤ b)) :=
  gt_test (gv_opI (gv_var (P := fun v _ => v = .int a) hi rfl) (fun _ _ => gv_var (P := fun v _ => v = .int b) hj rfl) fun _ _ => rfl)
end
section
variable {P : Program} {w : World} {K : PySem.W.Frag} {mg : Str → Option Value} {base : Heap} {f C CA fE : Addr} {fd : FuncData}
/-! ### _law_has -/
def spLHas : Sp := SpO (fun vs H (x : List CB.Blk × Int × Int) => ∃ v, vs = [v, .int x.2.1, .int x.2.2] ∧ oLst oBT H v x.1) (fun x v _ => v = .bl (CB.hasB x.1 x.2.1 x.2.2))
theorem scLHas : FnScope ["_law_blocks", "_law_row", "_law_column", "_law_top", "_law_left", "_law_bottom", "_law_right"] ["_law_blocks", "_law_row", "_law_column"] (defScope sLHas) := ⟨rfl, rfl, rfl, by decide +kernel, rfl, by decide +kernel, by decide +kernel⟩
theorem hasB_snoc {L : List CB.Blk} {i : Nat} {b : CB.Blk} (h : L[i]? = some b) (r c : Int) : CB.hasB (L.take (i + 1)) r c = (CB.hasB (L.take i) r c || (CB.inRb b.rows r && CB.inRb b.cols c)) := by
  unfold CB.hasB
  rw [List.take_add_one, h, List.any_append]
  simp
theorem cal_lhas (F : Fun K "_law_has" "_law_has" sLHas f fd) (g : mg "_law_has" = some (.ref f)) : Cal P w K mg base "_law_has" 1 spLHas := by
  refine cal_mk F g scLHas (fun _ _ _ _ _ _ us hl => match us, hl with | [_, _, _], _ => rfl) (fun vs H Q E ⟨x, H0, _, ⟨v, e, _⟩, _⟩ => by rw [e]; rfl) fun cdv A outer s H vs Q E hr ⟨⟨L, r, c⟩, H0, hx, ⟨v, e, hv⟩, q⟩ => ?_
  subst e
  have hv : oLst oBT H0 v L := hv
  refine ⟨_, pss_cons (ps_for PassesOwn.never rfl (pi_list (pv 0)) (pg_tup rfl (pgs_cons (pg_name (i := 3) scLHas.nd rfl (.inl rfl)) (pgs_cons (pg_name (i := 4) scLHas.nd rfl (.inl rfl)) (pgs_cons (pg_name (i := 5) scLHas.nd rfl (.inl rfl)) (pgs_cons (pg_name (i := 6) scLHas.nd rfl (.inl rfl)) pgs_nil)))))
      (pss_one (ps_if (PW.pt (pw_and (pt_cmpR op_le (pv 3) (pv 1) (nomark _)) (pw_and (pt_cmpR op_le (pv 4) (pv 2) (nomark _)) (pw_and1 (PW.pt (pw_or (pt_cmp (pc_isN (pv 5)) rfl) (pw_or1 (pt_cmpR op_le (pv 1) (pv 5) (nomark _)))))))))
        (pss_one (ps_if (PW.pt (pw_or (pt_cmp (pc_isN (pv 6)) rfl) (pw_or1 (pt_cmpR op_le (pv 2) (pv 6) (nomark _))))) (pss_one (ps_ret pe_bl)) pss_nil)) pss_nil)))
    (pss_one (ps_ret pe_bl)), ?_⟩
  refine sq_for mono_bt hx (xs := L) (gv_var (i := 0) rfl hv)
    (fun B i σ F A => Ex B F ∧ Up H0 H F A ∧ CB.hasB (L.take i) r c = false ∧ ∃ y3 y4 y5 y6, σ = [some v, some (.int r), some (.int c), y3, y4, y5, y6])
    (fun B i σ F A ⟨e, u, _⟩ => ⟨e, u.c⟩) (fun F2 A2 u2 => ⟨Ex.refl _, u2, rfl, none, none, none, none, rfl⟩) ?_ ?_
  · rintro B i b vb σ F2 A2 hi ⟨eB, u2, hno, y3, y4, y5, y6, rfl⟩ ⟨p, rfl, hp⟩
    refine g_four (u2.c _ _ hp) ?_
    have hany : CB.hasB (L.take (i + 1)) r c = ((decide (b.top ≤ r) && (decide (b.left ≤ c) && CB.leEnd r b.bottom)) && CB.leEnd c b.right) := by
      rw [hasB_snoc hi, hno, show b.rows = (b.top, b.bottom) from rfl, show b.cols = (b.left, b.right) from rfl, CB.inRb_le, CB.inRb_le]
      cases decide (b.top ≤ r) <;> cases decide (b.left ≤ c) <;> cases CB.leEnd r b.bottom <;> cases CB.leEnd c b.right <;> rfl
    have goon : ∀ {F3 A3 : Hp}, Up F2 A2 F3 A3 → CB.hasB (L.take (i + 1)) r c = false → ∃ F3, Ex B F3 ∧ Up H0 H F3 A3 ∧ CB.hasB (L.take (i + 1)) r c = false ∧ ∃ z3 z4 z5 z6, [some v, some (.int r), some (.int c), some (.int b.top), some (.int b.left), some (oV b.bottom), some (oV b.right)] = [some v, some (.int r), some (.int c), z3, z4, z5, z6] := fun {F3 A3} u3 h => ⟨F3, eB.trans u3.a, u2.trans u3, h, _, _, _, _, rfl⟩
    refine st_if u2.c (gt_and (gt_le (i := 3) (j := 1) rfl rfl) fun _ H' e => gt_and (gt_le (i := 4) (j := 2) rfl rfl) fun _ H' e => gt_end (i := 5) (j := 1) rfl rfl) (fun hb F3 A3 u3 => ?_) (fun hb F3 A3 u3 => ?_)
    · refine st_if u3.c (gt_end (i := 6) (j := 2) rfl rfl) (fun hb2 F4 A4 u4 => ?_) (fun hb2 F4 A4 u4 => ?_)
      · refine q (.bl true) F4 A4 ((u2.trans u3).trans u4) ?_
        have : CB.hasB L r c = true := by
          have h1 : CB.hasB (L.take (i + 1)) r c = true := by rw [hany, hb, hb2]; rfl
          unfold CB.hasB at h1 ⊢
          rw [List.any_eq_true] at h1 ⊢
          obtain ⟨z, hz, h⟩ := h1
          exact ⟨z, List.mem_of_mem_take hz, h⟩
        show V.bl true = V.bl (CB.hasB L r c)
        rw [this]
      · exact goon (u3.trans u4) (by rw [hany, hb, hb2]; rfl)
    · exact goon u3 (by rw [hany, hb]; rfl)
  · rintro B σ F2 A2 ⟨eB, u2, hno, y3, y4, y5, y6, rfl⟩
    rw [List.take_length] at hno
    refine q (.bl false) F2 A2 u2 ?_
    show V.bl false = V.bl (CB.hasB L r c)
    rw [hno]
end
end CW
namespace CW
open PySem PySem.Spec PyProof.Rows L2
open Evl (Ex Ex.refl Ex.trans Ex.new Ex.mut fresh_back)
theorem items_set {α : Type} {Po : Obs α} {H : Hp} {v : V} {x : α} (hv : Po H v x) : ∀ {vs : List V} {xs : List α} {i : Nat}, Items Po H vs xs → Items Po H (vs.set i v) (xs.set i x)
  | [], [], _, _ => trivial
  | _ :: _, _ :: _, 0, h => ⟨hv, h.2⟩
  | _ :: _, _ :: _, i + 1, h => ⟨h.1, items_set hv h.2⟩
  | [], _ :: _, _, h => h.elim
  | _ :: _, [], _, h => h.elim
theorem set_last {α : Type} {x : α} : ∀ {xs : List α}, xs ≠ [] → xs.set (xs.length - 1) x = xs.dropLast ++ [x]
  | [], h => absurd rfl h
  | [a], _ => rfl
  | a :: b :: r, _ => by
    have ih := set_last (x := x) (xs := b :: r) (by simp)
    show a :: (b :: r).set ((b :: r).length - 1) x = a :: ((b :: r).dropLast ++ [x])
    rw [ih]
theorem ixN_last {n : Nat} (h : 0 < n) : ixN n (-1) = some (n - 1) := by
  unfold ixN
  rw [if_neg (by omega), if_pos (by omega)]
  congr 1
  omega
section
variable {K : PySem.W.Frag} {σ : L2.St} {F A H0 H : Hp} {ta te : TE} {D : Ends} {tz : TS}
theorem gv_bt0 {b : CB.Blk} (ha : Gv (ta σ) F (fun v F' => oBT F' v b)) : Gv (tOp (rIxT K) ta (tC (.int 0)) σ) F (fun v _ => v = .int b.top) :=
  gv_op ha (fun _ _ _ _ => gv_c (P := fun v _ => v = .int 0) rfl) fun v w H' H'' e e' ⟨p, hv, hp⟩ hw => by subst hv hw; exact gv_ixT (y := .int b.top) (e' _ _ hp) (atI_nat (j := 0) rfl) rfl
theorem gv_bt1 {b : CB.Blk} (ha : Gv (ta σ) F (fun v F' => oBT F' v b)) : Gv (tOp (rIxT K) ta (tC (.int 1)) σ) F (fun v _ => v = .int b.left) :=
  gv_op ha (fun _ _ _ _ => gv_c (P := fun v _ => v = .int 1) rfl) fun v w H' H'' e e' ⟨p, hv, hp⟩ hw => by subst hv hw; exact gv_ixT (y := .int b.left) (e' _ _ hp) (atI_nat (j := 1) rfl) rfl
theorem gv_bt2 {b : CB.Blk} (ha : Gv (ta σ) F (fun v F' => oBT F' v b)) : Gv (tOp (rIxT K) ta (tC (.int 2)) σ) F (fun v _ => v = oV b.bottom) :=
  gv_op ha (fun _ _ _ _ => gv_c (P := fun v _ => v = .int 2) rfl) fun v w H' H'' e e' ⟨p, hv, hp⟩ hw => by subst hv hw; exact gv_ixT (y := oV b.bottom) (e' _ _ hp) (atI_nat (j := 2) rfl) rfl
theorem gv_bt3 {b : CB.Blk} (ha : Gv (ta σ) F (fun v F' => oBT F' v b)) : Gv (tOp (rIxT K) ta (tC (.int 3)) σ) F (fun v _ => v = oV b.right) :=
  gv_op ha (fun _ _ _ _ => gv_c (P := fun v _ => v = .int 3) rfl) fun v w H' H'' e e' ⟨p, hv, hp⟩ hw => by subst hv hw; exact gv_ixT (y := oV b.right) (e' _ _ hp) (atI_nat (j := 3) rfl) rfl
/-- found = [] that is to grow -/
theorem sq_nilG {α : Type} {Po : Obs α} {i : Nat} (u : Up H0 H F A) (k : ∀ p, H p = none → F p = none → A p = none → Up H0 H F (upd A p (.lst [])) → Grow Po p F (upd A p (.lst [])) [] → tz D (σ.set i (some (.ref p))) (upd A p (.lst []))) : tSeq (tAsg (tLst tNil) (gName i)) tz D σ A :=
  ⟨Nat.zero_le _, fun p hp => k p (none_of_ex u.b hp) (none_of_ex u.c hp) hp (u.touch (none_of_ex u.b hp) (none_of_ex u.c hp)) (Grow.made (none_of_ex u.c hp))⟩
theorem run_hide {r : Addr} {vs : List V} {v : V} {x : CB.Run} (h : F r = some (.lst vs)) (hv : oRun F v x) : oRun (hide r F) v x := by
  obtain ⟨p, a, b, rfl, hp, h1, h2⟩ := hv
  refine ⟨p, a, b, rfl, ?_, h1, h2⟩
  rw [hide_ne (show p ≠ r from fun z => by rw [z, h] at hp; cases hp)]
  exact hp
theorem gv_neg1 : Gv (tUn (rU fun i => .int (-i)) (tC (.int 1)) σ) F (fun v _ => v = .int (-1)) := gv_neg (n := 1) (gv_c rfl)
/-- whether the next run stands next to the last one -/
theorem gt_joins {i j : Nat} {v : V} {a : Int} {R : List CB.Run} (hi : σ[i]? = some (some v)) (hv : oLst oRun F v R) (hj : σ[j]? = some (some (.int a))) (b : Bool) (hb : ∀ r, R.getLast? = some r → decide (r.2 = some (a - 1)) = b) :
    GT (tAnd (tTest (tOp (rNeD K) (tVar i) (tLst tNil))) (tTest (tOp rEq (tOp (rIxT K) (tOp (rIxL K) (tVar i) (tUn (rU fun i => .int (-i)) (tC (.int 1)))) (tC (.int 1))) (tOp (rI0 fun i j => .int (i - j)) (tVar j) (tC (.int 1)))))) σ F ((!decide (R = [])) && b) :=
  gt_and (gt_test (gv_neRuns (gv_var hi hv) fun _ _ => gv_nilL)) fun hne H1 e1 => by
    have hR : R ≠ [] := by simpa using hne
    obtain ⟨r, hr⟩ : ∃ r, R.getLast? = some r := by
      cases h : R.getLast? with
      | none => exact absurd (List.getLast?_eq_none_iff.mp h) hR
      | some r => exact ⟨r, rfl⟩
    refine gt_test (gv_op (Pa := fun v _ => v = oV r.2) (Pb := fun v _ => v = .int (a - 1)) (gv_snd mono_opt (gv_last mono_run hr (gv_var hi (mono_lst mono_run _ _ _ _ e1 hv)) fun _ _ => gv_neg1) fun _ _ => gv_c rfl) (fun _ _ _ _ => gv_opI (gv_var (P := fun v _ => v = .int a) hj rfl) (fun _ _ => gv_c rfl) fun _ _ => rfl) fun x y H2 H3 e2 e3 h1 h2 => ?_)
    subst h1 h2
    exact gv_eq (scal_oV _ _) (by rw [oV_eq, hb r hr])
end
section
variable {P : Program} {w : World} {K : PySem.W.Frag} {mg : Str → Option Value} {base : Heap} {f C CA fE : Addr} {fd : FuncData}
def spLRows : Sp := SpO (fun vs H (L : List CB.Blk) => ∃ v1 v2, vs = [v1, v2, .int 0] ∧ oLst oBT H v1 L ∧ oLst oBT H v2 [] ∧ L.length ≤ 31) (fun L v H => oLst oBand H v (CB.lawLines L))
abbrev NRows : List Str := ["_law_one", "_law_other", "_law_way", "_law_all_of", "_law_sides", "_law_found", "_law_top", "_law_bottom", "_law_runs_here", "_law_left", "_law_right", "_law_a", "_law_b", "_law_block"]
theorem scLRows : FnScope NRows ["_law_one", "_law_other", "_law_way"] (defScope sLRows) := ⟨rfl, rfl, rfl, by decide +kernel, rfl, by decide +kernel, by decide +kernel⟩
theorem cal_lrows (F : Fun K "_law_rows_of" "_law_rows_of" sLRows f fd) (g : mg "_law_rows_of" = some (.ref f)) (cC : Cal P w K mg base "_law_cuts" 1 spLCuts) (cS : Cal P w K mg base "_law_spans" 1 spLSpans) (cH : Cal P w K mg base "_law_has" 1 spLHas) :
    Cal P w K mg base "_law_rows_of" 2 spLRows := by
  refine cal_mk F g scLRows (fun _ _ _ _ _ _ us hl => match us, hl with | [_, _, _], _ => rfl) (fun vs H Q E ⟨x, H0, _, ⟨v1, v2, e, _⟩, _⟩ => by rw [e]; rfl) fun cdv A outer s H vs Q E hr ⟨L, H0, hx, ⟨v1, v2, e, hv1, hv2, hz⟩, q⟩ => ?_
  subst e
  refine ⟨_, pss_cons (ps_set (i := 3) scLRows.nd rfl (.inl rfl) (pe_op op_cat (pv 0) (pv 1)))
    (pss_cons (ps_set (i := 4) scLRows.nd rfl (.inl rfl) (pe_cal cS hr (by rfl) (pa_cons (pe_cal cC hr (by rfl) (pa_cons
      (pe_lc (g := gName 13) (tt := tYes) (te := tTup (tCons (tOp (rIxT K) (tVar 13) (tC (.int 1))) (tCons (tOp (rIxT K) (tVar 13) (tC (.int 3))) tNil))) (own := [("_law_block", 13)]) (by rfl) scLRows.nd (pi_list (pv 3)) (blkOk_by (N := NRows) (sc := defScope sLRows) (by decide +kernel))
        (fun _ _ _ _ _ => pg_name (i := 13) scLRows.nd rfl (Or.inl rfl)) (fun _ _ _ _ _ => pts_nil) (fun _ _ _ _ _ => pe_tup (pa_cons (pe_ix ix_tup (pv 13) pe_int (fun _ _ => rfl)) (pa_cons (pe_ix ix_tup (pv 13) pe_int (fun _ _ => rfl)) pa_nil)))) pa_nil)) pa_nil)))
    (pss_cons (ps_set (i := 5) scLRows.nd rfl (.inl rfl) (pe_lst pa_nil))
    (pss_cons (ps_for PassesOwn.never rfl (pi_list (pe_cal cS hr (by rfl) (pa_cons (pe_cal cC hr (by rfl) (pa_cons
      (pe_lc (g := gName 13) (tt := tYes) (te := tTup (tCons (tOp (rIxT K) (tVar 13) (tC (.int 0))) (tCons (tOp (rIxT K) (tVar 13) (tC (.int 2))) tNil))) (own := [("_law_block", 13)]) (by rfl) scLRows.nd (pi_list (pv 3)) (blkOk_by (N := NRows) (sc := defScope sLRows) (by decide +kernel))
        (fun _ _ _ _ _ => pg_name (i := 13) scLRows.nd rfl (Or.inl rfl)) (fun _ _ _ _ _ => pts_nil) (fun _ _ _ _ _ => pe_tup (pa_cons (pe_ix ix_tup (pv 13) pe_int (fun _ _ => rfl)) (pa_cons (pe_ix ix_tup (pv 13) pe_int (fun _ _ => rfl)) pa_nil)))) pa_nil)) pa_nil)))
        (pg_tup rfl (pgs_cons (pg_name (i := 6) scLRows.nd rfl (.inl rfl)) (pgs_cons (pg_name (i := 7) scLRows.nd rfl (.inl rfl)) pgs_nil)))
      (pss_cons (ps_set (i := 8) scLRows.nd rfl (.inl rfl) (pe_lst pa_nil))
      (pss_cons (ps_for PassesOwn.never rfl (pi_list (pv 4)) (pg_tup rfl (pgs_cons (pg_name (i := 9) scLRows.nd rfl (.inl rfl)) (pgs_cons (pg_name (i := 10) scLRows.nd rfl (.inl rfl)) pgs_nil)))
        (pss_cons (ps_set (i := 11) scLRows.nd rfl (.inl rfl) (pe_cal cH hr (by rfl) (pa_cons (pv 0) (pa_cons (pv 6) (pa_cons (pv 9) pa_nil)))))
        (pss_cons (ps_set (i := 12) scLRows.nd rfl (.inl rfl) (pe_cal cH hr (by rfl) (pa_cons (pv 1) (pa_cons (pv 6) (pa_cons (pv 9) pa_nil)))))
        (pss_one (ps_if (pt_val (pe_ix ix_list (pe_lst (pa_cons (pe_or (pv 11) (pe_one (pv 12))) (pa_cons (pe_and (pv 11) (pe_one (pv 12))) (pa_cons (pe_and (pv 11) (pe_one (pe_not (pv 12)))) (pa_cons (pe_and (pe_not (pv 11)) (pe_one (pe_not (pv 12)))) pa_nil))))) (pv 2) (fun _ _ => rfl)))
          (pss_one (ps_if (PW.pt (pw_and (pt_cmpR (op_neD (roomU hr (by decide))) (pv 8) (pe_lst pa_nil) (nomark _)) (pw_and1 (pt_cmpR op_eq (pe_ix ix_tup (pe_ix ix_list (pv 8) (pe_un un_neg pe_int) (fun _ _ => rfl)) pe_int (fun _ _ => rfl)) (pe_op op_sub (pv 9) pe_int) (nomark _)))))
            (pss_one (ps_asg (pe_tup (pa_cons (pe_ix ix_tup (pe_ix ix_list (pv 8) (pe_un un_neg pe_int) (fun _ _ => rfl)) pe_int (fun _ _ => rfl)) (pa_cons (pv 10) pa_nil))) (pg_sub (pv 8) (pe_un un_neg pe_int) set_list)))
            (pss_one (ps_expr (pe_bm PySem.F.plainAttrs_list PySem.F.slot_list_append PySem.F.type_list_append mt_append (pv 8) (pa_cons (pe_tup (pa_cons (pv 9) (pa_cons (pv 10) pa_nil))) pa_nil)))))) pss_nil)))))
      (pss_one (ps_expr (pe_bm PySem.F.plainAttrs_list PySem.F.slot_list_append PySem.F.type_list_append mt_append (pv 5) (pa_cons (pe_tup (pa_cons (pv 6) (pa_cons (pv 7) (pa_cons (pv 8) pa_nil)))) pa_nil)))))))
    (pss_one (ps_ret (pv 5)))))), ?_⟩
  have hv1 : oLst oBT H0 v1 L := hv1
  have hv2 : oLst oBT H0 v2 [] := hv2
  have hz : L.length ≤ 31 := hz
  -- all of both
  refine sq_asg (P := fun v F => oLst oBT F v L) hx ?_ fun va F1 A1 u1 hva => ?_
  · have := gv_catE (ta := tVar 0) (tb := tVar 1) (σ := start NRows [v1, v2, .int 0]) (H := H0) mono_bt (xs := L) (ys := []) (gv_var (i := 0) rfl hv1) (fun H2 e2 => gv_var (i := 1) rfl (mono_lst mono_bt _ _ _ _ e2 hv2)) (by simp; omega)
    rw [List.append_nil] at this
    exact this
  have cols : ∀ {σ : L2.St} {F' : Hp}, σ[3]? = some (some va) → (∀ v, ((wipe σ [13]).set 13 (some v))[13]? = some (some v)) → (∀ v, wipe ((wipe σ [13]).set 13 (some v)) [13] = wipe σ [13]) → Ex F1 F' → Gv (tLc (iList K (tVar 3)) (gName 13) tYes (tTup (tCons (tOp (rIxT K) (tVar 13) (tC (.int 1))) (tCons (tOp (rIxT K) (tVar 13) (tC (.int 3))) tNil))) [13] σ) F' (fun v H' => oLst oRun H' v (L.map (·.cols))) := fun {σ F'} h3 h13 hw e => by
    rw [← map_fm]
    refine gv_lc mono_bt mono_run (fun b => some b.cols) (by omega) (gv_var h3 (mono_lst mono_bt _ _ _ _ e hva)) fun y b F3 A3 eF e3 _ hy => ?_
    refine ⟨_, fun Q hQ => hQ, hw y, gt_yes, fun z hz F4 e4 => ?_⟩
    cases hz
    exact gv_pair mono_int mono_opt (gv_bt1 (gv_var (h13 y) (mono_bt _ _ _ _ e4 hy))) fun H5 e5 => gv_bt3 (gv_var (h13 y) (mono_bt _ _ _ _ (e4.trans e5) hy))
  have rows : ∀ {σ : L2.St} {F' : Hp}, σ[3]? = some (some va) → (∀ v, ((wipe σ [13]).set 13 (some v))[13]? = some (some v)) → (∀ v, wipe ((wipe σ [13]).set 13 (some v)) [13] = wipe σ [13]) → Ex F1 F' → Gv (tLc (iList K (tVar 3)) (gName 13) tYes (tTup (tCons (tOp (rIxT K) (tVar 13) (tC (.int 0))) (tCons (tOp (rIxT K) (tVar 13) (tC (.int 2))) tNil))) [13] σ) F' (fun v H' => oLst oRun H' v (L.map (·.rows))) := fun {σ F'} h3 h13 hw e => by
    rw [← map_fm]
    refine gv_lc mono_bt mono_run (fun b => some b.rows) (by omega) (gv_var h3 (mono_lst mono_bt _ _ _ _ e hva)) fun y b F3 A3 eF e3 _ hy => ?_
    refine ⟨_, fun Q hQ => hQ, hw y, gt_yes, fun z hz F4 e4 => ?_⟩
    cases hz
    exact gv_pair mono_int mono_opt (gv_bt0 (gv_var (h13 y) (mono_bt _ _ _ _ e4 hy))) fun H5 e5 => gv_bt2 (gv_var (h13 y) (mono_bt _ _ _ _ (e4.trans e5) hy))
  have spansOf : ∀ {σ : L2.St} {F' : Hp} {te : TE} {es : List CB.Run}, es.length ≤ 31 → Gv (te σ) F' (fun v H' => oLst oRun H' v es) → Gv (tCall spLSpans [] E0 (tCons (tCall spLCuts [] E0 (tCons te tNil)) tNil) σ) F' (fun v H' => oLst oRun H' v (CB.spans (CB.lawCuts es))) := fun {σ F' te es} hes h => by
    refine gv_call (PA := fun vs H' => ∃ v, vs = [v] ∧ oLst oInt H' v (CB.lawCuts es)) (CB.lawCuts es) (ga_cons (gv_call (PA := fun vs H' => ∃ v, vs = [v] ∧ oLst oRun H' v es) es (ga_cons h fun v H2 e2 h2 => ga_nil ⟨v, rfl, h2⟩) fun vs H2 e2 ⟨v, ev, h2⟩ => ?_) fun v H2 e2 h2 => ga_nil ⟨v, rfl, h2⟩) fun vs H2 e2 ⟨v, ev, h2⟩ => ?_
    · subst ev; exact ⟨v, rfl, h2, hes⟩
    · subst ev; exact ⟨v, rfl, h2, CB.lawCuts_ne _, by have := CB.lawCuts_len es; omega⟩
  refine sq_asg (P := fun v F => oLst oRun F v (CB.sidesOf L)) u1.c (spansOf (by rw [List.length_map]; exact hz) (cols rfl (fun _ => rfl) (fun _ => rfl) (Ex.refl _))) fun vs2 F2 A2 u2 hvs => ?_
  have U2 := u1.trans u2
  refine sq_nilG (Po := oBand) U2 fun p nH nF nA u3 g3 => ?_
  have hsp2 : Gv (tCall spLSpans [] E0 (tCons (tCall spLCuts [] E0 (tCons (tLc (iList K (tVar 3)) (gName 13) tYes (tTup (tCons (tOp (rIxT K) (tVar 13) (tC (.int 0))) (tCons (tOp (rIxT K) (tVar 13) (tC (.int 2))) tNil))) [13]) tNil)) tNil) [some v1, some v2, some (.int 0), some va, some vs2, some (.ref p), none, none, none, none, none, none, none, none]) F2 (fun v H' => oLst oRun H' v (CB.spans (CB.lawCuts (L.map (·.rows))))) :=
    spansOf (by rw [List.length_map]; exact hz) (rows rfl (fun _ => rfl) (fun _ => rfl) u2.a)
  refine sq_for mono_run u3.c (xs := CB.spans (CB.lawCuts (L.map fun b : CB.Blk => b.rows))) hsp2
    (fun B i σ F A => Ex B F ∧ Ex F2 F ∧ Up H0 H F A ∧ Grow oBand p F A ((CB.lawLines L).take i) ∧ ∃ y6 y7 y8 y9 y10 y11 y12 y13, σ = [some v1, some v2, some (.int 0), some va, some vs2, some (.ref p), y6, y7, y8, y9, y10, y11, y12, y13])
    (fun B i σ F A ⟨e, _, u, _⟩ => ⟨e, u.c⟩) (fun F4 A4 u4 => ⟨Ex.refl _, u4.a, u3.trans u4, g3.up mono_band u4, none, none, none, none, none, none, none, none, rfl⟩) ?_ ?_
  · rintro B i ⟨c, d⟩ vb σ F4 A4 hi ⟨eB, e24, u4, g4, y6, y7, y8, y9, y10, y11, y12, y13, rfl⟩ ⟨pp, a, b, rfl, hp, ha, hb⟩
    have ha : a = .int c := ha
    have hb : b = oV d := hb
    subst ha hb
    refine g_two (u4.c _ _ hp) ?_
    refine sq_nilG (Po := oRun) u4 fun r rH rF rA u5 g5 => ?_
    have hpr : p ≠ r := g4.ne (Qo := oRun) (ys := []) rA
    have slen : (CB.sidesOf L).length ≤ 63 := by
      unfold CB.sidesOf
      rw [CB.spans_length]
      have := CB.lawCuts_len (L.map (·.cols))
      rw [List.length_map] at this
      omega
    have rlen : ∀ j, (CB.runsOver (CB.hasB L c) ((CB.sidesOf L).take j) []).length ≤ 63 := fun j => by
      have := CB.runsOver_length (CB.hasB L c) ((CB.sidesOf L).take j) []
      rw [List.length_take, List.length_nil] at this
      omega
    refine sq_for mono_run u5.c (xs := CB.sidesOf L) (gv_var rfl (mono_lst mono_run _ _ _ _ e24 hvs))
      (fun B' j σ' F' A' => Ex B' F' ∧ Ex F4 F' ∧ Up H0 H F' A' ∧ Grow oBand p F' A' ((CB.lawLines L).take i) ∧ Grow oRun r F' A' (CB.runsOver (CB.hasB L c) ((CB.sidesOf L).take j) []) ∧ ∃ y9 y10 y11 y12 y13, σ' = [some v1, some v2, some (.int 0), some va, some vs2, some (.ref p), some (.int c), some (oV d), some (.ref r), y9, y10, y11, y12, y13])
      (fun B' j σ' F' A' ⟨e, _, u, _⟩ => ⟨e, u.c⟩) (fun F' A' u => ⟨Ex.refl _, u.a, u5.trans u, (g4.off hpr).up mono_band u, g5.up mono_run u, _, _, _, _, _, rfl⟩) ?_ ?_
    · rintro B' j ⟨sa, sb⟩ vb' σ' F6 A6 hj ⟨eB6, e46, u6, g6, r6, y9, y10, y11, y12, y13, rfl⟩ ⟨pq, qa, qb, rfl, hq, hqa, hqb⟩
      have hqa : qa = .int sa := hqa
      have hqb : qb = oV sb := hqb
      subst hqa hqb
      refine g_two (u6.c _ _ hq) ?_
      have has : ∀ {σ : L2.St} {F' : Hp} {k : Nat} {vv : V} {M : List CB.Blk}, σ[k]? = some (some vv) → σ[6]? = some (some (.int c)) → σ[9]? = some (some (.int sa)) → oLst oBT F' vv M → Gv (tCall spLHas [] E0 (tCons (tVar k) (tCons (tVar 6) (tCons (tVar 9) tNil))) σ) F' (fun v _ => v = .bl (CB.hasB M c sa)) := fun {σ F' k vv M} hk h6 h9 hM => by
        refine gv_call (PA := fun vs H' => vs = [vv, .int c, .int sa] ∧ oLst oBT H' vv M) (M, c, sa) (ga_cons (gv_var (P := fun z H' => z = vv ∧ oLst oBT H' vv M) hk ⟨rfl, hM⟩) fun z1 H1 e1 q1 => ga_cons (gv_var (P := fun v _ => v = .int c) h6 rfl) fun z2 H2 e2 q2 => ga_cons (gv_var (P := fun v _ => v = .int sa) h9 rfl) fun z3 H3 e3 q3 => ga_nil ⟨by rw [q1.1, q2, q3], mono_lst mono_bt _ _ _ _ (e2.trans e3) q1.2⟩) fun vs H' e ⟨hvs, h⟩ => ?_
        subst hvs
        exact ⟨vv, rfl, h⟩
      refine sq_asg u6.c (has rfl rfl rfl (mono_lst mono_bt _ _ _ _ ((U2.a.trans e24).trans e46) hv1)) fun x1 F7 A7 u7 hx1 => ?_
      refine sq_asg u7.c (has rfl rfl rfl (mono_lst mono_bt _ _ _ _ (((U2.a.trans e24).trans e46).trans u7.a) hv2)) fun x2 F8 A8 u8 hx2 => ?_
      subst hx1 hx2
      have u78 := u7.trans u8
      have step : CB.runsOver (CB.hasB L c) ((CB.sidesOf L).take (j + 1)) [] = if CB.hasB L c sa = true then CB.addRun (CB.runsOver (CB.hasB L c) ((CB.sidesOf L).take j) []) sa sb else CB.runsOver (CB.hasB L c) ((CB.sidesOf L).take j) [] := by
        rw [List.take_add_one, hj]
        exact CB.runsOver_snoc _ _ _ _
      have r8 := r6.up mono_run u78
      have g8 := g6.up mono_band u78
      have rl := rlen j
      revert r8 rl step
      generalize CB.runsOver (CB.hasB L c) ((CB.sidesOf L).take j) [] = R
      generalize CB.runsOver (CB.hasB L c) ((CB.sidesOf L).take (j + 1)) [] = R'
      intro step r8 rl
      have h8 : CB.hasB [] c sa = false := rfl
      rw [h8]
      refine st_if u8.c (b := CB.hasB L c sa) (gt_B (gv_op (Pa := fun v F' => ∃ pl, v = .ref pl ∧ F' pl = some (.lst [.bl (CB.hasB L c sa || false), .bl (CB.hasB L c sa && false), .bl (CB.hasB L c sa && !false), .bl (!CB.hasB L c sa && !false)])) (Pb := fun v _ => v = .int 0)
        (gv_lst (PA := fun vs _ => vs = [.bl (CB.hasB L c sa || false), .bl (CB.hasB L c sa && false), .bl (CB.hasB L c sa && !false), .bl (!CB.hasB L c sa && !false)])
          (ga_cons (gv_orV (gv_var (P := fun v _ => v = .bl (CB.hasB L c sa)) rfl rfl) fun _ H' e => gv_var (P := fun v _ => v = .bl false) rfl rfl) fun z1 H1 e1 q1 => ga_cons (gv_andV (gv_var (P := fun v _ => v = .bl (CB.hasB L c sa)) rfl rfl) fun _ H' e => gv_var (P := fun v _ => v = .bl false) rfl rfl) fun z2 H2 e2 q2 =>
            ga_cons (gv_andV (gv_var (P := fun v _ => v = .bl (CB.hasB L c sa)) rfl rfl) fun _ H' e => gv_notV (gv_var (P := fun v _ => v = .bl false) rfl rfl)) fun z3 H3 e3 q3 => ga_cons (gv_andV (gv_notV (gv_var (P := fun v _ => v = .bl (CB.hasB L c sa)) rfl rfl)) fun _ H' e => gv_notV (gv_var (P := fun v _ => v = .bl false) rfl rfl)) fun z4 H4 e4 q4 => ga_nil (by rw [q1, q2, q3, q4]))
          (fun vs H' h => by rw [h]; show 4 ≤ 1000; decide) fun vs H' pl _ h hp => by subst h; exact ⟨pl, rfl, upd_same⟩)
        (fun _ _ _ _ => gv_var (P := fun v _ => v = .int 0) rfl rfl) fun vv ww H' H'' e e' ⟨pl, hvv, hpl⟩ hww => by
          subst hvv hww
          refine fun H1 e1 Q q => ⟨pl, _, 0, .bl (CB.hasB L c sa || false), rfl, rfl, SqL.of (e1 _ _ (e' _ _ hpl)), rfl, q _ H'' H1 (Up.refl e1) (by rw [Bool.or_false])⟩)) (fun hb F9 A9 u9 => ?_) (fun hb F9 A9 u9 => ?_)
      · rw [if_pos hb] at step
        have u789 := u78.trans u9
        have r9 := r8.up mono_run u9
        have g9 := g8.up mono_band u9
        have U9 := u6.trans u789
        have eA : Ex F9 A9 := U9.c
        obtain ⟨ws, hws, eX, eF, hl⟩ := r9.read mono_run eA
        have wl : ws.length = R.length := by
          obtain ⟨_, ws', h1, h2, h3⟩ := hl
          cases h1
          rw [upd_same] at h2
          cases h2
          exact h3.length
        by_cases hjn : ∃ r0, R.getLast? = some r0 ∧ r0.2 = some (sa - 1)
        · obtain ⟨r0, hr0, hj0⟩ := hjn
          have hRne : R ≠ [] := fun z => by rw [z] at hr0; cases hr0
          have er : CB.addRun R sa sb = R.dropLast ++ [(r0.1, sb)] := by
            unfold CB.addRun
            rw [hr0]
            exact if_pos hj0
          refine st_if eX (gt_joins (i := 8) (j := 9) rfl hl rfl true (fun r' hr' => by rw [hr0] at hr'; cases hr'; exact decide_eq_true hj0)) (fun _ F10 A10 u10 => ?_) (fun hb2 _ _ _ => by simp [hRne] at hb2)
          have hl10 := mono_lst mono_run _ _ _ _ u10.a hl
          refine (show Gv (tTup (tCons (tOp (rIxT K) (tOp (rIxL K) (tVar 8) (tUn (rU fun i => .int (-i)) (tC (.int 1)))) (tC (.int 0))) (tCons (tVar 10) tNil)) [some v1, some v2, some (.int 0), some va, some vs2, some (.ref p), some (.int c), some (oV d), some (.ref r), some (.int sa), some (oV sb), some (.bl (CB.hasB L c sa)), some (.bl false), y13]) F10 (fun v F' => oRun F' v (r0.1, sb)) from
            gv_pair mono_int mono_opt (gv_fst mono_int (gv_last mono_run hr0 (gv_var rfl hl10) fun _ _ => gv_neg1) fun _ _ => gv_c rfl) fun _ _ => gv_var rfl rfl) A10 u10.c _ fun xv F11 A11 u11 hxv => ?_
          have u12 := u10.trans u11
          have uf : Up F9 A9 (hide r F11) A11 := u12.forget r9.np
          have hr11 : A11 r = some (.lst ws) := u12.b _ _ hws
          have hrF : F11 r = some (.lst ws) := u12.a _ _ upd_same
          refine ⟨.ref r, rfl, 1, rfl, r, ws, -1, ws.length - 1, rfl, rfl, hr11, ixN_last (by rw [wl]; exact List.length_pos_iff.mpr hRne), ?_⟩
          have itw : Items oRun (hide r F11) ws R := by
            obtain ⟨ws', h1, h2⟩ := r9.ex
            rw [hws] at h1
            cases h1
            exact h2.mono mono_run uf.a
          refine ⟨hide r F11, (eB6.trans u789.a).trans uf.a, (e46.trans u789.a).trans uf.a, ((U9.trans uf).touch rH hide_same), (g9.up mono_band uf).off hpr, ⟨hide_same, _, upd_same, ?_⟩, _, _, _, _, _, rfl⟩
          rw [step, er, ← set_last hRne, wl]
          exact items_set (run_hide hrF hxv) itw
        · refine st_if eX (gt_joins (i := 8) (j := 9) rfl hl rfl false (fun r' hr' => decide_eq_false fun z => hjn ⟨r', hr', z⟩)) (fun hb2 _ _ _ => by simp at hb2) (fun _ F10 A10 u10 => ?_)
          have uf : Up F9 A9 (hide r F10) A10 := u10.forget r9.np
          have er : CB.addRun R sa sb = R ++ [(sa, sb)] := by
            unfold CB.addRun
            cases h : R.getLast? with
            | none => rfl
            | some r => exact if_neg fun z => hjn ⟨r, h, z⟩
          refine st_appG mono_run uf.c (r9.up mono_run uf) rfl (by omega) (gv_pair mono_int mono_opt (gv_var (v := .int sa) rfl rfl) fun _ _ => gv_var (v := oV sb) rfl rfl) fun F11 A11 ws' u11 np11 _ g11 => ?_
          refine ⟨F11, ((eB6.trans u789.a).trans uf.a).trans u11.a, ((e46.trans u789.a).trans uf.a).trans u11.a, (((U9.trans uf).trans u11).touch rH np11), ((g9.up mono_band uf).up mono_band u11).off hpr, ?_, _, _, _, _, _, rfl⟩
          rw [step, er]
          exact g11
      · rw [if_neg (by rw [hb]; decide)] at step
        have u789 := u78.trans u9
        refine ⟨F9, eB6.trans u789.a, e46.trans u789.a, u6.trans u789, g8.up mono_band u9, ?_, _, _, _, _, _, rfl⟩
        rw [step]
        exact r8.up mono_run u9
    · rintro B' σ' F6 A6 ⟨eB6, e46, u6, g6, r6, y9, y10, y11, y12, y13, rfl⟩
      rw [List.take_length] at r6
      have r6 : Grow oRun r F6 A6 (CB.lawRow L c) := r6
      obtain ⟨F7, u7, e67, hr7, off7⟩ := r6.known mono_run u6 rH
      have g7 : Grow oBand p F7 A6 ((CB.lawLines L).take i) := by
        obtain ⟨np, ws, h1, h2⟩ := g6
        exact ⟨by rw [off7 p hpr]; exact np, ws, h1, h2.mono mono_band e67⟩
      have hline : (CB.lawLines L)[i]? = some (c, d, CB.lawRow L c) := by
        unfold CB.lawLines
        rw [List.getElem?_map, hi]; rfl
      have llen : ((CB.lawLines L).take i).length ≤ 63 := by
        unfold CB.lawLines
        rw [List.length_take, List.length_map, CB.spans_length]
        have := CB.lawCuts_len (L.map (·.rows))
        rw [List.length_map] at this
        omega
      refine st_appG mono_band u7.c g7 rfl (by omega) (gv_triple mono_int mono_opt (mono_lst mono_run) (gv_var (v := .int c) rfl rfl) (fun _ _ => gv_var (v := oV d) rfl rfl) fun _ e => gv_var rfl (mono_lst mono_run _ _ _ _ e hr7)) fun F8 A8 ws' u8 np8 _ g8 => ?_
      refine ⟨F8, ((eB.trans e46).trans e67).trans u8.a, ((e24.trans e46).trans e67).trans u8.a, (u7.trans u8).touch nH np8, ?_, _, _, _, _, _, _, _, _, rfl⟩
      rw [List.take_add_one, hline]
      exact g8
  · rintro B σ F4 A4 ⟨eB, e24, u4, g4, y6, y7, y8, y9, y10, y11, y12, y13, rfl⟩
    have hlen : (CB.lawLines L).take (CB.spans (CB.lawCuts (L.map (·.rows)))).length = CB.lawLines L := by
      refine List.take_of_length_le ?_
      unfold CB.lawLines
      rw [List.length_map]
      exact Nat.le_refl _
    rw [hlen] at g4
    obtain ⟨F5, u5, _, h5, _⟩ := g4.known mono_band u4 nH
    exact ⟨.ref p, rfl, q _ F5 A4 u5 h5⟩
end
end CW
namespace CW
open PySem PySem.Spec PyProof.Rows L2
open Evl (Ex Ex.refl Ex.trans Ex.new Ex.mut fresh_back)
/-! ### a lambda of one parameter as the key of sorted -/
section
variable {X : Cx} {pins : List (Addr × Obj)} {σ : L2.St} {H : Hp} {s : Shared}
theorem lam_make1 {c P : Addr} {params : Arguments} {body : Expr} {scope : Scope} {pos : Pos} {E Q : Value → Shared → Prop} (I : Inv X pins σ H s) (TB : LamX.TabB X.base X.mg c P) (hcode : X.env.code = .ref c) (hP : H P = some (.tbl #[]))
    (hdef : defaultsOf params X.env = ([], [])) (hclo : closureFor scope X.env = pure [])
    (h : ∀ (f c' : Addr) (pm ctv : Value) (ps : Array Value) (s' : Shared), H c' = none → c' ≠ P → Inv X (pins ++ [(f, PySem.W.kla_obj "<lambda>" (X.env.qual ++ "<lambda>") params body scope [] pm c' ctv)]) σ (upd (upd H P (.tbl ps)) c' (LamX.CodeO c' (X.env.qual ++ "<lambda>"))) s' → Q (.ref f) s') :
    wpAny (model X.prog X.w) X.A (eval (.Lambda params body scope pos) X.env) Q E s := by
  refine PySem.W.kla_eval hdef ?_
  have bP : s.heap.BuiltinsAt X.mg P := TB.bm.keeps I.bk
  have hP' : s.heap.get? P = some { cls := .none, data := .fields #[] } := I.hok P _ hP
  refine PySem.W.kla_makeFunction (mg := X.mg) (c := c) (P := P) (ps := #[]) hclo I.ok.glob (I.mod.glob.keeps I.bk) hcode (TB.code.keeps I.bk) hP' True.intro (by simp [codeAmong]) TB.gP bP fun c' ctv h' tk hx hge hlt hrec htb => ?_
  obtain ⟨c2, oc, vs, t, e2, hoc, hd, hv⟩ := hrec
  cases e2
  have hsz : s.heap.objs.size ≤ h'.objs.size := Nat.le_trans hge (Nat.le_of_lt hlt)
  have nC : H c' = none := I.hok.fresh hge
  have hPl : P < s.heap.objs.size := Heap.lt_size hP'
  have ncP : c' ≠ P := fun z => by rw [z] at hge; exact absurd (Nat.lt_of_lt_of_le hPl hge) (Nat.lt_irrefl _)
  have I1 := LamX.inv_table (t' := tk) (more := #[rawInt pos.line, rawInt pos.col, .ref c']) (h' := h'.push (PySem.W.kla_obj "<lambda>" (X.env.qual ++ "<lambda>") params body scope [] ((X.mg "__name__").getD .none) c' ctv)) I hP
    (fun b o hb e => Heap.get?_push_of_some _ (hx b o hb e)) (Heap.get?_push_of_some _ htb) hge ⟨oc, vs, t, Heap.get?_push_of_some _ hoc, hd, hv⟩
  refine h h'.objs.size c' ((X.mg "__name__").getD .none) ctv _ _ nC ncP (Inv.pins_of I1 fun p hp => ?_)
  rcases List.mem_append.mp hp with hp | hp
  · obtain ⟨a1, a2, a3, a4, a5⟩ := I1.pin p (List.mem_append_right _ hp)
    exact ⟨a1, a2, a3, a4, a5⟩
  · rw [List.mem_singleton.mp hp]
    have n1 : h'.objs.size ≠ c' := Nat.ne_of_gt hlt
    have n2 : h'.objs.size ≠ P := Nat.ne_of_gt (Nat.lt_of_lt_of_le hPl hsz)
    refine ⟨Heap.get?_push_size _ rfl, ?_, Nat.ne_of_gt (Nat.lt_of_lt_of_le I.lt hsz), I.nofs hsz, fun v z => ?_⟩
    · rw [upd_ne n1, upd_ne n2]
      exact I.hok.fresh hsz
    · cases z
theorem keyF_lam {A : Around} {n : Str} {q : Str} {f c' : Addr} {pm ctv : Value} {params : Arguments} {body : Expr} {scope : Scope} {k : Nat} {β : Type} {Po : Obs β} {kx ky : β → Int} {ok : β → Prop} {F0 H0 : Hp} {tb : TE}
    (S : FnScope [n] [n] scope) (hr : Room (k + 1) A) (fr : A.frames = X.A.frames) (hbind : ∀ u : Value, bindArgs (PySem.W.kla_fn "<lambda>" q params body scope [] pm (.ref c') ctv) ⟨[u], []⟩ = pure [(n, u)])
    (hc : H0 c' = some (LamX.CodeO c' q))
    (hbody : ∀ (A : Around) (outer : List Env) (s : Shared) (H : Hp) (E : XK), PE (cxOf CX0 X.prog X.w X.K X.mg X.base [n] q scope f (.ref c') A outer s H E) body tb)
    (htb : ∀ (F : Hp) (v : V) (b : β), Ex F0 F → Po F v b → ok b → Gv (tb [some v]) F (fun w F' => oCell F' w (kx b, ky b))) :
    KeyF X A f Po kx ky ok [(f, PySem.W.kla_obj "<lambda>" q params body scope [] pm c' ctv)] F0 H0 := ⟨fun pins σ s F H v b u hneed I up r p hok => by
  have of1 : s.heap.get? f = some (PySem.W.kla_obj "<lambda>" q params body scope [] pm c' ctv) := (I.pin _ (List.mem_append_right _ (hneed _ (List.mem_singleton.mpr rfl)))).1
  obtain ⟨⟨oc, vs, t, hoc, hdc, hvc⟩, _, _⟩ := I.hok c' _ (up.b _ _ hc)
  have e0 : Env0 X.prog X.w X.K X.mg X.base A X.stack s H := by
    have e := I.env0
    exact ⟨by rw [fr]; exact e.frames, e.mod, e.bs, e.bsz, e.funs, e.frf, e.hok, e.bare⟩
  have hkind : ∀ y ∈ [n].zip [u], scope.names.lookup y.1 = some .local ∨ (scope.names.lookup y.1 = some .cell ∧ ((cellsFrom (s.heap.objs.size + 1) scope.names []).lookup y.1).isSome = true) := fun ⟨m, v⟩ hy => by
    rcases S.par m (List.of_mem_zip hy).1 with q | q
    · exact .inl q
    · exact .inr ⟨q, PySem.W.cellsFrom_some _ _ _ (.inl q)⟩
  have rc : codeAny (model X.prog X.w) A (.call (.ref f) ⟨[u], []⟩) (CR CX0 X.stack X.prog X.w H s (fun v' H' => ∃ F', Up F H F' H' ∧ oCell F' v' (kx b, ky b)) E0) s := by
    refine PySem.W.kla_callFunE hr.depth of1 rfl S.co S.gen rfl ⟨c', oc, vs, t, rfl, hoc, hdc, hvc⟩ ?_
    rw [hbind]
    refine wpAny_pure (wpAny_newFunctionEnv_cells S.kind hkind fun env he s1 x => ?_)
    subst he
    refine ⟨I.nolimit.keeps x.toInCall.keep, PySem.W.kla_codeExpr ?_⟩
    have J : Inv (cxOf CX0 X.prog X.w X.K X.mg X.base [n] q scope f (.ref c') A X.stack s H E0) [] (L2.start [n] [v]) H s1 := inv_start (ps := [n]) S hr.hd e0 rfl (.cons r .nil) x
    refine wpAny_mono ((hbody A X.stack s H E0).run [] s1 _ H (fun v' H' => ∃ F', Up F H F' H' ∧ oCell F' v' (kx b, ky b)) J (htb F v b up.a p hok H up.c _ fun v' F' H' u q => ⟨F', u, q⟩)) (fun w s' hq => ?_) fun e s' hs => hs
    obtain ⟨w', H', J', rv, q⟩ := hq
    exact ⟨w', H', J'.os, J'.bare, J'.base, J'.hok, rv, q⟩
  refine wpAny_call (codeAny_mono rc fun r s' hq => ?_)
  cases r with
  | error e => exact False.elim hq
  | ok fl =>
    cases fl with
    | ret u' =>
      obtain ⟨v', H', J, rr, F', up', c⟩ := I.after hq
      exact ⟨v', H', F', J, rr, up', c⟩
    | next => exact False.elim hq
    | brk => exact False.elim hq
    | cont => exact False.elim hq⟩
/-- sorted(xs, key=lambda ..): made for the first time -/
def tSortLam (P : Addr) {β : Type} (Po : Obs β) (kx ky : β → Int) (ok : β → Prop) (t : TA) : TE := fun σ H Q => t σ H fun vs H1 => ∃ (l : Addr) (F : Hp) (bs : List β), vs = [.ref l] ∧ Ex F H1 ∧ F P = none ∧ H1 P = some (.tbl #[]) ∧ oLst Po F (.ref l) bs ∧ (∀ b ∈ bs, ok b) ∧ bs.length ≤ 100000 ∧
  ∀ v F' H2, Up F (hide P H1) F' (hide P H2) → oLst Po F' v (bs.mergeSort (leK kx ky)) → Q v H2
theorem pe_sortLam {c P : Addr} {β : Type} {Po : Obs β} (hPo : Mono Po) {kx ky : β → Int} {ok : β → Prop} {t : TA} {tb : TE} {e body : Expr} {params : Arguments} {scope : Scope} {lpos kpos pos p : Pos} {n : Str}
    (hu : X.A.units + 3 < cLine) (hr : Room 3 X.A) (TB : LamX.TabB X.base X.mg c P) (hcode : X.env.code = .ref c) (S : FnScope [n] [n] scope) (hdef : defaultsOf params X.env = ([], [])) (hclo : closureFor scope X.env = pure [])
    (hbind : ∀ (c' : Addr) (pm ctv u : Value), bindArgs (PySem.W.kla_fn "<lambda>" (X.env.qual ++ "<lambda>") params body scope [] pm (.ref c') ctv) ⟨[u], []⟩ = pure [(n, u)])
    (hbody : ∀ (f c' : Addr) (A : Around) (outer : List Env) (s : Shared) (H : Hp) (E : XK), PE (cxOf CX0 X.prog X.w X.K X.mg X.base [n] (X.env.qual ++ "<lambda>") scope f (.ref c') A outer s H E) body tb)
    (htb : ∀ (F : Hp) (v : V) (b : β), Po F v b → ok b → Gv (tb [some v]) F (fun w F' => oCell F' w (kx b, ky b)))
    (hg : Gl X "sorted") (hm : X.mg "sorted" = none) (hpa : PA X [e] t)
    (he : backTo pos (starEach [e] X.env) = (false, eval e X.env) :: backTo pos (starEach [] X.env) := by rfl) (hpl : (backTo pos (starEach [e] X.env)).any (·.1) = false := by rfl)
    (hall : (backToKw pos (keywordEach [⟨some "key", .Lambda params body scope lpos, kpos⟩] X.env)).all (·.1.isSome) = true := by rfl) (hnone : (backToKw pos (keywordEach [⟨some "key", .Lambda params body scope lpos, kpos⟩] X.env)).any (·.1.isNone) = false := by rfl)
    (hks : (backToKw pos (keywordEach [⟨some "key", .Lambda params body scope lpos, kpos⟩] X.env)).filterMap (·.1) = [Str.ofString "key"] := by rfl) :
    PE X (.Call (.Name "sorted" p) [e] [⟨some "key", .Lambda params body scope lpos, kpos⟩] pos) (tSortLam P Po kx ky ok t) := by
  refine ⟨fun pins s σ H Q I h => ?_⟩
  refine wpAny_Call_Name_kw (ld_blt I hg hm rfl ?_ (by decide) (by decide))
  refine PyProof.Rows.callWith_kw (thn (hpa.run pos pins s σ H (fun vs H1 => ∃ (l : Addr) (F : Hp) (bs : List β), vs = [.ref l] ∧ Ex F H1 ∧ F P = none ∧ H1 P = some (.tbl #[]) ∧ oLst Po F (.ref l) bs ∧ (∀ b ∈ bs, ok b) ∧ bs.length ≤ 100000 ∧
    ∀ v F' H2, Up F (hide P H1) F' (hide P H2) → oLst Po F' v (bs.mergeSort (leK kx ky)) → Q v H2) I h) fun us s1 ⟨vs, H1, I1, r1, q1⟩ => ?_) he hpl hall hnone
  rw [hks]
  obtain ⟨l, F, bs, rfl, hx, nP, hP, hl, hok, hz, q⟩ := q1
  rw [Vals.ref1 r1]
  show wpAny _ _ (evalAll ((do let v ← eval (.Lambda params body scope lpos) X.env; standAt pos; pure v) :: [])) _ _ s1
  refine wpAny_evalAll_cons (wpAny_bind (lam_make1 I1 TB hcode hP hdef hclo fun f c' pm ctv ps s2 nc ncP I2 => wpAny_bind (wpAny_standAt (wpAny_pure (wpAny_evalAll_nil ?_)))))
  have nFc : F c' = none := none_of_ex hx nc
  have hx2 : Ex F (upd (upd H1 P (.tbl ps)) c' (LamX.CodeO c' (X.env.qual ++ "<lambda>"))) := Ex.touch (Ex.touch hx nP) nFc
  refine thn (sort_inv hPo hu I2 (fun q hq => List.mem_append_right _ hq) hx2 hl hok hz (keyF_lam S hr.in1.in1 rfl (fun u => hbind c' pm ctv u) upd_same (fun A outer s H E => hbody f c' A outer s H E) (fun F' v b e hb ho => htb F' v b hb ho)) fun v F' H2 u hv => q v F' H2 ?_ hv) fun v s3 hq => ?_
  · have fP : F' P = none := u.n P (by rw [upd_ne (Ne.symm ncP), upd_same]; simp) nP
    refine ⟨u.a, fun b o hb => ?_, hide_ex fP u.c, fun b h1 h2 => ?_⟩
    · by_cases z : b = P
      · rw [z, hide_same] at hb; cases hb
      · rw [hide_ne z] at hb ⊢
        have zc : b ≠ c' := fun w => by rw [w, nc] at hb; cases hb
        exact u.b b o (by rw [upd_ne zc, upd_ne z]; exact hb)
    · by_cases z : b = P
      · rw [z]; exact fP
      · rw [hide_ne z] at h1
        have zc : b ≠ c' := fun w => h1 (by rw [w]; exact nc)
        exact u.n b (by rw [upd_ne zc, upd_ne z]; exact h1) h2
  · obtain ⟨w, H3, J, rr, qq⟩ := hq
    exact ⟨w, H3, J.pins_of fun p hp => J.pin p (List.mem_append_right _ (List.mem_append_left _ hp)), rr, qq⟩
end
end CW
namespace CB
theorem lawRow_len {L : List Blk} (h : L.length ≤ 31) (r : Int) : (lawRow L r).length ≤ 63 := by
  have h1 := runsOver_length (hasB L r) (sidesOf L) []
  have h2 : (sidesOf L).length ≤ 63 := by
    unfold sidesOf
    rw [spans_length]
    have := lawCuts_len (L.map (·.cols))
    rw [List.length_map] at this
    omega
  unfold lawRow
  rw [List.length_nil] at h1
  omega
theorem lawLines_len {L : List Blk} (h : L.length ≤ 31) : (lawLines L).length ≤ 63 := by
  unfold lawLines
  rw [List.length_map, spans_length]
  have := lawCuts_len (L.map (·.rows))
  rw [List.length_map] at this
  omega
theorem lawLines_runs {L : List Blk} (h : L.length ≤ 31) {b : Band} (hb : b ∈ lawLines L) : b.2.2.length ≤ 63 := by
  unfold lawLines at hb
  obtain ⟨p, _, rfl⟩ := List.mem_map.mp hb
  exact lawRow_len h p.1
theorem lawFold_len {m : Nat} : ∀ (lines : List Band) (prev : List Run), (∀ b ∈ lines, b.2.2.length ≤ m) → (lawFold prev lines).length ≤ m * lines.length
  | [], _, _ => Nat.zero_le _
  | b :: rest, prev, h => by
    have ih := lawFold_len rest b.2.2 fun c hc => h c (List.mem_cons_of_mem _ hc)
    have h1 : (b.2.2.filter fun run => decide (run ∉ prev)).length ≤ b.2.2.length := List.length_filter_le _ _
    have h2 := h b List.mem_cons_self
    show (((b.2.2.filter fun run => decide (run ∉ prev)).map fun run => (⟨b.1, run.1, lawExt run b.2.1 rest, run.2⟩ : Blk)) ++ lawFold b.2.2 rest).length ≤ _
    rw [List.length_append, List.length_map, List.length_cons, Nat.mul_succ]
    omega
/-- the runs ahead of a line -/
def prevR (lines : List Band) : Nat → List Run
  | 0 => []
  | k + 1 => match lines[k]? with
    | some b => b.2.2
    | none => []
theorem prevR_at {lines : List Band} {k : Nat} {b : Band} (h : lines[k]? = some b) : prevR lines (k + 1) = b.2.2 := by
  show (match lines[k]? with | some b => b.2.2 | none => []) = b.2.2
  rw [h]
theorem drop_at {α : Type} {xs : List α} {k : Nat} {b : α} (h : xs[k]? = some b) : xs.drop k = b :: xs.drop (k + 1) := by
  obtain ⟨hk, e⟩ := List.getElem?_eq_some_iff.mp h
  rw [List.drop_eq_getElem_cons hk, e]
theorem fold_drop {lines : List Band} {k : Nat} {b : Band} (h : lines[k]? = some b) (prev : List Run) : lawFold prev (lines.drop k) = ((b.2.2.filter fun run => decide (run ∉ prev)).map fun run => ⟨b.1, run.1, lawExt run b.2.1 (lines.drop (k + 1)), run.2⟩) ++ lawFold b.2.2 (lines.drop (k + 1)) := by
  rw [drop_at h]
  rfl
theorem ext_in {run : Run} {o : Option Int} {lines : List Band} {e : Nat} {b : Band} (h : lines[e + 1]? = some b) (hr : run ∈ b.2.2) : lawExt run o (lines.drop (e + 1)) = lawExt run b.2.1 (lines.drop (e + 2)) := by
  rw [drop_at h]
  exact if_pos hr
theorem ext_out {run : Run} {o : Option Int} {lines : List Band} {e : Nat} {b : Band} (h : lines[e + 1]? = some b) (hr : run ∉ b.2.2) : lawExt run o (lines.drop (e + 1)) = o := by
  rw [drop_at h]
  exact if_neg hr
theorem ext_end {run : Run} {o : Option Int} {lines : List Band} {e : Nat} (h : lines.length ≤ e + 1) : lawExt run o (lines.drop (e + 1)) = o := by
  rw [List.drop_eq_nil_of_le h]
  rfl
end CB
namespace CW
open PySem PySem.Spec PyProof.Rows L2
open Evl (Ex Ex.refl Ex.trans Ex.new Ex.mut fresh_back)
theorem Up.hid {P : Addr} {H H1 F A : Hp} (u : Up H H1 F A) (h1 : H1 P ≠ none) (h2 : H P = none) : Up H (hide P H1) F (hide P A) := by
  have fP : F P = none := u.n P h1 h2
  refine ⟨u.a, fun b o hb => ?_, hide_ex fP u.c, fun b k1 k2 => ?_⟩
  · by_cases z : b = P
    · rw [z, hide_same] at hb; cases hb
    · rw [hide_ne z] at hb ⊢; exact u.b b o hb
  · by_cases z : b = P
    · rw [z]; exact fP
    · rw [hide_ne z] at k1; exact u.n b k1 k2
section
variable {K : PySem.W.Frag} {σ : L2.St} {F A : Hp} {ta te : TE} {tA : TA} {D : Ends} {tz tb : TS} {c : TT}
/-- x in xs -/
theorem gv_isIn {α : Type} [DecidableEq α] {Po : Obs α} (hPo : Mono Po) {d : α → PyData} (hd : ∀ H v x, Po H v x → Dp K H v (d x)) (hl : ∀ x, (d x).canLay0 = true) {n : Nat} (hn : n ≤ 60) (h2 : ∀ x, (d x).depth ≤ n) (he : ∀ a b, PyData.eqv (d a) (d b) = decide (a = b))
    {σ : L2.St} {H : Hp} {ta tb : TE} {x : α} {xs : List α} (ha : Gv (ta σ) H (fun v H' => Po H' v x)) (hb : ∀ H', Ex H H' → Gv (tb σ) H' (fun v H' => oLst Po H' v xs)) : Gv (tOp (rInD K) ta tb σ) H (fun v _ => v = .bl (decide (x ∈ xs))) :=
  gv_op ha (fun _ H' e _ => hb H' e) fun v w H' H'' e e' h1 h3 => fun H1 e1 Q q => by
    have ea : (xs.map d).any (fun z => PyData.eqv z (d x)) = decide (x ∈ xs) := by
      rw [List.any_map]
      have : ((fun z => PyData.eqv z (d x)) ∘ d) = fun z => decide (z = x) := by funext z; exact he z x
      rw [this, Bool.eq_iff_iff, List.any_eq_true, decide_eq_true_eq]
      constructor
      · rintro ⟨z, h1, h2⟩; rw [← of_decide_eq_true h2]; exact h1
      · intro h; exact ⟨x, h, decide_eq_true rfl⟩
    refine ⟨d x, xs.map d, hd _ _ _ (hPo _ _ _ _ (e'.trans e1) h1), dp_lst (hd _) (mono_lst hPo _ _ _ _ e1 h3), shaped_of (hl x) (by have := h2 x; omega), shaped_lst hl hn h2 xs, q _ H'' H1 (Up.refl e1) (by rw [ea])⟩
theorem gv_runIn {x : CB.Run} {xs : List CB.Run} (ha : Gv (ta σ) F (fun v H' => oRun H' v x)) (hb : ∀ H', Ex F H' → Gv (te σ) H' (fun v H' => oLst oRun H' v xs)) : Gv (tOp (rInD K) ta te σ) F (fun v _ => v = .bl (decide (x ∈ xs))) :=
  (gv_isIn mono_run (d := dRun) (fun H v x => dp_run) lay_run (n := 1) (by decide) (fun x => Nat.le_of_eq (depth_run x)) eqv_run ha hb).imp fun v H' _ h => by rw [h]; congr
theorem gv_runOut {x : CB.Run} {xs : List CB.Run} (ha : Gv (ta σ) F (fun v H' => oRun H' v x)) (hb : ∀ H', Ex F H' → Gv (te σ) H' (fun v H' => oLst oRun H' v xs)) : Gv (tOp (rNotInD K) ta te σ) F (fun v _ => v = .bl (!decide (x ∈ xs))) :=
  (gv_inL mono_run (d := dRun) (fun H v x => dp_run) lay_run (n := 1) (by decide) (fun x => Nat.le_of_eq (depth_run x)) eqv_run ha hb).imp fun v H' _ h => by rw [h]; congr
/-- for i in range(n) -/
theorem st_rng1 {i : Nat} {n : Nat} (hx : Ex F A) (hn : n ≤ 100000) (h : Gv (tA σ) F (fun vs _ => vs = [.int (n : Nat)])) (W : Hp → Nat → L2.St → Hp → Hp → Prop) (h0 : ∀ F' A', Up F A F' A' → W F' 0 σ F' A')
    (hs : ∀ B k σ' F' A', k < n → W B k σ' F' A' → tb { D with nx := fun σ3 A3 => ∃ F3, W B (k + 1) σ3 F3 A3, ct := fun σ3 A3 => ∃ F3, W B (k + 1) σ3 F3 A3, bk := D.nx } (σ'.set i (some (.int (k : Nat)))) A')
    (hd : ∀ B σ' F' A', W B n σ' F' A' → D.nx σ' A') : tFor (iRng1 tA) (gName i) tb D σ A := h A hx _ fun vs F1 A1 u p => by
  subst p
  refine ⟨_, rfl, by omega, by omega, for_range (lo := 0) (n := ((n : Nat) : Int).toNat) (fun k σ' A' => ∃ F', W F1 k σ' F' A') ⟨F1, h0 F1 A1 u⟩ (fun k σ' A' hk ⟨F', w⟩ => ?_) fun σ' A' ⟨F', w⟩ => hd F1 σ' F' A' w⟩
  have e0 : (0 : Int) + (k : Int) = (k : Int) := Int.zero_add _
  show tb _ (σ'.set i (some (.int ((0 : Int) + (k : Int))))) A'
  rw [e0]
  exact hs F1 k σ' F' A' (by omega) w
theorem sq_rng1 {i : Nat} {n : Nat} (hx : Ex F A) (hn : n ≤ 100000) (h : Gv (tA σ) F (fun vs _ => vs = [.int (n : Nat)])) (W : Hp → Nat → L2.St → Hp → Hp → Prop) (h0 : ∀ F' A', Up F A F' A' → W F' 0 σ F' A')
    (hs : ∀ B k σ' F' A', k < n → W B k σ' F' A' → tb { D with nx := fun σ3 A3 => ∃ F3, W B (k + 1) σ3 F3 A3, ct := fun σ3 A3 => ∃ F3, W B (k + 1) σ3 F3 A3, bk := tz D } (σ'.set i (some (.int (k : Nat)))) A')
    (hd : ∀ B σ' F' A', W B n σ' F' A' → tz D σ' A') : tSeq (tFor (iRng1 tA) (gName i) tb) tz D σ A := st_rng1 (D := { D with nx := tz D }) hx hn h W h0 hs hd
/-- for i in range(lo, lo + n) -/
theorem st_rng2 {i : Nat} {lo hi : Int} (n : Nat) (hx : Ex F A) (hn : n ≤ 100000) (hlo : -100000 ≤ lo ∧ lo ≤ 100000) (hhi : -100000 ≤ hi ∧ hi ≤ 100000 ∧ (hi - lo).toNat = n) (h : Gv (tA σ) F (fun vs _ => vs = [.int lo, .int hi])) (W : Hp → Nat → L2.St → Hp → Hp → Prop) (h0 : ∀ F' A', Up F A F' A' → W F' 0 σ F' A')
    (hs : ∀ B k σ' F' A', k < n → W B k σ' F' A' → tb { D with nx := fun σ3 A3 => ∃ F3, W B (k + 1) σ3 F3 A3, ct := fun σ3 A3 => ∃ F3, W B (k + 1) σ3 F3 A3, bk := D.nx } (σ'.set i (some (.int (lo + (k : Nat))))) A')
    (hd : ∀ B σ' F' A', W B n σ' F' A' → D.nx σ' A') : tFor (iRng2 tA) (gName i) tb D σ A := h A hx _ fun vs F1 A1 u p => by
  subst p
  obtain ⟨h1, h2, rfl⟩ := hhi
  exact ⟨_, _, rfl, ⟨by omega, by omega, by omega, by omega⟩, for_range (lo := lo) (n := (hi - lo).toNat) (fun k σ' A' => ∃ F', W F1 k σ' F' A') ⟨F1, h0 F1 A1 u⟩ (fun k σ' A' hk ⟨F', w⟩ => hs F1 k σ' F' A' hk w) fun σ' A' ⟨F', w⟩ => hd F1 σ' F' A' w⟩
theorem sq_rng2 {i : Nat} {lo hi : Int} (n : Nat) (hx : Ex F A) (hn : n ≤ 100000) (hlo : -100000 ≤ lo ∧ lo ≤ 100000) (hhi : -100000 ≤ hi ∧ hi ≤ 100000 ∧ (hi - lo).toNat = n) (h : Gv (tA σ) F (fun vs _ => vs = [.int lo, .int hi])) (W : Hp → Nat → L2.St → Hp → Hp → Prop) (h0 : ∀ F' A', Up F A F' A' → W F' 0 σ F' A')
    (hs : ∀ B k σ' F' A', k < n → W B k σ' F' A' → tb { D with nx := fun σ3 A3 => ∃ F3, W B (k + 1) σ3 F3 A3, ct := fun σ3 A3 => ∃ F3, W B (k + 1) σ3 F3 A3, bk := tz D } (σ'.set i (some (.int (lo + (k : Nat))))) A')
    (hd : ∀ B σ' F' A', W B n σ' F' A' → tz D σ' A') : tSeq (tFor (iRng2 tA) (gName i) tb) tz D σ A := st_rng2 (D := { D with nx := tz D }) n hx hn hlo hhi h W h0 hs hd
/-- while c: -/
theorem sq_while (W : Nat → L2.St → Hp → Hp → Prop) (h0 : ∃ m, W m σ F A)
    (turn : ∀ m σ F A, W m σ F A → Ex F A ∧ ∃ b, GT c σ F b ∧ (b = true → ∀ F' A', Up F A F' A' → tb { D with nx := fun σ3 A3 => ∃ m' F3, m' < m ∧ W m' σ3 F3 A3, ct := fun σ3 A3 => ∃ m' F3, m' < m ∧ W m' σ3 F3 A3, bk := tz D } σ A') ∧ (b = false → ∀ F' A', Up F A F' A' → tz D σ A')) :
    tSeq (tWhile c tb) tz D σ A := by
  obtain ⟨m, w0⟩ := h0
  refine ⟨fun m σ A => ∃ F, W m σ F A, ⟨m, F, w0⟩, ?_⟩
  rintro m σ A ⟨F, w⟩
  obtain ⟨e, b, hb, ht, hf⟩ := turn m σ F A w
  refine hb A e _ fun b' F' A' u q => ?_
  subst q
  cases b' with
  | true => exact ⟨fun σ3 A3 => ∃ m' F3, m' < m ∧ W m' σ3 F3 A3, fun σ3 A3 ⟨m', F3, h, w'⟩ => ⟨m', h, F3, w'⟩, ht rfl F' A' u⟩
  | false => exact hf rfl F' A' u
/-- lines[i], lines[i][2] .. -/
theorem gv_nth {α : Type} {Po : Obs α} {xs : List α} {i : Nat} {y : α} (hPo : Mono Po) (hy : xs[i]? = some y) (ha : Gv (ta σ) F (fun v F' => oLst Po F' v xs)) (hb : ∀ F', Ex F F' → Gv (te σ) F' (fun v _ => v = .int (i : Nat))) : Gv (tOp (rIxL K) ta te σ) F (fun v F' => Po F' v y) :=
  gv_op ha (fun _ H' e _ => hb H' e) fun v w H' H'' e e' h1 hw => by
    subst hw
    exact (gv_ixL (mono_lst hPo _ _ _ _ e' h1) (atI_nat hy)).imp fun v H3 _ h => h.2 ▸ h.1
theorem gv_bd0 {b : CB.Band} (ha : Gv (ta σ) F (fun v F' => oBand F' v b)) : Gv (tOp (rIxT K) ta (tC (.int 0)) σ) F (fun v _ => v = .int b.1) :=
  gv_op ha (fun _ _ _ _ => gv_c (P := fun v _ => v = .int 0) rfl) fun v w H' H'' e e' ⟨p, x, y, z, h1, h2, h3, h4, h5⟩ hw => by subst h1 hw; exact gv_ixT (y := x) (e' _ _ h2) (atI_nat (j := 0) rfl) h3
theorem gv_bd1 {b : CB.Band} (ha : Gv (ta σ) F (fun v F' => oBand F' v b)) : Gv (tOp (rIxT K) ta (tC (.int 1)) σ) F (fun v _ => v = oV b.2.1) :=
  gv_op ha (fun _ _ _ _ => gv_c (P := fun v _ => v = .int 1) rfl) fun v w H' H'' e e' ⟨p, x, y, z, h1, h2, h3, h4, h5⟩ hw => by subst h1 hw; exact gv_ixT (y := y) (e' _ _ h2) (atI_nat (j := 1) rfl) h4
theorem gv_bd2 {b : CB.Band} (ha : Gv (ta σ) F (fun v F' => oBand F' v b)) : Gv (tOp (rIxT K) ta (tC (.int 2)) σ) F (fun v F' => oLst oRun F' v b.2.2) :=
  gv_op ha (fun _ _ _ _ => gv_c (P := fun v _ => v = .int 2) rfl) fun v w H' H'' e e' ⟨p, x, y, z, h1, h2, h3, h4, h5⟩ hw => by subst h1 hw; exact gv_ixT (y := z) (e' _ _ h2) (atI_nat (j := 2) rfl) (mono_lst mono_run _ _ _ _ e' h5)
/-- block[:2] -/
theorem gv_cut2 {b : CB.Blk} (ha : Gv (ta σ) F (fun v F' => oBT F' v b)) : Gv (tSl (rSlT K) ta tNoPart (tPart (tC (.int 2))) σ) F (fun v F' => oCell F' v (b.top, b.left)) := fun H1 e Q q => ha H1 e _ fun v F' H2 u ⟨p, hv, hp⟩ => by
  subst hv
  refine ⟨2, rfl, p, _, rfl, SqT.of (u.c _ _ hp), ?_, fun T hT => q _ _ _ (u.trans (Up.new u.c hT)) ⟨T, _, _, rfl, upd_same, rfl, rfl⟩⟩
  show ¬ (HT.sIx 4 0 none = 0 ∧ HT.sIx 4 4 (some 2) = 4)
  decide
end
end CW
namespace CW
open PySem PySem.Spec PyProof.Rows L2
open Evl (Ex Ex.refl Ex.trans Ex.new Ex.mut fresh_back)
section
variable {P : Program} {w : World} {K : PySem.W.Frag} {mg : Str → Option Value} {base : Heap} {f c T : Addr} {fd : FuncData}
/-- a def whose code object is known -/
theorem cal_mkC {x : Str} {st : Stmt} {N ps : List Str} {k : Nat} {sp : Sp} {cd : Value} (F : Fun K x x st f fd) (hc : fd.code = cd) (g : mg x = some (.ref f)) (S : FnScope N ps (defScope st))
    (hb : ∀ (kV doc pm : Value) (an : Option Addr) (cdv ct : Value) (us : List Value), us.length = ps.length → bindArgs (PySem.W.fnOf x x (defArgs st) (defBody st) (defScope st) .none kV doc pm an cdv ct) ⟨us, []⟩ = pure (ps.zip us))
    (len : ∀ vs H Q E, sp vs H Q E → vs.length = ps.length)
    (hbody : ∀ (A : Around) (outer : List Env) (s : Shared) (H : Hp) (vs : List V) (Q : VK) (E : XK), Room k (A.deeper (envOfC x (defScope st) s.heap.objs.size f cd)) → sp vs H Q E →
      ∃ t, PSs (cxOf CX0 P w K mg base N x (defScope st) f cd A outer s H E).nox (defBody st) t ∧ t { nx := fun _ H' => Q .non H', rt := Q } (start N vs) H) : Cal P w K mg base x (k + 1) sp := by
  refine ⟨f, fd, ps, g, ?_, F.kp, F.binds hb⟩
  obtain ⟨oc, od, kV, doc, pm, an, cdv, ct, osl, rfl, lk, hcd⟩ := F.ex
  have e : cdv = cd := hc
  subst e
  refine fn_of lk hcd S len fun A outer s H vs Q E hr hsp => ?_
  obtain ⟨t, h, q⟩ := hbody A outer s H vs Q E hr hsp
  exact ⟨t, h.nox, q⟩
/-! ### _law_form_by -/
def spLFormBy (T : Addr) : Sp := fun vs H1 Q _ => ∃ (v1 v2 : V) (L : List CB.Blk) (F : Hp), vs = [v1, v2, .int 0] ∧ Ex F H1 ∧ F T = none ∧ H1 T = some (.tbl #[]) ∧ oLst oBT F v1 L ∧ oLst oBT F v2 [] ∧ L.length ≤ 31 ∧
  ∀ v F' H2, Up F (hide T H1) F' (hide T H2) → oLst oBT F' v (CB.formLaw L) → Q v H2
abbrev NFB : List Str := ["_law_one", "_law_other", "_law_way", "_law_lines", "_law_found", "_law_k", "_law_run", "_law_end"]
theorem scLFB : FnScope NFB ["_law_one", "_law_other", "_law_way"] (defScope sLFormBy) := ⟨rfl, rfl, rfl, by decide +kernel, rfl, by decide +kernel, by decide +kernel⟩
theorem cal_lformby (F : Fun K "_law_form_by" "_law_form_by" sLFormBy f fd) (hc : fd.code = .ref c) (g : mg "_law_form_by" = some (.ref f)) (TB : LamX.TabB base mg c T) (cR : Cal P w K mg base "_law_rows_of" 3 spLRows) (m1 : mg "range" = none) (m2 : mg "len" = none) (m3 : mg "sorted" = none) :
    Cal P w K mg base "_law_form_by" 4 (spLFormBy T) := by
  refine cal_mkC F hc g scLFB (fun _ _ _ _ _ _ us hl => match us, hl with | [_, _, _], _ => rfl) (fun vs H Q E ⟨v1, v2, L, H0, e, _⟩ => by rw [e]; rfl) fun A outer s H vs Q E hr ⟨v1, v2, L, H0, e, hx, nT, hT, hv1, hv2, hz, q⟩ => ?_
  subst e
  refine ⟨_, pss_cons (ps_set (i := 3) scLFB.nd rfl (.inl rfl) (pe_cal cR hr (by rfl) (pa_cons (pv 0) (pa_cons (pv 1) (pa_cons (pv 2) pa_nil)))))
    (pss_cons (ps_set (i := 4) scLFB.nd rfl (.inl rfl) (pe_lst pa_nil))
    (pss_cons (ps_for PassesOwn.never rfl (pi_range1 (by rfl) m1 (pa_cons (pe_callB call_len_seq (by rfl) m2 (by decide +kernel) (pa_cons (pv 3) pa_nil)) pa_nil)) (pg_name (i := 5) scLFB.nd rfl (.inl rfl))
      (pss_one (ps_for PassesOwn.never rfl (pi_list (pe_ix ix_tup (pe_ix ix_list (pv 3) (pv 5) (fun _ _ => rfl)) pe_int (fun _ _ => rfl))) (pg_name (i := 6) scLFB.nd rfl (.inl rfl))
        (pss_one (ps_if (PW.pt (pw_or (pt_cmpR op_eq (pv 5) pe_int (nomark _)) (pw_or1 (pt_cmpR (op_notInD (roomU hr (by decide))) (pv 6) (pe_ix ix_tup (pe_ix ix_list (pv 3) (pe_op op_sub (pv 5) pe_int) (fun _ _ => rfl)) pe_int (fun _ _ => rfl)) (by rfl)))))
          (pss_cons (ps_set (i := 7) scLFB.nd rfl (.inl rfl) (pv 5))
          (pss_cons (ps_while PassesOwn.never (PW.pt (pw_and (pt_cmpR op_lt (pe_op op_add (pv 7) pe_int) (pe_callB call_len_seq (by rfl) m2 (by decide +kernel) (pa_cons (pv 3) pa_nil)) (nomark _)) (pw_and1 (pt_cmpR (op_inD (roomU hr (by decide))) (pv 6) (pe_ix ix_tup (pe_ix ix_list (pv 3) (pe_op op_add (pv 7) pe_int) (fun _ _ => rfl)) pe_int (fun _ _ => rfl)) (by rfl)))))
            (pss_one (ps_set (i := 7) scLFB.nd rfl (.inl rfl) (pe_op op_add (pv 7) pe_int))))
          (pss_one (ps_expr (pe_bm PySem.F.plainAttrs_list PySem.F.slot_list_append PySem.F.type_list_append mt_append (pv 4) (pa_cons (pe_tup (pa_cons (pe_ix ix_tup (pe_ix ix_list (pv 3) (pv 5) (fun _ _ => rfl)) pe_int (fun _ _ => rfl)) (pa_cons (pe_ix ix_tup (pv 6) pe_int (fun _ _ => rfl))
            (pa_cons (pe_ix ix_tup (pe_ix ix_list (pv 3) (pv 7) (fun _ _ => rfl)) pe_int (fun _ _ => rfl)) (pa_cons (pe_ix ix_tup (pv 6) pe_int (fun _ _ => rfl)) pa_nil))))) pa_nil)))))) pss_nil)))))
    (pss_one (ps_ret (pe_sortLam (P := T) (c := c) (n := "_law_block") (Po := oBT) (kx := fun b : CB.Blk => b.top) (ky := fun b : CB.Blk => b.left) (ok := fun _ => True) (tb := tSl (rSlT K) (tVar 0) tNoPart (tPart (tC (.int 2)))) mono_bt (roomU hr (by decide)) hr TB rfl
      ⟨rfl, rfl, rfl, by decide +kernel, rfl, by decide +kernel, by decide +kernel⟩ rfl rfl (fun _ _ _ _ => rfl) (fun f c' A outer s H E => pe_slice sl_tup (pv 0) po_none (po_some pe_int)) (fun F v b h _ => gv_cut2 (gv_var (i := 0) rfl h)) (by rfl) m3 (pa_cons (pv 4) pa_nil)))))), ?_⟩
  have hz63 := CB.lawLines_len hz
  have hfl : (CB.lawFold [] (CB.lawLines L)).length ≤ 63 * 63 := Nat.le_trans (CB.lawFold_len _ [] fun b hb => CB.lawLines_runs hz hb) (Nat.mul_le_mul_left _ hz63)
  refine sq_asg (P := fun v F => oLst oBand F v (CB.lawLines L)) hx (gv_call (PA := fun vs H' => vs = [v1, v2, .int 0] ∧ Ex H0 H') L (ga_cons (gv_var (i := 0) (P := fun v _ => v = v1) rfl rfl) fun a H2 e2 h2 => ga_cons (gv_var (i := 1) (P := fun v _ => v = v2) rfl rfl) fun b H3 e3 h3 => ga_cons (gv_var (i := 2) (P := fun v _ => v = .int 0) rfl rfl) fun d H4 e4 h4 => ga_nil ⟨by rw [h2, h3, h4], (e2.trans e3).trans e4⟩)
    fun vs H2 e2 ⟨h2, e3⟩ => ⟨v1, v2, by rw [h2]; rfl, mono_lst mono_bt _ _ _ _ e3 hv1, mono_lst mono_bt _ _ _ _ e3 hv2, hz⟩) fun vl F1 A1 u1 hvl => ?_
  generalize hlines : CB.lawLines L = lines at hvl hz63 hfl
  have hruns : ∀ b ∈ lines, b.2.2.length ≤ 63 := fun b hb => CB.lawLines_runs hz (by rw [hlines]; exact hb)
  refine sq_nilG (Po := oBT) u1 fun p nH nF nA u2 g2 => ?_
  refine sq_rng1 (n := lines.length) u2.c (by omega) (ga_cons (gv_lenOf (gv_var (i := 3) rfl hvl)) fun v H2 e2 h2 => ga_nil (by rw [h2]))
    (fun B k σ F A => Ex F1 F ∧ Up H0 H F A ∧ (∃ xs, Grow oBT p F A xs ∧ xs ++ CB.lawFold (CB.prevR lines k) (lines.drop k) = CB.lawFold [] lines) ∧ ∃ y5 y6 y7, σ = [some v1, some v2, some (.int 0), some vl, some (.ref p), y5, y6, y7])
    (fun F3 A3 u3 => ⟨u3.a, u2.trans u3, ⟨[], g2.up mono_bt u3, rfl⟩, none, none, none, rfl⟩) ?_ ?_
  · rintro B k σ F3 A3 hk ⟨e13, u3, ⟨xs, g3, hxs⟩, y5, y6, y7, rfl⟩
    obtain ⟨b, hb⟩ : ∃ b, lines[k]? = some b := ⟨lines[k], List.getElem?_eq_getElem hk⟩
    have hbl := hruns b (List.mem_of_getElem? hb)
    rw [CB.fold_drop hb] at hxs
    have lnAt : ∀ {i : Nat} {b' : CB.Band} {te : TE} {σ : L2.St} {F' : Hp}, lines[i]? = some b' → σ[3]? = some (some vl) → Ex F1 F' → (∀ F'', Ex F' F'' → Gv (te σ) F'' (fun v _ => v = .int (i : Nat))) → Gv (tOp (rIxL K) (tVar 3) te σ) F' (fun v F'' => oBand F'' v b') := fun hb' hσ e hi =>
      gv_nth mono_band hb' (gv_var hσ (mono_lst mono_band _ _ _ _ e hvl)) hi
    have hlen0 : xs.length + b.2.2.length ≤ 63 * 63 + 63 := by
      have := congrArg List.length hxs
      rw [List.length_append] at this
      omega
    refine st_for mono_run u3.c (xs := b.2.2) (gv_bd2 (lnAt hb rfl e13 fun _ _ => gv_var (i := 5) rfl rfl))
      (fun B j σ F A => Ex B F ∧ Ex F1 F ∧ Up H0 H F A ∧ Grow oBT p F A (xs ++ ((b.2.2.take j).filter fun run => decide (run ∉ CB.prevR lines k)).map fun run => ⟨b.1, run.1, CB.lawExt run b.2.1 (lines.drop (k + 1)), run.2⟩) ∧ ∃ y6 y7, σ = [some v1, some v2, some (.int 0), some vl, some (.ref p), some (.int (k : Nat)), y6, y7])
      (fun B j σ F A ⟨e, _, u, _⟩ => ⟨e, u.c⟩) (fun F4 A4 u4 => ⟨Ex.refl _, e13.trans u4.a, u3.trans u4, by
        have h := g3.up mono_bt u4
        rw [List.take_zero]
        show Grow oBT p F4 A4 (xs ++ [])
        rw [List.append_nil]
        exact h, _, _, rfl⟩) ?_ ?_
    · rintro B' j run vr σ F4 A4 hj ⟨eB, e14, u4, g4, y6, y7, rfl⟩ hrun
      have htake : ((b.2.2.take (j + 1)).filter fun run => decide (run ∉ CB.prevR lines k)) = ((b.2.2.take j).filter fun run => decide (run ∉ CB.prevR lines k)) ++ if decide (run ∉ CB.prevR lines k) = true then [run] else [] := by
        rw [List.take_add_one, hj, List.filter_append]
        show _ ++ List.filter _ [run] = _
        rw [List.filter_cons]
        split <;> rfl
      have hlen : (xs ++ ((b.2.2.take j).filter fun run => decide (run ∉ CB.prevR lines k)).map fun run => (⟨b.1, run.1, CB.lawExt run b.2.1 (lines.drop (k + 1)), run.2⟩ : CB.Blk)).length < 100000 := by
        rw [List.length_append, List.length_map]
        have h1 : ((b.2.2.take j).filter fun run => decide (run ∉ CB.prevR lines k)).length ≤ (b.2.2.take j).length := List.length_filter_le _ _
        have h2 : (b.2.2.take j).length ≤ b.2.2.length := by rw [List.length_take]; omega
        omega
      refine st_if u4.c (b := decide (run ∉ CB.prevR lines k)) ?_ (fun hnew F5 A5 u5 => ?_) (fun hold F5 A5 u5 => ?_)
      · cases k with
        | zero =>
          refine gt_is (gt_or (a := true) (b := true) (gt_test (gv_op (Pa := fun v _ => v = .int ((0 : Nat) : Int)) (Pb := fun v _ => v = .int 0) (gv_var (i := 5) rfl rfl) (fun _ _ _ _ => gv_c rfl) fun x y H2 H3 e2 e3 h1 h2 => by subst h1 h2; exact gv_eq rfl rfl)) fun h => by cases h) ?_
          exact (decide_eq_true (show run ∉ CB.prevR lines 0 from fun z => by cases z)).symm
        | succ k' =>
          obtain ⟨bp, hbp⟩ : ∃ bp, lines[k']? = some bp := ⟨lines[k'], List.getElem?_eq_getElem (by omega)⟩
          rw [CB.prevR_at hbp]
          refine gt_is (gt_or (a := false) (b := !decide (run ∈ bp.2.2)) (gt_test (gv_op (Pa := fun v _ => v = .int ((k' + 1 : Nat) : Int)) (Pb := fun v _ => v = .int 0) (gv_var (i := 5) rfl rfl) (fun _ _ _ _ => gv_c rfl) fun x y H2 H3 e2 e3 h1 h2 => by
            subst h1 h2
            refine gv_eq rfl (congrArg V.bl (decide_eq_false fun z => ?_))
            cases z)) fun _ F6 e6 => gt_test (gv_runOut (gv_var (i := 6) rfl (mono_run _ _ _ _ e6 hrun)) fun F7 e7 => gv_bd2 (lnAt hbp rfl ((e14.trans e6).trans e7) fun F8 e8 => gv_opI (i := ((k' + 1 : Nat) : Int)) (j := 1) (gv_var (i := 5) rfl rfl) (fun _ _ => gv_c rfl) fun _ _ => ?_))) ?_
          · show V.int (((k' + 1 : Nat) : Int) - 1) = V.int (k' : Nat)
            congr 1
            omega
          · rw [Bool.false_or]
            simp
      · -- a new run
        have g5 := g4.up mono_bt u5
        have uu5 := u4.trans u5
        refine sq_asg (P := fun v _ => v = .int (k : Nat)) u5.c (gv_var (i := 5) rfl rfl) fun ve F6 A6 u6 hve => ?_
        subst hve
        have hmk : ∀ e' (_ : e' = CB.lawExt run b.2.1 (lines.drop (k + 1))), (xs ++ ((b.2.2.take j).filter fun run => decide (run ∉ CB.prevR lines k)).map fun run => (⟨b.1, run.1, CB.lawExt run b.2.1 (lines.drop (k + 1)), run.2⟩ : CB.Blk)) ++ [⟨b.1, run.1, e', run.2⟩] = xs ++ ((b.2.2.take (j + 1)).filter fun run => decide (run ∉ CB.prevR lines k)).map fun run => (⟨b.1, run.1, CB.lawExt run b.2.1 (lines.drop (k + 1)), run.2⟩ : CB.Blk) := fun e' he' => by
          rw [htake, if_pos hnew, List.map_append, ← List.append_assoc, he']
          rfl
        refine sq_while (fun m σ F A => ∃ (e : Nat) (bl : CB.Band), m = lines.length - e ∧ lines[e]? = some bl ∧ CB.lawExt run b.2.1 (lines.drop (k + 1)) = CB.lawExt run bl.2.1 (lines.drop (e + 1)) ∧ Ex F5 F ∧ Up F5 A5 F A ∧ σ = [some v1, some v2, some (.int 0), some vl, some (.ref p), some (.int (k : Nat)), some vr, some (.int (e : Nat))])
          ⟨_, k, b, rfl, hb, rfl, u6.a, u6, rfl⟩ ?_
        rintro m σ F7 A7 ⟨e, bl, rfl, hbl', hext, e57, u7, rfl⟩
        have e17 : Ex F1 F7 := (e14.trans u5.a).trans e57
        have hrun7 : oRun F7 vr run := mono_run _ _ _ _ (u5.a.trans e57) hrun
        refine ⟨u7.c, ?_⟩
        have fin : CB.lawExt run b.2.1 (lines.drop (k + 1)) = bl.2.1 → ∀ F8 A8, Up F7 A7 F8 A8 → tDrop (tBM K "list" rAppend (tVar 4) (tCons (tTup (tCons (tOp (rIxT K) (tOp (rIxL K) (tVar 3) (tVar 5)) (tC (.int 0))) (tCons (tOp (rIxT K) (tVar 6) (tC (.int 0))) (tCons (tOp (rIxT K) (tOp (rIxL K) (tVar 3) (tVar 7)) (tC (.int 1))) (tCons (tOp (rIxT K) (tVar 6) (tC (.int 1))) tNil))))) tNil))
            { nx := fun σ3 A3 => ∃ F3, (Ex B' F3 ∧ Ex F1 F3 ∧ Up H0 H F3 A3 ∧ Grow oBT p F3 A3 (xs ++ ((b.2.2.take (j + 1)).filter fun run => decide (run ∉ CB.prevR lines k)).map fun run => ⟨b.1, run.1, CB.lawExt run b.2.1 (lines.drop (k + 1)), run.2⟩) ∧ ∃ y6 y7, σ3 = [some v1, some v2, some (.int 0), some vl, some (.ref p), some (.int (k : Nat)), y6, y7]), rt := Q } [some v1, some v2, some (.int 0), some vl, some (.ref p), some (.int (k : Nat)), some vr, some (.int (e : Nat))] A8 := fun hfin F8 A8 u8 => by
          have e18 := e17.trans u8.a
          have hrun8 := mono_run _ _ _ _ u8.a hrun7
          have g8 := (g5.up mono_bt u7).up mono_bt u8
          refine st_appG mono_bt u8.c g8 rfl hlen (x := ⟨b.1, run.1, bl.2.1, run.2⟩) (gv_bt (gv_bd0 (lnAt hb rfl e18 fun _ _ => gv_var (i := 5) rfl rfl)) (fun F9 e9 => gv_fst mono_int (gv_var (i := 6) rfl (mono_run _ _ _ _ e9 hrun8)) fun _ _ => gv_c rfl)
            (fun F9 e9 => gv_bd1 (lnAt hbl' rfl (e18.trans e9) fun _ _ => gv_var (i := 7) rfl rfl)) (fun F9 e9 => gv_snd mono_opt (gv_var (i := 6) rfl (mono_run _ _ _ _ e9 hrun8)) fun _ _ => gv_c rfl)) fun F9 A9 ws u9 np9 _ g9 => ?_
          refine ⟨F9, ((eB.trans u5.a).trans e57).trans (u8.a.trans u9.a), e18.trans u9.a, (((uu5.trans u7).trans u8).trans u9).touch nH np9, ?_, _, _, rfl⟩
          rw [← hmk _ hfin.symm]
          exact g9
        have elt : ∀ {F' : Hp}, Ex F7 F' → GT (tTest (tOp (rI0 fun i j => .bl (decide (i < j))) (tOp (rI0 fun i j => .int (i + j)) (tVar 7) (tC (.int 1))) (tCB (Evl.rLenS K) (tCons (tVar 3) tNil)))) [some v1, some v2, some (.int 0), some vl, some (.ref p), some (.int (k : Nat)), some vr, some (.int (e : Nat))] F' (decide (((e : Nat) : Int) + 1 < ((lines.length : Nat) : Int))) := fun {F'} e' =>
          gt_test (gv_opI (gv_opI (gv_var (i := 7) (P := fun v _ => v = .int (e : Nat)) rfl rfl) (fun _ _ => gv_c rfl) fun _ _ => rfl) (fun F'' e'' => gv_lenOf (gv_var (i := 3) rfl (mono_lst mono_band _ _ _ _ ((e17.trans e').trans e'') hvl))) fun _ _ => rfl)
        by_cases hE : e + 1 < lines.length
        · obtain ⟨bn, hbn⟩ : ∃ bn, lines[e + 1]? = some bn := ⟨lines[e + 1], List.getElem?_eq_getElem hE⟩
          refine ⟨decide (run ∈ bn.2.2), gt_is (gt_and (elt (Ex.refl _)) fun _ F8 e8 => gt_test (gv_runIn (x := run) (xs := bn.2.2) (gv_var (i := 6) rfl (mono_run _ _ _ _ e8 hrun7)) fun F9 e9 => gv_bd2 (lnAt hbn rfl ((e17.trans e8).trans e9) fun F10 e10 => gv_opI (i := ((e : Nat) : Int)) (j := 1) (gv_var (i := 7) rfl rfl) (fun _ _ => gv_c rfl) fun _ _ => rfl))) (by rw [decide_eq_true (by omega), Bool.true_and]), fun hin F8 A8 u8 => ?_, fun hout F8 A8 u8 => fin ?_ F8 A8 u8⟩
          · refine st_asg (P := fun v _ => v = .int ((e : Nat) + 1)) u8.c (gv_opI (i := ((e : Nat) : Int)) (j := 1) (gv_var (i := 7) rfl rfl) (fun _ _ => gv_c rfl) fun _ _ => rfl) fun v F9 A9 u9 hv => ?_
            subst hv
            exact ⟨lines.length - (e + 1), F9, by omega, e + 1, bn, rfl, hbn, by rw [hext]; exact CB.ext_in hbn (of_decide_eq_true hin), (e57.trans u8.a).trans u9.a, (u7.trans u8).trans u9, rfl⟩
          · rw [hext]
            exact CB.ext_out hbn (of_decide_eq_false hout)
        · refine ⟨false, gt_is (gt_and (b := false) (elt (Ex.refl _)) fun h => absurd (of_decide_eq_true h) (by omega)) (by rw [Bool.and_false]), fun h => Bool.noConfusion h, fun _ F8 A8 u8 => fin ?_ F8 A8 u8⟩
          rw [hext]
          exact CB.ext_end (by omega)
      · refine ⟨F5, eB.trans u5.a, e14.trans u5.a, u4.trans u5, ?_, _, _, rfl⟩
        have h5 := g4.up mono_bt u5
        rw [htake, if_neg (by rw [hold]; decide), List.append_nil]
        exact h5
    · rintro B' σ F4 A4 ⟨eB, e14, u4, g4, y6, y7, rfl⟩
      rw [List.take_length] at g4
      exact ⟨F4, e14, u4, ⟨_, g4, by rw [CB.prevR_at hb, List.append_assoc]; exact hxs⟩, _, _, _, rfl⟩
  · rintro B σ F3 A3 ⟨e13, u3, ⟨xs, g3, hxs⟩, y5, y6, y7, rfl⟩
    rw [List.drop_length] at hxs
    have hxs : xs = CB.lawFold [] lines := by rw [← hxs]; exact (List.append_nil xs).symm
    subst hxs
    obtain ⟨F4, u4, e34, h4, _⟩ := g3.known mono_bt u3 nH
    refine ⟨.ref p, rfl, p, F4, CB.lawFold [] lines, rfl, u4.c, u4.n T (by rw [hT]; simp) nT, u4.b _ _ hT, h4, fun _ _ => trivial, by omega, fun v F5 A5 u5 h5 => q v F5 A5 ((u4.hid (by rw [hT]; simp) nT).trans u5) ?_⟩
    unfold CB.formLaw CB.sortB
    rw [hlines, ← leK_bLe]
    exact h5
end
end CW
namespace CW
open PySem PySem.Spec PyProof.Rows L2
open Evl (Ex Ex.refl Ex.trans Ex.new Ex.mut fresh_back)
section
variable {P : Program} {w : World} {K : PySem.W.Frag} {mg : Str → Option Value} {base : Heap} {f c T : Addr} {fd : FuncData}
/-! ### _law_form -/
def spLForm (T : Addr) : Sp := fun vs H1 Q _ => ∃ (v1 : V) (L : List CB.Blk) (F : Hp), vs = [v1] ∧ Ex F H1 ∧ F T = none ∧ H1 T = some (.tbl #[]) ∧ oLst oBT F v1 L ∧ L.length ≤ 31 ∧
  ∀ v F' H2, Up F (hide T H1) F' (hide T H2) → oLst oBT F' v (CB.formLaw L) → Q v H2
theorem scLForm : FnScope ["_law_blocks"] ["_law_blocks"] (defScope sLForm) := ⟨rfl, rfl, rfl, by decide +kernel, rfl, by decide +kernel, by decide +kernel⟩
theorem cal_lform (F : Fun K "_law_form" "_law_form" sLForm f fd) (g : mg "_law_form" = some (.ref f)) (cB : Cal P w K mg base "_law_form_by" 4 (spLFormBy T)) : Cal P w K mg base "_law_form" 5 (spLForm T) := by
  refine cal_mk F g scLForm (fun _ _ _ _ _ _ us hl => match us, hl with | [_], _ => rfl) (fun vs H Q E ⟨v1, L, H0, e, _⟩ => by rw [e]; rfl) fun cdv A outer s H vs Q E hr ⟨v1, L, H0, e, hx, nT, hT, hv1, hz, q⟩ => ?_
  subst e
  refine ⟨_, pss_one (ps_ret (pe_cal cB hr (by rfl) (pa_cons (pv 0) (pa_cons (pe_lst pa_nil) (pa_cons pe_int pa_nil))))), ?_⟩
  refine ⟨v1, rfl, Nat.zero_le _, fun p hp => ?_⟩
  have u := Up.new (o := .lst []) hx hp
  have ne : T ≠ p := fun z => by rw [z, hp] at hT; cases hT
  refine ⟨v1, .ref p, L, upd H0 p (.lst []), rfl, u.c, by rw [upd_ne ne]; exact nT, by rw [upd_ne ne]; exact hT, mono_lst mono_bt _ _ _ _ u.a hv1, ⟨p, [], rfl, upd_same, trivial⟩, hz, fun v F' H2 u2 h2 => q v F' H2 ((u.hid (by rw [hT]; simp) nT).trans u2) h2⟩
/-! ### _law_runs -/
def spLRuns : Sp := SpO (fun vs H (x : List CB.Blk × Int) => ∃ v, vs = [v, .int x.2] ∧ oLst oBT H v x.1 ∧ x.1.length ≤ 31) (fun x v H => oLst oRun H v (CB.lawRuns (CB.lawLines x.1) x.2))
theorem scLRuns : FnScope ["_law_blocks", "_law_row", "_law_top", "_law_bottom", "_law_runs_here"] ["_law_blocks", "_law_row"] (defScope sLRuns) := ⟨rfl, rfl, rfl, by decide +kernel, rfl, by decide +kernel, by decide +kernel⟩
theorem cal_lruns (F : Fun K "_law_runs" "_law_runs" sLRuns f fd) (g : mg "_law_runs" = some (.ref f)) (cR : Cal P w K mg base "_law_rows_of" 2 spLRows) : Cal P w K mg base "_law_runs" 3 spLRuns := by
  refine cal_mk F g scLRuns (fun _ _ _ _ _ _ us hl => match us, hl with | [_, _], _ => rfl) (fun vs H Q E ⟨x, H0, _, ⟨v, e, _⟩, _⟩ => by rw [e]; rfl) fun cdv A outer s H vs Q E hr ⟨⟨L, r⟩, H0, hx, ⟨v, e, hv, hz⟩, q⟩ => ?_
  subst e
  have hv : oLst oBT H0 v L := hv
  have hz : L.length ≤ 31 := hz
  refine ⟨_, pss_cons (ps_for PassesOwn.never rfl (pi_list (pe_cal cR hr (by rfl) (pa_cons (pv 0) (pa_cons (pe_lst pa_nil) (pa_cons pe_int pa_nil))))) (pg_tup rfl (pgs_cons (pg_name (i := 2) scLRuns.nd rfl (.inl rfl)) (pgs_cons (pg_name (i := 3) scLRuns.nd rfl (.inl rfl)) (pgs_cons (pg_name (i := 4) scLRuns.nd rfl (.inl rfl)) pgs_nil))))
      (pss_one (ps_if (PW.pt (pw_and (pt_cmpR op_le (pv 2) (pv 1) (nomark _)) (pw_and1 (PW.pt (pw_or (pt_cmp (pc_isN (pv 3)) rfl) (pw_or1 (pt_cmpR op_le (pv 1) (pv 3) (nomark _))))))))
        (pss_one (ps_ret (pv 4))) pss_nil)))
    (pss_one (ps_ret (pe_lst pa_nil))), ?_⟩
  refine sq_for mono_band hx (xs := CB.lawLines L) (gv_call (PA := fun vs H' => ∃ y, vs = [v, y, .int 0] ∧ Ex H0 H' ∧ oLst oBT H' y []) L (ga_cons (gv_var (i := 0) (P := fun x _ => x = v) rfl rfl) fun a H2 e2 h2 => ga_cons gv_nilL fun b H3 e3 h3 => ga_cons (gv_c (P := fun x _ => x = .int 0) rfl) fun d H4 e4 h4 => ga_nil ⟨b, by rw [h2, h4], (e2.trans e3).trans e4, mono_lst mono_bt _ _ _ _ e4 h3⟩)
    fun vs H2 e2 ⟨y, h2, e3, h3⟩ => ⟨v, y, by rw [h2]; rfl, mono_lst mono_bt _ _ _ _ e3 hv, h3, hz⟩)
    (fun B i σ F A => Ex B F ∧ Up H0 H F A ∧ CB.lawRuns (CB.lawLines L) r = CB.lawRuns ((CB.lawLines L).drop i) r ∧ ∃ y2 y3 y4, σ = [some v, some (.int r), y2, y3, y4])
    (fun B i σ F A ⟨e, u, _⟩ => ⟨e, u.c⟩) (fun F2 A2 u2 => ⟨Ex.refl _, u2, rfl, none, none, none, rfl⟩) ?_ ?_
  · rintro B i ⟨a, b, rs⟩ vb σ F2 A2 hi ⟨eB, u2, hno, y2, y3, y4, rfl⟩ ⟨p, x, y, z, rfl, hp, h1, h2, h3⟩
    have h1 : x = .int a := h1
    have h2 : y = oV b := h2
    have h3 : oLst oRun F2 z rs := h3
    subst h1 h2
    refine g_three (u2.c _ _ hp) ?_
    have hst : CB.lawRuns ((CB.lawLines L).drop i) r = if CB.inRb (a, b) r = true then rs else CB.lawRuns ((CB.lawLines L).drop (i + 1)) r := by
      rw [CB.drop_at hi]; rfl
    refine st_if u2.c (b := CB.inRb (a, b) r) (gt_is (gt_and (gt_le (i := 2) (j := 1) rfl rfl) fun _ H' e => gt_end (i := 3) (j := 1) rfl rfl) (CB.inRb_le a r b).symm) (fun hb F3 A3 u3 => ?_) (fun hb F3 A3 u3 => ?_)
    · refine st_ret (P := fun v F => oLst oRun F v rs) u3.c (gv_var (i := 4) rfl (mono_lst mono_run _ _ _ _ u3.a h3)) fun v' F4 A4 u4 p4 => q v' F4 A4 ((u2.trans u3).trans u4) ?_
      show oLst oRun F4 v' (CB.lawRuns (CB.lawLines L) r)
      rw [hno, hst, if_pos hb]
      exact p4
    · refine ⟨F3, eB.trans u3.a, u2.trans u3, ?_, _, _, _, rfl⟩
      rw [hno, hst, if_neg (by rw [hb]; decide)]
  · rintro B σ F2 A2 ⟨eB, u2, hno, y2, y3, y4, rfl⟩
    refine st_ret (P := fun v F => oLst oRun F v []) u2.c gv_nilL fun v' F4 A4 u4 p4 => q v' F4 A4 (u2.trans u4) ?_
    show oLst oRun F4 v' (CB.lawRuns (CB.lawLines L) r)
    rw [hno, List.drop_length]
    exact p4
/-- _law_runs(blocks, row) -/
theorem gv_lruns {σ : L2.St} {F : Hp} {ta te : TE} {L : List CB.Blk} {r : Int} (hz : L.length ≤ 31) (ha : Gv (ta σ) F (fun v F' => oLst oBT F' v L)) (hb : ∀ F', Ex F F' → Gv (te σ) F' (fun v _ => v = .int r)) : Gv (tCall spLRuns [] E0 (tCons ta (tCons te tNil)) σ) F (fun v F' => oLst oRun F' v (CB.lawRuns (CB.lawLines L) r)) :=
  gv_call (PA := fun vs H' => ∃ v, vs = [v, .int r] ∧ oLst oBT H' v L) (L, r) (ga_cons ha fun a H2 e2 h2 => ga_cons (hb H2 e2) fun b H3 e3 h3 => ga_nil ⟨a, by rw [h3], mono_lst mono_bt _ _ _ _ e3 h2⟩) fun vs H2 e2 ⟨v, h2, h3⟩ => ⟨v, by rw [h2]; rfl, h3, hz⟩
end
end CW
namespace CB
def rangeI (lo : Int) (n : Nat) : List Int := (List.range n).map fun (k : Nat) => lo + (k : Int)
theorem rangeI_at {lo : Int} {n k : Nat} (h : k < n) : (rangeI lo n)[k]? = some (lo + (k : Int)) := by
  unfold rangeI
  rw [List.getElem?_map, List.getElem?_range h]
  rfl
theorem rangeI_length {lo : Int} {n : Nat} : (rangeI lo n).length = n := by
  unfold rangeI
  rw [List.length_map, List.length_range]
theorem mem_rangeI {lo r : Int} {n : Nat} : r ∈ rangeI lo n ↔ lo ≤ r ∧ r < lo + (n : Int) := by
  unfold rangeI
  rw [List.mem_map]
  constructor
  · rintro ⟨k, h1, rfl⟩
    have := List.mem_range.mp h1
    omega
  · rintro ⟨h1, h2⟩
    exact ⟨(r - lo).toNat, List.mem_range.mpr (by omega), by show lo + ((r - lo).toNat : Int) = r; omega⟩
end CB
namespace CW
open PySem PySem.Spec PyProof.Rows L2
open Evl (Ex Ex.refl Ex.trans Ex.new Ex.mut fresh_back)
def dBT (b : CB.Blk) : PyData := .tuple [.int b.top, .int b.left, dOpt b.bottom, dOpt b.right]
theorem dp_bt {K : PySem.W.Frag} {H : Hp} {v : V} {b : CB.Blk} (h : oBT H v b) : Dp K H v (dBT b) := by
  obtain ⟨p, rfl, h1⟩ := h
  exact .tup (SqT.of h1) (.cons (.int _) (.cons (.int _) (.cons (dp_opt rfl) (.cons (dp_opt rfl) .nil))))
theorem lay_bT (b : CB.Blk) : (dBT b).canLay0 = true := by simp [dBT, PyData.canLay0, PyData.canLayAll0, lay_opt]
theorem depth_bT (b : CB.Blk) : (dBT b).depth = 1 := by simp [dBT, PyData.depth, PyData.depthAll, depth_opt]
theorem eqv_bT (a b : CB.Blk) : PyData.eqv (dBT a) (dBT b) = decide (a = b) := by
  obtain ⟨a1, a2, a3, a4⟩ := a
  obtain ⟨b1, b2, b3, b4⟩ := b
  have e : PyData.eqv (dBT ⟨a1, a2, a3, a4⟩) (dBT ⟨b1, b2, b3, b4⟩) = ((a1 == b1) && ((a2 == b2) && (PyData.eqv (dOpt a3) (dOpt b3) && (PyData.eqv (dOpt a4) (dOpt b4) && true)))) := by simp only [dBT, PyData.eqv, PyData.eqvAll]
  rw [e, eqv_opt, eqv_opt, Bool.and_true, Bool.beq_eq_decide_eq, Bool.beq_eq_decide_eq, ← Bool.decide_and, ← Bool.decide_and, ← Bool.decide_and]
  simp [CB.Blk.mk.injEq]
theorem dp_cell {K : PySem.W.Frag} {H : Hp} {v : V} {c : Int × Int} (h : oCell H v c) : Dp K H v (cellD c) := by
  obtain ⟨p, a, b, rfl, h1, h2, h3⟩ := h
  have h2 : a = .int c.1 := h2
  have h3 : b = .int c.2 := h3
  subst h2 h3
  exact .tup (SqT.of h1) (.cons (.int _) (.cons (.int _) .nil))
theorem lay_cell (c : Int × Int) : (cellD c).canLay0 = true := by simp [cellD, PyData.canLay0, PyData.canLayAll0]
theorem depth_cell (c : Int × Int) : (cellD c).depth = 1 := by simp [cellD, PyData.depth, PyData.depthAll]
theorem eqv_cell (a b : Int × Int) : PyData.eqv (cellD a) (cellD b) = decide (a = b) := by
  obtain ⟨a1, a2⟩ := a
  obtain ⟨b1, b2⟩ := b
  have e : PyData.eqv (cellD (a1, a2)) (cellD (b1, b2)) = ((a1 == b1) && ((a2 == b2) && true)) := by simp only [cellD, PyData.eqv, PyData.eqvAll]
  rw [e, Bool.and_true, Bool.beq_eq_decide_eq, Bool.beq_eq_decide_eq, ← Bool.decide_and]
  simp [Prod.ext_iff]
theorem dp_int {K : PySem.W.Frag} {H : Hp} {v : V} {i : Int} (h : oInt H v i) : Dp K H v (.int i) := by
  have h : v = .int i := h
  subst h
  exact .int _
theorem lay_int (i : Int) : (PyData.int i).canLay0 = true := by simp [PyData.canLay0]
theorem depth_int (i : Int) : (PyData.int i).depth = 0 := by simp [PyData.depth]
theorem eqv_int (a b : Int) : PyData.eqv (.int a) (.int b) = decide (a = b) := by
  simp only [PyData.eqv]
  exact Bool.beq_eq_decide_eq _ _
section
variable {K : PySem.W.Frag} {σ : L2.St} {F A : Hp} {ta te : TE} {tA : TA} {D : Ends} {tz tb : TS} {t : TT} {g : TG}
/-- x != y, tuples -/
theorem gv_neX {α : Type} [DecidableEq α] {Po : Obs α} (hPo : Mono Po) {d : α → PyData} (hd : ∀ H v x, Po H v x → Dp K H v (d x)) (hl : ∀ x, (d x).canLay0 = true) (h2 : ∀ x, (d x).depth ≤ 60) (he : ∀ a b, PyData.eqv (d a) (d b) = decide (a = b))
    {x y : α} (ha : Gv (ta σ) F (fun v H' => Po H' v x)) (hb : ∀ H', Ex F H' → Gv (te σ) H' (fun v H' => Po H' v y)) : Gv (tOp (rNeD K) ta te σ) F (fun v _ => v = .bl (!decide (x = y))) :=
  gv_op ha (fun _ H' e _ => hb H' e) fun v w H' H'' e e' h1 h3 => fun H1 e1 Q q =>
    ⟨d x, d y, hd _ _ _ (hPo _ _ _ _ (e'.trans e1) h1), hd _ _ _ (hPo _ _ _ _ e1 h3), shaped_of (hl x) (by have := h2 x; omega), shaped_of (hl y) (by have := h2 y; omega), q _ H'' H1 (Up.refl e1) (by rw [he])⟩
theorem gv_neRun {x y : CB.Run} (ha : Gv (ta σ) F (fun v H' => oRun H' v x)) (hb : ∀ H', Ex F H' → Gv (te σ) H' (fun v H' => oRun H' v y)) : Gv (tOp (rNeD K) ta te σ) F (fun v _ => v = .bl (!decide (x = y))) :=
  gv_neX mono_run (d := dRun) (fun H v x => dp_run) lay_run (fun x => by rw [depth_run]; decide) eqv_run ha hb
theorem gv_neBlk {x y : CB.Blk} (ha : Gv (ta σ) F (fun v H' => oBT H' v x)) (hb : ∀ H', Ex F H' → Gv (te σ) H' (fun v H' => oBT H' v y)) : Gv (tOp (rNeD K) ta te σ) F (fun v _ => v = .bl (!decide (x = y))) :=
  gv_neX mono_bt (d := dBT) (fun H v x => dp_bt) lay_bT (fun x => by rw [depth_bT]; decide) eqv_bT ha hb
theorem gv_neBlks {x y : List CB.Blk} (ha : Gv (ta σ) F (fun v H' => oLst oBT H' v x)) (hb : ∀ H', Ex F H' → Gv (te σ) H' (fun v H' => oLst oBT H' v y)) : Gv (tOp (rNeD K) ta te σ) F (fun v _ => v = .bl (!decide (x = y))) :=
  gv_neL mono_bt (d := dBT) (fun H v x => dp_bt) lay_bT (n := 1) (by decide) (fun x => Nat.le_of_eq (depth_bT x)) eqv_bT ha hb
theorem gv_neCells {x y : List (Int × Int)} (ha : Gv (ta σ) F (fun v H' => oLst oCell H' v x)) (hb : ∀ H', Ex F H' → Gv (te σ) H' (fun v H' => oLst oCell H' v y)) : Gv (tOp (rNeD K) ta te σ) F (fun v _ => v = .bl (!decide (x = y))) :=
  (gv_neL (mono_tup2 mono_int mono_int) (d := cellD) (fun H v x => dp_cell) lay_cell (n := 1) (by decide) (fun x => Nat.le_of_eq (depth_cell x)) eqv_cell ha hb).imp fun v H' _ h => by rw [h]
theorem gv_neInts {x y : List Int} (ha : Gv (ta σ) F (fun v H' => oLst oInt H' v x)) (hb : ∀ H', Ex F H' → Gv (te σ) H' (fun v H' => oLst oInt H' v y)) : Gv (tOp (rNeD K) ta te σ) F (fun v _ => v = .bl (!decide (x = y))) :=
  gv_neL mono_int (d := fun i => .int i) (fun H v x => dp_int) lay_int (n := 0) (by decide) (fun x => Nat.le_of_eq (depth_int x)) eqv_int ha hb
/-- [.. for i in range(lo, hi) if ..] -/
theorem gv_lcR2 {β : Type} {Ro : Obs β} (hRo : Mono Ro) {lo hi : Int} (n : Nat) (f : Int → Option β) {vs : List Nat} (hn : n ≤ 100000) (hlo : -100000 ≤ lo ∧ lo ≤ 100000) (hhi : -100000 ≤ hi ∧ hi ≤ 100000 ∧ (hi - lo).toNat = n) (h : Gv (tA σ) F (fun vs _ => vs = [.int lo, .int hi]))
    (turn : ∀ (k : Nat) F1 A1, Ex F F1 → Ex F1 A1 → k < n → ∃ σ2, (∀ Q : L2.St → Hp → Prop, Q σ2 A1 → g (.int (lo + (k : Int))) (wipe σ vs) A1 Q) ∧ wipe σ2 vs = wipe σ vs ∧ GT t σ2 F1 (f (lo + (k : Int))).isSome ∧ ∀ y, f (lo + (k : Int)) = some y → ∀ F', Ex F1 F' → Gv (te σ2) F' (fun w F2 => Ro F2 w y)) :
    Gv (tLc (iRng2 tA) g t te vs σ) F (fun v H1 => oLst Ro H1 v ((CB.rangeI lo n).filterMap f)) := fun H1 e Q q => h H1 e _ fun v F1 A1 u p => by
  subst p
  obtain ⟨k1, k2, rfl⟩ := hhi
  refine ⟨lo, hi, rfl, ⟨by omega, by omega, by omega, by omega⟩, fun Dl hD => ?_⟩
  refine lc_range (lo := lo) (n := (hi - lo).toNat) (fun i A' => ∃ F' acc, Ex F1 F' ∧ Ex F' A' ∧ Ex A1 A' ∧ F' Dl = none ∧ (∀ p, A1 p ≠ none → F1 p = none → F' p = none) ∧ A' Dl = some (.lst acc) ∧ acc.length ≤ i ∧ Items Ro F' acc (((CB.rangeI lo (hi - lo).toNat).take i).filterMap f))
    ⟨F1, [], Ex.refl _, Ex.touch u.c (none_of_ex u.c hD), Ex.new hD, none_of_ex u.c hD, fun _ _ z => z, upd_same, Nat.le_refl _, trivial⟩ (fun i A' hil ⟨F', acc, e1, e2, e3, nD, nn, hacc, hlen, its⟩ => ?_) fun A' ⟨F', acc, e1, e2, e3, nD, nn, hacc, hlen, its⟩ => ?_
  · have hx1 := CB.rangeI_at (lo := lo) hil
    obtain ⟨σ2, hg, hw, ht, he⟩ := turn i F' A' (u.a.trans e1) e2 hil
    refine hg _ ⟨hw, ht A' e2 _ fun b F2 A2 u2 hb => ?_⟩
    subst hb
    cases hf : f (lo + (i : Int)) with
    | none =>
      refine iteF ⟨F2, acc, e1.trans u2.a, u2.c, e3.trans u2.b, u2.n _ (fun z => by rw [hacc] at z; cases z) nD, fun p h1 h2 => u2.n p (fun z => ?_) (nn p h1 h2), u2.b _ _ hacc, by omega, ?_⟩
      · cases w : A1 p with
        | none => exact h1 w
        | some o => rw [e3 p o w] at z; cases z
      · rw [filterMap_take f hx1, hf]
        show Items Ro F2 acc (_ ++ [])
        rw [List.append_nil]
        exact its.mono hRo u2.a
    | some z =>
      refine iteT (he z hf F2 u2.a A2 u2.c _ fun w F3 A3 u3 hw3 => ?_)
      have hacc3 := u3.b _ _ (u2.b _ _ hacc)
      have nD3 : F3 Dl = none := u3.n _ (fun z => by rw [u2.b _ _ hacc] at z; cases z) (u2.n _ (fun z => by rw [hacc] at z; cases z) nD)
      refine ⟨acc, hacc3, Nat.lt_of_lt_of_le (show acc.length < 100001 by omega) (by decide), F3, acc ++ [w], (e1.trans u2.a).trans u3.a, Ex.touch u3.c nD3, Ex.mut ((e3.trans u2.b).trans u3.b) hD, nD3, fun p h1 h2 => ?_, upd_same, by rw [List.length_append]; show acc.length + 1 ≤ i + 1; omega, ?_⟩
      · have k1 : A' p ≠ none := fun z => by
          cases w : A1 p with
          | none => exact h1 w
          | some o => rw [e3 p o w] at z; cases z
        have k2 : A2 p ≠ none := fun z => by
          cases w : A' p with
          | none => exact k1 w
          | some o => rw [u2.b p o w] at z; cases z
        exact u3.n p k2 (u2.n p k1 (nn p h1 h2))
      · rw [filterMap_take f hx1, hf]
        exact Items.snoc hw3 (its.mono hRo (u2.a.trans u3.a))
  · rw [List.take_of_length_le (by rw [CB.rangeI_length]; exact Nat.le_refl _)] at its
    refine q _ (upd F' Dl (.lst acc)) A' ⟨(u.a.trans e1).trans (Ex.new nD), u.b.trans e3, Ex.known e2 hacc, fun p h1 h2 => ?_⟩ ⟨Dl, acc, rfl, upd_same, its.mono hRo (Ex.new nD)⟩
    have k1 : A1 p ≠ none := fun z => by
      cases w : H1 p with
      | none => exact h1 w
      | some o => rw [u.b p o w] at z; cases z
    have hne : p ≠ Dl := fun z => k1 (by rw [z]; exact hD)
    rw [upd_ne hne]
    exact nn p k1 (u.n p h1 h2)
end
end CW
namespace CB
/-- the runs of a row as the law seeks them -/
abbrev runsAt (L : List Blk) (r : Int) : List Run := lawRuns (lawLines L) r
def noRun (L : List Blk) (run : Run) (r : Int) : Option Int := if run ∈ runsAt L r then none else some r
def apartB (L : List Blk) (one other : Blk) : Bool :=
  if other.cols = one.cols then !decide ((rangeI one.top (other.top + 1 - one.top).toNat).filterMap (noRun L one.cols) = []) else true
def newRun (ahead : List Run) (run : Run) : Option Run := if run ∈ ahead then none else some run
def aheadAt (L : List Blk) : Nat → List Run
  | 0 => []
  | k + 1 => runsAt L (1 + (k : Int))
def fewUp (L : List Blk) : Nat → Nat
  | 0 => 0
  | k + 1 => fewUp L k + ((runsAt L (1 + (k : Int))).filterMap (newRun (aheadAt L k))).length
theorem runsAt_len {L : List Blk} (h : L.length ≤ 31) (r : Int) : (runsAt L r).length ≤ 63 := by
  have : ∀ lines : List Band, (∀ b ∈ lines, b.2.2.length ≤ 63) → (lawRuns lines r).length ≤ 63 := by
    intro lines
    induction lines with
    | nil => intro _; exact Nat.zero_le _
    | cons b rest ih =>
      intro hb
      show (if inRb (b.1, b.2.1) r = true then b.2.2 else lawRuns rest r).length ≤ 63
      split
      · exact hb b List.mem_cons_self
      · exact ih fun c hc => hb c (List.mem_cons_of_mem _ hc)
  exact this _ fun b hb => lawLines_runs h hb
theorem fewUp_len {L : List Blk} (h : L.length ≤ 31) : ∀ k, fewUp L k ≤ 63 * k
  | 0 => Nat.le_refl _
  | k + 1 => by
    have h1 := fewUp_len h k
    have h2 := runsAt_len h (1 + (k : Int))
    have h3 : ((runsAt L (1 + (k : Int))).filterMap (newRun (aheadAt L k))).length ≤ (runsAt L (1 + (k : Int))).length := List.length_filterMap_le _ _
    show fewUp L k + ((runsAt L (1 + (k : Int))).filterMap (newRun (aheadAt L k))).length ≤ _
    rw [Nat.mul_succ]
    omega
end CB
namespace CW
open PySem PySem.Spec PyProof.Rows L2
open Evl (Ex Ex.refl Ex.trans Ex.new Ex.mut fresh_back)
section
variable {P : Program} {w : World} {K : PySem.W.Frag} {mg : Str → Option Value} {base : Heap} {f c T : Addr} {fd : FuncData}
/-! ### _law_apart -/
def spLApart : Sp := SpO (fun vs H (x : List CB.Blk × CB.Blk × CB.Blk) => ∃ v v1 v2, vs = [v, v1, v2] ∧ oLst oBT H v x.1 ∧ oBT H v1 x.2.1 ∧ oBT H v2 x.2.2 ∧ x.1.length ≤ 31 ∧ (-1000 ≤ x.2.1.top ∧ x.2.1.top ≤ 1000) ∧ (-1000 ≤ x.2.2.top ∧ x.2.2.top ≤ 1000)) (fun x v _ => v = .bl (CB.apartB x.1 x.2.1 x.2.2))
abbrev NAp : List Str := ["_law_blocks", "_law_one", "_law_other", "_law_run", "_law_row"]
theorem scLApart : FnScope NAp ["_law_blocks", "_law_one", "_law_other"] (defScope sLApart) := ⟨rfl, rfl, rfl, by decide +kernel, rfl, by decide +kernel, by decide +kernel⟩
theorem cal_lapart (F : Fun K "_law_apart" "_law_apart" sLApart f fd) (g : mg "_law_apart" = some (.ref f)) (cR : Cal P w K mg base "_law_runs" 3 spLRuns) (m1 : mg "range" = none) : Cal P w K mg base "_law_apart" 4 spLApart := by
  refine cal_mk F g scLApart (fun _ _ _ _ _ _ us hl => match us, hl with | [_, _, _], _ => rfl) (fun vs H Q E ⟨x, H0, _, ⟨v, v1, v2, e, _⟩, _⟩ => by rw [e]; rfl) fun cdv A outer s H vs Q E hr ⟨⟨L, one, other⟩, H0, hx, ⟨v, v1, v2, e, hv, hv1, hv2, hz, ht1, ht2⟩, q⟩ => ?_
  subst e
  have hv : oLst oBT H0 v L := hv
  have hz : L.length ≤ 31 := hz
  have hv1 : oBT H0 v1 one := hv1
  have hv2 : oBT H0 v2 other := hv2
  have ht1 : -1000 ≤ one.top ∧ one.top ≤ 1000 := ht1
  have ht2 : -1000 ≤ other.top ∧ other.top ≤ 1000 := ht2
  refine ⟨_, pss_cons (ps_set (i := 3) scLApart.nd rfl (.inr rfl) (pe_tup (pa_cons (pe_ix ix_tup (pv 1) pe_int (fun _ _ => rfl)) (pa_cons (pe_ix ix_tup (pv 1) pe_int (fun _ _ => rfl)) pa_nil))))
    (pss_cons (ps_if (pt_cmpR (op_neD (roomU hr (by decide))) (pe_tup (pa_cons (pe_ix ix_tup (pv 2) pe_int (fun _ _ => rfl)) (pa_cons (pe_ix ix_tup (pv 2) pe_int (fun _ _ => rfl)) pa_nil))) (pv 3) (nomark _)) (pss_one (ps_ret pe_bl)) pss_nil)
    (pss_one (ps_ret (pe_cmpR (op_neD (roomU hr (by decide))) (pe_lc (g := gName 4) (tt := tTest (tOp (rNotInD K) (tVar 3) (tCall spLRuns [] E0 (tCons (tVar 0) (tCons (tVar 4) tNil))))) (te := tVar 4) (own := [("_law_row", 4)]) (by rfl) scLApart.nd
        (pi_range2 (by rfl) m1 (pa_cons (pe_ix ix_tup (pv 1) pe_int (fun _ _ => rfl)) (pa_cons (pe_op op_add (pe_ix ix_tup (pv 2) pe_int (fun _ _ => rfl)) pe_int) pa_nil))) (blkOk_by (N := NAp) (sc := defScope sLApart) (by decide +kernel))
        (fun _ _ _ _ _ => pg_name (i := 4) scLApart.nd rfl (Or.inl rfl)) (fun _ _ _ _ _ => pts_one (pt_cmpR (op_notInD (roomU hr (by decide))) (pv 3) (pe_cal cR hr (by rfl) (pa_cons (pv 0) (pa_cons (pv 4) pa_nil))) (by rfl))) (fun _ _ _ _ _ => pv 4)) (pe_lst pa_nil) (nomark _))))), ?_⟩
  refine sq_asg (P := fun v F => oRun F v one.cols) hx (gv_pair mono_int mono_opt (gv_bt1 (gv_var (i := 1) rfl hv1)) fun F' e' => gv_bt3 (gv_var (i := 1) rfl (mono_bt _ _ _ _ e' hv1))) fun vr F1 A1 u1 hvr => ?_
  refine sq_when (b := !decide (other.cols = one.cols)) u1.c (gt_test (gv_neRun (x := other.cols) (y := one.cols) (gv_pair mono_int mono_opt (gv_bt1 (gv_var (i := 2) rfl (mono_bt _ _ _ _ u1.a hv2))) fun F' e' => gv_bt3 (gv_var (i := 2) rfl (mono_bt _ _ _ _ (u1.a.trans e') hv2))) fun F' e' => gv_var (i := 3) rfl (mono_run _ _ _ _ e' hvr))) (fun hb F2 A2 u2 => ?_) (fun hb F2 A2 u2 => ?_)
  · refine q (.bl true) F2 A2 (u1.trans u2) ?_
    show V.bl true = V.bl (CB.apartB L one other)
    unfold CB.apartB
    rw [if_neg fun z => by rw [decide_eq_true z] at hb; cases hb]
  · have hb : other.cols = one.cols := by simpa using hb
    have e2 := u1.a.trans u2.a
    have comp : Gv (tLc (iRng2 (tCons (tOp (rIxT K) (tVar 1) (tC (.int 0))) (tCons (tOp (rI0 fun i j => .int (i + j)) (tOp (rIxT K) (tVar 2) (tC (.int 0))) (tC (.int 1))) tNil))) (gName 4) (tTest (tOp (rNotInD K) (tVar 3) (tCall spLRuns [] E0 (tCons (tVar 0) (tCons (tVar 4) tNil))))) (tVar 4) [4] [some v, some v1, some v2, some vr, none]) F2 (fun v H' => oLst oInt H' v ((CB.rangeI one.top (other.top + 1 - one.top).toNat).filterMap (CB.noRun L one.cols))) := by
      refine gv_lcR2 mono_int (lo := one.top) (hi := other.top + 1) _ _ (by omega) (by omega) (by omega) (ga_cons (gv_bt0 (gv_var (i := 1) rfl (mono_bt _ _ _ _ e2 hv1))) fun a H3 e3 h3 => ga_cons (gv_opI (P := fun v _ => v = .int (other.top + 1)) (i := other.top) (j := 1) (gv_bt0 (gv_var (i := 2) rfl (mono_bt _ _ _ _ (e2.trans e3) hv2))) (fun _ _ => gv_c rfl) fun _ _ => rfl) fun b H4 e4 h4 => ga_nil (by rw [h3, h4])) fun k F3 A3 e3 x3 hk => ?_
      refine ⟨_, fun Q hQ => hQ, rfl, gt_is (gt_test (gv_runOut (x := one.cols) (xs := CB.runsAt L (one.top + (k : Int))) (gv_var (i := 3) rfl (mono_run _ _ _ _ (u2.a.trans e3) hvr)) fun F4 e4 => gv_lruns hz (gv_var (i := 0) rfl (mono_lst mono_bt _ _ _ _ ((e2.trans e3).trans e4) hv)) fun _ _ => gv_var (i := 4) rfl rfl)) ?_, fun z hz F4 e4 => ?_⟩
      · unfold CB.noRun
        by_cases h : one.cols ∈ CB.runsAt L (one.top + (k : Int))
        · rw [decide_eq_true h, if_pos h]; rfl
        · rw [decide_eq_false h, if_neg h]; rfl
      · unfold CB.noRun at hz
        split at hz
        · cases hz
        · cases hz
          exact gv_var (i := 4) rfl rfl
    refine st_ret (P := fun v _ => v = .bl (!decide ((CB.rangeI one.top (other.top + 1 - one.top).toNat).filterMap (CB.noRun L one.cols) = []))) u2.c (gv_neInts comp fun _ _ => gv_nilL) fun v' F' A' u p => q v' F' A' ((u1.trans u2).trans u) ?_
    show v' = V.bl (CB.apartB L one other)
    unfold CB.apartB
    rw [if_pos hb, p]
/-! ### _law_fewest -/
def spLFew : Sp := SpO (fun vs H (x : List CB.Blk × Nat) => ∃ v, vs = [v, .int (x.2 : Nat)] ∧ oLst oBT H v x.1 ∧ x.1.length ≤ 31 ∧ x.2 ≤ 1000) (fun x v _ => v = .int (CB.fewUp x.1 x.2 : Nat))
abbrev NFew : List Str := ["_law_blocks", "_law_rows", "_law_many", "_law_ahead", "_law_row", "_law_runs_here", "_law_run"]
theorem scLFew : FnScope NFew ["_law_blocks", "_law_rows"] (defScope sLFew) := ⟨rfl, rfl, rfl, by decide +kernel, rfl, by decide +kernel, by decide +kernel⟩
theorem cal_lfew (F : Fun K "_law_fewest" "_law_fewest" sLFew f fd) (g : mg "_law_fewest" = some (.ref f)) (cR : Cal P w K mg base "_law_runs" 3 spLRuns) (m1 : mg "range" = none) (m2 : mg "len" = none) : Cal P w K mg base "_law_fewest" 4 spLFew := by
  refine cal_mk F g scLFew (fun _ _ _ _ _ _ us hl => match us, hl with | [_, _], _ => rfl) (fun vs H Q E ⟨x, H0, _, ⟨v, e, _⟩, _⟩ => by rw [e]; rfl) fun cdv A outer s H vs Q E hr ⟨⟨L, n⟩, H0, hx, ⟨v, e, hv, hz, hn⟩, q⟩ => ?_
  subst e
  have hv : oLst oBT H0 v L := hv
  have hz : L.length ≤ 31 := hz
  have hn : n ≤ 1000 := hn
  refine ⟨_, pss_cons (ps_set (i := 2) scLFew.nd rfl (.inl rfl) pe_int)
    (pss_cons (ps_set (i := 3) scLFew.nd rfl (.inr rfl) (pe_lst pa_nil))
    (pss_cons (ps_for PassesOwn.never rfl (pi_range2 (by rfl) m1 (pa_cons pe_int (pa_cons (pe_op op_add (pv 1) pe_int) pa_nil))) (pg_name (i := 4) scLFew.nd rfl (.inl rfl))
      (pss_cons (ps_set (i := 5) scLFew.nd rfl (.inl rfl) (pe_cal cR hr (by rfl) (pa_cons (pv 0) (pa_cons (pv 4) pa_nil))))
      (pss_cons (ps_set (i := 2) scLFew.nd rfl (.inl rfl) (pe_op op_add (pv 2) (pe_callB call_len_seq (by rfl) m2 (by decide +kernel) (pa_cons
        (pe_lc (g := gName 6) (tt := tTest (tOp (rNotInD K) (tVar 6) (tVar 3))) (te := tVar 6) (own := [("_law_run", 6)]) (by rfl) scLFew.nd (pi_list (pv 5)) (blkOk_by (N := NFew) (sc := defScope sLFew) (by decide +kernel))
          (fun _ _ _ _ _ => pg_name (i := 6) scLFew.nd rfl (Or.inl rfl)) (fun _ _ _ _ _ => pts_one (pt_cmpR (op_notInD (roomU hr (by decide))) (pv 6) (pv 3) (by rfl))) (fun _ _ _ _ _ => pv 6)) pa_nil))))
      (pss_one (ps_set (i := 3) scLFew.nd rfl (.inr rfl) (pv 5))))))
    (pss_one (ps_ret (pv 2))))), ?_⟩
  refine sq_asg (P := fun v _ => v = .int 0) hx (gv_c rfl) fun v0 F1 A1 u1 h0 => ?_
  subst h0
  refine sq_asg (P := fun v F => oLst oRun F v []) u1.c gv_nilL fun va F2 A2 u2 hva => ?_
  refine sq_rng2 (i := 4) (lo := 1) (hi := (n : Int) + 1) n u2.c (by omega) (by omega) (by omega) (ga_cons (gv_c (P := fun v _ => v = .int 1) rfl) fun a H3 e3 h3 => ga_cons (gv_opI (P := fun v _ => v = .int ((n : Int) + 1)) (i := (n : Int)) (j := 1) (gv_var (i := 1) rfl rfl) (fun _ _ => gv_c rfl) fun _ _ => rfl) fun b H4 e4 h4 => ga_nil (by rw [h3, h4]))
    (fun B k σ F A => Up H0 H F A ∧ ∃ ya y4 y5, oLst oRun F ya (CB.aheadAt L k) ∧ σ = [some v, some (.int (n : Nat)), some (.int (CB.fewUp L k : Nat)), some ya, y4, y5, none])
    (fun F3 A3 u3 => ⟨(u1.trans u2).trans u3, va, none, none, mono_lst mono_run _ _ _ _ u3.a hva, rfl⟩) ?_ ?_
  · rintro B k σ F3 A3 hk ⟨u3, ya, y4, y5, hya, rfl⟩
    refine sq_asg (P := fun v F => oLst oRun F v (CB.runsAt L (1 + (k : Int)))) u3.c (gv_lruns hz (gv_var (i := 0) rfl (mono_lst mono_bt _ _ _ _ u3.a hv)) fun _ _ => gv_var (i := 4) rfl rfl) fun vr F4 A4 u4 hvr => ?_
    have comp : ∀ {G : Hp}, Ex F4 G → Gv (tLc (iList K (tVar 5)) (gName 6) (tTest (tOp (rNotInD K) (tVar 6) (tVar 3))) (tVar 6) [6] [some v, some (.int (n : Nat)), some (.int (CB.fewUp L k : Nat)), some ya, some (.int (1 + (k : Int))), some vr, none]) G (fun v H' => oLst oRun H' v ((CB.runsAt L (1 + (k : Int))).filterMap (CB.newRun (CB.aheadAt L k)))) := fun {G} eG => by
      refine gv_lc mono_run mono_run (CB.newRun (CB.aheadAt L k)) (by have := CB.runsAt_len hz (1 + (k : Int)); omega) (gv_var (i := 5) rfl (mono_lst mono_run _ _ _ _ eG hvr)) fun y b F5 A5 eF e5 hb hy => ?_
      refine ⟨_, fun Q hQ => hQ, rfl, gt_is (gt_test (gv_runOut (x := b) (xs := CB.aheadAt L k) (gv_var (i := 6) rfl hy) fun F6 e6 => gv_var (i := 3) rfl (mono_lst mono_run _ _ _ _ (((u4.a.trans eG).trans eF).trans e6) hya))) ?_, fun z hz F6 e6 => ?_⟩
      · unfold CB.newRun
        by_cases h : b ∈ CB.aheadAt L k
        · rw [decide_eq_true h, if_pos h]; rfl
        · rw [decide_eq_false h, if_neg h]; rfl
      · unfold CB.newRun at hz
        split at hz
        · cases hz
        · cases hz
          exact gv_var (i := 6) rfl (mono_run _ _ _ _ e6 hy)
    refine sq_asg (P := fun v _ => v = .int (CB.fewUp L (k + 1) : Nat)) u4.c (gv_opI (i := ((CB.fewUp L k : Nat) : Int)) (j := ((((CB.runsAt L (1 + (k : Int))).filterMap (CB.newRun (CB.aheadAt L k))).length : Nat) : Int)) (gv_var (i := 2) rfl rfl) (fun F5 e5 => gv_lenOf (comp e5)) fun _ _ => rfl) fun v' F5 A5 u5 hv' => ?_
    subst hv'
    refine st_asg (P := fun v F => oLst oRun F v (CB.runsAt L (1 + (k : Int)))) u5.c (gv_var (i := 5) rfl (mono_lst mono_run _ _ _ _ u5.a hvr)) fun v'' F6 A6 u6 hv'' => ?_
    exact ⟨F6, ((u3.trans u4).trans u5).trans u6, v'', _, _, hv'', rfl⟩
  · rintro B σ F3 A3 ⟨u3, ya, y4, y5, hya, rfl⟩
    exact st_ret (P := fun v _ => v = .int (CB.fewUp L n : Nat)) u3.c (gv_var (i := 2) rfl rfl) fun v' F4 A4 u4 p4 => q v' F4 A4 (u3.trans u4) p4
end
end CW
namespace CB
/-- a cell of a window as a block -/
def winBlk (R C : Int) (down side : Bool) (r c : Int) : Blk := ⟨r, c, if (down && decide (r = R)) = true then none else some r, if (side && decide (c = C)) = true then none else some c⟩
def IsWin (L : List Blk) : Prop := ∃ (R C : Int) (down side : Bool), 1 ≤ R ∧ R ≤ 4 ∧ 1 ≤ C ∧ C ≤ 5 ∧ L.length ≤ 20 ∧ ∀ b ∈ L, ∃ r c, 1 ≤ r ∧ r ≤ R ∧ 1 ≤ c ∧ c ≤ C ∧ b = winBlk R C down side r c
end CB
namespace CW
open PySem PySem.Spec PyProof.Rows L2
open Evl (Ex Ex.refl Ex.trans Ex.new Ex.mut fresh_back)
/-- three numbers that are drawn off -/
def Src (H : Hp) (p : Addr) : Prop := ∃ a b c : Int, H p = some (.lst [.int a, .int b, .int c])
theorem Src.ne {H : Hp} {p : Addr} (s : Src H p) : H p ≠ none := fun z => by
  obtain ⟨a, b, c, h⟩ := s
  rw [h] at z; cases z
theorem hide_upd {p q : Addr} {A : Hp} {o : HO} (h : q ≠ p) : hide p (upd A q o) = upd (hide p A) q o := by
  funext b
  by_cases z : b = p
  · rw [z, hide_same, upd_ne (Ne.symm h), hide_same]
  · rw [hide_ne z]
    by_cases w : b = q
    · rw [w, upd_same, upd_same]
    · rw [upd_ne w, upd_ne w, hide_ne z]
theorem hide_upd_same {p : Addr} {A : Hp} {o : HO} : hide p (upd A p o) = hide p A := by
  funext b
  by_cases z : b = p
  · rw [z, hide_same, hide_same]
  · rw [hide_ne z, hide_ne z, upd_ne z]
theorem np_of {F A : Hp} {p : Addr} (e : Ex F (hide p A)) : F p = none := by
  cases h : F p with
  | none => rfl
  | some o => have := e p o h; rw [hide_same] at this; cases this
theorem ex_of {F A : Hp} {p : Addr} (e : Ex F (hide p A)) : Ex F A := e.trans ex_hide
/-- a value, the source drawn from perhaps -/
def Hv {α : Type} (p : Addr) (t : Hp → (α → Hp → Prop) → Prop) (F : Hp) (P : α → Hp → Prop) : Prop := ∀ A, Ex F (hide p A) → Src A p → ∀ Q : α → Hp → Prop, (∀ v F' A', Up F (hide p A) F' (hide p A') → Src A' p → P v F' → Q v A') → t A Q
section
variable {K : PySem.W.Frag} {σ : L2.St} {F A H0 H : Hp} {p : Addr} {ta te tb : TE} {D : Ends} {tz tu tw : TS} {P : V → Hp → Prop} {r : R2}
theorem Src.up {F' A' : Hp} (s : Src A p) (u : Up F A F' A') : Src A' p := by
  obtain ⟨a, b, c, h⟩ := s
  exact ⟨a, b, c, u.b _ _ h⟩
theorem hv_of (h : Gv (te σ) F P) : Hv p (te σ) F P := fun A e s Q q => h A (ex_of e) Q fun v F' A' u hp => q v F' A' (u.hid s.ne (np_of e)) (s.up u) hp
theorem hv_op {Pa Pb : V → Hp → Prop} (ha : Hv p (ta σ) F Pa) (hb : ∀ v F', Ex F F' → Pa v F' → Hv p (tb σ) F' Pb) (hr : ∀ v w F' F'', Ex F F' → Ex F' F'' → Pa v F' → Pb w F'' → Gv (r v w) F'' P) : Hv p (tOp r ta tb σ) F P := fun A e s Q q =>
  ha A e s _ fun v F' A' u s' hv => hb v F' u.a hv A' u.c s' _ fun w F'' A'' u' s'' hw => hr v w F' F'' u.a u'.a hv hw A'' (ex_of u'.c) Q fun x F3 A3 u3 hx => q x F3 A3 ((u.trans u').trans (u3.hid s''.ne (np_of u'.c))) (s''.up u3) hx
/-- a draw -/
theorem hv_next {i : Nat} {m : Int} (hi : σ[i]? = some (some (.ref p))) (hm : 0 < m ∧ m < 1000000) (hb : ∀ F', Ex F F' → Gv (tb σ) F' (fun v _ => v = .int m)) : Hv p (tCall spNext [] E0 (tCons (tVar i) (tCons tb tNil)) σ) F (fun v _ => ∃ r, v = .int r ∧ 0 ≤ r ∧ r < m) := fun A e s Q q =>
  ⟨.ref p, hi, hb F (Ex.refl _) A (ex_of e) _ fun v F' A' u hv => by
    subst hv
    have s' := s.up u
    have u' := u.hid s.ne (np_of e)
    obtain ⟨a, b, c, h⟩ := s'
    refine ⟨p, m, a, b, c, rfl, hm.1, hm.2, h, fun r a' b' c' h1 h2 => q (.int r) F' _ ?_ ⟨a', b', c', upd_same⟩ ⟨r, rfl, h1, h2⟩⟩
    rw [hide_upd_same]
    exact u'⟩
theorem sq_asgH {i : Nat} (hx : Ex F (hide p A)) (s : Src A p) (h : Hv p (te σ) F P) (k : ∀ v F' A', Up F (hide p A) F' (hide p A') → Src A' p → P v F' → tz D (σ.set i (some v)) A') : tSeq (tAsg te (gName i)) tz D σ A := h A hx s _ fun v F' A' u s' hp => k v F' A' u s' hp
theorem st_ifH (hx : Ex F (hide p A)) (s : Src A p) (h : Hv p (te σ) F (fun v _ => ∃ b, v = .bl b)) (h1 : ∀ F' A', Up F (hide p A) F' (hide p A') → Src A' p → tu D σ A') (h2 : ∀ F' A', Up F (hide p A) F' (hide p A') → Src A' p → tw D σ A') : tIfS (tTest te) tu tw D σ A := h A hx s _ fun v F' A' u s' ⟨b, hb⟩ => ⟨b, hb, by
  cases b with
  | true => exact h1 F' A' u s'
  | false => exact h2 F' A' u s'⟩
/-- [x, None][int(b)] -/
theorem gv_pick {t1 t2 : TE} {x : Int} {b : Bool} (h1 : Gv (t1 σ) F (fun v _ => v = .int x)) (h2 : ∀ F', Ex F F' → Gv (t2 σ) F' (fun v _ => v = .bl b)) :
    Gv (tOp (rIxL K) (tLst (tCons t1 (tCons (tC .non) tNil))) (tCB (fun xs H Q => (∃ i, xs = [V.int i] ∧ Q (.int i) H) ∨ ∃ k, xs = [V.bl k] ∧ Q (.int (if k then 1 else 0)) H) (tCons t2 tNil)) σ) F (fun v _ => v = oV (if b = true then none else some x)) := by
  refine gv_op (Pa := fun v F' => oLst oOpt F' v [some x, none]) (Pb := fun v _ => v = .int (if b then 1 else 0)) (gv_lst (PA := fun vs _ => vs = [.int x, .non]) (ga_cons h1 fun v F1 e1 q1 => ga_cons (gv_c (P := fun v _ => v = .non) rfl) fun v2 F2 e2 q2 => ga_nil (by rw [q1, q2])) (fun vs F' h => by rw [h]; show 2 ≤ 1000; decide) fun vs F' q _ h hq => ?_) (fun v F' e' _ => gv_cb (PA := fun vs _ => vs = [.bl b]) (ga_cons (h2 F' e') fun v F1 e1 q1 => ga_nil (by rw [q1])) fun vs F1 e1 h => ?_) fun v w F1 F2 e1 e2 h3 h4 => ?_
  · subst h
    exact ⟨q, _, rfl, upd_same, rfl, rfl, trivial⟩
  · subst h
    exact fun H1 e Q q => .inr ⟨b, rfl, q _ F1 H1 (Up.refl e) rfl⟩
  · subst h4
    cases b with
    | true => exact (gv_ixL (i := 1) (mono_lst mono_opt _ _ _ _ e2 h3) (y := none) rfl).imp fun v H3 _ h => h.1
    | false => exact (gv_ixL (i := 0) (mono_lst mono_opt _ _ _ _ e2 h3) (y := some x) rfl).imp fun v H3 _ h => h.1
end
section
variable {P : Program} {w : World} {K : PySem.W.Frag} {mg : Str → Option Value} {base : Heap} {f c T : Addr} {fd : FuncData}
/-! ### _law_window -/
def spLWin : Sp := fun vs H1 Q _ => ∃ (p : Addr) (F : Hp), vs = [.ref p] ∧ Ex F (hide p H1) ∧ Src H1 p ∧ ∀ v F' H2 L, Up F (hide p H1) F' (hide p H2) → Src H2 p → oLst oBT F' v L → CB.IsWin L → Q v H2
abbrev NWin : List Str := ["_law_source_here", "_law_rows", "_law_columns", "_law_down", "_law_side", "_law_found", "_law_row", "_law_column", "_law_bottom"]
theorem scLWin : FnScope NWin ["_law_source_here"] (defScope sLWin) := ⟨rfl, rfl, rfl, by decide +kernel, rfl, by decide +kernel, by decide +kernel⟩
theorem cal_lwin (F : Fun K "_law_window" "_law_window" sLWin f fd) (g : mg "_law_window" = some (.ref f)) (cN : Cal P w K mg base "_law_next" 2 spNext) (m1 : mg "range" = none) (m2 : mg "int" = none) : Cal P w K mg base "_law_window" 3 spLWin := by
  refine cal_mk F g scLWin (fun _ _ _ _ _ _ us hl => match us, hl with | [_], _ => rfl) (fun vs H Q E ⟨p, F, e, _⟩ => by rw [e]; rfl) fun cdv A outer s H vs Q E hr ⟨p, H0, e, hx, src, q⟩ => ?_
  subst e
  refine ⟨_, pss_cons (ps_set (i := 1) scLWin.nd rfl (.inl rfl) (pe_op op_add pe_int (pe_cal cN hr (by rfl) (pa_cons (pv 0) (pa_cons pe_int pa_nil)))))
    (pss_cons (ps_set (i := 2) scLWin.nd rfl (.inl rfl) (pe_op op_add pe_int (pe_cal cN hr (by rfl) (pa_cons (pv 0) (pa_cons pe_int pa_nil)))))
    (pss_cons (ps_set (i := 3) scLWin.nd rfl (.inl rfl) (pe_cmpR op_eq (pe_cal cN hr (by rfl) (pa_cons (pv 0) (pa_cons pe_int pa_nil))) pe_int (nomark _)))
    (pss_cons (ps_set (i := 4) scLWin.nd rfl (.inl rfl) (pe_cmpR op_eq (pe_cal cN hr (by rfl) (pa_cons (pv 0) (pa_cons pe_int pa_nil))) pe_int (nomark _)))
    (pss_cons (ps_set (i := 5) scLWin.nd rfl (.inl rfl) (pe_lst pa_nil))
    (pss_cons (ps_for PassesOwn.never rfl (pi_range2 (by rfl) m1 (pa_cons pe_int (pa_cons (pe_op op_add (pv 1) pe_int) pa_nil))) (pg_name (i := 6) scLWin.nd rfl (.inl rfl))
      (pss_one (ps_for PassesOwn.never rfl (pi_range2 (by rfl) m1 (pa_cons pe_int (pa_cons (pe_op op_add (pv 2) pe_int) pa_nil))) (pg_name (i := 7) scLWin.nd rfl (.inl rfl))
        (pss_one (ps_if (pt_cmpR op_gt (pe_cal cN hr (by rfl) (pa_cons (pv 0) (pa_cons pe_int pa_nil))) pe_int (nomark _))
          (pss_cons (ps_set (i := 8) scLWin.nd rfl (.inl rfl) (pe_ix ix_list (pe_lst (pa_cons (pv 6) (pa_cons pe_non pa_nil))) (pe_callTy call_int1 (by rfl) m2 (by decide +kernel) (pa_cons (pe_and (pv 3) (pe_one (pe_cmpR op_eq (pv 6) (pv 1) (nomark _)))) pa_nil)) (fun _ _ => rfl)))
          (pss_one (ps_expr (pe_bm PySem.F.plainAttrs_list PySem.F.slot_list_append PySem.F.type_list_append mt_append (pv 5) (pa_cons (pe_tup (pa_cons (pv 6) (pa_cons (pv 7) (pa_cons (pv 8) (pa_cons
            (pe_ix ix_list (pe_lst (pa_cons (pv 7) (pa_cons pe_non pa_nil))) (pe_callTy call_int1 (by rfl) m2 (by decide +kernel) (pa_cons (pe_and (pv 4) (pe_one (pe_cmpR op_eq (pv 7) (pv 2) (nomark _)))) pa_nil)) (fun _ _ => rfl)) pa_nil))))) pa_nil))))) pss_nil)))))
    (pss_one (ps_ret (pv 5)))))))), ?_⟩
  refine sq_asgH (P := fun v _ => ∃ R : Int, v = .int R ∧ 1 ≤ R ∧ R ≤ 4) hx src (hv_op (Pa := fun v _ => v = .int 1) (hv_of (gv_c rfl)) (fun v F' e hv => hv_next (m := 4) (i := 0) rfl (by decide) fun _ _ => gv_c rfl) fun v w F1 F2 e1 e2 hv ⟨r, hw, h1, h2⟩ => by subst hv hw; exact gv_I0 ⟨1 + r, rfl, by omega, by omega⟩) fun v1 F1 A1 u1 s1 ⟨R, e1, hR1, hR4⟩ => ?_
  subst e1
  refine sq_asgH (P := fun v _ => ∃ R : Int, v = .int R ∧ 1 ≤ R ∧ R ≤ 5) u1.c s1 (hv_op (Pa := fun v _ => v = .int 1) (hv_of (gv_c rfl)) (fun v F' e hv => hv_next (m := 5) (i := 0) rfl (by decide) fun _ _ => gv_c rfl) fun v w F1 F2 e1 e2 hv ⟨r, hw, h1, h2⟩ => by subst hv hw; exact gv_I0 ⟨1 + r, rfl, by omega, by omega⟩) fun v2 F2 A2 u2 s2 ⟨C, e2, hC1, hC5⟩ => ?_
  subst e2
  refine sq_asgH (P := fun v _ => ∃ b : Bool, v = .bl b) u2.c s2 (hv_op (hv_next (m := 2) (i := 0) rfl (by decide) fun _ _ => gv_c rfl) (fun v F' e hv => hv_of (gv_c (P := fun v _ => v = .int 1) rfl)) fun v w F1 F2 e1 e2 ⟨r, hv, h1, h2⟩ hw => by subst hv hw; exact gv_eq rfl ⟨_, rfl⟩) fun v3 F3 A3 u3 s3 ⟨down, e3⟩ => ?_
  subst e3
  refine sq_asgH (P := fun v _ => ∃ b : Bool, v = .bl b) u3.c s3 (hv_op (hv_next (m := 2) (i := 0) rfl (by decide) fun _ _ => gv_c rfl) (fun v F' e hv => hv_of (gv_c (P := fun v _ => v = .int 1) rfl)) fun v w F1 F2 e1 e2 ⟨r, hv, h1, h2⟩ hw => by subst hv hw; exact gv_eq rfl ⟨_, rfl⟩) fun v4 F4 A4 u4 s4 ⟨side, e4⟩ => ?_
  subst e4
  have U4 := ((u1.trans u2).trans u3).trans u4
  refine ⟨Nat.zero_le _, fun p5 np5 => ?_⟩
  have ne5 : p5 ≠ p := fun z => by rw [z] at np5; exact s4.ne np5
  have nh5 : hide p A4 p5 = none := by rw [hide_ne ne5]; exact np5
  have nH5 : hide p H p5 = none := none_of_ex U4.b nh5
  have nF5 : F4 p5 = none := none_of_ex U4.c nh5
  have U5 : Up H0 (hide p H) F4 (hide p (upd A4 p5 (.lst []))) := by
    rw [hide_upd ne5]
    exact U4.touch nH5 nF5
  have g5 : Grow oBT p5 F4 (hide p (upd A4 p5 (.lst []))) [] := by
    rw [hide_upd ne5]
    exact Grow.made nF5
  have s5 : Src (upd A4 p5 (.lst [])) p := by
    obtain ⟨a, b, c, h⟩ := s4
    exact ⟨a, b, c, by rw [upd_ne (Ne.symm ne5)]; exact h⟩
  generalize upd A4 p5 (.lst []) = A5 at U5 g5 s5 ⊢
  refine sq_rng2 (i := 6) (lo := 1) (hi := R + 1) R.toNat (ex_of U5.c) (by omega) (by omega) (by omega) (ga_cons (gv_c (P := fun v _ => v = .int 1) rfl) fun a H3 e3 h3 => ga_cons (gv_opI (P := fun v _ => v = .int (R + 1)) (i := R) (j := 1) (gv_var (i := 1) rfl rfl) (fun _ _ => gv_c rfl) fun _ _ => rfl) fun b H4 e4 h4 => ga_nil (by rw [h3, h4]))
    (fun B k σ F A => Up H0 (hide p H) F (hide p A) ∧ Src A p ∧ ∃ xs y6 y7 y8, Grow oBT p5 F (hide p A) xs ∧ xs.length ≤ 5 * k ∧ (∀ b ∈ xs, ∃ r c, 1 ≤ r ∧ r ≤ R ∧ 1 ≤ c ∧ c ≤ C ∧ b = CB.winBlk R C down side r c) ∧ σ = [some (.ref p), some (.int R), some (.int C), some (.bl down), some (.bl side), some (.ref p5), y6, y7, y8])
    (fun F6 A6 u6 => ⟨U5.trans (u6.hid s5.ne (np_of U5.c)), s5.up u6, [], none, none, none, g5.up mono_bt (u6.hid s5.ne (np_of U5.c)), Nat.zero_le _, fun b hb => absurd hb (by simp), rfl⟩) ?_ ?_
  · rintro B k σ F6 A6 hk ⟨u6, s6, xs, y6, y7, y8, g6, hl6, hall, rfl⟩
    refine st_rng2 (i := 7) (lo := 1) (hi := C + 1) C.toNat (ex_of u6.c) (by omega) (by omega) (by omega) (ga_cons (gv_c (P := fun v _ => v = .int 1) rfl) fun a H3 e3 h3 => ga_cons (gv_opI (P := fun v _ => v = .int (C + 1)) (i := C) (j := 1) (gv_var (i := 2) rfl rfl) (fun _ _ => gv_c rfl) fun _ _ => rfl) fun b H4 e4 h4 => ga_nil (by rw [h3, h4]))
      (fun B j σ F A => Up H0 (hide p H) F (hide p A) ∧ Src A p ∧ ∃ xs y7 y8, Grow oBT p5 F (hide p A) xs ∧ xs.length ≤ 5 * k + j ∧ (∀ b ∈ xs, ∃ r c, 1 ≤ r ∧ r ≤ R ∧ 1 ≤ c ∧ c ≤ C ∧ b = CB.winBlk R C down side r c) ∧ σ = [some (.ref p), some (.int R), some (.int C), some (.bl down), some (.bl side), some (.ref p5), some (.int (1 + (k : Int))), y7, y8])
      (fun F7 A7 u7 => ⟨u6.trans (u7.hid s6.ne (np_of u6.c)), s6.up u7, xs, _, _, g6.up mono_bt (u7.hid s6.ne (np_of u6.c)), hl6, hall, rfl⟩) ?_ ?_
    · rintro B' j σ F7 A7 hj ⟨u7, s7, ys, z7, z8, g7, hl7, hall7, rfl⟩
      refine st_ifH u7.c s7 (hv_op (hv_next (m := 3) (i := 0) rfl (by decide) fun _ _ => gv_c rfl) (fun v F' e hv => hv_of (gv_c (P := fun v _ => v = .int 0) rfl)) fun v w F1 F2 e1 e2 ⟨r, hv, h1, h2⟩ hw => by subst hv hw; exact gv_I0 ⟨_, rfl⟩) (fun F8 A8 u8 s8 => ?_) (fun F8 A8 u8 s8 => ?_)
      · have U8 := u7.trans u8
        have g8 := g7.up mono_bt u8
        refine sq_asg (P := fun v _ => v = oV (if (down && decide ((1 + (k : Int)) = R)) = true then none else some (1 + (k : Int)))) (ex_of U8.c) (gv_pick (gv_var (i := 6) rfl rfl) fun F' e' => gv_andV (gv_var (i := 3) rfl rfl) fun _ F'' e'' => gv_op (Pa := fun v _ => v = .int (1 + (k : Int))) (Pb := fun v _ => v = .int R) (gv_var (i := 6) rfl rfl) (fun _ _ _ _ => gv_var (i := 1) rfl rfl) fun x y H2 H3 e2 e3 h1 h2 => by subst h1 h2; exact gv_eq rfl (by simp)) fun v9 F9 A9 u9 h9 => ?_
        subst h9
        have U9 := U8.trans (u9.hid s8.ne (np_of U8.c))
        have s9 := s8.up u9
        have g9 := g8.up mono_bt (u9.hid s8.ne (np_of U8.c))
        obtain ⟨np9, ws, hws, its⟩ := g9
        have hne : p5 ≠ p := fun z => by rw [z, hide_same] at hws; cases hws
        have hws' : A9 p5 = some (.lst ws) := by rw [hide_ne hne] at hws; exact hws
        refine st_appG mono_bt (ex_of U9.c) (⟨np9, ws, hws', its⟩ : Grow oBT p5 F9 A9 ys) rfl (by omega) (x := CB.winBlk R C down side (1 + (k : Int)) (1 + (j : Int))) (gv_bt (gv_var (i := 6) rfl rfl) (fun _ _ => gv_var (i := 7) rfl rfl) (fun _ _ => gv_var (i := 8) rfl rfl)
          fun F' e' => gv_pick (gv_var (i := 7) rfl rfl) fun F' e' => gv_andV (gv_var (i := 4) rfl rfl) fun _ F'' e'' => gv_op (Pa := fun v _ => v = .int (1 + (j : Int))) (Pb := fun v _ => v = .int C) (gv_var (i := 7) rfl rfl) (fun _ _ _ _ => gv_var (i := 2) rfl rfl) fun x y H2 H3 e2 e3 h1 h2 => by subst h1 h2; exact gv_eq rfl (by simp)) fun F10 A10 ws' u10 np10 _ g10 => ?_
        have U10 := U9.trans (u10.hid s9.ne (np_of U9.c))
        have s10 := s9.up u10
        have ne10 : p5 ≠ p := hne
        refine ⟨F10, ?_, ?_, ys ++ [CB.winBlk R C down side (1 + (k : Int)) (1 + (j : Int))], _, _, ?_, by rw [List.length_append, List.length_singleton]; omega, fun b hb => ?_, rfl⟩
        · rw [hide_upd ne10]
          exact U10.touch nH5 np10
        · obtain ⟨a, b, c, h⟩ := s10
          exact ⟨a, b, c, by rw [upd_ne (Ne.symm ne10)]; exact h⟩
        · obtain ⟨k1, k2, k3, k4⟩ := g10
          refine ⟨k1, k2, ?_, k4⟩
          rw [hide_ne ne10]
          exact k3
        · rcases List.mem_append.mp hb with h | h
          · exact hall7 b h
          · rw [List.mem_singleton.mp h]
            exact ⟨_, _, by omega, by omega, by omega, by omega, rfl⟩
      · exact ⟨F8, u7.trans u8, s8, ys, _, _, g7.up mono_bt u8, by omega, hall7, rfl⟩
    · rintro B' σ F7 A7 ⟨u7, s7, ys, z7, z8, g7, hl7, hall7, rfl⟩
      exact ⟨F7, u7, s7, ys, _, _, _, g7, by omega, hall7, rfl⟩
  · rintro B σ F6 A6 ⟨u6, s6, xs, y6, y7, y8, g6, hl6, hall, rfl⟩
    obtain ⟨F7, u7, e67, h7, _⟩ := g6.known mono_bt u6 nH5
    exact ⟨.ref p5, rfl, q _ F7 A6 xs u7 s6 h7 ⟨R, C, down, side, hR1, hR4, hC1, hC5, by omega, hall⟩⟩
end
end CW
namespace CB
theorem win_len {L : List Blk} (h : IsWin L) : L.length ≤ 20 := by
  obtain ⟨R, C, down, side, _, _, _, _, h, _⟩ := h
  exact h
theorem win_bok {L : List Blk} (h : IsWin L) : ∀ b ∈ L, BOk b := by
  obtain ⟨R, C, down, side, _, _, _, _, _, h⟩ := h
  intro b hb
  obtain ⟨r, c, h1, h2, h3, h4, rfl⟩ := h b hb
  refine ⟨h1, h3, ?_, ?_⟩
  · intro x hx
    have hx : (if (down && decide (r = R)) = true then none else some r) = some x := hx
    show r ≤ x
    split at hx
    · cases hx
    · cases hx; exact Int.le_refl _
  · intro x hx
    have hx : (if (side && decide (c = C)) = true then none else some c) = some x := hx
    show c ≤ x
    split at hx
    · cases hx
    · cases hx; exact Int.le_refl _
theorem cells_app {D E : List Blk} (r c : Int) : cellsOf (D ++ E) r c ↔ cellsOf D r c ∨ cellsOf E r c := by
  unfold cellsOf
  constructor
  · rintro ⟨b, hb, h⟩
    rcases List.mem_append.mp hb with z | z
    · exact .inl ⟨b, z, h⟩
    · exact .inr ⟨b, z, h⟩
  · rintro (⟨b, hb, h⟩ | ⟨b, hb, h⟩)
    · exact ⟨b, List.mem_append_left _ hb, h⟩
    · exact ⟨b, List.mem_append_right _ hb, h⟩
theorem bok_app {D E : List Blk} (hD : ∀ b ∈ D, BOk b) (hE : ∀ b ∈ E, BOk b) : ∀ b ∈ D ++ E, BOk b := fun b hb => (List.mem_append.mp hb).elim (hD b) (hE b)
theorem form_bok' {D : List Blk} (hD : ∀ b ∈ D, BOk b) : ∀ b ∈ formOf D, BOk b := form_bok (dom_of hD) (formOf_ok hD)
theorem form_same_cells {D E : List Blk} (hD : ∀ b ∈ D, BOk b) (hE : ∀ b ∈ E, BOk b) (h : ∀ r c, cellsOf D r c ↔ cellsOf E r c) : formOf D = formOf E := ((formOf_ok hD).congr h).uniq (formOf_ok hE)
theorem form_join {D E : List Blk} (hD : ∀ b ∈ D, BOk b) (hE : ∀ b ∈ E, BOk b) : formOf (formOf D ++ formOf E) = formOf (D ++ E) :=
  form_same_cells (bok_app (form_bok' hD) (form_bok' hE)) (bok_app hD hE) fun r c => by
    rw [cells_app, cells_app, form_cells (dom_of hD) (hasRuns D) (formOf_ok hD), form_cells (dom_of hE) (hasRuns E) (formOf_ok hE)]
theorem form_perm {D E : List Blk} (hD : ∀ b ∈ D, BOk b) (h : ∀ b, b ∈ D ↔ b ∈ E) : formOf D = formOf E :=
  form_same_cells hD (fun b hb => hD b ((h b).mpr hb)) fun r c => by
    unfold cellsOf
    constructor
    · rintro ⟨b, hb, k⟩; exact ⟨b, (h b).mp hb, k⟩
    · rintro ⟨b, hb, k⟩; exact ⟨b, (h b).mpr hb, k⟩
theorem win_stay {L D : List Blk} {R C : Int} {down side : Bool} (hL : ∀ b ∈ L, ∃ r c, 1 ≤ r ∧ r ≤ R ∧ 1 ≤ c ∧ c ≤ C ∧ b = winBlk R C down side r c) (hD : ∀ b ∈ D, b ∈ L) {t : Int} (ht : R ≤ t) (hne : ∃ c, cellsOf D (t + 1) c) (c : Int) : cellsOf D t c ↔ cellsOf D (t + 1) c := by
  have rows : ∀ (r0 c0 r : Int), r0 ≤ R → (inR (winBlk R C down side r0 c0).rows r ↔ (r = r0 ∨ (down = true ∧ r0 = R ∧ R ≤ r))) := fun r0 c0 r h0 => by
    show (r0 ≤ r ∧ ∀ b, (if (down && decide (r0 = R)) = true then none else some r0) = some b → r ≤ b) ↔ _
    by_cases hd : (down && decide (r0 = R)) = true
    · rw [if_pos hd]
      have hd' := Bool.and_eq_true_iff.mp hd
      have h2 := of_decide_eq_true hd'.2
      simp [hd'.1, h2]
      omega
    · rw [if_neg hd]
      have hn : ¬ (down = true ∧ r0 = R ∧ R ≤ r) := fun ⟨z1, z2, _⟩ => hd (by rw [z1, decide_eq_true z2]; rfl)
      simp [hn]
      omega
  have hdown : down = true := by
    obtain ⟨c', b, hb, h1, _⟩ := hne
    obtain ⟨r0, c0, k1, k2, k3, k4, rfl⟩ := hL b (hD b hb)
    rcases (rows r0 c0 _ k2).mp h1 with z | z
    · omega
    · exact z.1
  constructor
  · rintro ⟨b, hb, h1, h2⟩
    obtain ⟨r0, c0, k1, k2, k3, k4, rfl⟩ := hL b (hD b hb)
    refine ⟨_, hb, (rows r0 c0 _ k2).mpr (.inr ⟨hdown, ?_⟩), h2⟩
    rcases (rows r0 c0 _ k2).mp h1 with z | z
    · omega
    · exact ⟨z.2.1, by omega⟩
  · rintro ⟨b, hb, h1, h2⟩
    obtain ⟨r0, c0, k1, k2, k3, k4, rfl⟩ := hL b (hD b hb)
    refine ⟨_, hb, (rows r0 c0 _ k2).mpr (.inr ⟨hdown, ?_⟩), h2⟩
    rcases (rows r0 c0 _ k2).mp h1 with z | z
    · omega
    · exact ⟨z.2.1, ht⟩
theorem win_side {L D : List Blk} {R C : Int} {down side : Bool} (hL : ∀ b ∈ L, ∃ r c, 1 ≤ r ∧ r ≤ R ∧ 1 ≤ c ∧ c ≤ C ∧ b = winBlk R C down side r c) (hD : ∀ b ∈ D, b ∈ L) {t l : Int} (hl : C < l) (h : cellsOf D t l) : cellsOf D t (l - 1) := by
  obtain ⟨b, hb, h1, h2⟩ := h
  obtain ⟨r0, c0, k1, k2, k3, k4, rfl⟩ := hL b (hD b hb)
  refine ⟨_, hb, h1, ?_⟩
  have h2 : c0 ≤ l ∧ ∀ b, (if (side && decide (c0 = C)) = true then none else some c0) = some b → l ≤ b := h2
  show c0 ≤ l - 1 ∧ ∀ b, (if (side && decide (c0 = C)) = true then none else some c0) = some b → l - 1 ≤ b
  exact ⟨by omega, fun b hb => by have := h2.2 b hb; omega⟩
theorem win_keys {L D : List Blk} (h : IsWin L) (hD : ∀ b ∈ D, b ∈ L) : ∀ b, IsForm (cellsOf D) b → 1 ≤ b.top ∧ b.top ≤ 4 ∧ 1 ≤ b.left ∧ b.left ≤ 5 := by
  intro b hb
  have hok := hb.ok (dom_of fun b hb => win_bok h b (hD b hb))
  obtain ⟨R, C, down, side, hR1, hR4, hC1, hC5, _, hL⟩ := h
  refine ⟨hok.t, ?_, hok.l, ?_⟩
  · refine Int.not_lt.mp fun hlt => hb.ahead ?_
    have hf := hb.first
    have e : cellsOf D (b.top - 1) = cellsOf D b.top := by
      funext c
      refine propext ?_
      have := win_stay hL hD (t := b.top - 1) (by omega) ⟨b.cols.1, by rw [Int.sub_add_cancel]; exact hf.all _ hf.val.first⟩ c
      rw [Int.sub_add_cancel] at this
      exact this
    rw [e]
    exact hf
  · refine Int.not_lt.mp fun hlt => ?_
    have hf := hb.first
    exact hf.ahead (win_side hL hD (show C < b.cols.1 by show C < b.left; omega) (hf.all _ hf.val.first))
theorem nat_len : ∀ (xs : List Nat) (a n : Nat), xs.Pairwise (· < ·) → (∀ x ∈ xs, a ≤ x ∧ x < n) → xs.length ≤ n - a
  | [], _, _, _, _ => Nat.zero_le _
  | x :: xs, a, n, hp, h => by
    obtain ⟨h1, h2⟩ := List.pairwise_cons.mp hp
    have hx := h x List.mem_cons_self
    have ih := nat_len xs (x + 1) n h2 fun y hy => ⟨h1 y hy, (h y (List.mem_cons_of_mem _ hy)).2⟩
    rw [List.length_cons]
    omega
theorem win_form {L D : List Blk} (h : IsWin L) (hD : ∀ b ∈ D, b ∈ L) : (formOf D).length ≤ 20 := by
  have hF := formOf_ok fun b hb => win_bok h b (hD b hb)
  have hk : ∀ b ∈ formOf D, 1 ≤ b.top ∧ b.top ≤ 4 ∧ 1 ≤ b.left ∧ b.left ≤ 5 := fun b hb => win_keys h hD b ((hF.mem b).mp hb)
  have := nat_len ((formOf D).map fun b => ((b.top - 1) * 5 + (b.left - 1)).toNat) 0 20 (List.pairwise_map.mpr (List.Pairwise.imp_of_mem (fun {a b} ha hb hab => by
    have h1 := hk a ha
    have h2 := hk b hb
    unfold bLt at hab
    omega) hF.ord)) fun x hx => by
      obtain ⟨b, hb, rfl⟩ := List.mem_map.mp hx
      have h1 := hk b hb
      omega
  rw [List.length_map] at this
  exact this
theorem form_one {b : Blk} (h : ∀ c ∈ [b], BOk c) : (formOf [b]).length ≤ 1 := by
  have hF := formOf_ok h
  have one : ∀ r c, cellsOf [b] r c ↔ inR b.rows r ∧ inR b.cols c := fun r c => by
    unfold cellsOf
    constructor
    · rintro ⟨x, hx, k⟩; rw [List.mem_singleton.mp hx] at k; exact k
    · intro k; exact ⟨b, List.mem_singleton.mpr rfl, k⟩
  have key : ∀ x ∈ formOf [b], x.top = b.top ∧ x.left = b.left := fun x hx => by
    have hf := (hF.mem x).mp hx
    have f1 := hf.first
    obtain ⟨k1, k2⟩ := (one _ _).mp (f1.all _ f1.val.first)
    have k11 : b.top ≤ x.top := k1.1
    have k21 : b.left ≤ x.left := k2.1
    constructor
    · by_cases z : x.top = b.top
      · exact z
      · refine absurd ?_ hf.ahead
        have e : cellsOf [b] (x.top - 1) = cellsOf [b] x.top := by
          funext c
          refine propext ?_
          rw [one, one]
          refine and_congr_left fun _ => ⟨fun _ => k1, fun _ => ⟨by show b.top ≤ x.top - 1; omega, fun y hy => by have := k1.2 y hy; omega⟩⟩
        rw [e]
        exact f1
    · by_cases z : x.left = b.left
      · exact z
      · refine absurd ((one _ _).mpr ⟨k1, ?_, fun y hy => ?_⟩) f1.ahead
        · show b.left ≤ x.left - 1
          omega
        · have : x.left ≤ y := k2.2 y hy
          show x.left - 1 ≤ y
          omega
  have ho := hF.ord
  cases hfo : formOf [b] with
  | nil => exact Nat.zero_le _
  | cons x xs =>
    cases xs with
    | nil => exact Nat.le_refl _
    | cons y ys =>
      rw [hfo] at ho key
      have h1 := key x List.mem_cons_self
      have h2 := key y (List.mem_cons_of_mem _ List.mem_cons_self)
      have h3 := (List.pairwise_cons.mp ho).1 y List.mem_cons_self
      unfold bLt at h3
      omega
theorem win_top {L : List Blk} (h : IsWin L) : ∀ b ∈ formLaw L, 1 ≤ b.top ∧ b.top ≤ 4 := fun b hb => by
  have := win_keys h (fun _ h => h) b (((formLaw_ok (win_bok h)).mem b).mp hb)
  exact ⟨this.1, this.2.1⟩
theorem runsAt_is {L : List Blk} (h : ∀ b ∈ L, BOk b) {r : Int} (hr : 1 ≤ r) : IsRuns (cellsOf L r) (runsAt L r) := lawRuns_ok _ 1 (lawLines_ok h) r hr
theorem win_runs {L : List Blk} (h : IsWin L) {b : Blk} (hb : b ∈ formLaw L) {r : Int} (h1 : b.top ≤ r) (h2 : leEnd r b.bottom = true) : b.cols ∈ runsAt L r := by
  have hf := ((formLaw_ok (win_bok h)).mem b).mp hb
  have ht := (win_top h b hb).1
  refine (runsAt_is (win_bok h) (by omega)).mem.mpr (hf.all r ⟨h1, fun x hx => ?_⟩)
  have hx : b.bottom = some x := hx
  rw [hx] at h2
  exact of_decide_eq_true h2
theorem win_apart {L : List Blk} (h : IsWin L) {a b : Blk} (ha : a ∈ formLaw L) (hb : b ∈ formLaw L) (ht : a.top ≤ b.top) (hne : a ≠ b) : apartB L a b = true := by
  unfold apartB
  by_cases hc : b.cols = a.cols
  · rw [if_pos hc]
    have fa := ((formLaw_ok (win_bok h)).mem a).mp ha
    have fb := ((formLaw_ok (win_bok h)).mem b).mp hb
    have ta := (win_top h a ha).1
    have hlt : a.top < b.top := by
      rcases Int.lt_or_eq_of_le ht with z | z
      · exact z
      · exact absurd (fa.key fb z (congrArg Prod.fst hc.symm)) hne
    have hno : a.cols ∉ runsAt L (b.top - 1) := fun z => fb.ahead (by rw [hc]; exact (runsAt_is (win_bok h) (by omega)).mem.mp z)
    have hm : b.top - 1 ∈ (rangeI a.top (b.top + 1 - a.top).toNat).filterMap (noRun L a.cols) := List.mem_filterMap.mpr ⟨b.top - 1, mem_rangeI.mpr ⟨by omega, by omega⟩, if_neg hno⟩
    have : ¬ (rangeI a.top (b.top + 1 - a.top).toNat).filterMap (noRun L a.cols) = [] := fun z => by rw [z] at hm; cases hm
    rw [decide_eq_false this]
    rfl
  · rw [if_neg hc]
theorem len_split (L : List Blk) (k : Int) : (L.filter fun b => decide (b.top ≤ k + 1)).length = (L.filter fun b => decide (b.top ≤ k)).length + (L.filter fun b => decide (b.top = k + 1)).length := by
  induction L with
  | nil => rfl
  | cons b L ih =>
    rw [List.filter_cons, List.filter_cons, List.filter_cons]
    by_cases h1 : b.top ≤ k
    · rw [if_pos (decide_eq_true (by omega)), if_pos (decide_eq_true h1), if_neg (by simp; omega), List.length_cons, List.length_cons, ih]
      omega
    · by_cases h2 : b.top = k + 1
      · rw [if_pos (decide_eq_true (by omega)), if_neg (by simp; omega), if_pos (decide_eq_true h2), List.length_cons, List.length_cons, ih]
        omega
      · rw [if_neg (by simp; omega), if_neg (by simp; omega), if_neg (by simp; omega), ih]
theorem aheadAt_mem {L : List Blk} (h : ∀ b ∈ L, BOk b) (k : Nat) (run : Run) : run ∈ aheadAt L k ↔ IsRun (cellsOf L (k : Int)) run := by
  cases k with
  | zero =>
    constructor
    · intro z; cases z
    · intro z
      have := (dom_of h _ _ (z.all _ z.val.first)).1
      exact absurd this (by decide)
  | succ k =>
    have e : ((k + 1 : Nat) : Int) = 1 + (k : Int) := by omega
    rw [e]
    exact (runsAt_is h (by omega)).mem
theorem few_step {L : List Blk} (h : ∀ b ∈ L, BOk b) (k : Nat) : ((formLaw L).filter fun b => decide (b.top = (k : Int) + 1)).length = ((runsAt L (1 + (k : Int))).filterMap (newRun (aheadAt L k))).length := by
  have hF := formLaw_ok h
  have hR := runsAt_is h (r := 1 + (k : Int)) (by omega)
  have e : ((formLaw L).filter fun b => decide (b.top = (k : Int) + 1)).map (fun b => b.cols) = (runsAt L (1 + (k : Int))).filterMap (newRun (aheadAt L k)) := by
    refine sorted_ext (lt := fun (a b : Run) => a.1 < b.1) (fun a b h1 h2 => by omega) (List.pairwise_map.mpr (List.Pairwise.imp_of_mem (fun {a b} ha hb hab => ?_) (hF.ord.filter _))) (List.pairwise_filterMap.mpr (List.Pairwise.imp_of_mem (fun {a b} ha hb hab x hx y hy => ?_) hR.sep)) fun run => ?_
    · have h1 := of_decide_eq_true (List.mem_filter.mp ha).2
      have h2 := of_decide_eq_true (List.mem_filter.mp hb).2
      unfold bLt at hab
      show a.left < b.left
      omega
    · have vx : x = a := by
        unfold newRun at hx
        split at hx
        · cases hx
        · cases hx; rfl
      have vy : y = b := by
        unfold newRun at hy
        split at hy
        · cases hy
        · cases hy; rfl
      subst vx vy
      obtain ⟨e, h1, h2⟩ := hab
      have := hR.val _ ha e h1
      omega
    · constructor
      · intro hm
        obtain ⟨b, hb, rfl⟩ := List.mem_map.mp hm
        obtain ⟨hb1, hb2⟩ := List.mem_filter.mp hb
        have ht := of_decide_eq_true hb2
        have hf := (hF.mem b).mp hb1
        refine List.mem_filterMap.mpr ⟨b.cols, hR.mem.mpr ?_, if_neg fun z => hf.ahead ?_⟩
        · have := hf.first
          rw [ht, Int.add_comm] at this
          exact this
        · have := (aheadAt_mem h k _).mp z
          rw [ht, Int.add_sub_cancel]
          exact this
      · intro hm
        obtain ⟨r', hr', hn⟩ := List.mem_filterMap.mp hm
        unfold newRun at hn
        split at hn
        · cases hn
        · rename_i hnot
          cases hn
          obtain ⟨b, hb, hc, hin⟩ := form_at (dom_of h) (hR.mem.mp hr')
          refine List.mem_map.mpr ⟨b, List.mem_filter.mpr ⟨(hF.mem b).mpr hb, decide_eq_true ?_⟩, hc⟩
          have h1 : b.top ≤ 1 + (k : Int) := hin.1
          by_cases z : b.top = (k : Int) + 1
          · exact z
          · refine absurd ((aheadAt_mem h k _).mpr ?_) hnot
            rw [← hc]
            exact hb.all _ ⟨by show b.top ≤ (k : Int); omega, fun x hx => by have := hin.2 x hx; omega⟩
  have := congrArg List.length e
  rw [List.length_map] at this
  exact this
theorem few_is {L : List Blk} (h : ∀ b ∈ L, BOk b) : ∀ k : Nat, fewUp L k = ((formLaw L).filter fun b => decide (b.top ≤ (k : Int))).length
  | 0 => by
    show 0 = _
    symm
    rw [List.length_eq_zero_iff, List.filter_eq_nil_iff]
    intro b hb
    have := (((formLaw_ok h).mem b).mp hb).ok (dom_of h)
    have := this.t
    simp
    omega
  | k + 1 => by
    show fewUp L k + _ = _
    rw [few_is h k, ← few_step h k]
    have := len_split (formLaw L) (k : Int)
    have e : (((k + 1 : Nat) : Int)) = (k : Int) + 1 := by omega
    rw [e]
    exact this.symm
theorem win_few {L : List Blk} (h : IsWin L) : fewUp L 4 = (formLaw L).length := by
  rw [few_is (win_bok h) 4]
  exact congrArg List.length (List.filter_eq_self.mpr fun b hb => decide_eq_true (win_top h b hb).2)
end CB
namespace CW
open PySem PySem.Spec PyProof.Rows L2
open Evl (Ex Ex.refl Ex.trans Ex.new Ex.mut fresh_back)
theorem items_erase {α : Type} {Po : Obs α} {H : Hp} : ∀ {vs : List V} {xs : List α} (k : Nat), Items Po H vs xs → Items Po H (vs.eraseIdx k) (xs.eraseIdx k)
  | [], [], _, _ => trivial
  | _ :: _, _ :: _, 0, h => h.2
  | _ :: _, _ :: _, k + 1, h => ⟨h.1, items_erase k h.2⟩
  | [], _ :: _, _, h => h.elim
  | _ :: _, [], _, h => h.elim
theorem mem_erase {α : Type} {x y : α} : ∀ {xs : List α} {k : Nat}, xs[k]? = some y → (x ∈ xs ↔ x = y ∨ x ∈ xs.eraseIdx k)
  | [], _, h => by simp at h
  | a :: xs, 0, h => by
    have h := Option.some.inj h
    subst h
    exact List.mem_cons
  | a :: xs, k + 1, h => by
    have ih := mem_erase (x := x) (xs := xs) (k := k) h
    show x ∈ a :: xs ↔ x = y ∨ x ∈ a :: xs.eraseIdx k
    rw [List.mem_cons, List.mem_cons, ih]
    constructor
    · rintro (h | h | h)
      · exact .inr (.inl h)
      · exact .inl h
      · exact .inr (.inr h)
    · rintro (h | h | h)
      · exact .inr (.inl h)
      · exact .inl h
      · exact .inr (.inr h)
section
variable {K : PySem.W.Frag} {σ : L2.St} {F A : Hp} {C CA : Addr} {te tf : TE} {L M : List CB.Blk}
theorem gv_mkArea (ok : CB.okL L) (h : Gv (te σ) F (fun v F' => oLst oBT F' v L)) : Gv (tMake CA (spAInit CA C) [] E0 (tCons (tCall (spLMade C) [] E0 (tCons te tNil)) tNil) σ) F (fun v F' => oArea CA C F' v (CB.formOf L)) :=
  gv_makeA (PA := fun vs F' => ∃ v, vs = [v] ∧ oLst (oBlk C) F' v L) (ga_cons (gv_call (PA := fun vs H' => ∃ v, vs = [v] ∧ oLst oBT H' v L) L (ga_cons h fun v H2 e2 h2 => ga_nil ⟨v, rfl, h2⟩) fun vs H2 e2 ⟨v, ev, h2⟩ => by subst ev; exact ⟨v, rfl, h2, by have := ok.1; omega, ok.2⟩) fun v H2 e2 h2 => ga_nil ⟨v, rfl, h2⟩)
    (fun vs F' e ⟨v, ev, hv⟩ => ⟨v, by rw [ev]; rfl, .inr hv⟩) ok
theorem gv_mkArea0 : Gv (tMake CA (spAInit CA C) [.non] E0 tNil σ) F (fun v F' => oArea CA C F' v (CB.formOf [])) :=
  gv_makeA (L := []) (PA := fun vs F' => vs = []) (ga_nil rfl) (fun vs F' e h => ⟨.non, by rw [h]; rfl, .inl ⟨rfl, rfl⟩⟩) ⟨Nat.zero_le _, fun b hb => absurd hb (by simp)⟩
theorem gv_tupArea (hz : L.length ≤ 10000) (h : Gv (te σ) F (fun v F' => oArea CA C F' v L)) : Gv (tCall (spLTup C) [] E0 (tCons (tMeth CA "blocks" (spABlocks CA C) [] E0 te tNil) tNil) σ) F (fun v F' => oLst oBT F' v L) :=
  gv_call (PA := fun vs H' => ∃ v, vs = [v] ∧ oLst (oBlk C) H' v L) L (ga_cons (gv_meth (PA := fun vs H' => ∃ v, vs = [v] ∧ oArea CA C H' v L) L (by decide +kernel) h (fun v F' e hv => ga_nil ⟨v, rfl, hv⟩) fun vs F' e ⟨v, ev, hv⟩ => ⟨v, by rw [ev]; rfl, hv⟩) fun v H2 e2 h2 => ga_nil ⟨v, rfl, h2⟩) fun vs H2 e2 ⟨v, ev, h2⟩ => by subst ev; exact ⟨v, rfl, h2, hz⟩
theorem gv_lenA (hz : L.length ≤ 10000) (h : Gv (te σ) F (fun v F' => oArea CA C F' v L)) : Gv (tCB (rLenO CA (spALen CA C)) (tCons te tNil) σ) F (fun v _ => v = .int (L.length : Nat)) := fun H1 e Q q => h H1 e _ fun v F' H2 u hv => by
  obtain ⟨p, dx, fl, rfl, hp, hl⟩ := id hv
  refine ⟨p, dx, _, rfl, u.c _ _ hp, L, F', u.c, ⟨_, rfl, hv⟩, fun w F2 H3 u2 hw => ⟨_, hw, by omega, by omega, ?_⟩⟩
  exact q _ F2 H3 (u.trans u2) rfl
theorem gv_firsts (hz : L.length ≤ 10000) (h : Gv (te σ) F (fun v F' => oArea CA C F' v L)) : Gv (tMeth CA "firsts" (spAFirsts CA C) [] E0 te tNil σ) F (fun v F' => oLst oCell F' v (L.map fun b => (b.top, b.left))) :=
  gv_meth (PA := fun vs H' => ∃ v, vs = [v] ∧ oArea CA C H' v L) L (by decide +kernel) h (fun v F' e hv => ga_nil ⟨v, rfl, hv⟩) fun vs F' e ⟨v, ev, hv⟩ => ⟨⟨v, by rw [ev]; rfl, hv⟩, hz⟩
theorem gv_join (ok : CB.okL (L ++ M)) (hz : (CB.formOf (L ++ M)).length ≤ 31) (h : Gv (te σ) F (fun v F' => oArea CA C F' v L)) (h2 : ∀ F', Ex F F' → Gv (tf σ) F' (fun v F' => oArea CA C F' v M)) : Gv (tMeth CA "joined" (spAJoin CA C) [] E0 te (tCons tf tNil) σ) F (fun v F' => oArea CA C F' v (CB.formOf (L ++ M))) :=
  gv_meth (PA := fun vs H' => ∃ a b, vs = [a, b] ∧ oArea CA C H' a L ∧ oArea CA C H' b M) (L, M) (by decide +kernel) h (fun v F' e hv => ga_cons (h2 F' e) fun w H2 e2 hw => ga_nil ⟨v, w, rfl, mono_area CA C _ _ _ _ e2 hv, hw⟩) fun vs F' e ⟨a, b, ev, ha, hb⟩ => ⟨⟨a, b, by rw [ev]; rfl, ha, hb⟩, ok, hz⟩
theorem gv_neA (h : Gv (te σ) F (fun v F' => oArea CA C F' v L)) (h2 : ∀ F', Ex F F' → Gv (tf σ) F' (fun v F' => oArea CA C F' v L)) : Gv (tOp (rNeG CA (SameA CA C)) te tf σ) F (fun v _ => v = .bl false) :=
  gv_op h (fun _ F' e _ => h2 F' e) fun v w F1 F2 e1 e2 hv hw => fun H1 e Q q => by
    have hv := mono_area CA C _ _ _ _ (e2.trans e) hv
    have hw := mono_area CA C _ _ _ _ e hw
    obtain ⟨p, dx, fl, rfl, hp, hl⟩ := id hv
    obtain ⟨p', dx', fl', rfl, hp', hl'⟩ := id hw
    exact ⟨⟨p, p', dx, dx', _, _, rfl, rfl, hp, hp', ⟨L, hv, hw⟩⟩, fun H' ext => q _ F2 H' ⟨Ex.refl _, ext, e.trans ext, fun _ _ z => z⟩ rfl⟩
end
end CW
namespace CW
open PySem PySem.Spec PyProof.Rows L2
open Evl (Ex Ex.refl Ex.trans Ex.new Ex.mut fresh_back)
section
variable {P : Program} {w : World} {K : PySem.W.Frag} {mg : Str → Option Value} {base : Heap} {f C CA fE fEq fLn T : Addr} {fd fdEq fdLn : FuncData}
abbrev NLaw : List Str := ["_law_script", "_law_source_here", "_law_blocks", "_law_form_here", "_law_area", "_law_grown", "_law_left", "_law_block", "_law_one", "_law_other", "_law_row"]
theorem scLaw : FnScope NLaw ["_law_script"] (defScope sLaw) := ⟨rfl, rfl, rfl, by decide +kernel, rfl, by decide +kernel, by decide +kernel⟩
def spLaw (K : PySem.W.Frag) (T : Addr) : Sp := fun vs H Q _ => ∃ (a : Addr) (ns : List Int), vs = [.ref a] ∧ SqL K H a (ns.map V.int) ∧ H T = some (.tbl #[]) ∧ ∀ H', Q (.bl true) H'
theorem ok_law (F : Fun K "law" "law" sLaw f fd) (m1 : mg "len" = none) (m2 : mg "list" = none) (m3 : mg "range" = none)
    (cCell : Cal P w K mg base "_law_cell_at" 1 (spCellA K)) (cSrc : Cal P w K mg base "_law_source" 1 spSrc) (cWin : Cal P w K mg base "_law_window" 3 spLWin) (cForm : Cal P w K mg base "_law_form" 5 (spLForm T)) (cMade : Cal P w K mg base "_law_made" 6 (spLMade C)) (cTup : Cal P w K mg base "_law_tuples" 1 (spLTup C))
    (cFew : Cal P w K mg base "_law_fewest" 4 spLFew) (cNext : Cal P w K mg base "_law_next" 2 spNext) (cApart : Cal P w K mg base "_law_apart" 4 spLApart) (cRuns : Cal P w K mg base "_law_runs" 3 spLRuns)
    (mA : C8.Mak P w K mg base 7 "Area" CA (spAInit CA C) []) (mA0 : C8.Mak P w K mg base 7 "Area" CA (spAInit CA C) [.non]) (mBl : C8.Met P w K mg base 1 CA "blocks" (spABlocks CA C) []) (mFi : C8.Met P w K mg base 2 CA "firsts" (spAFirsts CA C) []) (mJo : C8.Met P w K mg base 10 CA "joined" (spAJoin CA C) [])
    (oEq : FnOk P w K mg base CX0 3 fEq fdEq ["self", "other"] (spEq (SameA CA C))) (eN : PySem.W.findIn K (.ref CA) "__ne__" = some (some (.builtin "object.__ne__"))) (eS : PySem.W.findIn K (.ref CA) "__eq__" = some (some (.ref fEq))) (eF : PySem.W.isFn K (.ref fEq) = true) (eM : PySem.W.mroIn K CA (.type "object") = some true) (eB : Binds K fdEq ["self", "other"] [])
    (oLn : FnOk P w K mg base CX0 1 fLn fdLn ["self"] (spALen CA C)) (lS : PySem.W.findIn K (.ref CA) "__len__" = some (some (.ref fLn))) (lF : PySem.W.isFn K (.ref fLn) = true) (lB : Binds K fdLn ["self"] []) :
    FnOk P w K mg base CX0 12 f fd ["_law_script"] (spLaw K T) := by
  refine F.ok scLaw (fun vs H Q E ⟨a, ns, e, _⟩ => by rw [e]; rfl) fun cdv A outer s H vs Q E hr ⟨a, ns, e, hS, hT, q⟩ => ?_
  subst e
  obtain ⟨fI, fdI, psI, dsI, MI, FI, gI, bI, dI⟩ := mA0.ex
  refine ⟨_, pss_cons (ps_set (i := 1) scLaw.nd rfl (.inl rfl) (pe_cal (cSrc.mono (by decide)) hr (by rfl) (pa_cons (pe_cal (cCell.mono (by decide)) hr (by rfl) (pa_cons (pv 0) (pa_cons pe_int pa_nil))) pa_nil)))
    (pss_cons (ps_set (i := 2) scLaw.nd rfl (.inl rfl) (pe_cal (cWin.mono (by decide)) hr (by rfl) (pa_cons (pv 1) pa_nil)))
    (pss_cons (ps_set (i := 3) scLaw.nd rfl (.inl rfl) (pe_cal (cForm.mono (by decide)) hr (by rfl) (pa_cons (pv 2) pa_nil)))
    (pss_cons (ps_set (i := 4) scLaw.nd rfl (.inl rfl) (C8.pe_mk mA hr (by decide) (by rfl) (pa_cons (pe_cal (cMade.mono (by decide)) hr (by rfl) (pa_cons (pv 2) pa_nil)) pa_nil)))
    (pss_cons (ps_if (PW.pt (pw_or (pt_cmpR (op_neD (roomU hr (by decide))) (pe_cal (cTup.mono (by decide)) hr (by rfl) (pa_cons (C8.pe_mt0 (m := "blocks") mBl hr (by decide) (pv 4)) pa_nil)) (pv 3) (nomark _))
        (pw_or1 (pt_cmpR op_ne (pe_callB (call_lenO oLn lS lF lB (hr.mono (by decide))) (by rfl) m1 (by decide +kernel) (pa_cons (pv 4) pa_nil)) (pe_cal (cFew.mono (by decide)) hr (by rfl) (pa_cons (pv 2) (pa_cons pe_int pa_nil))) (nomark _)))))
      (pss_one (ps_ret pe_bl)) pss_nil)
    (pss_cons (ps_set (i := 5) scLaw.nd rfl (.inl rfl) (pe_make0 MI FI (hr.mono (by decide)) (by rfl) gI bI dI pass0))
    (pss_cons (ps_set (i := 6) scLaw.nd rfl (.inl rfl) (pe_callTy (call_list_of) (by rfl) m2 (by decide +kernel) (pa_cons (pv 2) pa_nil)))
    (pss_cons (ps_while PassesOwn.never (pt_cmpR (op_neD (roomU hr (by decide))) (pv 6) (pe_lst pa_nil) (nomark _))
      (pss_cons (ps_set (i := 7) scLaw.nd rfl (.inl rfl) (pe_bm PySem.F.plainAttrs_list PySem.F.slot_list_pop PySem.F.type_list_pop (mt_popAt) (pv 6) (pa_cons (pe_cal (cNext.mono (by decide)) hr (by rfl) (pa_cons (pv 1) (pa_cons (pe_callB call_len_seq (by rfl) m1 (by decide +kernel) (pa_cons (pv 6) pa_nil)) pa_nil))) pa_nil)))
      (pss_cons (ps_set (i := 8) scLaw.nd rfl (.inl rfl) (C8.pe_mk mA hr (by decide) (by rfl) (pa_cons (pe_cal (cMade.mono (by decide)) hr (by rfl) (pa_cons (pe_lst (pa_cons (pv 7) pa_nil)) pa_nil)) pa_nil)))
      (pss_one (ps_set (i := 5) scLaw.nd rfl (.inl rfl) (pe_ix ix_list (pe_lst (pa_cons (C8.pe_mt (m := "joined") mJo hr (by decide) (pv 5) (pa_cons (pv 8) pa_nil)) (pa_cons (C8.pe_mt (m := "joined") mJo hr (by decide) (pv 8) (pa_cons (pv 5) pa_nil)) pa_nil)))
        (pe_op op_mod (pe_callB call_len_seq (by rfl) m1 (by decide +kernel) (pa_cons (pv 6) pa_nil)) pe_int) (fun _ _ => rfl)))))))
    (pss_cons (ps_if (PW.pt (pw_or (pt_cmpR (op_neG oEq eN eS eF eM eB (hr.mono (by decide))) (pv 5) (pv 4) (nomark _)) (pw_or1 (pt_cmpR (op_neD (roomU hr (by decide))) (C8.pe_mt0 (m := "firsts") mFi hr (by decide) (pv 5))
        (pe_lc (g := gName 7) (tt := tYes) (te := tSl (rSlT K) (tVar 7) tNoPart (tPart (tC (.int 2)))) (own := [("_law_block", 7)]) (by rfl) scLaw.nd (pi_list (pv 3)) (blkOk_by (N := NLaw) (sc := defScope sLaw) (by decide +kernel))
          (fun _ _ _ _ _ => pg_name (i := 7) scLaw.nd rfl (Or.inl rfl)) (fun _ _ _ _ _ => pts_nil) (fun _ _ _ _ _ => pe_slice sl_tup (pv 7) po_none (po_some pe_int))) (nomark _)))))
      (pss_one (ps_ret pe_bl)) pss_nil)
    (pss_cons (ps_for PassesOwn.never rfl (pi_list (pv 3)) (pg_name (i := 8) scLaw.nd rfl (.inl rfl))
      (pss_cons (ps_for PassesOwn.never rfl (pi_list (pv 3)) (pg_name (i := 9) scLaw.nd rfl (.inl rfl))
        (pss_one (ps_if (PW.pt (pw_and (pt_cmpR op_le (pe_ix ix_tup (pv 8) pe_int (fun _ _ => rfl)) (pe_ix ix_tup (pv 9) pe_int (fun _ _ => rfl)) (nomark _)) (pw_and (pt_cmpR (op_neD (roomU hr (by decide))) (pv 8) (pv 9) (nomark _))
            (pw_and1 (pt_not (pt_val (pe_cal (cApart.mono (by decide)) hr (by rfl) (pa_cons (pv 2) (pa_cons (pv 8) (pa_cons (pv 9) pa_nil)))))))))) (pss_one (ps_ret pe_bl)) pss_nil)))
      (pss_one (ps_for PassesOwn.never rfl (pi_range2 (by rfl) m3 (pa_cons (pe_ix ix_tup (pv 8) pe_int (fun _ _ => rfl)) (pa_cons pe_int pa_nil))) (pg_name (i := 10) scLaw.nd rfl (.inl rfl))
        (pss_one (ps_if (PW.pt (pw_and (PW.pt (pw_or (pt_cmp (pc_isN (pe_ix ix_tup (pv 8) pe_int (fun _ _ => rfl))) rfl) (pw_or1 (pt_cmpR op_le (pv 10) (pe_ix ix_tup (pv 8) pe_int (fun _ _ => rfl)) (nomark _)))))
            (pw_and1 (pt_cmpR (op_notInD (roomU hr (by decide))) (pe_tup (pa_cons (pe_ix ix_tup (pv 8) pe_int (fun _ _ => rfl)) (pa_cons (pe_ix ix_tup (pv 8) pe_int (fun _ _ => rfl)) pa_nil))) (pe_cal (cRuns.mono (by decide)) hr (by rfl) (pa_cons (pv 2) (pa_cons (pv 10) pa_nil))) (by rfl))))) (pss_one (ps_ret pe_bl)) pss_nil))))))
    (pss_one (ps_ret pe_bl))))))))))), ?_⟩
  have hempty : ∀ A : Hp, Ex (fun _ => none) A := fun A b o h => by cases h
  refine ⟨.ref a, rfl, a, ns, 0, rfl, hS, fun n => ⟨n, rfl, fun p hp => ?_⟩⟩
  have neT : T ≠ p := fun z => by rw [z, hp] at hT; cases hT
  refine ⟨.ref p, rfl, p, fun _ => none, rfl, hempty _, ⟨n, n, 0, upd_same⟩, fun v2 F2 A2 L u2 s2 hL hW => ?_⟩
  have hT1 : hide p (upd H p (.lst [.int n, .int n, .int 0])) T = some (.tbl #[]) := by
    rw [hide_ne neT, upd_ne neT]; exact hT
  have hT2 : A2 T = some (.tbl #[]) := ex_hide _ _ (u2.b _ _ hT1)
  have nT2 : F2 T = none := u2.n T (by rw [hT1]; simp) rfl
  have bok := CB.win_bok hW
  have len20 := CB.win_len hW
  have len31 : L.length ≤ 31 := by omega
  have okW : CB.okL L := ⟨len31, bok⟩
  have hfs := CB.form_same bok
  have hfl : (CB.formOf L).length ≤ 20 := CB.win_form hW fun _ h => h
  refine ⟨v2, rfl, v2, L, F2, rfl, ex_of u2.c, nT2, hT2, hL, len31, fun v3 F3 A3 u3 hf => ?_⟩
  have np3 : F3 p = none := u3.n p (by rw [hide_ne (Ne.symm neT)]; exact s2.ne) (np_of u2.c)
  have s3 : Src A3 p := by
    obtain ⟨a, b, c, h⟩ := s2
    exact ⟨a, b, c, ex_hide _ _ (u3.b p _ (by rw [hide_ne (Ne.symm neT)]; exact h))⟩
  have x3 : Ex F3 A3 := u3.c.trans ex_hide
  have hL3 := mono_lst mono_bt _ _ _ _ u3.a hL
  -- the area
  refine sq_asg (P := fun v F => oArea CA C F v (CB.formOf L)) x3 (gv_mkArea okW (gv_var (i := 2) rfl hL3)) fun v4 F4 A4 u4 h4 => ?_
  have hL4 := mono_lst mono_bt _ _ _ _ u4.a hL3
  have hf4 := mono_lst mono_bt _ _ _ _ u4.a hf
  refine sq_when (b := false) u4.c (gt_is (gt_or (a := false) (b := false) (gt_is (gt_test (gv_neBlks (x := CB.formOf L) (y := CB.formLaw L) (gv_tupArea (by omega) (gv_var (i := 4) rfl h4)) fun F' e => gv_var (i := 3) rfl (mono_lst mono_bt _ _ _ _ e hf4))) (by rw [decide_eq_true hfs]; rfl))
      fun _ F' e => gt_test (gv_op (Pa := fun v _ => v = .int ((CB.formOf L).length : Nat)) (Pb := fun v _ => v = .int (CB.fewUp L 4 : Nat)) (gv_lenA (by omega) (gv_var (i := 4) rfl (mono_area CA C _ _ _ _ e h4)))
        (fun v F'' e' _ => gv_call (PA := fun vs H' => ∃ v, vs = [v, .int 4] ∧ oLst oBT H' v L) (L, 4) (ga_cons (gv_var (i := 2) rfl (mono_lst mono_bt _ _ _ _ (e.trans e') hL4)) fun v H2 e2 h2 => ga_cons (gv_c (P := fun v _ => v = .int 4) rfl) fun w H3 e3 h3 => ga_nil ⟨v, by rw [h3], mono_lst mono_bt _ _ _ _ e3 h2⟩) fun vs H2 e2 ⟨v, ev, h2⟩ => by subst ev; exact ⟨v, rfl, h2, len31, show 4 ≤ 1000 by decide⟩)
        fun x y F1 F2 e1 e2 h1 h2 => by
          subst h1 h2
          refine gv_ne rfl ?_
          rw [CB.win_few hW, hfs, decide_eq_true rfl]
          rfl)) rfl) (fun h => by cases h) fun _ F5 A5 u5 => ?_
  -- the grown one
  refine sq_asg (P := fun v F => oArea CA C F v (CB.formOf [])) u5.c gv_mkArea0 fun v6 F6 A6 u6 h6 => ?_
  have U36 := (u4.trans u5).trans u6
  have s6 := s3.up U36
  have np6 : F6 p = none := U36.n p s3.ne np3
  have hL6 := mono_lst mono_bt _ _ _ _ (u5.a.trans u6.a) hL4
  have hf6 := mono_lst mono_bt _ _ _ _ (u5.a.trans u6.a) hf4
  have h46 := mono_area CA C _ _ _ _ (u5.a.trans u6.a) h4
  obtain ⟨p2, ws0, e2, hp2, its0⟩ := id hL6
  subst e2
  refine ⟨.ref p2, rfl, p2, ws0, rfl, .inl (SqL.of (u6.c _ _ hp2)), fun l hl => ?_⟩
  have nel : l ≠ p := fun z => by rw [z] at hl; exact s6.ne hl
  have nl6 : F6 l = none := none_of_ex u6.c hl
  refine sq_while (fun m σ F A => ∃ (G : Hp) (ws : List V) (M D : List CB.Blk) (vg y7 y8 : _), F = upd G l (.lst ws) ∧ m = M.length ∧ M.length ≤ 20 ∧ Ex F6 G ∧ G l = none ∧ Ex G A ∧ G p = none ∧ Src A p ∧ A l = some (.lst ws) ∧ Items oBT G ws M ∧ oArea CA C G vg (CB.formOf D) ∧ (∀ b, b ∈ L ↔ b ∈ D ∨ b ∈ M) ∧ σ = [some (.ref a), some (.ref p), some (.ref p2), some v3, some v4, some vg, some (.ref l), y7, y8, none, none])
    ⟨_, F6, ws0, L, [], v6, none, none, rfl, rfl, len20, Ex.refl _, nl6, Ex.touch u6.c nl6, np6, by
      obtain ⟨a, b, c, h⟩ := s6
      exact ⟨a, b, c, by rw [upd_ne (Ne.symm nel)]; exact h⟩, upd_same, its0, h6, fun b => ⟨fun h => .inr h, fun h => h.elim (fun z => absurd z (by simp)) id⟩, rfl⟩ ?_
  rintro m σ F A7 ⟨G, ws, M, D, vg, y7, y8, rfl, rfl, hm20, e6G, nGl, xG, nGp, s7, hl7, its, hg, hmem, rfl⟩
  have hDL : ∀ b ∈ D, b ∈ L := fun b h => (hmem b).mpr (.inl h)
  have hML : ∀ b ∈ M, b ∈ L := fun b h => (hmem b).mpr (.inr h)
  refine ⟨Ex.known xG hl7, !decide (M = []), gt_test (gv_neBlks (x := M) (y := []) (gv_var (i := 6) rfl ⟨l, ws, rfl, upd_same, its.mono mono_bt (Ex.new nGl)⟩) fun _ _ => gv_nilL), fun hne F8 A8 u8 => ?_, fun hnil F8 A8 u8 => ?_⟩
  · have hM : M ≠ [] := fun z => by rw [decide_eq_true z] at hne; cases hne
    have hl8 := u8.b _ _ hl7
    have s8 := s7.up u8
    have v8 := u8.forget nGl
    have x8 := v8.c
    have nl8 : hide l F8 l = none := hide_same
    have np8 : hide l F8 p = none := v8.n p s7.ne nGp
    have its8 := its.mono mono_bt v8.a
    have hg8 := mono_area CA C _ _ _ _ v8.a hg
    have e68 := e6G.trans v8.a
    generalize hide l F8 = G8 at v8 x8 nl8 np8 its8 hg8 e68
    have hwl : ws.length = M.length := its8.length
    have hMl : 0 < M.length := List.length_pos_iff.mpr hM
    obtain ⟨ca, cb, cc, hsrc⟩ := s8
    refine ⟨.ref l, rfl, .inl ⟨rfl, ws, SqL.of hl8⟩, .ref p, rfl, .ref l, rfl, l, ws, rfl, .inl (SqL.of hl8), p, ((ws.length : Nat) : Int), ca, cb, cc, rfl, by omega, by omega, hsrc, fun r a' b' c' hr0 hr1 => ?_⟩
    have hk : r.toNat < ws.length := by omega
    obtain ⟨b, hb, hyb⟩ := its8.get (List.getElem?_eq_getElem hk)
    have hix : seqIndex? r ws.length = some r.toNat := by
      have e : r = ((r.toNat : Nat) : Int) := by omega
      have h1 := Evl.ixN_nat (n := ws.length) hk
      rw [← e] at h1
      exact (ixN_seq h1).1
    refine ⟨l, ws, r, r.toNat, ws[r.toNat], rfl, rfl, by rw [upd_ne nel]; exact hl8, by omega, by omega, hix, List.getElem?_eq_getElem hk, ?_⟩
    generalize ws[r.toNat] = yv at hyb
    have x9 : Ex G8 (upd (upd A8 p (.lst [.int a', .int b', .int c'])) l (.lst (ws.eraseIdx r.toNat))) := Ex.touch (Ex.touch x8 np8) nl8
    have s9 : Src (upd (upd A8 p (.lst [.int a', .int b', .int c'])) l (.lst (ws.eraseIdx r.toNat))) p := ⟨a', b', c', by rw [upd_ne (Ne.symm nel), upd_same]⟩
    have hl9 : upd (upd A8 p (.lst [.int a', .int b', .int c'])) l (.lst (ws.eraseIdx r.toNat)) l = some (.lst (ws.eraseIdx r.toNat)) := upd_same
    have its9 := items_erase r.toNat its8
    generalize upd (upd A8 p (.lst [.int a', .int b', .int c'])) l (.lst (ws.eraseIdx r.toNat)) = A9 at x9 s9 hl9 ⊢
    have hbM : b ∈ M := List.mem_of_getElem? hb
    have hbok : ∀ c ∈ [b], CB.BOk c := fun c hc => by rw [List.mem_singleton.mp hc]; exact bok b (hML b hbM)
    have hDok : ∀ c ∈ D, CB.BOk c := fun c hc => bok c (hDL c hc)
    have hD20 := CB.win_form hW hDL
    have hb20 := CB.win_form (D := [b]) hW fun c hc => by rw [List.mem_singleton.mp hc]; exact hML b hbM
    have hDb : ∀ c ∈ D ++ [b], c ∈ L := fun c hc => (List.mem_append.mp hc).elim (hDL c) fun z => by rw [List.mem_singleton.mp z]; exact hML b hbM
    have hbD : ∀ c ∈ [b] ++ D, c ∈ L := fun c hc => (List.mem_append.mp hc).elim (fun z => by rw [List.mem_singleton.mp z]; exact hML b hbM) (hDL c)
    have hj1 := CB.form_join hDok hbok
    have hj2 : CB.formOf (CB.formOf [b] ++ CB.formOf D) = CB.formOf (D ++ [b]) := (CB.form_join hbok hDok).trans (CB.form_perm (CB.bok_app hbok hDok) fun c => by rw [List.mem_append, List.mem_append]; exact Or.comm)
    have hX20 := CB.win_form hW hDb
    have bokF1 := CB.bok_app (CB.form_bok' hDok) (CB.form_bok' hbok)
    have bokF2 := CB.bok_app (CB.form_bok' hbok) (CB.form_bok' hDok)
    have hb1 : (CB.formOf [b]).length ≤ 1 := CB.form_one hbok
    refine sq_asg (P := fun v F => oArea CA C F v (CB.formOf [b])) x9 (gv_mkArea ⟨by show 1 ≤ 31; decide, hbok⟩ (gv_single mono_bt (gv_var (i := 7) rfl hyb))) fun v8' G10 A10 u10 h10 => ?_
    have nl10 : G10 l = none := u10.n l (by rw [hl9]; simp) nl8
    have np10 : G10 p = none := u10.n p s9.ne np8
    have hl10 := u10.b _ _ hl9
    have hg10 := mono_area CA C _ _ _ _ u10.a hg8
    have hlst : Gv (tLst (tCons (tMeth CA "joined" (spAJoin CA C) [] E0 (tVar 5) (tCons (tVar 8) tNil)) (tCons (tMeth CA "joined" (spAJoin CA C) [] E0 (tVar 8) (tCons (tVar 5) tNil)) tNil)) [some (.ref a), some (.ref p), some (.ref p2), some v3, some v4, some vg, some (.ref l), some yv, some v8', none, none]) G10 (fun v F' => oLst (oArea CA C) F' v [CB.formOf (D ++ [b]), CB.formOf (D ++ [b])]) := by
      refine gv_lst (PA := fun vs F' => ∃ x y, vs = [x, y] ∧ oArea CA C F' x (CB.formOf (D ++ [b])) ∧ oArea CA C F' y (CB.formOf (D ++ [b]))) (ga_cons (Pa := fun v F' => oArea CA C F' v (CB.formOf (D ++ [b]))) ?_ fun x F1 e1 h1 => ga_cons (Pa := fun v F' => oArea CA C F' v (CB.formOf (D ++ [b]))) ?_ fun y F2 e2 h2 => ga_nil ⟨x, y, rfl, mono_area CA C _ _ _ _ e2 h1, h2⟩) (fun vs F' ⟨x, y, h, _⟩ => by rw [h]; show 2 ≤ 1000; decide) fun vs F' q' e ⟨x, y, h, h1, h2⟩ hq => ?_
      · have := gv_join (CA := CA) (C := C) (L := CB.formOf D) (M := CB.formOf [b]) (te := tVar 5) (tf := tVar 8) (F := G10) (σ := [some (.ref a), some (.ref p), some (.ref p2), some v3, some v4, some vg, some (.ref l), some yv, some v8', none, none]) ⟨by rw [List.length_append]; omega, bokF1⟩ (by rw [hj1]; omega) (gv_var rfl hg10) fun F' e => gv_var rfl (mono_area CA C _ _ _ _ e h10)
        rw [hj1] at this
        exact this
      · have := gv_join (CA := CA) (C := C) (L := CB.formOf [b]) (M := CB.formOf D) (te := tVar 8) (tf := tVar 5) (F := F1) (σ := [some (.ref a), some (.ref p), some (.ref p2), some v3, some v4, some vg, some (.ref l), some yv, some v8', none, none]) ⟨by rw [List.length_append]; omega, bokF2⟩ (by rw [hj2]; omega) (gv_var rfl (mono_area CA C _ _ _ _ e1 h10)) fun F' e => gv_var rfl (mono_area CA C _ _ _ _ (e1.trans e) hg10)
        rw [hj2] at this
        exact this
      · subst h
        exact ⟨q', _, rfl, upd_same, mono_area CA C _ _ _ _ (Ex.new hq) h1, mono_area CA C _ _ _ _ (Ex.new hq) h2, trivial⟩
    delta tAsg
    refine hlst A10 u10.c _ fun vl G11 A11 u11 hvl => ?_
    have hl11 := u11.b _ _ hl10
    refine ⟨.ref l, rfl, l, _, rfl, .inl (SqL.of hl11), _, _, rfl, rfl, (show (0 : Int) < 2 by decide), ?_⟩
    have hat : ∀ j : Nat, atI [CB.formOf (D ++ [b]), CB.formOf (D ++ [b])] (((j : Nat) : Int) % 2) = some (CB.formOf (D ++ [b])) := fun j => by
      have : ((j : Nat) : Int) % 2 = 0 ∨ ((j : Nat) : Int) % 2 = 1 := by omega
      rcases this with z | z <;> rw [z] <;> rfl
    refine gv_ixL hvl (hat _) A11 u11.c _ fun vg' G12 A12 u12 ⟨hvg, e12⟩ => ?_
    subst e12
    have nl11 : G12 l = none := u11.n l (by rw [hl10]; simp) nl10
    have np11 : G12 p = none := u11.n p (s9.up u10).ne np10
    have hlen : (M.eraseIdx r.toNat).length = M.length - 1 := List.length_eraseIdx_of_lt (by omega)
    exact ⟨(M.eraseIdx r.toNat).length, _, by omega, G12, _, M.eraseIdx r.toNat, D ++ [b], vg', _, _, rfl, rfl, by omega, (e68.trans u10.a).trans u11.a, nl11, u12.c, np11, ((s9.up u10).up u11).up u12, u12.b _ _ hl11, its9.mono mono_bt (u10.a.trans u11.a), hvg, fun c => by
      rw [hmem c, mem_erase hb, List.mem_append, List.mem_singleton, or_assoc], rfl⟩
  · have hM : M = [] := by simpa using hnil
    subst hM
    have v8 := u8.forget nGl
    have hgL : CB.formOf D = CB.formOf L := CB.form_perm (fun c hc => bok c (hDL c hc)) fun c => ⟨hDL c, fun h => ((hmem c).mp h).elim id fun z => absurd z (by simp)⟩
    have hg8 := mono_area CA C _ _ _ _ v8.a hg
    rw [hgL] at hg8
    have e68 := e6G.trans v8.a
    have x8 := v8.c
    generalize hide l F8 = G8 at v8 x8 hg8 e68
    have hL8 := mono_lst mono_bt _ _ _ _ e68 hL6
    have hf8 := mono_lst mono_bt _ _ _ _ e68 hf6
    have h48 := mono_area CA C _ _ _ _ e68 h46
    have hlawl : (CB.formLaw L).length ≤ 20 := by rw [← hfs]; exact hfl
    have comp : ∀ {F' : Hp}, Ex G8 F' → Gv (tLc (iList K (tVar 3)) (gName 7) tYes (tSl (rSlT K) (tVar 7) tNoPart (tPart (tC (.int 2)))) [7] [some (.ref a), some (.ref p), some (.ref p2), some v3, some v4, some vg, some (.ref l), y7, y8, none, none]) F' (fun v H' => oLst oCell H' v ((CB.formLaw L).map fun b => (b.top, b.left))) := fun {F'} e => by
      rw [← map_fm]
      refine gv_lc mono_bt (mono_tup2 mono_int mono_int) (fun b : CB.Blk => some (b.top, b.left)) (by omega) (gv_var (i := 3) rfl (mono_lst mono_bt _ _ _ _ e hf8)) fun y b F3 A3 eF e3 hb hy => ?_
      refine ⟨_, fun Q hQ => hQ, rfl, gt_yes, fun z hz F4 e4 => ?_⟩
      cases hz
      exact gv_cut2 (gv_var (i := 7) rfl (mono_bt _ _ _ _ e4 hy))
    refine sq_when (b := false) x8 (gt_is (gt_or (a := false) (b := false) (gt_test (gv_neA (L := CB.formOf L) (gv_var (i := 5) rfl hg8) fun F' e => gv_var (i := 4) rfl (mono_area CA C _ _ _ _ e h48)))
      fun _ F' e => gt_is (gt_test (gv_neCells (x := (CB.formOf L).map fun b : CB.Blk => (b.top, b.left)) (y := (CB.formLaw L).map fun b : CB.Blk => (b.top, b.left)) (gv_firsts (by omega) (gv_var (i := 5) rfl (mono_area CA C _ _ _ _ e hg8))) fun F'' e' => comp (e.trans e'))) (by rw [hfs, decide_eq_true rfl]; rfl)) rfl) (fun h => by cases h) fun _ F9 A9 u9 => ?_
    have hL9 := mono_lst mono_bt _ _ _ _ u9.a hL8
    have hf9 := mono_lst mono_bt _ _ _ _ u9.a hf8
    refine sq_for mono_bt u9.c (xs := CB.formLaw L) (gv_var (i := 3) rfl hf9)
      (fun B i σ F A => Ex B F ∧ Ex F9 F ∧ Ex F A ∧ ∃ z8 z9 z10, σ = [some (.ref a), some (.ref p), some (.ref p2), some v3, some v4, some vg, some (.ref l), y7, z8, z9, z10])
      (fun B i σ F A ⟨e, _, x, _⟩ => ⟨e, x⟩) (fun F' A' u => ⟨Ex.refl _, u.a, u.c, _, _, _, rfl⟩) ?_ ?_
    · rintro B i one vo σ F10 A10 hi ⟨eB, e910, x10, z8, z9, z10, rfl⟩ hone
      have h1m : one ∈ CB.formLaw L := List.mem_of_getElem? hi
      have t1 := CB.win_top hW one h1m
      refine sq_for mono_bt x10 (xs := CB.formLaw L) (gv_var (i := 3) rfl (mono_lst mono_bt _ _ _ _ e910 hf9))
        (fun B' i σ F A => Ex B' F ∧ Ex F10 F ∧ Ex F A ∧ ∃ z9 z10, σ = [some (.ref a), some (.ref p), some (.ref p2), some v3, some v4, some vg, some (.ref l), y7, some vo, z9, z10])
        (fun B i σ F A ⟨e, _, x, _⟩ => ⟨e, x⟩) (fun F' A' u => ⟨Ex.refl _, u.a, u.c, _, _, rfl⟩) ?_ ?_
      · rintro B' j other vt σ F11 A11 hj ⟨eB', e1011, x11, w9, w10, rfl⟩ hother
        have h2m : other ∈ CB.formLaw L := List.mem_of_getElem? hj
        have t2 := CB.win_top hW other h2m
        have hone11 := mono_bt _ _ _ _ e1011 hone
        have hL11 := mono_lst mono_bt _ _ _ _ (e910.trans e1011) hL9
        refine st_if x11 (b := false) (gt_is (gt_and (a := decide (one.top ≤ other.top)) (b := !decide (one = other) && !CB.apartB L one other) (gt_test (gv_opI (i := one.top) (j := other.top) (gv_bt0 (gv_var (i := 8) rfl hone11)) (fun F' e => gv_bt0 (gv_var (i := 9) rfl (mono_bt _ _ _ _ e hother))) fun _ _ => rfl))
            fun _ F' e => gt_and (gt_test (gv_neBlk (x := one) (y := other) (gv_var (i := 8) rfl (mono_bt _ _ _ _ e hone11)) fun F'' e' => gv_var (i := 9) rfl (mono_bt _ _ _ _ (e.trans e') hother)))
            fun _ F'' e' => gt_not (gt_B (gv_call (PA := fun vs H' => ∃ v v1 v2, vs = [v, v1, v2] ∧ oLst oBT H' v L ∧ oBT H' v1 one ∧ oBT H' v2 other) (L, one, other) (ga_cons (gv_var (i := 2) rfl (mono_lst mono_bt _ _ _ _ (e.trans e') hL11)) fun v H2 e2 h2 => ga_cons (gv_var (i := 8) rfl (mono_bt _ _ _ _ ((e.trans e').trans e2) hone11)) fun v1 H3 e3 h3 => ga_cons (gv_var (i := 9) rfl (mono_bt _ _ _ _ (((e.trans e').trans e2).trans e3) hother)) fun v2 H4 e4 h4 => ga_nil ⟨v, v1, v2, rfl, mono_lst mono_bt _ _ _ _ (e3.trans e4) h2, mono_bt _ _ _ _ e4 h3, h4⟩)
              fun vs H2 e2 ⟨v, v1, v2, ev, h2, h3, h4⟩ => by subst ev; exact ⟨v, v1, v2, rfl, h2, h3, h4, len31, (show -1000 ≤ one.top ∧ one.top ≤ 1000 from ⟨by omega, by omega⟩), (show -1000 ≤ other.top ∧ other.top ≤ 1000 from ⟨by omega, by omega⟩)⟩))) ?_) (fun h => by cases h) fun _ F12 A12 u12 => ⟨F12, eB'.trans u12.a, e1011.trans u12.a, u12.c, _, _, rfl⟩
        by_cases q1 : one.top ≤ other.top
        · by_cases q2 : one = other
          · rw [decide_eq_true q2]; simp
          · rw [CB.win_apart hW h1m h2m q1 q2]; simp
        · rw [decide_eq_false q1]; rfl
      · rintro B' σ F11 A11 ⟨eB', e1011, x11, w9, w10, rfl⟩
        have hone11 := mono_bt _ _ _ _ e1011 hone
        have hL11 := mono_lst mono_bt _ _ _ _ (e910.trans e1011) hL9
        refine st_rng2 (i := 10) (lo := one.top) (hi := 5) (5 - one.top).toNat x11 (by omega) (by omega) ⟨by omega, by omega, rfl⟩ (ga_cons (gv_bt0 (gv_var (i := 8) rfl hone11)) fun x H3 e3 h3 => ga_cons (gv_c (P := fun v _ => v = .int 5) rfl) fun y H4 e4 h4 => ga_nil (by rw [h3, h4]))
          (fun B k σ F A => Ex F11 F ∧ Ex F A ∧ ∃ z10, σ = [some (.ref a), some (.ref p), some (.ref p2), some v3, some v4, some vg, some (.ref l), y7, some vo, w9, z10])
          (fun F' A' u => ⟨u.a, u.c, _, rfl⟩) ?_ ?_
        · rintro B2 k σ F12 A12 hk ⟨e1112, x12, z10', rfl⟩
          have hone12 := mono_bt _ _ _ _ e1112 hone11
          have hL12 := mono_lst mono_bt _ _ _ _ e1112 hL11
          refine st_if x12 (b := false) (gt_is (gt_and (a := CB.leEnd (one.top + (k : Int)) one.bottom) (b := !decide (one.cols ∈ CB.runsAt L (one.top + (k : Int)))) (gt_is (gt_or (a := one.bottom.isNone) (b := CB.leEnd (one.top + (k : Int)) one.bottom) (gt_B (gv_isN (gv_bt2 (gv_var (i := 8) rfl hone12)))) fun hn F' e => ?_) ?_)
            fun _ F' e => gt_test (gv_runOut (x := one.cols) (xs := CB.runsAt L (one.top + (k : Int))) (gv_pair mono_int mono_opt (gv_bt1 (gv_var (i := 8) rfl (mono_bt _ _ _ _ e hone12))) fun F'' e' => gv_bt3 (gv_var (i := 8) rfl (mono_bt _ _ _ _ (e.trans e') hone12))) fun F'' e' => gv_lruns len31 (gv_var (i := 2) rfl (mono_lst mono_bt _ _ _ _ (e.trans e') hL12)) fun _ _ => gv_var (i := 10) rfl rfl)) ?_) (fun h => by cases h) fun _ F13 A13 u13 => ⟨F13, e1112.trans u13.a, u13.c, _, rfl⟩
          · cases ho : one.bottom with
            | none => rw [ho] at hn; cases hn
            | some bt => exact gt_test (gv_opI (i := one.top + (k : Int)) (j := bt) (gv_var (i := 10) rfl rfl) (fun F'' e' => (gv_bt2 (gv_var (i := 8) rfl (mono_bt _ _ _ _ (e.trans e') hone12))).imp fun v H' _ hv => by rw [hv, ho]; rfl) fun _ _ => rfl)
          · cases one.bottom <;> rfl
          · by_cases q1 : CB.leEnd (one.top + (k : Int)) one.bottom = true
            · rw [decide_eq_true (CB.win_runs hW h1m (by omega) q1)]; simp
            · rw [Bool.eq_false_iff.mpr q1]; rfl
        · rintro B2 σ F12 A12 ⟨e1112, x12, z10', rfl⟩
          exact ⟨F12, eB.trans (e1011.trans e1112), e910.trans (e1011.trans e1112), x12, _, _, _, rfl⟩
    · rintro B σ F10 A10 ⟨eB, e910, x10, z8, z9, z10, rfl⟩
      exact q A10
end
end CW
namespace CW
open PySem PySem.Spec PyProof.Rows L2
open Evl (Ex Ex.refl Ex.trans Ex.new Ex.mut fresh_back)
/-! ### what the top has written -/
/-- a def of the module -/
def Df (K : PySem.W.Frag) (x : Str) (st : Stmt) : Prop := ∃ f fd, PySem.W.nsIn K mainGlobals x = some (some (.ref f)) ∧ Fun K x x st f fd
theorem df_mk {K : PySem.W.Frag} {x : Str} {st : Stmt} {f : Addr} {oc : Value} {od an : Option Addr} {osl : Array (Option Value)} {kV doc pm cdv ct : Value} (a : PySem.W.nsIn K mainGlobals x = some (some (.ref f)))
    (l : K.lookup f = some ⟨oc, od, .func (PySem.W.fnOf x x (defArgs st) (defBody st) (defScope st) .none kV doc pm an cdv ct), osl⟩) (c : PySem.W.codeIn K cdv x = true) (k : PySem.W.keepIn K (.ref f) = true) : Df K x st := ⟨f, _, a, fun_mk l c k⟩
/-- a method -/
def Mt (K : PySem.W.Frag) (C : Addr) (m qual : Str) (st : Stmt) : Prop := ∃ f fd, Meth K C m f ∧ Fun K m qual st f fd
theorem mt_mk {K : PySem.W.Frag} {C : Addr} {m qual : Str} {st : Stmt} {f : Addr} {oc : Value} {od an : Option Addr} {osl : Array (Option Value)} {kV doc pm cdv ct : Value} (a : PySem.W.findIn K (.ref C) m = some (some (.ref f))) (i : PySem.W.isFn K (.ref f) = true)
    (l : K.lookup f = some ⟨oc, od, .func (PySem.W.fnOf m qual (defArgs st) (defBody st) (defScope st) .none kV doc pm an cdv ct), osl⟩) (c : PySem.W.codeIn K cdv qual = true) (k : PySem.W.keepIn K (.ref f) = true) : Mt K C m qual st := ⟨f, _, ⟨a, i, k⟩, fun_mk l c k⟩
/-- an __init__ with defaults -/
def Ini (K : PySem.W.Frag) (C : Addr) (qual : Str) (st : Stmt) (dvs : List V) : Prop := ∃ f fd, Mk K C f ∧ FunD K "__init__" qual (defArgs st) (defBody st) (defScope st) dvs [] f fd
theorem ini_mk {K : PySem.W.Frag} {C : Addr} {qual : Str} {st : Stmt} {dvs : List V} {f T : Addr} {oc oc2 : Value} {od an od2 : Option Addr} {osl osl2 : Array (Option Value)} {kV doc pm cdv ct : Value} {its : List Value} {n : Nat} (mk : PySem.W.makesIn K C = true) (kC : PySem.W.keepIn K (.ref C) = true)
    (a : PySem.W.findIn K (.ref C) "__init__" = some (some (.ref f))) (i : PySem.W.isFn K (.ref f) = true) (l : K.lookup f = some ⟨oc, od, .func (PySem.W.fnOf "__init__" qual (defArgs st) (defBody st) (defScope st) (.ref T) kV doc pm an cdv ct), osl⟩) (c : PySem.W.codeIn K cdv qual = true) (k : PySem.W.keepIn K (.ref f) = true)
    (lt : K.lookup T = some ⟨oc2, od2, .seq its.toArray n, osl2⟩) (hd : dvs ≠ []) (v : Vals dvs its) : Ini K C qual st dvs :=
  ⟨f, _, ⟨mk, a, i, kC⟩, ⟨⟨oc, od, .ref T, kV, doc, pm, an, cdv, ct, osl, rfl, l, c, .inr ⟨hd, T, _, its, n, rfl, lt, rfl, v⟩, .inl rfl⟩, k⟩⟩
theorem cls_mk {K : PySem.W.Frag} {C : Addr} (pg : PySem.W.plainGet K C Str.empty = true) (hd : PySem.W.hasDictIn K C = true) (po : PySem.W.plainOver K C = true) (sa : PySem.W.findIn K (.ref C) "__setattr__" = some (some (.builtin "object.__setattr__")))
    (ha : PySem.W.findIn K (.ref C) "__class__" = some (some (.builtin "object.__class__"))) (hn : PySem.W.specialIn K (.builtin "object.__class__") "__get__" = some (some (.builtin "getset_descriptor.__get__"))) (hk : PySem.W.takesIn K (.builtin "object.__class__") = some true)
    (hm : PySem.W.mroIn K C (.type "object") = some true) (one : PySem.W.kitOne K (.ref C) (.ref C) = some true) : CTxt K C := ⟨⟨pg, hd, po, sa⟩, ha, hn, hk, hm, one⟩
/-- a def's table of code objects is empty -/
def TabX (x : Str) (mg : Str → Option Value) (h : Heap) : Prop := ∃ (a : Addr) (o : Obj) (fd : FuncData) (c T : Addr), mg x = some (.ref a) ∧ h.get? a = some o ∧ o.data = .func fd ∧ fd.code = .ref c ∧ PySem.W.CodeHd h c T ∧ h.get? T = some { cls := .none, data := .fields #[] }
/-- the def that holds the lambda -/
def Fb (K : PySem.W.Frag) (T : Addr) : Prop := ∃ (f c : Addr) (fd : FuncData) (e : Value) (dd : Option Addr) (vs : Array Value) (sl : Array (Option Value)), PySem.W.nsIn K mainGlobals "_law_form_by" = some (some (.ref f)) ∧ Fun K "_law_form_by" "_law_form_by" sLFormBy f fd ∧ fd.code = .ref c ∧
  K.lookup c = some ⟨e, dd, .fields vs, sl⟩ ∧ vs[11]? = some (.ref T) ∧ K.lookup T = none
theorem fb_mk {K : PySem.W.Frag} {f c T : Addr} {oc e : Value} {od an dd : Option Addr} {osl sl : Array (Option Value)} {kV doc pm ct : Value} {vs : Array Value} (a : PySem.W.nsIn K mainGlobals "_law_form_by" = some (some (.ref f)))
    (l : K.lookup f = some ⟨oc, od, .func (PySem.W.fnOf "_law_form_by" "_law_form_by" (defArgs sLFormBy) (defBody sLFormBy) (defScope sLFormBy) .none kV doc pm an (.ref c) ct), osl⟩) (cd : PySem.W.codeIn K (.ref c) "_law_form_by" = true) (k : PySem.W.keepIn K (.ref f) = true)
    (lc : K.lookup c = some ⟨e, dd, .fields vs, sl⟩) (hv : vs[11]? = some (.ref T)) (nT : (K.lookup T).isNone = true) : Fb K T := ⟨f, c, _, e, dd, vs, sl, a, fun_mk l cd k, rfl, lc, hv, Option.isNone_iff_eq_none.mp nT⟩
/-- names that the module does not bind -/
def NoG (K : PySem.W.Frag) (x : Str) : Prop := PySem.W.nsIn K mainGlobals x = some none
structure Facts (K : PySem.W.Frag) (C CA T : Addr) : Prop where
  gB : PySem.W.nsIn K mainGlobals "Block" = some (some (.ref C))
  gA : PySem.W.nsIn K mainGlobals "Area" = some (some (.ref CA))
  cB : CTxt K C
  nT : NoAttr K C "top"
  nL : NoAttr K C "left"
  nB : NoAttr K C "bottom"
  nR : NoAttr K C "right"
  cA : CTxt K CA
  nF : NoAttr K CA "form"
  eN : PySem.W.findIn K (.ref CA) "__ne__" = some (some (.builtin "object.__ne__"))
  iB : Ini K C "Block.__init__" sBInit [.int 1, .int 1, .non, .non]
  iA : Ini K CA "Area.__init__" sAInit [.non]
  bEq : Mt K C "__eq__" "Block.__eq__" sBEq
  aEq : Mt K CA "__eq__" "Area.__eq__" sAEq
  aLen : Mt K CA "__len__" "Area.__len__" sALen
  aBlocks : Mt K CA "blocks" "Area.blocks" sABlocks
  aFirsts : Mt K CA "firsts" "Area.firsts" sAFirsts
  aBy : Mt K CA "by" "Area.by" sABy
  aJoin : Mt K CA "joined" "Area.joined" sAJoin
  d1 : Df K "is_whole" sWhole
  d2 : Df K "is_count" sCount
  d3 : Df K "is_end" sEnd
  d4 : Df K "is_at" sAt
  d5 : Df K "stretches" sStr
  d6 : Df K "cuts_of" sCuts
  d7 : Df K "with_run" sWith
  d8 : Df K "runs_by" sRuns
  d9 : Df K "columns_at" sCols
  d10 : Df K "bands_by" sBands
  d11 : Df K "form_of" sForm
  d12 : Df K "first_cell" sFirst
  d13 : Df K "either" sEither
  d14 : Df K "checked_blocks" sChkB
  d15 : Df K "checked_area" sChkA
  d16 : Df K "_law_cell_at" sLCell
  d17 : Df K "_law_mixed" sLMix
  d18 : Df K "_law_source" sLSrc
  d19 : Df K "_law_next" sLNext
  d20 : Df K "_law_made" sLMade
  d21 : Df K "_law_tuples" sLTup
  d22 : Df K "_law_cuts" sLCuts
  d23 : Df K "_law_spans" sLSpans
  d24 : Df K "_law_has" sLHas
  d25 : Df K "_law_rows_of" sLRows
  d26 : Fb K T
  d27 : Df K "_law_form" sLForm
  d28 : Df K "_law_runs" sLRuns
  d29 : Df K "_law_window" sLWin
  d30 : Df K "_law_apart" sLApart
  d31 : Df K "_law_fewest" sLFew
  d32 : Df K "law" sLaw
  z1 : NoG K "isinstance"
  z2 : NoG K "int"
  z3 : NoG K "bool"
  z4 : NoG K "any"
  z5 : NoG K "all"
  z6 : NoG K "sorted"
  z7 : NoG K "set"
  z8 : NoG K "enumerate"
  z9 : NoG K "len"
  z10 : NoG K "list"
  z11 : NoG K "dict"
  z12 : NoG K "zip"
  z13 : NoG K "range"
section
variable {l : PySem.W.OpenLaw} {w : World} {K : PySem.W.Frag} {h : Heap} {mg : Str → Option Value} {fa C CA T : Addr}
theorem law_at {n : Nat} (Fa : Facts K C CA T) (X : K.In h) (G : h.Ns mainGlobals mg) (hfa : mg "law" = some (.ref fa)) (TX : TabX "_law_form_by" mg h) : LamX.LawAtS l w K CX0 12 n "_law_script" mg fa h := by
  have no : ∀ {x : Str}, NoG K x → mg x = none := fun z => PySem.W.mg_none_of X G z
  have m1 := no Fa.z1
  have m2 := no Fa.z2
  have m3 := no Fa.z3
  have m4 := no Fa.z4
  have m5 := no Fa.z5
  have m6 := no Fa.z6
  have m7 := no Fa.z7
  have m8 := no Fa.z8
  have m9 := no Fa.z9
  have m10 := no Fa.z10
  have m11 := no Fa.z11
  have m12 := no Fa.z12
  have m13 := no Fa.z13
  have gB := PySem.W.mg_of X G Fa.gB
  have gA := PySem.W.mg_of X G Fa.gA
  have TB : BTxt K C := ⟨Fa.cB, Fa.nT, Fa.nL, Fa.nB, Fa.nR⟩
  have TA : ATxt K CA := ⟨Fa.cA, Fa.nF⟩
  obtain ⟨fb, c, fdb, e, dd, vs, sl, ab, Fb, hcb, lc, hv, nT⟩ := Fa.d26
  have gfb := PySem.W.mg_of X G ab
  -- the table
  have tab : PySem.W.CodeHd h c T ∧ h.get? T = some { cls := .none, data := .fields #[] } := by
    obtain ⟨a', o', fd', c', T', h1, h2, h3, h4, h5, h6⟩ := TX
    rw [gfb] at h1
    cases h1
    obtain ⟨oc, od, kV, doc, pm, an, cdv, ct, osl, rfl, lk, hcd⟩ := Fb.ex
    have g1 := X _ _ lk
    rw [g1] at h2
    cases h2
    cases h3
    have e1 : (.ref c : Value) = .ref c' := hcb.symm.trans h4
    cases e1
    obtain ⟨oo, vv, file, tf, flags, tg, inF, text, tt, k1, k2, k3, k4, _⟩ := id h5
    have g2 := X _ _ lc
    rw [g2] at k1
    cases k1
    cases k3
    rw [hv] at k4
    cases k4
    exact ⟨h5, h6⟩
  obtain ⟨f32, fd32, a32, F32⟩ := Fa.d32
  have e32 := hfa.symm.trans (PySem.W.mg_of X G a32)
  cases e32
  refine ⟨fd32, [(c, T)], spLaw K T, fun p hp => by rw [List.mem_singleton.mp hp]; exact tab.2, fun p hp => by rw [List.mem_singleton.mp hp]; exact nT, fun p hp => by rw [List.mem_singleton.mp hp]; exact tab.1, fun s u => ?_, fun H a ns _ _ hH hS => ⟨a, ns, rfl, hS, hH (c, T) (List.mem_singleton.mpr rfl), fun _ => rfl⟩, fun base hK hG hTB => ?_⟩
  · obtain ⟨oc, od, kV, doc, pm, an, cdv, ct, osl, rfl, lk, hcd⟩ := F32.ex
    exact .of_eq rfl
  have tb := hTB (c, T) (List.mem_singleton.mpr rfl)
  have gm : ∀ {x : Str} {a : Addr}, PySem.W.nsIn K mainGlobals x = some (some (.ref a)) → mg x = some (.ref a) := fun z => PySem.W.mg_of X G z
  obtain ⟨f1, fd1, a1, F1⟩ := Fa.d1
  obtain ⟨f2, fd2, a2, F2⟩ := Fa.d2
  obtain ⟨f3, fd3, a3, F3⟩ := Fa.d3
  obtain ⟨f4, fd4, a4, F4⟩ := Fa.d4
  obtain ⟨f5, fd5, a5, F5⟩ := Fa.d5
  obtain ⟨f6, fd6, a6, F6⟩ := Fa.d6
  obtain ⟨f7, fd7, a7, F7⟩ := Fa.d7
  obtain ⟨f8, fd8, a8, F8⟩ := Fa.d8
  obtain ⟨f9, fd9, a9, F9⟩ := Fa.d9
  obtain ⟨f10, fd10, a10, F10⟩ := Fa.d10
  obtain ⟨f11, fd11, a11, F11⟩ := Fa.d11
  obtain ⟨f12, fd12, a12, F12⟩ := Fa.d12
  obtain ⟨f13, fd13, a13, F13⟩ := Fa.d13
  obtain ⟨f14, fd14, a14, F14⟩ := Fa.d14
  obtain ⟨f15, fd15, a15, F15⟩ := Fa.d15
  obtain ⟨f16, fd16, a16, F16⟩ := Fa.d16
  obtain ⟨f17, fd17, a17, F17⟩ := Fa.d17
  obtain ⟨f18, fd18, a18, F18⟩ := Fa.d18
  obtain ⟨f19, fd19, a19, F19⟩ := Fa.d19
  obtain ⟨f20, fd20, a20, F20⟩ := Fa.d20
  obtain ⟨f21, fd21, a21, F21⟩ := Fa.d21
  obtain ⟨f22, fd22, a22, F22⟩ := Fa.d22
  obtain ⟨f23, fd23, a23, F23⟩ := Fa.d23
  obtain ⟨f24, fd24, a24, F24⟩ := Fa.d24
  obtain ⟨f25, fd25, a25, F25⟩ := Fa.d25
  obtain ⟨f27, fd27, a27, F27⟩ := Fa.d27
  obtain ⟨f28, fd28, a28, F28⟩ := Fa.d28
  obtain ⟨f29, fd29, a29, F29⟩ := Fa.d29
  obtain ⟨f30, fd30, a30, F30⟩ := Fa.d30
  obtain ⟨f31, fd31, a31, F31⟩ := Fa.d31
  have gE := gm a13
  have c1 : Cal l.prog w K mg base "is_whole" 1 spWhole := cal_whole F1 (gm a1) m1 m2 m3
  have c2 : Cal l.prog w K mg base "is_count" 2 spCount := cal_count F2 (gm a2) c1
  have c3 : Cal l.prog w K mg base "is_end" 3 spEnd := cal_end F3 (gm a3) c2
  have c4 : Cal l.prog w K mg base "is_at" 1 spAt := cal_at F4 (gm a4)
  have c5 : Cal l.prog w K mg base "stretches" 1 spStr := cal_str F5 (gm a5) m6 m7 m8 m9
  have c6 : Cal l.prog w K mg base "cuts_of" 1 spCuts := cal_cuts F6 (gm a6)
  have c7 : Cal l.prog w K mg base "with_run" 1 spWith := cal_with F7 (gm a7)
  have c13 : Cal l.prog w K mg base "either" 1 spEither := cal_either F13 (gm a13)
  have c8 : Cal l.prog w K mg base "runs_by" 2 (spRuns f13) := cal_runs F8 (gm a8) gE m4 c5 c6 c4 c13 c7
  have c9 : Cal l.prog w K mg base "columns_at" 2 (spCols C) := cal_cols F9 (gm a9) TB c4
  have c10 : Cal l.prog w K mg base "bands_by" 3 (spBands C f13) := cal_bands F10 (gm a10) TB c5 c6 c8 c9
  have c12 : Cal l.prog w K mg base "first_cell" 1 (spFirst C) := cal_first F12 (gm a12) TB
  obtain ⟨fbi, fdbi, Mbi, Fbi⟩ := Fa.iB
  obtain ⟨dsb, vdsb, bbi⟩ := FunD.binds1 (ps := ["self", "top", "left", "bottom", "right"]) Fbi 5 4 (by simp) rfl fun _ _ _ _ _ _ _ us its h1 h2 => match us, its, h1, h2 with | [_, _, _, _, _], [_, _, _, _], _, _ => ⟨_, rfl, rfl⟩
  have okBi : FnOk l.prog w K mg base CX0 4 fbi fdbi ["self", "top", "left", "bottom", "right"] (spBInit C) := ok_binit Fbi TB c2 c3
  have mB : C8.Mak l.prog w K mg base 4 "Block" C (spBInit C) [] := ⟨fbi, fdbi, _, dsb, Mbi, okBi, gB, bbi, vdsb⟩
  have c11 : Cal l.prog w K mg base "form_of" 6 (spForm C) := cal_form F11 (gm a11) m10 m6 mB c12
  have c14 : Cal l.prog w K mg base "checked_blocks" 1 (spChkB C) := cal_chkB F14 (gm a14) TB m1 m10 m5 gB
  have c15 : Cal l.prog w K mg base "checked_area" 1 (spChkA CA C) := cal_chkA F15 (gm a15) TA m1 gA
  obtain ⟨fai, fdai, Mai, Fai⟩ := Fa.iA
  obtain ⟨dsa, vdsa, bai⟩ := FunD.binds1 (ps := ["self", "blocks"]) Fai 2 1 (by simp) rfl fun _ _ _ _ _ _ _ us its h1 h2 => match us, its, h1, h2 with | [_, _], [_], _, _ => ⟨_, rfl, rfl⟩
  obtain ⟨dsa0, vdsa0, bai0⟩ := FunD.binds1 (ps := ["self", "blocks"]) Fai 1 0 (by simp) rfl fun _ _ _ _ _ _ _ us its h1 h2 => match us, its, h1, h2 with | [_], [_], _, _ => ⟨_, rfl, rfl⟩
  have okAi : FnOk l.prog w K mg base CX0 7 fai fdai ["self", "blocks"] (spAInit CA C) := ok_ainit Fai TA c14 c10 c11 gE
  have mA : C8.Mak l.prog w K mg base 7 "Area" CA (spAInit CA C) [] := ⟨fai, fdai, _, dsa, Mai, okAi, gA, bai, vdsa⟩
  have mA0 : C8.Mak l.prog w K mg base 7 "Area" CA (spAInit CA C) [.non] := ⟨fai, fdai, _, dsa0, Mai, okAi, gA, bai0, vdsa0⟩
  obtain ⟨fbe, fdbe, Mbe, Fbe⟩ := Fa.bEq
  obtain ⟨fae, fdae, Mae, Fae⟩ := Fa.aEq
  obtain ⟨fal, fdal, Mal, Fal⟩ := Fa.aLen
  obtain ⟨fab, fdab, Mab, Fab⟩ := Fa.aBlocks
  obtain ⟨faf, fdaf, Maf, Faf⟩ := Fa.aFirsts
  obtain ⟨fay, fday, May, Fay⟩ := Fa.aBy
  obtain ⟨faj, fdaj, Maj, Faj⟩ := Fa.aJoin
  have b1 : ∀ {m qual : Str} {st : Stmt} {f : Addr} {fd : FuncData} (F : Fun K m qual st f fd), True := fun _ => trivial
  have bbe := Fbe.binds (ps := ["self", "other"]) fun _ _ _ _ _ _ us hl => match us, hl with | [_, _], _ => rfl
  have bae := Fae.binds (ps := ["self", "other"]) fun _ _ _ _ _ _ us hl => match us, hl with | [_, _], _ => rfl
  have bal := Fal.binds (ps := ["self"]) fun _ _ _ _ _ _ us hl => match us, hl with | [_], _ => rfl
  have bab := Fab.binds (ps := ["self"]) fun _ _ _ _ _ _ us hl => match us, hl with | [_], _ => rfl
  have baf := Faf.binds (ps := ["self"]) fun _ _ _ _ _ _ us hl => match us, hl with | [_], _ => rfl
  have bay := Fay.binds (ps := ["self", "other", "keeps"]) fun _ _ _ _ _ _ us hl => match us, hl with | [_, _, _], _ => rfl
  have baj := Faj.binds (ps := ["self", "other"]) fun _ _ _ _ _ _ us hl => match us, hl with | [_, _], _ => rfl
  have okBe : FnOk l.prog w K mg base CX0 1 fbe fdbe ["self", "other"] (spEq (SameB C)) := ok_beq Fbe TB m1 gB
  have okAe : FnOk l.prog w K mg base CX0 3 fae fdae ["self", "other"] (spEq (SameA CA C)) := ok_aeq Fae TA m1 gA okBe Mbe.at_ Mbe.fn bbe
  have okAl : FnOk l.prog w K mg base CX0 1 fal fdal ["self"] (spALen CA C) := ok_alen Fal TA m9
  have okAb : FnOk l.prog w K mg base CX0 1 fab fdab ["self"] (spABlocks CA C) := ok_ablocks Fab TA m10
  have okAf : FnOk l.prog w K mg base CX0 2 faf fdaf ["self"] (spAFirsts CA C) := ok_afirsts Faf TA c12
  have okAy : FnOk l.prog w K mg base CX0 9 fay fday ["self", "other", "keeps"] (spABy CA C f13) := ok_aby Fay TA c15 c10 c11 mA
  have tBl : C8.Met l.prog w K mg base 1 CA "blocks" (spABlocks CA C) [] := ⟨fab, fdab, _, [], TA.cl, Mab, okAb, bab, .nil⟩
  have tFi : C8.Met l.prog w K mg base 2 CA "firsts" (spAFirsts CA C) [] := ⟨faf, fdaf, _, [], TA.cl, Maf, okAf, baf, .nil⟩
  have tBy : C8.Met l.prog w K mg base 9 CA "by" (spABy CA C f13) [] := ⟨fay, fday, _, [], TA.cl, May, okAy, bay, .nil⟩
  have okAj : FnOk l.prog w K mg base CX0 10 faj fdaj ["self", "other"] (spAJoin CA C) := ok_ajoin Faj tBy gE
  have tJo : C8.Met l.prog w K mg base 10 CA "joined" (spAJoin CA C) [] := ⟨faj, fdaj, _, [], TA.cl, Maj, okAj, baj, .nil⟩
  have c16 : Cal l.prog w K mg base "_law_cell_at" 1 (spCellA K) := cal_cellA F16 (gm a16) m9
  have c17 : Cal l.prog w K mg base "_law_mixed" 1 spMixA := cal_mixA F17 (gm a17)
  have c18 : Cal l.prog w K mg base "_law_source" 1 spSrc := cal_src F18 (gm a18)
  have c19 : Cal l.prog w K mg base "_law_next" 2 spNext := cal_next F19 (gm a19) c17
  have c20 : Cal l.prog w K mg base "_law_made" 6 (spLMade C) := cal_lmade F20 (gm a20) mB
  have c21 : Cal l.prog w K mg base "_law_tuples" 1 (spLTup C) := cal_ltup F21 (gm a21) TB
  have c22 : Cal l.prog w K mg base "_law_cuts" 1 spLCuts := cal_lcuts F22 (gm a22) m11 m6
  have c23 : Cal l.prog w K mg base "_law_spans" 1 spLSpans := cal_lspans F23 (gm a23) m10 m12
  have c24 : Cal l.prog w K mg base "_law_has" 1 spLHas := cal_lhas F24 (gm a24)
  have c25 : Cal l.prog w K mg base "_law_rows_of" 2 spLRows := cal_lrows F25 (gm a25) c22 c23 c24
  have c26 : Cal l.prog w K mg base "_law_form_by" 4 (spLFormBy T) := cal_lformby Fb hcb gfb tb (c25.mono (by decide)) m13 m9 m6
  have c27 : Cal l.prog w K mg base "_law_form" 5 (spLForm T) := cal_lform F27 (gm a27) c26
  have c28 : Cal l.prog w K mg base "_law_runs" 3 spLRuns := cal_lruns F28 (gm a28) c25
  have c29 : Cal l.prog w K mg base "_law_window" 3 spLWin := cal_lwin F29 (gm a29) c19 m13 m2
  have c30 : Cal l.prog w K mg base "_law_apart" 4 spLApart := cal_lapart F30 (gm a30) c28 m13
  have c31 : Cal l.prog w K mg base "_law_fewest" 4 spLFew := cal_lfew F31 (gm a31) c28 m13 m9
  exact ok_law F32 m9 m10 m13 c16 c18 c29 c27 c20 c21 c31 c19 c30 c28 mA mA0 tBl tFi tJo okAe Fa.eN Mae.at_ Mae.fn TA.hm bae okAl Mal.at_ Mal.fn bal
end
/-! ### the end -/
theorem walk_tab {l : PySem.W.OpenLaw} {n k : Nat} {q : Program} {loose : List Str} {XP : (Str → Option Value) → Heap → Prop} {YP : World → Heap → Prop} {d : DefRec} {K : Params → PySem.W.Frag} {x nm : Str}
    (hn : l.most = some n) (hn2 : n ≤ sizeLine) (hdf : d.params.defaults = []) (hr : Room k callerA) (hrec : ((recsOf q).any fun e => e.name == nm) = true) (hY : ∀ (w : World) (h : Heap), YP w h → (K w.params).In h)
    (F : ∀ (w : World) (mg : Str → Option Value) (fa : Addr) (h : Heap), YP w h → (K w.params).In h → h.Ns mainGlobals mg → mg d.name = some (.ref fa) → TabX nm mg h → LamX.LawAtS l w (K w.params) CX0 k n x mg fa h) :
    PySem.W.WalkO q loose XP YP l.row.toRowW d [] (fun f vs => PySem.call f vs) := by
  refine Att.attach_callB hn hdf fun w s₀ s₁ mg mb fa o pm cd doc a vs ns G Y ho hd hcd hmg hobj hints hlen hbits hg => ?_
  have KX := hY w _ Y
  have own : TabX nm mg s₁.heap := by
    obtain ⟨dL, hm, hn1⟩ := List.any_eq_true.mp hrec
    have hn2 : dL.name = nm := beq_iff_eq.mp hn1
    obtain ⟨a', o', fd', c', P', h1, h2, h3, h4, h5, h6⟩ := G.T.tab dL hm
    rw [hn2] at h1
    exact ⟨a', o', fd', c', P', h1, h2, h3, h4, PySem.W.CodeHd.of h5 h6, h6.2⟩
  obtain ⟨fd, cs, sp, hT, nT, C, hb, hsp, hF⟩ := F w mg fa _ Y KX G.T.g hmg own
  exact LamX.law_callTs KX G.T.g G.T.b G.T.builtins G.T.nolimit hg hT nT C G.T.bmain hobj hints (Nat.le_trans hlen hn2) hr hF hb (fun H hH hS => hsp H a ns hlen hbits hH hS) fun H e s' z => z
end CW
open PySem PySem.W PyProof.Rows in
set_option maxRecDepth 100000 in
set_option maxHeartbeats 0 in
theorem PySem.Challenge.cw_cellblocks_k18_whole_none_of_fewer_holds : PySem.Challenge.rw_cellblocks_k18_whole_none_of_fewer.Holds := by
  w_on; o_law; k_head; (case hw => w_witness2)
  k_fill
  refine CW.walk_tab (l := PySem.Challenge.rw_cellblocks_k18_whole_none_of_fewer) (n := 63) (k := 12) (x := "_law_script") (nm := "_law_form_by") rfl (by decide) rfl ⟨rfl, by decide, by decide⟩ ?hrec (fun w h Y => PySem.W.km_in_of Y) ?F
  case hrec => decide +kernel
  case F =>
    intro w mg fa h Y KX G hmg TX
    refine' CW.law_at ?fa KX G hmg TX
    case fa =>
      refine' CW.Facts.mk ?gB ?gA ?cB ?nT ?nL ?nB ?nR ?cA ?nF ?eN ?iB ?iA ?bEq ?aEq ?aLen ?aBlocks ?aFirsts ?aBy ?aJoin ?d1 ?d2 ?d3 ?d4 ?d5 ?d6 ?d7 ?d8 ?d9 ?d10 ?d11 ?d12 ?d13 ?d14 ?d15 ?d16 ?d17 ?d18 ?d19 ?d20 ?d21 ?d22 ?d23 ?d24 ?d25 ?d26 ?d27 ?d28 ?d29 ?d30 ?d31 ?d32 ?z1 ?z2 ?z3 ?z4 ?z5 ?z6 ?z7 ?z8 ?z9 ?z10 ?z11 ?z12 ?z13
      (case gB => k_is)
      (case gA => k_is)
      (case cB => (refine' CW.cls_mk ?cB_a ?cB_b ?cB_c ?cB_d ?cB_e ?cB_f ?cB_g ?cB_h ?cB_i; (case cB_a => k_is); (case cB_b => k_is); (case cB_c => k_is); (case cB_d => k_is); (case cB_e => k_is); (case cB_f => k_is); (case cB_g => k_is); (case cB_h => k_is); (case cB_i => rfl)))
      (case nT => (show PySem.W.findIn _ _ _ = some none; k_is))
      (case nL => (show PySem.W.findIn _ _ _ = some none; k_is))
      (case nB => (show PySem.W.findIn _ _ _ = some none; k_is))
      (case nR => (show PySem.W.findIn _ _ _ = some none; k_is))
      (case cA => (refine' CW.cls_mk ?cA_a ?cA_b ?cA_c ?cA_d ?cA_e ?cA_f ?cA_g ?cA_h ?cA_i; (case cA_a => k_is); (case cA_b => k_is); (case cA_c => k_is); (case cA_d => k_is); (case cA_e => k_is); (case cA_f => k_is); (case cA_g => k_is); (case cA_h => k_is); (case cA_i => rfl)))
      (case nF => (show PySem.W.findIn _ _ _ = some none; k_is))
      (case eN => k_is)
      (case iB => (refine' CW.ini_mk ?iB_m ?iB_q ?iB_a ?iB_i ?iB_l ?iB_c ?iB_k ?iB_t ?iB_d ?iB_v; (case iB_m => k_is); (case iB_q => k_is); (case iB_a => k_is); (case iB_i => k_is); (case iB_l => k_is); (case iB_c => k_is); (case iB_k => k_is); (case iB_t => k_is); (case iB_d => simp); (case iB_v => exact .cons ⟨_, rfl⟩ (.cons ⟨_, rfl⟩ (.cons rfl (.cons rfl .nil))))))
      (case iA => (refine' CW.ini_mk ?iA_m ?iA_q ?iA_a ?iA_i ?iA_l ?iA_c ?iA_k ?iA_t ?iA_d ?iA_v; (case iA_m => k_is); (case iA_q => k_is); (case iA_a => k_is); (case iA_i => k_is); (case iA_l => k_is); (case iA_c => k_is); (case iA_k => k_is); (case iA_t => k_is); (case iA_d => simp); (case iA_v => exact .cons rfl .nil)))
      (case bEq => (refine' CW.mt_mk ?bEq_a ?bEq_i ?bEq_l ?bEq_c ?bEq_k; (case bEq_a => k_is); (case bEq_i => k_is); (case bEq_l => k_is); (case bEq_c => k_is); (case bEq_k => k_is)))
      (case aEq => (refine' CW.mt_mk ?aEq_a ?aEq_i ?aEq_l ?aEq_c ?aEq_k; (case aEq_a => k_is); (case aEq_i => k_is); (case aEq_l => k_is); (case aEq_c => k_is); (case aEq_k => k_is)))
      (case aLen => (refine' CW.mt_mk ?aLen_a ?aLen_i ?aLen_l ?aLen_c ?aLen_k; (case aLen_a => k_is); (case aLen_i => k_is); (case aLen_l => k_is); (case aLen_c => k_is); (case aLen_k => k_is)))
      (case aBlocks => (refine' CW.mt_mk ?aBlocks_a ?aBlocks_i ?aBlocks_l ?aBlocks_c ?aBlocks_k; (case aBlocks_a => k_is); (case aBlocks_i => k_is); (case aBlocks_l => k_is); (case aBlocks_c => k_is); (case aBlocks_k => k_is)))
      (case aFirsts => (refine' CW.mt_mk ?aFirsts_a ?aFirsts_i ?aFirsts_l ?aFirsts_c ?aFirsts_k; (case aFirsts_a => k_is); (case aFirsts_i => k_is); (case aFirsts_l => k_is); (case aFirsts_c => k_is); (case aFirsts_k => k_is)))
      (case aBy => (refine' CW.mt_mk ?aBy_a ?aBy_i ?aBy_l ?aBy_c ?aBy_k; (case aBy_a => k_is); (case aBy_i => k_is); (case aBy_l => k_is); (case aBy_c => k_is); (case aBy_k => k_is)))
      (case aJoin => (refine' CW.mt_mk ?aJoin_a ?aJoin_i ?aJoin_l ?aJoin_c ?aJoin_k; (case aJoin_a => k_is); (case aJoin_i => k_is); (case aJoin_l => k_is); (case aJoin_c => k_is); (case aJoin_k => k_is)))
      (case d1 => (refine' CW.df_mk ?d1_a ?d1_l ?d1_c ?d1_k; (case d1_a => k_is); (case d1_l => k_is); (case d1_c => k_is); (case d1_k => k_is)))
      (case d2 => (refine' CW.df_mk ?d2_a ?d2_l ?d2_c ?d2_k; (case d2_a => k_is); (case d2_l => k_is); (case d2_c => k_is); (case d2_k => k_is)))
      (case d3 => (refine' CW.df_mk ?d3_a ?d3_l ?d3_c ?d3_k; (case d3_a => k_is); (case d3_l => k_is); (case d3_c => k_is); (case d3_k => k_is)))
      (case d4 => (refine' CW.df_mk ?d4_a ?d4_l ?d4_c ?d4_k; (case d4_a => k_is); (case d4_l => k_is); (case d4_c => k_is); (case d4_k => k_is)))
      (case d5 => (refine' CW.df_mk ?d5_a ?d5_l ?d5_c ?d5_k; (case d5_a => k_is); (case d5_l => k_is); (case d5_c => k_is); (case d5_k => k_is)))
      (case d6 => (refine' CW.df_mk ?d6_a ?d6_l ?d6_c ?d6_k; (case d6_a => k_is); (case d6_l => k_is); (case d6_c => k_is); (case d6_k => k_is)))
      (case d7 => (refine' CW.df_mk ?d7_a ?d7_l ?d7_c ?d7_k; (case d7_a => k_is); (case d7_l => k_is); (case d7_c => k_is); (case d7_k => k_is)))
      (case d8 => (refine' CW.df_mk ?d8_a ?d8_l ?d8_c ?d8_k; (case d8_a => k_is); (case d8_l => k_is); (case d8_c => k_is); (case d8_k => k_is)))
      (case d9 => (refine' CW.df_mk ?d9_a ?d9_l ?d9_c ?d9_k; (case d9_a => k_is); (case d9_l => k_is); (case d9_c => k_is); (case d9_k => k_is)))
      (case d10 => (refine' CW.df_mk ?d10_a ?d10_l ?d10_c ?d10_k; (case d10_a => k_is); (case d10_l => k_is); (case d10_c => k_is); (case d10_k => k_is)))
      (case d11 => (refine' CW.df_mk ?d11_a ?d11_l ?d11_c ?d11_k; (case d11_a => k_is); (case d11_l => k_is); (case d11_c => k_is); (case d11_k => k_is)))
      (case d12 => (refine' CW.df_mk ?d12_a ?d12_l ?d12_c ?d12_k; (case d12_a => k_is); (case d12_l => k_is); (case d12_c => k_is); (case d12_k => k_is)))
      (case d13 => (refine' CW.df_mk ?d13_a ?d13_l ?d13_c ?d13_k; (case d13_a => k_is); (case d13_l => k_is); (case d13_c => k_is); (case d13_k => k_is)))
      (case d14 => (refine' CW.df_mk ?d14_a ?d14_l ?d14_c ?d14_k; (case d14_a => k_is); (case d14_l => k_is); (case d14_c => k_is); (case d14_k => k_is)))
      (case d15 => (refine' CW.df_mk ?d15_a ?d15_l ?d15_c ?d15_k; (case d15_a => k_is); (case d15_l => k_is); (case d15_c => k_is); (case d15_k => k_is)))
      (case d16 => (refine' CW.df_mk ?d16_a ?d16_l ?d16_c ?d16_k; (case d16_a => k_is); (case d16_l => k_is); (case d16_c => k_is); (case d16_k => k_is)))
      (case d17 => (refine' CW.df_mk ?d17_a ?d17_l ?d17_c ?d17_k; (case d17_a => k_is); (case d17_l => k_is); (case d17_c => k_is); (case d17_k => k_is)))
      (case d18 => (refine' CW.df_mk ?d18_a ?d18_l ?d18_c ?d18_k; (case d18_a => k_is); (case d18_l => k_is); (case d18_c => k_is); (case d18_k => k_is)))
      (case d19 => (refine' CW.df_mk ?d19_a ?d19_l ?d19_c ?d19_k; (case d19_a => k_is); (case d19_l => k_is); (case d19_c => k_is); (case d19_k => k_is)))
      (case d20 => (refine' CW.df_mk ?d20_a ?d20_l ?d20_c ?d20_k; (case d20_a => k_is); (case d20_l => k_is); (case d20_c => k_is); (case d20_k => k_is)))
      (case d21 => (refine' CW.df_mk ?d21_a ?d21_l ?d21_c ?d21_k; (case d21_a => k_is); (case d21_l => k_is); (case d21_c => k_is); (case d21_k => k_is)))
      (case d22 => (refine' CW.df_mk ?d22_a ?d22_l ?d22_c ?d22_k; (case d22_a => k_is); (case d22_l => k_is); (case d22_c => k_is); (case d22_k => k_is)))
      (case d23 => (refine' CW.df_mk ?d23_a ?d23_l ?d23_c ?d23_k; (case d23_a => k_is); (case d23_l => k_is); (case d23_c => k_is); (case d23_k => k_is)))
      (case d24 => (refine' CW.df_mk ?d24_a ?d24_l ?d24_c ?d24_k; (case d24_a => k_is); (case d24_l => k_is); (case d24_c => k_is); (case d24_k => k_is)))
      (case d25 => (refine' CW.df_mk ?d25_a ?d25_l ?d25_c ?d25_k; (case d25_a => k_is); (case d25_l => k_is); (case d25_c => k_is); (case d25_k => k_is)))
      (case d26 => (refine' CW.fb_mk ?d26_a ?d26_l ?d26_c ?d26_k ?d26_x ?d26_v ?d26_n; (case d26_a => k_is); (case d26_l => k_is); (case d26_c => k_is); (case d26_k => k_is); (case d26_x => k_is); (case d26_v => rfl); (case d26_n => rfl)))
      (case d27 => (refine' CW.df_mk ?d27_a ?d27_l ?d27_c ?d27_k; (case d27_a => k_is); (case d27_l => k_is); (case d27_c => k_is); (case d27_k => k_is)))
      (case d28 => (refine' CW.df_mk ?d28_a ?d28_l ?d28_c ?d28_k; (case d28_a => k_is); (case d28_l => k_is); (case d28_c => k_is); (case d28_k => k_is)))
      (case d29 => (refine' CW.df_mk ?d29_a ?d29_l ?d29_c ?d29_k; (case d29_a => k_is); (case d29_l => k_is); (case d29_c => k_is); (case d29_k => k_is)))
      (case d30 => (refine' CW.df_mk ?d30_a ?d30_l ?d30_c ?d30_k; (case d30_a => k_is); (case d30_l => k_is); (case d30_c => k_is); (case d30_k => k_is)))
      (case d31 => (refine' CW.df_mk ?d31_a ?d31_l ?d31_c ?d31_k; (case d31_a => k_is); (case d31_l => k_is); (case d31_c => k_is); (case d31_k => k_is)))
      (case d32 => (refine' CW.df_mk ?d32_a ?d32_l ?d32_c ?d32_k; (case d32_a => k_is); (case d32_l => k_is); (case d32_c => k_is); (case d32_k => k_is)))
      (case z1 => (show PySem.W.nsIn _ _ _ = some none; k_is))
      (case z2 => (show PySem.W.nsIn _ _ _ = some none; k_is))
      (case z3 => (show PySem.W.nsIn _ _ _ = some none; k_is))
      (case z4 => (show PySem.W.nsIn _ _ _ = some none; k_is))
      (case z5 => (show PySem.W.nsIn _ _ _ = some none; k_is))
      (case z6 => (show PySem.W.nsIn _ _ _ = some none; k_is))
      (case z7 => (show PySem.W.nsIn _ _ _ = some none; k_is))
      (case z8 => (show PySem.W.nsIn _ _ _ = some none; k_is))
      (case z9 => (show PySem.W.nsIn _ _ _ = some none; k_is))
      (case z10 => (show PySem.W.nsIn _ _ _ = some none; k_is))
      (case z11 => (show PySem.W.nsIn _ _ _ = some none; k_is))
      (case z12 => (show PySem.W.nsIn _ _ _ = some none; k_is))
      (case z13 => (show PySem.W.nsIn _ _ _ = some none; k_is))
