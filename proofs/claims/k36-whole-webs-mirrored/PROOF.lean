import PyProof.Rows.All
import Wide.All
import OpenK.AllK
import Wide.FinOn
import KE.KStateDown
import HandS.ForMost
import HandS.Exc
import HandS.More
import HandS.Defaults
import HandS.Slots
import HandS.SlotsOwn
import HandS.Star
import HandS.SetKeys
import HandS.DictComp
import HandS.Style
import HandS.Wide
import HandS.HeadHook1
import HandS.HeadHook2
import HandS.HeadHook3
import HandS.HeadHook4
import HandS.HeadWalk
import HandS.NoneIn
import HandS.Walk
import HandS.IsInst
import HandS.SortOrd
import HandS.SortInts
import HandS.Zip
import HandS.Conv
import HandS.Small
import HandS.Nested
import HandS.Codes
import HandS.Deep
import HandS.Head0
import HandS.Head1
import HandS.Head2
import PySem.Challenge.RW_standwaves_k36_whole_webs_mirrored
import PyProof.Rows.SortShellAny
import KE.LtSeq
import KE.KSortAsk
import HandS.WordsDict
set_option Elab.async false
set_option linter.all false
set_option maxRecDepth 100000
set_option maxHeartbeats 0
/-! M1: the plain law, first part: sorting, the web of windows, its mirror. Core Lean alone. -/
namespace Sw
open List
open Classical in
theorem dummy : True := True.intro

/-! ### sorting -/
section
variable {α : Type} [LT α] [DecidableLT α] [i1 : Std.Asymm (α := α) (· < ·)] [i2 : Std.Trichotomous (α := α) (· < ·)] [i3 : Trans (α := α) (· < ·) (· < ·) (· < ·)]
def leB (a b : α) : Bool := !decide (b < a)
def srt (l : List α) : List α := l.mergeSort leB
omit i1 i2 i3 in
theorem leB_iff {a b : α} : leB a b = true ↔ ¬ b < a := by simp [leB]
theorem tri {a b : α} (h1 : ¬ a < b) (h2 : ¬ b < a) : a = b := i2.trichotomous a b h1 h2
theorem ltT {a b c : α} (h1 : a < b) (h2 : b < c) : a < c := i3.trans h1 h2
theorem ltA {a b : α} (h1 : a < b) : ¬ b < a := i1.asymm a b h1
theorem leT {a b c : α} (h1 : ¬ b < a) (h2 : ¬ c < b) : ¬ c < a := fun h => by
  by_cases q : a < b
  · exact h2 (ltT h q)
  · have e := tri q h1
    subst e
    exact h2 h
theorem srt_perm (l : List α) : (srt l).Perm l := mergeSort_perm l leB
theorem srt_sorted (l : List α) : (srt l).Pairwise (fun a b => ¬ b < a) := by
  have h := pairwise_mergeSort (le := leB (α := α)) (fun a b c h1 h2 => leB_iff.mpr (leT (leB_iff.mp h1) (leB_iff.mp h2))) (fun a b => by
    by_cases q : b < a
    · have z := leB_iff.mpr (ltA q)
      simp [z]
    · have z := leB_iff.mpr q
      simp [z]) l
  exact h.imp fun h => leB_iff.mp h
theorem sorted_eq {l m : List α} (h1 : l.Pairwise (fun a b => ¬ b < a)) (h2 : m.Pairwise (fun a b => ¬ b < a)) (p : l.Perm m) : l = m :=
  Perm.eq_of_pairwise (le := fun a b => ¬ b < a) (fun a b _ _ x y => tri y x) h1 h2 p
theorem srt_eq {l m : List α} (h : m.Pairwise (fun a b => ¬ b < a)) (p : m.Perm l) : m = srt l := sorted_eq h (srt_sorted l) (p.trans (srt_perm l).symm)
theorem srt_congr {l m : List α} (p : l.Perm m) : srt l = srt m := sorted_eq (srt_sorted l) (srt_sorted m) ((srt_perm l).trans (p.trans (srt_perm m).symm))
theorem weak {l : List α} (h : l.Pairwise (· < ·)) : l.Pairwise (fun a b => ¬ b < a) := h.imp fun x => ltA x
theorem strict_nodup {l : List α} (h : l.Pairwise (· < ·)) : l.Nodup := h.imp fun {a b} x e => by
  subst e
  exact ltA x x
theorem srt_mem {l : List α} {a : α} : a ∈ srt l ↔ a ∈ l := (srt_perm l).mem_iff
theorem srt_of {l m : List α} (hl : l.Nodup) (hm : m.Pairwise (· < ·)) (h : ∀ a, a ∈ l ↔ a ∈ m) : srt l = m :=
  (srt_eq (weak hm) (((perm_ext_iff_of_nodup hl (strict_nodup hm)).mpr h).symm)).symm
theorem strict_ext {l m : List α} (hl : l.Pairwise (· < ·)) (hm : m.Pairwise (· < ·)) (h : ∀ a, a ∈ l ↔ a ∈ m) : l = m :=
  sorted_eq (weak hl) (weak hm) ((perm_ext_iff_of_nodup (strict_nodup hl) (strict_nodup hm)).mpr h)
theorem srt_strict {l : List α} (h : l.Pairwise (· < ·)) : srt l = l := (srt_eq (weak h) (Perm.refl l)).symm
end

abbrev Row := List Nat

theorem app_lt : ∀ {a b : Row} (x y : Row), a.length = b.length → a < b → a ++ x < b ++ y
  | [], [], _, _, _, h => absurd h (List.lt_irrefl _)
  | [], _ :: _, _, _, e, _ => by simp at e
  | _ :: _, [], _, _, e, _ => by simp at e
  | a :: r, b :: t, x, y, e, h => by
    rw [List.cons_append, List.cons_append]
    rcases List.cons_lt_cons_iff.mp h with q | ⟨q, q2⟩
    · exact List.cons_lt_cons_iff.mpr (.inl q)
    · exact List.cons_lt_cons_iff.mpr (.inr ⟨q, app_lt x y (by simpa using e) q2⟩)
theorem drop_le {a b : Row} (e : a.length = b.length) (h : a < b) : ¬ b.dropLast < a.dropLast := fun q => by
  by_cases ha : a = []
  · subst ha
    have : b = [] := by simpa using e.symm
    subst this
    exact List.lt_irrefl _ h
  · have hb : b ≠ [] := fun z => ha (by
      subst z
      simpa using e)
    have z := app_lt [b.getLast hb] [a.getLast ha] (by simp [e]) q
    rw [dropLast_concat_getLast, dropLast_concat_getLast] at z
    exact ltA z h

/-! ### the web of windows -/
section
variable (W : List Row)
def E (a b : Row) : Prop := ∃ w ∈ W, w.dropLast = a ∧ w.tail = b
inductive R : Row → Row → Prop
  | one {a b : Row} : E W a b → R a b
  | snoc {a b c : Row} : R a b → E W b c → R a c
def keys : List Row := (W.map List.dropLast).eraseDups
def goals (a : Row) : List Row := (W.filter fun w => w.dropLast == a).map List.tail
open Classical in
noncomputable def nodes : List Row := (keys W).filter fun a => decide (R W a a)
open Classical in
noncomputable def cls (a : Row) : List Row := (keys W).filter fun b => decide (R W a b ∧ R W b a)
open Classical in
noncomputable def heads : List Row := (keys W).filter fun a => decide (R W a a ∧ ∀ b ∈ keys W, R W a b → R W b a → ¬ b < a)
noncomputable def parts : List (List Row) := (heads W).map (cls W)
open Classical in
noncomputable def wgoals (a : Row) : List Row := (goals W a).filter fun g => decide (R W g a)
end
section
variable {W : List Row} {a b c : Row}
theorem mem_keys : a ∈ keys W ↔ ∃ w ∈ W, w.dropLast = a := by simp [keys]
theorem mem_goals : b ∈ goals W a ↔ E W a b := by
  simp only [goals, List.mem_map, List.mem_filter, beq_iff_eq, E]
  constructor
  · rintro ⟨w, ⟨h1, h2⟩, h3⟩
    exact ⟨w, h1, h2, h3⟩
  · rintro ⟨w, h1, h2, h3⟩
    exact ⟨w, ⟨h1, h2⟩, h3⟩
theorem E.key (h : E W a b) : a ∈ keys W := by
  obtain ⟨w, h1, h2, _⟩ := h
  exact mem_keys.mpr ⟨w, h1, h2⟩
theorem R.head (h : E W a b) (r : R W b c) : R W a c := by
  induction r with
  | one e => exact .snoc (.one h) e
  | snoc _ e ih => exact .snoc ih e
theorem R.trans (r : R W a b) (q : R W b c) : R W a c := by
  induction q with
  | one e => exact .snoc r e
  | snoc _ e ih => exact .snoc ih e
theorem R.key (r : R W a b) : a ∈ keys W := by
  induction r with
  | one e => exact e.key
  | snoc _ _ ih => exact ih
theorem mem_nodes : a ∈ nodes W ↔ R W a a := by
  simp only [nodes, List.mem_filter, decide_eq_true_eq]
  exact ⟨fun h => h.2, fun h => ⟨h.key, h⟩⟩
theorem mem_cls : b ∈ cls W a ↔ R W a b ∧ R W b a := by
  simp only [cls, List.mem_filter, decide_eq_true_eq]
  exact ⟨fun h => h.2, fun h => ⟨h.2.key, h⟩⟩
theorem mem_heads : a ∈ heads W ↔ R W a a ∧ ∀ b, R W a b → R W b a → ¬ b < a := by
  simp only [heads, List.mem_filter, decide_eq_true_eq]
  exact ⟨fun h => ⟨h.2.1, fun b h1 h2 => h.2.2 b h2.key h1 h2⟩, fun h => ⟨h.1.key, h.1, fun b _ => h.2 b⟩⟩
theorem mem_wgoals : b ∈ wgoals W a ↔ E W a b ∧ R W b a := by
  simp only [wgoals, List.mem_filter, decide_eq_true_eq, mem_goals]
theorem nodup_eraseDups {α : Type} [BEq α] [LawfulBEq α] : ∀ (n : Nat) (l : List α), l.length ≤ n → l.eraseDups.Nodup
  | _, [], _ => by simp
  | 0, _ :: _, h => by simp at h
  | n + 1, x :: r, h => by
    rw [eraseDups_cons, nodup_cons]
    refine ⟨fun q => ?_, nodup_eraseDups n _ (Nat.le_trans (length_filter_le _ _) (by simpa using h))⟩
    have z := mem_eraseDups.mp q
    simp at z
theorem pair_eraseDups {α : Type} [BEq α] [LawfulBEq α] {S : α → α → Prop} : ∀ (n : Nat) (l : List α), l.length ≤ n → l.Pairwise S → l.eraseDups.Pairwise S
  | _, [], _, _ => by simp
  | 0, _ :: _, h, _ => by simp at h
  | n + 1, x :: r, h, p => by
    rw [eraseDups_cons, pairwise_cons]
    rw [pairwise_cons] at p
    refine ⟨fun y q => ?_, pair_eraseDups n _ (Nat.le_trans (length_filter_le _ _) (by simpa using h)) (p.2.filter _)⟩
    have z := mem_eraseDups.mp q
    exact p.1 y (List.mem_filter.mp z).1
end

/-- windows as they are: ascending, of one length -/
structure Win (W : List Row) (n : Nat) : Prop where
  asc : W.Pairwise (· < ·)
  len : ∀ w ∈ W, w.length = n + 1
  pos : 2 ≤ n
section
variable {W V : List Row} {n : Nat} {a b c h : Row}
theorem keys_asc (w : Win W n) : (keys W).Pairwise (· < ·) := by
  have h1 : (W.map List.dropLast).Pairwise (fun a b => ¬ b < a) := by
    rw [pairwise_map]
    refine w.asc.imp_of_mem fun {a b} ha hb h => ?_
    exact drop_le (by rw [w.len a ha, w.len b hb]) h
  have h2 := pair_eraseDups _ _ (Nat.le_refl _) h1
  have h3 : (keys W).Nodup := nodup_eraseDups _ _ (Nat.le_refl _)
  have h4 : (keys W).Pairwise (fun a b => ¬ b < a ∧ a ≠ b) := Pairwise.and h2 h3
  refine h4.imp fun {a b} q => ?_
  by_cases z : a < b
  · exact z
  · exact absurd (tri z q.1) q.2
theorem keys_len (w : Win W n) (h : a ∈ keys W) : a.length = n := by
  obtain ⟨x, h1, h2⟩ := mem_keys.mp h
  rw [← h2, length_dropLast, w.len x h1]
  rfl
theorem E.len (w : Win W n) (h : E W a b) : a.length = n ∧ b.length = n := by
  obtain ⟨x, h1, h2, h3⟩ := h
  rw [← h2, ← h3, length_dropLast, length_tail, w.len x h1]
  exact ⟨rfl, rfl⟩
theorem E.shift (h : E W a b) : a.tail = b.dropLast := by
  obtain ⟨x, h1, h2, h3⟩ := h
  rw [← h2, ← h3]
  cases x with
  | nil => rfl
  | cons y r => cases r with
    | nil => rfl
    | cons z t => simp
theorem goals_nodup (w : Win W n) : (goals W a).Nodup := by
  unfold goals
  rw [Nodup, pairwise_map]
  have h1 : (W.filter fun w => w.dropLast == a).Nodup := (strict_nodup w.asc).filter _
  refine h1.imp_of_mem fun {x y} hx hy ne e => ne ?_
  simp only [List.mem_filter, beq_iff_eq] at hx hy
  have lx := w.len x hx.1
  have ly := w.len y hy.1
  have p := w.pos
  match x, y, lx, ly, hx.2, hy.2, e with
  | x :: x2 :: xs, y :: y2 :: ys, _, _, e1, e2, e3 =>
    have e4 := e1.trans e2.symm
    simp at e4 e3
    rw [e4.1, e3.1, e3.2]
  | [x], _, lx, _, _, _, _ => simp at lx; omega
  | _, [x], _, lx, _, _, _ => simp at lx; omega
  | [], _, lx, _, _, _, _ => simp at lx
  | _, [], _, lx, _, _, _ => simp at lx
theorem wgoals_nodup (w : Win W n) : (wgoals W a).Nodup := (goals_nodup w).filter _
theorem nodes_asc (w : Win W n) : (nodes W).Pairwise (· < ·) := (keys_asc w).filter _
theorem cls_asc (w : Win W n) : (cls W a).Pairwise (· < ·) := (keys_asc w).filter _
theorem heads_asc (w : Win W n) : (heads W).Pairwise (· < ·) := (keys_asc w).filter _
theorem cls_eq (w : Win W n) (h : b ∈ cls W a) : cls W b = cls W a := by
  have q := mem_cls.mp h
  refine strict_ext (cls_asc w) (cls_asc w) fun x => ?_
  rw [mem_cls, mem_cls]
  exact ⟨fun z => ⟨q.1.trans z.1, z.2.trans q.2⟩, fun z => ⟨q.2.trans z.1, z.2.trans q.1⟩⟩
theorem head_cons (w : Win W n) (h : a ∈ heads W) : ∃ t, cls W a = a :: t := by
  have q := mem_heads.mp h
  have ha : a ∈ cls W a := mem_cls.mpr ⟨q.1, q.1⟩
  cases e : cls W a with
  | nil => rw [e] at ha; cases ha
  | cons x t =>
    have hx : x ∈ cls W a := by rw [e]; exact mem_cons_self
    have hx2 := mem_cls.mp hx
    have l := q.2 x hx2.1 hx2.2
    have s := cls_asc (a := a) w
    rw [e, pairwise_cons] at s
    rw [e] at ha
    rcases List.mem_cons.mp ha with z | z
    · exact ⟨t, by rw [z]⟩
    · exact absurd (s.1 a z) l
theorem has_head (w : Win W n) (h : R W a a) : ∃ x ∈ heads W, cls W x = cls W a := by
  have ha : a ∈ cls W a := mem_cls.mpr ⟨h, h⟩
  cases e : cls W a with
  | nil => rw [e] at ha; cases ha
  | cons x t =>
    have hx : x ∈ cls W a := by rw [e]; exact mem_cons_self
    have s := cls_asc (a := a) w
    rw [e, pairwise_cons] at s
    have hx2 := mem_cls.mp hx
    refine ⟨x, mem_heads.mpr ⟨hx2.2.trans hx2.1, fun b h1 h2 z => ?_⟩, (cls_eq w hx).trans e⟩
    have hb : b ∈ cls W a := mem_cls.mpr ⟨hx2.1.trans h1, h2.trans hx2.2⟩
    rw [e] at hb
    rcases List.mem_cons.mp hb with q | q
    · rw [q] at z
      exact List.lt_irrefl _ z
    · exact ltA z (s.1 b q)
theorem mem_parts {P : List Row} : P ∈ parts W ↔ ∃ h ∈ heads W, cls W h = P := by simp [parts]
theorem part_of (w : Win W n) {P : List Row} (h : P ∈ parts W) (ha : a ∈ P) : cls W a = P ∧ R W a a := by
  obtain ⟨x, hx, e⟩ := mem_parts.mp h
  subst e
  have q := mem_cls.mp ha
  exact ⟨cls_eq w ha, q.2.trans q.1⟩
theorem part_ne (w : Win W n) {P : List Row} (h : P ∈ parts W) : ∃ x t, P = x :: t ∧ x ∈ heads W := by
  obtain ⟨x, hx, e⟩ := mem_parts.mp h
  obtain ⟨t, q⟩ := head_cons w hx
  exact ⟨x, t, by rw [← e, q], hx⟩
theorem parts_asc (w : Win W n) : (parts W).Pairwise (· < ·) := by
  unfold parts
  rw [pairwise_map]
  refine (heads_asc w).imp_of_mem fun {x y} hx hy h => ?_
  obtain ⟨t, e⟩ := head_cons w hx
  obtain ⟨u, e2⟩ := head_cons w hy
  rw [e, e2]
  exact List.cons_lt_cons_iff.mpr (.inl h)

/-- the webs of two lists of windows that are mirrored -/
structure Mir (W V : List Row) (n : Nat) : Prop where
  w : Win W n
  v : Win V n
  m : ∀ x, x ∈ W ↔ x.reverse ∈ V
theorem Mir.symm (M : Mir W V n) : Mir V W n := ⟨M.v, M.w, fun x => by rw [M.m, reverse_reverse]⟩
theorem Mir.e (M : Mir W V n) (h : E W a b) : E V b.reverse a.reverse := by
  obtain ⟨x, h1, h2, h3⟩ := h
  exact ⟨x.reverse, (M.m x).mp h1, by rw [dropLast_reverse, h3], by rw [tail_reverse, h2]⟩
theorem Mir.r (M : Mir W V n) (h : R W a b) : R V b.reverse a.reverse := by
  induction h with
  | one e => exact .one (M.e e)
  | snoc _ e ih => exact R.head (M.e e) ih
theorem Mir.r_iff (M : Mir W V n) : R W a b ↔ R V b.reverse a.reverse := ⟨M.r, fun h => by
  have q := M.symm.r h
  rw [reverse_reverse, reverse_reverse] at q
  exact q⟩
theorem Mir.e_iff (M : Mir W V n) : E W a b ↔ E V b.reverse a.reverse := ⟨M.e, fun h => by
  have q := M.symm.e h
  rw [reverse_reverse, reverse_reverse] at q
  exact q⟩
/-- rows mirrored and put in order -/
def mp (P : List Row) : List Row := srt (P.map List.reverse)
theorem mem_mp {P : List Row} : a ∈ mp P ↔ a.reverse ∈ P := by
  unfold mp
  rw [srt_mem, List.mem_map]
  constructor
  · rintro ⟨x, h, rfl⟩
    rwa [reverse_reverse]
  · intro h
    exact ⟨_, h, reverse_reverse _⟩
theorem rev_nodup {P : List Row} (h : P.Nodup) : (P.map List.reverse).Nodup := by
  rw [Nodup, pairwise_map]
  exact h.imp fun ne e => ne (reverse_inj.mp e)
theorem mp_is {P Q : List Row} (h1 : P.Nodup) (h2 : Q.Pairwise (· < ·)) (h : ∀ a, a ∈ P ↔ a.reverse ∈ Q) : mp P = Q := by
  refine srt_of (rev_nodup h1) h2 fun a => ?_
  rw [List.mem_map]
  constructor
  · rintro ⟨x, hx, rfl⟩
    exact (h x).mp hx
  · intro q
    exact ⟨a.reverse, (h _).mpr (by rwa [reverse_reverse]), reverse_reverse _⟩
theorem mp_mp {P : List Row} (h : P.Pairwise (· < ·)) : mp (mp P) = P := by
  have h1 : (mp P).Nodup := (srt_perm _).nodup_iff.mpr (rev_nodup (strict_nodup h))
  exact mp_is h1 h fun a => mem_mp
/-- 1: windows -/
theorem law1 (M : Mir W V n) : mp W = V := mp_is (strict_nodup M.w.asc) M.v.asc M.m
/-- 2: nodes -/
theorem law2 (M : Mir W V n) : mp (nodes W) = nodes V := mp_is (strict_nodup (nodes_asc M.w)) (nodes_asc M.v) fun a => by
  rw [mem_nodes, mem_nodes, M.r_iff]
theorem mp_cls (M : Mir W V n) : mp (cls W a) = cls V a.reverse := mp_is (strict_nodup (cls_asc M.w)) (cls_asc M.v) fun b => by
  rw [mem_cls, mem_cls, M.r_iff, M.r_iff (a := b)]
  exact And.comm
theorem mp_part (M : Mir W V n) {P : List Row} (h : P ∈ parts W) : mp P ∈ parts V := by
  obtain ⟨x, hx, e⟩ := mem_parts.mp h
  subst e
  rw [mp_cls M]
  obtain ⟨y, hy, e⟩ := has_head M.v (M.r (mem_heads.mp hx).1)
  exact mem_parts.mpr ⟨y, hy, e⟩
theorem part_asc (w : Win W n) {P : List Row} (h : P ∈ parts W) : P.Pairwise (· < ·) := by
  obtain ⟨x, _, e⟩ := mem_parts.mp h
  subst e
  exact cls_asc w
/-- 3: parts -/
theorem law3 (M : Mir W V n) : srt ((parts W).map mp) = parts V := by
  refine srt_of ?_ (parts_asc M.v) fun P => ?_
  · rw [Nodup, pairwise_map]
    refine (strict_nodup (parts_asc M.w)).imp_of_mem fun {P Q} hP hQ ne e => ne ?_
    rw [← mp_mp (part_asc M.w hP), e, mp_mp (part_asc M.w hQ)]
  · rw [List.mem_map]
    constructor
    · rintro ⟨Q, h, rfl⟩
      exact mp_part M h
    · intro h
      exact ⟨mp P, mp_part M.symm h, mp_mp (part_asc M.v h)⟩

/-! ### periods -/
def Pot (W : List Row) (P : List Row) (k : Nat) (φ : Row → Int) : Prop := ∀ a ∈ P, ∀ b ∈ P, E W a b → (k : Int) ∣ φ a + 1 - φ b
def IsPer (W : List Row) (P : List Row) (g : Nat) : Prop := ∀ k : Nat, k ∣ g ↔ ∃ φ : Row → Int, Pot W P k φ
theorem pot_mir (M : Mir W V n) {P : List Row} {k : Nat} {φ : Row → Int} (h : Pot W P k φ) : Pot V (mp P) k (fun x => - φ x.reverse) := by
  intro a ha b hb e
  have q := h b.reverse (mem_mp.mp hb) a.reverse (mem_mp.mp ha) (M.symm.e e)
  have z : -φ a.reverse + 1 - -φ b.reverse = φ b.reverse + 1 - φ a.reverse := by omega
  show (k : Int) ∣ -φ a.reverse + 1 - -φ b.reverse
  rw [z]
  exact q
theorem per_mir (M : Mir W V n) {P : List Row} {g g' : Nat} (hP : P ∈ parts W) (h : IsPer W P g) (h' : IsPer V (mp P) g') : g = g' := by
  have key : ∀ k, k ∣ g ↔ k ∣ g' := fun k => by
    rw [h k, h' k]
    constructor
    · rintro ⟨φ, q⟩
      exact ⟨_, pot_mir M q⟩
    · rintro ⟨φ, q⟩
      have z := pot_mir M.symm q
      rw [mp_mp (part_asc M.w hP)] at z
      exact ⟨_, z⟩
  exact Nat.dvd_antisymm ((key g).mp (Nat.dvd_refl g)) ((key g').mpr (Nat.dvd_refl g'))
/-! ### steps -/
theorem law5 (M : Mir W V n) (h : b ∈ wgoals W a) : a.reverse ∈ wgoals V b.reverse := by
  have q := mem_wgoals.mp h
  exact mem_wgoals.mpr ⟨M.e q.1, M.r q.2⟩
noncomputable def edges (W : List Row) : List (Row × Row) := (nodes W).flatMap fun a => (wgoals W a).map fun g => (a, g)
theorem mem_edges {p : Row × Row} : p ∈ edges W ↔ E W p.1 p.2 ∧ R W p.2 p.1 := by
  unfold edges
  rw [List.mem_flatMap]
  constructor
  · rintro ⟨a, ha, h⟩
    obtain ⟨g, hg, rfl⟩ := List.mem_map.mp h
    exact mem_wgoals.mp hg
  · intro h
    exact ⟨p.1, mem_nodes.mpr (R.head h.1 h.2), List.mem_map.mpr ⟨p.2, mem_wgoals.mpr h, rfl⟩⟩
theorem edges_nodup (w : Win W n) : (edges W).Nodup := by
  unfold edges
  rw [Nodup, pairwise_flatMap]
  refine ⟨fun a ha => ?_, (strict_nodup (nodes_asc w)).imp fun {a b} ne x hx y hy e => ne ?_⟩
  · rw [pairwise_map]
    exact (wgoals_nodup w).imp fun ne e => ne (Prod.mk.inj e).2
  · obtain ⟨_, _, rfl⟩ := List.mem_map.mp hx
    obtain ⟨_, _, rfl⟩ := List.mem_map.mp hy
    exact (Prod.mk.inj e).1
theorem edges_len (W : List Row) : (edges W).length = ((nodes W).map fun a => (wgoals W a).length).sum := by
  unfold edges
  rw [length_flatMap]
  congr 1
  simp
theorem law6 (M : Mir W V n) : ((nodes W).map fun a => (wgoals W a).length).sum = ((nodes V).map fun a => (wgoals V a).length).sum := by
  rw [← edges_len, ← edges_len]
  have p : ((edges W).map fun p => (p.2.reverse, p.1.reverse)).Perm (edges V) := by
    refine (perm_ext_iff_of_nodup ?_ (edges_nodup M.v)).mpr fun p => ?_
    · rw [Nodup, pairwise_map]
      refine (edges_nodup M.w).imp fun {x y} ne e => ne ?_
      obtain ⟨e1, e2⟩ := Prod.mk.inj e
      exact Prod.ext (reverse_inj.mp e2) (reverse_inj.mp e1)
    · rw [List.mem_map, mem_edges]
      constructor
      · rintro ⟨x, hx, rfl⟩
        have q := mem_edges.mp hx
        exact ⟨M.e q.1, M.r q.2⟩
      · intro h
        refine ⟨(p.2.reverse, p.1.reverse), mem_edges.mpr ⟨M.symm.e h.1, M.symm.r h.2⟩, ?_⟩
        simp
  rw [← p.length_eq, length_map]
theorem law7 (M : Mir W V n) : (nodes W).length = (nodes V).length := by
  rw [← law2 M]
  unfold mp
  rw [(srt_perm _).length_eq, length_map]
end
end Sw

/-! M2: the plain law, second part: rules, rows, windows, and their mirror. -/
namespace Sw
open List
/-- the signs, the last sign -/
def sg (r : Nat) : Row := [48, 49, 50, 51].take (2 + r)
def lst (r : Nat) : Nat := 49 + r
def sgn (tb : Row) (last l s r : Nat) : Nat := if s = 48 then tb.getD (2 * (if l = 49 then 1 else 0) + (if r = 49 then 1 else 0)) 48 else if s = last then 48 else s + 1
def beat (tb : Row) (last : Nat) (row : Row) : Row := (List.range (row.length - 2)).map fun i => sgn tb last (row.getD i 0) (row.getD (i + 1) 0) (row.getD (i + 2) 0)
def after (tb : Row) (last : Nat) (row : Row) : Nat → Row
  | 0 => row
  | n + 1 => beat tb last (after tb last row n)
def rows (s : Row) : Nat → List Row
  | 0 => [[]]
  | n + 1 => (rows s n).flatMap fun t => s.map fun c => t ++ [c]
def good (tb : Row) (r : Nat) (p : Int) (q : Nat) (row : Row) : Bool := decide (after tb (lst r) row q = [row.getD ((q : Int) - p).toNat 0])
def wins (tb : Row) (r : Nat) (p : Int) (q : Nat) : List Row := (rows (sg r) (2 * q + 1)).filter (good tb r p q)
/-- the table with left and right exchanged -/
def mtb (tb : Row) : Row := [tb.getD 0 0, tb.getD 2 0, tb.getD 1 0, tb.getD 3 0]

theorem beat_len (tb : Row) (last : Nat) (row : Row) : (beat tb last row).length = row.length - 2 := by simp [beat]
theorem after_len (tb : Row) (last : Nat) (row : Row) (n : Nat) : (after tb last row n).length = row.length - 2 * n := by
  induction n with
  | zero => rfl
  | succ n ih =>
    show (beat tb last (after tb last row n)).length = _
    rw [beat_len, ih]
    omega
theorem sgn_mir {tb : Row} (h : tb.length = 4) (last l s r : Nat) : sgn (mtb tb) last r s l = sgn tb last l s r := by
  match tb, h with
  | [a, b, c, d], _ =>
    unfold sgn mtb
    by_cases h1 : s = 48
    · rw [if_pos h1, if_pos h1]
      by_cases h2 : l = 49 <;> by_cases h3 : r = 49 <;> simp [h2, h3]
    · rw [if_neg h1, if_neg h1]
theorem getD_rev (row : Row) (i : Nat) (h : i < row.length) : row.reverse.getD i 0 = row.getD (row.length - 1 - i) 0 := by
  rw [List.getD_eq_getElem?_getD, List.getD_eq_getElem?_getD, List.getElem?_reverse h]
theorem beat_mir {tb : Row} (h : tb.length = 4) (last : Nat) (row : Row) : beat (mtb tb) last row.reverse = (beat tb last row).reverse := by
  apply List.ext_getElem
  · simp [beat_len]
  · intro i h1 h2
    have hi : i < row.length - 2 := by simpa [beat_len] using h1
    have e1 : (beat (mtb tb) last row.reverse)[i] = sgn (mtb tb) last (row.reverse.getD i 0) (row.reverse.getD (i + 1) 0) (row.reverse.getD (i + 2) 0) := by simp [beat]
    have e2 : (beat tb last row).reverse[i] = sgn tb last (row.getD (row.length - 2 - 1 - i) 0) (row.getD (row.length - 2 - 1 - i + 1) 0) (row.getD (row.length - 2 - 1 - i + 2) 0) := by
      rw [List.getElem_reverse]
      simp [beat]
    rw [e1, e2, sgn_mir h, getD_rev _ _ (by omega), getD_rev _ _ (by omega), getD_rev _ _ (by omega)]
    have a1 : row.length - 1 - (i + 2) = row.length - 2 - 1 - i := by omega
    have a2 : row.length - 1 - (i + 1) = row.length - 2 - 1 - i + 1 := by omega
    have a3 : row.length - 1 - i = row.length - 2 - 1 - i + 2 := by omega
    rw [a1, a2, a3]
theorem after_mir {tb : Row} (h : tb.length = 4) (last : Nat) (row : Row) (n : Nat) : after (mtb tb) last row.reverse n = (after tb last row n).reverse := by
  induction n with
  | zero => rfl
  | succ n ih =>
    show beat (mtb tb) last (after (mtb tb) last row.reverse n) = _
    rw [ih, beat_mir h]
    rfl
theorem mem_rows {s : Row} : ∀ {n : Nat} {w : Row}, w ∈ rows s n ↔ w.length = n ∧ ∀ c ∈ w, c ∈ s
  | 0, w => by
    simp only [rows, List.mem_singleton]
    constructor
    · rintro rfl
      exact ⟨rfl, by simp⟩
    · rintro ⟨h, _⟩
      exact List.eq_nil_of_length_eq_zero h
  | n + 1, w => by
    show w ∈ (rows s n).flatMap (fun t => s.map fun c => t ++ [c]) ↔ _
    rw [List.mem_flatMap]
    constructor
    · rintro ⟨t, ht, hw⟩
      obtain ⟨c, hc, rfl⟩ := List.mem_map.mp hw
      have q := mem_rows.mp ht
      refine ⟨by simp [q.1], fun d hd => ?_⟩
      rcases List.mem_append.mp hd with z | z
      · exact q.2 d z
      · have : d = c := by simpa using z
        rw [this]
        exact hc
    · rintro ⟨h1, h2⟩
      have hne : w ≠ [] := fun e => by
        subst e
        simp at h1
      have e := dropLast_concat_getLast hne
      refine ⟨w.dropLast, mem_rows.mpr ⟨by simp [h1], fun c hc => h2 c ((List.dropLast_sublist w).subset hc)⟩, List.mem_map.mpr ⟨w.getLast hne, h2 _ (List.getLast_mem hne), e⟩⟩
theorem rows_asc {s : Row} (hs : s.Pairwise (· < ·)) : ∀ n, (rows s n).Pairwise (· < ·)
  | 0 => by simp [rows]
  | n + 1 => by
    show ((rows s n).flatMap (fun t => s.map fun c => t ++ [c])).Pairwise _
    rw [pairwise_flatMap]
    refine ⟨fun t _ => ?_, (rows_asc hs n).imp_of_mem fun {a b} ha hb h x hx y hy => ?_⟩
    · rw [pairwise_map]
      exact hs.imp fun h => append_left_lt (List.cons_lt_cons_iff.mpr (.inl h))
    · obtain ⟨c, _, rfl⟩ := List.mem_map.mp hx
      obtain ⟨d, _, rfl⟩ := List.mem_map.mp hy
      exact app_lt _ _ (by rw [(mem_rows.mp ha).1, (mem_rows.mp hb).1]) h
theorem sg_asc (r : Nat) : (sg r).Pairwise (· < ·) := (show ([48, 49, 50, 51] : Row).Pairwise (· < ·) by decide).sublist (List.take_sublist _ _)
theorem wins_win (tb : Row) (r : Nat) (p : Int) (q : Nat) (hq : 1 ≤ q) : Win (wins tb r p q) (2 * q) :=
  ⟨(rows_asc (sg_asc r) _).filter _, fun w h => (mem_rows.mp (List.mem_filter.mp h).1).1, by omega⟩
theorem good_mir {tb : Row} (h : tb.length = 4) {r : Nat} {p : Int} {q : Nat} (h1 : -(q : Int) ≤ p) (h2 : p ≤ q) {w : Row} (hw : w.length = 2 * q + 1) : good (mtb tb) r (-p) q w.reverse = good tb r p q w := by
  unfold good
  rw [after_mir h]
  have e1 : w.reverse.getD ((q : Int) - -p).toNat 0 = w.getD ((q : Int) - p).toNat 0 := by
    rw [getD_rev _ _ (by rw [hw]; omega)]
    congr 1
    omega
  rw [e1]
  have hl : (after tb (lst r) w q).length = 1 := by rw [after_len, hw]; omega
  obtain ⟨c, e⟩ := List.length_eq_one_iff.mp hl
  rw [e]
  rfl
theorem wins_mir {tb : Row} (h : tb.length = 4) {r : Nat} {p : Int} {q : Nat} (hq : 1 ≤ q) (h1 : -(q : Int) ≤ p) (h2 : p ≤ q) : Mir (wins tb r p q) (wins (mtb tb) r (-p) q) (2 * q) := by
  refine ⟨wins_win _ _ _ _ hq, wins_win _ _ _ _ hq, fun w => ?_⟩
  unfold wins
  rw [List.mem_filter, List.mem_filter, mem_rows, mem_rows]
  constructor
  · rintro ⟨⟨a, b⟩, c⟩
    exact ⟨⟨by simpa using a, fun d hd => b d (by simpa using hd)⟩, by rw [good_mir h h1 h2 a]; exact c⟩
  · rintro ⟨⟨a, b⟩, c⟩
    have a' : w.length = 2 * q + 1 := by simpa using a
    exact ⟨⟨a', fun d hd => b d (by simpa using hd)⟩, by rw [good_mir h h1 h2 a'] at c; exact c⟩
theorem mtb_len (tb : Row) : (mtb tb).length = 4 := rfl
theorem mtb_mtb {tb : Row} (h : tb.length = 4) : mtb (mtb tb) = tb := by
  match tb, h with
  | [a, b, c, d], _ => rfl
theorem rows_count (s : Row) : ∀ n, (rows s n).length = s.length ^ n
  | 0 => rfl
  | n + 1 => by
    show ((rows s n).flatMap (fun t => s.map fun c => t ++ [c])).length = _
    rw [length_flatMap]
    simp only [length_map]
    have : ∀ l : List Row, (l.map fun _ => s.length).sum = l.length * s.length := by
      intro l
      induction l with
      | nil => simp
      | cons a l ih => rw [List.map_cons, List.sum_cons, ih, List.length_cons, Nat.succ_mul]; omega
    rw [this, rows_count s n, Nat.pow_succ]
end Sw

/-! M3: closed walks, their texts, their mirror. -/
namespace Sw
open List
section
variable (g : Row → List Row) (s : Row)
/-- the walks of n steps from a to s, without their end -/
def wk : Nat → Row → List (List Row)
  | 0, a => if a = s then [[]] else []
  | n + 1, a => (g a).flatMap fun b => (wk n b).map (a :: ·)
def wb : Nat → Row → Nat
  | 0, a => if a = s then 1 else 0
  | n + 1, a => ((g a).map (wb n)).sum
theorem wk_len : ∀ n a, (wk g s n a).length = wb g s n a
  | 0, a => by
    unfold wk wb
    split <;> rfl
  | n + 1, a => by
    unfold wk wb
    rw [length_flatMap]
    congr 1
    refine map_congr_left fun b _ => ?_
    rw [length_map, wk_len n b]
end
section
variable {g : Row → List Row} {s : Row}
theorem mem_wk : ∀ {n : Nat} {a : Row} {l : List Row}, l ∈ wk g s n a ↔ l.length = n ∧ (l ++ [s]).getD 0 [] = a ∧ ∀ i, i < n → (l ++ [s]).getD (i + 1) [] ∈ g ((l ++ [s]).getD i [])
  | 0, a, l => by
    unfold wk
    constructor
    · intro h
      by_cases q : a = s
      · rw [if_pos q] at h
        have := mem_singleton.mp h
        subst this
        exact ⟨rfl, q.symm, fun i hi => absurd hi (by omega)⟩
      · rw [if_neg q] at h
        simp at h
    · rintro ⟨h1, h2, _⟩
      have := length_eq_zero_iff.mp h1
      subst this
      have : s = a := h2
      rw [if_pos this.symm]
      simp
  | n + 1, a, l => by
    unfold wk
    rw [mem_flatMap]
    constructor
    · rintro ⟨b, hb, h⟩
      obtain ⟨l', hl, rfl⟩ := mem_map.mp h
      obtain ⟨h1, h2, h3⟩ := mem_wk.mp hl
      refine ⟨by rw [length_cons, h1], rfl, fun i hi => ?_⟩
      match i with
      | 0 =>
        show (l' ++ [s]).getD 0 [] ∈ g a
        rw [h2]
        exact hb
      | i + 1 => exact h3 i (by omega)
    · rintro ⟨h1, h2, h3⟩
      match l, h1 with
      | x :: l', h1 =>
        have : x = a := h2
        subst this
        exact ⟨(l' ++ [s]).getD 0 [], h3 0 (by omega), mem_map.mpr ⟨l', mem_wk.mpr ⟨by simpa using h1, rfl, fun i hi => h3 (i + 1) (by omega)⟩, rfl⟩⟩
theorem wk_nodup (hg : ∀ a, (g a).Nodup) : ∀ n a, (wk g s n a).Nodup
  | 0, a => by
    unfold wk
    split <;> simp
  | n + 1, a => by
    unfold wk
    have h := hg a
    generalize g a = l at h
    induction l with
    | nil => simp
    | cons b l ih =>
      rw [nodup_cons] at h
      rw [flatMap_cons, nodup_append]
      refine ⟨?_, ih h.2, ?_⟩
      · rw [Nodup, pairwise_map]
        exact (wk_nodup hg n b).imp fun ne e => ne (by simpa using e)
      · intro x hx y hy e
        subst e
        obtain ⟨l1, h1, e1⟩ := mem_map.mp hx
        obtain ⟨b2, hb2, hy2⟩ := mem_flatMap.mp hy
        obtain ⟨l2, h2, e2⟩ := mem_map.mp hy2
        have e3 : l1 = l2 := by
          rw [← e2] at e1
          simpa using e1
        subst e3
        have : b = b2 := (mem_wk.mp h1).2.1.symm.trans (mem_wk.mp h2).2.1
        exact h.1 (this ▸ hb2)
end
def txt (q : Nat) (l : List Row) : Row := l.map fun a => a.getD q 0
noncomputable def txs (W : List Row) (q n : Nat) : List Row := (nodes W).flatMap fun s => (wk (wgoals W) s n s).map (txt q)
theorem getD_revL (c : List Row) (i : Nat) (h : i < c.length) : c.reverse.getD i [] = c.getD (c.length - 1 - i) [] := by
  rw [getD_eq_getElem?_getD, getD_eq_getElem?_getD, getElem?_reverse h]
theorem getD_mapR (c : List Row) (i : Nat) : (c.map List.reverse).getD i [] = (c.getD i []).reverse := by
  rw [getD_eq_getElem?_getD, getD_eq_getElem?_getD, getElem?_map]
  cases c[i]? <;> rfl
section
variable {W V : List Row} {q n : Nat} {s : Row}
def rot (s : Row) (l : List Row) : List Row := (l ++ [s]).tail.reverse.map List.reverse
theorem rot_app {l : List Row} (hn : 1 ≤ l.length) (h0 : (l ++ [s]).getD 0 [] = s) : rot s l ++ [s.reverse] = (l ++ [s]).reverse.map List.reverse := by
  unfold rot
  have e : (l ++ [s]) = s :: (l ++ [s]).tail := by
    match l, hn with
    | x :: r, _ =>
      have : x = s := h0
      subst this
      rfl
  have e2 : (l ++ [s]).reverse = (l ++ [s]).tail.reverse ++ [s] := by
    conv => lhs; rw [e]
    rw [reverse_cons]
  rw [e2, map_append]
  rfl
theorem rot_mem (M : Mir W V (2 * q)) (hn : 1 ≤ n) {l : List Row} (h : l ∈ wk (wgoals W) s n s) : rot s l ∈ wk (wgoals V) s.reverse n s.reverse := by
  obtain ⟨h1, h2, h3⟩ := mem_wk.mp h
  have ea := rot_app (by omega) h2
  have lc : (l ++ [s]).length = n + 1 := by rw [length_append, h1]; rfl
  have gd : ∀ i, i < n + 1 → (rot s l ++ [s.reverse]).getD i [] = ((l ++ [s]).getD (n - i) []).reverse := fun i hi => by
    rw [ea, getD_mapR, getD_revL _ _ (by omega), lc]
    congr 2
  refine mem_wk.mpr ⟨?_, ?_, fun i hi => ?_⟩
  · unfold rot
    rw [length_map, length_reverse, length_tail, lc]
    rfl
  · rw [gd 0 (by omega)]
    congr 1
    have e : (l ++ [s]).getD (n - 0) [] = s := by
      rw [Nat.sub_zero, ← h1, getD_eq_getElem?_getD]
      simp
    exact e
  · rw [gd (i + 1) (by omega), gd i (by omega)]
    have h4 := h3 (n - (i + 1)) (by omega)
    have e : n - (i + 1) + 1 = n - i := by omega
    rw [e] at h4
    exact law5 M h4
theorem rot_rot {l : List Row} (hn : 1 ≤ l.length) (h0 : (l ++ [s]).getD 0 [] = s) : rot s.reverse (rot s l) = l := by
  have ea := rot_app hn h0
  have e2 : rot s.reverse (rot s l) = (rot s l ++ [s.reverse]).tail.reverse.map List.reverse := rfl
  rw [e2, ea]
  have e3 : ((l ++ [s]).reverse.map List.reverse).tail = l.reverse.map List.reverse := by simp
  rw [e3, ← map_reverse, reverse_reverse, map_map]
  have : (List.reverse ∘ List.reverse : Row → Row) = id := by funext x; simp
  rw [this, map_id]
theorem txt_rot (M : Mir W V (2 * q)) (hq : 1 ≤ q) (hn : 1 ≤ n) {l : List Row} (h : l ∈ wk (wgoals W) s n s) : txt q (rot s l) = (txt q l).reverse := by
  obtain ⟨h1, h2, h3⟩ := mem_wk.mp h
  unfold txt rot
  rw [map_map, map_reverse]
  congr 1
  have lc : (l ++ [s]).length = n + 1 := by rw [length_append, h1]; rfl
  refine List.ext_getElem? fun i => ?_
  rw [getElem?_map, getElem?_map, getElem?_tail]
  by_cases hi : i < n
  · have e1 : (l ++ [s])[i + 1]? = some ((l ++ [s]).getD (i + 1) []) := by
      rw [getD_eq_getElem?_getD, getElem?_eq_getElem (by omega)]
      rfl
    have e2 : l[i]? = some ((l ++ [s]).getD i []) := by
      rw [getD_eq_getElem?_getD, getElem?_append_left (by omega), getElem?_eq_getElem (by omega)]
      rfl
    rw [e1, e2]
    simp only [Option.map_some]
    congr 1
    have e := (mem_wgoals.mp (h3 i hi)).1
    generalize (l ++ [s]).getD (i + 1) [] = b at e
    generalize (l ++ [s]).getD i [] = a at e
    obtain ⟨la, lb⟩ := E.len M.w e
    have sh := E.shift e
    show b.reverse.getD q 0 = a.getD q 0
    rw [getD_rev b q (by omega), lb]
    have e3 : a.getD q 0 = a.tail.getD (q - 1) 0 := by
      rw [getD_eq_getElem?_getD, getD_eq_getElem?_getD, getElem?_tail]
      congr 2
      omega
    have e4 : b.dropLast.getD (q - 1) 0 = b.getD (q - 1) 0 := by
      rw [getD_eq_getElem?_getD, getD_eq_getElem?_getD, getElem?_dropLast, if_pos (by omega)]
    rw [e3, sh, e4]
    congr 1
    omega
  · rw [getElem?_eq_none (by omega), getElem?_eq_none (by omega)]
    rfl
theorem wk_mir (M : Mir W V (2 * q)) (hn : 1 ≤ n) (s : Row) : (wk (wgoals V) s.reverse n s.reverse).Perm ((wk (wgoals W) s n s).map (rot s)) := by
  have inv : ∀ l ∈ wk (wgoals W) s n s, rot s.reverse (rot s l) = l := fun l hl => by
    obtain ⟨h1, h2, _⟩ := mem_wk.mp hl
    exact rot_rot (by omega) h2
  refine (perm_ext_iff_of_nodup (wk_nodup (fun a => wgoals_nodup M.v) _ _) ?_).mpr fun m => ?_
  · rw [Nodup, pairwise_map]
    refine (wk_nodup (fun a => wgoals_nodup M.w) n s).imp_of_mem fun ha hb ne e => ne ?_
    rw [← inv _ ha, ← inv _ hb, e]
  · rw [mem_map]
    constructor
    · intro h
      have h' := rot_mem M.symm hn h
      rw [reverse_reverse] at h'
      obtain ⟨h1, h2, _⟩ := mem_wk.mp h
      refine ⟨_, h', ?_⟩
      have := rot_rot (s := s.reverse) (l := m) (by omega) h2
      rw [reverse_reverse] at this
      exact this
    · rintro ⟨l, hl, rfl⟩
      exact rot_mem M hn hl
theorem perm_flatMap {α β : Type} {f f' : α → List β} : ∀ {l : List α}, (∀ a ∈ l, (f a).Perm (f' a)) → (l.flatMap f).Perm (l.flatMap f')
  | [], _ => by simp
  | a :: l, h => by
    rw [flatMap_cons, flatMap_cons]
    exact (h a mem_cons_self).append (perm_flatMap fun b hb => h b (mem_cons_of_mem _ hb))
theorem perm_flatMapL {α β : Type} {f : α → List β} {l m : List α} (p : l.Perm m) : (l.flatMap f).Perm (m.flatMap f) := by
  induction p with
  | nil => simp
  | cons a _ ih =>
    rw [flatMap_cons, flatMap_cons]
    exact (Perm.refl _).append ih
  | swap a b l =>
    rw [flatMap_cons, flatMap_cons, flatMap_cons, flatMap_cons, ← append_assoc, ← append_assoc]
    exact perm_append_comm.append (Perm.refl _)
  | trans _ _ h1 h2 => exact h1.trans h2
theorem law8 (M : Mir W V (2 * q)) (hq : 1 ≤ q) (hn : 1 ≤ n) : mp (srt (txs W q n)) = srt (txs V q n) := by
  unfold mp
  refine srt_congr ?_
  refine ((srt_perm (txs W q n)).map _).trans ?_
  unfold txs
  rw [map_flatMap]
  have pn : (nodes V).Perm ((nodes W).map List.reverse) := by
    rw [← law2 M]
    exact srt_perm _
  refine Perm.trans ?_ (perm_flatMapL pn).symm
  rw [flatMap_map]
  refine perm_flatMap fun s hs => ?_
  refine Perm.trans ?_ ((wk_mir M hn s).map (txt q)).symm
  rw [map_map, map_map]
  have e : (wk (wgoals W) s n s).map (List.reverse ∘ txt q) = (wk (wgoals W) s n s).map (txt q ∘ rot s) := map_congr_left fun l hl => (txt_rot M hq hn hl).symm
  rw [e]
end
end Sw

/-! M4: the period, as it is searched for. -/
namespace Sw
open List
structure PerI (W P : List Row) (h : Row) (fks : List Row) (fa : Row → Int) (g : Nat) (wt : List Row) (x : Option Row) (dn : List Row) : Prop where
  sub : ∀ c ∈ fks, c ∈ P
  nd : fks.Nodup
  hd : h ∈ fks
  wsub : ∀ c ∈ wt, c ∈ fks
  wl : wt.length ≤ fks.length
  done : ∀ c ∈ fks, c ∈ wt ∨ x = some c ∨ ∀ b ∈ wgoals W c, b ∈ fks ∧ (g : Int) ∣ fa c + 1 - fa b
  xin : ∀ c, x = some c → c ∈ fks
  cur : ∀ c, x = some c → ∀ b ∈ dn, b ∈ fks ∧ (g : Int) ∣ fa c + 1 - fa b
  pot : ∀ (k : Nat) (φ : Row → Int), Pot W P k φ → k ∣ g ∧ ∀ c ∈ fks, (k : Int) ∣ fa c - (φ c - φ h)
section
variable {W P : List Row} {n : Nat} {h c b : Row} {fks wt dn r : List Row} {fa : Row → Int} {g : Nat}
theorem PerI.init (hh : h ∈ P) : PerI W P h [h] (fun _ => 0) 0 [h] none [] where
  sub := fun c hc => by rw [mem_singleton.mp hc]; exact hh
  nd := by simp
  hd := by simp
  wsub := fun c hc => hc
  wl := Nat.le_refl _
  done := fun c hc => .inl hc
  xin := fun c e => nomatch e
  cur := fun c e => nomatch e
  pot := fun k φ _ => ⟨Nat.dvd_zero k, fun c hc => by
    rw [mem_singleton.mp hc]
    have : (0 : Int) - (φ h - φ h) = 0 := by omega
    rw [this]
    exact Int.dvd_zero _⟩
theorem PerI.pop (I : PerI W P h fks fa g (r ++ [c]) none []) : PerI W P h fks fa g r (some c) [] where
  sub := I.sub
  nd := I.nd
  hd := I.hd
  wsub := fun x hx => I.wsub x (mem_append_left _ hx)
  wl := by
    have := I.wl
    rw [length_append] at this
    omega
  done := fun x hx => by
    rcases I.done x hx with z | z | z
    · rcases mem_append.mp z with z | z
      · exact .inl z
      · rw [mem_singleton.mp z]
        exact .inr (.inl rfl)
    · exact nomatch z
    · exact .inr (.inr z)
  xin := fun x e => by
    cases e
    exact I.wsub c (by simp)
  cur := fun _ _ b hb => absurd hb (by simp)
  pot := I.pot
/-- a goal that is not there yet -/
theorem PerI.add (w : Win W n) (hP : P ∈ parts W) (I : PerI W P h fks fa g wt (some c) dn) (hb : b ∈ wgoals W c) (hn : b ∉ fks) {fa' : Row → Int} (e1 : fa' b = fa c + 1) (e2 : ∀ x, x ≠ b → fa' x = fa x) : PerI W P h (fks ++ [b]) fa' g (wt ++ [b]) (some c) dn := by
  have ne : ∀ x ∈ fks, x ≠ b := fun x hx e => hn (e ▸ hx)
  have cf : c ∈ fks := I.xin c rfl
  have bP : b ∈ P := by
    obtain ⟨h1, h2⟩ := mem_wgoals.mp hb
    obtain ⟨h3, h4⟩ := part_of w hP (I.sub c cf)
    rw [← h3]
    exact mem_cls.mpr ⟨.one h1, h2⟩
  refine ⟨fun x hx => ?_, ?_, mem_append_left _ I.hd, fun x hx => ?_, ?_, fun x hx => ?_, fun x e => mem_append_left _ (I.xin x e), fun x e y hy => ?_, fun k φ p => ?_⟩
  · rcases mem_append.mp hx with hx | hx
    · exact I.sub x hx
    · rw [mem_singleton.mp hx]
      exact bP
  · exact nodup_append.mpr ⟨I.nd, by simp, fun x hx y hy e => hn (by rw [← mem_singleton.mp hy, ← e]; exact hx)⟩
  · rcases mem_append.mp hx with hx | hx
    · exact mem_append_left _ (I.wsub x hx)
    · exact mem_append_right _ hx
  · have := I.wl
    rw [length_append, length_append]
    show _ + 1 ≤ _ + 1
    omega
  · rcases mem_append.mp hx with hx | hx
    · rcases I.done x hx with z | z | z
      · exact .inl (mem_append_left _ z)
      · exact .inr (.inl z)
      · refine .inr (.inr fun y hy => ?_)
        obtain ⟨h1, h2⟩ := z y hy
        rw [e2 x (ne x hx), e2 y (ne y h1)]
        exact ⟨mem_append_left _ h1, h2⟩
    · exact .inl (mem_append_right _ hx)
  · obtain ⟨h1, h2⟩ := I.cur x e y hy
    rw [e2 x (ne x (I.xin x e)), e2 y (ne y h1)]
    exact ⟨mem_append_left _ h1, h2⟩
  · obtain ⟨h1, h2⟩ := I.pot k φ p
    refine ⟨h1, fun x hx => ?_⟩
    rcases mem_append.mp hx with hx | hx
    · rw [e2 x (ne x hx)]
      exact h2 x hx
    · rw [mem_singleton.mp hx, e1]
      have q1 := h2 c cf
      have q2 := p c (I.sub c cf) b bP (mem_wgoals.mp hb).1
      have e : fa c + 1 - (φ b - φ h) = (fa c - (φ c - φ h)) + (φ c + 1 - φ b) := by omega
      rw [e]
      exact Int.dvd_add q1 q2
/-- a goal that is there -/
theorem PerI.step (w : Win W n) (hP : P ∈ parts W) (I : PerI W P h fks fa g wt (some c) dn) (hb : b ∈ wgoals W c) (hi : b ∈ fks) : PerI W P h fks fa (Nat.gcd g (fa c + 1 - fa b).natAbs) wt (some c) (dn ++ [b]) := by
  have dg : ((Nat.gcd g (fa c + 1 - fa b).natAbs : Nat) : Int) ∣ (g : Int) := Int.natCast_dvd_natCast.mpr (Nat.gcd_dvd_left _ _)
  have dx : ((Nat.gcd g (fa c + 1 - fa b).natAbs : Nat) : Int) ∣ fa c + 1 - fa b := Int.ofNat_dvd_left.mpr (Nat.gcd_dvd_right _ _)
  have cf : c ∈ fks := I.xin c rfl
  refine ⟨I.sub, I.nd, I.hd, I.wsub, I.wl, fun x hx => ?_, I.xin, fun x e y hy => ?_, fun k φ p => ?_⟩
  · rcases I.done x hx with z | z | z
    · exact .inl z
    · exact .inr (.inl z)
    · exact .inr (.inr fun y hy => ⟨(z y hy).1, Int.dvd_trans dg (z y hy).2⟩)
  · cases e
    rcases mem_append.mp hy with hy | hy
    · obtain ⟨h1, h2⟩ := I.cur c rfl y hy
      exact ⟨h1, Int.dvd_trans dg h2⟩
    · rw [mem_singleton.mp hy]
      exact ⟨hi, dx⟩
  · obtain ⟨h1, h2⟩ := I.pot k φ p
    refine ⟨Nat.dvd_gcd h1 (Int.ofNat_dvd_left.mp ?_), h2⟩
    have q1 := h2 c cf
    have q2 := h2 b hi
    have q3 := p c (I.sub c cf) b (I.sub b hi) (mem_wgoals.mp hb).1
    have e : fa c + 1 - fa b = (fa c - (φ c - φ h)) - (fa b - (φ b - φ h)) + (φ c + 1 - φ b) := by omega
    rw [e]
    exact Int.dvd_add (Int.dvd_sub q1 q2) q3
theorem PerI.fin (I : PerI W P h fks fa g wt (some c) (wgoals W c)) : PerI W P h fks fa g wt none [] := by
  refine ⟨I.sub, I.nd, I.hd, I.wsub, I.wl, fun x hx => ?_, (fun x e => nomatch e), (fun x e => nomatch e), I.pot⟩
  rcases I.done x hx with z | z | z
  · exact .inl z
  · cases z
    exact .inr (.inr (I.cur c rfl))
  · exact .inr (.inr z)
theorem PerI.is (w : Win W n) (hP : P ∈ parts W) (I : PerI W P h fks fa g [] none []) : IsPer W P g := by
  have dn : ∀ c ∈ fks, ∀ b ∈ wgoals W c, b ∈ fks ∧ (g : Int) ∣ fa c + 1 - fa b := fun c hc => by
    rcases I.done c hc with z | z | z
    · exact absurd z (by simp)
    · exact nomatch z
    · exact z
  have hh := I.sub h I.hd
  obtain ⟨ch, rh⟩ := part_of w hP hh
  have all : ∀ b, R W h b → R W b h → b ∈ fks := by
    intro b r
    induction r with
    | one e => exact fun q => (dn h I.hd _ (mem_wgoals.mpr ⟨e, q⟩)).1
    | @snoc a b r1 e ih =>
      intro q
      have ra : R W a h := R.head e q
      exact (dn a (ih ra) b (mem_wgoals.mpr ⟨e, q.trans r1⟩)).1
  have allP : ∀ b ∈ P, b ∈ fks := fun b hb => by
    rw [← ch] at hb
    obtain ⟨h1, h2⟩ := mem_cls.mp hb
    exact all b h1 h2
  intro k
  constructor
  · intro hk
    refine ⟨fa, fun a ha b hb e => ?_⟩
    rw [← ch] at ha hb
    obtain ⟨a1, a2⟩ := mem_cls.mp ha
    obtain ⟨b1, b2⟩ := mem_cls.mp hb
    exact Int.dvd_trans (Int.natCast_dvd_natCast.mpr hk) (dn a (all a a1 a2) b (mem_wgoals.mpr ⟨e, b2.trans a1⟩)).2
  · rintro ⟨φ, p⟩
    exact (I.pot k φ p).1
end
end Sw

/-! M5: the texts, step by step. -/
namespace Sw
open List
def stepL (g : Row → List Row) (kp : List Row) (q : Nat) (L : List (Row × Row)) : List (Row × Row) := L.flatMap fun x => ((g x.1).filter fun b => decide (b ∈ kp)).map fun b => (b, x.2 ++ [x.1.getD q 0])
theorem stepL_app (g : Row → List Row) (kp : List Row) (q : Nat) (L M : List (Row × Row)) : stepL g kp q (L ++ M) = stepL g kp q L ++ stepL g kp q M := by
  unfold stepL
  rw [flatMap_append]
def finL (g : Row → List Row) (s : Row) (q m : Nat) (L : List (Row × Row)) : List (Row × Row) := L.flatMap fun x => (wk g s m x.1).map fun l => (s, x.2 ++ txt q l)
theorem finL_step {g : Row → List Row} {s : Row} {q m : Nat} {kp : List Row} {L : List (Row × Row)} (h : ∀ x ∈ L, ∀ b ∈ g x.1, b ∉ kp → wk g s m b = []) : finL g s q m (stepL g kp q L) = finL g s q (m + 1) L := by
  unfold finL stepL
  induction L with
  | nil => rfl
  | cons x L ih =>
    rw [flatMap_cons, flatMap_append, flatMap_cons, ih fun y hy => h y (mem_cons_of_mem _ hy)]
    congr 1
    have hx := h x mem_cons_self
    rw [wk]
    generalize g x.1 = gs at hx
    induction gs with
    | nil => rfl
    | cons b gs ih2 =>
      rw [flatMap_cons, map_append, ← ih2 fun y hy => hx y (mem_cons_of_mem _ hy)]
      by_cases hb : b ∈ kp
      · rw [filter_cons_of_pos (by simpa using hb), map_cons, flatMap_cons]
        congr 1
        rw [map_map]
        refine map_congr_left fun l _ => ?_
        simp [txt]
      · rw [filter_cons_of_neg (by simpa using hb), hx b mem_cons_self hb]
        rfl
theorem finL_zero {g : Row → List Row} {s : Row} {q : Nat} : ∀ {L : List (Row × Row)}, (∀ x ∈ L, x.1 = s) → finL g s q 0 L = L
  | [], _ => rfl
  | x :: L, h => by
    have e := h x mem_cons_self
    have ih := finL_zero (g := g) (q := q) (L := L) fun y hy => h y (mem_cons_of_mem _ hy)
    unfold finL at ih ⊢
    rw [flatMap_cons, ih, wk, if_pos e]
    have : x = (s, x.2) := by rw [← e]
    simp [txt]
    exact this.symm
theorem stepL_mem {g : Row → List Row} {kp : List Row} {q : Nat} {L : List (Row × Row)} {y : Row × Row} (h : y ∈ stepL g kp q L) : ∃ x ∈ L, y.1 ∈ g x.1 ∧ y.1 ∈ kp ∧ y.2 = x.2 ++ [x.1.getD q 0] := by
  unfold stepL at h
  obtain ⟨x, hx, h⟩ := mem_flatMap.mp h
  obtain ⟨b, hb, rfl⟩ := mem_map.mp h
  obtain ⟨h1, h2⟩ := mem_filter.mp hb
  exact ⟨x, hx, h1, by simpa using h2, rfl⟩
theorem stepL_len {g : Row → List Row} {kp : List Row} {q : Nat} (hg : ∀ a, (g a).length ≤ 4) : ∀ L : List (Row × Row), (stepL g kp q L).length ≤ 4 * L.length
  | [] => by simp [stepL]
  | x :: L => by
    have ih := stepL_len (kp := kp) (q := q) hg L
    have e : stepL g kp q (x :: L) = stepL g kp q [x] ++ stepL g kp q L := stepL_app g kp q [x] L
    rw [e, length_append, length_cons]
    have : (stepL g kp q [x]).length ≤ 4 := by
      unfold stepL
      rw [flatMap_cons, flatMap_nil, append_nil, length_map]
      exact Nat.le_trans (length_filter_le _ _) (hg x.1)
    omega
end Sw

/-! T0: the text by places: the defs of the given program and law, as data. -/
namespace Wk
open PySem PySem.Spec PyProof.Rows L2
def top (i : Nat) : Stmt := PySem.Challenge.pw_standwaves_k36_whole_webs_mirrored.main.body.getD i (.Pass ⟨0, 0, 0, 0⟩)
abbrev st0 : Stmt := top 5 -- is_integer
def dd0 : He.DefD := ⟨("is_integer", none), "is_integer", "is_integer", defArgs st0, defBody st0, defScope st0, [], []⟩
abbrev st1 : Stmt := top 6 -- is_number
def dd1 : He.DefD := ⟨("is_number", none), "is_number", "is_number", defArgs st1, defBody st1, defScope st1, [], []⟩
abbrev st2 : Stmt := top 7 -- is_row
def dd2 : He.DefD := ⟨("is_row", none), "is_row", "is_row", defArgs st2, defBody st2, defScope st2, [], []⟩
abbrev st3 : Stmt := top 8 -- is_table
def dd3 : He.DefD := ⟨("is_table", none), "is_table", "is_table", defArgs st3, defBody st3, defScope st3, [], []⟩
abbrev st4 : Stmt := top 12 -- sign_after
def dd4 : He.DefD := ⟨("sign_after", none), "sign_after", "sign_after", defArgs st4, defBody st4, defScope st4, [], []⟩
abbrev st5 : Stmt := top 13 -- row_after_beat
def dd5 : He.DefD := ⟨("row_after_beat", none), "row_after_beat", "row_after_beat", defArgs st5, defBody st5, defScope st5, [], []⟩
abbrev st6 : Stmt := top 16 -- all_stands
def dd6 : He.DefD := ⟨("all_stands", none), "all_stands", "all_stands", defArgs st6, defBody st6, defScope st6, [], []⟩
abbrev st7 : Stmt := top 18 -- row_after
def dd7 : He.DefD := ⟨("row_after", none), "row_after", "row_after", defArgs st7, defBody st7, defScope st7, [], []⟩
abbrev st8 : Stmt := top 20 -- good_windows
def dd8 : He.DefD := ⟨("good_windows", none), "good_windows", "good_windows", defArgs st8, defBody st8, defScope st8, [], []⟩
abbrev st9 : Stmt := top 21 -- steps_by
def dd9 : He.DefD := ⟨("steps_by", none), "steps_by", "steps_by", defArgs st9, defBody st9, defScope st9, [], []⟩
abbrev st10 : Stmt := top 22 -- nodes_behind
def dd10 : He.DefD := ⟨("nodes_behind", none), "nodes_behind", "nodes_behind", defArgs st10, defBody st10, defScope st10, [], []⟩
abbrev st11 : Stmt := top 23 -- parts_by
def dd11 : He.DefD := ⟨("parts_by", none), "parts_by", "parts_by", defArgs st11, defBody st11, defScope st11, [], []⟩
abbrev st12 : Stmt := top 24 -- common_divisor
def dd12 : He.DefD := ⟨("common_divisor", none), "common_divisor", "common_divisor", defArgs st12, defBody st12, defScope st12, [], []⟩
abbrev st13 : Stmt := top 25 -- period_by
def dd13 : He.DefD := ⟨("period_by", none), "period_by", "period_by", defArgs st13, defBody st13, defScope st13, [], []⟩
abbrev st14 : Stmt := top 28 -- ways_back
def dd14 : He.DefD := ⟨("ways_back", none), "ways_back", "ways_back", defArgs st14, defBody st14, defScope st14, [], []⟩
abbrev st15 : Stmt := top 29 -- all_back
def dd15 : He.DefD := ⟨("all_back", none), "all_back", "all_back", defArgs st15, defBody st15, defScope st15, [], []⟩
abbrev st16 : Stmt := top 30 -- texts_on
def dd16 : He.DefD := ⟨("texts_on", none), "texts_on", "texts_on", defArgs st16, defBody st16, defScope st16, [], []⟩
abbrev st17 : Stmt := top 31 -- all_texts
def dd17 : He.DefD := ⟨("all_texts", none), "all_texts", "all_texts", defArgs st17, defBody st17, defScope st17, [], []⟩
abbrev st18 : Stmt := top 33 -- shapes_of
def dd18 : He.DefD := ⟨("shapes_of", none), "shapes_of", "shapes_of", defArgs st18, defBody st18, defScope st18, [], []⟩
abbrev st19 : Stmt := top 35 -- _law_bag
def dd19 : He.DefD := ⟨("_law_bag", none), "_law_bag", "_law_bag", defArgs st19, defBody st19, defScope st19, [], []⟩
abbrev st20 : Stmt := top 36 -- _law_take
def dd20 : He.DefD := ⟨("_law_take", none), "_law_take", "_law_take", defArgs st20, defBody st20, defScope st20, [], []⟩
abbrev st21 : Stmt := top 37 -- _law_rule
def dd21 : He.DefD := ⟨("_law_rule", none), "_law_rule", "_law_rule", defArgs st21, defBody st21, defScope st21, [], []⟩
abbrev st22 : Stmt := top 38 -- _law_my_signs
def dd22 : He.DefD := ⟨("_law_my_signs", none), "_law_my_signs", "_law_my_signs", defArgs st22, defBody st22, defScope st22, [], []⟩
abbrev st23 : Stmt := top 39 -- _law_my_rule
def dd23 : He.DefD := ⟨("_law_my_rule", none), "_law_my_rule", "_law_my_rule", defArgs st23, defBody st23, defScope st23, [], []⟩
abbrev st24 : Stmt := top 40 -- _law_my_case
def dd24 : He.DefD := ⟨("_law_my_case", none), "_law_my_case", "_law_my_case", defArgs st24, defBody st24, defScope st24, [], []⟩
abbrev st25 : Stmt := top 41 -- _law_mirrored
def dd25 : He.DefD := ⟨("_law_mirrored", none), "_law_mirrored", "_law_mirrored", defArgs st25, defBody st25, defScope st25, [], []⟩
abbrev st26 : Stmt := top 42 -- _law_webs_right
def dd26 : He.DefD := ⟨("_law_webs_right", none), "_law_webs_right", "_law_webs_right", defArgs st26, defBody st26, defScope st26, [], []⟩
abbrev st27 : Stmt := top 43 -- law
def dd27 : He.DefD := ⟨("law", none), "law", "law", defArgs st27, defBody st27, defScope st27, [], []⟩
abbrev st28 : Stmt := inClass (top 14) 1 -- Rule.__init__
def dd28 : He.DefD := ⟨("Rule", some "__init__"), "__init__", "Rule.__init__", defArgs st28, defBody st28, defScope st28, [.int 1], []⟩
abbrev st29 : Stmt := inClass (top 14) 7 -- Rule.inner_after
def dd29 : He.DefD := ⟨("Rule", some "inner_after"), "inner_after", "Rule.inner_after", defArgs st29, defBody st29, defScope st29, [], []⟩
abbrev st30 : Stmt := inClass (top 14) 8 -- Rule.mirrored
def dd30 : He.DefD := ⟨("Rule", some "mirrored"), "mirrored", "Rule.mirrored", defArgs st30, defBody st30, defScope st30, [], []⟩
abbrev st31 : Stmt := inClass (top 14) 13 -- Rule.__eq__
def dd31 : He.DefD := ⟨("Rule", some "__eq__"), "__eq__", "Rule.__eq__", defArgs st31, defBody st31, defScope st31, [], []⟩
abbrev st32 : Stmt := inClass (top 26) 1 -- Web.__init__
def dd32 : He.DefD := ⟨("Web", some "__init__"), "__init__", "Web.__init__", defArgs st32, defBody st32, defScope st32, [], []⟩
abbrev st33 : Stmt := inClass (top 26) 5 -- Web.__len__
def dd33 : He.DefD := ⟨("Web", some "__len__"), "__len__", "Web.__len__", defArgs st33, defBody st33, defScope st33, [], []⟩
abbrev st34 : Stmt := inClass (top 26) 6 -- Web.windows
def dd34 : He.DefD := ⟨("Web", some "windows"), "windows", "Web.windows", defArgs st34, defBody st34, defScope st34, [], []⟩
abbrev st35 : Stmt := inClass (top 26) 7 -- Web.nodes
def dd35 : He.DefD := ⟨("Web", some "nodes"), "nodes", "Web.nodes", defArgs st35, defBody st35, defScope st35, [], []⟩
abbrev st36 : Stmt := inClass (top 26) 8 -- Web.steps
def dd36 : He.DefD := ⟨("Web", some "steps"), "steps", "Web.steps", defArgs st36, defBody st36, defScope st36, [], []⟩
abbrev st37 : Stmt := inClass (top 26) 9 -- Web.parts
def dd37 : He.DefD := ⟨("Web", some "parts"), "parts", "Web.parts", defArgs st37, defBody st37, defScope st37, [], []⟩
abbrev st38 : Stmt := inClass (top 26) 10 -- Web.periods
def dd38 : He.DefD := ⟨("Web", some "periods"), "periods", "Web.periods", defArgs st38, defBody st38, defScope st38, [], []⟩
def fnL : List He.DefD := [dd0, dd1, dd2, dd3, dd4, dd5, dd6, dd7, dd8, dd9, dd10, dd11, dd12, dd13, dd14, dd15, dd16, dd17, dd18, dd19, dd20, dd21, dd22, dd23, dd24, dd25, dd26, dd27, dd28, dd29, dd30, dd31, dd32, dd33, dd34, dd35, dd36, dd37, dd38]
abbrev stSigns : Stmt := inClass (top 14) 4
def ddSigns : He.DefD := ⟨("Rule", some "signs"), "signs", "Rule.signs", defArgs stSigns, defBody stSigns, defScope stSigns, [], []⟩
/-- a property and its getter -/
structure PropAt (K : PySem.W.Frag) (C : Addr) (f : Str) (p g : Addr) : Prop where
  at_ : PySem.W.findIn K (.ref C) f = some (some (.ref p))
  get : PySem.W.specialIn K (.ref p) "__get__" = some (some (.builtin "property.__get__"))
  tk : PySem.W.takesIn K (.ref p) = some true
  rc : ∃ rest, PySem.W.recIn K p "property" = some (.ref g :: rest)
end Wk

/-! K1: rules that the layer lacks: sorted of texts, of a dict's keys, of lists of texts, any number of them. -/
namespace Wk
open PySem PySem.Spec PyProof.Rows L2
/-- a text by its signs' codes -/
abbrev T (l : Sw.Row) : Str := ⟨l.toArray⟩
theorem T_list (l : Sw.Row) : (T l).cps.toList = l := by simp
theorem T_inj {a b : Sw.Row} (h : T a = T b) : a = b := by
  have := congrArg (fun z : Str => z.cps.toList) h
  simpa using this
theorem T_len (l : Sw.Row) : (T l).length = l.length := by
  show (T l).cps.size = l.length
  simp
theorem T_of (s : Str) : T s.cps.toList = s := by
  obtain ⟨c⟩ := s
  simp
/-- texts as values -/
abbrev vT (l : Sw.Row) : V := .str (T l)

theorem rising_pair : ∀ (p : Str) (l : List Str), risingS p l = true → (p :: l).Pairwise (fun a b => ¬ b.cps.toList < a.cps.toList)
  | p, [], _ => by simp
  | p, x :: r, h => by
    have h1 : (!ltCps x.cps.toList p.cps.toList && risingS x r) = true := h
    obtain ⟨h2, h3⟩ := Bool.and_eq_true_iff.mp h1
    have h4 : ¬ x.cps.toList < p.cps.toList := by
      have z : ltCps x.cps.toList p.cps.toList = false := by simpa using h2
      exact of_decide_eq_false (by rw [← ltCps_eq]; exact z)
    have ih := rising_pair x r h3
    refine List.pairwise_cons.mpr ⟨fun y hy => ?_, ih⟩
    rcases List.mem_cons.mp hy with e | hy
    · rw [e]
      exact h4
    · have h5 := (List.pairwise_cons.mp ih).1 y hy
      exact Sw.leT h4 h5
theorem sortedS_pair : ∀ {l : List Str}, sortedS l = true → l.Pairwise (fun a b => ¬ b.cps.toList < a.cps.toList)
  | [], _ => List.Pairwise.nil
  | x :: r, h => rising_pair x r h
theorem sortedS_rows {ys : List Str} {rs : List Sw.Row} (p : ys.Perm (rs.map T)) (h : sortedS ys = true) : ys = (Sw.srt rs).map T := by
  have e : ys = (ys.map fun y => y.cps.toList).map T := by
    rw [List.map_map]
    have : (T ∘ fun y : Str => y.cps.toList) = id := by
      funext y
      exact T_of y
    rw [this, List.map_id]
  have p2 : (ys.map fun y => y.cps.toList).Perm rs := by
    have q := p.map (fun y : Str => y.cps.toList)
    rw [List.map_map] at q
    have : ((fun y : Str => y.cps.toList) ∘ T) = id := by
      funext y
      exact T_list y
    rw [this, List.map_id] at q
    exact q
  rw [e, Sw.srt_eq (l := rs) (m := ys.map fun y => y.cps.toList) ?_ p2]
  rw [List.pairwise_map]
  exact sortedS_pair h
section
variable {X : Cx}
/-- sorted(xs), texts, any number of them -/
def rSortedT (K : PySem.W.Frag) : List V → Hp → VK → Prop := fun vs H Q => ∃ (a : Addr) (rs : List Sw.Row), vs = [V.ref a] ∧ SqL K H a (rs.map vT) ∧
  ∀ p : Addr, H p = none → Q (.ref p) (upd H p (.lst ((Sw.srt rs).map vT)))
theorem cr_sortedT : CallR X (.builtin "sorted") (rSortedT X.K) := by
  intro pins s σ H vs us Q I r h
  obtain ⟨a, rs, rfl, hs, q⟩ := h
  have ev : rs.map vT = (rs.map T).map V.str := by rw [List.map_map]; rfl
  rw [ev] at hs
  obtain ⟨its, rv, hl, hz⟩ := I.list hs
  rw [Vals.ref1 r]
  have hlen0 := rv.length
  rw [List.length_map] at hlen0
  refine PyProof.Rows.sorted_strsAny hl.isList rv.strs (by rw [← rv.length]; exact hz) fun out ys h1 h2 h3 => ?_
  obtain ⟨ep, he'⟩ := PyProof.Rows.sortedAll_at s.heap its out
  have hlen : (ys.map V.str).length ≤ sizeLine := by
    rw [List.length_map, h2.length_eq]
    rw [List.length_map] at hz
    exact hz
  have e2 : ys.map V.str = (Sw.srt rs).map vT := by
    rw [sortedS_rows h2 h3, List.map_map]
    rfl
  have k := q (s.heap.objs.size + 1) (I.hok.fresh (Nat.le_succ _))
  rw [← e2] at k
  exact ⟨.ref _, upd H (s.heap.objs.size + 1) (.lst (ys.map V.str)), I.laid (t' := s.toks) (fun _ _ => PyProof.Rows.sortedAll_old) (Nat.le_succ _) ⟨hlen, out.toList, ep, vals_of_strs h1, he'⟩, rfl, k⟩
/-- sorted(d) of a dict with text keys, any number of them -/
theorem call_sortedDT (hcalm : X.calm = true) : CallR X (.builtin "sorted") (fun xs H Q => ∃ (a : Addr) (kvs : List (Key × V)) (ks : List Sw.Row), xs = [.ref a] ∧ Rd H a (.dK kvs) ∧ kvs.map (·.1) = ks.map (fun k => Sum.inr (T k)) ∧
    ∀ p, H p = none → Q (.ref p) (upd H p (.lst ((Sw.srt ks).map vT)))) := by
  intro pins s σ H xs us Q I r q
  obtain ⟨a, kvs, rs, ex, hd, hks, q⟩ := q
  subst ex
  obtain ⟨u, eu, rx⟩ := vals1 r
  subst eu
  cases rx
  obtain ⟨z, lo, vs, rel, dd⟩ := dk_rd I.hok hd
  obtain ⟨ep, hat⟩ := dd.dictAt
  have hkeys : vs.map (·.1) = (rs.map T).map Sum.inr := by
    rw [List.map_map]
    exact rel.keys.symm.trans hks
  generalize hks2 : rs.map T = ks at hkeys
  have hl : vs.length = ks.length := by
    have e := congrArg List.length hkeys
    rw [List.length_map, List.length_map] at e
    exact e
  have hl2 : kvs.length = rs.length := by
    have e := congrArg List.length hks
    rw [List.length_map, List.length_map] at e
    exact e
  have h64 : ks.length ≤ sizeLine := by
    rw [← hks2, List.length_map, ← hl2]
    exact z
  have h16 : vs.length ≤ sizeLine := by rw [hl]; exact h64
  refine Calls.call_function_entry PyProof.Rows.kind_sorted PyProof.Rows.plain_sorted PyProof.Rows.entry_sorted (PyProof.Rows.args_sorted1 _) ?_
  unfold Builtin.«sorted»
  refine wpAny_bind (m := checkCount "sorted" 1 1 _) (wpAny_pure ?_)
  refine wpAny_bind (PySem.W.kdu_collect (A := X.A.in1) (PySem.W.kdl_dict (knd := mixKind X.prog X.w) (kvs := vs) (ep := ep) lo) (I.ok.hd hcalm) hat h16 fun h' tk acc hk hacc => ?_)
  have hal : acc.toList.length = ks.length := by rw [Array.length_toList, hacc.1, hl]
  have hS : StrsAre acc.toList ks := strs_at hal fun j v e => by
    obtain ⟨k, x, e1, e2⟩ := hacc.2 j v (by rw [← Array.getElem?_toList]; exact e)
    have e3 : (vs.map (·.1))[j]? = some k := by rw [List.getElem?_map, e1]; all_goals rfl
    rw [hkeys, List.getElem?_map] at e3
    cases e4 : ks[j]? with
    | none => rw [e4] at e3; cases e3
    | some y =>
      rw [e4] at e3
      have e5 : Sum.inr y = k := Option.some.inj e3
      subst e5
      obtain ⟨t, ev⟩ := Value.isStrOf_shape (x := y) (v := v) e2
      exact ⟨y, t, rfl, ev⟩
  have I1 : Inv X pins σ H { s with heap := h', toks := tk } := I.kept hk
  refine wpAny_bind (wpAny_newList ?_ (by rw [hal]; exact h64))
  have hoL : (h'.push (seqObj "list" acc.toList.toArray 0)).get? h'.objs.size = some (seqObj "list" acc.toList.toArray 0) := Heap.get?_push_size _ rfl
  show wpAny _ _ _ _ _ { s with heap := h'.push (seqObj "list" acc.toList.toArray 0), toks := tk }
  refine wpAny_bind (wpAny_holding (wpAny_call_entry PyProof.Rows.slot_list_sort ⟨_, hoL, rfl⟩ PyProof.Rows.entry_list_sort
    (list_sort_treeKAny strKind_oneLt (s := { s with heap := h'.push (seqObj "list" acc.toList.toArray 0), toks := tk }) hoL hS.keysOf (fun v₁ v₂ rest e => keyKind_strs (by rw [← e]; exact hS)) (by rw [hal]; exact h64) fun st' hp hs => ⟨_, rfl, ?_⟩)
    (PyProof.Rows.args_list_sort _)))
  obtain ⟨ys, g1, g2, g3⟩ := sorted_out_str hS hp hs
  obtain ⟨e', he'⟩ := PyProof.Rows.sortedHeap_at (vs := acc.toList) (out := (arrOf st').map (·.2)) hoL
  have hlen : (ys.map V.str).length ≤ sizeLine := by
    rw [List.length_map, g2.length_eq]
    exact h64
  have e2 : ys.map V.str = (Sw.srt rs).map vT := by
    rw [sortedS_rows (by rw [hks2]; exact g2) g3, List.map_map]
    rfl
  have k := q h'.objs.size (I1.hok.fresh (Nat.le_refl _))
  rw [← e2] at k
  refine wpAny_pure ⟨_, rfl, .ref h'.objs.size, upd H h'.objs.size (.lst (ys.map V.str)), I1.laid (t' := tk) (fun b u e => ?_) (Nat.le_refl _)
    (show ObjOk X.prog X.w _ _ _ (.lst (ys.map V.str)) from ⟨hlen, ((arrOf st').map (·.2)).toList, e', vals_of_strs g1, by rw [Array.toArray_toList]; exact he'⟩), rfl, k⟩
  have hb : b < h'.objs.size := Heap.lt_size e
  rw [PyProof.Rows.sortedHeap_old (Nat.ne_of_lt hb) (by rw [size_push']; exact Nat.lt_succ_of_lt hb)]
  exact Heap.get?_push_of_some _ e
end
end Wk

/-! K2: sorted of a list of lists of texts. -/
namespace Wk
open PySem PySem.Spec PyProof.Rows L2
/-! ### the order of lists of rows, by places -/
theorem rows_lt_at : ∀ (xs ys : List Sw.Row) (i : Nat), i ≤ xs.length → i ≤ ys.length → decide (xs.drop i < ys.drop i) =
    SeqAt.firstLt (fun j => decide (xs.getD j [] = ys.getD j [])) (fun j => decide (xs.getD j [] < ys.getD j [])) (decide (xs.length < ys.length)) ((List.range (min xs.length ys.length)).drop i) := by
  intro xs ys i hx hy
  generalize hk : min xs.length ys.length - i = k
  induction k generalizing i with
  | zero =>
    have hnil : (List.range (min xs.length ys.length)).drop i = [] := List.drop_eq_nil_of_le (by rw [List.length_range]; omega)
    rw [hnil]
    show _ = decide (xs.length < ys.length)
    by_cases h : xs.length ≤ i
    · have e : xs.drop i = [] := List.drop_eq_nil_of_le h
      rw [e]
      by_cases h2 : ys.length ≤ i
      · have e2 : ys.drop i = [] := List.drop_eq_nil_of_le h2
        rw [e2, decide_eq_false (List.lt_irrefl _), decide_eq_false (by omega)]
      · have hl : i < ys.length := by omega
        rw [List.drop_eq_getElem_cons hl, decide_eq_true (List.nil_lt_cons _ _), decide_eq_true (by omega)]
    · have h2 : ys.length ≤ i := by omega
      have e2 : ys.drop i = [] := List.drop_eq_nil_of_le h2
      rw [e2, decide_eq_false (List.not_lt_nil _), decide_eq_false (by omega)]
  | succ k ih =>
    have h1 : i < xs.length := by omega
    have h2 : i < ys.length := by omega
    have hd : (List.range (min xs.length ys.length)).drop i = i :: (List.range (min xs.length ys.length)).drop (i + 1) := by
      have hm : i < min xs.length ys.length := by omega
      simp [List.drop_eq_getElem_cons, hm]
    rw [hd, List.drop_eq_getElem_cons h1, List.drop_eq_getElem_cons h2]
    have g1 : xs.getD i [] = xs[i] := by simp [h1]
    have g2 : ys.getD i [] = ys[i] := by simp [h2]
    by_cases e : xs[i] = ys[i]
    · rw [SeqAt.firstLt_yes (by rw [g1, g2]; exact decide_eq_true e), ← ih (i + 1) (by omega) (by omega) (by omega)]
      refine decide_eq_decide.mpr ?_
      rw [List.cons_lt_cons_iff]
      constructor
      · rintro (q | q)
        · rw [e] at q
          exact absurd q (List.lt_irrefl _)
        · exact q.2
      · intro q
        exact .inr ⟨e, q⟩
    · rw [SeqAt.firstLt_no (by rw [g1, g2]; exact decide_eq_false e), g1, g2]
      refine decide_eq_decide.mpr ?_
      rw [List.cons_lt_cons_iff]
      constructor
      · rintro (q | q)
        · exact q
        · exact absurd q.1 e
      · intro q
        exact .inl q
theorem rows_lt (xs ys : List Sw.Row) : decide (xs < ys) = SeqAt.firstLt (fun j => decide (xs.getD j [] = ys.getD j [])) (fun j => decide (xs.getD j [] < ys.getD j [])) (decide (xs.length < ys.length)) (List.range (min xs.length ys.length)) := by
  have h := rows_lt_at xs ys 0 (Nat.zero_le _) (Nat.zero_le _)
  simpa using h
theorem vals_text {rs : List Sw.Row} {us : List Value} (r : Vals (rs.map vT) us) : rs.length = us.length ∧ ∀ (j : Nat) (h : j < us.length), ∃ t, us[j] = Value.str (T (rs.getD j [])) t := by
  have hl := r.length
  rw [List.length_map] at hl
  refine ⟨hl, fun j h => ?_⟩
  have h2 : j < rs.length := by omega
  obtain ⟨u, e, q⟩ := Vals.get (i := j) (x := vT rs[j]) r (by simp [h2])
  have e3 : us[j] = u := by
    have := List.getElem?_eq_some_iff.mp e
    exact this.2
  obtain ⟨t, e2⟩ := q
  refine ⟨t, ?_⟩
  rw [e3, e2]
  have g1 : rs.getD j [] = rs[j] := by simp [h2]
  rw [g1]
section
variable {prog : Program} {w : World} {A : Around} {E : Value → Shared → Prop} {s : Shared}
/-- a list of texts in the raw heap -/
def RawL (h : Heap) (v : Value) (P : List Sw.Row) : Prop := ∃ (x : Addr) (its : List Value), v = .ref x ∧ h.IsList x its.toArray ∧ Vals (P.map vT) its
theorem rawl_lt {v u : Value} {P R : List Sw.Row} (hv : RawL s.heap v P) (hu : RawL s.heap u R) (hc : A.units < cLine) {Q : Bool → Shared → Prop} (h : Q (decide (P < R)) s) : wpAny (model prog w) A (oneLt' true v u) Q E s := by
  obtain ⟨x, its, rfl, hl, r⟩ := hv
  obtain ⟨y, its2, rfl, hl2, r2⟩ := hu
  obtain ⟨l1, t1⟩ := vals_text r
  obtain ⟨l2, t2⟩ := vals_text r2
  obtain ⟨o, ho, hcl, _⟩ := id hl
  rw [oneLt'_eq]
  simp only [if_true]
  refine wpAny_bind (wpAny_cRoomFor hc ?_)
  refine wpAny_bind (wpAny_callSpecialIfBound?_slot ⟨_, ho, hcl⟩ F.slot_list_lt (SeqAt.call_list_lt (e := fun j => decide (P.getD j [] = R.getD j [])) (r := fun j => decide (P.getD j [] < R.getD j [])) hl hl2 (fun j h1 h2 => ?_) (fun j h1 h2 _ => ?_) ?_))
  · obtain ⟨a, e1⟩ := t1 j (by simpa using h1)
    obtain ⟨b, e2⟩ := t2 j (by simpa using h2)
    have e1' : its.toArray[j] = Value.str (T (P.getD j [])) a := by simpa using e1
    have e2' : its2.toArray[j] = Value.str (T (R.getD j [])) b := by simpa using e2
    rw [e1', e2']
    have q := SeqAt.EqAt.str_str (A := A.in1) (s := s) (T (P.getD j [])) a (T (R.getD j [])) b
    have e3 : (T (P.getD j []) == T (R.getD j [])) = decide (P.getD j [] = R.getD j []) := by
      by_cases z : P.getD j [] = R.getD j []
      · rw [z]
        simp
      · rw [decide_eq_false z]
        exact beq_eq_false_iff_ne.mpr fun q => z (T_inj q)
    rw [e3] at q
    exact q
  · obtain ⟨a, e1⟩ := t1 j (by simpa using h1)
    obtain ⟨b, e2⟩ := t2 j (by simpa using h2)
    have e1' : its.toArray[j] = Value.str (T (P.getD j [])) a := by simpa using e1
    have e2' : its2.toArray[j] = Value.str (T (R.getD j [])) b := by simpa using e2
    rw [e1', e2']
    intro prog w E Q h
    refine PySem.P.lt_str ?_
    simpa using h
  · refine wpAny_truthy_bool ?_
    have e : its.toArray.size = P.length := by simp [l1]
    have e2 : its2.toArray.size = R.length := by simp [l2]
    rw [e, e2, ← rows_lt]
    exact h
end
open Classical in
noncomputable def keyL (K : PySem.W.Frag) (H : Hp) (v : Value) : List Sw.Row := if h : ∃ P : List Sw.Row, ∃ x : Addr, v = .ref x ∧ SqL K H x (P.map vT) then Classical.choose h else []
theorem map_vT_inj {P R : List Sw.Row} (h : P.map vT = R.map vT) : P = R := by
  induction P generalizing R with
  | nil =>
    cases R with
    | nil => rfl
    | cons => cases h
  | cons a P ih =>
    cases R with
    | nil => cases h
    | cons b R =>
      rw [List.map_cons, List.map_cons] at h
      injection h with h1 h2
      have e : T a = T b := V.str.inj h1
      rw [T_inj e, ih h2]
section
variable {X : Cx}
theorem keyL_is {pins : List (Addr × Obj)} {σ : L2.St} {H : Hp} {s : Shared} (I : Inv X pins σ H s) {x : Addr} {P : List Sw.Row} (h : SqL X.K H x (P.map vT)) : keyL X.K H (.ref x) = P := by
  have z : ∃ P : List Sw.Row, ∃ y : Addr, Value.ref x = .ref y ∧ SqL X.K H y (P.map vT) := ⟨P, x, rfl, h⟩
  unfold keyL
  rw [dif_pos z]
  obtain ⟨y, e, q⟩ := Classical.choose_spec z
  cases e
  exact map_vT_inj (I.list_inj q h)
theorem paired_mem {α β : Type} {F : α → β → Prop} : ∀ {l : List α} {m : List β}, Paired F l m → ∀ a ∈ l, ∃ b ∈ m, F a b
  | _, _, .nil, a, h => absurd h (by simp)
  | _, _, .cons r t, a, h => by
    rcases List.mem_cons.mp h with e | h
    · subst e
      exact ⟨_, List.mem_cons_self, r⟩
    · obtain ⟨b, hb, q⟩ := paired_mem t a h
      exact ⟨b, List.mem_cons_of_mem _ hb, q⟩
theorem paired_map_eq {α β : Type} {F : α → β → Prop} {f : α → β} : ∀ {l : List α} {m : List β}, Paired F l m → (∀ a ∈ l, ∀ b, F a b → f a = b) → l.map f = m
  | _, _, .nil, _ => rfl
  | _, _, .cons r t, h => by rw [List.map_cons, h _ List.mem_cons_self _ r, paired_map_eq t fun a ha => h a (List.mem_cons_of_mem _ ha)]
theorem paired_of_map {α β : Type} {F : α → β → Prop} {f : α → β} : ∀ {l : List α}, (∀ a ∈ l, F a (f a)) → Paired F l (l.map f)
  | [], _ => .nil
  | a :: l, h => .cons (h a List.mem_cons_self) (paired_of_map fun b hb => h b (List.mem_cons_of_mem _ hb))
theorem vals_refs {xs : List Addr} {us : List Value} (r : Vals (xs.map V.ref) us) : us = xs.map Value.ref := by
  induction xs generalizing us with
  | nil => cases r; rfl
  | cons x xs ih =>
    rw [List.map_cons] at r
    cases r with
    | cons a b =>
      cases a
      rw [ih b]
      rfl
theorem refs_vals (xs : List Addr) : Vals (xs.map V.ref) (xs.map Value.ref) := by
  induction xs with
  | nil => exact .nil
  | cons x xs ih => exact .cons rfl ih
/-- sorted(xs), xs a list of lists of texts -/
def rSortedLL (K : PySem.W.Frag) : List V → Hp → VK → Prop := fun vs H Q => ∃ (a : Addr) (xs : List Addr) (Ps : List (List Sw.Row)), vs = [V.ref a] ∧ SqL K H a (xs.map V.ref) ∧ Paired (fun x P => SqL K H x (P.map vT)) xs Ps ∧
  ∀ (p : Addr) (ys : List Addr), H p = none → Paired (fun y P => SqL K H y (P.map vT)) ys (Sw.srt Ps) → Q (.ref p) (upd H p (.lst (ys.map V.ref)))
theorem cr_sortedLL (hu : X.A.in1.in1.units < cLine) : CallR X (.builtin "sorted") (rSortedLL X.K) := by
  intro pins s σ H vs us Q I r h
  obtain ⟨a, xs, Ps, rfl, hs, hp, q⟩ := h
  obtain ⟨its, rv, hl, hz⟩ := I.list hs
  rw [Vals.ref1 r]
  have ei := vals_refs rv
  subst ei
  let f : Addr → List Sw.Row := fun x => keyL X.K H (.ref x)
  have hf : ∀ x ∈ xs, SqL X.K H x ((f x).map vT) := fun x hx => by
    obtain ⟨P, _, hP⟩ := paired_mem hp x hx
    have e : f x = P := keyL_is I hP
    rw [e]
    exact hP
  have hPs : xs.map f = Ps := paired_map_eq hp fun x _ P hP => keyL_is I hP
  have O : SrtO.Swo fun v u : Value => decide (keyL X.K H v < keyL X.K H u) := by
    refine ⟨fun x y h => ?_, fun x y z h1 h2 => ?_⟩
    · exact decide_eq_false (Sw.ltA (of_decide_eq_true h))
    · exact decide_eq_false (Sw.leT (of_decide_eq_false h1) (of_decide_eq_false h2))
  refine SrtO.sorted_ord O hl.isList (by rw [← rv.length]; exact hz) (fun h2 h₁ a' ha' keep => ?_) fun out h1 h2 => ?_
  · intro h' keep'
    have raw : ∀ v ∈ xs.map Value.ref, RawL h' v (keyL X.K H v) := fun v hv => by
      obtain ⟨x, hx, rfl⟩ := List.mem_map.mp hv
      obtain ⟨is, rr, pl, _⟩ := I.list (hf x hx)
      obtain ⟨o, n, ho, hc, hd, hdat⟩ := pl
      have k1 := keep x o ho
      exact ⟨x, is, rfl, ⟨o, keep' x o k1.1 k1.2, hc, n, hdat⟩, rr⟩
    refine ⟨oneType', fun Q E hq => ?_, fun p q hm hm' => ?_⟩
    · refine PySem.W.kas_kind (T := .type "list") h2 (fun v hv => ?_) (by decide +kernel) (by decide +kernel) hq
      obtain ⟨x, is, e, ⟨o, ho, hc, _⟩, _⟩ := raw v hv
      subst e
      rw [← hc]
      exact (PySem.W.Looks.ld ho).andThen .now
    · show wpAny _ _ (keyLt' oneType' p.1 q.1) _ _ _
      rw [keyLt'_oneType]
      refine rawl_lt (raw _ hm) (raw _ hm') hu ⟨rfl, rfl⟩
  · have hout : ∀ v ∈ out, ∃ x ∈ xs, v = Value.ref x := fun v hv => by
      obtain ⟨x, hx, e⟩ := List.mem_map.mp (h2.perm.mem_iff.mp hv)
      exact ⟨x, hx, e.symm⟩
    let g : Value → Addr := fun v => match v with | .ref x => x | _ => 0
    have eo : out = (out.map g).map Value.ref := by
      rw [List.map_map]
      have : ∀ l : List Value, (∀ v ∈ l, ∃ x ∈ xs, v = Value.ref x) → l = l.map (Value.ref ∘ g) := by
        intro l
        induction l with
        | nil => intro _; rfl
        | cons v l ih =>
          intro h
          obtain ⟨x, _, e⟩ := h v List.mem_cons_self
          rw [List.map_cons, ← ih fun u hu => h u (List.mem_cons_of_mem _ hu)]
          subst e
          rfl
      exact this out hout
    generalize out.map g = ys at eo
    subst eo
    have hperm : ys.Perm xs := by
      have p := h2.perm.map g
      rw [List.map_map, List.map_map] at p
      have : g ∘ Value.ref = id := rfl
      rw [this, List.map_id, List.map_id] at p
      exact p
    have hy : ∀ y ∈ ys, SqL X.K H y ((f y).map vT) := fun y hy => hf y (hperm.mem_iff.mp hy)
    have es : ys.map f = Sw.srt Ps := by
      refine Sw.srt_eq ?_ (by rw [← hPs]; exact hperm.map f)
      rw [List.pairwise_map]
      have h3 : (ys.map Value.ref).Pairwise fun x y => decide (keyL X.K H y < keyL X.K H x) = false := h1
      rw [List.pairwise_map] at h3
      exact h3.imp fun z => of_decide_eq_false z
    obtain ⟨ep, he'⟩ := PyProof.Rows.sortedAll_at s.heap (xs.map Value.ref) (ys.map Value.ref).toArray
    have hlen : (ys.map V.ref).length ≤ sizeLine := by
      rw [List.length_map, hperm.length_eq]
      rw [List.length_map] at hz
      exact hz
    exact ⟨.ref _, upd H (s.heap.objs.size + 1) (.lst (ys.map V.ref)), I.laid (t' := s.toks) (fun _ _ => PyProof.Rows.sortedAll_old) (Nat.le_succ _) ⟨hlen, ys.map Value.ref, ep, refs_vals ys, he'⟩, rfl,
      q _ ys (I.hok.fresh (Nat.le_succ _)) (by rw [← es]; exact paired_of_map hy)⟩
end
end Wk

/-! K3: further rules: a text backwards, a slot as a target, xs[i] op= e, d.update(e), len of an own class with slots. -/
namespace Wk
open PySem PySem.Spec PyProof.Rows L2
section
variable {X : Cx}
/-! ### t[::-1] -/
def tRevT (te : TE) : TE := fun σ H Q => te σ H fun x H1 => ∃ l : Sw.Row, x = vT l ∧ l.length ≤ sizeLine ∧ Q (vT l.reverse) H1
theorem rev_pick (z : Str) : (Builtin.Str.strSliceIndices none none (-1) z.length).filterMap (z.cps[·]?) = z.cps.toList.reverse := by
  have e : Builtin.Str.strSliceIndices none none (-1) z.length = (List.range z.length).map fun k => z.length - 1 - k := PySem.W.krv_sliceRange z.length
  rw [e, PySem.W.krv_range, List.filterMap_reverse]
  have q := PySem.W.krv_all z.cps
  exact congrArg List.reverse q
theorem pe_revT {e : Expr} {te : TE} {k : Nat} {p1 p2 p3 pos : Pos} (he : PE X e te) : PE X (.Subscript e (.Slice none none (some (.UnaryOp .USub (.Constant (.int 1) k p1) p2)) p3) pos) (tRevT te) := by
  refine ⟨fun pins s σ H Q I h => ?_⟩
  refine Subscript_ (thn (he.run pins s σ H _ I h) fun v s1 ⟨x, H1, I1, r1, q1⟩ => ?_)
  obtain ⟨l, ex, hz, q⟩ := q1
  subst ex
  obtain ⟨t, rfl⟩ := r1
  have hst : PO X (some (.UnaryOp .USub (.Constant (.int 1) k p1) p2)) (tPart (tUn (rU fun i => .int (-i)) (tC (.int 1)))) := po_some (pe_un un_neg pe_int)
  refine wpAny_Slice (thn (po_none.run pins s1 σ H1 (fun o H2 => o = none ∧ H2 = H1) I1 ⟨rfl, rfl⟩) fun vl s2 ⟨l', H2, I2, pl, el, e2⟩ => ?_)
  subst el e2
  refine thn (po_none.run pins s2 σ H2 (fun o H3 => o = none ∧ H3 = H2) I2 ⟨rfl, rfl⟩) fun vu s3 ⟨u, H3, I3, pu, eu, e3⟩ => ?_
  subst eu e3
  refine thn (hst.run pins s3 σ H3 (fun o H4 => o = some (-1) ∧ H4 = H3) I3 ⟨1, rfl, -1, rfl, rfl, rfl⟩) fun vs s4 ⟨o, H4, I4, ps, eo, e4⟩ => ?_
  subst eo e4
  have I5 : Inv X pins σ H4 { s4 with heap := s4.heap.push { cls := .type "slice", data := .fields #[vl, vu, vs] } } := I4.kept (t' := s4.toks) fun b ob q => Heap.get?_push_of_some _ q
  obtain ⟨l1, rfl, e1⟩ := IsPart.raw pl
  obtain ⟨u1, rfl, e2⟩ := IsPart.raw pu
  obtain ⟨st, rfl, e3⟩ := IsPart.raw ps
  show wpAny (model X.prog X.w) X.A (subscriptTail e (.Slice none none (some (.UnaryOp .USub (.Constant (.int 1) k p1) p2)) p3) (.str (T l) t) (.ref s4.heap.objs.size)) (EP X pins σ Q) X.xe { s4 with heap := s4.heap.push { cls := .type "slice", data := .fields #[partValue l1, partValue u1, partValue st] } }
  refine tail_any (ops := [.str (T l) t, .ref s4.heap.objs.size]) (typeIs_str _ _ _) (F.slot_str_getitem.lookup) ?_ (by with_unfolding_all rfl)
  have hst0 : (st.map (·.1)).getD 1 = -1 := by
    rw [e3]
    rfl
  refine wpAny_getItem_str_slice (l := l1) (u := u1) (st := st) ⟨_, Heap.get?_push_size _ rfl, rfl, rfl⟩ (by rw [hst0]; rfl) ?_
  have hpk : ((slicePicked (T l) l1 u1 st).filterMap ((T l).cps[·]?)) = l.reverse := by
    have hp : slicePicked (T l) l1 u1 st = Builtin.Str.strSliceIndices none none (-1) (T l).length := by
      unfold slicePicked
      rw [hst0, e1, e2]
    rw [hp, rev_pick, T_list]
  unfold sliceMade
  rw [hst0]
  rw [if_neg (by simp)]
  have hlen : (T l.reverse).length ≤ sizeLine := by
    rw [T_len, List.length_reverse]
    exact hz
  rw [hpk]
  exact ⟨hlen, vT l.reverse, H4, I5.tok _, ⟨_, rfl⟩, q⟩

/-! ### o.f as a target, o an instance with slots -/
def gSl (K : PySem.W.Frag) (ta : TE) (f : Str) : TG := fun y σ H Q => ta σ H fun x H2 => ∃ a C dx p vs i, x = .ref a ∧ SlX.Slt H2 a C dx vs ∧ SlX.SCls K C ∧ SlX.Slot1 K C f p i ∧ Q σ (SlX.slH H2 a C dx (SlX.putS i y vs))
theorem pg_sl {o : Expr} {f : Str} {pos : Pos} {ta : TE} (ha : PE X o ta) : PG X (.Attribute o f pos) (gSl X.K ta f) := by
  refine ⟨fun pins s σ H y u Q I ry h => ?_⟩
  have e : assign (.Attribute o f pos) X.env u = (do
    let ov ← holding [u] (eval o X.env)
    standAt pos.atName
    holding [u, ov] (setAttr ov f u)
    release [u, ov] []) := rfl
  rw [e]
  refine wpAny_bind (wpAny_holding (thn (ha.run pins s σ H _ I h) fun ov s2 ⟨x, H2, I2, rx, a, C, dx, p, vs, i, ex, hsl, c, t, q2⟩ => ?_))
  subst ex
  obtain rfl : ov = Value.ref a := rx
  refine wpAny_bind (wpAny_standAt (wpAny_bind (wpAny_holding (SlX.setslot_ok I2 hsl c t ry fun s3 I3 => ?_))))
  exact wpAny_release ⟨σ, _, I3, q2⟩

/-! ### xs[i] op= e -/
def rGetL (K : PySem.W.Frag) : V → V → Hp → VK → Prop := fun o i H Q => ∃ p xs, ∃ (j : Nat) (v : V), o = .ref p ∧ i = .int (j : Int) ∧ SqL K H p xs ∧ xs[j]? = some v ∧ Q v H
theorem pget_list : PGet X (rGetL X.K) := by
  intro pins s σ H o i ov iv Q I r1 r2 h
  obtain ⟨p, xs, j, v, rfl, rfl, hq, he, q⟩ := h
  cases r1
  obtain ⟨t, rfl⟩ := r2
  obtain ⟨its, r, pl, hz⟩ := I.list hq
  obtain ⟨w, ew, rw'⟩ := r.get he
  have hj : j < xs.length := (List.getElem?_eq_some_iff.mp he).1
  have hn := line63
  refine wpAny_getItem_list (x := w) pl.isList (Int.natCast_nonneg _) (by omega) (by simpa using ew) ⟨v, H, I, rw', q⟩

/-! ### d.update(e) -/
def rUpd : V → List V → Hp → VK → Prop := fun x vs H Q => ∃ (d o : Addr) (kvs more : List (Key × V)), x = .ref d ∧ vs = [.ref o] ∧ d ≠ o ∧ H d = some (.dK kvs) ∧ H o = some (.dK more) ∧ kvs.length + more.length ≤ sizeLine ∧ Q .non (upd H d (.dK (mergeK kvs more)))
theorem mt_update : MtR X "dict.update" rUpd := by
  intro pins s σ H x vs v us Q I rx rv h
  obtain ⟨d, o, kvs, more, rfl, rfl, hne, hd, ho, hz, q⟩ := h
  cases rx
  obtain ⟨u, rfl, ru⟩ := rv.one
  cases ru
  obtain ⟨z1, lo1, vd, r1, D1⟩ := dk_of I.hok hd
  obtain ⟨z2, lo2, vo, r2, D2⟩ := dk_of I.hok ho
  have l1 := r1.length
  have l2 := r2.length
  refine call_meetsIn F.slot_dict_update D1.typeIs F.entry_dict_update (F.args_dict_update_2 _ _) (meets_dict_update (mixKind X.prog X.w) d o hne lo2) ⟨vd, vo, D1, D2, by omega, fun h' hd' ho' hs' => ?_⟩
  have hlen : (mergeK kvs more).length ≤ kvs.length + more.length := by
    have : ∀ (m k : List (Key × V)), (mergeK k m).length ≤ k.length + m.length := by
      intro m
      induction m with
      | nil => intro k; exact Nat.le_refl _
      | cons p m ih =>
        intro k
        have e : mergeK k (p :: m) = mergeK (putK k p.1 p.2) m := rfl
        rw [e]
        have h1 := ih (putK k p.1 p.2)
        have h2 : (putK k p.1 p.2).length ≤ k.length + 1 := by
          unfold putK
          split
          · rw [List.length_map]; omega
          · rw [List.length_append]; exact Nat.le_refl _
        rw [List.length_cons]
        omega
    exact this more kvs
  refine ⟨.non, upd H d (.dK (mergeK kvs more)), I.write (e := d) (t' := s.toks) (by rw [hd]; trivial) (.inl rfl) (fun b u hb e => (hs'.2 b hb).trans e) ?_ ?_, rfl, q⟩
  · obtain ⟨ob, es, ep, e, _⟩ := hd'
    exact ⟨ob, e⟩
  · exact ⟨by omega, lo1, merged vd vo, KV.merge r2 r1, hd'⟩

/-! ### len(o), o of an own class with slots -/
def rLenSl (C : Addr) (sp : Sp) (E : XK) : List V → Hp → VK → Prop := fun xs H Q => ∃ a dx vs, xs = [V.ref a] ∧ SlX.Slt H a C dx vs ∧ sp [.ref a] H (fun z H' => ∃ i : Int, z = .int i ∧ 0 ≤ i ∧ i < 2 ^ 63 ∧ Q z H') E
theorem call_lenSl {CX : CXT} {C g : Addr} {n : Nat} {sp : Sp} {E : XK} (hs : PySem.W.findIn X.K (.ref C) "__len__" = some (some (.ref g))) (hf : PySem.W.isFn X.K (.ref g) = true) (F : FnR X.prog X.w X.K X.mg X.base CX n g sp) (hr : Room (n + 1) X.A) (hx : Passes CX X E) :
    CallR X (.builtin "len") (rLenSl C sp E) := by
  intro pins s σ H xs us Q I r h
  obtain ⟨a, dx, vs, rfl, hsl, q⟩ := h
  obtain ⟨u, rfl, ru⟩ := r.one
  cases (show u = Value.ref a from ru)
  obtain ⟨sl, od, _, J, _⟩ := SlX.slt_inst I hsl
  obtain ⟨m, hF⟩ := I.fr
  have hr1 : Room n X.A.in1 := Room.in1 hr
  refine PySem.W.len_K hF I.ok.mod.kin J hs hf (wpAny_mono (wpAny_call (SlX.run_at (us := [.ref a]) (ws := [.ref a]) F hr1 I.env0.in1 hx I (.cons rfl .nil) q)) (fun w s' z => ?_) fun _ _ x => x)
  obtain ⟨z', H', I', rz, i, ei, h0, h1, qz⟩ := z
  subst ei
  obtain ⟨t, e⟩ := (show ∃ t, w = Value.int i t from rz)
  subst e
  exact ⟨⟨h0, h1⟩, .int i, H', I'.tok _, ⟨_, rfl⟩, qz⟩
end
end Wk

/-! K4: helpers of the walk: a def by its body, heaps, comprehensions of plain values, dict comprehensions. -/
namespace Wk
open PySem PySem.Spec PyProof.Rows L2
theorem b_isinstance : bootBuiltins "isinstance" = some (.builtin "isinstance") := by decide +kernel
theorem b_int : bootBuiltins "int" = some (.type "int") := by decide +kernel
theorem b_bool : bootBuiltins "bool" = some (.type "bool") := by decide +kernel
theorem b_str : bootBuiltins "str" = some (.type "str") := by decide +kernel
theorem b_all : bootBuiltins "all" = some (.builtin "all") := by decide +kernel
theorem b_len : bootBuiltins "len" = some (.builtin "len") := by decide +kernel
theorem b_sorted : bootBuiltins "sorted" = some (.builtin "sorted") := by decide +kernel
theorem b_list : bootBuiltins "list" = some (.type "list") := by decide +kernel
theorem b_dict : bootBuiltins "dict" = some (.type "dict") := by decide +kernel
theorem b_sum : bootBuiltins "sum" = some (.builtin "sum") := by decide +kernel
theorem b_abs : bootBuiltins "abs" = some (.builtin "abs") := by decide +kernel
/-- a def of the text as it stands behind the top -/
abbrev FnT (K : PySem.W.Frag) (d : He.DefD) (a : Addr) (fd : FuncData) : Prop := FunD K d.name d.qual d.params d.body d.scope (d.dvs K) (d.kws K) a fd
section
variable {P : Program} {w : World} {K : PySem.W.Frag} {mg : Str → Option Value} {base : Heap} {x qual : Str} {params : Arguments} {body : List Stmt} {scope : Scope} {dvs : List V} {kws : List (Str × V)} {f : Addr} {fd : FuncData}
theorem okF {N ps : List Str} {k : Nat} {sp : Sp} (F : FunD K x qual params body scope dvs kws f fd) (S : FnScope N ps scope) (len : ∀ vs H Q E, sp vs H Q E → vs.length = ps.length)
    (hbody : ∀ (cdv : Value) (A : Around) (outer : List Env) (s : Shared) (H : Hp) (vs : List V) (Q : VK) (E : XK), Room k (A.deeper (envOfC qual scope s.heap.objs.size f cdv)) → sp vs H Q E →
      ∃ t, PSs (cxOf CX0 P w K mg base N qual scope f cdv A outer s H E).nox body t ∧ t { nx := fun _ H' => Q .non H', rt := Q } (start N vs) H) : FnOk P w K mg base CX0 (k + 1) f fd ps sp :=
  F.ok S len fun cdv A outer s H vs Q E hr h => by
    obtain ⟨t, ht, q⟩ := hbody cdv A outer s H vs Q E hr h
    exact ⟨t, ht.nox, q⟩
end
/-! ### heaps -/
theorem same_upd {H : Hp} {p : Addr} {o : HO} (h : H p = none) : Same H (upd H p o) := fun b x e => by
  rw [upd_ne (ne_of_none e h)]
  exact e
theorem same_upd2 {H H' : Hp} {p : Addr} {o : HO} (s : Same H H') (h : H p = none) : Same H (upd H' p o) := fun b x e => by
  rw [upd_ne (ne_of_none e h)]
  exact s b x e
theorem Same.none {H H' : Hp} (s : Same H H') {p : Addr} (h : H' p = none) : H p = none := s.free h
/-! ### what is walked, by its items -/
theorem walkStr {l : Sw.Row} : Walk (Its (T l)) (l.map fun c => V.str ⟨#[c]⟩).length (fun _ => True) (YAt (l.map fun c => V.str ⟨#[c]⟩)) := by
  have h := walk_str (z := T l)
  have e : (T l).cps.size = (l.map fun c => V.str ⟨#[c]⟩).length := by simp
  rw [e] at h
  refine h.mono (fun _ _ => trivial) fun i H x H' hi _ y => ⟨y.1, ?_⟩
  obtain ⟨c, hc, rfl⟩ := y.2
  have hc2 : l[i]? = some c := by simpa using hc
  rw [List.getElem?_map, hc2]
  rfl
theorem walkKeys {d : Addr} {o : Obj} {kvs : List (Key × V)} : Walk (Itk d o kvs) (kvs.map fun kv => kV kv.1).length (fun H => H d = some (.frz o (.dK kvs))) (YAt (kvs.map fun kv => kV kv.1)) := by
  have h := walk_keys (d := d) (o := o) (kvs := kvs)
  rw [← List.length_map (as := kvs) (fun kv => kV kv.1)] at h
  refine h.mono (fun _ q => q) fun i H x H' hi _ y => ⟨y.1, ?_⟩
  obtain ⟨k, v, hk, rfl⟩ := y.2
  rw [List.getElem?_map, hk]
  rfl
theorem walkRange {n : Nat} : Walk (Itr 0 n) ((List.range n).map fun (i : Nat) => V.int i).length (fun _ => True) (YAt ((List.range n).map fun (i : Nat) => V.int i)) := by
  have h := walk_range (lo := 0) (n := n)
  have e : ((List.range n).map fun (i : Nat) => V.int i).length = n := by simp
  rw [e]
  refine h.mono (fun _ q => q) fun i H x H' hi _ y => ⟨y.1, ?_⟩
  have y2 : x = .int (0 + (i : Int)) := y.2
  rw [List.getElem?_map, List.getElem?_range hi, y2, Int.zero_add]
  rfl
/-! ### comprehensions -/
section
variable {J : It} {G : Hp → Prop} {xs : List V}
/-- a comprehension whose tests and elements are plain values -/
theorem lc_pure (w : Walk J xs.length G (YAt xs)) {g : TG} {tt : TT} {te : TE} {vs : List Nat} {σ : L2.St} {H1 : Hp} {D : Addr} {Qd : Hp → Prop} (p : V → Bool) (e : V → V) (hD : H1 D = none) (hG : ∀ H, Same H1 H → G H) (hz : xs.length ≤ sizeLine)
    (hs : ∀ x ∈ xs, ∀ H, Same H1 H → ∀ R : L2.St → Hp → Prop, (∀ σ2, wipe σ2 vs = wipe σ vs → (∀ Qb : Bool → Hp → Prop, Qb (p x) H → tt σ2 H Qb) → (p x = true → ∀ Q : VK, Q (e x) H → te σ2 H Q) → R σ2 H) → g x (wipe σ vs) H R)
    (hd : Qd (upd H1 D (.lst ((xs.filter p).map e)))) :
    ∃ W : Nat → Nat → Hp → Prop, (∃ m, W 0 m (upd H1 D (.lst []))) ∧ ∀ i m H, W i m H →
      (J.stop i H ∧ Qd H) ∨ (J.go i H ∧ ∃ Nx : Hp → Prop, (∀ H', Nx H' → ∃ m', m' < m ∧ W (i + 1) m' H') ∧ ∀ x H', J.yld i H x H' → g x (wipe σ vs) H' fun σ2 H2 => wipe σ2 vs = wipe σ vs ∧ tt σ2 H2 fun b H3 =>
        if b = true then te σ2 H3 fun y H4 => ∃ acc, H4 D = some (.lst acc) ∧ acc.length < sizeLine ∧ Nx (upd H4 D (.lst (acc ++ [y]))) else Nx H3) := by
  refine lc_it w (Pv := fun i H => H = upd H1 D (.lst (((xs.take i).filter p).map e))) (by simp) (fun i H _ h => ?_) (fun i x H H' hi h y => ?_) (fun H h => ?_)
  · subst h
    exact hG _ (same_upd hD)
  · obtain ⟨rfl, hx⟩ := y
    subst h
    have hm : x ∈ xs := List.mem_of_getElem? hx
    have ht : xs.take (i + 1) = xs.take i ++ [x] := by rw [List.take_add_one, hx]; rfl
    refine hs x hm _ (same_upd hD) _ fun σ2 hw h1 h2 => ⟨hw, h1 _ ?_⟩
    cases hp : p x with
    | false =>
      refine iteF ?_
      rw [ht, List.filter_append]
      simp [hp]
    | true =>
      refine iteT (h2 hp _ ⟨_, upd_same, ?_, ?_⟩)
      · rw [List.length_map]
        have a1 := List.length_filter_le p (xs.take i)
        have a2 : (xs.take i).length ≤ i := List.length_take_le _ _
        omega
      · rw [upd_upd, ht, List.filter_append]
        simp [hp]
  · subst h
    rw [List.take_length]
    exact hd
/-- .. no test -/
theorem lc_map (w : Walk J xs.length G (YAt xs)) {g : TG} {te : TE} {vs : List Nat} {σ : L2.St} {H1 : Hp} {D : Addr} {Qd : Hp → Prop} (e : V → V) (hD : H1 D = none) (hG : ∀ H, Same H1 H → G H) (hz : xs.length ≤ sizeLine)
    (hs : ∀ x ∈ xs, ∀ H, Same H1 H → ∀ R : L2.St → Hp → Prop, (∀ σ2, wipe σ2 vs = wipe σ vs → (∀ Q : VK, Q (e x) H → te σ2 H Q) → R σ2 H) → g x (wipe σ vs) H R)
    (hd : Qd (upd H1 D (.lst (xs.map e)))) :
    ∃ W : Nat → Nat → Hp → Prop, (∃ m, W 0 m (upd H1 D (.lst []))) ∧ ∀ i m H, W i m H →
      (J.stop i H ∧ Qd H) ∨ (J.go i H ∧ ∃ Nx : Hp → Prop, (∀ H', Nx H' → ∃ m', m' < m ∧ W (i + 1) m' H') ∧ ∀ x H', J.yld i H x H' → g x (wipe σ vs) H' fun σ2 H2 => wipe σ2 vs = wipe σ vs ∧ tYes σ2 H2 fun b H3 =>
        if b = true then te σ2 H3 fun y H4 => ∃ acc, H4 D = some (.lst acc) ∧ acc.length < sizeLine ∧ Nx (upd H4 D (.lst (acc ++ [y]))) else Nx H3) := by
  refine lc_pure w (tt := tYes) (fun _ => true) e hD hG hz (fun x hx H s R h => hs x hx H s R fun σ2 hw h2 => h σ2 hw (fun Qb q => q) fun _ Q q => h2 Q q) ?_
  have e2 : xs.filter (fun _ => true) = xs := List.filter_eq_self.mpr fun _ _ => rfl
  rw [e2]
  exact hd
end
section
variable {J : It} {n : Nat} {G : Hp → Prop} {Y : Nat → Hp → V → Hp → Prop}
/-- a dict comprehension over what is walked -/
theorem dc_it (w : Walk J n G Y) {g : TG} {tt : TT} {tk tv : TE} {vs : List Nat} {σ : L2.St} {H1 : Hp} {D : Addr} {Qd : Hp → Prop} (Pv : Nat → Hp → Prop) (h0 : Pv 0 (upd H1 D (.dK []))) (hG : ∀ i H, i ≤ n → Pv i H → G H)
    (hs : ∀ i x H H', i < n → Pv i H → Y i H x H' → g x (wipe σ vs) H' fun σ2 H2 => wipe σ2 vs = wipe σ vs ∧ tt σ2 H2 fun b H3 =>
      if b = true then tk σ2 H3 fun y H4 => tv σ2 H4 fun z H5 => ∃ kvs k, y = kV k ∧ H5 D = some (.dK kvs) ∧ kvs.length < sizeLine ∧ Pv (i + 1) (upd H5 D (.dK (putK kvs k z))) else Pv (i + 1) H3) (hd : ∀ H, Pv n H → Qd H) :
    ∃ W : Nat → Nat → Hp → Prop, (∃ m, W 0 m (upd H1 D (.dK []))) ∧ ∀ i m H, W i m H →
      (J.stop i H ∧ Qd H) ∨ (J.go i H ∧ ∃ Nx : Hp → Prop, (∀ H', Nx H' → ∃ m', m' < m ∧ W (i + 1) m' H') ∧ ∀ x H', J.yld i H x H' → g x (wipe σ vs) H' fun σ2 H2 => wipe σ2 vs = wipe σ vs ∧ tt σ2 H2 fun b H3 =>
        if b = true then tk σ2 H3 fun y H4 => tv σ2 H4 fun z H5 => ∃ kvs k, y = kV k ∧ H5 D = some (.dK kvs) ∧ kvs.length < sizeLine ∧ Nx (upd H5 D (.dK (putK kvs k z))) else Nx H3) := by
  refine ⟨fun i m H => m = n - i ∧ i ≤ n ∧ Pv i H, ⟨n, by simp, Nat.zero_le _, h0⟩, ?_⟩
  rintro i m H ⟨rfl, hi, p⟩
  have q := hG i H hi p
  by_cases hlt : i < n
  · refine .inr ⟨w.goes i H hlt q, Pv (i + 1), fun H' p' => ⟨n - (i + 1), by omega, rfl, hlt, p'⟩, fun x H' y => hs i x H H' hlt p (w.yields i H x H' hlt q y)⟩
  · have e : i = n := by omega
    subst e
    exact .inl ⟨w.stops H q, hd H p⟩
end
end Wk

/-! K5: comprehensions whose tests and elements may lay new objects; joins. -/
namespace Wk
open PySem PySem.Spec PyProof.Rows L2
section
variable {J : It} {G : Hp → Prop} {xs : List V}
theorem lc_same (w : Walk J xs.length G (YAt xs)) {g : TG} {tt : TT} {te : TE} {vs : List Nat} {σ : L2.St} {H1 : Hp} {D : Addr} {Qd : Hp → Prop} (p : V → Bool) (e : V → V) (hD : H1 D = none) (hG : ∀ H, Same H1 H → G H) (hz : xs.length ≤ sizeLine)
    (hs : ∀ x ∈ xs, ∀ H, Same H1 H → ∀ R : L2.St → Hp → Prop, (∀ σ2, wipe σ2 vs = wipe σ vs → (∀ Qb : Bool → Hp → Prop, (∀ H', Same H H' → Qb (p x) H') → tt σ2 H Qb) → (∀ H', Same H H' → p x = true → ∀ Q : VK, (∀ H2, Same H' H2 → Q (e x) H2) → te σ2 H' Q) → R σ2 H) → g x (wipe σ vs) H R)
    (hd : ∀ H, Same H1 H → H D = some (.lst ((xs.filter p).map e)) → Qd H) :
    ∃ W : Nat → Nat → Hp → Prop, (∃ m, W 0 m (upd H1 D (.lst []))) ∧ ∀ i m H, W i m H →
      (J.stop i H ∧ Qd H) ∨ (J.go i H ∧ ∃ Nx : Hp → Prop, (∀ H', Nx H' → ∃ m', m' < m ∧ W (i + 1) m' H') ∧ ∀ x H', J.yld i H x H' → g x (wipe σ vs) H' fun σ2 H2 => wipe σ2 vs = wipe σ vs ∧ tt σ2 H2 fun b H3 =>
        if b = true then te σ2 H3 fun y H4 => ∃ acc, H4 D = some (.lst acc) ∧ acc.length < sizeLine ∧ Nx (upd H4 D (.lst (acc ++ [y]))) else Nx H3) := by
  refine lc_it w (Pv := fun i H => Same H1 H ∧ H D = some (.lst (((xs.take i).filter p).map e))) ⟨same_upd hD, by rw [upd_same]; simp⟩ (fun i H _ h => hG _ h.1) (fun i x H H' hi h y => ?_) (fun H h => ?_)
  · obtain ⟨rfl, hx⟩ := y
    obtain ⟨s1, hd1⟩ := h
    have hm : x ∈ xs := List.mem_of_getElem? hx
    have ht : xs.take (i + 1) = xs.take i ++ [x] := by rw [List.take_add_one, hx]; rfl
    refine hs x hm _ s1 _ fun σ2 hw h1 h2 => ⟨hw, h1 _ fun H2 s2 => ?_⟩
    cases hp : p x with
    | false =>
      refine iteF ⟨s1.trans s2, ?_⟩
      rw [ht, List.filter_append]
      simp [hp, s2 _ _ hd1]
    | true =>
      refine iteT (h2 H2 s2 hp _ fun H3 s3 => ⟨_, s3 _ _ (s2 _ _ hd1), ?_, ?_, ?_⟩)
      · rw [List.length_map]
        have a1 := List.length_filter_le p (xs.take i)
        have a2 : (xs.take i).length ≤ i := List.length_take_le _ _
        omega
      · intro b o hb
        rw [upd_ne (ne_of_none hb hD)]
        exact s3 _ _ (s2 _ _ (s1 _ _ hb))
      · rw [upd_same, ht, List.filter_append]
        simp [hp]
  · obtain ⟨s1, hd1⟩ := h
    rw [List.take_length] at hd1
    exact hd H s1 hd1
/-- .. no test -/
theorem lc_sameM (w : Walk J xs.length G (YAt xs)) {g : TG} {te : TE} {vs : List Nat} {σ : L2.St} {H1 : Hp} {D : Addr} {Qd : Hp → Prop} (e : V → V) (hD : H1 D = none) (hG : ∀ H, Same H1 H → G H) (hz : xs.length ≤ sizeLine)
    (hs : ∀ x ∈ xs, ∀ H, Same H1 H → ∀ R : L2.St → Hp → Prop, (∀ σ2, wipe σ2 vs = wipe σ vs → (∀ Q : VK, (∀ H2, Same H H2 → Q (e x) H2) → te σ2 H Q) → R σ2 H) → g x (wipe σ vs) H R)
    (hd : ∀ H, Same H1 H → H D = some (.lst (xs.map e)) → Qd H) :
    ∃ W : Nat → Nat → Hp → Prop, (∃ m, W 0 m (upd H1 D (.lst []))) ∧ ∀ i m H, W i m H →
      (J.stop i H ∧ Qd H) ∨ (J.go i H ∧ ∃ Nx : Hp → Prop, (∀ H', Nx H' → ∃ m', m' < m ∧ W (i + 1) m' H') ∧ ∀ x H', J.yld i H x H' → g x (wipe σ vs) H' fun σ2 H2 => wipe σ2 vs = wipe σ vs ∧ tYes σ2 H2 fun b H3 =>
        if b = true then te σ2 H3 fun y H4 => ∃ acc, H4 D = some (.lst acc) ∧ acc.length < sizeLine ∧ Nx (upd H4 D (.lst (acc ++ [y]))) else Nx H3) := by
  refine lc_it w (Pv := fun i H => Same H1 H ∧ H D = some (.lst ((xs.take i).map e))) ⟨same_upd hD, by rw [upd_same]; simp⟩ (fun i H _ h => hG _ h.1) (fun i x H H' hi h y => ?_) (fun H h => ?_)
  · obtain ⟨rfl, hx⟩ := y
    obtain ⟨s1, hd1⟩ := h
    have hm : x ∈ xs := List.mem_of_getElem? hx
    have ht : xs.take (i + 1) = xs.take i ++ [x] := by rw [List.take_add_one, hx]; rfl
    refine hs x hm _ s1 _ fun σ2 hw h2 => ⟨hw, ?_⟩
    unfold tYes
    refine iteT ?_
    refine h2 _ fun H3 s3 => ⟨_, s3 _ _ hd1, ?_, ?_, ?_⟩
    · rw [List.length_map]
      have a2 : (xs.take i).length ≤ i := List.length_take_le _ _
      omega
    · intro b o hb
      rw [upd_ne (ne_of_none hb hD)]
      exact s3 _ _ (s1 _ _ hb)
    · rw [upd_same, ht]
      simp
  · obtain ⟨s1, hd1⟩ := h
    rw [List.take_length] at hd1
    exact hd H s1 hd1
end
theorem join_signs : ∀ l : Sw.Row, Txt.join (T []) (l.map fun c => T [c]) = T l := by
  intro l
  have e : (l.map fun c => T [c]) = (l.map fun c => [c]).map SX.S := by rw [List.map_map]; rfl
  rw [e]
  refine (SX.join_S [] _).trans ?_
  congr 1
  have : ∀ l : Sw.Row, (TL.joinL [] (l.map fun c => [c])) = l := by
    intro l
    induction l with
    | nil => rfl
    | cons a l ih =>
      cases l with
      | nil => rfl
      | cons b l =>
        rw [List.map_cons, List.map_cons]
        rw [List.map_cons] at ih
        show [a] ++ ([] ++ TL.joinL [] ([b] :: List.map (fun c => [c]) l)) = _
        rw [ih]
        rfl
  rw [this l]
theorem T_app (a b : Sw.Row) : (T a : Str) ++ T b = T (a ++ b) := by
  show (⟨a.toArray ++ b.toArray⟩ : Str) = ⟨(a ++ b).toArray⟩
  rw [List.append_toArray]
end Wk

/-! D1: dicts with texts as keys; slices of texts. -/
namespace Wk
open PySem PySem.Spec PyProof.Rows L2
abbrev kT (k : Sw.Row) : Key := Sum.inr (T k)
theorem kT_inj {a b : Sw.Row} (h : kT a = kT b) : a = b := T_inj (Sum.inr.inj h)
/-- a dict's entries: the keys in order, what they hold -/
def dkv (ks : List Sw.Row) (g : Sw.Row → V) : List (Key × V) := ks.map fun k => (kT k, g k)
theorem dkv_len (ks : List Sw.Row) (g : Sw.Row → V) : (dkv ks g).length = ks.length := List.length_map _
theorem dkv_keys (ks : List Sw.Row) (g : Sw.Row → V) : (dkv ks g).map (·.1) = ks.map kT := by simp [dkv]
theorem dkv_kV (ks : List Sw.Row) (g : Sw.Row → V) : (dkv ks g).map (fun kv => kV kv.1) = ks.map vT := by
  unfold dkv
  rw [List.map_map]
  rfl
theorem dkv_congr {ks : List Sw.Row} {g h : Sw.Row → V} (e : ∀ k ∈ ks, g k = h k) : dkv ks g = dkv ks h := List.map_congr_left fun k hk => by rw [e k hk]
theorem valV_dkv (g : Sw.Row → V) (k : Sw.Row) : ∀ ks : List Sw.Row, valV (dkv ks g) (kT k) = if k ∈ ks then some (g k) else none
  | [] => rfl
  | x :: r => by
    by_cases e : x = k
    · subst e
      rw [if_pos List.mem_cons_self]
      exact valV_pos (p := (kT x, g x)) rfl
    · have h : valV (dkv (x :: r) g) (kT k) = valV (dkv r g) (kT k) := valV_neg (p := (kT x, g x)) fun z => e (kT_inj z)
      rw [h, valV_dkv g k r]
      by_cases h2 : k ∈ r
      · rw [if_pos h2, if_pos (List.mem_cons_of_mem _ h2)]
      · rw [if_neg h2, if_neg]
        intro z
        rcases List.mem_cons.mp z with q | q
        · exact e q.symm
        · exact h2 q
theorem valV_in {g : Sw.Row → V} {k : Sw.Row} {ks : List Sw.Row} (h : k ∈ ks) : valV (dkv ks g) (kT k) = some (g k) := by rw [valV_dkv, if_pos h]
theorem valV_out {g : Sw.Row → V} {k : Sw.Row} {ks : List Sw.Row} (h : k ∉ ks) : valV (dkv ks g) (kT k) = none := by rw [valV_dkv, if_neg h]
theorem put_new {g : Sw.Row → V} {k : Sw.Row} {ks : List Sw.Row} (v : V) (h : k ∉ ks) : putK (dkv ks g) (kT k) v = dkv (ks ++ [k]) (fun x => if x = k then v else g x) := by
  rw [putK_new v (valV_out h)]
  unfold dkv
  rw [List.map_append]
  congr 1
  · refine List.map_congr_left fun x hx => ?_
    have : x ≠ k := fun e => h (e ▸ hx)
    show (kT x, g x) = (kT x, if x = k then v else g x)
    rw [if_neg this]
  · simp
theorem put_old {g : Sw.Row → V} {k : Sw.Row} {ks : List Sw.Row} (v : V) (h : k ∈ ks) : putK (dkv ks g) (kT k) v = dkv ks (fun x => if x = k then v else g x) := by
  have e : ((dkv ks g).any fun kv => decide (kv.1 = kT k)) = true := by
    rw [valV_any, valV_in h]
    rfl
  unfold putK
  rw [if_pos e]
  unfold dkv
  rw [List.map_map]
  refine List.map_congr_left fun x hx => ?_
  show (if kT x = kT k then (kT x, v) else (kT x, g x)) = (kT x, if x = k then v else g x)
  by_cases q : x = k
  · rw [q, if_pos rfl, if_pos rfl]
  · rw [if_neg fun z => q (kT_inj z), if_neg q]
theorem merge_new : ∀ {ms ks : List Sw.Row} {g h : Sw.Row → V}, ms.Nodup → (∀ k ∈ ms, k ∉ ks) → mergeK (dkv ks g) (dkv ms h) = dkv (ks ++ ms) (fun x => if x ∈ ms then h x else g x)
  | [], ks, g, h, _, _ => by
    show dkv ks g = _
    rw [List.append_nil]
    exact dkv_congr fun k _ => by rw [if_neg (by simp)]
  | m :: ms, ks, g, h, nd, hd => by
    have nd2 := List.nodup_cons.mp nd
    have e : mergeK (dkv ks g) (dkv (m :: ms) h) = mergeK (putK (dkv ks g) (kT m) (h m)) (dkv ms h) := rfl
    rw [e, put_new _ (hd m List.mem_cons_self), merge_new (ms := ms) nd2.2 (fun k hk => by
      rw [List.mem_append, List.mem_singleton]
      rintro (z | z)
      · exact hd k (List.mem_cons_of_mem _ hk) z
      · exact nd2.1 (z ▸ hk)), List.append_assoc]
    refine dkv_congr fun k _ => ?_
    by_cases h1 : k ∈ ms
    · rw [if_pos h1, if_pos (List.mem_cons_of_mem _ h1)]
    · rw [if_neg h1]
      by_cases h2 : k = m
      · rw [if_pos h2, if_pos (by rw [h2]; exact List.mem_cons_self), h2]
      · rw [if_neg h2, if_neg]
        intro z
        rcases List.mem_cons.mp z with q | q
        · exact h2 q
        · exact h1 q
/-- a dict of lists of texts -/
def DL (H : Hp) (p : Addr) (ks : List Sw.Row) (G : Sw.Row → List Sw.Row) : Prop := ∃ f : Sw.Row → Addr, H p = some (.dK (dkv ks fun k => .ref (f k))) ∧ ∀ k ∈ ks, H (f k) = some (.lst ((G k).map vT))
theorem DL.same {H H' : Hp} {p : Addr} {ks : List Sw.Row} {G : Sw.Row → List Sw.Row} (h : DL H p ks G) (s : Same H H') : DL H' p ks G := by
  obtain ⟨f, h1, h2⟩ := h
  exact ⟨f, s _ _ h1, fun k hk => s _ _ (h2 k hk)⟩
theorem DL.congr {H : Hp} {p : Addr} {ks : List Sw.Row} {G G' : Sw.Row → List Sw.Row} (h : DL H p ks G) (e : ∀ k ∈ ks, G k = G' k) : DL H p ks G' := by
  obtain ⟨f, h1, h2⟩ := h
  exact ⟨f, h1, fun k hk => by rw [← e k hk]; exact h2 k hk⟩
/-! ### slices -/
theorem cut_init {l : Sw.Row} (h : l ≠ []) : cutS (T l) none (some (-1)) = T l.dropLast := by
  rw [C8.cutS_slice, SX.slice_butlast h, List.dropLast_eq_take]
theorem cut_tail (l : Sw.Row) : cutS (T l) (some 1) none = T l.tail := by
  rw [C8.cutS_slice, SX.slice_from (by decide)]
  show T (l.drop 1) = T l.tail
  rw [List.drop_one]
end Wk

/-! L1: the lambda of shapes_of, made, handed on, called. -/
namespace Wk
open PySem PySem.Spec PyProof.Rows L2 LamX
def lamE : Expr := match dd18.body.getLast? with
  | some (.Return (some (.Call _ [_, _, l, _] _ _)) _) => l
  | _ => .Name "" ⟨0, 0, 0, 0⟩
def lamP : Arguments := match lamE with
  | .Lambda p _ _ _ => p
  | _ => dd18.params
def lamB : Expr := match lamE with
  | .Lambda _ b _ _ => b
  | _ => lamE
def lamSc : Scope := match lamE with
  | .Lambda _ _ s _ => s
  | _ => dd18.scope
abbrev nmS : Str := "steps"
abbrev nmA : Str := "at"
def q18 : Str := "shapes_of.<locals>.<lambda>"
abbrev lamObj (c c' : Addr) (pm ctv : Value) : Obj := PySem.W.kla_obj "<lambda>" q18 lamP lamB lamSc [(nmS, c)] pm c' ctv
/-- the lambda at f, its cell at c, its code at c' -/
def LamO (f c c' : Addr) : HO := .ext fun h => ∃ pm ctv : Value, h.get? f = some (lamObj c c' pm ctv)
/-- the cell at c is this object -/
def CellO (c : Addr) (ob : Obj) : HO := .ext fun h => h.get? c = some ob
/-- f gives the object at d, whatever it is asked -/
def GivesD (H : Hp) (f d : Addr) : Prop := ∃ (c c' : Addr) (ob : Obj), H f = some (LamO f c c') ∧ H c = some (CellO c ob) ∧ ob.data = .cell (some (.ref d)) ∧ H c' = some (CodeO c' q18)
theorem GivesD.same {H H' : Hp} {f d : Addr} (g : GivesD H f d) (s : Same H H') : GivesD H' f d := by
  obtain ⟨c, c', ob, h1, h2, h3, h4⟩ := g
  exact ⟨c, c', ob, s _ _ h1, s _ _ h2, h3, s _ _ h4⟩
section
variable {X : Cx} {pins : List (Addr × Obj)} {σ : L2.St} {H : Hp} {s : Shared}
theorem lamO_at {P : Program} {w : World} {h : Heap} {f c c' : Addr} (hok : HOk P w H h) (e : H f = some (LamO f c c')) : ∃ pm ctv : Value, h.get? f = some (lamObj c c' pm ctv) := by
  obtain ⟨z, _, _⟩ := hok f _ e
  exact z
theorem cellO_at {P : Program} {w : World} {h : Heap} {c : Addr} {ob : Obj} (hok : HOk P w H h) (e : H c = some (CellO c ob)) : h.get? c = some ob := by
  obtain ⟨z, _, _⟩ := hok c _ e
  exact z
theorem codeO_at {P : Program} {w : World} {h : Heap} {c : Addr} {q : Str} (hok : HOk P w H h) (e : H c = some (CodeO c q)) : h.CodeRec (.ref c) q := by
  obtain ⟨⟨oc, vs, t, h1, h2, h3⟩, _, _⟩ := hok c _ e
  exact ⟨c, oc, vs, t, rfl, h1, h2, h3⟩
/-! ### a call of it -/
theorem lamSc_kind : lamSc.kind = .function := by decide +kernel
theorem lamSc_co : lamSc.isCoroutine = false := by decide +kernel
theorem lamSc_gen : lamSc.isGenerator = false := by decide +kernel
theorem lamSc_names : lamSc.names = [(nmA, .local), (nmS, .free)] := by decide +kernel
theorem lamB_is : ∃ pos, lamB = .Name nmS pos := ⟨_, rfl⟩
theorem lam_bind (q : Str) (cl : List (Str × Addr)) (pm cv ctv u : Value) : bindArgs (PySem.W.kla_fn "<lambda>" q lamP lamB lamSc cl pm cv ctv) ⟨[u], []⟩ = pure [(nmA, u)] := by rfl
/-- steps_at(e), steps_at a name that holds such a function -/
def tLamVar (i : Nat) (t : TA) : TE := fun σ H Q => ∃ f d, σ[i]? = some (some (.ref f)) ∧ GivesD H f d ∧ t σ H fun vs H1 => ∃ u, vs = [u] ∧ H1 = H ∧ Q (.ref d) H
theorem pe_lamVar {i k : Nat} {x : Str} {p pos : Pos} {e : Expr} {t : TA} (hN : X.N[i]? = some x) (hv : Vis X.env.scope x) (hr : Room k X.A) (ha : PA X [e] t)
    (hd : (x == ("__debug__" : Str)) = false := by decide) (hcd : (x == ("__classdict__" : Str)) = false := by decide)
    (he : starEach [e] X.env = (false, eval e X.env) :: starEach [] X.env := by rfl) (hpl : (backTo pos (starEach [] X.env)).any (·.1) = false := by rfl) : PE X (.Call (.Name x p) [e] [] pos) (tLamVar i t) := by
  refine ⟨fun pins s σ H Q I h => ?_⟩
  obtain ⟨f, d, hs, g, ht⟩ := h
  obtain ⟨c, c', ob, g1, g2, g3, g4⟩ := g
  refine wpAny_Call_Name_kw (thn ((pe_var (pos := p) hN hv hd hcd).run pins s σ H (fun v H1 => v = .ref f ∧ H1 = H) I ⟨.ref f, hs, rfl, rfl⟩) fun u s1 ⟨v, H1, I1, r1, q1⟩ => ?_)
  obtain ⟨ev, eH⟩ := q1
  subst ev
  rw [eH] at I1
  obtain rfl : u = Value.ref f := r1
  obtain ⟨pm, ctv, of1⟩ := lamO_at I1.hok g1
  refine PySem.W.callWith_F (first := []) ⟨_, _, _, _, of1⟩ (thn (ha.run pos pins s1 σ H _ I1 ht) fun us s2 ⟨vs, H2, I2, r, u2, e1, e2, q⟩ => ?_) he hpl
  subst e1 e2
  obtain ⟨u3, eu, ru⟩ := r.one
  subst eu
  obtain ⟨pm2, ctv2, of2⟩ := lamO_at I2.hok g1
  refine ⟨⟨_, _, _, _, of2⟩, ?_⟩
  show wpAny _ _ (call (.ref f) [u3]) _ _ _
  refine wpAny_call ?_
  refine PySem.W.kla_callFunE hr.depth of2 rfl lamSc_co lamSc_gen rfl (codeO_at I2.hok g4) ?_
  rw [lam_bind]
  refine wpAny_pure (wpAny_newFunctionEnv (fun y hy => ?_) (fun y hy => ?_) (fun h₁ hns hsb => ⟨I2.nolimit.fresh _ hsb, ?_⟩) lamSc_kind)
  · have hy : y ∈ lamSc.names := hy
    rw [lamSc_names] at hy
    simp only [List.mem_cons, List.not_mem_nil, or_false] at hy
    rcases hy with z | z <;> rw [z] <;> simp
  · rw [List.mem_singleton.mp hy]
    show lamSc.names.lookup _ = _
    rw [lamSc_names]
    rfl
  · have kp : ∀ b o, s2.heap.get? b = some o → h₁.get? b = some o := fun b o e => hsb.extBut b o (Nat.ne_of_lt (Heap.lt_size e)) (Heap.get?_push_of_some _ e)
    obtain ⟨bp, hb⟩ := lamB_is
    refine PySem.W.kla_codeExpr ?_
    rw [hb]
    refine wpAny_Name (wpAny_loadName_free (c := c) (v := .ref d) lamSc_kind ?_ rfl ⟨ob, kp _ _ (cellO_at I2.hok g2), g3⟩ ?_ (by decide)) (by decide)
    · show lamSc.names.lookup _ = _
      rw [lamSc_names]
      rfl
    · exact ⟨.ref d, _, I2.kept kp, rfl, q⟩
/-! ### its making -/
theorem lam_make3 {T : List (Addr × Str)} {cc P c : Addr} {pos : Pos} {E : Value → Shared → Prop} {Q : Value → Shared → Prop} (I : Inv X pins σ H s) (TB : TabB X.base X.mg cc P) (hcode : X.env.code = .ref cc) (hq : X.env.qual ++ "<lambda>" = q18) (hcl : cloFrom X.env.cells lamSc.names [] = [(nmS, c)])
    (hm : (P, q18) ∈ T) (hu : ∀ p ∈ T, p.1 = P → p.2 = q18) (hT : Tabs T H) (hfree : ∀ y ∈ lamSc.names, y.2 = .free → ∃ c, X.env.cells.lookup y.1 = some c)
    (h : ∀ (f c' : Addr) (H1 : Hp) (s' : Shared), Inv X pins σ H1 s' → ExtN H H1 → (∀ b, H1 b = none → H b = none) → Tabs T H1 → H f = none → H1 f = some (LamO f c c') → H1 c' = some (CodeO c' q18) → Q (.ref f) s') :
    wpAny (model X.prog X.w) X.A (eval (.Lambda lamP lamB lamSc pos) X.env) Q E s := by
  obtain ⟨ps, hP, ht, ha⟩ := hT _ hm
  refine PySem.W.kla_eval (by rfl) ?_
  have bP : s.heap.BuiltinsAt X.mg P := TB.bm.keeps I.bk
  have hP' : s.heap.get? P = some { cls := .none, data := .fields ps } := I.hok P _ hP
  have lay : ∀ {h' : Heap} {f c' : Addr} {H1 : Hp} {t' : Nat} {pm ctv : Value}, Inv X pins σ H1 { s with heap := h', toks := t' } → f = h'.objs.size → Inv X pins σ (upd H1 f (LamO f c c')) { s with heap := h'.push (lamObj c c' pm ctv), toks := t' } := fun {h' f c' H1 t' pm ctv} J ef => by
    have e : (h'.push (lamObj c c' pm ctv)).get? f = some (lamObj c c' pm ctv) := by rw [ef]; exact Heap.get?_push_size _ rfl
    exact J.laid (a := f) (fun b u e => Heap.get?_push_of_some _ e) (by rw [ef]; exact Nat.le_refl _) ⟨⟨_, _, e⟩, ⟨_, e⟩, fun h1 h2 ⟨pm, ctv, z⟩ st => ⟨pm, ctv, st _ z⟩⟩
  cases hc : codeAmong pos ps.toList with
  | none =>
    refine PySem.W.kla_makeFunction (mg := X.mg) (c := cc) (P := P) (ps := ps) (closure_ok hfree) I.ok.glob (I.mod.glob.keeps I.bk) hcode (TB.code.keeps I.bk) hP' ht hc TB.gP bP fun c' ctv h' tk hx hge hlt hrec htb => ?_
    obtain ⟨c2, oc, vs, t, e2, hoc, hd, hv⟩ := hrec
    cases e2
    rw [hq] at hv ⊢
    rw [hcl]
    have nC : H c' = none := I.hok.fresh hge
    have I1 := inv_table (t' := tk) (more := #[rawInt pos.line, rawInt pos.col, .ref c']) (h' := h') I hP (fun b o hb e => hx b o hb e) htb hge ⟨oc, vs, t, hoc, hd, hv⟩
    have hE : ExtN H (upd (upd H P (.tbl (ps ++ #[rawInt pos.line, rawInt pos.col, .ref c']))) c' (CodeO c' q18)) := fun b o e n => by
      rw [upd_ne (ne_of_none e nC), upd_ne (fun z => n ps (Option.some.inj (e.symm.trans (by rw [z]; exact hP))))]
      exact e
    have eL : (ps ++ #[rawInt pos.line, rawInt pos.col, .ref c']).toList = ps.toList ++ [rawInt pos.line, rawInt pos.col, .ref c'] := by simp
    have T1 : Tabs T (upd (upd H P (.tbl (ps ++ #[rawInt pos.line, rawInt pos.col, .ref c']))) c' (CodeO c' q18)) := fun p hp => by
      by_cases hb : p.1 = P
      · rw [hu p hp hb, hb]
        refine ⟨_, by rw [upd_ne (ne_of_none hP nC), upd_same], by rw [eL]; exact PySem.TriplesOk_snoc _ _ _ _ ht, fun p' cv hcv => ?_⟩
        rw [eL] at hcv
        rcases among_app _ ht hcv with z | z
        · obtain ⟨c0, e1, e2⟩ := ha p' cv z
          exact ⟨c0, e1, hE _ _ e2 codeO_ne⟩
        · exact ⟨c', z, upd_same⟩
      · obtain ⟨ps', a1, a2, a3⟩ := hT p hp
        refine ⟨ps', by rw [upd_ne (ne_of_none a1 nC), upd_ne hb]; exact a1, a2, fun p' cv hcv => ?_⟩
        obtain ⟨c0, e1, e2⟩ := a3 p' cv hcv
        exact ⟨c0, e1, hE _ _ e2 codeO_ne⟩
    have nF := I1.hok.fresh (Nat.le_refl _)
    have I2 := lay (f := h'.objs.size) (c' := c') (pm := (X.mg "__name__").getD .none) (ctv := ctv) I1 rfl
    refine h h'.objs.size c' _ _ I2 (fun b o e n => ?_) (fun b e => NdefX.upd_none (NdefX.upd_none (NdefX.upd_none e))) (T1.ext fun b o e => ?_) (I.hok.fresh (Nat.le_trans hge (Nat.le_of_lt hlt))) upd_same ?_
    · have e1 := hE b o e n
      exact (upd_ne (ne_of_none e1 nF)).trans e1
    · exact (upd_ne (ne_of_none e nF)).trans e
    · exact (upd_ne (Nat.ne_of_lt hlt)).trans upd_same
  | some cv =>
    obtain ⟨c', e, hco⟩ := ha pos cv hc
    subst e
    refine PySem.W.kla_makeFunctionHit (mg := X.mg) (c := cc) (P := P) (ps := ps) (closure_ok hfree) I.ok.glob (I.mod.glob.keeps I.bk) hcode (TB.code.keeps I.bk) hP' ht hc bP fun ctv h' tk hx hsz => ?_
    rw [hq, hcl]
    have I1 : Inv X pins σ H { s with heap := h', toks := tk } := I.kept hx
    have nF : H h'.objs.size = none := I1.hok.fresh (Nat.le_refl _)
    have I2 := lay (f := h'.objs.size) (c' := c') (pm := (X.mg "__name__").getD .none) (ctv := ctv) I1 rfl
    refine h h'.objs.size c' _ _ I2 (fun b o e n => ?_) (fun b e => NdefX.upd_none e) (hT.ext fun b o e => ?_) nF upd_same ?_
    · exact (upd_ne (ne_of_none e nF)).trans e
    · exact (upd_ne (ne_of_none e nF)).trans e
    · exact (upd_ne (ne_of_none hco nF)).trans hco
def tLamMk (T : List (Addr × Str)) (c : Addr) : TE := fun σ H Q => Tabs T H ∧ ∀ (f c' : Addr) (H1 : Hp), ExtN H H1 → (∀ b, H1 b = none → H b = none) → Tabs T H1 → H f = none → H1 f = some (LamO f c c') → H1 c' = some (CodeO c' q18) → Q (.ref f) H1
theorem pe_lamMk {T : List (Addr × Str)} {cc P c : Addr} {pos : Pos} (TB : TabB X.base X.mg cc P) (hcode : X.env.code = .ref cc) (hq : X.env.qual ++ "<lambda>" = q18) (hcl : cloFrom X.env.cells lamSc.names [] = [(nmS, c)]) (hm : (P, q18) ∈ T) (hu : ∀ p ∈ T, p.1 = P → p.2 = q18)
    (hfr : X.env.scope.names.lookup nmS = some .cell) : PE X (.Lambda lamP lamB lamSc pos) (tLamMk T c) := by
  refine ⟨fun pins s σ H Q I h => ?_⟩
  obtain ⟨hT, h⟩ := h
  refine lam_make3 I TB hcode hq hcl hm hu hT (fun y hy e => ?_) fun f c' H1 s' I1 eN nn T1 f0 f1 c1 => ⟨.ref f, H1, I1, rfl, h f c' H1 eN nn T1 f0 f1 c1⟩
  rw [lamSc_names] at hy
  simp only [List.mem_cons, List.not_mem_nil, or_false] at hy
  rcases hy with z | z
  · rw [z] at e
    cases e
  · rw [z]
    exact I.ok.has _ (.inl hfr)
/-! ### a call to which the caller's cell is told -/
def hcut (H : Hp) (c : Addr) : Hp := fun b => if b = c then none else H b
theorem hcut_ne {c b : Addr} (h : b ≠ c) : hcut H c b = H b := if_neg h
theorem hcut_same {c : Addr} : hcut H c c = none := if_pos rfl
theorem hok_add {P : Program} {w : World} {h : Heap} {c : Addr} {ob : Obj} (hok : HOk P w H h) (hc : H c = none) (ho : h.get? c = some ob) : HOk P w (upd H c (CellO c ob)) h := by
  intro b o e
  by_cases hb : b = c
  · subst hb
    rw [upd_same] at e
    cases e
    exact ⟨ho, ⟨_, ho⟩, fun h1 h2 z st => st _ z⟩
  · rw [upd_ne hb] at e
    refine (hok b o e).stay (fun _ _ _ q => q) (fun d q => ?_) fun d xs q => ?_
    · rw [upd_ne (ne_of_none q hc)]
      exact q
    · rw [upd_ne (ne_of_none q hc)]
      exact q
theorem ce_cut {outer : List Env} {P : Program} {w : World} {c : Addr} {ob : Obj} {Q : VK} {u : Value} {s' : Shared} (hc : H c = none) (ho : s.heap.get? c = some ob)
    (h : CE outer P w (upd H c (CellO c ob)) s (fun v H' => H' c = some (CellO c ob) ∧ Q v (hcut H' c)) u s') : CE outer P w H s Q u s' := by
  obtain ⟨v, H', os, bare, un, hok, r, hcc, q⟩ := h
  have oc := cellO_at hok hcc
  refine ⟨v, hcut H' c, os, bare, ?_, ?_, r, q⟩
  · refine ⟨fun b o e n h1 h2 => ?_, fun b o e n h1 h2 => ?_, fun b o e n h1 => ?_, un.there, fun b xs e => ?_, fun b o u e => ?_, fun b ps e => ?_⟩
    · by_cases hb : b = c
      · rw [hb] at e ⊢
        rw [ho] at e
        cases e
        exact oc
      · exact un.keep b o e (by rw [upd_ne hb]; exact n) h1 h2
    · by_cases hb : b = c
      · rw [hb] at e ⊢
        rw [ho] at e
        cases e
        exact ⟨ob.slots, oc⟩
      · exact un.slot b o e (by rw [upd_ne hb]; exact n) h1 h2
    · by_cases hb : b = c
      · rw [hb]
        exact hcut_same
      · rw [hcut_ne hb]
        exact un.free b o e (by rw [upd_ne hb]; exact n) h1
    · have hb := ne_of_none e hc
      rw [hcut_ne hb]
      exact un.tups b xs (by rw [upd_ne hb]; exact e)
    · have hb := ne_of_none e hc
      rw [hcut_ne hb]
      exact un.frzs b o u (by rw [upd_ne hb]; exact e)
    · have hb := ne_of_none e hc
      rw [hcut_ne hb]
      exact un.tbls b ps (by rw [upd_ne hb]; exact e)
  · intro b o e
    by_cases hb : b = c
    · rw [hb, hcut_same] at e
      cases e
    · rw [hcut_ne hb] at e
      refine (hok b o e).stay (fun _ _ _ q => q) (fun d q => ?_) fun d xs q => ?_
      · rw [hcut_ne (fun z => by
          rw [z, hcc] at q
          unfold CellO at q
          cases q)]
        exact q
      · rw [hcut_ne (fun z => by
          rw [z, hcc] at q
          unfold CellO at q
          cases q)]
        exact q
def tCallC (sp : Sp) (c i : Nat) (t : TA) : TE := fun σ H Q => t σ H fun vs H1 => ∃ d, σ[i]? = some (some (.ref d)) ∧ ∀ ob : Obj, ob.data = .cell (some (.ref d)) → H1 c = none → sp vs (upd H1 c (CellO c ob)) (fun v H' => H' c = some (CellO c ob) ∧ Q v (hcut H' c)) C8.E0
theorem pe_callC {x y : Str} {p pos : Pos} {e : Expr} {es : List Expr} {t : TA} {sp : Sp} {i j k : Nat} {c : Addr} (cl : C8.Cal X.prog X.w X.K X.mg X.base k x sp []) (hr : Room j X.A) (hk : k ≤ j) (hg : Gl X x) (hN : X.N[i]? = some y) (hy : X.env.scope.names.lookup y = some .cell) (hc : X.env.cells.lookup y = some c) (hfn : X.fn y = true) (hno : c ≠ X.env.locals) (ha : PA X (e :: es) t)
    (hdb : (x == ("__debug__" : Str)) = false := by decide) (he : starEach (e :: es) X.env = (false, eval e X.env) :: starEach es X.env := by rfl) (hpl : (backTo pos (starEach es X.env)).any (·.1) = false := by rfl) :
    PE X (.Call (.Name x p) (e :: es) [] pos) (tCallC sp c i t) := by
  obtain ⟨f, fd, ps, ds, F, hm, kp, b, d⟩ := cl.ex
  cases d
  refine ⟨fun pins s σ H Q I h => ?_⟩
  refine wpAny_Call_Name_kw (ld_glob I hg hm ?_ hdb)
  refine PySem.W.callWith_K (h₀ := X.base) I.ok.mod.kin kp (thn (ha.run pos pins s σ H _ I h) fun us s1 ⟨vs, H1, I1, r, d, hs, q⟩ => ⟨I1.kIn, ?_⟩) he hpl
  have fc : H1 c = none := I1.freeC y c hc
  have hcell : s1.heap.IsCell c (some (.ref d)) := by
    obtain ⟨m, hn, hl⟩ := I1.loc
    obtain ⟨u, ru, l⟩ := hl i y (.ref d) hN hs (.inr (.inl hy))
    obtain rfl : u = Value.ref d := ru
    rcases l with ⟨z, _⟩ | ⟨_, c2, e2, z⟩
    · have z : X.env.scope.names.lookup y = some .local := z
      rw [hy] at z
      cases z
    · rw [hc] at e2
      cases e2
      exact z
  obtain ⟨ob, ho, hd⟩ := hcell
  have q2 := q ob hd fc
  have e0 : Env0 X.prog X.w X.K X.mg X.base X.A X.stack s1 (upd H1 c (CellO c ob)) := by
    have e := I1.env0
    refine ⟨e.frames, e.mod, fun b o hb => ⟨(e.bs b o hb).1, ?_⟩, e.bsz, e.funs, fun b hb => ?_, hok_add e.hok fc ho, e.bare⟩
    · have : b ≠ c := fun z => by
        have h1 := Heap.lt_size hb
        rw [z] at h1
        exact Nat.lt_irrefl _ (Nat.lt_of_lt_of_le h1 (Nat.le_trans I.ok.bsz (I.ok.cab y c hfn hc)))
      rw [upd_ne this]
      exact (e.bs b o hb).2
    · have : b ≠ c := fun z => by
        rcases List.mem_cons.mp (I1.stkSub b hb) with e | hb
        · exact hno (z ▸ e)
        · obtain ⟨_, o, ho, _⟩ := I.ok.funs.mem hb
          have h1 := Heap.lt_size ho
          rw [z] at h1
          exact Nat.lt_irrefl _ (Nat.lt_of_lt_of_le h1 (I.ok.cab y c hfn hc))
      rw [upd_ne this]
      exact e.frf b hb
  have fr := (FnOk.raw F b .nil) X.A X.stack s1 (upd H1 c (CellO c ob)) us vs _ _ (hr.mono hk) e0 r (by show sp (vs ++ []) _ _ _; rw [List.append_nil]; exact q2)
  refine wpAny_call (codeAny_mono fr fun rr s' hq => ?_)
  cases rr with
  | error e => exact (show False from hq).elim
  | ok fl =>
    cases fl with
    | ret u => exact I1.after (ce_cut fc ho hq)
    | next => exact False.elim hq
    | brk => exact False.elim hq
    | cont => exact False.elim hq
end
end Wk

/-! W1: the walks of kinds.py and of a rule's beat. -/
namespace Wk
open PySem PySem.Spec PyProof.Rows L2
abbrev Cl (P : Program) (w : World) (K : PySem.W.Frag) (mg : Str → Option Value) (base : Heap) (k : Nat) (x : Str) (sp : Sp) : Prop := C8.Cal P w K mg base k x sp []
section
variable {P : Program} {w : World} {K : PySem.W.Frag} {mg : Str → Option Value} {base : Heap}
theorem cl_of {d : He.DefD} {a : Addr} {fd : FuncData} {ps : List Str} {k : Nat} {x : Str} {sp : Sp} (F : FnT K d a fd) (hm : mg x = some (.ref a)) (b : Binds K fd ps []) (G : FnOk P w K mg base CX0 k a fd ps sp) : Cl P w K mg base k x sp :=
  ⟨⟨a, fd, ps, [], G, hm, F.kp, b, .nil⟩⟩
/-! ### is_integer, is_number -/
def spIsInt : Sp := fun vs H Q _ => ∃ i : Int, vs = [.int i] ∧ Q (.bl true) H
theorem sc0 : FnScope ["thing"] ["thing"] dd0.scope := ⟨rfl, rfl, rfl, by decide +kernel, rfl, by decide +kernel, by decide +kernel⟩
theorem c_is_integer {a : Addr} {fd : FuncData} (F : FnT K dd0 a fd) (hm : mg "is_integer" = some (.ref a)) (h1 : mg "isinstance" = none) (h2 : mg "int" = none) (h3 : mg "bool" = none) : Cl P w K mg base 1 "is_integer" spIsInt := by
  refine cl_of F hm (ps := ["thing"]) (F.bindsN fun _ _ _ _ _ _ us hl => match us, hl with | [_], _ => rfl) (okF F sc0 (fun vs H Q E h => ?_) fun cdv A outer s H vs Q E hr h => ?_)
  · obtain ⟨i, rfl, _⟩ := h
    rfl
  · obtain ⟨i, rfl, k⟩ := h
    refine ⟨_, pss_one (ps_ret (pe_and (pe_callB call_isi (by rfl) h1 b_isinstance (pa_cons (pv 0) (pa_cons (pe_bltn (v := .ty "int") (by rfl) h2 b_int rfl) pa_nil)))
      (pe_one (pe_not (pe_callB call_isi (by rfl) h1 b_isinstance (pa_cons (pv 0) (pa_cons (pe_bltn (v := .ty "bool") (by rfl) h3 b_bool rfl) pa_nil))))))), ?_⟩
    refine ⟨_, rfl, _, _, _, _, true, rfl, .ty _, .base (.int _), kit_ty (by decide +kernel), true, rfl, iteT ?_⟩
    exact ⟨_, rfl, _, _, _, _, false, rfl, .ty _, .base (.int _), kit_ty (by decide +kernel), false, rfl, k⟩
def spIsNum : Sp := fun vs H Q _ => ∃ i : Int, vs = [.int i] ∧ Q (.bl (decide (1 ≤ i))) H
theorem sc1 : FnScope ["thing"] ["thing"] dd1.scope := ⟨rfl, rfl, rfl, by decide +kernel, rfl, by decide +kernel, by decide +kernel⟩
theorem c_is_number {a : Addr} {fd : FuncData} (F : FnT K dd1 a fd) (hm : mg "is_number" = some (.ref a)) (c : Cl P w K mg base 1 "is_integer" spIsInt) : Cl P w K mg base 2 "is_number" spIsNum := by
  refine cl_of F hm (ps := ["thing"]) (F.bindsN fun _ _ _ _ _ _ us hl => match us, hl with | [_], _ => rfl) (okF F sc1 (fun vs H Q E h => ?_) fun cdv A outer s H vs Q E hr h => ?_)
  · obtain ⟨i, rfl, _⟩ := h
    rfl
  · obtain ⟨i, rfl, k⟩ := h
    refine ⟨_, pss_one (ps_ret (pe_and (C8.pe_c c hr (by decide) (by rfl) (pa_cons (pv 0) pa_nil)) (pe_one (pe_cmp (pc_ge (pv 0) pe_int))))), ?_⟩
    exact ⟨_, rfl, i, rfl, true, rfl, iteT ⟨_, rfl, i, 1, rfl, rfl, k⟩⟩
/-! ### is_row, is_table -/
def spIsRow : Sp := fun vs H Q _ => ∃ l g : Sw.Row, vs = [vT l, vT g] ∧ l.length ≤ sizeLine ∧ ∀ H', Same H H' → Q (.bl (l.all fun c => decide (c ∈ g))) H'
theorem sc2 : FnScope ["thing", "signs", "sign"] ["thing", "signs"] dd2.scope := ⟨rfl, rfl, rfl, by decide +kernel, rfl, by decide +kernel, by decide +kernel⟩
theorem c_is_row {a : Addr} {fd : FuncData} (F : FnT K dd2 a fd) (hm : mg "is_row" = some (.ref a)) (h1 : mg "isinstance" = none) (h2 : mg "str" = none) (h3 : mg "all" = none) : Cl P w K mg base 1 "is_row" spIsRow := by
  refine cl_of F hm (ps := ["thing", "signs"]) (F.bindsN fun _ _ _ _ _ _ us hl => match us, hl with | [_, _], _ => rfl) (okF F sc2 (fun vs H Q E h => ?_) fun cdv A outer s H vs Q E hr h => ?_)
  · obtain ⟨l, g, rfl, _⟩ := h
    rfl
  · obtain ⟨l, g, rfl, hl, k⟩ := h
    refine ⟨_, pss_one (ps_ret (pe_and (pe_callB call_isi (by rfl) h1 b_isinstance (pa_cons (pv 0) (pa_cons (pe_bltn (v := .ty "str") (by rfl) h2 b_str rfl) pa_nil)))
      (pe_one (pe_callB (cr_all rfl) (by rfl) h3 b_all (pa_cons (pe_lc (own := [("sign", 2)]) (g := gName 2) (tt := tYes) rfl sc2.nd (pi_str (pv 0)) (blkOk_by (N := ["thing", "signs", "sign"]) (sc := dd2.scope) (by decide +kernel))
        (fun _ _ _ _ _ => pg_name (i := 2) sc2.nd rfl (Or.inl rfl)) (fun _ _ _ _ _ => pts_nil) (fun _ _ _ _ _ => pe_cmpR op_in_sign (pv 2) (pv 1) (by rfl))) pa_nil))))), ?_⟩
    refine ⟨_, rfl, _, _, _, _, true, rfl, .ty _, .base (.str _), kit_ty (by decide +kernel), true, rfl, iteT ?_⟩
    refine ⟨_, rfl, T l, rfl, fun D hD => lc_map walkStr (fun v => match v with | .str z => .bl (decide (z.cps.toList.getD 0 0 ∈ g)) | _ => .non) hD (fun _ _ => trivial) (by simpa using hl) (fun x hx H1 s1 R hR => hR _ (by rfl) fun Q' q => ?_) ?_⟩
    · obtain ⟨c, hc, rfl⟩ := List.mem_map.mp hx
      refine ⟨_, rfl, _, rfl, c, T g, rfl, rfl, ?_⟩
      rw [T_list]
      exact q
    · refine ⟨D, l.map fun c => decide (c ∈ g), rfl, ?_, ?_⟩
      · refine .inl (.inl ?_)
        rw [upd_same, List.map_map, List.map_map]
        rfl
      · have e : (l.map fun c => decide (c ∈ g)).all id = l.all fun c => decide (c ∈ g) := by
          rw [List.all_map]
          rfl
        rw [e]
        exact k _ (same_upd hD)
def spIsTab : Sp := fun vs H Q _ => ∃ l : Sw.Row, vs = [vT l] ∧ l.length ≤ sizeLine ∧ ∀ H', Same H H' → Q (.bl (l.all (fun c => decide (c ∈ [48, 49])) && decide (l.length = 4))) H'
theorem sc3 : FnScope ["thing"] ["thing"] dd3.scope := ⟨rfl, rfl, rfl, by decide +kernel, rfl, by decide +kernel, by decide +kernel⟩
theorem c_is_table {a : Addr} {fd : FuncData} (F : FnT K dd3 a fd) (hm : mg "is_table" = some (.ref a)) (c : Cl P w K mg base 1 "is_row" spIsRow) (h1 : mg "len" = none) : Cl P w K mg base 2 "is_table" spIsTab := by
  refine cl_of F hm (ps := ["thing"]) (F.bindsN fun _ _ _ _ _ _ us hl => match us, hl with | [_], _ => rfl) (okF F sc3 (fun vs H Q E h => ?_) fun cdv A outer s H vs Q E hr h => ?_)
  · obtain ⟨l, rfl, _⟩ := h
    rfl
  · obtain ⟨l, rfl, hl, k⟩ := h
    refine ⟨_, pss_one (ps_ret (pe_and (C8.pe_c c hr (by decide) (by rfl) (pa_cons (pv 0) (pa_cons pe_str pa_nil))) (pe_one (pe_cmp (pc_eqI (pe_callB call_len_str (by rfl) h1 b_len (pa_cons (pv 0) pa_nil)) pe_int))))), ?_⟩
    refine ⟨_, rfl, l, [48, 49], rfl, hl, fun H' s1 => ⟨_, rfl, ?_⟩⟩
    cases e : l.all fun c => decide (c ∈ [48, 49]) with
    | false =>
      refine iteF ?_
      have := k H' s1
      rw [e] at this
      exact this
    | true =>
      refine iteT ⟨_, rfl, T l, rfl, by rw [T_len]; exact hl, ((T l).length : Int), 4, rfl, rfl, ?_⟩
      have := k H' s1
      rw [e, Bool.true_and] at this
      have e2 : decide (((T l).length : Int) = 4) = decide (l.length = 4) := by
        rw [T_len]
        exact decide_eq_decide.mpr ⟨fun h => by omega, fun h => by omega⟩
      show Q (.bl (decide (((T l).length : Int) = 4))) H'
      rw [e2]
      exact this
/-! ### sign_after, row_after_beat -/
def spSign : Sp := fun vs H Q _ => ∃ (tb : Sw.Row) (r l s t : Nat), vs = [vT tb, vT [Sw.lst r], vT [l], vT [s], vT [t]] ∧ tb.length = 4 ∧ r ≤ 2 ∧ s ∈ Sw.sg r ∧ Q (vT [Sw.sgn tb (Sw.lst r) l s t]) H
theorem sc4 : FnScope ["table", "last", "left", "seat", "right"] ["table", "last", "left", "seat", "right"] dd4.scope := ⟨rfl, rfl, rfl, by decide +kernel, rfl, by decide +kernel, by decide +kernel⟩
theorem atI_T {l : Sw.Row} {i : Nat} {c : Nat} (h : l[i]? = some c) : atI (T l).cps.toList (i : Int) = some c := by
  rw [T_list]
  exact atI_nat h
theorem small4 {n : Nat} (h : n ≤ 1000) : n ≤ sizeLine := Nat.le_of_lt (small1000 h)
theorem c_sign_after {a : Addr} {fd : FuncData} (F : FnT K dd4 a fd) (hm : mg "sign_after" = some (.ref a)) (h1 : mg "int" = none) {tk : Tok} (h2 : mg "SIGNS" = some (.str "0123" tk)) : Cl P w K mg base 1 "sign_after" spSign := by
  refine cl_of F hm (ps := ["table", "last", "left", "seat", "right"]) (F.bindsN fun _ _ _ _ _ _ us hl => match us, hl with | [_, _, _, _, _], _ => rfl) (okF F sc4 (fun vs H Q E h => ?_) fun cdv A outer s H vs Q E hr h => ?_)
  · obtain ⟨_, _, _, _, _, rfl, _⟩ := h
    rfl
  · obtain ⟨tb, r, l, s, t, rfl, htb, hr2, hs, k⟩ := h
    refine ⟨_, pss_cons (ps_if (pt_cmpR op_eq (pv 3) pe_str (nomark _))
        (pss_one (ps_ret (pe_ix ix_str (pv 0) (pe_op op_add (pe_op op_mul pe_int (pe_callTy call_int1 (by rfl) h1 b_int (pa_cons (pe_cmpR op_eq (pv 2) pe_str (nomark _)) pa_nil))) (pe_callTy call_int1 (by rfl) h1 b_int (pa_cons (pe_cmpR op_eq (pv 4) pe_str (nomark _)) pa_nil))) (fun _ _ => rfl)))) pss_nil)
      (pss_one (ps_ret (pe_ifExp (pt_cmpR op_eq (pv 3) (pv 1) (nomark _)) pe_str
        (pe_ix ix_str (pe_glob (v := .str "0123") (by rfl) h2 ⟨_, rfl⟩) (pe_op op_add (pe_callTy call_int_str (by rfl) h1 b_int (pa_cons (pv 3) pa_nil)) pe_int) (fun _ _ => rfl))))), ?_⟩
    have eqs : ∀ a b : Nat, decide ((vT [a] : V) = vT [b]) = decide (a = b) := fun a b => decide_eq_decide.mpr ⟨fun h => by
      have := T_inj (V.str.inj h)
      simpa using this, fun h => by rw [h]⟩
    refine ⟨_, rfl, rfl, _, rfl, ?_⟩
    have e0 : decide ((vT [s] : V) = V.str (Str.ofString "0")) = decide (s = 48) := eqs s 48
    rw [e0]
    refine ite2 (fun h0 => ?_) fun h0 => ?_
    · have h0 : s = 48 := of_decide_eq_true h0
      subst h0
      refine ⟨_, rfl, _, rfl, rfl, .inr ⟨_, rfl, 2, _, rfl, rfl, .inl ⟨by decide, by decide⟩, _, rfl, rfl, .inr ⟨_, rfl, _, _, rfl, rfl, ?_⟩⟩⟩
      have e1 : decide ((vT [l] : V) = V.str (Str.ofString "1")) = decide (l = 49) := eqs l 49
      have e2 : decide ((vT [t] : V) = V.str (Str.ofString "1")) = decide (t = 49) := eqs t 49
      rw [e1, e2]
      have hi : 2 * (if l = 49 then 1 else 0) + (if t = 49 then 1 else 0) < tb.length := by
        rw [htb]
        split <;> split <;> omega
      refine ⟨T tb, _, tb[2 * (if l = 49 then 1 else 0) + (if t = 49 then 1 else 0)], rfl, rfl, by rw [T_len, htb]; exact small4 (by decide), ?_, ?_⟩
      · have e3 : (2 * (if decide (l = 49) = true then (1 : Int) else 0) + (if decide (t = 49) = true then (1 : Int) else 0)) = ((2 * (if l = 49 then 1 else 0) + (if t = 49 then 1 else 0) : Nat) : Int) := by
          by_cases a : l = 49 <;> by_cases b : t = 49 <;> simp [a, b]
        rw [e3]
        exact atI_T (List.getElem?_eq_getElem hi)
      · have e4 : Sw.sgn tb (Sw.lst r) l 48 t = tb[2 * (if l = 49 then 1 else 0) + (if t = 49 then 1 else 0)] := by
          unfold Sw.sgn
          rw [if_pos rfl, List.getD_eq_getElem?_getD, List.getElem?_eq_getElem hi]
          rfl
        rw [e4] at k
        exact k
    · have h0 : ¬ s = 48 := fun z => h0 (decide_eq_true z)
      refine ⟨_, rfl, _, rfl, rfl, _, rfl, ?_⟩
      rw [eqs s (Sw.lst r)]
      have e4 : Sw.sgn tb (Sw.lst r) l s t = if s = Sw.lst r then 48 else s + 1 := by
        unfold Sw.sgn
        rw [if_neg h0]
      rw [e4] at k
      refine ite2 (fun h1 => ?_) fun h1 => ?_
      · rw [if_pos (of_decide_eq_true h1)] at k
        exact k
      · have h1 : ¬ s = Sw.lst r := fun z => h1 (decide_eq_true z)
        rw [if_neg h1] at k
        have hs2 : s = 49 ∨ s = 50 := by
          unfold Sw.lst at h1
          have : r = 0 ∨ r = 1 ∨ r = 2 := by omega
          rcases this with e | e | e <;> subst e <;> simp [Sw.sg] at hs <;> omega
        rcases hs2 with e | e <;> subst e
        · exact ⟨_, rfl, T [49], 1, rfl, by decide +kernel, by decide +kernel, 1, 1, rfl, rfl, T [48, 49, 50, 51], 2, 50, rfl, rfl, by decide +kernel, by decide +kernel, k⟩
        · exact ⟨_, rfl, T [50], 2, rfl, by decide +kernel, by decide +kernel, 2, 1, rfl, rfl, T [48, 49, 50, 51], 3, 51, rfl, rfl, by decide +kernel, by decide +kernel, k⟩
end
end Wk

/-! W2: the walks of rules.py, of all_stands, row_after, good_windows. -/
namespace Wk
open PySem PySem.Spec PyProof.Rows L2
/-- a method of a class with slots -/
structure MetS (P : Program) (w : World) (K : PySem.W.Frag) (mg : Str → Option Value) (base : Heap) (k : Nat) (C : Addr) (m : Str) (sp : Sp) : Prop where
  ex : ∃ g : Addr, Meth K C m g ∧ FnR P w K mg base CX0 k g sp
section
variable {X : Cx} {o e : Expr} {es : List Expr} {m : Str} {pos apos : Pos} {ta : TE} {t : TA} {C : Addr} {j k : Nat} {sp : Sp}
theorem pe_mt {pl : Sem Bool} (he : PE X o ta) (c : SlX.SCls X.K C) (M : MetS X.prog X.w X.K X.mg X.base k C m sp) (hr : Room j X.A) (hk : k ≤ j) (ha : PA X (e :: es) t)
    (hst : starEach (e :: es) X.env = (false, eval e X.env) :: starEach es X.env := by rfl) (hpl : (backTo pos (starEach es X.env)).any (·.1) = false := by rfl)
    (ht : eval (.Call (.Attribute o m apos) (e :: es) [] pos) X.env = (do
      let ov ← eval o X.env
      standAt apos.atName
      let (f, first) ← holding [ov] (getMethod ov m pl)
      callWith pos f first (backTo pos (starEach (e :: es) X.env)) (backToKw pos (keywordEach [] X.env))) := by rfl) : PE X (.Call (.Attribute o m apos) (e :: es) [] pos) (SlX.tMethSl C sp E0 ta t) := by
  obtain ⟨g, hm, F⟩ := M.ex
  exact SlX.pe_methSl (pl := pl) he c hm F (hr.mono hk) pass0 ha hst hpl ht
theorem pe_mt0 {pl : Sem Bool} (he : PE X o ta) (c : SlX.SCls X.K C) (M : MetS X.prog X.w X.K X.mg X.base k C m sp) (hr : Room j X.A) (hk : k ≤ j)
    (ht : eval (.Call (.Attribute o m apos) [] [] pos) X.env = (do
      let ov ← eval o X.env
      standAt apos.atName
      let (f, first) ← holding [ov] (getMethod ov m pl)
      callWith pos f first (backTo pos (starEach [] X.env)) (backToKw pos (keywordEach [] X.env))) := by rfl) : PE X (.Call (.Attribute o m apos) [] [] pos) (SlX.tMethSl C sp E0 ta tNil) := by
  obtain ⟨g, hm, F⟩ := M.ex
  exact SlX.pe_methSl0 (pl := pl) he c hm F (hr.mono hk) pass0 ht
end
theorem raw0 {P : Program} {w : World} {K : PySem.W.Frag} {mg : Str → Option Value} {base : Heap} {k : Nat} {f : Addr} {fd : FuncData} {ps : List Str} {sp : Sp} (F : FnOk P w K mg base CX0 k f fd ps sp) (b : Binds K fd ps []) : FnR P w K mg base CX0 k f sp :=
  (FnOk.raw F b .nil).imp fun vs H Q E h => by rw [List.append_nil]; exact h
section
variable {P : Program} {w : World} {K : PySem.W.Frag} {mg : Str → Option Value} {base : Heap}
/-! ### a row's beat -/
theorem sgn_len (tb : Sw.Row) (r : Nat) (row : Sw.Row) : (Sw.beat tb r row).length = row.length - 2 := Sw.beat_len tb r row
def spBeat : Sp := fun vs H Q _ => ∃ (tb row : Sw.Row) (r : Nat), vs = [vT tb, vT [Sw.lst r], vT row] ∧ tb.length = 4 ∧ r ≤ 2 ∧ row.length ≤ 1000 ∧ (∀ c ∈ row, c ∈ Sw.sg r) ∧ ∀ H', Same H H' → Q (vT (Sw.beat tb (Sw.lst r) row)) H'
theorem sc5 : FnScope ["table", "last", "row", "at"] ["table", "last", "row"] dd5.scope := ⟨rfl, rfl, rfl, by decide +kernel, rfl, by decide +kernel, by decide +kernel⟩
theorem c_row_after_beat {a : Addr} {fd : FuncData} (F : FnT K dd5 a fd) (hm : mg "row_after_beat" = some (.ref a)) (c : Cl P w K mg base 1 "sign_after" spSign) (h1 : mg "len" = none) (h2 : mg "range" = none) : Cl P w K mg base 2 "row_after_beat" spBeat := by
  refine cl_of F hm (ps := ["table", "last", "row"]) (F.bindsN fun _ _ _ _ _ _ us hl => match us, hl with | [_, _, _], _ => rfl) (okF F sc5 (fun vs H Q E h => ?_) fun cdv A outer s H vs Q E hr h => ?_)
  · obtain ⟨_, _, _, rfl, _⟩ := h
    rfl
  · obtain ⟨tb, row, r, rfl, htb, hr2, hl, hs, k⟩ := h
    refine ⟨_, pss_one (ps_ret (pe_join pe_str (pe_lc (own := [("at", 3)]) (g := gName 3) (tt := tYes) rfl sc5.nd
      (pi_range1 (by rfl) h2 (pa_cons (pe_op op_sub (pe_callB call_len_str (by rfl) h1 b_len (pa_cons (pv 2) pa_nil)) pe_int) pa_nil)) (blkOk_by (N := ["table", "last", "row", "at"]) (sc := dd5.scope) (by decide +kernel))
      (fun _ _ _ _ _ => pg_name (i := 3) sc5.nd rfl (Or.inl rfl)) (fun _ _ _ _ _ => pts_nil)
      (fun _ _ _ _ _ => C8.pe_c c hr (by decide) (by rfl) (pa_cons (pv 0) (pa_cons (pv 1) (pa_cons (pe_ix ix_str (pv 2) (pv 3) (fun _ _ => rfl)) (pa_cons (pe_ix ix_str (pv 2) (pe_op op_add (pv 3) pe_int) (fun _ _ => rfl)) (pa_cons (pe_ix ix_str (pv 2) (pe_op op_add (pv 3) pe_int) (fun _ _ => rfl)) pa_nil))))))))), ?_⟩
    have hz : (T row).length ≤ sizeLine := by rw [T_len]; exact small4 hl
    refine ⟨⟨_, rfl⟩, _, rfl, T row, rfl, hz, _, _, rfl, rfl, ((T row).length : Int) - 2, rfl, by rw [T_len]; omega, by rw [T_len]; omega, fun D hD => ?_⟩
    have e0 : (((T row).length : Int) - 2).toNat = row.length - 2 := by rw [T_len]; omega
    rw [e0]
    refine lc_map walkRange (fun v => match v with | .int i => vT [Sw.sgn tb (Sw.lst r) (row.getD i.toNat 0) (row.getD (i.toNat + 1) 0) (row.getD (i.toNat + 2) 0)] | _ => .non) hD (fun _ _ => trivial) (by rw [List.length_map, List.length_range]; exact small4 (by omega)) (fun x hx H1 s1 R hR => hR _ (by rfl) fun Q2 q => ?_) ?_
    · obtain ⟨i, hi, rfl⟩ := List.mem_map.mp hx
      have hi := List.mem_range.mp hi
      have g : ∀ j : Nat, j < row.length → row[j]? = some (row.getD j 0) := fun j hj => by
        rw [List.getD_eq_getElem?_getD, List.getElem?_eq_getElem hj]
        rfl
      refine ⟨_, rfl, _, rfl, _, rfl, _, rfl, T row, (i : Int), row.getD i 0, rfl, rfl, hz, atI_T (g i (by omega)), ?_⟩
      refine ⟨_, rfl, _, rfl, (i : Int), 1, rfl, rfl, T row, ((i + 1 : Nat) : Int), row.getD (i + 1) 0, rfl, rfl, hz, atI_T (g (i + 1) (by omega)), ?_⟩
      refine ⟨_, rfl, _, rfl, (i : Int), 2, rfl, rfl, T row, ((i + 2 : Nat) : Int), row.getD (i + 2) 0, rfl, rfl, hz, atI_T (g (i + 2) (by omega)), ?_⟩
      refine ⟨tb, r, row.getD i 0, row.getD (i + 1) 0, row.getD (i + 2) 0, rfl, htb, hr2, hs _ (List.mem_of_getElem? (g (i + 1) (by omega))), q⟩
    · have e1 : (((List.range (row.length - 2)).map fun (i : Nat) => V.int i).map fun v => match v with | .int i => vT [Sw.sgn tb (Sw.lst r) (row.getD i.toNat 0) (row.getD (i.toNat + 1) 0) (row.getD (i.toNat + 2) 0)] | _ => .non) = ((Sw.beat tb (Sw.lst r) row).map fun c => T [c]).map V.str := by
        rw [List.map_map, List.map_map, Sw.beat, List.map_map]
        rfl
      have k2 := k _ (same_upd (o := .lst (((Sw.beat tb (Sw.lst r) row).map fun c => T [c]).map V.str)) hD)
      rw [e1]
      refine ⟨T [], D, (Sw.beat tb (Sw.lst r) row).map fun c => T [c], rfl, rfl, .inl (.inl (.inl upd_same)), ?_, ?_⟩
      · have e2 : (((Sw.beat tb (Sw.lst r) row).map fun c => T [c]).map (·.length)).sum = (Sw.beat tb (Sw.lst r) row).length := by
          rw [List.map_map]
          have : ∀ l : Sw.Row, (l.map ((fun z : Str => z.length) ∘ fun c => T [c])).sum = l.length := by
            intro l
            induction l with
            | nil => rfl
            | cons a l ih =>
              rw [List.map_cons, List.sum_cons, ih, List.length_cons]
              have : ((fun z : Str => z.length) ∘ fun c => T [c]) a = 1 := rfl
              omega
          exact this _
        rw [e2, Sw.beat_len]
        have : (T []).length = 0 := rfl
        rw [this]
        omega
      · rw [join_signs]
        exact k2
end
end Wk

/-! W3: the walks of the class Rule. -/
namespace Wk
open PySem PySem.Spec PyProof.Rows L2
/-- a table: four signs 0 and 1 -/
def TbOk (tb : Sw.Row) : Prop := tb.length = 4 ∧ ∀ c ∈ tb, c = 48 ∨ c = 49
/-- what the top leaves of the class Rule -/
structure RuleC (K : PySem.W.Frag) (C : Addr) : Prop where
  sc : SlX.SCls K C
  si : SlX.SIsi K C
  sT : ∃ p, SlX.Slot1 K C "its_table" p 1
  sR : ∃ p, SlX.Slot1 K C "its_rests" p 0
def RuleAt (C : Addr) (H : Hp) (p : Addr) (tb : Sw.Row) (r : Nat) : Prop := ∃ dx, H p = some (SlX.SlO p C dx [some (.int r), some (vT tb)]) ∧ H dx = some (.xd [])
theorem RuleAt.same {C : Addr} {H H' : Hp} {p : Addr} {tb : Sw.Row} {r : Nat} (h : RuleAt C H p tb r) (s : Same H H') : RuleAt C H' p tb r := by
  obtain ⟨dx, h1, h2⟩ := h
  exact ⟨dx, s _ _ h1, s _ _ h2⟩
section
variable {P : Program} {w : World} {K : PySem.W.Frag} {mg : Str → Option Value} {base : Heap} {C : Addr}
/-! ### Rule(table, rests) -/
def spRInit (C : Addr) : Sp := fun vs H Q _ => ∃ (p dx : Addr) (tb : Sw.Row) (r : Nat), vs = [.ref p, vT tb, .int r] ∧ TbOk tb ∧ r ≤ 2 ∧ H p = some (.ins C dx []) ∧ H dx = some (.own p) ∧ dx ≠ p ∧
  ∀ H', RuleAt C H' p tb r → (∀ b o, b ≠ p → b ≠ dx → H b = some o → H' b = some o) → Q .non H'
theorem sc28 : FnScope ["self", "table", "rests"] ["self", "table", "rests"] dd28.scope := ⟨rfl, rfl, rfl, by decide +kernel, rfl, by decide +kernel, by decide +kernel⟩
theorem tab_all {tb : Sw.Row} (h : TbOk tb) : (tb.all (fun c => decide (c ∈ [48, 49])) && decide (tb.length = 4)) = true := by
  rw [Bool.and_eq_true, List.all_eq_true]
  refine ⟨fun c hc => decide_eq_true ?_, decide_eq_true h.1⟩
  rcases h.2 c hc with e | e <;> rw [e] <;> simp
theorem c_rinit {a : Addr} {fd : FuncData} (F : FnT K dd28 a fd) (M : Mk K C a) (hm : mg "Rule" = some (.ref C)) (RC : RuleC K C) (c1 : Cl P w K mg base 2 "is_table" spIsTab) (c2 : Cl P w K mg base 1 "is_integer" spIsInt) {tk : Tok} (h1 : mg "MOST_RESTS" = some (.int 2 tk)) :
    C8.Mak P w K mg base 3 "Rule" C (spRInit C) [] := by
  obtain ⟨ds, hds, hb⟩ := F.binds1 (ps := ["self", "table", "rests"]) 3 1 (show ([V.int 1] : List V) ≠ [] by simp) (show 3 + (([V.int 1] : List V).length - 1) = 3 from rfl) (fun T kV doc pm an cdv ct us its hl hi => by
    match us, hl, its, hi with
    | [x, y, z], _, [u], _ => exact ⟨_, rfl, rfl⟩)
  have hds : ds = [] := by
    cases hds
    rfl
  subst hds
  refine ⟨⟨a, fd, ["self", "table", "rests"], [], M, okF F sc28 (fun vs H Q E h => ?_) fun cdv A outer s H vs Q E hr h => ?_, hm, hb, .nil⟩⟩
  · obtain ⟨_, _, _, _, rfl, _⟩ := h
    rfl
  · obtain ⟨p, dx, tb, r, rfl, htb, hr2, hp, hdx, hne, k⟩ := h
    obtain ⟨pT, sT⟩ := RC.sT
    obtain ⟨pR, sR⟩ := RC.sR
    refine ⟨_, pss_cons (ps_if (pt_not (pt_val (C8.pe_c c1 hr (by decide) (by rfl) (pa_cons (pv 1) pa_nil)))) pss_never pss_nil)
      (pss_cons (ps_if (PW.pt (pw_or (pt_not (pt_val (C8.pe_c c2 hr (by decide) (by rfl) (pa_cons (pv 2) pa_nil)))) (pw_or1 (pt_not (pt_chain op_le op_le pe_int (pv 2) (pe_glob (v := .int 2) (by rfl) h1 ⟨_, rfl⟩)))))) pss_never pss_nil)
      (pss_one (ps_asg (pe_tup (pa_cons (pv 1) (pa_cons (pv 2) pa_nil))) (pg_tup rfl (pgs_cons (pg_sl (pv 0)) (pgs_cons (pg_sl (pv 0)) pgs_nil)))))), ?_⟩
    refine ⟨_, rfl, tb, rfl, by rw [htb.1]; exact small4 (by decide), fun H1 s1 => ⟨_, rfl, ?_⟩⟩
    rw [tab_all htb]
    refine iteF ⟨_, rfl, _, rfl, true, rfl, iteF ⟨_, rfl, 0, _, rfl, rfl, _, rfl, ?_⟩⟩
    rw [decide_eq_true (show (0 : Int) ≤ (r : Int) by omega)]
    refine iteT ⟨_, 2, rfl, rfl, _, rfl, ?_⟩
    rw [decide_eq_true (show (r : Int) ≤ 2 by omega)]
    refine iteF ⟨_, rfl, _, rfl, (show 2 ≤ sizeLine by decide), fun t ht => ⟨t, _, rfl, SqT.of upd_same, rfl, _, _, rfl, ?_⟩⟩
    have npt : p ≠ t := ne_of_none (s1 _ _ hp) ht
    have ndt : dx ≠ t := ne_of_none (s1 _ _ hdx) ht
    refine ⟨_, rfl, p, C, dx, pT, [], 1, rfl, .inl ⟨by rw [upd_ne npt]; exact s1 _ _ hp, rfl⟩, RC.sc, sT, _, _, rfl, _, rfl, p, C, dx, pR, _, 0, rfl, SlX.slH_slt hne, RC.sc, sR, rfl, ?_⟩
    rw [SlX.slH_twice hne]
    refine k _ ⟨dx, by unfold SlX.slH; rw [upd_same]; rfl, by unfold SlX.slH; rw [upd_ne hne, upd_same]⟩ fun b o h2 h3 h4 => ?_
    rw [SlX.slH_ne h2 h3, upd_ne (ne_of_none (s1 _ _ h4) ht)]
    exact s1 _ _ h4
/-! ### signs -/
def spSigns (C : Addr) : Sp := fun vs H Q _ => ∃ (p : Addr) (tb : Sw.Row) (r : Nat), vs = [.ref p] ∧ RuleAt C H p tb r ∧ r ≤ 2 ∧ Q (vT (Sw.sg r)) H
theorem scSg : FnScope ["self"] ["self"] ddSigns.scope := ⟨rfl, rfl, rfl, by decide +kernel, rfl, by decide +kernel, by decide +kernel⟩
theorem c_signs {a : Addr} {fd : FuncData} (F : FnT K ddSigns a fd) (RC : RuleC K C) {tk : Tok} (h2 : mg "SIGNS" = some (.str "0123" tk)) : FnR P w K mg base CX0 1 a (spSigns C) := by
  refine raw0 (ps := ["self"]) (okF F scSg (fun vs H Q E h => ?_) fun cdv A outer s H vs Q E hr h => ?_) (F.bindsN fun _ _ _ _ _ _ us hl => match us, hl with | [_], _ => rfl)
  · obtain ⟨_, _, _, rfl, _⟩ := h
    rfl
  · obtain ⟨p, tb, r, rfl, ⟨dx, h3, h4⟩, hr2, k⟩ := h
    obtain ⟨pR, sR⟩ := RC.sR
    refine ⟨_, pss_one (ps_ret (pe_slice sl_str (pe_glob (v := .str "0123") (by rfl) h2 ⟨_, rfl⟩) po_none (po_some (pe_op op_add pe_int (SlX.pe_sl (pv 0)))))), ?_⟩
    refine ⟨_, rfl, p, C, dx, pR, _, 0, .int r, rfl, .inr ⟨h3, h4⟩, RC.sc, sR, rfl, 2, _, rfl, rfl, _, rfl, T [48, 49, 50, 51], rfl, by decide +kernel, ?_⟩
    have e : cutS (T [48, 49, 50, 51]) none (some (2 + (r : Int))) = T (Sw.sg r) := by
      have : r = 0 ∨ r = 1 ∨ r = 2 := by omega
      rcases this with e | e | e <;> subst e <;> decide +kernel
    rw [e]
    exact k
structure SgAt (P : Program) (w : World) (K : PySem.W.Frag) (mg : Str → Option Value) (base : Heap) (C : Addr) : Prop where
  ex : ∃ p g : Addr, PropAt K C "signs" p g ∧ FnR P w K mg base CX0 1 g (spSigns C)
theorem pe_sg {X : Cx} {e : Expr} {pos : Pos} {ta : TE} {j : Nat} (he : PE X e ta) (c : SlX.SCls X.K C) (G : SgAt X.prog X.w X.K X.mg X.base C) (hr : Room j X.A) (hk : 2 ≤ j) (hb : attributeBase e "signs" X.env (eval e X.env) = eval e X.env := by rfl) :
    PE X (.Attribute e "signs" pos) (SlX.tPropSl C (spSigns C) E0 ta) := by
  obtain ⟨p, g, h, F⟩ := G.ex
  exact SlX.pe_propSl he c h.at_ h.get h.tk h.rc F (hr.mono hk) (fun _ _ _ _ z => z) hb
/-! ### inner_after -/
def spInner (C : Addr) : Sp := fun vs H Q _ => ∃ (p : Addr) (tb row : Sw.Row) (r : Nat), vs = [.ref p, vT row] ∧ RuleAt C H p tb r ∧ tb.length = 4 ∧ r ≤ 2 ∧ row.length ≤ 1000 ∧ (∀ c ∈ row, c ∈ Sw.sg r) ∧ ∀ H', Same H H' → Q (vT (Sw.beat tb (Sw.lst r) row)) H'
theorem sc29 : FnScope ["self", "row"] ["self", "row"] dd29.scope := ⟨rfl, rfl, rfl, by decide +kernel, rfl, by decide +kernel, by decide +kernel⟩
theorem c_inner {a : Addr} {fd : FuncData} (F : FnT K dd29 a fd) (Mm : Meth K C "inner_after" a) (RC : RuleC K C) (G : SgAt P w K mg base C) (c : Cl P w K mg base 2 "row_after_beat" spBeat) : MetS P w K mg base 3 C "inner_after" (spInner C) := by
  refine ⟨a, Mm, raw0 (ps := ["self", "row"]) (okF F sc29 (fun vs H Q E h => ?_) fun cdv A outer s H vs Q E hr h => ?_) (F.bindsN fun _ _ _ _ _ _ us hl => match us, hl with | [_, _], _ => rfl)⟩
  · obtain ⟨_, _, _, _, rfl, _⟩ := h
    rfl
  · obtain ⟨p, tb, row, r, rfl, R, h4, hr2, hl, hs, k⟩ := h
    obtain ⟨dx, h1, h2⟩ := id R
    obtain ⟨pT, sT⟩ := RC.sT
    refine ⟨_, pss_one (ps_ret (C8.pe_c c hr (by decide) (by rfl) (pa_cons (SlX.pe_sl (pv 0)) (pa_cons (pe_ix ix_str (pe_sg (pv 0) RC.sc G hr (by decide)) (pe_un un_neg pe_int) (fun _ _ => rfl)) (pa_cons (pv 1) pa_nil))))), ?_⟩
    refine ⟨_, rfl, p, C, dx, pT, _, 1, vT tb, rfl, .inr ⟨h1, h2⟩, RC.sc, sT, rfl, _, rfl, p, dx, _, rfl, .inr ⟨h1, h2⟩, p, tb, r, rfl, R, hr2, 1, rfl, T (Sw.sg r), -1, Sw.lst r, rfl, rfl, ?_, ?_, _, rfl, tb, row, r, rfl, h4, hr2, hl, hs, k⟩
    · have : r = 0 ∨ r = 1 ∨ r = 2 := by omega
      rcases this with e | e | e <;> subst e <;> decide +kernel
    · have : r = 0 ∨ r = 1 ∨ r = 2 := by omega
      rcases this with e | e | e <;> subst e <;> decide +kernel
/-! ### mirrored -/
def spMir (C : Addr) : Sp := fun vs H Q _ => ∃ (p : Addr) (tb : Sw.Row) (r : Nat), vs = [.ref p] ∧ RuleAt C H p tb r ∧ TbOk tb ∧ r ≤ 2 ∧ ∀ (q : Addr) (H' : Hp), Same H H' → RuleAt C H' q (Sw.mtb tb) r → Q (.ref q) H'
theorem mtb_ok {tb : Sw.Row} (h : TbOk tb) : TbOk (Sw.mtb tb) := by
  obtain ⟨h1, h2⟩ := h
  match tb, h1 with
  | [a, b, c, d], _ =>
    refine ⟨rfl, fun x hx => h2 x ?_⟩
    simp only [Sw.mtb, List.mem_cons] at hx ⊢
    rcases hx with e | e | e | e | e
    · exact .inl e
    · exact .inr (.inr (.inl e))
    · exact .inr (.inl e)
    · exact .inr (.inr (.inr (.inl e)))
    · exact .inr (.inr (.inr (.inr e)))
theorem sc30 : FnScope ["self", "table"] ["self"] dd30.scope := ⟨rfl, rfl, rfl, by decide +kernel, rfl, by decide +kernel, by decide +kernel⟩
theorem c_mirrored {a : Addr} {fd : FuncData} (F : FnT K dd30 a fd) (Mm : Meth K C "mirrored" a) (RC : RuleC K C) (c : C8.Mak P w K mg base 3 "Rule" C (spRInit C) []) : MetS P w K mg base 5 C "mirrored" (spMir C) := by
  refine ⟨a, Mm, raw0 (ps := ["self"]) (okF F sc30 (fun vs H Q E h => ?_) fun cdv A outer s H vs Q E hr h => ?_) (F.bindsN fun _ _ _ _ _ _ us hl => match us, hl with | [_], _ => rfl)⟩
  · obtain ⟨_, _, _, rfl, _⟩ := h
    rfl
  · obtain ⟨p, tb, r, rfl, R, htb, hr2, k⟩ := h
    obtain ⟨dx, h1, h2⟩ := id R
    obtain ⟨pT, sT⟩ := RC.sT
    obtain ⟨pR, sR⟩ := RC.sR
    have ix : ∀ i : Nat, i < 4 → atI (T tb).cps.toList (i : Int) = some (tb.getD i 0) := fun i hi => atI_T (by
      rw [List.getD_eq_getElem?_getD, List.getElem?_eq_getElem (by rw [htb.1]; exact hi)]
      rfl)
    have hz : (T tb).length ≤ sizeLine := by rw [T_len, htb.1]; exact small4 (by decide)
    have ha : ∀ a b : Sw.Row, a.length + b.length ≤ 1000 → (T a).length + (T b).length ≤ sizeLine := fun a b h => by rw [T_len, T_len]; exact small4 h
    refine ⟨_, pss_cons (ps_set (i := 1) sc30.nd rfl (Or.inl rfl) (SlX.pe_sl (pv 0)))
      (pss_one (ps_ret (C8.pe_mk c hr (by decide) (by rfl) (pa_cons (pe_op op_add_str (pe_op op_add_str (pe_op op_add_str (pe_ix ix_str (pv 1) pe_int (fun _ _ => rfl)) (pe_ix ix_str (pv 1) pe_int (fun _ _ => rfl))) (pe_ix ix_str (pv 1) pe_int (fun _ _ => rfl))) (pe_ix ix_str (pv 1) pe_int (fun _ _ => rfl)))
        (pa_cons (SlX.pe_sl (pv 0)) pa_nil))))), ?_⟩
    refine ⟨_, rfl, p, C, dx, pT, _, 1, vT tb, rfl, .inr ⟨h1, h2⟩, RC.sc, sT, rfl, ?_⟩
    refine ⟨_, rfl, T tb, ((0 : Nat) : Int), _, rfl, rfl, hz, ix 0 (by decide), _, rfl, T tb, ((2 : Nat) : Int), _, rfl, rfl, hz, ix 2 (by decide), T [tb.getD 0 0], T [tb.getD 2 0], rfl, rfl, ha _ _ (by simp), ?_⟩
    rw [T_app]
    refine ⟨_, rfl, T tb, ((1 : Nat) : Int), _, rfl, rfl, hz, ix 1 (by decide), T [tb.getD 0 0, tb.getD 2 0], T [tb.getD 1 0], rfl, rfl, ha _ _ (by simp), ?_⟩
    rw [T_app]
    refine ⟨_, rfl, T tb, ((3 : Nat) : Int), _, rfl, rfl, hz, ix 3 (by decide), T [tb.getD 0 0, tb.getD 2 0, tb.getD 1 0], T [tb.getD 3 0], rfl, rfl, ha _ _ (by simp), ?_⟩
    rw [T_app]
    refine ⟨_, rfl, p, C, dx, pR, _, 0, .int r, rfl, .inr ⟨h1, h2⟩, RC.sc, sR, rfl, fun x ex nx nex ne => ?_⟩
    refine ⟨x, ex, Sw.mtb tb, r, rfl, mtb_ok htb, hr2, upd_same, by rw [upd_ne ne, upd_same], ne, fun H' R' s' => ⟨rfl, k x H' (fun b o hb => s' b o (ne_of_none hb nx) (ne_of_none hb nex) ?_) R'⟩⟩
    rw [upd_ne (ne_of_none hb nx), upd_ne (ne_of_none hb nex)]
    exact hb
/-! ### == -/
def spREq (C : Addr) : Sp := fun vs H Q _ => ∃ (p q : Addr) (tb tc : Sw.Row) (r t : Nat), vs = [.ref p, .ref q] ∧ RuleAt C H p tb r ∧ RuleAt C H q tc t ∧ Q (.bl (decide (tb = tc) && decide (r = t))) H
theorem sc31 : FnScope ["self", "other"] ["self", "other"] dd31.scope := ⟨rfl, rfl, rfl, by decide +kernel, rfl, by decide +kernel, by decide +kernel⟩
theorem c_req {a : Addr} {fd : FuncData} (F : FnT K dd31 a fd) (hm : mg "Rule" = some (.ref C)) (RC : RuleC K C) (h1 : mg "isinstance" = none) : FnR P w K mg base CX0 1 a (spREq C) := by
  refine raw0 (ps := ["self", "other"]) (okF F sc31 (fun vs H Q E h => ?_) fun cdv A outer s H vs Q E hr h => ?_) (F.bindsN fun _ _ _ _ _ _ us hl => match us, hl with | [_, _], _ => rfl)
  · obtain ⟨_, _, _, _, _, _, rfl, _⟩ := h
    rfl
  · obtain ⟨p, q, tb, tc, r, t, rfl, ⟨dx, a1, a2⟩, ⟨dy, b1, b2⟩, k⟩ := h
    obtain ⟨pT, sT⟩ := RC.sT
    obtain ⟨pR, sR⟩ := RC.sR
    refine ⟨_, pss_one (ps_ret (pe_and (pe_callB (SlX.call_isiSl (.ref C)) (by rfl) h1 b_isinstance (pa_cons (pv 1) (pa_cons (pe_glob (v := .ref C) (by rfl) hm rfl) pa_nil)))
      (pe_and (pe_cmpR op_eq (SlX.pe_sl (pv 0)) (SlX.pe_sl (pv 1)) (nomark _)) (pe_one (pe_cmpR op_eq (SlX.pe_sl (pv 0)) (SlX.pe_sl (pv 1)) (nomark _)))))), ?_⟩
    refine ⟨_, rfl, q, C, dy, _, .ref C, true, rfl, rfl, (fun w h => h), .inr ⟨b1, b2⟩, RC.sc, RC.si, if_pos (by simp), true, rfl, iteT ?_⟩
    refine ⟨_, rfl, p, C, dx, pT, _, 1, vT tb, rfl, .inr ⟨a1, a2⟩, RC.sc, sT, rfl, _, rfl, q, C, dy, pT, _, 1, vT tc, rfl, .inr ⟨b1, b2⟩, RC.sc, sT, rfl, rfl, _, rfl, ?_⟩
    have e1 : decide ((vT tb : V) = vT tc) = decide (tb = tc) := decide_eq_decide.mpr ⟨fun h => T_inj (V.str.inj h), fun h => by rw [h]⟩
    rw [e1]
    refine ite2 (fun h => ?_) fun h => ?_
    · refine ⟨_, rfl, p, C, dx, pR, _, 0, .int r, rfl, .inr ⟨a1, a2⟩, RC.sc, sR, rfl, _, rfl, q, C, dy, pR, _, 0, .int t, rfl, .inr ⟨b1, b2⟩, RC.sc, sR, rfl, rfl, ?_⟩
      have e2 : decide ((V.int (r : Int)) = V.int (t : Int)) = decide (r = t) := decide_eq_decide.mpr ⟨fun h => by
        have := V.int.inj h
        omega, fun h => by rw [h]⟩
      rw [h, Bool.true_and] at k
      rw [e2]
      exact k
    · have h : decide (tb = tc) = false := by simpa using h
      rw [h, Bool.false_and] at k
      exact k
end
end Wk

/-! W4: all_stands, row_after, good_windows. -/
namespace Wk
open PySem PySem.Spec PyProof.Rows L2
/-- two loops, elements plain -/
theorem lc2_pure {J : It} {xs : List V} {G : Hp → Prop} (w : Walk J xs.length G (YAt xs)) {g g1 : TG} {wi1 : TI} {te : TE} {vs vs1 : List Nat} {σ : L2.St} {H1 : Hp} {D : Addr} {Qd : Hp → Prop} (f : V → List V) (hD : H1 D = none) (hG : ∀ H, Same H1 H → G H) (hz : (xs.flatMap f).length ≤ sizeLine)
    (hs : ∀ x ∈ xs, ∀ H, Same H1 H → ∀ R : L2.St → Hp → Prop, (∀ σ2, wipe σ2 vs = wipe σ vs → (∀ M : It → Hp → Prop, (∀ J1 (ys : List V) (e : V → V), ys.map e = f x → Walk J1 ys.length (fun _ => True) (YAt ys) → (∀ y ∈ ys, ∀ H', Same H1 H' → ∀ R' : L2.St → Hp → Prop, (∀ σ3, wipe σ3 vs1 = wipe σ2 vs1 → (∀ Q : VK, Q (e y) H' → te σ3 H' Q) → R' σ3 H') → g1 y (wipe σ2 vs1) H' R') → M J1 H) → wi1 σ2 H M) → R σ2 H) → g x (wipe σ vs) H R)
    (hd : Qd (upd H1 D (.lst (xs.flatMap f)))) :
    ∃ W : Nat → Nat → Hp → Prop, (∃ m, W 0 m (upd H1 D (.lst []))) ∧ ∀ i m H, W i m H →
  (J.stop i H ∧ Qd H) ∨ (J.go i H ∧ ∃ Nx : Hp → Prop, (∀ H', Nx H' → ∃ m', m' < m ∧ W (i + 1) m' H') ∧ ∀ x H', J.yld i H x H' → g x (wipe σ vs) H' fun σ2 H2 => wipe σ2 vs = wipe σ vs ∧ tYes σ2 H2 fun b H3 =>
    if b = true then wi1 σ2 H3 fun J1 H4 => ∃ W1 : Nat → Nat → Hp → Prop, (∃ m, W1 0 m H4) ∧ ∀ j k H, W1 j k H →
      (J1.stop j H ∧ Nx H) ∨ (J1.go j H ∧ ∃ Nx1 : Hp → Prop, (∀ H', Nx1 H' → ∃ k', k' < k ∧ W1 (j + 1) k' H') ∧ ∀ x H', J1.yld j H x H' → g1 x (wipe σ2 vs1) H' fun σ3 H5 => wipe σ3 vs1 = wipe σ2 vs1 ∧ tYes σ3 H5 fun b H6 =>
        if b = true then te σ3 H6 fun y H7 => ∃ acc, H7 D = some (.lst acc) ∧ acc.length < sizeLine ∧ Nx1 (upd H7 D (.lst (acc ++ [y]))) else Nx1 H6)
    else Nx H3) := by
  refine ⟨fun i m H => m = xs.length - i ∧ i ≤ xs.length ∧ H = upd H1 D (.lst ((xs.take i).flatMap f)), ⟨xs.length, by simp, Nat.zero_le _, by simp⟩, ?_⟩
  rintro i m H ⟨rfl, hi, rfl⟩
  have q := hG (upd H1 D (.lst ((xs.take i).flatMap f))) (same_upd hD)
  by_cases hlt : i < xs.length
  · refine .inr ⟨w.goes i _ hlt q, fun H => H = upd H1 D (.lst ((xs.take (i + 1)).flatMap f)), fun H' p' => ⟨xs.length - (i + 1), by omega, rfl, hlt, p'⟩, fun x H' y => ?_⟩
    obtain ⟨rfl, hx⟩ := w.yields i _ x H' hlt q y
    have hm : x ∈ xs := List.mem_of_getElem? hx
    have ht : xs.take (i + 1) = xs.take i ++ [x] := by rw [List.take_add_one, hx]; rfl
    refine hs x hm _ (same_upd hD) _ fun σ2 hw h2 => ⟨hw, ?_⟩
    unfold tYes
    refine iteT (h2 _ fun J1 ys e hf w1 hy => ?_)
    have hl : ((xs.take i).flatMap f).length + ys.length ≤ sizeLine := by
      have e1 : xs.flatMap f = (xs.take (i + 1)).flatMap f ++ (xs.drop (i + 1)).flatMap f := by rw [← List.flatMap_append, List.take_append_drop]
      rw [e1, ht, List.length_append, List.flatMap_append, List.length_append] at hz
      have e2 : ([x].flatMap f) = ys.map e := by rw [hf]; simp
      rw [e2, List.length_map] at hz
      omega
    refine ⟨fun j k H => k = ys.length - j ∧ j ≤ ys.length ∧ H = upd H1 D (.lst ((xs.take i).flatMap f ++ (ys.take j).map e)), ⟨ys.length, by simp, Nat.zero_le _, by simp⟩, ?_⟩
    rintro j k H ⟨rfl, hj, rfl⟩
    by_cases hlj : j < ys.length
    · refine .inr ⟨w1.goes j _ hlj trivial, fun H => H = upd H1 D (.lst ((xs.take i).flatMap f ++ (ys.take (j + 1)).map e)), fun H' p' => ⟨ys.length - (j + 1), by omega, rfl, hlj, p'⟩, fun z H' y => ?_⟩
      obtain ⟨rfl, hz2⟩ := w1.yields j _ z H' hlj trivial y
      have ht2 : ys.take (j + 1) = ys.take j ++ [z] := by rw [List.take_add_one, hz2]; rfl
      refine hy z (List.mem_of_getElem? hz2) _ (same_upd hD) _ fun σ3 hw3 h3 => ⟨hw3, iteT (h3 _ ⟨_, upd_same, ?_, ?_⟩)⟩
      · rw [List.length_append, List.length_map]
        have : (ys.take j).length ≤ j := List.length_take_le _ _
        omega
      · rw [upd_upd, ht2, List.map_append, List.append_assoc]
        rfl
    · have e3 : j = ys.length := by omega
      subst e3
      refine .inl ⟨w1.stops _ trivial, ?_⟩
      rw [List.take_length, ht, List.flatMap_append, hf]
      simp
  · have e : i = xs.length := by omega
    subst e
    refine .inl ⟨w.stops _ q, ?_⟩
    rw [List.take_length]
    exact hd
theorem small4' {n : Nat} (h : n ≤ 10000) : n ≤ sizeLine := Nat.le_trans h (by decide)
section
variable {P : Program} {w : World} {K : PySem.W.Frag} {mg : Str → Option Value} {base : Heap} {C : Addr}
/-! ### all_stands -/
def spAll : Sp := fun vs H Q _ => ∃ (g : Sw.Row) (n : Nat), vs = [vT g, .int n] ∧ 1 ≤ g.length ∧ g.length ^ n ≤ 10000 ∧ n ≤ 1000 ∧ ∀ (p : Addr) (H' : Hp), Same H H' → H' p = some (.lst ((Sw.rows g n).map vT)) → Q (.ref p) H'
theorem sc6 : FnScope ["signs", "size", "found", "turn", "text", "sign"] ["signs", "size"] dd6.scope := ⟨rfl, rfl, rfl, by decide +kernel, rfl, by decide +kernel, by decide +kernel⟩
theorem rows_elem (g : Sw.Row) (n : Nat) : ∀ {t : Sw.Row}, t ∈ Sw.rows g n → t.length = n := fun h => (Sw.mem_rows.mp h).1
theorem rows_step (g : Sw.Row) (i : Nat) : ((Sw.rows g i).map vT).flatMap (fun v => match v with | .str t => g.map fun c => V.str (t ++ T [c]) | _ => []) = (Sw.rows g (i + 1)).map vT := by
  show _ = ((Sw.rows g i).flatMap fun t => g.map fun c => t ++ [c]).map vT
  rw [List.flatMap_map, List.map_flatMap]
  congr 1
  funext t
  rw [List.map_map]
  refine List.map_congr_left fun c _ => ?_
  show V.str (T t ++ T [c]) = vT (t ++ [c])
  rw [T_app]
theorem c_all_stands {a : Addr} {fd : FuncData} (F : FnT K dd6 a fd) (hm : mg "all_stands" = some (.ref a)) (h1 : mg "range" = none) : Cl P w K mg base 1 "all_stands" spAll := by
  refine cl_of F hm (ps := ["signs", "size"]) (F.bindsN fun _ _ _ _ _ _ us hl => match us, hl with | [_, _], _ => rfl) (okF F sc6 (fun vs H Q E h => ?_) fun cdv A outer s H vs Q E hr h => ?_)
  · obtain ⟨_, _, rfl, _⟩ := h
    rfl
  · obtain ⟨g, n, rfl, hg, hgn, hn, k⟩ := h
    refine ⟨_, pss_cons (ps_set (i := 2) sc6.nd rfl (Or.inl rfl) (pe_lst (pa_cons pe_str pa_nil)))
      (pss_cons (ps_for PassesOwn.never rfl (pi_range1 (by rfl) h1 (pa_cons (pv 1) pa_nil)) (pg_name (i := 3) sc6.nd rfl (Or.inl rfl))
        (pss_one (ps_setLc2 (i := 2) (own := [("text", 4), ("sign", 5)]) (vs1 := [5]) (g := gName 4) (tt := tYes) (g1 := gName 5) (tt1 := tYes) (by rfl) sc6.nd rfl rfl (sw_true rfl rfl rfl (by decide +kernel)) (pi_list (pv 2))
          (blkOk_by (N := ["signs", "size", "found", "turn", "text", "sign"]) (sc := dd6.scope) (by decide +kernel)) (by decide)
          (fun _ _ _ _ _ => pg_name (i := 4) sc6.nd rfl (Or.inl rfl)) (fun _ _ _ _ _ => pts_nil) (fun _ _ _ _ _ => pi_str (pv 0)) (fun _ _ _ _ _ => pg_name (i := 5) sc6.nd rfl (Or.inl rfl)) (fun _ _ _ _ _ => pts_nil)
          (fun _ _ _ _ _ => pe_op op_add_str (pv 4) (pv 5)))))
      (pss_one (ps_ret (pv 2)))), ?_⟩
    refine ⟨(show 1 ≤ sizeLine by decide), fun p hp => ?_⟩
    refine ⟨_, rfl, n, rfl, by omega, by omega, ?_⟩
    have en : ((n : Int)).toNat = n := by omega
    rw [en]
    have cnt : ∀ i, i ≤ n → (Sw.rows g i).length ≤ 10000 := fun i hi => by
      rw [Sw.rows_count]
      exact Nat.le_trans (Nat.pow_le_pow_right hg hi) hgn
    refine for_it (walk_range (lo := 0) (n := n)) (fun i σ H2 => ∃ x y z, Same H H2 ∧ (∃ q, σ = [some (vT g), some (.int n), some (.ref q), x, y, z] ∧ H2 q = some (.lst ((Sw.rows g i).map vT)))) ⟨none, none, none, same_upd hp, p, rfl, upd_same⟩ (fun _ _ _ _ _ => trivial) ?_ ?_
    · intro i x σ H2 H3 hi h2 y
      obtain ⟨rfl, _⟩ := y
      obtain ⟨a1, a2, a3, s2, q, rfl, hq⟩ := h2
      refine ⟨_, rfl, q, rfl, ⟨_, SqL.of hq⟩, fun D hD => ?_⟩
      refine lc2_pure (walk_list (K := K) (a := q) (xs := (Sw.rows g i).map vT)) (fun v => match v with | .str t => g.map fun c => .str (t ++ T [c]) | _ => []) hD (fun H4 s4 => SqL.of (s4 _ _ hq)) ?_ (fun x hx H4 s4 R hR => hR _ (by rfl) fun M hM => ?_) ?_
      · rw [rows_step, List.length_map]
        exact small4' (cnt (i + 1) (by omega))
      · obtain ⟨t, ht, rfl⟩ := List.mem_map.mp hx
        refine ⟨_, rfl, T g, rfl, hM _ (g.map fun c => .str ⟨#[c]⟩) (fun v => match v with | .str c => .str (T t ++ c) | _ => .non) ?_ walkStr fun z hz H5 s5 R' hR' => hR' _ (by rfl) fun Q2 q2 => ?_⟩
        · rw [List.map_map]
          rfl
        · obtain ⟨c, hc, rfl⟩ := List.mem_map.mp hz
          refine ⟨_, rfl, _, rfl, T t, T [c], rfl, rfl, ?_, q2⟩
          rw [T_len, T_len, rows_elem g i ht]
          exact small4' (show i + 1 ≤ 10000 by omega)
      · rw [rows_step]
        exact ⟨some x, a2, a3, same_upd2 s2 (s2.free hD), D, rfl, upd_same⟩
    · intro σ H2 h2
      obtain ⟨a1, a2, a3, s2, q, rfl, hq⟩ := h2
      exact ⟨_, rfl, k q H2 s2 hq⟩
/-! ### row_after -/
theorem sgn_sg {tb : Sw.Row} (h : TbOk tb) {r : Nat} (hr : r ≤ 2) {l s t : Nat} (hs : s ∈ Sw.sg r) : Sw.sgn tb (Sw.lst r) l s t ∈ Sw.sg r := by
  have base : ∀ x : Nat, x = 48 ∨ x = 49 → x ∈ Sw.sg r := by
    intro x hx
    have e : r = 0 ∨ r = 1 ∨ r = 2 := by omega
    rcases e with e | e | e <;> subst e <;> rcases hx with e | e <;> subst e <;> decide
  unfold Sw.sgn
  split
  · refine base _ ?_
    have : 2 * (if l = 49 then 1 else 0) + (if t = 49 then 1 else 0) < 4 := by split <;> split <;> omega
    rw [List.getD_eq_getElem?_getD, List.getElem?_eq_getElem (by rw [h.1]; exact this)]
    exact h.2 _ (List.getElem_mem _)
  · split
    · exact base _ (.inl rfl)
    · rename_i h1 h2
      have e : r = 0 ∨ r = 1 ∨ r = 2 := by omega
      rcases e with e | e | e <;> subst e <;> simp [Sw.sg, Sw.lst] at hs h2 ⊢ <;> omega
theorem beat_sg {tb : Sw.Row} (h : TbOk tb) {r : Nat} (hr : r ≤ 2) {row : Sw.Row} (hs : ∀ c ∈ row, c ∈ Sw.sg r) : ∀ c ∈ Sw.beat tb (Sw.lst r) row, c ∈ Sw.sg r := by
  intro c hc
  obtain ⟨i, hi, rfl⟩ := List.mem_map.mp hc
  have hi := List.mem_range.mp hi
  refine sgn_sg h hr (hs _ ?_)
  rw [List.getD_eq_getElem?_getD, List.getElem?_eq_getElem (by omega)]
  exact List.getElem_mem _
theorem after_sg {tb : Sw.Row} (h : TbOk tb) {r : Nat} (hr : r ≤ 2) {row : Sw.Row} (hs : ∀ c ∈ row, c ∈ Sw.sg r) : ∀ n, ∀ c ∈ Sw.after tb (Sw.lst r) row n, c ∈ Sw.sg r
  | 0 => hs
  | n + 1 => beat_sg h hr (after_sg h hr hs n)
def spAfter (C : Addr) : Sp := fun vs H Q _ => ∃ (p : Addr) (tb row : Sw.Row) (r n : Nat), vs = [.ref p, vT row, .int n] ∧ RuleAt C H p tb r ∧ TbOk tb ∧ r ≤ 2 ∧ row.length ≤ 1000 ∧ n ≤ 1000 ∧ (∀ c ∈ row, c ∈ Sw.sg r) ∧ ∀ H', Same H H' → Q (vT (Sw.after tb (Sw.lst r) row n)) H'
theorem sc7 : FnScope ["rule", "row", "many", "turn"] ["rule", "row", "many"] dd7.scope := ⟨rfl, rfl, rfl, by decide +kernel, rfl, by decide +kernel, by decide +kernel⟩
theorem c_row_after {a : Addr} {fd : FuncData} (F : FnT K dd7 a fd) (hm : mg "row_after" = some (.ref a)) (h1 : mg "range" = none) (RC : RuleC K C) (M : MetS P w K mg base 3 C "inner_after" (spInner C)) : Cl P w K mg base 4 "row_after" (spAfter C) := by
  refine cl_of F hm (ps := ["rule", "row", "many"]) (F.bindsN fun _ _ _ _ _ _ us hl => match us, hl with | [_, _, _], _ => rfl) (okF F sc7 (fun vs H Q E h => ?_) fun cdv A outer s H vs Q E hr h => ?_)
  · obtain ⟨_, _, _, _, _, rfl, _⟩ := h
    rfl
  · obtain ⟨p, tb, row, r, n, rfl, R, htb, hr2, hl, hn, hs, k⟩ := h
    refine ⟨_, pss_cons (ps_for PassesOwn.never rfl (pi_range1 (by rfl) h1 (pa_cons (pv 2) pa_nil)) (pg_name (i := 3) sc7.nd rfl (Or.inl rfl))
        (pss_one (ps_set (i := 1) sc7.nd rfl (Or.inl rfl) (pe_mt (pv 0) RC.sc M hr (by decide) (pa_cons (pv 1) pa_nil)))))
      (pss_one (ps_ret (pv 1))), ?_⟩
    refine ⟨_, rfl, n, rfl, by omega, by omega, ?_⟩
    have en : ((n : Int)).toNat = n := by omega
    rw [en]
    refine for_it (walk_range (lo := 0) (n := n)) (fun i σ H2 => ∃ x, Same H H2 ∧ σ = [some (.ref p), some (vT (Sw.after tb (Sw.lst r) row i)), some (.int n), x]) ⟨none, fun _ _ h => h, rfl⟩ (fun _ _ _ _ _ => trivial) ?_ ?_
    · intro i x σ H2 H3 hi h2 y
      obtain ⟨rfl, _⟩ := y
      obtain ⟨a1, s2, rfl⟩ := h2
      obtain ⟨dx, b1, b2⟩ := R.same s2
      refine ⟨_, rfl, p, dx, _, rfl, .inr ⟨b1, b2⟩, _, rfl, p, tb, _, r, rfl, ⟨dx, b1, b2⟩, htb.1, hr2, ?_, after_sg htb hr2 hs i, fun H4 s4 => ⟨some x, s2.trans s4, rfl⟩⟩
      rw [Sw.after_len]
      omega
    · intro σ H2 h2
      obtain ⟨a1, s2, rfl⟩ := h2
      exact ⟨_, rfl, k H2 s2⟩
/-! ### good_windows -/
def spGood (C : Addr) : Sp := fun vs H Q _ => ∃ (p : Addr) (tb : Sw.Row) (r q : Nat) (m : Int), vs = [.ref p, .int m, .int q] ∧ RuleAt C H p tb r ∧ TbOk tb ∧ r ≤ 2 ∧ (r + 2) ^ (2 * q + 1) ≤ 10000 ∧ q ≤ 100 ∧ -(q : Int) ≤ m ∧ m ≤ q ∧ ∀ (d : Addr) (H' : Hp), Same H H' → H' d = some (.lst ((Sw.wins tb r m q).map vT)) → Q (.ref d) H'
theorem sc8 : FnScope ["rule", "p", "q", "rows", "row"] ["rule", "p", "q"] dd8.scope := ⟨rfl, rfl, rfl, by decide +kernel, rfl, by decide +kernel, by decide +kernel⟩
theorem c_good_windows {a : Addr} {fd : FuncData} (F : FnT K dd8 a fd) (hm : mg "good_windows" = some (.ref a)) (RC : RuleC K C) (G : SgAt P w K mg base C) (c1 : Cl P w K mg base 1 "all_stands" spAll) (c2 : Cl P w K mg base 4 "row_after" (spAfter C)) : Cl P w K mg base 5 "good_windows" (spGood C) := by
  refine cl_of F hm (ps := ["rule", "p", "q"]) (F.bindsN fun _ _ _ _ _ _ us hl => match us, hl with | [_, _, _], _ => rfl) (okF F sc8 (fun vs H Q E h => ?_) fun cdv A outer s H vs Q E hr h => ?_)
  · obtain ⟨_, _, _, _, _, rfl, _⟩ := h
    rfl
  · obtain ⟨p, tb, r, q, m, rfl, R, htb, hr2, hz, hq, hm1, hm2, k⟩ := h
    refine ⟨_, pss_cons (ps_set (i := 3) sc8.nd rfl (Or.inl rfl) (C8.pe_c c1 hr (by decide) (by rfl) (pa_cons (pe_sg (pv 0) RC.sc G hr (by decide)) (pa_cons (pe_op op_add (pe_mul pe_int (pv 2)) pe_int) pa_nil))))
      (pss_one (ps_ret (pe_lc (own := [("row", 4)]) (g := gName 4) rfl sc8.nd (pi_list (pv 3)) (blkOk_by (N := ["rule", "p", "q", "rows", "row"]) (sc := dd8.scope) (by decide +kernel))
        (fun _ _ _ _ _ => pg_name (i := 4) sc8.nd rfl (Or.inl rfl)) (fun _ _ _ _ _ => pts_one (pt_cmpR op_eq (C8.pe_c c2 hr (by decide) (by rfl) (pa_cons (pv 0) (pa_cons (pv 4) (pa_cons (pv 2) pa_nil)))) (pe_ix ix_str (pv 4) (pe_sub (pv 2) (pv 1)) (fun _ _ => rfl)) (nomark _)))
        (fun _ _ _ _ _ => pv 4)))), ?_⟩
    obtain ⟨dx, b1, b2⟩ := id R
    have sgl : (Sw.sg r).length = r + 2 := by
      have e : r = 0 ∨ r = 1 ∨ r = 2 := by omega
      rcases e with e | e | e <;> subst e <;> rfl
    refine ⟨_, rfl, p, dx, _, rfl, .inr ⟨b1, b2⟩, p, tb, r, rfl, R, hr2, ?_⟩
    refine ⟨_, rfl, 2, q, rfl, rfl, ⟨by decide, by decide⟩, 2 * (q : Int), 1, rfl, rfl, Sw.sg r, 2 * q + 1, rfl, by rw [sgl]; omega, by rw [sgl]; exact hz, by omega, fun d H1 s1 hd => ?_⟩
    refine ⟨_, rfl, d, rfl, ⟨_, SqL.of hd⟩, fun D hD => ?_⟩
    refine lc_same (walk_list (K := K) (a := d) (xs := (Sw.rows (Sw.sg r) (2 * q + 1)).map vT)) (fun v => match v with | .str t => Sw.good tb r m q t.cps.toList | _ => false) (fun v => v) hD (fun H4 s4 => SqL.of (s4 _ _ hd)) ?_ (fun x hx H4 s4 R1 hR => hR _ (by rfl) (fun Qb hb => ?_) fun H5 s5 _ Q2 q2 => ⟨_, rfl, q2 _ fun _ _ h => h⟩) ?_
    · rw [List.length_map, Sw.rows_count, sgl]
      exact small4' hz
    · obtain ⟨t, ht, rfl⟩ := List.mem_map.mp hx
      obtain ⟨tl, ts⟩ := Sw.mem_rows.mp ht
      refine ⟨_, rfl, _, rfl, _, rfl, p, tb, t, r, q, rfl, R.same (s1.trans s4), htb, hr2, by omega, by omega, ts, fun H5 s5 => ?_⟩
      have hlt : ((q : Int) - m).toNat < t.length := by omega
      have en : ((((q : Int) - m).toNat : Nat) : Int) = (q : Int) - m := by omega
      refine ⟨_, rfl, _, rfl, _, rfl, q, m, rfl, rfl, T t, (q : Int) - m, t.getD ((q : Int) - m).toNat 0, rfl, rfl, by rw [T_len]; exact small4' (by omega), ?_, rfl, ?_⟩
      · have g1 : t[((q : Int) - m).toNat]? = some (t.getD ((q : Int) - m).toNat 0) := by
          rw [List.getD_eq_getElem?_getD, List.getElem?_eq_getElem hlt]
          rfl
        have g2 := atI_T g1
        rw [en] at g2
        exact g2
      · have e : decide (vT (Sw.after tb (Sw.lst r) t q) = vT [t.getD ((q : Int) - m).toNat 0]) = Sw.good tb r m q t := decide_eq_decide.mpr ⟨fun h => T_inj (V.str.inj h), fun h => by rw [h]⟩
        refine ⟨_, rfl, ?_⟩
        show Qb (decide (vT (Sw.after tb (Sw.lst r) t q) = vT [t.getD ((q : Int) - m).toNat 0])) H5
        rw [e]
        have e2 : Sw.good tb r m q t = (match vT t with | .str t => Sw.good tb r m q t.cps.toList | _ => false) := by
          show _ = Sw.good tb r m q (T t).cps.toList
          rw [T_list]
        rw [e2]
        exact hb H5 s5
    · intro H4 s4 h4
      refine k D H4 (s1.trans s4) ?_
      rw [h4, List.map_id', List.filter_map]
      congr 3
end
end Wk

/-! W5: steps_by. -/
namespace Sw
theorem keys_snoc (W : List Row) (w : Row) : keys (W ++ [w]) = if w.dropLast ∈ keys W then keys W else keys W ++ [w.dropLast] := by
  unfold keys
  rw [List.map_append, List.eraseDups_append]
  by_cases h : w.dropLast ∈ (W.map List.dropLast).eraseDups
  · rw [if_pos h]
    have h2 := List.mem_eraseDups.mp h
    have e : ([w].map List.dropLast).removeAll (W.map List.dropLast) = [] := by
      simp only [List.map_cons, List.map_nil, List.removeAll]
      rw [List.filter_cons_of_neg]
      · rfl
      · simpa using h2
    rw [e]
    simp
  · rw [if_neg h]
    have h2 : w.dropLast ∉ W.map List.dropLast := fun q => h (List.mem_eraseDups.mpr q)
    have e : ([w].map List.dropLast).removeAll (W.map List.dropLast) = [w.dropLast] := by
      simp only [List.map_cons, List.map_nil, List.removeAll]
      rw [List.filter_cons_of_pos]
      · rfl
      · simpa using h2
    rw [e]
    rfl
theorem goals_snoc (W : List Row) (w a : Row) : goals (W ++ [w]) a = goals W a ++ (if w.dropLast = a then [w.tail] else []) := by
  unfold goals
  rw [List.filter_append, List.map_append]
  congr 1
  by_cases h : w.dropLast = a
  · rw [if_pos h]
    simp [h]
  · rw [if_neg h]
    simp [h]
theorem goals_none {W : List Row} {a : Row} (h : a ∉ keys W) : goals W a = [] := by
  match e : goals W a with
  | [] => rfl
  | b :: t =>
    have : b ∈ goals W a := by rw [e]; exact List.mem_cons_self
    exact absurd (mem_goals.mp this).key h
theorem goals_len (W : List Row) (a : Row) : (goals W a).length ≤ W.length := by
  unfold goals
  rw [List.length_map]
  exact List.length_filter_le _ _
theorem keys_len2 (W : List Row) : (keys W).length ≤ W.length := by
  have h : ∀ n : Nat, (keys (W.take n)).length ≤ n := by
    intro n
    induction n with
    | zero => simp [keys]
    | succ n ih =>
      rw [List.take_add_one]
      match e : W[n]? with
      | none => simpa using Nat.le_succ_of_le ih
      | some w =>
        show (keys (W.take n ++ [w])).length ≤ n + 1
        rw [keys_snoc]
        split
        · omega
        · rw [List.length_append]
          show _ + 1 ≤ _
          omega
  have := h W.length
  rw [List.take_length] at this
  exact this
end Sw
namespace Wk
open PySem PySem.Spec PyProof.Rows L2
section
variable {P : Program} {w : World} {K : PySem.W.Frag} {mg : Str → Option Value} {base : Heap} {C : Addr}
def spSteps : Sp := fun vs H Q _ => ∃ (p : Addr) (W : List Sw.Row), vs = [.ref p] ∧ H p = some (.lst (W.map vT)) ∧ W.length ≤ 10000 ∧ (∀ x ∈ W, x ≠ [] ∧ x.length ≤ 1000) ∧ ∀ (d : Addr) (H' : Hp), H d = none → Same H H' → DL H' d (Sw.keys W) (Sw.goals W) → Q (.ref d) H'
theorem sc9 : FnScope ["windows", "found", "row"] ["windows"] dd9.scope := ⟨rfl, rfl, rfl, by decide +kernel, rfl, by decide +kernel, by decide +kernel⟩
theorem c_steps_by {a : Addr} {fd : FuncData} (F : FnT K dd9 a fd) (hm : mg "steps_by" = some (.ref a)) : Cl P w K mg base 1 "steps_by" spSteps := by
  refine cl_of F hm (ps := ["windows"]) (F.bindsN fun _ _ _ _ _ _ us hl => match us, hl with | [_], _ => rfl) (okF F sc9 (fun vs H Q E h => ?_) fun cdv A outer s H vs Q E hr h => ?_)
  · obtain ⟨_, _, rfl, _⟩ := h
    rfl
  · obtain ⟨p, W, rfl, hp, hz, hW, k⟩ := h
    refine ⟨_, pss_cons (ps_set (i := 1) sc9.nd rfl (Or.inl rfl) pe_dnewK)
      (pss_cons (ps_for PassesOwn.never rfl (pi_list (pv 0)) (pg_name (i := 2) sc9.nd rfl (Or.inl rfl))
        (pss_one (ps_expr (pe_bm PySem.F.plainAttrs_list PySem.F.slot_list_append PySem.F.type_list_append mt_append (pe_dsetd (pv 1) (pe_slice sl_str (pv 2) po_none (po_some (pe_un un_neg pe_int))) (pe_lst pa_nil) ⟨rfl, rfl, rfl, rfl⟩) (pa_cons (pe_slice sl_str (pv 2) (po_some pe_int) po_none) pa_nil)))))
      (pss_one (ps_ret (pv 1)))), ?_⟩
    intro d hd
    refine ⟨_, rfl, p, rfl, ⟨_, SqL.of (by rw [upd_ne (ne_of_none hp hd)]; exact hp)⟩, ?_⟩
    refine for_it (walk_list (K := K) (a := p) (xs := W.map vT)) (fun i σ H2 => ∃ x f, Same H H2 ∧ σ = [some (.ref p), some (.ref d), x] ∧ H2 d = some (.dK (dkv (Sw.keys (W.take i)) fun k => .ref (f k))) ∧
      (∀ k ∈ Sw.keys (W.take i), H2 (f k) = some (.lst ((Sw.goals (W.take i) k).map vT)) ∧ H (f k) = none ∧ f k ≠ d) ∧ ∀ k ∈ Sw.keys (W.take i), ∀ m ∈ Sw.keys (W.take i), f k = f m → k = m)
      ⟨none, fun _ => d, same_upd hd, rfl, by rw [upd_same]; rfl, fun k hk => by simp [Sw.keys] at hk, fun k hk => by simp [Sw.keys] at hk⟩ (fun i σ H2 _ h2 => by
        obtain ⟨x, f, s2, _⟩ := h2
        exact SqL.of (s2 _ _ hp)) ?_ ?_
    · intro i x σ H2 H3 hi h2 y
      obtain ⟨rfl, hx⟩ := y
      obtain ⟨a1, f, s2, rfl, hd2, hf, inj⟩ := h2
      rw [List.getElem?_map] at hx
      obtain ⟨r, hr1, hr2⟩ := Option.map_eq_some_iff.mp hx
      subst hr2
      have ht : W.take (i + 1) = W.take i ++ [r] := by rw [List.take_add_one, hr1]; rfl
      obtain ⟨rne, rlen⟩ := hW r (List.mem_of_getElem? hr1)
      have rz : (T r).length ≤ sizeLine := by rw [T_len]; exact small4 rlen
      rw [ht, Sw.keys_snoc]
      refine ⟨_, rfl, d, rfl, .inl ⟨_, .inl hd2⟩, _, rfl, 1, rfl, _, rfl, T r, rfl, rz, (show 0 ≤ sizeLine by decide), fun t ht => ?_⟩
      have dt : d ≠ t := ne_of_none hd2 ht
      have kz : (Sw.keys (W.take i)).length ≤ 10000 := Nat.le_trans (Sw.keys_len2 _) (Nat.le_trans (List.length_take_le' _ _) hz)
      refine ⟨_, kT r.dropLast, by rw [upd_ne dt]; exact hd2, ?_, ?_, fun v hv => ?_, fun hv => ?_⟩
      · show V.str (cutS (T r) none (some (-1))) = V.str (T r.dropLast)
        rw [cut_init rne]
      · rw [dkv_len]
        exact Nat.lt_of_le_of_lt kz (by decide)
      · rw [valV_dkv] at hv
        split at hv
        · rename_i hin
          cases hv
          obtain ⟨h3, h4, h5⟩ := hf _ hin
          have ft : f r.dropLast ≠ t := ne_of_none h3 ht
          rw [if_pos hin]
          refine ⟨.inl ⟨rfl, _, SqL.of (by rw [upd_ne ft]; exact h3)⟩, _, rfl, 1, rfl, T r, rfl, rz, _, _, _, rfl, rfl, by rw [upd_ne ft]; exact h3, ?_, some (vT r), f, same_upd2 (same_upd2 s2 (s2.free ht)) h4, rfl, ?_, fun k hk => ?_, inj⟩
          · rw [List.length_map]
            exact Nat.lt_of_le_of_lt (Nat.le_trans (Sw.goals_len _ _) (Nat.le_trans (List.length_take_le' _ _) hz)) (by decide)
          · rw [upd_ne (Ne.symm h5), upd_ne dt]
            exact hd2
          · obtain ⟨g3, g4, g5⟩ := hf k hk
            refine ⟨?_, g4, g5⟩
            rw [Sw.goals_snoc]
            by_cases e : r.dropLast = k
            · subst e
              rw [upd_same, if_pos rfl, List.map_append, cut_tail]
              rfl
            · rw [upd_ne (fun q => e (inj _ hin _ hk q.symm)), upd_ne (ne_of_none g3 ht), if_neg e, List.append_nil]
              exact g3
        · cases hv
      · rw [valV_dkv] at hv
        split at hv
        · cases hv
        · rename_i hin
          rw [if_neg hin]
          obtain ⟨f', e1, e2⟩ : ∃ f' : Sw.Row → Addr, f' r.dropLast = t ∧ ∀ k, k ≠ r.dropLast → f' k = f k := ⟨fun k => if k = r.dropLast then t else f k, if_pos rfl, fun k n => if_neg n⟩
          refine ⟨.inl ⟨rfl, _, SqL.of (by rw [upd_ne (Ne.symm dt)]; exact upd_same)⟩, _, rfl, 1, rfl, T r, rfl, rz, t, [], _, rfl, rfl, by rw [upd_ne (Ne.symm dt)]; exact upd_same, (show 0 < sizeLine by decide), some (vT r), f', ?_, rfl, ?_, fun k hk => ?_, fun k hk m hm e => ?_⟩
          · exact same_upd2 (same_upd2 (same_upd2 s2 (s2.free ht)) hd) (s2.free ht)
          · rw [upd_ne dt, upd_same, put_new _ hin]
            congr 2
            refine dkv_congr fun k _ => ?_
            by_cases q : k = r.dropLast
            · rw [if_pos q, q, e1]
            · rw [if_neg q, e2 k q]
          · rcases List.mem_append.mp hk with hk | hk
            · have ne : k ≠ r.dropLast := fun e => hin (e ▸ hk)
              obtain ⟨g3, g4, g5⟩ := hf k hk
              rw [e2 k ne]
              refine ⟨?_, g4, g5⟩
              rw [upd_ne (ne_of_none g3 ht), upd_ne g5, upd_ne (ne_of_none g3 ht), Sw.goals_snoc, if_neg (Ne.symm ne), List.append_nil]
              exact g3
            · obtain rfl := List.mem_singleton.mp hk
              rw [e1]
              refine ⟨?_, s2.free ht, Ne.symm dt⟩
              rw [upd_same, Sw.goals_snoc, if_pos rfl, Sw.goals_none hin, cut_tail]
              rfl
          · have old : ∀ k ∈ Sw.keys (W.take i), f k ≠ t := fun k hk => ne_of_none (hf k hk).1 ht
            rcases List.mem_append.mp hk with hk | hk <;> rcases List.mem_append.mp hm with hm | hm
            · have n1 : k ≠ r.dropLast := fun e => hin (e ▸ hk)
              have n2 : m ≠ r.dropLast := fun e => hin (e ▸ hm)
              rw [e2 k n1, e2 m n2] at e
              exact inj k hk m hm e
            · obtain rfl := List.mem_singleton.mp hm
              have n1 : k ≠ r.dropLast := fun e => hin (e ▸ hk)
              rw [e2 k n1, e1] at e
              exact absurd e (old k hk)
            · obtain rfl := List.mem_singleton.mp hk
              have n1 : m ≠ r.dropLast := fun e => hin (e ▸ hm)
              rw [e2 m n1, e1] at e
              exact absurd e.symm (old m hm)
            · rw [List.mem_singleton.mp hk, List.mem_singleton.mp hm]
    · intro σ H2 h2
      obtain ⟨a1, f, s2, rfl, hd2, hf, _⟩ := h2
      rw [List.length_map, List.take_length] at hd2 hf
      exact ⟨_, rfl, k d H2 hd s2 ⟨f, hd2, fun k hk => (hf k hk).1⟩⟩
end
end Wk

/-! D2: lists of texts, lists of lists of texts, as data; webs with bounds. -/
namespace Sw
def Tx (t : Row) : Prop := ∀ c ∈ t, c < 100
structure Wb (W : List Row) (n : Nat) : Prop where
  win : Win W n
  len : W.length ≤ 1000
  n9 : n ≤ 900
  tx : ∀ w ∈ W, Tx w
section
variable {W : List Row} {n : Nat} {a b : Row}
theorem Tx.tail (h : Tx a) : Tx a.tail := fun c hc => h c (List.mem_of_mem_tail hc)
theorem Tx.dropLast (h : Tx a) : Tx a.dropLast := fun c hc => h c (List.dropLast_subset _ hc)
theorem Tx.rev (h : Tx a) : Tx a.reverse := fun c hc => h c (List.mem_reverse.mp hc)
theorem Wb.e (h : Wb W n) (e : E W a b) : Tx a ∧ Tx b ∧ a.length = n ∧ b.length = n := by
  obtain ⟨l1, l2⟩ := E.len h.win e
  obtain ⟨w, hw, rfl, rfl⟩ := e
  exact ⟨(h.tx w hw).dropLast, (h.tx w hw).tail, l1, l2⟩
theorem Wb.r (h : Wb W n) (r : R W a b) : Tx a ∧ Tx b ∧ a.length = n ∧ b.length = n := by
  induction r with
  | one e => exact h.e e
  | snoc _ e ih => exact ⟨ih.1, (h.e e).2.1, ih.2.2.1, (h.e e).2.2.2⟩
theorem Wb.key (h : Wb W n) (k : a ∈ keys W) : Tx a ∧ a.length = n := by
  obtain ⟨w, hw, rfl⟩ := mem_keys.mp k
  exact ⟨(h.tx w hw).dropLast, by rw [List.length_dropLast, h.win.len w hw]; rfl⟩
theorem Wb.keys_len (h : Wb W n) : (keys W).length ≤ 1000 := Nat.le_trans (keys_len2 W) h.len
theorem Wb.goals_len (h : Wb W n) : (goals W a).length ≤ 1000 := Nat.le_trans (Sw.goals_len W a) h.len
/-- everything that a step reaches is among these -/
theorem R.inTails (r : R W a b) : b ∈ W.map List.tail := by
  cases r with
  | one e => obtain ⟨w, h1, _, h3⟩ := e; exact List.mem_map.mpr ⟨w, h1, h3⟩
  | snoc _ e => obtain ⟨w, h1, _, h3⟩ := e; exact List.mem_map.mpr ⟨w, h1, h3⟩
end
end Sw
namespace Wk
open PySem PySem.Spec PyProof.Rows L2
def dT (l : Sw.Row) : PyData := .str (T l)
def dL (l : List Sw.Row) : PyData := .list (l.map dT)
def dLL (l : List (List Sw.Row)) : PyData := .list (l.map dL)
theorem strOk_T {l : Sw.Row} (h : Sw.Tx l) : PyData.strOk (T l) = true := by
  show (T l).cps.all (· < 0x110000) = true
  rw [← Array.all_toList, T_list, List.all_eq_true]
  intro c hc
  have := h c hc
  simp
  omega
theorem dT_lay {l : Sw.Row} (h : Sw.Tx l) : (dT l).canLay0 = true := by
  unfold dT PyData.canLay0
  exact strOk_T h
theorem dL_layAll : ∀ {l : List Sw.Row}, (∀ t ∈ l, Sw.Tx t) → PyData.canLayAll0 (l.map dT) = true
  | [], _ => rfl
  | a :: l, h => by
    rw [List.map_cons]
    unfold PyData.canLayAll0
    rw [dT_lay (h a List.mem_cons_self), dL_layAll fun t ht => h t (List.mem_cons_of_mem _ ht)]
    rfl
theorem dL_dep : ∀ l : List Sw.Row, PyData.depthAll (l.map dT) = 0
  | [] => rfl
  | a :: l => by
    rw [List.map_cons]
    unfold PyData.depthAll
    rw [dL_dep l]
    simp [dT, PyData.depth]
theorem dL_shaped {l : List Sw.Row} (h : ∀ t ∈ l, Sw.Tx t) : SeqAt.shaped (dL l) = true := by
  unfold SeqAt.shaped dL
  have e1 : PyData.canLay0 (.list (l.map dT)) = true := by
    unfold PyData.canLay0
    exact dL_layAll h
  have e2 : PyData.depth (.list (l.map dT)) = 1 := by
    unfold PyData.depth
    rw [dL_dep]
  rw [e1, e2]
  rfl
theorem dLL_shaped {l : List (List Sw.Row)} (h : ∀ m ∈ l, ∀ t ∈ m, Sw.Tx t) : SeqAt.shaped (dLL l) = true := by
  unfold SeqAt.shaped dLL
  have e1 : PyData.canLayAll0 (l.map dL) = true := by
    induction l with
    | nil => rfl
    | cons a l ih =>
      rw [List.map_cons]
      unfold PyData.canLayAll0
      have := (Bool.and_eq_true_iff.mp (dL_shaped (h a List.mem_cons_self))).1
      rw [this, ih fun m hm => h m (List.mem_cons_of_mem _ hm)]
      rfl
  have e2 : PyData.depthAll (l.map dL) ≤ 1 := by
    clear h e1
    induction l with
    | nil => exact Nat.zero_le _
    | cons a l ih =>
      rw [List.map_cons]
      unfold PyData.depthAll
      have : PyData.depth (dL a) = 1 := by
        unfold dL PyData.depth
        rw [dL_dep]
      omega
  have e3 : PyData.canLay0 (.list (l.map dL)) = true := by
    unfold PyData.canLay0
    exact e1
  rw [e3, Bool.true_and, decide_eq_true_eq]
  unfold PyData.depth
  omega
theorem dT_eqv (a b : Sw.Row) : PyData.eqv (dT a) (dT b) = decide (a = b) := by
  unfold dT PyData.eqv
  by_cases h : a = b
  · subst h
    simp
  · rw [decide_eq_false h]
    exact beq_eq_false_iff_ne.mpr fun e => h (T_inj e)
theorem dL_eqvAll : ∀ l m : List Sw.Row, PyData.eqvAll (l.map dT) (m.map dT) = decide (l = m)
  | [], [] => rfl
  | [], _ :: _ => rfl
  | _ :: _, [] => rfl
  | a :: l, b :: m => by
    rw [List.map_cons, List.map_cons]
    unfold PyData.eqvAll
    rw [dT_eqv, dL_eqvAll l m]
    simp
theorem dL_eqv (l m : List Sw.Row) : PyData.eqv (dL l) (dL m) = decide (l = m) := by
  unfold dL PyData.eqv
  exact dL_eqvAll l m
theorem dLL_eqvAll : ∀ l m : List (List Sw.Row), PyData.eqvAll (l.map dL) (m.map dL) = decide (l = m)
  | [], [] => rfl
  | [], _ :: _ => rfl
  | _ :: _, [] => rfl
  | a :: l, b :: m => by
    rw [List.map_cons, List.map_cons]
    unfold PyData.eqvAll
    rw [dL_eqv, dLL_eqvAll l m]
    simp
theorem dLL_eqv (l m : List (List Sw.Row)) : PyData.eqv (dLL l) (dLL m) = decide (l = m) := by
  unfold dLL PyData.eqv
  exact dLL_eqvAll l m
section
variable {K : PySem.W.Frag} {H : Hp}
theorem dp_all : ∀ l : List Sw.Row, DpAll K H (l.map vT) (l.map dT)
  | [] => .nil
  | a :: l => .cons (.str _) (dp_all l)
theorem dp_L {a : Addr} {l : List Sw.Row} (h : H a = some (.lst (l.map vT))) : Dp K H (.ref a) (dL l) := .lst (SqL.of h) (dp_all l)
/-- lists of texts at addresses -/
def LL (H : Hp) (as : List Addr) (P : List (List Sw.Row)) : Prop := Paired (fun a l => H a = some (.lst (l.map vT))) as P
theorem dp_allL {as : List Addr} {P : List (List Sw.Row)} (h : LL H as P) : DpAll K H (as.map V.ref) (P.map dL) := by
  induction h with
  | nil => exact .nil
  | cons r _ ih => exact .cons (dp_L r) ih
theorem dp_LL {a : Addr} {as : List Addr} {P : List (List Sw.Row)} (h : H a = some (.lst (as.map V.ref))) (q : LL H as P) : Dp K H (.ref a) (dLL P) := .lst (SqL.of h) (dp_allL q)
theorem LL.same {H' : Hp} {as : List Addr} {P : List (List Sw.Row)} (h : LL H as P) (s : Same H H') : LL H' as P := by
  induction h with
  | nil => exact .nil
  | cons r _ ih => exact .cons (s _ _ r) ih
theorem LL.imp {H' : Hp} : ∀ {as : List Addr} {P : List (List Sw.Row)}, LL H as P → (∀ (q : Addr) (m : List Sw.Row), q ∈ as → H q = some (.lst (m.map vT)) → H' q = some (.lst (m.map vT))) → LL H' as P
  | _, _, .nil, _ => .nil
  | _, _, .cons r t, h => .cons (h _ _ List.mem_cons_self r) (LL.imp t fun q m hq hm => h q m (List.mem_cons_of_mem _ hq) hm)
end
end Wk

/-! W6: nodes_behind. -/
namespace Wk
open PySem PySem.Spec PyProof.Rows L2
section
variable {P : Program} {w : World} {K : PySem.W.Frag} {mg : Str → Option Value} {base : Heap} {C : Addr}
/-- the list of goals that steps.get(node, []) gives -/
def gl (W : List Sw.Row) (k : Sw.Row) : List Sw.Row := Sw.goals W k
def spBehind : Sp := fun vs H Q _ => ∃ (p : Addr) (W : List Sw.Row) (n : Nat) (b : Sw.Row), vs = [.ref p, vT b] ∧ Sw.Wb W n ∧ DL H p (Sw.keys W) (Sw.goals W) ∧
  ∀ (d : Addr) (H' : Hp) (ks : List Sw.Row), H d = none → Same H H' → H' d = some (.dK (dkv ks fun _ => .bl true)) → ks.Nodup → (∀ c, c ∈ ks ↔ Sw.R W b c) → Q (.ref d) H'
theorem sc10 : FnScope ["steps", "start", "found", "waiting", "node"] ["steps", "start"] dd10.scope := ⟨rfl, rfl, rfl, by decide +kernel, rfl, by decide +kernel, by decide +kernel⟩
/-- what steps.get(k, []) gives: a list of the goals, laid or new -/
theorem get_goals {H : Hp} {p : Addr} {W : List Sw.Row} (D : DL H p (Sw.keys W) (Sw.goals W)) (k : Sw.Row) {t : Addr} (ht : H t = none) :
    ∃ o, DGet (upd H t (.lst [])) p (vT k) o ∧ ∃ l, o.getD (.ref t) = .ref l ∧ upd H t (.lst []) l = some (.lst ((Sw.goals W k).map vT)) := by
  obtain ⟨f, h1, h2⟩ := D
  have pt : p ≠ t := ne_of_none h1 ht
  refine ⟨_, DGet.k (k := kT k) (by rw [upd_ne pt]; exact h1), ?_⟩
  rw [valV_dkv]
  by_cases h : k ∈ Sw.keys W
  · rw [if_pos h]
    refine ⟨f k, rfl, ?_⟩
    rw [upd_ne (ne_of_none (h2 k h) ht)]
    exact h2 k h
  · rw [if_neg h]
    refine ⟨t, rfl, ?_⟩
    rw [upd_same, Sw.goals_none h]
    rfl
theorem c_nodes_behind {a : Addr} {fd : FuncData} (F : FnT K dd10 a fd) (hm : mg "nodes_behind" = some (.ref a)) (h1 : mg "list" = none) : Cl P w K mg base 1 "nodes_behind" spBehind := by
  refine cl_of F hm (ps := ["steps", "start"]) (F.bindsN fun _ _ _ _ _ _ us hl => match us, hl with | [_, _], _ => rfl) (okF F sc10 (fun vs H Q E h => ?_) fun cdv A outer s H vs Q E hr h => ?_)
  · obtain ⟨_, _, _, _, rfl, _⟩ := h
    rfl
  · obtain ⟨p, W, n, b, rfl, wb, D, k⟩ := h
    refine ⟨_, pss_cons (ps_par (i := 2) (j := 3) (by rfl) sc10.nd rfl rfl (by decide) rfl rfl (pa_cons pe_dnewK (pa_cons (pe_callTy call_list_of (by rfl) h1 b_list (pa_cons (pe_dget2 (hu_of hr) (pv 0) (pv 1) (pe_lst pa_nil) ⟨rfl, rfl, rfl, rfl⟩) pa_nil)) pa_nil)) (by rfl))
      (pss_cons (ps_while PassesOwn.never (pt_cmpR (op_neD hr.units) (pv 3) (pe_lst pa_nil) (nomark _))
        (pss_cons (ps_set (i := 4) sc10.nd rfl (Or.inl rfl) (pe_bm0 PySem.F.plainAttrs_list PySem.F.slot_list_pop PySem.F.type_list_pop mt_pop (pv 3)))
        (pss_one (ps_if (pt_cmp (pc_dnotin (hu_of hr) (pv 4) (pv 2)))
          (pss_cons (ps_dput (hu_of hr) (pv 2) (pv 4) pe_bl rfl)
          (pss_one (ps_expr (pe_bm PySem.F.plainAttrs_list PySem.F.slot_list_extend PySem.F.type_list_extend mt_extend (pv 3) (pa_cons (pe_dget2 (hu_of hr) (pv 0) (pv 4) (pe_lst pa_nil) ⟨rfl, rfl, rfl, rfl⟩) pa_nil)))))
          pss_nil))))
      (pss_one (ps_ret (pv 2)))), ?_⟩
    intro d hd
    have D1 : DL (upd H d (.dK [])) p (Sw.keys W) (Sw.goals W) := D.same (same_upd hd)
    have isd : ∀ {H2 : Hp}, DL H2 p (Sw.keys W) (Sw.goals W) → IsD H2 p := fun ⟨f, h, _⟩ => .inl ⟨_, .inl h⟩
    refine ⟨_, rfl, p, rfl, isd D1, _, rfl, (show 0 ≤ sizeLine by decide), fun t ht => ?_⟩
    obtain ⟨o, g1, l0, e0, g2⟩ := get_goals D1 b ht
    refine ⟨o, g1, l0, _, by rw [e0], .inl (SqL.of g2), fun l hl => ?_⟩
    have dt : d ≠ t := ne_of_none upd_same ht
    have dl : d ≠ l := ne_of_none (by rw [upd_ne dt]; exact upd_same) hl
    have Hl : H l = none := (same_upd2 (same_upd hd) ((same_upd hd).free ht)).free hl
    refine ⟨_, _, rfl, ?_⟩
    refine ⟨fun m σ H2 => ∃ x ks wt, m = (1000 - ks.length) * 1001 + wt.length ∧ Same H H2 ∧ σ = [some (.ref p), some (vT b), some (.ref d), some (.ref l), x] ∧ H2 d = some (.dK (dkv ks fun _ => .bl true)) ∧ H2 l = some (.lst (wt.map vT)) ∧
      ks.Nodup ∧ wt.length ≤ (ks.length + 1) * 1000 ∧ (∀ c ∈ ks, Sw.R W b c) ∧ (∀ c ∈ wt, Sw.R W b c) ∧ (∀ c, Sw.E W b c → c ∈ ks ∨ c ∈ wt) ∧ ∀ c ∈ ks, ∀ e, Sw.E W c e → e ∈ ks ∨ e ∈ wt,
      ⟨_, none, [], Sw.goals W b, rfl, ?_, rfl, ?_, upd_same, .nil, ?_, (fun c hc => absurd hc (by simp)), (fun c hc => .one (Sw.mem_goals.mp hc)), (fun c hc => .inr (Sw.mem_goals.mpr hc)), fun c hc => absurd hc (by simp)⟩, ?_⟩
    · exact same_upd2 (same_upd2 (same_upd hd) ((same_upd hd).free ht)) ((same_upd2 (same_upd hd) ((same_upd hd).free ht)).free hl)
    · rw [upd_ne dl, upd_ne dt, upd_same]
      rfl
    · have := wb.goals_len (a := b)
      simp
      omega
    · rintro m σ H2 ⟨x, ks, wt, rfl, s2, rfl, hd2, hl2, nd, wl, i1, i2, i3, i4⟩
      have wtx : ∀ c ∈ wt, Sw.Tx c := fun c hc => (wb.r (i2 c hc)).2.1
      have ksl : ks.length ≤ 1000 := by
        refine Nat.le_trans (nd.length_le_of_subset fun c hc => (i1 c hc).inTails) ?_
        rw [List.length_map]
        exact wb.len
      refine ⟨_, rfl, (show 0 ≤ sizeLine by decide), fun u hu => ?_⟩
      have du : d ≠ u := ne_of_none hd2 hu
      have lu : l ≠ u := ne_of_none hl2 hu
      refine ⟨dL wt, dL [], dp_L (by rw [upd_ne lu]; exact hl2), dp_L upd_same, dL_shaped wtx, dL_shaped (by simp), _, rfl, ?_⟩
      rw [dL_eqv]
      have s3 : Same H (upd H2 u (.lst [])) := same_upd2 s2 (s2.free hu)
      by_cases hw : wt = []
      · subst hw
        refine iteF ⟨_, rfl, k d _ ks hd s3 (by rw [upd_ne du]; exact hd2) nd fun c => ⟨i1 c, fun r => ?_⟩⟩
        induction r with
        | one e => exact (i3 _ e).elim id fun z => absurd z (by simp)
        | snoc _ e ih => exact (i4 _ (ih) _ e).elim id fun z => absurd z (by simp)
      · rw [decide_eq_false hw]
        refine iteT ?_
        obtain ⟨r, c, rfl⟩ : ∃ r c, wt = r ++ [c] := ⟨_, _, (List.dropLast_concat_getLast hw).symm⟩
        refine ⟨_, fun σ' H' h => h, ?_⟩
        have rl : r.length + 1 = (r ++ [c]).length := by simp
        have e1 : (((r ++ [c]).map vT)[((r ++ [c]).map vT).length - 1]?) = some (vT c) := by simp
        have e2 : ((r ++ [c]).map vT).dropLast = r.map vT := by simp
        have hl3 : (upd H2 u (.lst [])) l = some (.lst ((r ++ [c]).map vT)) := by rw [upd_ne lu]; exact hl2
        have hd3 : (upd H2 u (.lst [])) d = some (.dK (dkv ks fun _ => .bl true)) := by rw [upd_ne du]; exact hd2
        refine ⟨_, rfl, .inl ⟨rfl, _, SqL.of hl3⟩, l, _, _, rfl, rfl, hl3, e1, ?_⟩
        rw [e2]
        have s4 : Same H (upd (upd H2 u (.lst [])) l (.lst (r.map vT))) := same_upd2 s3 Hl
        have hd4 : (upd (upd H2 u (.lst [])) l (.lst (r.map vT))) d = some (.dK (dkv ks fun _ => .bl true)) := by rw [upd_ne dl]; exact hd3
        refine ⟨_, rfl, _, rfl, d, _, rfl, DGet.k (k := kT c) hd4, _, rfl, ?_⟩
        rw [valV_dkv]
        have rc : Sw.R W b c := i2 c (by simp)
        by_cases hin : c ∈ ks
        · rw [if_pos hin]
          refine iteF ⟨_, ?_, some (vT c), ks, r, rfl, s4, rfl, hd4, upd_same, nd, by omega, i1, fun e he => i2 e (List.mem_append_left _ he), fun e he => ?_, fun e he g hg => ?_⟩
          · omega
          · rcases i3 e he with z | z
            · exact .inl z
            · rcases List.mem_append.mp z with z | z
              · exact .inr z
              · rw [List.mem_singleton.mp z]
                exact .inl hin
          · rcases i4 e he g hg with z | z
            · exact .inl z
            · rcases List.mem_append.mp z with z | z
              · exact .inr z
              · rw [List.mem_singleton.mp z]
                exact .inl hin
        · rw [if_neg hin]
          refine iteT ⟨_, rfl, _, rfl, d, _, rfl, DPut.k (k := kT c) hd4 (by rw [dkv_len]; exact Nat.lt_of_le_of_lt ksl (by decide)), ?_⟩
          rw [put_new _ hin]
          have e3 : dkv (ks ++ [c]) (fun x => if x = c then V.bl true else V.bl true) = dkv (ks ++ [c]) (fun _ => V.bl true) := dkv_congr fun _ _ => by split <;> rfl
          rw [e3]
          generalize hH5 : upd (upd (upd H2 u (.lst [])) l (.lst (r.map vT))) d (.dK (dkv (ks ++ [c]) fun _ => .bl true)) = H5
          have s5 : Same H H5 := by rw [← hH5]; exact same_upd2 s4 hd
          have hl5 : H5 l = some (.lst (r.map vT)) := by rw [← hH5, upd_ne (Ne.symm dl)]; exact upd_same
          have hd5 : H5 d = some (.dK (dkv (ks ++ [c]) fun _ => .bl true)) := by rw [← hH5]; exact upd_same
          refine ⟨_, rfl, .inl ⟨rfl, _, SqL.of hl5⟩, _, rfl, p, rfl, isd (D.same s5), _, rfl, (show 0 ≤ sizeLine by decide), fun v hv => ?_⟩
          obtain ⟨o2, g3, l2, e4, g4⟩ := get_goals (D.same s5) c hv
          have ngk : (ks ++ [c]).Nodup := List.nodup_append.mpr ⟨nd, by simp, fun x hx y hy e => hin (by rw [← List.mem_singleton.mp hy, ← e]; exact hx)⟩
          have ksl2 : (ks ++ [c]).length ≤ 1000 := by
            refine Nat.le_trans (ngk.length_le_of_subset fun e he => ?_) (by rw [List.length_map]; exact wb.len : (W.map List.tail).length ≤ 1000)
            rcases List.mem_append.mp he with he | he
            · exact (i1 e he).inTails
            · rw [List.mem_singleton.mp he]
              exact rc.inTails
          rw [List.length_append] at ksl2
          have ksl2 : ks.length + 1 ≤ 1000 := ksl2
          have gz := wb.goals_len (a := c)
          refine ⟨o2, g3, l, l2, _, _, rfl, by rw [e4], by rw [upd_ne (ne_of_none hl5 hv)]; exact hl5, g4, ?_, ?_⟩
          · rw [List.length_map, List.length_map]
            have : r.length + (Sw.goals W c).length ≤ 1100000 := by omega
            exact Nat.le_trans this (by decide)
          · rw [← List.map_append]
            refine ⟨_, ?_, some (vT c), ks ++ [c], r ++ Sw.goals W c, rfl, same_upd2 (same_upd2 s5 (s5.free hv)) Hl, rfl, by rw [upd_ne dl, upd_ne (ne_of_none hd5 hv)]; exact hd5, upd_same, ngk, ?_, ?_, ?_, ?_, ?_⟩
            · rw [List.length_append, List.length_append]
              show (1000 - (ks.length + 1)) * 1001 + _ < _
              omega
            · rw [List.length_append, List.length_append]
              show _ ≤ (ks.length + 1 + 1) * 1000
              omega
            · intro e he
              rcases List.mem_append.mp he with he | he
              · exact i1 e he
              · rw [List.mem_singleton.mp he]
                exact rc
            · intro e he
              rcases List.mem_append.mp he with he | he
              · exact i2 e (List.mem_append_left _ he)
              · exact .snoc rc (Sw.mem_goals.mp he)
            · intro e he
              rcases i3 e he with z | z
              · exact .inl (List.mem_append_left _ z)
              · rcases List.mem_append.mp z with z | z
                · exact .inr (List.mem_append_left _ z)
                · exact .inl (List.mem_append_right _ z)
            · intro e he g hg
              rcases List.mem_append.mp he with he | he
              · rcases i4 e he g hg with z | z
                · exact .inl (List.mem_append_left _ z)
                · rcases List.mem_append.mp z with z | z
                  · exact .inr (List.mem_append_left _ z)
                  · exact .inl (List.mem_append_right _ z)
              · rw [List.mem_singleton.mp he] at hg
                exact .inr (List.mem_append_right _ (Sw.mem_goals.mpr hg))
end
end Wk

/-! W7: parts_by. -/
namespace Sw
section
variable {W : List Row} {n : Nat}
def isHead (W : List Row) (a : Row) : Prop := R W a a ∧ ∀ b ∈ keys W, R W a b → R W b a → ¬ b < a
open Classical in
noncomputable def hds (W : List Row) (i : Nat) : List Row := ((keys W).take i).filter fun a => decide (isHead W a)
open Classical in
theorem hds_all (W : List Row) : hds W (keys W).length = heads W := by
  unfold hds heads
  rw [List.take_length]
  exact List.filter_congr fun a _ => decide_eq_decide.mpr Iff.rfl
open Classical in
theorem hds_sub {i : Nat} {h : Row} (q : h ∈ hds W i) : h ∈ heads W ∧ h ∈ (keys W).take i := by
  unfold hds at q
  rw [List.mem_filter] at q
  refine ⟨?_, q.1⟩
  unfold heads
  rw [List.mem_filter]
  refine ⟨List.mem_of_mem_take q.1, ?_⟩
  have z := q.2
  simp only [decide_eq_true_eq] at z ⊢
  exact z
open Classical in
theorem hds_succ {i : Nat} {k : Row} (h : (keys W)[i]? = some k) : hds W (i + 1) = hds W i ++ (if isHead W k then [k] else []) := by
  unfold hds
  have e : (keys W).take (i + 1) = (keys W).take i ++ [k] := by rw [List.take_add_one, h]; rfl
  rw [e, List.filter_append]
  congr 1
  by_cases q : isHead W k
  · rw [if_pos q]
    simp [q]
  · rw [if_neg q]
    simp [q]
theorem take_lt {l : List Row} (h : l.Pairwise (· < ·)) {i : Nat} {k x : Row} (hk : l[i]? = some k) : x ∈ l.take i ↔ x ∈ l ∧ x < k := by
  have hi : i < l.length := (List.getElem?_eq_some_iff.mp hk).1
  have e : l = l.take i ++ k :: l.drop (i + 1) := by
    have := List.take_append_drop i l
    rw [List.drop_eq_getElem_cons hi] at this
    rw [(List.getElem?_eq_some_iff.mp hk).2] at this
    exact this.symm
  have h2 := h
  rw [e, List.pairwise_append] at h2
  obtain ⟨_, h3, h4⟩ := h2
  rw [List.pairwise_cons] at h3
  constructor
  · intro hx
    exact ⟨List.mem_of_mem_take hx, h4 x hx k List.mem_cons_self⟩
  · rintro ⟨hx, lt⟩
    rw [e] at hx
    rcases List.mem_append.mp hx with z | z
    · exact z
    · rcases List.mem_cons.mp z with z | z
      · subst z
        exact absurd lt (List.lt_irrefl _)
      · exact absurd lt (ltA (h3.1 x z))
theorem head_new (w : Win W n) {i : Nat} {k : Row} (h : (keys W)[i]? = some k) (r : R W k k) : isHead W k ↔ k ∉ (hds W i).flatMap (cls W) := by
  constructor
  · intro q z
    obtain ⟨x, hx, kx⟩ := List.mem_flatMap.mp z
    obtain ⟨h1, h2⟩ := hds_sub hx
    obtain ⟨h3, h4⟩ := mem_cls.mp kx
    exact q.2 x (List.mem_of_mem_take h2) h4 h3 ((take_lt (keys_asc w) h).mp h2).2
  · intro q
    refine ⟨r, fun b hb h1 h2 lt => q ?_⟩
    obtain ⟨x, hx, ex⟩ := has_head w r
    have hk : k ∈ cls W x := by rw [ex]; exact mem_cls.mpr ⟨r, r⟩
    refine List.mem_flatMap.mpr ⟨x, ?_, hk⟩
    obtain ⟨m1, m2⟩ := mem_heads.mp hx
    obtain ⟨c1, c2⟩ := mem_cls.mp hk
    have nb : ¬ b < x := m2 b (c1.trans h1) (h2.trans c2)
    have xk : x < k := by
      by_cases z : x = b
      · subst z; exact lt
      · by_cases y : x < b
        · exact List.lt_trans y lt
        · exact absurd (tri y nb) z
    unfold hds
    rw [List.mem_filter]
    refine ⟨(take_lt (keys_asc w) h).mpr ⟨m1.key, xk⟩, ?_⟩
    unfold heads at hx
    have z := (List.mem_filter.mp hx).2
    simp only [decide_eq_true_eq] at z ⊢
    exact z
theorem cls_disj (w : Win W n) {i : Nat} {k : Row} (r : R W k k) (h : k ∉ (hds W i).flatMap (cls W)) : ∀ c ∈ cls W k, c ∉ (hds W i).flatMap (cls W) := by
  intro c hc z
  obtain ⟨x, hx, cx⟩ := List.mem_flatMap.mp z
  refine h (List.mem_flatMap.mpr ⟨x, hx, ?_⟩)
  rw [← cls_eq w cx, cls_eq w hc]
  exact mem_cls.mpr ⟨r, r⟩
theorem taken_len (i : Nat) (h : ((hds W i).flatMap (cls W)).Nodup) : ((hds W i).flatMap (cls W)).length ≤ (keys W).length :=
  h.length_le_of_subset fun x hx => by
    obtain ⟨y, _, hy⟩ := List.mem_flatMap.mp hx
    exact (mem_cls.mp hy).2.key
end
end Sw
namespace Wk
open PySem PySem.Spec PyProof.Rows L2
/-- name = {k: v for ..} on one line, the name a local -/
theorem ps_setDc {X : Cx} {i : Nat} {y : Str} {py : Pos} {kx vx tg iter : Expr} {ifs : List Expr} {scope : Scope} {own : List (Str × Nat)} {pos spos : Pos} {wi : TI} {g : TG} {tt : TT} {tk tv : TE} (hc : X.calm = true) (hN : X.N.Nodup) (hy : X.N[i]? = some y) (hyl : X.env.scope.names.lookup y = some .local)
    (hsw : swapsWith (.DictComp kx vx [⟨tg, iter, ifs, 0⟩] scope pos) (some (.Name y py)) spos.line X.env = pure true) (hi : PI X tg iter wi) (ok : BlkOk X.N X.env.scope scope own)
    (hg : ∀ (s : Shared) (H : Hp) (C : Addr) (cl : List (Str × Addr)) (fp : List Addr), PG (X.blk s H scope (compEnvC scope cl C X.env) fp) tg g) (ht : ∀ (s : Shared) (H : Hp) (C : Addr) (cl : List (Str × Addr)) (fp : List Addr), PTs (X.blk s H scope (compEnvC scope cl C X.env) fp) ifs tt)
    (hk : ∀ (s : Shared) (H : Hp) (C : Addr) (cl : List (Str × Addr)) (fp : List Addr), PE (X.blk s H scope (compEnvC scope cl C X.env) fp) kx tk)
    (he : ∀ (s : Shared) (H : Hp) (C : Addr) (cl : List (Str × Addr)) (fp : List Addr), PE (X.blk s H scope (compEnvC scope cl C X.env) fp) vx tv) (hs : ∀ x, foldedSetIterable iter X.env x = pure x := by intro _; rfl) :
    PS X (.Assign [.Name y py] (.DictComp kx vx [⟨tg, iter, ifs, 0⟩] scope pos) spos) (tAsg (tDc wi g tt tk tv (own.map (·.2))) (gName i)) := by
  refine ⟨fun pins s σ H D I h => ?_⟩
  rw [exec_Assign_Name_used _ _ _ _ hsw]
  refine wpAny_bind (wpAny_standAt (wpAny_bind ?_))
  show wpAny _ X.A (do let _ ← comprehension (.DictComp kx vx [⟨tg, iter, ifs, 0⟩] scope pos) scope X.env (firstIterPos [⟨tg, iter, ifs, 0⟩] pos) newDict false (eval iter X.env) (some (assign (.Name y py) X.env))) _ _ s
  have h : tDc wi g tt tk tv (own.map (·.2)) σ H (fun x H1 => gName i x σ H1 D.nx) := h
  refine wpAny_bind (thn (dc_core (Qf := fun _ s' => SP X pins D .next s') hc hN I hi ok hg ht hk he hs h fun L C s' m H' I' q hn f => ?_) fun _ s' hq => wpAny_pure (wpAny_pure hq))
  show wpAny _ _ (assign (.Name y py) X.env (.ref L)) _ _ _
  refine wpAny_assign_Name (store_ok2 (v := V.ref L) I' hN hy (.inl hyl) rfl (fun s2 I2 ⟨a, sb, ha⟩ => ?_) (.inr hyl))
  obtain ⟨f0, f1, f2, f3, f4, f5⟩ := f
  have haC : C ≠ a := by
    rcases ha with z | z
    · rw [z]; exact f1
    · exact fun e => f4 y a z e.symm
  refine ⟨m, hn.sameBut sb haC, fun h3 sb3 => ?_⟩
  exact ⟨_, H', I2.turned (t' := s2.toks) (fun b o hb e => (sb3.2 b hb).trans e) f0 f1 f3 f4 f5, q⟩
theorem swd_true {kx vx : Expr} {gs : List Comprehension} {scope : Scope} {pos py : Pos} {y : Str} {l : Nat} {env : Env} (hk : env.scope.kind = .function) (hy : env.scope.names.lookup y = some .local) (hl : (py.line == pos.line) = true)
    (ha : (scope.names.any fun (n, k) => n == y && (k == .local || k == .cell)) = false) : swapsWith (.DictComp kx vx gs scope pos) (some (.Name y py)) l env = pure true := by
  have ky : env.kindOf y = some .local := hy
  have hb : env.blockKind = .function := by unfold Env.blockKind; rw [hk]; rfl
  unfold swapsWith
  simp only [hb, ky, ha, Expr.pos, hl]
  rfl
section
variable {P : Program} {w : World} {K : PySem.W.Frag} {mg : Str → Option Value} {base : Heap} {C : Addr}
def spParts : Sp := fun vs H Q _ => ∃ (p : Addr) (W : List Sw.Row) (n : Nat), vs = [.ref p] ∧ Sw.Wb W n ∧ DL H p (Sw.keys W) (Sw.goals W) ∧
  ∀ (q : Addr) (as : List Addr) (H' : Hp), H q = none → Same H H' → H' q = some (.lst (as.map V.ref)) → LL H' as (Sw.parts W) → Q (.ref q) H'
theorem sc11 : FnScope ["steps", "far", "found", "taken", "node", "part", "other"] ["steps"] dd11.scope := ⟨rfl, rfl, rfl, by decide +kernel, rfl, by decide +kernel, by decide +kernel⟩
/-- what far holds of a node -/
def FarK (W : List Sw.Row) (H : Hp) (ks : List Sw.Row) (f : Sw.Row → Addr) (rs : Sw.Row → List Sw.Row) : Prop := ∀ k ∈ ks, H (f k) = some (.dK (dkv (rs k) fun _ => .bl true)) ∧ ∀ c, c ∈ rs k ↔ Sw.R W k c
theorem c_parts_by {a : Addr} {fd : FuncData} (F : FnT K dd11 a fd) (hm : mg "parts_by" = some (.ref a)) (h1 : mg "sorted" = none) (c : Cl P w K mg base 1 "nodes_behind" spBehind) : Cl P w K mg base 2 "parts_by" spParts := by
  refine cl_of F hm (ps := ["steps"]) (F.bindsN fun _ _ _ _ _ _ us hl => match us, hl with | [_], _ => rfl) (okF F sc11 (fun vs H Q E h => ?_) fun cdv A outer s H vs Q E hr h => ?_)
  · obtain ⟨_, _, _, rfl, _⟩ := h
    rfl
  · obtain ⟨p, W, n, rfl, wb, D, k⟩ := h
    refine ⟨_, pss_cons (ps_set (i := 1) sc11.nd rfl (Or.inr rfl) (pe_dc (own := [("node", 4)]) (g := gName 4) (tt := tYes) (by rfl) sc11.nd (pi_list (pe_callB (call_sortedDT (by rfl)) (by rfl) h1 b_sorted (pa_cons (pv 0) pa_nil)))
          (blkOk_by (N := ["steps", "far", "found", "taken", "node", "part", "other"]) (sc := dd11.scope) (by decide +kernel))
          (fun _ _ _ _ _ => pg_name (i := 4) sc11.nd rfl (Or.inl rfl)) (fun _ _ _ _ _ => pts_nil) (fun _ _ _ _ _ => pv 4) (fun _ _ _ _ _ => C8.pe_c c hr (by decide) (by rfl) (pa_cons (pv 0) (pa_cons (pv 4) pa_nil)))))
      (pss_cons (ps_par (i := 2) (j := 3) (by rfl) sc11.nd rfl rfl (by decide) rfl rfl (pa_cons (pe_lst pa_nil) (pa_cons pe_dnewK pa_nil)) (by rfl))
      (pss_cons (ps_lock (ps_for PassesOwn.never rfl (pi_keys (pv 1)) (pg_name (i := 4) sc11.nd rfl (Or.inr rfl))
        (pss_one (ps_if (PW.pt (pw_and (pt_cmp (pc_din (hu_of hr) (pv 4) (pe_dget (hu_of hr) (pv 1) (pv 4) (fun _ _ => rfl)))) (pw_and1 (pt_cmp (pc_dnotin (hu_of hr) (pv 4) (pv 3))))))
          (pss_cons (ps_setLc (i := 5) (own := [("other", 6)]) (g := gName 6) (by rfl) sc11.nd rfl rfl (sw_true rfl rfl rfl (by decide +kernel)) (pi_keys (pv 1)) (blkOk_by (N := ["steps", "far", "found", "taken", "node", "part", "other"]) (sc := dd11.scope) (by decide +kernel))
            (fun _ _ _ _ _ => pg_name (i := 6) sc11.nd rfl (Or.inl rfl))
            (fun _ _ _ _ _ => pts_one (PW.pt (pw_and (pt_cmp (pc_din (hu_of hr) (pv 6) (pe_dget (hu_of hr) (pv 1) (pv 4) (fun _ _ => rfl)))) (pw_and1 (pt_cmp (pc_din (hu_of hr) (pv 4) (pe_dget (hu_of hr) (pv 1) (pv 6) (fun _ _ => rfl))))))))
            (fun _ _ _ _ _ => pv 6))
          (pss_cons (ps_expr (pe_bm PySem.F.plainAttrs_dict PySem.F.slot_dict_update PySem.F.type_dict_update mt_update (pv 3)
            (pa_cons (pe_dc (own := [("other", 6)]) (g := gName 6) (tt := tYes) (by rfl) sc11.nd (pi_list (pv 5)) (blkOk_by (N := ["steps", "far", "found", "taken", "node", "part", "other"]) (sc := dd11.scope) (by decide +kernel))
              (fun _ _ _ _ _ => pg_name (i := 6) sc11.nd rfl (Or.inl rfl)) (fun _ _ _ _ _ => pts_nil) (fun _ _ _ _ _ => pv 6) (fun _ _ _ _ _ => pe_bl)) pa_nil)))
          (pss_one (ps_expr (pe_bm PySem.F.plainAttrs_list PySem.F.slot_list_append PySem.F.type_list_append mt_append (pv 2) (pa_cons (pv 5) pa_nil))))))
          pss_nil))))
      (pss_one (ps_ret (pv 2))))), ?_⟩
    have kasc := Sw.keys_asc wb.win
    have knd := Sw.strict_nodup kasc
    have kz := wb.keys_len
    obtain ⟨fs, hp, hfs⟩ := id D
    refine ⟨_, rfl, p, _, Sw.keys W, rfl, .inl hp, by rw [dkv_keys], fun s1 hs1 => ?_⟩
    rw [Sw.srt_strict kasc]
    have S1 : Same H (upd H s1 (.lst ((Sw.keys W).map vT))) := same_upd hs1
    refine ⟨s1, rfl, ⟨_, SqL.of upd_same⟩, fun d hd => ?_⟩
    have Hd : H d = none := S1.free hd
    have sd1 : s1 ≠ d := fun e => by rw [← e, upd_same] at hd; cases hd
    refine dc_it (walk_list (K := K) (a := s1) (xs := (Sw.keys W).map vT)) (fun i H2 => ∃ f rs, Same (upd H s1 (.lst ((Sw.keys W).map vT))) H2 ∧ H2 d = some (.dK (dkv ((Sw.keys W).take i) fun k => .ref (f k))) ∧ FarK W H2 ((Sw.keys W).take i) f rs ∧ ∀ k ∈ (Sw.keys W).take i, f k ≠ d)
      ⟨fun _ => d, fun _ => [], same_upd hd, by rw [upd_same]; rfl, fun k hk => absurd hk (by simp), fun k hk => absurd hk (by simp)⟩ (fun i H2 _ h2 => by
        obtain ⟨f, rs, s2, _⟩ := h2
        exact SqL.of (s2 _ _ upd_same)) ?_ ?_
    · intro i x H2 H3 hi h2 y
      obtain ⟨rfl, hx⟩ := y
      obtain ⟨f, rs, s2, hd2, fk, fd⟩ := h2
      rw [List.getElem?_map] at hx
      obtain ⟨c, hc1, hc2⟩ := Option.map_eq_some_iff.mp hx
      subst hc2
      have ht : (Sw.keys W).take (i + 1) = (Sw.keys W).take i ++ [c] := by rw [List.take_add_one, hc1]; rfl
      have cn : c ∉ (Sw.keys W).take i := fun z => List.lt_irrefl _ ((Sw.take_lt kasc hc1).mp z).2
      refine ⟨by rfl, ?_⟩
      unfold tYes
      refine iteT ⟨_, rfl, _, rfl, _, rfl, p, W, n, c, rfl, wb, D.same (S1.trans s2), fun e H4 ks he s4 hks nd mem => ⟨_, kT c, rfl, s4 _ _ hd2, ?_, ?_⟩⟩
      · rw [dkv_len]
        have := List.length_take_le i (Sw.keys W)
        exact Nat.lt_of_le_of_lt (show _ ≤ 1000 from Nat.le_trans (List.length_take_le' _ _) kz) (by decide)
      · rw [put_new _ cn, ht]
        have ed : e ≠ d := fun q => by rw [q, hd2] at he; cases he
        refine ⟨fun k => if k = c then e else f k, fun k => if k = c then ks else rs k, fun b o hb => ?_, ?_, fun k hk => ?_, fun k hk => ?_⟩
        · rw [upd_ne (ne_of_none hb hd)]
          exact s4 _ _ (s2 _ _ hb)
        · rw [upd_same]
          congr 2
          refine dkv_congr fun k _ => ?_
          by_cases q : k = c
          · simp only [if_pos q]
          · simp only [if_neg q]
        · by_cases q : k = c
          · simp only [if_pos q]
            rw [upd_ne ed, q]
            exact ⟨hks, mem⟩
          · have hk : k ∈ (Sw.keys W).take i := (List.mem_append.mp hk).elim id fun z => absurd (List.mem_singleton.mp z) q
            simp only [if_neg q]
            rw [upd_ne (fd k hk)]
            exact ⟨s4 _ _ (fk k hk).1, (fk k hk).2⟩
        · by_cases q : k = c
          · simp only [if_pos q]
            exact ed
          · have hk : k ∈ (Sw.keys W).take i := (List.mem_append.mp hk).elim id fun z => absurd (List.mem_singleton.mp z) q
            simp only [if_neg q]
            exact fd k hk
    · intro H2 h2
      obtain ⟨f, rs, s2, hd2, fk, fd⟩ := h2
      rw [List.length_map, List.take_length] at hd2 fk fd
      have S2 : Same H H2 := S1.trans s2
      refine ⟨(show 0 ≤ sizeLine by decide), fun l hl => ?_⟩
      intro t ht
      have lt : l ≠ t := ne_of_none upd_same ht
      have dl : d ≠ l := ne_of_none hd2 hl
      have s3 : Same H2 (upd (upd H2 l (.lst [])) t (.dK [])) := same_upd2 (same_upd hl) ((same_upd hl).free ht)
      have Ht : H2 t = none := (same_upd hl).free ht
      have dt : d ≠ t := ne_of_none hd2 Ht
      refine ⟨_, _, rfl, d, _, s3 _ _ hd2, trivial, fun od => ?_⟩
      refine ⟨_, rfl, d, od, rfl, .inl ⟨_, upd_same, ?_⟩⟩
      generalize hkv : dkv (Sw.keys W) (fun k => V.ref (f k)) = kvs0 at *
      have wk := walkKeys (d := d) (o := od) (kvs := kvs0)
      have ekv : (kvs0.map fun kv => kV kv.1) = (Sw.keys W).map vT := by rw [← hkv, dkv_kV]
      rw [ekv] at wk
      have hdk : ∀ {H4 : Hp}, H4 d = some (.frz od (.dK kvs0)) → ∀ k ∈ Sw.keys W, DGet H4 d (vT k) (some (.ref (f k))) := fun h4 k hk => .inl ⟨kvs0, kT k, .inr ⟨od, h4⟩, rfl, by rw [← hkv, valV_in hk]⟩
      refine for_it wk (fun i σ H4 => ∃ x y z as, σ = [some (.ref p), some (.ref d), some (.ref l), some (.ref t), x, y, z] ∧ (∀ b o, H2 b = some o → b ≠ d → H4 b = some o) ∧ H4 d = some (.frz od (.dK kvs0)) ∧ H4 l = some (.lst (as.map V.ref)) ∧
        H4 t = some (.dK (dkv ((Sw.hds W i).flatMap (Sw.cls W)) fun _ => .bl true)) ∧ LL H4 as ((Sw.hds W i).map (Sw.cls W)) ∧ (∀ q ∈ as, q ≠ l ∧ q ≠ t) ∧ ((Sw.hds W i).flatMap (Sw.cls W)).Nodup ∧ as.length ≤ i)
        ⟨none, none, none, [], rfl, fun b o hb ne => by rw [upd_ne ne]; exact s3 _ _ hb, upd_same, by rw [upd_ne (Ne.symm dl), upd_ne lt]; exact upd_same, by rw [upd_ne (Ne.symm dt), upd_same]; rfl, .nil, fun q hq => absurd hq (by simp), by simp [Sw.hds], Nat.le_refl _⟩
        (fun i σ H4 _ h4 => by
          obtain ⟨_, _, _, _, _, _, h, _⟩ := h4
          exact h) ?_ ?_
      · intro i x σ H4 H5 hi h4 y
        obtain ⟨rfl, hx⟩ := y
        obtain ⟨a1, a2, a3, as, rfl, s4, hd4, hl4, ht4, ll4, ne4, nd4, al4⟩ := h4
        rw [List.getElem?_map] at hx
        obtain ⟨c, hc1, hc2⟩ := Option.map_eq_some_iff.mp hx
        subst hc2
        have hi : i < (Sw.keys W).length := by rw [List.length_map] at hi; exact hi
        have cK : c ∈ Sw.keys W := List.mem_of_getElem? hc1
        have far4 : ∀ {H6 : Hp}, (∀ b o, H2 b = some o → b ≠ d → H6 b = some o) → ∀ k ∈ Sw.keys W, ∀ m : Sw.Row, DGet H6 (f k) (vT m) (valV (dkv (rs k) fun _ => V.bl true) (kT m)) := fun s6 k hk m => DGet.k (k := kT m) (s6 _ _ (fk k hk).1 (fd k hk))
        have e1 := Sw.hds_succ hc1
        refine ⟨_, rfl, _, rfl, _, rfl, d, _, rfl, hdk hd4 c cK, f c, _, rfl, far4 s4 c cK c, _, rfl, ?_⟩
        rw [valV_dkv]
        by_cases hr1 : c ∈ rs c
        · rw [if_pos hr1]
          have rcc := ((fk c cK).2 c).mp hr1
          refine iteT ⟨_, rfl, _, rfl, t, _, rfl, DGet.k (k := kT c) ht4, _, rfl, ?_⟩
          rw [valV_dkv]
          by_cases hin : c ∈ (Sw.hds W i).flatMap (Sw.cls W)
          · rw [if_pos hin]
            have nh : ¬ Sw.isHead W c := fun q => (Sw.head_new wb.win hc1 rcc).mp q hin
            rw [if_neg nh, List.append_nil] at e1
            refine iteF ⟨some (vT c), a2, a3, as, rfl, s4, hd4, hl4, ?_, ?_, ne4, ?_, Nat.le_succ_of_le al4⟩
            · rw [e1]; exact ht4
            · rw [e1]; exact ll4
            · rw [e1]; exact nd4
          · rw [if_neg hin]
            have yh : Sw.isHead W c := (Sw.head_new wb.win hc1 rcc).mpr hin
            rw [if_pos yh] at e1
            refine iteT ⟨_, rfl, d, od, rfl, .inl ⟨_, hd4, fun D5 hD5 => ?_⟩⟩
            refine lc_pure wk (fun v => match v with | .str z => decide (z.cps.toList ∈ rs c) && decide (c ∈ rs z.cps.toList) | _ => false) (fun v => v) hD5 (fun H6 s6 => s6 _ _ hd4) (by rw [List.length_map]; exact Nat.le_trans kz (by decide)) (fun x hx H6 s6 R1 hR => hR _ (by rfl) (fun Qb hb => ?_) fun _ Q2 q2 => ⟨_, rfl, q2⟩) ?_
            · obtain ⟨o, ho, rfl⟩ := List.mem_map.mp hx
              have s46 : ∀ b o, H2 b = some o → b ≠ d → H6 b = some o := fun b o h1 h2 => s6 _ _ (s4 b o h1 h2)
              have hb : Qb (decide (o ∈ rs c) && decide (c ∈ rs o)) H6 := by
                have := hb
                simp only [vT, T_list] at this
                exact this
              refine ⟨_, rfl, _, rfl, _, rfl, d, _, rfl, hdk (s6 _ _ hd4) c cK, f c, _, rfl, far4 s46 c cK o, _, rfl, ?_⟩
              rw [valV_dkv]
              by_cases h2 : o ∈ rs c
              · rw [if_pos h2]
                refine iteT ⟨_, rfl, _, rfl, _, rfl, d, _, rfl, hdk (s6 _ _ hd4) o ho, f o, _, rfl, far4 s46 o ho c, _, rfl, ?_⟩
                rw [valV_dkv]
                by_cases h3 : c ∈ rs o
                · rw [if_pos h3]
                  rw [decide_eq_true h2, decide_eq_true h3] at hb
                  exact hb
                · rw [if_neg h3]
                  rw [decide_eq_true h2, decide_eq_false h3] at hb
                  exact hb
              · rw [if_neg h2]
                rw [decide_eq_false h2, Bool.false_and] at hb
                exact iteF hb
            · have ep : (((Sw.keys W).map vT).filter (fun v => match v with | .str z => decide (z.cps.toList ∈ rs c) && decide (c ∈ rs z.cps.toList) | _ => false)).map (fun v => v) = (Sw.cls W c).map vT := by
                rw [List.map_id', List.filter_map]
                congr 1
                unfold Sw.cls
                refine List.filter_congr fun o ho => ?_
                show (decide ((T o).cps.toList ∈ rs c) && decide (c ∈ rs (T o).cps.toList)) = _
                rw [T_list, ← Bool.decide_and]
                exact decide_eq_decide.mpr (and_congr ((fk c cK).2 o) ((fk o ho).2 c))
              rw [ep]
              generalize hP : Sw.cls W c = part
              have pnd : part.Nodup := by rw [← hP]; exact Sw.strict_nodup (Sw.cls_asc wb.win)
              have pz : part.length ≤ 1000 := by
                rw [← hP]
                unfold Sw.cls
                exact Nat.le_trans (List.length_filter_le _ _) kz
              have pdis : ∀ o ∈ part, o ∉ (Sw.hds W i).flatMap (Sw.cls W) := by
                rw [← hP]
                exact Sw.cls_disj wb.win rcc hin
              have D5l : l ≠ D5 := ne_of_none hl4 hD5
              have D5t : t ≠ D5 := ne_of_none ht4 hD5
              generalize hH5 : upd H5 D5 (.lst (part.map vT)) = H6
              have S6 : Same H5 H6 := by rw [← hH5]; exact same_upd hD5
              have hD6 : H6 D5 = some (.lst (part.map vT)) := by rw [← hH5]; exact upd_same
              refine ⟨_, rfl, .inr (.inr (.inl ⟨rfl, .inl ⟨_, S6 _ _ ht4⟩⟩)), _, rfl, D5, rfl, ⟨_, SqL.of hD6⟩, fun E7 hE7 => ?_⟩
              refine dc_it (walk_list (K := K) (a := D5) (xs := part.map vT)) (fun j H7 => H7 = upd H6 E7 (.dK (dkv (part.take j) fun _ => .bl true))) rfl (fun j H7 _ h7 => by
                subst h7
                exact SqL.of (same_upd hE7 _ _ hD6)) ?_ ?_
              · intro j x H7 H8 hj h7 y
                obtain ⟨rfl, hx⟩ := y
                subst h7
                rw [List.getElem?_map] at hx
                obtain ⟨o, ho1, ho2⟩ := Option.map_eq_some_iff.mp hx
                subst ho2
                have ht : part.take (j + 1) = part.take j ++ [o] := by rw [List.take_add_one, ho1]; rfl
                have on : o ∉ part.take j := by
                  have q := pnd.sublist (List.take_sublist (j + 1) part)
                  rw [ht, List.nodup_append] at q
                  intro z
                  exact q.2.2 o z o (by simp) rfl
                refine ⟨by rfl, ?_⟩
                unfold tYes
                refine iteT ⟨_, rfl, _, kT o, rfl, upd_same, ?_, ?_⟩
                · rw [dkv_len]
                  exact Nat.lt_of_le_of_lt (Nat.le_trans (List.length_take_le' _ _) pz) (by decide)
                · rw [upd_upd, put_new _ on, ht]
                  congr 2
                  exact dkv_congr fun _ _ => by split <;> rfl
              · intro H7 h7
                subst h7
                rw [List.length_map, List.take_length]
                have E7t : t ≠ E7 := ne_of_none (S6 _ _ ht4) hE7
                have E7l : l ≠ E7 := ne_of_none (S6 _ _ hl4) hE7
                refine ⟨t, E7, _, _, rfl, rfl, E7t, by rw [upd_ne E7t]; exact S6 _ _ ht4, upd_same, ?_, ?_⟩
                · rw [dkv_len, dkv_len]
                  have := Sw.taken_len i nd4
                  exact Nat.le_trans (show _ ≤ 2000 by omega) (by decide)
                rw [merge_new pnd pdis]
                have e2 : dkv ((Sw.hds W i).flatMap (Sw.cls W) ++ part) (fun x => if x ∈ part then V.bl true else V.bl true) = dkv ((Sw.hds W i).flatMap (Sw.cls W) ++ part) (fun _ => V.bl true) := dkv_congr fun _ _ => by split <;> rfl
                rw [e2]
                generalize hH8 : upd (upd H6 E7 (.dK (dkv part fun _ => .bl true))) t (.dK (dkv ((Sw.hds W i).flatMap (Sw.cls W) ++ part) fun _ => .bl true)) = H8
                have S8 : ∀ b o, H5 b = some o → b ≠ t → H8 b = some o := fun b o hb ne => by
                  rw [← hH8, upd_ne ne, upd_ne (ne_of_none (S6 _ _ hb) hE7)]
                  exact S6 _ _ hb
                have l8 : H8 l = some (.lst (as.map V.ref)) := S8 _ _ hl4 lt
                have e3 : (Sw.hds W (i + 1)).map (Sw.cls W) = (Sw.hds W i).map (Sw.cls W) ++ [part] := by rw [e1, List.map_append, ← hP]; rfl
                have e4 : (Sw.hds W (i + 1)).flatMap (Sw.cls W) = (Sw.hds W i).flatMap (Sw.cls W) ++ part := by rw [e1, List.flatMap_append, ← hP]; simp
                have d8 : H8 D5 = some (.lst (part.map vT)) := by
                  rw [← hH8, upd_ne (Ne.symm D5t), upd_ne (ne_of_none hD6 hE7)]
                  exact hD6
                refine ⟨_, rfl, .inl ⟨rfl, _, SqL.of l8⟩, _, rfl, l, _, _, rfl, rfl, l8, ?_, some (vT c), some (.ref D5), a3, as ++ [D5], rfl, ?_, ?_, ?_, ?_, ?_, ?_, ?_, ?_⟩
                · rw [List.length_map]
                  exact Nat.lt_of_le_of_lt (show _ ≤ 1000 by omega) (by decide)
                · intro b o hb ne
                  rw [upd_ne (ne_of_none hb hl)]
                  exact S8 _ _ (s4 _ _ hb ne) (ne_of_none hb Ht)
                · rw [upd_ne dl]
                  exact S8 _ _ hd4 dt
                · rw [upd_same, List.map_append]
                  rfl
                · rw [upd_ne (Ne.symm lt), ← hH8, upd_same, e4]
                · rw [e3]
                  refine Paired.snoc ?_ ?_
                  · exact LL.imp ll4 fun q m hq hm => by
                      rw [upd_ne (ne4 q hq).1]
                      exact S8 _ _ hm (ne4 q hq).2
                  · rw [upd_ne (Ne.symm D5l)]
                    exact d8
                · intro q hq
                  rcases List.mem_append.mp hq with hq | hq
                  · exact ne4 q hq
                  · rw [List.mem_singleton.mp hq]
                    exact ⟨Ne.symm D5l, Ne.symm D5t⟩
                · rw [e4, List.nodup_append]
                  exact ⟨nd4, pnd, fun x hx y hy e => pdis y hy (e ▸ hx)⟩
                · rw [List.length_append]
                  show _ + 1 ≤ _
                  omega
        · rw [if_neg hr1]
          have nh : ¬ Sw.isHead W c := fun q => hr1 (((fk c cK).2 c).mpr q.1)
          rw [if_neg nh, List.append_nil] at e1
          refine iteF (iteF ⟨some (vT c), a2, a3, as, rfl, s4, hd4, hl4, ?_, ?_, ne4, ?_, Nat.le_succ_of_le al4⟩)
          · rw [e1]; exact ht4
          · rw [e1]; exact ll4
          · rw [e1]; exact nd4
      · intro σ H4 h4
        obtain ⟨a1, a2, a3, as, rfl, s4, hd4, hl4, ht4, ll4, ne4, nd4, al4⟩ := h4
        rw [List.length_map, Sw.hds_all] at ll4
        refine ⟨hd4, _, rfl, k l as _ (S2.free hl) ?_ ?_ ?_⟩
        · intro b o hb
          rw [upd_ne (ne_of_none hb Hd)]
          exact s4 _ _ (S2 _ _ hb) (ne_of_none hb Hd)
        · rw [upd_ne (Ne.symm dl)]
          exact hl4
        · exact LL.imp ll4 fun q m hq hm => by
            have : q ≠ d := fun e => by rw [e, hd4] at hm; cases hm
            rw [upd_ne this]
            exact hm
end
end Wk

/-! W8: common_divisor, period_by. -/
namespace Wk
open PySem PySem.Spec PyProof.Rows L2
section
variable {P : Program} {w : World} {K : PySem.W.Frag} {mg : Str → Option Value} {base : Heap} {C : Addr}
def spGcd : Sp := fun vs H Q _ => ∃ a b : Nat, vs = [.int a, .int b] ∧ Q (.int (Nat.gcd a b)) H
theorem sc12 : FnScope ["one", "other", "low", "high"] ["one", "other"] dd12.scope := ⟨rfl, rfl, rfl, by decide +kernel, rfl, by decide +kernel, by decide +kernel⟩
theorem c_common_divisor {a : Addr} {fd : FuncData} (F : FnT K dd12 a fd) (hm : mg "common_divisor" = some (.ref a)) : Cl P w K mg base 1 "common_divisor" spGcd := by
  refine cl_of F hm (ps := ["one", "other"]) (F.bindsN fun _ _ _ _ _ _ us hl => match us, hl with | [_, _], _ => rfl) (okF F sc12 (fun vs H Q E h => ?_) fun cdv A outer s H vs Q E hr h => ?_)
  · obtain ⟨_, _, rfl, _⟩ := h
    rfl
  · obtain ⟨x, y, rfl, k⟩ := h
    refine ⟨_, pss_cons (ps_par (i := 2) (j := 3) (by rfl) sc12.nd rfl rfl (by decide) rfl rfl (pa_cons (pv 0) (pa_cons (pv 1) pa_nil)) (by rfl))
      (pss_cons (ps_while PassesOwn.never (pt_cmpR op_gt (pv 2) pe_int (nomark _))
        (pss_one (ps_par (i := 2) (j := 3) (by rfl) sc12.nd rfl rfl (by decide) rfl rfl (pa_cons (pe_op op_modN (pv 3) (pv 2)) (pa_cons (pv 2) pa_nil)) (by rfl))))
      (pss_one (ps_ret (pv 3)))), ?_⟩
    refine ⟨_, rfl, _, rfl, _, _, rfl, ?_⟩
    refine ⟨fun m σ H2 => H2 = H ∧ ∃ u v : Nat, u = m ∧ σ = [some (.int x), some (.int y), some (.int u), some (.int v)] ∧ Nat.gcd u v = Nat.gcd x y, ⟨_, rfl, x, y, rfl, rfl, rfl⟩, ?_⟩
    rintro m σ H2 ⟨rfl, u, v, rfl, rfl, hg⟩
    refine ⟨_, rfl, u, 0, rfl, rfl, _, rfl, ?_⟩
    by_cases hu : u = 0
    · subst hu
      refine iteF ⟨_, rfl, ?_⟩
      rw [Nat.gcd_zero_left] at hg
      rw [hg]
      exact k
    · rw [decide_eq_true (show (0 : Int) < (u : Int) by omega)]
      refine iteT ⟨_, fun _ _ h => h, ?_⟩
      refine ⟨_, rfl, _, rfl, (v : Int), (u : Int), rfl, rfl, by omega, _, rfl, _, _, rfl, _, ?_, rfl, v % u, u, rfl, ?_, ?_⟩
      · exact Nat.mod_lt _ (by omega)
      · have e : V.int ((v : Int).fmod u) = V.int ((v % u : Nat) : Int) := by
          rw [Int.fmod_eq_emod_of_nonneg _ (by omega : (0 : Int) ≤ (u : Int))]
          rfl
        show [some (V.int x), some (V.int y), some (V.int ((v : Int).fmod u)), some (V.int u)] = _
        rw [e]
      · rw [← hg]
        exact (Nat.gcd_rec u v).symm
theorem dget_in {H : Hp} {p : Addr} {ks : List Sw.Row} {g : Sw.Row → V} {k : Sw.Row} (h : H p = some (.dK (dkv ks g))) (hk : k ∈ ks) : DGet H p (vT k) (some (g k)) := by
  have := DGet.k (k := kT k) h
  rw [valV_in hk] at this
  exact this
def spPer : Sp := fun vs H Q _ => ∃ (p q : Addr) (W : List Sw.Row) (n : Nat) (ks part : List Sw.Row), vs = [.ref p, .ref q] ∧ Sw.Wb W n ∧ DL H p ks (Sw.wgoals W) ∧ H q = some (.lst (part.map vT)) ∧ part ∈ Sw.parts W ∧ (∀ c ∈ part, c ∈ ks) ∧
  ∀ (g : Nat) (H' : Hp), Same H H' → Sw.IsPer W part g → Q (.int g) H'
theorem sc13 : FnScope ["steps", "part", "far", "waiting", "found", "node", "goal"] ["steps", "part"] dd13.scope := ⟨rfl, rfl, rfl, by decide +kernel, rfl, by decide +kernel, by decide +kernel⟩
theorem c_period_by {a : Addr} {fd : FuncData} (F : FnT K dd13 a fd) (hm : mg "period_by" = some (.ref a)) (h1 : mg "abs" = none) (c : Cl P w K mg base 1 "common_divisor" spGcd) : Cl P w K mg base 2 "period_by" spPer := by
  refine cl_of F hm (ps := ["steps", "part"]) (F.bindsN fun _ _ _ _ _ _ us hl => match us, hl with | [_, _], _ => rfl) (okF F sc13 (fun vs H Q E h => ?_) fun cdv A outer s H vs Q E hr h => ?_)
  · obtain ⟨_, _, _, _, _, _, rfl, _⟩ := h
    rfl
  · obtain ⟨p, q, W, n, ks, part, rfl, wb, D, hq, hP, hks, k⟩ := h
    refine ⟨_, pss_cons (ps_par3 (i := 2) (j := 3) (l := 4) (by rfl) sc13.nd rfl rfl rfl (by decide) (by decide) (by decide) rfl rfl rfl
        (pa_cons (pe_disp (pps_cons (pe_ix ix_list (pv 1) pe_int (fun _ _ => rfl)) pe_int pps_nil) (by rfl) (by rfl) (fun z => by cases z) (by decide)) (pa_cons (pe_lst (pa_cons (pe_ix ix_list (pv 1) pe_int (fun _ _ => rfl)) pa_nil)) (pa_cons pe_int pa_nil))) (by rfl))
      (pss_cons (ps_while PassesOwn.never (pt_cmpR (op_neD hr.units) (pv 3) (pe_lst pa_nil) (nomark _))
        (pss_cons (ps_set (i := 5) sc13.nd rfl (Or.inl rfl) (pe_bm0 PySem.F.plainAttrs_list PySem.F.slot_list_pop PySem.F.type_list_pop mt_pop (pv 3)))
        (pss_one (ps_for PassesOwn.never rfl (pi_list (pe_dget (hu_of hr) (pv 0) (pv 5) (fun _ _ => rfl))) (pg_name (i := 6) sc13.nd rfl (Or.inl rfl))
          (C8.pss_cut (ps_if (pt_cmp (pc_dnotin (hu_of hr) (pv 6) (pv 2)))
            (pss_cons (ps_dput (hu_of hr) (pv 2) (pv 6) (pe_op op_add (pe_dget (hu_of hr) (pv 2) (pv 5) (fun _ _ => rfl)) pe_int) rfl)
            (pss_one (ps_expr (pe_bm PySem.F.plainAttrs_list PySem.F.slot_list_append PySem.F.type_list_append mt_append (pv 3) (pa_cons (pv 6) pa_nil)))))
            pss_nil)
          (pss_one (ps_set (i := 4) sc13.nd rfl (Or.inl rfl) (C8.pe_c c hr (by decide) (by rfl) (pa_cons (pv 4) (pa_cons (pe_callB call_abs (by rfl) h1 b_abs (pa_cons (pe_op op_sub (pe_op op_add (pe_dget (hu_of hr) (pv 2) (pv 5) (fun _ _ => rfl)) pe_int) (pe_dget (hu_of hr) (pv 2) (pv 6) (fun _ _ => rfl))) pa_nil)) pa_nil))))))))))
      (pss_one (ps_ret (pv 4)))), ?_⟩
    obtain ⟨h, pt, hpe, hhead⟩ := Sw.part_ne wb.win hP
    have hh : h ∈ part := by rw [hpe]; exact List.mem_cons_self
    have at0 : atI (part.map vT) ((0 : Nat) : Int) = some (vT h) := atI_nat (by rw [hpe]; rfl)
    obtain ⟨f, hp, hf⟩ := id D
    have pnd : part.Nodup := Sw.strict_nodup (Sw.part_asc wb.win hP)
    have pcl : ∀ x ∈ part, Sw.Tx x := fun x hx => (wb.r (Sw.part_of wb.win hP hx).2).1
    have pz : part.length ≤ 1000 := by
      refine Nat.le_trans (pnd.length_le_of_subset fun x hx => ((Sw.part_of wb.win hP hx).2).inTails) ?_
      rw [List.length_map]
      exact wb.len
    intro d hd
    have qd : q ≠ d := ne_of_none hq hd
    have hq1 : (upd H d (.dK [])) q = some (.lst (part.map vT)) := by rw [upd_ne qd]; exact hq
    refine ⟨_, rfl, q, _, _, _, rfl, rfl, SqL.of hq1, at0, ?_⟩
    refine ⟨upd_same, [(kT h, .int 0)], rfl, (show 1 ≤ 15 by decide), ?_⟩
    rw [upd_upd]
    have em : mergeK [] [(kT h, V.int 0)] = dkv [h] (fun _ => V.int 0) := rfl
    rw [em]
    have S1 : Same H (upd H d (.dK (dkv [h] fun _ => .int 0))) := same_upd hd
    refine ⟨_, rfl, q, _, _, _, rfl, rfl, SqL.of (S1 _ _ hq), at0, (show 1 ≤ sizeLine by decide), fun l hl => ?_⟩
    have Hl : H l = none := S1.free hl
    have dl : d ≠ l := ne_of_none upd_same hl
    refine ⟨_, _, _, rfl, ?_⟩
    refine ⟨fun m σ H2 => ∃ x y fks fa g wt, m = (1000 - fks.length) * 2 + wt.length ∧ Same H H2 ∧ σ = [some (.ref p), some (.ref q), some (.ref d), some (.ref l), some (.int ((g : Nat) : Int)), x, y] ∧ H2 d = some (.dK (dkv fks fun k => .int (fa k))) ∧ H2 l = some (.lst (wt.map vT)) ∧ Sw.PerI W part h fks fa g wt none [],
      ⟨_, none, none, [h], fun _ => 0, 0, [h], rfl, same_upd2 S1 Hl, rfl, by rw [upd_ne dl]; exact upd_same, upd_same, Sw.PerI.init hh⟩, ?_⟩
    rintro m σ H2 ⟨x, y, fks, fa, g, wt, rfl, s2, rfl, hd2, hl2, I⟩
    have fz : ∀ {fks : List Sw.Row} {fa : Sw.Row → Int} {g : Nat} {wt dn : List Sw.Row} {x : Option Sw.Row}, Sw.PerI W part h fks fa g wt x dn → fks.length ≤ 1000 := fun I => Nat.le_trans (I.nd.length_le_of_subset I.sub) pz
    refine ⟨_, rfl, (show 0 ≤ sizeLine by decide), fun u hu => ?_⟩
    have du : d ≠ u := ne_of_none hd2 hu
    have lu : l ≠ u := ne_of_none hl2 hu
    refine ⟨dL wt, dL [], dp_L (by rw [upd_ne lu]; exact hl2), dp_L upd_same, dL_shaped (fun c hc => pcl c (I.sub c (I.wsub c hc))), dL_shaped (by simp), _, rfl, ?_⟩
    rw [dL_eqv]
    have s3 : Same H (upd H2 u (.lst [])) := same_upd2 s2 (s2.free hu)
    by_cases hw : wt = []
    · subst hw
      exact iteF ⟨_, rfl, k g _ s3 (I.is wb.win hP)⟩
    · rw [decide_eq_false hw]
      refine iteT ?_
      obtain ⟨r, c0, rfl⟩ : ∃ r c, wt = r ++ [c] := ⟨_, _, (List.dropLast_concat_getLast hw).symm⟩
      refine ⟨_, fun σ' H' h => h, ?_⟩
      have rl : r.length + 1 = (r ++ [c0]).length := by simp
      have e1 : (((r ++ [c0]).map vT)[((r ++ [c0]).map vT).length - 1]?) = some (vT c0) := by simp
      have e2 : ((r ++ [c0]).map vT).dropLast = r.map vT := by simp
      have hl3 : (upd H2 u (.lst [])) l = some (.lst ((r ++ [c0]).map vT)) := by rw [upd_ne lu]; exact hl2
      have hd3 : (upd H2 u (.lst [])) d = some (.dK (dkv fks fun k => .int (fa k))) := by rw [upd_ne du]; exact hd2
      refine ⟨_, rfl, .inl ⟨rfl, _, SqL.of hl3⟩, l, _, _, rfl, rfl, hl3, e1, ?_⟩
      rw [e2]
      have s4 : Same H (upd (upd H2 u (.lst [])) l (.lst (r.map vT))) := same_upd2 s3 Hl
      have hd4 : (upd (upd H2 u (.lst [])) l (.lst (r.map vT))) d = some (.dK (dkv fks fun k => .int (fa k))) := by rw [upd_ne dl]; exact hd3
      have J0 := I.pop
      have c0k : c0 ∈ ks := hks c0 (J0.sub c0 (J0.xin c0 rfl))
      generalize hH4 : upd (upd H2 u (.lst [])) l (.lst (r.map vT)) = H4 at s4 hd4
      have hl4 : H4 l = some (.lst (r.map vT)) := by rw [← hH4]; exact upd_same
      refine ⟨_, rfl, _, rfl, p, _, rfl, dget_in (s4 _ _ hp) c0k, f c0, rfl, ⟨_, SqL.of (s4 _ _ (hf c0 c0k))⟩, ?_⟩
      refine for_it (walk_list (K := K) (a := f c0) (xs := (Sw.wgoals W c0).map vT)) (fun j σ H5 => ∃ y fks' fa' g' wt', (1000 - fks'.length) * 2 + wt'.length < (1000 - fks.length) * 2 + (r ++ [c0]).length ∧ Same H H5 ∧ σ = [some (.ref p), some (.ref q), some (.ref d), some (.ref l), some (.int ((g' : Nat) : Int)), some (vT c0), y] ∧ H5 d = some (.dK (dkv fks' fun k => .int (fa' k))) ∧ H5 l = some (.lst (wt'.map vT)) ∧ Sw.PerI W part h fks' fa' g' wt' (some c0) ((Sw.wgoals W c0).take j))
        ⟨y, fks, fa, g, r, by omega, s4, rfl, hd4, hl4, J0⟩ (fun j σ H5 _ h5 => by
          obtain ⟨_, _, _, _, _, _, s5, _⟩ := h5
          exact SqL.of (s5 _ _ (hf c0 c0k))) ?_ ?_
      · intro j x2 σ H5 H6 hj h5 yy
        obtain ⟨rfl, hx⟩ := yy
        obtain ⟨y2, fk, fa2, g2, wt2, lt2, s5, rfl, hd5, hl5, J⟩ := h5
        rw [List.getElem?_map] at hx
        obtain ⟨b, hb1, hb2⟩ := Option.map_eq_some_iff.mp hx
        subst hb2
        have ht : (Sw.wgoals W c0).take (j + 1) = (Sw.wgoals W c0).take j ++ [b] := by rw [List.take_add_one, hb1]; rfl
        have bg : b ∈ Sw.wgoals W c0 := List.mem_of_getElem? hb1
        have c0f := J.xin c0 rfl
        refine ⟨fun σ' H7 => ∃ fk fa2 wt2, (1000 - fk.length) * 2 + wt2.length < (1000 - fks.length) * 2 + (r ++ [c0]).length ∧ Same H H7 ∧ σ' = [some (.ref p), some (.ref q), some (.ref d), some (.ref l), some (.int ((g2 : Nat) : Int)), some (vT c0), some (vT b)] ∧ H7 d = some (.dK (dkv fk fun k => .int (fa2 k))) ∧ H7 l = some (.lst (wt2.map vT)) ∧ Sw.PerI W part h fk fa2 g2 wt2 (some c0) ((Sw.wgoals W c0).take j) ∧ b ∈ fk, ?_, ?_⟩
        · refine ⟨_, rfl, _, rfl, d, _, rfl, DGet.k (k := kT b) hd5, _, rfl, ?_⟩
          rw [valV_dkv]
          by_cases hb : b ∈ fk
          · rw [if_pos hb]
            exact iteF ⟨fk, fa2, wt2, lt2, s5, rfl, hd5, hl5, J, hb⟩
          · rw [if_neg hb]
            have J2 := J.add wb.win hP bg hb (fa' := fun x => if x = b then fa2 c0 + 1 else fa2 x) (if_pos rfl) (fun x ne => if_neg ne)
            have z1 := fz J2
            have z2 := J.wl
            rw [List.length_append] at z1
            have z1 : fk.length + 1 ≤ 1000 := z1
            refine iteT ⟨_, rfl, _, rfl, d, _, rfl, dget_in hd5 c0f, fa2 c0, 1, rfl, rfl, _, rfl, _, rfl, d, _, rfl, DPut.k (k := kT b) hd5 (by rw [dkv_len]; exact Nat.lt_of_lt_of_le (show fk.length < 1001 by omega) (by decide)), ?_⟩
            rw [put_new _ hb]
            generalize hH8 : upd H6 d (.dK (dkv (fk ++ [b]) fun x => if x = b then V.int (fa2 c0 + 1) else V.int (fa2 x))) = H8
            have hl8 : H8 l = some (.lst (wt2.map vT)) := by rw [← hH8, upd_ne (Ne.symm dl)]; exact hl5
            have hd8 : H8 d = some (.dK (dkv (fk ++ [b]) fun x => .int (if x = b then fa2 c0 + 1 else fa2 x))) := by
              rw [← hH8, upd_same]
              congr 2
              refine dkv_congr fun x _ => ?_
              split <;> rfl
            have s8 : Same H H8 := by rw [← hH8]; exact same_upd2 s5 hd
            refine ⟨_, rfl, .inl ⟨rfl, _, SqL.of hl8⟩, _, rfl, l, _, _, rfl, rfl, hl8, ?_, _, _, wt2 ++ [b], ?_, same_upd2 s8 Hl, rfl, by rw [upd_ne dl]; exact hd8, by rw [upd_same, List.map_append]; rfl, J2, by simp⟩
            · rw [List.length_map]
              exact Nat.lt_of_lt_of_le (show wt2.length < 1001 by omega) (by decide)
            · rw [List.length_append, List.length_append]
              show (1000 - (fk.length + 1)) * 2 + (wt2.length + 1) < _
              omega
        · rintro σ' H7 ⟨fk3, fa3, wt3, lt3, s7, rfl, hd7, hl7, J3, hb3⟩
          have c3 := J3.xin c0 rfl
          refine ⟨_, rfl, _, rfl, _, rfl, d, _, rfl, dget_in hd7 c3, fa3 c0, 1, rfl, rfl, _, rfl, _, rfl, d, _, rfl, dget_in hd7 hb3, fa3 c0 + 1, fa3 b, rfl, rfl, fa3 c0 + 1 - fa3 b, rfl, g2, (fa3 c0 + 1 - fa3 b).natAbs, ?_, some (vT b), fk3, fa3, _, wt3, lt3, s7, rfl, hd7, hl7, ?_⟩
          · have e : (if fa3 c0 + 1 - fa3 b < 0 then -(fa3 c0 + 1 - fa3 b) else fa3 c0 + 1 - fa3 b) = ((fa3 c0 + 1 - fa3 b).natAbs : Int) := by split <;> omega
            rw [e]
            rfl
          · rw [ht]
            exact J3.step wb.win hP bg hb3
      · intro σ H5 h5
        obtain ⟨y2, fk, fa2, g2, wt2, lt2, s5, rfl, hd5, hl5, J⟩ := h5
        rw [List.length_map, List.take_length] at J
        exact ⟨_, lt2, some (vT c0), y2, fk, fa2, g2, wt2, rfl, s5, rfl, hd5, hl5, J.fin⟩
end
end Wk

/-! W9: Web.__init__. -/
namespace Sw
section
variable {W : List Row} {n : Nat}
theorem parts_nd (w : Win W n) : (parts W).Nodup := strict_nodup (parts_asc w)
theorem flat_disj (w : Win W n) {i : Nat} {part : List Row} (h : (parts W)[i]? = some part) : ∀ c ∈ part, c ∉ ((parts W).take i).flatten := by
  intro c hc z
  obtain ⟨p2, h2, hc2⟩ := List.mem_flatten.mp z
  have e1 := (part_of w (List.mem_of_getElem? h) hc).1
  have e2 := (part_of w (List.mem_of_mem_take h2) hc2).1
  have e : part = p2 := e1.symm.trans e2
  subst e
  have q := (parts_nd w).sublist (List.take_sublist (i + 1) (parts W))
  have ht : (parts W).take (i + 1) = (parts W).take i ++ [part] := by rw [List.take_add_one, h]; rfl
  rw [ht, List.nodup_append] at q
  exact q.2.2 part h2 part (by simp) rfl
theorem flat_nd (w : Win W n) (i : Nat) : ((parts W).take i).flatten.Nodup := by
  induction i with
  | zero => simp
  | succ i ih =>
    match e : (parts W)[i]? with
    | none =>
      rw [List.take_add_one, e]
      simpa using ih
    | some part =>
      have ht : (parts W).take (i + 1) = (parts W).take i ++ [part] := by rw [List.take_add_one, e]; rfl
      rw [ht, List.flatten_append, List.nodup_append]
      refine ⟨ih, by simpa using strict_nodup (part_asc w (List.mem_of_getElem? e)), fun x hx y hy q => ?_⟩
      have hy : y ∈ part := by simpa using hy
      exact flat_disj w e y hy (q ▸ hx)
/-- the nodes, part by part -/
noncomputable def flat (W : List Row) : List Row := (parts W).flatten
theorem mem_flat (w : Win W n) {c : Row} : c ∈ flat W ↔ R W c c := by
  unfold flat
  rw [List.mem_flatten]
  constructor
  · rintro ⟨P, h1, h2⟩
    exact (part_of w h1 h2).2
  · intro r
    obtain ⟨x, hx, e⟩ := has_head w r
    refine ⟨cls W x, mem_parts.mpr ⟨x, hx, rfl⟩, ?_⟩
    rw [e]
    exact mem_cls.mpr ⟨r, r⟩
theorem flat_sub (w : Win W n) {c : Row} (h : c ∈ flat W) : c ∈ keys W := ((mem_flat w).mp h).key
theorem srt_flat (w : Win W n) : srt (flat W) = nodes W := by
  have h := flat_nd w (parts W).length
  rw [List.take_length] at h
  exact srt_of h (nodes_asc w) fun a => (mem_flat w).trans mem_nodes.symm
theorem flat_len (w : Win W n) : (flat W).length = (nodes W).length := by
  rw [← srt_flat w]
  exact ((srt_perm (flat W)).length_eq).symm
open Classical in
theorem goals_part (w : Win W n) {P : List Row} (hP : P ∈ parts W) {a : Row} (ha : a ∈ P) : (goals W a).filter (fun g => decide (g ∈ P)) = wgoals W a := by
  unfold wgoals
  refine List.filter_congr fun g hg => ?_
  obtain ⟨e, r⟩ := part_of w hP ha
  have e1 := mem_goals.mp hg
  refine decide_eq_decide.mpr ?_
  rw [← e]
  exact ⟨fun h => (mem_cls.mp h).2, fun h => mem_cls.mpr ⟨.one e1, h⟩⟩
end
end Sw
namespace Wk
open PySem PySem.Spec PyProof.Rows L2
theorem inV_T (g : Sw.Row) : ∀ l : List Sw.Row, inV (vT g) (l.map vT) = decide (g ∈ l)
  | [] => by simp [inV]
  | a :: l => by
    have ih := inV_T g l
    unfold inV at ih ⊢
    rw [List.map_cons, List.any_cons, ih]
    have e : eqV (vT a) (vT g) = decide (g = a) := by
      show ((T a) == (T g)) = _
      by_cases h : g = a
      · subst h
        simp
      · rw [decide_eq_false h]
        exact beq_eq_false_iff_ne.mpr fun e => h (T_inj e).symm
    rw [e, ← Bool.decide_or]
    exact decide_eq_decide.mpr (by simp)
theorem flat_T (l : List Sw.Row) : (l.map vT).all flatV = true := by
  rw [List.all_eq_true]
  intro x hx
  obtain ⟨t, _, rfl⟩ := List.mem_map.mp hx
  rfl
theorem LL.at {H : Hp} : ∀ {as : List Addr} {Ps : List (List Sw.Row)} {i : Nat} {q : Addr}, LL H as Ps → as[i]? = some q → ∃ P, Ps[i]? = some P ∧ H q = some (.lst (P.map vT))
  | _, _, _, _, .nil, h => by simp at h
  | _, _, 0, _, .cons r _, h => by
    simp only [List.getElem?_cons_zero, Option.some.injEq] at h
    subst h
    exact ⟨_, rfl, r⟩
  | _, _, i + 1, _, .cons _ t, h => by
    simp only [List.getElem?_cons_succ] at h ⊢
    exact LL.at t h
theorem LL.len {H : Hp} {as : List Addr} {Ps : List (List Sw.Row)} (h : LL H as Ps) : as.length = Ps.length := by
  induction h with
  | nil => rfl
  | cons _ _ ih => rw [List.length_cons, List.length_cons, ih]
theorem ne_slo {H : Hp} {a b C dx : Addr} {vs : List (Option V)} {o : HO} (h : H a = some (SlX.SlO a C dx vs)) (hb : H b = some o) (ho : ∀ f, o ≠ .ext f) : b ≠ a := fun e => by
  rw [e, h] at hb
  exact ho _ (Option.some.inj hb).symm
theorem ne_ob {H : Hp} {a b : Addr} {o u : HO} (h : H a = some u) (hb : H b = some o) (ho : o ≠ u) : b ≠ a := fun e => by
  rw [e, h] at hb
  exact ho (Option.some.inj hb).symm
/-- what the top leaves of the class Web -/
structure WebC (K : PySem.W.Frag) (C : Addr) : Prop where
  sc : SlX.SCls K C
  s0 : ∃ p, SlX.Slot1 K C "its_p" p 0
  s1 : ∃ p, SlX.Slot1 K C "its_parts" p 1
  s2 : ∃ p, SlX.Slot1 K C "its_q" p 2
  s3 : ∃ p, SlX.Slot1 K C "its_rule" p 3
  s4 : ∃ p, SlX.Slot1 K C "its_steps" p 4
  s5 : ∃ p, SlX.Slot1 K C "its_windows" p 5
def WebAt (C : Addr) (H : Hp) (a : Addr) (W : List Sw.Row) : Prop := ∃ (dx pw pp ps rp : Addr) (as : List Addr) (m q : Int), H a = some (SlX.SlO a C dx [some (.int m), some (.ref pp), some (.int q), some (.ref rp), some (.ref ps), some (.ref pw)]) ∧ H dx = some (.xd []) ∧
  H pw = some (.lst (W.map vT)) ∧ H pp = some (.lst (as.map V.ref)) ∧ LL H as (Sw.parts W) ∧ DL H ps (Sw.flat W) (Sw.wgoals W)
theorem WebAt.same {C : Addr} {H H' : Hp} {a : Addr} {W : List Sw.Row} (h : WebAt C H a W) (s : Same H H') : WebAt C H' a W := by
  obtain ⟨dx, pw, pp, ps, rp, as, m, q, h1, h2, h3, h4, h5, h6⟩ := h
  exact ⟨dx, pw, pp, ps, rp, as, m, q, s _ _ h1, s _ _ h2, s _ _ h3, s _ _ h4, h5.same s, h6.same s⟩
theorem wins_wb {tb : Sw.Row} {r q : Nat} {m : Int} (hq : 1 ≤ q) (hr : r ≤ 2) (hz : (r + 2) ^ (2 * q + 1) ≤ 1000) (hq9 : q ≤ 100) : Sw.Wb (Sw.wins tb r m q) (2 * q) where
  win := Sw.wins_win tb r m q hq
  len := by
    unfold Sw.wins
    refine Nat.le_trans (List.length_filter_le _ _) ?_
    rw [Sw.rows_count]
    have sgl : (Sw.sg r).length = r + 2 := by
      have e : r = 0 ∨ r = 1 ∨ r = 2 := by omega
      rcases e with e | e | e <;> subst e <;> rfl
    rw [sgl]
    exact hz
  n9 := by omega
  tx := fun w hw c hc => by
    have h1 := (Sw.mem_rows.mp (List.mem_filter.mp hw).1).2 c hc
    have e : r = 0 ∨ r = 1 ∨ r = 2 := by omega
    rcases e with e | e | e <;> subst e <;> simp [Sw.sg] at h1 <;> omega
/-- the scope of the comprehension that an update takes -/
def updScope : Stmt → Scope
  | .For _ _ [.Expr (.Call _ [.DictComp _ _ _ s _] _ _) _] _ _ => s
  | _ => dd32.scope
section
variable {P : Program} {w : World} {K : PySem.W.Frag} {mg : Str → Option Value} {base : Heap} {C CR : Addr}
def spWInit (C CR : Addr) : Sp := fun vs H Q _ => ∃ (a dx p : Addr) (tb : Sw.Row) (r q : Nat) (m : Int), vs = [.ref a, .ref p, .int m, .int q] ∧ RuleAt CR H p tb r ∧ TbOk tb ∧ r ≤ 2 ∧ (r + 2) ^ (2 * q + 1) ≤ 1000 ∧ 1 ≤ q ∧ q ≤ 100 ∧ -(q : Int) ≤ m ∧ m ≤ q ∧
  H a = some (.ins C dx []) ∧ H dx = some (.own a) ∧ dx ≠ a ∧ ∀ H', WebAt C H' a (Sw.wins tb r m q) → (∀ b o, b ≠ a → b ≠ dx → H b = some o → H' b = some o) → Q .non H'
theorem sc32 : FnScope ["self", "rule", "p", "q", "steps", "part", "node", "goal"] ["self", "rule", "p", "q"] dd32.scope := ⟨rfl, rfl, rfl, by decide +kernel, rfl, by decide +kernel, by decide +kernel⟩
abbrev N32 : List Str := ["self", "rule", "p", "q", "steps", "part", "node", "goal"]
def us32 : Scope := updScope (dd32.body.getLast?.getD (.Pass ⟨0, 0, 0, 0⟩))
theorem c_winit {a : Addr} {fd : FuncData} (F : FnT K dd32 a fd) (M : Mk K C a) (hm : mg "Web" = some (.ref C)) (hmR : mg "Rule" = some (.ref CR)) (h1 : mg "isinstance" = none) (RC : RuleC K CR) (WC : WebC K C) (c1 : Cl P w K mg base 1 "is_integer" spIsInt) (c2 : Cl P w K mg base 2 "is_number" spIsNum)
    (c3 : Cl P w K mg base 5 "good_windows" (spGood CR)) (c4 : Cl P w K mg base 1 "steps_by" spSteps) (c5 : Cl P w K mg base 2 "parts_by" spParts) : C8.Mak P w K mg base 6 "Web" C (spWInit C CR) [] := by
  have hb : Binds K fd ["self", "rule", "p", "q"] [] := F.bindsN fun _ _ _ _ _ _ us hl => match us, hl with | [_, _, _, _], _ => rfl
  refine ⟨⟨a, fd, ["self", "rule", "p", "q"], [], M, okF F sc32 (fun vs H Q E h => ?_) fun cdv A outer s H vs Q E hr h => ?_, hm, hb, .nil⟩⟩
  · obtain ⟨_, _, _, _, _, _, _, rfl, _⟩ := h
    rfl
  · obtain ⟨a, dx, p, tb, r, q, m, rfl, R, htb, hr2, hz, hq1, hq9, hm1, hm2, ha, hdx, hne, k⟩ := h
    refine ⟨_, pss_cons (ps_if (pt_not (pt_val (pe_callB (SlX.call_isiSl (.ref CR)) (by rfl) h1 b_isinstance (pa_cons (pv 1) (pa_cons (pe_glob (v := .ref CR) (by rfl) hmR rfl) pa_nil))))) pss_never pss_nil)
      (pss_cons (ps_if (PW.pt (pw_or (pt_not (pt_val (C8.pe_c c1 hr (by decide) (by rfl) (pa_cons (pv 2) pa_nil)))) (pw_or1 (PW.pt (pw_and (pt_val (C8.pe_c c2 hr (by decide) (by rfl) (pa_cons (pv 3) pa_nil))) (pw_and1 (pt_not (pt_chain op_le op_le (pe_un un_neg (pv 3)) (pv 2) (pv 3))))))))) pss_never pss_nil)
      (pss_cons (ps_if (pt_not (pt_val (C8.pe_c c2 hr (by decide) (by rfl) (pa_cons (pv 3) pa_nil)))) pss_never pss_nil)
      (pss_cons (ps_asg (pe_tup (pa_cons (pv 1) (pa_cons (pv 2) (pa_cons (pv 3) pa_nil)))) (pg_tup rfl (pgs_cons (pg_sl (pv 0)) (pgs_cons (pg_sl (pv 0)) (pgs_cons (pg_sl (pv 0)) pgs_nil)))))
      (pss_cons (SlX.ps_sl (pv 0) (C8.pe_c c3 hr (by decide) (by rfl) (pa_cons (pv 1) (pa_cons (pv 2) (pa_cons (pv 3) pa_nil)))))
      (pss_cons (ps_set (i := 4) sc32.nd rfl (Or.inr rfl) (C8.pe_c c4 hr (by decide) (by rfl) (pa_cons (SlX.pe_sl (pv 0)) pa_nil)))
      (pss_cons (ps_asg (pe_tup (pa_cons (C8.pe_c c5 hr (by decide) (by rfl) (pa_cons (pv 4) pa_nil)) (pa_cons pe_dnewK pa_nil))) (pg_tup rfl (pgs_cons (pg_sl (pv 0)) (pgs_cons (pg_sl (pv 0)) pgs_nil))))
      (pss_one (ps_for PassesOwn.never rfl (pi_list (SlX.pe_sl (pv 0))) (pg_name (i := 5) sc32.nd rfl (Or.inr rfl))
        (pss_one (ps_expr (pe_bm PySem.F.plainAttrs_dict PySem.F.slot_dict_update PySem.F.type_dict_update mt_update (SlX.pe_sl (pv 0))
            (pa_cons (pe_dc (own := [("node", 6)]) (g := gName 6) (tt := tYes) (by rfl) sc32.nd (pi_list (pv 5)) (blkOk_by (N := N32) (sc := dd32.scope) (by decide +kernel))
              (fun _ _ _ _ _ => pg_name (i := 6) sc32.nd rfl (Or.inl rfl)) (fun _ _ _ _ _ => pts_nil) (fun _ _ _ _ _ => pv 6)
              (fun _ _ _ _ _ => pe_lc (own := [("goal", 7)]) (g := gName 7) (by rfl) sc32.nd (show PI _ _ _ (iList K _) from pi_list (pe_dget (hu_of hr) (pv 4) (pv 6) (fun _ _ => rfl))) (blkOk_by (N := N32) (sc := relS us32 dd32.scope) (by decide +kernel))
                (fun _ _ _ _ _ => pg_name (i := 7) sc32.nd rfl (Or.inl rfl)) (fun _ _ _ _ _ => pts_one (pt_cmpR (show OpR _ _ (rIn K false) from op_in_seq) (pv 7) (pv 5) (by rfl))) (fun _ _ _ _ _ => pv 7))) pa_nil)))))))))))), ?_⟩
    obtain ⟨dxR, hR1, hR2⟩ := id R
    obtain ⟨p0, t0⟩ := WC.s0
    obtain ⟨p1, t1⟩ := WC.s1
    obtain ⟨p2, t2⟩ := WC.s2
    obtain ⟨p3, t3⟩ := WC.s3
    obtain ⟨p4, t4⟩ := WC.s4
    obtain ⟨p5, t5⟩ := WC.s5
    have wb : Sw.Wb (Sw.wins tb r m q) (2 * q) := wins_wb hq1 hr2 hz hq9
    refine ⟨_, rfl, p, CR, dxR, _, .ref CR, true, rfl, rfl, (fun w h => h), .inr ⟨hR1, hR2⟩, RC.sc, RC.si, if_pos (by simp), true, rfl, iteF ?_⟩
    refine ⟨_, rfl, m, rfl, true, rfl, iteF ?_⟩
    refine ⟨_, rfl, (q : Int), rfl, true, ?_, iteT ?_⟩
    · rw [decide_eq_true (show (1 : Int) ≤ (q : Int) by omega)]
    refine ⟨_, rfl, (q : Int), rfl, _, rfl, (-(q : Int)), m, rfl, rfl, _, rfl, ?_⟩
    rw [decide_eq_true hm1]
    refine iteT ⟨_, rfl, m, (q : Int), rfl, rfl, _, rfl, ?_⟩
    rw [decide_eq_true hm2]
    refine iteF ?_
    refine ⟨_, rfl, (q : Int), rfl, true, ?_, iteF ?_⟩
    · rw [decide_eq_true (show (1 : Int) ≤ (q : Int) by omega)]
    refine ⟨_, rfl, _, rfl, _, rfl, (show 3 ≤ sizeLine by decide), fun t ht => ⟨t, _, rfl, SqT.of upd_same, rfl, _, _, rfl, ?_⟩⟩
    have at' : a ≠ t := ne_of_none ha ht
    have dt : dx ≠ t := ne_of_none hdx ht
    refine ⟨_, rfl, a, C, dx, p3, [], 3, rfl, .inl ⟨by rw [upd_ne at']; exact ha, rfl⟩, WC.sc, t3, _, _, rfl, _, rfl, a, C, dx, p0, _, 0, rfl, SlX.slH_slt hne, WC.sc, t0, _, _, rfl, _, rfl, a, C, dx, p2, _, 2, rfl, SlX.slH_slt hne, WC.sc, t2, rfl, ?_⟩
    rw [SlX.slH_twice hne, SlX.slH_twice hne]
    rw [show SlX.putS 2 (V.int (q : Int)) (SlX.putS 0 (V.int m) (SlX.putS 3 (V.ref p) [])) = [some (.int m), none, some (.int q), some (.ref p)] from rfl]
    generalize hG1 : SlX.slH (upd H t (.tup [.ref p, .int m, .int q])) a C dx [some (.int m), none, some (.int q), some (.ref p)] = G1
    have a1 : G1 a = some (SlX.SlO a C dx [some (.int m), none, some (.int q), some (.ref p)]) := by rw [← hG1]; unfold SlX.slH; rw [upd_same]
    have x1 : G1 dx = some (.xd []) := by rw [← hG1]; unfold SlX.slH; rw [upd_ne hne, upd_same]
    have o1 : ∀ b o, b ≠ a → b ≠ dx → H b = some o → G1 b = some o := fun b o h1 h2 h3 => by
      rw [← hG1, SlX.slH_ne h1 h2, upd_ne (ne_of_none h3 ht)]
      exact h3
    have pa : p ≠ a := fun e => by
      rw [e, ha] at hR1
      unfold SlX.SlO at hR1
      cases hR1
    have pd : p ≠ dx := fun e => by
      rw [e, hdx] at hR1
      unfold SlX.SlO at hR1
      cases hR1
    have ra : dxR ≠ a := fun e => by rw [e, ha] at hR2; cases hR2
    have rd : dxR ≠ dx := fun e => by rw [e, hdx] at hR2; cases hR2
    refine ⟨_, rfl, _, rfl, _, rfl, p, tb, r, q, m, rfl, ⟨dxR, o1 _ _ pa pd hR1, o1 _ _ ra rd hR2⟩, htb, hr2, Nat.le_trans hz (by decide), hq9, hm1, hm2, fun pw H2 s2 hw2 => ?_⟩
    refine ⟨_, rfl, a, C, dx, p5, _, 5, rfl, .inr ⟨s2 _ _ a1, s2 _ _ x1⟩, WC.sc, t5, ?_⟩
    have wa : pw ≠ a := fun e => by
      have := s2 _ _ a1
      rw [← e, hw2] at this
      unfold SlX.SlO at this
      cases this
    have wd : pw ≠ dx := fun e => by
      have := s2 _ _ x1
      rw [← e, hw2] at this
      cases this
    rw [show SlX.putS 5 (V.ref pw) [some (V.int m), none, some (V.int (q : Int)), some (V.ref p)] = [some (.int m), none, some (.int q), some (.ref p), none, some (.ref pw)] from rfl]
    generalize hG2 : SlX.slH H2 a C dx [some (.int m), none, some (.int q), some (.ref p), none, some (.ref pw)] = G2
    have a2 : G2 a = some (SlX.SlO a C dx [some (.int m), none, some (.int q), some (.ref p), none, some (.ref pw)]) := by rw [← hG2]; unfold SlX.slH; rw [upd_same]
    have x2 : G2 dx = some (.xd []) := by rw [← hG2]; unfold SlX.slH; rw [upd_ne hne, upd_same]
    have o2 : ∀ b o, b ≠ a → b ≠ dx → H2 b = some o → G2 b = some o := fun b o h1 h2 h3 => by
      rw [← hG2, SlX.slH_ne h1 h2]
      exact h3
    have w2 := o2 _ _ wa wd hw2
    refine ⟨_, rfl, a, C, dx, p5, _, 5, .ref pw, rfl, .inr ⟨a2, x2⟩, WC.sc, t5, rfl, pw, Sw.wins tb r m q, rfl, w2, Nat.le_trans wb.len (by decide), fun x hx => ?_, fun st H3 hst s3 D3 => ?_⟩
    · have := wb.win.len x hx
      exact ⟨fun e => by rw [e] at this; simp at this, by omega⟩
    generalize hW : Sw.wins tb r m q = W at *
    refine ⟨_, rfl, st, W, 2 * q, rfl, wb, D3, fun pp as H4 hpp s4 hp4 LL4 => ?_⟩
    intro e he
    refine ⟨(show 2 ≤ sizeLine by decide), fun t2 ht2 => ⟨t2, _, rfl, SqT.of upd_same, rfl, _, _, rfl, ?_⟩⟩
    have s24 : Same G2 H4 := s3.trans s4
    have s5 : Same H4 (upd (upd H4 e (.dK [])) t2 (.tup [.ref pp, .ref e])) := same_upd2 (same_upd he) ((same_upd he).free ht2)
    have et2 : e ≠ t2 := ne_of_none upd_same ht2
    refine ⟨_, rfl, a, C, dx, p1, _, 1, rfl, .inr ⟨s5 _ _ (s24 _ _ a2), s5 _ _ (s24 _ _ x2)⟩, WC.sc, t1, _, _, rfl, _, rfl, a, C, dx, p4, _, 4, rfl, SlX.slH_slt hne, WC.sc, t4, rfl, ?_⟩
    rw [SlX.slH_twice hne]
    rw [show SlX.putS 4 (V.ref e) (SlX.putS 1 (V.ref pp) [some (V.int m), none, some (V.int (q : Int)), some (V.ref p), none, some (V.ref pw)]) = [some (.int m), some (.ref pp), some (.int q), some (.ref p), some (.ref e), some (.ref pw)] from rfl]
    generalize hG5 : SlX.slH (upd (upd H4 e (.dK [])) t2 (.tup [.ref pp, .ref e])) a C dx [some (.int m), some (.ref pp), some (.int q), some (.ref p), some (.ref e), some (.ref pw)] = G5
    have a5 : G5 a = some (SlX.SlO a C dx [some (.int m), some (.ref pp), some (.int q), some (.ref p), some (.ref e), some (.ref pw)]) := by rw [← hG5]; unfold SlX.slH; rw [upd_same]
    have x5 : G5 dx = some (.xd []) := by rw [← hG5]; unfold SlX.slH; rw [upd_ne hne, upd_same]
    have o5 : ∀ b o, b ≠ a → b ≠ dx → H4 b = some o → G5 b = some o := fun b o h1 h2 h3 => by
      rw [← hG5, SlX.slH_ne h1 h2]
      exact s5 _ _ h3
    have na : ∀ {b : Addr} {xs : List V}, H4 b = some (.lst xs) → b ≠ a ∧ b ≠ dx := fun {b xs} hb => ⟨ne_slo (s24 _ _ a2) hb (fun f z => nomatch z), ne_ob (s24 _ _ x2) hb (fun z => nomatch z)⟩
    have nk : ∀ {b : Addr} {xs : List (Key × V)}, H4 b = some (.dK xs) → b ≠ a ∧ b ≠ dx := fun {b xs} hb => ⟨ne_slo (s24 _ _ a2) hb (fun f z => nomatch z), ne_ob (s24 _ _ x2) hb (fun z => nomatch z)⟩
    have ea : e ≠ a := fun q => by rw [q, s24 _ _ a2] at he; cases he
    have ed : e ≠ dx := fun q => by rw [q, s24 _ _ x2] at he; cases he
    have e5 : G5 e = some (.dK []) := by rw [← hG5, SlX.slH_ne ea ed, upd_ne et2, upd_same]
    have w5 : G5 pw = some (.lst (W.map vT)) := o5 _ _ wa wd (s24 _ _ w2)
    have pp5 : G5 pp = some (.lst (as.map V.ref)) := o5 _ _ (na hp4).1 (na hp4).2 hp4
    have LL5 : LL G5 as (Sw.parts W) := LL4.imp fun q l _ hq => o5 _ _ (na hq).1 (na hq).2 hq
    have ste : st ≠ e := by
      obtain ⟨f, h1, _⟩ := D3.same s4
      exact ne_of_none h1 he
    have D5 : DL G5 st (Sw.keys W) (Sw.goals W) := by
      obtain ⟨f, h1, h2⟩ := D3.same s4
      exact ⟨f, o5 _ _ (nk h1).1 (nk h1).2 h1, fun k hk => o5 _ _ (na (h2 k hk)).1 (na (h2 k hk)).2 (h2 k hk)⟩
    have ok5 : ∀ b o, b ≠ a → b ≠ dx → H b = some o → G5 b = some o ∧ b ≠ e := fun b o h1 h2 h3 => by
      have h4 := s24 _ _ (o2 _ _ h1 h2 (s2 _ _ (o1 b o h1 h2 h3)))
      exact ⟨o5 _ _ h1 h2 h4, ne_of_none h4 he⟩
    obtain ⟨fs, hst5, hfs⟩ := D5
    refine ⟨_, rfl, a, C, dx, p1, _, 1, .ref pp, rfl, .inr ⟨a5, x5⟩, WC.sc, t1, rfl, pp, rfl, ⟨_, SqL.of pp5⟩, ?_⟩
    refine for_it (walk_list (K := K) (a := pp) (xs := as.map V.ref)) (fun i σ H6 => ∃ x y z f, σ = [some (.ref a), some (.ref p), some (.int m), some (.int q), some (.ref st), x, y, z] ∧ (∀ b o, G5 b = some o → b ≠ e → H6 b = some o) ∧ H6 e = some (.dK (dkv ((Sw.parts W).take i).flatten fun k => .ref (f k))) ∧
        ∀ k ∈ ((Sw.parts W).take i).flatten, H6 (f k) = some (.lst ((Sw.wgoals W k).map vT)))
      ⟨none, none, none, fun _ => e, rfl, fun b o hb _ => hb, by rw [e5]; rfl, fun k hk => absurd hk (by simp)⟩ (fun i σ H6 _ h6 => by
        obtain ⟨_, _, _, _, _, o6, _⟩ := h6
        exact SqL.of (o6 _ _ pp5 (ne_ob e5 pp5 (fun z => nomatch z)))) ?_ ?_
    · intro i x σ H6 H7 hi h6 y
      obtain ⟨rfl, hx⟩ := y
      obtain ⟨y1, y2, y3, f, rfl, o6, e6, hf⟩ := h6
      rw [List.getElem?_map] at hx
      obtain ⟨qa, hqa, hx2⟩ := Option.map_eq_some_iff.mp hx
      subst hx2
      obtain ⟨part, hpart, hqP⟩ := LL5.at hqa
      have hP := List.mem_of_getElem? hpart
      have ht : (Sw.parts W).take (i + 1) = (Sw.parts W).take i ++ [part] := by rw [List.take_add_one, hpart]; rfl
      have pnd := Sw.strict_nodup (Sw.part_asc wb.win hP)
      have pk : ∀ c ∈ part, c ∈ Sw.keys W := fun c hc => ((Sw.part_of wb.win hP hc).2).key
      have kz := wb.keys_len
      have pz : part.length ≤ 1000 := Nat.le_trans (pnd.length_le_of_subset pk) kz
      have q6 : H7 qa = some (.lst (part.map vT)) := o6 _ _ hqP (ne_ob e5 hqP (fun z => nomatch z))
      have a6 := o6 _ _ a5 (Ne.symm ea)
      have x6 := o6 _ _ x5 (Ne.symm ed)
      refine ⟨_, rfl, a, C, dx, p4, _, 4, .ref e, rfl, .inr ⟨a6, x6⟩, WC.sc, t4, rfl, .inr (.inr (.inl ⟨rfl, .inl ⟨_, e6⟩⟩)), ?_⟩
      refine ⟨_, rfl, qa, rfl, ⟨_, SqL.of q6⟩, fun D hD => ?_⟩
      refine dc_it (walk_list (K := K) (a := qa) (xs := part.map vT)) (fun j H8 => ∃ f2, Same H7 H8 ∧ H8 D = some (.dK (dkv (part.take j) fun k => .ref (f2 k))) ∧ ∀ k ∈ part.take j, H8 (f2 k) = some (.lst ((Sw.wgoals W k).map vT)))
        ⟨fun _ => D, same_upd hD, by rw [upd_same]; rfl, fun k hk => absurd hk (by simp)⟩ (fun j H8 _ h8 => by
          obtain ⟨_, s8, _⟩ := h8
          exact SqL.of (s8 _ _ q6)) ?_ ?_
      · intro j x H8 H9 hj h8 yy
        obtain ⟨rfl, hx⟩ := yy
        obtain ⟨f2, s8, hd8, hf8⟩ := h8
        rw [List.getElem?_map] at hx
        obtain ⟨o, ho1, ho2⟩ := Option.map_eq_some_iff.mp hx
        subst ho2
        have hoP : o ∈ part := List.mem_of_getElem? ho1
        have htj : part.take (j + 1) = part.take j ++ [o] := by rw [List.take_add_one, ho1]; rfl
        have on : o ∉ part.take j := by
          have q := pnd.sublist (List.take_sublist (j + 1) part)
          rw [htj, List.nodup_append] at q
          intro z
          exact q.2.2 o z o (by simp) rfl
        have st8 : H9 st = some (.dK (dkv (Sw.keys W) fun k => .ref (fs k))) := s8 _ _ (o6 _ _ hst5 ste)
        have fo8 : H9 (fs o) = some (.lst ((Sw.goals W o).map vT)) := s8 _ _ (o6 _ _ (hfs o (pk o hoP)) (ne_ob e5 (hfs o (pk o hoP)) (fun z => nomatch z)))
        refine ⟨by rfl, ?_⟩
        unfold tYes
        refine iteT ⟨_, rfl, _, rfl, _, rfl, st, _, rfl, dget_in st8 (pk o hoP), fs o, rfl, ⟨_, SqL.of fo8⟩, fun D3 hD3 => ?_⟩
        refine lc_pure (walk_list (K := K) (a := fs o) (xs := (Sw.goals W o).map vT)) (fun v => match v with | .str z => decide (z.cps.toList ∈ part) | _ => false) (fun v => v) hD3 (fun H10 s10 => SqL.of (s10 _ _ fo8)) (by rw [List.length_map]; exact Nat.le_trans wb.goals_len (by decide)) (fun x hx H10 s10 R1 hR => hR _ (by rfl) (fun Qb hb => ?_) fun _ Q2 q2 => ⟨_, rfl, q2⟩) ?_
        · obtain ⟨g, hg, rfl⟩ := List.mem_map.mp hx
          refine ⟨_, rfl, _, rfl, qa, part.map vT, rfl, .inl (SqL.of (s10 _ _ (s8 _ _ q6))), rfl, flat_T _, _, rfl, ?_⟩
          show Qb (inV (vT g) (part.map vT)) H10
          rw [inV_T]
          simp only [vT, T_list] at hb
          exact hb
        · have ep : (((Sw.goals W o).map vT).filter (fun v => match v with | .str z => decide (z.cps.toList ∈ part) | _ => false)).map (fun v => v) = (Sw.wgoals W o).map vT := by
            rw [List.map_id', List.filter_map, ← Sw.goals_part wb.win hP hoP]
            congr 1
          rw [ep]
          have D3D : D ≠ D3 := ne_of_none hd8 hD3
          refine ⟨_, kT o, rfl, by rw [upd_ne D3D]; exact hd8, ?_, ?_⟩
          · rw [dkv_len]
            exact Nat.lt_of_le_of_lt (Nat.le_trans (List.length_take_le' _ _) pz) (by decide)
          · rw [put_new _ on, htj]
            obtain ⟨f3, g1, g2⟩ : ∃ f3 : Sw.Row → Addr, f3 o = D3 ∧ ∀ k, k ≠ o → f3 k = f2 k := ⟨fun k => if k = o then D3 else f2 k, if_pos rfl, fun k n => if_neg n⟩
            refine ⟨f3, same_upd2 (s8.trans (same_upd hD3)) hD, ?_, fun k hk => ?_⟩
            · rw [upd_same]
              congr 2
              refine dkv_congr fun k _ => ?_
              by_cases z : k = o
              · rw [if_pos z, z, g1]
              · rw [if_neg z, g2 k z]
            · by_cases z : k = o
              · rw [z, g1, upd_ne (Ne.symm D3D), upd_same]
              · have hk : k ∈ part.take j := (List.mem_append.mp hk).elim id fun y => absurd (List.mem_singleton.mp y) z
                have h9 := hf8 k hk
                rw [g2 k z, upd_ne (ne_ob hd8 h9 (fun z => nomatch z)), upd_ne (ne_of_none h9 hD3)]
                exact h9
      · intro H8 h8
        obtain ⟨f2, s8, hd8, hf8⟩ := h8
        rw [List.length_map, List.take_length] at hd8 hf8
        have eD : e ≠ D := ne_of_none e6 hD
        refine ⟨e, D, _, _, rfl, rfl, eD, s8 _ _ e6, hd8, ?_, ?_⟩
        · rw [dkv_len, dkv_len]
          have h1 := (Sw.flat_nd wb.win i).length_le_of_subset (l₂ := Sw.keys W) fun c hc => by
            obtain ⟨P2, h2, h3⟩ := List.mem_flatten.mp hc
            exact ((Sw.part_of wb.win (List.mem_of_mem_take h2) h3).2).key
          exact Nat.le_trans (show _ ≤ 2000 by omega) (by decide)
        · have dis := Sw.flat_disj wb.win hpart
          rw [merge_new pnd dis]
          have ef : ((Sw.parts W).take (i + 1)).flatten = ((Sw.parts W).take i).flatten ++ part := by rw [ht, List.flatten_append]; simp
          rw [ef]
          refine ⟨some (.ref qa), y2, y3, fun k => if k ∈ part then f2 k else f k, rfl, fun b o hb ne => ?_, ?_, fun k hk => ?_⟩
          · rw [upd_ne ne]
            exact s8 _ _ (o6 _ _ hb ne)
          · rw [upd_same]
            congr 2
            refine dkv_congr fun k _ => ?_
            by_cases z : k ∈ part
            · simp only [if_pos z]
            · simp only [if_neg z]
          · by_cases z : k ∈ part
            · simp only [if_pos z]
              have h9 := hf8 k z
              rw [upd_ne (ne_ob (s8 _ _ e6) h9 (fun z => nomatch z))]
              exact h9
            · simp only [if_neg z]
              have h9 := s8 _ _ (hf k ((List.mem_append.mp hk).elim id fun y => absurd y z))
              rw [upd_ne (ne_ob (s8 _ _ e6) h9 (fun z => nomatch z))]
              exact h9
    · intro σ H6 h6
      obtain ⟨y1, y2, y3, f, rfl, o6, e6, hf⟩ := h6
      rw [List.length_map, LL5.len, List.take_length] at e6 hf
      refine k H6 ⟨dx, pw, pp, e, p, as, m, q, o6 _ _ a5 (Ne.symm ea), o6 _ _ x5 (Ne.symm ed), o6 _ _ w5 (ne_ob e5 w5 (fun z => nomatch z)), o6 _ _ pp5 (ne_ob e5 pp5 (fun z => nomatch z)), LL5.imp (fun b l _ hb => o6 _ _ hb (ne_ob e5 hb (fun z => nomatch z))), f, e6, hf⟩ fun b o h1 h2 h3 => ?_
      obtain ⟨h4, h5⟩ := ok5 b o h1 h2 h3
      exact o6 _ _ h4 h5
end
end Wk

/-! W10: the methods of Web. -/
namespace Wk
open PySem PySem.Spec PyProof.Rows L2
section
variable {X : Cx} {K : PySem.W.Frag} {e : Expr} {f : Str} {pos : Pos} {ta : TE}
theorem pe_slK (hK : X.K = K) (he : PE X e ta) (hb : attributeBase e f X.env (eval e X.env) = eval e X.env := by rfl) : PE X (.Attribute e f pos) (SlX.tSl K ta f) := hK ▸ SlX.pe_sl he hb
def rListOf (K : PySem.W.Frag) : List V → Hp → VK → Prop := fun xs H Q => ∃ p ys, xs = [.ref p] ∧ (SqL K H p ys ∨ SqT K H p ys) ∧ ∀ l, H l = none → Q (.ref l) (upd H l (.lst ys))
theorem call_listK (hK : X.K = K) : CallR X (.type "list") (rListOf K) := hK ▸ call_list_of
end
section
variable {P : Program} {w : World} {K : PySem.W.Frag} {mg : Str → Option Value} {base : Heap} {C : Addr}
def spWLen (C : Addr) : Sp := fun vs H Q _ => ∃ (a : Addr) (W : List Sw.Row) (n : Nat), vs = [.ref a] ∧ WebAt C H a W ∧ Sw.Wb W n ∧ Q (.int (Sw.nodes W).length) H
theorem sc33 : FnScope ["self"] ["self"] dd33.scope := ⟨rfl, rfl, rfl, by decide +kernel, rfl, by decide +kernel, by decide +kernel⟩
theorem c_wlen {a : Addr} {fd : FuncData} (F : FnT K dd33 a fd) (WC : WebC K C) (h1 : mg "len" = none) : FnR P w K mg base CX0 1 a (spWLen C) := by
  refine raw0 (ps := ["self"]) (okF F sc33 (fun vs H Q E h => ?_) fun cdv A outer s H vs Q E hr h => ?_) (F.bindsN fun _ _ _ _ _ _ us hl => match us, hl with | [_], _ => rfl)
  · obtain ⟨_, _, _, rfl, _⟩ := h
    rfl
  · obtain ⟨a, W, n, rfl, ⟨dx, pw, pp, ps, rp, as, m, q, w1, w2, w3, w4, w5, w6⟩, wb, k⟩ := h
    obtain ⟨p4, t4⟩ := WC.s4
    obtain ⟨f, hp, _⟩ := w6
    refine ⟨_, pss_one (ps_ret (pe_callB call_lenD (by rfl) h1 b_len (pa_cons (SlX.pe_sl (pv 0)) pa_nil))), ?_⟩
    refine ⟨_, rfl, a, C, dx, p4, _, 4, .ref ps, rfl, .inr ⟨w1, w2⟩, WC.sc, t4, rfl, ps, _, rfl, hp, ?_⟩
    rw [dkv_len, Sw.flat_len wb.win]
    exact k
def spWWin (C : Addr) : Sp := fun vs H Q _ => ∃ (a : Addr) (W : List Sw.Row), vs = [.ref a] ∧ WebAt C H a W ∧ ∀ (d : Addr) (H' : Hp), Same H H' → H' d = some (.lst (W.map vT)) → Q (.ref d) H'
theorem sc34 : FnScope ["self"] ["self"] dd34.scope := ⟨rfl, rfl, rfl, by decide +kernel, rfl, by decide +kernel, by decide +kernel⟩
theorem c_wwin {a : Addr} {fd : FuncData} (F : FnT K dd34 a fd) (Mm : Meth K C "windows" a) (WC : WebC K C) (h1 : mg "list" = none) : MetS P w K mg base 1 C "windows" (spWWin C) := by
  refine ⟨a, Mm, raw0 (ps := ["self"]) (okF F sc34 (fun vs H Q E h => ?_) fun cdv A outer s H vs Q E hr h => ?_) (F.bindsN fun _ _ _ _ _ _ us hl => match us, hl with | [_], _ => rfl)⟩
  · obtain ⟨_, _, rfl, _⟩ := h
    rfl
  · obtain ⟨a, W, rfl, ⟨dx, pw, pp, ps, rp, as, m, q, w1, w2, w3, w4, w5, w6⟩, k⟩ := h
    obtain ⟨p5, t5⟩ := WC.s5
    refine ⟨_, pss_one (ps_ret (pe_callTy call_list_of (by rfl) h1 b_list (pa_cons (SlX.pe_sl (pv 0)) pa_nil))), ?_⟩
    exact ⟨_, rfl, a, C, dx, p5, _, 5, .ref pw, rfl, .inr ⟨w1, w2⟩, WC.sc, t5, rfl, pw, _, rfl, .inl (SqL.of w3), fun l hl => k l _ (same_upd hl) upd_same⟩
def spWNodes (C : Addr) : Sp := fun vs H Q _ => ∃ (a : Addr) (W : List Sw.Row) (n : Nat), vs = [.ref a] ∧ WebAt C H a W ∧ Sw.Wb W n ∧ ∀ (d : Addr) (H' : Hp), Same H H' → H' d = some (.lst ((Sw.nodes W).map vT)) → Q (.ref d) H'
theorem sc35 : FnScope ["self"] ["self"] dd35.scope := ⟨rfl, rfl, rfl, by decide +kernel, rfl, by decide +kernel, by decide +kernel⟩
theorem c_wnodes {a : Addr} {fd : FuncData} (F : FnT K dd35 a fd) (Mm : Meth K C "nodes" a) (WC : WebC K C) (h1 : mg "sorted" = none) : MetS P w K mg base 1 C "nodes" (spWNodes C) := by
  refine ⟨a, Mm, raw0 (ps := ["self"]) (okF F sc35 (fun vs H Q E h => ?_) fun cdv A outer s H vs Q E hr h => ?_) (F.bindsN fun _ _ _ _ _ _ us hl => match us, hl with | [_], _ => rfl)⟩
  · obtain ⟨_, _, _, rfl, _⟩ := h
    rfl
  · obtain ⟨a, W, n, rfl, ⟨dx, pw, pp, ps, rp, as, m, q, w1, w2, w3, w4, w5, w6⟩, wb, k⟩ := h
    obtain ⟨p4, t4⟩ := WC.s4
    obtain ⟨f, hp, _⟩ := w6
    refine ⟨_, pss_one (ps_ret (pe_callB (call_sortedDT (by rfl)) (by rfl) h1 b_sorted (pa_cons (SlX.pe_sl (pv 0)) pa_nil))), ?_⟩
    refine ⟨_, rfl, a, C, dx, p4, _, 4, .ref ps, rfl, .inr ⟨w1, w2⟩, WC.sc, t4, rfl, ps, _, _, rfl, .inl hp, by rw [dkv_keys], fun l hl => k l _ (same_upd hl) ?_⟩
    rw [upd_same, Sw.srt_flat wb.win]
def spWSteps (C : Addr) : Sp := fun vs H Q _ => ∃ (a : Addr) (W : List Sw.Row) (n : Nat), vs = [.ref a] ∧ WebAt C H a W ∧ Sw.Wb W n ∧ ∀ (d : Addr) (H' : Hp), Same H H' → DL H' d (Sw.nodes W) (Sw.wgoals W) → Q (.ref d) H'
theorem sc36 : FnScope ["self", "node"] ["self"] dd36.scope := ⟨rfl, rfl, rfl, by decide +kernel, rfl, by decide +kernel, by decide +kernel⟩
theorem c_wsteps {a : Addr} {fd : FuncData} (F : FnT K dd36 a fd) (Mm : Meth K C "steps" a) (WC : WebC K C) (h1 : mg "sorted" = none) (h2 : mg "list" = none) : MetS P w K mg base 1 C "steps" (spWSteps C) := by
  refine ⟨a, Mm, raw0 (ps := ["self"]) (okF F sc36 (fun vs H Q E h => ?_) fun cdv A outer s H vs Q E hr h => ?_) (F.bindsN fun _ _ _ _ _ _ us hl => match us, hl with | [_], _ => rfl)⟩
  · obtain ⟨_, _, _, rfl, _⟩ := h
    rfl
  · obtain ⟨a, W, n, rfl, ⟨dx, pw, pp, ps, rp, as, m, q, w1, w2, w3, w4, w5, w6⟩, wb, k⟩ := h
    obtain ⟨p4, t4⟩ := WC.s4
    obtain ⟨f, hp, hf⟩ := w6
    refine ⟨_, pss_one (ps_ret (pe_dc (own := [("node", 1)]) (g := gName 1) (tt := tYes) (by rfl) sc36.nd (pi_list (pe_callB (call_sortedDT (by rfl)) (by rfl) h1 b_sorted (pa_cons (SlX.pe_sl (pv 0)) pa_nil))) (blkOk_by (N := ["self", "node"]) (sc := dd36.scope) (by decide +kernel))
      (fun _ _ _ _ _ => pg_name (i := 1) sc36.nd rfl (Or.inl rfl)) (fun _ _ _ _ _ => pts_nil) (fun _ _ _ _ _ => pv 1)
      (fun _ _ _ _ _ => pe_callTy (call_listK (K := K) rfl) (by rfl) h2 b_list (pa_cons (pe_dget (hu_of hr) (pe_slK (K := K) rfl (pv 0)) (pv 1) (fun _ _ => rfl)) pa_nil)))), ?_⟩
    refine ⟨_, rfl, a, C, dx, p4, _, 4, .ref ps, rfl, .inr ⟨w1, w2⟩, WC.sc, t4, rfl, ps, _, _, rfl, .inl hp, by rw [dkv_keys], fun l hl => ?_⟩
    rw [Sw.srt_flat wb.win]
    refine ⟨l, rfl, ⟨_, SqL.of upd_same⟩, fun D hD => ?_⟩
    have S1 := same_upd (H := H) (o := .lst ((Sw.nodes W).map vT)) hl
    generalize hH1 : upd H l (.lst ((Sw.nodes W).map vT)) = H1 at *
    have l1 : H1 l = some (.lst ((Sw.nodes W).map vT)) := by rw [← hH1]; exact upd_same
    have nnd := Sw.strict_nodup (Sw.nodes_asc wb.win)
    have nk : ∀ c ∈ Sw.nodes W, c ∈ Sw.flat W := fun c hc => (Sw.mem_flat wb.win).mpr (Sw.mem_nodes.mp hc)
    have nz : (Sw.nodes W).length ≤ 1000 := Nat.le_trans (nnd.length_le_of_subset fun c hc => Sw.flat_sub wb.win (nk c hc)) wb.keys_len
    refine dc_it (walk_list (K := K) (a := l) (xs := (Sw.nodes W).map vT)) (fun j H8 => ∃ f2, Same H1 H8 ∧ H8 D = some (.dK (dkv ((Sw.nodes W).take j) fun k => .ref (f2 k))) ∧ ∀ k ∈ (Sw.nodes W).take j, H8 (f2 k) = some (.lst ((Sw.wgoals W k).map vT)))
        ⟨fun _ => D, same_upd hD, by rw [upd_same]; rfl, fun k hk => absurd hk (by simp)⟩ (fun j H8 _ h8 => by
          obtain ⟨_, s8, _⟩ := h8
          exact SqL.of (s8 _ _ l1)) ?_ ?_
    · intro j x H8 H9 hj h8 yy
      obtain ⟨rfl, hx⟩ := yy
      obtain ⟨f2, s8, hd8, hf8⟩ := h8
      rw [List.getElem?_map] at hx
      obtain ⟨o, ho1, ho2⟩ := Option.map_eq_some_iff.mp hx
      subst ho2
      have hoP : o ∈ Sw.nodes W := List.mem_of_getElem? ho1
      have htj : (Sw.nodes W).take (j + 1) = (Sw.nodes W).take j ++ [o] := by rw [List.take_add_one, ho1]; rfl
      have on : o ∉ (Sw.nodes W).take j := by
        have q := nnd.sublist (List.take_sublist (j + 1) (Sw.nodes W))
        rw [htj, List.nodup_append] at q
        intro z
        exact q.2.2 o z o (by simp) rfl
      have s9 := S1.trans s8
      have fo := s9 _ _ (hf o (nk o hoP))
      refine ⟨by rfl, ?_⟩
      unfold tYes
      refine iteT ⟨_, rfl, _, rfl, a, C, dx, p4, _, 4, .ref ps, rfl, .inr ⟨s9 _ _ w1, s9 _ _ w2⟩, WC.sc, t4, rfl, _, rfl, ps, _, rfl, dget_in (s9 _ _ hp) (nk o hoP), f o, _, rfl, .inl (SqL.of fo), fun D3 hD3 => ?_⟩
      have D3D : D ≠ D3 := ne_of_none hd8 hD3
      refine ⟨_, kT o, rfl, by rw [upd_ne D3D]; exact hd8, ?_, ?_⟩
      · rw [dkv_len]
        exact Nat.lt_of_le_of_lt (Nat.le_trans (List.length_take_le' _ _) nz) (by decide)
      · rw [put_new _ on, htj]
        obtain ⟨f3, g1, g2⟩ : ∃ f3 : Sw.Row → Addr, f3 o = D3 ∧ ∀ k, k ≠ o → f3 k = f2 k := ⟨fun k => if k = o then D3 else f2 k, if_pos rfl, fun k n => if_neg n⟩
        refine ⟨f3, same_upd2 (s8.trans (same_upd hD3)) hD, ?_, fun k hk => ?_⟩
        · rw [upd_same]
          congr 2
          refine dkv_congr fun k _ => ?_
          by_cases z : k = o
          · rw [if_pos z, z, g1]
          · rw [if_neg z, g2 k z]
        · by_cases z : k = o
          · rw [z, g1, upd_ne (Ne.symm D3D), upd_same]
          · have hk : k ∈ (Sw.nodes W).take j := (List.mem_append.mp hk).elim id fun y => absurd (List.mem_singleton.mp y) z
            have h9 := hf8 k hk
            rw [g2 k z, upd_ne (ne_ob hd8 h9 (fun z => nomatch z)), upd_ne (ne_of_none h9 hD3)]
            exact h9
    · intro H8 h8
      obtain ⟨f2, s8, hd8, hf8⟩ := h8
      rw [List.length_map, List.take_length] at hd8 hf8
      exact k D H8 (S1.trans s8) ⟨f2, hd8, hf8⟩
def spWParts (C : Addr) : Sp := fun vs H Q _ => ∃ (a : Addr) (W : List Sw.Row) (n : Nat), vs = [.ref a] ∧ WebAt C H a W ∧ Sw.Wb W n ∧ ∀ (d : Addr) (as : List Addr) (H' : Hp), Same H H' → H' d = some (.lst (as.map V.ref)) → LL H' as (Sw.parts W) → Q (.ref d) H'
theorem sc37 : FnScope ["self", "part"] ["self"] dd37.scope := ⟨rfl, rfl, rfl, by decide +kernel, rfl, by decide +kernel, by decide +kernel⟩
theorem parts_len {W : List Sw.Row} {n : Nat} (wb : Sw.Wb W n) : (Sw.parts W).length ≤ 1000 := by
  unfold Sw.parts
  rw [List.length_map]
  unfold Sw.heads
  exact Nat.le_trans (List.length_filter_le _ _) wb.keys_len
theorem c_wparts {a : Addr} {fd : FuncData} (F : FnT K dd37 a fd) (Mm : Meth K C "parts" a) (WC : WebC K C) (h2 : mg "list" = none) : MetS P w K mg base 1 C "parts" (spWParts C) := by
  refine ⟨a, Mm, raw0 (ps := ["self"]) (okF F sc37 (fun vs H Q E h => ?_) fun cdv A outer s H vs Q E hr h => ?_) (F.bindsN fun _ _ _ _ _ _ us hl => match us, hl with | [_], _ => rfl)⟩
  · obtain ⟨_, _, _, rfl, _⟩ := h
    rfl
  · obtain ⟨a, W, n, rfl, ⟨dx, pw, pp, ps, rp, as, m, q, w1, w2, w3, w4, w5, w6⟩, wb, k⟩ := h
    obtain ⟨p1, t1⟩ := WC.s1
    refine ⟨_, pss_one (ps_ret (pe_lc (own := [("part", 1)]) (g := gName 1) (tt := tYes) (by rfl) sc37.nd (pi_list (SlX.pe_sl (pv 0))) (blkOk_by (N := ["self", "part"]) (sc := dd37.scope) (by decide +kernel))
      (fun _ _ _ _ _ => pg_name (i := 1) sc37.nd rfl (Or.inl rfl)) (fun _ _ _ _ _ => pts_nil) (fun _ _ _ _ _ => pe_callTy (call_listK (K := K) rfl) (by rfl) h2 b_list (pa_cons (pv 1) pa_nil)))), ?_⟩
    refine ⟨_, rfl, a, C, dx, p1, _, 1, .ref pp, rfl, .inr ⟨w1, w2⟩, WC.sc, t1, rfl, pp, rfl, ⟨_, SqL.of w4⟩, fun D hD => ?_⟩
    have al : as.length ≤ 1000 := by rw [w5.len]; exact parts_len wb
    refine lc_it (walk_list (K := K) (a := pp) (xs := as.map V.ref)) (fun j H8 => ∃ bs, Same H H8 ∧ H8 D = some (.lst (bs.map V.ref)) ∧ bs.length ≤ j ∧ LL H8 bs ((Sw.parts W).take j) ∧ ∀ b ∈ bs, b ≠ D)
      ⟨[], same_upd hD, upd_same, Nat.le_refl _, .nil, fun b hb => absurd hb (by simp)⟩ (fun j H8 _ h8 => by
        obtain ⟨_, s8, _⟩ := h8
        exact SqL.of (s8 _ _ w4)) ?_ ?_
    · intro j x H8 H9 hj h8 yy
      obtain ⟨rfl, hx⟩ := yy
      obtain ⟨bs, s8, hd8, bl, ll8, ne8⟩ := h8
      rw [List.getElem?_map] at hx
      obtain ⟨qa, hqa, hx2⟩ := Option.map_eq_some_iff.mp hx
      subst hx2
      obtain ⟨part, hpart, hqP⟩ := (w5.same s8).at hqa
      have htj : (Sw.parts W).take (j + 1) = (Sw.parts W).take j ++ [part] := by rw [List.take_add_one, hpart]; rfl
      have hj : j < as.length := by rw [List.length_map] at hj; exact hj
      refine ⟨by rfl, ?_⟩
      unfold tYes
      refine iteT ⟨_, rfl, qa, _, rfl, .inl (SqL.of hqP), fun l hl => ?_⟩
      have Dl : D ≠ l := ne_of_none hd8 hl
      refine ⟨_, by rw [upd_ne Dl]; exact hd8, ?_, bs ++ [l], ?_, ?_, ?_, ?_, ?_⟩
      · rw [List.length_map]
        exact Nat.lt_of_le_of_lt (show _ ≤ 1000 by omega) (by decide)
      · exact same_upd2 (s8.trans (same_upd hl)) hD
      · rw [upd_same, List.map_append]
        rfl
      · rw [List.length_append]
        show _ + 1 ≤ _
        omega
      · rw [htj]
        refine Paired.snoc (LL.imp ll8 fun q m hq hm => ?_) ?_
        · rw [upd_ne (ne8 q hq), upd_ne (ne_of_none hm hl)]
          exact hm
        · rw [upd_ne (Ne.symm Dl), upd_same]
      · intro b hb
        rcases List.mem_append.mp hb with hb | hb
        · exact ne8 b hb
        · rw [List.mem_singleton.mp hb]
          exact Ne.symm Dl
    · intro H8 h8
      obtain ⟨bs, s8, hd8, bl, ll8, ne8⟩ := h8
      rw [List.length_map, w5.len, List.take_length] at ll8
      exact k D bs H8 s8 hd8 ll8
def spWPers (C : Addr) : Sp := fun vs H Q _ => ∃ (a : Addr) (W : List Sw.Row) (n : Nat), vs = [.ref a] ∧ WebAt C H a W ∧ Sw.Wb W n ∧ ∀ (d : Addr) (gs : List Nat) (H' : Hp), Same H H' → H' d = some (.lst (gs.map fun (g : Nat) => V.int g)) → Paired (fun P g => Sw.IsPer W P g) (Sw.parts W) gs → Q (.ref d) H'
theorem sc38 : FnScope ["self", "part"] ["self"] dd38.scope := ⟨rfl, rfl, rfl, by decide +kernel, rfl, by decide +kernel, by decide +kernel⟩
theorem c_wpers {a : Addr} {fd : FuncData} (F : FnT K dd38 a fd) (Mm : Meth K C "periods" a) (WC : WebC K C) (c : Cl P w K mg base 2 "period_by" spPer) : MetS P w K mg base 3 C "periods" (spWPers C) := by
  refine ⟨a, Mm, raw0 (ps := ["self"]) (okF F sc38 (fun vs H Q E h => ?_) fun cdv A outer s H vs Q E hr h => ?_) (F.bindsN fun _ _ _ _ _ _ us hl => match us, hl with | [_], _ => rfl)⟩
  · obtain ⟨_, _, _, rfl, _⟩ := h
    rfl
  · obtain ⟨a, W, n, rfl, ⟨dx, pw, pp, ps, rp, as, m, q, w1, w2, w3, w4, w5, w6⟩, wb, k⟩ := h
    obtain ⟨p1, t1⟩ := WC.s1
    obtain ⟨p4, t4⟩ := WC.s4
    refine ⟨_, pss_one (ps_ret (pe_lc (own := [("part", 1)]) (g := gName 1) (tt := tYes) (by rfl) sc38.nd (pi_list (SlX.pe_sl (pv 0))) (blkOk_by (N := ["self", "part"]) (sc := dd38.scope) (by decide +kernel))
      (fun _ _ _ _ _ => pg_name (i := 1) sc38.nd rfl (Or.inl rfl)) (fun _ _ _ _ _ => pts_nil) (fun _ _ _ _ _ => C8.pe_c c hr (by decide) (by rfl) (pa_cons (pe_slK (K := K) rfl (pv 0)) (pa_cons (pv 1) pa_nil))))), ?_⟩
    refine ⟨_, rfl, a, C, dx, p1, _, 1, .ref pp, rfl, .inr ⟨w1, w2⟩, WC.sc, t1, rfl, pp, rfl, ⟨_, SqL.of w4⟩, fun D hD => ?_⟩
    have al : as.length ≤ 1000 := by rw [w5.len]; exact parts_len wb
    refine lc_it (walk_list (K := K) (a := pp) (xs := as.map V.ref)) (fun j H8 => ∃ gs : List Nat, Same H H8 ∧ H8 D = some (.lst (gs.map fun (g : Nat) => V.int g)) ∧ gs.length ≤ j ∧ Paired (fun P g => Sw.IsPer W P g) ((Sw.parts W).take j) gs)
      ⟨[], same_upd hD, upd_same, Nat.le_refl _, .nil⟩ (fun j H8 _ h8 => by
        obtain ⟨_, s8, _⟩ := h8
        exact SqL.of (s8 _ _ w4)) ?_ ?_
    · intro j x H8 H9 hj h8 yy
      obtain ⟨rfl, hx⟩ := yy
      obtain ⟨gs, s8, hd8, bl, pa8⟩ := h8
      rw [List.getElem?_map] at hx
      obtain ⟨qa, hqa, hx2⟩ := Option.map_eq_some_iff.mp hx
      subst hx2
      obtain ⟨part, hpart, hqP⟩ := (w5.same s8).at hqa
      have hP := List.mem_of_getElem? hpart
      have htj : (Sw.parts W).take (j + 1) = (Sw.parts W).take j ++ [part] := by rw [List.take_add_one, hpart]; rfl
      have hj : j < as.length := by rw [List.length_map] at hj; exact hj
      refine ⟨by rfl, ?_⟩
      unfold tYes
      refine iteT ⟨_, rfl, a, C, dx, p4, _, 4, .ref ps, rfl, .inr ⟨s8 _ _ w1, s8 _ _ w2⟩, WC.sc, t4, rfl, _, rfl, ps, qa, W, n, Sw.flat W, part, rfl, wb, w6.same s8, hqP, hP, fun c hc => (Sw.mem_flat wb.win).mpr (Sw.part_of wb.win hP hc).2, fun g H10 s10 ig => ?_⟩
      refine ⟨_, s10 _ _ hd8, ?_, gs ++ [g], ?_, ?_, ?_, ?_⟩
      · rw [List.length_map]
        exact Nat.lt_of_le_of_lt (show _ ≤ 1000 by omega) (by decide)
      · exact same_upd2 (s8.trans s10) hD
      · rw [upd_same, List.map_append]
        rfl
      · rw [List.length_append]
        show _ + 1 ≤ _
        omega
      · rw [htj]
        exact Paired.snoc pa8 ig
    · intro H8 h8
      obtain ⟨gs, s8, hd8, bl, pa8⟩ := h8
      rw [List.length_map, w5.len, List.take_length] at pa8
      exact k D gs H8 s8 hd8 pa8
end
end Wk

/-! W11: ways_back, all_back. -/
namespace Sw
structure Gr (g : Row → List Row) (ks : List Row) : Prop where
  nd : ks.Nodup
  len : ks.length ≤ 1000
  cl : ∀ a ∈ ks, ∀ b ∈ g a, b ∈ ks
  out : ∀ a, a ∉ ks → g a = []
  deg : ∀ a, (g a).length ≤ 4
section
variable (g : Row → List Row) (ks : List Row) (s : Row)
def kN : Nat → List Row
  | 0 => [s]
  | m + 1 => ks.filter fun a => decide (0 < wb g s (m + 1) a)
end
section
variable {g : Row → List Row} {ks : List Row} {s : Row}
theorem kN_pos {m : Nat} {a : Row} (ha : a ∈ ks ∨ m = 0) : a ∈ kN g ks s m ↔ 0 < wb g s m a := by
  match m with
  | 0 =>
    unfold kN wb
    by_cases h : a = s
    · simp [h]
    · simp [h]
  | m + 1 =>
    unfold kN
    rw [List.mem_filter]
    constructor
    · intro h
      simpa using h.2
    · intro h
      exact ⟨ha.elim id fun z => by omega, by simpa using h⟩
theorem kN_len {m : Nat} (G : Gr g ks) : (kN g ks s m).length ≤ 1000 := by
  match m with
  | 0 => exact (show 1 ≤ 1000 by decide)
  | m + 1 => exact Nat.le_trans (List.length_filter_le _ _) G.len
end
end Sw
namespace Wk
open PySem PySem.Spec PyProof.Rows L2
/-- a dict from nodes to how many ways lead back -/
def BD (g : Sw.Row → List Sw.Row) (ks : List Sw.Row) (s : Sw.Row) (H : Hp) (p : Addr) (m : Nat) : Prop := H p = some (.dK (dkv (Sw.kN g ks s m) fun a => .int (Sw.wb g s m a)))
/-- the list that ways_back gives -/
def BK (g : Sw.Row → List Sw.Row) (ks : List Sw.Row) (s : Sw.Row) (n : Nat) (N : Addr → Prop) (H : Hp) (l : Addr) : Prop := ∃ as : List Addr, H l = some (.lst (as.map V.ref)) ∧ as.length = n + 1 ∧ ∀ i p, as[i]? = some p → BD g ks s H p (n - i) ∧ N p
theorem BK.same {g : Sw.Row → List Sw.Row} {ks : List Sw.Row} {s : Sw.Row} {n : Nat} {N : Addr → Prop} {H H' : Hp} {l : Addr} (b : BK g ks s n N H l) (h : Same H H') : BK g ks s n N H' l := by
  obtain ⟨as, h1, h2, h3⟩ := b
  exact ⟨as, h _ _ h1, h2, fun i p q => ⟨h _ _ (h3 i p q).1, (h3 i p q).2⟩⟩
theorem b_range : bootBuiltins "range" = some (.type "range") := by decide +kernel
theorem sum_wb {g : Sw.Row → List Sw.Row} {s : Sw.Row} {j : Nat} (c : Sw.Row) : ((g c).map fun b => ((Sw.wb g s j b : Nat) : Int)).sum = ((Sw.wb g s (j + 1) c : Nat) : Int) := by
  have e : Sw.wb g s (j + 1) c = ((g c).map (Sw.wb g s j)).sum := by rw [Sw.wb]
  rw [e]
  generalize g c = l
  induction l with
  | nil => rfl
  | cons b l ih =>
    rw [List.map_cons, List.map_cons, List.sum_cons, List.sum_cons, ih]
    omega
theorem bd_get {g : Sw.Row → List Sw.Row} {ks : List Sw.Row} {s : Sw.Row} {H : Hp} {p : Addr} {m : Nat} (h : BD g ks s H p m) {b : Sw.Row} (hb : b ∈ ks) : ∃ o, DGet H p (vT b) o ∧ o.getD (.int 0) = .int (Sw.wb g s m b) := by
  refine ⟨_, DGet.k (k := kT b) h, ?_⟩
  rw [valV_dkv]
  by_cases q : b ∈ Sw.kN g ks s m
  · rw [if_pos q]
    rfl
  · rw [if_neg q]
    have : Sw.wb g s m b = 0 := Nat.le_zero.mp (Nat.not_lt.mp fun z => q ((Sw.kN_pos (.inl hb)).mpr z))
    rw [this]
    rfl
section
variable {P : Program} {w : World} {K : PySem.W.Frag} {mg : Str → Option Value} {base : Heap} {C : Addr}
def spWays : Sp := fun vs H Q _ => ∃ (f d : Addr) (g : Sw.Row → List Sw.Row) (ks : List Sw.Row) (s : Sw.Row) (n : Nat), vs = [vT s, .int n, .ref f] ∧ GivesD H f d ∧ DL H d ks g ∧ Sw.Gr g ks ∧ n ≤ 100 ∧ ∀ (l : Addr) (H' : Hp), H l = none → Same H H' → BK g ks s n (fun p => H p = none) H' l → Q (.ref l) H'
abbrev N14 : List Str := ["start", "size", "steps_at", "found", "at", "later", "here", "node", "goals", "many", "goal"]
theorem sc14 : FnScope N14 ["start", "size", "steps_at"] dd14.scope := ⟨rfl, rfl, rfl, by decide +kernel, rfl, by decide +kernel, by decide +kernel⟩
theorem c_ways_back {a : Addr} {fd : FuncData} (F : FnT K dd14 a fd) (hm : mg "ways_back" = some (.ref a)) (h1 : mg "range" = none) (h2 : mg "sum" = none) : Cl P w K mg base 1 "ways_back" spWays := by
  refine cl_of F hm (ps := ["start", "size", "steps_at"]) (F.bindsN fun _ _ _ _ _ _ us hl => match us, hl with | [_, _, _], _ => rfl) (okF F sc14 (fun vs H Q E h => ?_) fun cdv A outer s H vs Q E hr h => ?_)
  · obtain ⟨_, _, _, _, _, _, rfl, _⟩ := h
    rfl
  · obtain ⟨f, d, g, ks, s0, n, rfl, gv, D, G, hn, k⟩ := h
    refine ⟨_, pss_cons (ps_set (i := 3) sc14.nd rfl (Or.inl rfl) (pe_lst (pa_cons (pe_disp (pps_cons (pv 0) pe_int pps_nil) (by rfl) (by rfl) (fun z => by cases z) (by decide)) pa_nil)))
      (pss_cons (ps_for PassesOwn.never rfl (pi_range3 (by rfl) h1 (pa_cons (pe_op op_sub (pv 1) pe_int) (pa_cons (pe_un un_neg pe_int) (pa_cons (pe_un un_neg pe_int) pa_nil)))) (pg_name (i := 4) sc14.nd rfl (Or.inl rfl))
        (pss_cons (ps_asg (pe_tup (pa_cons (pe_ix ix_list (pv 3) (pe_un un_neg pe_int) (fun _ _ => rfl)) (pa_cons pe_dnewK pa_nil))) (pg_tup rfl (pgs_cons (pg_name (i := 5) sc14.nd rfl (Or.inr rfl)) (pgs_cons (pg_name (i := 6) sc14.nd rfl (Or.inl rfl)) pgs_nil))))
        (pss_cons (ps_lock (ps_for PassesOwn.never rfl (pi_items (pe_lamVar (x := "steps_at") (i := 2) rfl (.inl rfl) hr (pa_cons (pv 4) pa_nil))) (pg_tup rfl (pgs_cons (pg_name (i := 7) sc14.nd rfl (Or.inl rfl)) (pgs_cons (pg_name (i := 8) sc14.nd rfl (Or.inl rfl)) pgs_nil)))
          (pss_cons (ps_set (i := 9) sc14.nd rfl (Or.inl rfl) (pe_callB (cr_sum rfl) (by rfl) h2 b_sum (pa_cons (pe_lc (own := [("goal", 10)]) (g := gName 10) (tt := tYes) rfl sc14.nd (pi_list (pv 8)) (blkOk_by (N := N14) (sc := dd14.scope) (by decide +kernel))
            (fun _ _ _ _ _ => pg_name (i := 10) sc14.nd rfl (Or.inl rfl)) (fun _ _ _ _ _ => pts_nil) (fun _ _ _ _ _ => pe_dget2 (hu_of hr) (pv 5) (pv 10) pe_int ⟨rfl, rfl, rfl, rfl⟩)) pa_nil)))
          (pss_one (ps_if (pt_cmpR op_gt (pv 9) pe_int (nomark _)) (pss_one (ps_dput (hu_of hr) (pv 6) (pv 7) (pv 9) rfl)) pss_nil)))))
        (pss_one (ps_expr (pe_bm PySem.F.plainAttrs_list PySem.F.slot_list_append PySem.F.type_list_append mt_append (pv 3) (pa_cons (pv 6) pa_nil)))))))
      (pss_one (ps_ret (pe_revL (pv 3))))), ?_⟩
    obtain ⟨fd, hd, hfd⟩ := id D
    intro p0 hp0
    refine ⟨_, rfl, upd_same, [(kT s0, .int 1)], rfl, (show 1 ≤ 15 by decide), ?_⟩
    rw [upd_upd, show mergeK [] [(kT s0, V.int 1)] = dkv [s0] (fun _ => V.int 1) from rfl]
    have S1 : Same H (upd H p0 (.dK (dkv [s0] fun _ => .int 1))) := same_upd hp0
    have B0 : BD g ks s0 (upd H p0 (.dK (dkv [s0] fun _ => .int 1))) p0 0 := by
      unfold BD
      rw [upd_same]
      congr 2
      refine dkv_congr fun a ha => ?_
      rw [List.mem_singleton.mp ha, Sw.wb, if_pos rfl]
      rfl
    generalize hH1 : upd H p0 (.dK (dkv [s0] fun _ => .int 1)) = H1 at *
    refine ⟨(show 1 ≤ sizeLine by decide), fun l hl => ?_⟩
    have Hl : H l = none := S1.free hl
    refine ⟨_, rfl, (n : Int), 1, rfl, rfl, 1, rfl, 1, rfl, (n : Int) - 1, -1, -1, _, rfl, RgC.neg (by omega) (by omega) (by omega) (by omega), ?_⟩
    have en : ((n : Int) - 1 - -1).toNat = n := by omega
    rw [en]
    have Hd : ∀ {b : Addr}, H b = none → b ≠ d := fun hb => Ne.symm (ne_of_none hd hb)
    refine for_it (walk_rangeC (lo := (n : Int) - 1) (c := -1) (n := n)) (fun j σ H2 => ∃ x4 x5 x6 x7 x8 x9 x10 as, σ = [some (vT s0), some (.int n), some (.ref f), some (.ref l), x4, x5, x6, x7, x8, x9, x10] ∧ Same H H2 ∧ H2 l = some (.lst (as.map V.ref)) ∧ as.length = j + 1 ∧ ∀ i p, as[i]? = some p → BD g ks s0 H2 p i ∧ H p = none)
      ⟨none, none, none, none, none, none, none, [p0], rfl, same_upd2 S1 Hl, upd_same, rfl, fun i p hp => ?_⟩ (fun _ _ _ _ _ => trivial) ?_ ?_
    · match i, hp with
      | 0, hp =>
        simp only [List.getElem?_cons_zero, Option.some.injEq] at hp
        subst hp
        exact ⟨(same_upd hl) _ _ B0, hp0⟩
      | i + 1, hp => simp at hp
    · intro j x σ H2 H3 hj h2 y
      obtain ⟨rfl, rfl⟩ := y
      obtain ⟨x4, x5, x6, x7, x8, x9, x10, as, rfl, s2, hl2, al, bd⟩ := h2
      obtain ⟨aj, haj⟩ : ∃ aj, as[j]? = some aj := ⟨_, List.getElem?_eq_getElem (by omega)⟩
      obtain ⟨bdj, naj⟩ := bd j aj haj
      have hat : atI (as.map V.ref) (-1) = some (V.ref aj) := by
        have e : as = as.take j ++ [aj] := by
          have h1 : as.take (j + 1) = as := by rw [← al, List.take_length]
          rw [List.take_add_one, haj] at h1
          exact h1.symm
        rw [e, List.map_append]
        exact atI_last _ _
      refine ⟨_, rfl, 1, rfl, l, _, _, _, rfl, rfl, SqL.of hl2, hat, ?_⟩
      intro e he
      refine ⟨(show 2 ≤ sizeLine by decide), fun t ht => ⟨t, _, rfl, SqT.of upd_same, rfl, _, _, rfl, _, _, rfl, rfl, ?_⟩⟩
      have et : e ≠ t := ne_of_none upd_same ht
      have S3 : Same H3 (upd (upd H3 e (.dK [])) t (.tup [.ref aj, .ref e])) := same_upd2 (same_upd he) ((same_upd he).free ht)
      have e3 : (upd (upd H3 e (.dK [])) t (.tup [.ref aj, .ref e])) e = some (.dK []) := by rw [upd_ne et, upd_same]
      generalize hG3 : upd (upd H3 e (.dK [])) t (.tup [.ref aj, .ref e]) = G3 at *
      have sG := s2.trans S3
      have He : H e = none := s2.free he
      refine ⟨d, _, sG _ _ hd, trivial, fun od => ?_⟩
      have gvL : ∀ {H4 : Hp}, (∀ b o, G3 b = some o → b ≠ d → b ≠ e → H4 b = some o) → GivesD H4 f d := fun {H4} o4 => by
        obtain ⟨c, c', ob, g1, g2, g3, g4⟩ := gv
        exact ⟨c, c', ob, o4 _ _ (sG _ _ g1) (ne_ob hd g1 (fun z => by unfold LamO at z; cases z)) (ne_of_none g1 He), o4 _ _ (sG _ _ g2) (ne_ob hd g2 (fun z => by unfold CellO at z; cases z)) (ne_of_none g2 He), g3,
          o4 _ _ (sG _ _ g4) (ne_ob hd g4 (fun z => by unfold LamX.CodeO at z; cases z)) (ne_of_none g4 He)⟩
      refine ⟨f, d, rfl, gvL fun b o hb h1 h2 => by rw [upd_ne h1]; exact hb, _, rfl, _, rfl, rfl, d, od, _, rfl, upd_same, ?_⟩
      have de : d ≠ e := Ne.symm (Hd He)
      refine for_it (walk_items (d := d) (o := od) (kvs := dkv ks fun k => V.ref (fd k))) (fun i σ H4 => ∃ x7 x8 x9 x10, σ = [some (vT s0), some (.int n), some (.ref f), some (.ref l), some (.int ((n : Int) - 1 + (j : Nat) * -1)), some (.ref aj), some (.ref e), x7, x8, x9, x10] ∧ (∀ b o, G3 b = some o → b ≠ d → b ≠ e → H4 b = some o) ∧
          H4 d = some (.frz od (.dK (dkv ks fun k => V.ref (fd k)))) ∧ H4 e = some (.dK (dkv ((ks.take i).filter fun a => decide (0 < Sw.wb g s0 (j + 1) a)) fun a => .int (Sw.wb g s0 (j + 1) a))))
        ⟨x7, x8, x9, x10, rfl, fun b o hb h1 h2 => by rw [upd_ne h1]; exact hb, upd_same, by rw [upd_ne (Ne.symm de), e3]; rfl⟩ (fun i σ H4 _ h4 => by
          obtain ⟨_, _, _, _, _, _, h, _⟩ := h4
          exact h) ?_ ?_
      · intro i x σ H4 H5 hi h4 y
        obtain ⟨T0, u1, u2, rfl, hT0, rfl, hu1, hu2⟩ := y
        obtain ⟨y7, y8, y9, y10, rfl, o4, hd4, he4⟩ := h4
        rw [dkv_len] at hi
        obtain ⟨c, hc⟩ : ∃ c, ks[i]? = some c := ⟨_, List.getElem?_eq_getElem hi⟩
        have hkc : (dkv ks fun k => V.ref (fd k))[i]? = some (kT c, V.ref (fd c)) := by
          unfold dkv
          rw [List.getElem?_map, hc]
          rfl
        have hu1 : u1 = vT c := by
          have hu1 : (dkv ks fun k => V.ref (fd k))[i]?.map (fun kv => kV kv.1) = some u1 := hu1
          rw [hkc] at hu1
          exact (Option.some.inj hu1).symm
        have hu2 : u2 = .ref (fd c) := by
          have hu2 : (dkv ks fun k => V.ref (fd k))[i]?.map Prod.snd = some u2 := hu2
          rw [hkc] at hu2
          exact (Option.some.inj hu2).symm
        subst hu1 hu2
        have cK : c ∈ ks := List.mem_of_getElem? hc
        have ht : ks.take (i + 1) = ks.take i ++ [c] := by rw [List.take_add_one, hc]; rfl
        have cn : c ∉ ks.take i := by
          have q := G.nd.sublist (List.take_sublist (i + 1) ks)
          rw [ht, List.nodup_append] at q
          intro z
          exact q.2.2 c z c (by simp) rfl
        have S5 : Same H4 (upd H4 T0 (.tup [vT c, .ref (fd c)])) := same_upd hT0
        refine ⟨T0, _, rfl, SqT.of upd_same, rfl, _, _, rfl, _, _, rfl, rfl, ?_⟩
        generalize hG5 : upd H4 T0 (.tup [vT c, .ref (fd c)]) = G5 at *
        have hfc : G5 (fd c) = some (.lst ((g c).map vT)) := S5 _ _ (o4 _ _ (sG _ _ (hfd c cK)) (ne_ob hd (hfd c cK) (fun z => nomatch z)) (ne_of_none (hfd c cK) He))
        have ajn : aj ≠ d ∧ aj ≠ e := ⟨Hd naj, ne_of_none bdj he⟩
        have bdj5 : BD g ks s0 G5 aj j := S5 _ _ (o4 _ _ (S3 _ _ bdj) ajn.1 ajn.2)
        refine ⟨_, rfl, fd c, rfl, ⟨_, SqL.of hfc⟩, fun D0 hD0 => ?_⟩
        refine lc_map (walk_list (K := K) (a := fd c) (xs := (g c).map vT)) (fun v => match v with | .str z => .int (Sw.wb g s0 j z.cps.toList) | _ => .non) hD0 (fun H6 s6 => SqL.of (s6 _ _ hfc)) (by rw [List.length_map]; exact Nat.le_trans (G.deg c) (by decide)) (fun x hx H6 s6 R hR => hR _ (by rfl) fun Q' q => ?_) ?_
        · obtain ⟨b, hb, rfl⟩ := List.mem_map.mp hx
          obtain ⟨o, ho1, ho2⟩ := bd_get (show BD g ks s0 H6 aj j from s6 _ _ bdj5) (G.cl c cK b hb)
          refine ⟨_, rfl, aj, rfl, .inl ⟨_, .inl (s6 _ _ bdj5)⟩, _, rfl, o, ho1, ?_⟩
          rw [ho2]
          simp only [vT, T_list] at q
          exact q
        · have ee : ((g c).map vT).map (fun v => match v with | .str z => V.int (Sw.wb g s0 j z.cps.toList) | _ => .non) = ((g c).map fun b => ((Sw.wb g s0 j b : Nat) : Int)).map V.int := by
            rw [List.map_map, List.map_map]
            refine List.map_congr_left fun b _ => ?_
            show V.int (Sw.wb g s0 j (T b).cps.toList) = _
            rw [T_list]
            rfl
          rw [ee]
          refine ⟨D0, _, rfl, SqL.of upd_same, ?_⟩
          rw [sum_wb]
          have S7 : Same G5 (upd G5 D0 (.lst (((g c).map fun b => ((Sw.wb g s0 j b : Nat) : Int)).map V.int))) := same_upd hD0
          generalize hG7 : upd G5 D0 (.lst (((g c).map fun b => ((Sw.wb g s0 j b : Nat) : Int)).map V.int)) = G7 at *
          have o7 : ∀ b o, G3 b = some o → b ≠ d → b ≠ e → G7 b = some o := fun b o h1 h2 h3 => S7 _ _ (S5 _ _ (o4 b o h1 h2 h3))
          have hd7 := S7 _ _ (S5 _ _ hd4)
          have he7 := S7 _ _ (S5 _ _ he4)
          refine ⟨_, rfl, ((Sw.wb g s0 (j + 1) c : Nat) : Int), 0, rfl, rfl, _, rfl, ?_⟩
          by_cases hp : 0 < Sw.wb g s0 (j + 1) c
          · rw [decide_eq_true (show (0 : Int) < ((Sw.wb g s0 (j + 1) c : Nat) : Int) by omega)]
            have ef : (ks.take (i + 1)).filter (fun a => decide (0 < Sw.wb g s0 (j + 1) a)) = (ks.take i).filter (fun a => decide (0 < Sw.wb g s0 (j + 1) a)) ++ [c] := by
              rw [ht, List.filter_append]
              simp [hp]
            refine iteT ⟨_, rfl, _, rfl, _, rfl, e, _, rfl, DPut.k (k := kT c) he7 ?_, some (vT c), some (.ref (fd c)), _, y10, rfl, fun b o h1 h2 h3 => ?_, ?_, ?_⟩
            · rw [dkv_len]
              have h1 := List.length_filter_le (fun a => decide (0 < Sw.wb g s0 (j + 1) a)) (ks.take i)
              have h2 := List.length_take_le' i ks
              have h3 := G.len
              exact Nat.lt_of_le_of_lt (show _ ≤ 1000 by omega) (by decide)
            · rw [upd_ne h3]
              exact o7 b o h1 h2 h3
            · rw [upd_ne de]
              exact hd7
            · rw [upd_same, put_new _ (fun z => cn (List.mem_filter.mp z).1), ef]
              congr 2
              refine dkv_congr fun a _ => ?_
              by_cases q : a = c
              · rw [if_pos q, q]
              · rw [if_neg q]
          · rw [decide_eq_false (show ¬ (0 : Int) < ((Sw.wb g s0 (j + 1) c : Nat) : Int) by omega)]
            have ef : (ks.take (i + 1)).filter (fun a => decide (0 < Sw.wb g s0 (j + 1) a)) = (ks.take i).filter (fun a => decide (0 < Sw.wb g s0 (j + 1) a)) := by
              rw [ht, List.filter_append]
              simp [hp]
            refine iteF ⟨some (vT c), some (.ref (fd c)), _, y10, rfl, o7, hd7, ?_⟩
            rw [ef]
            exact he7
      · intro σ H4 h4
        obtain ⟨y7, y8, y9, y10, rfl, o4, hd4, he4⟩ := h4
        rw [dkv_len, List.take_length] at he4
        refine ⟨hd4, ?_⟩
        have o8 : ∀ b o, G3 b = some o → b ≠ e → (upd H4 d (.dK (dkv ks fun k => V.ref (fd k)))) b = some o := fun b o h1 h2 => by
          by_cases hb : b = d
          · rw [hb] at h1 ⊢
            rw [sG _ _ hd] at h1
            rw [upd_same]
            exact h1
          · rw [upd_ne hb]
            exact o4 b o h1 hb h2
        have he8 : (upd H4 d (.dK (dkv ks fun k => V.ref (fd k)))) e = some (.dK (dkv (ks.filter fun a => decide (0 < Sw.wb g s0 (j + 1) a)) fun a => .int (Sw.wb g s0 (j + 1) a))) := by rw [upd_ne (Ne.symm de)]; exact he4
        generalize hG8 : upd H4 d (.dK (dkv ks fun k => V.ref (fd k))) = G8 at *
        have hl8 : G8 l = some (.lst (as.map V.ref)) := o8 _ _ (S3 _ _ hl2) (ne_of_none hl2 he)
        refine ⟨_, rfl, .inl ⟨rfl, _, SqL.of hl8⟩, _, rfl, l, _, _, rfl, rfl, hl8, ?_, _, _, _, _, _, _, _, as ++ [e], rfl, fun b o hb => ?_, ?_, ?_, fun i p hp => ?_⟩
        · rw [List.length_map]
          exact Nat.lt_of_le_of_lt (show _ ≤ 1000 by omega) (by decide)
        · rw [upd_ne (ne_of_none hb Hl)]
          exact o8 _ _ (sG _ _ hb) (ne_of_none hb He)
        · rw [upd_same, List.map_append]
          rfl
        · rw [List.length_append, al]
          rfl
        · by_cases hi : i < as.length
          · rw [List.getElem?_append_left hi] at hp
            obtain ⟨b1, b2⟩ := bd i p hp
            refine ⟨?_, b2⟩
            have h1 := o8 _ _ (S3 _ _ b1) (ne_of_none b1 he)
            show _ = _
            rw [upd_ne (ne_ob hl8 h1 (fun z => nomatch z))]
            exact h1
          · rw [List.getElem?_append_right (by omega)] at hp
            have hi2 : i - as.length = 0 := by
              by_cases z : i - as.length = 0
              · exact z
              · obtain ⟨m, hm⟩ : ∃ m, i - as.length = m + 1 := ⟨i - as.length - 1, by omega⟩
                rw [hm] at hp
                simp at hp
            rw [hi2] at hp
            simp only [List.getElem?_cons_zero, Option.some.injEq] at hp
            subst hp
            have : i = j + 1 := by omega
            subst this
            refine ⟨?_, He⟩
            show _ = _
            rw [upd_ne (ne_ob hl8 he8 (fun z => nomatch z))]
            exact he8
    · intro σ H2 h2
      obtain ⟨x4, x5, x6, x7, x8, x9, x10, as, rfl, s2, hl2, al, bd⟩ := h2
      refine ⟨_, rfl, l, _, rfl, SqL.of hl2, fun p hp => k p _ (s2.free hp) (same_upd2 s2 (s2.free hp)) ⟨as.reverse, ?_, ?_, fun i q hq => ?_⟩⟩
      · rw [upd_same, List.map_reverse]
      · rw [List.length_reverse, al]
      · have hi : i < as.length := by
          have := (List.getElem?_eq_some_iff.mp hq).1
          rw [List.length_reverse] at this
          exact this
        rw [List.getElem?_reverse hi] at hq
        have e : as.length - 1 - i = n - i := by omega
        rw [e] at hq
        obtain ⟨b1, b2⟩ := bd _ _ hq
        exact ⟨(same_upd hp) _ _ b1, b2⟩
end
end Wk

/-! W12: all_back, texts_on. -/
namespace Sw
def tlL (g : Row → List Row) (ks : List Row) (s : Row) (n q : Nat) : Nat → List (Row × Row)
  | 0 => [(s, [])]
  | j + 1 => stepL g (kN g ks s (n - (j + 1))) q (tlL g ks s n q j)
section
variable {g : Row → List Row} {ks : List Row} {s : Row} {n q : Nat}
theorem tlL_ks (G : Gr g ks) (hs : s ∈ ks) : ∀ j, ∀ x ∈ tlL g ks s n q j, x.1 ∈ ks ∧ x.2.length = j
  | 0, x, hx => by
    rw [tlL, List.mem_singleton] at hx
    subst hx
    exact ⟨hs, rfl⟩
  | j + 1, x, hx => by
    rw [tlL] at hx
    obtain ⟨y, hy, h1, _, h3⟩ := stepL_mem hx
    obtain ⟨a, b⟩ := tlL_ks G hs j y hy
    exact ⟨G.cl _ a _ h1, by rw [h3, List.length_append, b]; rfl⟩
theorem tlL_fin (G : Gr g ks) (hs : s ∈ ks) : ∀ j, j ≤ n → finL g s q (n - j) (tlL g ks s n q j) = finL g s q n [(s, [])]
  | 0, _ => rfl
  | j + 1, hj => by
    rw [← tlL_fin G hs j (by omega), tlL]
    have e : n - j = n - (j + 1) + 1 := by omega
    rw [e]
    refine finL_step fun x hx b hb nb => ?_
    have bk : b ∈ ks := G.cl _ (tlL_ks G hs j x hx).1 b hb
    have h0 : wb g s (n - (j + 1)) b = 0 := Nat.le_zero.mp (Nat.not_lt.mp fun z => nb ((kN_pos (.inl bk)).mpr z))
    rw [← wk_len] at h0
    exact List.length_eq_zero_iff.mp h0
theorem tlL_end (G : Gr g ks) (hs : s ∈ ks) (hn : 1 ≤ n) : (tlL g ks s n q n).map (·.2) = (wk g s n s).map (txt q) := by
  have h := tlL_fin (q := q) G hs n (Nat.le_refl n)
  rw [Nat.sub_self, finL_zero] at h
  · rw [h]
    unfold finL
    rw [List.flatMap_cons, List.flatMap_nil, List.append_nil, List.map_map]
    refine List.map_congr_left fun l _ => ?_
    simp
  · match n, hn with
    | m + 1, _ =>
      intro x hx
      rw [tlL] at hx
      obtain ⟨y, hy, _, h2, _⟩ := stepL_mem hx
      rw [Nat.sub_self, kN, List.mem_singleton] at h2
      exact h2
theorem tlL_len (G : Gr g ks) : ∀ j, (tlL g ks s n q j).length ≤ 4 ^ j
  | 0 => Nat.le_refl _
  | j + 1 => by
    rw [tlL, Nat.pow_succ]
    have h1 := stepL_len (kp := kN g ks s (n - (j + 1))) (q := q) G.deg (tlL g ks s n q j)
    have h2 := tlL_len G j
    omega
end
end Sw
namespace Wk
open PySem PySem.Spec PyProof.Rows L2
/-- a list of pairs of texts -/
def PT (H : Hp) (p : Addr) (L : List (Sw.Row × Sw.Row)) : Prop := ∃ ts : List Addr, H p = some (.lst (ts.map V.ref)) ∧ Paired (fun t x => H t = some (.tup [vT x.1, vT x.2])) ts L
theorem paired_len {α β : Type} {F : α → β → Prop} {l : List α} {m : List β} (h : Paired F l m) : l.length = m.length := by
  induction h with
  | nil => rfl
  | cons _ _ ih => rw [List.length_cons, List.length_cons, ih]
theorem paired_at {α β : Type} {F : α → β → Prop} : ∀ {l : List α} {m : List β} {i : Nat} {a : α}, Paired F l m → l[i]? = some a → ∃ b, m[i]? = some b ∧ F a b
  | _, _, _, _, .nil, h => by simp at h
  | _, _, 0, _, .cons r _, h => by
    simp only [List.getElem?_cons_zero, Option.some.injEq] at h
    subst h
    exact ⟨_, rfl, r⟩
  | _, _, i + 1, _, .cons _ t, h => by
    simp only [List.getElem?_cons_succ] at h ⊢
    exact paired_at t h
theorem paired_imp {α β : Type} {F F' : α → β → Prop} : ∀ {l : List α} {m : List β}, Paired F l m → (∀ a b, a ∈ l → F a b → F' a b) → Paired F' l m
  | _, _, .nil, _ => .nil
  | _, _, .cons r t, h => .cons (h _ _ List.mem_cons_self r) (paired_imp t fun a b ha => h a b (List.mem_cons_of_mem _ ha))
theorem paired_app {α β : Type} {F : α → β → Prop} : ∀ {l l' : List α} {m m' : List β}, Paired F l m → Paired F l' m' → Paired F (l ++ l') (m ++ m')
  | _, _, _, _, .nil, h => h
  | _, _, _, _, .cons r t, h => .cons r (paired_app t h)
theorem PT.same {H H' : Hp} {p : Addr} {L : List (Sw.Row × Sw.Row)} (h : PT H p L) (s : Same H H') : PT H' p L := by
  obtain ⟨ts, h1, h2⟩ := h
  exact ⟨ts, s _ _ h1, paired_imp h2 fun a b _ q => s _ _ q⟩
theorem BK.upd {g : Sw.Row → List Sw.Row} {ks : List Sw.Row} {s : Sw.Row} {n : Nat} {N : Addr → Prop} {H : Hp} {l D : Addr} {kvs : List (Key × V)} {o : HO} (b : BK g ks s n N H l) (hD : H D = some (.dK kvs)) (hN : ∀ p, N p → p ≠ D) : BK g ks s n N (upd H D o) l := by
  obtain ⟨as, h1, h2, h3⟩ := b
  refine ⟨as, ?_, h2, fun i p q => ⟨?_, (h3 i p q).2⟩⟩
  · rw [upd_ne (ne_ob hD h1 (fun z => nomatch z))]
    exact h1
  · show _ = _
    rw [upd_ne (hN p (h3 i p q).2)]
    exact (h3 i p q).1
theorem BK.imp {g : Sw.Row → List Sw.Row} {ks : List Sw.Row} {s : Sw.Row} {n : Nat} {N N' : Addr → Prop} {H : Hp} {l : Addr} (b : BK g ks s n N H l) (hN : ∀ p kvs, H p = some (.dK kvs) → N p → N' p) : BK g ks s n N' H l := by
  obtain ⟨as, h1, h2, h3⟩ := b
  exact ⟨as, h1, h2, fun i p q => ⟨(h3 i p q).1, hN p _ (h3 i p q).1 (h3 i p q).2⟩⟩
theorem GivesD.lock {H H' : Hp} {f d e : Addr} {u : HO} (g : GivesD H f d) (he : H e = some u) (hu : ∀ φ, u ≠ .ext φ) (s : ∀ b o, b ≠ e → H b = some o → H' b = some o) : GivesD H' f d := by
  obtain ⟨c, c', ob, g1, g2, g3, g4⟩ := g
  exact ⟨c, c', ob, s _ _ (ne_ob he g1 (fun z => hu _ z.symm)) g1, s _ _ (ne_ob he g2 (fun z => hu _ z.symm)) g2, g3, s _ _ (ne_ob he g4 (fun z => hu _ z.symm)) g4⟩
section
variable {P : Program} {w : World} {K : PySem.W.Frag} {mg : Str → Option Value} {base : Heap} {C : Addr}
def spAllBack : Sp := fun vs H Q _ => ∃ (p f d : Addr) (g : Sw.Row → List Sw.Row) (ks : List Sw.Row) (n : Nat), vs = [.ref p, .int n, .ref f] ∧ H p = some (.lst (ks.map vT)) ∧ GivesD H f d ∧ DL H d ks g ∧ Sw.Gr g ks ∧ n ≤ 100 ∧
  ∀ (q : Addr) (fb : Sw.Row → Addr) (H' : Hp), H q = none → Same H H' → H' q = some (.dK (dkv (ks.filter fun s => decide (0 < Sw.wb g s n s)) fun s => .ref (fb s))) → (∀ s ∈ ks, BK g ks s n (fun p => p ≠ q) H' (fb s)) → Q (.ref q) H'
abbrev N15 : List Str := ["starts", "size", "steps_at", "found", "start"]
theorem sc15 : FnScope N15 ["starts", "size", "steps_at"] dd15.scope := ⟨rfl, rfl, rfl, by decide +kernel, rfl, by decide +kernel, by decide +kernel⟩
theorem c_all_back {a : Addr} {fd : FuncData} (F : FnT K dd15 a fd) (hm : mg "all_back" = some (.ref a)) (c : Cl P w K mg base 1 "ways_back" spWays) : Cl P w K mg base 2 "all_back" spAllBack := by
  refine cl_of F hm (ps := ["starts", "size", "steps_at"]) (F.bindsN fun _ _ _ _ _ _ us hl => match us, hl with | [_, _, _], _ => rfl) (okF F sc15 (fun vs H Q E h => ?_) fun cdv A outer s H vs Q E hr h => ?_)
  · obtain ⟨_, _, _, _, _, _, rfl, _⟩ := h
    rfl
  · obtain ⟨p, f, d, g, ks, n, rfl, hp, gv, D, G, hn, k⟩ := h
    refine ⟨_, pss_cons (ps_set (i := 3) sc15.nd rfl (Or.inr rfl) (pe_dc (own := [("start", 4)]) (g := gName 4) (tt := tYes) (by rfl) sc15.nd (pi_list (pv 0)) (blkOk_by (N := N15) (sc := dd15.scope) (by decide +kernel))
          (fun _ _ _ _ _ => pg_name (i := 4) sc15.nd rfl (Or.inl rfl)) (fun _ _ _ _ _ => pts_nil) (fun _ _ _ _ _ => pv 4) (fun _ _ _ _ _ => C8.pe_c c hr (by decide) (by rfl) (pa_cons (pv 4) (pa_cons (pv 1) (pa_cons (pv 2) pa_nil))))))
      (pss_one (ps_ret (pe_lock (pe_dc (own := [("start", 4)]) (g := gName 4) (by rfl) sc15.nd (pi_keys (pv 3)) (blkOk_by (N := N15) (sc := dd15.scope) (by decide +kernel))
          (fun _ _ _ _ _ => pg_name (i := 4) sc15.nd rfl (Or.inl rfl)) (fun _ _ _ _ _ => pts_one (pt_cmp (pc_din (hu_of hr) (pv 4) (pe_ix (show IxR _ (rIxL K) from ix_list) (pe_dget (hu_of hr) (pv 3) (pv 4) (fun _ _ => rfl)) pe_int (fun _ _ => rfl)))))
          (fun _ _ _ _ _ => pv 4) (fun _ _ _ _ _ => pe_dget (hu_of hr) (pv 3) (pv 4) (fun _ _ => rfl)))))), ?_⟩
    refine ⟨_, rfl, p, rfl, ⟨_, SqL.of hp⟩, fun D0 hD0 => ?_⟩
    refine dc_it (walk_list (K := K) (a := p) (xs := ks.map vT)) (fun i H2 => ∃ fb, Same H H2 ∧ H2 D0 = some (.dK (dkv (ks.take i) fun k => .ref (fb k))) ∧ ∀ s ∈ ks.take i, BK g ks s n (fun p => p ≠ D0) H2 (fb s))
      ⟨fun _ => D0, same_upd hD0, by rw [upd_same]; rfl, fun k hk => absurd hk (by simp)⟩ (fun i H2 _ h2 => by
        obtain ⟨fb, s2, _⟩ := h2
        exact SqL.of (s2 _ _ hp)) ?_ ?_
    · intro i x H2 H3 hi h2 y
      obtain ⟨rfl, hx⟩ := y
      obtain ⟨fb, s2, hd2, hb⟩ := h2
      rw [List.getElem?_map] at hx
      obtain ⟨c0, hc1, hc2⟩ := Option.map_eq_some_iff.mp hx
      subst hc2
      have ht : ks.take (i + 1) = ks.take i ++ [c0] := by rw [List.take_add_one, hc1]; rfl
      have cn : c0 ∉ ks.take i := by
        have q := G.nd.sublist (List.take_sublist (i + 1) ks)
        rw [ht, List.nodup_append] at q
        intro z
        exact q.2.2 c0 z c0 (by simp) rfl
      refine ⟨by rfl, ?_⟩
      unfold tYes
      refine iteT ⟨_, rfl, _, rfl, _, rfl, _, rfl, f, d, g, ks, c0, n, rfl, gv.same s2, D.same s2, G, hn, fun l H4 hl s4 bk => ⟨_, kT c0, rfl, s4 _ _ hd2, ?_, ?_⟩⟩
      · rw [dkv_len]
        have := G.len
        exact Nat.lt_of_le_of_lt (show _ ≤ 1000 from Nat.le_trans (List.length_take_le' _ _) G.len) (by decide)
      · rw [put_new _ cn, ht]
        have hd4 := s4 _ _ hd2
        refine ⟨fun k => if k = c0 then l else fb k, same_upd2 (s2.trans s4) hD0, ?_, fun k0 hk => ?_⟩
        · rw [upd_same]
          congr 2
          refine dkv_congr fun k _ => ?_
          by_cases z : k = c0
          · simp only [if_pos z]
          · simp only [if_neg z]
        · by_cases z : k0 = c0
          · simp only [if_pos z]
            rw [z]
            exact (bk.imp fun p kvs h1 h2 => (ne_of_none hd2 h2).symm).upd hd4 fun p h => h
          · have hk : k0 ∈ ks.take i := (List.mem_append.mp hk).elim id fun y => absurd (List.mem_singleton.mp y) z
            simp only [if_neg z]
            exact ((hb k0 hk).same s4).upd hd4 fun p h => h
    · intro H2 h2
      obtain ⟨fb, s2, hd2, hb⟩ := h2
      rw [List.length_map, List.take_length] at hd2 hb
      refine ⟨D0, _, hd2, trivial, fun od => ?_⟩
      generalize hkv : dkv ks (fun k => V.ref (fb k)) = kvs0 at *
      have wk := walkKeys (d := D0) (o := od) (kvs := kvs0)
      have ekv : (kvs0.map fun kv => kV kv.1) = ks.map vT := by rw [← hkv, dkv_kV]
      rw [ekv] at wk
      refine ⟨_, rfl, D0, od, rfl, .inl ⟨_, upd_same, fun D2 hD2 => ?_⟩⟩
      have D02 : D0 ≠ D2 := ne_of_none upd_same hD2
      have lockB : ∀ s ∈ ks, BK g ks s n (fun p => p ≠ D0) (upd H2 D0 (.frz od (.dK kvs0))) (fb s) := fun s hs => (hb s hs).upd hd2 fun p h => h
      refine dc_it wk (fun i H3 => H3 = upd (upd H2 D0 (.frz od (.dK kvs0))) D2 (.dK (dkv ((ks.take i).filter fun s => decide (0 < Sw.wb g s n s)) fun s => .ref (fb s)))) (by simp [dkv]) (fun i H3 _ h3 => by
        subst h3
        rw [upd_ne D02]
        exact upd_same) ?_ ?_
      · intro i x H3 H4 hi h3 y
        obtain ⟨rfl, hx⟩ := y
        subst h3
        rw [List.getElem?_map] at hx
        obtain ⟨c0, hc1, hc2⟩ := Option.map_eq_some_iff.mp hx
        subst hc2
        have cK : c0 ∈ ks := List.mem_of_getElem? hc1
        have ht : ks.take (i + 1) = ks.take i ++ [c0] := by rw [List.take_add_one, hc1]; rfl
        have cn : c0 ∉ ks.take i := by
          have q := G.nd.sublist (List.take_sublist (i + 1) ks)
          rw [ht, List.nodup_append] at q
          intro z
          exact q.2.2 c0 z c0 (by simp) rfl
        have S2 := same_upd (o := .dK (dkv ((ks.take i).filter fun s => decide (0 < Sw.wb g s n s)) fun s => .ref (fb s))) hD2
        have hdk : DGet (upd (upd H2 D0 (.frz od (.dK kvs0))) D2 (.dK (dkv ((ks.take i).filter fun s => decide (0 < Sw.wb g s n s)) fun s => .ref (fb s)))) D0 (vT c0) (some (.ref (fb c0))) := .inl ⟨kvs0, kT c0, .inr ⟨od, S2 _ _ upd_same⟩, rfl, by rw [← hkv, valV_in cK]⟩
        obtain ⟨as, b1, b2, b3⟩ := (lockB c0 cK).same S2
        obtain ⟨a0, ha0⟩ : ∃ a0, as[0]? = some a0 := ⟨_, List.getElem?_eq_getElem (by omega)⟩
        have bd0 := (b3 0 a0 ha0).1
        have hat : atI (as.map V.ref) ((0 : Nat) : Int) = some (V.ref a0) := atI_nat (by rw [List.getElem?_map, ha0]; rfl)
        refine ⟨by rfl, ?_⟩
        refine ⟨_, rfl, _, rfl, _, rfl, D0, _, rfl, hdk, fb c0, _, _, _, rfl, rfl, SqL.of b1, hat, a0, _, rfl, DGet.k (k := kT c0) bd0, _, rfl, ?_⟩
        rw [valV_dkv, Nat.sub_zero]
        have km := Sw.kN_pos (g := g) (ks := ks) (s := c0) (m := n) (a := c0) (.inl cK)
        by_cases hp : 0 < Sw.wb g c0 n c0
        · rw [if_pos (km.mpr hp)]
          have ef : (ks.take (i + 1)).filter (fun s => decide (0 < Sw.wb g s n s)) = (ks.take i).filter (fun s => decide (0 < Sw.wb g s n s)) ++ [c0] := by
            rw [ht, List.filter_append]
            simp [hp]
          refine iteT ⟨_, rfl, _, rfl, _, rfl, D0, _, rfl, hdk, _, kT c0, rfl, upd_same, ?_, ?_⟩
          · rw [dkv_len]
            have h1 := List.length_filter_le (fun s => decide (0 < Sw.wb g s n s)) (ks.take i)
            have h2 := List.length_take_le' i ks
            have h3 := G.len
            exact Nat.lt_of_le_of_lt (show _ ≤ 1000 by omega) (by decide)
          · rw [upd_upd, put_new _ (fun z => cn (List.mem_filter.mp z).1), ef]
            congr 2
            refine dkv_congr fun a _ => ?_
            by_cases q : a = c0
            · rw [if_pos q, q]
            · rw [if_neg q]
        · rw [if_neg (fun z => hp (km.mp z))]
          have ef : (ks.take (i + 1)).filter (fun s => decide (0 < Sw.wb g s n s)) = (ks.take i).filter (fun s => decide (0 < Sw.wb g s n s)) := by
            rw [ht, List.filter_append]
            simp [hp]
          refine iteF ?_
          rw [ef]
      · intro H3 h3
        subst h3
        rw [List.length_map, List.take_length]
        have nD2 : H2 D2 = none := by
          rw [upd_ne (Ne.symm D02)] at hD2
          exact hD2
        refine ⟨by rw [upd_ne D02]; exact upd_same, k D2 fb _ (s2.free nD2) ?_ ?_ fun s hs => ?_⟩
        · intro b o hb
          by_cases z : b = D0
          · rw [z, hD0] at hb
            cases hb
          · rw [upd_ne z, upd_ne (ne_of_none (s2 _ _ hb) nD2), upd_ne z]
            exact s2 _ _ hb
        · rw [upd_ne (Ne.symm D02), upd_same]
        · obtain ⟨as, b1, b2, b3⟩ := hb s hs
          have l0 : fb s ≠ D0 := ne_ob hd2 b1 (fun z => nomatch z)
          refine ⟨as, ?_, b2, fun i p hp => ?_⟩
          · rw [upd_ne l0, upd_ne (ne_of_none b1 nD2), upd_ne l0]
            exact b1
          · obtain ⟨c1, c2⟩ := b3 i p hp
            have p2 : p ≠ D2 := ne_of_none c1 nD2
            refine ⟨?_, p2⟩
            show _ = _
            rw [upd_ne c2, upd_ne p2, upd_ne c2]
            exact c1
end
end Wk

/-! W13: texts_on. -/
namespace Wk
open PySem PySem.Spec PyProof.Rows L2
section
variable {P : Program} {w : World} {K : PySem.W.Frag} {mg : Str → Option Value} {base : Heap} {C : Addr}
def spTextsOn : Sp := fun vs H Q _ => ∃ (p d kd : Addr) (g : Sw.Row → List Sw.Row) (ks : List Sw.Row) (s : Sw.Row) (m q : Nat) (L : List (Sw.Row × Sw.Row)), vs = [.ref p, .ref d, .ref kd, .int q] ∧ PT H p L ∧ DL H d ks g ∧ BD g ks s H kd m ∧ Sw.Gr g ks ∧
  (∀ x ∈ L, x.1 ∈ ks ∧ x.2.length ≤ 100) ∧ (∀ a ∈ ks, q < a.length ∧ a.length ≤ 900) ∧ L.length ≤ 100000 ∧ ∀ (r : Addr) (H' : Hp), H r = none → Same H H' → PT H' r (Sw.stepL g (Sw.kN g ks s m) q L) → Q (.ref r) H'
abbrev N16 : List Str := ["texts", "steps", "kept", "spelt", "found", "node", "text", "goal"]
theorem sc16 : FnScope N16 ["texts", "steps", "kept", "spelt"] dd16.scope := ⟨rfl, rfl, rfl, by decide +kernel, rfl, by decide +kernel, by decide +kernel⟩
theorem c_texts_on {a : Addr} {fd : FuncData} (F : FnT K dd16 a fd) (hm : mg "texts_on" = some (.ref a)) : Cl P w K mg base 1 "texts_on" spTextsOn := by
  refine cl_of F hm (ps := ["texts", "steps", "kept", "spelt"]) (F.bindsN fun _ _ _ _ _ _ us hl => match us, hl with | [_, _, _, _], _ => rfl) (okF F sc16 (fun vs H Q E h => ?_) fun cdv A outer s H vs Q E hr h => ?_)
  · obtain ⟨_, _, _, _, _, _, _, _, _, rfl, _⟩ := h
    rfl
  · obtain ⟨p, d, kd, g, ks, s0, m, q, L, rfl, pt, D, bd, G, hL, hq, hz, k⟩ := h
    refine ⟨_, pss_cons (ps_set (i := 4) sc16.nd rfl (Or.inl rfl) (pe_lst pa_nil))
      (pss_cons (ps_for PassesOwn.never rfl (pi_list (pv 0)) (pg_tup rfl (pgs_cons (pg_name (i := 5) sc16.nd rfl (Or.inr rfl)) (pgs_cons (pg_name (i := 6) sc16.nd rfl (Or.inr rfl)) pgs_nil)))
        (pss_one (ps_expr (pe_bm PySem.F.plainAttrs_list PySem.F.slot_list_extend PySem.F.type_list_extend mt_extend (pv 4)
          (pa_cons (pe_lc (own := [("goal", 7)]) (g := gName 7) rfl sc16.nd (pi_list (pe_dget2 (hu_of hr) (pv 1) (pv 5) (pe_lst pa_nil) ⟨rfl, rfl, rfl, rfl⟩)) (blkOk_by (N := N16) (sc := dd16.scope) (by decide +kernel))
            (fun _ _ _ _ _ => pg_name (i := 7) sc16.nd rfl (Or.inl rfl)) (fun _ _ _ _ _ => pts_one (pt_cmp (pc_din (hu_of hr) (pv 7) (pv 2))))
            (fun _ _ _ _ _ => pe_tup (pa_cons (pv 7) (pa_cons (pe_op op_add_str (pv 6) (pe_ix ix_str (pv 5) (pv 3) (fun _ _ => rfl))) pa_nil)))) pa_nil)))))
      (pss_one (ps_ret (pv 4)))), ?_⟩
    obtain ⟨ts, hp, hts⟩ := pt
    obtain ⟨fd, hd, hfd⟩ := id D
    refine ⟨(show 0 ≤ sizeLine by decide), fun l hl => ?_⟩
    have S1 := same_upd (o := .lst []) hl
    refine ⟨_, rfl, p, rfl, ⟨_, SqL.of (S1 _ _ hp)⟩, ?_⟩
    refine for_it (walk_list (K := K) (a := p) (xs := ts.map V.ref)) (fun i σ H2 => ∃ x5 x6 x7 us, σ = [some (.ref p), some (.ref d), some (.ref kd), some (.int q), some (.ref l), x5, x6, x7] ∧ Same H H2 ∧ H2 l = some (.lst (us.map V.ref)) ∧ Paired (fun t x => H2 t = some (.tup [vT x.1, vT x.2])) us (Sw.stepL g (Sw.kN g ks s0 m) q (L.take i)))
      ⟨none, none, none, [], rfl, S1, upd_same, .nil⟩ (fun i σ H2 _ h2 => by
        obtain ⟨_, _, _, _, _, s2, _⟩ := h2
        exact SqL.of (s2 _ _ hp)) ?_ ?_
    · intro i x σ H2 H3 hi h2 y
      obtain ⟨rfl, hx⟩ := y
      obtain ⟨x5, x6, x7, us, rfl, s2, hl2, pr⟩ := h2
      rw [List.getElem?_map] at hx
      obtain ⟨t0, ht0, hx2⟩ := Option.map_eq_some_iff.mp hx
      subst hx2
      obtain ⟨⟨a0, t1⟩, hL0, htup⟩ := paired_at hts ht0
      have hmem : (a0, t1) ∈ L := List.mem_of_getElem? hL0
      obtain ⟨aK, tl⟩ := hL _ hmem
      have tl : t1.length ≤ 100 := tl
      have htk : L.take (i + 1) = L.take i ++ [(a0, t1)] := by rw [List.take_add_one, hL0]; rfl
      obtain ⟨aq, a9⟩ := hq a0 aK
      refine ⟨t0, _, rfl, SqT.of (s2 _ _ htup), rfl, _, _, rfl, _, _, rfl, rfl, ?_⟩
      refine ⟨_, rfl, .inl ⟨rfl, _, SqL.of hl2⟩, _, rfl, d, rfl, .inl ⟨_, .inl (s2 _ _ hd)⟩, _, rfl, (show 0 ≤ sizeLine by decide), fun e he => ?_⟩
      have S3 := same_upd (o := .lst []) he
      have hfa := S3 _ _ (s2 _ _ (hfd a0 aK))
      refine ⟨_, dget_in (S3 _ _ (s2 _ _ hd)) aK, fd a0, rfl, ⟨_, SqL.of hfa⟩, fun D0 hD0 => ?_⟩
      generalize hG3 : upd H3 e (.lst []) = G3 at *
      have sG := s2.trans S3
      have gpos : ∀ i : Nat, a0[q]? = some (a0.getD q 0) := fun _ => by
        rw [List.getD_eq_getElem?_getD, List.getElem?_eq_getElem aq]
        rfl
      refine lc_it (walk_list (K := K) (a := fd a0) (xs := (g a0).map vT)) (fun j H6 => ∃ vs2, Same G3 H6 ∧ H6 D0 = some (.lst (vs2.map V.ref)) ∧ vs2.length ≤ j ∧ Paired (fun t (x : Sw.Row × Sw.Row) => H6 t = some (.tup [vT x.1, vT x.2])) vs2 ((((g a0).take j).filter fun b => decide (b ∈ Sw.kN g ks s0 m)).map fun b => (b, t1 ++ [a0.getD q 0])))
        ⟨[], same_upd hD0, upd_same, Nat.le_refl _, .nil⟩ (fun j H6 _ h6 => by
          obtain ⟨_, s6, _⟩ := h6
          exact SqL.of (s6 _ _ hfa)) ?_ ?_
      · intro j x H6 H7 hj h6 yy
        obtain ⟨rfl, hx⟩ := yy
        obtain ⟨vs2, s6, hd6, vl, pr6⟩ := h6
        rw [List.getElem?_map] at hx
        obtain ⟨b, hb1, hb2⟩ := Option.map_eq_some_iff.mp hx
        subst hb2
        have hj : j < (g a0).length := by rw [List.length_map] at hj; exact hj
        have dg := G.deg a0
        have htj : (g a0).take (j + 1) = (g a0).take j ++ [b] := by rw [List.take_add_one, hb1]; rfl
        refine ⟨by rfl, ?_⟩
        refine ⟨_, rfl, _, rfl, kd, _, rfl, DGet.k (k := kT b) (s6 _ _ (sG _ _ bd)), _, rfl, ?_⟩
        rw [valV_dkv]
        by_cases hb : b ∈ Sw.kN g ks s0 m
        · rw [if_pos hb]
          refine iteT ⟨_, rfl, _, rfl, _, rfl, _, rfl, T a0, (q : Int), a0.getD q 0, rfl, rfl, ?_, atI_T (gpos 0), T t1, T [a0.getD q 0], rfl, rfl, ?_, (show 2 ≤ sizeLine by decide), fun t2 ht2 => ?_⟩
          · rw [T_len]
            exact small4 (by omega)
          · rw [T_len, T_len]
            exact small4 (show t1.length + 1 ≤ 1000 by omega)
          have Dt : D0 ≠ t2 := ne_of_none hd6 ht2
          have D0n : H7 D0 ≠ none := by rw [hd6]; exact fun z => nomatch z
          refine ⟨_, by rw [upd_ne Dt]; exact hd6, ?_, vs2 ++ [t2], ?_, ?_, ?_, ?_⟩
          · rw [List.length_map]
            exact Nat.lt_of_le_of_lt (show _ ≤ 1000 by omega) (by decide)
          · exact same_upd2 (s6.trans (same_upd ht2)) hD0
          · rw [upd_same, List.map_append]
            rfl
          · rw [List.length_append]
            show _ + 1 ≤ _
            omega
          · rw [htj, List.filter_append, List.map_append]
            refine paired_app (paired_imp pr6 fun t x _ h => ?_) ?_
            · rw [upd_ne (ne_ob hd6 h (fun z => nomatch z)), upd_ne (ne_of_none h ht2)]
              exact h
            · rw [List.filter_cons_of_pos (by simpa using hb)]
              refine .cons ?_ .nil
              rw [upd_ne (Ne.symm Dt), upd_same, T_app]
        · rw [if_neg hb]
          refine iteF ⟨vs2, s6, hd6, Nat.le_succ_of_le vl, ?_⟩
          rw [htj, List.filter_append, List.filter_cons_of_neg (by simpa using hb)]
          simpa using pr6
      · intro H6 h6
        obtain ⟨vs2, s6, hd6, vl, pr6⟩ := h6
        rw [List.length_map, List.take_length] at pr6
        have s26 := s2.trans (S3.trans s6)
        have hl6 := s6 _ _ (S3 _ _ hl2)
        have pl := paired_len pr
        have pl2 := Sw.stepL_len (kp := Sw.kN g ks s0 m) (q := q) G.deg (L.take i)
        have pl3 := List.length_take_le' i L
        have v2 := paired_len pr6
        have dg := G.deg a0
        rw [List.length_map] at v2
        have v3 := List.length_filter_le (fun b => decide (b ∈ Sw.kN g ks s0 m)) (g a0)
        refine ⟨l, D0, _, _, rfl, rfl, hl6, hd6, ?_, some (vT a0), some (vT t1), x7, us ++ vs2, rfl, same_upd2 s26 hl, ?_, ?_⟩
        · rw [List.length_map, List.length_map]
          exact Nat.le_trans (show _ ≤ 500000 by omega) (by decide)
        · rw [upd_same, List.map_append]
        · rw [htk, Sw.stepL_app]
          refine paired_app (paired_imp pr fun t x _ h => ?_) ?_
          · have h6 := s6 _ _ (S3 _ _ h)
            rw [upd_ne (ne_ob hl6 h6 (fun z => nomatch z))]
            exact h6
          · have e : Sw.stepL g (Sw.kN g ks s0 m) q [(a0, t1)] = ((g a0).filter fun b => decide (b ∈ Sw.kN g ks s0 m)).map fun b => (b, t1 ++ [a0.getD q 0]) := by
              unfold Sw.stepL
              simp
            rw [e]
            refine paired_imp pr6 fun t x _ h => ?_
            rw [upd_ne (ne_ob hl6 h (fun z => nomatch z))]
            exact h
    · intro σ H2 h2
      obtain ⟨x5, x6, x7, us, rfl, s2, hl2, pr⟩ := h2
      rw [List.length_map, paired_len hts, List.take_length] at pr
      exact ⟨_, rfl, k l H2 hl s2 ⟨us, hl2, pr⟩⟩
end
end Wk

/-! W14: all_texts. -/
namespace Sw
section
variable {g : Row → List Row} {ks : List Row} {n q : Nat}
theorem wk_le (G : Gr g ks) {s : Row} (hs : s ∈ ks) (hn : 1 ≤ n) (h5 : n ≤ 5) : (wk g s n s).length ≤ 1024 := by
  have h := congrArg List.length (tlL_end (q := 0) G hs hn)
  rw [List.length_map, List.length_map] at h
  rw [← h]
  refine Nat.le_trans (tlL_len G n) ?_
  exact Nat.pow_le_pow_right (by decide) h5
theorem texts_le (G : Gr g ks) (hn : 1 ≤ n) (h5 : n ≤ 5) : ∀ l : List Row, (∀ s ∈ l, s ∈ ks) → (l.flatMap fun s => (wk g s n s).map (txt q)).length ≤ 1024 * l.length
  | [], _ => Nat.le_refl _
  | s :: l, h => by
    rw [List.flatMap_cons, List.length_append, List.length_map, List.length_cons]
    have h1 := wk_le G (h s List.mem_cons_self) hn h5
    have h2 := texts_le G hn h5 l fun x hx => h x (List.mem_cons_of_mem _ hx)
    omega
theorem texts_filter : ∀ l : List Row, ((l.filter fun s => decide (0 < wb g s n s)).flatMap fun s => (wk g s n s).map (txt q)) = l.flatMap fun s => (wk g s n s).map (txt q)
  | [] => rfl
  | s :: l => by
    by_cases h : 0 < wb g s n s
    · rw [List.filter_cons_of_pos (by simpa using h), List.flatMap_cons, List.flatMap_cons, texts_filter l]
    · rw [List.filter_cons_of_neg (by simpa using h), List.flatMap_cons, texts_filter l]
      have : (wk g s n s).length = 0 := by rw [wk_len]; omega
      rw [List.length_eq_zero_iff.mp this]
      rfl
end
end Sw
namespace Wk
open PySem PySem.Spec PyProof.Rows L2
section
variable {P : Program} {w : World} {K : PySem.W.Frag} {mg : Str → Option Value} {base : Heap} {C : Addr}
def spAllTexts : Sp := fun vs H Q _ => ∃ (p f d : Addr) (g : Sw.Row → List Sw.Row) (ks : List Sw.Row) (n q : Nat), vs = [.ref p, .int n, .ref f, .int q] ∧ H p = some (.lst (ks.map vT)) ∧ GivesD H f d ∧ DL H d ks g ∧ Sw.Gr g ks ∧ 1 ≤ n ∧ n ≤ 5 ∧ (∀ a ∈ ks, q < a.length ∧ a.length ≤ 900) ∧
  ∀ (r : Addr) (H' : Hp), Same H H' → H r = none → H' r = some (.lst ((Sw.srt (ks.flatMap fun s => (Sw.wk g s n s).map (Sw.txt q))).map vT)) → Q (.ref r) H'
abbrev N17 : List Str := ["starts", "size", "steps_at", "spelt", "back", "found", "start", "texts", "at", "node", "text"]
theorem sc17 : FnScope N17 ["starts", "size", "steps_at", "spelt"] dd17.scope := ⟨rfl, rfl, rfl, by decide +kernel, rfl, by decide +kernel, by decide +kernel⟩
theorem c_all_texts {a : Addr} {fd : FuncData} (F : FnT K dd17 a fd) (hm : mg "all_texts" = some (.ref a)) (h1 : mg "range" = none) (h2 : mg "sorted" = none) (c1 : Cl P w K mg base 2 "all_back" spAllBack) (c2 : Cl P w K mg base 1 "texts_on" spTextsOn) : Cl P w K mg base 3 "all_texts" spAllTexts := by
  refine cl_of F hm (ps := ["starts", "size", "steps_at", "spelt"]) (F.bindsN fun _ _ _ _ _ _ us hl => match us, hl with | [_, _, _, _], _ => rfl) (okF F sc17 (fun vs H Q E h => ?_) fun cdv A outer s H vs Q E hr h => ?_)
  · obtain ⟨_, _, _, _, _, _, _, rfl, _⟩ := h
    rfl
  · obtain ⟨p, f, d, g, ks, n, q, rfl, hp, gv, D, G, hn, h5, hq, k⟩ := h
    refine ⟨_, pss_cons (ps_par (i := 4) (j := 5) (by rfl) sc17.nd rfl rfl (by decide) rfl rfl (pa_cons (C8.pe_c c1 hr (by decide) (by rfl) (pa_cons (pv 0) (pa_cons (pv 1) (pa_cons (pv 2) pa_nil)))) (pa_cons (pe_lst pa_nil) pa_nil)) (by rfl))
      (pss_cons (ps_lock (ps_for PassesOwn.never rfl (pi_keys (pv 4)) (pg_name (i := 6) sc17.nd rfl (Or.inl rfl))
        (pss_cons (ps_set (i := 7) sc17.nd rfl (Or.inl rfl) (pe_lst (pa_cons (pe_tup (pa_cons (pv 6) (pa_cons pe_str pa_nil))) pa_nil)))
        (pss_cons (ps_for PassesOwn.never rfl (pi_range1 (by rfl) h1 (pa_cons (pv 1) pa_nil)) (pg_name (i := 8) sc17.nd rfl (Or.inl rfl))
          (pss_one (ps_set (i := 7) sc17.nd rfl (Or.inl rfl) (C8.pe_c c2 hr (by decide) (by rfl) (pa_cons (pv 7) (pa_cons (pe_lamVar (x := "steps_at") (i := 2) rfl (.inl rfl) hr (pa_cons (pv 8) pa_nil))
            (pa_cons (pe_ix ix_list (pe_dget (hu_of hr) (pv 4) (pv 6) (fun _ _ => rfl)) (pe_op op_add (pv 8) pe_int) (fun _ _ => rfl)) (pa_cons (pv 3) pa_nil))))))))
        (pss_one (ps_expr (pe_bm PySem.F.plainAttrs_list PySem.F.slot_list_extend PySem.F.type_list_extend mt_extend (pv 5)
          (pa_cons (pe_lc (own := [("node", 9), ("text", 10)]) (g := gTup K 2 _) (tt := tYes) rfl sc17.nd (pi_list (pv 7)) (blkOk_by (N := N17) (sc := dd17.scope) (by decide +kernel))
            (fun _ _ _ _ _ => pg_tup rfl (pgs_cons (pg_name (i := 9) sc17.nd rfl (Or.inl rfl)) (pgs_cons (pg_name (i := 10) sc17.nd rfl (Or.inl rfl)) pgs_nil))) (fun _ _ _ _ _ => pts_nil) (fun _ _ _ _ _ => pv 10)) pa_nil))))))))
      (pss_one (ps_ret (pe_callB cr_sortedT (by rfl) h2 b_sorted (pa_cons (pv 5) pa_nil))))), ?_⟩
    obtain ⟨fd, hd, hfd⟩ := id D
    refine ⟨_, rfl, _, rfl, _, rfl, p, f, d, g, ks, n, rfl, hp, gv, D, G, by omega, fun D0 fb H1 hD0 s1 hd1 bk => ?_⟩
    refine ⟨(show 0 ≤ sizeLine by decide), fun l hl => ?_⟩
    have Hl : H l = none := s1.free hl
    refine ⟨_, _, rfl, ?_⟩
    have Dl : D0 ≠ l := ne_of_none hd1 hl
    have S2 := same_upd (o := .lst []) hl
    refine ⟨D0, _, S2 _ _ hd1, trivial, fun od => ?_⟩
    generalize hsts : ks.filter (fun s => decide (0 < Sw.wb g s n s)) = sts at *
    generalize hkv : dkv sts (fun s => V.ref (fb s)) = kvs0 at *
    have wk := walkKeys (d := D0) (o := od) (kvs := kvs0)
    have ekv : (kvs0.map fun kv => kV kv.1) = sts.map vT := by rw [← hkv, dkv_kV]
    rw [ekv] at wk
    have stK : ∀ s ∈ sts, s ∈ ks := fun s hs => by
      rw [← hsts] at hs
      exact (List.mem_filter.mp hs).1
    have stz : sts.length ≤ 1000 := by
      rw [← hsts]
      exact Nat.le_trans (List.length_filter_le _ _) G.len
    have hdk : ∀ {H4 : Hp}, H4 D0 = some (.frz od (.dK kvs0)) → ∀ s ∈ sts, DGet H4 D0 (vT s) (some (.ref (fb s))) := fun h4 s hs => .inl ⟨kvs0, kT s, .inr ⟨od, h4⟩, rfl, by rw [← hkv, valV_in hs]⟩
    refine ⟨_, rfl, D0, od, rfl, .inl ⟨_, upd_same, ?_⟩⟩
    refine for_it wk (fun i σ H4 => ∃ x6 x7 x8 x9 x10, σ = [some (.ref p), some (.int n), some (.ref f), some (.int q), some (.ref D0), some (.ref l), x6, x7, x8, x9, x10] ∧ (∀ b o, H1 b = some o → b ≠ D0 → H4 b = some o) ∧ H4 D0 = some (.frz od (.dK kvs0)) ∧
        H4 l = some (.lst (((sts.take i).flatMap fun s => (Sw.wk g s n s).map (Sw.txt q)).map vT)))
      ⟨none, none, none, none, none, rfl, fun b o hb ne => by rw [upd_ne ne]; exact S2 _ _ hb, upd_same, by rw [upd_ne (Ne.symm Dl), upd_same]; rfl⟩ (fun i σ H4 _ h4 => by
        obtain ⟨_, _, _, _, _, _, _, h, _⟩ := h4
        exact h) ?_ ?_
    · intro i x σ H4 H5 hi h4 y
      obtain ⟨rfl, hx⟩ := y
      obtain ⟨x6, x7, x8, x9, x10, rfl, o4, hd4, hl4⟩ := h4
      rw [List.getElem?_map] at hx
      obtain ⟨s0, hs1, hs2⟩ := Option.map_eq_some_iff.mp hx
      subst hs2
      have sS : s0 ∈ sts := List.mem_of_getElem? hs1
      have sK := stK s0 sS
      have hi : i < sts.length := by rw [List.length_map] at hi; exact hi
      have ht : sts.take (i + 1) = sts.take i ++ [s0] := by rw [List.take_add_one, hs1]; rfl
      refine ⟨_, rfl, (show 2 ≤ sizeLine by decide), fun t ht0 => ?_⟩
      refine ⟨(show 1 ≤ sizeLine by decide), fun tp htp => ?_⟩
      have tt : t ≠ tp := ne_of_none upd_same htp
      have S6 : Same H5 (upd (upd H5 t (.tup [vT s0, .str ""])) tp (.lst [.ref t])) := same_upd2 (same_upd ht0) ((same_upd ht0).free htp)
      have pt0 : PT (upd (upd H5 t (.tup [vT s0, .str ""])) tp (.lst [.ref t])) tp (Sw.tlL g ks s0 n q 0) := by
        refine ⟨[t], upd_same, ?_⟩
        rw [Sw.tlL]
        refine .cons ?_ .nil
        rw [upd_ne tt, upd_same]
        rfl
      generalize hG6 : upd (upd H5 t (.tup [vT s0, .str ""])) tp (.lst [.ref t]) = G6 at *
      have o6 : ∀ b o, H1 b = some o → b ≠ D0 → G6 b = some o := fun b o h1 h2 => S6 _ _ (o4 b o h1 h2)
      have hd6 := S6 _ _ hd4
      have hl6 := S6 _ _ hl4
      have oH : ∀ b o, H b = some o → G6 b = some o := fun b o hb => o6 _ _ (s1 _ _ hb) (ne_of_none hb hD0)
      have bk6 : BK g ks s0 n (fun p => p ≠ D0) G6 (fb s0) := by
        obtain ⟨as, b1, b2, b3⟩ := bk s0 sK
        exact ⟨as, o6 _ _ b1 (ne_ob hd1 b1 (fun z => nomatch z)), b2, fun i p hp => ⟨o6 _ _ (b3 i p hp).1 (b3 i p hp).2, (b3 i p hp).2⟩⟩
      refine ⟨_, rfl, n, rfl, by omega, by omega, ?_⟩
      have en : ((n : Int)).toNat = n := by omega
      rw [en]
      refine for_it (walk_range (lo := 0) (n := n)) (fun j σ H7 => ∃ x8 x9 x10 tq, σ = [some (.ref p), some (.int n), some (.ref f), some (.int q), some (.ref D0), some (.ref l), some (vT s0), some (.ref tq), x8, x9, x10] ∧ Same G6 H7 ∧ PT H7 tq (Sw.tlL g ks s0 n q j))
        ⟨x8, x9, x10, tp, rfl, fun _ _ h => h, pt0⟩ (fun _ _ _ _ _ => trivial) ?_ ?_
      · intro j x σ H7 H8 hj h7 y
        obtain ⟨rfl, rfl⟩ := y
        obtain ⟨x8, x9, x10, tq, rfl, s7, pt7⟩ := h7
        obtain ⟨as, b1, b2, b3⟩ := bk6.same s7
        obtain ⟨aj, haj⟩ : ∃ aj, as[j + 1]? = some aj := ⟨_, List.getElem?_eq_getElem (by omega)⟩
        have hat : atI (as.map V.ref) ((0 + (j : Int)) + 1) = some (V.ref aj) := by
          have e : (0 + (j : Int)) + 1 = ((j + 1 : Nat) : Int) := by omega
          rw [e]
          exact atI_nat (by rw [List.getElem?_map, haj]; rfl)
        have oH7 : Same H H8 := fun b o hb => s7 _ _ (oH b o hb)
        have tl1 := Sw.tlL_ks (n := n) (q := q) G sK j
        have tl2 := Sw.tlL_len (s := s0) (n := n) (q := q) G j
        have tl3 : 4 ^ j ≤ 1024 := Nat.pow_le_pow_right (by decide) (show j ≤ 5 by omega)
        refine ⟨_, rfl, f, d, rfl, gv.same oH7, ⟨_, rfl, _, rfl, rfl, ?_⟩⟩
        refine ⟨_, rfl, _, rfl, D0, _, rfl, hdk (s7 _ _ hd6) s0 sS, _, rfl, (0 + (j : Int)), 1, rfl, rfl, fb s0, _, _, _, rfl, rfl, SqL.of b1, hat, _, rfl, tq, d, aj, g, ks, s0, n - (j + 1), q, Sw.tlL g ks s0 n q j, rfl, pt7, D.same oH7, (b3 (j + 1) aj haj).1, G, fun x hx => ⟨(tl1 x hx).1, by have := (tl1 x hx).2; omega⟩, hq, by omega, fun r H9 hr9 s9 pt9 => ⟨some (.int (0 + (j : Int))), x9, x10, r, rfl, s7.trans s9, ?_⟩⟩
        rw [Sw.tlL]
        exact pt9
      · intro σ H7 h7
        obtain ⟨x8, x9, x10, tq, rfl, s7, us, hu1, hu2⟩ := h7
        have hl7 := s7 _ _ hl6
        have e7 := Sw.tlL_end (q := q) G sK hn
        generalize Sw.tlL g ks s0 n q n = L at *
        refine ⟨_, rfl, .inl ⟨rfl, _, SqL.of hl7⟩, _, rfl, tq, rfl, ⟨_, SqL.of hu1⟩, fun D2 hD2 => ?_⟩
        have ul := paired_len hu2
        have Ll : L.length ≤ 1024 := by
          have h1 := congrArg List.length e7
          rw [List.length_map, List.length_map] at h1
          rw [h1]
          exact Sw.wk_le G sK hn h5
        refine lc_it (walk_list (K := K) (a := tq) (xs := us.map V.ref)) (fun j H9 => H9 = upd H7 D2 (.lst (((L.take j).map (·.2)).map vT))) rfl (fun j H9 _ h9 => by
          subst h9
          exact SqL.of (same_upd hD2 _ _ hu1)) ?_ ?_
        · intro j x H9 H10 hj h9 yy
          obtain ⟨rfl, hx⟩ := yy
          subst h9
          rw [List.getElem?_map] at hx
          obtain ⟨t9, ht9, hx2⟩ := Option.map_eq_some_iff.mp hx
          subst hx2
          obtain ⟨y9, hy9, htup⟩ := paired_at hu2 ht9
          have htk : L.take (j + 1) = L.take j ++ [y9] := by rw [List.take_add_one, hy9]; rfl
          refine ⟨t9, _, rfl, SqT.of (same_upd hD2 _ _ htup), rfl, _, _, rfl, _, _, rfl, rfl, by rfl, ?_⟩
          unfold tYes
          refine iteT ⟨_, rfl, _, upd_same, ?_, ?_⟩
          · rw [List.length_map, List.length_map]
            have := List.length_take_le' j L
            exact Nat.lt_of_le_of_lt (show _ ≤ 1024 by omega) (by decide)
          · rw [upd_upd, htk, List.map_append, List.map_append]
            rfl
        · intro H9 h9
          subst h9
          rw [List.length_map, ul, List.take_length, e7]
          have lD2 : l ≠ D2 := ne_of_none hl7 hD2
          refine ⟨l, D2, _, _, rfl, rfl, by rw [upd_ne lD2]; exact hl7, upd_same, ?_, some (vT s0), some (.ref tq), x8, x9, x10, rfl, fun b o hb ne => ?_, ?_, ?_⟩
          · rw [List.length_map, List.length_map, List.length_map]
            have h1 := Sw.texts_le (q := q) G hn h5 (sts.take i) fun s hs => stK s (List.mem_of_mem_take hs)
            have h2 := List.length_take_le' i sts
            have h3 := Sw.wk_le G sK hn h5
            exact Nat.le_trans (show _ ≤ 1100000 by omega) (by decide)
          · have h9 := s7 _ _ (o6 b o hb ne)
            rw [upd_ne (ne_of_none hb hl), upd_ne (ne_of_none h9 hD2)]
            exact h9
          · have h9 := s7 _ _ hd6
            rw [upd_ne Dl, upd_ne (ne_of_none h9 hD2)]
            exact h9
          · rw [upd_same, ht, List.flatMap_append, ← List.map_append]
            simp
    · intro σ H4 h4
      obtain ⟨x6, x7, x8, x9, x10, rfl, o4, hd4, hl4⟩ := h4
      rw [List.length_map, List.take_length] at hl4
      refine ⟨hd4, ?_⟩
      have hl5 : (upd H4 D0 (.dK kvs0)) l = some (.lst ((sts.flatMap fun s => (Sw.wk g s n s).map (Sw.txt q)).map vT)) := by rw [upd_ne (Ne.symm Dl)]; exact hl4
      have s5 : Same H (upd H4 D0 (.dK kvs0)) := fun b o hb => by
        have ne := ne_of_none hb hD0
        rw [upd_ne ne]
        exact o4 _ _ (s1 _ _ hb) ne
      refine ⟨_, rfl, l, _, rfl, SqL.of hl5, fun r hr2 => k r _ (same_upd2 s5 (s5.free hr2)) (s5.free hr2) ?_⟩
      rw [upd_same, ← hsts, Sw.texts_filter]
end
end Wk

/-! W15: shapes_of. -/
namespace Sw
section
variable {W : List Row} {n : Nat}
theorem deg4 (w : Win W n) (h : ∀ x ∈ W, ∀ c ∈ x, c ∈ ([48, 49, 50, 51] : List Nat)) (a : Row) : (goals W a).length ≤ 4 := by
  have sub : goals W a ⊆ ([48, 49, 50, 51] : List Nat).map fun x => a.tail ++ [x] := by
    intro b hb
    obtain ⟨x, hx, h1, h2⟩ := mem_goals.mp hb
    have lx := w.len x hx
    have p := w.pos
    have xne : x ≠ [] := fun e => by rw [e] at lx; simp at lx
    refine List.mem_map.mpr ⟨x.getLast xne, h x hx _ (List.getLast_mem xne), ?_⟩
    rw [← h2, ← h1]
    have ex := List.dropLast_concat_getLast xne
    have dne : x.dropLast ≠ [] := fun e => by
      have := congrArg List.length e
      rw [List.length_dropLast, lx] at this
      simp at this
      omega
    conv => rhs; rw [← ex]
    rw [List.tail_append_of_ne_nil dne]
  have := (goals_nodup w (a := a)).length_le_of_subset sub
  simpa using this
theorem nodes_gr (w : Wb W n) (h : ∀ x ∈ W, ∀ c ∈ x, c ∈ ([48, 49, 50, 51] : List Nat)) : Gr (wgoals W) (nodes W) where
  nd := strict_nodup (nodes_asc w.win)
  len := by
    unfold nodes
    exact Nat.le_trans (List.length_filter_le _ _) w.keys_len
  cl := fun a _ b hb => by
    obtain ⟨e, r⟩ := mem_wgoals.mp hb
    exact mem_nodes.mpr (r.trans (.one e))
  out := fun a ha => by
    match e : wgoals W a with
    | [] => rfl
    | b :: t =>
      have hb : b ∈ wgoals W a := by rw [e]; exact List.mem_cons_self
      obtain ⟨e1, r⟩ := mem_wgoals.mp hb
      exact absurd (mem_nodes.mpr (R.head e1 r)) ha
  deg := fun a => by
    unfold wgoals
    exact Nat.le_trans (List.length_filter_le _ _) (deg4 w.win h a)
end
end Sw
namespace Wk
open PySem PySem.Spec PyProof.Rows L2 LamX
theorem okFc {P : Program} {w : World} {K : PySem.W.Frag} {mg : Str → Option Value} {base : Heap} {x qual : Str} {params : Arguments} {body : List Stmt} {scope : Scope} {dvs : List V} {kws : List (Str × V)} {f : Addr} {fd : FuncData} {N ps : List Str} {k : Nat} {sp : Sp} {cc : Addr}
    (F : FunD K x qual params body scope dvs kws f fd) (hcc : fd.code = .ref cc) (S : FnScope N ps scope) (len : ∀ vs H Q E, sp vs H Q E → vs.length = ps.length)
    (hbody : ∀ (A : Around) (outer : List Env) (s : Shared) (H : Hp) (vs : List V) (Q : VK) (E : XK), Room k (A.deeper (envOfC qual scope s.heap.objs.size f (.ref cc))) → sp vs H Q E →
      ∃ t, PSs (cxOf CX0 P w K mg base N qual scope f (.ref cc) A outer s H E).nox body t ∧ t { nx := fun _ H' => Q .non H', rt := Q } (L2.start N vs) H) : FnOk P w K mg base CX0 (k + 1) f fd ps sp := by
  obtain ⟨oc, od, dV, kV, doc, pm, an, cdv, ct, osl, rfl, lk, hcd, _, _⟩ := F.ex
  obtain rfl : cdv = .ref cc := hcc
  refine fn_of lk hcd S len fun A outer s H vs Q E hr hsp => ?_
  obtain ⟨t, ht, q⟩ := hbody A outer s H vs Q E hr hsp
  exact ⟨t, ht.nox, q⟩
theorem RuleAt.extN {C : Addr} {H H' : Hp} {p : Addr} {tb : Sw.Row} {r : Nat} (h : RuleAt C H p tb r) (s : ExtN H H') : RuleAt C H' p tb r := by
  obtain ⟨dx, h1, h2⟩ := h
  exact ⟨dx, s _ _ h1 (fun ps z => by unfold SlX.SlO at z; cases z), s _ _ h2 (fun ps z => nomatch z)⟩
theorem DL.extN {H H' : Hp} {p : Addr} {ks : List Sw.Row} {G : Sw.Row → List Sw.Row} (h : DL H p ks G) (s : ExtN H H') : DL H' p ks G := by
  obtain ⟨f, h1, h2⟩ := h
  exact ⟨f, s _ _ h1 (fun ps z => nomatch z), fun k hk => s _ _ (h2 k hk) (fun ps z => nomatch z)⟩
theorem WebAt.extN {C : Addr} {H H' : Hp} {a : Addr} {W : List Sw.Row} (h : WebAt C H a W) (s : ExtN H H') : WebAt C H' a W := by
  obtain ⟨dx, pw, pp, ps, rp, as, m, q, h1, h2, h3, h4, h5, h6⟩ := h
  exact ⟨dx, pw, pp, ps, rp, as, m, q, s _ _ h1 (fun ps z => by unfold SlX.SlO at z; cases z), s _ _ h2 (fun ps z => nomatch z), s _ _ h3 (fun ps z => nomatch z), s _ _ h4 (fun ps z => nomatch z), h5.imp (fun q m _ hm => s _ _ hm (fun ps z => nomatch z)), h6.extN s⟩
theorem wins_sg {tb : Sw.Row} {r q : Nat} {m : Int} (hr : r ≤ 2) : ∀ x ∈ Sw.wins tb r m q, ∀ c ∈ x, c ∈ ([48, 49, 50, 51] : List Nat) := fun w hw c hc => by
  have h1 := (Sw.mem_rows.mp (List.mem_filter.mp hw).1).2 c hc
  have e : r = 0 ∨ r = 1 ∨ r = 2 := by omega
  rcases e with e | e | e <;> subst e <;> simp [Sw.sg] at h1 ⊢ <;> omega
section
variable {P : Program} {w : World} {K : PySem.W.Frag} {mg : Str → Option Value} {base : Heap} {C CR : Addr}
def spShapes (CR : Addr) (T : List (Addr × Str)) : Sp := fun vs H Q _ => ∃ (p : Addr) (tb : Sw.Row) (r q n : Nat) (m : Int), vs = [.ref p, .int m, .int q, .int n] ∧ RuleAt CR H p tb r ∧ TbOk tb ∧ r ≤ 2 ∧ (r + 2) ^ (2 * q + 1) ≤ 1000 ∧ 1 ≤ q ∧ q ≤ 100 ∧ -(q : Int) ≤ m ∧ m ≤ q ∧ Tabs T H ∧ 1 ≤ n ∧ n ≤ 5 ∧
  ∀ (d : Addr) (H' : Hp), ExtN H H' → Tabs T H' → H' d = some (.lst ((Sw.srt (Sw.txs (Sw.wins tb r m q) q n)).map vT)) → Q (.ref d) H'
abbrev N18 : List Str := ["rule", "p", "q", "size", "steps"]
theorem sc18 : FnScope N18 ["rule", "p", "q", "size"] dd18.scope := ⟨rfl, rfl, rfl, by decide +kernel, rfl, by decide +kernel, by decide +kernel⟩
theorem c_shapes_of {a cc Pt : Addr} {fd : FuncData} (F : FnT K dd18 a fd) (hcc : fd.code = .ref cc) (TB : TabB base mg cc Pt) (hm : mg "shapes_of" = some (.ref a)) (h1 : mg "list" = none) (WC : WebC K C) (c1 : C8.Mak P w K mg base 6 "Web" C (spWInit C CR) []) (c2 : MetS P w K mg base 1 C "steps" (spWSteps C)) (c3 : Cl P w K mg base 3 "all_texts" spAllTexts) :
    Cl P w K mg base 8 "shapes_of" (spShapes CR [(Pt, q18)]) := by
  refine cl_of F hm (ps := ["rule", "p", "q", "size"]) (F.bindsN fun _ _ _ _ _ _ us hl => match us, hl with | [_, _, _, _], _ => rfl) (okFc F hcc sc18 (fun vs H Q E h => ?_) fun A outer s H vs Q E hr h => ?_)
  · obtain ⟨_, _, _, _, _, _, rfl, _⟩ := h
    rfl
  · obtain ⟨p, tb, r, q, n, m, rfl, R, htb, hr2, hz, hq1, hq9, hm1, hm2, hT, hn, h5, k⟩ := h
    refine ⟨_, pss_cons (ps_set (i := 4) sc18.nd rfl (Or.inr rfl) (pe_mt0 (C8.pe_mk c1 hr (by decide) (by rfl) (pa_cons (pv 0) (pa_cons (pv 1) (pa_cons (pv 2) pa_nil)))) WC.sc c2 hr (by decide)))
      (pss_one (ps_ret (pe_callC (i := 4) (y := nmS) (c := s.heap.objs.size + 1) c3 hr (by decide) (by rfl) rfl (by rfl) (by rfl) (by rfl) (by show s.heap.objs.size + 1 ≠ s.heap.objs.size; omega)
        (pa_cons (pe_callTy (call_listD (by rfl)) (by rfl) h1 b_list (pa_cons (pv 4) pa_nil)) (pa_cons (pv 3) (pa_cons (pe_lamMk (T := [(Pt, q18)]) (cc := cc) (P := Pt) TB (by rfl) (show ((dd18.qual ++ ".<locals>.") ++ "<lambda>" : Str) = q18 by decide +kernel) (by rw [lamSc_names]; rfl) (by simp) (fun p hp _ => by rw [List.mem_singleton.mp hp]) (by rfl)) (pa_cons (pv 2) pa_nil))))))), ?_⟩
    refine ⟨_, rfl, _, rfl, _, rfl, fun x ex nx nex ne => ?_⟩
    have Sx : Same H (upd (upd H ex (.own x)) x (.ins C ex [])) := fun b o hb => by
      rw [upd_ne (ne_of_none hb nx), upd_ne (ne_of_none hb nex)]
      exact hb
    have wb : Sw.Wb (Sw.wins tb r m q) (2 * q) := wins_wb hq1 hr2 hz hq9
    have G := Sw.nodes_gr wb (wins_sg (q := q) (m := m) (tb := tb) hr2)
    refine ⟨x, ex, p, tb, r, q, m, rfl, R.same Sx, htb, hr2, hz, hq1, hq9, hm1, hm2, upd_same, by rw [upd_ne ne, upd_same], ne, fun H1 wa o1 => ⟨rfl, ?_⟩⟩
    have s1 : Same H H1 := fun b o hb => o1 b o (ne_of_none hb nx) (ne_of_none hb nex) (Sx _ _ hb)
    generalize hW : Sw.wins tb r m q = W at *
    obtain ⟨dx, pw, pp, ps, rp, as, m', q', w1, w2, _⟩ := id wa
    refine ⟨x, dx, _, rfl, .inr ⟨w1, w2⟩, x, W, 2 * q, rfl, wa, wb, fun d H2 s2 D => ?_⟩
    obtain ⟨fd, hd, hfd⟩ := id D
    refine ⟨_, rfl, d, _, rfl, .inl hd, fun lp hlp => ?_⟩
    rw [dkv_kV]
    have s3 := same_upd (o := .lst ((Sw.nodes W).map vT)) hlp
    have l3 : (upd H2 lp (.lst ((Sw.nodes W).map vT))) lp = some (.lst ((Sw.nodes W).map vT)) := upd_same
    generalize hH3 : upd H2 lp (.lst ((Sw.nodes W).map vT)) = H3 at *
    have s03 : Same H H3 := (s1.trans s2).trans s3
    refine ⟨_, rfl, hT.ext s03, fun f c' H4 eN nn T4 f0 f1 c1' => ?_⟩
    refine ⟨_, rfl, d, rfl, fun ob hob hc4 => ?_⟩
    have s5 : Same H4 (upd H4 (s.heap.objs.size + 1) (CellO (s.heap.objs.size + 1) ob)) := same_upd hc4
    have D4 : DL H4 d (Sw.nodes W) (Sw.wgoals W) := (D.same s3).extN eN
    refine ⟨lp, f, d, Sw.wgoals W, Sw.nodes W, n, q, rfl, s5 _ _ (eN _ _ l3 (fun ps z => nomatch z)), ⟨_, c', ob, s5 _ _ f1, upd_same, hob, s5 _ _ c1'⟩, D4.same s5, G, hn, h5, fun b hb => ?_, fun rd H5 s6 hrd hr5 => ?_⟩
    · have lb := (wb.r (Sw.mem_nodes.mp hb)).2.2.1
      exact ⟨by omega, by omega⟩
    · have hcc5 := s6 _ _ (upd_same (H := H4) (a := s.heap.objs.size + 1) (o := CellO (s.heap.objs.size + 1) ob))
      have all : ∀ b o, H4 b = some o → hcut H5 (s.heap.objs.size + 1) b = some o := fun b o hb => by
        rw [hcut_ne (ne_of_none hb hc4)]
        exact s6 _ _ (s5 _ _ hb)
      refine ⟨hcc5, k rd _ (fun b o hb ho => all _ _ (eN _ _ (s03 _ _ hb) ho)) (T4.ext all) ?_⟩
      rw [hcut_ne (ne_ob hcc5 hr5 (fun z => by unfold CellO at z; cases z))]
      exact hr5
end
end Wk

/-! W16: _law_bag, _law_take. -/
namespace Wk
open PySem PySem.Spec PyProof.Rows L2
/-- all but the object at b stay -/
def OthS (b : Addr) (H H' : Hp) : Prop := ∀ c o, c ≠ b → H c = some o → H' c = some o
theorem OthS.refl (b : Addr) (H : Hp) : OthS b H H := fun _ _ _ h => h
theorem OthS.trans {b : Addr} {H H1 H2 : Hp} (x : OthS b H H1) (y : OthS b H1 H2) : OthS b H H2 := fun c o n h => y c o n (x c o n h)
theorem OthS.of {b : Addr} {H H1 : Hp} (s : Same H H1) : OthS b H H1 := fun c o _ h => s c o h
def BagAt (H : Hp) (b cl : Addr) : Prop := ∃ (s0 s1 : Int) (s2 : Nat) (cs : List Int), H b = some (.lst [.int s0, .int s1, .int (s2 : Int), .ref cl]) ∧ cl ≠ b ∧ H cl = some (.lst (cs.map V.int)) ∧ -(2 ^ 62) < s1 ∧ s1 < 2 ^ 62
theorem BagAt.same {H H' : Hp} {b cl : Addr} (h : BagAt H b cl) (s : Same H H') : BagAt H' b cl := by
  obtain ⟨s0, s1, s2, cs, h1, h2, h3, h4, h5⟩ := h
  exact ⟨s0, s1, s2, cs, s _ _ h1, h2, s _ _ h3, h4, h5⟩
section
variable {P : Program} {w : World} {K : PySem.W.Frag} {mg : Str → Option Value} {base : Heap} {C CR : Addr}
def spBag (K : PySem.W.Frag) : Sp := fun vs H Q _ => ∃ (p : Addr) (ns : List Int), vs = [.ref p] ∧ SqL K H p (ns.map V.int) ∧ ns.length ≤ 1000 ∧ ∀ (b cl : Addr) (H' : Hp), Same H H' → H b = none → BagAt H' b cl → Q (.ref b) H'
abbrev N19 : List Str := ["_law_script", "_law_cell"]
theorem sc19 : FnScope N19 ["_law_script"] dd19.scope := ⟨rfl, rfl, rfl, by decide +kernel, rfl, by decide +kernel, by decide +kernel⟩
theorem SqL.up {K : PySem.W.Frag} {H H' : Hp} {a : Addr} {xs : List V} (h : SqL K H a xs) (s : Same H H') : SqL K H' a xs := by
  rcases h with (h | ⟨o, h⟩) | h
  · exact .inl (.inl (s _ _ h))
  · exact .inl (.inr ⟨o, s _ _ h⟩)
  · exact .inr h
theorem c_law_bag {a : Addr} {fd : FuncData} (F : FnT K dd19 a fd) (hm : mg "_law_bag" = some (.ref a)) (h1 : mg "abs" = none) : Cl P w K mg base 1 "_law_bag" (spBag K) := by
  refine cl_of F hm (ps := ["_law_script"]) (F.bindsN fun _ _ _ _ _ _ us hl => match us, hl with | [_], _ => rfl) (okF F sc19 (fun vs H Q E h => ?_) fun cdv A outer s H vs Q E hr h => ?_)
  · obtain ⟨_, _, rfl, _⟩ := h
    rfl
  · obtain ⟨p, ns, rfl, hs, hz, k⟩ := h
    refine ⟨_, pss_one (ps_ret (pe_lst (pa_cons pe_int (pa_cons pe_int (pa_cons pe_int (pa_cons (pe_lc (own := [("_law_cell", 1)]) (g := gName 1) (tt := tYes) rfl sc19.nd (pi_list (pe_slice sl_list (pv 0) po_none (po_some pe_int))) (blkOk_by (N := N19) (sc := dd19.scope) (by decide +kernel))
      (fun _ _ _ _ _ => pg_name (i := 1) sc19.nd rfl (Or.inl rfl)) (fun _ _ _ _ _ => pts_nil) (fun _ _ _ _ _ => pe_callB call_abs (by rfl) h1 b_abs (pa_cons (pv 1) pa_nil))) pa_nil)))))), ?_⟩
    refine ⟨_, rfl, _, rfl, p, _, rfl, hs, fun c hc => ?_⟩
    obtain ⟨ms, hms, hml⟩ : ∃ ms : List Int, cutV (ns.map V.int) none (some 63) = ms.map V.int ∧ ms.length ≤ ns.length := by
      unfold cutV
      rw [← List.map_drop, ← List.map_take]
      exact ⟨_, rfl, by rw [List.length_take, List.length_drop]; omega⟩
    rw [hms]
    have Sc := same_upd (o := .lst (ms.map V.int)) hc
    generalize hH1 : upd H c (.lst (ms.map V.int)) = H1 at *
    have c1 : H1 c = some (.lst (ms.map V.int)) := by rw [← hH1]; exact upd_same
    refine ⟨c, rfl, ⟨_, SqL.of c1⟩, fun D hD => ?_⟩
    refine lc_map (walk_list (K := K) (a := c) (xs := ms.map V.int)) (fun v => match v with | .int i => .int (if i < 0 then -i else i) | _ => .non) hD (fun H2 s2 => SqL.of (s2 _ _ c1)) (by rw [List.length_map]; exact Nat.le_trans (show _ ≤ 1000 by omega) (by decide)) (fun x hx H2 s2 R hR => hR _ (by rfl) fun Q' q => ?_) ?_
    · obtain ⟨i, hi, rfl⟩ := List.mem_map.mp hx
      exact ⟨_, rfl, i, rfl, q⟩
    · refine ⟨(show 4 ≤ sizeLine by decide), fun b hb => ?_⟩
      have Db : D ≠ b := ne_of_none upd_same hb
      have S2 : Same H (upd H1 D (.lst ((ms.map V.int).map fun v => match v with | .int i => V.int (if i < 0 then -i else i) | _ => .non))) := same_upd2 Sc (Sc.free hD)
      refine k b D _ (same_upd2 S2 (S2.free hb)) (S2.free hb) ⟨0, 1234567891, 0, ms.map fun i => if i < 0 then -i else i, upd_same, Db, ?_, by decide, by decide⟩
      rw [upd_ne Db, upd_same, List.map_map, List.map_map]
      rfl
/-! ### _law_take -/
theorem iteTd {c : Bool} {A B : Prop} (hc : c = true) (h : A) : if c = true then A else B := by
  rw [if_pos hc]
  exact h
theorem iteFd {c : Bool} {A B : Prop} (hc : c = false) (h : B) : if c = true then A else B := by
  rw [hc]
  exact h
def spTake : Sp := fun vs H Q _ => ∃ (b cl : Addr) (many : Nat), vs = [.ref b, .int many] ∧ BagAt H b cl ∧ 1 ≤ many ∧ many ≤ 1000 ∧ ∀ (v : Nat) (H' : Hp), v < many → OthS b H H' → BagAt H' b cl → Q (.int v) H'
abbrev N20 : List Str := ["_law_bag_here", "_law_many", "_law_cell", "_law_mixed", "_law_value", "_law_begin", "_law_second"]
theorem sc20 : FnScope N20 ["_law_bag_here", "_law_many"] dd20.scope := ⟨rfl, rfl, rfl, by decide +kernel, rfl, by decide +kernel, by decide +kernel⟩
section
variable {X : Cx}
theorem pe_ixb {e : Expr} {te : TE} {i : Int} {j : Nat} {p1 pos : Pos} (he : PE X e te) : PE X (.Subscript e (.Constant (.int i) j p1) pos) (tOp (rIxL X.K) te (tC (.int i))) := pe_ix ix_list he pe_int (fun _ _ => rfl)
end
theorem c_law_take {a : Addr} {fd : FuncData} (F : FnT K dd20 a fd) (hm : mg "_law_take" = some (.ref a)) (h1 : mg "len" = none) (h2 : mg "int" = none) : Cl P w K mg base 1 "_law_take" spTake := by
  refine cl_of F hm (ps := ["_law_bag_here", "_law_many"]) (F.bindsN fun _ _ _ _ _ _ us hl => match us, hl with | [_, _], _ => rfl) (okF F sc20 (fun vs H Q E h => ?_) fun cdv A outer s H vs Q E hr h => ?_)
  · obtain ⟨_, _, _, rfl, _⟩ := h
    rfl
  · obtain ⟨b, cl, many, rfl, bag, hm1, hm2, k⟩ := h
    refine ⟨_, C8.pss_cut (ps_if (pt_cmp (pc_eqI (pe_ixb (pv 0)) pe_int))
        (pss_cons (ps_set (i := 2) sc20.nd rfl (Or.inl rfl) pe_int)
        (C8.pss_cut (ps_if (pt_cmp (pc_lt (pe_ixb (pv 0)) (pe_callB call_len_seq (by rfl) h1 b_len (pa_cons (pe_ixb (pv 0)) pa_nil)))) (pss_one (ps_set (i := 2) sc20.nd rfl (Or.inl rfl) (pe_ix ix_list (pe_ixb (pv 0)) (pe_ixb (pv 0)) (fun _ _ => rfl)))) pss_nil)
        (pss_cons (ps_augS (pv 0) pe_int pget_list pe_int ip_add set_list)
        (C8.pss_cut (ps_if (pt_cmp (pc_ge (pv 2) pe_int)) (pss_one (ps_asg (pv 2) (pg_sub (pv 0) pe_int set_list))) pss_nil)
        (pss_cons (ps_set (i := 3) sc20.nd rfl (Or.inl rfl) (pe_op op_add (pe_op op_add (pe_mul (pe_ixb (pv 0)) pe_int) (pe_op op_modN (pe_callTy call_int1 (by rfl) h2 b_int (pa_cons (pv 2) pa_nil)) pe_int)) (pe_mul pe_int (pe_ixb (pv 0)))))
        (pss_one (ps_asg (pe_op op_modN (pe_callTy call_int1 (by rfl) h2 b_int (pa_cons (pv 3) pa_nil)) pe_int) (pg_sub (pv 0) pe_int set_list)))))))) pss_nil)
      (pss_cons (ps_if (pt_cmp (pc_gt (pe_ixb (pv 0)) pe_int))
        (pss_cons (ps_set (i := 4) sc20.nd rfl (Or.inl rfl) (pe_op op_modN (pe_callTy call_int1 (by rfl) h2 b_int (pa_cons (pe_ixb (pv 0)) pa_nil)) (pv 1)))
        (pss_cons (ps_asg (pe_op op_fdivN (pe_ixb (pv 0)) (pv 1)) (pg_sub (pv 0) pe_int set_list))
        (pss_one (ps_ret (pv 4))))) pss_nil)
      (pss_cons (ps_set (i := 5) sc20.nd rfl (Or.inl rfl) (pe_op op_modN (pe_callTy call_int1 (by rfl) h2 b_int (pa_cons (pe_mul (pe_op op_add (pe_ixb (pv 0)) pe_int) pe_int) pa_nil)) pe_int))
      (pss_cons (ps_set (i := 6) sc20.nd rfl (Or.inl rfl) (pe_op op_modN (pe_callTy call_int1 (by rfl) h2 b_int (pa_cons (pe_mul (pe_op op_modN (pe_callTy call_int1 (by rfl) h2 b_int (pa_cons (pe_mul (pv 5) (pv 5)) pa_nil)) pe_int) pe_int) pa_nil)) pe_int))
      (pss_cons (ps_if (pt_cmp (pc_gt (pv 1) pe_int)) pss_never pss_nil)
      (pss_one (ps_ret (pe_op op_modN (pe_callTy call_int1 (by rfl) h2 b_int (pa_cons (pe_op op_fdivN (pv 6) pe_int) pa_nil)) (pv 1)))))))), ?_⟩
    obtain ⟨s0, s1, s2, cs, hb, hne, hcl, hl1, hl2⟩ := bag
    have sq : ∀ {H2 : Hp} {xs : List V}, H2 b = some (.lst xs) → SqL K H2 b xs := fun h => SqL.of h
    refine ⟨fun σ' H' => ∃ x2 x3, σ' = [some (.ref b), some (.int many), x2, x3, none, none, none] ∧ OthS b H H' ∧ BagAt H' b cl, ?_, ?_⟩
    · refine ⟨_, rfl, b, _, 0, _, rfl, rfl, sq hb, rfl, s0, 0, rfl, rfl, _, rfl, ?_⟩
      by_cases h0 : s0 = 0
      · refine iteTd (decide_eq_true h0) ?_
        refine ⟨fun σ' H' => ∃ cell : Int, σ' = [some (.ref b), some (.int many), some (.int cell), none, none, none, none] ∧ H' = H, ?_, ?_⟩
        · refine ⟨_, rfl, b, _, 2, _, rfl, rfl, sq hb, rfl, _, rfl, b, _, 3, _, rfl, rfl, sq hb, rfl, cl, _, rfl, .inl (SqL.of hcl), (s2 : Int), _, rfl, rfl, _, rfl, ?_⟩
          rw [List.length_map]
          by_cases hlt : s2 < cs.length
          · refine iteTd (decide_eq_true (show (s2 : Int) < (cs.length : Int) by omega)) ⟨_, rfl, b, _, 3, _, rfl, rfl, sq hb, rfl, _, rfl, b, _, 2, _, rfl, rfl, sq hb, rfl, cl, _, (s2 : Int), .int cs[s2], rfl, rfl, SqL.of hcl, atI_nat (by rw [List.getElem?_map, List.getElem?_eq_getElem hlt]; rfl), cs[s2], rfl, rfl⟩
          · exact iteFd (decide_eq_false (show ¬ (s2 : Int) < (cs.length : Int) by omega)) ⟨0, rfl, rfl⟩
        · rintro σ' H' ⟨cell, rfl, rfl⟩
          refine ⟨_, rfl, b, _, 2, _, rfl, rfl, sq hb, rfl, (s2 : Int), 1, rfl, rfl, b, _, 2, 2, rfl, rfl, hb, rfl, ?_⟩
          have es : ([V.int s0, V.int s1, V.int (s2 : Int), V.ref cl].set 2 (V.int ((s2 : Int) + 1))) = [V.int s0, V.int s1, V.int ((s2 + 1 : Nat) : Int), V.ref cl] := rfl
          rw [es]
          refine ⟨fun σ' H2 => ∃ s0' : Int, σ' = [some (.ref b), some (.int many), some (.int cell), none, none, none, none] ∧ OthS b H' H2 ∧ H2 b = some (.lst [.int s0', .int s1, .int ((s2 + 1 : Nat) : Int), .ref cl]), ?_, ?_⟩
          · refine ⟨_, rfl, cell, 1000000000000000000, rfl, rfl, _, rfl, ?_⟩
            have o1 : OthS b H' (upd H' b (.lst [V.int s0, V.int s1, V.int ((s2 + 1 : Nat) : Int), V.ref cl])) := fun c o n h => by rw [upd_ne n]; exact h
            by_cases hc : cell ≥ 1000000000000000000
            · refine iteTd (decide_eq_true hc) ⟨_, rfl, _, rfl, b, _, 0, 0, rfl, rfl, upd_same, rfl, cell, rfl, ?_, ?_⟩
              · rw [upd_upd]
                exact fun c o n h => by rw [upd_ne n]; exact h
              · exact upd_same
            · exact iteFd (decide_eq_false hc) ⟨s0, rfl, o1, upd_same⟩
          · rintro σ2 H2 ⟨s0', rfl, o2, hb2⟩
            have cl2 := o2 _ _ hne hcl
            refine ⟨_, rfl, b, _, 1, _, rfl, rfl, sq hb2, rfl, s1, 48271, rfl, rfl, ⟨by omega, by omega⟩, _, rfl, .inl ⟨cell, rfl, cell, 2147483647, rfl, rfl, (show (2147483647 : Int) ≠ 0 by decide), s1 * 48271, cell.fmod 2147483647, rfl, rfl, ?_⟩⟩
            refine ⟨_, rfl, b, _, 2, _, rfl, rfl, sq hb2, rfl, 7919, ((s2 + 1 : Nat) : Int), rfl, rfl, ⟨by decide, by decide⟩, _, _, rfl, rfl, ?_⟩
            refine ⟨_, rfl, .inl ⟨_, rfl, _, 2147483647, rfl, rfl, (show (2147483647 : Int) ≠ 0 by decide), ?_⟩⟩
            dsimp only
            generalize s1 * 48271 + cell.fmod 2147483647 + 7919 * ((s2 + 1 : Nat) : Int) = mixed
            have e1 : mixed.fmod 2147483647 = mixed % 2147483647 := Int.fmod_eq_emod_of_nonneg _ (by decide)
            refine ⟨_, rfl, b, _, 1, 1, rfl, rfl, hb2, rfl, some (.int cell), some (.int mixed), rfl, fun c o n h => by rw [upd_ne n]; exact o2 c o n h, s0', mixed.fmod 2147483647, s2 + 1, cs, upd_same, hne, by rw [upd_ne hne]; exact cl2, ?_, ?_⟩
            · rw [e1]; omega
            · rw [e1]; omega
      · exact iteFd (decide_eq_false h0) ⟨none, none, rfl, OthS.refl _ _, s0, s1, s2, cs, hb, hne, hcl, hl1, hl2⟩
    · rintro σ' H1 ⟨x2, x3, rfl, o1, t0, t1, t2, ds, gb, gne, gcl, gl1, gl2⟩
      have hm0 : ((many : Nat) : Int) ≠ 0 := by omega
      have fm : ∀ x : Int, ∃ v : Nat, v < many ∧ x.fmod (many : Int) = (v : Int) := fun x => by
        have e := Int.fmod_eq_emod_of_nonneg x (show (0 : Int) ≤ (many : Int) by omega)
        have h1 := Int.emod_nonneg x hm0
        have h2 := Int.emod_lt_of_pos x (show (0 : Int) < (many : Int) by omega)
        exact ⟨(x % (many : Int)).toNat, by omega, by rw [e]; omega⟩
      refine ⟨_, rfl, b, _, 0, _, rfl, rfl, sq gb, rfl, t0, 0, rfl, rfl, _, rfl, ?_⟩
      by_cases ht : t0 > 0
      · obtain ⟨v, hv, ev⟩ := fm t0
        refine iteTd (decide_eq_true ht) ⟨_, rfl, b, _, 0, _, rfl, rfl, sq gb, rfl, .inl ⟨t0, rfl, _, rfl, t0, _, rfl, rfl, hm0, ?_⟩⟩
        dsimp only
        rw [ev]
        refine ⟨_, rfl, b, _, 0, _, rfl, rfl, sq gb, rfl, _, rfl, t0, _, rfl, rfl, ⟨hm0, by omega⟩, _, rfl, b, _, 0, 0, rfl, rfl, gb, rfl, _, rfl, k v _ hv (fun c o n h => by rw [upd_ne n]; exact o1 c o n h) ⟨_, t1, t2, ds, upd_same, gne, by rw [upd_ne gne]; exact gcl, gl1, gl2⟩⟩
      · refine iteFd (decide_eq_false ht) ?_
        refine ⟨_, rfl, b, _, 1, _, rfl, rfl, sq gb, rfl, t1, 1, rfl, rfl, t1 + 1, 39373, rfl, rfl, ⟨by omega, by omega⟩, .inl ⟨_, rfl, _, 1000000007, rfl, rfl, (show (1000000007 : Int) ≠ 0 by decide), ?_⟩⟩
        dsimp only
        have e2 : ((t1 + 1) * 39373).fmod 1000000007 = ((t1 + 1) * 39373) % 1000000007 := Int.fmod_eq_emod_of_nonneg _ (by decide)
        have e3 : 0 ≤ ((t1 + 1) * 39373).fmod 1000000007 ∧ ((t1 + 1) * 39373).fmod 1000000007 < 1000000007 := by rw [e2]; omega
        generalize ((t1 + 1) * 39373).fmod 1000000007 = bg at e3
        refine ⟨_, rfl, _, rfl, bg, bg, rfl, rfl, ⟨by omega, by omega⟩, .inl ⟨_, rfl, _, 998244353, rfl, rfl, (show (998244353 : Int) ≠ 0 by decide), ?_⟩⟩
        dsimp only
        have e4 : (bg * bg).fmod 998244353 = (bg * bg) % 998244353 := Int.fmod_eq_emod_of_nonneg _ (by decide)
        have e5 : 0 ≤ (bg * bg).fmod 998244353 ∧ (bg * bg).fmod 998244353 < 998244353 := by rw [e4]; omega
        generalize (bg * bg).fmod 998244353 = bh at e5
        refine ⟨bh, 30011, rfl, rfl, ⟨by omega, by omega⟩, .inl ⟨_, rfl, _, 998244353, rfl, rfl, (show (998244353 : Int) ≠ 0 by decide), ?_⟩⟩
        dsimp only
        refine ⟨_, rfl, many, 1000000, rfl, rfl, _, rfl, ?_⟩
        refine iteFd (decide_eq_false (show ¬ ((many : Nat) : Int) > 1000000 by omega)) ?_
        generalize (bh * 30011).fmod 998244353 = bi
        obtain ⟨v, hv, ev⟩ := fm (bi.fdiv 7)
        refine ⟨_, rfl, bi, 7, rfl, rfl, ⟨(show (7 : Int) ≠ 0 by decide), (show (7 : Int).natAbs < 1073741824 by decide)⟩, .inl ⟨_, rfl, _, rfl, _, _, rfl, rfl, hm0, ?_⟩⟩
        dsimp only
        rw [ev]
        exact k v H1 hv o1 ⟨t0, t1, t2, ds, gb, gne, gcl, gl1, gl2⟩
end
end Wk

/-! W17: _law_rule, _law_my_signs, _law_my_rule, _law_my_case, _law_mirrored. -/
namespace Wk
open PySem PySem.Spec PyProof.Rows L2
section
variable {P : Program} {w : World} {K : PySem.W.Frag} {mg : Str → Option Value} {base : Heap} {C CR : Addr}
def MadeAt (H : Hp) (t : Addr) (tb : Sw.Row) (r : Nat) : Prop := H t = some (.tup [vT tb, .int (r : Int)])
def spLRule : Sp := fun vs H Q _ => ∃ (b cl : Addr), vs = [.ref b] ∧ BagAt H b cl ∧ ∀ (t : Addr) (H' : Hp) (tb : Sw.Row) (r : Nat), OthS b H H' → BagAt H' b cl → TbOk tb → r ≤ 2 → MadeAt H' t tb r → Q (.ref t) H'
abbrev N21 : List Str := ["_law_bag_here", "_law_table", "_law_k"]
theorem sc21 : FnScope N21 ["_law_bag_here"] dd21.scope := ⟨rfl, rfl, rfl, by decide +kernel, rfl, by decide +kernel, by decide +kernel⟩
theorem OthS.new {b t : Addr} {H H' : Hp} {o : HO} (s : OthS b H H') (h : H' t = none) : OthS b H (upd H' t o) := fun c u n hc => by
  have := s c u n hc
  rw [upd_ne (ne_of_none this h)]
  exact this
theorem BagAt.new {b cl t : Addr} {H' : Hp} {o : HO} (s : BagAt H' b cl) (h : H' t = none) : BagAt (upd H' t o) b cl := s.same (same_upd h)
theorem c_law_rule {a : Addr} {fd : FuncData} (F : FnT K dd21 a fd) (hm : mg "_law_rule" = some (.ref a)) (h1 : mg "range" = none) (c : Cl P w K mg base 1 "_law_take" spTake) : Cl P w K mg base 2 "_law_rule" spLRule := by
  refine cl_of F hm (ps := ["_law_bag_here"]) (F.bindsN fun _ _ _ _ _ _ us hl => match us, hl with | [_], _ => rfl) (okF F sc21 (fun vs H Q E h => ?_) fun cdv A outer s H vs Q E hr h => ?_)
  · obtain ⟨_, _, rfl, _⟩ := h
    rfl
  · obtain ⟨b, cl, rfl, bag, k⟩ := h
    refine ⟨_, pss_cons (ps_set (i := 1) sc21.nd rfl (Or.inl rfl) (pe_join pe_str (pe_lc (own := [("_law_k", 2)]) (g := gName 2) (tt := tYes) rfl sc21.nd (pi_range1 (by rfl) h1 (pa_cons pe_int pa_nil)) (blkOk_by (N := N21) (sc := dd21.scope) (by decide +kernel))
        (fun _ _ _ _ _ => pg_name (i := 2) sc21.nd rfl (Or.inl rfl)) (fun _ _ _ _ _ => pts_nil) (fun _ _ _ _ _ => pe_ix ix_str pe_str (C8.pe_c c hr (by decide) (by rfl) (pa_cons (pv 0) (pa_cons pe_int pa_nil))) (fun _ _ => rfl)))))
      (pss_one (ps_ret (pe_tup (pa_cons (pe_ix ix_list (pe_lst (pa_cons pe_str (pa_cons (pv 1) (pa_cons (pv 1) pa_nil)))) (C8.pe_c c hr (by decide) (by rfl) (pa_cons (pv 0) (pa_cons pe_int pa_nil))) (fun _ _ => rfl)) (pa_cons (C8.pe_c c hr (by decide) (by rfl) (pa_cons (pv 0) (pa_cons pe_int pa_nil))) pa_nil))))), ?_⟩
    refine ⟨⟨_, rfl⟩, 4, rfl, by decide, by decide, fun D hD => ?_⟩
    have Db : D ≠ b := by
      obtain ⟨s0, s1, s2, cs, hb, _⟩ := bag
      exact (ne_of_none hb hD).symm
    have Dc : D ≠ cl := by
      obtain ⟨s0, s1, s2, cs, _, _, hb, _⟩ := bag
      exact (ne_of_none hb hD).symm
    refine lc_it (walk_range (lo := 0) (n := 4)) (fun i H2 => ∃ tb : Sw.Row, tb.length = i ∧ (∀ x ∈ tb, x = 48 ∨ x = 49) ∧ OthS b H H2 ∧ BagAt H2 b cl ∧ H2 D = some (.lst ((tb.map fun x => T [x]).map V.str)))
      ⟨[], rfl, fun x hx => absurd hx (by simp), (OthS.refl b H).new hD, bag.new hD, upd_same⟩ (fun _ _ _ _ => trivial) ?_ ?_
    · intro i x H2 H3 hi h2 y
      obtain ⟨rfl, rfl⟩ := y
      obtain ⟨tb, tl, tx, o2, b2, d2⟩ := h2
      refine ⟨by rfl, ?_⟩
      unfold tYes
      refine iteT ⟨_, rfl, b, cl, 2, rfl, b2, by decide, by decide, fun v H4 hv o4 b4 => ?_⟩
      refine ⟨T [48, 49], (v : Int), 48 + v, rfl, rfl, (show 2 ≤ sizeLine by decide), ?_, ?_⟩
      · have : v = 0 ∨ v = 1 := by omega
        rcases this with e | e <;> subst e <;> rfl
      · have d4 := o4 _ _ Db d2
        refine ⟨_, d4, ?_, tb ++ [48 + v], ?_, fun x hx => ?_, ?_, ?_, ?_⟩
        · rw [List.length_map, List.length_map]
          exact Nat.lt_of_le_of_lt (show _ ≤ 4 by omega) (by decide)
        · rw [List.length_append, tl]
          rfl
        · rcases List.mem_append.mp hx with hx | hx
          · exact tx x hx
          · rw [List.mem_singleton.mp hx]
            omega
        · exact fun c o n h => by
            rw [upd_ne (ne_of_none h hD)]
            exact o4 _ _ n (o2 _ _ n h)
        · obtain ⟨s0, s1, s2, cs, g1, g2, g3, g4, g5⟩ := b4
          exact ⟨s0, s1, s2, cs, by rw [upd_ne (Ne.symm Db)]; exact g1, g2, by rw [upd_ne (Ne.symm Dc)]; exact g3, g4, g5⟩
        · rw [upd_same, List.map_append, List.map_append]
          rfl
    · intro H2 h2
      obtain ⟨tb, tl, tx, o2, b2, d2⟩ := h2
      refine ⟨T [], D, tb.map fun c => T [c], rfl, rfl, .inl (SqL.of d2), ?_, ?_⟩
      · have : ∀ l : Sw.Row, ((l.map fun c => T [c]).map (·.length)).sum = l.length := by
          intro l
          induction l with
          | nil => rfl
          | cons a l ih =>
            rw [List.map_cons, List.map_cons, List.sum_cons, ih, List.length_cons]
            have : (T [a]).length = 1 := rfl
            omega
        rw [this]
        have e0 : (T []).length = 0 := rfl
        rw [e0]
        omega
      · rw [join_signs]
        refine ⟨_, rfl, _, rfl, (show 3 ≤ sizeLine by decide), fun e he => ?_⟩
        refine ⟨_, rfl, b, cl, 3, rfl, b2.new he, by decide, by decide, fun v H4 hv o4 b4 => ?_⟩
        have eb : e ≠ b := by
          obtain ⟨s0, s1, s2, cs, g1, _⟩ := b2
          exact (ne_of_none g1 he).symm
        have e4 := o4 _ _ eb (upd_same (H := H2) (a := e) (o := .lst [.str "0111", vT tb, vT tb]))
        obtain ⟨tb2, h3, h4⟩ : ∃ tb2 : Sw.Row, TbOk tb2 ∧ ([V.str "0111", vT tb, vT tb] : List V)[v]? = some (vT tb2) := by
          have : v = 0 ∨ v = 1 ∨ v = 2 := by omega
          rcases this with z | z | z <;> subst z
          · exact ⟨[48, 49, 49, 49], ⟨rfl, by decide⟩, rfl⟩
          · exact ⟨tb, ⟨tl, tx⟩, rfl⟩
          · exact ⟨tb, ⟨tl, tx⟩, rfl⟩
        refine ⟨e, _, (v : Int), vT tb2, rfl, rfl, SqL.of e4, atI_nat h4, ?_⟩
        refine ⟨_, rfl, b, cl, 3, rfl, b4, by decide, by decide, fun r H5 hr5 o5 b5 => ?_⟩
        refine ⟨(show 2 ≤ sizeLine by decide), fun t ht => ?_⟩
        have o25 : OthS b H H5 := fun c o n h => o5 _ _ n (o4 _ _ n (by rw [upd_ne (ne_of_none (o2 _ _ n h) he)]; exact o2 _ _ n h))
        exact k t _ tb2 r (o25.new ht) (b5.new ht) h3 (by omega) upd_same
/-! ### _law_my_signs, _law_my_rule -/
def spMySigns : Sp := fun vs H Q _ => ∃ (t : Addr) (tb : Sw.Row) (r : Nat), vs = [.ref t] ∧ MadeAt H t tb r ∧ r ≤ 2 ∧ Q (vT (Sw.sg r)) H
theorem sc22 : FnScope ["_law_made"] ["_law_made"] dd22.scope := ⟨rfl, rfl, rfl, by decide +kernel, rfl, by decide +kernel, by decide +kernel⟩
theorem c_my_signs {a : Addr} {fd : FuncData} (F : FnT K dd22 a fd) (hm : mg "_law_my_signs" = some (.ref a)) : Cl P w K mg base 1 "_law_my_signs" spMySigns := by
  refine cl_of F hm (ps := ["_law_made"]) (F.bindsN fun _ _ _ _ _ _ us hl => match us, hl with | [_], _ => rfl) (okF F sc22 (fun vs H Q E h => ?_) fun cdv A outer s H vs Q E hr h => ?_)
  · obtain ⟨_, _, _, rfl, _⟩ := h
    rfl
  · obtain ⟨t, tb, r, rfl, mk, hr2, k⟩ := h
    refine ⟨_, pss_one (ps_ret (pe_slice sl_str pe_str po_none (po_some (pe_op op_add (pe_ix ix_tup (pv 0) pe_int (fun _ _ => rfl)) pe_int)))), ?_⟩
    refine ⟨_, rfl, t, _, 1, .int (r : Int), rfl, rfl, SqT.of mk, rfl, (r : Int), 2, rfl, rfl, _, rfl, T [48, 49, 50, 51], rfl, (show 4 ≤ sizeLine by decide), ?_⟩
    have e : cutS (T [48, 49, 50, 51]) none (some ((r : Int) + 2)) = T (Sw.sg r) := by
      have : r = 0 ∨ r = 1 ∨ r = 2 := by omega
      rcases this with e | e | e <;> subst e <;> decide +kernel
    dsimp only
    rw [e]
    exact k
def spMyRule (CR : Addr) : Sp := fun vs H Q _ => ∃ (t : Addr) (tb : Sw.Row) (r : Nat), vs = [.ref t] ∧ MadeAt H t tb r ∧ TbOk tb ∧ r ≤ 2 ∧ ∀ (q : Addr) (H' : Hp), Same H H' → RuleAt CR H' q tb r → Q (.ref q) H'
theorem sc23 : FnScope ["_law_made"] ["_law_made"] dd23.scope := ⟨rfl, rfl, rfl, by decide +kernel, rfl, by decide +kernel, by decide +kernel⟩
theorem c_my_rule {a : Addr} {fd : FuncData} (F : FnT K dd23 a fd) (hm : mg "_law_my_rule" = some (.ref a)) (c : C8.Mak P w K mg base 3 "Rule" CR (spRInit CR) []) : Cl P w K mg base 5 "_law_my_rule" (spMyRule CR) := by
  refine cl_of F hm (ps := ["_law_made"]) (F.bindsN fun _ _ _ _ _ _ us hl => match us, hl with | [_], _ => rfl) (okF F sc23 (fun vs H Q E h => ?_) fun cdv A outer s H vs Q E hr h => ?_)
  · obtain ⟨_, _, _, rfl, _⟩ := h
    rfl
  · obtain ⟨t, tb, r, rfl, mk, htb, hr2, k⟩ := h
    refine ⟨_, pss_one (ps_ret (C8.pe_mk c hr (by decide) (by rfl) (pa_cons (pe_ix ix_tup (pv 0) pe_int (fun _ _ => rfl)) (pa_cons (pe_ix ix_tup (pv 0) pe_int (fun _ _ => rfl)) pa_nil)))), ?_⟩
    refine ⟨_, rfl, t, _, 0, _, rfl, rfl, SqT.of mk, rfl, _, rfl, t, _, 1, _, rfl, rfl, SqT.of mk, rfl, fun x ex nx nex ne => ?_⟩
    refine ⟨x, ex, tb, r, rfl, htb, hr2, upd_same, by rw [upd_ne ne, upd_same], ne, fun H' R' s' => ⟨rfl, k x H' (fun b o hb => s' b o (ne_of_none hb nx) (ne_of_none hb nex) ?_) R'⟩⟩
    rw [upd_ne (ne_of_none hb nx), upd_ne (ne_of_none hb nex)]
    exact hb
/-! ### _law_my_case -/
def spCase : Sp := fun vs H Q _ => ∃ (b cl : Addr), vs = [.ref b, .bl true] ∧ BagAt H b cl ∧ ∀ (l t : Addr) (H' : Hp) (tb : Sw.Row) (r q : Nat) (m : Int), OthS b H H' → BagAt H' b cl → TbOk tb → r ≤ 2 → MadeAt H' t tb r → H' l = some (.lst [.ref t, .int m, .int q]) → 1 ≤ q → q ≤ 3 → (r + 2) ^ (2 * q + 1) ≤ 1000 → -(q : Int) ≤ m → m ≤ q → Q (.ref l) H'
abbrev N24 : List Str := ["_law_bag_here", "_law_few", "_law_made", "_law_most", "_law_q"]
theorem sc24 : FnScope N24 ["_law_bag_here", "_law_few"] dd24.scope := ⟨rfl, rfl, rfl, by decide +kernel, rfl, by decide +kernel, by decide +kernel⟩
theorem c_my_case {a : Addr} {fd : FuncData} (F : FnT K dd24 a fd) (hm : mg "_law_my_case" = some (.ref a)) (c1 : Cl P w K mg base 2 "_law_rule" spLRule) (c2 : Cl P w K mg base 1 "_law_take" spTake) : Cl P w K mg base 3 "_law_my_case" spCase := by
  refine cl_of F hm (ps := ["_law_bag_here", "_law_few"]) (F.bindsN fun _ _ _ _ _ _ us hl => match us, hl with | [_, _], _ => rfl) (okF F sc24 (fun vs H Q E h => ?_) fun cdv A outer s H vs Q E hr h => ?_)
  · obtain ⟨_, _, rfl, _⟩ := h
    rfl
  · obtain ⟨b, cl, rfl, bag, k⟩ := h
    refine ⟨_, pss_cons (ps_set (i := 2) sc24.nd rfl (Or.inl rfl) (C8.pe_c c1 hr (by decide) (by rfl) (pa_cons (pv 0) pa_nil)))
      (pss_cons (ps_set (i := 3) sc24.nd rfl (Or.inl rfl) (pe_ix ix_list (pe_lst (pa_cons pe_int (pa_cons pe_int (pa_cons (pe_ifExp (pt_val (pv 1)) pe_int pe_int) pa_nil)))) (pe_ix ix_tup (pv 2) pe_int (fun _ _ => rfl)) (fun _ _ => rfl)))
      (pss_cons (ps_set (i := 4) sc24.nd rfl (Or.inl rfl) (pe_op op_add pe_int (C8.pe_c c2 hr (by decide) (by rfl) (pa_cons (pv 0) (pa_cons (pv 3) pa_nil)))))
      (pss_one (ps_ret (pe_lst (pa_cons (pv 2) (pa_cons (pe_op op_sub (C8.pe_c c2 hr (by decide) (by rfl) (pa_cons (pv 0) (pa_cons (pe_op op_add (pe_mul pe_int (pv 4)) pe_int) pa_nil))) (pv 4)) (pa_cons (pv 4) pa_nil)))))))), ?_⟩
    refine ⟨_, rfl, b, cl, rfl, bag, fun t H1 tb r o1 b1 htb hr2 mk => ?_⟩
    refine ⟨_, rfl, true, rfl, iteT ⟨(show 3 ≤ sizeLine by decide), fun e he => ?_⟩⟩
    have S1 := same_upd (o := .lst [V.int 3, V.int 2, V.int 1]) he
    obtain ⟨most, hmost, hm1, hm3, hpow⟩ : ∃ most : Nat, ([V.int 3, V.int 2, V.int 1] : List V)[r]? = some (.int (most : Int)) ∧ 1 ≤ most ∧ most ≤ 3 ∧ ∀ q, q ≤ most → (r + 2) ^ (2 * q + 1) ≤ 1000 := by
      have : r = 0 ∨ r = 1 ∨ r = 2 := by omega
      rcases this with z | z | z <;> subst z
      · exact ⟨3, rfl, by decide, by decide, fun q hq => Nat.le_trans (Nat.pow_le_pow_right (by decide) (show 2 * q + 1 ≤ 7 by omega)) (by decide)⟩
      · exact ⟨2, rfl, by decide, by decide, fun q hq => Nat.le_trans (Nat.pow_le_pow_right (by decide) (show 2 * q + 1 ≤ 5 by omega)) (by decide)⟩
      · exact ⟨1, rfl, by decide, by decide, fun q hq => Nat.le_trans (Nat.pow_le_pow_right (by decide) (show 2 * q + 1 ≤ 3 by omega)) (by decide)⟩
    refine ⟨_, rfl, t, _, 1, .int (r : Int), rfl, rfl, SqT.of (S1 _ _ mk), rfl, e, _, (r : Int), .int (most : Int), rfl, rfl, SqL.of upd_same, atI_nat hmost, ?_⟩
    have b2 := b1.same S1
    have nb : ∀ {H2 : Hp} {c : Addr}, BagAt H2 b cl → H2 c = none → c ≠ b := fun bg hc z => by
      obtain ⟨s0, s1, s2, cs, g1, _⟩ := bg
      rw [z, g1] at hc
      cases hc
    have tb' : t ≠ b := fun z => by
      obtain ⟨s0, s1, s2, cs, g1, _⟩ := b1
      have mk := mk
      unfold MadeAt at mk
      rw [z, g1] at mk
      cases mk
    refine ⟨_, rfl, _, rfl, b, cl, most, rfl, b2, hm1, by omega, fun v H2 hv o2 b3 => ⟨1, (v : Int), rfl, rfl, ?_⟩⟩
    have ev : (1 : Int) + (v : Int) = ((v + 1 : Nat) : Int) := by omega
    dsimp only
    rw [ev]
    refine ⟨_, rfl, _, rfl, _, rfl, 2, ((v + 1 : Nat) : Int), rfl, rfl, ⟨by decide, by decide⟩, 2 * ((v + 1 : Nat) : Int), 1, rfl, rfl, b, cl, 2 * (v + 1) + 1, ?_, b3, by omega, by omega, fun u H3 hu o3 b4 => ⟨_, rfl, (u : Int), ((v + 1 : Nat) : Int), rfl, rfl, ?_⟩⟩
    · have : (2 : Int) * ((v + 1 : Nat) : Int) + 1 = ((2 * (v + 1) + 1 : Nat) : Int) := by omega
      show [V.ref b, V.int (2 * ((v + 1 : Nat) : Int) + 1)] ++ [] = _
      rw [this]
      rfl
    · refine ⟨_, rfl, (show 3 ≤ sizeLine by decide), fun l hl => ?_⟩
      have mk3 : H3 t = some (.tup [vT tb, .int (r : Int)]) := o3 _ _ tb' (o2 _ _ tb' (S1 _ _ mk))
      have o03 : OthS b H H3 := fun c o n h => o3 _ _ n (o2 _ _ n (S1 _ _ (o1 _ _ n h)))
      exact k l t _ tb r (v + 1) ((u : Int) - ((v + 1 : Nat) : Int)) (o03.new hl) (b4.new hl) htb hr2 (by unfold MadeAt; rw [upd_ne (ne_of_none mk3 hl)]; exact mk3) upd_same (by omega) (by omega) (hpow (v + 1) (by omega)) (by omega) (by omega)
/-! ### _law_mirrored -/
def spMirrored : Sp := fun vs H Q _ => ∃ (p : Addr) (l : List Sw.Row), vs = [.ref p] ∧ H p = some (.lst (l.map vT)) ∧ (∀ t ∈ l, t.length ≤ 1000) ∧ l.length ≤ sizeLine ∧ ∀ (d : Addr) (H' : Hp), H d = none → Same H H' → H' d = some (.lst ((Sw.mp l).map vT)) → Q (.ref d) H'
theorem sc25 : FnScope ["_law_rows", "_law_row"] ["_law_rows"] dd25.scope := ⟨rfl, rfl, rfl, by decide +kernel, rfl, by decide +kernel, by decide +kernel⟩
theorem c_mirr {a : Addr} {fd : FuncData} (F : FnT K dd25 a fd) (hm : mg "_law_mirrored" = some (.ref a)) (h1 : mg "sorted" = none) : Cl P w K mg base 1 "_law_mirrored" spMirrored := by
  refine cl_of F hm (ps := ["_law_rows"]) (F.bindsN fun _ _ _ _ _ _ us hl => match us, hl with | [_], _ => rfl) (okF F sc25 (fun vs H Q E h => ?_) fun cdv A outer s H vs Q E hr h => ?_)
  · obtain ⟨_, _, rfl, _⟩ := h
    rfl
  · obtain ⟨p, l, rfl, hp, hl, hz, k⟩ := h
    refine ⟨_, pss_one (ps_ret (pe_callB cr_sortedT (by rfl) h1 b_sorted (pa_cons (pe_lc (own := [("_law_row", 1)]) (g := gName 1) (tt := tYes) rfl sc25.nd (pi_list (pv 0)) (blkOk_by (N := ["_law_rows", "_law_row"]) (sc := dd25.scope) (by decide +kernel))
      (fun _ _ _ _ _ => pg_name (i := 1) sc25.nd rfl (Or.inl rfl)) (fun _ _ _ _ _ => pts_nil) (fun _ _ _ _ _ => pe_revT (pv 1))) pa_nil))), ?_⟩
    refine ⟨_, rfl, p, rfl, ⟨_, SqL.of hp⟩, fun D hD => ?_⟩
    refine lc_map (walk_list (K := K) (a := p) (xs := l.map vT)) (fun v => match v with | .str z => vT z.cps.toList.reverse | _ => .non) hD (fun H2 s2 => SqL.of (s2 _ _ hp)) (by rw [List.length_map]; exact hz) (fun x hx H2 s2 R hR => hR _ (by rfl) fun Q' q => ?_) ?_
    · obtain ⟨t, ht, rfl⟩ := List.mem_map.mp hx
      refine ⟨_, rfl, t, rfl, small4 (hl t ht), ?_⟩
      simp only [vT, T_list] at q
      exact q
    · have e : (l.map vT).map (fun v => match v with | .str z => vT z.cps.toList.reverse | _ => .non) = (l.map List.reverse).map vT := by
        rw [List.map_map, List.map_map]
        refine List.map_congr_left fun t _ => ?_
        show vT (T t).cps.toList.reverse = _
        rw [T_list]
        rfl
      rw [e]
      refine ⟨D, l.map List.reverse, rfl, SqL.of upd_same, fun q hq => ?_⟩
      have S1 := same_upd (o := .lst ((l.map List.reverse).map vT)) hD
      exact k q _ (S1.free hq) (same_upd2 S1 (S1.free hq)) upd_same
end
end Wk

/-! W18: _law_webs_right. -/
namespace Sw
section
variable {W V : List Row} {n : Nat}
theorem per_uniq {P : List Row} {g g' : Nat} (h : IsPer W P g) (h' : IsPer W P g') : g = g' :=
  Nat.dvd_antisymm (((h' g).mpr ((h g).mp (Nat.dvd_refl g)))) ((h g').mpr ((h' g').mp (Nat.dvd_refl g')))
open Classical in
/-- the period of the part that begins with h -/
noncomputable def gam (W : List Row) (h : Row) : Nat := if q : ∃ g, IsPer W (cls W h) g then Classical.choose q else 0
open Classical in
theorem gam_is {h : Row} {g : Nat} (q : IsPer W (cls W h) g) : gam W h = g := by
  have e : ∃ g, IsPer W (cls W h) g := ⟨g, q⟩
  unfold gam
  rw [dif_pos e]
  exact per_uniq (Classical.choose_spec e) q
end
end Sw
namespace Wk
open PySem PySem.Spec PyProof.Rows L2
theorem sum_cast {α : Type} (f : α → Nat) : ∀ l : List α, (l.map fun a => ((f a : Nat) : Int)).sum = (((l.map f).sum : Nat) : Int)
  | [] => rfl
  | a :: l => by
    rw [List.map_cons, List.map_cons, List.sum_cons, List.sum_cons, sum_cast f l]
    omega
section
variable {X : Cx} {K : PySem.W.Frag}
theorem ix_listK (hK : X.K = K) : IxR X (rIxL K) := hK ▸ ix_list
theorem cr_sortedTK (hK : X.K = K) : CallR X (.builtin "sorted") (rSortedT K) := hK ▸ cr_sortedT
theorem op_notIn_seqK (hK : X.K = K) : OpR X (compareOp .NotIn) (rIn K true) := hK ▸ op_notIn_seq
def rLenQ (K : PySem.W.Frag) : List V → Hp → VK → Prop := fun xs H Q => ∃ p ys, xs = [.ref p] ∧ (SqL K H p ys ∨ SqT K H p ys) ∧ Q (.int ys.length) H
theorem call_len_seqK (hK : X.K = K) : CallR X (.builtin "len") (rLenQ K) := hK ▸ call_len_seq
end
/-- the scope of the sum's list within the last list comprehension -/
def manyScope : Stmt → Scope
  | .Assign _ (.ListComp _ _ s _) _ => s
  | _ => dd26.scope
section
variable {P : Program} {w : World} {K : PySem.W.Frag} {mg : Str → Option Value} {base : Heap} {C : Addr}
def spRight (C : Addr) : Sp := fun vs H Q _ => ∃ (a b : Addr) (W V : List Sw.Row) (n : Nat), vs = [.ref a, .ref b] ∧ WebAt C H a W ∧ WebAt C H b V ∧ Sw.Wb W n ∧ Sw.Wb V n ∧ Sw.Mir W V n ∧ ∀ H', Same H H' → Q (.bl true) H'
abbrev N26 : List Str := ["_law_web", "_law_other", "_law_part", "_law_period", "_law_told", "_law_steps", "_law_back", "_law_node", "_law_goal", "_law_many", "_law_table"]
theorem sc26 : FnScope N26 ["_law_web", "_law_other"] dd26.scope := ⟨rfl, rfl, rfl, by decide +kernel, rfl, by decide +kernel, by decide +kernel⟩
def ms26 : Scope := manyScope (dd26.body.getD 6 (.Pass ⟨0, 0, 0, 0⟩))
structure WebM (P : Program) (w : World) (K : PySem.W.Frag) (mg : Str → Option Value) (base : Heap) (C : Addr) : Prop where
  win : MetS P w K mg base 1 C "windows" (spWWin C)
  nod : MetS P w K mg base 1 C "nodes" (spWNodes C)
  stp : MetS P w K mg base 1 C "steps" (spWSteps C)
  prt : MetS P w K mg base 1 C "parts" (spWParts C)
  per : MetS P w K mg base 3 C "periods" (spWPers C)
theorem c_right {a gl : Addr} {fd : FuncData} (F : FnT K dd26 a fd) (hm : mg "_law_webs_right" = some (.ref a)) (h1 : mg "sorted" = none) (h2 : mg "dict" = none) (h3 : mg "zip" = none) (h4 : mg "len" = none) (h5 : mg "sum" = none) (WC : WebC K C) (M : WebM P w K mg base C) (cm : Cl P w K mg base 1 "_law_mirrored" spMirrored)
    (ML : Meth K C "__len__" gl) (FL : FnR P w K mg base CX0 1 gl (spWLen C)) : Cl P w K mg base 5 "_law_webs_right" (spRight C) := by
  refine cl_of F hm (ps := ["_law_web", "_law_other"]) (F.bindsN fun _ _ _ _ _ _ us hl => match us, hl with | [_, _], _ => rfl) (okF F sc26 (fun vs H Q E h => ?_) fun cdv A outer s H vs Q E hr h => ?_)
  · obtain ⟨_, _, _, _, _, rfl, _⟩ := h
    rfl
  · obtain ⟨x0, y0, W, V, n, rfl, wa, va, wb, vb, mir, k⟩ := h
    refine ⟨_, pss_cons (ps_if (PW.pt (pw_or (pt_cmpR (op_neD hr.units) (C8.pe_c cm hr (by decide) (by rfl) (pa_cons (pe_mt0 (pv 0) WC.sc M.win hr (by decide)) pa_nil)) (pe_mt0 (pv 1) WC.sc M.win hr (by decide)) (nomark _))
          (pw_or1 (pt_cmpR (op_neD hr.units) (C8.pe_c cm hr (by decide) (by rfl) (pa_cons (pe_mt0 (pv 0) WC.sc M.nod hr (by decide)) pa_nil)) (pe_mt0 (pv 1) WC.sc M.nod hr (by decide)) (nomark _))))) (pss_one (ps_ret pe_bl)) pss_nil)
      (pss_cons (ps_if (pt_cmpR (op_neD hr.units) (pe_callB (cr_sortedLL (by have := hr.un; show (A.deeper _).units + 1 + 1 < cLine; omega)) (by rfl) h1 b_sorted (pa_cons (pe_lc (own := [("_law_part", 2)]) (g := gName 2) (tt := tYes) rfl sc26.nd (pi_list (pe_mt0 (pv 0) WC.sc M.prt hr (by decide))) (blkOk_by (N := N26) (sc := dd26.scope) (by decide +kernel))
            (fun _ _ _ _ _ => pg_name (i := 2) sc26.nd rfl (Or.inl rfl)) (fun _ _ _ _ _ => pts_nil) (fun _ _ _ _ _ => C8.pe_c cm hr (by decide) (by rfl) (pa_cons (pv 2) pa_nil))) pa_nil)) (pe_mt0 (pv 1) WC.sc M.prt hr (by decide)) (nomark _)) (pss_one (ps_ret pe_bl)) pss_nil)
      (pss_cons (ps_set (i := 4) sc26.nd rfl (Or.inl rfl) (pe_callTy (call_dictP (by rfl)) (by rfl) h2 b_dict (pa_cons (pe_lc (own := [("_law_part", 2), ("_law_period", 3)]) (g := gTup K 2 _) (tt := tYes) rfl sc26.nd
            (pi_zip (by rfl) h3 (pa_cons (pe_mt0 (pv 0) WC.sc M.prt hr (by decide)) (pa_cons (pe_mt0 (pv 0) WC.sc M.per hr (by decide)) pa_nil))) (blkOk_by (N := N26) (sc := dd26.scope) (by decide +kernel))
            (fun _ _ _ _ _ => pg_tup rfl (pgs_cons (pg_name (i := 2) sc26.nd rfl (Or.inl rfl)) (pgs_cons (pg_name (i := 3) sc26.nd rfl (Or.inl rfl)) pgs_nil))) (fun _ _ _ _ _ => pts_nil)
            (fun _ _ _ _ _ => pe_tup (pa_cons (pe_ix (ix_listK (K := K) rfl) (pe_callB (cr_sortedTK (K := K) rfl) (by rfl) h1 b_sorted (pa_cons (pv 2) pa_nil)) pe_int (fun _ _ => rfl)) (pa_cons (pv 3) pa_nil)))) pa_nil)))
      (pss_cons (ps_for PassesOwn.never rfl (pi_zip (by rfl) h3 (pa_cons (pe_mt0 (pv 1) WC.sc M.prt hr (by decide)) (pa_cons (pe_mt0 (pv 1) WC.sc M.per hr (by decide)) pa_nil))) (pg_tup rfl (pgs_cons (pg_name (i := 2) sc26.nd rfl (Or.inl rfl)) (pgs_cons (pg_name (i := 3) sc26.nd rfl (Or.inl rfl)) pgs_nil)))
          (pss_one (ps_if (pt_cmpR op_ne (pe_dget (hu_of hr) (pv 4) (pe_ix ix_list (C8.pe_c cm hr (by decide) (by rfl) (pa_cons (pv 2) pa_nil)) pe_int (fun _ _ => rfl)) (fun _ _ => rfl)) (pv 3) (nomark _)) (pss_one (ps_ret pe_bl)) pss_nil)))
      (pss_cons (ps_par (i := 5) (j := 6) (by rfl) sc26.nd rfl rfl (by decide) rfl rfl (pa_cons (pe_mt0 (pv 0) WC.sc M.stp hr (by decide)) (pa_cons (pe_mt0 (pv 1) WC.sc M.stp hr (by decide)) pa_nil)) (by rfl))
      (pss_cons (ps_lock (ps_for PassesOwn.never rfl (pi_keys (pv 5)) (pg_name (i := 7) sc26.nd rfl (Or.inl rfl))
          (pss_one (ps_for PassesOwn.never rfl (pi_list (pe_dget (hu_of hr) (pv 5) (pv 7) (fun _ _ => rfl))) (pg_name (i := 8) sc26.nd rfl (Or.inl rfl))
            (pss_one (ps_if (pt_cmpR op_notIn_seq (pe_revT (pv 7)) (pe_dget (hu_of hr) (pv 6) (pe_revT (pv 8)) (fun _ _ => rfl)) (by rfl)) (pss_one (ps_ret pe_bl)) pss_nil))))))
      (pss_cons (ps_setLc (i := 9) (own := [("_law_table", 10)]) (g := gName 10) (tt := tYes) (by rfl) sc26.nd rfl rfl (sw_true rfl rfl rfl (by decide +kernel)) (pi_tup (pe_tup (pa_cons (pv 5) (pa_cons (pv 6) pa_nil)))) (blkOk_by (N := N26) (sc := dd26.scope) (by decide +kernel))
            (fun _ _ _ _ _ => pg_name (i := 10) sc26.nd rfl (Or.inr rfl)) (fun _ _ _ _ _ => pts_nil)
            (fun _ _ _ _ _ => pe_callB (r := rSum K) (cr_sum rfl) (by rfl) h5 b_sum (pa_cons (pe_lock (pe_lc (own := [("_law_node", 7)]) (g := gName 7) (tt := tYes) (by rfl) sc26.nd (pi_keys (pv 10)) (blkOk_by (N := N26) (sc := relS ms26 dd26.scope) (by decide +kernel))
              (fun _ _ _ _ _ => pg_name (i := 7) sc26.nd rfl (Or.inl rfl)) (fun _ _ _ _ _ => pts_nil) (fun _ _ _ _ _ => pe_callB (call_len_seqK (K := K) rfl) (by rfl) h4 b_len (pa_cons (pe_dget (hu_of hr) (pv 10) (pv 7) (fun _ _ => rfl)) pa_nil)))) pa_nil)))
      (pss_one (ps_ret (pe_and (pe_cmp (pc_eqI (pe_ix ix_list (pv 9) pe_int (fun _ _ => rfl)) (pe_ix ix_list (pv 9) pe_int (fun _ _ => rfl))))
          (pe_one (pe_cmp (pc_eqI (pe_callB (call_lenSl ML.at_ ML.fn FL (hr.mono (by decide)) pass0) (by rfl) h4 b_len (pa_cons (pv 0) pa_nil)) (pe_callB (call_lenSl ML.at_ ML.fn FL (hr.mono (by decide)) pass0) (by rfl) h4 b_len (pa_cons (pv 1) pa_nil)))))))))))))), ?_⟩
    have slA : ∀ {H2 : Hp} {a : Addr} {W : List Sw.Row}, WebAt C H2 a W → ∃ dx vs, SlX.Slt H2 a C dx vs := fun h => by
      obtain ⟨dx, pw, pp, ps, rp, as, m, q, w1, w2, _⟩ := h
      exact ⟨dx, _, .inr ⟨w1, w2⟩⟩
    have ndW : ∀ c ∈ Sw.nodes W, Sw.Tx c ∧ c.length = n := fun c hc => ⟨(wb.r (Sw.mem_nodes.mp hc)).1, (wb.r (Sw.mem_nodes.mp hc)).2.2.1⟩
    have ndV : ∀ c ∈ Sw.nodes V, Sw.Tx c ∧ c.length = n := fun c hc => ⟨(vb.r (Sw.mem_nodes.mp hc)).1, (vb.r (Sw.mem_nodes.mp hc)).2.2.1⟩
    have prW : ∀ {W : List Sw.Row}, Sw.Wb W n → ∀ P ∈ Sw.parts W, ∀ c ∈ P, Sw.Tx c ∧ c.length = n := fun wb P hP c hc => by
      have r := (Sw.part_of wb.win hP hc).2
      exact ⟨(wb.r r).1, (wb.r r).2.2.1⟩
    have n9 := wb.n9
    -- windows
    obtain ⟨dx, vs1, sl1⟩ := slA wa
    refine ⟨_, rfl, x0, dx, _, rfl, sl1, x0, W, rfl, wa, fun d1 H1 s1 h1 => ?_⟩
    refine ⟨d1, W, rfl, h1, fun t ht => by have := wb.win.len t ht; omega, Nat.le_trans wb.len (by decide), fun d2 H2 _ s2 h2 => ?_⟩
    rw [Sw.law1 mir] at h2
    obtain ⟨dy, vs2, sl2⟩ := slA (va.same (s1.trans s2))
    refine ⟨_, rfl, y0, dy, _, rfl, sl2, y0, V, rfl, va.same (s1.trans s2), fun d3 H3 s3 h3 => ?_⟩
    refine ⟨dL V, dL V, dp_L (s3 _ _ h2), dp_L h3, dL_shaped vb.tx, dL_shaped vb.tx, _, rfl, ?_⟩
    rw [dL_eqv, decide_eq_true rfl]
    refine iteF ?_
    have t3 := (s1.trans s2).trans s3
    -- nodes
    obtain ⟨dx, vs1, sl1⟩ := slA (wa.same t3)
    refine ⟨_, rfl, x0, dx, _, rfl, sl1, x0, W, n, rfl, wa.same t3, wb, fun d4 H4 s4 h4 => ?_⟩
    refine ⟨d4, _, rfl, h4, fun t ht => by have := (ndW t ht).2; omega, ?_, fun d5 H5 _ s5 h5 => ?_⟩
    · unfold Sw.nodes
      exact Nat.le_trans (Nat.le_trans (List.length_filter_le _ _) wb.keys_len) (by decide)
    rw [Sw.law2 mir] at h5
    have t5 := (t3.trans s4).trans s5
    obtain ⟨dy, vs2, sl2⟩ := slA (va.same t5)
    refine ⟨_, rfl, y0, dy, _, rfl, sl2, y0, V, n, rfl, va.same t5, vb, fun d6 H6 s6 h6 => ?_⟩
    refine ⟨dL _, dL _, dp_L (s6 _ _ h5), dp_L h6, dL_shaped fun t ht => (ndV t ht).1, dL_shaped fun t ht => (ndV t ht).1, _, rfl, ?_⟩
    rw [dL_eqv, decide_eq_true rfl]
    refine iteF ?_
    have t6 := t5.trans s6
    -- parts
    obtain ⟨dx, vs1, sl1⟩ := slA (wa.same t6)
    refine ⟨_, rfl, x0, dx, _, rfl, sl1, x0, W, n, rfl, wa.same t6, wb, fun d7 as7 H7 s7 h7 ll7 => ?_⟩
    refine ⟨d7, rfl, ⟨_, SqL.of h7⟩, fun D hD => ?_⟩
    have al7 : as7.length ≤ 1000 := by rw [ll7.len]; exact parts_len wb
    refine lc_it (walk_list (K := K) (a := d7) (xs := as7.map L2.V.ref)) (fun j H8 => ∃ bs, Same H7 H8 ∧ H8 D = some (.lst (bs.map L2.V.ref)) ∧ bs.length ≤ j ∧ LL H8 bs (((Sw.parts W).take j).map Sw.mp) ∧ ∀ b ∈ bs, b ≠ D)
      ⟨[], same_upd hD, upd_same, Nat.le_refl _, .nil, fun b hb => absurd hb (by simp)⟩ (fun j H8 _ h8 => by
        obtain ⟨_, s8, _⟩ := h8
        exact SqL.of (s8 _ _ h7)) ?_ ?_
    · intro j x H8 H9 hj h8 yy
      obtain ⟨rfl, hx⟩ := yy
      obtain ⟨bs, s8, hd8, bl, ll8, ne8⟩ := h8
      rw [List.getElem?_map] at hx
      obtain ⟨qa, hqa, hx2⟩ := Option.map_eq_some_iff.mp hx
      subst hx2
      obtain ⟨part, hpart, hqP⟩ := (LL.same ll7 s8).at hqa
      have htj : (Sw.parts W).take (j + 1) = (Sw.parts W).take j ++ [part] := by rw [List.take_add_one, hpart]; rfl
      have hP := List.mem_of_getElem? hpart
      have hj : j < as7.length := by rw [List.length_map] at hj; exact hj
      have pz : part.length ≤ 1000 := by
        refine Nat.le_trans ((Sw.strict_nodup (Sw.part_asc wb.win hP)).length_le_of_subset fun c hc => ((Sw.part_of wb.win hP hc).2).key) wb.keys_len
      refine ⟨by rfl, ?_⟩
      unfold tYes
      refine iteT ⟨_, rfl, qa, part, rfl, hqP, fun t ht => by have := (prW wb part hP t ht).2; omega, Nat.le_trans pz (by decide), fun l H10 hl9 s10 hl10 => ?_⟩
      have d10 := s10 _ _ hd8
      refine ⟨_, d10, ?_, bs ++ [l], ?_, ?_, ?_, ?_, ?_⟩
      · rw [List.length_map]
        exact Nat.lt_of_le_of_lt (show _ ≤ 1000 by omega) (by decide)
      · exact same_upd2 (s8.trans s10) hD
      · rw [upd_same, List.map_append]
        rfl
      · rw [List.length_append]
        show _ + 1 ≤ _
        omega
      · rw [htj, List.map_append]
        refine Paired.snoc (LL.imp ll8 fun q m hq hm => ?_) ?_
        · rw [upd_ne (ne8 q hq)]
          exact s10 _ _ hm
        · rw [upd_ne (ne_of_none hd8 hl9).symm]
          exact hl10
      · intro b hb
        rcases List.mem_append.mp hb with hb | hb
        · exact ne8 b hb
        · rw [List.mem_singleton.mp hb]
          exact (ne_of_none hd8 hl9).symm
    -- told
    intro H8 h8
    obtain ⟨bs, s8, hd8, bl, ll8, ne8⟩ := h8
    rw [List.length_map, ll7.len, List.take_length] at ll8
    refine ⟨D, bs, _, rfl, SqL.of hd8, paired_imp ll8 (fun a b _ h => SqL.of h), fun d9 ys hd9 hys => ?_⟩
    rw [Sw.law3 mir] at hys
    have s9 := same_upd (o := .lst (ys.map L2.V.ref)) hd9
    have hd9' : (upd H8 d9 (.lst (ys.map L2.V.ref))) d9 = some (.lst (ys.map L2.V.ref)) := upd_same
    generalize hG9 : upd H8 d9 (.lst (ys.map L2.V.ref)) = G9 at *
    have ll9 : DpAll K G9 (ys.map L2.V.ref) ((Sw.parts V).map dL) := by
      have : ∀ {ys : List Addr} {Ps : List (List Sw.Row)}, Paired (fun y P => SqL K H8 y (P.map vT)) ys Ps → DpAll K G9 (ys.map L2.V.ref) (Ps.map dL) := fun h => by
        induction h with
        | nil => exact .nil
        | cons r _ ih => exact .cons (.lst (SqL.up r s9) (dp_all _)) ih
      exact this hys
    have t9 := ((t6.trans s7).trans s8).trans s9
    obtain ⟨dy, vs2, sl2⟩ := slA (va.same t9)
    refine ⟨_, rfl, y0, dy, _, rfl, sl2, y0, V, n, rfl, va.same t9, vb, fun d10 as10 H10 s10 h10 ll10 => ?_⟩
    have t10 := t9.trans s10
    refine ⟨dLL (Sw.parts V), dLL (Sw.parts V), .lst (SqL.of (s10 _ _ hd9')) ?_, dp_LL h10 ll10, dLL_shaped fun P hP c hc => (prW vb P hP c hc).1, dLL_shaped fun P hP c hc => (prW vb P hP c hc).1, _, rfl, ?_⟩
    · have : ∀ {ys : List Addr} {Ps : List (List Sw.Row)}, Paired (fun y P => SqL K H8 y (P.map vT)) ys Ps → DpAll K H10 (ys.map L2.V.ref) (Ps.map dL) := fun h => by
        induction h with
        | nil => exact .nil
        | cons r _ ih => exact .cons (.lst (SqL.up r (s9.trans s10)) (dp_all _)) ih
      exact this hys
    rw [dLL_eqv, decide_eq_true rfl]
    refine iteF ?_
    -- told
    obtain ⟨dx, vs1, sl1⟩ := slA (wa.same t10)
    refine ⟨_, rfl, x0, dx, _, rfl, sl1, x0, W, n, rfl, wa.same t10, wb, fun p1 as1 H11 s11 h11 ll11 => ?_⟩
    have t11 := t10.trans s11
    obtain ⟨dx, vs1, sl1⟩ := slA (wa.same t11)
    refine ⟨_, rfl, x0, dx, _, rfl, sl1, x0, W, n, rfl, wa.same t11, wb, fun p2 gs H12 s12 h12 pr12 => ?_⟩
    have t12 := t11.trans s12
    have h11' := s12 _ _ h11
    have ll12 := ll11.same s12
    refine ⟨p1, p2, _, _, rfl, SqL.of h11', SqL.of h12, fun D hD => ?_⟩
    have hl1 : as1.length = (Sw.heads W).length := by
      rw [ll12.len]
      unfold Sw.parts
      rw [List.length_map]
    have hl2 : gs.length = (Sw.heads W).length := by
      rw [← paired_len pr12]
      unfold Sw.parts
      rw [List.length_map]
    have hlz : (Sw.heads W).length ≤ 1000 := by
      rw [← hl1, ll12.len]
      exact parts_len wb
    refine lc_it (walk_zip (K := K) (a := p1) (b := p2) (xs := as1.map L2.V.ref) (ys := gs.map fun (g : Nat) => L2.V.int g) (n := (Sw.heads W).length) (by rw [List.length_map, List.length_map, hl1, hl2, Nat.min_self]))
      (fun j H8 => ∃ ts, Same H12 H8 ∧ H8 D = some (.lst (ts.map L2.V.ref)) ∧ ts.length ≤ j ∧ Paired (fun t h => H8 t = some (.tup [vT h, .int (Sw.gam W h : Nat)])) ts ((Sw.heads W).take j))
      ⟨[], same_upd hD, upd_same, Nat.le_refl _, .nil⟩ (fun j H8 _ h8 => by
        obtain ⟨_, s8, _⟩ := h8
        exact ⟨SqL.of (s8 _ _ h11'), SqL.of (s8 _ _ h12)⟩) ?_ ?_
    · intro j x H8 H9 hj h8 yy
      obtain ⟨T0, u1, u2, rfl, hT0, rfl, hu1, hu2⟩ := yy
      obtain ⟨ts, s8, hd8, bl, pr8⟩ := h8
      have hu1 : (as1.map L2.V.ref)[j]? = some u1 := hu1
      have hu2 : (gs.map fun (g : Nat) => L2.V.int g)[j]? = some u2 := hu2
      rw [List.getElem?_map] at hu1 hu2
      obtain ⟨qa, hqa, rfl⟩ := Option.map_eq_some_iff.mp hu1
      obtain ⟨gj, hgj, rfl⟩ := Option.map_eq_some_iff.mp hu2
      obtain ⟨part, hpart, hqP⟩ := (ll12.same s8).at hqa
      obtain ⟨hd0, hhd, rfl⟩ : ∃ h, (Sw.heads W)[j]? = some h ∧ Sw.cls W h = part := by
        unfold Sw.parts at hpart
        rw [List.getElem?_map] at hpart
        exact Option.map_eq_some_iff.mp hpart
      have hP := List.mem_of_getElem? hpart
      have hH := List.mem_of_getElem? hhd
      have hg : Sw.gam W hd0 = gj := by
        have : ∀ {Ps : List (List Sw.Row)} {gs : List Nat} {j : Nat} {P : List Sw.Row} {g : Nat}, Paired (fun P g => Sw.IsPer W P g) Ps gs → Ps[j]? = some P → gs[j]? = some g → Sw.IsPer W P g := fun pr h1 h2 => by
          obtain ⟨g2, e1, e2⟩ := paired_at pr h1
          rw [h2] at e1
          cases e1
          exact e2
        exact Sw.gam_is (this pr12 hpart hgj)
      obtain ⟨tl, htl⟩ := Sw.head_cons wb.win hH
      have htj : (Sw.heads W).take (j + 1) = (Sw.heads W).take j ++ [hd0] := by rw [List.take_add_one, hhd]; rfl
      have S9 := same_upd (o := .tup [L2.V.ref qa, L2.V.int (gj : Int)]) hT0
      refine ⟨T0, _, rfl, SqT.of upd_same, rfl, _, _, rfl, _, _, rfl, rfl, by rfl, ?_⟩
      unfold tYes
      refine iteT ⟨_, rfl, qa, Sw.cls W hd0, rfl, SqL.of (S9 _ _ hqP), fun l hl => ?_⟩
      rw [Sw.srt_strict (Sw.cls_asc wb.win)]
      refine ⟨l, _, ((0 : Nat) : Int), vT hd0, rfl, rfl, SqL.of upd_same, atI_nat (by rw [htl]; rfl), _, rfl, (show 2 ≤ sizeLine by decide), fun t2 ht2 => ?_⟩
      have S10 := (S9.trans (same_upd (o := .lst ((Sw.cls W hd0).map vT)) hl)).trans (same_upd (o := .tup [vT hd0, L2.V.int (gj : Int)]) ht2)
      have d10 := S10 _ _ hd8
      have t2n : ∀ {b : Addr} {o : HO}, H8 b = some o → b ≠ t2 := fun hb => ne_of_none ((S9.trans (same_upd (o := .lst ((Sw.cls W hd0).map vT)) hl)) _ _ hb) ht2
      refine ⟨_, d10, ?_, ts ++ [t2], ?_, ?_, ?_, ?_⟩
      · rw [List.length_map]
        exact Nat.lt_of_le_of_lt (show _ ≤ 1000 by omega) (by decide)
      · exact same_upd2 (s8.trans S10) hD
      · rw [upd_same, List.map_append]
        rfl
      · rw [List.length_append]
        show _ + 1 ≤ _
        omega
      · rw [htj]
        refine Paired.snoc (paired_imp pr8 fun t h _ q => ?_) ?_
        · rw [upd_ne (ne_ob hd8 q (fun z => nomatch z))]
          exact S10 _ _ q
        · rw [upd_ne (t2n hd8).symm, upd_same, hg]
    intro H13 h13
    obtain ⟨ts, s13, hd13, bl, pr13⟩ := h13
    rw [List.take_length] at pr13
    have t13 := t12.trans s13
    have hkv : Paired (fun p (kv : Key × L2.V) => SqT K H13 p [kV kv.1, kv.2]) ts (dkv (Sw.heads W) fun h => .int (Sw.gam W h : Nat)) := by
      have : ∀ {ts : List Addr} {hs : List Sw.Row}, Paired (fun t h => H13 t = some (.tup [vT h, .int (Sw.gam W h : Nat)])) ts hs → Paired (fun p (kv : Key × L2.V) => SqT K H13 p [kV kv.1, kv.2]) ts (dkv hs fun h => .int (Sw.gam W h : Nat)) := fun h => by
        induction h with
        | nil => exact .nil
        | cons r _ ih => exact .cons (SqT.of r) ih
      exact this pr13
    refine ⟨D, ts, _, rfl, SqL.of hd13, hkv, fun td htd => ?_⟩
    have em : mergeK [] (dkv (Sw.heads W) fun h => L2.V.int (Sw.gam W h : Nat)) = dkv (Sw.heads W) fun h => L2.V.int (Sw.gam W h : Nat) := by
      have e := merge_new (ks := []) (g := fun _ => L2.V.non) (h := fun h => L2.V.int (Sw.gam W h : Nat)) (Sw.strict_nodup (Sw.heads_asc wb.win)) (fun k _ => by simp)
      have e0 : dkv [] (fun _ => L2.V.non) = [] := rfl
      rw [e0, List.nil_append] at e
      rw [e]
      exact dkv_congr fun k hk => if_pos hk
    rw [em]
    have s14 := same_upd (o := .dK (dkv (Sw.heads W) fun h => L2.V.int (Sw.gam W h : Nat))) htd
    have td14 : (upd H13 td (.dK (dkv (Sw.heads W) fun h => L2.V.int (Sw.gam W h : Nat)))) td = some (.dK (dkv (Sw.heads W) fun h => L2.V.int (Sw.gam W h : Nat))) := upd_same
    generalize hH14 : upd H13 td (.dK (dkv (Sw.heads W) fun h => L2.V.int (Sw.gam W h : Nat))) = H14 at *
    have t14 := t13.trans s14
    have perW : ∀ P ∈ Sw.parts W, ∃ g, Sw.IsPer W P g := fun P hP => by
      obtain ⟨j, hj, e⟩ := List.mem_iff_getElem.mp hP
      have h1 : (Sw.parts W)[j]? = some P := by rw [List.getElem?_eq_getElem hj, e]
      obtain ⟨g, _, e2⟩ := paired_at pr12 h1
      exact ⟨g, e2⟩
    -- the other's
    obtain ⟨dy, vs2, sl2⟩ := slA (va.same t14)
    refine ⟨_, rfl, y0, dy, _, rfl, sl2, y0, V, n, rfl, va.same t14, vb, fun p3 as3 H15 s15 h15 ll15 => ?_⟩
    have t15 := t14.trans s15
    obtain ⟨dy, vs2, sl2⟩ := slA (va.same t15)
    refine ⟨_, rfl, y0, dy, _, rfl, sl2, y0, V, n, rfl, va.same t15, vb, fun p4 gs4 H16 s16 h16 pr16 => ?_⟩
    have t16 := t15.trans s16
    have h15' := s16 _ _ h15
    have ll16 := ll15.same s16
    have td16 := s16 _ _ (s15 _ _ td14)
    refine ⟨p3, p4, _, _, rfl, SqL.of h15', SqL.of h16, ?_⟩
    refine for_it (walk_zip (K := K) (a := p3) (b := p4) (xs := as3.map L2.V.ref) (ys := gs4.map fun (g : Nat) => L2.V.int g) (n := as3.length) (by rw [List.length_map, List.length_map, ← paired_len pr16, ll16.len, Nat.min_self]))
      (fun j σ H8 => ∃ x2 x3, σ = [some (.ref x0), some (.ref y0), x2, x3, some (.ref td), none, none, none, none, none, none] ∧ Same H16 H8) ⟨none, none, rfl, fun _ _ h => h⟩ (fun j σ H8 _ h8 => by
        obtain ⟨_, _, _, s8⟩ := h8
        exact ⟨SqL.of (s8 _ _ h15'), SqL.of (s8 _ _ h16)⟩) ?_ ?_
    · intro j x σ H8 H9 hj h8 yy
      obtain ⟨T0, u1, u2, rfl, hT0, rfl, hu1, hu2⟩ := yy
      obtain ⟨x2, x3, rfl, s8⟩ := h8
      have hu1 : (as3.map L2.V.ref)[j]? = some u1 := hu1
      have hu2 : (gs4.map fun (g : Nat) => L2.V.int g)[j]? = some u2 := hu2
      rw [List.getElem?_map] at hu1 hu2
      obtain ⟨qa, hqa, rfl⟩ := Option.map_eq_some_iff.mp hu1
      obtain ⟨gj, hgj, rfl⟩ := Option.map_eq_some_iff.mp hu2
      obtain ⟨part, hpart, hqP⟩ := (ll16.same s8).at hqa
      have hP := List.mem_of_getElem? hpart
      obtain ⟨g2, e1, e2⟩ := paired_at pr16 hpart
      rw [hgj] at e1
      cases e1
      have hmW : Sw.mp part ∈ Sw.parts W := Sw.mp_part mir.symm hP
      obtain ⟨h0, hh0, ec⟩ := Sw.mem_parts.mp hmW
      obtain ⟨tl, htl⟩ := Sw.head_cons wb.win hh0
      have hgam : Sw.gam W h0 = gj := by
        obtain ⟨g, hg⟩ := perW _ hmW
        have hmm : Sw.mp (Sw.mp part) = part := Sw.mp_mp (Sw.part_asc vb.win hP)
        have := Sw.per_mir mir hmW hg (by rw [hmm]; exact e2)
        rw [← this]
        exact Sw.gam_is (by rw [ec]; exact hg)
      have S9 := same_upd (o := .tup [L2.V.ref qa, L2.V.int (gj : Int)]) hT0
      have pz : part.length ≤ 1000 := by
        refine Nat.le_trans ((Sw.strict_nodup (Sw.part_asc vb.win hP)).length_le_of_subset fun c hc => ((Sw.part_of vb.win hP hc).2).key) vb.keys_len
      refine ⟨T0, _, rfl, SqT.of upd_same, rfl, _, _, rfl, _, _, rfl, rfl, ?_⟩
      refine ⟨_, rfl, _, rfl, qa, part, rfl, S9 _ _ hqP, fun t ht => by have := (prW vb part hP t ht).2; omega, Nat.le_trans pz (by decide), fun l H10 _ s10 hl10 => ?_⟩
      have sF := s8.trans (S9.trans s10)
      refine ⟨l, _, ((0 : Nat) : Int), vT h0, rfl, rfl, SqL.of hl10, atI_nat (by rw [← ec, htl]; rfl), td, _, rfl, dget_in (sF _ _ td16) hh0, _, rfl, rfl, _, rfl, ?_⟩
      rw [hgam]
      refine iteFd ?_ ⟨some (.ref qa), some (.int (gj : Int)), rfl, sF⟩
      simp
    intro σ H17 h17
    obtain ⟨x2, x3, rfl, s17⟩ := h17
    have t17 := t16.trans s17
    -- steps
    obtain ⟨dx, vs1, sl1⟩ := slA (wa.same t17)
    refine ⟨_, rfl, x0, dx, _, rfl, sl1, x0, W, n, rfl, wa.same t17, wb, fun d5 H18 s18 D5 => ?_⟩
    have t18 := t17.trans s18
    obtain ⟨dy, vs2, sl2⟩ := slA (va.same t18)
    refine ⟨_, rfl, y0, dy, _, rfl, sl2, y0, V, n, rfl, va.same t18, vb, fun d6 H19 s19 D6 => ⟨_, _, rfl, ?_⟩⟩
    have t19 := t18.trans s19
    have D5' := D5.same s19
    obtain ⟨f5, hd5, hf5⟩ := id D5'
    obtain ⟨f6, hd6, hf6⟩ := id D6
    refine ⟨d5, _, hd5, trivial, fun od => ?_⟩
    have kW : ((dkv (Sw.nodes W) fun k => L2.V.ref (f5 k)).map fun kv => kV kv.1) = (Sw.nodes W).map vT := dkv_kV _ _
    have wk := walkKeys (d := d5) (o := od) (kvs := dkv (Sw.nodes W) fun k => L2.V.ref (f5 k))
    rw [kW] at wk
    have hlk : (upd H19 d5 (.frz od (.dK (dkv (Sw.nodes W) fun k => L2.V.ref (f5 k))))) d5 = some (.frz od (.dK (dkv (Sw.nodes W) fun k => L2.V.ref (f5 k)))) := upd_same
    have hun : upd (upd H19 d5 (.frz od (.dK (dkv (Sw.nodes W) fun k => L2.V.ref (f5 k))))) d5 (.dK (dkv (Sw.nodes W) fun k => L2.V.ref (f5 k))) = H19 := by
      rw [upd_upd]
      funext c
      by_cases hc : c = d5
      · rw [hc, upd_same, hd5]
      · rw [upd_ne hc]
    have lsk : ∀ {c : Addr} {xs : List L2.V}, H19 c = some (.lst xs) → (upd H19 d5 (.frz od (.dK (dkv (Sw.nodes W) fun k => L2.V.ref (f5 k))))) c = some (.lst xs) := fun {c xs} hc => by
      rw [upd_ne (ne_ob hd5 hc (fun z => nomatch z))]
      exact hc
    have g5 : ∀ k ∈ Sw.nodes W, DGet (upd H19 d5 (.frz od (.dK (dkv (Sw.nodes W) fun k => L2.V.ref (f5 k))))) d5 (vT k) (some (.ref (f5 k))) := fun k hk => .inl ⟨_, kT k, .inr ⟨od, hlk⟩, rfl, by rw [valV_in hk]⟩
    have g6 : ∀ k ∈ Sw.nodes V, DGet (upd H19 d5 (.frz od (.dK (dkv (Sw.nodes W) fun k => L2.V.ref (f5 k))))) d6 (vT k) (some (.ref (f6 k))) := fun k hk => by
      by_cases e : d6 = d5
      · have e2 : (dkv (Sw.nodes V) fun k => L2.V.ref (f6 k)) = (dkv (Sw.nodes W) fun k => L2.V.ref (f5 k)) := by
          rw [e, hd5] at hd6
          have := Option.some.inj hd6
          injection this with h
          exact h.symm
        refine .inl ⟨_, kT k, .inr ⟨od, by rw [e]; exact hlk⟩, rfl, ?_⟩
        rw [← e2, valV_in hk]
      · have e3 : (upd H19 d5 (.frz od (.dK (dkv (Sw.nodes W) fun k => L2.V.ref (f5 k))))) d6 = some (.dK (dkv (Sw.nodes V) fun k => L2.V.ref (f6 k))) := by
          rw [upd_ne e]
          exact hd6
        exact dget_in e3 hk
    generalize hG : upd H19 d5 (.frz od (.dK (dkv (Sw.nodes W) fun k => L2.V.ref (f5 k)))) = G at *
    refine ⟨_, rfl, d5, od, rfl, .inl ⟨_, hlk, ?_⟩⟩
    refine for_it wk (fun i σ H8 => ∃ x7 x8, σ = [some (.ref x0), some (.ref y0), x2, x3, some (.ref td), some (.ref d5), some (.ref d6), x7, x8, none, none] ∧ H8 = G) ⟨none, none, rfl, rfl⟩ (fun i σ H8 _ h8 => by
      obtain ⟨_, _, _, rfl⟩ := h8
      exact hlk) ?_ ?_
    · intro i x σ H8 H9 hi h8 yy
      obtain ⟨rfl, hx⟩ := yy
      obtain ⟨x7, x8, rfl, rfl⟩ := h8
      rw [List.getElem?_map] at hx
      obtain ⟨nd0, hnd, hx2⟩ := Option.map_eq_some_iff.mp hx
      subst hx2
      have hN := List.mem_of_getElem? hnd
      have hl5 := lsk (hf5 nd0 hN)
      refine ⟨_, rfl, _, rfl, d5, _, rfl, g5 nd0 hN, f5 nd0, rfl, ⟨_, SqL.of hl5⟩, ?_⟩
      refine for_it (walk_list (K := K) (a := f5 nd0) (xs := (Sw.wgoals W nd0).map vT)) (fun i σ H8 => ∃ x8, σ = [some (.ref x0), some (.ref y0), x2, x3, some (.ref td), some (.ref d5), some (.ref d6), some (vT nd0), x8, none, none] ∧ H8 = H9) ⟨x8, rfl, rfl⟩ (fun i σ H8 _ h8 => by
        obtain ⟨_, _, rfl⟩ := h8
        exact SqL.of hl5) ?_ ?_
      · intro j x σ H8 H10 hj h8 yy
        obtain ⟨rfl, hx⟩ := yy
        obtain ⟨x8, rfl, rfl⟩ := h8
        rw [List.getElem?_map] at hx
        obtain ⟨gl0, hgl, hx2⟩ := Option.map_eq_some_iff.mp hx
        subst hx2
        have hG2 := List.mem_of_getElem? hgl
        have h5' := Sw.law5 mir hG2
        obtain ⟨e1, e2⟩ := Sw.mem_wgoals.mp h5'
        have hgV : gl0.reverse ∈ Sw.nodes V := Sw.mem_nodes.mpr (Sw.R.head e1 e2)
        have ln := (ndW nd0 hN).2
        have lg : gl0.length ≤ 1000 := by
          have := (ndV _ hgV).2
          rw [List.length_reverse] at this
          omega
        refine ⟨_, rfl, nd0, rfl, small4 (by omega), _, rfl, _, rfl, gl0, rfl, small4 lg, d6, _, rfl, g6 _ hgV, f6 gl0.reverse, _, rfl, .inl (SqL.of (lsk (hf6 _ hgV))), rfl, flat_T _, _, rfl, ?_⟩
        refine iteFd ?_ ⟨some (vT gl0), rfl, rfl⟩
        rw [if_pos rfl, inV_T, decide_eq_true h5']
        rfl
      · intro σ H8 h8
        obtain ⟨x8, rfl, rfl⟩ := h8
        exact ⟨_, _, rfl, rfl⟩
    · intro σ H8 h8
      obtain ⟨x7, x8, rfl, rfl⟩ := h8
      refine ⟨hlk, ?_⟩
      rw [hun]
      -- the counts
      have law6 := Sw.law6 mir
      have law7 := Sw.law7 mir
      generalize hmW : ((Sw.nodes W).map fun a => (Sw.wgoals W a).length).sum = mm at law6
      refine ⟨_, rfl, _, rfl, (show 2 ≤ sizeLine by decide), fun t ht => ⟨t, rfl, ⟨_, SqT.of upd_same⟩, fun D2 hD2 => ?_⟩⟩
      have S20 := same_upd (o := .tup [L2.V.ref d5, L2.V.ref d6]) ht
      have ht20 : (upd H19 t (.tup [L2.V.ref d5, L2.V.ref d6])) t = some (.tup [L2.V.ref d5, L2.V.ref d6]) := upd_same
      generalize hG20 : upd H19 t (.tup [L2.V.ref d5, L2.V.ref d6]) = G20 at *
      refine lc_it (walk_tup (K := K) (a := t) (xs := [L2.V.ref d5, L2.V.ref d6])) (fun j H8 => Same G20 H8 ∧ H8 D2 = some (.lst (([L2.V.int mm, L2.V.int mm] : List L2.V).take j))) ⟨same_upd hD2, upd_same⟩ (fun j H8 _ h8 => SqT.of (h8.1 _ _ ht20)) ?_ ?_
      · intro j x H8 H9 hj h8 yy
        obtain ⟨rfl, hx⟩ := yy
        obtain ⟨s8, hd8⟩ := h8
        have S8 := S20.trans s8
        obtain ⟨dX, U, rfl, DX, wU, hsum⟩ : ∃ (dX : Addr) (U : List Sw.Row), x = .ref dX ∧ DL H9 dX (Sw.nodes U) (Sw.wgoals U) ∧ Sw.Wb U n ∧ ((Sw.nodes U).map fun a => (Sw.wgoals U a).length).sum = mm := by
          have hj : j < 2 := hj
          have : j = 0 ∨ j = 1 := by omega
          rcases this with e | e <;> subst e
          · have hx : some (L2.V.ref d5) = some x := hx
            cases hx
            exact ⟨d5, W, rfl, D5'.same S8, wb, hmW⟩
          · have hx : some (L2.V.ref d6) = some x := hx
            cases hx
            exact ⟨d6, V, rfl, D6.same S8, vb, law6.symm⟩
        obtain ⟨fX, hdX, hfX⟩ := DX
        refine ⟨by rfl, ?_⟩
        unfold tYes
        refine iteT ?_
        refine ⟨dX, _, hdX, trivial, fun od => ?_⟩
        have kX : ((dkv (Sw.nodes U) fun k => L2.V.ref (fX k)).map fun kv => kV kv.1) = (Sw.nodes U).map vT := dkv_kV _ _
        have wkX := walkKeys (d := dX) (o := od) (kvs := dkv (Sw.nodes U) fun k => L2.V.ref (fX k))
        rw [kX] at wkX
        have hlX : (upd H9 dX (.frz od (.dK (dkv (Sw.nodes U) fun k => L2.V.ref (fX k))))) dX = some (.frz od (.dK (dkv (Sw.nodes U) fun k => L2.V.ref (fX k)))) := upd_same
        have nz : (Sw.nodes U).length ≤ 1000 := by
          unfold Sw.nodes
          exact Nat.le_trans (List.length_filter_le _ _) wU.keys_len
        refine ⟨_, rfl, dX, od, rfl, .inl ⟨_, hlX, fun D3 hD3 => ?_⟩⟩
        rw [show (fun (_ : L2.St) (H : Hp) (Q : Bool → Hp → Prop) => Q true H) = tYes from rfl]
        refine lc_map wkX (fun v => match v with | .str z => .int ((Sw.wgoals U z.cps.toList).length : Nat) | _ => .non) hD3 (fun H10 q10 => q10 _ _ hlX) (by rw [List.length_map]; exact Nat.le_trans nz (by decide)) (fun x hx H10 q10 R hR => hR _ (by rfl) fun Q' q => ?_) ?_
        · obtain ⟨c0, hc0, rfl⟩ := List.mem_map.mp hx
          have hgo := hfX c0 hc0
          have hgo2 : H10 (fX c0) = some (.lst ((Sw.wgoals U c0).map vT)) := q10 _ _ (by rw [upd_ne (ne_ob hdX hgo (fun z => nomatch z))]; exact hgo)
          refine ⟨_, rfl, _, rfl, dX, _, rfl, .inl ⟨_, kT c0, .inr ⟨od, q10 _ _ hlX⟩, rfl, by rw [valV_in hc0]⟩, fX c0, _, rfl, .inl (SqL.of hgo2), ?_⟩
          rw [List.length_map]
          simp only [vT, T_list] at q
          exact q
        · have ee : ((Sw.nodes U).map vT).map (fun v => match v with | .str z => L2.V.int ((Sw.wgoals U z.cps.toList).length : Nat) | _ => .non) = ((Sw.nodes U).map fun a => (((Sw.wgoals U a).length : Nat) : Int)).map L2.V.int := by
            rw [List.map_map, List.map_map]
            refine List.map_congr_left fun b _ => ?_
            show L2.V.int ((Sw.wgoals U (T b).cps.toList).length : Nat) = _
            rw [T_list]
            rfl
          rw [ee]
          have XD3 : dX ≠ D3 := ne_of_none hlX hD3
          refine ⟨by rw [upd_ne XD3]; exact hlX, D3, _, rfl, SqL.of (by rw [upd_ne (Ne.symm XD3)]; exact upd_same), ?_⟩
          rw [sum_cast, hsum]
          have nD3 : H9 D3 = none := by
            rw [upd_ne (Ne.symm XD3)] at hD3
            exact hD3
          have s9 : Same H9 (upd (upd (upd H9 dX (.frz od (.dK (dkv (Sw.nodes U) fun k => L2.V.ref (fX k))))) D3 (.lst (((Sw.nodes U).map fun a => (((Sw.wgoals U a).length : Nat) : Int)).map L2.V.int))) dX (.dK (dkv (Sw.nodes U) fun k => L2.V.ref (fX k)))) := fun c o hc => by
            by_cases e : c = dX
            · rw [e] at hc ⊢
              rw [hdX] at hc
              rw [upd_same]
              exact hc
            · rw [upd_ne e, upd_ne (ne_of_none hc nD3), upd_ne e]
              exact hc
          have hd9 := s9 _ _ hd8
          refine ⟨_, hd9, ?_, ?_, ?_⟩
          · exact Nat.lt_of_le_of_lt (show _ ≤ 2 from List.length_take_le' _ _) (by decide)
          · exact same_upd2 (s8.trans s9) hD2
          · rw [upd_same]
            have hj : j < 2 := hj
            have : j = 0 ∨ j = 1 := by omega
            rcases this with e | e <;> subst e <;> rfl
      · intro H8 h8
        obtain ⟨s8, hd8⟩ := h8
        have t20 := (t19.trans S20).trans s8
        have hd8 : H8 D2 = some (.lst [L2.V.int mm, L2.V.int mm]) := hd8
        obtain ⟨dx, vs1, sl1⟩ := slA (wa.same t20)
        obtain ⟨dy, vs2, sl2⟩ := slA (va.same t20)
        have lz : ∀ U : List Sw.Row, Sw.Wb U n → ((Sw.nodes U).length : Int) < 2 ^ 63 := fun U wb => by
          have : (Sw.nodes U).length ≤ 1000 := by
            unfold Sw.nodes
            exact Nat.le_trans (List.length_filter_le _ _) wb.keys_len
          omega
        refine ⟨_, rfl, D2, _, ((0 : Nat) : Int), .int mm, rfl, rfl, SqL.of hd8, rfl, _, rfl, D2, _, ((1 : Nat) : Int), .int mm, rfl, rfl, SqL.of hd8, rfl, (mm : Int), (mm : Int), rfl, rfl, _, rfl, ?_⟩
        refine iteTd (by simp) ?_
        refine ⟨_, rfl, x0, dx, _, rfl, sl1, x0, W, n, rfl, wa.same t20, wb, _, rfl, by omega, lz W wb, ?_⟩
        refine ⟨_, rfl, y0, dy, _, rfl, sl2, y0, V, n, rfl, va.same t20, vb, _, rfl, by omega, lz V vb, ?_⟩
        refine ⟨_, _, rfl, rfl, ?_⟩
        have e : decide (((Sw.nodes W).length : Int) = ((Sw.nodes V).length : Int)) = true := decide_eq_true (by rw [law7])
        show Q (.bl (decide (((Sw.nodes W).length : Int) = ((Sw.nodes V).length : Int)))) H8
        rw [e]
        exact k H8 t20
end
end Wk

/-! W19: law. -/
namespace Sw
section
variable {W : List Row} {n m q : Nat}
theorem txs_ok (wb : Wb W m) {t : Row} (h : t ∈ srt (txs W q n)) (hq : q < m) : Tx t ∧ t.length = n := by
  rw [srt_mem] at h
  unfold txs at h
  obtain ⟨s, hs, h⟩ := List.mem_flatMap.mp h
  obtain ⟨l, hl, rfl⟩ := List.mem_map.mp h
  obtain ⟨h1, h2, h3⟩ := mem_wk.mp hl
  refine ⟨fun c hc => ?_, by unfold txt; rw [List.length_map, h1]⟩
  unfold txt at hc
  obtain ⟨a, ha, rfl⟩ := List.mem_map.mp hc
  obtain ⟨i, hi, e⟩ := List.mem_iff_getElem.mp ha
  have e2 : (l ++ [s]).getD i [] = a := by
    rw [List.getD_eq_getElem?_getD, List.getElem?_append_left hi, List.getElem?_eq_getElem hi, e]
    rfl
  have h4 := h3 i (by omega)
  rw [e2] at h4
  obtain ⟨tx, _, la, _⟩ := wb.e (mem_wgoals.mp h4).1
  rw [List.getD_eq_getElem?_getD, List.getElem?_eq_getElem (by omega)]
  exact tx _ (List.getElem_mem _)
theorem txs_len (G : Gr (wgoals W) (nodes W)) (hn : 1 ≤ n) (h5 : n ≤ 5) : (srt (txs W q n)).length ≤ 1100000 := by
  rw [(srt_perm (txs W q n)).length_eq]
  have h1 := texts_le (q := q) G hn h5 (nodes W) fun s hs => hs
  have h2 := G.len
  unfold txs
  omega
end
end Sw
namespace Wk
open PySem PySem.Spec PyProof.Rows L2 LamX
theorem Tabs.oth {T : List (Addr × Str)} {H H' : Hp} {b : Addr} {xs : List L2.V} (t : Tabs T H) (hb : H b = some (.lst xs)) (s : OthS b H H') : Tabs T H' := fun p hp => by
  obtain ⟨ps, h1, h2, h3⟩ := t p hp
  refine ⟨ps, s _ _ (ne_ob hb h1 (fun z => nomatch z)) h1, h2, fun pos cv hc => ?_⟩
  obtain ⟨c, e1, e2⟩ := h3 pos cv hc
  exact ⟨c, e1, s _ _ (ne_ob hb e2 (fun z => by unfold CodeO at z; cases z)) e2⟩
theorem BagAt.extN {H H' : Hp} {b cl : Addr} (h : BagAt H b cl) (s : ExtN H H') : BagAt H' b cl := by
  obtain ⟨s0, s1, s2, cs, h1, h2, h3, h4, h5⟩ := h
  exact ⟨s0, s1, s2, cs, s _ _ h1 (fun ps z => nomatch z), h2, s _ _ h3 (fun ps z => nomatch z), h4, h5⟩
theorem MadeAt.extN {H H' : Hp} {t : Addr} {tb : Sw.Row} {r : Nat} (h : MadeAt H t tb r) (s : ExtN H H') : MadeAt H' t tb r := s _ _ h (fun ps z => nomatch z)
section
variable {P : Program} {w : World} {K : PySem.W.Frag} {mg : Str → Option Value} {base : Heap} {C CR : Addr}
def spLaw (K : PySem.W.Frag) (Tb : List (Addr × Str)) : Sp := fun vs H Q _ => ∃ (p : Addr) (ns : List Int), vs = [.ref p] ∧ SqL K H p (ns.map L2.V.int) ∧ ns.length ≤ 1000 ∧ Tabs Tb H ∧ ∀ H', Q (.bl true) H'
abbrev N27 : List Str := ["_law_script", "_law_bag_here", "_law_turn", "_law_made", "_law_p", "_law_q", "_law_rule_here", "_law_web", "_law_other", "_law_size"]
theorem sc27 : FnScope N27 ["_law_script"] dd27.scope := ⟨rfl, rfl, rfl, by decide +kernel, rfl, by decide +kernel, by decide +kernel⟩
theorem c_law {a ge : Addr} {fd : FuncData} {Tb : List (Addr × Str)} (F : FnT K dd27 a fd) (h1 : mg "range" = none) (h2 : mg "len" = none) (RC : RuleC K CR) (WC : WebC K C) (cb : Cl P w K mg base 1 "_law_bag" (spBag K)) (cc : Cl P w K mg base 3 "_law_my_case" spCase)
    (cr : Cl P w K mg base 5 "_law_my_rule" (spMyRule CR)) (cw : C8.Mak P w K mg base 6 "Web" C (spWInit C CR) []) (mm : MetS P w K mg base 5 CR "mirrored" (spMir CR)) (ct : Cl P w K mg base 5 "_law_webs_right" (spRight C)) (cs : Cl P w K mg base 1 "_law_my_signs" spMySigns)
    (cm : Cl P w K mg base 1 "_law_mirrored" spMirrored) (ch : Cl P w K mg base 8 "shapes_of" (spShapes CR Tb)) (ME : Meth K CR "__eq__" ge) (FE : FnR P w K mg base CX0 1 ge (spREq CR)) (mw : MetS P w K mg base 1 C "windows" (spWWin C)) :
    FnOk P w K mg base CX0 9 a fd ["_law_script"] (spLaw K Tb) := by
  refine okF F sc27 (fun vs H Q E h => ?_) fun cdv A outer s H vs Q E hr h => ?_
  · obtain ⟨_, _, rfl, _⟩ := h
    rfl
  · obtain ⟨p, ns, rfl, hs, hz, hT, k⟩ := h
    refine ⟨_, pss_cons (ps_set (i := 1) sc27.nd rfl (Or.inl rfl) (C8.pe_c cb hr (by decide) (by rfl) (pa_cons (pv 0) pa_nil)))
      (pss_cons (ps_for PassesOwn.never rfl (pi_range1 (by rfl) h1 (pa_cons pe_int pa_nil)) (pg_name (i := 2) sc27.nd rfl (Or.inl rfl))
        (pss_cons (ps_asg (C8.pe_c cc hr (by decide) (by rfl) (pa_cons (pv 1) (pa_cons pe_bl pa_nil))) (pg_unl rfl (pgs_cons (pg_name (i := 3) sc27.nd rfl (Or.inl rfl)) (pgs_cons (pg_name (i := 4) sc27.nd rfl (Or.inl rfl)) (pgs_cons (pg_name (i := 5) sc27.nd rfl (Or.inl rfl)) pgs_nil)))))
        (pss_cons (ps_set (i := 6) sc27.nd rfl (Or.inl rfl) (C8.pe_c cr hr (by decide) (by rfl) (pa_cons (pv 3) pa_nil)))
        (pss_cons (ps_par (i := 7) (j := 8) (by rfl) sc27.nd rfl rfl (by decide) rfl rfl (pa_cons (C8.pe_mk cw hr (by decide) (by rfl) (pa_cons (pv 6) (pa_cons (pv 4) (pa_cons (pv 5) pa_nil))))
            (pa_cons (C8.pe_mk cw hr (by decide) (by rfl) (pa_cons (pe_mt0 (pv 6) RC.sc mm hr (by decide)) (pa_cons (pe_un un_neg (pv 4)) (pa_cons (pv 5) pa_nil)))) pa_nil)) (by rfl))
        (pss_cons (ps_if (pt_not (pt_val (C8.pe_c ct hr (by decide) (by rfl) (pa_cons (pv 7) (pa_cons (pv 8) pa_nil))))) (pss_one (ps_ret pe_bl)) pss_nil)
        (pss_cons (ps_for PassesOwn.never rfl (pi_tup (pe_tup (pa_cons pe_int (pa_cons pe_int (pa_cons pe_int (pa_cons pe_int pa_nil)))))) (pg_name (i := 9) sc27.nd rfl (Or.inl rfl))
          (pss_one (ps_if (PW.pt (pw_or (pt_cmp (pc_lt (pe_callB call_len_str (by rfl) h2 b_len (pa_cons (C8.pe_c cs hr (by decide) (by rfl) (pa_cons (pv 3) pa_nil)) pa_nil)) pe_int)) (pw_or1 (pt_cmp (pc_lt (pv 9) pe_int)))))
            (pss_one (ps_if (pt_cmpR (op_neD hr.units) (C8.pe_c cm hr (by decide) (by rfl) (pa_cons (C8.pe_c ch hr (by decide) (by rfl) (pa_cons (pv 6) (pa_cons (pv 4) (pa_cons (pv 5) (pa_cons (pv 9) pa_nil))))) pa_nil))
              (C8.pe_c ch hr (by decide) (by rfl) (pa_cons (pe_mt0 (pv 6) RC.sc mm hr (by decide)) (pa_cons (pe_un un_neg (pv 4)) (pa_cons (pv 5) (pa_cons (pv 9) pa_nil))))) (nomark _)) (pss_one (ps_ret pe_bl)) pss_nil)) pss_nil)))
        (pss_one (ps_if (PW.pt (pw_and (pt_cmpR (SlX.op_own (fun _ _ => rfl) ME.at_ ME.fn FE (hr.mono (by decide)) pass0) (pe_mt0 (pv 6) RC.sc mm hr (by decide)) (pv 6) (nomark _))
            (pw_and1 (pt_cmpR (op_neD hr.units) (C8.pe_c cm hr (by decide) (by rfl) (pa_cons (pe_mt0 (C8.pe_mk cw hr (by decide) (by rfl) (pa_cons (pv 6) (pa_cons (pe_un un_neg (pv 4)) (pa_cons (pv 5) pa_nil)))) WC.sc mw hr (by decide)) pa_nil)) (pe_mt0 (pv 7) WC.sc mw hr (by decide)) (nomark _))))) (pss_one (ps_ret pe_bl)) pss_nil))))))))
      (pss_one (ps_ret pe_bl))), ?_⟩
    refine ⟨_, rfl, p, ns, rfl, hs, hz, fun b cl H1 s1 nb bag1 => ?_⟩
    have T1 := hT.ext s1
    refine ⟨2, rfl, by decide, by decide, ?_⟩
    refine for_it (walk_range (lo := 0) (n := 2)) (fun i σ H2 => ∃ x2 x3 x4 x5 x6 x7 x8 x9, σ = [some (.ref p), some (.ref b), x2, x3, x4, x5, x6, x7, x8, x9] ∧ Tabs Tb H2 ∧ BagAt H2 b cl)
      ⟨none, none, none, none, none, none, none, none, rfl, T1, bag1⟩ (fun _ _ _ _ _ => trivial) ?_ (fun σ H2 _ => k H2)
    intro i x σ H2 H3 hi h2 y
    obtain ⟨rfl, _⟩ := y
    obtain ⟨x2, x3, x4, x5, x6, x7, x8, x9, rfl, T2, bag2⟩ := h2
    refine ⟨_, rfl, b, cl, rfl, bag2, fun l t H4 tb r q m o4 bag4 htb hr2 mk hl hq1 hq3 hpow hm1 hm2 => ?_⟩
    have T4 : Tabs Tb H4 := by
      obtain ⟨s0, s1, s2, cs, g1, _⟩ := bag2
      exact Wk.Tabs.oth T2 g1 o4
    refine ⟨l, _, rfl, SqL.of hl, rfl, _, _, rfl, _, _, rfl, _, _, rfl, rfl, ?_⟩
    refine ⟨_, rfl, t, tb, r, rfl, mk, htb, hr2, fun rp H5 s5 R5 => ?_⟩
    have mkS : ∀ {Ha Hb : Hp} {x ex : Addr}, Ha x = none → Ha ex = none → (∀ b o, b ≠ x → b ≠ ex → (upd (upd Ha ex (.own x)) x (.ins C ex [])) b = some o → Hb b = some o) → Same Ha Hb := fun nx nex o b u hb =>
      o b u (ne_of_none hb nx) (ne_of_none hb nex) (by rw [upd_ne (ne_of_none hb nx), upd_ne (ne_of_none hb nex)]; exact hb)
    have pre : ∀ {Ha : Hp} {x ex : Addr}, Ha x = none → Ha ex = none → Same Ha (upd (upd Ha ex (.own x)) x (.ins C ex [])) := fun nx nex b u hb => by
      rw [upd_ne (ne_of_none hb nx), upd_ne (ne_of_none hb nex)]
      exact hb
    refine ⟨_, rfl, _, rfl, _, rfl, fun wx ex nx nex ne => ?_⟩
    refine ⟨wx, ex, rp, tb, r, q, m, rfl, R5.same (pre nx nex), htb, hr2, hpow, hq1, by omega, hm1, hm2, upd_same, by rw [upd_ne ne, upd_same], ne, fun H6 wa6 o6 => ⟨rfl, ?_⟩⟩
    have s6 := mkS nx nex o6
    obtain ⟨dxr, g1, g2⟩ := R5.same s6
    refine ⟨_, rfl, rp, dxr, _, rfl, .inr ⟨g1, g2⟩, rp, tb, r, rfl, R5.same s6, htb, hr2, fun rq H7 s7 R7 => ?_⟩
    refine ⟨_, rfl, m, rfl, _, rfl, fun wy ey ny ney ne2 => ?_⟩
    refine ⟨wy, ey, rq, Sw.mtb tb, r, q, -m, rfl, R7.same (pre ny ney), mtb_ok htb, hr2, hpow, hq1, by omega, by omega, by omega, upd_same, by rw [upd_ne ne2, upd_same], ne2, fun H8 va8 o8 => ⟨rfl, _, _, rfl, ?_⟩⟩
    have s8 := mkS ny ney o8
    have wb : Sw.Wb (Sw.wins tb r m q) (2 * q) := wins_wb hq1 hr2 hpow (by omega)
    have vb : Sw.Wb (Sw.wins (Sw.mtb tb) r (-m) q) (2 * q) := wins_wb hq1 hr2 hpow (by omega)
    have mir := Sw.wins_mir htb.1 (r := r) hq1 hm1 hm2
    have gW := Sw.nodes_gr wb (wins_sg (tb := tb) (q := q) (m := m) hr2)
    have s58 := (s6.trans s7).trans s8
    refine ⟨_, rfl, _, rfl, wx, wy, _, _, 2 * q, rfl, wa6.same (s7.trans s8), va8, wb, vb, mir, fun H9 s9 => ⟨true, rfl, iteF ?_⟩⟩
    refine ⟨(show 4 ≤ sizeLine by decide), fun tt htt => ⟨tt, rfl, ⟨_, SqT.of upd_same⟩, ?_⟩⟩
    have s10 := same_upd (o := .tup [L2.V.int 1, L2.V.int 2, L2.V.int 3, L2.V.int 5]) htt
    have tt12 : (upd H9 tt (.tup [L2.V.int 1, L2.V.int 2, L2.V.int 3, L2.V.int 5])) tt = some (.tup [L2.V.int 1, L2.V.int 2, L2.V.int 3, L2.V.int 5]) := upd_same
    generalize hH12 : upd H9 tt (.tup [L2.V.int 1, L2.V.int 2, L2.V.int 3, L2.V.int 5]) = H12 at *
    have s512 := (s58.trans s9).trans s10
    have R11 := R5.same s512
    have T12 := T4.ext (s5.trans s512)
    have mk12 : MadeAt H12 t tb r := s512 _ _ (s5 _ _ mk)
    have wa12 := wa6.same (((s7.trans s8).trans s9).trans s10)
    have bag12 := bag4.same (s5.trans s512)
    refine for_it (walk_tup (K := K) (a := tt) (xs := [L2.V.int 1, L2.V.int 2, L2.V.int 3, L2.V.int 5])) (fun j σ G => ∃ x9, σ = [some (.ref p), some (.ref b), some (.int (0 + (i : Int))), some (.ref t), some (.int m), some (.int q), some (.ref rp), some (.ref wx), some (.ref wy), x9] ∧ ExtN H12 G ∧ Tabs Tb G)
      ⟨x9, by simp_all, ExtN.refl _, T12⟩ (fun j σ G _ h => by
        obtain ⟨_, _, e, _⟩ := h
        exact SqT.of (e _ _ tt12 (fun ps z => nomatch z))) ?_ ?_
    · intro j x σ G G' hj h y
      obtain ⟨rfl, hx⟩ := y
      obtain ⟨x9, rfl, eN, tG⟩ := h
      obtain ⟨sz, rfl, hs1, hs5⟩ : ∃ sz : Nat, x = .int (sz : Int) ∧ 1 ≤ sz ∧ sz ≤ 5 := by
        have hj : j < 4 := hj
        have : j = 0 ∨ j = 1 ∨ j = 2 ∨ j = 3 := by omega
        rcases this with e | e | e | e <;> subst e <;> cases hx
        · exact ⟨1, rfl, by decide, by decide⟩
        · exact ⟨2, rfl, by decide, by decide⟩
        · exact ⟨3, rfl, by decide, by decide⟩
        · exact ⟨5, rfl, by decide, by decide⟩
      have hsl : (T (Sw.sg r)).length ≤ sizeLine := by
        rw [T_len]
        have e : r = 0 ∨ r = 1 ∨ r = 2 := by omega
        rcases e with e | e | e <;> subst e <;> decide
      refine ⟨_, rfl, t, tb, r, rfl, mk12.extN eN, hr2, T (Sw.sg r), rfl, hsl, ((T (Sw.sg r)).length : Int), 4, rfl, rfl, _, rfl, ?_⟩
      by_cases c1 : ((T (Sw.sg r)).length : Int) < 4
      · refine iteTd (decide_eq_true c1) ?_
        refine ⟨_, rfl, _, rfl, _, rfl, _, rfl, rp, tb, r, q, sz, m, rfl, R11.extN eN, htb, hr2, hpow, hq1, by omega, hm1, hm2, tG, hs1, hs5, fun d1 G1 e1 T1' hd1 => ?_⟩
        refine ⟨d1, _, rfl, hd1, fun t ht => by have := (Sw.txs_ok wb ht (by omega)).2; omega, Nat.le_trans (Sw.txs_len gW hs1 hs5) (by decide), fun d2 G2 _ s2 hd2 => ?_⟩
        rw [Sw.law8 mir hq1 hs1] at hd2
        have e2 : ExtN H12 G2 := (eN.trans e1).trans (ExtN.of s2)
        obtain ⟨dxr, g1, g2⟩ := R11.extN e2
        refine ⟨_, rfl, rp, dxr, _, rfl, .inr ⟨g1, g2⟩, rp, tb, r, rfl, R11.extN e2, htb, hr2, fun rq2 G3 s3 R3 => ?_⟩
        refine ⟨_, rfl, m, rfl, _, rfl, _, rfl, rq2, Sw.mtb tb, r, q, sz, -m, rfl, R3, mtb_ok htb, hr2, hpow, hq1, by omega, by omega, by omega, (T1'.ext s2).ext s3, hs1, hs5, fun d3 G4 e4 T4 hd4 => ?_⟩
        refine ⟨dL _, dL _, dp_L (e4 _ _ (s3 _ _ hd2) (fun ps z => nomatch z)), dp_L hd4, dL_shaped fun t ht => (Sw.txs_ok vb ht (by omega)).1, dL_shaped fun t ht => (Sw.txs_ok vb ht (by omega)).1, _, rfl, ?_⟩
        rw [dL_eqv]
        refine iteFd (by simp) ⟨some (.int (sz : Int)), rfl, (e2.trans (ExtN.of s3)).trans e4, T4⟩
      · refine iteFd (decide_eq_false c1) ?_
        refine ⟨_, rfl, (sz : Int), 4, rfl, rfl, _, rfl, ?_⟩
        by_cases c2 : (sz : Int) < 4
        · refine iteTd (decide_eq_true c2) ?_
          refine ⟨_, rfl, _, rfl, _, rfl, _, rfl, rp, tb, r, q, sz, m, rfl, R11.extN eN, htb, hr2, hpow, hq1, by omega, hm1, hm2, tG, hs1, hs5, fun d1 G1 e1 T1' hd1 => ?_⟩
          refine ⟨d1, _, rfl, hd1, fun t ht => by have := (Sw.txs_ok wb ht (by omega)).2; omega, Nat.le_trans (Sw.txs_len gW hs1 hs5) (by decide), fun d2 G2 _ s2 hd2 => ?_⟩
          rw [Sw.law8 mir hq1 hs1] at hd2
          have e2 : ExtN H12 G2 := (eN.trans e1).trans (ExtN.of s2)
          obtain ⟨dxr, g1, g2⟩ := R11.extN e2
          refine ⟨_, rfl, rp, dxr, _, rfl, .inr ⟨g1, g2⟩, rp, tb, r, rfl, R11.extN e2, htb, hr2, fun rq2 G3 s3 R3 => ?_⟩
          refine ⟨_, rfl, m, rfl, _, rfl, _, rfl, rq2, Sw.mtb tb, r, q, sz, -m, rfl, R3, mtb_ok htb, hr2, hpow, hq1, by omega, by omega, by omega, (T1'.ext s2).ext s3, hs1, hs5, fun d3 G4 e4 T4 hd4 => ?_⟩
          refine ⟨dL _, dL _, dp_L (e4 _ _ (s3 _ _ hd2) (fun ps z => nomatch z)), dp_L hd4, dL_shaped fun t ht => (Sw.txs_ok vb ht (by omega)).1, dL_shaped fun t ht => (Sw.txs_ok vb ht (by omega)).1, _, rfl, ?_⟩
          rw [dL_eqv]
          refine iteFd (by simp) ⟨some (.int (sz : Int)), rfl, (e2.trans (ExtN.of s3)).trans e4, T4⟩
        · exact iteFd (decide_eq_false c2) ⟨some (.int (sz : Int)), rfl, eN, tG⟩
    · intro σ G h
      obtain ⟨x9, rfl, eN, tG⟩ := h
      obtain ⟨dxr, g1, g2⟩ := R11.extN eN
      refine ⟨_, rfl, rp, dxr, _, rfl, .inr ⟨g1, g2⟩, rp, tb, r, rfl, R11.extN eN, htb, hr2, fun rq2 G3 s3 R3 => ?_⟩
      obtain ⟨dxq, q1, q2⟩ := id R3
      have e3 := eN.trans (ExtN.of s3)
      obtain ⟨dxr, g1, g2⟩ := R11.extN e3
      have fin : ∀ G', ExtN H12 G' → Tabs Tb G' → ∃ x2 x3 x4 x5 x6 x7 x8 x9', ([some (.ref p), some (.ref b), some (.int (0 + (i : Int))), some (.ref t), some (.int m), some (.int q), some (.ref rp), some (.ref wx), some (.ref wy), x9] : L2.St) = [some (.ref p), some (.ref b), x2, x3, x4, x5, x6, x7, x8, x9'] ∧ Tabs Tb G' ∧ BagAt G' b cl := fun G' e t => ⟨_, _, _, _, _, _, _, _, rfl, t, bag12.extN e⟩
      refine ⟨_, rfl, rq2, dxq, _, rp, CR, dxr, _, rfl, rfl, .inr ⟨q1, q2⟩, .inr ⟨g1, g2⟩, by simp [PySem.W.notFirst], rq2, rp, Sw.mtb tb, tb, r, r, rfl, R3, R11.extN e3, _, rfl, ?_⟩
      by_cases ce : Sw.mtb tb = tb
      · refine iteTd (by simp [ce]) ?_
        refine ⟨_, rfl, _, rfl, m, rfl, _, rfl, fun wz ez nz nez ne3 => ?_⟩
        refine ⟨wz, ez, rp, tb, r, q, -m, rfl, (R11.extN e3).same (pre nz nez), htb, hr2, hpow, hq1, by omega, by omega, by omega, upd_same, by rw [upd_ne ne3, upd_same], ne3, fun G5 wa5 o5 => ⟨rfl, ?_⟩⟩
        have s5' := mkS nz nez o5
        obtain ⟨dw, pw, pp, ps, rp', as', m', q', w1, w2, _⟩ := id wa5
        refine ⟨wz, dw, _, rfl, .inr ⟨w1, w2⟩, wz, _, rfl, wa5, fun d1 G6 s6' h6 => ?_⟩
        rw [ce] at vb mir
        refine ⟨d1, _, rfl, h6, fun u hu => by have := vb.win.len u hu; omega, Nat.le_trans vb.len (by decide), fun d2 G7 _ s7' h7 => ?_⟩
        rw [Sw.law1 mir.symm] at h7
        have e7 : ExtN H12 G7 := e3.trans (ExtN.of ((s5'.trans s6').trans s7'))
        have wa7 := wa12.extN e7
        obtain ⟨dw, pw, pp, ps, rp', as', m', q', w1, w2, _⟩ := id wa7
        refine ⟨_, rfl, wx, dw, _, rfl, .inr ⟨w1, w2⟩, wx, _, rfl, wa7, fun d3 G8 s8' h8 => ?_⟩
        refine ⟨dL _, dL _, dp_L (s8' _ _ h7), dp_L h8, dL_shaped wb.tx, dL_shaped wb.tx, _, rfl, ?_⟩
        rw [dL_eqv]
        refine iteFd (by simp) (fin G8 (e7.trans (ExtN.of s8')) ((((tG.ext s3).ext s5').ext (s6'.trans s7')).ext s8'))
      · refine iteFd (by simp [ce]) (fin G3 e3 (tG.ext s3))
end
end Wk

/-! H0: the head of the row, by facts: what the top leaves of the defs, the two classes with slots, the property, the table of shapes_of's code. -/
namespace Wk
open PySem PySem.Spec PyProof.Rows L2
/-- a getter: behind the property f of the class x -/
def gAd (K : PySem.W.Frag) (x f : Str) : Addr := match PySem.W.recIn K (He.ma K (He.ga K x) f) "property" with
  | some (.ref g :: _) => g
  | _ => 0
def fnWa (K : PySem.W.Frag) (a : Addr) : He.FnW := match K.lookup a with
  | some ⟨_, _, .func fd, _⟩ => some (fd.name, fd.qualname, fd.params, fd.body, fd.scope, fd.globals, fd.closure, fd.builtins)
  | _ => none
def okA (K : PySem.W.Frag) (a : Addr) (d : He.DefD) : Bool := PySem.W.keepIn K (.ref a) && (match K.lookup a with
  | some ⟨_, _, .func fd, _⟩ => PySem.W.codeIn K fd.code d.qual && (He.dflB K fd.defaults (d.dvs K) && He.kwdB K fd.kwdefaults (d.kws K))
  | _ => false)
theorem funA {K : PySem.W.Frag} {d : He.DefD} {a : Addr} (e : fnWa K a = d.val) (c : okA K a d = true) : ∃ fd, FunD K d.name d.qual d.params d.body d.scope (d.dvs K) (d.kws K) a fd := by
  obtain ⟨kp, c2⟩ := He.ba c
  unfold fnWa at e
  cases q : K.lookup a with
  | none =>
    rw [q] at c2
    cases c2
  | some o =>
    obtain ⟨oc, od, dt, osl⟩ := o
    rw [q] at c2 e
    cases dt with
    | func fd =>
      obtain ⟨n1, n2, n3, n4, n5, n6, n7, n8, n9, n10, n11, n12, n13, n14, n15⟩ := fd
      have e2 : (some (n1, n2, n3, n4, n5, n6, n7, n15) : He.FnW) = some (d.name, d.qual, d.params, .stmts d.body, d.scope, mainGlobals, [], builtinsNs) := e
      simp only [Option.some.injEq, Prod.mk.injEq] at e2
      obtain ⟨h1, h2, h3, h4, h5, h6, h7, h8⟩ := e2
      subst h1 h2 h3 h4 h5 h6 h7 h8
      have c3 : (PySem.W.codeIn K n13 d.qual && (He.dflB K n8 (d.dvs K) && He.kwdB K n9 (d.kws K))) = true := c2
      obtain ⟨k1, k2⟩ := He.ba c3
      obtain ⟨k3, k4⟩ := He.ba k2
      exact ⟨_, ⟨oc, od, n8, n9, n10, n11, n12, n13, n14, osl, rfl, q, k1, He.dflB_ok k3, He.kwdB_ok k4⟩, kp⟩
    | _ => cases c2
/-! ### classes with slots -/
def sclsB (K : PySem.W.Frag) (x : Str) : Bool := PySem.W.plainGet K (He.ga K x) Str.empty && (PySem.W.isClsIn K (He.ga K x) && (PySem.W.plainOver K (He.ga K x) && He.eqO (PySem.W.findIn K (.ref (He.ga K x)) "__setattr__") (some (some (.builtin "object.__setattr__")))))
theorem scls_ok {K : PySem.W.Frag} {x : Str} (c : sclsB K x = true) : SlX.SCls K (He.ga K x) := by
  obtain ⟨c1, c⟩ := He.ba c
  obtain ⟨c2, c⟩ := He.ba c
  obtain ⟨c3, c⟩ := He.ba c
  exact ⟨c1, c2, c3, He.eqO_ok c⟩
def slotB (K : PySem.W.Frag) (x f : Str) (i : Nat) : Bool := He.eqO (PySem.W.findIn K (.ref (He.ga K x)) f) (some (some (.ref (He.ma K (He.ga K x) f)))) && (He.eqO (PySem.W.specialIn K (.ref (He.ma K (He.ga K x) f)) "__get__") (some (some (.builtin "member_descriptor.__get__"))) &&
  (decide (PySem.W.takesIn K (.ref (He.ma K (He.ga K x) f)) = some true) && (decide (PySem.W.typeIn K (.ref (He.ma K (He.ga K x) f)) = some (.type "member_descriptor")) && (decide (PySem.W.slotIn K (He.ma K (He.ga K x) f) (He.ga K x) = some i) && decide (i < 1000)))))
theorem slot_ok {K : PySem.W.Frag} {x f : Str} {i : Nat} (c : slotB K x f i = true) : SlX.Slot1 K (He.ga K x) f (He.ma K (He.ga K x) f) i := by
  obtain ⟨c1, c⟩ := He.ba c
  obtain ⟨c2, c⟩ := He.ba c
  obtain ⟨c3, c⟩ := He.ba c
  obtain ⟨c4, c⟩ := He.ba c
  obtain ⟨c5, c⟩ := He.ba c
  exact ⟨He.eqO_ok c1, He.eqO_ok c2, of_decide_eq_true c3, of_decide_eq_true c4, of_decide_eq_true c5, of_decide_eq_true c⟩
def siB (K : PySem.W.Frag) (x : Str) : Bool := He.eqO (PySem.W.findIn K (.ref (He.ga K x)) "__class__") (some (some (.builtin "object.__class__"))) && (He.eqO (PySem.W.specialIn K (.builtin "object.__class__") "__get__") (some (some (.builtin "getset_descriptor.__get__"))) &&
  (decide (PySem.W.takesIn K (.builtin "object.__class__") = some true) && decide (PySem.W.mroIn K (He.ga K x) (.type "object") = some true)))
theorem si_ok {K : PySem.W.Frag} {x : Str} (c : siB K x = true) : SlX.SIsi K (He.ga K x) := by
  obtain ⟨c1, c⟩ := He.ba c
  obtain ⟨c2, c⟩ := He.ba c
  obtain ⟨c3, c⟩ := He.ba c
  exact ⟨He.eqO_ok c1, He.eqO_ok c2, of_decide_eq_true c3, of_decide_eq_true c⟩
def propB (K : PySem.W.Frag) (x f : Str) : Bool := He.eqO (PySem.W.findIn K (.ref (He.ga K x)) f) (some (some (.ref (He.ma K (He.ga K x) f)))) && (He.eqO (PySem.W.specialIn K (.ref (He.ma K (He.ga K x) f)) "__get__") (some (some (.builtin "property.__get__"))) &&
  (decide (PySem.W.takesIn K (.ref (He.ma K (He.ga K x) f)) = some true) && (match PySem.W.recIn K (He.ma K (He.ga K x) f) "property" with
    | some (.ref _ :: _) => true
    | _ => false)))
theorem prop_ok {K : PySem.W.Frag} {x f : Str} (c : propB K x f = true) : PropAt K (He.ga K x) f (He.ma K (He.ga K x) f) (gAd K x f) := by
  obtain ⟨c1, c⟩ := He.ba c
  obtain ⟨c2, c⟩ := He.ba c
  obtain ⟨c3, c⟩ := He.ba c
  refine ⟨He.eqO_ok c1, He.eqO_ok c2, of_decide_eq_true c3, ?_⟩
  unfold gAd
  split at c
  · rename_i g r e
    rw [e]
    exact ⟨r, rfl⟩
  · cases c
/-! ### all of it -/
def exB (K : PySem.W.Frag) : Bool := sclsB K "Rule" && (sclsB K "Web" && (siB K "Rule" && (propB K "Rule" "signs" && (okA K (gAd K "Rule" "signs") ddSigns &&
  (slotB K "Rule" "its_table" 1 && (slotB K "Rule" "its_rests" 0 &&
  (slotB K "Web" "its_rule" 3 && (slotB K "Web" "its_p" 0 && (slotB K "Web" "its_q" 2 && (slotB K "Web" "its_windows" 5 && (slotB K "Web" "its_parts" 1 && slotB K "Web" "its_steps" 4)))))))))))
def faL : List He.Fa := [.glo "is_integer", .glo "is_number", .glo "is_row", .glo "is_table", .glo "sign_after", .glo "row_after_beat", .glo "all_stands", .glo "row_after", .glo "good_windows", .glo "steps_by", .glo "nodes_behind", .glo "parts_by", .glo "common_divisor", .glo "period_by",
  .glo "ways_back", .glo "all_back", .glo "texts_on", .glo "all_texts", .glo "shapes_of", .glo "_law_bag", .glo "_law_take", .glo "_law_rule", .glo "_law_my_signs", .glo "_law_my_rule", .glo "_law_my_case", .glo "_law_mirrored", .glo "_law_webs_right", .glo "law", .glo "Rule", .glo "Web",
  .str "SIGNS" "0123", .int "MOST_RESTS" 2, .mkr "Rule", .mkr "Web", .meth "Rule" "inner_after", .meth "Rule" "mirrored", .meth "Rule" "__eq__", .meth "Web" "__len__", .meth "Web" "windows", .meth "Web" "nodes", .meth "Web" "steps", .meth "Web" "parts", .meth "Web" "periods",
  .free "isinstance", .free "int", .free "bool", .free "str", .free "all", .free "len", .free "range", .free "sorted", .free "list", .free "sum", .free "zip", .free "dict", .free "abs"]
def tfL : List He.Defn := [("shapes_of", none)]
abbrev AlY : Type := He.AlX × He.FnW
def obsY (g : Addr → Option Obj) : AlY := (He.obsX 5 faL fnL [] tfL exB g, fnWa (He.frT g (He.asD g 5)) (gAd (He.frT g (He.asD g 5)) "Rule" "signs"))
def valY (w : World) : AlY := (He.valX fnL [] w, ddSigns.val)
structure SaysY (w : World) (h : Heap) (K : PySem.W.Frag) : Prop where
  x : He.SaysX faL fnL [] tfL exB w h K
  g : fnWa K (gAd K "Rule" "signs") = ddSigns.val
def hookY : PySem.W.Hook where
  α := AlY
  obs := fun s => obsY s.heap.get?
  val := fun w => valY w
  says := fun w h => ∃ K : PySem.W.Frag, K.In h ∧ SaysY w h K
  of := fun w s e => ⟨_, He.frT_in, He.saysX_of (congrArg (fun z : AlY => z.1) e), congrArg (fun z : AlY => z.2) e⟩
  keeps := fun _ _ _ ⟨K, hK, c⟩ k => ⟨K, PySem.W.Frag.In.keeps hK k, ⟨⟨c.x.t, c.x.more, c.x.hd, c.x.out, fun p hp => k _ _ (c.x.empty p hp)⟩, c.g⟩⟩
abbrev Rw : PySem.W.OpenRow := PySem.W.OpenLaw.row PySem.Challenge.rw_standwaves_k36_whole_webs_mirrored
def obF (s : PySem.W.SharedT) : AlY := obsY (HandSHeadRun.getT s)
theorem obF_eq (s : PySem.W.SharedT) : obF s = hookY.obs s.abs := by
  have e : HandSHeadRun.getT s = s.abs.heap.get? := funext (HandSHeadRun.getT_eq s)
  unfold obF
  rw [e]
  rfl
def looseA : List Str := ["_wall", "__name__", "WaveError", "Wrong", "is_integer", "is_number", "is_row", "is_table", "SIGNS", "MOST_RESTS", "sign_after", "row_after_beat"]
def looseB : List Str := ["Rule", "all_stands", "row_after", "good_windows", "steps_by", "nodes_behind", "parts_by", "common_divisor", "period_by", "Web", "ways_back", "all_back"]
def looseC : List Str := ["texts_on", "all_texts", "shapes_of", "_law_bag", "_law_take", "_law_rule", "_law_my_signs", "_law_my_rule", "_law_my_case", "_law_mirrored", "_law_webs_right"]
def looseL : List Str := looseA ++ (looseB ++ looseC)
end Wk

/-! H1: the top's run, by the kernel. -/
namespace Wk
open PySem PySem.Spec PyProof.Rows L2
theorem run (w : World) : HandSHeadRun.RunEq Rw (PySem.W.view Rw.prog [43]) hookY obF 6000 looseL w := by
  intro os
  kernel_rfl
end Wk

/-! H2: the head's facts joined to the walks. Printed by gen_H2.py. -/
namespace Wk
open PySem PySem.Spec PyProof.Rows L2 LamX
abbrev Lw : PySem.W.OpenLaw := PySem.Challenge.rw_standwaves_k36_whole_webs_mirrored
theorem lawAt {w : World} {K : PySem.W.Frag} {h : Heap} {mg : Str → Option Value} {fa : Addr} (X : K.In h) (G : h.Ns mainGlobals mg) (hfa : mg "law" = some (.ref fa)) (c : SaysY w h K) : LawAtS Lw w K CX0 9 63 "_law_script" mg fa h := by
  have d : He.SaysD faL fnL K := c.x.t.d
  have g_is_integer : mg "is_integer" = some (.ref (He.ga K "is_integer")) := He.glo_ok X G (d.fact 0 (f := .glo "is_integer") rfl)
  have g_is_number : mg "is_number" = some (.ref (He.ga K "is_number")) := He.glo_ok X G (d.fact 1 (f := .glo "is_number") rfl)
  have g_is_row : mg "is_row" = some (.ref (He.ga K "is_row")) := He.glo_ok X G (d.fact 2 (f := .glo "is_row") rfl)
  have g_is_table : mg "is_table" = some (.ref (He.ga K "is_table")) := He.glo_ok X G (d.fact 3 (f := .glo "is_table") rfl)
  have g_sign_after : mg "sign_after" = some (.ref (He.ga K "sign_after")) := He.glo_ok X G (d.fact 4 (f := .glo "sign_after") rfl)
  have g_row_after_beat : mg "row_after_beat" = some (.ref (He.ga K "row_after_beat")) := He.glo_ok X G (d.fact 5 (f := .glo "row_after_beat") rfl)
  have g_all_stands : mg "all_stands" = some (.ref (He.ga K "all_stands")) := He.glo_ok X G (d.fact 6 (f := .glo "all_stands") rfl)
  have g_row_after : mg "row_after" = some (.ref (He.ga K "row_after")) := He.glo_ok X G (d.fact 7 (f := .glo "row_after") rfl)
  have g_good_windows : mg "good_windows" = some (.ref (He.ga K "good_windows")) := He.glo_ok X G (d.fact 8 (f := .glo "good_windows") rfl)
  have g_steps_by : mg "steps_by" = some (.ref (He.ga K "steps_by")) := He.glo_ok X G (d.fact 9 (f := .glo "steps_by") rfl)
  have g_nodes_behind : mg "nodes_behind" = some (.ref (He.ga K "nodes_behind")) := He.glo_ok X G (d.fact 10 (f := .glo "nodes_behind") rfl)
  have g_parts_by : mg "parts_by" = some (.ref (He.ga K "parts_by")) := He.glo_ok X G (d.fact 11 (f := .glo "parts_by") rfl)
  have g_common_divisor : mg "common_divisor" = some (.ref (He.ga K "common_divisor")) := He.glo_ok X G (d.fact 12 (f := .glo "common_divisor") rfl)
  have g_period_by : mg "period_by" = some (.ref (He.ga K "period_by")) := He.glo_ok X G (d.fact 13 (f := .glo "period_by") rfl)
  have g_ways_back : mg "ways_back" = some (.ref (He.ga K "ways_back")) := He.glo_ok X G (d.fact 14 (f := .glo "ways_back") rfl)
  have g_all_back : mg "all_back" = some (.ref (He.ga K "all_back")) := He.glo_ok X G (d.fact 15 (f := .glo "all_back") rfl)
  have g_texts_on : mg "texts_on" = some (.ref (He.ga K "texts_on")) := He.glo_ok X G (d.fact 16 (f := .glo "texts_on") rfl)
  have g_all_texts : mg "all_texts" = some (.ref (He.ga K "all_texts")) := He.glo_ok X G (d.fact 17 (f := .glo "all_texts") rfl)
  have g_shapes_of : mg "shapes_of" = some (.ref (He.ga K "shapes_of")) := He.glo_ok X G (d.fact 18 (f := .glo "shapes_of") rfl)
  have g__law_bag : mg "_law_bag" = some (.ref (He.ga K "_law_bag")) := He.glo_ok X G (d.fact 19 (f := .glo "_law_bag") rfl)
  have g__law_take : mg "_law_take" = some (.ref (He.ga K "_law_take")) := He.glo_ok X G (d.fact 20 (f := .glo "_law_take") rfl)
  have g__law_rule : mg "_law_rule" = some (.ref (He.ga K "_law_rule")) := He.glo_ok X G (d.fact 21 (f := .glo "_law_rule") rfl)
  have g__law_my_signs : mg "_law_my_signs" = some (.ref (He.ga K "_law_my_signs")) := He.glo_ok X G (d.fact 22 (f := .glo "_law_my_signs") rfl)
  have g__law_my_rule : mg "_law_my_rule" = some (.ref (He.ga K "_law_my_rule")) := He.glo_ok X G (d.fact 23 (f := .glo "_law_my_rule") rfl)
  have g__law_my_case : mg "_law_my_case" = some (.ref (He.ga K "_law_my_case")) := He.glo_ok X G (d.fact 24 (f := .glo "_law_my_case") rfl)
  have g__law_mirrored : mg "_law_mirrored" = some (.ref (He.ga K "_law_mirrored")) := He.glo_ok X G (d.fact 25 (f := .glo "_law_mirrored") rfl)
  have g__law_webs_right : mg "_law_webs_right" = some (.ref (He.ga K "_law_webs_right")) := He.glo_ok X G (d.fact 26 (f := .glo "_law_webs_right") rfl)
  have g_law : mg "law" = some (.ref (He.ga K "law")) := He.glo_ok X G (d.fact 27 (f := .glo "law") rfl)
  have g_Rule : mg "Rule" = some (.ref (He.ga K "Rule")) := He.glo_ok X G (d.fact 28 (f := .glo "Rule") rfl)
  have g_Web : mg "Web" = some (.ref (He.ga K "Web")) := He.glo_ok X G (d.fact 29 (f := .glo "Web") rfl)
  have efa := hfa.symm.trans g_law
  cases efa
  have f_isinstance : mg "isinstance" = none := He.free_ok X G (d.fact 43 (f := .free "isinstance") rfl)
  have f_int : mg "int" = none := He.free_ok X G (d.fact 44 (f := .free "int") rfl)
  have f_bool : mg "bool" = none := He.free_ok X G (d.fact 45 (f := .free "bool") rfl)
  have f_str : mg "str" = none := He.free_ok X G (d.fact 46 (f := .free "str") rfl)
  have f_all : mg "all" = none := He.free_ok X G (d.fact 47 (f := .free "all") rfl)
  have f_len : mg "len" = none := He.free_ok X G (d.fact 48 (f := .free "len") rfl)
  have f_range : mg "range" = none := He.free_ok X G (d.fact 49 (f := .free "range") rfl)
  have f_sorted : mg "sorted" = none := He.free_ok X G (d.fact 50 (f := .free "sorted") rfl)
  have f_list : mg "list" = none := He.free_ok X G (d.fact 51 (f := .free "list") rfl)
  have f_sum : mg "sum" = none := He.free_ok X G (d.fact 52 (f := .free "sum") rfl)
  have f_zip : mg "zip" = none := He.free_ok X G (d.fact 53 (f := .free "zip") rfl)
  have f_dict : mg "dict" = none := He.free_ok X G (d.fact 54 (f := .free "dict") rfl)
  have f_abs : mg "abs" = none := He.free_ok X G (d.fact 55 (f := .free "abs") rfl)
  obtain ⟨tS, k_SIGNS⟩ := He.str_ok X G (d.fact 30 (f := .str "SIGNS" "0123") rfl)
  obtain ⟨tM, k_MOST⟩ := He.int_ok X G (d.fact 31 (f := .int "MOST_RESTS" 2) rfl)
  have m_Rule := He.mkr_ok (d.fact 32 (f := .mkr "Rule") rfl)
  have m_Web := He.mkr_ok (d.fact 33 (f := .mkr "Web") rfl)
  have me_Rule_inner_after := He.meth_ok (d.fact 34 (f := .meth "Rule" "inner_after") rfl)
  have me_Rule_mirrored := He.meth_ok (d.fact 35 (f := .meth "Rule" "mirrored") rfl)
  have me_Rule___eq__ := He.meth_ok (d.fact 36 (f := .meth "Rule" "__eq__") rfl)
  have me_Web___len__ := He.meth_ok (d.fact 37 (f := .meth "Web" "__len__") rfl)
  have me_Web_windows := He.meth_ok (d.fact 38 (f := .meth "Web" "windows") rfl)
  have me_Web_nodes := He.meth_ok (d.fact 39 (f := .meth "Web" "nodes") rfl)
  have me_Web_steps := He.meth_ok (d.fact 40 (f := .meth "Web" "steps") rfl)
  have me_Web_parts := He.meth_ok (d.fact 41 (f := .meth "Web" "parts") rfl)
  have me_Web_periods := He.meth_ok (d.fact 42 (f := .meth "Web" "periods") rfl)
  obtain ⟨fd0, F0⟩ := d.def_ 0 (d := dd0) rfl
  obtain ⟨fd1, F1⟩ := d.def_ 1 (d := dd1) rfl
  obtain ⟨fd2, F2⟩ := d.def_ 2 (d := dd2) rfl
  obtain ⟨fd3, F3⟩ := d.def_ 3 (d := dd3) rfl
  obtain ⟨fd4, F4⟩ := d.def_ 4 (d := dd4) rfl
  obtain ⟨fd5, F5⟩ := d.def_ 5 (d := dd5) rfl
  obtain ⟨fd6, F6⟩ := d.def_ 6 (d := dd6) rfl
  obtain ⟨fd7, F7⟩ := d.def_ 7 (d := dd7) rfl
  obtain ⟨fd8, F8⟩ := d.def_ 8 (d := dd8) rfl
  obtain ⟨fd9, F9⟩ := d.def_ 9 (d := dd9) rfl
  obtain ⟨fd10, F10⟩ := d.def_ 10 (d := dd10) rfl
  obtain ⟨fd11, F11⟩ := d.def_ 11 (d := dd11) rfl
  obtain ⟨fd12, F12⟩ := d.def_ 12 (d := dd12) rfl
  obtain ⟨fd13, F13⟩ := d.def_ 13 (d := dd13) rfl
  obtain ⟨fd14, F14⟩ := d.def_ 14 (d := dd14) rfl
  obtain ⟨fd15, F15⟩ := d.def_ 15 (d := dd15) rfl
  obtain ⟨fd16, F16⟩ := d.def_ 16 (d := dd16) rfl
  obtain ⟨fd17, F17⟩ := d.def_ 17 (d := dd17) rfl
  obtain ⟨fd18, F18⟩ := d.def_ 18 (d := dd18) rfl
  obtain ⟨fd19, F19⟩ := d.def_ 19 (d := dd19) rfl
  obtain ⟨fd20, F20⟩ := d.def_ 20 (d := dd20) rfl
  obtain ⟨fd21, F21⟩ := d.def_ 21 (d := dd21) rfl
  obtain ⟨fd22, F22⟩ := d.def_ 22 (d := dd22) rfl
  obtain ⟨fd23, F23⟩ := d.def_ 23 (d := dd23) rfl
  obtain ⟨fd24, F24⟩ := d.def_ 24 (d := dd24) rfl
  obtain ⟨fd25, F25⟩ := d.def_ 25 (d := dd25) rfl
  obtain ⟨fd26, F26⟩ := d.def_ 26 (d := dd26) rfl
  obtain ⟨fd27, F27⟩ := d.def_ 27 (d := dd27) rfl
  obtain ⟨fd28, F28⟩ := d.def_ 28 (d := dd28) rfl
  obtain ⟨fd29, F29⟩ := d.def_ 29 (d := dd29) rfl
  obtain ⟨fd30, F30⟩ := d.def_ 30 (d := dd30) rfl
  obtain ⟨fd31, F31⟩ := d.def_ 31 (d := dd31) rfl
  obtain ⟨fd32, F32⟩ := d.def_ 32 (d := dd32) rfl
  obtain ⟨fd33, F33⟩ := d.def_ 33 (d := dd33) rfl
  obtain ⟨fd34, F34⟩ := d.def_ 34 (d := dd34) rfl
  obtain ⟨fd35, F35⟩ := d.def_ 35 (d := dd35) rfl
  obtain ⟨fd36, F36⟩ := d.def_ 36 (d := dd36) rfl
  obtain ⟨fd37, F37⟩ := d.def_ 37 (d := dd37) rfl
  obtain ⟨fd38, F38⟩ := d.def_ 38 (d := dd38) rfl
  have ex : exB K = true := c.x.more
  obtain ⟨x1, ex⟩ := He.ba ex
  obtain ⟨x2, ex⟩ := He.ba ex
  obtain ⟨x3, ex⟩ := He.ba ex
  obtain ⟨x4, ex⟩ := He.ba ex
  obtain ⟨x5, ex⟩ := He.ba ex
  obtain ⟨y1, ex⟩ := He.ba ex
  obtain ⟨y2, ex⟩ := He.ba ex
  obtain ⟨y3, ex⟩ := He.ba ex
  obtain ⟨y4, ex⟩ := He.ba ex
  obtain ⟨y5, ex⟩ := He.ba ex
  obtain ⟨y6, ex⟩ := He.ba ex
  obtain ⟨y7, y8⟩ := He.ba ex
  have RC : RuleC K (He.ga K "Rule") := ⟨scls_ok x1, si_ok x3, ⟨_, slot_ok y1⟩, ⟨_, slot_ok y2⟩⟩
  have WC : WebC K (He.ga K "Web") := ⟨scls_ok x2, ⟨_, slot_ok y4⟩, ⟨_, slot_ok y7⟩, ⟨_, slot_ok y5⟩, ⟨_, slot_ok y3⟩, ⟨_, slot_ok y8⟩, ⟨_, slot_ok y6⟩⟩
  obtain ⟨fdS, FS⟩ := funA (d := ddSigns) c.g x5
  have hcode : fd18.code = .ref (He.cT K ("shapes_of", none)).1 := by
    obtain ⟨oc, od, dV, kV, doc, pm, an, cdv, ct, osl, rfl, lk, hcd, _, _⟩ := F18.ex
    obtain ⟨c0, rfl⟩ := He.codeIn_ref hcd
    have e := He.codeOf_eq (p := ("shapes_of", none)) lk (c := c0) rfl
    show Value.ref c0 = .ref (He.codeOf K ("shapes_of", none))
    rw [e]
  refine ⟨fd27, [He.cT K ("shapes_of", none)], spLaw K [((He.cT K ("shapes_of", none)).2, q18)], fun p hp => ?_, fun p hp => ?_, fun p hp => ?_, fun s u => ?_, fun H a ns hl _ ht hS => ?_, fun base KX GX TB => ?_⟩
  · rw [List.mem_singleton.mp hp]
    exact c.x.empty _ List.mem_cons_self
  · rw [List.mem_singleton.mp hp]
    exact c.x.out _ List.mem_cons_self
  · rw [List.mem_singleton.mp hp]
    exact PySem.W.codeHd_of_K X (c.x.hd _ List.mem_cons_self)
  · exact FunD.bindsA (ps := ["_law_script"]) F27 (fun _ _ _ _ _ _ us hl => match us, hl with | [_], _ => rfl) s [u] rfl
  · refine ⟨a, ns, rfl, hS, by omega, fun p hp => ?_, fun _ => rfl⟩
    rw [List.mem_singleton.mp hp]
    exact TabS.nil (ht _ List.mem_cons_self)
  · have tb := TB _ List.mem_cons_self
    have c0 := c_is_integer (P := Lw.prog) (w := w) (base := base) F0 g_is_integer f_isinstance f_int f_bool
    have c1 := c_is_number F1 g_is_number c0
    have c2 := c_is_row (P := Lw.prog) (w := w) (base := base) F2 g_is_row f_isinstance f_str f_all
    have c3 := c_is_table F3 g_is_table c2 f_len
    have c4 := c_sign_after (P := Lw.prog) (w := w) (base := base) F4 g_sign_after f_int k_SIGNS
    have c5 := c_row_after_beat F5 g_row_after_beat c4 f_len f_range
    have cRi := c_rinit F28 m_Rule g_Rule RC c3 c0 k_MOST
    have G := SgAt.mk ⟨_, _, prop_ok x4, c_signs (P := Lw.prog) (w := w) (base := base) (mg := mg) FS RC k_SIGNS⟩
    have cIn := c_inner F29 me_Rule_inner_after RC G c5
    have cMi := c_mirrored F30 me_Rule_mirrored RC cRi
    have cEq := c_req (P := Lw.prog) (w := w) (base := base) F31 g_Rule RC f_isinstance
    have c6 := c_all_stands (P := Lw.prog) (w := w) (base := base) F6 g_all_stands f_range
    have c7 := c_row_after F7 g_row_after f_range RC cIn
    have c8 := c_good_windows F8 g_good_windows RC G c6 c7
    have c9 := c_steps_by (P := Lw.prog) (w := w) (base := base) F9 g_steps_by
    have c10 := c_nodes_behind (P := Lw.prog) (w := w) (base := base) F10 g_nodes_behind f_list
    have c11 := c_parts_by F11 g_parts_by f_sorted c10
    have c12 := c_common_divisor (P := Lw.prog) (w := w) (base := base) F12 g_common_divisor
    have c13 := c_period_by F13 g_period_by f_abs c12
    have cWi := c_winit F32 m_Web g_Web g_Rule f_isinstance RC WC c0 c1 c8 c9 c11
    have cLe := c_wlen (P := Lw.prog) (w := w) (base := base) (mg := mg) F33 WC f_len
    have cWw := c_wwin (P := Lw.prog) (w := w) (base := base) (mg := mg) F34 me_Web_windows WC f_list
    have cWn := c_wnodes (P := Lw.prog) (w := w) (base := base) (mg := mg) F35 me_Web_nodes WC f_sorted
    have cWs := c_wsteps (P := Lw.prog) (w := w) (base := base) (mg := mg) F36 me_Web_steps WC f_sorted f_list
    have cWp := c_wparts (P := Lw.prog) (w := w) (base := base) (mg := mg) F37 me_Web_parts WC f_list
    have cWe := c_wpers F38 me_Web_periods WC c13
    have c14 := c_ways_back (P := Lw.prog) (w := w) (base := base) F14 g_ways_back f_range f_sum
    have c15 := c_all_back F15 g_all_back c14
    have c16 := c_texts_on (P := Lw.prog) (w := w) (base := base) F16 g_texts_on
    have c17 := c_all_texts F17 g_all_texts f_range f_sorted c15 c16
    have c18 := c_shapes_of F18 hcode tb g_shapes_of f_list WC cWi cWs c17
    have c19 := c_law_bag (P := Lw.prog) (w := w) (base := base) F19 g__law_bag f_abs
    have c20 := c_law_take (P := Lw.prog) (w := w) (base := base) F20 g__law_take f_len f_int
    have c21 := c_law_rule F21 g__law_rule f_range c20
    have c22 := c_my_signs (P := Lw.prog) (w := w) (base := base) F22 g__law_my_signs
    have c23 := c_my_rule F23 g__law_my_rule cRi
    have c24 := c_my_case F24 g__law_my_case c21 c20
    have c25 := c_mirr (P := Lw.prog) (w := w) (base := base) F25 g__law_mirrored f_sorted
    have c26 := c_right F26 g__law_webs_right f_sorted f_dict f_zip f_len f_sum WC ⟨cWw, cWn, cWs, cWp, cWe⟩ c25 me_Web___len__ cLe
    exact c_law F27 f_range f_len RC WC c19 c24 c23 cWi cMi c26 c22 c25 c18 me_Rule___eq__ cEq cWw
end Wk

/-! H3: the law. -/
open PySem PySem.W PySem.Calls PyProof.Rows
theorem PySem.Challenge.cw_standwaves_k36_whole_webs_mirrored_holds : PySem.Challenge.rw_standwaves_k36_whole_webs_mirrored.Holds := by
  w_on; o_law
  refine HandSHeadRun.head_any (r := OpenLaw.row PySem.Challenge.rw_standwaves_k36_whole_webs_mirrored) (q := view (OpenLaw.row PySem.Challenge.rw_standwaves_k36_whole_webs_mirrored).prog [43]) (H := Wk.hookY) (ob := Wk.obF) (M := 6000) (loose := Wk.looseL) (d := HandSHeadRun.topDef (OpenLaw.row PySem.Challenge.rw_standwaves_k36_whole_webs_mirrored).prog 43) (kwd := []) Wk.obF_eq
    (by kernel_rfl) (fun s => by kernel_rfl) Wk.run (by kernel_rfl) (by kernel_rfl) (by kernel_rfl) (by rfl) (by first | assumption | decide +kernel) (by decide +kernel) ⟨rfl, rfl, rfl, rfl, rfl, by decide +kernel⟩ ?hw ?hc
  case hw => w_witness2
  case hc =>
    refine LamX.walk_ofTsE (l := PySem.Challenge.rw_standwaves_k36_whole_webs_mirrored) (n := 63) (k := 9) (x := "_law_script") (CX := fun _ => L2.CX0) rfl (by decide) (by kernel_rfl) ⟨rfl, by decide, by decide⟩ ?F (fun _ _ _ _ _ z => z)
    intro w mg fa h Y G hmg0
    obtain ⟨K, KX, c⟩ := Y
    have hmg : mg ("law" : PySem.Str) = some (.ref fa) := by
      have e : (HandSHeadRun.topDef (OpenLaw.row PySem.Challenge.rw_standwaves_k36_whole_webs_mirrored).prog 43).name = ("law" : PySem.Str) := by kernel_rfl
      rw [← e]
      exact hmg0
    exact ⟨K, KX, Wk.lawAt KX G hmg c⟩
