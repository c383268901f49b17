import PyProof.Rows.All
import KE.SortData
import PyProof.EqLayable
import PyProof.ReprReads
import Wide.All
import OpenK.AllK
import Wide.FinOn
import HandS.ForMost
import HandS.SortKw
import HandS.Set
import HandS.SetFor
import KE.SortKeyHeap
import HandS.Star
import HandS.Property
import HandS.IsInst
import HandS.Zip
import HandS.More
import HandS.Deep
import HandS.Text
import HandS.TupAny
import HandS.Conv
import HandS.Dict
import HandS.Flow
import PySem.Challenge.RW_thesesothose_k05_whole_the_list_above_a
set_option Elab.async false
set_option linter.all false
set_option maxRecDepth 100000
set_option maxHeartbeats 16000000
/-! K5a: the plain law. Lots as lists of texts. -/
namespace K5
open PySem

abbrev Lot := List Str
abbrev Row := Lot × Lot
/-- within -/
def wi (a b : Lot) : Bool := a.all fun m => decide (m ∈ b)
/-- common -/
def cm (a b : Lot) : Lot := a.filter fun m => decide (m ∈ b)
/-- without -/
def wo (a b : Lot) : Lot := a.filter fun m => decide (m ∉ b)
/-- strictly ascending -/
def SS (l : Lot) : Prop := l.Pairwise fun x y => x.cps.toList < y.cps.toList
/-- a lot of marks -/
def Of (marks l : Lot) : Prop := SS l ∧ ∀ m ∈ l, m ∈ marks

theorem wi_iff {a b : Lot} : wi a b = true ↔ ∀ m ∈ a, m ∈ b := by simp [wi]
theorem wi_refl (a : Lot) : wi a a = true := wi_iff.mpr fun _ h => h
theorem wi_trans {a b c : Lot} (h : wi a b = true) (k : wi b c = true) : wi a c = true := wi_iff.mpr fun m hm => wi_iff.mp k m (wi_iff.mp h m hm)
theorem mem_cm {a b : Lot} {m : Str} : m ∈ cm a b ↔ m ∈ a ∧ m ∈ b := by simp [cm]
theorem mem_wo {a b : Lot} {m : Str} : m ∈ wo a b ↔ m ∈ a ∧ m ∉ b := by simp [wo]
theorem str_lt_irrefl (x : Str) : ¬ x.cps.toList < x.cps.toList := List.lt_irrefl _
theorem str_lt_trans {x y z : Str} (h : x.cps.toList < y.cps.toList) (k : y.cps.toList < z.cps.toList) : x.cps.toList < z.cps.toList := List.lt_trans h k
theorem str_ext {x y : Str} (h : x.cps.toList = y.cps.toList) : x = y := by
  cases x; cases y
  simp only [Str.mk.injEq]
  exact Array.toList_inj.mp h
theorem SS.nodup {l : Lot} (h : SS l) : l.Nodup := List.Pairwise.imp (fun {a b} h e => by subst e; exact str_lt_irrefl _ h) h
theorem SS.filter {l : Lot} (h : SS l) (p : Str → Bool) : SS (l.filter p) := List.Pairwise.filter p h
theorem ss_nil : SS [] := List.Pairwise.nil
theorem SS.tail {m : Str} {l : Lot} (h : SS (m :: l)) : SS l := (List.pairwise_cons.mp h).2
theorem SS.head {m : Str} {l : Lot} (h : SS (m :: l)) : ∀ x ∈ l, m.cps.toList < x.cps.toList := (List.pairwise_cons.mp h).1
theorem ss_cons {m : Str} {l : Lot} (h : ∀ x ∈ l, m.cps.toList < x.cps.toList) (k : SS l) : SS (m :: l) := List.pairwise_cons.mpr ⟨h, k⟩
/-- one list for each set -/
theorem ss_ext : ∀ {a b : Lot}, SS a → SS b → (∀ m, m ∈ a ↔ m ∈ b) → a = b
  | [], [], _, _, _ => rfl
  | [], y :: b, _, _, h => absurd ((h y).mpr List.mem_cons_self) (by simp)
  | x :: a, [], _, _, h => absurd ((h x).mp List.mem_cons_self) (by simp)
  | x :: a, y :: b, ha, hb, h => by
    have hxy : x = y := by
      rcases List.mem_cons.mp ((h x).mp List.mem_cons_self) with e | e
      · exact e
      · rcases List.mem_cons.mp ((h y).mpr List.mem_cons_self) with f | f
        · exact f.symm
        · exact absurd (str_lt_trans (ha.head y f) (hb.head x e)) (str_lt_irrefl _)
    subst hxy
    have t : a = b := ss_ext ha.tail hb.tail fun m => by
      constructor
      · intro hm
        rcases List.mem_cons.mp ((h m).mp (List.mem_cons_of_mem _ hm)) with e | e
        · subst e; exact absurd (ha.head m hm) (str_lt_irrefl _)
        · exact e
      · intro hm
        rcases List.mem_cons.mp ((h m).mpr (List.mem_cons_of_mem _ hm)) with e | e
        · subst e; exact absurd (hb.head m hm) (str_lt_irrefl _)
        · exact e
    rw [t]
theorem Of.refl {marks : Lot} (h : SS marks) : Of marks marks := ⟨h, fun _ k => k⟩
theorem Of.nil {marks : Lot} : Of marks [] := ⟨ss_nil, fun _ k => by cases k⟩
theorem Of.filter {marks l : Lot} (h : Of marks l) (p : Str → Bool) : Of marks (l.filter p) := ⟨h.1.filter p, fun m k => h.2 m (List.mem_filter.mp k).1⟩
theorem Of.wo {marks a b : Lot} (h : Of marks a) : Of marks (wo a b) := h.filter _
theorem Of.eq_filter {marks l : Lot} (hm : SS marks) (h : Of marks l) : l = marks.filter fun m => decide (m ∈ l) :=
  ss_ext h.1 (hm.filter _) fun m => by
    simp only [List.mem_filter, decide_eq_true_eq]
    exact ⟨fun k => ⟨h.2 m k, k⟩, fun k => k.2⟩
theorem Of.len {marks l : Lot} (hm : SS marks) (h : Of marks l) : l.length ≤ marks.length := by
  rw [h.eq_filter hm]
  exact List.length_filter_le _ _
theorem Of.sub {marks l l' : Lot} (h : Of l l') (k : Of marks l) : Of marks l' := ⟨h.1, fun m hm => k.2 m (h.2 m hm)⟩
/-- strictly within: fewer marks -/
theorem len_lt {a b : Lot} (ha : SS a) (hb : SS b) (h : wi a b = true) (n : a ≠ b) : a.length < b.length := by
  have o : Of b a := ⟨ha, wi_iff.mp h⟩
  have e := o.eq_filter hb
  have l := o.len hb
  rcases Nat.lt_or_ge a.length b.length with c | c
  · exact c
  · have q : (b.filter fun m => decide (m ∈ a)).length = b.length := by rw [← e]; omega
    have q2 := List.filter_eq_self.mpr (List.length_filter_eq_length_iff.mp q)
    exact absurd (e.trans q2) n
theorem wi_antisymm {a b : Lot} (ha : SS a) (hb : SS b) (h : wi a b = true) (k : wi b a = true) : a = b :=
  ss_ext ha hb fun m => ⟨wi_iff.mp h m, wi_iff.mp k m⟩

/-! ### lot_of, joined -/
def sle (x y : Str) : Bool := decide (x.cps.toList ≤ y.cps.toList)
theorem sle_trans (a b c : Str) (h : sle a b = true) (k : sle b c = true) : sle a c = true := by
  simp only [sle, decide_eq_true_eq] at *
  exact List.le_trans h k
theorem sle_total (a b : Str) : (sle a b || sle b a) = true := by
  simp only [sle, Bool.or_eq_true, decide_eq_true_eq]
  exact List.le_total _ _
theorem lt_of_le_ne {x y : Str} (h : x.cps.toList ≤ y.cps.toList) (n : x ≠ y) : x.cps.toList < y.cps.toList := by
  rcases Classical.em (x.cps.toList < y.cps.toList) with c | c
  · exact c
  · exact absurd (str_ext (List.le_antisymm h (List.not_lt.mp c))) n
theorem ss_of_sorted : ∀ {l : Lot}, l.Pairwise (fun a b => sle a b = true) → l.Nodup → SS l
  | [], _, _ => ss_nil
  | x :: l, h, d => by
    obtain ⟨h1, h2⟩ := List.pairwise_cons.mp h
    obtain ⟨d1, d2⟩ := List.nodup_cons.mp d
    refine ss_cons (fun y hy => lt_of_le_ne (by simpa [sle] using h1 y hy) fun e => d1 (e ▸ hy)) (ss_of_sorted h2 d2)
/-- sorted(l) -/
def srt (l : Lot) : Lot := l.mergeSort sle
theorem srt_perm (l : Lot) : (srt l).Perm l := List.mergeSort_perm l sle
theorem srt_mem {l : Lot} {m : Str} : m ∈ srt l ↔ m ∈ l := (srt_perm l).mem_iff
theorem srt_ss {l : Lot} (d : l.Nodup) : SS (srt l) :=
  ss_of_sorted (List.pairwise_mergeSort sle_trans sle_total l) ((srt_perm l).nodup_iff.mpr d)
theorem srt_len (l : Lot) : (srt l).length = l.length := (srt_perm l).length_eq
/-- lot_of(l) -/
def lotOf (l : Lot) : Lot := srt l.eraseDups
theorem nodup_eraseDups : ∀ (n : Nat) (l : Lot), l.length ≤ n → l.eraseDups.Nodup
  | 0, [], _ => by simp
  | n + 1, [], _ => by simp
  | n + 1, x :: l, h => by
    rw [List.eraseDups_cons]
    have hl : (l.filter fun b => !b == x).length ≤ n := Nat.le_trans (List.length_filter_le _ _) (Nat.le_of_succ_le_succ h)
    refine List.nodup_cons.mpr ⟨fun m => ?_, nodup_eraseDups n _ hl⟩
    have m2 := List.mem_eraseDups.mp m
    simp at m2
theorem lotOf_mem {l : Lot} {m : Str} : m ∈ lotOf l ↔ m ∈ l := by
  unfold lotOf
  rw [srt_mem, List.mem_eraseDups]
theorem lotOf_ss (l : Lot) : SS (lotOf l) := srt_ss (nodup_eraseDups _ l (Nat.le_refl _))
theorem lotOf_of {l a : Lot} (h : SS a) (k : ∀ m, m ∈ a ↔ m ∈ l) : a = lotOf l := ss_ext h (lotOf_ss l) fun m => (k m).trans lotOf_mem.symm
/-- joined -/
def jn (a b : Lot) : Lot := lotOf (a ++ b)
theorem jn_mem {a b : Lot} {m : Str} : m ∈ jn a b ↔ m ∈ a ∨ m ∈ b := by
  unfold jn
  rw [lotOf_mem, List.mem_append]
theorem jn_of {marks a b : Lot} (ha : ∀ m ∈ a, m ∈ marks) (hb : ∀ m ∈ b, m ∈ marks) : Of marks (jn a b) :=
  ⟨lotOf_ss _, fun m h => (jn_mem.mp h).elim (ha m) (hb m)⟩
theorem srt_eq_of {l : Lot} {a : Lot} (d : l.Nodup) (h : SS a) (k : ∀ m, m ∈ a ↔ m ∈ l) : srt l = a := ss_ext (srt_ss d) h fun m => srt_mem.trans (k m).symm

/-! ### all lots, in order -/
def lotD (l : Lot) : PyData := .tuple (l.map .str)
def keyD (l : Lot) : PyData := .tuple [.int l.length, lotD l]
def leL : Lot → Lot → Bool := PySem.W.dataLe false keyD
def subs (marks : Lot) : List Lot := marks.foldl (fun f m => f ++ f.map fun l => l ++ [m]) [[]]
theorem subs_snoc (marks : Lot) (m : Str) : subs (marks ++ [m]) = subs marks ++ (subs marks).map fun l => l ++ [m] := by
  unfold subs
  rw [List.foldl_append]
  rfl
theorem subs_len (marks : Lot) : (subs marks).length = 2 ^ marks.length := by
  have go : ∀ (r : Lot), (subs r.reverse).length = 2 ^ r.length := by
    intro r
    induction r with
    | nil => rfl
    | cons m r ih =>
      rw [List.reverse_cons, subs_snoc, List.length_append, List.length_map, ih, List.length_cons, Nat.pow_succ]
      omega
  have q := go marks.reverse
  rw [List.reverse_reverse, List.length_reverse] at q
  exact q
theorem ss_snoc {l : Lot} {m : Str} : SS (l ++ [m]) ↔ SS l ∧ ∀ x ∈ l, x.cps.toList < m.cps.toList := by
  unfold SS
  rw [List.pairwise_append]
  constructor
  · rintro ⟨a, _, c⟩
    exact ⟨a, fun x hx => c x hx m (by simp)⟩
  · rintro ⟨a, c⟩
    refine ⟨a, by simp, fun x hx y hy => ?_⟩
    rw [List.mem_singleton.mp hy]
    exact c x hx
/-- what stands in subs -/
theorem subs_spec : ∀ r : Lot, SS r.reverse → (∀ l, l ∈ subs r.reverse ↔ Of r.reverse l) ∧ (subs r.reverse).Nodup
  | [], _ => by
    refine ⟨fun l => ?_, by simp [subs]⟩
    show l ∈ [[]] ↔ _
    rw [List.mem_singleton]
    constructor
    · rintro rfl; exact Of.nil
    · rintro ⟨_, h⟩
      cases l with
      | nil => rfl
      | cons x l => exact absurd (h x List.mem_cons_self) (by simp)
  | m :: r, h => by
    rw [List.reverse_cons] at h ⊢
    obtain ⟨h1, h2⟩ := ss_snoc.mp h
    obtain ⟨ih, nd⟩ := subs_spec r h1
    have hm : m ∉ r.reverse := fun k => str_lt_irrefl _ (h2 m k)
    rw [subs_snoc]
    refine ⟨fun l => ?_, ?_⟩
    · rw [List.mem_append, List.mem_map]
      constructor
      · rintro (k | ⟨l0, k, rfl⟩)
        · obtain ⟨a, b⟩ := (ih l).mp k
          exact ⟨a, fun x hx => List.mem_append_left _ (b x hx)⟩
        · obtain ⟨a, b⟩ := (ih l0).mp k
          refine ⟨ss_snoc.mpr ⟨a, fun x hx => h2 x (b x hx)⟩, fun x hx => ?_⟩
          rcases List.mem_append.mp hx with q | q
          · exact List.mem_append_left _ (b x q)
          · exact List.mem_append_right _ q
      · rintro ⟨a, b⟩
        by_cases hml : m ∈ l
        · right
          refine ⟨l.filter fun x => decide (x ≠ m), (ih _).mpr ⟨a.filter _, fun x hx => ?_⟩, ?_⟩
          · obtain ⟨k1, k2⟩ := List.mem_filter.mp hx
            rcases List.mem_append.mp (b x k1) with q | q
            · exact q
            · exact absurd (List.mem_singleton.mp q) (by simpa using k2)
          · refine ss_ext (ss_snoc.mpr ⟨a.filter _, fun x hx => ?_⟩) a fun x => ?_
            · obtain ⟨k1, k2⟩ := List.mem_filter.mp hx
              rcases List.mem_append.mp (b x k1) with q | q
              · exact h2 x q
              · exact absurd (List.mem_singleton.mp q) (by simpa using k2)
            · rw [List.mem_append, List.mem_filter, List.mem_singleton]
              constructor
              · rintro (⟨k, _⟩ | rfl)
                · exact k
                · exact hml
              · intro k
                by_cases e : x = m
                · exact .inr e
                · exact .inl ⟨k, by simpa using e⟩
        · left
          refine (ih l).mpr ⟨a, fun x hx => ?_⟩
          rcases List.mem_append.mp (b x hx) with q | q
          · exact q
          · rw [List.mem_singleton.mp q] at hx; exact absurd hx hml
    · rw [List.nodup_append]
      refine ⟨nd, ?_, ?_⟩
      · exact (List.pairwise_map.mpr (List.Pairwise.imp (fun {a b} hne e => hne (List.append_cancel_right e)) nd))
      · intro a ha b hb e
        subst e
        obtain ⟨l0, _, rfl⟩ := List.mem_map.mp hb
        exact hm (((ih _).mp ha).2 m (by simp))
theorem subs_mem {marks l : Lot} (h : SS marks) : l ∈ subs marks ↔ Of marks l := by
  have q := (subs_spec marks.reverse (by rw [List.reverse_reverse]; exact h)).1 l
  rw [List.reverse_reverse] at q
  exact q
theorem subs_nodup {marks : Lot} (h : SS marks) : (subs marks).Nodup := by
  have q := (subs_spec marks.reverse (by rw [List.reverse_reverse]; exact h)).2
  rw [List.reverse_reverse] at q
  exact q
theorem alike_lots (a b : Lot) : PySem.W.alike (lotD a) (lotD b) = true := by
  have go : ∀ a b : Lot, PySem.W.alikeAll (a.map .str) (b.map .str) = true := by
    intro a
    induction a with
    | nil => intro b; simp [PySem.W.alikeAll]
    | cons x a ih =>
      intro b
      cases b with
      | nil => simp [PySem.W.alikeAll]
      | cons y b =>
        show PySem.W.alikeAll (.str x :: a.map .str) (.str y :: b.map .str) = true
        rw [PySem.W.alikeAll, ih b]
        simp [PySem.W.alike]
  show PySem.W.alike (.tuple (a.map .str)) (.tuple (b.map .str)) = true
  simp only [PySem.W.alike]
  exact go a b
theorem alike_keys (a b : Lot) : PySem.W.alike (keyD a) (keyD b) = true := by
  show PySem.W.alike (.tuple [.int a.length, lotD a]) (.tuple [.int b.length, lotD b]) = true
  have h := alike_lots a b
  simp only [PySem.W.alike, PySem.W.alikeAll, h, Bool.and_true]
end K5
/-! K5b: the order of lots; theories; needy lots. -/
namespace K5
open PySem

theorem leL_total : PySem.W.TotalLe leL :=
  PySem.W.sortLe_total (PyProof.Rows.listOrd PyProof.Rows.itemOrd) false fun b => PySem.W.keyToks (keyD b)
theorem leL_len {a b : Lot} (h : leL a b = true) : a.length ≤ b.length := by
  have e : leL a b = !PySem.W.dataLt (keyD b) (keyD a) := rfl
  rw [e] at h
  have q := PySem.W.dataLt_pair (x := .int b.length) (y := lotD b) (x' := .int a.length) (y' := lotD a) (by simp [PySem.W.alike]) (alike_lots b a)
  have h2 : PySem.W.dataLt (keyD b) (keyD a) = false := by simpa using h
  unfold keyD at h2
  rw [q] at h2
  by_cases c : (b.length : Int) = (a.length : Int)
  · omega
  · have e1 : PyData.eqv (.int (b.length : Int)) (.int (a.length : Int)) = false := by simp [PyData.eqv]; omega
    rw [e1, if_neg Bool.false_ne_true, PySem.W.dataLt_int] at h2
    have := of_decide_eq_false h2
    omega
/-- all_lots(marks) -/
def allLots (marks : Lot) : List Lot := (subs marks).mergeSort leL
theorem all_perm (marks : Lot) : (allLots marks).Perm (subs marks) := List.mergeSort_perm _ _
theorem all_mem {marks l : Lot} (h : SS marks) : l ∈ allLots marks ↔ Of marks l := (all_perm marks).mem_iff.trans (subs_mem h)
theorem all_nodup {marks : Lot} (h : SS marks) : (allLots marks).Nodup := (all_perm marks).nodup_iff.mpr (subs_nodup h)
theorem all_len (marks : Lot) : (allLots marks).length = 2 ^ marks.length := (all_perm marks).length_eq.trans (subs_len marks)
theorem all_up (marks : Lot) : (allLots marks).Pairwise fun a b => a.length ≤ b.length :=
  List.Pairwise.imp (fun h => leL_len h) (PySem.W.sort_pairwise leL_total (subs marks))

/-! ### rows -/
/-- a lot keeps a row -/
def keeps (l : Lot) (r : Row) : Bool := !(wi r.1 l && !wi r.2 l)
theorem keeps_iff {l : Lot} {r : Row} : keeps l r = true ↔ (wi r.1 l = true → wi r.2 l = true) := by
  unfold keeps
  cases wi r.1 l <;> cases wi r.2 l <;> simp
def shut (rows : List Row) (l : Lot) : Bool := rows.all (keeps l)
theorem shut_iff {rows : List Row} {l : Lot} : shut rows l = true ↔ ∀ r ∈ rows, wi r.1 l = true → wi r.2 l = true := by
  unfold shut
  rw [List.all_eq_true]
  exact ⟨fun h r hr => keeps_iff.mp (h r hr), fun h r hr => keeps_iff.mpr (h r hr)⟩
theorem shut_append {a b : List Row} {l : Lot} : shut (a ++ b) l = (shut a l && shut b l) := by
  unfold shut
  rw [List.all_append]
/-- rows of marks -/
def RowOf (marks : Lot) (r : Row) : Prop := Of marks r.1 ∧ Of marks r.2
def RowsOf (marks : Lot) (rows : List Row) : Prop := ∀ r ∈ rows, RowOf marks r
/-- the least shut lot above -/
noncomputable def clR (marks : Lot) (rows : List Row) (l : Lot) : Lot :=
  have := Classical.propDecidable
  marks.filter fun m => decide (∀ c : Lot, (∀ x ∈ c, x ∈ marks) → shut rows c = true → (∀ x ∈ l, x ∈ c) → m ∈ c)
theorem clR_mem {marks : Lot} {rows : List Row} {l : Lot} {m : Str} : m ∈ clR marks rows l ↔ m ∈ marks ∧ ∀ c : Lot, (∀ x ∈ c, x ∈ marks) → shut rows c = true → (∀ x ∈ l, x ∈ c) → m ∈ c := by
  unfold clR
  simp only [List.mem_filter, decide_eq_true_eq]
/-- above l, below each shut lot above l -/
def Mid (marks : Lot) (rows : List Row) (l f : Lot) : Prop := (∀ m ∈ f, m ∈ marks) ∧ (∀ m ∈ l, m ∈ f) ∧ ∀ c : Lot, (∀ x ∈ c, x ∈ marks) → shut rows c = true → (∀ x ∈ l, x ∈ c) → ∀ m ∈ f, m ∈ c
theorem mid_self {marks : Lot} {rows : List Row} {l : Lot} (h : ∀ m ∈ l, m ∈ marks) : Mid marks rows l l := ⟨h, fun _ k => k, fun _ _ _ k => k⟩
theorem mid_mem {marks : Lot} {rows : List Row} {l f : Lot} (h : Mid marks rows l f) (s : shut rows f = true) : ∀ m, m ∈ f ↔ m ∈ clR marks rows l := fun m => by
  rw [clR_mem]
  exact ⟨fun k => ⟨h.1 m k, fun c a b d => h.2.2 c a b d m k⟩, fun k => k.2 f h.1 s h.2.1⟩
theorem mid_end {marks : Lot} {rows : List Row} {l f : Lot} (hm : SS marks) (h : Mid marks rows l f) (hf : SS f) (s : shut rows f = true) : f = clR marks rows l :=
  ss_ext hf (by unfold clR; exact SS.filter hm _) (mid_mem h s)
/-- a row that leads from within joins its marks -/
theorem mid_step {marks : Lot} {rows : List Row} {l f g : Lot} {r : Row} (hw : RowsOf marks rows) (h : Mid marks rows l f) (hr : r ∈ rows) (ha : wi r.1 f = true) (hg : ∀ m, m ∈ g → m ∈ f ∨ m ∈ r.2) (hg2 : ∀ m ∈ f, m ∈ g) : Mid marks rows l g :=
  ⟨fun m k => (hg m k).elim (h.1 m) ((hw r hr).2.2 m), fun m k => hg2 m (h.2.1 m k), fun c a b d m k => (hg m k).elim (h.2.2 c a b d m) fun q =>
    wi_iff.mp (shut_iff.mp b r hr (wi_iff.mpr fun x hx => h.2.2 c a b d x (wi_iff.mp ha x hx))) m q⟩

/-! ### the closing by a table -/
def clT (marks : Lot) (lots : List Lot) (l : Lot) : Lot := lots.foldl (fun f one => if wi l one = true then cm f one else f) marks
theorem clT_spec (l : Lot) : ∀ (lots : List Lot) (f : Lot), SS f → (∀ m ∈ l, m ∈ f) → (SS (clT f lots l) ∧ (∀ m ∈ clT f lots l, m ∈ f) ∧ ∀ m ∈ l, m ∈ clT f lots l)
  | [], f, h, k => ⟨h, fun _ q => q, k⟩
  | one :: lots, f, h, k => by
    show SS (clT (if wi l one = true then cm f one else f) lots l) ∧ _
    by_cases c : wi l one = true
    · rw [if_pos c]
      obtain ⟨a, b, d⟩ := clT_spec l lots (cm f one) (h.filter _) fun m hm => mem_cm.mpr ⟨k m hm, wi_iff.mp c m hm⟩
      show _ ∧ (∀ m ∈ clT (if wi l one = true then cm f one else f) lots l, m ∈ f) ∧ ∀ m ∈ l, m ∈ clT (if wi l one = true then cm f one else f) lots l
      rw [if_pos c]
      exact ⟨a, fun m q => (mem_cm.mp (b m q)).1, d⟩
    · rw [if_neg c]
      show _ ∧ (∀ m ∈ clT (if wi l one = true then cm f one else f) lots l, m ∈ f) ∧ ∀ m ∈ l, m ∈ clT (if wi l one = true then cm f one else f) lots l
      rw [if_neg c]
      exact clT_spec l lots f h k

/-! ### a theory: what its closing must do -/
structure Thy (marks : Lot) (T : Lot → Lot) : Prop where
  ss : SS marks
  of_ : ∀ l, Of marks l → Of marks (T l)
  up : ∀ l, Of marks l → ∀ m ∈ l, m ∈ T l
theorem thy_R {marks : Lot} (rows : List Row) (h : SS marks) : Thy marks (clR marks rows) :=
  ⟨h, fun l _ => ⟨by unfold clR; exact SS.filter h _, fun m k => (clR_mem.mp k).1⟩, fun l hl m k => clR_mem.mpr ⟨hl.2 m k, fun c _ _ d => d m k⟩⟩
theorem thy_T {marks : Lot} (lots : List Lot) (h : SS marks) : Thy marks (clT marks lots) :=
  ⟨h, fun l hl => let ⟨a, b, _⟩ := clT_spec l lots marks h hl.2; ⟨a, b⟩, fun l hl => (clT_spec l lots marks h hl.2).2.2⟩
theorem Thy.wi_self {marks : Lot} {T : Lot → Lot} (Y : Thy marks T) {l : Lot} (h : Of marks l) : wi l (T l) = true := wi_iff.mpr (Y.up l h)
theorem Thy.fix {marks : Lot} {T : Lot → Lot} (Y : Thy marks T) {l : Lot} (h : Of marks l) (k : wi (T l) l = true) : T l = l := wi_antisymm (Y.of_ l h).1 h.1 k (Y.wi_self h)
/-- within the closing, as within its rest -/
theorem wi_rest {T : Lot → Lot} {p l : Lot} (h : wi p l = true) : wi (wo (T p) p) l = wi (T p) l := by
  rw [Bool.eq_iff_iff, wi_iff, wi_iff]
  constructor
  · intro k m hm
    by_cases c : m ∈ p
    · exact wi_iff.mp h m c
    · exact k m (mem_wo.mpr ⟨hm, c⟩)
  · intro k m hm
    exact k m (mem_wo.mp hm).1

/-! ### needy lots -/
def fits (T : Lot → Lot) (found : List Lot) (l : Lot) : Bool := (found.filter fun q => wi q l).all fun q => wi (T q) l
theorem fits_iff {T : Lot → Lot} {found : List Lot} {l : Lot} : fits T found l = true ↔ ∀ q ∈ found, wi q l = true → wi (T q) l = true := by
  unfold fits
  rw [List.all_eq_true]
  constructor
  · intro h q hq k
    exact h q (List.mem_filter.mpr ⟨hq, k⟩)
  · intro h q hq
    obtain ⟨a, b⟩ := List.mem_filter.mp hq
    exact h q a b
def isNeedy (kc : Lot → Bool) (T : Lot → Lot) (found : List Lot) (l : Lot) : Bool := (kc l && decide (T l ≠ l)) && fits T found l
def needyStep (kc : Lot → Bool) (T : Lot → Lot) (found : List Lot) (l : Lot) : List Lot := if isNeedy kc T found l = true then found ++ [l] else found
def needyOf (kc : Lot → Bool) (T : Lot → Lot) (ls : List Lot) : List Lot := ls.foldl (needyStep kc T) []
theorem needy_snoc (kc : Lot → Bool) (T : Lot → Lot) (ls : List Lot) (l : Lot) : needyOf kc T (ls ++ [l]) = needyStep kc T (needyOf kc T ls) l := by
  unfold needyOf
  rw [List.foldl_append]
  rfl
theorem needy_sub (kc : Lot → Bool) (T : Lot → Lot) : ∀ r : List Lot, ∀ l ∈ needyOf kc T r.reverse, l ∈ r.reverse ∧ T l ≠ l
  | [], l, h => by cases h
  | x :: r, l, h => by
    rw [List.reverse_cons] at h ⊢
    rw [needy_snoc] at h
    unfold needyStep at h
    split at h
    · rename_i c
      rcases List.mem_append.mp h with k | k
      · obtain ⟨a, b⟩ := needy_sub kc T r l k
        exact ⟨List.mem_append_left _ a, b⟩
      · have e := List.mem_singleton.mp k
        subst e
        unfold isNeedy at c
        simp only [Bool.and_eq_true, decide_eq_true_eq] at c
        exact ⟨by simp, c.1.2⟩
    · obtain ⟨a, b⟩ := needy_sub kc T r l h
      exact ⟨List.mem_append_left _ a, b⟩
theorem needy_mem {kc : Lot → Bool} {T : Lot → Lot} {ls : List Lot} {l : Lot} (h : l ∈ needyOf kc T ls) : l ∈ ls ∧ T l ≠ l := by
  have q := needy_sub kc T ls.reverse l (by rw [List.reverse_reverse]; exact h)
  rw [List.reverse_reverse] at q
  exact q
theorem needy_more (kc : Lot → Bool) (T : Lot → Lot) (pre : List Lot) : ∀ post : List Lot, ∃ more, needyOf kc T (pre ++ post) = needyOf kc T pre ++ more ∧ ∀ l ∈ more, l ∈ post := by
  have go : ∀ (post : List Lot) (f : List Lot), ∃ more, post.foldl (needyStep kc T) f = f ++ more ∧ ∀ l ∈ more, l ∈ post := by
    intro post
    induction post with
    | nil => intro f; exact ⟨[], by simp, fun l h => by cases h⟩
    | cons x post ih =>
      intro f
      obtain ⟨more, e, hm⟩ := ih (needyStep kc T f x)
      rw [List.foldl_cons, e]
      unfold needyStep
      split
      · exact ⟨x :: more, by simp, fun l h => by
          rcases List.mem_cons.mp h with k | k
          · rw [k]; exact List.mem_cons_self
          · exact List.mem_cons_of_mem _ (hm l k)⟩
      · exact ⟨more, rfl, fun l h => List.mem_cons_of_mem _ (hm l h)⟩
  intro post
  unfold needyOf
  rw [List.foldl_append]
  exact go post _
theorem needy_nodup {kc : Lot → Bool} {T : Lot → Lot} : ∀ r : List Lot, r.reverse.Nodup → (needyOf kc T r.reverse).Nodup
  | [], _ => List.nodup_nil
  | x :: r, h => by
    rw [List.reverse_cons] at h ⊢
    have h2 := List.nodup_append.mp h
    have ih := needy_nodup (kc := kc) (T := T) r h2.1
    rw [needy_snoc]
    unfold needyStep
    split
    · rw [List.nodup_append]
      refine ⟨ih, by simp, fun a ha b hb e => ?_⟩
      exact h2.2.2 a (needy_mem ha).1 b hb e
    · exact ih

/-- THE HEART: told part of the least list above, the rest stays -/
theorem needy_rest {marks : Lot} {T : Lot → Lot} (Y : Thy marks T) {kc kc' : Lot → Bool} {p : Lot → Bool} {ls : List Lot} (hof : ∀ l ∈ ls, Of marks l) (nd : ls.Nodup) (up : ls.Pairwise fun a b => a.length ≤ b.length)
    (hk : ∀ l ∈ ls, kc' l = true ↔ (kc l = true ∧ ∀ q ∈ needyOf kc T ls, p q = true → wi q l = true → wi (T q) l = true)) :
    needyOf kc' T ls = (needyOf kc T ls).filter fun q => !p q := by
  have go : ∀ (r post : List Lot), ls = r.reverse ++ post → needyOf kc' T r.reverse = (needyOf kc T r.reverse).filter fun q => !p q := by
    intro r
    induction r with
    | nil => intro post _; rfl
    | cons l r ih =>
      intro post e
      have e2 : ls = r.reverse ++ (l :: post) := by rw [e, List.reverse_cons]; simp
      have ih := ih _ e2
      have hl : l ∈ ls := by rw [e2]; simp
      have ol := hof l hl
      rw [List.reverse_cons, needy_snoc, needy_snoc]
      generalize hF : needyOf kc T r.reverse = F at ih ⊢
      rw [ih]
      obtain ⟨more, em, hmore⟩ := needy_more kc T r.reverse (l :: post)
      rw [← e2, hF] at em
      have sub : ∀ q ∈ F, q ∈ needyOf kc T ls := fun q hq => by rw [em]; exact List.mem_append_left _ hq
      have hkl := hk l hl
      by_cases c : isNeedy kc T F l = true
      · have c' := c
        unfold isNeedy at c'
        simp only [Bool.and_eq_true, decide_eq_true_eq] at c'
        obtain ⟨⟨c1, c2⟩, c3⟩ := c'
        have c3 := fits_iff.mp c3
        have lF : l ∈ needyOf kc T ls := by
          have q := needy_more kc T (r.reverse ++ [l]) post
          obtain ⟨m2, e3, _⟩ := q
          have e4 : r.reverse ++ [l] ++ post = ls := by rw [e2]; simp
          rw [e4, needy_snoc, hF] at e3
          unfold needyStep at e3
          rw [if_pos c] at e3
          rw [e3]
          simp
        cases hp : p l with
        | true =>
          have no : kc' l = false := by
            cases q : kc' l with
            | false => rfl
            | true => exact absurd (Y.fix ol ((hkl.mp q).2 l lF hp (wi_refl l))) c2
          unfold needyStep
          rw [if_pos c, if_neg (by unfold isNeedy; rw [no]; simp), List.filter_append]
          simp [hp]
        | false =>
          have yes : kc' l = true := by
            refine hkl.mpr ⟨c1, fun q hq hpq hw => ?_⟩
            by_cases eq : q = l
            · subst eq; rw [hp] at hpq; cases hpq
            · have oq : q ∈ ls := (needy_mem hq).1
              have hlt := len_lt (hof q oq).1 ol.1 hw eq
              rw [em] at hq
              rcases List.mem_append.mp hq with k | k
              · exact c3 q k hw
              · rcases List.mem_cons.mp (hmore q k) with k2 | k2
                · exact absurd k2 eq
                · have up2 := up
                  rw [e2] at up2
                  have := (List.pairwise_cons.mp (List.pairwise_append.mp up2).2.1).1 q k2
                  omega
          unfold needyStep
          have ok : isNeedy kc' T (F.filter fun q => !p q) l = true := by
            unfold isNeedy
            simp only [Bool.and_eq_true, decide_eq_true_eq]
            exact ⟨⟨yes, c2⟩, fits_iff.mpr fun q hq => c3 q (List.mem_filter.mp hq).1⟩
          rw [if_pos c, if_pos ok, List.filter_append]
          simp [hp]
      · have no : ¬ isNeedy kc' T (F.filter fun q => !p q) l = true := by
          intro z
          unfold isNeedy at z
          simp only [Bool.and_eq_true, decide_eq_true_eq] at z
          obtain ⟨⟨z1, z2⟩, z3⟩ := z
          obtain ⟨k1, k2⟩ := hkl.mp z1
          refine c ?_
          unfold isNeedy
          simp only [Bool.and_eq_true, decide_eq_true_eq]
          refine ⟨⟨k1, z2⟩, fits_iff.mpr fun q hq hw => ?_⟩
          cases hp : p q with
          | true => exact k2 q (sub q hq) hp hw
          | false => exact fits_iff.mp z3 q (List.mem_filter.mpr ⟨hq, by simp [hp]⟩) hw
        unfold needyStep
        rw [if_neg c, if_neg no]
  have q := go ls.reverse [] (by simp)
  rw [List.reverse_reverse] at q
  exact q

/-! ### sides -/
def sideStep (T : Lot → Lot) (lot : Lot) (found : List Lot) (side : Lot) : List Lot := if (!wi (T side) lot && !found.any fun o => wi o side) = true then found ++ [side] else found
def sidesOf (T : Lot → Lot) (lot : Lot) : List Lot := (allLots lot).foldl (sideStep T lot) []
theorem sides_ne {T : Lot → Lot} {lot : Lot} (hs : SS lot) (h : wi (T lot) lot = false) : sidesOf T lot ≠ [] := by
  have keep : ∀ (ls f : List Lot), f ≠ [] → ls.foldl (sideStep T lot) f ≠ [] := by
    intro ls
    induction ls with
    | nil => intro f h; exact h
    | cons x ls ih =>
      intro f hf
      refine ih _ ?_
      unfold sideStep
      split
      · simp
      · exact hf
  have go : ∀ (ls f : List Lot), lot ∈ ls → ls.foldl (sideStep T lot) f ≠ [] := by
    intro ls
    induction ls with
    | nil => intro f h; cases h
    | cons x ls ih =>
      intro f hm
      rcases List.mem_cons.mp hm with e | e
      · rw [List.foldl_cons, ← e]
        refine keep ls _ ?_
        unfold sideStep
        cases f with
        | nil => rw [h]; simp
        | cons y f => split <;> simp
      · exact ih _ e
  exact go _ [] ((all_mem hs).mpr (Of.refl hs))
theorem sides_of {T : Lot → Lot} {lot : Lot} (hs : SS lot) : (∀ s ∈ sidesOf T lot, Of lot s) ∧ (sidesOf T lot).length ≤ (allLots lot).length := by
  have go : ∀ (ls f : List Lot), (∀ x ∈ ls, Of lot x) → (∀ x ∈ f, Of lot x) → (∀ s ∈ ls.foldl (sideStep T lot) f, Of lot s) ∧ (ls.foldl (sideStep T lot) f).length ≤ f.length + ls.length := by
    intro ls
    induction ls with
    | nil => intro f _ h; exact ⟨h, by simp⟩
    | cons x ls ih =>
      intro f h1 h2
      have hs : ∀ y ∈ sideStep T lot f x, Of lot y := fun y hy => by
        unfold sideStep at hy
        split at hy
        · rcases List.mem_append.mp hy with k | k
          · exact h2 y k
          · rw [List.mem_singleton.mp k]; exact h1 x List.mem_cons_self
        · exact h2 y hy
      obtain ⟨a, b⟩ := ih (sideStep T lot f x) (fun y hy => h1 y (List.mem_cons_of_mem _ hy)) hs
      refine ⟨a, Nat.le_trans b ?_⟩
      have : (sideStep T lot f x).length ≤ f.length + 1 := by
        unfold sideStep
        split <;> simp
      rw [List.length_cons]
      omega
  have q := go (allLots lot) [] (fun x hx => (all_mem hs).mp hx) (fun x hx => by cases hx)
  refine ⟨q.1, Nat.le_trans q.2 ?_⟩
  simp
end K5
/-! K5c: both closings come to the least shut lot; equality of data. -/
namespace K5
open PySem

/-! ### the program's closing -/
def brokenBy (rows : List Row) (l : Lot) : List Row := rows.filter fun r => !keeps l r
def joinAll (bs : List Row) (l : Lot) : Lot := bs.foldl (fun l r => jn l r.2) l
theorem brokenBy_nil {rows : List Row} {l : Lot} : brokenBy rows l = [] ↔ shut rows l = true := by
  unfold brokenBy shut
  rw [List.filter_eq_nil_iff, List.all_eq_true]
  constructor
  · intro h r hr
    have := h r hr
    simpa using this
  · intro h r hr
    simp [h r hr]
theorem brokenBy_mem {rows : List Row} {l : Lot} {r : Row} (h : r ∈ brokenBy rows l) : r ∈ rows ∧ wi r.1 l = true ∧ wi r.2 l = false := by
  obtain ⟨a, b⟩ := List.mem_filter.mp h
  refine ⟨a, ?_⟩
  unfold keeps at b
  cases c : wi r.1 l <;> cases d : wi r.2 l <;> simp [c, d] at b ⊢
theorem joinAll_mem : ∀ (bs : List Row) (l : Lot) (m : Str), m ∈ joinAll bs l ↔ m ∈ l ∨ ∃ r ∈ bs, m ∈ r.2
  | [], l, m => by simp [joinAll]
  | r :: bs, l, m => by
    show m ∈ joinAll bs (jn l r.2) ↔ _
    rw [joinAll_mem bs (jn l r.2) m, jn_mem]
    constructor
    · rintro ((h | h) | ⟨q, h1, h2⟩)
      · exact .inl h
      · exact .inr ⟨r, List.mem_cons_self, h⟩
      · exact .inr ⟨q, List.mem_cons_of_mem _ h1, h2⟩
    · rintro (h | ⟨q, h1, h2⟩)
      · exact .inl (.inl h)
      · rcases List.mem_cons.mp h1 with e | e
        · subst e; exact .inl (.inr h2)
        · exact .inr ⟨q, e, h2⟩
theorem joinAll_snoc (bs : List Row) (r : Row) (l : Lot) : joinAll (bs ++ [r]) l = jn (joinAll bs l) r.2 := by
  unfold joinAll
  rw [List.foldl_append]
  rfl
theorem joinAll_of {marks : Lot} : ∀ (bs : List Row) (l : Lot), Of marks l → (∀ r ∈ bs, Of marks r.2) → Of marks (joinAll bs l)
  | [], _, h, _ => h
  | r :: bs, l, h, k => joinAll_of bs (jn l r.2) (jn_of h.2 (k r List.mem_cons_self).2) fun q hq => k q (List.mem_cons_of_mem _ hq)
theorem joinAll_mid {marks : Lot} {rows : List Row} {l0 l : Lot} (hw : RowsOf marks rows) (h : Mid marks rows l0 l) : Mid marks rows l0 (joinAll (brokenBy rows l) l) := by
  refine ⟨fun m k => ?_, fun m k => (joinAll_mem _ _ m).mpr (.inl (h.2.1 m k)), fun c a b d m k => ?_⟩
  · rcases (joinAll_mem _ _ m).mp k with q | ⟨r, q1, q2⟩
    · exact h.1 m q
    · exact (hw r (brokenBy_mem q1).1).2.2 m q2
  · rcases (joinAll_mem _ _ m).mp k with q | ⟨r, q1, q2⟩
    · exact h.2.2 c a b d m q
    · obtain ⟨e1, e2, _⟩ := brokenBy_mem q1
      exact wi_iff.mp (shut_iff.mp b r e1 (wi_iff.mpr fun x hx => h.2.2 c a b d x (wi_iff.mp e2 x hx))) m q2
theorem joinAll_grows {marks : Lot} {rows : List Row} {l : Lot} (hm : SS marks) (hw : RowsOf marks rows) (h : Of marks l) (ne : brokenBy rows l ≠ []) : l.length < (joinAll (brokenBy rows l) l).length := by
  have o : Of marks (joinAll (brokenBy rows l) l) := joinAll_of _ l h fun r hr => (hw r (brokenBy_mem hr).1).2
  refine len_lt h.1 o.1 (wi_iff.mpr fun m k => (joinAll_mem _ _ m).mpr (.inl k)) fun e => ?_
  cases c : brokenBy rows l with
  | nil => exact ne c
  | cons r bs =>
    have hr : r ∈ brokenBy rows l := by rw [c]; exact List.mem_cons_self
    obtain ⟨_, _, e3⟩ := brokenBy_mem hr
    have : wi r.2 l = true := wi_iff.mpr fun m k => by
      rw [e]
      exact (joinAll_mem _ _ m).mpr (.inr ⟨r, hr, k⟩)
    rw [e3] at this
    cases this

/-! ### the law's closing -/
def passStep (f : Lot) (r : Row) : Lot := if wi r.1 f = true then f ++ r.2.filter (fun m => decide (m ∉ f)) else f
def passL (rows : List Row) (f : Lot) : Lot := rows.foldl passStep f
theorem passStep_sub {f : Lot} {r : Row} {m : Str} (h : m ∈ f) : m ∈ passStep f r := by
  unfold passStep
  split
  · exact List.mem_append_left _ h
  · exact h
theorem passL_sub : ∀ (rows : List Row) (f : Lot) {m : Str}, m ∈ f → m ∈ passL rows f
  | [], _, _, h => h
  | _ :: rows, _, _, h => passL_sub rows _ (passStep_sub h)
theorem passStep_len (f : Lot) (r : Row) : f.length ≤ (passStep f r).length := by
  unfold passStep
  split
  · rw [List.length_append]; omega
  · exact Nat.le_refl _
theorem passL_len : ∀ (rows : List Row) (f : Lot), f.length ≤ (passL rows f).length
  | [], _ => Nat.le_refl _
  | r :: rows, f => Nat.le_trans (passStep_len f r) (passL_len rows _)
theorem passStep_nodup {f : Lot} {r : Row} (h : f.Nodup) (k : r.2.Nodup) : (passStep f r).Nodup := by
  unfold passStep
  split
  · rw [List.nodup_append]
    refine ⟨h, k.filter _, fun a ha b hb e => ?_⟩
    subst e
    have := (List.mem_filter.mp hb).2
    exact absurd ha (by simpa using this)
  · exact h
/-- behind a row with its ahead within, its behind is within -/
theorem passStep_fires {f : Lot} {r : Row} (h : wi r.1 f = true) : wi r.2 (passStep f r) = true := by
  unfold passStep
  rw [if_pos h]
  refine wi_iff.mpr fun m k => ?_
  by_cases c : m ∈ f
  · exact List.mem_append_left _ c
  · exact List.mem_append_right _ (List.mem_filter.mpr ⟨k, by simpa using c⟩)
theorem passStep_same {f : Lot} {r : Row} (h : (passStep f r).length = f.length) : passStep f r = f := by
  unfold passStep at h ⊢
  split
  · rename_i c
    rw [if_pos c, List.length_append] at h
    have e : (r.2.filter fun m => decide (m ∉ f)).length = 0 := by omega
    rw [List.eq_nil_of_length_eq_zero e, List.append_nil]
  · rfl
theorem passL_same : ∀ (rows : List Row) (f : Lot), (passL rows f).length = f.length → shut rows f = true
  | [], f, _ => rfl
  | r :: rows, f, h => by
    have h1 : (passL rows (passStep f r)).length = f.length := h
    have h2 := passL_len rows (passStep f r)
    have h3 := passStep_len f r
    have e := passStep_same (f := f) (r := r) (by omega)
    have ih := passL_same rows f (by rw [e] at h1; exact h1)
    refine shut_iff.mpr fun q hq ha => ?_
    rcases List.mem_cons.mp hq with c | c
    · subst c
      have := passStep_fires ha
      rw [e] at this
      exact this
    · exact shut_iff.mp ih q c ha
/-- done: ahead and behind within -/
def done (f : Lot) (r : Row) : Bool := wi r.1 f && wi r.2 f
theorem wi_mono {a f g : Lot} (h : ∀ m ∈ f, m ∈ g) (k : wi a f = true) : wi a g = true := wi_iff.mpr fun m hm => h m (wi_iff.mp k m hm)
theorem done_mono {f g : Lot} {r : Row} (h : ∀ m ∈ f, m ∈ g) (k : done f r = true) : done g r = true := by
  unfold done at k ⊢
  rw [Bool.and_eq_true] at k ⊢
  exact ⟨wi_mono h k.1, wi_mono h k.2⟩
theorem count_lt {α : Type} {p q : α → Bool} : ∀ {l : List α}, (∀ x ∈ l, p x = true → q x = true) → (∃ x ∈ l, p x = false ∧ q x = true) → l.countP p < l.countP q
  | [], _, ⟨_, h, _⟩ => by cases h
  | x :: l, h, ⟨y, hy, h1, h2⟩ => by
    have hm : l.countP p ≤ l.countP q := List.countP_mono_left fun z hz => h z (List.mem_cons_of_mem _ hz)
    rw [List.countP_cons, List.countP_cons]
    rcases List.mem_cons.mp hy with e | e
    · subst e
      rw [h1, h2]
      simp only [Bool.false_eq_true, if_false, if_true]
      omega
    · have ih := count_lt (l := l) (fun z hz => h z (List.mem_cons_of_mem _ hz)) ⟨y, e, h1, h2⟩
      have hx := h x List.mem_cons_self
      cases a : p x with
      | true => rw [hx a]; simp only [if_true]; omega
      | false => simp only [Bool.false_eq_true, if_false]; split <;> omega
theorem passL_new : ∀ (rows : List Row) (f : Lot), (passL rows f).length ≠ f.length → ∃ r ∈ rows, done f r = false ∧ done (passL rows f) r = true
  | [], f, h => absurd rfl h
  | r :: rows, f, h => by
    by_cases c : (passStep f r).length = f.length
    · have e := passStep_same c
      have h' : (passL rows f).length ≠ f.length := fun z => h (by show (passL rows (passStep f r)).length = _; rw [e]; exact z)
      obtain ⟨q, a, b, d⟩ := passL_new rows f h'
      refine ⟨q, List.mem_cons_of_mem _ a, b, ?_⟩
      show done (passL rows (passStep f r)) q = true
      rw [e]
      exact d
    · have ha : wi r.1 f = true := by
        cases k : wi r.1 f with
        | true => rfl
        | false => exact absurd (by unfold passStep; rw [k]; rfl) c
      refine ⟨r, List.mem_cons_self, ?_, ?_⟩
      · cases k : done f r with
        | false => rfl
        | true =>
          unfold done at k
          rw [Bool.and_eq_true] at k
          refine absurd ?_ c
          unfold passStep
          rw [if_pos ha, List.length_append]
          have e : (r.2.filter fun m => decide (m ∉ f)) = [] := List.filter_eq_nil_iff.mpr fun m hm => by
            simpa using wi_iff.mp k.2 m hm
          rw [e]
          rfl
      · refine done_mono (f := passStep f r) (fun m hm => passL_sub rows _ hm) ?_
        unfold done
        rw [Bool.and_eq_true]
        exact ⟨wi_mono (fun m hm => passStep_sub hm) ha, passStep_fires ha⟩
/-- a pass that changes something does one row more -/
theorem passL_count (rows : List Row) (f : Lot) (h : (passL rows f).length ≠ f.length) : rows.countP (done f) < rows.countP (done (passL rows f)) :=
  count_lt (fun r _ k => done_mono (fun m hm => passL_sub rows f hm) k) (passL_new rows f h)
theorem passStep_mid {marks : Lot} {rows : List Row} {l f : Lot} {r : Row} (hw : RowsOf marks rows) (h : Mid marks rows l f) (hr : r ∈ rows) : Mid marks rows l (passStep f r) := by
  by_cases ha : wi r.1 f = true
  · refine mid_step hw h hr ha (fun m k => ?_) fun m k => passStep_sub k
    unfold passStep at k
    rw [if_pos ha] at k
    rcases List.mem_append.mp k with q | q
    · exact .inl q
    · exact .inr (List.mem_filter.mp q).1
  · have e : passStep f r = f := by unfold passStep; rw [if_neg ha]
    rw [e]
    exact h
theorem passL_snoc (rows : List Row) (r : Row) (f : Lot) : passL (rows ++ [r]) f = passStep (passL rows f) r := by
  unfold passL
  rw [List.foldl_append]
  rfl
theorem nodup_len {f marks : Lot} (hm : SS marks) (d : f.Nodup) (h : ∀ m ∈ f, m ∈ marks) : f.length ≤ marks.length := by
  have o : Of marks (srt f) := ⟨srt_ss d, fun m k => h m (srt_mem.mp k)⟩
  have := o.len hm
  rw [srt_len] at this
  exact this

/-! ### data -/
def rowD (r : Row) : PyData := .tuple [lotD r.1, lotD r.2]
theorem eqvAll_map {α : Type} [DecidableEq α] {f : α → PyData} (h : ∀ a b, PyData.eqv (f a) (f b) = decide (a = b)) : ∀ a b : List α, PyData.eqvAll (a.map f) (b.map f) = decide (a = b)
  | [], [] => by simp [PyData.eqvAll]
  | [], y :: b => by simp [PyData.eqvAll]
  | x :: a, [] => by simp [PyData.eqvAll]
  | x :: a, y :: b => by
    show PyData.eqvAll (f x :: a.map f) (f y :: b.map f) = _
    rw [PyData.eqvAll, h, eqvAll_map h a b, Bool.eq_iff_iff]
    simp
theorem eqv_str (a b : Str) : PyData.eqv (.str a) (.str b) = decide (a = b) := by
  simp only [PyData.eqv]
  rw [Bool.eq_iff_iff]
  simp
theorem eqv_lot (a b : Lot) : PyData.eqv (lotD a) (lotD b) = decide (a = b) := by
  unfold lotD
  simp only [PyData.eqv]
  exact eqvAll_map eqv_str a b
theorem eqv_row (a b : Row) : PyData.eqv (rowD a) (rowD b) = decide (a = b) := by
  obtain ⟨a1, a2⟩ := a
  obtain ⟨b1, b2⟩ := b
  unfold rowD
  simp only [PyData.eqv, PyData.eqvAll, eqv_lot, Bool.and_true]
  rw [Bool.eq_iff_iff]
  simp
theorem eqv_rows (a b : List Row) : PyData.eqv (.list (a.map rowD)) (.list (b.map rowD)) = decide (a = b) := by
  simp only [PyData.eqv]
  exact eqvAll_map eqv_row a b
theorem eqv_lots (a b : List Lot) : PyData.eqv (.list (a.map lotD)) (.list (b.map lotD)) = decide (a = b) := by
  simp only [PyData.eqv]
  exact eqvAll_map eqv_lot a b
def lotsD (a : List Lot) : PyData := .list (a.map lotD)
theorem eqv_sides (a b : List (List Lot)) : PyData.eqv (.list (a.map lotsD)) (.list (b.map lotsD)) = decide (a = b) := by
  simp only [PyData.eqv]
  exact eqvAll_map eqv_lots a b

/-! ### marks that are marks -/
/-- one to eight letters a to z -/
def GoodM (m : Str) : Prop := 0 < m.cps.size ∧ m.cps.size ≤ 8 ∧ ∀ c ∈ m.cps.toList, 97 ≤ c ∧ c ≤ 122
/-- what all marks are -/
structure Good (marks : Lot) : Prop where
  ss : SS marks
  len : marks.length ≤ 5
  ok : ∀ m ∈ marks, GoodM m
theorem canLay_map {α : Type} {f : α → PyData} : ∀ {l : List α}, (∀ x ∈ l, (f x).canLay0 = true) → PyData.canLayAll0 (l.map f) = true
  | [], _ => by simp [PyData.canLayAll0]
  | x :: l, h => by
    show PyData.canLayAll0 (f x :: l.map f) = true
    rw [PyData.canLayAll0, h x List.mem_cons_self, canLay_map fun y hy => h y (List.mem_cons_of_mem _ hy)]
    rfl
theorem depth_map {α : Type} {f : α → PyData} {n : Nat} : ∀ {l : List α}, (∀ x ∈ l, (f x).depth ≤ n) → PyData.depthAll (l.map f) ≤ n
  | [], _ => by simp [PyData.depthAll]
  | x :: l, h => by
    show PyData.depthAll (f x :: l.map f) ≤ n
    rw [PyData.depthAll]
    have h1 := h x List.mem_cons_self
    have h2 := depth_map (l := l) fun y hy => h y (List.mem_cons_of_mem _ hy)
    omega
theorem goodM_ok {m : Str} (h : GoodM m) : PyData.strOk m = true := by
  obtain ⟨_, _, hc⟩ := h
  unfold PyData.strOk
  rw [← Array.all_toList, List.all_eq_true]
  intro c hm
  have := hc c hm
  simp only [decide_eq_true_eq]
  omega
theorem goodM_lay {m : Str} (h : GoodM m) : (PyData.str m).canLay0 = true := by
  simp only [PyData.canLay0]
  exact goodM_ok h
theorem lot_lay {l : Lot} (h : ∀ m ∈ l, GoodM m) : (lotD l).canLay0 = true := by
  unfold lotD
  simp only [PyData.canLay0]
  exact canLay_map fun m hm => goodM_lay (h m hm)
theorem lot_depth (l : Lot) : (lotD l).depth ≤ 1 := by
  unfold lotD
  simp only [PyData.depth]
  have := depth_map (f := PyData.str) (n := 0) (l := l) fun m _ => by simp [PyData.depth]
  omega
theorem shaped_mk {d : PyData} (h : d.canLay0 = true) (k : d.depth ≤ 64) : SeqAt.shaped d = true := by
  show (d.canLay0 && decide (d.depth ≤ 64)) = true
  rw [h, decide_eq_true k]
  rfl
theorem shaped_lot {l : Lot} (h : ∀ m ∈ l, GoodM m) : SeqAt.shaped (lotD l) = true := shaped_mk (lot_lay h) (Nat.le_trans (lot_depth l) (by decide))
theorem lots_lay {ls : List Lot} (h : ∀ l ∈ ls, ∀ m ∈ l, GoodM m) : (lotsD ls).canLay0 = true := by
  unfold lotsD
  simp only [PyData.canLay0]
  exact canLay_map fun l hl => lot_lay (h l hl)
theorem lots_depth (ls : List Lot) : (lotsD ls).depth ≤ 2 := by
  unfold lotsD
  simp only [PyData.depth]
  have := depth_map (f := lotD) (n := 1) (l := ls) fun l _ => lot_depth l
  omega
theorem shaped_lots {ls : List Lot} (h : ∀ l ∈ ls, ∀ m ∈ l, GoodM m) : SeqAt.shaped (lotsD ls) = true := shaped_mk (lots_lay h) (Nat.le_trans (lots_depth ls) (by decide))
def GoodRow (r : Row) : Prop := (∀ m ∈ r.1, GoodM m) ∧ ∀ m ∈ r.2, GoodM m
theorem row_lay {r : Row} (h : GoodRow r) : (rowD r).canLay0 = true := by
  unfold rowD
  simp only [PyData.canLay0, PyData.canLayAll0, lot_lay h.1, lot_lay h.2, Bool.and_true]
theorem row_depth (r : Row) : (rowD r).depth ≤ 2 := by
  unfold rowD
  simp only [PyData.depth, PyData.depthAll]
  have h1 := lot_depth r.1
  have h2 := lot_depth r.2
  omega
theorem shaped_row {r : Row} (h : GoodRow r) : SeqAt.shaped (rowD r) = true := shaped_mk (row_lay h) (Nat.le_trans (row_depth r) (by decide))
def rowsD (a : List Row) : PyData := .list (a.map rowD)
theorem rows_depth (a : List Row) : (rowsD a).depth ≤ 3 := by
  unfold rowsD
  simp only [PyData.depth]
  have := depth_map (f := rowD) (n := 2) (l := a) fun r _ => row_depth r
  omega
theorem rows_lay {a : List Row} (h : ∀ r ∈ a, GoodRow r) : (rowsD a).canLay0 = true := by
  unfold rowsD
  simp only [PyData.canLay0]
  exact canLay_map fun r hr => row_lay (h r hr)
theorem shaped_rows {a : List Row} (h : ∀ r ∈ a, GoodRow r) : SeqAt.shaped (rowsD a) = true := shaped_mk (rows_lay h) (Nat.le_trans (rows_depth a) (by decide))
def sidesD (a : List (List Lot)) : PyData := .list (a.map lotsD)
theorem shaped_sides {a : List (List Lot)} (h : ∀ ls ∈ a, ∀ l ∈ ls, ∀ m ∈ l, GoodM m) : SeqAt.shaped (sidesD a) = true := by
  refine shaped_mk ?_ ?_
  · unfold sidesD
    simp only [PyData.canLay0]
    exact canLay_map fun ls hl => lots_lay (h ls hl)
  · unfold sidesD
    simp only [PyData.depth]
    have := depth_map (f := lotsD) (n := 2) (l := a) fun ls _ => lots_depth ls
    omega
theorem Good.of {marks l : Lot} (G : Good marks) (h : Of marks l) : ∀ m ∈ l, GoodM m := fun m k => G.ok m (h.2 m k)
theorem Good.row {marks : Lot} {r : Row} (G : Good marks) (h : RowOf marks r) : GoodRow r := ⟨G.of h.1, G.of h.2⟩
end K5
/-! K5d: what repr shows is short. -/
namespace K5
open PySem PySem.Builtin.Str
theorem piled_map_le {n : Nat} : ∀ ts : List Str, (∀ t ∈ ts, t.length ≤ n) → piled ts ≤ ts.length * (n + 2)
  | [], _ => by simp [piled]
  | t :: ts, h => by
    rw [piled_cons, List.length_cons, Nat.succ_mul]
    have h1 := h t List.mem_cons_self
    have h2 := piled_map_le ts fun u hu => h u (List.mem_cons_of_mem _ hu)
    omega
theorem tupleText_le (ts : List Str) : (tupleText ts).length ≤ piled ts + 3 := by
  unfold tupleText
  rw [strLen_append, strLen_append]
  have e1 : ((("(" : String) : Str)).length = 1 := rfl
  have e3 : (((if ts.length == 1 then ",)" else ")" : String) : Str)).length ≤ 2 := by split <;> decide
  have e4 : (Str.join ", " ts).length ≤ piled ts := by
    cases ts with
    | nil => exact Nat.zero_le _
    | cons x r =>
      have := join_length_add (x :: r) (by simp)
      omega
  rw [e1]
  omega
theorem textFrom_le : ∀ (ts : List Str) (k : Nat) (acc : Str), (textFrom k acc ts).length ≤ acc.length + piled ts
  | [], _, _ => by simp [textFrom]
  | t :: ts, k, acc => by
    have ih := textFrom_le ts (k + 1) (acc ++ (if k > 0 then ", " else "" : String) ++ t)
    have e : (acc ++ (if k > 0 then ", " else "" : String) ++ t).length ≤ acc.length + 2 + t.length := by
      rw [strLen_append, strLen_append]
      have : (((if k > 0 then ", " else "" : String) : Str)).length ≤ 2 := by split <;> decide
      omega
    rw [piled_cons]
    show (textFrom (k + 1) _ ts).length ≤ _
    omega
theorem listText_le (ts : List Str) : (listText ts).length ≤ piled ts + 2 := by
  unfold listText
  rw [strLen_append]
  have e1 : ((("]" : String) : Str)).length = 1 := rfl
  have e2 : ((("[" : String) : Str)).length = 1 := rfl
  have h := textFrom_le ts 0 "["
  omega
theorem rq (x : Str) : reprQuote x = 34 ∨ reprQuote x = 39 := by
  unfold reprQuote
  split <;> simp
theorem rc34 : ∀ c : Nat, c < 123 → 97 ≤ c → (reprChar 34 c).length ≤ 1 := by decide +kernel
theorem rc39 : ∀ c : Nat, c < 123 → 97 ≤ c → (reprChar 39 c).length ≤ 1 := by decide +kernel
theorem rc {q c : Nat} (hq : q = 34 ∨ q = 39) (h : 97 ≤ c ∧ c ≤ 122) : (reprChar q c).length ≤ 1 := by
  rcases hq with e | e <;> subst e
  · exact rc34 c (by omega) h.1
  · exact rc39 c (by omega) h.1
theorem fold_le {q : Nat} (hq : q = 34 ∨ q = 39) : ∀ (l : List Nat) (n : Nat), (∀ c ∈ l, 97 ≤ c ∧ c ≤ 122) → l.foldl (fun n c => n + (reprChar q c).length) n ≤ n + l.length
  | [], n, _ => by simp
  | c :: l, n, h => by
    rw [List.foldl_cons, List.length_cons]
    have h1 := rc hq (h c List.mem_cons_self)
    have h2 := fold_le hq l (n + (reprChar q c).length) fun d hd => h d (List.mem_cons_of_mem _ hd)
    omega
theorem repr_good {m : Str} (h : GoodM m) : (reprText m).length ≤ 10 := by
  rw [← reprLen_eq, ← Array.foldl_toList]
  have := fold_le (rq m) m.cps.toList 2 h.2.2
  have e := h.2.1
  rw [Array.length_toList] at this
  omega
theorem shownAll_map {α : Type} (f : α → PyData) : ∀ l : List α, PyData.shownAll (l.map f) = l.map fun x => (f x).shown
  | [] => by simp [PyData.shownAll]
  | x :: l => by
    show PyData.shownAll (f x :: l.map f) = _
    rw [PyData.shownAll, shownAll_map f l]
    rfl
theorem shown_lot {l : Lot} (h : ∀ m ∈ l, GoodM m) (k : l.length ≤ 5) : (lotD l).shown.length ≤ 63 := by
  unfold lotD
  simp only [PyData.shown]
  rw [shownAll_map]
  have h1 := tupleText_le (l.map fun x => (PyData.str x).shown)
  have h2 := piled_map_le (n := 10) (l.map fun x => (PyData.str x).shown) fun t ht => by
    obtain ⟨x, hx, rfl⟩ := List.mem_map.mp ht
    simp only [PyData.shown]
    exact repr_good (h x hx)
  rw [List.length_map] at h2
  have h3 : l.length * (10 + 2) ≤ 5 * 12 := Nat.mul_le_mul k (by decide)
  omega
theorem shown_row {r : Row} (h : GoodRow r) (k1 : r.1.length ≤ 5) (k2 : r.2.length ≤ 5) : (rowD r).shown.length ≤ 133 := by
  unfold rowD
  simp only [PyData.shown, PyData.shownAll]
  have h1 := tupleText_le [(lotD r.1).shown, (lotD r.2).shown]
  have h2 := piled_map_le (n := 63) [(lotD r.1).shown, (lotD r.2).shown] fun t ht => by
    rcases List.mem_cons.mp ht with e | e
    · rw [e]; exact shown_lot h.1 k1
    · rw [List.mem_singleton.mp e]; exact shown_lot h.2 k2
  simp only [List.length_cons, List.length_nil] at h2
  omega
theorem shown_rows {a : List Row} (h : ∀ r ∈ a, GoodRow r ∧ r.1.length ≤ 5 ∧ r.2.length ≤ 5) (k : a.length ≤ 100) : (rowsD a).shown.length ≤ 14000 := by
  unfold rowsD
  simp only [PyData.shown]
  rw [shownAll_map]
  have h1 := listText_le (a.map fun x => (rowD x).shown)
  have h2 := piled_map_le (n := 133) (a.map fun x => (rowD x).shown) fun t ht => by
    obtain ⟨x, hx, rfl⟩ := List.mem_map.mp ht
    obtain ⟨q1, q2, q3⟩ := h x hx
    exact shown_row q1 q2 q3
  rw [List.length_map] at h2
  have h3 : a.length * (133 + 2) ≤ 100 * 135 := Nat.mul_le_mul k (by decide)
  omega
theorem shown_lots {a : List Lot} (h : ∀ l ∈ a, (∀ m ∈ l, GoodM m) ∧ l.length ≤ 5) (k : a.length ≤ 100) : (lotsD a).shown.length ≤ 14000 := by
  unfold lotsD
  simp only [PyData.shown]
  rw [shownAll_map]
  have h1 := listText_le (a.map fun x => (lotD x).shown)
  have h2 := piled_map_le (n := 63) (a.map fun x => (lotD x).shown) fun t ht => by
    obtain ⟨x, hx, rfl⟩ := List.mem_map.mp ht
    exact shown_lot (h x hx).1 (h x hx).2
  rw [List.length_map] at h2
  have h3 : a.length * (63 + 2) ≤ 100 * 65 := Nat.mul_le_mul k (by decide)
  omega
theorem showable_map {α : Type} {f : α → PyData} : ∀ {l : List α}, (∀ x ∈ l, (f x).showable = true) → PyData.showableAll (l.map f) = true
  | [], _ => by simp [PyData.showableAll]
  | x :: l, h => by
    show PyData.showableAll (f x :: l.map f) = true
    rw [PyData.showableAll, h x List.mem_cons_self, showable_map fun y hy => h y (List.mem_cons_of_mem _ hy)]
    rfl
theorem showable_lot (l : Lot) : (lotD l).showable = true := by
  unfold lotD
  simp only [PyData.showable]
  exact showable_map fun m _ => by simp [PyData.showable]
theorem showable_row (r : Row) : (rowD r).showable = true := by
  unfold rowD
  simp only [PyData.showable, PyData.showableAll, showable_lot, Bool.and_true]
theorem showable_rows (a : List Row) : (rowsD a).showable = true := by
  unfold rowsD
  simp only [PyData.showable]
  exact showable_map fun r _ => showable_row r
theorem showable_lots (a : List Lot) : (lotsD a).showable = true := by
  unfold lotsD
  simp only [PyData.showable]
  exact showable_map fun l _ => showable_lot l
end K5
/-! K5e: how lots, rows and lists of them stand in the heap; sorting them. -/
namespace K5
open PySem PySem.Spec PyProof.Rows L2

/-! ### predicates -/
abbrev At (β : Type) := Hp → V → β → Prop
/-- a lot -/
def LotAt : At Lot := fun H v l => ∃ a, v = V.ref a ∧ H a = some (.tup (l.map V.str))
/-- a row -/
def RowAt : At Row := fun H v r => ∃ a x y, v = V.ref a ∧ H a = some (.tup [x, y]) ∧ LotAt H x r.1 ∧ LotAt H y r.2
/-- (len(lot), lot) -/
def PairAt : At Lot := fun H v l => ∃ a y, v = V.ref a ∧ H a = some (.tup [.int l.length, y]) ∧ LotAt H y l
abbrev Each {β : Type} (R : At β) (H : Hp) (xs : List V) (bs : List β) : Prop := Paired (R H) xs bs
/-- a list of such -/
def ListAt {β : Type} (R : At β) : At (List β) := fun H v bs => ∃ a xs, v = V.ref a ∧ H a = some (.lst xs) ∧ Each R H xs bs
/-- the tuples stay -/
def TK (H H' : Hp) : Prop := ∀ a xs, H a = some (.tup xs) → H' a = some (.tup xs)
/-- all but what is at b stays -/
def SB (b : Addr) (H H' : Hp) : Prop := ∀ a o, a ≠ b → H a = some o → H' a = some o
theorem TK.refl (H : Hp) : TK H H := fun _ _ h => h
theorem TK.trans {H H1 H2 : Hp} (a : TK H H1) (b : TK H1 H2) : TK H H2 := fun c o h => b c o (a c o h)
theorem TK.of {H H' : Hp} (h : Same H H') : TK H H' := fun a xs e => h a _ e
theorem TK.put {H : Hp} {p : Addr} {o : HO} (h : H p = none ∨ ∃ xs, H p = some (.lst xs)) : TK H (L2.upd H p o) := fun a xs e => by
  have : a ≠ p := by
    rintro rfl
    rcases h with h | ⟨ys, h⟩
    · rw [h] at e; cases e
    · rw [h] at e; cases e
  rw [upd_ne this]
  exact e
theorem same_new {H : Hp} {p : Addr} {o : HO} (h : H p = none) : Same H (upd H p o) := fun a u e => by
  rw [upd_ne (ne_of_none e h)]
  exact e
theorem TK.new {H : Hp} {p : Addr} {o : HO} (h : H p = none) : TK H (upd H p o) := TK.of (same_new h)
theorem SB.refl (b : Addr) (H : Hp) : SB b H H := fun _ _ _ h => h
theorem SB.trans {b : Addr} {H H1 H2 : Hp} (x : SB b H H1) (y : SB b H1 H2) : SB b H H2 := fun a o n h => y a o n (x a o n h)
theorem SB.of {b : Addr} {H H' : Hp} (h : Same H H') : SB b H H' := fun a o _ e => h a o e
theorem SB.put {H : Hp} {b : Addr} {o : HO} : SB b H (upd H b o) := fun a u n e => by rw [upd_ne n]; exact e
theorem SB.tk {b : Addr} {H H' : Hp} (h : SB b H H') (hb : ∃ xs, H b = some (.lst xs)) : TK H H' := fun a xs e => by
  refine h a _ ?_ e
  rintro rfl
  obtain ⟨ys, q⟩ := hb
  rw [q] at e; cases e
theorem LotAt.tk {H H' : Hp} {v : V} {l : Lot} (h : LotAt H v l) (k : TK H H') : LotAt H' v l := by
  obtain ⟨a, e, q⟩ := h
  exact ⟨a, e, k a _ q⟩
theorem RowAt.tk {H H' : Hp} {v : V} {r : Row} (h : RowAt H v r) (k : TK H H') : RowAt H' v r := by
  obtain ⟨a, x, y, e, q, hx, hy⟩ := h
  exact ⟨a, x, y, e, k a _ q, hx.tk k, hy.tk k⟩
theorem PairAt.tk {H H' : Hp} {v : V} {l : Lot} (h : PairAt H v l) (k : TK H H') : PairAt H' v l := by
  obtain ⟨a, y, e, q, hy⟩ := h
  exact ⟨a, y, e, k a _ q, hy.tk k⟩
/-- R hangs on tuples alone -/
def Stays {β : Type} (R : At β) : Prop := ∀ H H' v b, TK H H' → R H v b → R H' v b
theorem stays_lot : Stays LotAt := fun _ _ _ _ k h => h.tk k
theorem stays_row : Stays RowAt := fun _ _ _ _ k h => h.tk k
theorem stays_pair : Stays PairAt := fun _ _ _ _ k h => h.tk k
theorem Stays.each {β : Type} {R : At β} (S : Stays R) {H H' : Hp} (k : TK H H') {xs : List V} {bs : List β} (h : Each R H xs bs) : Each R H' xs bs := L2.Paired.mapP h fun a b q => S _ _ _ _ k q
theorem each_get {β : Type} {R : V → β → Prop} : ∀ {xs : List V} {bs : List β} {i : Nat} {x : V}, Paired R xs bs → xs[i]? = some x → ∃ b, bs[i]? = some b ∧ R x b
  | _, _, _, _, .nil, e => by simp at e
  | _, _, 0, _, .cons r _, e => by simp at e; subst e; exact ⟨_, rfl, r⟩
  | _, _, i + 1, x, .cons _ t, e => by
    obtain ⟨b, h1, h2⟩ := each_get (i := i) (x := x) t (by simpa using e)
    exact ⟨b, by simpa using h1, h2⟩
theorem each_append {β : Type} {R : V → β → Prop} : ∀ {xs ys : List V} {bs cs : List β}, Paired R xs bs → Paired R ys cs → Paired R (xs ++ ys) (bs ++ cs)
  | _, _, _, _, .nil, t => t
  | _, _, _, _, .cons r s, t => .cons r (each_append s t)
theorem each_snoc {β : Type} {R : V → β → Prop} {xs : List V} {bs : List β} {x : V} {b : β} (h : Paired R xs bs) (k : R x b) : Paired R (xs ++ [x]) (bs ++ [b]) := each_append h (.cons k .nil)
theorem each_take {β : Type} {R : V → β → Prop} : ∀ {xs : List V} {bs : List β} (n : Nat), Paired R xs bs → Paired R (xs.take n) (bs.take n)
  | _, _, 0, _ => .nil
  | _, _, _ + 1, .nil => .nil
  | _, _, n + 1, .cons r t => .cons r (each_take n t)
theorem each_drop {β : Type} {R : V → β → Prop} : ∀ {xs : List V} {bs : List β} (n : Nat), Paired R xs bs → Paired R (xs.drop n) (bs.drop n)
  | _, _, 0, r => r
  | _, _, _ + 1, .nil => .nil
  | _, _, n + 1, .cons _ t => each_drop n t
theorem take_snoc {α : Type} {l : List α} {i : Nat} {x : α} (h : l[i]? = some x) : l.take (i + 1) = l.take i ++ [x] := by
  rw [List.take_add_one, h]
  rfl
/-- texts as values -/
theorem strs_get {l : Lot} {i : Nat} {x : V} (h : (l.map V.str)[i]? = some x) : ∃ m, l[i]? = some m ∧ x = V.str m := by
  rw [List.getElem?_map] at h
  cases e : l[i]? with
  | none => rw [e] at h; cases h
  | some m => rw [e] at h; exact ⟨m, rfl, (Option.some.inj h).symm⟩

/-! ### as data -/
theorem dpall_strs {K : PySem.W.Frag} {H : Hp} : ∀ l : Lot, DpAll K H (l.map V.str) (l.map .str)
  | [] => .nil
  | m :: l => .cons (.str m) (dpall_strs l)
theorem LotAt.dp {K : PySem.W.Frag} {H : Hp} {v : V} {l : Lot} (h : LotAt H v l) : Dp K H v (lotD l) := by
  obtain ⟨a, rfl, q⟩ := h
  exact .tup (SqT.of q) (dpall_strs l)
theorem RowAt.dp {K : PySem.W.Frag} {H : Hp} {v : V} {r : Row} (h : RowAt H v r) : Dp K H v (rowD r) := by
  obtain ⟨a, x, y, rfl, q, hx, hy⟩ := h
  exact .tup (SqT.of q) (.cons hx.dp (.cons hy.dp .nil))
theorem PairAt.dp {K : PySem.W.Frag} {H : Hp} {v : V} {l : Lot} (h : PairAt H v l) : Dp K H v (keyD l) := by
  obtain ⟨a, y, rfl, q, hy⟩ := h
  exact .tup (SqT.of q) (.cons (.int _) (.cons hy.dp .nil))
theorem dpall_each {K : PySem.W.Frag} {H : Hp} {β : Type} {R : At β} {enc : β → PyData} (h : ∀ v b, R H v b → Dp K H v (enc b)) : ∀ {xs : List V} {bs : List β}, Each R H xs bs → DpAll K H xs (bs.map enc)
  | _, _, .nil => .nil
  | _, _, .cons r t => .cons (h _ _ r) (dpall_each h t)
theorem dp_list {K : PySem.W.Frag} {H : Hp} {β : Type} {R : At β} {enc : β → PyData} (h : ∀ v b, R H v b → Dp K H v (enc b)) {v : V} {bs : List β} (l : ListAt R H v bs) : Dp K H v (.list (bs.map enc)) := by
  obtain ⟨a, xs, rfl, q, e⟩ := l
  exact .lst (SqL.of q) (dpall_each h e)
theorem dp_lots {K : PySem.W.Frag} {H : Hp} {v : V} {bs : List Lot} (l : ListAt LotAt H v bs) : Dp K H v (lotsD bs) := dp_list (fun _ _ r => r.dp) l
theorem dp_rows {K : PySem.W.Frag} {H : Hp} {v : V} {bs : List Row} (l : ListAt RowAt H v bs) : Dp K H v (rowsD bs) := dp_list (fun _ _ r => r.dp) l
theorem dp_sides {K : PySem.W.Frag} {H : Hp} {v : V} {bs : List (List Lot)} (l : ListAt (ListAt LotAt) H v bs) : Dp K H v (sidesD bs) := dp_list (fun _ _ r => dp_lots r) l

/-! ### sorted -/
section
variable {X : Cx} {β : Type}
/-- the values that stand for the items -/
def RelB (Rel : V → β → Prop) (u : Value) (b : β) : Prop := ∃ x, RelV x u ∧ Rel x b
theorem eachIs_of {Rel : V → β → Prop} : ∀ {xs : List V} {us : List Value} {bs : List β}, Vals xs us → Paired Rel xs bs → PySem.W.EachIs (RelB Rel) us bs
  | _, _, _, .nil, .nil => .nil
  | _, _, _, .cons r t, .cons q s => .cons ⟨_, r, q⟩ (eachIs_of t s)
theorem eachIs_back {Rel : V → β → Prop} : ∀ {us : List Value} {bs : List β}, PySem.W.EachIs (RelB Rel) us bs → ∃ xs, Vals xs us ∧ Paired Rel xs bs
  | _, _, .nil => ⟨[], .nil, .nil⟩
  | _, _, .cons ⟨x, r, q⟩ t => by
    obtain ⟨xs, h1, h2⟩ := eachIs_back t
    exact ⟨x :: xs, .cons r h1, .cons q h2⟩
theorem eachIs_reads {pins : List (Addr × Obj)} {σ : L2.St} {H : Hp} {s : Shared} {Rel : V → β → Prop} {enc : β → PyData} (I : Inv X pins σ H s) (h : ∀ v b, Rel v b → Dp X.K H v (enc b)) :
    ∀ {us : List Value} {bs : List β}, PySem.W.EachIs (RelB Rel) us bs → PySem.W.EachIs (fun v b => ∃ as, Reads s.heap v (enc b) as) us bs
  | _, _, .nil => .nil
  | _, _, .cons ⟨x, r, q⟩ t => .cons (Dp.reads I _ x _ (h x _ q) r) (eachIs_reads I h t)
theorem sorted_core {pins : List (Addr × Obj)} {σ : L2.St} {H : Hp} {s : Shared} {a : Addr} {xs : List V} {bs : List β} {Rel : V → β → Prop} {enc : β → PyData} {Q : VK} (I : Inv X pins σ H s) (hs : SqL X.K H a xs) (hr : Paired Rel xs bs)
    (hd : ∀ v b, Rel v b → Dp X.K H v (enc b)) (hal : ∀ b c, PySem.W.alike (enc b) (enc c) = true) (hk : PySem.W.Sortable (bs.map enc)) (hu : ∀ b, X.A.units + 2 + (enc b).depth < cLine)
    (q : ∀ p ys, H p = none → Paired Rel ys (bs.mergeSort (PySem.W.dataLe false enc)) → Q (.ref p) (upd H p (.lst ys))) : wpAny (model X.prog X.w) X.A (call (.builtin "sorted") [.ref a]) (EP X pins σ Q) X.xe s := by
  obtain ⟨its, rv, hl, hz⟩ := I.list hs
  have e1 := eachIs_of rv hr
  have hbl : bs.length ≤ sizeLine := by rw [← hr.length]; exact hz
  refine PySem.W.sorted_data (R := RelB Rel) hl.isList e1 (eachIs_reads I hd e1) (PySem.W.AllAlike.of hal) hk hbl (fun b _ => hu b) fun out ho eo => ?_
  obtain ⟨ys, v1, v2⟩ := eachIs_back eo
  obtain ⟨ep, he'⟩ := PyProof.Rows.sortedAll_at s.heap its (List.toArray out)
  have hn : H (s.heap.objs.size + 1) = none := I.hok.fresh (Nat.le_succ _)
  have hlen : ys.length ≤ sizeLine := by
    rw [v2.length, List.length_mergeSort]
    exact hbl
  exact ⟨V.ref _, upd H (s.heap.objs.size + 1) (.lst ys), I.laid (t' := s.toks) (fun _ _ => PyProof.Rows.sortedAll_old) (Nat.le_succ _) ⟨hlen, out, ep, v1, he'⟩, rfl, q _ _ hn v2⟩
/-- sorted(a list of texts) -/
def rSrt (K : PySem.W.Frag) : List V → Hp → VK → Prop := fun vs H Q => ∃ (a : Addr) (l : Lot), vs = [V.ref a] ∧ SqL K H a (l.map V.str) ∧ ∀ p, H p = none → Q (.ref p) (upd H p (.lst ((srt l).map V.str)))
theorem paired_strs : ∀ l : Lot, Paired (fun v m => v = V.str m) (l.map V.str) l
  | [] => .nil
  | m :: l => .cons rfl (paired_strs l)
theorem strs_paired : ∀ {ys : List V} {l : Lot}, Paired (fun v m => v = V.str m) ys l → ys = l.map V.str
  | _, _, .nil => rfl
  | _, _, .cons e t => by rw [e, strs_paired t]; rfl
theorem sle_eq : PySem.W.dataLe false (fun m : Str => PyData.str m) = sle := PySem.W.dataLe_str (fun m : Str => m)
theorem cr_srt (hu : X.A.units + 64 < cLine) : CallR X (.builtin "sorted") (rSrt X.K) := by
  intro pins s σ H vs us Q I r h
  obtain ⟨a, l, rfl, hs, q⟩ := h
  rw [Vals.ref1 r]
  refine sorted_core (enc := fun m : Str => PyData.str m) I hs (paired_strs l) (fun v b e => by rw [e]; exact .str b) (fun b c => by simp [PySem.W.alike]) (PySem.W.Sortable.others (enc := fun m : Str => PyData.str m) fun b => ⟨(fun z => nomatch z), (fun xs z => nomatch z)⟩)
    (fun b => by simp only [PyData.depth]; omega) fun p ys hp v2 => ?_
  rw [strs_paired v2, sle_eq]
  exact q p hp
/-- sorted(pairs of a length and a lot) -/
def rSrtP (K : PySem.W.Frag) : List V → Hp → VK → Prop := fun vs H Q => ∃ (a : Addr) (xs : List V) (ls : List Lot), vs = [V.ref a] ∧ SqL K H a xs ∧ Each PairAt H xs ls ∧ ∀ p ys, H p = none → Each PairAt H ys (ls.mergeSort leL) → Q (.ref p) (upd H p (.lst ys))
theorem key_depth (l : Lot) : (keyD l).depth ≤ 2 := by
  unfold keyD
  simp only [PyData.depth, PyData.depthAll]
  have := lot_depth l
  omega
theorem cr_srtP (hu : X.A.units + 64 < cLine) : CallR X (.builtin "sorted") (rSrtP X.K) := by
  intro pins s σ H vs us Q I r h
  obtain ⟨a, xs, ls, rfl, hs, he, q⟩ := h
  rw [Vals.ref1 r]
  exact sorted_core (enc := keyD) I hs he (fun v b e => e.dp) alike_keys (PySem.W.Sortable.tuples fun b => ⟨_, _, rfl⟩) (fun b => by have := key_depth b; omega) fun p ys hp v2 => q p ys hp v2
end
end K5
/-! K5s: sorted(set(a list of texts)). -/
namespace K5
open PySem PySem.Spec PyProof.Rows L2

abbrev kS (P : Program) (w : World) := PySem.strKind P w
def txtOf (e : Int × Value) : Str := match e.2 with
  | .str m _ => m
  | _ => Str.empty
def TxtE (w : World) (e : Int × Value) : Prop := ∃ m tk, e.2 = Value.str m tk ∧ e.1 = hashStr w m
/-- a set of texts: its members in some order are L -/
def SetS (w : World) (h : Heap) (a : Addr) (L : Lot) : Prop :=
  ∃ o es ep t, h.get? a = some o ∧ o.ExactSet ∧ o.data = .set es ep t ∧ (∀ e ∈ es.toList, TxtE w e) ∧ (es.toList.map txtOf).Perm L ∧ L.Nodup ∧ L.length < scanBound ∧ t.fits es.size = true ∧ Ris t.place.toList ∧
    (w.params.followText "set-order" = true ∨ t.led = true)
theorem SetS.to {w : World} {h h' : Heap} {a : Addr} {L : Lot} (R : SetS w h a L) (k : ∀ o, h.get? a = some o → h'.get? a = some o) : SetS w h' a L := by
  obtain ⟨o, es, ep, t, ho, r⟩ := R
  exact ⟨o, es, ep, t, k o ho, r⟩
theorem txt_is {P : Program} {w : World} {e : Int × Value} (h : TxtE w e) (m : Str) : (kS P w).is m e.2 = true ↔ txtOf e = m := by
  obtain ⟨m0, tk, e1, _⟩ := h
  unfold txtOf
  rw [e1]
  show Value.isStrOf m (Value.str m0 tk) = true ↔ m0 = m
  simp [Value.isStrOf]
theorem txt_elems {P : Program} {w : World} {l : List (Int × Value)} (g : ∀ e ∈ l, TxtE w e) : ElemsOf (kS P w) l := fun e he => by
  obtain ⟨m, tk, h1, h2⟩ := g e he
  refine ⟨⟨m, ?_, h2⟩, ?_⟩
  · rw [h1]; exact PySem.strKind_is P w m tk
  · rw [h1]; rfl
section
variable {P : Program} {w : World} {A : Around} {E : Value → Shared → Prop} {s : Shared} {a : Addr} {L : Lot}

/-- the grown table is laid -/
theorem setS_lay {g : Bool → Sem Unit} (hg : ∀ (b : Bool) (s₁ : Shared) (Q' : Unit → Shared → Prop), Q' () s₁ → wpAny (model P w) A (g b) Q' E s₁) {o : Obj} {es es1 : Array (Int × Value)} {ep : Nat} {t t2 : SetTable} {L' : Lot}
    (ho : s.heap.get? a = some o) (hx : o.ExactSet) (hd : o.data = .set es ep t) (gd : ∀ e ∈ es1.toList, TxtE w e) (pm : (es1.toList.map txtOf).Perm L') (nd : L'.Nodup) (hb : L'.length < scanBound) (hf : t2.fits es1.size = true) (hr : Ris t2.place.toList)
    (hl : w.params.followText "set-order" = true ∨ t2.led = true) {dum : Bool} {R : Option Bool → Shared → Prop} (hR : ∀ h', Heap.SameBut a s.heap h' → SetS w h' a L' → R (some true) { s with heap := h' }) :
    wpAny (model P w) A (do
      storeSet a es1 t2
      if (!dum && t2.tooFull) = true then do
        g (relayAll t2 es1 (SetTable.grown es1.size)).2.2
        storeSet a (relayAll t2 es1 (SetTable.grown es1.size)).1 (relayAll t2 es1 (SetTable.grown es1.size)).2.1
        pure (some true)
      else pure (some true)) R E s := by
  have sz1 : es1.size < scanBound := by
    have := pm.length_eq
    rw [List.length_map, Array.length_toList] at this
    omega
  refine wpAny_bind (wpAny_storeSet_of ho hd ?_ (fits_of_scanBound sz1))
  have o1 := L2.store_at (es' := es1) (t' := t2) ho hd
  have b1 := Heap.SameBut.update s.heap a (Obj.putSet es1 t2)
  cases hc : (!dum && t2.tooFull) with
  | false =>
    rw [if_neg Bool.false_ne_true]
    exact wpAny_pure (hR _ b1 ⟨_, es1, _, t2, o1, hx, rfl, gd, pm, nd, hb, hf, hr, hl⟩)
  | true =>
    rw [if_pos rfl]
    have p2 := relayAll_perm t2 es1 (SetTable.grown es1.size)
    have f2 := relayAll_fits t2 es1 (SetTable.grown es1.size)
    have r2 := L2.relayAll_ris t2 es1 (SetTable.grown es1.size)
    have l2 := L2.relayAll_led t2 es1 (SetTable.grown es1.size)
    revert p2 f2 r2 l2
    generalize relayAll t2 es1 (SetTable.grown es1.size) = Z
    obtain ⟨es2, t3, gave⟩ := Z
    intro p2 f2 r2 l2
    dsimp only at p2 f2 r2 l2 ⊢
    have sz2 : es2.size < scanBound := by
      have := p2.length_eq
      simp only [Array.length_toList] at this
      omega
    refine wpAny_bind (hg _ _ _ (wpAny_bind (wpAny_storeSet_of o1 rfl ?_ (fits_of_scanBound sz2))))
    have o2 := L2.store_at (es' := es2) (t' := t3) o1 rfl
    exact wpAny_pure (hR _ (b1.trans (Heap.SameBut.update _ a _)) ⟨_, es2, _, t3, o2, hx, rfl, fun e he => gd e (p2.mem_iff.mp he), (p2.map txtOf).trans pm, nd, hb, f2, r2, hl.imp id fun z => by rw [l2]; exact z⟩)

/-- what a set is when m has come -/
def plus (L : Lot) (m : Str) : Lot := if m ∈ L then L else L ++ [m]
theorem setS_add {m : Str} {tk : Tok} {Q : Bool → Shared → Prop} (R : SetS w s.heap a L) (room : L.length + 1 < scanBound) (hQ : ∀ b h', Heap.SameBut a s.heap h' → SetS w h' a (plus L m) → Q b { s with heap := h' }) :
    wpAny (model P w) A (setAddHashed a (.str m tk) ((kS P w).hash m)) Q E s := by
  obtain ⟨o, es, ep, t, ho, hx, hd, g, pm, nd, hb, hf, hr, hl⟩ := R
  have hkey : (kS P w).is m (.str m tk) = true := PySem.strKind_is P w m tk
  have hsc : (Value.str m tk).scannable = true := rfl
  have hel : ElemsOf (kS P w) es.toList := txt_elems g
  have sz : es.size = L.length := by
    have := pm.length_eq
    rw [List.length_map, Array.length_toList] at this
    exact this
  have hbe : es.size < scanBound := by omega
  unfold setAddHashed setAddHashedIn
  refine wpAny_holding (wpAny_bind (wpAny_setState_of ho hd hf ?_))
  dsimp only
  rw [byScan_of hsc hbe hel]
  simp only [↓reduceIte]
  unfold setAddByScan
  refine wpAny_bind (wpAny_bind (wpAny_rule (wpAny_bind (wpAny_setScan_of hkey ho hd hf hel ?_))))
  cases hfi : List.findIdx? (fun e => (kS P w).is m e.2) es.toList with
  | some j =>
    dsimp only
    obtain ⟨hj, pj, _⟩ := List.findIdx?_eq_some_iff_getElem.mp hfi
    have hm : m ∈ L := pm.mem_iff.mp (List.mem_map.mpr ⟨_, List.getElem_mem hj, (txt_is (P := P) (g _ (List.getElem_mem hj)) m).mp pj⟩)
    have e : plus L m = L := if_pos hm
    exact wpAny_pure (wpAny_pure (hQ _ s.heap (Heap.SameBut.refl a s.heap) (by rw [e]; exact ⟨o, es, ep, t, ho, hx, hd, g, pm, nd, hb, hf, hr, hl⟩)))
  | none =>
    dsimp only
    have hm : m ∉ L := fun z => by
      obtain ⟨e, he, q⟩ := List.mem_map.mp (pm.mem_iff.mpr z)
      have c := List.findIdx?_eq_none_iff.mp hfi e he
      rw [(txt_is (P := P) (g e he) m).mpr q] at c
      cases c
    have ep' : plus L m = L ++ [m] := if_neg hm
    have p1 := layNew_perm t es ((kS P w).hash m) (.str m tk)
    have f1 := layNew_fits t es ((kS P w).hash m) (.str m tk)
    have r1 := L2.layNew_ris t es ((kS P w).hash m) (.str m tk) hr
    have l1 := L2.layNew_led t es ((kS P w).hash m) (.str m tk)
    revert p1 f1 r1 l1
    generalize layNew t es ((kS P w).hash m) (.str m tk) = Z
    obtain ⟨es1, t1, dum, gave⟩ := Z
    intro p1 f1 r1 l1
    dsimp only at p1 f1 r1 l1 ⊢
    rw [Array.toList_push] at p1
    have g1 : ∀ e ∈ es1.toList, TxtE w e := fun e he => by
      rcases List.mem_append.mp (p1.mem_iff.mp he) with z | z
      · exact g e z
      · rw [List.mem_singleton.mp z]; exact ⟨m, tk, rfl, rfl⟩
    have pm1 : (es1.toList.map txtOf).Perm (plus L m) := by
      rw [ep']
      refine (p1.map txtOf).trans ?_
      rw [List.map_append]
      exact pm.append (List.Perm.refl _)
    have nd1 : (plus L m).Nodup := by
      rw [ep', List.nodup_append]
      exact ⟨nd, by simp, fun x hx y hy e => hm (by rw [List.mem_singleton.mp hy] at e; exact e ▸ hx)⟩
    have hb1 : (plus L m).length < scanBound := by rw [ep', List.length_append]; exact room
    have led1 : w.params.followText "set-order" = true ∨ t1.led = true := hl.imp id fun z => by rw [l1]; exact z
    have ok : ∀ (b : Bool) (s₁ : Shared) (Q' : Unit → Shared → Prop), Q' () s₁ → wpAny (model P w) A (match b with | true => rule "set.scan.the-table-gave-way" | false => pure ()) Q' E s₁ := fun b s₁ Q' q => by
      cases b with
      | true => exact wpAny_rule q
      | false => exact wpAny_pure q
    refine wpAny_bind (ok _ _ _ ?_)
    split
    · refine wpAny_bind ?_
      rw [hashByValue_scannable 8 hsc]
      refine wpAny_pure (setS_lay ok ho hx hd g1 pm1 nd1 hb1 ?_ ?_ ?_ fun h' sb r => wpAny_pure (hQ _ h' sb r))
      · first | (split <;> first | exact f1 | exact SetTable.fits_plain_off f1) | exact f1
      · first | (split <;> exact r1) | exact r1
      · first | (split <;> exact led1) | exact led1
    · refine wpAny_bind (wpAny_pure ?_)
      simp only [↓reduceIte]
      exact setS_lay ok ho hx hd g1 pm1 nd1 hb1 f1 r1 led1 fun h' sb r => wpAny_pure (hQ _ h' sb r)

/-- the members of all -/
def plusAll (ms : Lot) : Lot := ms.foldl plus []
theorem plusAll_snoc (ms : Lot) (m : Str) : plusAll (ms ++ [m]) = plus (plusAll ms) m := by
  unfold plusAll
  rw [List.foldl_append]
  rfl
theorem plusAll_spec : ∀ r : Lot, (∀ m, m ∈ plusAll r.reverse ↔ m ∈ r.reverse) ∧ (plusAll r.reverse).length ≤ r.length
  | [] => ⟨fun m => by simp [plusAll], by simp [plusAll]⟩
  | x :: r => by
    obtain ⟨h1, h2⟩ := plusAll_spec r
    rw [List.reverse_cons, plusAll_snoc]
    refine ⟨fun m => ?_, ?_⟩
    · unfold plus
      split
      · rename_i c
        rw [h1 m, List.mem_append, List.mem_singleton]
        exact ⟨.inl, fun z => z.elim id fun e => e ▸ (h1 x).mp c⟩
      · rw [List.mem_append, List.mem_append, h1 m]
    · unfold plus
      split
      · rw [List.length_cons]; omega
      · rw [List.length_append, List.length_singleton, List.length_cons]; omega
theorem plusAll_mem {ms : Lot} {m : Str} : m ∈ plusAll ms ↔ m ∈ ms := by
  have q := (plusAll_spec ms.reverse).1 m
  rw [List.reverse_reverse] at q
  exact q
theorem plusAll_len (ms : Lot) : (plusAll ms).length ≤ ms.length := by
  have q := (plusAll_spec ms.reverse).2
  rw [List.reverse_reverse, List.length_reverse] at q
  exact q

theorem setS_loop {I : Addr} {fp wr : List Addr} {G : Array GenState → Array GenState → Prop} {n : Nat} {Pv : Nat → Value → Prop} {St : Nat → Shared → Prop} {R : Result → Shared → Prop} (W : WalksS P w A.in1 I fp wr G n Pv St) (D : Addr) (hD : D ∉ fp)
    (ms : Lot) (hn : n = ms.length) (hb : ms.length + 1 < scanBound) (hv : ∀ i v, Pv i v → ∃ m t, ms[i]? = some m ∧ v = .str m t) :
    ∀ (k i : Nat) (s : Shared), n - i = k → i ≤ n → St i s → SetS w s.heap D (plusAll (ms.take i)) → (∀ s', Moved (D :: wr) G s s' → SetS w s'.heap D (plusAll ms) → R (.ok (.ret .none)) s') →
      codeAny (model P w) A (.builtin "set.update.loop" ⟨[.ref D, .ref I], []⟩) R s := by
  have nw : D ∉ wr := fun h => hD (W.sub _ h)
  have up : ∀ b ∈ wr, b ∈ D :: wr := fun b hb => List.mem_cons_of_mem _ hb
  intro k
  induction k with
  | zero =>
    intro i s hk hi hst hS hR
    obtain rfl : i = n := by omega
    refine codeAny_builtin F.entry_set_update_loop ?_
    rw [Around.under_plainId F.plain_set_update_loop _]
    show wpAny _ A.in1 (pyNext (.ref I) >>= _) _ _ s
    refine wpAny_bind (W.done s _ _ hst fun s' hm => ?_)
    show wpAny _ A.in1 (ret Value.none) _ _ s'
    rw [hn, List.take_length] at hS
    exact wpAny_pure (hR s' (hm.mono up) (hS.to fun o e => hm.heap D o nw e))
  | succ k ih =>
    intro i s hk hi hst hS hR
    have hlt : i < n := by omega
    refine codeAny_builtin F.entry_set_update_loop ?_
    rw [Around.under_plainId F.plain_set_update_loop _]
    show wpAny _ A.in1 (pyNext (.ref I) >>= _) _ _ s
    refine wpAny_bind (W.item i s _ _ hlt hst fun v s' hP hst' hm => ?_)
    obtain ⟨m, t, hz, rfl⟩ := hv i v hP
    have hS1 : SetS w s'.heap D (plusAll (ms.take i)) := hS.to fun o e => hm.heap D o nw e
    show wpAny _ A.in1 (holding [Value.str m t] (setAdd D (.str m t)) >>= _) _ _ s'
    refine wpAny_bind (wpAny_holding ?_)
    unfold setAdd
    refine wpAny_holding (wpAny_bind ((kS P w).pyHash (k := m) (PySem.strKind_is P w m t) ?_))
    have hl : (plusAll (ms.take i)).length + 1 < scanBound := by
      have := plusAll_len (ms.take i)
      have := List.length_take_le i ms
      omega
    refine setS_add (s := { s' with toks := s'.toks + 1 }) hS1 hl fun b h' hsb hS2 => ?_
    rw [← plusAll_snoc, ← take_snoc hz] at hS2
    have fr : ∀ b ∈ fp, ∀ o, s'.heap.get? b = some o → h'.get? b = some o := fun b hb o e => by
      rw [hsb.2 b (by rintro rfl; exact hD hb)]
      exact e
    refine wpAny_pure ⟨plainId_quiet F.plain_set_update_loop _, ih (i + 1) _ (by omega) hlt (W.frame _ s' _ _ hst' (Nat.le_succ _) fr) hS2 fun s'' hm2 hS3 => ?_⟩
    refine hR s'' (Moved.trans W.gtrans ((hm.mono up).then_heap (Nat.le_succ _) fun b o hb e => ?_) hm2) hS3
    rw [hsb.2 b (by rintro rfl; exact hb List.mem_cons_self)]
    exact e

/-- a set just made -/
abbrev freshSet (w : World) : Obj := { cls := .type "set", dict := none, data := .set #[] 0 (.fresh 0 0 (!w.params.followText "set-order")) }
theorem setS_fresh {h : Heap} (ho : h.get? a = some (freshSet w)) : SetS w h a [] :=
  ⟨_, #[], 0, _, ho, ⟨rfl, rfl, rfl⟩, rfl, (fun e he => by simp at he), by simp, List.nodup_nil, by decide, by rfl, List.Pairwise.nil, by
    show _ ∨ (!w.params.followText "set-order") = true
    cases w.params.followText "set-order"
    · exact .inr rfl
    · exact .inl rfl⟩
theorem call_setS {l : Addr} {items : Array Value} (ms : Lot) {Q : Value → Shared → Prop} (hh : A.handled = none) (hl : s.heap.IsList l items) (hit : Vals (ms.map V.str) items.toList) (hb : ms.length + 1 < scanBound)
    (h : ∀ (h' : Heap) (tk : Nat), SetS w h' s.heap.objs.size (plusAll ms) → (∀ b o, s.heap.get? b = some o → h'.get? b = some o) → Q (.ref s.heap.objs.size) { s with heap := h', toks := tk }) :
    wpAny (model P w) A (call (.type "set") [.ref l]) Q E s := by
  have hsz : items.size = ms.length := by
    have q := hit.length
    rw [List.length_map, Array.length_toList] at q
    exact q.symm
  obtain ⟨c, tl, hmro⟩ := F.called_set.mro
  have hmade := F.called_set.made
  have hsub := F.called_set.sub
  refine wpAny_call (codeAny_of_tree ?_)
  show wpAny _ _ (callAny (.type "set") _) _ _ _
  refine wpAny_pure ⟨Code.quiet_builtin _ (by decide +kernel), codeAny_builtin F.entry_type_call ?_⟩
  rw [Around.under_plain (weight_type_call_type "set" [.ref l] []) rfl]
  have h1 := F.called_set.notType
  have h2 := F.called_set.canCreate
  have hct := F.typeCall_set_1 (.ref l)
  repeat (any_goals (first | assumption | wp_step))
  refine codeAny_mono (L2.code_set_led1 (.ref l) (E := E) (Q₁ := fun obj s₁ => obj = .ref s.heap.objs.size ∧ s₁ = { s with heap := s.heap.push (freshSet w) }) ⟨rfl, rfl⟩) fun r s₁ hr => ?_
  cases r with
  | error e => exact hr
  | ok fl =>
    cases fl with
    | next => exact hr.elim
    | brk => exact hr.elim
    | cont => exact hr.elim
    | ret obj =>
      obtain ⟨rfl, rfl⟩ := hr
      have hS : (s.heap.push (freshSet w)).get? s.heap.objs.size = some (freshSet w) := Heap.get?_push_size _ rfl
      have hT : Shared.TypeIs { s with heap := s.heap.push (freshSet w) } (.ref s.heap.objs.size) "set" := ⟨_, hS, rfl⟩
      have hli := F.called_set.init.lookup
      have hbi := F.called_set.init.bind (.ref s.heap.objs.size)
      repeat (any_goals (first | assumption | wp_step))
      refine codeAny_mono (codeAny_call_builtin (R := wants (fun r s₂ => r = .none ∧ ∃ h' tk, s₂ = { s with heap := h', toks := tk } ∧ SetS w h' s.heap.objs.size (plusAll ms) ∧ (∀ b o, s.heap.get? b = some o → h'.get? b = some o)) E)
        F.called_set.init.plain F.entry_set_init (check_set_init_1 hT ?_)) fun r₂ s₂ hr₂ => ?_
      · obtain ⟨⟨ocls, odict, odata, oslots⟩, hol, hcl, nl, hdl⟩ := hl
        simp only at hcl hdl
        subst hcl; subst hdl
        have hlS : l < s.heap.objs.size := Heap.lt_size hol
        have hol' : (s.heap.push (freshSet w)).get? l = some { cls := .type "list", dict := odict, data := .seq items nl, slots := oslots } := Heap.get?_push_of_some _ hol
        have hsls := F.sub_list_set
        have hslf := F.sub_list_frozenset
        have hne : (Value.type "list" == Value.type "dict") = false := by decide
        have hl1 : (s.heap.push (freshSet w)).IsList l items := ⟨_, hol', rfl, nl, rfl⟩
        unfold Builtin.«set.__init__» noKeywords Builtin.Frozenset.updateFrom
        generalize hPI : pyIter = PI
        wp_walk
        subst hPI
        refine wpAny_pyIter_list hl1 (wpAny_bind (wpAny_runValue ?_))
        have hh3 : A.in1.in1.in1.handled = none := by simp [hh]
        have hneI : l ≠ (s.heap.push (freshSet w)).objs.size := by
          rw [Heap.size_push]
          exact Nat.ne_of_lt (Nat.lt_succ_of_lt hlS)
        have hDf : s.heap.objs.size ∉ [(s.heap.push (freshSet w)).objs.size, l] := by
          rw [Heap.size_push]
          simp only [List.mem_cons, List.not_mem_nil, or_false, not_or]
          exact ⟨Nat.ne_of_lt (Nat.lt_succ_self _), Nat.ne_of_gt hlS⟩
        have hval : ∀ (i : Nat) (v : Value), items[i]? = some v → ∃ m t, ms[i]? = some m ∧ v = .str m t := fun i v hv => by
          have hi : i < ms.length := by rw [← hsz]; exact (Array.getElem?_eq_some_iff.mp hv).1
          obtain ⟨u, hu, t, e⟩ := hit.get (i := i) (x := V.str ms[i]) (by simp [hi])
          rw [Array.getElem?_toList, hv] at hu
          cases hu
          exact ⟨ms[i], t, List.getElem?_eq_getElem hi, e⟩
        refine setS_loop ((Walks.list hh3 _ l hneI items).toS) s.heap.objs.size hDf ms hsz hb hval (items.size - 0) 0 _ (by omega) (Nat.zero_le _) ⟨⟨_, Heap.get?_push_size _ rfl, rfl, rfl⟩, (hl1.push _)⟩ (setS_fresh (Heap.get?_push_of_some _ hS)) ?_
        rintro ⟨h', g2, d', tk', os'⟩ hm hS'
        obtain rfl : g2 = s.gens := hm.gens
        obtain rfl : d' = s.drawn := hm.drawn
        obtain rfl : os' = s.os := hm.os
        show wpAny _ _ _ _ _ _
        refine wpAny_pure ?_
        show wpAny _ _ (ret Value.none) _ _ _
        refine wpAny_pure ⟨rfl, h', tk', rfl, hS', fun b o e => ?_⟩
        have hb0 : b < s.heap.objs.size := Heap.lt_size e
        refine hm.heap b o ?_ (Heap.get?_push_of_some _ (Heap.get?_push_of_some _ e))
        simp only [List.mem_cons, List.not_mem_nil, or_false, not_or]
        rw [Heap.size_push]
        exact ⟨Nat.ne_of_lt hb0, Nat.ne_of_lt (Nat.lt_succ_of_lt hb0)⟩
      · cases r₂ with
        | error e => exact hr₂
        | ok fl₂ =>
          cases fl₂ with
          | next => exact hr₂.elim
          | brk => exact hr₂.elim
          | cont => exact hr₂.elim
          | ret r =>
            obtain ⟨rfl, h', tk, rfl, hS', hk'⟩ := hr₂
            repeat (any_goals (first | assumption | wp_step))
            exact h _ _ hS' hk'
end
end K5
/-! K5t: sorted(set(..)) over the layer. -/
namespace K5
open PySem PySem.Spec PyProof.Rows L2

/-- a set of texts in the abstract heap -/
def SetSO (w : World) (a : Addr) (L : Lot) : HO := .ext fun h => SetS w h a L
section
variable {X : Cx}
theorem setS_obj {w : World} {P : Program} {H : Hp} {h : Heap} {a : Addr} {L : Lot} (R : SetS w h a L) : ObjOk P w H h a (SetSO w a L) := by
  have ⟨o, _, _, _, ho, _⟩ := R
  exact ⟨R, ⟨o, ho⟩, fun h1 h2 p k => SetS.to p k⟩
/-- set(a list of texts) -/
def rSetS (K : PySem.W.Frag) (w : World) : List V → Hp → VK → Prop := fun vs H Q => ∃ (a : Addr) (l : Lot), vs = [V.ref a] ∧ SqL K H a (l.map V.str) ∧ l.length ≤ 1000 ∧ ∀ p, H p = none → Q (.ref p) (upd H p (SetSO w p (plusAll l)))
theorem cr_setS (hc : X.calm = true) : CallR X (.type "set") (rSetS X.K X.w) := by
  intro pins s σ H vs us Q I r h
  obtain ⟨a, l, rfl, hs, hb, q⟩ := h
  rw [Vals.ref1 r]
  obtain ⟨its, rv, hl, hz⟩ := I.list hs
  refine call_setS l (I.ok.hd hc) hl.isList (by simpa using rv) (by have : scanBound = 4096 := rfl; omega) fun h' tk hS hk => ?_
  have hn : H s.heap.objs.size = none := I.hok.fresh (Nat.le_refl _)
  exact ⟨V.ref _, upd H s.heap.objs.size (SetSO X.w s.heap.objs.size (plusAll l)), I.laid (t' := tk) hk (Nat.le_refl _) (setS_obj hS), rfl, q _ hn⟩
theorem txts_each {w : World} : ∀ {vs : List Value} {es : List (Int × Value)}, (∀ e ∈ es, TxtE w e) → vs = es.map (·.2) → PySem.W.EachIs (fun v m => ∃ tk, v = Value.str m tk) vs (es.map txtOf)
  | _, [], _, e => by subst e; exact .nil
  | _, e :: es, g, h => by
    subst h
    obtain ⟨m, tk, h1, _⟩ := g e List.mem_cons_self
    have q : txtOf e = m := by unfold txtOf; rw [h1]
    refine .cons ⟨tk, ?_⟩ (txts_each (fun x hx => g x (List.mem_cons_of_mem _ hx)) rfl)
    rw [q]
    exact h1
theorem each_perm {α β : Type} {R : α → β → Prop} {us vs : List α} (p : us.Perm vs) : ∀ {bs : List β}, PySem.W.EachIs R vs bs → ∃ cs, PySem.W.EachIs R us cs ∧ cs.Perm bs := by
  induction p with
  | nil => intro bs h; cases h; exact ⟨[], .nil, .nil⟩
  | cons x _ ih =>
    intro bs h
    cases h with
    | cons r t =>
      obtain ⟨cs, h1, h2⟩ := ih t
      exact ⟨_ :: cs, .cons r h1, h2.cons _⟩
  | swap x y l =>
    intro bs h
    cases h with
    | cons r t =>
      cases t with
      | cons r2 t2 => exact ⟨_, .cons r2 (.cons r t2), List.Perm.swap _ _ _⟩
  | trans _ _ ih1 ih2 =>
    intro bs h
    obtain ⟨cs, h1, h2⟩ := ih2 h
    obtain ⟨ds, h3, h4⟩ := ih1 h1
    exact ⟨ds, h3, h4.trans h2⟩
theorem each_strs : ∀ {vs : List Value} {ms : Lot}, PySem.W.EachIs (fun v m => ∃ tk, v = Value.str m tk) vs ms → Vals (ms.map V.str) vs
  | _, _, .nil => .nil
  | _, _, .cons ⟨tk, e⟩ t => .cons ⟨tk, e⟩ (each_strs t)
theorem each_len {α β : Type} {R : α → β → Prop} : ∀ {vs : List α} {ms : List β}, PySem.W.EachIs R vs ms → vs.length = ms.length
  | _, _, .nil => rfl
  | _, _, .cons _ t => congrArg Nat.succ (each_len t)
theorem srt_same {l k : Lot} (h : l.Perm k) (d : k.Nodup) : srt l = srt k :=
  ss_ext (srt_ss (h.nodup_iff.mpr d)) (srt_ss d) fun m => by rw [srt_mem, srt_mem]; exact h.mem_iff
/-- sorted(a set of texts) -/
def rSortedS (w : World) : List V → Hp → VK → Prop := fun vs H Q => ∃ (a : Addr) (L : Lot), vs = [V.ref a] ∧ H a = some (SetSO w a L) ∧ ∀ p, H p = none → Q (.ref p) (upd H p (.lst ((srt L).map V.str)))
theorem cr_sortedS (hc : X.calm = true) (hu : X.A.units + 64 < cLine) : CallR X (.builtin "sorted") (rSortedS X.w) := by
  intro pins s σ H vs us Q I r h
  obtain ⟨a, L, rfl, ha, q⟩ := h
  obtain ⟨o, es, ep, t, ho, hx, hd, g, pm, nd, hb, hf, hr, hl⟩ := (I.hok a _ ha).1
  have sz : es.size = L.length := by
    have := pm.length_eq
    rw [List.length_map, Array.length_toList] at this
    exact this
  have hbe : es.size < scanBound := by omega
  rw [Vals.ref1 r]
  refine Calls.call_function_entry kind_sorted plain_sorted entry_sorted (args_sorted1 _) ?_
  unfold Builtin.«sorted»
  refine wpAny_bind (m := checkCount "sorted" 1 1 _) (wpAny_pure ?_)
  refine wpAny_bind (L2.collect_set (A := X.A.in1) (I.ok.hd hc) ⟨o, ho, hx.1, hd⟩ hf hbe hr hl fun s1 vs k1 hz g1 o1 pv => ?_)
  obtain ⟨ms, em, pms⟩ := each_perm pv (txts_each g rfl)
  have pL : ms.Perm L := pms.trans pm
  have hvl : vs.length = L.length := (each_len em).trans pL.length_eq
  have hsl : vs.length ≤ sizeLine := by
    have : scanBound = 4096 := rfl
    rw [hvl, sizeLine_eq]
    omega
  refine wpAny_bind (wpAny_newList ?_ hsl)
  have hoL : (s1.heap.push (seqObj "list" vs.toArray 0)).get? s1.heap.objs.size = some (seqObj "list" vs.toArray 0) := Heap.get?_push_size _ rfl
  refine wpAny_bind (wpAny_holding (PySem.W.list_sort_data (enc := fun m : Str => PyData.str m) (R := fun v m => ∃ tk, v = Value.str m tk) hoL em (em.mono fun v m ⟨tk, e⟩ => ⟨[], by rw [e]; exact Reads.str m tk, by simp⟩)
    (PySem.W.AllAlike.of fun b c => by simp [PySem.W.alike]) (PySem.W.Sortable.others (enc := fun m : Str => PyData.str m) fun b => ⟨(fun z => nomatch z), (fun xs z => nomatch z)⟩) (by rw [← each_len em]; exact hsl)
    (fun b _ => by simp only [PyData.depth, Around.in1_units]; omega) fun out hol eo => ?_))
  rw [sle_eq] at eo
  have eo' : Vals ((srt ms).map V.str) out := each_strs eo
  have e1 : srt ms = srt L := srt_same pL nd
  rw [e1] at eo'
  obtain ⟨c, hc'⟩ := sortedHeap_at (vs := vs) (out := List.toArray out) hoL
  refine wpAny_pure ⟨_, rfl, ?_⟩
  have hn : H s1.heap.objs.size = none := I.hok.fresh hz
  have hlen : ((srt L).map V.str).length ≤ sizeLine := by
    rw [List.length_map, srt_len, ← hvl]
    exact hsl
  have keep : ∀ b u, s.heap.get? b = some u → (sortedHeap (s1.heap.push (seqObj "list" vs.toArray 0)) s1.heap.objs.size vs (List.toArray out)).get? b = some u := fun b u e => by
    have q := k1 b u e
    have hlt := Heap.lt_size q
    rw [sortedHeap_old (Nat.ne_of_lt hlt) (by rw [size_push']; exact Nat.lt_succ_of_lt hlt)]
    exact Heap.get?_push_of_some _ q
  refine ⟨V.ref s1.heap.objs.size, upd H s1.heap.objs.size (.lst ((srt L).map V.str)), ?_, rfl, q _ hn⟩
  exact I.call' (ch := []) o1 (Un.laid keep hz hn) (I.hok.laid keep hz ⟨hlen, out, c, eo', hc'⟩) (by show AllBare s1.gens; rw [g1]; exact I.bare) (fun _ z => nomatch z)
end
end K5
/-! K5u: sorted by rank; repr; in by an own __contains__; xs[i] op= e; promises that know no repr runs. -/
namespace K5
open PySem PySem.Spec PyProof.Rows L2

/-! ### the text by places -/
def top (i : Nat) : Stmt := PySem.Challenge.pw_thesesothose_k05_whole_the_list_above_a.main.body.getD i (.Pass ⟨0, 0, 0, 0⟩)

/-! ### sorted(lots, key=rank) -/
abbrev sRank : Stmt := top 3
section
variable {P : Program} {w : World} {K : PySem.W.Frag} {A : Around} {E : Value → Shared → Prop} {s : Shared} {f : Addr} {fd : FuncData}
theorem reads_strs {h : Heap} : ∀ {l : Lot} {us : List Value}, Vals (l.map V.str) us → ReadsAll h us (l.map PyData.str) []
  | [], _, .nil => .nil
  | m :: l, _, .cons ⟨t, e⟩ r => by
    subst e
    exact .cons (as := []) (Reads.str m t) (reads_strs r)
/-- rank(lot): what it makes, over the bare heap -/
theorem rank_turn {base : Heap} {mg : Str → Option Value} (F : Fun K "rank" "rank" sRank f fd) (M : Mod K mg base) (hk : ∀ b o, base.get? b = some o → s.heap.get? b = some o) (hl : mg "len" = none) (hd : A.depth < recursionLimit)
    {t : Addr} {l : Lot} {its : List Value} (hr : Vals (l.map V.str) its) (ht : IsTup s.heap t its.toArray) (hz : l.length ≤ 1000) :
    wpAny (model P w) A (call (.ref f) [.ref t]) (PySem.W.KeyPure (keyD l) s) (fun _ _ => False) s := by
  obtain ⟨oc, od, kV, doc, pm, an, cdv, ct, osl, rfl, lk, hcd⟩ := F.ex
  have KX : K.In s.heap := M.kin.keeps hk
  have lim : s.heap.NoLimit := M.nolimit.keeps hk
  refine wpAny_call (Att.call_fn (name := "rank") (qual := "rank") (params := defArgs sRank) (body := defBody sRank) (scope := defScope sRank) (binds := [("lot", Value.ref t)]) KX lim lk hcd hd (.of_eq rfl) rfl (fun s₁ x => ?_) rfl rfl rfl)
  obtain ⟨h1, tk, rfl, keep⟩ := x.done
  have hn := x.toInCall.ns
  have kindLot : (envOfC "rank" (defScope sRank) s.heap.objs.size f cdv).kindOf "lot" = some .local := rfl
  have lot_ : ∀ (tk' : Nat) (h' : Heap) (kp : ∀ b o, h1.get? b = some o → h'.get? b = some o) (pos : Pos) (Q : Value → Shared → Prop) (E' : Value → Shared → Prop), Q (.ref t) { s with heap := h', toks := tk' } →
      wpAny (model P w) (A.deeper (envOfC "rank" (defScope sRank) s.heap.objs.size f cdv)) (eval (.Name "lot" pos) (envOfC "rank" (defScope sRank) s.heap.objs.size f cdv)) Q E' { s with heap := h', toks := tk' } := fun tk' h' kp pos Q E' q =>
    wpAny_Name (wpAny_loadName_local (v := Value.ref t) rfl kindLot (hn.keeps kp) (by show bindL _ [("lot", Value.ref t)] _ "lot" = _; rfl) q) rfl
  have up : ∀ b o, s.heap.get? b = some o → h1.get? b = some o := keep
  obtain ⟨mb, hb1, hb2⟩ := M.blt
  have tup1 : IsTup h1 t its.toArray := let ⟨o, e, c⟩ := ht; ⟨o, up _ _ e, c⟩
  have lenIts : its.length = l.length := by
    have := hr.length
    rw [List.length_map] at this
    exact this.symm
  refine wpAny_execs_cons (wpAny_Return_some (wpAny_Tuple_spliced (Calls.spliced_cons ?_)))
  refine wpAny_Call_Name_kw (Calls.Name_function_global rfl rfl (Calls.loadGlobal_builtin ((M.glob.keeps hk).keeps up) hl ((hb1.keeps hk).keeps up) ((hb2 "len" (by decide)).trans boot_len) ?_) rfl)
  refine PyProof.Rows.callWith_builtin1 (Calls.spliced_cons (lot_ _ _ (fun _ _ e => e) _ _ _ (Calls.spliced_nil ?_))) rfl rfl
  refine PyProof.Rows.len_tuple tup1 (by have := line63; simp only [List.size_toArray]; omega) ?_
  refine Calls.spliced_cons (lot_ _ _ (fun _ _ e => e) _ _ _ (Calls.spliced_nil ⟨by show 2 ≤ sizeLine; decide, ?_⟩))
  refine ⟨_, _, rfl, fun b o e => Heap.get?_push_of_some _ (up b o e), ?_⟩
  have e3 : ((its.toArray.size : Nat) : Int) = (l.length : Int) := by rw [List.size_toArray, lenIts]
  obtain ⟨o, e, c, n, dd⟩ := tup1
  have nu : ∀ ob : Obj, Reads (h1.push ob) (.ref t) (lotD l) [] := fun ob => Reads.tuple (Heap.get?_push_of_some _ e) c dd (reads_strs hr)
  show Reads _ (.ref h1.objs.size) (.tuple [.int (l.length : Int), lotD l]) []
  rw [← e3]
  exact Reads.tuple (Heap.get?_push_size _ rfl) rfl rfl (.cons (as := []) (Reads.int _ _) (.cons (as := []) (nu _) .nil))
end
/-- sorted(lots, key=rank) -/
def rSrtK (K : PySem.W.Frag) (f : Addr) : List V → List V → Hp → VK → Prop := fun vs zs H Q => ∃ (a : Addr) (xs : List V) (ls : List Lot), vs = [V.ref a] ∧ zs = [V.ref f] ∧ SqL K H a xs ∧ Each LotAt H xs ls ∧ (∀ l ∈ ls, l.length ≤ 1000) ∧
  ∀ p ys, H p = none → Each LotAt H ys (ls.mergeSort leL) → Q (.ref p) (upd H p (.lst ys))
section
variable {X : Cx} {f : Addr} {fd : FuncData}
theorem cr_srtK (F : Fun X.K "rank" "rank" sRank f fd) (hl : X.mg "len" = none) {k : Nat} (hr : Room k X.A) : CallRK X (.builtin "sorted") [Str.ofString "key"] (rSrtK X.K f) := by
  intro pins s σ H vs zs us ws Q I r rz h
  obtain ⟨a, xs, ls, rfl, rfl, hs, he, hb, q⟩ := h
  rw [Vals.ref1 r]
  obtain ⟨w1, rfl, e1⟩ := vals1 rz
  obtain rfl : w1 = Value.ref f := e1
  obtain ⟨its, rv, hlst, hz⟩ := I.list hs
  have e2 := eachIs_of rv he
  have hbl : ls.length ≤ sizeLine := by rw [← he.length]; exact hz
  refine PySem.W.sorted_key_data (b := false) (R := RelB (LotAt H)) keyD hlst.isList e2 (PySem.W.AllAlike.of alike_keys) (PySem.W.Sortable.tuples fun b => ⟨_, _, rfl⟩) hbl (fun l _ => by have := key_depth l; have := hr.units; omega)
    (PyProof.Rows.ksk_s1 _ _) (fun _ => PyProof.Rows.ksk_l1 _ _) (fun _ => rfl) (fun v l hR hx h tk kp => ?_) fun out c h' tk kp hn hD ho eo => ?_
  · obtain ⟨x, rx, t, rfl, ht⟩ := hR
    obtain rfl : v = Value.ref t := rx
    obtain ⟨_, its2, r2, o, ho, hc, n, hd⟩ := I.hok t _ ht
    exact rank_turn (A := X.A.in1.in1) (s := { s with heap := h, toks := tk }) F I.ok.mod (fun b o e => kp b o (I.bk b o e)) hl hr.depth r2 ⟨o, kp _ _ ho, hc, n, hd⟩ (hb l hx)
  · obtain ⟨ys, v1, v2⟩ := eachIs_back eo
    have hnew : H (s.heap.objs.size + 1) = none := I.hok.fresh (Nat.le_succ _)
    have hlen : ys.length ≤ sizeLine := by
      rw [v2.length, List.length_mergeSort]
      exact hbl
    exact ⟨V.ref _, upd H (s.heap.objs.size + 1) (.lst ys), I.laid (t' := tk) kp (Nat.le_succ _) ⟨hlen, out, c, v1, hD⟩, rfl, q _ _ hnew v2⟩
end

/-! ### repr, where none runs -/
def rRepr (K : PySem.W.Frag) : List V → Hp → VK → Prop := fun vs H Q => ∃ (a : Addr) (d : PyData), vs = [V.ref a] ∧ Dp K H (.ref a) d ∧ d.showable = true ∧ d.hasDict = false ∧ d.depth ≤ 60 ∧ d.shown.length ≤ sizeLine ∧ Q (.str d.shown) H
section
variable {X : Cx}
theorem cr_repr (hg : X.A.guards = some []) (hu : X.A.units + 64 < cLine) : CallR X (.builtin "repr") (rRepr X.K) := by
  intro pins s σ H vs us Q I r h
  obtain ⟨a, d, rfl, hd, hs, hn, hz, hl, q⟩ := h
  rw [Vals.ref1 r]
  obtain ⟨as, hr⟩ := Dp.reads I d (.ref a) (.ref a) hd rfl
  exact repr_of_reads' hr hs (fun e => by rw [hn] at e; cases e) hg (by omega) (fun _ _ e => e) (fun h' u tk hk => ⟨.str d.shown, H, I.kept (t' := tk) hk, ⟨u, rfl⟩, q⟩) hl

/-! ### x in o, by an own __contains__ -/
structure InO (K : PySem.W.Frag) (C g : Addr) : Prop where
  at_ : PySem.W.findIn K (.ref C) "__contains__" = some (some (.ref g))
  fn : PySem.W.isFn K (.ref g) = true
def rInO (C : Addr) (sp : Sp) : R2 := fun x y H Q => ∃ a dx fs, y = V.ref a ∧ H a = some (.ins C dx fs) ∧ sp [V.ref a, x] H (fun v H' => ∃ b, v = .bl b ∧ Q (.bl b) H') E0
theorem or_inO {C g : Addr} {ps : List Str} {fd : FuncData} {k : Nat} {sp : Sp} (c : InO X.K C g) (F : FnOk X.prog X.w X.K X.mg X.base CX0 k g fd ps sp) (hr : Room k X.A) (hb : Binds X.K fd ps []) : OpR X (compareOp .In) (rInO C sp) := by
  intro pins s σ H x y v u Q I rx ry h
  obtain ⟨a, dx, fs, rfl, ha, q⟩ := h
  obtain rfl : u = Value.ref a := ry
  obtain ⟨mA, O, _⟩ := ins_get I.hok ha
  obtain ⟨od, J, _⟩ := O.look
  show wpAny _ _ (contains (.ref a) v >>= fun b => pure (Value.bool b)) _ _ s
  refine wpAny_bind ?_
  unfold contains
  refine wpAny_holding ?_
  rw [stdlibNamesSay?_ref]
  unfold callSpecialUnlessNone? specialOf
  refine wpAny_bind (wpAny_bind (J.type.here ((PySem.W.looks_findIn I.kIn c.at_).here ?_)))
  rw [if_neg (show ¬ ((some (Value.ref g) == some Value.none) = true) from fun z => by simp at z)]
  refine wpAny_bind (wpAny_bind (wpAny_bind (J.type.here ((PySem.W.looks_findIn I.kIn c.at_).here ?_))))
  refine wpAny_holding (wpAny_bind ((PySem.W.bind_fn I.kIn (.ref a) (beq_iff_eq.mp c.fn)).here ?_))
  dsimp only
  rw [if_neg (show ¬ ((Value.ref g == Value.none) = true) from fun z => by simp at z)]
  refine wpAny_bind (thn (run_fn (us := [.ref a, v]) (vs := [V.ref a, x]) F hr hb .nil pass0 I (.cons rfl (.cons rx .nil)) q) fun z s' ⟨zv, H', I', rz, b, e, q'⟩ => ?_)
  subst e
  obtain rfl : z = Value.bool b := rz
  exact wpAny_pure (wpAny_truthy_bool (wpAny_pure ⟨.bl b, H', I', rfl, q'⟩))

/-! ### xs[i] op= e -/
theorem pget_list : PGet X (fun x y H Q => ∃ p xs i v, x = V.ref p ∧ y = V.int i ∧ SqL X.K H p xs ∧ 0 ≤ i ∧ xs[i.toNat]? = some v ∧ Q v H) := by
  intro pins s σ H o i ov iv Q I ro ri h
  obtain ⟨p, xs, n, v, rfl, rfl, hq, h0, he, q⟩ := h
  cases ro
  obtain ⟨t, rfl⟩ := ri
  obtain ⟨its, r, pl, hz⟩ := I.list hq
  obtain ⟨u, hu, ru⟩ := r.get he
  have hlt := (List.getElem?_eq_some_iff.mp he).1
  have hn := line63
  exact wpAny_getItem_list pl.isList h0 (by omega) (by simpa using hu) ⟨v, H, I, ru, q⟩
end
end K5
/-! K5g: a def called where no repr runs: its promise, its call, the law's end. -/
namespace K5
open PySem PySem.Spec PyProof.Rows L2

/-- as FnOk without exceptions, but the call is known to stand under no repr -/
structure FnG (P : Program) (w : World) (K : PySem.W.Frag) (mg : Str → Option Value) (base : Heap) (k : Nat) (f : Addr) (fd : FuncData) (ps : List Str) (sp : Sp) : Prop where
  len : ∀ vs H Q, sp vs H Q E0 → vs.length = ps.length
  go : ∀ (A : Around) (outer : List Env) (s : Shared) (H : Hp) (args : Args) (us : List Value) (vs : List V) (Q : VK), Room k A → A.guards = some [] → Env0 P w K mg base A outer s H → BindsTo s fd args (ps.zip us) → Vals vs us → sp vs H Q E0 →
    codeAny (model P w) A (.call (.ref f) args) (CR CX0 outer P w H s Q E0) s
section
variable {P : Program} {w : World} {K : PySem.W.Frag} {mg : Str → Option Value} {base : Heap} {x qual : Str} {st : Stmt} {f : Addr} {fd : FuncData} {N ps : List Str} {k : Nat} {sp : Sp}
theorem fnG_of (F : Fun K x qual st f fd) (S : FnScope N ps (defScope st)) (len : ∀ vs H Q, sp vs H Q E0 → vs.length = ps.length)
    (hb : ∀ (cdv : Value) (A : Around) (outer : List Env) (s : Shared) (H : Hp) (vs : List V) (Q : VK), Room k (A.deeper (envOfC qual (defScope st) s.heap.objs.size f cdv)) → A.guards = some [] → sp vs H Q E0 →
      ∃ t, PSs (cxOf CX0 P w K mg base N qual (defScope st) f cdv A outer s H E0).nox (defBody st) t ∧ t { nx := fun _ H' => Q .non H', rt := Q } (start N vs) H) : FnG P w K mg base (k + 1) f fd ps sp := by
  obtain ⟨oc, od, kV, doc, pm, an, cdv, ct, osl, rfl, lk, hcd⟩ := F.ex
  constructor
  · exact len
  · intro A outer s H args us vs Q hr hg e0 hbd r hsp
    have KX : K.In s.heap := e0.mod.kin.keeps fun b o e => (e0.bs b o e).1
    have kinds : ((ps.zip us).all fun y => (defScope st).names.lookup y.1 == some .local || (defScope st).names.lookup y.1 == some .cell) = true := List.all_eq_true.mpr fun y hy => by
      obtain ⟨n, v⟩ := y
      rcases S.par n (List.of_mem_zip hy).1 with q | q
      · simp [q]
      · simp [q]
    refine Att.call_fn KX (e0.mod.nolimit.keeps fun b o e => (e0.bs b o e).1) lk hcd hr.depth hbd kinds (fun s1 hx => ?_) S.co S.gen S.kind
    obtain ⟨t, ht, q⟩ := hb cdv A outer s H vs Q (hr.deeper _) hg hsp
    have J := inv_start (CX := CX0) (qual := qual) (f := f) (cd := cdv) (outer := outer) (H := H) (E := E0) S hr.hd e0 (len _ _ _ hsp) r hx
    refine wpAny_mono (ht.nox.run [] s1 (start N vs) H _ J q) (fun fl s' z => ?_) fun e s' z => z
    cases fl with
    | brk => obtain ⟨_, _, _, z⟩ := z; exact z.elim
    | cont => obtain ⟨_, _, _, z⟩ := z; exact z.elim
    | next =>
      obtain ⟨_, H', I', z⟩ := z
      exact ⟨V.non, H', I'.os, I'.bare, I'.base, I'.hok, rfl, z⟩
    | ret u =>
      obtain ⟨v, _, H', I', rv, z⟩ := z
      exact ⟨v, H', I'.os, I'.bare, I'.base, I'.hok, rv, z⟩
end
section
variable {X : Cx} {k : Nat} {f : Addr} {fd : FuncData} {ps : List Str} {sp : Sp} {x : Str} {p pos : Pos} {e : Expr} {es : List Expr} {t : TA}
/-- f(e, ..) of such a def -/
theorem pe_callG (G : FnG X.prog X.w X.K X.mg X.base k f fd ps sp) (hr : Room k X.A) (hgu : X.A.guards = some []) (hg : Gl X x) (hm : X.mg x = some (.ref f)) (hk : PySem.W.keepIn X.K (.ref f) = true) (hb : Binds X.K fd ps [])
    (ha : PA X (e :: es) t) (hdb : (x == ("__debug__" : Str)) = false := by decide) (he : starEach (e :: es) X.env = (false, eval e X.env) :: starEach es X.env := by rfl) (hpl : (backTo pos (starEach es X.env)).any (·.1) = false := by rfl) :
    PE X (.Call (.Name x p) (e :: es) [] pos) (tCall sp [] E0 t) := by
  refine ⟨fun pins s σ H Q I h => wpAny_Call_Name_kw (ld_glob I hg hm ?_ hdb)⟩
  refine PySem.W.callWith_K (h₀ := X.base) I.ok.mod.kin hk (thn (ha.run pos pins s σ H _ I h) fun us s1 z => ?_) he hpl
  obtain ⟨vs, H1, I1, r, q⟩ := z
  rw [List.append_nil] at q
  have hl : (us ++ []).length = ps.length := by rw [List.append_nil, ← r.length]; exact G.len _ _ _ q
  have bd := hb s1 us I1.kIn hl
  rw [List.append_nil] at bd
  refine ⟨I1.kIn, wpAny_call (codeAny_mono (G.go X.A X.stack s1 H1 ⟨us, []⟩ us vs Q hr hgu I1.env0 bd r q) fun res s' z => ?_)⟩
  cases res with
  | error er => exact (z : False).elim
  | ok fl =>
    cases fl with
    | ret u => exact I1.after z
    | next => exact (z : False).elim
    | brk => exact (z : False).elim
    | cont => exact (z : False).elim
end

/-! ### the law's call -/
section
variable {P : Program} {w : World} {K : PySem.W.Frag} {mg mb : Str → Option Value} {k : Nat} {fa a : Addr} {fd : FuncData} {x : Str} {sp : Sp} {s₁ : Shared} {vs : List Value} {ns : List Int}
/-- nothing but the script is tracked, and it is none of the module's own objects -/
structure Bare (K : PySem.W.Frag) (a : Addr) (H : Hp) : Prop where
  one : ∀ b, H b ≠ none → b = a
  out : H a ≠ none → K.lookup a = none
theorem bare_env {H : Hp} (KX : K.In s₁.heap) (hns : s₁.heap.Ns mainGlobals mg) (hb : s₁.heap.Ns builtinsNs mb) (hbb : ∀ x : Str, x ≠ "__name__" → mb x = bootBuiltins x) (hlim : s₁.heap.NoLimit) (hg : s₁.gens = #[])
    (ha : s₁.heap.get? a = some { cls := .type "list", data := .seq vs.toArray }) (B : Bare K a H) (hok : HOk P w H s₁.heap) : Env0 P w K mg (hidT s₁.heap H) callerA [] s₁ H := by
  have free : ∀ {b : Addr} {o : Obj}, s₁.heap.get? b = some o → (∀ (ds : Data), o.data = ds → ds ≠ Data.seq vs.toArray) → H b = none := fun {b o} e hd => by
    rcases h : H b with _ | u
    · rfl
    · exfalso
      obtain rfl := B.one b (by rw [h]; exact fun z => nomatch z)
      rw [ha] at e
      obtain rfl := Option.some.inj e
      exact hd _ rfl rfl
  have spaces : ∀ {b : Addr} {m : Str → Option Value}, s₁.heap.Ns b m → (hidT s₁.heap H).Ns b m := fun {b m} n => by
    obtain ⟨o, es, ep, e, d, rest⟩ := n
    exact ⟨o, es, ep, hidT_get e (free e fun ds q z => by rw [← q, d] at z; cases z), d, rest⟩
  have kin : K.In (hidT s₁.heap H) := fun b o e => hidT_get (KX b o e) (by
    rcases h : H b with _ | u
    · rfl
    · exfalso
      obtain rfl := B.one b (by rw [h]; exact fun z => nomatch z)
      rw [B.out (by rw [h]; exact fun z => nomatch z)] at e
      cases e)
  refine ⟨rfl, ⟨kin, spaces hns, ⟨mb, spaces hb, hbb⟩, ?_⟩, fun b o e => of_hidT e, Nat.le_of_eq (hidT_size _ _), trivial, fun b z => ?_, hok, .of_eq hg⟩
  · obtain ⟨mc, n1, n2⟩ := hlim
    exact ⟨mc, spaces n1, n2⟩
  · exact absurd (show b ∈ ([] : List Addr) from z) List.not_mem_nil
theorem bare_run {H : Hp} (KX : K.In s₁.heap) (hns : s₁.heap.Ns mainGlobals mg) (hb : s₁.heap.Ns builtinsNs mb) (hbb : ∀ x : Str, x ≠ "__name__" → mb x = bootBuiltins x) (hlim : s₁.heap.NoLimit) (hg : s₁.gens = #[])
    (ha : s₁.heap.get? a = some { cls := .type "list", data := .seq vs.toArray }) (B : Bare K a H) (hok : HOk P w H s₁.heap) (hO : Only H) (hS : SqL K H a (ns.map V.int)) (hr : Room k callerA)
    (F : ∀ base : Heap, K.In base → base.Ns mainGlobals mg → FnG P w K mg base k fa fd [x] sp) (hbd : ∀ (s : Shared) (u : Value), BindsTo s fd ⟨[u], []⟩ [(x, u)])
    (hsp : ∀ H : Hp, Only H → SqL K H a (ns.map V.int) → sp [.ref a] H (fun v _ => v = .bl true) E0) :
    codeAny (model P w) callerA (.call (.ref fa) ⟨[.ref a], []⟩) (fun r s' => r = .ok (.ret (.bool true)) ∧ OldK s₁.heap s'.heap ∧ s'.os = s₁.os ∧ AllBare s'.gens) s₁ := by
  have e0 := bare_env (P := P) (w := w) KX hns hb hbb hlim hg ha B hok
  refine codeAny_mono ((F _ e0.mod.kin e0.mod.glob).go callerA [] s₁ H ⟨[.ref a], []⟩ [.ref a] [.ref a] _ hr rfl e0 (hbd s₁ (.ref a)) (.cons rfl .nil) (hsp H hO hS)) fun res s' z => ?_
  cases res with
  | error e => exact (z : False).elim
  | ok fl =>
    cases fl with
    | next => exact (z : False).elim
    | brk => exact (z : False).elim
    | cont => exact (z : False).elim
    | ret u =>
      obtain ⟨v, H', z1, z2, z3, z4, z5, z6⟩ := z
      obtain rfl : v = .bl true := z6
      obtain rfl : u = Value.bool true := z5
      refine ⟨rfl, OldK.of_keep fun b o e => ?_, z1, z2⟩
      rcases hO b with n | ⟨ob, xs, n⟩
      · exact z3.keep b o e n (by intro z; exact absurd (show b ∈ ([] : List Addr) from z) List.not_mem_nil) List.not_mem_nil
      · have n2 := z3.frzs b ob _ n
        have y1 : s₁.heap.get? b = some ob := (hok b _ n).1
        have y2 : s'.heap.get? b = some ob := (z4 b _ n2).1
        rw [e] at y1
        rw [y2, ← y1]
end
theorem law_go {P : Program} {w : World} {K : PySem.W.Frag} {mg mb : Str → Option Value} {k : Nat} {fa a : Addr} {fd : FuncData} {x : Str} {sp : Sp} {s₁ : Shared} {vs : List Value} {ns : List Int}
    (KX : K.In s₁.heap) (hns : s₁.heap.Ns mainGlobals mg) (hb : s₁.heap.Ns builtinsNs mb) (hbb : ∀ x : Str, x ≠ "__name__" → mb x = bootBuiltins x) (hlim : s₁.heap.NoLimit) (hg : s₁.gens = #[])
    (ha : s₁.heap.get? a = some { cls := .type "list", data := .seq vs.toArray }) (hi : IntsAre vs ns) (hl : ns.length ≤ sizeLine) (hr : Room k callerA)
    (F : ∀ base : Heap, K.In base → base.Ns mainGlobals mg → FnG P w K mg base k fa fd [x] sp) (hbd : ∀ (s : Shared) (u : Value), BindsTo s fd ⟨[u], []⟩ [(x, u)])
    (hsp : ∀ H : Hp, Only H → SqL K H a (ns.map V.int) → sp [.ref a] H (fun v _ => v = .bl true) E0) :
    codeAny (model P w) callerA (.call (.ref fa) ⟨[.ref a], []⟩) (fun r s' => r = .ok (.ret (.bool true)) ∧ OldK s₁.heap s'.heap ∧ s'.os = s₁.os ∧ AllBare s'.gens) s₁ := by
  have rv := vals_ints hi
  have lv : vs.length = ns.length := by
    have q := rv.length
    rw [List.length_map] at q
    exact q.symm
  rcases hk : K.lookup a with _ | o
  · refine bare_run (H := fun b => if b = a then some (.frz { cls := .type "list", data := .seq vs.toArray } (.lst (ns.map V.int))) else none) KX hns hb hbb hlim hg ha ⟨fun b z => ?_, fun _ => hk⟩ (fun b u z => ?_) (fun b => ?_) (.inl (.inr ⟨{ cls := .type "list", data := .seq vs.toArray }, if_pos rfl⟩)) hr F hbd hsp
    · by_cases c : b = a
      · exact c
      · exact absurd (if_neg c) z
    · by_cases c : b = a
      · have q := (if_pos c).symm.trans z
        subst c
        obtain rfl := Option.some.inj q
        exact ⟨ha, by rw [List.length_map]; exact hl, vs, _, rv, ha⟩
      · have q := (if_neg c).symm.trans z
        cases q
    · by_cases c : b = a
      · exact .inr ⟨_, _, if_pos c⟩
      · exact .inl (if_neg c)
  · have e := KX a o hk
    rw [ha] at e
    obtain rfl := Option.some.inj e
    refine bare_run (H := fun _ => none) KX hns hb hbb hlim hg ha ⟨fun b z => absurd rfl z, fun z => absurd rfl z⟩ (fun b u z => nomatch z) (fun _ => .inl rfl) (.inr ⟨_, vs.toArray, _, hk, rfl, rfl, rfl, ?_, by simpa using rv⟩) hr F hbd hsp
    rw [List.size_toArray, lv]
    exact hl
theorem walk_go {l : PySem.W.OpenLaw} {n k : Nat} {q : Program} {loose : List Str} {XP : (Str → Option Value) → Heap → Prop} {YP : World → Heap → Prop} {d : DefRec} {K : Params → PySem.W.Frag} {sp : World → Sp} {x : Str}
    (hn : l.most = some n) (hn2 : n ≤ sizeLine) (hdf : d.params.defaults = []) (hr : Room k callerA) (hY : ∀ (w : World) (h : Heap), YP w h → (K w.params).In h)
    (F : ∀ (w : World) (mg : Str → Option Value) (fa : Addr) (h : Heap), (K w.params).In h → h.Ns mainGlobals mg → mg d.name = some (.ref fa) →
      ∃ fd : FuncData, (∀ (s : Shared) (u : Value), BindsTo s fd ⟨[u], []⟩ [(x, u)]) ∧ ∀ base : Heap, (K w.params).In base → base.Ns mainGlobals mg → FnG l.prog w (K w.params) mg base k fa fd [x] (sp w))
    (hsp : ∀ (w : World) (H : Hp) (a : Addr) (ns : List Int), ns.length ≤ n → Only H → SqL (K w.params) H a (ns.map V.int) → sp w [.ref a] H (fun v _ => v = .bl true) E0) :
    PySem.W.WalkO q loose XP YP l.row.toRowW d [] (fun f vs => PySem.call f vs) := by
  refine Att.attach_call hn hdf fun w s₀ s₁ mg mb fa o pm cd doc a vs ns G Y ho hd hcd hmg hobj hints hlen hg => ?_
  have KX := hY w _ Y
  obtain ⟨fd, hb, hF⟩ := F w mg fa _ KX G.T.g hmg
  exact law_go KX G.T.g G.T.b G.T.builtins G.T.nolimit hg hobj hints (Nat.le_trans hlen hn2) hr hF hb fun H hO hS => hsp w H a ns hlen hO hS
end K5
/-! K5h: comprehensions by what they gather; defs at hand. -/
namespace K5
open PySem PySem.Spec PyProof.Rows L2

/-! ### comprehensions -/
section
variable {γ : Type} {g : TG} {tt : TT} {te : TE} {vs : List Nat} {σ : L2.St} {H1 : Hp} {D : Addr}
/-- what stands at turn i: the list at D holds what is gathered -/
def Gath (Go : Hp → Prop) (Rg : At γ) (P : Nat → List γ → Prop) (D : Addr) (i : Nat) (H : Hp) : Prop :=
  ∃ acc cs, Go H ∧ H D = some (.lst acc) ∧ Each Rg H acc cs ∧ P i cs ∧ acc.length ≤ i
/-- one turn -/
def Turn1 (g : TG) (tt : TT) (te : TE) (vs : List Nat) (σ : L2.St) (D : Addr) (Go : Hp → Prop) (Rg : At γ) (P : Nat → List γ → Prop) (i : Nat) (x : V) : Prop :=
  ∀ (H' : Hp) (cs : List γ) (KY : V → Hp → Prop) (KN : Hp → Prop), Go H' → (∃ ac, H' D = some (.lst ac)) → P i cs →
    (∀ c y H4, P (i + 1) (cs ++ [c]) → Go H4 → TK H' H4 → H4 D = H' D → Rg H4 y c → KY y H4) → (∀ H3, P (i + 1) cs → Go H3 → TK H' H3 → H3 D = H' D → KN H3) →
    g x (wipe σ vs) H' fun σ2 H2 => wipe σ2 vs = wipe σ vs ∧ tt σ2 H2 fun b H3 => if b = true then te σ2 H3 KY else KN H3
theorem gath_turn {Go : Hp → Prop} {Rg : At γ} {P : Nat → List γ → Prop} {n : Nat} (hn : n < sizeLine) (S : Stays Rg) (gD : ∀ H o, Go H → (∃ xs, H D = some (.lst xs)) → Go (upd H D o)) {i : Nat} {x : V} (hi : i < n) (T : Turn1 g tt te vs σ D Go Rg P i x) {H : Hp} (h : Gath Go Rg P D i H) :
    g x (wipe σ vs) H fun σ2 H2 => wipe σ2 vs = wipe σ vs ∧ tt σ2 H2 fun b H3 => if b = true then te σ2 H3 fun y H4 => ∃ acc, H4 D = some (.lst acc) ∧ acc.length < sizeLine ∧ Gath Go Rg P D (i + 1) (upd H4 D (.lst (acc ++ [y]))) else Gath Go Rg P D (i + 1) H3 := by
  obtain ⟨acc, cs, h1, h2, h3, h4, h5⟩ := h
  refine T H cs _ _ h1 ⟨acc, h2⟩ h4 (fun c y H4 p go tk kp r => ?_) fun H3 p go tk kp => ?_
  · rw [h2] at kp
    have tk2 : TK H4 (upd H4 D (.lst (acc ++ [y]))) := TK.put (.inr ⟨acc, kp⟩)
    refine ⟨acc, kp, by omega, acc ++ [y], cs ++ [c], gD _ _ go ⟨acc, kp⟩, upd_same, each_snoc (S.each tk2 (S.each tk h3)) (S _ _ _ _ tk2 r), p, ?_⟩
    rw [List.length_append, List.length_singleton]
    omega
  · rw [h2] at kp
    exact ⟨acc, cs, go, kp, S.each tk h3, p, by omega⟩
theorem gath_zero {Go : Hp → Prop} {Rg : At γ} {P : Nat → List γ → Prop} (g0 : Go (upd H1 D (.lst []))) (p0 : P 0 []) : Gath Go Rg P D 0 (upd H1 D (.lst [])) :=
  ⟨[], [], g0, upd_same, .nil, p0, Nat.le_refl _⟩
/-- over a list -/
theorem lcg_list {K : PySem.W.Frag} {a : Addr} {xs : List V} {Qd : Hp → Prop} (Go : Hp → Prop) (Rg : At γ) (P : Nat → List γ → Prop) (S : Stays Rg) (hn : xs.length < sizeLine) (g0 : Go (upd H1 D (.lst [])))
    (gD : ∀ H o, Go H → (∃ ys, H D = some (.lst ys)) → Go (upd H D o)) (hq : ∀ H, Go H → SqL K H a xs) (p0 : P 0 []) (turn : ∀ i x, xs[i]? = some x → Turn1 g tt te vs σ D Go Rg P i x)
    (hd : ∀ H acc cs, Go H → H D = some (.lst acc) → Each Rg H acc cs → P xs.length cs → Qd H) :
    ∃ W : Nat → Nat → Hp → Prop, (∃ m, W 0 m (upd H1 D (.lst []))) ∧ ∀ i m H, W i m H →
      ((Itl K a).stop i H ∧ Qd H) ∨ ((Itl K a).go i H ∧ ∃ Nx : Hp → Prop, (∀ H', Nx H' → ∃ m', m' < m ∧ W (i + 1) m' H') ∧ ∀ x H', (Itl K a).yld i H x H' → g x (wipe σ vs) H' fun σ2 H2 => wipe σ2 vs = wipe σ vs ∧ tt σ2 H2 fun b H3 =>
        if b = true then te σ2 H3 fun y H4 => ∃ acc, H4 D = some (.lst acc) ∧ acc.length < sizeLine ∧ Nx (upd H4 D (.lst (acc ++ [y]))) else Nx H3) :=
  lc_list (K := K) (a := a) (xs := xs) (Gath Go Rg P D) (gath_zero g0 p0) (fun i H _ ⟨_, _, h, _⟩ => hq H h) (fun i x H e h => gath_turn hn S gD (List.getElem?_eq_some_iff.mp e).1 (turn i x e) h)
    fun H ⟨acc, cs, h1, h2, h3, h4, _⟩ => hd H acc cs h1 h2 h3 h4
/-- over a tuple -/
theorem lcg_tup {K : PySem.W.Frag} {a : Addr} {xs : List V} {Qd : Hp → Prop} (Go : Hp → Prop) (Rg : At γ) (P : Nat → List γ → Prop) (S : Stays Rg) (hn : xs.length < sizeLine) (g0 : Go (upd H1 D (.lst [])))
    (gD : ∀ H o, Go H → (∃ ys, H D = some (.lst ys)) → Go (upd H D o)) (hq : ∀ H, Go H → SqT K H a xs) (p0 : P 0 []) (turn : ∀ i x, xs[i]? = some x → Turn1 g tt te vs σ D Go Rg P i x)
    (hd : ∀ H acc cs, Go H → H D = some (.lst acc) → Each Rg H acc cs → P xs.length cs → Qd H) :
    ∃ W : Nat → Nat → Hp → Prop, (∃ m, W 0 m (upd H1 D (.lst []))) ∧ ∀ i m H, W i m H →
      ((Itt K a).stop i H ∧ Qd H) ∨ ((Itt K a).go i H ∧ ∃ Nx : Hp → Prop, (∀ H', Nx H' → ∃ m', m' < m ∧ W (i + 1) m' H') ∧ ∀ x H', (Itt K a).yld i H x H' → g x (wipe σ vs) H' fun σ2 H2 => wipe σ2 vs = wipe σ vs ∧ tt σ2 H2 fun b H3 =>
        if b = true then te σ2 H3 fun y H4 => ∃ acc, H4 D = some (.lst acc) ∧ acc.length < sizeLine ∧ Nx (upd H4 D (.lst (acc ++ [y]))) else Nx H3) :=
  lc_tup (K := K) (a := a) (xs := xs) (Gath Go Rg P D) (gath_zero g0 p0) (fun i H _ ⟨_, _, h, _⟩ => hq H h) (fun i x H e h => gath_turn hn S gD (List.getElem?_eq_some_iff.mp e).1 (turn i x e) h)
    fun H ⟨acc, cs, h1, h2, h3, h4, _⟩ => hd H acc cs h1 h2 h3 h4
/-- over a range from 0 -/
theorem lcg_range {n : Nat} {Qd : Hp → Prop} (Go : Hp → Prop) (Rg : At γ) (P : Nat → List γ → Prop) (S : Stays Rg) (hn : n < sizeLine) (g0 : Go (upd H1 D (.lst [])))
    (gD : ∀ H o, Go H → (∃ ys, H D = some (.lst ys)) → Go (upd H D o)) (p0 : P 0 []) (turn : ∀ i : Nat, i < n → Turn1 g tt te vs σ D Go Rg P i (.int (0 + i)))
    (hd : ∀ H acc cs, Go H → H D = some (.lst acc) → Each Rg H acc cs → P n cs → Qd H) :
    ∃ W : Nat → Nat → Hp → Prop, (∃ m, W 0 m (upd H1 D (.lst []))) ∧ ∀ i m H, W i m H →
      ((Itr 0 n).stop i H ∧ Qd H) ∨ ((Itr 0 n).go i H ∧ ∃ Nx : Hp → Prop, (∀ H', Nx H' → ∃ m', m' < m ∧ W (i + 1) m' H') ∧ ∀ x H', (Itr 0 n).yld i H x H' → g x (wipe σ vs) H' fun σ2 H2 => wipe σ2 vs = wipe σ vs ∧ tt σ2 H2 fun b H3 =>
        if b = true then te σ2 H3 fun y H4 => ∃ acc, H4 D = some (.lst acc) ∧ acc.length < sizeLine ∧ Nx (upd H4 D (.lst (acc ++ [y]))) else Nx H3) :=
  lc_range (lo := 0) (n := n) (Gath Go Rg P D) (gath_zero g0 p0) (fun i H hi h => gath_turn hn S gD hi (turn i hi) h)
    fun H ⟨acc, cs, h1, h2, h3, h4, _⟩ => hd H acc cs h1 h2 h3 h4
/-! .. where nothing but new objects comes -/
theorem same_g0 (hD : H1 D = none) : Same H1 (upd H1 D (.lst [])) := same_new hD
theorem same_put {H H' : Hp} {p : Addr} {o : HO} (h : Same H H') (n : H p = none) : Same H (upd H' p o) := fun a u e => by
  rw [upd_ne (ne_of_none e n)]
  exact h a u e
theorem same_gD (hD : H1 D = none) : ∀ (H : Hp) (o : HO), Same H1 H → (∃ ys, H D = some (.lst ys)) → Same H1 (upd H D o) := fun H o h _ => same_put h hD
end
/-- plain things as items -/
def BoolAt : At Bool := fun _ v b => v = V.bl b
def IntAt : At Int := fun _ v n => v = V.int n
def StrAt : At Str := fun _ v m => v = V.str m
theorem stays_bool : Stays BoolAt := fun _ _ _ _ _ h => h
theorem stays_int : Stays IntAt := fun _ _ _ _ _ h => h
theorem stays_str : Stays StrAt := fun _ _ _ _ _ h => h
theorem bools_of {H : Hp} : ∀ {xs : List V} {bs : List Bool}, Each BoolAt H xs bs → xs = bs.map V.bl
  | _, _, .nil => rfl
  | _, _, .cons e t => by rw [show _ = _ from e, bools_of t]; rfl
theorem ints_of {H : Hp} : ∀ {xs : List V} {bs : List Int}, Each IntAt H xs bs → xs = bs.map V.int
  | _, _, .nil => rfl
  | _, _, .cons e t => by rw [show _ = _ from e, ints_of t]; rfl
theorem strs_of {H : Hp} : ∀ {xs : List V} {bs : Lot}, Each StrAt H xs bs → xs = bs.map V.str
  | _, _, .nil => rfl
  | _, _, .cons e t => by rw [show _ = _ from e, strs_of t]; rfl
theorem kept_new {H : Hp} {D n : Addr} {o : HO} (h : ∃ ac, H D = some (.lst ac)) (hn : H n = none) : upd H n o D = H D := upd_ne (by
  rintro rfl
  obtain ⟨ac, e⟩ := h
  rw [hn] at e
  cases e)
/-- m in a lot -/
theorem inV_str (m : Str) (l : Lot) : inV (.str m) (l.map V.str) = decide (m ∈ l) := by
  unfold inV
  rw [List.any_map, Bool.eq_iff_iff]
  simp only [List.any_eq_true, decide_eq_true_eq]
  constructor
  · rintro ⟨y, hy, e⟩
    have e' : (y == m) = true := e
    rw [← beq_iff_eq.mp e']
    exact hy
  · intro h
    exact ⟨m, h, beq_self_eq_true m⟩
theorem flat_lot (l : Lot) : (l.map V.str).all flatV = true := by
  rw [List.all_map]
  exact List.all_eq_true.mpr fun _ _ => rfl

/-! ### defs at hand -/
/-- a def of the top, as it stands behind the top -/
structure DefK (K : PySem.W.Frag) (mg : Str → Option Value) (x : Str) (st : Stmt) (ps : List Str) where
  f : Addr
  fd : FuncData
  F : Fun K x x st f fd
  g : mg x = some (.ref f)
  b : L2.Binds K fd ps []
section
variable {X : Cx} {x : Str} {st : Stmt} {ps : List Str} {k : Nat} {sp : Sp} {e : Expr} {es : List Expr} {t : TA} {p pos : Pos}
theorem pe_d (d : DefK X.K X.mg x st ps) (G : FnOk X.prog X.w X.K X.mg X.base CX0 k d.f d.fd ps sp) (hr : Room k X.A) (ha : PA X (e :: es) t) (hg : Gl X x := by rfl) (hdb : (x == ("__debug__" : Str)) = false := by decide)
    (he : starEach (e :: es) X.env = (false, eval e X.env) :: starEach es X.env := by rfl) (hpl : (backTo pos (starEach es X.env)).any (·.1) = false := by rfl) : PE X (.Call (.Name x p) (e :: es) [] pos) (tCall sp [] E0 t) :=
  pe_call G hr hg d.g d.F.kp d.b .nil pass0 ha hdb he hpl
end
end K5
/-! K5i: the text by places; what stands behind the top. -/
namespace K5
open PySem PySem.Spec PyProof.Rows L2

abbrev sLotOf : Stmt := top 2
abbrev sInOrder : Stmt := top 4
abbrev sAllLots : Stmt := top 5
abbrev sWithin : Stmt := top 6
abbrev sJoined : Stmt := top 7
abbrev sCommon : Stmt := top 8
abbrev sWithout : Stmt := top 9
abbrev sIsMark : Stmt := top 19
abbrev sIsLot : Stmt := top 20
abbrev sIsRule : Stmt := top 21
abbrev sBreaks : Stmt := top 23
abbrev sIsRuleOf : Stmt := top 24
abbrev sAreRulesOf : Stmt := top 25
abbrev sKnownRules : Stmt := top 28
abbrev sRowOf : Stmt := top 30
abbrev sSidesOf : Stmt := top 33
abbrev sIsLotOf : Stmt := top 37
abbrev sLBag : Stmt := top 40
abbrev sLTake : Stmt := top 41
abbrev sLAlike : Stmt := top 42
abbrev sLMixed : Stmt := top 43
abbrev sLOne : Stmt := top 44
abbrev sLMarks : Stmt := top 45
abbrev sLLot : Stmt := top 46
abbrev sLFew : Stmt := top 47
abbrev sLRule : Stmt := top 48
abbrev sLSomeRows : Stmt := top 49
abbrev sLWithin : Stmt := top 50
abbrev sLInOrder : Stmt := top 51
abbrev sLAllLots : Stmt := top 52
abbrev sLClosing : Stmt := top 53
abbrev sLTable : Stmt := top 54
abbrev sLShared : Stmt := top 55
abbrev sLEnds : Stmt := top 56
abbrev sLTheory : Stmt := top 57
abbrev sLKnownRows : Stmt := top 58
abbrev sLMadeKnown : Stmt := top 59
abbrev sLToldPart : Stmt := top 60
abbrev sNeedyLots : Stmt := top 29
abbrev sLeastList : Stmt := top 31
abbrev sLeftSides : Stmt := top 34
abbrev sFewestAhead : Stmt := top 35
abbrev sRules : Stmt := top 26
abbrev sTable : Stmt := top 38
abbrev sLaw : Stmt := top 61
abbrev sRInit : Stmt := inClass sRules 0
abbrev sRMarks : Stmt := inClass sRules 1
abbrev sRRows : Stmt := inClass sRules 2
abbrev sRClosing : Stmt := inClass sRules 7
abbrev sRCall : Stmt := inClass sRules 8
abbrev sRBrokenBy : Stmt := inClass sRules 9
abbrev sRContains : Stmt := inClass sRules 10
abbrev sTInit : Stmt := inClass sTable 0
abbrev sTMarks : Stmt := inClass sTable 1
abbrev sTCall : Stmt := inClass sTable 5
abbrev sTClosing : Stmt := inClass sTable 6

/-- the positional ones and the keywords' -/
def gK {α : Type} (n m : Nat) (us ws : List α) : List α := if (us.length == n && ws.length == m) = true then us ++ ws else []
/-- a def with keyword-only parameters, all of them given: theory, (lot,) known -/
structure DefKw (K : PySem.W.Frag) (mg : Str → Option Value) (x : Str) (st : Stmt) (ps ks : List Str) where
  f : Addr
  fd : FuncData
  F : Fun K x x st f fd
  g : mg x = some (.ref f)
  b : KBinds K fd (ps ++ ks) ks (gK ps.length ks.length) (gK ps.length ks.length)
/-- a method of a class's body -/
structure MethK (K : PySem.W.Frag) (C : Addr) (x qual : Str) (st : Stmt) (ps : List Str) where
  f : Addr
  fd : FuncData
  F : Fun K x qual st f fd
  b : L2.Binds K fd ps []
/-- a class -/
structure ClassK (K : PySem.W.Frag) (mg : Str → Option Value) (x : Str) (q : Str) (sI : Stmt) (psI : List Str) where
  C : Addr
  cl : Cls K C
  g : mg x = some (.ref C)
  init : MethK K C "__init__" q sI psI
  made : L2.Mk K C init.f
  nM : NoAttr K C "its_marks"
structure Txt (K : PySem.W.Frag) (mg : Str → Option Value) where
  lotOf : DefK K mg "lot_of" sLotOf ["marks"]
  inOrder : DefK K mg "in_order" sInOrder ["lots"]
  allLots : DefK K mg "all_lots" sAllLots ["marks"]
  within : DefK K mg "within" sWithin ["one", "other"]
  joined : DefK K mg "joined" sJoined ["one", "other"]
  common : DefK K mg "common" sCommon ["one", "other"]
  without : DefK K mg "without" sWithout ["one", "other"]
  isMark : DefK K mg "is_mark" sIsMark ["thing"]
  isLot : DefK K mg "is_lot" sIsLot ["thing"]
  isRule : DefK K mg "is_rule" sIsRule ["thing"]
  breaks : DefK K mg "breaks" sBreaks ["lot", "rule"]
  isRuleOf : DefK K mg "is_rule_of" sIsRuleOf ["marks", "thing"]
  areRulesOf : DefK K mg "are_rules_of" sAreRulesOf ["marks", "thing"]
  knownRules : DefK K mg "known_rules" sKnownRules ["theory", "known"]
  rowOf : DefK K mg "row_of" sRowOf ["theory", "lot"]
  sidesOf : DefK K mg "sides_of" sSidesOf ["theory", "lot"]
  isLotOf : DefK K mg "is_lot_of" sIsLotOf ["marks", "thing"]
  lBag : DefK K mg "_law_bag" sLBag ["_law_script"]
  lTake : DefK K mg "_law_take" sLTake ["_law_bag_here", "_law_many"]
  lAlike : DefK K mg "_law_alike" sLAlike ["_law_found", "_law_due"]
  lMixed : DefK K mg "_law_mixed" sLMixed ["_law_bag_here", "_law_things"]
  lOne : DefK K mg "_law_one" sLOne ["_law_bag_here", "_law_things"]
  lMarks : DefK K mg "_law_marks" sLMarks ["_law_bag_here", "_law_many"]
  lLot : DefK K mg "_law_lot" sLLot ["_law_bag_here", "_law_marks_here"]
  lFew : DefK K mg "_law_few" sLFew ["_law_bag_here", "_law_marks_here", "_law_many"]
  lRule : DefK K mg "_law_rule" sLRule ["_law_bag_here", "_law_marks_here"]
  lSomeRows : DefK K mg "_law_some_rows" sLSomeRows ["_law_bag_here", "_law_marks_here", "_law_many"]
  lWithin : DefK K mg "_law_within" sLWithin ["_law_one_here", "_law_other"]
  lInOrder : DefK K mg "_law_in_order" sLInOrder ["_law_lots"]
  lAllLots : DefK K mg "_law_all_lots" sLAllLots ["_law_marks_here"]
  lClosing : DefK K mg "_law_closing" sLClosing ["_law_rows", "_law_lot_here"]
  lTable : DefK K mg "_law_table" sLTable ["_law_bag_here", "_law_marks_here", "_law_many"]
  lShared : DefK K mg "_law_shared" sLShared ["_law_marks_here", "_law_lots", "_law_lot_here"]
  lEnds : DefK K mg "_law_ends" sLEnds ["_law_marks_here", "_law_kind", "_law_some"]
  lTheory : DefK K mg "_law_theory" sLTheory ["_law_bag_here", "_law_marks_here", "_law_upto"]
  lKnownRows : DefK K mg "_law_known_rows" sLKnownRows ["_law_bag_here", "_law_ends_here"]
  lMadeKnown : DefK K mg "_law_made_known" sLMadeKnown ["_law_marks_here", "_law_given"]
  lToldPart : DefK K mg "_law_told_part" sLToldPart ["_law_bag_here", "_law_ends_here", "_law_rows"]
  rank : DefK K mg "rank" sRank ["lot"]
  needyLots : DefKw K mg "needy_lots" sNeedyLots ["theory"] ["known"]
  leastList : DefKw K mg "least_list" sLeastList ["theory"] ["known"]
  leftSides : DefKw K mg "left_sides" sLeftSides ["theory", "lot"] ["known"]
  fewestAhead : DefKw K mg "fewest_ahead" sFewestAhead ["theory"] ["known"]
  rules : ClassK K mg "Rules" "Rules.__init__" sRInit ["self", "marks", "rows"]
  rMarks : MethK K rules.C "marks" "Rules.marks" sRMarks ["self"]
  rMarksP : Addr
  rProp : PropOf K rules.C "marks" rMarksP rMarks.f
  rRows : MethK K rules.C "rows" "Rules.rows" sRRows ["self"]
  mRows : Meth K rules.C "rows" rRows.f
  rClosing : MethK K rules.C "closing" "Rules.closing" sRClosing ["self", "lot"]
  mRClosing : Meth K rules.C "closing" rClosing.f
  rCall : MethK K rules.C "__call__" "Rules.__call__" sRCall ["self", "lot"]
  mRCall : StX.CallO K rules.C rCall.f
  rBroken : MethK K rules.C "broken_by" "Rules.broken_by" sRBrokenBy ["self", "lot"]
  mRBroken : Meth K rules.C "broken_by" rBroken.f
  rContains : MethK K rules.C "__contains__" "Rules.__contains__" sRContains ["self", "thing"]
  mRContains : InO K rules.C rContains.f
  nR : NoAttr K rules.C "its_rows"
  table : ClassK K mg "Table" "Table.__init__" sTInit ["self", "marks", "lots"]
  tMarks : MethK K table.C "marks" "Table.marks" sTMarks ["self"]
  tMarksP : Addr
  tProp : PropOf K table.C "marks" tMarksP tMarks.f
  tCall : MethK K table.C "__call__" "Table.__call__" sTCall ["self", "lot"]
  mTCall : StX.CallO K table.C tCall.f
  tClosing : MethK K table.C "closing" "Table.closing" sTClosing ["self", "lot"]
  mTClosing : Meth K table.C "closing" tClosing.f
  nL : NoAttr K table.C "its_lots"
  zTuple : mg "tuple" = none
  zSorted : mg "sorted" = none
  zSet : mg "set" = none
  zLen : mg "len" = none
  zAll : mg "all" = none
  zAny : mg "any" = none
  zSum : mg "sum" = none
  zIsinstance : mg "isinstance" = none
  zStr : mg "str" = none
  zList : mg "list" = none
  zRange : mg "range" = none
  zAbs : mg "abs" = none
  zInt : mg "int" = none
  zRepr : mg "repr" = none
  letters : ∃ t, mg "LETTERS" = some (.str "abcdefghijklmnopqrstuvwxyz" t)
end K5
/-! K5j: the module lots. -/
namespace K5
open PySem PySem.Spec PyProof.Rows L2

/-- a text in a lot, or in a list of texts -/
def rMem (neg : Bool) : R2 := fun x y H Q => ∃ (m : Str) (p : Addr) (l : Lot), x = V.str m ∧ y = V.ref p ∧ (H p = some (.tup (l.map V.str)) ∨ H p = some (.lst (l.map V.str))) ∧ Q (.bl (if neg = true then decide (m ∉ l) else decide (m ∈ l))) H
theorem op_mem {X : Cx} : OpR X (compareOp .In) (rMem false) := fun pins s σ H x y v u Q I rx ry ⟨m, p, l, ex, ey, hp, q⟩ => by
  refine op_in_seq pins s σ H x y v u Q I rx ry ⟨p, l.map V.str, ey, hp.elim (fun h => .inr (SqT.of h)) (fun h => .inl (SqL.of h)), by rw [ex]; rfl, flat_lot l, ?_⟩
  rw [ex, inV_str]
  exact q
theorem op_notMem {X : Cx} : OpR X (compareOp .NotIn) (rMem true) := fun pins s σ H x y v u Q I rx ry ⟨m, p, l, ex, ey, hp, q⟩ => by
  refine op_notIn_seq pins s σ H x y v u Q I rx ry ⟨p, l.map V.str, ey, hp.elim (fun h => .inr (SqT.of h)) (fun h => .inl (SqL.of h)), by rw [ex]; rfl, flat_lot l, ?_⟩
  rw [ex, inV_str]
  have e : (!decide (m ∈ l)) = decide (m ∉ l) := by simp
  show Q (.bl (!decide (m ∈ l))) H
  rw [e]
  exact q
def spLotOf : Sp := fun vs H Q _ => ∃ (a : Addr) (l : Lot), vs = [V.ref a] ∧ H a = some (.lst (l.map V.str)) ∧ l.length ≤ 1000 ∧ ∀ H' v, Same H H' → LotAt H' v (lotOf l) → Q v H'
def spInOrder : Sp := fun vs H Q _ => ∃ (a : Addr) (xs : List V) (ls : List Lot), vs = [V.ref a] ∧ H a = some (.lst xs) ∧ Each LotAt H xs ls ∧ (∀ l ∈ ls, l.length ≤ 1000) ∧ ∀ H' v, Same H H' → ListAt LotAt H' v (ls.mergeSort leL) → Q v H'
def spAllLots : Sp := fun vs H Q _ => ∃ (x : V) (marks : Lot), vs = [x] ∧ LotAt H x marks ∧ marks.length ≤ 8 ∧ ∀ H' v, Same H H' → ListAt LotAt H' v (allLots marks) → Q v H'
def spWithin : Sp := fun vs H Q _ => ∃ (x y : V) (a b : Lot), vs = [x, y] ∧ LotAt H x a ∧ LotAt H y b ∧ a.length ≤ 1000 ∧ ∀ H', Same H H' → Q (.bl (wi a b)) H'
def spLot2 (f : Lot → Lot → Lot) : Sp := fun vs H Q _ => ∃ (x y : V) (a b : Lot), vs = [x, y] ∧ LotAt H x a ∧ LotAt H y b ∧ a.length ≤ 100 ∧ b.length ≤ 100 ∧ ∀ H' v, Same H H' → LotAt H' v (f a b) → Q v H'

section
variable {P : Program} {w : World} {K : PySem.W.Frag} {mg : Str → Option Value} {base : Heap}
theorem yes {te : TE} {σ2 : L2.St} {H2 : Hp} {KY : V → Hp → Prop} {KN : Hp → Prop} (h : te σ2 H2 KY) : tYes σ2 H2 fun b H3 => if b = true then te σ2 H3 KY else KN H3 := by
  show if true = true then te σ2 H2 KY else KN H2
  rw [if_pos rfl]
  exact h
theorem pa_starK {X : Cx} {K : PySem.W.Frag} {e : Expr} {es : List Expr} {p : Pos} {te : TE} {t : TA} (hK : X.K = K) (he : PE X e te) (hr : PA X es t) (hs : starEach (.Starred e p :: es) X.env = (true, eval e X.env) :: starEach es X.env := by rfl) : PA X (.Starred e p :: es) (StX.tStar K te t) := by
  subst hK
  exact StX.pa_star he hr hs
theorem same_two {H : Hp} {p q : Addr} {o u : HO} (hp : H p = none) (hq : upd H p o q = none) : Same H (upd (upd H p o) q u) := (same_new hp).trans (same_new hq)
theorem small_line {n : Nat} (h : n ≤ 1000000) : n < sizeLine := Nat.lt_of_le_of_lt h (by decide)

theorem plusAll_nodup (l : Lot) : (plusAll l).Nodup := by
  have go : ∀ r : Lot, (plusAll r.reverse).Nodup := by
    intro r
    induction r with
    | nil => exact List.nodup_nil
    | cons m r ih =>
      rw [List.reverse_cons, plusAll_snoc]
      unfold plus
      split
      · exact ih
      · rename_i c
        rw [List.nodup_append]
        exact ⟨ih, by simp, fun x hx y hy e => c (by rw [List.mem_singleton.mp hy] at e; exact e ▸ hx)⟩
  have q := go l.reverse
  rw [List.reverse_reverse] at q
  exact q
theorem scLotOf : FnScope ["marks"] ["marks"] (defScope sLotOf) := ⟨rfl, rfl, rfl, by decide +kernel, rfl, by decide +kernel, by decide +kernel⟩
theorem ok_lotOf (T : Txt K mg) : FnOk P w K mg base CX0 1 T.lotOf.f T.lotOf.fd ["marks"] spLotOf := by
  refine T.lotOf.F.ok scLotOf (fun vs H Q E h => ?_) (fun cdv A outer s H vs Q E hr h => ?_)
  · obtain ⟨_, _, rfl, _⟩ := h
    rfl
  · obtain ⟨a, l, rfl, ha, hl, q⟩ := h
    refine ⟨_, pss_one (ps_ret (pe_callTy call_tuple_of (by rfl) T.zTuple (by decide +kernel) (pa_cons (pe_callB (cr_sortedS rfl hr.units) (by rfl) T.zSorted (by decide +kernel) (pa_cons (pe_callTy (cr_setS rfl) (by rfl) T.zSet (by decide +kernel) (pa_cons (pv 0) pa_nil)) pa_nil)) pa_nil))), ?_⟩
    refine ⟨_, rfl, a, l, rfl, SqL.of ha, hl, fun p hp => ⟨p, _, rfl, upd_same, fun p2 hp2 => ⟨p2, _, rfl, .inl ⟨SqL.of upd_same, fun p3 hp3 => ?_⟩⟩⟩⟩
    refine q _ _ (((same_new hp).trans (same_new hp2)).trans (same_new hp3)) ⟨p3, rfl, ?_⟩
    have e : srt (plusAll l) = lotOf l := lotOf_of (srt_ss (plusAll_nodup l)) fun m => by rw [srt_mem, plusAll_mem]
    rw [← e]
    exact upd_same

theorem scInOrder : FnScope ["lots"] ["lots"] (defScope sInOrder) := ⟨rfl, rfl, rfl, by decide +kernel, rfl, by decide +kernel, by decide +kernel⟩
theorem ok_inOrder (T : Txt K mg) : FnOk P w K mg base CX0 1 T.inOrder.f T.inOrder.fd ["lots"] spInOrder := by
  refine T.inOrder.F.ok scInOrder (fun vs H Q E h => ?_) (fun cdv A outer s H vs Q E hr h => ?_)
  · obtain ⟨_, _, _, rfl, _⟩ := h
    rfl
  · obtain ⟨a, xs, ls, rfl, ha, he, hl, q⟩ := h
    refine ⟨_, pss_one (ps_ret (pe_callBK (cr_srtK T.rank.F T.zLen hr) (by rfl) T.zSorted (by decide +kernel) (pa_cons (pv 0) pa_nil) (pk_cons (pe_glob (v := V.ref T.rank.f) rfl T.rank.g rfl) pk_nil))), ?_⟩
    refine ⟨_, rfl, a, xs, ls, rfl, rfl, SqL.of ha, he, hl, fun p ys hp hy => ?_⟩
    exact q _ _ (same_new hp) ⟨p, ys, rfl, upd_same, stays_lot.each (TK.new hp) hy⟩

theorem scWithin : FnScope ["one", "other", "mark"] ["one", "other"] (defScope sWithin) := ⟨rfl, rfl, rfl, by decide +kernel, rfl, by decide +kernel, by decide +kernel⟩
theorem ok_within (T : Txt K mg) : FnOk P w K mg base CX0 1 T.within.f T.within.fd ["one", "other"] spWithin := by
  refine T.within.F.ok scWithin (fun vs H Q E h => ?_) (fun cdv A outer s H vs Q E hr h => ?_)
  · obtain ⟨_, _, _, _, rfl, _⟩ := h
    rfl
  · obtain ⟨_, _, a, b, rfl, ⟨p, rfl, hp⟩, ⟨r, rfl, hr2⟩, hl, q⟩ := h
    refine ⟨_, pss_one (ps_ret (pe_callB (cr_all rfl) (by rfl) T.zAll (by decide +kernel) (pa_cons (pe_lc (own := [("mark", 2)]) (g := gName 2) (tt := tYes) rfl scWithin.nd (pi_tup (pv 0)) (blkOk_by (N := ["one", "other", "mark"]) (sc := defScope sWithin) (by decide +kernel))
      (fun _ _ _ _ _ => pg_name (i := 2) scWithin.nd rfl (Or.inl rfl)) (fun _ _ _ _ _ => pts_nil) (fun _ _ _ _ _ => pe_cmpR op_mem (pv 2) (pv 1) (by rfl))) pa_nil))), ?_⟩
    refine ⟨_, rfl, p, rfl, ⟨_, SqT.of hp⟩, fun D hD => lcg_tup (xs := a.map V.str) (Same H) BoolAt (fun i cs => cs = (a.take i).map fun m => decide (m ∈ b)) stays_bool (by rw [List.length_map]; exact small_line (by omega)) (same_new hD) (same_gD hD) (fun H' k => SqT.of (k _ _ hp)) rfl ?_ ?_⟩
    · intro i x hx H' cs KY KN go hac pc ky kn
      obtain ⟨m, hm, rfl⟩ := strs_get hx
      refine ⟨rfl, yes ⟨_, rfl, _, rfl, m, r, b, rfl, rfl, .inl (go _ _ hr2), ky (decide (m ∈ b)) _ _ ?_ go (TK.refl _) rfl rfl⟩⟩
      show cs ++ _ = _
      rw [pc, take_snoc hm, List.map_append]
      rfl
    · intro H' acc cs go hA he pc
      rw [bools_of he] at hA
      refine ⟨D, cs, rfl, SqL.of hA, ?_⟩
      rw [List.length_map, List.take_length] at pc
      have e : cs.all id = wi a b := by
        rw [pc, List.all_map]
        rfl
      rw [e]
      exact q _ go

def spFilt (neg : Bool) : Sp := spLot2 (if neg then wo else cm)
/-- the reading of common and without is one -/
theorem filt_take {a b : Lot} (neg : Bool) : (if neg then wo else cm) a b = a.filter fun m => if neg = true then decide (m ∉ b) else decide (m ∈ b) := by
  cases neg <;> rfl
theorem filt_step {a : Lot} {i : Nat} {m : Str} (p : Str → Bool) (hm : a[i]? = some m) : (a.take (i + 1)).filter p = if p m = true then (a.take i).filter p ++ [m] else (a.take i).filter p := by
  rw [take_snoc hm, List.filter_append]
  cases h : p m <;> simp [h]
theorem scCommon : FnScope ["one", "other", "mark"] ["one", "other"] (defScope sCommon) := ⟨rfl, rfl, rfl, by decide +kernel, rfl, by decide +kernel, by decide +kernel⟩
theorem scWithout : FnScope ["one", "other", "mark"] ["one", "other"] (defScope sWithout) := ⟨rfl, rfl, rfl, by decide +kernel, rfl, by decide +kernel, by decide +kernel⟩
theorem read_filt {neg : Bool} {H : Hp} {p r : Addr} {a b : Lot} {Q : VK} (hp : H p = some (.tup (a.map V.str))) (hr2 : H r = some (.tup (b.map V.str))) (hl : a.length ≤ 100) (q : ∀ H' v, Same H H' → LotAt H' v ((if neg then wo else cm) a b) → Q v H') :
    tCB (fun xs H Q => ∃ p ys, xs = [.ref p] ∧ ((SqL K H p ys ∧ ∀ l, H l = none → Q (.ref l) (upd H l (.tup ys))) ∨ (SqT K H p ys ∧ Q (.ref p) H)))
      (tCons (tLc (iTup K (tVar 0)) (gName 2) (tB (tOp (rMem neg) (tVar 2) (tVar 1))) (tVar 2) [2]) tNil) (L2.start ["one", "other", "mark"] [.ref p, .ref r]) H Q := by
  refine ⟨_, rfl, p, rfl, ⟨_, SqT.of hp⟩, fun D hD => lcg_tup (xs := a.map V.str) (Same H) StrAt (fun i cs => cs = (a.take i).filter fun m => if neg = true then decide (m ∉ b) else decide (m ∈ b)) stays_str (by rw [List.length_map]; exact small_line (by omega)) (same_new hD) (same_gD hD) (fun H' k => SqT.of (k _ _ hp)) rfl ?_ ?_⟩
  · intro i x hx H' cs KY KN go hac pc ky kn
    obtain ⟨m, hm, rfl⟩ := strs_get hx
    have st := filt_step (fun m => if neg = true then decide (m ∉ b) else decide (m ∈ b)) hm
    refine ⟨rfl, _, rfl, _, rfl, m, r, b, rfl, rfl, .inl (go _ _ hr2), _, rfl, ?_⟩
    refine ite2 (fun c => ?_) (fun c => ?_)
    · rw [if_pos c] at st
      exact ⟨_, rfl, ky m _ _ (by show cs ++ [m] = _; rw [pc]; exact st.symm) go (TK.refl _) rfl rfl⟩
    · rw [if_neg c] at st
      exact kn _ (by show cs = _; rw [pc]; exact st.symm) go (TK.refl _) rfl
  · intro H' acc cs go hA he pc
    rw [strs_of he] at hA
    rw [List.length_map, List.take_length] at pc
    refine ⟨D, _, rfl, .inl ⟨SqL.of hA, fun l hl => q _ _ (go.trans (same_new hl)) ⟨l, rfl, ?_⟩⟩⟩
    rw [filt_take, ← pc]
    exact upd_same
theorem ok_common (T : Txt K mg) : FnOk P w K mg base CX0 1 T.common.f T.common.fd ["one", "other"] (spLot2 cm) := by
  refine T.common.F.ok scCommon (fun vs H Q E h => ?_) (fun cdv A outer s H vs Q E hr h => ?_)
  · obtain ⟨_, _, _, _, rfl, _⟩ := h
    rfl
  · obtain ⟨_, _, a, b, rfl, ⟨p, rfl, hp⟩, ⟨r, rfl, hr2⟩, hl, _, q⟩ := h
    exact ⟨_, pss_one (ps_ret (pe_callTy call_tuple_of (by rfl) T.zTuple (by decide +kernel) (pa_cons (pe_lc (own := [("mark", 2)]) (g := gName 2) rfl scCommon.nd (pi_tup (pv 0)) (blkOk_by (N := ["one", "other", "mark"]) (sc := defScope sCommon) (by decide +kernel))
      (fun _ _ _ _ _ => pg_name (i := 2) scCommon.nd rfl (Or.inl rfl)) (fun _ _ _ _ _ => pts_one (pt_cmpR op_mem (pv 2) (pv 1) (by rfl))) (fun _ _ _ _ _ => pv 2)) pa_nil))), read_filt (neg := false) hp hr2 hl q⟩
theorem ok_without (T : Txt K mg) : FnOk P w K mg base CX0 1 T.without.f T.without.fd ["one", "other"] (spLot2 wo) := by
  refine T.without.F.ok scWithout (fun vs H Q E h => ?_) (fun cdv A outer s H vs Q E hr h => ?_)
  · obtain ⟨_, _, _, _, rfl, _⟩ := h
    rfl
  · obtain ⟨_, _, a, b, rfl, ⟨p, rfl, hp⟩, ⟨r, rfl, hr2⟩, hl, _, q⟩ := h
    exact ⟨_, pss_one (ps_ret (pe_callTy call_tuple_of (by rfl) T.zTuple (by decide +kernel) (pa_cons (pe_lc (own := [("mark", 2)]) (g := gName 2) rfl scWithout.nd (pi_tup (pv 0)) (blkOk_by (N := ["one", "other", "mark"]) (sc := defScope sWithout) (by decide +kernel))
      (fun _ _ _ _ _ => pg_name (i := 2) scWithout.nd rfl (Or.inl rfl)) (fun _ _ _ _ _ => pts_one (pt_cmpR op_notMem (pv 2) (pv 1) (by rfl))) (fun _ _ _ _ _ => pv 2)) pa_nil))), read_filt (neg := true) hp hr2 hl q⟩

/-- joined -/
theorem scJoined : FnScope ["one", "other"] ["one", "other"] (defScope sJoined) := ⟨rfl, rfl, rfl, by decide +kernel, rfl, by decide +kernel, by decide +kernel⟩
theorem ok_joined (T : Txt K mg) : FnOk P w K mg base CX0 2 T.joined.f T.joined.fd ["one", "other"] (spLot2 jn) := by
  have G : FnOk P w K mg base CX0 1 T.lotOf.f T.lotOf.fd ["marks"] spLotOf := ok_lotOf T
  refine T.joined.F.ok scJoined (fun vs H Q E h => ?_) (fun cdv A outer s H vs Q E hr h => ?_)
  · obtain ⟨_, _, _, _, rfl, _⟩ := h
    rfl
  · obtain ⟨_, _, a, b, rfl, ⟨p, rfl, hp⟩, ⟨r, rfl, hr2⟩, hl, hl2, q⟩ := h
    refine ⟨_, pss_one (ps_ret (pe_d T.lotOf G hr (pa_cons (pe_lst (StX.pa_star (pv 0) (StX.pa_star (pv 1) pa_nil))) pa_nil))), ?_⟩
    refine ⟨_, rfl, p, _, rfl, .inl (SqT.of hp), _, rfl, r, _, rfl, .inl (SqT.of hr2), ?_, fun l hl3 => ?_⟩
    · rw [List.append_nil, List.length_append, List.length_map, List.length_map]
      exact Nat.le_of_lt (small_line (by omega))
    · refine ⟨l, a ++ b, rfl, ?_, by rw [List.length_append]; omega, fun H' v sm hv => q H' v ((same_new hl3).trans sm) hv⟩
      rw [upd_same, List.append_nil, List.map_append]

/-- all_lots -/
theorem scAllLots : FnScope ["marks", "found", "mark", "lot"] ["marks"] (defScope sAllLots) := ⟨rfl, rfl, rfl, by decide +kernel, rfl, by decide +kernel, by decide +kernel⟩
theorem subs_take {marks : Lot} {i : Nat} {m : Str} (hm : marks[i]? = some m) : subs (marks.take (i + 1)) = subs (marks.take i) ++ (subs (marks.take i)).map fun l => l ++ [m] := by
  rw [take_snoc hm, subs_snoc]
theorem subs_lens {marks : Lot} {l : Lot} (h : l ∈ subs marks) : l.length ≤ marks.length := by
  have go : ∀ r : Lot, ∀ l ∈ subs r.reverse, l.length ≤ r.length := by
    intro r
    induction r with
    | nil => intro l h; rw [List.mem_singleton.mp (show l ∈ [[]] from h)]; exact Nat.le_refl _
    | cons m r ih =>
      intro l h
      rw [List.reverse_cons, subs_snoc] at h
      rw [List.length_cons]
      rcases List.mem_append.mp h with k | k
      · have := ih l k; omega
      · obtain ⟨l0, k0, rfl⟩ := List.mem_map.mp k
        have := ih l0 k0
        rw [List.length_append, List.length_singleton]
        omega
  have q := go marks.reverse l (by rw [List.reverse_reverse]; exact h)
  rw [List.length_reverse] at q
  exact q
theorem pow8 {n : Nat} (h : n ≤ 8) : 2 ^ n ≤ 256 := Nat.pow_le_pow_right (by decide) h
theorem ok_allLots (T : Txt K mg) : FnOk P w K mg base CX0 2 T.allLots.f T.allLots.fd ["marks"] spAllLots := by
  have G : FnOk P w K mg base CX0 1 T.inOrder.f T.inOrder.fd ["lots"] spInOrder := ok_inOrder T
  refine T.allLots.F.ok scAllLots (fun vs H Q E h => ?_) (fun cdv A outer s H vs Q E hr h => ?_)
  · obtain ⟨_, _, rfl, _⟩ := h
    rfl
  · obtain ⟨_, marks, rfl, ⟨p, rfl, hp⟩, hl, q⟩ := h
    refine ⟨_, pss_cons (ps_set (i := 1) scAllLots.nd rfl (Or.inl rfl) (pe_lst (pa_cons (pe_tup pa_nil) pa_nil)))
      (pss_cons (ps_for PassesOwn.never rfl (pi_tup (pv 0)) (pg_name (i := 2) scAllLots.nd rfl (Or.inr rfl))
        (pss_one (ps_expr (pe_bm PySem.F.plainAttrs_list PySem.F.slot_list_extend PySem.F.type_list_extend mt_extend (pv 1) (pa_cons
          (pe_lc (own := [("lot", 3)]) (g := gName 3) (tt := tYes) rfl scAllLots.nd (pi_list (pv 1)) (blkOk_by (N := ["marks", "found", "mark", "lot"]) (sc := defScope sAllLots) (by decide +kernel))
            (fun _ _ _ _ _ => pg_name (i := 3) scAllLots.nd rfl (Or.inl rfl)) (fun _ _ _ _ _ => pts_nil) (fun _ _ _ _ _ => pe_tup (pa_starK (K := K) rfl (pv 3) (pa_cons (pv 2) pa_nil)))) pa_nil)))))
      (pss_one (ps_ret (pe_d T.inOrder G hr (pa_cons (pv 1) pa_nil))))), ?_⟩
    refine ⟨Nat.zero_le _, fun t ht => ⟨by show 1 ≤ sizeLine; decide, fun f hf => ?_⟩⟩
    have hf0 : H f = none := (same_new ht).free hf
    refine ⟨_, rfl, p, rfl, ⟨_, SqT.of ((same_two ht hf) _ _ hp)⟩, for_tup (K := K) (a := p) (xs := marks.map V.str) (fun i σ H' => ∃ (mk lt : Option V) (ys : List V), σ = [some (.ref p), some (.ref f), mk, lt] ∧ Same H H' ∧ H' f = some (.lst ys) ∧ Each LotAt H' ys (subs (marks.take i)))
      ⟨none, none, [.ref t], rfl, same_two ht hf, upd_same, .cons ⟨t, rfl, by rw [upd_ne (ne_of_none upd_same hf)]; exact upd_same⟩ .nil⟩ (fun i σ H' _ ⟨_, _, _, _, sm, _⟩ => SqT.of (sm _ _ hp)) ?_ ?_⟩
    · rintro i x σ H' hx ⟨mk, lt, ys, rfl, sm, hF, he⟩
      obtain ⟨m, hm, rfl⟩ := strs_get hx
      have hi := (List.getElem?_eq_some_iff.mp hm).1
      have hz : (subs (marks.take i)).length ≤ 256 := by
        rw [subs_len]
        exact pow8 (Nat.le_trans (List.length_take_le _ _) (by omega))
      have hys : ys.length ≤ 256 := by rw [he.length]; exact hz
      refine ⟨_, rfl, .inl ⟨rfl, _, SqL.of hF⟩, _, rfl, f, rfl, ⟨_, SqL.of hF⟩, fun D hD => lcg_list (xs := ys) (Same H') LotAt (fun j cs => cs = ((subs (marks.take i)).take j).map fun l => l ++ [m]) stays_lot (small_line (by omega)) (same_new hD) (same_gD hD) (fun H2 k => SqL.of (k _ _ hF)) rfl ?_ ?_⟩
      · intro j y hy H2 cs KY KN go hac pc ky kn
        obtain ⟨l, hl2, t2, rfl, ht2⟩ := each_get he hy
        have hll := subs_lens (List.mem_of_getElem? hl2)
        have ht3 := go _ _ ht2
        refine ⟨rfl, yes ⟨_, rfl, t2, _, rfl, .inl (SqT.of ht3), _, rfl, ?_, fun n hn => ky (l ++ [m]) _ _ ?_ (go.trans (same_new hn)) (TK.new hn) ?_ ⟨n, rfl, ?_⟩⟩⟩
        · rw [List.length_append, List.length_map, List.length_singleton]
          have := List.length_take_le i marks
          exact Nat.le_of_lt (small_line (by omega))
        · show cs ++ [l ++ [m]] = _
          rw [pc, take_snoc hl2, List.map_append]
          rfl
        · exact kept_new hac hn
        · rw [upd_same, List.map_append]
          rfl
      · intro H2 acc cs go hA heA pc
        have pc2 : cs = (subs (marks.take i)).map fun l => l ++ [m] := by
          rw [pc, he.length, List.take_length]
        refine ⟨f, D, ys, acc, rfl, rfl, go _ _ hF, hA, ?_, ?_⟩
        · rw [heA.length, pc2, List.length_map]
          exact Nat.le_of_lt (small_line (by omega))
        · have hnf : H' f ≠ none := by rw [hF]; exact fun z => nomatch z
          have tk : TK H2 (upd H2 f (.lst (ys ++ acc))) := TK.put (.inr ⟨ys, go _ _ hF⟩)
          refine ⟨_, _, _, rfl, same_put (sm.trans go) hf0, upd_same, ?_⟩
          rw [subs_take hm, ← pc2]
          exact each_append (stays_lot.each ((TK.of go).trans tk) he) (stays_lot.each tk heA)
    · rintro σ H' ⟨mk, lt, ys, rfl, sm, hF, he⟩
      rw [List.length_map, List.take_length] at he
      refine ⟨_, rfl, f, ys, subs marks, rfl, hF, he, fun l hl2 => ?_, fun H2 v sm2 hv => q H2 v (sm.trans sm2) hv⟩
      have := subs_lens hl2
      omega
end
end K5
/-! K5k: the modules words and rules. -/
namespace K5
open PySem PySem.Spec PyProof.Rows L2

/-- a comprehension over a text's signs -/
theorem lcg_str {γ : Type} {g : TG} {tt : TT} {te : TE} {vs : List Nat} {σ : L2.St} {H1 : Hp} {D : Addr} {x : Str} {Qd : Hp → Prop} (Go : Hp → Prop) (Rg : At γ) (P : Nat → List γ → Prop) (S : Stays Rg) (hn : x.cps.size < sizeLine) (g0 : Go (upd H1 D (.lst [])))
    (gD : ∀ H o, Go H → (∃ ys, H D = some (.lst ys)) → Go (upd H D o)) (p0 : P 0 []) (turn : ∀ i c, x.cps[i]? = some c → Turn1 g tt te vs σ D Go Rg P i (.str ⟨#[c]⟩))
    (hd : ∀ H acc cs, Go H → H D = some (.lst acc) → Each Rg H acc cs → P x.cps.size cs → Qd H) :
    ∃ W : Nat → Nat → Hp → Prop, (∃ m, W 0 m (upd H1 D (.lst []))) ∧ ∀ i m H, W i m H →
      ((Its x).stop i H ∧ Qd H) ∨ ((Its x).go i H ∧ ∃ Nx : Hp → Prop, (∀ H', Nx H' → ∃ m', m' < m ∧ W (i + 1) m' H') ∧ ∀ v H', (Its x).yld i H v H' → g v (wipe σ vs) H' fun σ2 H2 => wipe σ2 vs = wipe σ vs ∧ tt σ2 H2 fun b H3 =>
        if b = true then te σ2 H3 fun y H4 => ∃ acc, H4 D = some (.lst acc) ∧ acc.length < sizeLine ∧ Nx (upd H4 D (.lst (acc ++ [y]))) else Nx H3) := by
  refine ⟨fun i m H => m + i = x.cps.size ∧ Gath Go Rg P D i H, ⟨x.cps.size, rfl, gath_zero g0 p0⟩, fun i m H z => ?_⟩
  obtain ⟨e, h⟩ := z
  rcases Nat.lt_or_ge i x.cps.size with c | c
  · refine .inr ⟨c, fun H' => Gath Go Rg P D (i + 1) H', fun H' q => ⟨m - 1, by omega, by omega, q⟩, fun v H' y => ?_⟩
    obtain ⟨rfl, ch, hc, rfl⟩ := y
    exact gath_turn hn S gD c (turn i ch hc) h
  · obtain rfl : i = x.cps.size := by omega
    obtain ⟨acc, cs, h1, h2, h3, h4, _⟩ := h
    exact .inl ⟨Nat.le_refl _, hd H acc cs h1 h2 h3 h4⟩

/-! ### promises -/
def spTrue (R : Hp → List V → Prop) : Sp := fun vs H Q _ => R H vs ∧ ∀ H', Same H H' → Q (.bl true) H'
def spIsMark : Sp := spTrue fun H vs => ∃ m : Str, vs = [V.str m] ∧ GoodM m
def spIsLot : Sp := spTrue fun H vs => ∃ x l, vs = [x] ∧ LotAt H x l ∧ SS l ∧ (∀ m ∈ l, GoodM m) ∧ l.length ≤ 1000
def spIsRule : Sp := spTrue fun H vs => ∃ x r, vs = [x] ∧ RowAt H x r ∧ SS r.1 ∧ SS r.2 ∧ GoodRow r ∧ r.1.length ≤ 1000 ∧ r.2.length ≤ 1000
def spBreaks : Sp := fun vs H Q _ => ∃ x y l r, vs = [x, y] ∧ LotAt H x l ∧ RowAt H y r ∧ l.length ≤ 1000 ∧ r.1.length ≤ 1000 ∧ r.2.length ≤ 1000 ∧ ∀ H', Same H H' → Q (.bl (!keeps l r)) H'
def spIsRuleOf : Sp := spTrue fun H vs => ∃ x y marks r, vs = [x, y] ∧ LotAt H x marks ∧ RowAt H y r ∧ Good marks ∧ RowOf marks r
def spAreRulesOf : Sp := spTrue fun H vs => ∃ x y marks rows, vs = [x, y] ∧ LotAt H x marks ∧ ListAt RowAt H y rows ∧ Good marks ∧ RowsOf marks rows ∧ rows.length ≤ 1000

section
variable {P : Program} {w : World} {K : PySem.W.Frag} {mg : Str → Option Value} {base : Heap}
theorem all_true {α : Type} {p : α → Bool} {l : List α} (h : ∀ x ∈ l, p x = true) : (l.map p).all id = true := by
  rw [List.all_map]
  exact List.all_eq_true.mpr h
/-- a list of truths, all true -/
def TrueAt : At Unit := fun _ v _ => v = V.bl true
theorem stays_true : Stays TrueAt := fun _ _ _ _ _ h => h
theorem trues_of {H : Hp} : ∀ {xs : List V} {bs : List Unit}, Each TrueAt H xs bs → ∃ ts : List Bool, xs = ts.map V.bl ∧ ts.all id = true
  | _, _, .nil => ⟨[], rfl, rfl⟩
  | _, _, .cons e t => by
    obtain ⟨ts, h1, h2⟩ := trues_of t
    refine ⟨true :: ts, ?_, ?_⟩
    · rw [show _ = _ from e, h1]
      rfl
    · rw [List.all_cons, h2]
      rfl
theorem letters_mem : ∀ c : Nat, c < 123 → 97 ≤ c → c ∈ (Str.ofString "abcdefghijklmnopqrstuvwxyz").cps.toList := by decide +kernel

theorem scIsMark : FnScope ["thing", "sign"] ["thing"] (defScope sIsMark) := ⟨rfl, rfl, rfl, by decide +kernel, rfl, by decide +kernel, by decide +kernel⟩
theorem ok_isMark (T : Txt K mg) : FnOk P w K mg base CX0 1 T.isMark.f T.isMark.fd ["thing"] spIsMark := by
  obtain ⟨tk, hlet⟩ := T.letters
  refine T.isMark.F.ok scIsMark (fun vs H Q E h => ?_) (fun cdv A outer s H vs Q E hr h => ?_)
  · obtain ⟨⟨_, rfl, _⟩, _⟩ := h
    rfl
  · obtain ⟨⟨m, rfl, gm⟩, q⟩ := h
    refine ⟨_, pss_one (ps_ret (pe_and (pe_callB RZ.call_isTy (by rfl) T.zIsinstance (by decide +kernel) (pa_cons (pv 0) (pa_cons (pe_bltn (v := .ty "str") (by rfl) T.zStr (by decide +kernel) rfl) pa_nil)))
      (pe_and (pe_chain op_lt op_le pe_int (pe_callB call_len_str (by rfl) T.zLen PySem.boot_len (pa_cons (pv 0) pa_nil)) pe_int)
      (pe_one (pe_callB (cr_all rfl) (by rfl) T.zAll (by decide +kernel) (pa_cons (pe_lc (own := [("sign", 1)]) (g := gName 1) (tt := tYes) rfl scIsMark.nd (pi_str (pv 0)) (blkOk_by (N := ["thing", "sign"]) (sc := defScope sIsMark) (by decide +kernel))
        (fun _ _ _ _ _ => pg_name (i := 1) scIsMark.nd rfl (Or.inl rfl)) (fun _ _ _ _ _ => pts_nil) (fun _ _ _ _ _ => pe_cmpR op_in_sign (pv 1) (pe_glob (v := .str "abcdefghijklmnopqrstuvwxyz") rfl hlet ⟨_, rfl⟩) (by rfl))) pa_nil)))))), ?_⟩
    obtain ⟨g1, g2, g3⟩ := gm
    have hsz : m.length = m.cps.size := rfl
    refine ⟨_, rfl, _, "str", rfl, .str m, true, rfl, iteT ?_⟩
    refine ⟨_, rfl, m, rfl, ?_, _, _, rfl, rfl, _, rfl, ite2 (fun _ => ?_) fun c => absurd (decide_eq_true (by omega)) c⟩
    · have : (8 : Nat) ≤ sizeLine := by decide
      omega
    refine ⟨_, _, rfl, rfl, _, rfl, ite2 (fun _ => ?_) fun c => absurd (decide_eq_true (by omega)) c⟩
    refine ⟨_, rfl, m, rfl, fun D hD => lcg_str (Same H) TrueAt (fun _ _ => True) stays_true (small_line (by omega)) (same_new hD) (same_gD hD) trivial ?_ ?_⟩
    · intro i c hc H' cs KY KN go hac pc ky kn
      refine ⟨rfl, yes ⟨_, rfl, c, _, rfl, rfl, ky () _ _ trivial go (TK.refl _) rfl ?_⟩⟩
      have hm : c ∈ m.cps.toList := by
        rw [← Array.getElem?_toList] at hc
        exact List.mem_of_getElem? hc
      have := g3 c hm
      exact congrArg V.bl (decide_eq_true (letters_mem c (by omega) this.1))
    · intro H' acc cs go hA he _
      obtain ⟨ts, e1, e2⟩ := trues_of he
      rw [e1] at hA
      refine ⟨D, ts, rfl, SqL.of hA, ?_⟩
      rw [e2]
      exact q _ go

/-! ### items of lots and rows -/
/-- t[i] of a lot -/
def rIxLot : R2 := fun x y H Q => ∃ (p : Addr) (l : Lot) (i : Nat) (m : Str), x = V.ref p ∧ y = V.int (i : Int) ∧ H p = some (.tup (l.map V.str)) ∧ l[i]? = some m ∧ Q (.str m) H
/-- t[i] of a tuple -/
def rIxT2 : R2 := fun x y H Q => ∃ (p : Addr) (xs : List V) (i : Nat) (v : V), x = V.ref p ∧ y = V.int (i : Int) ∧ H p = some (.tup xs) ∧ xs[i]? = some v ∧ Q v H
/-- xs[i] of a list -/
def rIxL2 : R2 := fun x y H Q => ∃ (p : Addr) (xs : List V) (i : Nat) (v : V), x = V.ref p ∧ y = V.int (i : Int) ∧ H p = some (.lst xs) ∧ xs[i]? = some v ∧ Q v H
theorem ixr_tup {X : Cx} : IxR X rIxT2 := fun value slice pins s σ H x y v u Q I rx ry ⟨p, xs, i, z, ex, ey, hp, hi, q⟩ hs =>
  ix_tup value slice pins s σ H x y v u Q I rx ry ⟨p, xs, (i : Int), z, ex, ey, SqT.of hp, atI_nat hi, q⟩ hs
theorem ixr_list {X : Cx} : IxR X rIxL2 := fun value slice pins s σ H x y v u Q I rx ry ⟨p, xs, i, z, ex, ey, hp, hi, q⟩ hs =>
  ix_list value slice pins s σ H x y v u Q I rx ry ⟨p, xs, (i : Int), z, ex, ey, SqL.of hp, atI_nat hi, q⟩ hs
theorem ixr_lot {X : Cx} : IxR X rIxLot := fun value slice pins s σ H x y v u Q I rx ry ⟨p, l, i, m, ex, ey, hp, hi, q⟩ hs =>
  ixr_tup value slice pins s σ H x y v u Q I rx ry ⟨p, l.map V.str, i, .str m, ex, ey, hp, by rw [List.getElem?_map, hi]; rfl, q⟩ hs
/-- len of what is tracked -/
def rLen2 : List V → Hp → VK → Prop := fun vs H Q => ∃ (p : Addr) (xs : List V), vs = [V.ref p] ∧ (H p = some (.lst xs) ∨ H p = some (.tup xs)) ∧ Q (.int (xs.length : Nat)) H
theorem call_len2 {X : Cx} : CallR X (.builtin "len") rLen2 := fun pins s σ H xs us Q I r ⟨p, ys, e, hp, q⟩ =>
  call_len_seq pins s σ H xs us Q I r ⟨p, ys, e, hp.elim (fun h => .inl (SqL.of h)) (fun h => .inr (SqT.of h)), q⟩
theorem ss_step {l : Lot} (h : SS l) {i : Nat} {a b : Str} (ha : l[i]? = some a) (hb : l[i + 1]? = some b) : decide (a.cps.toList < b.cps.toList) = true := by
  obtain ⟨h1, rfl⟩ := List.getElem?_eq_some_iff.mp ha
  obtain ⟨h2, rfl⟩ := List.getElem?_eq_some_iff.mp hb
  exact decide_eq_true (List.pairwise_iff_getElem.mp h i (i + 1) h1 h2 (Nat.lt_succ_self i))

theorem scIsLot : FnScope ["thing", "mark", "at"] ["thing"] (defScope sIsLot) := ⟨rfl, rfl, rfl, by decide +kernel, rfl, by decide +kernel, by decide +kernel⟩
theorem ok_isLot (T : Txt K mg) : FnOk P w K mg base CX0 2 T.isLot.f T.isLot.fd ["thing"] spIsLot := by
  have G : FnOk P w K mg base CX0 1 T.isMark.f T.isMark.fd ["thing"] spIsMark := ok_isMark T
  refine T.isLot.F.ok scIsLot (fun vs H Q E h => ?_) (fun cdv A outer s H vs Q E hr h => ?_)
  · obtain ⟨⟨_, _, rfl, _⟩, _⟩ := h
    rfl
  · obtain ⟨⟨_, l, rfl, ⟨p, rfl, hp⟩, hs, hg, hl⟩, q⟩ := h
    refine ⟨_, pss_cons (ps_if (PW.pt (pw_or (pt_not (pt_val (pe_callB RZ.call_isTy (by rfl) T.zIsinstance (by decide +kernel) (pa_cons (pv 0) (pa_cons (pe_bltn (v := .ty "tuple") (by rfl) T.zTuple (by decide +kernel) rfl) pa_nil)))))
        (pw_or1 (pt_not (pt_val (pe_callB (cr_all rfl) (by rfl) T.zAll (by decide +kernel) (pa_cons (pe_lc (own := [("mark", 1)]) (g := gName 1) (tt := tYes) rfl scIsLot.nd (pi_tup (pv 0)) (blkOk_by (N := ["thing", "mark", "at"]) (sc := defScope sIsLot) (by decide +kernel))
          (fun _ _ _ _ _ => pg_name (i := 1) scIsLot.nd rfl (Or.inl rfl)) (fun _ _ _ _ _ => pts_nil) (fun _ _ _ _ _ => pe_d T.isMark G hr (pa_cons (pv 1) pa_nil))) pa_nil)))))))
        (pss_one (ps_ret pe_bl)) pss_nil)
      (pss_one (ps_ret (pe_callB (cr_all rfl) (by rfl) T.zAll (by decide +kernel) (pa_cons (pe_lc (own := [("at", 2)]) (g := gName 2) (tt := tYes) rfl scIsLot.nd
        (pi_range1 (by rfl) T.zRange (pa_cons (pe_op op_sub (pe_callB call_len2 (by rfl) T.zLen PySem.boot_len (pa_cons (pv 0) pa_nil)) pe_int) pa_nil)) (blkOk_by (N := ["thing", "mark", "at"]) (sc := defScope sIsLot) (by decide +kernel))
          (fun _ _ _ _ _ => pg_name (i := 2) scIsLot.nd rfl (Or.inl rfl)) (fun _ _ _ _ _ => pts_nil) (fun _ _ _ _ _ => pe_cmpR op_lt_str (pe_ix ixr_lot (pv 0) (pv 2) (fun _ _ => rfl)) (pe_ix ixr_lot (pv 0) (pe_op op_add (pv 2) pe_int) (fun _ _ => rfl)) (nomark _))) pa_nil)))), ?_⟩
    refine ⟨_, rfl, _, "tuple", rfl, .tup hp, true, rfl, iteF ?_⟩
    refine ⟨_, rfl, p, rfl, ⟨_, SqT.of hp⟩, fun D hD => lcg_tup (xs := l.map V.str) (Same H) TrueAt (fun _ _ => True) stays_true (by rw [List.length_map]; exact small_line (by omega)) (same_new hD) (same_gD hD) (fun H' k => SqT.of (k _ _ hp)) trivial ?_ ?_⟩
    · intro i x hx H' cs KY KN go hac pc ky kn
      obtain ⟨m, hm, rfl⟩ := strs_get hx
      refine ⟨rfl, yes ⟨_, rfl, ⟨m, rfl, hg m (List.mem_of_getElem? hm)⟩, fun H2 sm => ky () _ _ trivial (go.trans sm) (TK.of sm) ?_ rfl⟩⟩
      obtain ⟨ac, e⟩ := hac
      rw [e]
      exact sm _ _ e
    · intro H' acc cs go hA he _
      obtain ⟨ts, e1, e2⟩ := trues_of he
      rw [e1] at hA
      refine ⟨D, ts, rfl, SqL.of hA, true, by rw [e2], iteF ?_⟩
      have hp' := go _ _ hp
      refine ⟨_, rfl, p, _, rfl, .inr hp', _, _, rfl, rfl, (l.length : Int) - 1, by rw [List.length_map], by omega, by omega, fun D2 hD2 => lcg_range (Same H') TrueAt (fun _ _ => True) stays_true (small_line (by omega)) (same_new hD2) (same_gD hD2) trivial ?_ ?_⟩
      · intro i hi H2 cs2 KY KN go2 hac2 pc2 ky kn
        have hi2 : i + 1 < l.length := by omega
        have e3 := List.getElem?_eq_getElem (show i < l.length by omega)
        have e4 := List.getElem?_eq_getElem hi2
        have hp2 := go2 _ _ hp'
        refine ⟨rfl, yes ⟨_, rfl, _, rfl, p, l, i, _, rfl, by rw [Int.zero_add], hp2, e3, _, rfl, _, rfl, _, _, rfl, rfl, p, l, i + 1, _, rfl, by rw [Int.zero_add]; rfl, hp2, e4, _, _, rfl, rfl, ky () _ _ trivial go2 (TK.refl _) rfl ?_⟩⟩
        exact congrArg V.bl (ss_step hs e3 e4)
      · intro H2 acc2 cs2 go2 hA2 he2 _
        obtain ⟨ts2, e5, e6⟩ := trues_of he2
        rw [e5] at hA2
        refine ⟨D2, ts2, rfl, SqL.of hA2, ?_⟩
        rw [e6]
        exact q _ (go.trans go2)

theorem scIsRule : FnScope ["thing"] ["thing"] (defScope sIsRule) := ⟨rfl, rfl, rfl, by decide +kernel, rfl, by decide +kernel, by decide +kernel⟩
theorem ok_isRule (T : Txt K mg) : FnOk P w K mg base CX0 3 T.isRule.f T.isRule.fd ["thing"] spIsRule := by
  have G : FnOk P w K mg base CX0 2 T.isLot.f T.isLot.fd ["thing"] spIsLot := ok_isLot T
  refine T.isRule.F.ok scIsRule (fun vs H Q E h => ?_) (fun cdv A outer s H vs Q E hr h => ?_)
  · obtain ⟨⟨_, _, rfl, _⟩, _⟩ := h
    rfl
  · obtain ⟨⟨_, r, rfl, ⟨p, x, y, rfl, hp, hx, hy⟩, s1, s2, ⟨g1, g2⟩, l1, l2⟩, q⟩ := h
    refine ⟨_, pss_one (ps_ret (pe_and (pe_callB RZ.call_isTy (by rfl) T.zIsinstance (by decide +kernel) (pa_cons (pv 0) (pa_cons (pe_bltn (v := .ty "tuple") (by rfl) T.zTuple (by decide +kernel) rfl) pa_nil)))
      (pe_and (pe_cmpR op_eq (pe_callB call_len2 (by rfl) T.zLen PySem.boot_len (pa_cons (pv 0) pa_nil)) pe_int (nomark _))
      (pe_and (pe_d T.isLot G hr (pa_cons (pe_ix ixr_tup (pv 0) pe_int (fun _ _ => rfl)) pa_nil)) (pe_one (pe_d T.isLot G hr (pa_cons (pe_ix ixr_tup (pv 0) pe_int (fun _ _ => rfl)) pa_nil))))))), ?_⟩
    refine ⟨_, rfl, _, "tuple", rfl, .tup hp, true, rfl, iteT ⟨_, rfl, p, _, rfl, .inr hp, rfl, true, by rfl, iteT ?_⟩⟩
    refine ⟨_, rfl, p, _, 0, x, rfl, rfl, hp, rfl, ⟨_, _, rfl, hx, s1, g1, l1⟩, fun H1 sm => ⟨true, rfl, iteT ?_⟩⟩
    exact ⟨_, rfl, p, _, 1, y, rfl, rfl, sm _ _ hp, rfl, ⟨_, _, rfl, hy.tk (TK.of sm), s2, g2, l2⟩, fun H2 sm2 => q _ (sm.trans sm2)⟩

theorem scBreaks : FnScope ["lot", "rule"] ["lot", "rule"] (defScope sBreaks) := ⟨rfl, rfl, rfl, by decide +kernel, rfl, by decide +kernel, by decide +kernel⟩
theorem ok_breaks (T : Txt K mg) : FnOk P w K mg base CX0 2 T.breaks.f T.breaks.fd ["lot", "rule"] spBreaks := by
  have G : FnOk P w K mg base CX0 1 T.within.f T.within.fd ["one", "other"] spWithin := ok_within T
  refine T.breaks.F.ok scBreaks (fun vs H Q E h => ?_) (fun cdv A outer s H vs Q E hr h => ?_)
  · obtain ⟨_, _, _, _, rfl, _⟩ := h
    rfl
  · obtain ⟨_, _, l, r, rfl, hl, ⟨p, x, y, rfl, hp, hx, hy⟩, l0, l1, l2, q⟩ := h
    refine ⟨_, pss_one (ps_ret (pe_and (pe_d T.within G hr (pa_cons (pe_ix ixr_tup (pv 1) pe_int (fun _ _ => rfl)) (pa_cons (pv 0) pa_nil)))
      (pe_one (pe_not (pe_d T.within G hr (pa_cons (pe_ix ixr_tup (pv 1) pe_int (fun _ _ => rfl)) (pa_cons (pv 0) pa_nil))))))), ?_⟩
    refine ⟨_, rfl, p, _, 0, x, rfl, rfl, hp, rfl, _, rfl, x, _, r.1, l, rfl, hx, hl, l1, fun H1 sm => ⟨_, rfl, ?_⟩⟩
    refine ite2 (fun c => ?_) (fun c => ?_)
    · refine ⟨_, rfl, p, _, 1, y, rfl, rfl, sm _ _ hp, rfl, _, rfl, y, _, r.2, l, rfl, hy.tk (TK.of sm), hl.tk (TK.of sm), l2, fun H2 sm2 => ⟨_, rfl, ?_⟩⟩
      have e : (!wi r.2 l) = !keeps l r := by unfold keeps; rw [c]; simp
      rw [e]
      exact q _ (sm.trans sm2)
    · have e : false = !keeps l r := by unfold keeps; rw [Bool.not_eq_true] at c; rw [c]; rfl
      rw [e]
      exact q _ sm

theorem scIsRuleOf : FnScope ["marks", "thing"] ["marks", "thing"] (defScope sIsRuleOf) := ⟨rfl, rfl, rfl, by decide +kernel, rfl, by decide +kernel, by decide +kernel⟩
theorem of_wi {marks l : Lot} (h : Of marks l) : wi l marks = true := wi_iff.mpr h.2
theorem Good.le {marks l : Lot} (G : Good marks) (h : Of marks l) : l.length ≤ 5 := Nat.le_trans (h.len G.ss) G.len
theorem ok_isRuleOf (T : Txt K mg) : FnOk P w K mg base CX0 4 T.isRuleOf.f T.isRuleOf.fd ["marks", "thing"] spIsRuleOf := by
  have G : FnOk P w K mg base CX0 3 T.isRule.f T.isRule.fd ["thing"] spIsRule := ok_isRule T
  have GW : FnOk P w K mg base CX0 1 T.within.f T.within.fd ["one", "other"] spWithin := ok_within T
  refine T.isRuleOf.F.ok scIsRuleOf (fun vs H Q E h => ?_) (fun cdv A outer s H vs Q E hr h => ?_)
  · obtain ⟨⟨_, _, _, _, rfl, _⟩, _⟩ := h
    rfl
  · obtain ⟨⟨_, _, marks, r, rfl, hm, ⟨p, x, y, rfl, hp, hx, hy⟩, gd, o1, o2⟩, q⟩ := h
    have hr1 : Room 1 _ := hr.mono (by decide)
    have k1 := gd.le o1
    have k2 := gd.le o2
    refine ⟨_, pss_one (ps_ret (pe_and (pe_d T.isRule G hr (pa_cons (pv 1) pa_nil)) (pe_and (pe_d T.within GW hr1 (pa_cons (pe_ix ixr_tup (pv 1) pe_int (fun _ _ => rfl)) (pa_cons (pv 0) pa_nil)))
      (pe_one (pe_d T.within GW hr1 (pa_cons (pe_ix ixr_tup (pv 1) pe_int (fun _ _ => rfl)) (pa_cons (pv 0) pa_nil))))))), ?_⟩
    refine ⟨_, rfl, ⟨_, r, rfl, ⟨p, x, y, rfl, hp, hx, hy⟩, o1.1, o2.1, ⟨gd.of o1, gd.of o2⟩, by omega, by omega⟩, fun H1 sm => ⟨true, rfl, iteT ?_⟩⟩
    refine ⟨_, rfl, p, _, 0, x, rfl, rfl, sm _ _ hp, rfl, _, rfl, x, _, r.1, marks, rfl, hx.tk (TK.of sm), hm.tk (TK.of sm), by omega, fun H2 sm2 => ⟨_, rfl, ?_⟩⟩
    rw [of_wi o1]
    have s2 := sm.trans sm2
    refine iteT ⟨_, rfl, p, _, 1, y, rfl, rfl, s2 _ _ hp, rfl, _, rfl, y, _, r.2, marks, rfl, hy.tk (TK.of s2), hm.tk (TK.of s2), by omega, fun H3 sm3 => ?_⟩
    rw [of_wi o2]
    exact q _ (s2.trans sm3)

theorem scAreRulesOf : FnScope ["marks", "thing", "row"] ["marks", "thing"] (defScope sAreRulesOf) := ⟨rfl, rfl, rfl, by decide +kernel, rfl, by decide +kernel, by decide +kernel⟩
theorem kit_list : PySem.W.kitAny K (.type "list") [.type "list", .type "tuple"] = some true := kitAny_cons (b := true) (r := true) (kit_ty (by decide +kernel)) (fun e => by cases e) (fun _ => rfl)
theorem ok_areRulesOf (T : Txt K mg) : FnOk P w K mg base CX0 5 T.areRulesOf.f T.areRulesOf.fd ["marks", "thing"] spAreRulesOf := by
  have G : FnOk P w K mg base CX0 4 T.isRuleOf.f T.isRuleOf.fd ["marks", "thing"] spIsRuleOf := ok_isRuleOf T
  refine T.areRulesOf.F.ok scAreRulesOf (fun vs H Q E h => ?_) (fun cdv A outer s H vs Q E hr h => ?_)
  · obtain ⟨⟨_, _, _, _, rfl, _⟩, _⟩ := h
    rfl
  · obtain ⟨⟨_, _, marks, rows, rfl, ⟨p, rfl, hp⟩, ⟨a, xs, rfl, ha, he⟩, gd, ro, hl⟩, q⟩ := h
    refine ⟨_, pss_one (ps_ret (pe_and (pe_callB call_isiT (by rfl) T.zIsinstance (by decide +kernel) (pa_cons (pv 1) (pa_cons (pe_tup (pa_cons (pe_bltn (v := .ty "list") (by rfl) T.zList (by decide +kernel) rfl) (pa_cons (pe_bltn (v := .ty "tuple") (by rfl) T.zTuple (by decide +kernel) rfl) pa_nil))) pa_nil)))
      (pe_one (pe_callB (cr_all rfl) (by rfl) T.zAll (by decide +kernel) (pa_cons (pe_lc (own := [("row", 2)]) (g := gName 2) (tt := tYes) rfl scAreRulesOf.nd (pi_list (pv 1)) (blkOk_by (N := ["marks", "thing", "row"]) (sc := defScope sAreRulesOf) (by decide +kernel))
          (fun _ _ _ _ _ => pg_name (i := 2) scAreRulesOf.nd rfl (Or.inl rfl)) (fun _ _ _ _ _ => pts_nil) (fun _ _ _ _ _ => pe_d T.isRuleOf G hr (pa_cons (pv 0) (pa_cons (pv 2) pa_nil)))) pa_nil))))), ?_⟩
    refine ⟨_, rfl, by show 2 ≤ sizeLine; decide, fun tp htp => ⟨_, tp, _, _, _, true, rfl, upd_same, .cons (.ty "list") (.cons (.ty "tuple") .nil), .base (.lst ((same_new htp) _ _ ha)), kit_list, true, rfl, iteT ?_⟩⟩
    have s0 : Same H (upd H tp (.tup [.ty "list", .ty "tuple"])) := same_new htp
    have ha0 := s0 _ _ ha
    refine ⟨_, rfl, a, rfl, ⟨_, SqL.of ha0⟩, fun D hD => lcg_list (xs := xs) (Same _) TrueAt (fun _ _ => True) stays_true (by rw [he.length]; exact small_line (by omega)) (same_new hD) (same_gD hD) (fun H' k => SqL.of (k _ _ ha0)) trivial ?_ ?_⟩
    · intro i x hx H' cs KY KN go hac pc ky kn
      obtain ⟨r, hr2, hrow⟩ := each_get he hx
      have s1 := s0.trans go
      refine ⟨rfl, yes ⟨_, rfl, _, rfl, ⟨_, _, marks, r, rfl, ⟨p, rfl, s1 _ _ hp⟩, hrow.tk (TK.of s1), gd, ro r (List.mem_of_getElem? hr2)⟩, fun H2 sm => ky () _ _ trivial (go.trans sm) (TK.of sm) ?_ rfl⟩⟩
      obtain ⟨ac, e⟩ := hac
      rw [e]
      exact sm _ _ e
    · intro H' acc cs go hA he2 _
      obtain ⟨ts, e1, e2⟩ := trues_of he2
      rw [e1] at hA
      refine ⟨D, ts, rfl, SqL.of hA, ?_⟩
      rw [e2]
      exact q _ (s0.trans go)
end
end K5
/-! K5l: the class Rules. -/
namespace K5
open PySem PySem.Spec PyProof.Rows L2

theorem TK.at_ {H : Hp} {p : Addr} {o : HO} (h : ∀ xs, H p ≠ some (.tup xs)) : TK H (L2.upd H p o) := fun a xs e => by
  have : a ≠ p := by
    rintro rfl
    exact h xs e
  rw [upd_ne this]
  exact e
/-! ### the instances -/
def rf (m l : V) : List (Str × V) := putF "its_rows" l (putF "its_marks" m [])
def tf (m l : V) : List (Str × V) := putF "its_lots" l (putF "its_marks" m [])
theorem n1 : ¬ (("its_marks" : Str) = "its_rows") := by decide +kernel
theorem n2 : ¬ (("its_marks" : Str) = "its_lots") := by decide +kernel
theorem rf_marks (m l : V) : (rf m l).lookup ("its_marks" : Str) = some m := by
  unfold rf
  rw [lookup_putF, if_neg n1, lookup_putF, if_pos rfl]
theorem rf_rows (m l : V) : (rf m l).lookup ("its_rows" : Str) = some l := by
  unfold rf
  rw [lookup_putF, if_pos rfl]
theorem rf_no (m l : V) {x : Str} (h1 : ¬ x = "its_rows") (h2 : ¬ x = "its_marks") : (rf m l).lookup x = none := by
  unfold rf
  rw [lookup_putF, if_neg h1, lookup_putF, if_neg h2]
  rfl
theorem tf_marks (m l : V) : (tf m l).lookup ("its_marks" : Str) = some m := by
  unfold tf
  rw [lookup_putF, if_neg n2, lookup_putF, if_pos rfl]
theorem tf_lots (m l : V) : (tf m l).lookup ("its_lots" : Str) = some l := by
  unfold tf
  rw [lookup_putF, if_pos rfl]
theorem tf_no (m l : V) {x : Str} (h1 : ¬ x = "its_lots") (h2 : ¬ x = "its_marks") : (tf m l).lookup x = none := by
  unfold tf
  rw [lookup_putF, if_neg h1, lookup_putF, if_neg h2]
  rfl
/-- Rules(marks, rows) -/
def IsRules (C : Addr) (H : Hp) (p : Addr) (marks : Lot) (rows : List Row) : Prop :=
  ∃ dx m l xs, H p = some (.ins C dx (rf (.ref m) (.ref l))) ∧ H m = some (.tup (marks.map V.str)) ∧ H l = some (.lst xs) ∧ Each RowAt H xs rows
/-- Table(marks, lots) -/
def IsTable (C : Addr) (H : Hp) (p : Addr) (marks : Lot) (lots : List Lot) : Prop :=
  ∃ dx m l xs, H p = some (.ins C dx (tf (.ref m) (.ref l))) ∧ H m = some (.tup (marks.map V.str)) ∧ H l = some (.lst xs) ∧ Each LotAt H xs lots
theorem IsRules.same {C : Addr} {H H' : Hp} {p : Addr} {marks : Lot} {rows : List Row} (h : IsRules C H p marks rows) (s : Same H H') : IsRules C H' p marks rows := by
  obtain ⟨dx, m, l, xs, h1, h2, h3, h4⟩ := h
  exact ⟨dx, m, l, xs, s _ _ h1, s _ _ h2, s _ _ h3, stays_row.each (TK.of s) h4⟩
theorem IsTable.same {C : Addr} {H H' : Hp} {p : Addr} {marks : Lot} {lots : List Lot} (h : IsTable C H p marks lots) (s : Same H H') : IsTable C H' p marks lots := by
  obtain ⟨dx, m, l, xs, h1, h2, h3, h4⟩ := h
  exact ⟨dx, m, l, xs, s _ _ h1, s _ _ h2, s _ _ h3, stays_lot.each (TK.of s) h4⟩
theorem ListAt.same {β : Type} {R : At β} (S : Stays R) {H H' : Hp} {v : V} {bs : List β} (h : ListAt R H v bs) (s : Same H H') : ListAt R H' v bs := by
  obtain ⟨a, xs, e, h1, h2⟩ := h
  exact ⟨a, xs, e, s _ _ h1, S.each (TK.of s) h2⟩
/-- a theory at p: its marks and its closing -/
def ThR (C : Addr) (H : Hp) (p : Addr) (marks : Lot) (Tc : Lot → Lot) : Prop := Good marks ∧ ∃ rows, IsRules C H p marks rows ∧ RowsOf marks rows ∧ rows.length ≤ 1000 ∧ Tc = clR marks rows
def ThT (C : Addr) (H : Hp) (p : Addr) (marks : Lot) (Tc : Lot → Lot) : Prop := Good marks ∧ ∃ lots, IsTable C H p marks lots ∧ (∀ l ∈ lots, Of marks l) ∧ lots.length ≤ 1000 ∧ Tc = clT marks lots
/-! ### promises -/
def spRInit (C : Addr) : Sp := fun vs H Q _ => ∃ p x y dx marks rows, vs = [V.ref p, x, y] ∧ H p = some (.ins C dx []) ∧ LotAt H x marks ∧ ListAt RowAt H y rows ∧ Good marks ∧ RowsOf marks rows ∧ rows.length ≤ 1000 ∧
  ∀ H', (∀ b o, H b = some o → b ≠ p → H' b = some o) → IsRules C H' p marks rows → Q .non H'
def spMarks (I : Hp → Addr → Lot → (Lot → Lot) → Prop) : Sp := fun vs H Q _ => ∃ p marks Tc, vs = [V.ref p] ∧ I H p marks Tc ∧ ∀ v, LotAt H v marks → Q v H
def spRows (C : Addr) : Sp := fun vs H Q _ => ∃ p marks rows, vs = [V.ref p] ∧ IsRules C H p marks rows ∧ ∀ H' v, Same H H' → ListAt RowAt H' v rows → Q v H'
def spBroken (C : Addr) : Sp := fun vs H Q _ => ∃ p y marks rows l, vs = [V.ref p, y] ∧ IsRules C H p marks rows ∧ rows.length ≤ 1000 ∧ (∀ r ∈ rows, r.1.length ≤ 1000 ∧ r.2.length ≤ 1000) ∧ LotAt H y l ∧ l.length ≤ 1000 ∧
  ∀ H' v, Same H H' → ListAt RowAt H' v (brokenBy rows l) → Q v H'
def spCall (I : Hp → Addr → Lot → (Lot → Lot) → Prop) : Sp := fun vs H Q _ => ∃ p y marks Tc l, vs = [V.ref p, y] ∧ I H p marks Tc ∧ LotAt H y l ∧ Of marks l ∧ ∀ H' v, Same H H' → LotAt H' v (Tc l) → Q v H'
def spContains (C : Addr) : Sp := fun vs H Q _ => ∃ p y marks rows l, vs = [V.ref p, y] ∧ IsRules C H p marks rows ∧ Good marks ∧ RowsOf marks rows ∧ rows.length ≤ 1000 ∧ LotAt H y l ∧ Of marks l ∧ ∀ H', Same H H' → Q (.bl (shut rows l)) H'

section
variable {P : Program} {w : World} {K : PySem.W.Frag} {mg : Str → Option Value} {base : Heap}
theorem scRInit : FnScope ["self", "marks", "rows"] ["self", "marks", "rows"] (defScope sRInit) := ⟨rfl, rfl, rfl, by decide +kernel, rfl, by decide +kernel, by decide +kernel⟩
theorem ok_rInit (T : Txt K mg) : FnOk P w K mg base CX0 6 T.rules.init.f T.rules.init.fd ["self", "marks", "rows"] (spRInit T.rules.C) := by
  have G1 : FnOk P w K mg base CX0 2 T.isLot.f T.isLot.fd ["thing"] spIsLot := ok_isLot T
  have G2 : FnOk P w K mg base CX0 5 T.areRulesOf.f T.areRulesOf.fd ["marks", "thing"] spAreRulesOf := ok_areRulesOf T
  refine T.rules.init.F.ok scRInit (fun vs H Q E h => ?_) (fun cdv A outer s H vs Q E hr h => ?_)
  · obtain ⟨_, _, _, _, _, _, rfl, _⟩ := h
    rfl
  · obtain ⟨p, x, y, dx, marks, rows, rfl, hp, ⟨m, rfl, hm⟩, ⟨a, xs, rfl, ha, he⟩, gd, ro, hl, q⟩ := h
    refine ⟨_, pss_cons (ps_if (pt_not (pt_val (pe_d T.isLot G1 (hr.mono (by decide)) (pa_cons (pv 1) pa_nil)))) (pss_one ps_never) pss_nil)
      (pss_cons (ps_if (pt_not (pt_val (pe_d T.areRulesOf G2 hr (pa_cons (pv 1) (pa_cons (pv 2) pa_nil))))) (pss_one ps_never) pss_nil)
      (pss_cons (ps_fld (pv 0) (pv 1) rfl) (pss_one (ps_fld (pv 0) (pe_callTy call_list_of (by rfl) T.zList (by decide +kernel) (pa_cons (pv 2) pa_nil)) rfl)))), ?_⟩
    have hle : marks.length ≤ 1000 := Nat.le_trans gd.len (by decide)
    refine ⟨_, rfl, ⟨_, marks, rfl, ⟨m, rfl, hm⟩, gd.ss, gd.ok, hle⟩, fun H1 s1 => ⟨true, rfl, iteF ?_⟩⟩
    refine ⟨_, rfl, _, rfl, ⟨_, _, marks, rows, rfl, ⟨m, rfl, s1 _ _ hm⟩, ⟨a, xs, rfl, s1 _ _ ha, stays_row.each (TK.of s1) he⟩, gd, ro, hl⟩, fun H2 s2 => ⟨true, rfl, iteF ?_⟩⟩
    have s12 := s1.trans s2
    have hp2 := s12 _ _ hp
    have ha2 := s12 _ _ ha
    have hm2 := s12 _ _ hm
    have nap : a ≠ p := ne_of ha2 hp2 (by intro z; cases z)
    have nmp : m ≠ p := ne_of hm2 hp2 (by intro z; cases z)
    refine ⟨_, rfl, _, rfl, p, _, dx, _, rfl, hp2, T.rules.cl, T.rules.nM, by show 0 < 1000; decide, ?_⟩
    refine ⟨_, rfl, a, xs, rfl, .inl (SqL.of (by rw [upd_ne nap]; exact ha2)), fun l hl2 => ?_⟩
    have npl : p ≠ l := ne_of_none upd_same hl2
    have nl : H2 l = none := by
      have e := hl2
      rw [upd_ne npl.symm] at e
      exact e
    refine ⟨_, rfl, p, _, dx, _, rfl, by rw [upd_ne npl, upd_same], T.rules.cl, T.nR, by show 1 < 1000; decide, ?_⟩
    refine q _ (fun b o e nb => ?_) ⟨dx, m, l, xs, upd_same, ?_, ?_, ?_⟩
    · have e2 := s12 _ _ e
      rw [upd_ne nb, upd_ne (ne_of_none e2 nl), upd_ne nb]
      exact e2
    · rw [upd_ne nmp, upd_ne (ne_of_none hm2 nl), upd_ne nmp]
      exact hm2
    · rw [upd_ne npl.symm, upd_same]
    · have t1 : TK H2 (upd H2 p (.ins T.rules.C dx (putF "its_marks" (.ref m) []))) := TK.at_ fun ys z => by rw [hp2] at z; cases z
      have t2 := TK.new (H := upd H2 p (.ins T.rules.C dx (putF "its_marks" (.ref m) []))) (o := .lst xs) hl2
      refine stays_row.each ((((TK.of s12).trans t1).trans t2).trans (TK.at_ fun ys z => ?_)) he
      rw [upd_ne npl, upd_same] at z
      cases z

theorem scRMarks : FnScope ["self"] ["self"] (defScope sRMarks) := ⟨rfl, rfl, rfl, by decide +kernel, rfl, by decide +kernel, by decide +kernel⟩
theorem ok_rMarks (T : Txt K mg) : FnOk P w K mg base CX0 1 T.rMarks.f T.rMarks.fd ["self"] (spMarks (ThR T.rules.C)) := by
  refine T.rMarks.F.ok scRMarks (fun vs H Q E h => ?_) (fun cdv A outer s H vs Q E hr h => ?_)
  · obtain ⟨_, _, _, rfl, _⟩ := h
    rfl
  · obtain ⟨p, marks, Tc, rfl, ⟨gd, rows, ⟨dx, m, l, xs, h1, h2, h3, h4⟩, _⟩, q⟩ := h
    refine ⟨_, pss_one (ps_ret (pe_fld (pv 0) rfl)), ?_⟩
    exact ⟨_, rfl, p, _, dx, _, _, rfl, h1, T.rules.cl, T.rules.nM, rf_marks _ _, q _ ⟨m, rfl, h2⟩⟩
theorem scRRows : FnScope ["self"] ["self"] (defScope sRRows) := ⟨rfl, rfl, rfl, by decide +kernel, rfl, by decide +kernel, by decide +kernel⟩
theorem ok_rRows (T : Txt K mg) : FnOk P w K mg base CX0 1 T.rRows.f T.rRows.fd ["self"] (spRows T.rules.C) := by
  refine T.rRows.F.ok scRRows (fun vs H Q E h => ?_) (fun cdv A outer s H vs Q E hr h => ?_)
  · obtain ⟨_, _, _, rfl, _⟩ := h
    rfl
  · obtain ⟨p, marks, rows, rfl, ⟨dx, m, l, xs, h1, h2, h3, h4⟩, q⟩ := h
    refine ⟨_, pss_one (ps_ret (pe_callTy call_list_of (by rfl) T.zList (by decide +kernel) (pa_cons (pe_fld (pv 0) rfl) pa_nil))), ?_⟩
    refine ⟨_, rfl, p, _, dx, _, _, rfl, h1, T.rules.cl, T.nR, rf_rows _ _, l, xs, rfl, .inl (SqL.of h3), fun l2 hl2 => ?_⟩
    exact q _ _ (same_new hl2) ⟨l2, xs, rfl, upd_same, stays_row.each (TK.new hl2) h4⟩

theorem scRBroken : FnScope ["self", "lot", "row"] ["self", "lot"] (defScope sRBrokenBy) := ⟨rfl, rfl, rfl, by decide +kernel, rfl, by decide +kernel, by decide +kernel⟩
theorem ok_rBroken (T : Txt K mg) : FnOk P w K mg base CX0 3 T.rBroken.f T.rBroken.fd ["self", "lot"] (spBroken T.rules.C) := by
  have G : FnOk P w K mg base CX0 2 T.breaks.f T.breaks.fd ["lot", "rule"] spBreaks := ok_breaks T
  refine T.rBroken.F.ok scRBroken (fun vs H Q E h => ?_) (fun cdv A outer s H vs Q E hr h => ?_)
  · obtain ⟨_, _, _, _, _, rfl, _⟩ := h
    rfl
  · obtain ⟨p, y, marks, rows, lot, rfl, ⟨dx, m, l, xs, h1, h2, h3, h4⟩, hl, hle, hy, hyl, q⟩ := h
    refine ⟨_, pss_one (ps_ret (pe_lc (own := [("row", 2)]) (g := gName 2) rfl scRBroken.nd (pi_list (pe_fld (pv 0) rfl)) (blkOk_by (N := ["self", "lot", "row"]) (sc := defScope sRBrokenBy) (by decide +kernel))
      (fun _ _ _ _ _ => pg_name (i := 2) scRBroken.nd rfl (Or.inl rfl)) (fun _ _ _ _ _ => pts_one (pt_val (pe_d T.breaks G hr (pa_cons (pv 1) (pa_cons (pv 2) pa_nil))))) (fun _ _ _ _ _ => pv 2))), ?_⟩
    refine ⟨_, rfl, p, _, dx, _, _, rfl, h1, T.rules.cl, T.nR, rf_rows _ _, l, rfl, ⟨xs, SqL.of h3⟩, fun D hD => lcg_list (xs := xs) (Same H) RowAt (fun i cs => cs = (rows.take i).filter fun r => !keeps lot r) stays_row (by rw [h4.length]; exact small_line (by omega)) (same_new hD) (same_gD hD) (fun H' k => SqL.of (k _ _ h3)) rfl ?_ ?_⟩
    · intro i x hx H' cs KY KN go hac pc ky kn
      obtain ⟨r, hr2, hrow⟩ := each_get h4 hx
      have hb := hle r (List.mem_of_getElem? hr2)
      have hrow' := hrow.tk (TK.of go)
      have st : (rows.take (i + 1)).filter (fun r => !keeps lot r) = if (!keeps lot r) = true then (rows.take i).filter (fun r => !keeps lot r) ++ [r] else (rows.take i).filter (fun r => !keeps lot r) := by
        rw [take_snoc hr2, List.filter_append]
        cases h : keeps lot r <;> simp [h]
      refine ⟨rfl, _, rfl, _, rfl, ⟨_, _, lot, r, rfl, hy.tk (TK.of go), hrow', hyl, hb.1, hb.2, fun H2 sm => ⟨_, rfl, ?_⟩⟩⟩
      have kp : H2 D = H' D := by
        obtain ⟨ac, e⟩ := hac
        rw [e]
        exact sm _ _ e
      refine ite2 (fun c => ?_) (fun c => ?_)
      · rw [if_pos c] at st
        exact ⟨_, rfl, ky r _ _ (by show cs ++ [r] = _; rw [pc]; exact st.symm) (go.trans sm) (TK.of sm) kp (hrow'.tk (TK.of sm))⟩
      · rw [if_neg c] at st
        exact kn _ (by show cs = _; rw [pc]; exact st.symm) (go.trans sm) (TK.of sm) kp
    · intro H' acc cs go hA he pc
      refine q _ _ go ⟨D, acc, rfl, hA, ?_⟩
      have e : cs = brokenBy rows lot := by rw [pc, h4.length, List.take_length]; rfl
      rw [← e]
      exact he

theorem scRClosing : FnScope ["self", "lot", "broken", "ahead", "behind"] ["self", "lot"] (defScope sRClosing) := ⟨rfl, rfl, rfl, by decide +kernel, rfl, by decide +kernel, by decide +kernel⟩
theorem ok_rClosing (T : Txt K mg) : FnOk P w K mg base CX0 4 T.rClosing.f T.rClosing.fd ["self", "lot"] (spCall (ThR T.rules.C)) := by
  have GB : FnOk P w K mg base CX0 3 T.rBroken.f T.rBroken.fd ["self", "lot"] (spBroken T.rules.C) := ok_rBroken T
  have GJ : FnOk P w K mg base CX0 2 T.joined.f T.joined.fd ["one", "other"] (spLot2 jn) := ok_joined T
  refine T.rClosing.F.ok scRClosing (fun vs H Q E h => ?_) (fun cdv A outer s H vs Q E hr h => ?_)
  · obtain ⟨_, _, _, _, _, rfl, _⟩ := h
    rfl
  · obtain ⟨p, y, marks, Tc, l0, rfl, ⟨gd, rows, IR, ro, hl, rfl⟩, hy, o0, q⟩ := h
    have hle : ∀ r ∈ rows, r.1.length ≤ 1000 ∧ r.2.length ≤ 1000 := fun r hr2 => by
      have h1 := gd.le (ro r hr2).1
      have h2 := gd.le (ro r hr2).2
      omega
    refine ⟨_, pss_cons (ps_set (i := 2) scRClosing.nd rfl (Or.inl rfl) (pe_meth (pv 0) T.rules.cl T.mRBroken GB hr T.rBroken.b .nil pass0 (pa_cons (pv 1) pa_nil)))
      (pss_cons (ps_while PassesOwn.never (pt_truth (pv 2) (by intro _; rfl))
        (pss_cons (ps_for PassesOwn.never rfl (pi_list (pv 2)) (pg_tup rfl (pgs_cons (pg_name (i := 3) scRClosing.nd rfl (Or.inl rfl)) (pgs_cons (pg_name (i := 4) scRClosing.nd rfl (Or.inl rfl)) pgs_nil)))
          (pss_one (ps_set (i := 1) scRClosing.nd rfl (Or.inl rfl) (pe_d T.joined GJ (hr.mono (by decide)) (pa_cons (pv 1) (pa_cons (pv 4) pa_nil))))))
        (pss_one (ps_set (i := 2) scRClosing.nd rfl (Or.inl rfl) (pe_meth (pv 0) T.rules.cl T.mRBroken GB hr T.rBroken.b .nil pass0 (pa_cons (pv 1) pa_nil))))))
      (pss_one (ps_ret (pv 1)))), ?_⟩
    have call : ∀ {H1 : Hp} (s1 : Same H H1) {lv : V} {l : Lot} (hv : LotAt H1 lv l) (o : Of marks l) (σ : L2.St) (e0 : σ[0]? = some (some (.ref p))) (e1 : σ[1]? = some (some lv)) (Q2 : VK),
        (∀ H' v, Same H1 H' → ListAt RowAt H' v (brokenBy rows l) → Q2 v H') → tMeth T.rules.C "broken_by" (spBroken T.rules.C) [] E0 (tVar 0) (tCons (tVar 1) tNil) σ H1 Q2 := by
      intro H1 s1 lv l hv o σ e0 e1 Q2 q2
      have IR1 := IR.same s1
      obtain ⟨dx, m, li, xs, h1, _⟩ := id IR1
      exact ⟨_, e0, p, dx, _, rfl, h1, rf_no _ _ (by decide +kernel) (by decide +kernel), _, e1, p, lv, marks, rows, l, rfl, IR1, hl, hle, hv, by have := gd.le o; omega, q2⟩
    refine call (Same.refl H) hy o0 _ rfl rfl _ fun H1 v s1 hv => ?_
    refine ⟨fun n σ H' => ∃ lv bv l ah be, σ = [some (.ref p), some lv, some bv, ah, be] ∧ Same H H' ∧ LotAt H' lv l ∧ ListAt RowAt H' bv (brokenBy rows l) ∧ Of marks l ∧ Mid marks rows l0 l ∧ n + l.length = marks.length,
      ⟨marks.length - l0.length, y, v, l0, none, none, rfl, s1, hy.tk (TK.of s1), hv, o0, mid_self o0.2, by have := o0.len gd.ss; omega⟩, ?_⟩
    rintro n σ H' ⟨lv, bv, l, ah, be, rfl, sm, hlv, ⟨ba, bx, rfl, hb, hbe⟩, o, md, hn⟩
    refine ⟨_, rfl, !bx.isEmpty, .inl ⟨bx, SqL.of hb, rfl⟩, ?_⟩
    refine ite2 (fun c => ?_) (fun c => ?_)
    · have ne : brokenBy rows l ≠ [] := fun z => by
        rw [z] at hbe
        cases hbe
        exact absurd c (by decide)
      have gr := joinAll_grows gd.ss ro o ne
      have oj : Of marks (joinAll (brokenBy rows l) l) := joinAll_of _ l o fun r hr2 => (ro r (brokenBy_mem hr2).1).2
      have mj := joinAll_mid ro md
      have lj := oj.len gd.ss
      refine ⟨fun σ' H2 => ∃ m', m' < n ∧ ∃ lv bv l ah be, σ' = [some (.ref p), some lv, some bv, ah, be] ∧ Same H H2 ∧ LotAt H2 lv l ∧ ListAt RowAt H2 bv (brokenBy rows l) ∧ Of marks l ∧ Mid marks rows l0 l ∧ m' + l.length = marks.length, fun σ' H2 z => z, ?_⟩
      refine ⟨_, rfl, ba, rfl, ⟨bx, SqL.of hb⟩, for_list (K := K) (a := ba) (xs := bx) (fun i σ H2 => ∃ lv ah be, σ = [some (.ref p), some lv, some (.ref ba), ah, be] ∧ Same H' H2 ∧ LotAt H2 lv (joinAll ((brokenBy rows l).take i) l))
        ⟨lv, ah, be, rfl, Same.refl _, hlv⟩ (fun i σ H2 _ ⟨_, _, _, _, s2, _⟩ => SqL.of (s2 _ _ hb)) ?_ ?_⟩
      · rintro i x σ H2 hx ⟨lv2, ah2, be2, rfl, s2, hlv2⟩
        obtain ⟨r, hr2, hrow⟩ := each_get hbe hx
        obtain ⟨t, xa, xb, rfl, ht, hxa, hxb⟩ := hrow.tk (TK.of s2)
        have rm := brokenBy_mem (List.mem_of_getElem? hr2)
        have oi : Of marks (joinAll ((brokenBy rows l).take i) l) := joinAll_of _ l o fun q hq => (ro q (brokenBy_mem (List.mem_of_mem_take hq)).1).2
        refine ⟨t, _, rfl, SqT.of ht, rfl, xa, [xb], rfl, xb, [], rfl, rfl, ?_⟩
        refine ⟨_, rfl, _, rfl, lv2, xb, _, r.2, rfl, hlv2, hxb, by have := gd.le oi; omega, by have := gd.le (ro r rm.1).2; omega, fun H3 v3 s3 hv3 => ⟨v3, some xa, some xb, rfl, s2.trans s3, ?_⟩⟩
        rw [take_snoc hr2, joinAll_snoc]
        exact hv3
      · rintro σ H2 ⟨lv2, ah2, be2, rfl, s2, hlv2⟩
        rw [hbe.length, List.take_length] at hlv2
        refine call (sm.trans s2) hlv2 oj _ rfl rfl _ fun H3 v3 s3 hv3 => ?_
        exact ⟨marks.length - (joinAll (brokenBy rows l) l).length, by omega, lv2, v3, joinAll (brokenBy rows l) l, ah2, be2, rfl, (sm.trans s2).trans s3, hlv2.tk (TK.of s3), hv3, oj, mj, by omega⟩
    · have e : bx = [] := by
        cases bx with
        | nil => rfl
        | cons _ _ => exact absurd rfl c
      subst e
      have eb : brokenBy rows l = [] := by
        generalize brokenBy rows l = z at hbe
        cases hbe
        rfl
      refine ⟨_, rfl, q _ _ sm ?_⟩
      rw [← mid_end gd.ss md o.1 (brokenBy_nil.mp eb)]
      exact hlv

theorem scRCall : FnScope ["self", "lot"] ["self", "lot"] (defScope sRCall) := ⟨rfl, rfl, rfl, by decide +kernel, rfl, by decide +kernel, by decide +kernel⟩
theorem ok_rCall (T : Txt K mg) : FnOk P w K mg base CX0 5 T.rCall.f T.rCall.fd ["self", "lot"] (spCall (ThR T.rules.C)) := by
  have G : FnOk P w K mg base CX0 4 T.rClosing.f T.rClosing.fd ["self", "lot"] (spCall (ThR T.rules.C)) := ok_rClosing T
  refine T.rCall.F.ok scRCall (fun vs H Q E h => ?_) (fun cdv A outer s H vs Q E hr h => ?_)
  · obtain ⟨_, _, _, _, _, rfl, _⟩ := h
    rfl
  · obtain ⟨p, y, marks, Tc, l0, rfl, th, hy, o0, q⟩ := h
    obtain ⟨gd, rows, ⟨dx, m, li, xs, h1, _⟩, _⟩ := id th
    refine ⟨_, pss_one (ps_ret (pe_meth (pv 0) T.rules.cl T.mRClosing G hr T.rClosing.b .nil pass0 (pa_cons (pv 1) pa_nil))), ?_⟩
    exact ⟨_, rfl, p, dx, _, rfl, h1, rf_no _ _ (by decide +kernel) (by decide +kernel), _, rfl, p, y, marks, Tc, l0, rfl, th, hy, o0, q⟩

theorem scRContains : FnScope ["self", "thing"] ["self", "thing"] (defScope sRContains) := ⟨rfl, rfl, rfl, by decide +kernel, rfl, by decide +kernel, by decide +kernel⟩
theorem ok_rContains (T : Txt K mg) : FnOk P w K mg base CX0 4 T.rContains.f T.rContains.fd ["self", "thing"] (spContains T.rules.C) := by
  have G1 : FnOk P w K mg base CX0 2 T.isLot.f T.isLot.fd ["thing"] spIsLot := ok_isLot T
  have G2 : FnOk P w K mg base CX0 1 T.within.f T.within.fd ["one", "other"] spWithin := ok_within T
  have GB : FnOk P w K mg base CX0 3 T.rBroken.f T.rBroken.fd ["self", "lot"] (spBroken T.rules.C) := ok_rBroken T
  refine T.rContains.F.ok scRContains (fun vs H Q E h => ?_) (fun cdv A outer s H vs Q E hr h => ?_)
  · obtain ⟨_, _, _, _, _, rfl, _⟩ := h
    rfl
  · obtain ⟨p, y, marks, rows, l, rfl, IR, gd, ro, hl, hy, o, q⟩ := h
    have hle : ∀ r ∈ rows, r.1.length ≤ 1000 ∧ r.2.length ≤ 1000 := fun r hr2 => by
      have h1 := gd.le (ro r hr2).1
      have h2 := gd.le (ro r hr2).2
      omega
    have kl := gd.le o
    refine ⟨_, pss_one (ps_ret (pe_and (pe_d T.isLot G1 (hr.mono (by decide)) (pa_cons (pv 1) pa_nil)) (pe_and (pe_d T.within G2 (hr.mono (by decide)) (pa_cons (pv 1) (pa_cons (pe_fld (pv 0) rfl) pa_nil)))
      (pe_one (pe_cmpR (op_eqD hr.units) (pe_meth (pv 0) T.rules.cl T.mRBroken GB hr T.rBroken.b .nil pass0 (pa_cons (pv 1) pa_nil)) (pe_lst pa_nil) (nomark _)))))), ?_⟩
    refine ⟨_, rfl, ⟨_, l, rfl, hy, o.1, gd.of o, by omega⟩, fun H1 s1 => ⟨true, rfl, iteT ?_⟩⟩
    obtain ⟨dx, m, li, xs, h1, h2, _⟩ := IR.same s1
    refine ⟨_, rfl, _, rfl, p, _, dx, _, _, rfl, h1, T.rules.cl, T.rules.nM, rf_marks _ _, _, _, l, marks, rfl, hy.tk (TK.of s1), ⟨m, rfl, h2⟩, by omega, fun H2 s2 => ⟨_, rfl, ?_⟩⟩
    rw [of_wi o]
    have s12 := s1.trans s2
    refine iteT ⟨_, rfl, p, dx, _, rfl, s2 _ _ h1, rf_no _ _ (by decide +kernel) (by decide +kernel), _, rfl, p, y, marks, rows, l, rfl, IR.same s12, hl, hle, hy.tk (TK.of s12), by omega, fun H3 v s3 hv => ⟨Nat.zero_le _, fun n hn => ?_⟩⟩
    have hv' := hv.same stays_row (same_new (o := .lst []) hn)
    have e0 : Dp K (upd H3 n (.lst [])) (.ref n) (rowsD []) := dp_rows ⟨n, [], rfl, upd_same, .nil⟩
    have gr : ∀ r ∈ brokenBy rows l, GoodRow r := fun r hr2 => gd.row (ro r (brokenBy_mem hr2).1)
    refine ⟨rowsD (brokenBy rows l), rowsD [], dp_rows hv', e0, shaped_rows gr, shaped_rows (fun r hr2 => by cases hr2), ?_⟩
    have e : PyData.eqv (rowsD (brokenBy rows l)) (rowsD []) = shut rows l := by
      rw [show PyData.eqv (rowsD (brokenBy rows l)) (rowsD []) = decide (brokenBy rows l = []) from eqv_rows _ _, Bool.eq_iff_iff, decide_eq_true_eq]
      exact brokenBy_nil
    rw [e]
    exact q _ (s12.trans (s3.trans (same_new hn)))
end
end K5
/-! K5m: the class Table; theories. -/
namespace K5
open PySem PySem.Spec PyProof.Rows L2

def spIsLotOf : Sp := spTrue fun H vs => ∃ x y marks l, vs = [x, y] ∧ LotAt H x marks ∧ LotAt H y l ∧ Good marks ∧ Of marks l
def spTInit (C : Addr) : Sp := fun vs H Q _ => ∃ p x y dx marks lots, vs = [V.ref p, x, y] ∧ H p = some (.ins C dx []) ∧ LotAt H x marks ∧ ListAt LotAt H y lots ∧ Good marks ∧ (∀ l ∈ lots, Of marks l) ∧ lots.length ≤ 1000 ∧
  ∀ H', (∀ b o, H b = some o → b ≠ p → H' b = some o) → IsTable C H' p marks lots → Q .non H'
theorem clT_snoc (marks l : Lot) (lots : List Lot) (one : Lot) : clT marks (lots ++ [one]) l = if wi l one = true then cm (clT marks lots l) one else clT marks lots l := by
  unfold clT
  rw [List.foldl_append]
  rfl
section
variable {P : Program} {w : World} {K : PySem.W.Frag} {mg : Str → Option Value} {base : Heap}
theorem scIsLotOf : FnScope ["marks", "thing"] ["marks", "thing"] (defScope sIsLotOf) := ⟨rfl, rfl, rfl, by decide +kernel, rfl, by decide +kernel, by decide +kernel⟩
theorem ok_isLotOf (T : Txt K mg) : FnOk P w K mg base CX0 3 T.isLotOf.f T.isLotOf.fd ["marks", "thing"] spIsLotOf := by
  have G1 : FnOk P w K mg base CX0 2 T.isLot.f T.isLot.fd ["thing"] spIsLot := ok_isLot T
  have G2 : FnOk P w K mg base CX0 1 T.within.f T.within.fd ["one", "other"] spWithin := ok_within T
  refine T.isLotOf.F.ok scIsLotOf (fun vs H Q E h => ?_) (fun cdv A outer s H vs Q E hr h => ?_)
  · obtain ⟨⟨_, _, _, _, rfl, _⟩, _⟩ := h
    rfl
  · obtain ⟨⟨x, y, marks, l, rfl, hx, hy, gd, o⟩, q⟩ := h
    have kl := gd.le o
    refine ⟨_, pss_one (ps_ret (pe_and (pe_d T.isLot G1 hr (pa_cons (pv 1) pa_nil)) (pe_one (pe_d T.within G2 (hr.mono (by decide)) (pa_cons (pv 1) (pa_cons (pv 0) pa_nil)))))), ?_⟩
    refine ⟨_, rfl, ⟨_, l, rfl, hy, o.1, gd.of o, by omega⟩, fun H1 s1 => ⟨true, rfl, iteT ?_⟩⟩
    refine ⟨_, rfl, _, rfl, _, _, l, marks, rfl, hy.tk (TK.of s1), hx.tk (TK.of s1), by omega, fun H2 s2 => ?_⟩
    rw [of_wi o]
    exact q _ (s1.trans s2)

theorem scTInit : FnScope ["self", "marks", "lots", "lot"] ["self", "marks", "lots"] (defScope sTInit) := ⟨rfl, rfl, rfl, by decide +kernel, rfl, by decide +kernel, by decide +kernel⟩
theorem ok_tInit (T : Txt K mg) : FnOk P w K mg base CX0 4 T.table.init.f T.table.init.fd ["self", "marks", "lots"] (spTInit T.table.C) := by
  have G1 : FnOk P w K mg base CX0 2 T.isLot.f T.isLot.fd ["thing"] spIsLot := ok_isLot T
  have G2 : FnOk P w K mg base CX0 3 T.isLotOf.f T.isLotOf.fd ["marks", "thing"] spIsLotOf := ok_isLotOf T
  refine T.table.init.F.ok scTInit (fun vs H Q E h => ?_) (fun cdv A outer s H vs Q E hr h => ?_)
  · obtain ⟨_, _, _, _, _, _, rfl, _⟩ := h
    rfl
  · obtain ⟨p, x, y, dx, marks, lots, rfl, hp, ⟨m, rfl, hm⟩, ⟨a, xs, rfl, ha, he⟩, gd, lo, hl, q⟩ := h
    refine ⟨_, pss_cons (ps_if (pt_not (pt_val (pe_d T.isLot G1 (hr.mono (by decide)) (pa_cons (pv 1) pa_nil)))) (pss_one ps_never) pss_nil)
      (pss_cons (ps_if (PW.pt (pw_or (pt_not (pt_val (pe_callB call_isiT (by rfl) T.zIsinstance (by decide +kernel) (pa_cons (pv 2) (pa_cons (pe_tup (pa_cons (pe_bltn (v := .ty "list") (by rfl) T.zList (by decide +kernel) rfl) (pa_cons (pe_bltn (v := .ty "tuple") (by rfl) T.zTuple (by decide +kernel) rfl) pa_nil))) pa_nil)))))
          (pw_or1 (pt_not (pt_val (pe_callB (cr_all rfl) (by rfl) T.zAll (by decide +kernel) (pa_cons (pe_lc (own := [("lot", 3)]) (g := gName 3) (tt := tYes) rfl scTInit.nd (pi_list (pv 2)) (blkOk_by (N := ["self", "marks", "lots", "lot"]) (sc := defScope sTInit) (by decide +kernel))
            (fun _ _ _ _ _ => pg_name (i := 3) scTInit.nd rfl (Or.inl rfl)) (fun _ _ _ _ _ => pts_nil) (fun _ _ _ _ _ => pe_d T.isLotOf G2 hr (pa_cons (pv 1) (pa_cons (pv 3) pa_nil)))) pa_nil)))))))
        (pss_one ps_never) pss_nil)
      (pss_cons (ps_fld (pv 0) (pv 1) rfl) (pss_one (ps_fld (pv 0) (pe_callTy call_list_of (by rfl) T.zList (by decide +kernel) (pa_cons (pv 2) pa_nil)) rfl)))), ?_⟩
    have hle : marks.length ≤ 1000 := Nat.le_trans gd.len (by decide)
    refine ⟨_, rfl, ⟨_, marks, rfl, ⟨m, rfl, hm⟩, gd.ss, gd.ok, hle⟩, fun H1 s1 => ⟨true, rfl, iteF ?_⟩⟩
    refine ⟨_, rfl, by show 2 ≤ sizeLine; decide, fun tp htp => ?_⟩
    have s2 : Same H (upd H1 tp (.tup [.ty "list", .ty "tuple"])) := s1.trans (same_new htp)
    have ha2 := s2 _ _ ha
    refine ⟨_, tp, _, _, _, true, rfl, upd_same, .cons (.ty "list") (.cons (.ty "tuple") .nil), .base (.lst ha2), kit_list, true, rfl, iteF ?_⟩
    refine ⟨_, rfl, a, rfl, ⟨_, SqL.of ha2⟩, fun D hD => lcg_list (xs := xs) (Same _) TrueAt (fun _ _ => True) stays_true (by rw [he.length]; exact small_line (by omega)) (same_new hD) (same_gD hD) (fun H' k => SqL.of (k _ _ ha2)) trivial ?_ ?_⟩
    · intro i z hz H' cs KY KN go hac pc ky kn
      obtain ⟨l, hl2, hlot⟩ := each_get he hz
      have s3 := s2.trans go
      refine ⟨rfl, yes ⟨_, rfl, _, rfl, ⟨_, _, marks, l, rfl, ⟨m, rfl, s3 _ _ hm⟩, hlot.tk (TK.of s3), gd, lo l (List.mem_of_getElem? hl2)⟩, fun H2 sm => ky () _ _ trivial (go.trans sm) (TK.of sm) ?_ rfl⟩⟩
      obtain ⟨ac, e⟩ := hac
      rw [e]
      exact sm _ _ e
    · intro H2 acc cs go hA he2 _
      obtain ⟨ts, e1, e2⟩ := trues_of he2
      rw [e1] at hA
      refine ⟨D, ts, rfl, SqL.of hA, true, by rw [e2], iteF ?_⟩
      have s12 := s2.trans go
      have hp2 := s12 _ _ hp
      have ha3 := s12 _ _ ha
      have hm2 := s12 _ _ hm
      have nap : a ≠ p := ne_of ha3 hp2 (by intro z; cases z)
      have nmp : m ≠ p := ne_of hm2 hp2 (by intro z; cases z)
      refine ⟨_, rfl, _, rfl, p, _, dx, _, rfl, hp2, T.table.cl, T.table.nM, by show 0 < 1000; decide, ?_⟩
      refine ⟨_, rfl, a, xs, rfl, .inl (SqL.of (by rw [upd_ne nap]; exact ha3)), fun l hl2 => ?_⟩
      have npl : p ≠ l := ne_of_none upd_same hl2
      have nl : H2 l = none := by
        have e := hl2
        rw [upd_ne npl.symm] at e
        exact e
      refine ⟨_, rfl, p, _, dx, _, rfl, by rw [upd_ne npl, upd_same], T.table.cl, T.nL, by show 1 < 1000; decide, ?_⟩
      refine q _ (fun b o e nb => ?_) ⟨dx, m, l, xs, upd_same, ?_, ?_, ?_⟩
      · have e2 := s12 _ _ e
        rw [upd_ne nb, upd_ne (ne_of_none e2 nl), upd_ne nb]
        exact e2
      · rw [upd_ne nmp, upd_ne (ne_of_none hm2 nl), upd_ne nmp]
        exact hm2
      · rw [upd_ne npl.symm, upd_same]
      · have t1 : TK H2 (upd H2 p (.ins T.table.C dx (putF "its_marks" (.ref m) []))) := TK.at_ fun ys z => by rw [hp2] at z; cases z
        have t2 := TK.new (H := upd H2 p (.ins T.table.C dx (putF "its_marks" (.ref m) []))) (o := .lst xs) hl2
        refine stays_lot.each ((((TK.of s12).trans t1).trans t2).trans (TK.at_ fun ys z => ?_)) he
        rw [upd_ne npl, upd_same] at z
        cases z

theorem scTMarks : FnScope ["self"] ["self"] (defScope sTMarks) := ⟨rfl, rfl, rfl, by decide +kernel, rfl, by decide +kernel, by decide +kernel⟩
theorem ok_tMarks (T : Txt K mg) : FnOk P w K mg base CX0 1 T.tMarks.f T.tMarks.fd ["self"] (spMarks (ThT T.table.C)) := by
  refine T.tMarks.F.ok scTMarks (fun vs H Q E h => ?_) (fun cdv A outer s H vs Q E hr h => ?_)
  · obtain ⟨_, _, _, rfl, _⟩ := h
    rfl
  · obtain ⟨p, marks, Tc, rfl, ⟨gd, lots, ⟨dx, m, l, xs, h1, h2, h3, h4⟩, _⟩, q⟩ := h
    refine ⟨_, pss_one (ps_ret (pe_fld (pv 0) rfl)), ?_⟩
    exact ⟨_, rfl, p, _, dx, _, _, rfl, h1, T.table.cl, T.table.nM, tf_marks _ _, q _ ⟨m, rfl, h2⟩⟩

theorem scTClosing : FnScope ["self", "lot", "found", "one"] ["self", "lot"] (defScope sTClosing) := ⟨rfl, rfl, rfl, by decide +kernel, rfl, by decide +kernel, by decide +kernel⟩
theorem ok_tClosing (T : Txt K mg) : FnOk P w K mg base CX0 2 T.tClosing.f T.tClosing.fd ["self", "lot"] (spCall (ThT T.table.C)) := by
  have GW : FnOk P w K mg base CX0 1 T.within.f T.within.fd ["one", "other"] spWithin := ok_within T
  have GC : FnOk P w K mg base CX0 1 T.common.f T.common.fd ["one", "other"] (spLot2 cm) := ok_common T
  refine T.tClosing.F.ok scTClosing (fun vs H Q E h => ?_) (fun cdv A outer s H vs Q E hr h => ?_)
  · obtain ⟨_, _, _, _, _, rfl, _⟩ := h
    rfl
  · obtain ⟨p, y, marks, Tc, l0, rfl, ⟨gd, lots, ⟨dx, m, l, xs, h1, h2, h3, h4⟩, lo, hl, rfl⟩, hy, o0, q⟩ := h
    refine ⟨_, pss_cons (ps_set (i := 2) scTClosing.nd rfl (Or.inl rfl) (pe_fld (pv 0) rfl))
      (pss_cons (ps_for PassesOwn.never rfl (pi_list (pe_fld (pv 0) rfl)) (pg_name (i := 3) scTClosing.nd rfl (Or.inl rfl))
        (pss_one (ps_if (pt_val (pe_d T.within GW hr (pa_cons (pv 1) (pa_cons (pv 3) pa_nil)))) (pss_one (ps_set (i := 2) scTClosing.nd rfl (Or.inl rfl) (pe_d T.common GC hr (pa_cons (pv 2) (pa_cons (pv 3) pa_nil))))) pss_nil)))
      (pss_one (ps_ret (pv 2)))), ?_⟩
    refine ⟨_, rfl, p, _, dx, _, _, rfl, h1, T.table.cl, T.table.nM, tf_marks _ _, ?_⟩
    refine ⟨_, rfl, p, _, dx, _, _, rfl, h1, T.table.cl, T.nL, tf_lots _ _, l, rfl, ⟨xs, SqL.of h3⟩, for_list (K := K) (a := l) (xs := xs) (fun i σ H' => ∃ fv one, σ = [some (.ref p), some y, some fv, one] ∧ Same H H' ∧ LotAt H' fv (clT marks (lots.take i) l0))
      ⟨_, none, rfl, Same.refl _, m, rfl, h2⟩ (fun i σ H' _ ⟨_, _, _, sm, _⟩ => SqL.of (sm _ _ h3)) ?_ ?_⟩
    · rintro i x σ H' hx ⟨fv, one, rfl, sm, hf⟩
      obtain ⟨z, hz, hlot⟩ := each_get h4 hx
      have oz := lo z (List.mem_of_getElem? hz)
      have kz := gd.le oz
      have k0 := gd.le o0
      have sp := clT_spec l0 (lots.take i) marks gd.ss o0.2
      have kf := gd.le (show Of marks (clT marks (lots.take i) l0) from ⟨sp.1, sp.2.1⟩)
      refine ⟨_, rfl, _, rfl, y, x, l0, z, rfl, hy.tk (TK.of sm), hlot.tk (TK.of sm), by omega, fun H2 s2 => ⟨_, rfl, ?_⟩⟩
      have s12 := sm.trans s2
      refine ite2 (fun c => ?_) (fun c => ?_)
      · refine ⟨_, rfl, _, rfl, fv, x, _, z, rfl, hf.tk (TK.of s2), hlot.tk (TK.of s12), by omega, by omega, fun H3 v s3 hv => ⟨v, some x, rfl, s12.trans s3, ?_⟩⟩
        rw [take_snoc hz, clT_snoc, if_pos c]
        exact hv
      · refine ⟨fv, some x, rfl, s12, ?_⟩
        rw [take_snoc hz, clT_snoc, if_neg c]
        exact hf.tk (TK.of s2)
    · rintro σ H' ⟨fv, one, rfl, sm, hf⟩
      rw [h4.length, List.take_length] at hf
      exact ⟨_, rfl, q _ _ sm hf⟩
theorem scTCall : FnScope ["self", "lot"] ["self", "lot"] (defScope sTCall) := ⟨rfl, rfl, rfl, by decide +kernel, rfl, by decide +kernel, by decide +kernel⟩
theorem ok_tCall (T : Txt K mg) : FnOk P w K mg base CX0 3 T.tCall.f T.tCall.fd ["self", "lot"] (spCall (ThT T.table.C)) := by
  have G : FnOk P w K mg base CX0 2 T.tClosing.f T.tClosing.fd ["self", "lot"] (spCall (ThT T.table.C)) := ok_tClosing T
  refine T.tCall.F.ok scTCall (fun vs H Q E h => ?_) (fun cdv A outer s H vs Q E hr h => ?_)
  · obtain ⟨_, _, _, _, _, rfl, _⟩ := h
    rfl
  · obtain ⟨p, y, marks, Tc, l0, rfl, th, hy, o0, q⟩ := h
    obtain ⟨gd, lots, ⟨dx, m, li, xs, h1, _⟩, _⟩ := id th
    refine ⟨_, pss_one (ps_ret (pe_meth (pv 0) T.table.cl T.mTClosing G hr T.tClosing.b .nil pass0 (pa_cons (pv 1) pa_nil))), ?_⟩
    exact ⟨_, rfl, p, dx, _, rfl, h1, tf_no _ _ (by decide +kernel) (by decide +kernel), _, rfl, p, y, marks, Tc, l0, rfl, th, hy, o0, q⟩

/-! ### theories, of either class -/
structure ThK (P : Program) (w : World) (K : PySem.W.Frag) (mg : Str → Option Value) (base : Heap) (C : Addr) (I : Hp → Addr → Lot → (Lot → Lot) → Prop) : Prop where
  cl : Cls K C
  mk_ : ∃ p g fd, PropOf K C "marks" p g ∧ FnOk P w K mg base CX0 1 g fd ["self"] (spMarks I) ∧ L2.Binds K fd ["self"] []
  ca : ∃ g, StX.CallO K C g ∧ FnR P w K mg base CX0 5 g (spCall I)
  ins : ∀ H p marks Tc, I H p marks Tc → ∃ dx fs, H p = some (.ins C dx fs)
  good : ∀ H p marks Tc, I H p marks Tc → Good marks ∧ Thy marks Tc
  same : ∀ H H' p marks Tc, I H p marks Tc → Same H H' → I H' p marks Tc
theorem raw0 {k : Nat} {f : Addr} {fd : FuncData} {ps : List Str} {sp : Sp} (F : FnOk P w K mg base CX0 k f fd ps sp) (hb : L2.Binds K fd ps []) : FnR P w K mg base CX0 k f sp :=
  (F.raw hb .nil).imp fun vs H Q E h => by rw [List.append_nil]; exact h
theorem th_rules (T : Txt K mg) : ThK P w K mg base T.rules.C (ThR T.rules.C) where
  cl := T.rules.cl
  mk_ := ⟨_, _, _, T.rProp, ok_rMarks T, T.rMarks.b⟩
  ca := ⟨_, T.mRCall, raw0 (ok_rCall T) T.rCall.b⟩
  ins := fun H p marks Tc h => by
    obtain ⟨_, _, ⟨dx, _, _, _, h1, _⟩, _⟩ := h
    exact ⟨dx, _, h1⟩
  good := fun H p marks Tc h => by
    obtain ⟨gd, rows, _, _, _, rfl⟩ := h
    exact ⟨gd, thy_R rows gd.ss⟩
  same := fun H H' p marks Tc h s => by
    obtain ⟨gd, rows, h1, h2⟩ := h
    exact ⟨gd, rows, h1.same s, h2⟩
theorem th_table (T : Txt K mg) : ThK P w K mg base T.table.C (ThT T.table.C) where
  cl := T.table.cl
  mk_ := ⟨_, _, _, T.tProp, ok_tMarks T, T.tMarks.b⟩
  ca := ⟨_, T.mTCall, (raw0 (ok_tCall T) T.tCall.b).mono (by decide)⟩
  ins := fun H p marks Tc h => by
    obtain ⟨_, _, ⟨dx, _, _, _, h1, _⟩, _⟩ := h
    exact ⟨dx, _, h1⟩
  good := fun H p marks Tc h => by
    obtain ⟨gd, lots, _, _, _, rfl⟩ := h
    exact ⟨gd, thy_T lots gd.ss⟩
  same := fun H H' p marks Tc h s => by
    obtain ⟨gd, lots, h1, h2⟩ := h
    exact ⟨gd, lots, h1.same s, h2⟩
end
/-- theory(e): an instance of C called -/
def tTh (C : Addr) (sp : Sp) (tf : TE) (t : TA) : TE := fun σ H Q => tf σ H fun y H1 => ∃ a, y = V.ref a ∧ t σ H1 fun vs H2 => (∃ dx fs, H2 a = some (.ins C dx fs)) ∧ sp (V.ref a :: vs) H2 Q E0
section
variable {X : Cx} {C g : Addr} {k : Nat} {sp : Sp} {fe e : Expr} {es : List Expr} {tf : TE} {t : TA} {pos : Pos}
theorem pe_th (hf : PE X fe tf) (c : StX.CallO X.K C g) (F : FnR X.prog X.w X.K X.mg X.base CX0 k g sp) (hr : Room k X.A) (ha : PA X (e :: es) t)
    (ht : eval (.Call fe (e :: es) [] pos) X.env = (do callWith pos (← eval fe X.env) [] (backTo pos (starEach (e :: es) X.env)) (backToKw pos (keywordEach [] X.env))) := by rfl)
    (he : starEach (e :: es) X.env = (false, eval e X.env) :: starEach es X.env := by rfl) (hpl : (backTo pos (starEach es X.env)).any (·.1) = false := by rfl) : PE X (.Call fe (e :: es) [] pos) (tTh C sp tf t) := by
  constructor
  intro pins s σ H Q I h
  refine Call_ (thn (hf.run pins s σ H _ I h) fun u s1 z => ?_) ht
  obtain ⟨_, H1, I1, ry, a, rfl, q⟩ := z
  obtain rfl : u = Value.ref a := ry
  refine StX.callO_with (thn (ha.run pos pins s1 σ H1 _ I1 q) fun us s2 z => ?_) he hpl
  obtain ⟨vs, H2, I2, r, hi, q2⟩ := z
  have hin : StX.InsC X H2 a C := .inr hi
  obtain ⟨ox, od, J, hd⟩ := StX.insC_at I2 hin
  exact ⟨⟨C, ox, od, J, hd⟩, StX.run_callO c F hr pass0 I2 hin r q2⟩
/-- a def with keyword-only parameters, called -/
theorem pe_dk {x : Str} {st : Stmt} {ps ks : List Str} {p : Pos} {kws : List Keyword} {tk : TA} (d : DefKw X.K X.mg x st ps ks) (G : FnOk X.prog X.w X.K X.mg X.base CX0 k d.f d.fd (ps ++ ks) sp) (hr : Room k X.A) (ha : PA X (e :: es) t) (hkw : PK X kws tk) (hg : Gl X x := by rfl)
    (hall : (backToKw pos (keywordEach kws X.env)).all (·.1.isSome) = true := by rfl) (hks : (backToKw pos (keywordEach kws X.env)).filterMap (·.1) = ks := by rfl)
    (hdb : (x == ("__debug__" : Str)) = false := by decide) (he : starEach (e :: es) X.env = (false, eval e X.env) :: starEach es X.env := by rfl)
    (hpl : ((backTo pos (starEach (e :: es) X.env)).any (·.1) || (backToKw pos (keywordEach kws X.env)).any (·.1.isNone)) = false := by rfl) :
    PE X (.Call (.Name x p) (e :: es) kws pos) (tCallK sp (gK ps.length ks.length) E0 t tk) :=
  pe_callK G hr hg d.g d.F.kp d.b pass0 ha hkw hall hks hdb he hpl
end
end K5
/-! K5n: the modules leastlist and leftsides. -/
namespace K5
open PySem PySem.Spec PyProof.Rows L2

abbrev ThI := Hp → Addr → Lot → (Lot → Lot) → Prop
/-- what is known: nothing, or rules -/
def KnownAt (C : Addr) (H : Hp) (v : V) (marks : Lot) (rows : List Row) : Prop := RowsOf marks rows ∧ rows.length ≤ 1000 ∧ ((v = .non ∧ rows = []) ∨ ∃ a, v = V.ref a ∧ IsRules C H a marks rows)
theorem KnownAt.same {C : Addr} {H H' : Hp} {v : V} {marks : Lot} {rows : List Row} (h : KnownAt C H v marks rows) (s : Same H H') : KnownAt C H' v marks rows := by
  obtain ⟨h1, h2, h3⟩ := h
  refine ⟨h1, h2, h3.imp id ?_⟩
  rintro ⟨a, e, q⟩
  exact ⟨a, e, q.same s⟩
def spKnown (C : Addr) (I : ThI) : Sp := fun vs H Q _ => ∃ p kv marks Tc rows, vs = [V.ref p, kv] ∧ I H p marks Tc ∧ KnownAt C H kv marks rows ∧ ∀ H' b, Same H H' → IsRules C H' b marks rows → Q (.ref b) H'
/-- the needy lots -/
def needyK (marks : Lot) (Tc : Lot → Lot) (rows : List Row) : List Lot := needyOf (shut rows) Tc (allLots marks)
def rowOfT (Tc : Lot → Lot) (l : Lot) : Row := (l, wo (Tc l) l)
def spNeedy (C : Addr) (I : ThI) : Sp := fun vs H Q _ => ∃ p kv marks Tc rows, vs = [V.ref p, kv] ∧ I H p marks Tc ∧ KnownAt C H kv marks rows ∧ ∀ H' v, Same H H' → ListAt LotAt H' v (needyK marks Tc rows) → Q v H'
def spRowOf (I : ThI) : Sp := fun vs H Q _ => ∃ p y marks Tc l, vs = [V.ref p, y] ∧ I H p marks Tc ∧ LotAt H y l ∧ Of marks l ∧ ∀ H' v, Same H H' → RowAt H' v (rowOfT Tc l) → Q v H'
def spLeast (C : Addr) (I : ThI) : Sp := fun vs H Q _ => ∃ p kv marks Tc rows, vs = [V.ref p, kv] ∧ I H p marks Tc ∧ KnownAt C H kv marks rows ∧ ∀ H' b, Same H H' → IsRules C H' b marks ((needyK marks Tc rows).map (rowOfT Tc)) → Q (.ref b) H'
def spSidesOf (I : ThI) : Sp := fun vs H Q _ => ∃ p y marks Tc l, vs = [V.ref p, y] ∧ I H p marks Tc ∧ LotAt H y l ∧ Of marks l ∧ ∀ H' v, Same H H' → ListAt LotAt H' v (sidesOf Tc l) → Q v H'
def spLeft (C : Addr) (I : ThI) : Sp := fun vs H Q _ => ∃ p y kv marks Tc l rows, vs = [V.ref p, y, kv] ∧ I H p marks Tc ∧ LotAt H y l ∧ KnownAt C H kv marks rows ∧ l ∈ needyK marks Tc rows ∧ ∀ H' v, Same H H' → ListAt LotAt H' v (sidesOf Tc l) → Q v H'
def fewest (Tc : Lot → Lot) (ls : List Lot) : Int := (ls.map fun l => (((sidesOf Tc l).headD []).length : Int)).sum
def spFewest (C : Addr) (I : ThI) : Sp := fun vs H Q _ => ∃ p kv marks Tc rows, vs = [V.ref p, kv] ∧ I H p marks Tc ∧ KnownAt C H kv marks rows ∧ ∀ H', Same H H' → Q (.int (fewest Tc (needyK marks Tc rows))) H'

theorem room65 {k : Nat} {A : Around} (r : Room k A) : A.units + 65 < cLine := by
  have := r.un
  omega
theorem mk_rules {C : Addr} {H : Hp} {x y : V} {marks : Lot} {rows : List Row} {Q : VK} (hx : LotAt H x marks) (hy : ListAt RowAt H y rows) (gd : Good marks) (ro : RowsOf marks rows) (hl : rows.length ≤ 1000)
    (q : ∀ H' p, Same H H' → IsRules C H' p marks rows → Q (.ref p) H') : ∀ p dx, H p = none → H dx = none → dx ≠ p → spRInit C (V.ref p :: ([x, y] ++ [])) (upd (upd H dx (.own p)) p (.ins C dx [])) (fun v H2 => v = .non ∧ Q (.ref p) H2) E0 := by
  intro p dx hp hd n
  have hp2 : upd H dx (.own p) p = none := by rw [upd_ne n.symm]; exact hp
  have s0 : Same H (upd (upd H dx (.own p)) p (.ins C dx [])) := (same_new hd).trans (same_new hp2)
  refine ⟨p, x, y, dx, marks, rows, rfl, upd_same, hx.tk (TK.of s0), hy.same stays_row s0, gd, ro, hl, fun H' kp is => ⟨rfl, q H' p (fun b o e => kp b o (s0 _ _ e) (ne_of_none e hp)) is⟩⟩
theorem mk_table {C : Addr} {H : Hp} {x y : V} {marks : Lot} {lots : List Lot} {Q : VK} (hx : LotAt H x marks) (hy : ListAt LotAt H y lots) (gd : Good marks) (lo : ∀ l ∈ lots, Of marks l) (hl : lots.length ≤ 1000)
    (q : ∀ H' p, Same H H' → IsTable C H' p marks lots → Q (.ref p) H') : ∀ p dx, H p = none → H dx = none → dx ≠ p → spTInit C (V.ref p :: ([x, y] ++ [])) (upd (upd H dx (.own p)) p (.ins C dx [])) (fun v H2 => v = .non ∧ Q (.ref p) H2) E0 := by
  intro p dx hp hd n
  have hp2 : upd H dx (.own p) p = none := by rw [upd_ne n.symm]; exact hp
  have s0 : Same H (upd (upd H dx (.own p)) p (.ins C dx [])) := (same_new hd).trans (same_new hp2)
  refine ⟨p, x, y, dx, marks, lots, rfl, upd_same, hx.tk (TK.of s0), hy.same stays_lot s0, gd, lo, hl, fun H' kp is => ⟨rfl, q H' p (fun b o e => kp b o (s0 _ _ e) (ne_of_none e hp)) is⟩⟩

section
variable {P : Program} {w : World} {K : PySem.W.Frag} {mg : Str → Option Value} {base : Heap} {C : Addr} {I : ThI}
theorem scKnownRules : FnScope ["theory", "known"] ["theory", "known"] (defScope sKnownRules) := ⟨rfl, rfl, rfl, by decide +kernel, rfl, by decide +kernel, by decide +kernel⟩
theorem ok_knownRules (T : Txt K mg) (TH : ThK P w K mg base C I) : FnOk P w K mg base CX0 8 T.knownRules.f T.knownRules.fd ["theory", "known"] (spKnown T.rules.C I) := by
  obtain ⟨pp, pg, pfd, hP, PF, PB⟩ := TH.mk_
  have GI : FnOk P w K mg base CX0 6 T.rules.init.f T.rules.init.fd ["self", "marks", "rows"] (spRInit T.rules.C) := ok_rInit T
  refine T.knownRules.F.ok scKnownRules (fun vs H Q E h => ?_) (fun cdv A outer s H vs Q E hr h => ?_)
  · obtain ⟨_, _, _, _, _, rfl, _⟩ := h
    rfl
  · obtain ⟨p, kv, marks, Tc, rows, rfl, th, kn, q⟩ := h
    refine ⟨_, pss_one (ps_ret (pe_ifExp (pt_cmp (pc_isN (pv 1))) (pe_make T.rules.made GI hr rfl T.rules.g T.rules.init.b .nil pass0 (pa_cons (pe_prop (pv 0) TH.cl hP PF (hr.mono (by decide)) PB .nil pass0 rfl) (pa_cons (pe_lst pa_nil) pa_nil))) (pv 1))), ?_⟩
    obtain ⟨dx, fs, hi⟩ := TH.ins _ _ _ _ th
    have gd := (TH.good _ _ _ _ th).1
    refine ⟨_, rfl, _, rfl, ite2 (fun c => ?_) (fun c => ?_)⟩
    · have e := of_decide_eq_true c
      obtain ⟨ro, hl, ⟨_, rfl⟩ | ⟨a, e2, _⟩⟩ := kn
      · refine ⟨_, rfl, p, dx, fs, rfl, hi, p, marks, Tc, rfl, th, fun v hv => ⟨Nat.zero_le _, fun n hn => ?_⟩⟩
        exact mk_rules (hv.tk (TK.new hn)) ⟨n, [], rfl, upd_same, .nil⟩ gd ro (Nat.zero_le _) fun H' p2 s2 is => q H' p2 ((same_new hn).trans s2) is
      · rw [e2] at e
        cases e
    · obtain ⟨ro, hl, ⟨e, _⟩ | ⟨a, rfl, is⟩⟩ := kn
      · rw [e] at c
        exact absurd rfl c
      · exact ⟨_, rfl, q H a (Same.refl _) is⟩

theorem scNeedy : FnScope ["theory", "known", "before", "found", "lot", "other"] ["theory", "known"] (defScope sNeedyLots) := ⟨rfl, rfl, rfl, by decide +kernel, rfl, by decide +kernel, by decide +kernel⟩
theorem all_le {marks : Lot} (gd : Good marks) : (allLots marks).length ≤ 32 := by
  rw [all_len]
  exact Nat.pow_le_pow_right (by decide) gd.len
theorem all_ne (marks : Lot) : (allLots marks).length ≠ 0 := by
  rw [all_len]
  exact Nat.ne_of_gt (Nat.pow_pos (by decide))
theorem needy_of {marks : Lot} (gd : Good marks) {kc : Lot → Bool} {T : Lot → Lot} {n : Nat} {l : Lot} (h : l ∈ needyOf kc T ((allLots marks).take n)) : Of marks l := (all_mem gd.ss).mp (List.mem_of_mem_take (needy_mem h).1)
theorem needy_len (kc : Lot → Bool) (T : Lot → Lot) (ls : List Lot) : (needyOf kc T ls).length ≤ ls.length := by
  have go : ∀ (ls f : List Lot), (ls.foldl (needyStep kc T) f).length ≤ f.length + ls.length := by
    intro ls
    induction ls with
    | nil => intro f; exact Nat.le_refl _
    | cons x ls ih =>
      intro f
      refine Nat.le_trans (ih _) ?_
      have : (needyStep kc T f x).length ≤ f.length + 1 := by
        unfold needyStep
        split <;> simp
      rw [List.length_cons]
      omega
  have q := go ls []
  unfold needyOf
  simpa using q
theorem ok_needy (T : Txt K mg) (TH : ThK P w K mg base C I) : FnOk P w K mg base CX0 9 T.needyLots.f T.needyLots.fd ["theory", "known"] (spNeedy T.rules.C I) := by
  obtain ⟨pp, pg, pfd, hP, PF, PB⟩ := TH.mk_
  obtain ⟨cg, hC, CF⟩ := TH.ca
  have GK : FnOk P w K mg base CX0 8 T.knownRules.f T.knownRules.fd ["theory", "known"] (spKnown T.rules.C I) := ok_knownRules T TH
  have GA : FnOk P w K mg base CX0 2 T.allLots.f T.allLots.fd ["marks"] spAllLots := ok_allLots T
  have GW : FnOk P w K mg base CX0 1 T.within.f T.within.fd ["one", "other"] spWithin := ok_within T
  have GC : FnOk P w K mg base CX0 4 T.rContains.f T.rContains.fd ["self", "thing"] (spContains T.rules.C) := ok_rContains T
  refine T.needyLots.F.ok scNeedy (fun vs H Q E h => ?_) (fun cdv A outer s H vs Q E hr h => ?_)
  · obtain ⟨_, _, _, _, _, rfl, _⟩ := h
    rfl
  · obtain ⟨p, kv, marks, Tc, rows, rfl, th, kn, q⟩ := h
    have gd := (TH.good _ _ _ _ th).1
    have ty := (TH.good _ _ _ _ th).2
    refine ⟨_, pss_cons (ps_par rfl scNeedy.nd (i := 2) (j := 3) rfl rfl (by decide) rfl rfl (pa_cons (pe_d T.knownRules GK hr (pa_cons (pv 0) (pa_cons (pv 1) pa_nil))) (pa_cons (pe_lst pa_nil) pa_nil)) (by rfl))
      (pss_cons (ps_for PassesOwn.never rfl (pi_list (pe_d T.allLots GA (hr.mono (by decide)) (pa_cons (pe_prop (pv 0) TH.cl hP PF (hr.mono (by decide)) PB .nil pass0 rfl) pa_nil))) (pg_name (i := 4) scNeedy.nd rfl (Or.inr rfl))
        (pss_one (ps_if (PW.pt (pw_and (pt_cmpR (or_inO T.mRContains GC (hr.mono (by decide)) T.rContains.b) (pv 4) (pv 2) (by rfl)) (pw_and1 (pt_cmpR (op_neD hr.units) (pe_th (pv 0) hC CF (hr.mono (by decide)) (pa_cons (pv 4) pa_nil)) (pv 4) (nomark _)))))
          (pss_one (ps_if (pt_val (pe_callB (cr_all rfl) (by rfl) T.zAll (by decide +kernel) (pa_cons (pe_lc (own := [("other", 5)]) (g := gName 5) rfl scNeedy.nd (pi_list (pv 3)) (blkOk_by (N := ["theory", "known", "before", "found", "lot", "other"]) (sc := defScope sNeedyLots) (by decide +kernel))
              (fun _ _ _ _ _ => pg_name (i := 5) scNeedy.nd rfl (Or.inl rfl)) (fun _ _ _ _ _ => pts_one (pt_val (pe_d T.within GW (hr.mono (by decide)) (pa_cons (pv 5) (pa_cons (pv 4) pa_nil)))))
              (fun _ _ _ _ _ => pe_d T.within GW (hr.mono (by decide)) (pa_cons (pe_th (pv 0) hC CF (hr.mono (by decide)) (pa_cons (pv 5) pa_nil)) (pa_cons (pv 4) pa_nil)))) pa_nil)))
            (pss_one (ps_expr (pe_bm PySem.F.plainAttrs_list PySem.F.slot_list_append PySem.F.type_list_append mt_append (pv 3) (pa_cons (pv 4) pa_nil)))) pss_nil)) pss_nil)))
      (pss_one (ps_ret (pv 3)))), ?_⟩
    refine ⟨_, rfl, _, rfl, p, kv, marks, Tc, rows, rfl, th, kn, fun H1 b s1 isb => ⟨Nat.zero_le _, fun f hf => ⟨_, _, rfl, ?_⟩⟩⟩
    have th1 := TH.same _ _ _ _ _ th s1
    have s2 : Same H1 (upd H1 f (.lst [])) := same_new hf
    have th2 := TH.same _ _ _ _ _ th1 s2
    obtain ⟨dx2, fs2, hi2⟩ := TH.ins _ _ _ _ th2
    refine ⟨_, rfl, p, dx2, fs2, rfl, hi2, p, marks, Tc, rfl, th2, fun mv hmv => ⟨mv, marks, rfl, hmv, Nat.le_trans gd.len (by decide), fun H3 av s3 hav => ?_⟩⟩
    obtain ⟨al, xs, rfl, hal, hxs⟩ := hav
    have hf3 : H3 f = some (.lst []) := s3 _ _ upd_same
    have naf : al ≠ f := by
      rintro rfl
      rw [hf3] at hal
      cases hal
      have := hxs.length
      exact all_ne marks this.symm
    have hxl : xs.length ≤ 32 := by rw [hxs.length]; exact all_le gd
    refine ⟨al, rfl, ⟨xs, SqL.of hal⟩, for_list (K := K) (a := al) (xs := xs) (fun i σ H' => ∃ (lt ot : Option V) (ys : List V), σ = [some (.ref p), some kv, some (.ref b), some (.ref f), lt, ot] ∧ Same H1 H' ∧ TK H3 H' ∧ H' al = some (.lst xs) ∧ H' f = some (.lst ys) ∧ Each LotAt H' ys (needyOf (shut rows) Tc ((allLots marks).take i)))
      ⟨none, none, [], rfl, s2.trans s3, TK.refl _, hal, hf3, .nil⟩ (fun i σ H' _ ⟨_, _, _, _, _, _, h, _⟩ => SqL.of h) ?_ ?_⟩
    · rintro i x σ H' hx ⟨lt, ot, ys, rfl, sm, tk, hA, hF, he⟩
      obtain ⟨l, hl, hlot⟩ := each_get hxs hx
      have hlot := hlot.tk tk
      have ol := (all_mem gd.ss).mp (List.mem_of_getElem? hl)
      have hi := (List.getElem?_eq_some_iff.mp hx).1
      have isb' := isb.same sm
      obtain ⟨bdx, bm, bl, bxs, hb1, hb2⟩ := id isb'
      have th' := TH.same _ _ _ _ _ th1 sm
      have hyl : ys.length ≤ 32 := by
        rw [he.length]
        exact Nat.le_trans (needy_len _ _ _) (Nat.le_trans (List.length_take_le _ _) (by omega))
      have st : needyOf (shut rows) Tc ((allLots marks).take (i + 1)) = needyStep (shut rows) Tc (needyOf (shut rows) Tc ((allLots marks).take i)) l := by rw [take_snoc hl, needy_snoc]
      refine ⟨_, rfl, _, rfl, b, bdx, _, rfl, hb1, b, x, marks, rows, l, rfl, isb', gd, kn.1, kn.2.1, hlot, ol, fun H4 s4 => ⟨_, rfl, _, rfl, ?_⟩⟩
      have stay : ∀ H5 : Hp, Same H' H5 → ¬ isNeedy (shut rows) Tc (needyOf (shut rows) Tc ((allLots marks).take i)) l = true → ∃ (lt ot' : Option V) (ys : List V), [some (V.ref p), some kv, some (V.ref b), some (V.ref f), some x, ot] = [some (V.ref p), some kv, some (V.ref b), some (V.ref f), lt, ot'] ∧ Same H1 H5 ∧ TK H3 H5 ∧ H5 al = some (.lst xs) ∧ H5 f = some (.lst ys) ∧ Each LotAt H5 ys (needyOf (shut rows) Tc ((allLots marks).take (i + 1))) := by
        intro H5 s5 hno
        rw [st]
        unfold needyStep
        rw [if_neg hno]
        exact ⟨some x, ot, ys, rfl, sm.trans s5, tk.trans (TK.of s5), s5 _ _ hA, s5 _ _ hF, stays_lot.each (TK.of s5) he⟩
      refine ite2 (fun c => ?_) (fun c => ?_)
      · have th4 := TH.same _ _ _ _ _ th' s4
        refine ⟨_, rfl, p, rfl, _, rfl, TH.ins _ _ _ _ th4, p, x, marks, Tc, l, rfl, th4, hlot.tk (TK.of s4), ol, fun H5 v s5 hv => ⟨_, rfl, lotD (Tc l), lotD l, hv.dp, (hlot.tk (TK.of (s4.trans s5))).dp, shaped_lot (gd.of (ty.of_ l ol)), shaped_lot (gd.of ol), _, rfl, ?_⟩⟩
        rw [eqv_lot]
        have s45 := s4.trans s5
        refine ite2 (fun c2 => ?_) (fun c2 => ?_)
        · have th5 := TH.same _ _ _ _ _ th' s45
          have hF5 := s45 _ _ hF
          refine ⟨_, rfl, f, rfl, ⟨ys, SqL.of hF5⟩, fun D hD => lcg_list (xs := ys) (Same H5) BoolAt (fun j cs => cs = (((needyOf (shut rows) Tc ((allLots marks).take i)).take j).filter fun q => wi q l).map fun q => wi (Tc q) l) stays_bool (small_line (by omega)) (same_new hD) (same_gD hD) (fun H6 k => SqL.of (k _ _ hF5)) rfl ?_ ?_⟩
          · intro j z hz H6 cs KY KN go hac pc ky kn
            obtain ⟨o, ho, holot⟩ := each_get he hz
            have oo : Of marks o := needy_of gd (List.mem_of_getElem? ho)
            have k0 := gd.le oo
            have s6 := s45.trans go
            have stp : ((needyOf (shut rows) Tc ((allLots marks).take i)).take (j + 1)).filter (fun q => wi q l) = if wi o l = true then ((needyOf (shut rows) Tc ((allLots marks).take i)).take j).filter (fun q => wi q l) ++ [o] else ((needyOf (shut rows) Tc ((allLots marks).take i)).take j).filter (fun q => wi q l) := by
              rw [take_snoc ho, List.filter_append]
              cases h : wi o l <;> simp [h]
            refine ⟨rfl, _, rfl, _, rfl, z, x, o, l, rfl, holot.tk (TK.of s6), hlot.tk (TK.of s6), by omega, fun H7 s7 => ⟨_, rfl, ?_⟩⟩
            have kp : H7 D = H6 D := by
              obtain ⟨ac, e⟩ := hac
              rw [e]
              exact s7 _ _ e
            refine ite2 (fun c3 => ?_) (fun c3 => ?_)
            · rw [if_pos c3] at stp
              have s67 := s6.trans s7
              have th7 := TH.same _ _ _ _ _ th' s67
              refine ⟨_, rfl, p, rfl, _, rfl, TH.ins _ _ _ _ th7, p, z, marks, Tc, o, rfl, th7, holot.tk (TK.of s67), oo, fun H8 v8 s8 hv8 => ⟨_, rfl, v8, x, _, l, rfl, hv8, hlot.tk (TK.of (s67.trans s8)), by have := gd.le (ty.of_ o oo); omega, fun H9 s9 => ?_⟩⟩
              refine ky (wi (Tc o) l) _ _ ?_ (((go.trans s7).trans s8).trans s9) (TK.of ((s7.trans s8).trans s9)) ?_ rfl
              · show cs ++ _ = _
                rw [pc, stp, List.map_append]
                rfl
              · rw [← kp]
                obtain ⟨ac, e⟩ := hac
                rw [← kp] at e
                rw [e]
                exact s9 _ _ (s8 _ _ e)
            · rw [if_neg c3] at stp
              exact kn _ (by show cs = _; rw [pc, stp]) (go.trans s7) (TK.of s7) kp
          · intro H6 acc cs go hA6 he6 pc
            rw [bools_of he6] at hA6
            refine ⟨D, cs, rfl, SqL.of hA6, _, rfl, ?_⟩
            have e3 : cs.all id = fits Tc (needyOf (shut rows) Tc ((allLots marks).take i)) l := by
              rw [pc, he.length, List.take_length, List.all_map]
              rfl
            rw [e3]
            have s6 := s45.trans go
            have c2' : Tc l ≠ l := by simpa using c2
            refine ite2 (fun c3 => ?_) (fun c3 => ?_)
            · have yes : isNeedy (shut rows) Tc (needyOf (shut rows) Tc ((allLots marks).take i)) l = true := by
                unfold isNeedy
                rw [c, c3, decide_eq_true c2']
                rfl
              have hf1 : H1 f = none := hf
              have hF6 := s6 _ _ hF
              have tk2 : TK H6 (upd H6 f (.lst (ys ++ [x]))) := TK.put (.inr ⟨ys, hF6⟩)
              refine ⟨_, rfl, .inl ⟨rfl, _, SqL.of hF6⟩, _, rfl, f, ys, x, rfl, rfl, hF6, small_line (by omega), ?_⟩
              refine ⟨some x, ot, ys ++ [x], rfl, same_put (sm.trans s6) hf1, (tk.trans (TK.of s6)).trans tk2, ?_, upd_same, ?_⟩
              · rw [upd_ne naf]
                exact s6 _ _ hA
              · rw [st]
                unfold needyStep
                rw [if_pos yes]
                exact each_snoc (stays_lot.each ((TK.of s6).trans tk2) he) (hlot.tk ((TK.of s6).trans tk2))
            · refine stay _ s6 fun z => c3 ?_
              unfold isNeedy at z
              rw [Bool.and_eq_true] at z
              exact z.2
        · refine stay _ s45 fun z => c2 ?_
          unfold isNeedy at z
          simp only [Bool.and_eq_true, decide_eq_true_eq] at z
          simpa using z.1.2
      · refine iteF (stay _ s4 fun z => c ?_)
        unfold isNeedy at z
        simp only [Bool.and_eq_true] at z
        exact z.1.1
    · rintro σ H' ⟨lt, ot, ys, rfl, sm, tk, hA, hF, he⟩
      rw [hxs.length, List.take_length] at he
      exact ⟨_, rfl, q _ _ (s1.trans sm) ⟨f, ys, rfl, hF, he⟩⟩
theorem scRowOf : FnScope ["theory", "lot"] ["theory", "lot"] (defScope sRowOf) := ⟨rfl, rfl, rfl, by decide +kernel, rfl, by decide +kernel, by decide +kernel⟩
theorem ok_rowOf (T : Txt K mg) (TH : ThK P w K mg base C I) : FnOk P w K mg base CX0 6 T.rowOf.f T.rowOf.fd ["theory", "lot"] (spRowOf I) := by
  obtain ⟨cg, hC, CF⟩ := TH.ca
  have GW : FnOk P w K mg base CX0 1 T.without.f T.without.fd ["one", "other"] (spLot2 wo) := ok_without T
  refine T.rowOf.F.ok scRowOf (fun vs H Q E h => ?_) (fun cdv A outer s H vs Q E hr h => ?_)
  · obtain ⟨_, _, _, _, _, rfl, _⟩ := h
    rfl
  · obtain ⟨p, y, marks, Tc, l, rfl, th, hy, ol, q⟩ := h
    have gd := (TH.good _ _ _ _ th).1
    have ty := (TH.good _ _ _ _ th).2
    have k0 := gd.le ol
    have k1 := gd.le (ty.of_ l ol)
    refine ⟨_, pss_one (ps_ret (pe_tup (pa_cons (pv 1) (pa_cons (pe_d T.without GW (hr.mono (by decide)) (pa_cons (pe_th (pv 0) hC CF (hr.mono (by decide)) (pa_cons (pv 1) pa_nil)) (pa_cons (pv 1) pa_nil))) pa_nil)))), ?_⟩
    refine ⟨_, rfl, _, rfl, p, rfl, _, rfl, TH.ins _ _ _ _ th, p, y, marks, Tc, l, rfl, th, hy, ol, fun H1 v s1 hv => ⟨_, rfl, v, y, _, l, rfl, hv, hy.tk (TK.of s1), by omega, by omega, fun H2 v2 s2 hv2 => ⟨by show 2 ≤ sizeLine; decide, fun n hn => ?_⟩⟩⟩
    have s3 : Same H2 (upd H2 n (.tup [y, v2])) := same_new hn
    exact q _ _ ((s1.trans s2).trans s3) ⟨n, y, v2, rfl, upd_same, hy.tk (TK.of ((s1.trans s2).trans s3)), hv2.tk (TK.of s3)⟩

theorem rowOf_row {marks : Lot} {Tc : Lot → Lot} (ty : Thy marks Tc) {l : Lot} (h : Of marks l) : RowOf marks (rowOfT Tc l) := ⟨h, (ty.of_ l h).wo⟩
theorem needyK_of {marks : Lot} {Tc : Lot → Lot} {rows : List Row} (gd : Good marks) {l : Lot} (h : l ∈ needyK marks Tc rows) : Of marks l ∧ Tc l ≠ l := ⟨(all_mem gd.ss).mp (needy_mem h).1, (needy_mem h).2⟩
theorem needyK_len {marks : Lot} {Tc : Lot → Lot} {rows : List Row} (gd : Good marks) : (needyK marks Tc rows).length ≤ 32 := Nat.le_trans (needy_len _ _ _) (all_le gd)
theorem scLeast : FnScope ["theory", "known", "lot"] ["theory", "known"] (defScope sLeastList) := ⟨rfl, rfl, rfl, by decide +kernel, rfl, by decide +kernel, by decide +kernel⟩
theorem ok_least (T : Txt K mg) (TH : ThK P w K mg base C I) : FnOk P w K mg base CX0 10 T.leastList.f T.leastList.fd ["theory", "known"] (spLeast T.rules.C I) := by
  obtain ⟨pp, pg, pfd, hP, PF, PB⟩ := TH.mk_
  have GI : FnOk P w K mg base CX0 6 T.rules.init.f T.rules.init.fd ["self", "marks", "rows"] (spRInit T.rules.C) := ok_rInit T
  have GN : FnOk P w K mg base CX0 9 T.needyLots.f T.needyLots.fd ["theory", "known"] (spNeedy T.rules.C I) := ok_needy T TH
  have GR : FnOk P w K mg base CX0 6 T.rowOf.f T.rowOf.fd ["theory", "lot"] (spRowOf I) := ok_rowOf T TH
  refine T.leastList.F.ok scLeast (fun vs H Q E h => ?_) (fun cdv A outer s H vs Q E hr h => ?_)
  · obtain ⟨_, _, _, _, _, rfl, _⟩ := h
    rfl
  · obtain ⟨p, kv, marks, Tc, rows, rfl, th, kn, q⟩ := h
    have gd := (TH.good _ _ _ _ th).1
    have ty := (TH.good _ _ _ _ th).2
    obtain ⟨dx, fs, hi⟩ := TH.ins _ _ _ _ th
    refine ⟨_, pss_one (ps_ret (pe_make T.rules.made GI (hr.mono (by decide)) rfl T.rules.g T.rules.init.b .nil pass0 (pa_cons (pe_prop (pv 0) TH.cl hP PF (hr.mono (by decide)) PB .nil pass0 rfl) (pa_cons
      (pe_lc (own := [("lot", 2)]) (g := gName 2) (tt := tYes) rfl scLeast.nd (pi_list (pe_dk T.needyLots GN hr (pa_cons (pv 0) pa_nil) (pk_cons (pv 1) pk_nil))) (blkOk_by (N := ["theory", "known", "lot"]) (sc := defScope sLeastList) (by decide +kernel))
        (fun _ _ _ _ _ => pg_name (i := 2) scLeast.nd rfl (Or.inl rfl)) (fun _ _ _ _ _ => pts_nil) (fun _ _ _ _ _ => pe_d T.rowOf GR (hr.mono (by decide)) (pa_cons (pv 0) (pa_cons (pv 2) pa_nil)))) pa_nil)))), ?_⟩
    refine ⟨_, rfl, p, dx, fs, rfl, hi, p, marks, Tc, rfl, th, fun mv hmv => ⟨_, rfl, _, rfl, p, kv, marks, Tc, rows, rfl, th, kn, fun H1 v s1 hv => ?_⟩⟩
    obtain ⟨a, xs, rfl, ha, he⟩ := hv
    have hxl : xs.length ≤ 32 := by rw [he.length]; exact needyK_len gd
    refine ⟨a, rfl, ⟨xs, SqL.of ha⟩, fun D hD => lcg_list (xs := xs) (Same H1) RowAt (fun j cs => cs = ((needyK marks Tc rows).take j).map (rowOfT Tc)) stays_row (small_line (by omega)) (same_new hD) (same_gD hD) (fun H6 k => SqL.of (k _ _ ha)) rfl ?_ ?_⟩
    · intro j z hz H6 cs KY KN go hac pc ky kn2
      obtain ⟨l, hl, hlot⟩ := each_get he hz
      have ol := (needyK_of gd (List.mem_of_getElem? hl)).1
      have s6 := s1.trans go
      refine ⟨rfl, yes ⟨_, rfl, _, rfl, p, z, marks, Tc, l, rfl, TH.same _ _ _ _ _ th s6, hlot.tk (TK.of go), ol, fun H7 v s7 hv => ky (rowOfT Tc l) _ _ ?_ (go.trans s7) (TK.of s7) ?_ hv⟩⟩
      · show cs ++ _ = _
        rw [pc, take_snoc hl, List.map_append]
        rfl
      · obtain ⟨ac, e⟩ := hac
        rw [e]
        exact s7 _ _ e
    · intro H6 acc cs go hA6 he6 pc
      rw [he.length, List.take_length] at pc
      rw [pc] at he6
      have s6 := s1.trans go
      refine mk_rules (hmv.tk (TK.of s6)) ⟨D, acc, rfl, hA6, he6⟩ gd (fun r hr2 => ?_) (by rw [List.length_map]; exact Nat.le_trans (needyK_len gd) (by decide)) fun H' p2 s2 is => q H' p2 (s6.trans s2) is
      obtain ⟨l, hl, rfl⟩ := List.mem_map.mp hr2
      exact rowOf_row ty (needyK_of gd hl).1

theorem scSidesOf : FnScope ["theory", "lot", "found", "side", "other"] ["theory", "lot"] (defScope sSidesOf) := ⟨rfl, rfl, rfl, by decide +kernel, rfl, by decide +kernel, by decide +kernel⟩
theorem ok_sidesOf (T : Txt K mg) (TH : ThK P w K mg base C I) : FnOk P w K mg base CX0 6 T.sidesOf.f T.sidesOf.fd ["theory", "lot"] (spSidesOf I) := by
  obtain ⟨cg, hC, CF⟩ := TH.ca
  have GA : FnOk P w K mg base CX0 2 T.allLots.f T.allLots.fd ["marks"] spAllLots := ok_allLots T
  have GW : FnOk P w K mg base CX0 1 T.within.f T.within.fd ["one", "other"] spWithin := ok_within T
  refine T.sidesOf.F.ok scSidesOf (fun vs H Q E h => ?_) (fun cdv A outer s H vs Q E hr h => ?_)
  · obtain ⟨_, _, _, _, _, rfl, _⟩ := h
    rfl
  · obtain ⟨p, lv, marks, Tc, lot, rfl, th, hlv, olot, q⟩ := h
    have gd := (TH.good _ _ _ _ th).1
    have ty := (TH.good _ _ _ _ th).2
    have klot := gd.le olot
    refine ⟨_, pss_cons (ps_set (i := 2) scSidesOf.nd rfl (Or.inl rfl) (pe_lst pa_nil))
      (pss_cons (ps_for PassesOwn.never rfl (pi_list (pe_d T.allLots GA (hr.mono (by decide)) (pa_cons (pv 1) pa_nil))) (pg_name (i := 3) scSidesOf.nd rfl (Or.inr rfl))
        (pss_one (ps_if (PW.pt (pw_and (pt_not (pt_val (pe_d T.within GW (hr.mono (by decide)) (pa_cons (pe_th (pv 0) hC CF hr (pa_cons (pv 3) pa_nil)) (pa_cons (pv 1) pa_nil)))))
            (pw_and1 (pt_not (pt_val (pe_callB (cr_any rfl) (by rfl) T.zAny (by decide +kernel) (pa_cons (pe_lc (own := [("other", 4)]) (g := gName 4) (tt := tYes) rfl scSidesOf.nd (pi_list (pv 2)) (blkOk_by (N := ["theory", "lot", "found", "side", "other"]) (sc := defScope sSidesOf) (by decide +kernel))
              (fun _ _ _ _ _ => pg_name (i := 4) scSidesOf.nd rfl (Or.inl rfl)) (fun _ _ _ _ _ => pts_nil) (fun _ _ _ _ _ => pe_d T.within GW (hr.mono (by decide)) (pa_cons (pv 4) (pa_cons (pv 3) pa_nil)))) pa_nil)))))))
          (pss_one (ps_expr (pe_bm PySem.F.plainAttrs_list PySem.F.slot_list_append PySem.F.type_list_append mt_append (pv 2) (pa_cons (pv 3) pa_nil)))) pss_nil)))
      (pss_one (ps_ret (pv 2)))), ?_⟩
    refine ⟨Nat.zero_le _, fun f hf => ?_⟩
    have s2 : Same H (upd H f (.lst [])) := same_new hf
    refine ⟨_, rfl, lv, lot, rfl, hlv.tk (TK.of s2), Nat.le_trans klot (by decide), fun H3 av s3 hav => ?_⟩
    obtain ⟨al, xs, rfl, hal, hxs⟩ := hav
    have hf3 : H3 f = some (.lst []) := s3 _ _ upd_same
    have naf : al ≠ f := by
      rintro rfl
      rw [hf3] at hal
      cases hal
      have := hxs.length
      exact all_ne lot this.symm
    have glot : Good lot := ⟨olot.1, klot, gd.of olot⟩
    have hxl : xs.length ≤ 32 := by rw [hxs.length]; exact all_le glot
    have mine : ∀ s : Lot, Of lot s → Of marks s := fun s h => ⟨h.1, fun m hm => olot.2 m (h.2 m hm)⟩
    refine ⟨al, rfl, ⟨xs, SqL.of hal⟩, for_list (K := K) (a := al) (xs := xs) (fun i σ H' => ∃ (lt ot : Option V) (ys : List V) (F : List Lot), σ = [some (.ref p), some lv, some (.ref f), lt, ot] ∧ Same H H' ∧ TK H3 H' ∧ H' al = some (.lst xs) ∧ H' f = some (.lst ys) ∧ Each LotAt H' ys F ∧ F = ((allLots lot).take i).foldl (sideStep Tc lot) [] ∧ F.length ≤ i)
      ⟨none, none, [], [], rfl, s2.trans s3, TK.refl _, hal, hf3, .nil, rfl, Nat.le_refl _⟩ (fun i σ H' _ ⟨_, _, _, _, _, _, _, h, _⟩ => SqL.of h) ?_ ?_⟩
    · rintro i x σ H' hx ⟨lt, ot, ys, F, rfl, sm, tk, hA, hF, he, hFe, hFl⟩
      obtain ⟨l, hl, hlot⟩ := each_get hxs hx
      have hlot := hlot.tk tk
      have ol := mine l ((all_mem olot.1).mp (List.mem_of_getElem? hl))
      have hi := (List.getElem?_eq_some_iff.mp hx).1
      have th' := TH.same _ _ _ _ _ th sm
      have hyl : ys.length ≤ 32 := by rw [he.length]; omega
      have kT := gd.le (ty.of_ l ol)
      have st : ((allLots lot).take (i + 1)).foldl (sideStep Tc lot) [] = sideStep Tc lot F l := by rw [take_snoc hl, List.foldl_append, ← hFe]; rfl
      have stay : ∀ H5 : Hp, Same H' H5 → ¬ (!wi (Tc l) lot && !F.any fun o => wi o l) = true → ∃ (lt ot' : Option V) (ys : List V) (F : List Lot), [some (V.ref p), some lv, some (V.ref f), some x, ot] = [some (V.ref p), some lv, some (V.ref f), lt, ot'] ∧ Same H H5 ∧ TK H3 H5 ∧ H5 al = some (.lst xs) ∧ H5 f = some (.lst ys) ∧ Each LotAt H5 ys F ∧ F = ((allLots lot).take (i + 1)).foldl (sideStep Tc lot) [] ∧ F.length ≤ i + 1 := by
        intro H5 s5 hno
        refine ⟨some x, ot, ys, F, rfl, sm.trans s5, tk.trans (TK.of s5), s5 _ _ hA, s5 _ _ hF, stays_lot.each (TK.of s5) he, ?_, by omega⟩
        rw [st]
        unfold sideStep
        rw [if_neg hno]
      refine ⟨_, rfl, p, rfl, _, rfl, TH.ins _ _ _ _ th', p, x, marks, Tc, l, rfl, th', hlot, ol, fun H4 v s4 hv => ⟨_, rfl, v, lv, _, lot, rfl, hv, hlv.tk (TK.of (sm.trans s4)), by omega, fun H5 s5 => ⟨_, rfl, ?_⟩⟩⟩
      have s45 := s4.trans s5
      refine ite2 (fun c => ?_) (fun c => iteF (stay _ s45 fun z => c ?_))
      · have hF5 := s45 _ _ hF
        refine ⟨_, rfl, f, rfl, ⟨ys, SqL.of hF5⟩, fun D hD => lcg_list (xs := ys) (Same H5) BoolAt (fun j cs => cs = (F.take j).map fun o => wi o l) stays_bool (small_line (by omega)) (same_new hD) (same_gD hD) (fun H6 k => SqL.of (k _ _ hF5)) rfl ?_ ?_⟩
        · intro j z hz H6 cs KY KN go hac pc ky kn
          obtain ⟨o, ho, holot⟩ := each_get he hz
          have s6 := s45.trans go
          have oo : o.length ≤ 5 := by
            have hm := List.mem_of_getElem? ho
            rw [hFe] at hm
            have all_of : ∀ (ls g : List Lot), (∀ x ∈ ls, Of lot x) → (∀ x ∈ g, Of lot x) → ∀ s ∈ ls.foldl (sideStep Tc lot) g, Of lot s := by
              intro ls
              induction ls with
              | nil => intro g _ h; exact h
              | cons x ls ih =>
                intro g h1 h2
                refine ih _ (fun y hy => h1 y (List.mem_cons_of_mem _ hy)) fun y hy => ?_
                unfold sideStep at hy
                split at hy
                · rcases List.mem_append.mp hy with k | k
                  · exact h2 y k
                  · rw [List.mem_singleton.mp k]; exact h1 x List.mem_cons_self
                · exact h2 y hy
            exact gd.le (mine o (all_of _ [] (fun y hy => (all_mem olot.1).mp (List.mem_of_mem_take hy)) (fun y hy => by cases hy) o hm))
          refine ⟨rfl, yes ⟨_, rfl, _, rfl, z, x, o, l, rfl, holot.tk (TK.of s6), hlot.tk (TK.of s6), by omega, fun H7 s7 => ky (wi o l) _ _ ?_ (go.trans s7) (TK.of s7) ?_ rfl⟩⟩
          · show cs ++ _ = _
            rw [pc, take_snoc ho, List.map_append]
            rfl
          · obtain ⟨ac, e⟩ := hac
            rw [e]
            exact s7 _ _ e
        · intro H6 acc cs go hA6 he6 pc
          rw [bools_of he6] at hA6
          have s6 := s45.trans go
          refine ⟨D, cs, rfl, SqL.of hA6, _, rfl, ?_⟩
          have e3 : cs.any id = F.any fun o => wi o l := by
            rw [pc, he.length, List.take_length, List.any_map]
            rfl
          rw [e3]
          refine ite2 (fun c3 => ?_) (fun c3 => ?_)
          · have hF6 := s6 _ _ hF
            have tk2 : TK H6 (upd H6 f (.lst (ys ++ [x]))) := TK.put (.inr ⟨ys, hF6⟩)
            refine ⟨_, rfl, .inl ⟨rfl, _, SqL.of hF6⟩, _, rfl, f, ys, x, rfl, rfl, hF6, small_line (by omega), ?_⟩
            refine ⟨some x, ot, ys ++ [x], F ++ [l], rfl, same_put (sm.trans s6) hf, (tk.trans (TK.of s6)).trans tk2, ?_, upd_same, each_snoc (stays_lot.each ((TK.of s6).trans tk2) he) (hlot.tk ((TK.of s6).trans tk2)), ?_, ?_⟩
            · rw [upd_ne naf]
              exact s6 _ _ hA
            · rw [st]
              unfold sideStep
              rw [if_pos (by rw [c, c3]; rfl)]
            · rw [List.length_append, List.length_singleton]
              omega
          · refine stay _ s6 fun z => c3 ?_
            rw [Bool.and_eq_true] at z
            exact z.2
      · rw [Bool.and_eq_true] at z
        exact z.1
    · rintro σ H' ⟨lt, ot, ys, F, rfl, sm, tk, hA, hF, he, hFe, hFl⟩
      rw [hxs.length, List.take_length] at hFe
      refine ⟨_, rfl, q _ _ sm ⟨f, ys, rfl, hF, ?_⟩⟩
      rw [hFe] at he
      exact he

theorem scLeft : FnScope ["theory", "lot", "known"] ["theory", "lot", "known"] (defScope sLeftSides) := ⟨rfl, rfl, rfl, by decide +kernel, rfl, by decide +kernel, by decide +kernel⟩
theorem ok_left (T : Txt K mg) (TH : ThK P w K mg base C I) : FnOk P w K mg base CX0 10 T.leftSides.f T.leftSides.fd ["theory", "lot", "known"] (spLeft T.rules.C I) := by
  have GN : FnOk P w K mg base CX0 9 T.needyLots.f T.needyLots.fd ["theory", "known"] (spNeedy T.rules.C I) := ok_needy T TH
  have GS : FnOk P w K mg base CX0 6 T.sidesOf.f T.sidesOf.fd ["theory", "lot"] (spSidesOf I) := ok_sidesOf T TH
  refine T.leftSides.F.ok scLeft (fun vs H Q E h => ?_) (fun cdv A outer s H vs Q E hr h => ?_)
  · obtain ⟨_, _, _, _, _, _, _, rfl, _⟩ := h
    rfl
  · obtain ⟨p, y, kv, marks, Tc, l, rows, rfl, th, hy, kn, hl, q⟩ := h
    have gd := (TH.good _ _ _ _ th).1
    refine ⟨_, pss_cons (ps_if (pt_cmpR (op_notInD (room65 hr)) (pv 1) (pe_dk T.needyLots GN hr (pa_cons (pv 0) pa_nil) (pk_cons (pv 2) pk_nil)) (by rfl)) (pss_one ps_never) pss_nil) (pss_one (ps_ret (pe_d T.sidesOf GS (hr.mono (by decide)) (pa_cons (pv 0) (pa_cons (pv 1) pa_nil))))), ?_⟩
    refine ⟨_, rfl, _, rfl, _, rfl, p, kv, marks, Tc, rows, rfl, th, kn, fun H1 v s1 hv => ?_⟩
    refine ⟨lotD l, (needyK marks Tc rows).map lotD, (hy.tk (TK.of s1)).dp, dp_lots hv, shaped_lot (gd.of (needyK_of gd hl).1), shaped_lots fun z hz => gd.of (needyK_of gd hz).1, false, ?_, iteF ?_⟩
    · have e : ((needyK marks Tc rows).map lotD).any (fun z => PyData.eqv z (lotD l)) = true := by
        rw [List.any_map, List.any_eq_true]
        exact ⟨l, hl, by show PyData.eqv (lotD l) (lotD l) = true; rw [eqv_lot]; exact decide_eq_true rfl⟩
      rw [e]
      rfl
    · exact ⟨_, rfl, _, rfl, p, y, marks, Tc, l, rfl, TH.same _ _ _ _ _ th s1, hy.tk (TK.of s1), (needyK_of gd hl).1, fun H2 v2 s2 hv2 => q _ _ (s1.trans s2) hv2⟩

theorem scFewest : FnScope ["theory", "known", "lot"] ["theory", "known"] (defScope sFewestAhead) := ⟨rfl, rfl, rfl, by decide +kernel, rfl, by decide +kernel, by decide +kernel⟩
theorem needy_sides {marks : Lot} {Tc : Lot → Lot} {rows : List Row} (gd : Good marks) (ty : Thy marks Tc) {l : Lot} (h : l ∈ needyK marks Tc rows) : ∃ s r, sidesOf Tc l = s :: r ∧ Of l s := by
  obtain ⟨ol, hne⟩ := needyK_of gd h
  have hw : wi (Tc l) l = false := by
    cases c : wi (Tc l) l with
    | false => rfl
    | true => exact absurd (ty.fix ol c) hne
  have so := (sides_of (T := Tc) ol.1).1
  cases c : sidesOf Tc l with
  | nil => exact absurd c (sides_ne ol.1 hw)
  | cons s r => exact ⟨s, r, rfl, so s (by rw [c]; exact List.mem_cons_self)⟩
theorem ok_fewest (T : Txt K mg) (TH : ThK P w K mg base C I) : FnOk P w K mg base CX0 10 T.fewestAhead.f T.fewestAhead.fd ["theory", "known"] (spFewest T.rules.C I) := by
  have GN : FnOk P w K mg base CX0 9 T.needyLots.f T.needyLots.fd ["theory", "known"] (spNeedy T.rules.C I) := ok_needy T TH
  have GS : FnOk P w K mg base CX0 6 T.sidesOf.f T.sidesOf.fd ["theory", "lot"] (spSidesOf I) := ok_sidesOf T TH
  refine T.fewestAhead.F.ok scFewest (fun vs H Q E h => ?_) (fun cdv A outer s H vs Q E hr h => ?_)
  · obtain ⟨_, _, _, _, _, rfl, _⟩ := h
    rfl
  · obtain ⟨p, kv, marks, Tc, rows, rfl, th, kn, q⟩ := h
    have gd := (TH.good _ _ _ _ th).1
    have ty := (TH.good _ _ _ _ th).2
    refine ⟨_, pss_one (ps_ret (pe_callB (cr_sum rfl) (by rfl) T.zSum (by decide +kernel) (pa_cons
      (pe_lc (own := [("lot", 2)]) (g := gName 2) (tt := tYes) rfl scFewest.nd (pi_list (pe_dk T.needyLots GN hr (pa_cons (pv 0) pa_nil) (pk_cons (pv 1) pk_nil))) (blkOk_by (N := ["theory", "known", "lot"]) (sc := defScope sFewestAhead) (by decide +kernel))
        (fun _ _ _ _ _ => pg_name (i := 2) scFewest.nd rfl (Or.inl rfl)) (fun _ _ _ _ _ => pts_nil) (fun _ _ _ _ _ => pe_callB call_len2 (by rfl) T.zLen PySem.boot_len (pa_cons (pe_ix ixr_list (pe_d T.sidesOf GS (hr.mono (by decide)) (pa_cons (pv 0) (pa_cons (pv 2) pa_nil))) pe_int (fun _ _ => rfl)) pa_nil))) pa_nil))), ?_⟩
    refine ⟨_, rfl, _, rfl, p, kv, marks, Tc, rows, rfl, th, kn, fun H1 v s1 hv => ?_⟩
    obtain ⟨a, xs, rfl, ha, he⟩ := hv
    have hxl : xs.length ≤ 32 := by rw [he.length]; exact needyK_len gd
    refine ⟨a, rfl, ⟨xs, SqL.of ha⟩, fun D hD => lcg_list (xs := xs) (Same H1) IntAt (fun j cs => cs = ((needyK marks Tc rows).take j).map fun l => (((sidesOf Tc l).headD []).length : Int)) stays_int (small_line (by omega)) (same_new hD) (same_gD hD) (fun H6 k => SqL.of (k _ _ ha)) rfl ?_ ?_⟩
    · intro j z hz H6 cs KY KN go hac pc ky kn2
      obtain ⟨l, hl, hlot⟩ := each_get he hz
      have hm := List.mem_of_getElem? hl
      have ol := (needyK_of gd hm).1
      have s6 := s1.trans go
      obtain ⟨s, r, es, _⟩ := needy_sides gd ty hm
      refine ⟨rfl, yes ⟨_, rfl, _, rfl, p, z, marks, Tc, l, rfl, TH.same _ _ _ _ _ th s6, hlot.tk (TK.of go), ol, fun H7 v s7 hv => ?_⟩⟩
      rw [es] at hv
      obtain ⟨sa, sx, rfl, hsa, hse⟩ := hv
      cases hse with
      | cons r0 rt =>
        obtain ⟨t, rfl, ht⟩ := r0
        refine ⟨sa, _, 0, _, rfl, rfl, hsa, rfl, t, _, rfl, .inr ht, ?_⟩
        refine ky ((s.length : Nat) : Int) _ _ ?_ (go.trans s7) (TK.of s7) ?_ (by rw [List.length_map]; rfl)
        · show cs ++ _ = _
          rw [pc, take_snoc hl, List.map_append]
          show _ ++ [((s.length : Nat) : Int)] = _ ++ [(((sidesOf Tc l).headD []).length : Int)]
          rw [es]
          rfl
        · obtain ⟨ac, e⟩ := hac
          rw [e]
          exact s7 _ _ e
    · intro H6 acc cs go hA6 he6 pc
      rw [he.length, List.take_length] at pc
      rw [ints_of he6] at hA6
      refine ⟨D, cs, rfl, SqL.of hA6, ?_⟩
      rw [pc]
      exact q _ (s1.trans go)
end
end K5
/-! K5o: the law's bag of numbers; what draws from it. -/
namespace K5
open PySem PySem.Spec PyProof.Rows L2

theorem seq_cut {t u : TS} {D : Ends} {σ : L2.St} {H : Hp} (M : L2.St → Hp → Prop) (h1 : ∀ nx' : L2.St → Hp → Prop, (∀ σ2 H2, M σ2 H2 → nx' σ2 H2) → t { D with nx := nx' } σ H) (h2 : ∀ σ2 H2, M σ2 H2 → u D σ2 H2) : tSeq t u D σ H := h1 _ h2
/-- the bag at b, its cells at a -/
def Bag (H : Hp) (b a : Addr) : Prop := ∃ (d m : Int) (c : Nat) (ns : List Int), H b = some (.lst [.int d, .int m, .int (c : Int), .ref a]) ∧ H a = some (.lst (ns.map V.int))
theorem Bag.same {H H' : Hp} {b a : Addr} (h : Bag H b a) (s : Same H H') : Bag H' b a := by
  obtain ⟨d, m, c, ns, h1, h2⟩ := h
  exact ⟨d, m, c, ns, s _ _ h1, s _ _ h2⟩
theorem Bag.lst {H : Hp} {b a : Addr} (h : Bag H b a) : ∃ xs, H b = some (.lst xs) := by
  obtain ⟨d, m, c, ns, h1, h2⟩ := h
  exact ⟨_, h1⟩
theorem Bag.cells {H : Hp} {b a : Addr} (h : Bag H b a) : ∃ xs, H a = some (.lst xs) := by
  obtain ⟨d, m, c, ns, h1, h2⟩ := h
  exact ⟨_, h2⟩
/-- on: all but the bag stays -/
structure On (b a : Addr) (H H' : Hp) : Prop where
  sb : SB b H H'
  bag : Bag H' b a
theorem On.tk {b a : Addr} {H H' : Hp} (h : On b a H H') (hb : Bag H b a) : TK H H' := h.sb.tk hb.lst
theorem On.trans {b a : Addr} {H H1 H2 : Hp} (x : On b a H H1) (y : On b a H1 H2) : On b a H H2 := ⟨x.sb.trans y.sb, y.bag⟩
theorem On.same {b a : Addr} {H H1 H2 : Hp} (x : On b a H H1) (s : Same H1 H2) : On b a H H2 := ⟨x.sb.trans (SB.of s), x.bag.same s⟩
theorem On.of {b a : Addr} {H H' : Hp} (h : Bag H b a) (s : Same H H') : On b a H H' := ⟨SB.of s, h.same s⟩
/-- what is new and a list of its own may turn -/
theorem On.put {b a D : Addr} {H1 H : Hp} {o : HO} (x : On b a H1 H) (hb : Bag H1 b a) (hD : H1 D = none) : On b a H1 (upd H D o) := by
  obtain ⟨d, m, c, ns, h1, h2⟩ := x.bag
  refine ⟨fun p u n e => ?_, d, m, c, ns, ?_, ?_⟩
  · rw [upd_ne (ne_of_none e hD)]
    exact x.sb _ _ n e
  · obtain ⟨ys, e⟩ := hb.lst
    rw [upd_ne (ne_of_none e hD)]
    exact h1
  · obtain ⟨ys, e⟩ := hb.cells
    rw [upd_ne (ne_of_none e hD)]
    exact h2
theorem on_g0 {b a D : Addr} {H1 : Hp} (hb : Bag H1 b a) (hD : H1 D = none) : On b a H1 (upd H1 D (.lst [])) := On.of hb (same_new hD)
theorem on_gD {b a D : Addr} {H1 : Hp} (hb : Bag H1 b a) (hD : H1 D = none) : ∀ (H : Hp) (o : HO), On b a H1 H → (∃ ys, H D = some (.lst ys)) → On b a H1 (upd H D o) := fun H o h _ => h.put hb hD
/-- another list stays -/
theorem On.lst {b a p : Addr} {H H' : Hp} {o : HO} (x : On b a H H') (n : p ≠ b) (e : H p = some o) : H' p = some o := x.sb _ _ n e
theorem On.tup {b a p : Addr} {H H' : Hp} {xs : List V} (x : On b a H H') (hb : Bag H b a) (e : H p = some (.tup xs)) : H' p = some (.tup xs) := x.tk hb _ _ e
def spBag (K : PySem.W.Frag) : Sp := fun vs H Q _ => ∃ (a : Addr) (ns : List Int), vs = [V.ref a] ∧ SqL K H a (ns.map V.int) ∧ ns.length ≤ 1000 ∧ ∀ H' b a, Same H H' → H b = none → Bag H' b a → Q (.ref b) H'
def spTake : Sp := fun vs H Q _ => ∃ (b a : Addr) (many : Int), vs = [V.ref b, V.int many] ∧ Bag H b a ∧ 0 < many ∧ many ≤ 1000 ∧ ∀ H' v, On b a H H' → 0 ≤ v → v < many → Q (.int v) H'
section
variable {P : Program} {w : World} {K : PySem.W.Frag} {mg : Str → Option Value} {base : Heap}
theorem scLBag : FnScope ["_law_script", "_law_cell"] ["_law_script"] (defScope sLBag) := ⟨rfl, rfl, rfl, by decide +kernel, rfl, by decide +kernel, by decide +kernel⟩
theorem cut_map (ns : List Int) (lo hi : Option Int) : ∃ ms : List Int, cutV (ns.map V.int) lo hi = ms.map V.int ∧ ms.length ≤ ns.length := by
  unfold cutV
  rw [← List.map_drop, ← List.map_take]
  refine ⟨_, rfl, ?_⟩
  rw [List.length_take, List.length_drop]
  omega
theorem ok_lBag (T : Txt K mg) : FnOk P w K mg base CX0 1 T.lBag.f T.lBag.fd ["_law_script"] (spBag K) := by
  refine T.lBag.F.ok scLBag (fun vs H Q E h => ?_) (fun cdv A outer s H vs Q E hr h => ?_)
  · obtain ⟨_, _, rfl, _⟩ := h
    rfl
  · obtain ⟨a, ns, rfl, ha, hl, q⟩ := h
    refine ⟨_, pss_one (ps_ret (pe_lst (pa_cons pe_int (pa_cons pe_int (pa_cons pe_int (pa_cons
      (pe_lc (own := [("_law_cell", 1)]) (g := gName 1) (tt := tYes) rfl scLBag.nd (pi_list (pe_slice sl_list (pv 0) po_none (po_some pe_int))) (blkOk_by (N := ["_law_script", "_law_cell"]) (sc := defScope sLBag) (by decide +kernel))
        (fun _ _ _ _ _ => pg_name (i := 1) scLBag.nd rfl (Or.inl rfl)) (fun _ _ _ _ _ => pts_nil) (fun _ _ _ _ _ => pe_callB call_abs (by rfl) T.zAbs (by decide +kernel) (pa_cons (pv 1) pa_nil))) pa_nil)))))), ?_⟩
    obtain ⟨ms, em, hm⟩ := cut_map ns none (some 63)
    refine ⟨_, rfl, _, rfl, a, _, rfl, ha, fun p hp => ?_⟩
    have s1 : Same H (upd H p (.lst (cutV (ns.map V.int) none (some 63)))) := same_new hp
    refine ⟨p, rfl, ⟨_, SqL.of upd_same⟩, fun D hD => lcg_list (xs := cutV (ns.map V.int) none (some 63)) (Same (upd H p (.lst (cutV (ns.map V.int) none (some 63))))) IntAt (fun _ _ => True) stays_int (by rw [em, List.length_map]; exact small_line (by omega)) (same_new hD) (same_gD hD) (fun H' k => SqL.of (k _ _ upd_same)) trivial ?_ ?_⟩
    · intro i x hx H' cs KY KN go hac pc ky kn
      rw [em, List.getElem?_map] at hx
      cases hn : ms[i]? with
      | none => rw [hn] at hx; cases hx
      | some n =>
        rw [hn] at hx
        obtain rfl := Option.some.inj hx
        exact ⟨rfl, yes ⟨_, rfl, n, rfl, ky _ _ _ trivial go (TK.refl _) rfl rfl⟩⟩
    · intro H' acc cs go hA he _
      rw [ints_of he] at hA
      refine ⟨by show 4 ≤ sizeLine; decide, fun n hn => ?_⟩
      have s2 := (s1.trans go).trans (same_new (o := .lst [.int 0, .int 1234567891, .int 0, .ref D]) hn)
      refine q _ n D s2 ((s1.trans go).free hn) ⟨0, 1234567891, 0, cs, upd_same, ?_⟩
      rw [upd_ne (ne_of_none hA hn)]
      exact hA

theorem fm_lt (i j : Int) (h : 0 < j) : i.fmod j < j := Int.fmod_lt_of_pos i h
theorem fm_ge (i j : Int) (h : 0 < j) : 0 ≤ i.fmod j := Int.fmod_nonneg_of_pos i h
theorem scLTake : FnScope ["_law_bag_here", "_law_many", "_law_cell", "_law_mixed_here", "_law_value", "_law_begin", "_law_second"] ["_law_bag_here", "_law_many"] (defScope sLTake) := ⟨rfl, rfl, rfl, by decide +kernel, rfl, by decide +kernel, by decide +kernel⟩
theorem ok_lTake (T : Txt K mg) : FnOk P w K mg base CX0 1 T.lTake.f T.lTake.fd ["_law_bag_here", "_law_many"] spTake := by
  refine T.lTake.F.ok scLTake (fun vs H Q E h => ?_) (fun cdv A outer s H vs Q E hr h => ?_)
  · obtain ⟨_, _, _, rfl, _⟩ := h
    rfl
  · obtain ⟨b, a, many, rfl, ⟨d, m, c, ns, hb, ha⟩, hm0, hm1, q⟩ := h
    have nd := scLTake.nd
    have z1 : (1000000007 : Int) ≠ 0 := by decide
    have z2 : (998244353 : Int) ≠ 0 := by decide
    have z3 : (2147483647 : Int) ≠ 0 := by decide
    refine ⟨_, pss_cons (ps_if (pt_cmp (pc_eqI (pe_ix ixr_list (pv 0) pe_int (fun _ _ => rfl)) pe_int))
        (pss_cons (ps_set (i := 2) nd rfl (Or.inl rfl) pe_int)
        (pss_cons (ps_if (pt_cmp (pc_lt (pe_ix ixr_list (pv 0) pe_int (fun _ _ => rfl)) (pe_callB call_len2 (by rfl) T.zLen PySem.boot_len (pa_cons (pe_ix ixr_list (pv 0) pe_int (fun _ _ => rfl)) pa_nil))))
          (pss_one (ps_set (i := 2) nd rfl (Or.inl rfl) (pe_ix ixr_list (pe_ix ixr_list (pv 0) pe_int (fun _ _ => rfl)) (pe_ix ixr_list (pv 0) pe_int (fun _ _ => rfl)) (fun _ _ => rfl)))) pss_nil)
        (pss_cons (ps_augS (pv 0) pe_int pget_list pe_int ip_add set_list)
        (pss_cons (ps_if (pt_cmp (pc_ge (pv 2) pe_int)) (pss_one (ps_asg (pv 2) (pg_sub (pv 0) pe_int set_list))) pss_nil)
        (pss_cons (ps_set (i := 3) nd rfl (Or.inl rfl) (pe_op op_add (pe_op op_add (pe_op op_mul (pe_ix ixr_list (pv 0) pe_int (fun _ _ => rfl)) pe_int) (pe_op op_modN (pe_callTy call_int1 (by rfl) T.zInt (by decide +kernel) (pa_cons (pv 2) pa_nil)) pe_int)) (pe_op op_mul pe_int (pe_ix ixr_list (pv 0) pe_int (fun _ _ => rfl)))))
        (pss_one (ps_asg (pe_op op_modN (pe_callTy call_int1 (by rfl) T.zInt (by decide +kernel) (pa_cons (pv 3) pa_nil)) pe_int) (pg_sub (pv 0) pe_int set_list))))))))
        pss_nil)
      (pss_cons (ps_if (pt_cmp (pc_gt (pe_ix ixr_list (pv 0) pe_int (fun _ _ => rfl)) pe_int))
        (pss_cons (ps_set (i := 4) nd rfl (Or.inl rfl) (pe_op op_modN (pe_callTy call_int1 (by rfl) T.zInt (by decide +kernel) (pa_cons (pe_ix ixr_list (pv 0) pe_int (fun _ _ => rfl)) pa_nil)) (pv 1)))
        (pss_cons (ps_asg (pe_op op_fdivN (pe_ix ixr_list (pv 0) pe_int (fun _ _ => rfl)) (pv 1)) (pg_sub (pv 0) pe_int set_list))
        (pss_one (ps_ret (pv 4))))) pss_nil)
      (pss_cons (ps_set (i := 5) nd rfl (Or.inl rfl) (pe_op op_modN (pe_callTy call_int1 (by rfl) T.zInt (by decide +kernel) (pa_cons (pe_op op_mul (pe_op op_add (pe_ix ixr_list (pv 0) pe_int (fun _ _ => rfl)) pe_int) pe_int) pa_nil)) pe_int))
      (pss_cons (ps_set (i := 6) nd rfl (Or.inl rfl) (pe_op op_modN (pe_callTy call_int1 (by rfl) T.zInt (by decide +kernel) (pa_cons (pe_op op_mul (pe_op op_modN (pe_callTy call_int1 (by rfl) T.zInt (by decide +kernel) (pa_cons (pe_op op_mul (pv 5) (pv 5)) pa_nil)) pe_int) pe_int) pa_nil)) pe_int))
      (pss_cons (ps_if (pt_cmp (pc_gt (pv 1) pe_int)) (pss_one ps_never) pss_nil)
      (pss_one (ps_ret (pe_op op_modN (pe_callTy call_int1 (by rfl) T.zInt (by decide +kernel) (pa_cons (pe_op op_fdivN (pv 6) pe_int) pa_nil)) (pv 1)))))))), ?_⟩
    have nab : a ≠ b := by
      rintro rfl
      rw [ha] at hb
      have e := congrArg (fun l => l[3]?) (HO.lst.inj (Option.some.inj hb))
      simp only [List.getElem?_map] at e
      cases h3 : ns[3]? with
      | none => rw [h3] at e; cases e
      | some n => rw [h3] at e; cases e
    let M : L2.St → Hp → Prop := fun σ2 H2 => ∃ (cv mv : Option V) (d m : Int) (c : Nat), σ2 = [some (V.ref b), some (V.int many), cv, mv, none, none, none] ∧ SB b H H2 ∧ H2 b = some (.lst [.int d, .int m, .int (c : Int), .ref a])
    refine seq_cut M (fun nx' hn => ?_) ?_
    · refine ⟨_, rfl, b, _, 0, .int d, rfl, rfl, hb, rfl, _, _, rfl, rfl, _, rfl, ite2 (fun c0 => ?_) (fun c0 => ?_)⟩
      · refine seq_cut (fun σ2 H2 => σ2 = [some (V.ref b), some (V.int many), some (.int 0), none, none, none, none] ∧ H2 = H) (fun nx2 hn2 => hn2 _ _ ⟨rfl, rfl⟩) ?_
        rintro σ2 H2 ⟨rfl, rfl⟩
        refine seq_cut (fun σ2 H2' => ∃ z : Int, σ2 = [some (V.ref b), some (V.int many), some (.int z), none, none, none, none] ∧ H2' = H2) (fun nx2 hn2 => ?_) ?_
        · refine ⟨_, rfl, b, _, 2, .int (c : Int), rfl, rfl, hb, rfl, _, rfl, b, _, 3, .ref a, rfl, rfl, hb, rfl, a, _, rfl, .inl ha, _, _, rfl, rfl, _, rfl, ite2 (fun c1 => ?_) (fun c1 => ?_)⟩
          · rw [List.length_map] at c1
            have c2 : c < ns.length := by
              have := of_decide_eq_true c1
              omega
            refine ⟨_, rfl, b, _, 3, .ref a, rfl, rfl, hb, rfl, _, rfl, b, _, 2, .int (c : Int), rfl, rfl, hb, rfl, a, _, c, .int ns[c], rfl, rfl, ha, ?_, hn2 _ _ ⟨_, rfl, rfl⟩⟩
            rw [List.getElem?_map, List.getElem?_eq_getElem c2]
            rfl
          · exact hn2 _ _ ⟨0, rfl, rfl⟩
        · rintro σ2 H2' ⟨z, rfl, rfl⟩
          refine ⟨_, rfl, b, _, 2, _, rfl, rfl, SqL.of hb, by decide, rfl, _, _, rfl, rfl, b, _, 2, 2, rfl, rfl, hb, rfl, ?_⟩
          dsimp only
          refine seq_cut (fun σ3 H3 => ∃ d3 : Int, σ3 = [some (V.ref b), some (V.int many), some (.int z), none, none, none, none] ∧ SB b H2' H3 ∧ H3 b = some (.lst [.int d3, .int m, .int ((c + 1 : Nat) : Int), .ref a])) (fun nx3 hn3 => ?_) ?_
          · refine ⟨_, rfl, _, _, rfl, rfl, _, rfl, ite2 (fun c2 => ?_) (fun c2 => ?_)⟩
            · refine ⟨_, rfl, _, rfl, b, _, 0, 0, rfl, rfl, upd_same, rfl, hn3 _ _ ⟨z, rfl, SB.trans SB.put SB.put, upd_same⟩⟩
            · exact hn3 _ _ ⟨d, rfl, SB.put, upd_same⟩
          · rintro σ3 H3 ⟨d3, rfl, sb3, hb3⟩
            refine ⟨_, rfl, b, _, 1, .int m, rfl, rfl, hb3, rfl, _, _, rfl, rfl, .inr (by decide), ?_⟩
            refine ⟨_, rfl, .inl ⟨_, rfl, _, _, rfl, rfl, z3, _, _, rfl, rfl, ?_⟩⟩
            refine ⟨_, rfl, b, _, 2, _, rfl, rfl, hb3, rfl, _, _, rfl, rfl, .inl (by decide), _, _, rfl, rfl, ?_⟩
            refine ⟨_, rfl, .inl ⟨_, rfl, _, _, rfl, rfl, z3, _, rfl, b, _, 1, 1, rfl, rfl, hb3, rfl, ?_⟩⟩
            exact hn _ _ ⟨_, _, d3, _, c + 1, rfl, sb3.trans SB.put, upd_same⟩
      · exact hn _ _ ⟨none, none, d, m, c, rfl, SB.refl _ _, hb⟩
    · rintro σ2 H2 ⟨cv, mv, d2, m2, c2, rfl, sb, hb2⟩
      refine ⟨_, rfl, b, _, 0, .int d2, rfl, rfl, hb2, rfl, _, _, rfl, rfl, _, rfl, ite2 (fun c0 => ?_) (fun c0 => ?_)⟩
      · refine ⟨_, rfl, b, _, 0, .int d2, rfl, rfl, hb2, rfl, .inl ⟨_, rfl, _, rfl, _, _, rfl, rfl, by omega, ?_⟩⟩
        refine ⟨_, rfl, b, _, 0, .int d2, rfl, rfl, hb2, rfl, _, rfl, _, _, rfl, rfl, ⟨by omega, by omega⟩, _, rfl, b, _, 0, 0, rfl, rfl, hb2, rfl, _, rfl, ?_⟩
        refine q _ _ ⟨sb.trans SB.put, ⟨_, m2, c2, ns, upd_same, ?_⟩⟩ (fm_ge _ _ hm0) (fm_lt _ _ hm0)
        rw [upd_ne nab]
        exact sb _ _ nab ha
      · refine ⟨_, rfl, b, _, 1, .int m2, rfl, rfl, hb2, rfl, _, _, rfl, rfl, _, _, rfl, rfl, .inr (by decide), .inl ⟨_, rfl, _, _, rfl, rfl, z1, ?_⟩⟩
        have g1 := fm_ge ((m2 + 1) * 39373) 1000000007 (by decide)
        have g2 := fm_lt ((m2 + 1) * 39373) 1000000007 (by decide)
        refine ⟨_, rfl, _, rfl, _, _, rfl, rfl, .inl ⟨by omega, by omega⟩, .inl ⟨_, rfl, _, _, rfl, rfl, z2, _, _, rfl, rfl, .inr (by decide), .inl ⟨_, rfl, _, _, rfl, rfl, z2, ?_⟩⟩⟩
        refine ⟨_, rfl, _, _, rfl, rfl, _, rfl, ite2 (fun c1 => ?_) (fun c1 => ?_)⟩
        · have := of_decide_eq_true c1
          omega
        · refine ⟨_, rfl, _, _, rfl, rfl, ⟨by decide, by decide⟩, .inl ⟨_, rfl, _, rfl, _, _, rfl, rfl, by omega, ?_⟩⟩
          refine q _ _ ⟨sb, ⟨d2, m2, c2, ns, hb2, sb _ _ nab ha⟩⟩ (fm_ge _ _ hm0) (fm_lt _ _ hm0)
end
end K5
/-! K5p: what the law draws: lots, rows, tables. -/
namespace K5
open PySem PySem.Spec PyProof.Rows L2

theorem paired_perm {β : Type} {R : V → β → Prop} {xs zs : List V} (p : xs.Perm zs) : ∀ {bs : List β}, Paired R xs bs → ∃ bs', bs.Perm bs' ∧ Paired R zs bs' := by
  induction p with
  | nil => intro bs h; exact ⟨bs, List.Perm.refl _, h⟩
  | cons x _ ih =>
    intro bs h
    cases h with
    | cons r t =>
      obtain ⟨bs', p', t'⟩ := ih t
      exact ⟨_, p'.cons _, .cons r t'⟩
  | swap x y l =>
    intro bs h
    cases h with
    | cons r t =>
      cases t with
      | cons r2 t2 => exact ⟨_, List.Perm.swap _ _ _, .cons r2 (.cons r t2)⟩
  | trans _ _ ih1 ih2 =>
    intro bs h
    obtain ⟨b1, p1, t1⟩ := ih1 h
    obtain ⟨b2, p2, t2⟩ := ih2 t1
    exact ⟨b2, p1.trans p2, t2⟩
theorem each_set {β : Type} {R : V → β → Prop} {x : V} {b : β} (r : R x b) : ∀ {xs : List V} {bs : List β} (j : Nat), Paired R xs bs → Paired R (xs.set j x) (bs.set j b)
  | _, _, _, .nil => .nil
  | _, _, 0, .cons _ t => .cons r t
  | _, _, j + 1, .cons r0 t => .cons r0 (each_set r j t)
theorem cut_to (xs : List V) (n : Nat) : cutV xs none (some (n : Int)) = xs.take n := by
  unfold cutV
  rw [HT.sIx_none, HT.sIx_nat, List.drop_zero, Nat.sub_zero]
  rcases Nat.le_total n xs.length with h | h
  · rw [Nat.min_eq_left h]
  · rw [Nat.min_eq_right h, List.take_length, List.take_of_length_le h]
theorem cut_from (xs : List V) (n : Nat) : cutV xs (some (n : Int)) none = xs.drop n := by
  unfold cutV
  rw [HT.sIx_none, HT.sIx_nat]
  rcases Nat.le_total n xs.length with h | h
  · rw [Nat.min_eq_left h]
    exact List.take_of_length_le (by rw [List.length_drop]; exact Nat.le_refl _)
  · rw [Nat.min_eq_right h, List.drop_length, List.drop_of_length_le h, List.take_nil]
/-- a list that is no bag -/
def NoInt {β : Type} (R : At β) : Prop := ∀ H n r, ¬ R H (V.int n) r
theorem noint_lot : NoInt LotAt := fun H n r ⟨_, e, _⟩ => by cases e
theorem noint_row : NoInt RowAt := fun H n r ⟨_, _, _, e, _⟩ => by cases e
theorem noint_str : NoInt StrAt := fun H n r e => by cases e
theorem ne_bag {β : Type} {R : At β} (n : NoInt R) {H : Hp} {p b a : Addr} {xs : List V} {bs : List β} (hp : H p = some (.lst xs)) (he : Each R H xs bs) (hb : Bag H b a) : p ≠ b := by
  rintro rfl
  obtain ⟨d, m, c, ns, h1, _⟩ := hb
  rw [h1] at hp
  obtain rfl := HO.lst.inj (Option.some.inj hp)
  cases he with
  | cons r t => exact n _ _ _ r
theorem ListAt.on {β : Type} {R : At β} (S : Stays R) (n : NoInt R) {H H' : Hp} {v : V} {bs : List β} {b a : Addr} (h : ListAt R H v bs) (hb : Bag H b a) (o : On b a H H') : ListAt R H' v bs := by
  obtain ⟨p, xs, e, hp, he⟩ := h
  exact ⟨p, xs, e, o.lst (ne_bag n hp he hb) hp, S.each (o.tk hb) he⟩

/-- found == due and repr(found) == repr(due), of one data -/
def spAlike (K : PySem.W.Frag) : Sp := fun vs H Q _ => ∃ (p r : Addr) (d : PyData), vs = [V.ref p, V.ref r] ∧ Dp K H (.ref p) d ∧ Dp K H (.ref r) d ∧ PyData.eqv d d = true ∧ SeqAt.shaped d = true ∧ d.showable = true ∧ d.hasDict = false ∧ d.depth ≤ 60 ∧ d.shown.length ≤ sizeLine ∧ Q (.bl true) H
/-- the things in another order -/
def spMixed (tup : Bool) : Sp := fun vs H Q _ => ∃ (b a p : Addr) (xs : List V), vs = [V.ref b, V.ref p] ∧ Bag H b a ∧ (if tup = true then H p = some (.tup xs) else p ≠ b ∧ H p = some (.lst xs)) ∧ xs.length ≤ 900 ∧ ∀ H' f zs, On b a H H' → H' f = some (.lst zs) → zs.Perm xs → Q (.ref f) H'
def spOne : Sp := fun vs H Q _ => ∃ (b a p : Addr) (xs : List V), vs = [V.ref b, V.ref p] ∧ Bag H b a ∧ p ≠ b ∧ H p = some (.lst xs) ∧ 0 < xs.length ∧ xs.length ≤ 900 ∧ ∀ H' (i : Nat) v, On b a H H' → xs[i]? = some v → Q v H'
def spLot : Sp := fun vs H Q _ => ∃ (b a : Addr) (y : V) (marks : Lot), vs = [V.ref b, y] ∧ Bag H b a ∧ LotAt H y marks ∧ SS marks ∧ marks.length ≤ 5 ∧ ∀ H' v l, On b a H H' → LotAt H' v l → Of marks l → Q v H'
def spFew : Sp := fun vs H Q _ => ∃ (b a : Addr) (y : V) (marks : Lot) (n : Nat), vs = [V.ref b, y, V.int (n : Int)] ∧ Bag H b a ∧ LotAt H y marks ∧ SS marks ∧ marks.length ≤ 5 ∧ ∀ H' v l, On b a H H' → LotAt H' v l → Of marks l → Q v H'
def spRule : Sp := fun vs H Q _ => ∃ (b a : Addr) (y : V) (marks : Lot), vs = [V.ref b, y] ∧ Bag H b a ∧ LotAt H y marks ∧ SS marks ∧ marks.length ≤ 5 ∧ ∀ H' v r, On b a H H' → RowAt H' v r → RowOf marks r → Q v H'
def spSomeRows : Sp := fun vs H Q _ => ∃ (b a : Addr) (y : V) (marks : Lot) (n : Nat), vs = [V.ref b, y, V.int (n : Int)] ∧ n ≤ 100 ∧ Bag H b a ∧ LotAt H y marks ∧ SS marks ∧ marks.length ≤ 5 ∧ ∀ H' v rows, On b a H H' → ListAt RowAt H' v rows → RowsOf marks rows → rows.length ≤ n → Q v H'
def spLTable : Sp := fun vs H Q _ => ∃ (b a : Addr) (y : V) (marks : Lot) (n : Nat), vs = [V.ref b, y, V.int (n : Int)] ∧ n ≤ 100 ∧ Bag H b a ∧ LotAt H y marks ∧ SS marks ∧ marks.length ≤ 5 ∧ ∀ H' v lots, On b a H H' → ListAt LotAt H' v lots → (∀ l ∈ lots, Of marks l) → lots.length ≤ n → Q v H'

section
variable {P : Program} {w : World} {K : PySem.W.Frag} {mg : Str → Option Value} {base : Heap}
theorem scLAlike : FnScope ["_law_found", "_law_due"] ["_law_found", "_law_due"] (defScope sLAlike) := ⟨rfl, rfl, rfl, by decide +kernel, rfl, by decide +kernel, by decide +kernel⟩
theorem ok_lAlike (T : Txt K mg) : FnG P w K mg base 1 T.lAlike.f T.lAlike.fd ["_law_found", "_law_due"] (spAlike K) := by
  refine fnG_of T.lAlike.F scLAlike (fun vs H Q h => ?_) (fun cdv A outer s H vs Q hr hgu h => ?_)
  · obtain ⟨_, _, _, rfl, _⟩ := h
    rfl
  · obtain ⟨p, r, d, rfl, h1, h2, he, hs, hw, hd, hz, hl, q⟩ := h
    refine ⟨_, pss_one (ps_ret (pe_and (pe_cmpR (op_eqD hr.units) (pv 0) (pv 1) (nomark _)) (pe_one (pe_cmpR op_eq (pe_callB (cr_repr hgu hr.units) (by rfl) T.zRepr (by decide +kernel) (pa_cons (pv 0) pa_nil)) (pe_callB (cr_repr hgu hr.units) (by rfl) T.zRepr (by decide +kernel) (pa_cons (pv 1) pa_nil)) (nomark _))))), ?_⟩
    refine ⟨_, rfl, _, rfl, d, d, h1, h2, hs, hs, true, by rw [he], iteT ?_⟩
    refine ⟨_, rfl, p, d, rfl, h1, hw, hd, hz, hl, _, rfl, r, d, rfl, h2, hw, hd, hz, hl, rfl, ?_⟩
    have e : decide (V.str d.shown = V.str d.shown) = true := decide_eq_true rfl
    rw [e]
    exact q

theorem scLMixed : FnScope ["_law_bag_here", "_law_things", "_law_found", "_law_thing"] ["_law_bag_here", "_law_things"] (defScope sLMixed) := ⟨rfl, rfl, rfl, by decide +kernel, rfl, by decide +kernel, by decide +kernel⟩
theorem perm_ins (xs : List V) (x : V) (i : Nat) {ys : List V} (h : xs.Perm ys) : (xs.take i ++ [x] ++ xs.drop i).Perm (ys ++ [x]) := by
  have e : (xs.take i ++ [x] ++ xs.drop i).Perm (xs ++ [x]) := by
    rw [List.append_assoc]
    have h2 : ([x] ++ xs.drop i).Perm (xs.drop i ++ [x]) := List.perm_append_comm
    have h3 := h2.append_left (xs.take i)
    have e4 : xs.take i ++ (xs.drop i ++ [x]) = xs ++ [x] := by rw [← List.append_assoc, List.take_append_drop]
    rw [e4] at h3
    exact h3
  exact e.trans (h.append_right [x])
theorem ok_lMixedT (T : Txt K mg) : FnOk P w K mg base CX0 2 T.lMixed.f T.lMixed.fd ["_law_bag_here", "_law_things"] (spMixed true) := by
  have G : FnOk P w K mg base CX0 1 T.lTake.f T.lTake.fd ["_law_bag_here", "_law_many"] spTake := ok_lTake T
  refine T.lMixed.F.ok scLMixed (fun vs H Q E h => ?_) (fun cdv A outer s H vs Q E hr h => ?_)
  · obtain ⟨_, _, _, _, rfl, _⟩ := h
    rfl
  · obtain ⟨b, a, p, xs, rfl, hb, hp, hl, q⟩ := h
    rw [if_pos rfl] at hp
    refine ⟨_, pss_cons (ps_set (i := 2) scLMixed.nd rfl (Or.inl rfl) (pe_lst pa_nil))
      (pss_cons (ps_for PassesOwn.never rfl (pi_tup (pv 1)) (pg_name (i := 3) scLMixed.nd rfl (Or.inl rfl))
        (pss_one (ps_expr (pe_bm PySem.F.plainAttrs_list PySem.F.slot_list_insert PySem.F.type_list_insert mt_insert (pv 2) (pa_cons (pe_d T.lTake G hr (pa_cons (pv 0) (pa_cons (pe_op op_add (pe_callB call_len2 (by rfl) T.zLen PySem.boot_len (pa_cons (pv 2) pa_nil)) pe_int) pa_nil))) (pa_cons (pv 3) pa_nil))))))
      (pss_one (ps_ret (pv 2)))), ?_⟩
    refine ⟨Nat.zero_le _, fun f hf => ?_⟩
    have o1 : On b a H (upd H f (.lst [])) := on_g0 hb hf
    have nfb : f ≠ b := by
      obtain ⟨ys, e⟩ := hb.lst
      exact (ne_of_none e hf).symm
    refine ⟨_, rfl, p, rfl, ⟨_, SqT.of (o1.tup hb hp)⟩, for_tup (K := K) (a := p) (xs := xs) (fun i σ H' => ∃ (tv : Option V) (ys : List V), σ = [some (.ref b), some (.ref p), some (.ref f), tv] ∧ On b a H H' ∧ H' f = some (.lst ys) ∧ ys.Perm (xs.take i))
      ⟨none, [], rfl, o1, upd_same, List.Perm.refl _⟩ (fun i σ H' _ ⟨_, _, _, o, _⟩ => SqT.of (o.tup hb hp)) ?_ ?_⟩
    · rintro i x σ H' hx ⟨tv, ys, rfl, o, hF, pm⟩
      have yl : ys.length ≤ 900 := by
        rw [pm.length_eq]
        exact Nat.le_trans (List.length_take_le' _ _) hl
      refine ⟨_, rfl, .inl ⟨rfl, _, SqL.of hF⟩, _, rfl, _, rfl, f, _, rfl, .inl hF, _, _, rfl, rfl, b, a, _, rfl, o.bag, by omega, by omega, fun H2 v o2 h0 h1 => ⟨_, rfl, ?_⟩⟩
      have hF2 := o2.lst nfb hF
      refine ⟨f, ys, v, x, rfl, rfl, hF2, small_line (by omega), h0, by omega, ?_⟩
      refine ⟨some x, _, rfl, (o.trans o2).put hb hf, upd_same, ?_⟩
      rw [take_snoc hx]
      exact perm_ins ys x v.toNat pm
    · rintro σ H' ⟨tv, ys, rfl, o, hF, pm⟩
      rw [List.take_length] at pm
      exact ⟨_, rfl, q _ f ys o hF pm⟩
theorem ok_lMixedL (T : Txt K mg) : FnOk P w K mg base CX0 2 T.lMixed.f T.lMixed.fd ["_law_bag_here", "_law_things"] (spMixed false) := by
  have G : FnOk P w K mg base CX0 1 T.lTake.f T.lTake.fd ["_law_bag_here", "_law_many"] spTake := ok_lTake T
  refine T.lMixed.F.ok scLMixed (fun vs H Q E h => ?_) (fun cdv A outer s H vs Q E hr h => ?_)
  · obtain ⟨_, _, _, _, rfl, _⟩ := h
    rfl
  · obtain ⟨b, a, p, xs, rfl, hb, hp, hl, q⟩ := h
    rw [if_neg (by decide)] at hp
    obtain ⟨npb, hp⟩ := hp
    refine ⟨_, pss_cons (ps_set (i := 2) scLMixed.nd rfl (Or.inl rfl) (pe_lst pa_nil))
      (pss_cons (ps_for PassesOwn.never rfl (pi_list (pv 1)) (pg_name (i := 3) scLMixed.nd rfl (Or.inl rfl))
        (pss_one (ps_expr (pe_bm PySem.F.plainAttrs_list PySem.F.slot_list_insert PySem.F.type_list_insert mt_insert (pv 2) (pa_cons (pe_d T.lTake G hr (pa_cons (pv 0) (pa_cons (pe_op op_add (pe_callB call_len2 (by rfl) T.zLen PySem.boot_len (pa_cons (pv 2) pa_nil)) pe_int) pa_nil))) (pa_cons (pv 3) pa_nil))))))
      (pss_one (ps_ret (pv 2)))), ?_⟩
    refine ⟨Nat.zero_le _, fun f hf => ?_⟩
    have o1 : On b a H (upd H f (.lst [])) := on_g0 hb hf
    have nfb : f ≠ b := by
      obtain ⟨ys, e⟩ := hb.lst
      exact (ne_of_none e hf).symm
    refine ⟨_, rfl, p, rfl, ⟨_, SqL.of (o1.lst npb hp)⟩, for_list (K := K) (a := p) (xs := xs) (fun i σ H' => ∃ (tv : Option V) (ys : List V), σ = [some (.ref b), some (.ref p), some (.ref f), tv] ∧ On b a H H' ∧ H' f = some (.lst ys) ∧ ys.Perm (xs.take i))
      ⟨none, [], rfl, o1, upd_same, List.Perm.refl _⟩ (fun i σ H' _ ⟨_, _, _, o, _⟩ => SqL.of (o.lst npb hp)) ?_ ?_⟩
    · rintro i x σ H' hx ⟨tv, ys, rfl, o, hF, pm⟩
      have yl : ys.length ≤ 900 := by
        rw [pm.length_eq]
        exact Nat.le_trans (List.length_take_le' _ _) hl
      refine ⟨_, rfl, .inl ⟨rfl, _, SqL.of hF⟩, _, rfl, _, rfl, f, _, rfl, .inl hF, _, _, rfl, rfl, b, a, _, rfl, o.bag, by omega, by omega, fun H2 v o2 h0 h1 => ⟨_, rfl, ?_⟩⟩
      have hF2 := o2.lst nfb hF
      refine ⟨f, ys, v, x, rfl, rfl, hF2, small_line (by omega), h0, by omega, ?_⟩
      refine ⟨some x, _, rfl, (o.trans o2).put hb hf, upd_same, ?_⟩
      rw [take_snoc hx]
      exact perm_ins ys x v.toNat pm
    · rintro σ H' ⟨tv, ys, rfl, o, hF, pm⟩
      rw [List.take_length] at pm
      exact ⟨_, rfl, q _ f ys o hF pm⟩

theorem scLOne : FnScope ["_law_bag_here", "_law_things"] ["_law_bag_here", "_law_things"] (defScope sLOne) := ⟨rfl, rfl, rfl, by decide +kernel, rfl, by decide +kernel, by decide +kernel⟩
theorem ok_lOne (T : Txt K mg) : FnOk P w K mg base CX0 2 T.lOne.f T.lOne.fd ["_law_bag_here", "_law_things"] spOne := by
  have G : FnOk P w K mg base CX0 1 T.lTake.f T.lTake.fd ["_law_bag_here", "_law_many"] spTake := ok_lTake T
  refine T.lOne.F.ok scLOne (fun vs H Q E h => ?_) (fun cdv A outer s H vs Q E hr h => ?_)
  · obtain ⟨_, _, _, _, rfl, _⟩ := h
    rfl
  · obtain ⟨b, a, p, xs, rfl, hb, npb, hp, h0, hl, q⟩ := h
    refine ⟨_, pss_one (ps_ret (pe_ix ixr_list (pv 1) (pe_d T.lTake G hr (pa_cons (pv 0) (pa_cons (pe_callB call_len2 (by rfl) T.zLen PySem.boot_len (pa_cons (pv 1) pa_nil)) pa_nil))) (fun _ _ => rfl))), ?_⟩
    refine ⟨_, rfl, _, rfl, _, rfl, p, xs, rfl, .inl hp, b, a, _, rfl, hb, by omega, by omega, fun H2 v o2 g0 g1 => ?_⟩
    have hi : v.toNat < xs.length := by omega
    have ev : v = ((v.toNat : Nat) : Int) := by omega
    refine ⟨p, xs, v.toNat, xs[v.toNat], rfl, congrArg V.int ev, o2.lst npb hp, List.getElem?_eq_getElem hi, q H2 v.toNat _ o2 (List.getElem?_eq_getElem hi)⟩

theorem scLLot : FnScope ["_law_bag_here", "_law_marks_here", "_law_mark"] ["_law_bag_here", "_law_marks_here"] (defScope sLLot) := ⟨rfl, rfl, rfl, by decide +kernel, rfl, by decide +kernel, by decide +kernel⟩
theorem ok_lLot (T : Txt K mg) : FnOk P w K mg base CX0 2 T.lLot.f T.lLot.fd ["_law_bag_here", "_law_marks_here"] spLot := by
  have G : FnOk P w K mg base CX0 1 T.lTake.f T.lTake.fd ["_law_bag_here", "_law_many"] spTake := ok_lTake T
  refine T.lLot.F.ok scLLot (fun vs H Q E h => ?_) (fun cdv A outer s H vs Q E hr h => ?_)
  · obtain ⟨_, _, _, _, rfl, _⟩ := h
    rfl
  · obtain ⟨b, a, _, marks, rfl, hb, ⟨p, rfl, hp⟩, hs, hl, q⟩ := h
    refine ⟨_, pss_one (ps_ret (pe_callTy call_tuple_of (by rfl) T.zTuple (by decide +kernel) (pa_cons (pe_lc (own := [("_law_mark", 2)]) (g := gName 2) rfl scLLot.nd (pi_tup (pv 1)) (blkOk_by (N := ["_law_bag_here", "_law_marks_here", "_law_mark"]) (sc := defScope sLLot) (by decide +kernel))
      (fun _ _ _ _ _ => pg_name (i := 2) scLLot.nd rfl (Or.inl rfl)) (fun _ _ _ _ _ => pts_one (pt_cmp (pc_eqI (pe_d T.lTake G hr (pa_cons (pv 0) (pa_cons pe_int pa_nil))) pe_int))) (fun _ _ _ _ _ => pv 2)) pa_nil))), ?_⟩
    refine ⟨_, rfl, p, rfl, ⟨_, SqT.of hp⟩, fun D hD => lcg_tup (xs := marks.map V.str) (On b a H) StrAt (fun i cs => cs.Sublist (marks.take i)) stays_str (by rw [List.length_map]; exact small_line (by omega)) (on_g0 hb hD) (on_gD hb hD) (fun H' k => SqT.of (k.tup hb hp)) (List.nil_sublist _) ?_ ?_⟩
    · intro i x hx H' cs KY KN go hac pc ky kn
      obtain ⟨m, hm, rfl⟩ := strs_get hx
      have nDb : D ≠ b := by
        obtain ⟨ys, e⟩ := hb.lst
        exact (ne_of_none e hD).symm
      refine ⟨rfl, _, rfl, b, a, 2, rfl, go.bag, by decide, by decide, fun H2 v o2 g0 g1 => ⟨_, _, rfl, rfl, _, rfl, ?_⟩⟩
      have kp : H2 D = H' D := by
        obtain ⟨ac, e⟩ := hac
        rw [e]
        exact o2.lst nDb e
      refine ite2 (fun c => ?_) (fun c => ?_)
      · refine ⟨_, rfl, ky m _ _ ?_ (go.trans o2) (o2.tk go.bag) kp rfl⟩
        show (cs ++ [m]).Sublist _
        rw [take_snoc hm]
        exact pc.append (List.Sublist.refl _)
      · refine kn _ ?_ (go.trans o2) (o2.tk go.bag) kp
        show cs.Sublist _
        rw [take_snoc hm]
        exact pc.trans (List.sublist_append_left _ _)
    · intro H' acc cs go hA he pc
      rw [strs_of he] at hA
      rw [List.length_map, List.take_length] at pc
      refine ⟨D, _, rfl, .inl ⟨SqL.of hA, fun l hl2 => q _ _ cs (go.same (same_new hl2)) ⟨l, rfl, upd_same⟩ ⟨hs.sublist pc, fun m hm => pc.subset hm⟩⟩⟩

theorem scLFew : FnScope ["_law_bag_here", "_law_marks_here", "_law_many"] ["_law_bag_here", "_law_marks_here", "_law_many"] (defScope sLFew) := ⟨rfl, rfl, rfl, by decide +kernel, rfl, by decide +kernel, by decide +kernel⟩
theorem ok_lFew (T : Txt K mg) : FnOk P w K mg base CX0 3 T.lFew.f T.lFew.fd ["_law_bag_here", "_law_marks_here", "_law_many"] spFew := by
  have G : FnOk P w K mg base CX0 2 T.lMixed.f T.lMixed.fd ["_law_bag_here", "_law_things"] (spMixed true) := ok_lMixedT T
  refine T.lFew.F.ok scLFew (fun vs H Q E h => ?_) (fun cdv A outer s H vs Q E hr h => ?_)
  · obtain ⟨_, _, _, _, _, rfl, _⟩ := h
    rfl
  · obtain ⟨b, a, _, marks, n, rfl, hb, ⟨p, rfl, hp⟩, hs, hl, q⟩ := h
    refine ⟨_, pss_one (ps_ret (pe_callTy call_tuple_of (by rfl) T.zTuple (by decide +kernel) (pa_cons (pe_callB (cr_srt hr.units) (by rfl) T.zSorted (by decide +kernel) (pa_cons (pe_slice sl_list (pe_d T.lMixed G hr (pa_cons (pv 0) (pa_cons (pv 1) pa_nil))) po_none (po_some (pv 2))) pa_nil)) pa_nil))), ?_⟩
    refine ⟨_, rfl, _, rfl, b, a, p, marks.map V.str, rfl, hb, (if_pos rfl).mpr hp, by rw [List.length_map]; omega, fun H1 f zs o1 hf pm => ?_⟩
    obtain ⟨ms, pm2, hms⟩ := paired_perm pm.symm (paired_strs marks)
    obtain rfl := strs_paired hms
    refine ⟨_, rfl, n, rfl, f, _, rfl, SqL.of hf, fun p2 hp2 => ⟨p2, ms.take n, rfl, SqL.of ?_, fun p3 hp3 => ⟨p3, _, rfl, .inl ⟨SqL.of upd_same, fun p4 hp4 => ?_⟩⟩⟩⟩
    · rw [upd_same, cut_to, List.map_take]
    · refine q _ _ (srt (ms.take n)) (((o1.same (same_new hp2)).same (same_new hp3)).same (same_new hp4)) ⟨p4, rfl, upd_same⟩ ⟨srt_ss (((pm2.nodup_iff).mp hs.nodup).sublist (List.take_sublist _ _)), fun m hm => ?_⟩
      exact pm2.mem_iff.mpr (List.mem_of_mem_take (srt_mem.mp hm))

theorem scLRule : FnScope ["_law_bag_here", "_law_marks_here", "_law_way", "_law_ahead"] ["_law_bag_here", "_law_marks_here"] (defScope sLRule) := ⟨rfl, rfl, rfl, by decide +kernel, rfl, by decide +kernel, by decide +kernel⟩
theorem nat_of {v n : Int} (h0 : 0 ≤ v) (h1 : v < n) : ∃ k : Nat, v = (k : Int) ∧ k < n.toNat := ⟨v.toNat, by omega, by omega⟩
theorem ok_lRule (T : Txt K mg) : FnOk P w K mg base CX0 4 T.lRule.f T.lRule.fd ["_law_bag_here", "_law_marks_here"] spRule := by
  have G : FnOk P w K mg base CX0 1 T.lTake.f T.lTake.fd ["_law_bag_here", "_law_many"] spTake := ok_lTake T
  have GL : FnOk P w K mg base CX0 2 T.lLot.f T.lLot.fd ["_law_bag_here", "_law_marks_here"] spLot := ok_lLot T
  have GF : FnOk P w K mg base CX0 3 T.lFew.f T.lFew.fd ["_law_bag_here", "_law_marks_here", "_law_many"] spFew := ok_lFew T
  refine T.lRule.F.ok scLRule (fun vs H Q E h => ?_) (fun cdv A outer s H vs Q E hr h => ?_)
  · obtain ⟨_, _, _, _, rfl, _⟩ := h
    rfl
  · obtain ⟨b, a, y, marks, rfl, hb, hy, hs, hl, q⟩ := h
    have r1 : Room 1 _ := hr.mono (by decide)
    have r2 : Room 2 _ := hr.mono (by decide)
    refine ⟨_, pss_cons (ps_set (i := 2) scLRule.nd rfl (Or.inl rfl) (pe_d T.lTake G r1 (pa_cons (pv 0) (pa_cons pe_int pa_nil))))
      (pss_cons (ps_if (pt_cmp (pc_eqI (pv 2) pe_int)) (pss_one (ps_ret (pe_tup (pa_cons (pe_d T.lLot GL r2 (pa_cons (pv 0) (pa_cons (pv 1) pa_nil))) (pa_cons (pe_d T.lLot GL r2 (pa_cons (pv 0) (pa_cons (pv 1) pa_nil))) pa_nil))))) pss_nil)
      (pss_cons (ps_set (i := 3) scLRule.nd rfl (Or.inl rfl) (pe_d T.lFew GF hr (pa_cons (pv 0) (pa_cons (pv 1) (pa_cons (pe_ix ixr_list (pe_lst (pa_cons pe_int (pa_cons pe_int (pa_cons pe_int (pa_cons pe_int (pa_cons pe_int (pa_cons pe_int (pa_cons pe_int (pa_cons pe_int (pa_cons pe_int (pa_cons pe_int pa_nil))))))))))) (pv 2) (fun _ _ => rfl)) pa_nil)))))
      (pss_cons (ps_if (pt_cmp (pc_eqI (pv 2) pe_int)) (pss_one (ps_ret (pe_tup (pa_cons (pv 3) (pa_cons (pv 3) pa_nil))))) pss_nil)
      (pss_one (ps_ret (pe_tup (pa_cons (pv 3) (pa_cons (pe_d T.lFew GF hr (pa_cons (pv 0) (pa_cons (pv 1) (pa_cons (pe_ix ixr_list (pe_lst (pa_cons pe_int (pa_cons pe_int (pa_cons pe_int (pa_cons pe_int (pa_cons pe_int (pa_cons pe_int (pa_cons pe_int (pa_cons pe_int pa_nil))))))))) (pv 2) (fun _ _ => rfl)) pa_nil)))) pa_nil)))))))), ?_⟩
    refine ⟨_, rfl, b, a, 10, rfl, hb, by decide, by decide, fun H1 v o1 g0 g1 => ?_⟩
    obtain ⟨k, rfl, hk⟩ := nat_of g0 g1
    have hk : k < 10 := hk
    have hy1 := hy.tk (o1.tk hb)
    have fin : ∀ {H2 : Hp} (x z : V) (l1 l2 : Lot) (n : Addr), On b a H H2 → LotAt H2 x l1 → LotAt H2 z l2 → Of marks l1 → Of marks l2 → H2 n = none → Q (.ref n) (upd H2 n (.tup [x, z])) := fun {H2} x z l1 l2 n o hx hz k1 k2 hn =>
      q _ _ (l1, l2) (o.same (same_new hn)) ⟨n, x, z, rfl, upd_same, hx.tk (TK.new hn), hz.tk (TK.new hn)⟩ ⟨k1, k2⟩
    refine ⟨_, rfl, _, _, rfl, rfl, _, rfl, ite2 (fun c => ?_) (fun c => ?_)⟩
    · refine ⟨_, rfl, _, rfl, b, a, y, marks, rfl, o1.bag, hy1, hs, hl, fun H2 x l1 o2 hx k1 => ?_⟩
      refine ⟨_, rfl, _, rfl, b, a, y, marks, rfl, o2.bag, hy1.tk (o2.tk o1.bag), hs, hl, fun H3 z l2 o3 hz k2 => ⟨by show 2 ≤ sizeLine; decide, fun n hn => ?_⟩⟩
      exact fin x z l1 l2 n ((o1.trans o2).trans o3) (hx.tk (o3.tk o2.bag)) hz k1 k2 hn
    · have c : ¬ (k = 8) := fun z => c (decide_eq_true (by omega))
      refine ⟨_, rfl, _, rfl, by show 10 ≤ sizeLine; decide, fun p hp => ?_⟩
      have o2 := o1.same (same_new (o := .lst [.int 0, .int 1, .int 1, .int 2, .int 2, .int 2, .int 3, .int 2, .int 0, .int 1]) hp)
      have e1 : [V.int 0, .int 1, .int 1, .int 2, .int 2, .int 2, .int 3, .int 2, .int 0, .int 1][k]? = some (V.int ((([0, 1, 1, 2, 2, 2, 3, 2, 0, 1] : List Nat).getD k 0 : Nat) : Int)) := by
        have : k = 0 ∨ k = 1 ∨ k = 2 ∨ k = 3 ∨ k = 4 ∨ k = 5 ∨ k = 6 ∨ k = 7 ∨ k = 8 ∨ k = 9 := by omega
        rcases this with e | e | e | e | e | e | e | e | e | e <;> subst e <;> rfl
      refine ⟨_, rfl, p, _, k, _, rfl, rfl, upd_same, e1, b, a, y, marks, _, rfl, o2.bag, hy1.tk (TK.new hp), hs, hl, fun H2 x l1 o3 hx k1 => ?_⟩
      have o13 := o2.trans o3
      refine ⟨_, rfl, _, _, rfl, rfl, _, rfl, ite2 (fun c2 => ?_) (fun c2 => ?_)⟩
      · exact ⟨_, rfl, _, rfl, by show 2 ≤ sizeLine; decide, fun n hn => fin x x l1 l1 n o13 hx hx k1 k1 hn⟩
      · have c2 : ¬ (k = 9) := fun z => c2 (decide_eq_true (by omega))
        refine ⟨_, rfl, _, rfl, _, rfl, by show 8 ≤ sizeLine; decide, fun p2 hp2 => ?_⟩
        have o4 := o13.same (same_new (o := .lst [.int 1, .int 1, .int 2, .int 1, .int 2, .int 1, .int 1, .int 3]) hp2)
        have e2 : [V.int 1, .int 1, .int 2, .int 1, .int 2, .int 1, .int 1, .int 3][k]? = some (V.int ((([1, 1, 2, 1, 2, 1, 1, 3] : List Nat).getD k 0 : Nat) : Int)) := by
          have : k = 0 ∨ k = 1 ∨ k = 2 ∨ k = 3 ∨ k = 4 ∨ k = 5 ∨ k = 6 ∨ k = 7 := by omega
          rcases this with e | e | e | e | e | e | e | e <;> subst e <;> rfl
        refine ⟨_, rfl, p2, _, k, _, rfl, rfl, upd_same, e2, b, a, y, marks, _, rfl, o4.bag, hy.tk (o4.tk hb), hs, hl, fun H3 z l2 o5 hz k2 => ⟨by show 2 ≤ sizeLine; decide, fun n hn => ?_⟩⟩
        exact fin x z l1 l2 n (o4.trans o5) ((hx.tk (TK.new hp2)).tk (o5.tk o4.bag)) hz k1 k2 hn

theorem scLSomeRows : FnScope ["_law_bag_here", "_law_marks_here", "_law_many", "_law_found", "_law_k"] ["_law_bag_here", "_law_marks_here", "_law_many"] (defScope sLSomeRows) := ⟨rfl, rfl, rfl, by decide +kernel, rfl, by decide +kernel, by decide +kernel⟩
theorem ok_lSomeRows (T : Txt K mg) : FnOk P w K mg base CX0 5 T.lSomeRows.f T.lSomeRows.fd ["_law_bag_here", "_law_marks_here", "_law_many"] spSomeRows := by
  have G : FnOk P w K mg base CX0 1 T.lTake.f T.lTake.fd ["_law_bag_here", "_law_many"] spTake := ok_lTake T
  have GR : FnOk P w K mg base CX0 4 T.lRule.f T.lRule.fd ["_law_bag_here", "_law_marks_here"] spRule := ok_lRule T
  refine T.lSomeRows.F.ok scLSomeRows (fun vs H Q E h => ?_) (fun cdv A outer s H vs Q E hr h => ?_)
  · obtain ⟨_, _, _, _, _, rfl, _⟩ := h
    rfl
  · obtain ⟨b, a, y, marks, n, rfl, hn, hb, hy, hs, hl, q⟩ := h
    have r1 : Room 1 _ := hr.mono (by decide)
    refine ⟨_, pss_cons (ps_setLc (own := [("_law_k", 4)]) (g := gName 4) (tt := tYes) (i := 3) rfl scLSomeRows.nd rfl rfl (by rfl) (pi_range1 (by rfl) T.zRange (pa_cons (pe_d T.lTake G r1 (pa_cons (pv 0) (pa_cons (pe_op op_add (pv 2) pe_int) pa_nil))) pa_nil)) (blkOk_by (N := ["_law_bag_here", "_law_marks_here", "_law_many", "_law_found", "_law_k"]) (sc := defScope sLSomeRows) (by decide +kernel))
        (fun _ _ _ _ _ => pg_name (i := 4) scLSomeRows.nd rfl (Or.inl rfl)) (fun _ _ _ _ _ => pts_nil) (fun _ _ _ _ _ => pe_d T.lRule GR hr (pa_cons (pv 0) (pa_cons (pv 1) pa_nil))))
      (pss_cons (ps_if (PW.pt (pw_and (pt_cmp (pc_gt (pe_callB call_len2 (by rfl) T.zLen PySem.boot_len (pa_cons (pv 3) pa_nil)) pe_int)) (pw_and1 (pt_cmp (pc_eqI (pe_d T.lTake G r1 (pa_cons (pv 0) (pa_cons pe_int pa_nil))) pe_int)))))
          (pss_one (ps_asg (pe_ix ixr_list (pv 3) pe_int (fun _ _ => rfl)) (pg_sub (pv 3) (pe_un un_neg pe_int) set_list))) pss_nil)
      (pss_one (ps_ret (pv 3)))), ?_⟩
    refine ⟨_, rfl, _, rfl, _, _, rfl, rfl, b, a, _, rfl, hb, by omega, by omega, fun H1 v o1 g0 g1 => ?_⟩
    obtain ⟨k, rfl, hk⟩ := nat_of g0 g1
    have hk : k ≤ n := by omega
    refine ⟨_, rfl, by omega, by omega, fun D hD => lcg_range (n := k) (On b a H1) RowAt (fun i cs => (RowsOf marks cs) ∧ cs.length ≤ i) stays_row (small_line (by omega)) (on_g0 o1.bag hD) (on_gD o1.bag hD) ⟨fun r hr2 => (by cases hr2), Nat.le_refl _⟩ ?_ ?_⟩
    · intro i hi H' cs KY KN go hac pc ky kn
      have nDb : D ≠ b := by
        obtain ⟨ys, e⟩ := o1.bag.lst
        exact (ne_of_none e hD).symm
      refine ⟨rfl, yes ⟨_, rfl, _, rfl, b, a, y, marks, rfl, go.bag, hy.tk ((o1.trans go).tk hb), hs, hl, fun H2 v2 r o2 hv2 hr2 => ky r _ _ ⟨?_, ?_⟩ (go.trans o2) (o2.tk go.bag) ?_ hv2⟩⟩
      · intro r' hr'
        rcases List.mem_append.mp hr' with z | z
        · exact pc.1 r' z
        · rw [List.mem_singleton.mp z]
          exact hr2
      · rw [List.length_append, List.length_singleton]
        have := pc.2
        omega
      · obtain ⟨ac, e⟩ := hac
        rw [e]
        exact o2.lst nDb e
    · intro H' acc cs go hA he pc
      have oD : On b a H H' := o1.trans go
      have nDb : D ≠ b := ne_bag noint_row hA he go.bag
      dsimp only [gName]
      refine seq_cut (fun σ2 H2 => σ2 = [some (V.ref b), some y, some (V.int (n : Int)), some (V.ref D), none] ∧ On b a H H2 ∧ ∃ rows, ListAt RowAt H2 (.ref D) rows ∧ (RowsOf marks rows) ∧ rows.length ≤ n) (fun nx' hnx => ?_) ?_
      · refine ⟨_, rfl, D, _, rfl, .inl hA, _, _, rfl, rfl, _, rfl, ite2 (fun c => ?_) (fun c => ?_)⟩
        · have c1 : 1 < acc.length := by
            have := of_decide_eq_true c
            omega
          refine ⟨_, rfl, b, a, _, rfl, go.bag, by decide, by decide, fun H2 v2 o2 h0 h1 => ⟨_, _, rfl, rfl, _, rfl, ite2 (fun c2 => ?_) (fun c2 => ?_)⟩⟩
          · have hA2 := o2.lst nDb hA
            have he2 := stays_row.each (o2.tk go.bag) he
            obtain ⟨r, hr2, hrow⟩ := each_get he2 (List.getElem?_eq_getElem (show 0 < acc.length by omega))
            refine ⟨_, rfl, D, acc, 0, _, rfl, rfl, hA2, List.getElem?_eq_getElem (by omega), _, rfl, _, rfl, D, acc, -1, acc.length - 1, rfl, rfl, hA2, ?_, ?_⟩
            · unfold ixN
              rw [if_neg (by decide), if_pos (by omega)]
              congr 1
              omega
            · have hn0 : H D = none := by
                cases hc : H D with
                | none => rfl
                | some o =>
                  have := o1.lst nDb hc
                  rw [hD] at this
                  cases this
              have tk : TK H2 (upd H2 D (.lst (acc.set (acc.length - 1) acc[0]))) := TK.put (.inr ⟨acc, hA2⟩)
              refine hnx _ _ ⟨rfl, (oD.trans o2).put hb hn0, cs.set (acc.length - 1) r, ⟨D, _, rfl, upd_same, stays_row.each tk (each_set hrow _ he2)⟩, fun r' hr' => ?_, ?_⟩
              · rcases List.mem_or_eq_of_mem_set hr' with z | z
                · exact pc.1 r' z
                · rw [z]
                  exact pc.1 r (List.mem_of_getElem? hr2)
              · rw [List.length_set]
                have := pc.2
                omega
          · exact hnx _ _ ⟨rfl, oD.trans o2, cs, ListAt.on stays_row noint_row ⟨D, acc, rfl, hA, he⟩ go.bag o2, pc.1, by have := pc.2; omega⟩
        · exact iteF (hnx _ _ ⟨rfl, oD, cs, ⟨D, acc, rfl, hA, he⟩, pc.1, by have := pc.2; omega⟩)
      · rintro σ2 H2 ⟨rfl, o2, rows, hrows, ok, hlen⟩
        exact ⟨_, rfl, q _ _ rows o2 hrows ok hlen⟩

theorem scLTable : FnScope ["_law_bag_here", "_law_marks_here", "_law_many", "_law_found", "_law_k"] ["_law_bag_here", "_law_marks_here", "_law_many"] (defScope sLTable) := ⟨rfl, rfl, rfl, by decide +kernel, rfl, by decide +kernel, by decide +kernel⟩
theorem ok_lTable (T : Txt K mg) : FnOk P w K mg base CX0 3 T.lTable.f T.lTable.fd ["_law_bag_here", "_law_marks_here", "_law_many"] spLTable := by
  have G : FnOk P w K mg base CX0 1 T.lTake.f T.lTake.fd ["_law_bag_here", "_law_many"] spTake := ok_lTake T
  have GR : FnOk P w K mg base CX0 2 T.lLot.f T.lLot.fd ["_law_bag_here", "_law_marks_here"] spLot := ok_lLot T
  refine T.lTable.F.ok scLTable (fun vs H Q E h => ?_) (fun cdv A outer s H vs Q E hr h => ?_)
  · obtain ⟨_, _, _, _, _, rfl, _⟩ := h
    rfl
  · obtain ⟨b, a, y, marks, n, rfl, hn, hb, hy, hs, hl, q⟩ := h
    have r1 : Room 1 _ := hr.mono (by decide)
    refine ⟨_, pss_cons (ps_setLc (own := [("_law_k", 4)]) (g := gName 4) (tt := tYes) (i := 3) rfl scLTable.nd rfl rfl (by rfl) (pi_range1 (by rfl) T.zRange (pa_cons (pe_d T.lTake G r1 (pa_cons (pv 0) (pa_cons (pe_op op_add (pv 2) pe_int) pa_nil))) pa_nil)) (blkOk_by (N := ["_law_bag_here", "_law_marks_here", "_law_many", "_law_found", "_law_k"]) (sc := defScope sLTable) (by decide +kernel))
        (fun _ _ _ _ _ => pg_name (i := 4) scLTable.nd rfl (Or.inl rfl)) (fun _ _ _ _ _ => pts_nil) (fun _ _ _ _ _ => pe_d T.lLot GR hr (pa_cons (pv 0) (pa_cons (pv 1) pa_nil))))
      (pss_cons (ps_if (PW.pt (pw_and (pt_cmp (pc_gt (pe_callB call_len2 (by rfl) T.zLen PySem.boot_len (pa_cons (pv 3) pa_nil)) pe_int)) (pw_and1 (pt_cmp (pc_eqI (pe_d T.lTake G r1 (pa_cons (pv 0) (pa_cons pe_int pa_nil))) pe_int)))))
          (pss_one (ps_asg (pe_ix ixr_list (pv 3) pe_int (fun _ _ => rfl)) (pg_sub (pv 3) (pe_un un_neg pe_int) set_list))) pss_nil)
      (pss_one (ps_ret (pv 3)))), ?_⟩
    refine ⟨_, rfl, _, rfl, _, _, rfl, rfl, b, a, _, rfl, hb, by omega, by omega, fun H1 v o1 g0 g1 => ?_⟩
    obtain ⟨k, rfl, hk⟩ := nat_of g0 g1
    have hk : k ≤ n := by omega
    refine ⟨_, rfl, by omega, by omega, fun D hD => lcg_range (n := k) (On b a H1) LotAt (fun i cs => (∀ l ∈ cs, Of marks l) ∧ cs.length ≤ i) stays_lot (small_line (by omega)) (on_g0 o1.bag hD) (on_gD o1.bag hD) ⟨fun r hr2 => (by cases hr2), Nat.le_refl _⟩ ?_ ?_⟩
    · intro i hi H' cs KY KN go hac pc ky kn
      have nDb : D ≠ b := by
        obtain ⟨ys, e⟩ := o1.bag.lst
        exact (ne_of_none e hD).symm
      refine ⟨rfl, yes ⟨_, rfl, _, rfl, b, a, y, marks, rfl, go.bag, hy.tk ((o1.trans go).tk hb), hs, hl, fun H2 v2 r o2 hv2 hr2 => ky r _ _ ⟨?_, ?_⟩ (go.trans o2) (o2.tk go.bag) ?_ hv2⟩⟩
      · intro r' hr'
        rcases List.mem_append.mp hr' with z | z
        · exact pc.1 r' z
        · rw [List.mem_singleton.mp z]
          exact hr2
      · rw [List.length_append, List.length_singleton]
        have := pc.2
        omega
      · obtain ⟨ac, e⟩ := hac
        rw [e]
        exact o2.lst nDb e
    · intro H' acc cs go hA he pc
      have oD : On b a H H' := o1.trans go
      have nDb : D ≠ b := ne_bag noint_lot hA he go.bag
      dsimp only [gName]
      refine seq_cut (fun σ2 H2 => σ2 = [some (V.ref b), some y, some (V.int (n : Int)), some (V.ref D), none] ∧ On b a H H2 ∧ ∃ rows, ListAt LotAt H2 (.ref D) rows ∧ (∀ l ∈ rows, Of marks l) ∧ rows.length ≤ n) (fun nx' hnx => ?_) ?_
      · refine ⟨_, rfl, D, _, rfl, .inl hA, _, _, rfl, rfl, _, rfl, ite2 (fun c => ?_) (fun c => ?_)⟩
        · have c1 : 1 < acc.length := by
            have := of_decide_eq_true c
            omega
          refine ⟨_, rfl, b, a, _, rfl, go.bag, by decide, by decide, fun H2 v2 o2 h0 h1 => ⟨_, _, rfl, rfl, _, rfl, ite2 (fun c2 => ?_) (fun c2 => ?_)⟩⟩
          · have hA2 := o2.lst nDb hA
            have he2 := stays_lot.each (o2.tk go.bag) he
            obtain ⟨r, hr2, hrow⟩ := each_get he2 (List.getElem?_eq_getElem (show 0 < acc.length by omega))
            refine ⟨_, rfl, D, acc, 0, _, rfl, rfl, hA2, List.getElem?_eq_getElem (by omega), _, rfl, _, rfl, D, acc, -1, acc.length - 1, rfl, rfl, hA2, ?_, ?_⟩
            · unfold ixN
              rw [if_neg (by decide), if_pos (by omega)]
              congr 1
              omega
            · have hn0 : H D = none := by
                cases hc : H D with
                | none => rfl
                | some o =>
                  have := o1.lst nDb hc
                  rw [hD] at this
                  cases this
              have tk : TK H2 (upd H2 D (.lst (acc.set (acc.length - 1) acc[0]))) := TK.put (.inr ⟨acc, hA2⟩)
              refine hnx _ _ ⟨rfl, (oD.trans o2).put hb hn0, cs.set (acc.length - 1) r, ⟨D, _, rfl, upd_same, stays_lot.each tk (each_set hrow _ he2)⟩, fun r' hr' => ?_, ?_⟩
              · rcases List.mem_or_eq_of_mem_set hr' with z | z
                · exact pc.1 r' z
                · rw [z]
                  exact pc.1 r (List.mem_of_getElem? hr2)
              · rw [List.length_set]
                have := pc.2
                omega
          · exact hnx _ _ ⟨rfl, oD.trans o2, cs, ListAt.on stays_lot noint_lot ⟨D, acc, rfl, hA, he⟩ go.bag o2, pc.1, by have := pc.2; omega⟩
        · exact iteF (hnx _ _ ⟨rfl, oD, cs, ⟨D, acc, rfl, hA, he⟩, pc.1, by have := pc.2; omega⟩)
      · rintro σ2 H2 ⟨rfl, o2, rows, hrows, ok, hlen⟩
        exact ⟨_, rfl, q _ _ rows o2 hrows ok hlen⟩
end
end K5
/-! K5q: the marks drawn. -/
namespace K5
open PySem PySem.Spec PyProof.Rows L2

def goodB (m : Str) : Bool := decide (0 < m.cps.size) && decide (m.cps.size ≤ 8) && m.cps.toList.all fun c => decide (97 ≤ c) && decide (c ≤ 122)
theorem good_of {m : Str} (h : goodB m = true) : GoodM m := by
  unfold goodB at h
  simp only [Bool.and_eq_true, decide_eq_true_eq, List.all_eq_true] at h
  exact ⟨h.1.1, h.1.2, h.2⟩
def menu : Lot := Txt.split (Str.ofString "has lacks marks yes no so more strike undo redo ab abc a z zzzzzzzz things") (Str.ofString " ")
theorem menu_ok : menu.all goodB = true ∧ menu.Nodup ∧ menu.length = 16 := by decide +kernel
/-- 'aaaaaaaa'[:k + 1] -/
def aK (k : Nat) : Str := cutS (Str.ofString "aaaaaaaa") none (some (0 + (k : Int) + 1))
theorem aK_ok : ((List.range 5).map aK).all goodB = true ∧ SS ((List.range 5).map aK) := by
  unfold SS
  decide +kernel
/-- the stems -/
def stemS (j t : Nat) : Str := if j = 0 then Str.ofString "" else if j = 1 then Str.ofString "" else if j = 2 then ⟨#[97 + t]⟩ else Str.ofString "zzzzzzz"
def sK (s : Str) (t k : Nat) : Str := s ++ ⟨#[97 + (t + 3 * k) % 26]⟩
theorem sK_ok : ∀ j, j < 4 → ∀ t, t < 16 → (((List.range 5).map (sK (stemS j t) t)).all goodB = true ∧ ((List.range 5).map (sK (stemS j t) t)).Nodup) := by decide +kernel
theorem letters_at : ∀ j, j < 26 → atI (Str.ofString "abcdefghijklmnopqrstuvwxyz").cps.toList ((j : Nat) : Int) = some (97 + j) := by decide +kernel
def spLMarks : Sp := fun vs H Q _ => ∃ (b a : Addr) (n : Nat), vs = [V.ref b, V.int (n : Int)] ∧ n ≤ 5 ∧ Bag H b a ∧ ∀ H' v marks, On b a H H' → LotAt H' v marks → Good marks → Q v H'
theorem range_pre {n m : Nat} (h : n ≤ m) : (List.range n).Sublist (List.range m) := List.range_sublist.mpr h
section
variable {P : Program} {w : World} {K : PySem.W.Frag} {mg : Str → Option Value} {base : Heap}
theorem scLMarks : FnScope ["_law_bag_here", "_law_many", "_law_menu", "_law_way", "_law_turn", "_law_letters", "_law_stem", "_law_k"] ["_law_bag_here", "_law_many"] (defScope sLMarks) := ⟨rfl, rfl, rfl, by decide +kernel, rfl, by decide +kernel, by decide +kernel⟩
theorem ok_lMarks (T : Txt K mg) : FnOk P w K mg base CX0 2 T.lMarks.f T.lMarks.fd ["_law_bag_here", "_law_many"] spLMarks := by
  have G : FnOk P w K mg base CX0 1 T.lTake.f T.lTake.fd ["_law_bag_here", "_law_many"] spTake := ok_lTake T
  refine T.lMarks.F.ok scLMarks (fun vs H Q E h => ?_) (fun cdv A outer s H vs Q E hr h => ?_)
  · obtain ⟨_, _, _, rfl, _⟩ := h
    rfl
  · obtain ⟨b, a, n, rfl, hn, hb, q⟩ := h
    have nd := scLMarks.nd
    refine ⟨_, pss_cons (ps_set (i := 2) nd rfl (Or.inl rfl) (pe_split pe_str pe_str))
      (pss_cons (ps_asg (pe_tup (pa_cons (pe_d T.lTake G hr (pa_cons (pv 0) (pa_cons pe_int pa_nil))) (pa_cons (pe_d T.lTake G hr (pa_cons (pv 0) (pa_cons pe_int pa_nil))) pa_nil))) (pg_tup rfl (pgs_cons (pg_name (i := 3) nd rfl (Or.inl rfl)) (pgs_cons (pg_name (i := 4) nd rfl (Or.inr rfl)) pgs_nil))))
      (pss_cons (ps_if (pt_cmp (pc_eqI (pv 3) pe_int)) (pss_one (ps_ret (pe_callTy call_tuple_of (by rfl) T.zTuple (by decide +kernel) (pa_cons (pe_callB (cr_srt hr.units) (by rfl) T.zSorted (by decide +kernel) (pa_cons
          (pe_slice sl_list (pe_op op_cat (pe_slice sl_list (pv 2) (po_some (pv 4)) po_none) (pe_slice sl_list (pv 2) po_none (po_some (pv 4)))) po_none (po_some (pv 1))) pa_nil)) pa_nil)))) pss_nil)
      (pss_cons (ps_if (pt_cmp (pc_eqI (pv 3) pe_int)) (pss_one (ps_ret (pe_callTy call_tuple_of (by rfl) T.zTuple (by decide +kernel) (pa_cons
          (pe_lc (own := [("_law_k", 7)]) (g := gName 7) (tt := tYes) rfl nd (pi_range1 (by rfl) T.zRange (pa_cons (pv 1) pa_nil)) (blkOk_by (N := ["_law_bag_here", "_law_many", "_law_menu", "_law_way", "_law_turn", "_law_letters", "_law_stem", "_law_k"]) (sc := defScope sLMarks) (by decide +kernel))
            (fun _ _ _ _ _ => pg_name (i := 7) nd rfl (Or.inl rfl)) (fun _ _ _ _ _ => pts_nil) (fun _ _ _ _ _ => pe_slice sl_str pe_str po_none (po_some (pe_op op_add (pv 7) pe_int)))) pa_nil)))) pss_nil)
      (pss_cons (ps_set (i := 5) nd rfl (Or.inr rfl) pe_str)
      (pss_cons (ps_set (i := 6) nd rfl (Or.inr rfl) (pe_ix ixr_list (pe_lst (pa_cons pe_str (pa_cons pe_str (pa_cons (pe_ix ix_str (pv 5) (pv 4) (fun _ _ => rfl)) (pa_cons pe_str pa_nil))))) (pe_op op_sub (pv 3) pe_int) (fun _ _ => rfl)))
      (pss_one (ps_ret (pe_callTy call_tuple_of (by rfl) T.zTuple (by decide +kernel) (pa_cons (pe_callB (cr_srt hr.units) (by rfl) T.zSorted (by decide +kernel) (pa_cons
          (pe_lc (own := [("_law_k", 7)]) (g := gName 7) (tt := tYes) rfl nd (pi_range1 (by rfl) T.zRange (pa_cons (pv 1) pa_nil)) (blkOk_by (N := ["_law_bag_here", "_law_many", "_law_menu", "_law_way", "_law_turn", "_law_letters", "_law_stem", "_law_k"]) (sc := defScope sLMarks) (by decide +kernel))
            (fun _ _ _ _ _ => pg_name (i := 7) nd rfl (Or.inl rfl)) (fun _ _ _ _ _ => pts_nil) (fun _ _ _ _ _ => pe_op op_add_str (pv 6) (pe_ix ix_str (pv 5) (pe_op op_modN (pe_callTy call_int1 (by rfl) T.zInt (by decide +kernel) (pa_cons (pe_op op_add (pv 4) (pe_op op_mul pe_int (pv 7))) pa_nil)) pe_int) (fun _ _ => rfl)))) pa_nil)) pa_nil))))))))), ?_⟩
    have w3 : (26 : Int) ≠ 0 := by decide
    refine ⟨⟨_, rfl⟩, _, _, rfl, rfl, by decide +kernel, by decide +kernel, fun mp hmp => ?_⟩
    have o0 : On b a H (upd H mp (.lst (menu.map V.str))) := On.of hb (same_new hmp)
    have nmb : mp ≠ b := by
      obtain ⟨ys, e⟩ := hb.lst
      exact (ne_of_none e hmp).symm
    refine ⟨_, rfl, b, a, 5, rfl, o0.bag, by decide, by decide, fun H1 v1 o1 g0 g1 => ⟨_, rfl, b, a, 16, rfl, o1.bag, by decide, by decide, fun H2 v2 o2 k0 k1 => ?_⟩⟩
    obtain ⟨way, rfl, hway⟩ := nat_of g0 g1
    obtain ⟨t, rfl, ht⟩ := nat_of k0 k1
    have hway : way < 5 := hway
    have ht : t < 16 := ht
    refine ⟨by show 2 ≤ sizeLine; decide, fun tp htp => ⟨tp, _, rfl, SqT.of upd_same, rfl, _, _, rfl, _, [], rfl, rfl, ?_⟩⟩
    have o12 := (o0.trans o1).trans o2
    have o3 := o12.same (same_new (o := .tup [.int (way : Int), .int (t : Int)]) htp)
    have hmenu : upd H2 tp (.tup [.int (way : Int), .int (t : Int)]) mp = some (.lst (menu.map V.str)) := same_new htp _ _ (o2.lst nmb (o1.lst nmb upd_same))
    generalize upd H2 tp (.tup [.int (way : Int), .int (t : Int)]) = H3 at o3 hmenu
    obtain ⟨mall, mnd, mlen⟩ := menu_ok
    refine ⟨_, rfl, _, _, rfl, rfl, _, rfl, ite2 (fun c => ?_) (fun c => ?_)⟩
    · refine ⟨_, rfl, _, rfl, _, rfl, mp, _, rfl, SqL.of hmenu, fun p1 hp1 => ?_⟩
      have s1 := same_new (o := .lst (cutV (menu.map V.str) (some (t : Int)) none)) hp1
      refine ⟨_, rfl, _, rfl, _, rfl, mp, _, rfl, SqL.of (s1 _ _ hmenu), fun p2 hp2 => ?_⟩
      have s2 := same_new (o := .lst (cutV (menu.map V.str) none (some (t : Int)))) hp2
      refine ⟨p1, p2, menu.map V.str |>.drop t, menu.map V.str |>.take t, rfl, rfl, s2 _ _ (by rw [upd_same, cut_from]), by rw [upd_same, cut_to], ?_, fun p3 hp3 => ?_⟩
      · rw [List.length_drop, List.length_take, List.length_map, mlen]
        exact Nat.le_of_lt (small_line (by omega))
      · have em : (menu.map V.str).drop t ++ (menu.map V.str).take t = (menu.drop t ++ menu.take t).map V.str := by rw [List.map_append, List.map_drop, List.map_take]
        rw [em]
        refine ⟨_, rfl, n, rfl, p3, _, rfl, SqL.of upd_same, fun p4 hp4 => ⟨p4, (menu.drop t ++ menu.take t).take n, rfl, SqL.of ?_, fun p5 hp5 => ⟨p5, _, rfl, .inl ⟨SqL.of upd_same, fun p6 hp6 => ?_⟩⟩⟩⟩
        · rw [upd_same, cut_to, List.map_take]
        · have ndr : (menu.drop t ++ menu.take t).Nodup := by
            have pm : (menu.drop t ++ menu.take t).Perm (menu.take t ++ menu.drop t) := List.perm_append_comm
            rw [List.take_append_drop] at pm
            exact pm.nodup_iff.mpr mnd
          refine q _ _ (srt ((menu.drop t ++ menu.take t).take n)) ((((((o3.same s1).same s2).same (same_new hp3)).same (same_new hp4)).same (same_new hp5)).same (same_new hp6)) ⟨p6, rfl, upd_same⟩ ⟨srt_ss (ndr.sublist (List.take_sublist _ _)), ?_, fun m hm => ?_⟩
          · rw [srt_len]
            exact Nat.le_trans (List.length_take_le _ _) hn
          · have h1 := List.mem_of_mem_take (srt_mem.mp hm)
            have h2 : m ∈ menu := by
              rcases List.mem_append.mp h1 with z | z
              · exact List.mem_of_mem_drop z
              · exact List.mem_of_mem_take z
            exact good_of (List.all_eq_true.mp mall m h2)
    · have c0 : ¬ way = 0 := fun z => c (decide_eq_true (by omega))
      refine ⟨_, rfl, _, _, rfl, rfl, _, rfl, ite2 (fun c1 => ?_) (fun c1 => ?_)⟩
      · refine ⟨_, rfl, _, rfl, by omega, by omega, fun D hD => lcg_range (n := n) (On b a H3) StrAt (fun i cs => cs = (List.range i).map aK) stays_str (small_line (by omega)) (on_g0 o3.bag hD) (on_gD o3.bag hD) rfl ?_ ?_⟩
        · intro i hi H' cs KY KN go hac pc ky kn
          refine ⟨rfl, yes ⟨_, rfl, _, _, rfl, rfl, _, rfl, _, rfl, by decide +kernel, ky (aK i) _ _ ?_ go (TK.refl _) rfl rfl⟩⟩
          show cs ++ _ = _
          rw [pc, List.range_succ, List.map_append]
          rfl
        · intro H' acc cs go hA he pc
          rw [strs_of he] at hA
          refine ⟨D, _, rfl, .inl ⟨SqL.of hA, fun l hl => q _ _ cs ((o3.trans go).same (same_new hl)) ⟨l, rfl, upd_same⟩ ?_⟩⟩
          have sub : cs.Sublist ((List.range 5).map aK) := by rw [pc]; exact (range_pre hn).map _
          refine ⟨aK_ok.2.sublist sub, ?_, fun m hm => good_of (List.all_eq_true.mp aK_ok.1 m (sub.subset hm))⟩
          rw [pc, List.length_map, List.length_range]
          exact hn
      · have c1 : ¬ way = 1 := fun z => c1 (decide_eq_true (by omega))
        obtain ⟨j, rfl⟩ : ∃ j, way = j + 1 := ⟨way - 1, by omega⟩
        have hj : j < 4 := by omega
        have eL := letters_at t (by omega)
        refine ⟨_, rfl, _, rfl, _, t, _, rfl, rfl, by decide +kernel, eL, by show 4 ≤ sizeLine; decide, fun p hp => ?_⟩
        have o4 := o3.same (same_new (o := .lst [V.str (Str.ofString ""), V.str (Str.ofString ""), V.str ⟨#[97 + t]⟩, V.str (Str.ofString "zzzzzzz")]) hp)
        have eS : [V.str (Str.ofString ""), V.str (Str.ofString ""), V.str ⟨#[97 + t]⟩, V.str (Str.ofString "zzzzzzz")][j]? = some (V.str (stemS j t)) := by
          have : j = 0 ∨ j = 1 ∨ j = 2 ∨ j = 3 := by omega
          rcases this with e | e | e | e <;> subst e <;> rfl
        refine ⟨_, rfl, _, _, rfl, rfl, p, _, j, _, rfl, congrArg V.int (by omega), upd_same, eS, ?_⟩
        have kS : (stemS j t).length ≤ 7 := by
          have : j = 0 ∨ j = 1 ∨ j = 2 ∨ j = 3 := by omega
          rcases this with e | e | e | e <;> subst e
          · exact Nat.zero_le _
          · exact Nat.zero_le _
          · show 1 ≤ 7; decide
          · show (Str.ofString "zzzzzzz").length ≤ 7; decide +kernel
        obtain ⟨sall, snd⟩ := sK_ok j hj t ht
        refine ⟨_, rfl, _, rfl, by omega, by omega, fun D hD => lcg_range (n := n) (On b a _) StrAt (fun i cs => cs = (List.range i).map (sK (stemS j t) t)) stays_str (small_line (by omega)) (on_g0 o4.bag hD) (on_gD o4.bag hD) rfl ?_ ?_⟩
        · intro i hi H' cs KY KN go hac pc ky kn
          have e1 : (((t : Int) + 3 * (0 + (i : Int))).fmod 26) = (((t + 3 * i) % 26 : Nat) : Int) := by
            rw [Int.fmod_eq_emod_of_nonneg _ (by decide)]
            omega
          have eM := letters_at ((t + 3 * i) % 26) (Nat.mod_lt _ (by decide))
          refine ⟨rfl, yes ⟨_, rfl, _, rfl, _, rfl, _, rfl, _, _, rfl, rfl, .inl (by decide), _, _, rfl, rfl, .inl ⟨_, rfl, _, _, rfl, rfl, w3, _, _, _, rfl, rfl, by decide +kernel, by rw [e1]; exact eM, _, _, rfl, rfl, ?_, ky (sK (stemS j t) t i) _ _ ?_ go (TK.refl _) rfl rfl⟩⟩⟩
          · show (stemS j t).length + 1 ≤ sizeLine
            exact Nat.le_of_lt (small_line (by omega))
          · show cs ++ _ = _
            rw [pc, List.range_succ, List.map_append]
            rfl
        · intro H' acc cs go hA he pc
          rw [strs_of he] at hA
          refine ⟨D, cs, rfl, SqL.of hA, fun p5 hp5 => ⟨p5, _, rfl, .inl ⟨SqL.of upd_same, fun l hl => q _ _ (srt cs) (((o4.trans go).same (same_new hp5)).same (same_new hl)) ⟨l, rfl, upd_same⟩ ?_⟩⟩⟩
          have sub : cs.Sublist ((List.range 5).map (sK (stemS j t) t)) := by rw [pc]; exact (range_pre hn).map _
          refine ⟨srt_ss (snd.sublist sub), ?_, fun m hm => good_of (List.all_eq_true.mp sall m (sub.subset (srt_mem.mp hm)))⟩
          rw [srt_len, pc, List.length_map, List.length_range]
          exact hn
end
end K5
/-! K5r: the law's own lots, closings and ends. -/
namespace K5
open PySem PySem.Spec PyProof.Rows L2

def lsD (l : Lot) : PyData := .list (l.map .str)
theorem eqv_ls (a b : Lot) : PyData.eqv (lsD a) (lsD b) = decide (a = b) := by
  unfold lsD
  simp only [PyData.eqv]
  exact eqvAll_map eqv_str a b
theorem shaped_ls {l : Lot} (h : ∀ m ∈ l, GoodM m) : SeqAt.shaped (lsD l) = true := by
  refine shaped_mk ?_ ?_
  · unfold lsD
    simp only [PyData.canLay0]
    exact canLay_map fun m hm => goodM_lay (h m hm)
  · unfold lsD
    simp only [PyData.depth]
    have := depth_map (f := PyData.str) (n := 0) (l := l) fun m _ => by simp [PyData.depth]
    omega
/-- texts, in a tuple or in a list -/
def TextsAt : At Lot := fun H v l => ∃ p, v = V.ref p ∧ (H p = some (.tup (l.map V.str)) ∨ H p = some (.lst (l.map V.str)))
theorem TextsAt.same {H H' : Hp} {v : V} {l : Lot} (h : TextsAt H v l) (s : Same H H') : TextsAt H' v l := by
  obtain ⟨p, e, h⟩ := h
  exact ⟨p, e, h.imp (s _ _) (s _ _)⟩
theorem LotAt.texts {H : Hp} {v : V} {l : Lot} (h : LotAt H v l) : TextsAt H v l := by
  obtain ⟨a, e, q⟩ := h
  exact ⟨a, e, .inl q⟩
def spLWithin : Sp := fun vs H Q _ => ∃ x y a b, vs = [x, y] ∧ LotAt H x a ∧ TextsAt H y b ∧ (∀ m ∈ a, GoodM m) ∧ a.length ≤ 100 ∧ ∀ H', Same H H' → Q (.bl (wi a b)) H'
def spLInOrder : Sp := fun vs H Q _ => ∃ (a : Addr) (xs : List V) (ls : List Lot), vs = [V.ref a] ∧ H a = some (.lst xs) ∧ Each LotAt H xs ls ∧ (∀ l ∈ ls, l.length ≤ 1000) ∧ ls.length ≤ 1000 ∧ ∀ H' v, Same H H' → ListAt LotAt H' v (ls.mergeSort leL) → Q v H'
/-- a lot and one mark more -/
def rCat2 : R2 := fun x y H Q => ∃ a b xs ys, x = V.ref a ∧ y = V.ref b ∧ H a = some (.tup xs) ∧ H b = some (.tup ys) ∧ ys ≠ [] ∧ xs.length + ys.length ≤ sizeLine ∧ ∀ H' p, Same H H' → H' p = some (.tup (xs ++ ys)) → Q (.ref p) H'
theorem op_cat2 {X : Cx} : OpR X (binaryOp .Add) rCat2 := fun pins s σ H x y v u Q I rx ry ⟨a, b, xs, ys, ex, ey, ha, hb, hy, hz, q⟩ =>
  op_catA pins s σ H x y v u Q I rx ry ⟨a, b, xs, ys, ex, ey, SqT.of ha, SqT.of hb, hz, fun e => q _ _ (Same.refl _) (by rw [e, List.nil_append]; exact hb), fun _ e => absurd e hy, fun _ _ p hp => q _ _ (same_new hp) upd_same⟩
def spLClosing : Sp := fun vs H Q _ => ∃ (rv lv : V) (marks : Lot) (rows : List Row) (l : Lot), vs = [rv, lv] ∧ Good marks ∧ ListAt RowAt H rv rows ∧ RowsOf marks rows ∧ rows.length ≤ 100 ∧ LotAt H lv l ∧ Of marks l ∧ ∀ H' v, Same H H' → LotAt H' v (clR marks rows l) → Q v H'
def spLShared : Sp := fun vs H Q _ => ∃ (mv sv lv : V) (marks : Lot) (lots : List Lot) (l : Lot), vs = [mv, sv, lv] ∧ Good marks ∧ LotAt H mv marks ∧ ListAt LotAt H sv lots ∧ (∀ o ∈ lots, Of marks o) ∧ lots.length ≤ 100 ∧ LotAt H lv l ∧ Of marks l ∧ ∀ H' v, Same H H' → LotAt H' v (clT marks lots l) → Q v H'

section
variable {P : Program} {w : World} {K : PySem.W.Frag} {mg : Str → Option Value} {base : Heap}
theorem scLWithin : FnScope ["_law_one_here", "_law_other", "_law_mark"] ["_law_one_here", "_law_other"] (defScope sLWithin) := ⟨rfl, rfl, rfl, by decide +kernel, rfl, by decide +kernel, by decide +kernel⟩
theorem wo_nil {a b : Lot} : wo a b = [] ↔ wi a b = true := by
  rw [wi_iff]
  unfold wo
  rw [List.filter_eq_nil_iff]
  constructor
  · intro h m hm
    have := h m hm
    simpa using this
  · intro h m hm
    simpa using h m hm
theorem ok_lWithin (T : Txt K mg) : FnOk P w K mg base CX0 1 T.lWithin.f T.lWithin.fd ["_law_one_here", "_law_other"] spLWithin := by
  refine T.lWithin.F.ok scLWithin (fun vs H Q E h => ?_) (fun cdv A outer s H vs Q E hr h => ?_)
  · obtain ⟨_, _, _, _, rfl, _⟩ := h
    rfl
  · obtain ⟨_, _, a, b, rfl, ⟨p, rfl, hp⟩, ⟨r, rfl, hr2⟩, hg, hl, q⟩ := h
    refine ⟨_, pss_one (ps_ret (pe_cmpR (op_eqD hr.units) (pe_lc (own := [("_law_mark", 2)]) (g := gName 2) rfl scLWithin.nd (pi_tup (pv 0)) (blkOk_by (N := ["_law_one_here", "_law_other", "_law_mark"]) (sc := defScope sLWithin) (by decide +kernel))
      (fun _ _ _ _ _ => pg_name (i := 2) scLWithin.nd rfl (Or.inl rfl)) (fun _ _ _ _ _ => pts_one (pt_cmpR op_notMem (pv 2) (pv 1) (by rfl))) (fun _ _ _ _ _ => pv 2)) (pe_lst pa_nil) (nomark _))), ?_⟩
    refine ⟨_, rfl, p, rfl, ⟨_, SqT.of hp⟩, fun D hD => lcg_tup (xs := a.map V.str) (Same H) StrAt (fun i cs => cs = (a.take i).filter fun m => decide (m ∉ b)) stays_str (by rw [List.length_map]; exact small_line (by omega)) (same_new hD) (same_gD hD) (fun H' k => SqT.of (k _ _ hp)) rfl ?_ ?_⟩
    · intro i x hx H' cs KY KN go hac pc ky kn
      obtain ⟨m, hm, rfl⟩ := strs_get hx
      have st := filt_step (fun m => decide (m ∉ b)) hm
      refine ⟨rfl, _, rfl, _, rfl, m, r, b, rfl, rfl, hr2.imp (go _ _) (go _ _), _, rfl, ?_⟩
      refine ite2 (fun c => ?_) (fun c => ?_)
      · rw [if_pos rfl] at c
        rw [if_pos c] at st
        exact ⟨_, rfl, ky m _ _ (by show cs ++ [m] = _; rw [pc]; exact st.symm) go (TK.refl _) rfl rfl⟩
      · rw [if_pos rfl] at c
        rw [if_neg c] at st
        exact kn _ (by show cs = _; rw [pc]; exact st.symm) go (TK.refl _) rfl
    · intro H' acc cs go hA he pc
      rw [strs_of he] at hA
      rw [List.length_map, List.take_length] at pc
      have pc : cs = wo a b := pc
      refine ⟨Nat.zero_le _, fun n hn => ?_⟩
      have s2 : Same H' (upd H' n (.lst [])) := same_new hn
      refine ⟨lsD cs, lsD [], .lst (SqL.of (s2 _ _ hA)) (dpall_strs cs), .lst (SqL.of upd_same) .nil, shaped_ls fun m hm => ?_, shaped_ls fun m hm => (by cases hm), ?_⟩
      · rw [pc] at hm
        exact hg m (mem_wo.mp hm).1
      · have e : PyData.eqv (lsD cs) (lsD []) = wi a b := by
          rw [eqv_ls, pc, Bool.eq_iff_iff, decide_eq_true_eq]
          exact wo_nil
        rw [e]
        exact q _ (go.trans s2)

theorem scLInOrder : FnScope ["_law_lots", "_law_pair", "_law_lot_here"] ["_law_lots"] (defScope sLInOrder) := ⟨rfl, rfl, rfl, by decide +kernel, rfl, by decide +kernel, by decide +kernel⟩
theorem ok_lInOrder (T : Txt K mg) : FnOk P w K mg base CX0 1 T.lInOrder.f T.lInOrder.fd ["_law_lots"] spLInOrder := by
  refine T.lInOrder.F.ok scLInOrder (fun vs H Q E h => ?_) (fun cdv A outer s H vs Q E hr h => ?_)
  · obtain ⟨_, _, _, rfl, _⟩ := h
    rfl
  · obtain ⟨p, xs, ls, rfl, hp, he, hl, hlen, q⟩ := h
    refine ⟨_, pss_one (ps_ret (pe_lc (own := [("_law_pair", 1)]) (g := gName 1) (tt := tYes) rfl scLInOrder.nd (pi_list (pe_callB (cr_srtP hr.units) (by rfl) T.zSorted (by decide +kernel) (pa_cons
        (pe_lc (own := [("_law_lot_here", 2)]) (g := gName 2) (tt := tYes) rfl scLInOrder.nd (pi_list (pv 0)) (blkOk_by (N := ["_law_lots", "_law_pair", "_law_lot_here"]) (sc := defScope sLInOrder) (by decide +kernel))
          (fun _ _ _ _ _ => pg_name (i := 2) scLInOrder.nd rfl (Or.inl rfl)) (fun _ _ _ _ _ => pts_nil) (fun _ _ _ _ _ => pe_tup (pa_cons (pe_callB call_len2 (by rfl) T.zLen PySem.boot_len (pa_cons (pv 2) pa_nil)) (pa_cons (pv 2) pa_nil)))) pa_nil))) (blkOk_by (N := ["_law_lots", "_law_pair", "_law_lot_here"]) (sc := defScope sLInOrder) (by decide +kernel))
      (fun _ _ _ _ _ => pg_name (i := 1) scLInOrder.nd rfl (Or.inl rfl)) (fun _ _ _ _ _ => pts_nil) (fun _ _ _ _ _ => pe_ix ixr_tup (pv 1) pe_int (fun _ _ => rfl)))), ?_⟩
    have xl : xs.length = ls.length := he.length
    refine ⟨_, rfl, p, rfl, ⟨_, SqL.of hp⟩, fun D hD => lcg_list (xs := xs) (Same H) PairAt (fun i cs => cs = ls.take i) stays_pair (small_line (by omega)) (same_new hD) (same_gD hD) (fun H' k => SqL.of (k _ _ hp)) rfl ?_ ?_⟩
    · intro i x hx H' cs KY KN go hac pc ky kn
      obtain ⟨l, hl2, t, rfl, ht⟩ := each_get he hx
      have ht' := go _ _ ht
      refine ⟨rfl, yes ⟨_, rfl, t, _, rfl, .inr ht', _, rfl, by show 2 ≤ sizeLine; decide, fun n hn => ky l _ _ ?_ (go.trans (same_new hn)) (TK.new hn) (kept_new hac hn) ⟨n, _, rfl, by rw [upd_same, List.length_map], ⟨t, rfl, same_new hn _ _ ht'⟩⟩⟩⟩
      show cs ++ [l] = _
      rw [pc, take_snoc hl2]
    · intro H' acc cs go hA heA pc
      rw [xl, List.take_length] at pc
      rw [pc] at heA
      refine ⟨D, acc, _, rfl, SqL.of hA, heA, fun p2 ys hp2 hy => ⟨p2, rfl, ⟨_, SqL.of upd_same⟩, fun D2 hD2 => lcg_list (xs := ys) (Same (upd H' p2 (.lst ys))) LotAt (fun i cs => cs = (ls.mergeSort leL).take i) stays_lot ?_ (same_new hD2) (same_gD hD2) (fun H2 k => SqL.of (k _ _ upd_same)) rfl ?_ ?_⟩⟩
      · rw [hy.length, List.length_mergeSort]
        exact small_line (by omega)
      · intro i x hx H2 cs KY KN go2 hac pc ky kn
        obtain ⟨l, hl2, t, y, rfl, ht, hlot⟩ := each_get hy hx
        have tk : TK H' H2 := (TK.new hp2).trans (TK.of go2)
        refine ⟨rfl, yes ⟨_, rfl, t, _, 1, y, rfl, rfl, tk _ _ ht, rfl, ky l _ _ ?_ go2 (TK.refl _) rfl (hlot.tk tk)⟩⟩
        show cs ++ [l] = _
        rw [pc, take_snoc hl2]
      · intro H2 acc2 cs go2 hA2 he2 pc
        rw [hy.length, List.take_length] at pc
        rw [pc] at he2
        exact q _ _ ((go.trans (same_new hp2)).trans go2) ⟨D2, acc2, rfl, hA2, he2⟩

theorem scLAllLots : FnScope ["_law_marks_here", "_law_found", "_law_mark", "_law_lot_here"] ["_law_marks_here"] (defScope sLAllLots) := ⟨rfl, rfl, rfl, by decide +kernel, rfl, by decide +kernel, by decide +kernel⟩
theorem ok_lAllLots (T : Txt K mg) : FnOk P w K mg base CX0 2 T.lAllLots.f T.lAllLots.fd ["_law_marks_here"] spAllLots := by
  have G : FnOk P w K mg base CX0 1 T.lInOrder.f T.lInOrder.fd ["_law_lots"] spLInOrder := ok_lInOrder T
  refine T.lAllLots.F.ok scLAllLots (fun vs H Q E h => ?_) (fun cdv A outer s H vs Q E hr h => ?_)
  · obtain ⟨_, _, rfl, _⟩ := h
    rfl
  · obtain ⟨_, marks, rfl, ⟨p, rfl, hp⟩, hl, q⟩ := h
    refine ⟨_, pss_cons (ps_set (i := 1) scLAllLots.nd rfl (Or.inl rfl) (pe_lst (pa_cons (pe_tup pa_nil) pa_nil)))
      (pss_cons (ps_for PassesOwn.never rfl (pi_tup (pv 0)) (pg_name (i := 2) scLAllLots.nd rfl (Or.inr rfl))
        (pss_one (ps_set (i := 1) scLAllLots.nd rfl (Or.inl rfl) (pe_op op_cat (pv 1)
          (pe_lc (own := [("_law_lot_here", 3)]) (g := gName 3) (tt := tYes) rfl scLAllLots.nd (pi_list (pv 1)) (blkOk_by (N := ["_law_marks_here", "_law_found", "_law_mark", "_law_lot_here"]) (sc := defScope sLAllLots) (by decide +kernel))
            (fun _ _ _ _ _ => pg_name (i := 3) scLAllLots.nd rfl (Or.inl rfl)) (fun _ _ _ _ _ => pts_nil) (fun _ _ _ _ _ => pe_op op_cat2 (pv 3) (pe_tup (pa_cons (pv 2) pa_nil))))))))
      (pss_one (ps_ret (pe_d T.lInOrder G hr (pa_cons (pv 1) pa_nil))))), ?_⟩
    refine ⟨Nat.zero_le _, fun t ht => ⟨by show 1 ≤ sizeLine; decide, fun f hf => ?_⟩⟩
    refine ⟨_, rfl, p, rfl, ⟨_, SqT.of ((same_two ht hf) _ _ hp)⟩, for_tup (K := K) (a := p) (xs := marks.map V.str) (fun i σ H' => ∃ (fa : Addr) (mk : Option V) (ys : List V), σ = [some (.ref p), some (.ref fa), mk, none] ∧ Same H H' ∧ H' fa = some (.lst ys) ∧ Each LotAt H' ys (subs (marks.take i)))
      ⟨f, none, [.ref t], rfl, same_two ht hf, upd_same, .cons ⟨t, rfl, by rw [upd_ne (ne_of_none upd_same hf)]; exact upd_same⟩ .nil⟩ (fun i σ H' _ ⟨_, _, _, _, sm, _⟩ => SqT.of (sm _ _ hp)) ?_ ?_⟩
    · rintro i x σ H' hx ⟨fa, mk, ys, rfl, sm, hF, he⟩
      obtain ⟨m, hm, rfl⟩ := strs_get hx
      have hi := (List.getElem?_eq_some_iff.mp hm).1
      have hz : (subs (marks.take i)).length ≤ 256 := by
        rw [subs_len]
        exact pow8 (Nat.le_trans (List.length_take_le _ _) (by omega))
      have hys : ys.length ≤ 256 := by rw [he.length]; exact hz
      refine ⟨_, rfl, _, rfl, fa, rfl, ⟨_, SqL.of hF⟩, fun D hD => lcg_list (xs := ys) (Same H') LotAt (fun j cs => cs = ((subs (marks.take i)).take j).map fun l => l ++ [m]) stays_lot (small_line (by omega)) (same_new hD) (same_gD hD) (fun H2 k => SqL.of (k _ _ hF)) rfl ?_ ?_⟩
      · intro j y hy H2 cs KY KN go hac pc ky kn
        obtain ⟨l, hl2, t2, rfl, ht2⟩ := each_get he hy
        have hll := subs_lens (List.mem_of_getElem? hl2)
        have ht3 := go _ _ ht2
        refine ⟨rfl, yes ⟨_, rfl, _, rfl, by show 1 ≤ sizeLine; decide, fun n hn => ⟨t2, n, _, _, rfl, rfl, same_new hn _ _ ht3, upd_same, by simp, ?_, fun H4 p4 s4 h4 => ky (l ++ [m]) _ _ ?_ ((go.trans (same_new hn)).trans s4) (TK.of ((same_new hn).trans s4)) ?_ ⟨p4, rfl, ?_⟩⟩⟩⟩
        · rw [List.length_map, List.length_singleton]
          have := List.length_take_le i marks
          exact Nat.le_of_lt (small_line (by omega))
        · show cs ++ [l ++ [m]] = _
          rw [pc, take_snoc hl2, List.map_append]
          rfl
        · obtain ⟨ac, e⟩ := hac
          rw [e]
          exact s4 _ _ (same_new hn _ _ e)
        · rw [h4, List.map_append]
          rfl
      · intro H2 acc cs go hA heA pc
        have pc2 : cs = (subs (marks.take i)).map fun l => l ++ [m] := by
          rw [pc, he.length, List.take_length]
        refine ⟨fa, D, ys, acc, rfl, rfl, go _ _ hF, hA, ?_, fun p2 hp2 => ⟨p2, _, _, rfl, (sm.trans go).trans (same_new hp2), upd_same, ?_⟩⟩
        · rw [heA.length, pc2, List.length_map]
          exact Nat.le_of_lt (small_line (by omega))
        · have tk := TK.new (o := .lst (ys ++ acc)) hp2
          rw [subs_take hm, ← pc2]
          exact each_append (stays_lot.each ((TK.of go).trans tk) he) (stays_lot.each tk heA)
    · rintro σ H' ⟨fa, mk, ys, rfl, sm, hF, he⟩
      rw [List.length_map, List.take_length] at he
      refine ⟨_, rfl, fa, ys, subs marks, rfl, hF, he, fun l hl2 => ?_, ?_, fun H2 v sm2 hv => q H2 v (sm.trans sm2) hv⟩
      · have := subs_lens hl2
        omega
      · rw [subs_len]
        exact Nat.le_trans (pow8 hl) (by decide)

theorem scLShared : FnScope ["_law_marks_here", "_law_lots", "_law_lot_here", "_law_found", "_law_one_here", "_law_mark"] ["_law_marks_here", "_law_lots", "_law_lot_here"] (defScope sLShared) := ⟨rfl, rfl, rfl, by decide +kernel, rfl, by decide +kernel, by decide +kernel⟩
theorem ok_lShared (T : Txt K mg) : FnOk P w K mg base CX0 2 T.lShared.f T.lShared.fd ["_law_marks_here", "_law_lots", "_law_lot_here"] spLShared := by
  have G : FnOk P w K mg base CX0 1 T.lWithin.f T.lWithin.fd ["_law_one_here", "_law_other"] spLWithin := ok_lWithin T
  refine T.lShared.F.ok scLShared (fun vs H Q E h => ?_) (fun cdv A outer s H vs Q E hr h => ?_)
  · obtain ⟨_, _, _, _, _, _, rfl, _⟩ := h
    rfl
  · obtain ⟨_, _, lv, marks, lots, l, rfl, gd, ⟨mp, rfl, hm⟩, ⟨sp, xs, rfl, hs, hxs⟩, lo, hll, hlv, ol, q⟩ := h
    have nd := scLShared.nd
    refine ⟨_, pss_cons (ps_set (i := 3) nd rfl (Or.inl rfl) (pe_callTy call_list_of (by rfl) T.zList (by decide +kernel) (pa_cons (pv 0) pa_nil)))
      (pss_cons (ps_for PassesOwn.never rfl (pi_list (pv 1)) (pg_name (i := 4) nd rfl (Or.inr rfl))
        (pss_one (ps_if (pt_val (pe_d T.lWithin G hr (pa_cons (pv 2) (pa_cons (pv 4) pa_nil))))
          (pss_one (ps_setLc (own := [("_law_mark", 5)]) (g := gName 5) (i := 3) rfl nd rfl rfl (by rfl) (pi_list (pv 3)) (blkOk_by (N := ["_law_marks_here", "_law_lots", "_law_lot_here", "_law_found", "_law_one_here", "_law_mark"]) (sc := defScope sLShared) (by decide +kernel))
            (fun _ _ _ _ _ => pg_name (i := 5) nd rfl (Or.inl rfl)) (fun _ _ _ _ _ => pts_one (pt_cmpR op_mem (pv 5) (pv 4) (by rfl))) (fun _ _ _ _ _ => pv 5))) pss_nil)))
      (pss_one (ps_ret (pe_callTy call_tuple_of (by rfl) T.zTuple (by decide +kernel) (pa_cons (pv 3) pa_nil))))), ?_⟩
    have kl := gd.le ol
    refine ⟨_, rfl, mp, _, rfl, .inr (SqT.of hm), fun f0 hf0 => ?_⟩
    have s0 : Same H (upd H f0 (.lst (marks.map V.str))) := same_new hf0
    refine ⟨_, rfl, sp, rfl, ⟨_, SqL.of (s0 _ _ hs)⟩, for_list (K := K) (a := sp) (xs := xs) (fun i σ H' => ∃ (fa : Addr) (ov : Option V), σ = [some (.ref mp), some (.ref sp), some lv, some (.ref fa), ov, none] ∧ Same H H' ∧ H' fa = some (.lst ((clT marks (lots.take i) l).map V.str)))
      ⟨f0, none, rfl, s0, upd_same⟩ (fun i σ H' _ ⟨_, _, _, sm, _⟩ => SqL.of (sm _ _ hs)) ?_ ?_⟩
    · rintro i x σ H' hx ⟨fa, ov, rfl, sm, hF⟩
      obtain ⟨o, ho, holot⟩ := each_get hxs hx
      have oo := lo o (List.mem_of_getElem? ho)
      obtain ⟨op, rfl, hop⟩ := holot.tk (TK.of sm)
      have spec := clT_spec l (lots.take i) marks gd.ss ol.2
      have kF := gd.le (show Of marks (clT marks (lots.take i) l) from ⟨spec.1, spec.2.1⟩)
      refine ⟨_, rfl, _, rfl, lv, _, l, o, rfl, hlv.tk (TK.of sm), ⟨op, rfl, .inl hop⟩, gd.of ol, by omega, fun H2 s2 => ⟨_, rfl, ?_⟩⟩
      refine ite2 (fun c => ?_) (fun c => ?_)
      · have hF2 := s2 _ _ hF
        refine ⟨_, rfl, fa, rfl, ⟨_, SqL.of hF2⟩, fun D hD => lcg_list (xs := (clT marks (lots.take i) l).map V.str) (Same H2) StrAt (fun j cs => cs = ((clT marks (lots.take i) l).take j).filter fun m => decide (m ∈ o)) stays_str (by rw [List.length_map]; exact small_line (by omega)) (same_new hD) (same_gD hD) (fun H3 k => SqL.of (k _ _ hF2)) rfl ?_ ?_⟩
        · intro j y hy H3 cs KY KN go hac pc ky kn
          obtain ⟨m, hm2, rfl⟩ := strs_get hy
          have st := filt_step (fun m => decide (m ∈ o)) hm2
          refine ⟨rfl, _, rfl, _, rfl, m, op, o, rfl, rfl, .inl (go _ _ (s2 _ _ hop)), _, rfl, ?_⟩
          refine ite2 (fun c2 => ?_) (fun c2 => ?_)
          · rw [if_neg (by decide)] at c2
            rw [if_pos c2] at st
            exact ⟨_, rfl, ky m _ _ (by show cs ++ [m] = _; rw [pc]; exact st.symm) go (TK.refl _) rfl rfl⟩
          · rw [if_neg (by decide)] at c2
            rw [if_neg c2] at st
            exact kn _ (by show cs = _; rw [pc]; exact st.symm) go (TK.refl _) rfl
        · intro H3 acc cs go hA he pc
          rw [strs_of he] at hA
          rw [List.length_map, List.take_length] at pc
          refine ⟨D, _, rfl, (sm.trans s2).trans go, ?_⟩
          rw [take_snoc ho, clT_snoc, if_pos c, hA, pc]
          rfl
      · refine ⟨fa, _, rfl, sm.trans s2, ?_⟩
        rw [take_snoc ho, clT_snoc, if_neg c]
        exact s2 _ _ hF
    · rintro σ H' ⟨fa, ov, rfl, sm, hF⟩
      rw [hxs.length, List.take_length] at hF
      exact ⟨_, rfl, fa, _, rfl, .inl ⟨SqL.of hF, fun n hn => q _ _ (sm.trans (same_new hn)) ⟨n, rfl, upd_same⟩⟩⟩

theorem scLClosing : FnScope ["_law_rows", "_law_lot_here", "_law_found", "_law_turn", "_law_size", "_law_ahead", "_law_behind", "_law_mark"] ["_law_rows", "_law_lot_here"] (defScope sLClosing) := ⟨rfl, rfl, rfl, by decide +kernel, rfl, by decide +kernel, by decide +kernel⟩
theorem ok_lClosing (T : Txt K mg) : FnOk P w K mg base CX0 2 T.lClosing.f T.lClosing.fd ["_law_rows", "_law_lot_here"] spLClosing := by
  have G : FnOk P w K mg base CX0 1 T.lWithin.f T.lWithin.fd ["_law_one_here", "_law_other"] spLWithin := ok_lWithin T
  refine T.lClosing.F.ok scLClosing (fun vs H Q E h => ?_) (fun cdv A outer s H vs Q E hr h => ?_)
  · obtain ⟨_, _, _, _, _, rfl, _⟩ := h
    rfl
  · obtain ⟨_, _, marks, rows, l, rfl, gd, ⟨rp, xs, rfl, hrp, hxs⟩, ro, hrl, ⟨lp, rfl, hlp⟩, ol, q⟩ := h
    have nd := scLClosing.nd
    refine ⟨_, pss_cons (ps_set (i := 2) nd rfl (Or.inr rfl) (pe_callTy call_list_of (by rfl) T.zList (by decide +kernel) (pa_cons (pv 1) pa_nil)))
      (pss_cons (ps_for PassesOwn.never rfl (pi_range1 (by rfl) T.zRange (pa_cons (pe_op op_add (pe_callB call_len2 (by rfl) T.zLen PySem.boot_len (pa_cons (pv 0) pa_nil)) pe_int) pa_nil)) (pg_name (i := 3) nd rfl (Or.inl rfl))
        (pss_cons (ps_set (i := 4) nd rfl (Or.inl rfl) (pe_callB call_len2 (by rfl) T.zLen PySem.boot_len (pa_cons (pv 2) pa_nil)))
        (pss_cons (ps_for PassesOwn.never rfl (pi_list (pv 0)) (pg_tup rfl (pgs_cons (pg_name (i := 5) nd rfl (Or.inl rfl)) (pgs_cons (pg_name (i := 6) nd rfl (Or.inl rfl)) pgs_nil)))
          (pss_one (ps_if (pt_val (pe_d T.lWithin G hr (pa_cons (pv 5) (pa_cons (pv 2) pa_nil))))
            (pss_one (ps_expr (pe_bm PySem.F.plainAttrs_list PySem.F.slot_list_extend PySem.F.type_list_extend mt_extend (pv 2) (pa_cons
              (pe_lc (own := [("_law_mark", 7)]) (g := gName 7) rfl nd (pi_tup (pv 6)) (blkOk_by (N := ["_law_rows", "_law_lot_here", "_law_found", "_law_turn", "_law_size", "_law_ahead", "_law_behind", "_law_mark"]) (sc := defScope sLClosing) (by decide +kernel))
                (fun _ _ _ _ _ => pg_name (i := 7) nd rfl (Or.inl rfl)) (fun _ _ _ _ _ => pts_one (pt_cmpR op_notMem (pv 7) (pv 2) (by rfl))) (fun _ _ _ _ _ => pv 7)) pa_nil)))) pss_nil)))
        (pss_one (ps_if (pt_cmp (pc_eqI (pe_callB call_len2 (by rfl) T.zLen PySem.boot_len (pa_cons (pv 2) pa_nil)) (pv 4)))
          (pss_one (ps_ret (pe_callTy call_tuple_of (by rfl) T.zTuple (by decide +kernel) (pa_cons (pe_callB (cr_srt hr.units) (by rfl) T.zSorted (by decide +kernel) (pa_cons (pv 2) pa_nil)) pa_nil)))) pss_nil)))))
      (pss_one (ps_ret (pe_callTy call_tuple_of (by rfl) T.zTuple (by decide +kernel) (pa_cons (pe_callB (cr_srt hr.units) (by rfl) T.zSorted (by decide +kernel) (pa_cons (pv 2) pa_nil)) pa_nil))))), ?_⟩
    refine ⟨_, rfl, lp, _, rfl, .inr (SqT.of hlp), fun f hf => ?_⟩
    have s0 : Same H (upd H f (.lst (l.map V.str))) := same_new hf
    have nrf : rp ≠ f := ne_of_none hrp hf
    have kl := gd.le ol
    have xl : xs.length = rows.length := hxs.length
    have row_of : ∀ {j : Nat} {r : Row}, rows[j]? = some r → RowOf marks r := fun h => ro _ (List.mem_of_getElem? h)
    refine ⟨_, rfl, rp, _, rfl, .inl (s0 _ _ hrp), _, _, rfl, rfl, (rows.length : Int) + 1, by rw [xl], by omega, by omega, for_range (lo := 0) (n := rows.length + 1) (fun i σ H' => ∃ (tv sv av bv : Option V) (F : Lot), σ = [some (.ref rp), some (.ref lp), some (.ref f), tv, sv, av, bv, none] ∧ Same H H' ∧ H' f = some (.lst (F.map V.str)) ∧ F.Nodup ∧ (∀ m ∈ F, m ∈ marks) ∧ Mid marks rows l F ∧ i ≤ rows.countP (done F))
      ⟨none, none, none, none, l, rfl, s0, upd_same, ol.1.nodup, ol.2, mid_self ol.2, Nat.zero_le _⟩ ?_ ?_⟩
    · rintro i σ H' hi ⟨tv, sv, av, bv, F, rfl, sm, hF, nd0, sub0, mid0, cnt⟩
      have FL : F.length ≤ 5 := Nat.le_trans (nodup_len gd.ss nd0 sub0) gd.len
      refine ⟨_, rfl, f, _, rfl, .inl hF, ?_⟩
      refine ⟨_, rfl, rp, rfl, ⟨_, SqL.of (sm _ _ hrp)⟩, for_list (K := K) (a := rp) (xs := xs) (fun j σ H2 => ∃ (av bv : Option V), σ = [some (.ref rp), some (.ref lp), some (.ref f), some (.int (0 + (i : Int))), some (.int ((F.map V.str).length : Nat)), av, bv, none] ∧ Same H H2 ∧ H2 f = some (.lst ((passL (rows.take j) F).map V.str)) ∧ (passL (rows.take j) F).Nodup ∧ (∀ m ∈ passL (rows.take j) F, m ∈ marks) ∧ Mid marks rows l (passL (rows.take j) F))
        ⟨av, bv, rfl, sm, hF, nd0, sub0, mid0⟩ (fun j σ H2 _ ⟨_, _, _, s2, _⟩ => SqL.of (s2 _ _ hrp)) ?_ ?_⟩
      · rintro j x σ H2 hx ⟨av2, bv2, rfl, s2, hF2, nd2, sub2, mid2⟩
        obtain ⟨r, hr2, hrow⟩ := each_get hxs hx
        obtain ⟨t, xa, xb, rfl, ht, hxa, hxb⟩ := hrow.tk (TK.of s2)
        have rw_ := row_of hr2
        have k1 := gd.le rw_.1
        have k2 := gd.le rw_.2
        have FL2 : (passL (rows.take j) F).length ≤ 5 := Nat.le_trans (nodup_len gd.ss nd2 sub2) gd.len
        have st : passL (rows.take (j + 1)) F = passStep (passL (rows.take j) F) r := by rw [take_snoc hr2, passL_snoc]
        have mid3 := passStep_mid ro mid2 (List.mem_of_getElem? hr2)
        have nd3 := passStep_nodup nd2 rw_.2.1.nodup
        refine ⟨t, _, rfl, SqT.of ht, rfl, xa, [xb], rfl, xb, [], rfl, rfl, ?_⟩
        refine ⟨_, rfl, _, rfl, xa, _, r.1, _, rfl, hxa, ⟨f, rfl, .inr hF2⟩, gd.of rw_.1, by omega, fun H3 s3 => ⟨_, rfl, ?_⟩⟩
        have hF3 := s3 _ _ hF2
        refine ite2 (fun c => ?_) (fun c => ?_)
        · obtain ⟨bp, rfl, hbp⟩ := hxb.tk (TK.of s3)
          refine ⟨_, rfl, .inl ⟨rfl, _, SqL.of hF3⟩, _, rfl, bp, rfl, ⟨_, SqT.of hbp⟩, fun D hD => lcg_tup (xs := r.2.map V.str) (Same H3) StrAt (fun n cs => cs = (r.2.take n).filter fun m => decide (m ∉ passL (rows.take j) F)) stays_str (by rw [List.length_map]; exact small_line (by omega)) (same_new hD) (same_gD hD) (fun H4 k => SqT.of (k _ _ hbp)) rfl ?_ ?_⟩
          · intro n y hy H4 cs KY KN go hac pc ky kn
            obtain ⟨m, hm, rfl⟩ := strs_get hy
            have stp := filt_step (fun m => decide (m ∉ passL (rows.take j) F)) hm
            refine ⟨rfl, _, rfl, _, rfl, m, f, _, rfl, rfl, .inr (go _ _ hF3), _, rfl, ?_⟩
            refine ite2 (fun c2 => ?_) (fun c2 => ?_)
            · rw [if_pos rfl] at c2
              rw [if_pos c2] at stp
              exact ⟨_, rfl, ky m _ _ (by show cs ++ [m] = _; rw [pc]; exact stp.symm) go (TK.refl _) rfl rfl⟩
            · rw [if_pos rfl] at c2
              rw [if_neg c2] at stp
              exact kn _ (by show cs = _; rw [pc]; exact stp.symm) go (TK.refl _) rfl
          · intro H4 acc cs go hA he pc
            rw [strs_of he] at hA
            rw [List.length_map, List.take_length] at pc
            have hF4 := go _ _ hF3
            have e : passL (rows.take (j + 1)) F = passL (rows.take j) F ++ cs := by
              rw [st]
              unfold passStep
              rw [if_pos c, pc]
            have lc : cs.length ≤ r.2.length := by rw [pc]; exact List.length_filter_le _ _
            refine ⟨f, D, _, _, rfl, rfl, hF4, hA, ?_, ?_⟩
            · rw [List.length_map, List.length_map]
              exact Nat.le_of_lt (small_line (by omega))
            · rw [← List.map_append, ← e]
              refine ⟨_, _, rfl, same_put ((s2.trans s3).trans go) hf, upd_same, ?_⟩
              rw [st]
              exact ⟨nd3, mid3.1, mid3⟩
        · have e : passL (rows.take (j + 1)) F = passL (rows.take j) F := by
            rw [st]
            unfold passStep
            rw [if_neg c]
          refine ⟨_, _, rfl, s2.trans s3, ?_⟩
          rw [e]
          exact ⟨hF3, nd2, sub2, mid2⟩
      · rintro σ H2 ⟨av2, bv2, rfl, s2, hF2, nd2, sub2, mid2⟩
        rw [xl, List.take_length] at hF2 nd2 sub2 mid2
        refine ⟨_, rfl, f, _, rfl, .inl hF2, _, rfl, _, _, rfl, rfl, _, rfl, ite2 (fun c => ?_) (fun c => ?_)⟩
        · have c := of_decide_eq_true c
          rw [List.length_map, List.length_map] at c
          have e : (passL rows F).length = F.length := by omega
          have sh := passL_same rows F e
          have nda : (passL rows F).Nodup := nd2
          refine ⟨_, rfl, f, _, rfl, SqL.of hF2, fun p2 hp2 => ⟨p2, _, rfl, .inl ⟨SqL.of upd_same, fun p3 hp3 => q _ _ ((s2.trans (same_new hp2)).trans (same_new hp3)) ⟨p3, rfl, ?_⟩⟩⟩⟩
          have e2 : passL rows F = F := by
            have go : ∀ (rs : List Row) (G : Lot), (passL rs G).length = G.length → passL rs G = G := by
              intro rs
              induction rs with
              | nil => intro G _; rfl
              | cons r rs ih =>
                intro G h
                have h1 : (passL rs (passStep G r)).length = G.length := h
                have h2 := passL_len rs (passStep G r)
                have h3 := passStep_len G r
                have e := passStep_same (f := G) (r := r) (by omega)
                show passL rs (passStep G r) = G
                rw [e]
                rw [e] at h1
                exact ih G h1
            exact go rows F e
          have e3 : srt (passL rows F) = clR marks rows l := by
            rw [e2]
            refine srt_eq_of nd0 ?_ fun m => (mid_mem mid0 sh m).symm
            unfold clR
            exact SS.filter gd.ss _
          rw [← e3]
          exact upd_same
        · have ne : (passL rows F).length ≠ F.length := fun z => c (decide_eq_true (by rw [List.length_map, List.length_map, z]))
          have := passL_count rows F ne
          exact ⟨_, _, av2, bv2, passL rows F, rfl, s2, hF2, nd2, sub2, mid2, by omega⟩
    · rintro σ H' ⟨tv, sv, av, bv, F, rfl, sm, hF, nd0, sub0, mid0, cnt⟩
      have := List.countP_le_length (p := done F) (l := rows)
      omega
end
end K5
/-! K5v: ends, theories, known rows, told rows. -/
namespace K5
open PySem PySem.Spec PyProof.Rows L2

theorem room1 {k : Nat} {A : Around} (r : Room k A) : A.units + 1 < cLine := by
  have := r.un
  omega
def keyL (l : Lot) : List Key := l.map Sum.inr
theorem keyL_kV (l : Lot) : (keyL l).map kV = l.map V.str := by
  unfold keyL
  rw [List.map_map]
  rfl
theorem keyL_inj {a b : Lot} (h : keyL a = keyL b) : a = b := by
  have e := congrArg (List.map kV) h
  rw [keyL_kV, keyL_kV] at e
  exact (List.map_inj_right (fun x y z => V.str.inj z)).mp e
/-- the kind of a theory and what it is made of -/
def KindAt (H : Hp) (kv sv : V) (marks : Lot) (Tc : Lot → Lot) : Prop :=
  (kv = V.str "rules" ∧ ∃ rows, ListAt RowAt H sv rows ∧ RowsOf marks rows ∧ rows.length ≤ 100 ∧ Tc = clR marks rows) ∨
  (kv = V.str "table" ∧ ∃ lots, ListAt LotAt H sv lots ∧ (∀ l ∈ lots, Of marks l) ∧ lots.length ≤ 100 ∧ Tc = clT marks lots)
theorem KindAt.same {H H' : Hp} {kv sv : V} {marks : Lot} {Tc : Lot → Lot} (h : KindAt H kv sv marks Tc) (s : Same H H') : KindAt H' kv sv marks Tc := by
  rcases h with ⟨e, rows, h1, h2⟩ | ⟨e, lots, h1, h2⟩
  · exact .inl ⟨e, rows, h1.same stays_row s, h2⟩
  · exact .inr ⟨e, lots, h1.same stays_lot s, h2⟩
/-- each lot's closing -/
def EndsAt (H : Hp) (v : V) (marks : Lot) (Tc : Lot → Lot) : Prop := ∃ (d : Addr) (kvs : List (List Key × V)), v = V.ref d ∧ H d = some (.dT kvs) ∧ kvs.map (·.1) = (allLots marks).map keyL ∧ ∀ l ∈ allLots marks, ∃ x, valV kvs (keyL l) = some x ∧ LotAt H x (Tc l)
theorem EndsAt.on {H H' : Hp} {v : V} {marks : Lot} {Tc : Lot → Lot} {b a : Addr} (h : EndsAt H v marks Tc) (hb : Bag H b a) (o : On b a H H') : EndsAt H' v marks Tc := by
  obtain ⟨d, kvs, e, h1, h2, h3⟩ := h
  refine ⟨d, kvs, e, o.lst ?_ h1, h2, fun l hl => ?_⟩
  · rintro rfl
    obtain ⟨ys, z⟩ := hb.lst
    rw [z] at h1
    cases h1
  · obtain ⟨x, e2, hx⟩ := h3 l hl
    exact ⟨x, e2, hx.tk (o.tk hb)⟩
/-- rows that are given: none, or a list -/
def GivenAt (H : Hp) (v : V) (marks : Lot) (rows : List Row) : Prop := RowsOf marks rows ∧ rows.length ≤ 100 ∧ ((v = .non ∧ rows = []) ∨ ListAt RowAt H v rows)
def spLEnds : Sp := fun vs H Q _ => ∃ (mv kv sv : V) (marks : Lot) (Tc : Lot → Lot), vs = [mv, kv, sv] ∧ Good marks ∧ LotAt H mv marks ∧ KindAt H kv sv marks Tc ∧ ∀ H' v, Same H H' → EndsAt H' v marks Tc → Q v H'
def spLTheory (CR CT : Addr) : Sp := fun vs H Q _ => ∃ (b a : Addr) (mv : V) (marks : Lot) (n : Nat), vs = [V.ref b, mv, V.int (n : Int)] ∧ n ≤ 100 ∧ Bag H b a ∧ Good marks ∧ LotAt H mv marks ∧
  ∀ H' p kv sv tp Tc, On b a H H' → H' p = some (.tup [kv, sv, V.ref tp]) → KindAt H' kv sv marks Tc → (ThR CR H' tp marks Tc ∨ ThT CT H' tp marks Tc) → Q (.ref p) H'
def spLKnown : Sp := fun vs H Q _ => ∃ (b a : Addr) (ev : V) (marks : Lot) (Tc : Lot → Lot), vs = [V.ref b, ev] ∧ Bag H b a ∧ Good marks ∧ Thy marks Tc ∧ EndsAt H ev marks Tc ∧ ∀ H' v rows, On b a H H' → GivenAt H' v marks rows → Q v H'
def spLMade (CR : Addr) : Sp := fun vs H Q _ => ∃ (mv gv : V) (marks : Lot) (rows : List Row), vs = [mv, gv] ∧ Good marks ∧ LotAt H mv marks ∧ GivenAt H gv marks rows ∧ ∀ H' v, Same H H' → KnownAt CR H' v marks rows → Q v H'
def spLTold : Sp := fun vs H Q _ => ∃ (b a : Addr) (ev rv : V) (marks : Lot) (Tc : Lot → Lot) (rows : List Row), vs = [V.ref b, ev, rv] ∧ Bag H b a ∧ Good marks ∧ Thy marks Tc ∧ EndsAt H ev marks Tc ∧ ListAt RowAt H rv rows ∧ rows.length ≤ 32 ∧
  (∀ r ∈ rows, Of marks r.1 ∧ r = rowOfT Tc r.1) ∧ ∀ H' v told, On b a H H' → ListAt RowAt H' v told → RowsOf marks told → told.length ≤ 160 → (∀ l, shut told l = shut rows l) → Q v H'

section
variable {P : Program} {w : World} {K : PySem.W.Frag} {mg : Str → Option Value} {base : Heap}
theorem scLEnds : FnScope ["_law_marks_here", "_law_kind", "_law_some", "_law_found", "_law_lot_here"] ["_law_marks_here", "_law_kind", "_law_some"] (defScope sLEnds) := ⟨rfl, rfl, rfl, by decide +kernel, rfl, by decide +kernel, by decide +kernel⟩
theorem valV_none {kvs : List (List Key × V)} {k : List Key} (h : k ∉ kvs.map (·.1)) : valV kvs k = none := by
  cases c : valV kvs k with
  | none => rfl
  | some v =>
    have e := valV_any k kvs
    rw [c, Option.isSome_some, List.any_eq_true] at e
    obtain ⟨kv, h1, h2⟩ := e
    exact absurd (List.mem_map.mpr ⟨kv, h1, of_decide_eq_true h2⟩) h
theorem take_nodup_get {α : Type} {l : List α} (h : l.Nodup) {i : Nat} {x : α} (e : l[i]? = some x) : x ∉ l.take i := by
  intro hm
  have h2 : (l.take (i + 1)).Nodup := h.sublist (List.take_sublist _ _)
  rw [take_snoc e, List.nodup_append] at h2
  exact h2.2.2 x hm x (by simp) rfl
theorem ok_lEnds (T : Txt K mg) : FnOk P w K mg base CX0 3 T.lEnds.f T.lEnds.fd ["_law_marks_here", "_law_kind", "_law_some"] spLEnds := by
  have GA : FnOk P w K mg base CX0 2 T.lAllLots.f T.lAllLots.fd ["_law_marks_here"] spAllLots := ok_lAllLots T
  have GC : FnOk P w K mg base CX0 2 T.lClosing.f T.lClosing.fd ["_law_rows", "_law_lot_here"] spLClosing := ok_lClosing T
  have GS : FnOk P w K mg base CX0 2 T.lShared.f T.lShared.fd ["_law_marks_here", "_law_lots", "_law_lot_here"] spLShared := ok_lShared T
  refine T.lEnds.F.ok scLEnds (fun vs H Q E h => ?_) (fun cdv A outer s H vs Q E hr h => ?_)
  · obtain ⟨_, _, _, _, _, rfl, _⟩ := h
    rfl
  · obtain ⟨mv, kv, sv, marks, Tc, rfl, gd, hm, hk, q⟩ := h
    have nd := scLEnds.nd
    refine ⟨_, pss_cons (ps_set (i := 3) nd rfl (Or.inl rfl) pe_dnewT)
      (pss_cons (ps_for PassesOwn.never rfl (pi_list (pe_d T.lAllLots GA hr (pa_cons (pv 0) pa_nil))) (pg_name (i := 4) nd rfl (Or.inl rfl))
        (pss_one (ps_dput (room1 hr) (pv 3) (pv 4) (pe_ifExp (pt_cmpR op_eq (pv 1) pe_str (nomark _)) (pe_d T.lClosing GC hr (pa_cons (pv 2) (pa_cons (pv 4) pa_nil))) (pe_d T.lShared GS hr (pa_cons (pv 0) (pa_cons (pv 2) (pa_cons (pv 4) pa_nil))))) (by rfl))))
      (pss_one (ps_ret (pv 3)))), ?_⟩
    intro d hd
    have s0 : Same H (upd H d (.dT [])) := same_new hd
    refine ⟨_, rfl, mv, marks, rfl, hm.tk (TK.of s0), Nat.le_trans gd.len (by decide), fun H1 av s1 hav => ?_⟩
    obtain ⟨al, xs, rfl, hal, hxs⟩ := hav
    have hd1 : H1 d = some (.dT []) := s1 _ _ upd_same
    have nad : al ≠ d := by
      rintro rfl
      rw [hd1] at hal
      cases hal
    have xl : xs.length = (allLots marks).length := hxs.length
    have al32 := all_le gd
    refine ⟨al, rfl, ⟨xs, SqL.of hal⟩, for_list (K := K) (a := al) (xs := xs) (fun i σ H' => ∃ (lv : Option V) (kvs : List (List Key × V)), σ = [some mv, some kv, some sv, some (.ref d), lv] ∧ Same H H' ∧ TK H1 H' ∧ H' al = some (.lst xs) ∧ H' d = some (.dT kvs) ∧ kvs.map (·.1) = ((allLots marks).take i).map keyL ∧ ∀ l ∈ (allLots marks).take i, ∃ x, valV kvs (keyL l) = some x ∧ LotAt H' x (Tc l))
      ⟨none, [], rfl, s0.trans s1, TK.refl _, hal, hd1, rfl, fun l hl => by cases hl⟩ (fun i σ H' _ ⟨_, _, _, _, _, h, _⟩ => SqL.of h) ?_ ?_⟩
    · rintro i x σ H' hx ⟨lv, kvs, rfl, sm, tk, hA, hD, hk1, hk2⟩
      obtain ⟨l, hl, lp, rfl, hlp⟩ := each_get hxs hx
      have hlp := tk _ _ hlp
      have ol := (all_mem gd.ss).mp (List.mem_of_getElem? hl)
      have hi := (List.getElem?_eq_some_iff.mp hl).1
      have klen : kvs.length ≤ 32 := by
        have := congrArg List.length hk1
        rw [List.length_map, List.length_map] at this
        rw [this]
        exact Nat.le_trans (List.length_take_le _ _) (by omega)
      have fin : ∀ (H2 : Hp) (v : V), Same H' H2 → LotAt H2 v (Tc l) → ∃ (a : Addr) (H4 : Hp), V.ref d = V.ref a ∧ DPut H2 a (.ref lp) v H4 ∧ (∃ (lv : Option V) (kvs : List (List Key × V)), [some mv, some kv, some sv, some (V.ref d), some (V.ref lp)] = [some mv, some kv, some sv, some (.ref d), lv] ∧ Same H H4 ∧ TK H1 H4 ∧ H4 al = some (.lst xs) ∧ H4 d = some (.dT kvs) ∧ kvs.map (·.1) = ((allLots marks).take (i + 1)).map keyL ∧ ∀ l ∈ (allLots marks).take (i + 1), ∃ x, valV kvs (keyL l) = some x ∧ LotAt H4 x (Tc l)) := by
        intro H2 v s2 hv
        have hD2 := s2 _ _ hD
        have tk2 : TK H2 (upd H2 d (.dT (putK kvs (keyL l) v))) := TK.at_ fun ys z => by rw [hD2] at z; cases z
        have new : valV kvs (keyL l) = none := valV_none (by
          rw [hk1]
          intro hm2
          obtain ⟨l2, h1, h2⟩ := List.mem_map.mp hm2
          rw [keyL_inj h2] at h1
          exact take_nodup_get (all_nodup gd.ss) hl h1)
        refine ⟨d, _, rfl, DPut.t (k := keyL l) hD2 (by rw [keyL_kV]; exact s2 _ _ hlp) (small_line (by omega)), _, _, rfl, same_put (sm.trans s2) hd, (tk.trans (TK.of s2)).trans tk2, ?_, upd_same, ?_, ?_⟩
        · rw [upd_ne nad]
          exact s2 _ _ hA
        · rw [putK_new v new, List.map_append, hk1, take_snoc hl, List.map_append]
          rfl
        · intro l2 hl2
          rw [take_snoc hl] at hl2
          by_cases e : l2 = l
          · subst e
            exact ⟨v, by rw [valV_put, if_pos rfl], hv.tk tk2⟩
          · rcases List.mem_append.mp hl2 with h | h
            · obtain ⟨x, e1, e2⟩ := hk2 l2 h
              exact ⟨x, by rw [valV_put, if_neg (fun z => e (keyL_inj z))]; exact e1, (e2.tk (TK.of s2)).tk tk2⟩
            · exact absurd (List.mem_singleton.mp h) e
      rcases hk.same sm with ⟨rfl, rows, h1, h2, h3, rfl⟩ | ⟨rfl, lots, h1, h2, h3, rfl⟩
      · refine ⟨_, rfl, rfl, true, by rfl, iteT ?_⟩
        refine ⟨_, rfl, _, rfl, sv, _, marks, rows, l, rfl, gd, h1, h2, h3, ⟨lp, rfl, hlp⟩, ol, fun H2 v s2 hv => ⟨_, rfl, _, rfl, fin H2 v s2 hv⟩⟩
      · refine ⟨_, rfl, rfl, false, by rfl, iteF ?_⟩
        refine ⟨_, rfl, _, rfl, _, rfl, mv, sv, _, marks, lots, l, rfl, gd, hm.tk (TK.of sm), h1, h2, h3, ⟨lp, rfl, hlp⟩, ol, fun H2 v s2 hv => ⟨_, rfl, _, rfl, fin H2 v s2 hv⟩⟩
    · rintro σ H' ⟨lv, kvs, rfl, sm, tk, hA, hD, hk1, hk2⟩
      rw [xl, List.take_length] at hk1 hk2
      exact ⟨_, rfl, q _ _ sm ⟨d, kvs, rfl, hD, hk1, hk2⟩⟩

theorem mk_rulesR {C : Addr} {H : Hp} {x y : V} {marks : Lot} {rows : List Row} {R : VK} {p dx : Addr} (hp : H p = none) (hd : H dx = none) (n : dx ≠ p) (hx : LotAt H x marks) (hy : ListAt RowAt H y rows) (gd : Good marks) (ro : RowsOf marks rows) (hl : rows.length ≤ 1000)
    (q : ∀ H', Same H H' → IsRules C H' p marks rows → R .non H') : spRInit C (V.ref p :: ([x, y] ++ [])) (upd (upd H dx (.own p)) p (.ins C dx [])) R E0 := by
  have hp2 : upd H dx (.own p) p = none := by rw [upd_ne n.symm]; exact hp
  have s0 : Same H (upd (upd H dx (.own p)) p (.ins C dx [])) := (same_new hd).trans (same_new hp2)
  exact ⟨p, x, y, dx, marks, rows, rfl, upd_same, hx.tk (TK.of s0), hy.same stays_row s0, gd, ro, hl, fun H' kp is => q H' (fun b o e => kp b o (s0 _ _ e) (ne_of_none e hp)) is⟩
theorem mk_tableR {C : Addr} {H : Hp} {x y : V} {marks : Lot} {lots : List Lot} {R : VK} {p dx : Addr} (hp : H p = none) (hd : H dx = none) (n : dx ≠ p) (hx : LotAt H x marks) (hy : ListAt LotAt H y lots) (gd : Good marks) (lo : ∀ l ∈ lots, Of marks l) (hl : lots.length ≤ 1000)
    (q : ∀ H', Same H H' → IsTable C H' p marks lots → R .non H') : spTInit C (V.ref p :: ([x, y] ++ [])) (upd (upd H dx (.own p)) p (.ins C dx [])) R E0 := by
  have hp2 : upd H dx (.own p) p = none := by rw [upd_ne n.symm]; exact hp
  have s0 : Same H (upd (upd H dx (.own p)) p (.ins C dx [])) := (same_new hd).trans (same_new hp2)
  exact ⟨p, x, y, dx, marks, lots, rfl, upd_same, hx.tk (TK.of s0), hy.same stays_lot s0, gd, lo, hl, fun H' kp is => q H' (fun b o e => kp b o (s0 _ _ e) (ne_of_none e hp)) is⟩
theorem scLTheory : FnScope ["_law_bag_here", "_law_marks_here", "_law_upto", "_law_some"] ["_law_bag_here", "_law_marks_here", "_law_upto"] (defScope sLTheory) := ⟨rfl, rfl, rfl, by decide +kernel, rfl, by decide +kernel, by decide +kernel⟩
theorem ok_lTheory (T : Txt K mg) : FnOk P w K mg base CX0 8 T.lTheory.f T.lTheory.fd ["_law_bag_here", "_law_marks_here", "_law_upto"] (spLTheory T.rules.C T.table.C) := by
  have G : FnOk P w K mg base CX0 1 T.lTake.f T.lTake.fd ["_law_bag_here", "_law_many"] spTake := ok_lTake T
  have GT : FnOk P w K mg base CX0 3 T.lTable.f T.lTable.fd ["_law_bag_here", "_law_marks_here", "_law_many"] spLTable := ok_lTable T
  have GR : FnOk P w K mg base CX0 5 T.lSomeRows.f T.lSomeRows.fd ["_law_bag_here", "_law_marks_here", "_law_many"] spSomeRows := ok_lSomeRows T
  have GI : FnOk P w K mg base CX0 6 T.rules.init.f T.rules.init.fd ["self", "marks", "rows"] (spRInit T.rules.C) := ok_rInit T
  have GJ : FnOk P w K mg base CX0 4 T.table.init.f T.table.init.fd ["self", "marks", "lots"] (spTInit T.table.C) := ok_tInit T
  refine T.lTheory.F.ok scLTheory (fun vs H Q E h => ?_) (fun cdv A outer s H vs Q E hr h => ?_)
  · obtain ⟨_, _, _, _, _, rfl, _⟩ := h
    rfl
  · obtain ⟨b, a, mv, marks, n, rfl, hn, hb, gd, hm, q⟩ := h
    have nd := scLTheory.nd
    have five := gd.len
    refine ⟨_, pss_cons (ps_if (pt_cmp (pc_eqI (pe_d T.lTake G (hr.mono (by decide)) (pa_cons (pv 0) (pa_cons pe_int pa_nil))) pe_int))
        (pss_cons (ps_set (i := 3) nd rfl (Or.inl rfl) (pe_d T.lTable GT (hr.mono (by decide)) (pa_cons (pv 0) (pa_cons (pv 1) (pa_cons (pv 2) pa_nil)))))
        (pss_one (ps_ret (pe_tup (pa_cons pe_str (pa_cons (pv 3) (pa_cons (pe_make T.table.made GJ (hr.mono (by decide)) rfl T.table.g T.table.init.b .nil pass0 (pa_cons (pv 1) (pa_cons (pe_callTy call_list_of (by rfl) T.zList (by decide +kernel) (pa_cons (pv 3) pa_nil)) pa_nil))) pa_nil))))))) pss_nil)
      (pss_cons (ps_set (i := 3) nd rfl (Or.inl rfl) (pe_d T.lSomeRows GR (hr.mono (by decide)) (pa_cons (pv 0) (pa_cons (pv 1) (pa_cons (pv 2) pa_nil)))))
      (pss_one (ps_ret (pe_tup (pa_cons pe_str (pa_cons (pv 3) (pa_cons (pe_make T.rules.made GI (hr.mono (by decide)) rfl T.rules.g T.rules.init.b .nil pass0 (pa_cons (pv 1) (pa_cons (pe_callTy call_list_of (by rfl) T.zList (by decide +kernel) (pa_cons (pv 3) pa_nil)) pa_nil))) pa_nil))))))), ?_⟩
    refine ⟨_, rfl, b, a, 3, rfl, hb, by decide, by decide, fun H1 v o1 g0 g1 => ⟨_, _, rfl, rfl, _, rfl, ite2 (fun c => ?_) (fun c => ?_)⟩⟩
    · refine ⟨_, rfl, _, rfl, _, rfl, b, a, mv, marks, n, rfl, hn, o1.bag, hm.tk (o1.tk hb), gd.ss, five, fun H2 sv lots o2 hs lo hl => ?_⟩
      have o12 := o1.trans o2
      obtain ⟨sp, xs, rfl, hsp, hxs⟩ := hs
      refine ⟨_, rfl, _, rfl, _, rfl, sp, xs, rfl, .inl (SqL.of hsp), fun l2 hl2 => ?_⟩
      have s3 : Same H2 (upd H2 l2 (.lst xs)) := same_new hl2
      intro tp dx q1 q2 q3
      refine mk_tableR q1 q2 q3 (hm.tk ((o12.tk hb).trans (TK.of s3))) ⟨l2, xs, rfl, upd_same, stays_lot.each (TK.of s3) hxs⟩ gd lo (by omega) fun H4 s4 it => ⟨rfl, by show 3 ≤ sizeLine; decide, fun p hp => ?_⟩
      have s5 : Same H4 (upd H4 p (.tup [.str "table", .ref sp, .ref tp])) := same_new hp
      have s345 := (s3.trans s4).trans s5
      exact q _ p _ _ tp (clT marks lots) (o12.same s345) upd_same (.inr ⟨rfl, lots, ⟨sp, xs, rfl, s345 _ _ hsp, stays_lot.each (TK.of s345) hxs⟩, lo, by omega, rfl⟩) (.inr ⟨gd, lots, it.same s5, lo, by omega, rfl⟩)
    · refine ⟨_, rfl, _, rfl, _, rfl, b, a, mv, marks, n, rfl, hn, o1.bag, hm.tk (o1.tk hb), gd.ss, five, fun H2 sv rows o2 hs ro hl => ?_⟩
      have o12 := o1.trans o2
      obtain ⟨sp, xs, rfl, hsp, hxs⟩ := hs
      refine ⟨_, rfl, _, rfl, _, rfl, sp, xs, rfl, .inl (SqL.of hsp), fun l2 hl2 => ?_⟩
      have s3 : Same H2 (upd H2 l2 (.lst xs)) := same_new hl2
      intro tp dx q1 q2 q3
      refine mk_rulesR q1 q2 q3 (hm.tk ((o12.tk hb).trans (TK.of s3))) ⟨l2, xs, rfl, upd_same, stays_row.each (TK.of s3) hxs⟩ gd ro (by omega) fun H4 s4 it => ⟨rfl, by show 3 ≤ sizeLine; decide, fun p hp => ?_⟩
      have s5 : Same H4 (upd H4 p (.tup [.str "rules", .ref sp, .ref tp])) := same_new hp
      have s345 := (s3.trans s4).trans s5
      exact q _ p _ _ tp (clR marks rows) (o12.same s345) upd_same (.inl ⟨rfl, rows, ⟨sp, xs, rfl, s345 _ _ hsp, stays_row.each (TK.of s345) hxs⟩, ro, by omega, rfl⟩) (.inl ⟨gd, rows, it.same s5, ro, by omega, rfl⟩)

theorem scLMade : FnScope ["_law_marks_here", "_law_given"] ["_law_marks_here", "_law_given"] (defScope sLMadeKnown) := ⟨rfl, rfl, rfl, by decide +kernel, rfl, by decide +kernel, by decide +kernel⟩
theorem ok_lMade (T : Txt K mg) : FnOk P w K mg base CX0 8 T.lMadeKnown.f T.lMadeKnown.fd ["_law_marks_here", "_law_given"] (spLMade T.rules.C) := by
  have GI : FnOk P w K mg base CX0 6 T.rules.init.f T.rules.init.fd ["self", "marks", "rows"] (spRInit T.rules.C) := ok_rInit T
  refine T.lMadeKnown.F.ok scLMade (fun vs H Q E h => ?_) (fun cdv A outer s H vs Q E hr h => ?_)
  · obtain ⟨_, _, _, _, rfl, _⟩ := h
    rfl
  · obtain ⟨mv, gv, marks, rows, rfl, gd, hm, ⟨ro, hl, hg⟩, q⟩ := h
    refine ⟨_, pss_one (ps_ret (pe_ifExp (pt_cmp (pc_isN (pv 1))) pe_non (pe_make T.rules.made GI hr rfl T.rules.g T.rules.init.b .nil pass0 (pa_cons (pv 0) (pa_cons (pe_callTy call_list_of (by rfl) T.zList (by decide +kernel) (pa_cons (pv 1) pa_nil)) pa_nil))))), ?_⟩
    rcases hg with ⟨rfl, rfl⟩ | ⟨p, xs, rfl, hp, hxs⟩
    · exact ⟨_, rfl, true, by rfl, iteT (q _ _ (Same.refl _) ⟨ro, by omega, .inl ⟨rfl, rfl⟩⟩)⟩
    · refine ⟨_, rfl, false, by rfl, iteF ⟨_, rfl, _, rfl, p, xs, rfl, .inl (SqL.of hp), fun l2 hl2 => ?_⟩⟩
      have s3 : Same H (upd H l2 (.lst xs)) := same_new hl2
      intro tp dx q1 q2 q3
      exact mk_rulesR q1 q2 q3 (hm.tk (TK.of s3)) ⟨l2, xs, rfl, upd_same, stays_row.each (TK.of s3) hxs⟩ gd ro (by omega) fun H4 s4 it => ⟨rfl, q _ _ (s3.trans s4) ⟨ro, by omega, .inr ⟨tp, rfl, it⟩⟩⟩

theorem paired_get' {α β : Type} {R : α → β → Prop} : ∀ {xs : List α} {bs : List β} {i : Nat} {y : β}, Paired R xs bs → bs[i]? = some y → ∃ x, xs[i]? = some x ∧ R x y
  | _, _, _, _, .nil, e => by simp at e
  | _, _, 0, _, .cons r _, e => by simp at e; subst e; exact ⟨_, rfl, r⟩
  | _, _, i + 1, y, .cons _ t, e => by
    obtain ⟨x, h1, h2⟩ := paired_get' (i := i) (y := y) t (by simpa using e)
    exact ⟨x, by simpa using h1, h2⟩
theorem scLKnown : FnScope ["_law_bag_here", "_law_ends_here", "_law_found", "_law_k", "_law_lot_here", "_law_mark"] ["_law_bag_here", "_law_ends_here"] (defScope sLKnownRows) := ⟨rfl, rfl, rfl, by decide +kernel, rfl, by decide +kernel, by decide +kernel⟩
theorem ok_lKnown (T : Txt K mg) : FnOk P w K mg base CX0 3 T.lKnownRows.f T.lKnownRows.fd ["_law_bag_here", "_law_ends_here"] spLKnown := by
  have G : FnOk P w K mg base CX0 1 T.lTake.f T.lTake.fd ["_law_bag_here", "_law_many"] spTake := ok_lTake T
  have GO : FnOk P w K mg base CX0 2 T.lOne.f T.lOne.fd ["_law_bag_here", "_law_things"] spOne := ok_lOne T
  refine T.lKnownRows.F.ok scLKnown (fun vs H Q E h => ?_) (fun cdv A outer s H vs Q E hr h => ?_)
  · obtain ⟨_, _, _, _, _, rfl, _⟩ := h
    rfl
  · obtain ⟨b, a, ev, marks, Tc, rfl, hb, gd, ty, he, q⟩ := h
    have nd := scLKnown.nd
    have r1 : Room 1 _ := hr.mono (by decide)
    refine ⟨_, pss_cons (ps_if (pt_cmp (pc_eqI (pe_d T.lTake G r1 (pa_cons (pv 0) (pa_cons pe_int pa_nil))) pe_int)) (pss_one (ps_ret pe_non)) pss_nil)
      (pss_cons (ps_set (i := 2) nd rfl (Or.inl rfl) (pe_lst pa_nil))
      (pss_cons (ps_for PassesOwn.never rfl (pi_range1 (by rfl) T.zRange (pa_cons (pe_d T.lTake G r1 (pa_cons (pv 0) (pa_cons pe_int pa_nil))) pa_nil)) (pg_name (i := 3) nd rfl (Or.inl rfl))
        (pss_cons (ps_set (i := 4) nd rfl (Or.inl rfl) (pe_d T.lOne GO hr (pa_cons (pv 0) (pa_cons (pe_callTy (call_list_dT rfl) (by rfl) T.zList (by decide +kernel) (pa_cons (pv 1) pa_nil)) pa_nil))))
        (pss_one (ps_expr (pe_bm PySem.F.plainAttrs_list PySem.F.slot_list_append PySem.F.type_list_append mt_append (pv 2) (pa_cons (pe_tup (pa_cons (pv 4) (pa_cons
          (pe_callTy call_tuple_of (by rfl) T.zTuple (by decide +kernel) (pa_cons (pe_lc (own := [("_law_mark", 5)]) (g := gName 5) rfl nd (pi_tup (pe_dget (room1 hr) (pv 1) (pv 4) (fun _ _ => rfl))) (blkOk_by (N := ["_law_bag_here", "_law_ends_here", "_law_found", "_law_k", "_law_lot_here", "_law_mark"]) (sc := defScope sLKnownRows) (by decide +kernel))
            (fun _ _ _ _ _ => pg_name (i := 5) nd rfl (Or.inl rfl)) (fun _ _ _ _ _ => pts_one (pt_cmp (pc_gt (pe_d T.lTake G r1 (pa_cons (pv 0) (pa_cons pe_int pa_nil))) pe_int))) (fun _ _ _ _ _ => pv 5)) pa_nil)) pa_nil))) pa_nil))))))
      (pss_one (ps_ret (pv 2))))), ?_⟩
    refine ⟨_, rfl, b, a, 2, rfl, hb, by decide, by decide, fun H1 v o1 g0 g1 => ⟨_, _, rfl, rfl, _, rfl, ite2 (fun c => ?_) (fun c => ?_)⟩⟩
    · exact q _ _ [] o1 ⟨fun r hr2 => (by cases hr2), Nat.zero_le _, .inl ⟨rfl, rfl⟩⟩
    refine ⟨Nat.zero_le _, fun f hf => ?_⟩
    have hf0 : H f = none := by
      cases hc : H f with
      | none => rfl
      | some o =>
        by_cases e : f = b
        · rw [e] at hf
          obtain ⟨ys, z⟩ := o1.bag.lst
          rw [hf] at z
          cases z
        · have := o1.lst e hc
          rw [hf] at this
          cases this
    have o2 : On b a H (upd H1 f (.lst [])) := o1.same (same_new hf)
    have nfb : f ≠ b := by
      obtain ⟨ys, e⟩ := hb.lst
      exact (ne_of_none e hf0).symm
    refine ⟨_, rfl, b, a, 4, rfl, o2.bag, by decide, by decide, fun H2 v2 o3 k0 k1 => ?_⟩
    obtain ⟨n, rfl, hn⟩ := nat_of k0 k1
    have hn : n < 4 := hn
    refine ⟨_, rfl, by omega, by omega, for_range (lo := 0) (n := n) (fun i σ H' => ∃ (kv lv : Option V) (ys : List V) (rows : List Row), σ = [some (V.ref b), some ev, some (V.ref f), kv, lv, none] ∧ On b a H H' ∧ H' f = some (.lst ys) ∧ Each RowAt H' ys rows ∧ RowsOf marks rows ∧ rows.length ≤ i)
      ⟨none, none, [], [], rfl, o2.trans o3, o3.lst nfb upd_same, .nil, fun r hr2 => (by cases hr2), Nat.le_refl _⟩ ?_ ?_⟩
    · rintro i σ H' hi ⟨kv, lv, ys, rows, rfl, o, hF, hys, ro, hl⟩
      have he' := he.on hb o
      obtain ⟨d, kvs, rfl, hd, hk1, hk2⟩ := he'
      have yl : ys.length ≤ 4 := by rw [hys.length]; omega
      refine ⟨_, rfl, _, rfl, d, kvs, rfl, .inl hd, fun p bs hp hbs => ?_⟩
      have o4 : On b a H' (upd H' p (.lst (bs.map V.ref))) := On.of o.bag (same_new hp)
      have npb : p ≠ b := by
        obtain ⟨zs, e⟩ := o.bag.lst
        exact (ne_of_none e hp).symm
      have kl : kvs.length = (allLots marks).length := by
        have := congrArg List.length hk1
        rwa [List.length_map, List.length_map] at this
      have bl : bs.length = kvs.length := hbs.length.symm
      have a1 := all_ne marks
      have a2 := all_le gd
      refine ⟨b, a, p, bs.map V.ref, rfl, o4.bag, npb, upd_same, by rw [List.length_map]; omega, by rw [List.length_map]; omega, fun H3 i2 lv2 o5 hlv => ?_⟩
      rw [List.getElem?_map] at hlv
      cases hb2 : bs[i2]? with
      | none => rw [hb2] at hlv; cases hlv
      | some lp =>
        rw [hb2] at hlv
        obtain rfl := Option.some.inj hlv
        obtain ⟨kvp, hkv, hlp0⟩ := paired_get' hbs hb2
        have hmem : kvp.1 ∈ (allLots marks).map keyL := by
          rw [← hk1]
          exact List.mem_map.mpr ⟨kvp, List.mem_of_getElem? hkv, rfl⟩
        obtain ⟨l, hl1, hl2⟩ := List.mem_map.mp hmem
        have ol := (all_mem gd.ss).mp hl1
        rw [← hl2, keyL_kV] at hlp0
        have o45 := o4.trans o5
        have hlp : H3 lp = some (.tup (l.map V.str)) := o45.tup o.bag hlp0
        have ndb : d ≠ b := by
          rintro rfl
          obtain ⟨zs, z⟩ := o.bag.lst
          rw [z] at hd
          cases hd
        have hd3 := o45.lst ndb hd
        have hF3 := o45.lst nfb hF
        obtain ⟨x, hx1, hx2⟩ := hk2 l hl1
        obtain ⟨ep, rfl, hep⟩ := hx2.tk (o45.tk o.bag)
        have oT := ty.of_ l ol
        have kT := gd.le oT
        refine ⟨_, rfl, .inl ⟨rfl, _, SqL.of hF3⟩, _, rfl, _, rfl, _, rfl, d, .ref ep, rfl, ?_, ep, rfl, ⟨_, SqT.of hep⟩, fun D hD => ?_⟩
        · rw [← hx1]
          exact DGet.t hd3 (by rw [keyL_kV]; exact hlp)
        refine lcg_tup (xs := (Tc l).map V.str) (On b a H3) StrAt (fun i cs => cs.Sublist ((Tc l).take i)) stays_str (by rw [List.length_map]; exact small_line (by omega)) (on_g0 o45.bag hD) (on_gD o45.bag hD) (fun H4 k => SqT.of (k.tup o45.bag hep)) (List.nil_sublist _) ?_ ?_
        · intro j x hx H4 cs KY KN go hac pc ky kn
          obtain ⟨m, hm, rfl⟩ := strs_get hx
          have nDb : D ≠ b := by
            obtain ⟨ys, e⟩ := o45.bag.lst
            exact (ne_of_none e hD).symm
          refine ⟨rfl, _, rfl, b, a, 3, rfl, go.bag, by decide, by decide, fun H5 v5 o6 j0 j1 => ⟨_, _, rfl, rfl, _, rfl, ?_⟩⟩
          have kp : H5 D = H4 D := by
            obtain ⟨ac, e⟩ := hac
            rw [e]
            exact o6.lst nDb e
          refine ite2 (fun c2 => ?_) (fun c2 => ?_)
          · refine ⟨_, rfl, ky m _ _ ?_ (go.trans o6) (o6.tk go.bag) kp rfl⟩
            show (cs ++ [m]).Sublist _
            rw [take_snoc hm]
            exact pc.append (List.Sublist.refl _)
          · refine kn _ ?_ (go.trans o6) (o6.tk go.bag) kp
            show cs.Sublist _
            rw [take_snoc hm]
            exact pc.trans (List.sublist_append_left _ _)
        · intro H4 acc cs go hA heA pc
          rw [strs_of heA] at hA
          rw [List.length_map, List.take_length] at pc
          refine ⟨D, _, rfl, .inl ⟨SqL.of hA, fun tp htp => ⟨by show 2 ≤ sizeLine; decide, fun rp hrp => ?_⟩⟩⟩
          have s5 : Same H4 (upd H4 tp (.tup (cs.map V.str))) := same_new htp
          have s6 : Same (upd H4 tp (.tup (cs.map V.str))) (upd (upd H4 tp (.tup (cs.map V.str))) rp (.tup [.ref lp, .ref tp])) := same_new hrp
          have oo : On b a H' _ := (((o45.trans go).same s5).same s6)
          have hF6 := oo.lst nfb hF
          have tk7 : TK (upd (upd H4 tp (.tup (cs.map V.str))) rp (.tup [.ref lp, .ref tp])) (upd (upd (upd H4 tp (.tup (cs.map V.str))) rp (.tup [.ref lp, .ref tp])) f (.lst (ys ++ [.ref rp]))) := TK.put (.inr ⟨ys, hF6⟩)
          have hlp6 := ((go.tk o45.bag).trans (TK.of (s5.trans s6))) _ _ hlp
          refine ⟨f, ys, .ref rp, rfl, rfl, hF6, small_line (by omega), _, _, _, rows ++ [(l, cs)], rfl, (o.trans oo).put hb hf0, upd_same, ?_, ?_, ?_⟩
          · exact each_snoc (stays_row.each ((oo.tk o.bag).trans tk7) hys) (RowAt.tk ⟨rp, _, _, rfl, upd_same, ⟨lp, rfl, hlp6⟩, ⟨tp, rfl, s6 _ _ upd_same⟩⟩ tk7)
          · intro r hr2
            rcases List.mem_append.mp hr2 with z | z
            · exact ro r z
            · rw [List.mem_singleton.mp z]
              exact ⟨ol, oT.1.sublist pc, fun m hm => oT.2 m (pc.subset hm)⟩
          · rw [List.length_append, List.length_singleton]
            omega
    · rintro σ H' ⟨kv, lv, ys, rows, rfl, o, hF, hys, ro, hl⟩
      exact ⟨_, rfl, q _ _ rows o ⟨ro, by omega, .inr ⟨f, ys, rfl, hF, hys⟩⟩⟩

theorem On.free {b a p : Addr} {H H' : Hp} (o : On b a H H') (h : H' p = none) : H p = none := by
  cases hc : H p with
  | none => rfl
  | some u =>
    by_cases e : p = b
    · rw [e] at h
      obtain ⟨ys, z⟩ := o.bag.lst
      rw [h] at z
      cases z
    · have := o.lst e hc
      rw [h] at this
      cases this
theorem shut_one (r : Row) (l : Lot) : shut [r] l = keeps l r := by simp [shut]
theorem shut_parts (a : Lot) (bs : Lot) (l : Lot) : shut (bs.map fun m => (a, [m])) l = keeps l (a, bs) := by
  rw [Bool.eq_iff_iff, shut_iff, keeps_iff]
  constructor
  · intro h k
    exact wi_iff.mpr fun m hm => wi_iff.mp (h (a, [m]) (List.mem_map.mpr ⟨m, hm, rfl⟩) k) m (by simp)
  · intro h r hr k
    obtain ⟨m, hm, rfl⟩ := List.mem_map.mp hr
    exact wi_iff.mpr fun x hx => by
      rw [List.mem_singleton.mp hx]
      exact wi_iff.mp (h k) m hm
theorem keeps_wide (Tc : Lot → Lot) (a l : Lot) : keeps l (a, Tc a) = keeps l (a, wo (Tc a) a) := by
  unfold keeps
  cases c : wi a l with
  | false => rfl
  | true => show (!(true && !wi (Tc a) l)) = (!(true && !wi (wo (Tc a) a) l)); rw [wi_rest c]
theorem shut_perm {a b : List Row} (p : a.Perm b) (l : Lot) : shut a l = shut b l := by
  rw [Bool.eq_iff_iff, shut_iff, shut_iff]
  exact ⟨fun h r hr => h r (p.mem_iff.mpr hr), fun h r hr => h r (p.mem_iff.mp hr)⟩
theorem scLTold : FnScope ["_law_bag_here", "_law_ends_here", "_law_rows", "_law_found", "_law_ahead", "_law_behind", "_law_way", "_law_mark"] ["_law_bag_here", "_law_ends_here", "_law_rows"] (defScope sLToldPart) := ⟨rfl, rfl, rfl, by decide +kernel, rfl, by decide +kernel, by decide +kernel⟩
theorem ok_lTold (T : Txt K mg) : FnOk P w K mg base CX0 3 T.lToldPart.f T.lToldPart.fd ["_law_bag_here", "_law_ends_here", "_law_rows"] spLTold := by
  have G : FnOk P w K mg base CX0 1 T.lTake.f T.lTake.fd ["_law_bag_here", "_law_many"] spTake := ok_lTake T
  have GM : FnOk P w K mg base CX0 2 T.lMixed.f T.lMixed.fd ["_law_bag_here", "_law_things"] (spMixed false) := ok_lMixedL T
  refine T.lToldPart.F.ok scLTold (fun vs H Q E h => ?_) (fun cdv A outer s H vs Q E hr h => ?_)
  · obtain ⟨_, _, _, _, _, _, _, rfl, _⟩ := h
    rfl
  · obtain ⟨b, a, ev, _, marks, Tc, rows, rfl, hb, gd, ty, he, ⟨rp, xs, rfl, hrp, hxs⟩, hl, hrows, q⟩ := h
    have nd := scLTold.nd
    have r1 : Room 1 _ := hr.mono (by decide)
    refine ⟨_, pss_cons (ps_set (i := 3) nd rfl (Or.inl rfl) (pe_lst pa_nil))
      (pss_cons (ps_for PassesOwn.never rfl (pi_list (pv 2)) (pg_tup rfl (pgs_cons (pg_name (i := 4) nd rfl (Or.inr rfl)) (pgs_cons (pg_name (i := 5) nd rfl (Or.inl rfl)) pgs_nil)))
        (pss_cons (ps_set (i := 6) nd rfl (Or.inl rfl) (pe_d T.lTake G r1 (pa_cons (pv 0) (pa_cons pe_int pa_nil))))
        (pss_one (ps_if (pt_cmp (pc_eqI (pv 6) pe_int))
          (pss_one (ps_expr (pe_bm PySem.F.plainAttrs_list PySem.F.slot_list_append PySem.F.type_list_append mt_append (pv 3) (pa_cons (pe_tup (pa_cons (pv 4) (pa_cons (pe_dget (room1 hr) (pv 1) (pv 4) (fun _ _ => rfl)) pa_nil))) pa_nil))))
          (pss_one (ps_if (PW.pt (pw_and (pt_cmp (pc_eqI (pv 6) pe_int)) (pw_and1 (pt_cmp (pc_lt (pe_callB call_len2 (by rfl) T.zLen PySem.boot_len (pa_cons (pv 3) pa_nil)) pe_int)))))
            (pss_one (ps_set (i := 3) nd rfl (Or.inl rfl) (pe_op op_cat (pv 3)
              (pe_lc (own := [("_law_mark", 7)]) (g := gName 7) (tt := tYes) rfl nd (pi_tup (pv 5)) (blkOk_by (N := ["_law_bag_here", "_law_ends_here", "_law_rows", "_law_found", "_law_ahead", "_law_behind", "_law_way", "_law_mark"]) (sc := defScope sLToldPart) (by decide +kernel))
                (fun _ _ _ _ _ => pg_name (i := 7) nd rfl (Or.inl rfl)) (fun _ _ _ _ _ => pts_nil) (fun _ _ _ _ _ => pe_tup (pa_cons (pv 4) (pa_cons (pe_tup (pa_cons (pv 7) pa_nil)) pa_nil)))))))
            (pss_one (ps_expr (pe_bm PySem.F.plainAttrs_list PySem.F.slot_list_append PySem.F.type_list_append mt_append (pv 3) (pa_cons (pe_tup (pa_cons (pv 4) (pa_cons (pv 5) pa_nil))) pa_nil))))))))))
      (pss_one (ps_ret (pe_d T.lMixed GM hr (pa_cons (pv 0) (pa_cons (pv 3) pa_nil)))))), ?_⟩
    refine ⟨Nat.zero_le _, fun f hf => ?_⟩
    have nrb : rp ≠ b := ne_bag noint_row hrp hxs hb
    have o1 : On b a H (upd H f (.lst [])) := On.of hb (same_new hf)
    let Pv : Nat → L2.St → Hp → Prop := fun i σ H' => ∃ (av bv wv : Option V) (fa : Addr) (ys : List V) (F : List Row), σ = [some (V.ref b), some ev, some (V.ref rp), some (V.ref fa), av, bv, wv, none] ∧ On b a H H' ∧ H fa = none ∧ H' fa = some (.lst ys) ∧ Each RowAt H' ys F ∧ RowsOf marks F ∧ F.length ≤ 5 * i ∧ ∀ l, shut F l = shut (rows.take i) l
    refine ⟨_, rfl, rp, rfl, ⟨_, SqL.of (o1.lst nrb hrp)⟩, for_list (K := K) (a := rp) (xs := xs) Pv
      ⟨none, none, none, f, [], [], rfl, o1, hf, upd_same, .nil, fun r hr2 => (by cases hr2), Nat.le_refl _, fun l => rfl⟩ (fun i σ H' _ ⟨_, _, _, _, _, _, _, o, _⟩ => SqL.of (o.lst nrb hrp)) ?_ ?_⟩
    · rintro i x σ H' hx ⟨av, bv, wv, fa, ys, F, rfl, o, hfa, hF, hys, ro, hFl, hsh⟩
      obtain ⟨r, hr2, hrow⟩ := each_get hxs hx
      obtain ⟨t, xa, xb, rfl, ht, hxa, hxb⟩ := hrow.tk (o.tk hb)
      obtain ⟨oA, eR⟩ := hrows r (List.mem_of_getElem? hr2)
      have hi := (List.getElem?_eq_some_iff.mp hr2).1
      have oT := ty.of_ r.1 oA
      have oB : Of marks r.2 := by rw [eR]; exact oT.wo
      have kB := gd.le oB
      have nfb : fa ≠ b := by
        obtain ⟨zs, e⟩ := hb.lst
        exact (ne_of_none e hfa).symm
      have yl : ys.length ≤ 160 := by rw [hys.length]; omega
      have sh1 : ∀ l, shut (rows.take (i + 1)) l = (shut F l && keeps l r) := fun l => by rw [take_snoc hr2, shut_append, shut_one, hsh]
      have app : ∀ (H3 : Hp) (z : V) (r2 : Lot) (n : Addr) (wv : Option V), On b a H' H3 → LotAt H3 z r2 → Of marks r2 → (∀ l, keeps l (r.1, r2) = keeps l r) → H3 n = none →
          (upd H3 n (.tup [xa, z])) fa = some (.lst ys) ∧ Pv (i + 1) [some (V.ref b), some ev, some (V.ref rp), some (V.ref fa), some xa, some xb, wv, none] (upd (upd H3 n (.tup [xa, z])) fa (.lst (ys ++ [.ref n]))) := by
        intro H3 z r2 n wv o3 hz oz hk hn
        have oo := o3.same (same_new (o := .tup [xa, z]) hn)
        have hF3 := oo.lst nfb hF
        have tk : TK (upd H3 n (.tup [xa, z])) (upd (upd H3 n (.tup [xa, z])) fa (.lst (ys ++ [.ref n]))) := TK.put (.inr ⟨ys, hF3⟩)
        refine ⟨hF3, some xa, some xb, wv, fa, ys ++ [.ref n], F ++ [(r.1, r2)], rfl, (o.trans oo).put hb hfa, hfa, upd_same, ?_, ?_, ?_, ?_⟩
        · exact each_snoc (stays_row.each ((oo.tk o.bag).trans tk) hys) (RowAt.tk ⟨n, _, _, rfl, upd_same, hxa.tk (oo.tk o.bag), hz.tk (TK.new hn)⟩ tk)
        · intro r' hr'
          rcases List.mem_append.mp hr' with h | h
          · exact ro r' h
          · rw [List.mem_singleton.mp h]
            exact ⟨oA, oz⟩
        · rw [List.length_append, List.length_singleton]
          omega
        · intro l
          rw [shut_append, shut_one, hk, sh1]
      refine ⟨t, _, rfl, SqT.of ht, rfl, xa, [xb], rfl, xb, [], rfl, rfl, ?_⟩
      refine ⟨_, rfl, b, a, 3, rfl, o.bag, by decide, by decide, fun H2 v o2 g0 g1 => ?_⟩
      have hF2 := o2.lst nfb hF
      have tk2 := o2.tk o.bag
      refine ⟨_, rfl, _, _, rfl, rfl, _, rfl, ite2 (fun c => ?_) (fun c => ?_)⟩
      · obtain ⟨d, kvs, rfl, hd, hk1, hk2⟩ := he.on hb (o.trans o2)
        obtain ⟨ap, rfl, hap⟩ := hxa.tk tk2
        obtain ⟨z, hz1, hz2⟩ := hk2 r.1 ((all_mem gd.ss).mpr oA)
        refine ⟨_, rfl, .inl ⟨rfl, _, SqL.of hF2⟩, _, rfl, _, rfl, _, rfl, d, z, rfl, ?_, by show 2 ≤ sizeLine; decide, fun n hn => ?_⟩
        · rw [← hz1]
          exact DGet.t hd (by rw [keyL_kV]; exact hap)
        · obtain ⟨h1, h2⟩ := app H2 z (Tc r.1) n (some (.int v)) o2 hz2 oT (fun l => by rw [keeps_wide, eR]; rfl) hn
          exact ⟨fa, ys, _, rfl, rfl, h1, small_line (by omega), h2⟩
      · refine ⟨_, rfl, _, _, rfl, rfl, _, rfl, ?_⟩
        have plain : ∀ n, H2 n = none → _ := fun n hn => app H2 xb r.2 n (some (.int v)) o2 (hxb.tk tk2) oB (fun l => rfl) hn
        refine ite2 (fun c1 => ?_) (fun c1 => ?_)
        · refine ⟨_, rfl, fa, _, rfl, .inl hF2, _, _, rfl, rfl, _, rfl, ite2 (fun c2 => ?_) (fun c2 => ?_)⟩
          · obtain ⟨bp, rfl, hbp⟩ := hxb.tk tk2
            have hxa2 := hxa.tk tk2
            refine ⟨_, rfl, _, rfl, bp, rfl, ⟨_, SqT.of hbp⟩, fun D hD => lcg_tup (xs := r.2.map V.str) (Same H2) RowAt (fun j cs => cs = (r.2.take j).map fun m => (r.1, [m])) stays_row (by rw [List.length_map]; exact small_line (by omega)) (same_new hD) (same_gD hD) (fun H4 k => SqT.of (k _ _ hbp)) rfl ?_ ?_⟩
            · intro j y hy H4 cs KY KN go hac pc ky kn
              obtain ⟨m, hm, rfl⟩ := strs_get hy
              refine ⟨rfl, yes ⟨_, rfl, _, rfl, by show 1 ≤ sizeLine; decide, fun n1 hn1 => ⟨by show 2 ≤ sizeLine; decide, fun n2 hn2 => ky (r.1, [m]) _ _ ?_ (go.trans ((same_new hn1).trans (same_new hn2))) ((TK.new hn1).trans (TK.new hn2)) ?_ ⟨n2, _, _, rfl, upd_same, hxa2.tk (TK.of (go.trans ((same_new hn1).trans (same_new hn2)))), ⟨n1, rfl, same_new hn2 _ _ upd_same⟩⟩⟩⟩⟩
              · show cs ++ _ = _
                rw [pc, take_snoc hm, List.map_append]
                rfl
              · obtain ⟨ac, e⟩ := hac
                rw [e]
                exact same_new hn2 _ _ (same_new hn1 _ _ e)
            · intro H4 acc cs go hA heA pc
              rw [List.length_map, List.take_length] at pc
              refine ⟨fa, D, ys, acc, rfl, rfl, go _ _ hF2, hA, ?_, fun p hp => ?_⟩
              · rw [heA.length, pc, List.length_map]
                exact Nat.le_of_lt (small_line (by omega))
              · have o4 := ((o.trans o2).same go).same (same_new (o := .lst (ys ++ acc)) hp)
                refine ⟨_, _, _, p, ys ++ acc, F ++ cs, rfl, o4, ((o.trans o2).same go).free hp, upd_same, each_append (stays_row.each ((tk2.trans (TK.of go)).trans (TK.new hp)) hys) (stays_row.each (TK.new hp) heA), ?_, ?_, ?_⟩
                · intro r' hr'
                  rcases List.mem_append.mp hr' with h | h
                  · exact ro r' h
                  · rw [pc] at h
                    obtain ⟨m, hm, rfl⟩ := List.mem_map.mp h
                    exact ⟨oA, List.pairwise_singleton _ _, fun x hx => by rw [List.mem_singleton.mp hx]; exact oB.2 m hm⟩
                · rw [List.length_append, pc, List.length_map]
                  omega
                · intro l
                  rw [shut_append, pc, shut_parts, sh1]
          · refine ⟨_, rfl, .inl ⟨rfl, _, SqL.of hF2⟩, _, rfl, _, rfl, by show 2 ≤ sizeLine; decide, fun n hn => ?_⟩
            obtain ⟨h1, h2⟩ := plain n hn
            exact ⟨fa, ys, _, rfl, rfl, h1, small_line (by omega), h2⟩
        · refine iteF ⟨_, rfl, .inl ⟨rfl, _, SqL.of hF2⟩, _, rfl, _, rfl, by show 2 ≤ sizeLine; decide, fun n hn => ?_⟩
          obtain ⟨h1, h2⟩ := plain n hn
          exact ⟨fa, ys, _, rfl, rfl, h1, small_line (by omega), h2⟩
    · rintro σ H' ⟨av, bv, wv, fa, ys, F, rfl, o, hfa, hF, hys, ro, hFl, hsh⟩
      have xl : xs.length = rows.length := hxs.length
      rw [xl, List.take_length] at hsh
      rw [xl] at hFl
      have nfb : fa ≠ b := by
        obtain ⟨zs, e⟩ := hb.lst
        exact (ne_of_none e hfa).symm
      refine ⟨_, rfl, _, rfl, b, a, fa, ys, rfl, o.bag, (if_neg (by decide)).mpr ⟨nfb, hF⟩, by rw [hys.length]; omega, fun H2 f2 zs o2 hf2 pm => ?_⟩
      obtain ⟨F2, pm2, hz⟩ := paired_perm pm.symm (stays_row.each (o2.tk o.bag) hys)
      refine q _ _ F2 (o.trans o2) ⟨f2, zs, rfl, hf2, hz⟩ (fun r hr2 => ro r (pm2.mem_iff.mpr hr2)) (by rw [← pm2.length_eq]; omega) fun l => ?_
      rw [← shut_perm pm2, hsh]
end
end K5
/-! K5w: the law's plain part: what is told leaves the rest. -/
namespace K5
open PySem PySem.Spec PyProof.Rows L2

/-- told part of the list (in any way), the needy lots are the rest -/
theorem law_rest {marks : Lot} {Tc : Lot → Lot} (gd : Good marks) (ty : Thy marks Tc) {given part told : List Row} (sub : ∀ r ∈ part, r ∈ (needyK marks Tc given).map (rowOfT Tc)) (hs : ∀ l, shut told l = shut part l) :
    needyK marks Tc (given ++ told) = (needyK marks Tc given).filter fun l => decide (rowOfT Tc l ∉ part) := by
  have q := needy_rest ty (kc := shut given) (kc' := shut (given ++ told)) (p := fun l => decide (rowOfT Tc l ∈ part)) (ls := allLots marks) (fun l hl => (all_mem gd.ss).mp hl) (all_nodup gd.ss) (all_up marks) (fun l hl => by
    rw [shut_append, Bool.and_eq_true, hs]
    refine and_congr_right fun _ => ?_
    rw [shut_iff]
    constructor
    · intro h z hz hp hw
      have := h (rowOfT Tc z) (of_decide_eq_true hp) hw
      rwa [show wi (rowOfT Tc z).2 l = wi (Tc z) l from wi_rest hw] at this
    · intro h r hr hw
      obtain ⟨z, hz, rfl⟩ := List.mem_map.mp (sub r hr)
      have := h z hz (decide_eq_true hr) hw
      rwa [show wi (rowOfT Tc z).2 l = wi (Tc z) l from wi_rest hw])
  show needyOf (shut (given ++ told)) Tc (allLots marks) = _
  rw [q]
  refine congrArg (fun f => List.filter f (needyK marks Tc given)) (funext fun l => ?_)
  by_cases c : rowOfT Tc l ∈ part <;> simp [c]
theorem rest_rows (Tc : Lot → Lot) (part : List Row) (ls : List Lot) : (ls.filter fun l => decide (rowOfT Tc l ∉ part)).map (rowOfT Tc) = (ls.map (rowOfT Tc)).filter fun r => decide (r ∉ part) := by
  rw [List.filter_map]
  rfl
theorem heads (Tc : Lot → Lot) (ls : List Lot) : (ls.map (rowOfT Tc)).map (·.1) = ls := by
  rw [List.map_map]
  exact List.map_id ls
theorem rows_any (part : List Row) (r : Row) : ((part.map rowD).any fun z => PyData.eqv z (rowD r)) = decide (r ∈ part) := by
  rw [List.any_map, Bool.eq_iff_iff, List.any_eq_true, decide_eq_true_eq]
  constructor
  · rintro ⟨x, hx, e⟩
    have e : PyData.eqv (rowD x) (rowD r) = true := e
    rw [eqv_row, decide_eq_true_eq] at e
    exact e ▸ hx
  · intro h
    exact ⟨r, h, by show PyData.eqv (rowD r) (rowD r) = true; rw [eqv_row]; exact decide_eq_true rfl⟩
/-- a theory of either class -/
def ThE (CR CT : Addr) (H : Hp) (p : Addr) (marks : Lot) (Tc : Lot → Lot) : Prop := ThR CR H p marks Tc ∨ ThT CT H p marks Tc
theorem ThE.on {CR CT : Addr} {H H' : Hp} {p : Addr} {marks : Lot} {Tc : Lot → Lot} {b a : Addr} (h : ThE CR CT H p marks Tc) (hb : Bag H b a) (o : On b a H H') : ThE CR CT H' p marks Tc := by
  have nb : ∀ {q : Addr} {u : HO}, H q = some u → (∀ xs, u ≠ .lst xs) → q ≠ b := fun {q u} e n z => by
    subst z
    obtain ⟨ys, y⟩ := hb.lst
    rw [y] at e
    exact n _ (Option.some.inj e).symm
  rcases h with ⟨gd, rows, ⟨dx, m, l, xs, h1, h2, h3, h4⟩, k⟩ | ⟨gd, lots, ⟨dx, m, l, xs, h1, h2, h3, h4⟩, k⟩
  · exact .inl ⟨gd, rows, ⟨dx, m, l, xs, o.lst (nb h1 (fun xs z => by cases z)) h1, o.tk hb _ _ h2, o.lst (ne_bag noint_row h3 h4 hb) h3, stays_row.each (o.tk hb) h4⟩, k⟩
  · exact .inr ⟨gd, lots, ⟨dx, m, l, xs, o.lst (nb h1 (fun xs z => by cases z)) h1, o.tk hb _ _ h2, o.lst (ne_bag noint_lot h3 h4 hb) h3, stays_lot.each (o.tk hb) h4⟩, k⟩
theorem ThE.same {CR CT : Addr} {H H' : Hp} {p : Addr} {marks : Lot} {Tc : Lot → Lot} (h : ThE CR CT H p marks Tc) (s : Same H H') : ThE CR CT H' p marks Tc := by
  rcases h with ⟨gd, rows, is, k⟩ | ⟨gd, lots, is, k⟩
  · exact .inl ⟨gd, rows, is.same s, k⟩
  · exact .inr ⟨gd, lots, is.same s, k⟩
theorem ThE.thy {CR CT : Addr} {H : Hp} {p : Addr} {marks : Lot} {Tc : Lot → Lot} (h : ThE CR CT H p marks Tc) : Good marks ∧ Thy marks Tc := by
  rcases h with ⟨gd, rows, _, _, _, rfl⟩ | ⟨gd, lots, _, _, _, rfl⟩
  · exact ⟨gd, thy_R rows gd.ss⟩
  · exact ⟨gd, thy_T lots gd.ss⟩
theorem fn_or {P : Program} {w : World} {K : PySem.W.Frag} {mg : Str → Option Value} {base : Heap} {k : Nat} {f : Addr} {fd : FuncData} {ps : List Str} {sp1 sp2 sp : Sp} (F1 : FnOk P w K mg base CX0 k f fd ps sp1) (F2 : FnOk P w K mg base CX0 k f fd ps sp2)
    (h : ∀ vs H Q E, sp vs H Q E → sp1 vs H Q E ∨ sp2 vs H Q E) : FnOk P w K mg base CX0 k f fd ps sp :=
  ⟨fun vs H Q E q => (h _ _ _ _ q).elim (F1.len _ _ _ _) (F2.len _ _ _ _), fun A outer s H args us vs Q E hr he hb hv hs => (h _ _ _ _ hs).elim (F1.run A outer s H args us vs Q E hr he hb hv) (F2.run A outer s H args us vs Q E hr he hb hv)⟩
/-- what stands while the two parts are drawn -/
structure Ctx5 (CR CT : Addr) (H : Hp) (b a : Addr) (mv : V) (tp : Addr) (ev gv wv : V) (marks : Lot) (Tc : Lot → Lot) (given : List Row) : Prop where
  bag : Bag H b a
  gd : Good marks
  ty : Thy marks Tc
  mm : LotAt H mv marks
  th : ThE CR CT H tp marks Tc
  en : EndsAt H ev marks Tc
  gv : GivenAt H gv marks given
  wh : ListAt RowAt H wv ((needyK marks Tc given).map (rowOfT Tc))
theorem GivenAt.on {H H' : Hp} {v : V} {marks : Lot} {rows : List Row} {b a : Addr} (h : GivenAt H v marks rows) (hb : Bag H b a) (o : On b a H H') : GivenAt H' v marks rows := ⟨h.1, h.2.1, h.2.2.imp id fun x => x.on stays_row noint_row hb o⟩
theorem Ctx5.on {CR CT : Addr} {H H' : Hp} {b a : Addr} {mv : V} {tp : Addr} {ev gv wv : V} {marks : Lot} {Tc : Lot → Lot} {given : List Row} (h : Ctx5 CR CT H b a mv tp ev gv wv marks Tc given) (o : On b a H H') : Ctx5 CR CT H' b a mv tp ev gv wv marks Tc given :=
  ⟨o.bag, h.gd, h.ty, h.mm.tk (o.tk h.bag), h.th.on h.bag o, h.en.on h.bag o, h.gv.on h.bag o, h.wh.on stays_row noint_row h.bag o⟩
/-- given or [] -/
theorem given_or {K : PySem.W.Frag} {σ : L2.St} {H : Hp} {gv : V} {marks : Lot} {given : List Row} {Q : VK} {i : Nat} (hσ : σ[i]? = some (some gv)) (hg : GivenAt H gv marks given) (q : ∀ H' p xs, Same H H' → H' p = some (.lst xs) → Each RowAt H' xs given → Q (.ref p) H') :
    tOrT K (tVar i) (tLst tNil) σ H Q := by
  have new : given = [] → (tLst tNil) σ H Q := fun e => ⟨Nat.zero_le _, fun p hp => q _ p [] (same_new hp) upd_same (by rw [e]; exact .nil)⟩
  obtain ⟨_, _, ⟨rfl, e⟩ | ⟨p, xs, rfl, hp, hx⟩⟩ := hg
  · exact ⟨_, hσ, false, rfl, iteF (new e)⟩
  · refine ⟨_, hσ, !xs.isEmpty, .inl ⟨xs, SqL.of hp, rfl⟩, ite2 (fun c => q _ p xs (Same.refl _) hp hx) (fun c => new ?_)⟩
    cases xs with
    | nil => cases hx; rfl
    | cons _ _ => exact absurd rfl c
theorem op_notInK {X : Cx} {K : PySem.W.Frag} (hK : X.K = K) (hu : X.A.units + 65 < cLine) : OpR X (compareOp .NotIn) (rNotInD K) := by
  subst hK
  exact op_notInD hu
theorem alike_rows {K : PySem.W.Frag} {H : Hp} {v v2 : V} {marks : Lot} {rows : List Row} (gd : Good marks) (h1 : ListAt RowAt H v rows) (h2 : ListAt RowAt H v2 rows) (ro : RowsOf marks rows) (hl : rows.length ≤ 100) : ∃ (p r : Addr), v = V.ref p ∧ v2 = V.ref r ∧ Dp K H (.ref p) (rowsD rows) ∧ Dp K H (.ref r) (rowsD rows) ∧ PyData.eqv (rowsD rows) (rowsD rows) = true ∧ SeqAt.shaped (rowsD rows) = true ∧ (rowsD rows).showable = true ∧ (rowsD rows).hasDict = false ∧ (rowsD rows).depth ≤ 60 ∧ (rowsD rows).shown.length ≤ sizeLine := by
  have d1 := dp_rows (K := K) h1
  have d2 := dp_rows (K := K) h2
  obtain ⟨p, _, rfl, _⟩ := h1
  obtain ⟨r, _, rfl, _⟩ := h2
  have g : ∀ r ∈ rows, GoodRow r := fun r hr => gd.row (ro r hr)
  refine ⟨p, r, rfl, rfl, d1, d2, ?_, shaped_rows g, showable_rows rows, PyData.hasDict_of_canLay _ (rows_lay g), Nat.le_trans (rows_depth rows) (by decide), ?_⟩
  · rw [show PyData.eqv (rowsD rows) (rowsD rows) = decide (rows = rows) from eqv_rows _ _]
    exact decide_eq_true rfl
  · have := shown_rows (a := rows) (fun r hr => ⟨g r hr, gd.le (ro r hr).1, gd.le (ro r hr).2⟩) hl
    exact Nat.le_of_lt (small_line (by omega))
theorem alike_lotsA {K : PySem.W.Frag} {H : Hp} {v v2 : V} {marks : Lot} {ls : List Lot} (gd : Good marks) (h1 : ListAt LotAt H v ls) (h2 : ListAt LotAt H v2 ls) (lo : ∀ l ∈ ls, Of marks l) (hl : ls.length ≤ 100) : ∃ (p r : Addr), v = V.ref p ∧ v2 = V.ref r ∧ Dp K H (.ref p) (lotsD ls) ∧ Dp K H (.ref r) (lotsD ls) ∧ PyData.eqv (lotsD ls) (lotsD ls) = true ∧ SeqAt.shaped (lotsD ls) = true ∧ (lotsD ls).showable = true ∧ (lotsD ls).hasDict = false ∧ (lotsD ls).depth ≤ 60 ∧ (lotsD ls).shown.length ≤ sizeLine := by
  have d1 := dp_lots (K := K) h1
  have d2 := dp_lots (K := K) h2
  obtain ⟨p, _, rfl, _⟩ := h1
  obtain ⟨r, _, rfl, _⟩ := h2
  have g : ∀ l ∈ ls, ∀ m ∈ l, GoodM m := fun l hl => gd.of (lo l hl)
  refine ⟨p, r, rfl, rfl, d1, d2, ?_, shaped_lots g, showable_lots ls, PyData.hasDict_of_canLay _ (lots_lay g), Nat.le_trans (lots_depth ls) (by decide), ?_⟩
  · rw [show PyData.eqv (lotsD ls) (lotsD ls) = decide (ls = ls) from eqv_lots _ _]
    exact decide_eq_true rfl
  · have := shown_lots (a := ls) (fun l hl => ⟨g l hl, gd.le (lo l hl)⟩) hl
    exact Nat.le_of_lt (small_line (by omega))
theorem ThE.ins {CR CT : Addr} {H : Hp} {p : Addr} {marks : Lot} {Tc : Lot → Lot} (h : ThE CR CT H p marks Tc) : ∃ C dx fs, H p = some (.ins C dx fs) := by
  rcases h with ⟨_, _, ⟨dx, _, _, _, h1, _⟩, _⟩ | ⟨_, _, ⟨dx, _, _, _, h1, _⟩, _⟩
  · exact ⟨_, _, _, h1⟩
  · exact ⟨_, _, _, h1⟩
section
variable {P : Program} {w : World} {K : PySem.W.Frag} {mg : Str → Option Value} {base : Heap}
theorem ok_needyE (T : Txt K mg) : FnOk P w K mg base CX0 9 T.needyLots.f T.needyLots.fd ["theory", "known"] (spNeedy T.rules.C (ThE T.rules.C T.table.C)) :=
  fn_or (ok_needy T (th_rules T)) (ok_needy T (th_table T)) fun vs H Q E ⟨p, kv, marks, Tc, rows, e, th, r⟩ => th.elim (fun h => .inl ⟨p, kv, marks, Tc, rows, e, h, r⟩) (fun h => .inr ⟨p, kv, marks, Tc, rows, e, h, r⟩)
theorem ok_leastE (T : Txt K mg) : FnOk P w K mg base CX0 10 T.leastList.f T.leastList.fd ["theory", "known"] (spLeast T.rules.C (ThE T.rules.C T.table.C)) :=
  fn_or (ok_least T (th_rules T)) (ok_least T (th_table T)) fun vs H Q E ⟨p, kv, marks, Tc, rows, e, th, r⟩ => th.elim (fun h => .inl ⟨p, kv, marks, Tc, rows, e, h, r⟩) (fun h => .inr ⟨p, kv, marks, Tc, rows, e, h, r⟩)
theorem ok_leftE (T : Txt K mg) : FnOk P w K mg base CX0 10 T.leftSides.f T.leftSides.fd ["theory", "lot", "known"] (spLeft T.rules.C (ThE T.rules.C T.table.C)) :=
  fn_or (ok_left T (th_rules T)) (ok_left T (th_table T)) fun vs H Q E ⟨p, y, kv, marks, Tc, l, rows, e, th, r⟩ => th.elim (fun h => .inl ⟨p, y, kv, marks, Tc, l, rows, e, h, r⟩) (fun h => .inr ⟨p, y, kv, marks, Tc, l, rows, e, h, r⟩)
theorem ok_fewestE (T : Txt K mg) : FnOk P w K mg base CX0 10 T.fewestAhead.f T.fewestAhead.fd ["theory", "known"] (spFewest T.rules.C (ThE T.rules.C T.table.C)) :=
  fn_or (ok_fewest T (th_rules T)) (ok_fewest T (th_table T)) fun vs H Q E ⟨p, kv, marks, Tc, rows, e, th, r⟩ => th.elim (fun h => .inl ⟨p, kv, marks, Tc, rows, e, h, r⟩) (fun h => .inr ⟨p, kv, marks, Tc, rows, e, h, r⟩)
end
end K5
/-! K5x: the law, walked. -/
namespace K5
open PySem PySem.Spec PyProof.Rows L2

/-! ### comprehensions that gather lists -/
section
variable {γ : Type} {g : TG} {tt : TT} {te : TE} {vs : List Nat} {σ : L2.St} {H1 : Hp} {D : Addr}
/-- one turn, the items hang on all but the list itself -/
def TurnS (g : TG) (tt : TT) (te : TE) (vs : List Nat) (σ : L2.St) (D : Addr) (Go : Hp → Prop) (Rg : At γ) (P : Nat → List γ → Prop) (i : Nat) (x : V) : Prop :=
  ∀ (H' : Hp) (cs : List γ) (KY : V → Hp → Prop) (KN : Hp → Prop), Go H' → (∃ ac, H' D = some (.lst ac)) → (∃ ac, H' D = some (.lst ac) ∧ Each Rg H' ac cs) → P i cs →
    (∀ c y H4, P (i + 1) (cs ++ [c]) → Go H4 → SB D H' H4 → H4 D = H' D → Rg H4 y c → KY y H4) → (∀ H3, P (i + 1) cs → Go H3 → SB D H' H3 → H3 D = H' D → KN H3) →
    g x (wipe σ vs) H' fun σ2 H2 => wipe σ2 vs = wipe σ vs ∧ tt σ2 H2 fun b H3 => if b = true then te σ2 H3 KY else KN H3
def StaysS (D : Addr) (R : At γ) : Prop := ∀ H H' v c, (∃ ys, H D = some (.lst ys)) → SB D H H' → R H v c → R H' v c
theorem StaysS.each {Rg : At γ} (S : StaysS D Rg) {H H' : Hp} (hD : ∃ ys, H D = some (.lst ys)) (k : SB D H H') {xs : List V} {bs : List γ} (h : Each Rg H xs bs) : Each Rg H' xs bs := L2.Paired.mapP h fun a b q => S _ _ _ _ hD k q
theorem lcs_list {K : PySem.W.Frag} {a : Addr} {xs : List V} {Qd : Hp → Prop} (Go : Hp → Prop) (Rg : At γ) (P : Nat → List γ → Prop) (S : StaysS D Rg) (hn : xs.length < sizeLine) (g0 : Go (upd H1 D (.lst [])))
    (gD : ∀ H o, Go H → (∃ ys, H D = some (.lst ys)) → Go (upd H D o)) (hq : ∀ H, Go H → SqL K H a xs) (p0 : P 0 []) (turn : ∀ i x, xs[i]? = some x → TurnS g tt te vs σ D Go Rg P i x)
    (hd : ∀ H acc cs, Go H → H D = some (.lst acc) → Each Rg H acc cs → P xs.length cs → Qd H) :
    ∃ W : Nat → Nat → Hp → Prop, (∃ m, W 0 m (upd H1 D (.lst []))) ∧ ∀ i m H, W i m H →
      ((Itl K a).stop i H ∧ Qd H) ∨ ((Itl K a).go i H ∧ ∃ Nx : Hp → Prop, (∀ H', Nx H' → ∃ m', m' < m ∧ W (i + 1) m' H') ∧ ∀ x H', (Itl K a).yld i H x H' → g x (wipe σ vs) H' fun σ2 H2 => wipe σ2 vs = wipe σ vs ∧ tt σ2 H2 fun b H3 =>
        if b = true then te σ2 H3 fun y H4 => ∃ acc, H4 D = some (.lst acc) ∧ acc.length < sizeLine ∧ Nx (upd H4 D (.lst (acc ++ [y]))) else Nx H3) := by
  refine lc_list (K := K) (a := a) (xs := xs) (Gath Go Rg P D) (gath_zero g0 p0) (fun i H _ ⟨_, _, h, _⟩ => hq H h) (fun i x H e h => ?_) fun H ⟨acc, cs, h1, h2, h3, h4, _⟩ => hd H acc cs h1 h2 h3 h4
  have hi := (List.getElem?_eq_some_iff.mp e).1
  obtain ⟨acc, cs, h1, h2, h3, h4, h5⟩ := h
  refine turn i x e H cs _ _ h1 ⟨acc, h2⟩ ⟨acc, h2, h3⟩ h4 (fun c y H4 p go sb kp r => ?_) fun H3 p go sb kp => ?_
  · rw [h2] at kp
    refine ⟨acc, kp, by omega, acc ++ [y], cs ++ [c], gD _ _ go ⟨acc, kp⟩, upd_same, each_snoc (S.each ⟨acc, kp⟩ SB.put (S.each ⟨acc, h2⟩ sb h3)) (S _ _ _ _ ⟨acc, kp⟩ SB.put r), p, ?_⟩
    rw [List.length_append, List.length_singleton]
    omega
  · rw [h2] at kp
    exact ⟨acc, cs, go, kp, S.each ⟨acc, h2⟩ sb h3, p, by omega⟩
end
/-- sides, in a list that is not the one at D -/
def SideAt (D : Addr) : At (List Lot) := fun H v ls => v ≠ V.ref D ∧ ListAt LotAt H v ls
theorem stays_side {D : Addr} : StaysS D (SideAt D) := fun H H' v c hD sb ⟨n, p, xs, e, hp, he⟩ => by
  subst e
  exact ⟨n, p, xs, rfl, sb _ _ (fun z => n (by rw [z])) hp, stays_lot.each (sb.tk hD) he⟩
theorem side_ne {D : Addr} {H H' : Hp} {v : V} {ls : List Lot} {cs : List (List Lot)} (_hac : ∃ ac, H D = some (.lst ac)) (hs : ∃ ac, H D = some (.lst ac) ∧ Each (SideAt D) H ac cs) (s : Same H H') (h : ListAt LotAt H' v ls) (ne : ls ≠ []) : v ≠ V.ref D := by
  rintro rfl
  obtain ⟨ac, e, he⟩ := hs
  obtain ⟨p, xs, e2, hp, hx⟩ := h
  obtain rfl := V.ref.inj e2
  rw [s _ _ e] at hp
  obtain rfl := HO.lst.inj (Option.some.inj hp)
  cases hx with
  | nil => exact ne rfl
  | cons r t =>
    cases he with
    | cons r2 t2 =>
      obtain ⟨q, rfl, hq⟩ := r
      obtain ⟨_, q2, ys, e3, hq2, _⟩ := r2
      obtain rfl := V.ref.inj e3
      rw [s _ _ hq2] at hq
      cases hq
theorem sides_same {H H' : Hp} {v : V} {bs : List (List Lot)} (h : ListAt (ListAt LotAt) H v bs) (s : Same H H') : ListAt (ListAt LotAt) H' v bs := by
  obtain ⟨p, xs, e, hp, hx⟩ := h
  exact ⟨p, xs, e, s _ _ hp, L2.Paired.mapP hx fun v c q => q.same stays_lot s⟩
abbrev NL : List Str := ["_law_script", "_law_bag_here", "_law_turn", "_law_marks_here", "_law_kind", "_law_some", "_law_theory_here", "_law_ends_here", "_law_given", "_law_whole", "_law_k", "_law_part", "_law_rest", "_law_more", "_law_sides", "_law_row", "_law_ahead", "_law_behind", "_law_one_here"]
def spLaw (K : PySem.W.Frag) : Sp := fun vs H Q _ => ∃ (a : Addr) (ns : List Int), vs = [V.ref a] ∧ SqL K H a (ns.map V.int) ∧ ns.length ≤ 1000 ∧ ∀ H', Q (.bl true) H'
section
variable {P : Program} {w : World} {K : PySem.W.Frag} {mg : Str → Option Value} {base : Heap}
theorem scLaw : FnScope NL ["_law_script"] (defScope sLaw) := ⟨rfl, rfl, rfl, by decide +kernel, rfl, by decide +kernel, by decide +kernel⟩
theorem ok_law (T : Txt K mg) {f : Addr} {fd : FuncData} (FL : Fun K "law" "law" sLaw f fd) : FnG P w K mg base 12 f fd ["_law_script"] (spLaw K) := by
  have GBag : FnOk P w K mg base CX0 1 T.lBag.f T.lBag.fd ["_law_script"] (spBag K) := ok_lBag T
  have G : FnOk P w K mg base CX0 1 T.lTake.f T.lTake.fd ["_law_bag_here", "_law_many"] spTake := ok_lTake T
  have GMk : FnOk P w K mg base CX0 2 T.lMarks.f T.lMarks.fd ["_law_bag_here", "_law_many"] spLMarks := ok_lMarks T
  have GTh : FnOk P w K mg base CX0 8 T.lTheory.f T.lTheory.fd ["_law_bag_here", "_law_marks_here", "_law_upto"] (spLTheory T.rules.C T.table.C) := ok_lTheory T
  have GE : FnOk P w K mg base CX0 3 T.lEnds.f T.lEnds.fd ["_law_marks_here", "_law_kind", "_law_some"] spLEnds := ok_lEnds T
  have GKn : FnOk P w K mg base CX0 3 T.lKnownRows.f T.lKnownRows.fd ["_law_bag_here", "_law_ends_here"] spLKnown := ok_lKnown T
  have GMd : FnOk P w K mg base CX0 8 T.lMadeKnown.f T.lMadeKnown.fd ["_law_marks_here", "_law_given"] (spLMade T.rules.C) := ok_lMade T
  have GTo : FnOk P w K mg base CX0 3 T.lToldPart.f T.lToldPart.fd ["_law_bag_here", "_law_ends_here", "_law_rows"] spLTold := ok_lTold T
  have GAl : FnG P w K mg base 1 T.lAlike.f T.lAlike.fd ["_law_found", "_law_due"] (spAlike K) := ok_lAlike T
  have GN : FnOk P w K mg base CX0 9 T.needyLots.f T.needyLots.fd ["theory", "known"] (spNeedy T.rules.C (ThE T.rules.C T.table.C)) := ok_needyE T
  have GL : FnOk P w K mg base CX0 10 T.leastList.f T.leastList.fd ["theory", "known"] (spLeast T.rules.C (ThE T.rules.C T.table.C)) := ok_leastE T
  have GLf : FnOk P w K mg base CX0 10 T.leftSides.f T.leftSides.fd ["theory", "lot", "known"] (spLeft T.rules.C (ThE T.rules.C T.table.C)) := ok_leftE T
  have GF : FnOk P w K mg base CX0 10 T.fewestAhead.f T.fewestAhead.fd ["theory", "known"] (spFewest T.rules.C (ThE T.rules.C T.table.C)) := ok_fewestE T
  have GI : FnOk P w K mg base CX0 6 T.rules.init.f T.rules.init.fd ["self", "marks", "rows"] (spRInit T.rules.C) := ok_rInit T
  have GRo : FnOk P w K mg base CX0 1 T.rRows.f T.rRows.fd ["self"] (spRows T.rules.C) := ok_rRows T
  refine fnG_of FL scLaw (fun vs H Q h => ?_) (fun cdv A outer s H vs Q hr hgu h => ?_)
  · obtain ⟨_, _, rfl, _⟩ := h
    rfl
  · obtain ⟨sa, ns, rfl, hsa, hns, q⟩ := h
    have nd := scLaw.nd
    have r1 : Room 1 _ := hr.mono (by decide)
    have r2 : Room 2 _ := hr.mono (by decide)
    have r3 : Room 3 _ := hr.mono (by decide)
    have r7 : Room 7 _ := hr.mono (by decide)
    have r8 : Room 8 _ := hr.mono (by decide)
    have r9 : Room 9 _ := hr.mono (by decide)
    have r10 : Room 10 _ := hr.mono (by decide)
    refine ⟨_, pss_cons (ps_set (i := 1) nd rfl (Or.inr rfl) (pe_d T.lBag GBag r1 (pa_cons (pv 0) (pa_nil))))
      (pss_cons (ps_for PassesOwn.never rfl (pi_range1 (by rfl) T.zRange (pa_cons (pe_int) (pa_nil))) (pg_name (i := 2) nd rfl (Or.inl rfl))
        (pss_cons (ps_set (i := 3) nd rfl (Or.inr rfl) (pe_d T.lMarks GMk r2 (pa_cons (pv 1) (pa_cons (pe_ix ixr_list (pe_lst (pa_cons (pe_int) (pa_cons (pe_int) (pa_cons (pe_int) (pa_cons (pe_int) (pa_cons (pe_int) (pa_cons (pe_int) (pa_nil)))))))) (pe_d T.lTake G r1 (pa_cons (pv 1) (pa_cons (pe_int) (pa_nil)))) (fun _ _ => rfl)) (pa_nil)))))
        (pss_cons (ps_asg (pe_d T.lTheory GTh r8 (pa_cons (pv 1) (pa_cons (pv 3) (pa_cons (pe_int) (pa_nil))))) (pg_tup rfl (pgs_cons (pg_name (i := 4) nd rfl (Or.inl rfl)) (pgs_cons (pg_name (i := 5) nd rfl (Or.inl rfl)) (pgs_cons (pg_name (i := 6) nd rfl (Or.inr rfl)) pgs_nil)))))
        (pss_cons (ps_set (i := 7) nd rfl (Or.inl rfl) (pe_d T.lEnds GE r3 (pa_cons (pv 3) (pa_cons (pv 4) (pa_cons (pv 5) (pa_nil))))))
        (pss_cons (ps_set (i := 8) nd rfl (Or.inr rfl) (pe_d T.lKnownRows GKn r3 (pa_cons (pv 1) (pa_cons (pv 7) (pa_nil)))))
        (pss_cons (ps_set (i := 9) nd rfl (Or.inl rfl) (pe_meth0 (pe_dk T.leastList GL r10 (pa_cons (pv 6) (pa_nil)) (pk_cons (pe_d T.lMadeKnown GMd r8 (pa_cons (pv 3) (pa_cons (pv 8) (pa_nil)))) pk_nil)) T.rules.cl T.mRows GRo r1 T.rRows.b .nil pass0))
        (pss_cons (ps_for PassesOwn.never rfl (pi_range1 (by rfl) T.zRange (pa_cons (pe_int) (pa_nil))) (pg_name (i := 10) nd rfl (Or.inl rfl))
          (pss_cons (ps_set (i := 11) nd rfl (Or.inr rfl) (pe_lc (own := [("_law_row", 15)]) (g := gName 15) rfl nd (pi_list (pv 9)) (blkOk_by (N := NL) (sc := defScope sLaw) (by decide +kernel)) (fun _ _ _ _ _ => pg_name (i := 15) nd rfl (Or.inl rfl)) (fun _ _ _ _ _ => pts_one (pt_cmp (pc_eqI (pe_d T.lTake G r1 (pa_cons (pv 1) (pa_cons (pe_int) (pa_nil)))) pe_int))) (fun _ _ _ _ _ => pv 15)))
          (pss_cons (ps_setLc (own := [("_law_row", 15)]) (g := gName 15) (i := 12) rfl nd rfl rfl (by rfl) (pi_list (pv 9)) (blkOk_by (N := NL) (sc := defScope sLaw) (by decide +kernel)) (fun _ _ _ _ _ => pg_name (i := 15) nd rfl (Or.inl rfl)) (fun _ _ _ _ _ => pts_one (pt_cmpR (op_notInK (K := K) rfl (room65 hr)) (pv 15) (pv 11) (by rfl))) (fun _ _ _ _ _ => pv 15))
          (pss_cons (ps_set (i := 13) nd rfl (Or.inr rfl) (pe_make T.rules.made GI r7 rfl T.rules.g T.rules.init.b .nil pass0 (pa_cons (pv 3) (pa_cons (pe_op op_cat (pe_orT (pv 8) (pe_one (pe_lst pa_nil))) (pe_d T.lToldPart GTo r3 (pa_cons (pv 1) (pa_cons (pv 7) (pa_cons (pv 11) (pa_nil)))))) (pa_nil)))))
          (pss_cons (ps_if (pt_not (pt_val (pe_callG GAl r1 hgu rfl T.lAlike.g T.lAlike.F.kp T.lAlike.b (pa_cons (pe_meth0 (pe_dk T.leastList GL r10 (pa_cons (pv 6) (pa_nil)) (pk_cons (pv 13) pk_nil)) T.rules.cl T.mRows GRo r1 T.rRows.b .nil pass0) (pa_cons (pv 12) (pa_nil)))))) (pss_one (ps_ret pe_bl)) pss_nil)
          (pss_cons (ps_if (pt_not (pt_val (pe_callG GAl r1 hgu rfl T.lAlike.g T.lAlike.F.kp T.lAlike.b (pa_cons (pe_dk T.needyLots GN r9 (pa_cons (pv 6) (pa_nil)) (pk_cons (pv 13) pk_nil)) (pa_cons (pe_lc (own := [("_law_ahead", 16), ("_law_behind", 17)]) (g := gTup K 2 (gCons (gName 16) (gCons (gName 17) gNil))) (tt := tYes) rfl nd (pi_list (pv 12)) (blkOk_by (N := NL) (sc := defScope sLaw) (by decide +kernel)) (fun _ _ _ _ _ => pg_tup rfl (pgs_cons (pg_name (i := 16) nd rfl (Or.inl rfl)) (pgs_cons (pg_name (i := 17) nd rfl (Or.inl rfl)) pgs_nil))) (fun _ _ _ _ _ => pts_nil) (fun _ _ _ _ _ => pv 16)) (pa_nil)))))) (pss_one (ps_ret pe_bl)) pss_nil)
          (pss_cons (ps_setLc (own := [("_law_ahead", 16), ("_law_behind", 17)]) (g := gTup K 2 (gCons (gName 16) (gCons (gName 17) gNil))) (tt := tYes) (i := 14) rfl nd rfl rfl (by rfl) (pi_list (pv 12)) (blkOk_by (N := NL) (sc := defScope sLaw) (by decide +kernel)) (fun _ _ _ _ _ => pg_tup rfl (pgs_cons (pg_name (i := 16) nd rfl (Or.inl rfl)) (pgs_cons (pg_name (i := 17) nd rfl (Or.inl rfl)) pgs_nil))) (fun _ _ _ _ _ => pts_nil) (fun _ _ _ _ _ => pe_dk T.leftSides GLf r10 (pa_cons (pv 6) (pa_cons (pv 16) (pa_nil))) (pk_cons (pv 13) pk_nil)))
          (pss_cons (ps_if (pt_cmpR (op_neD hr.units) (pv 14) (pe_lc (own := [("_law_ahead", 16), ("_law_behind", 17)]) (g := gTup K 2 (gCons (gName 16) (gCons (gName 17) gNil))) (tt := tYes) rfl nd (pi_list (pv 12)) (blkOk_by (N := NL) (sc := defScope sLaw) (by decide +kernel)) (fun _ _ _ _ _ => pg_tup rfl (pgs_cons (pg_name (i := 16) nd rfl (Or.inl rfl)) (pgs_cons (pg_name (i := 17) nd rfl (Or.inl rfl)) pgs_nil))) (fun _ _ _ _ _ => pts_nil) (fun _ _ _ _ _ => pe_dk T.leftSides GLf r10 (pa_cons (pv 6) (pa_cons (pv 16) (pa_nil))) (pk_cons (pe_d T.lMadeKnown GMd r8 (pa_cons (pv 3) (pa_cons (pv 8) (pa_nil)))) pk_nil))) (nomark _)) (pss_one (ps_ret pe_bl)) pss_nil)
          (pss_one (ps_if (pt_cmpR op_ne (pe_dk T.fewestAhead GF r10 (pa_cons (pv 6) (pa_nil)) (pk_cons (pv 13) pk_nil)) (pe_callB (cr_sum rfl) (by rfl) T.zSum (by decide +kernel) (pa_cons (pe_lc (own := [("_law_one_here", 18)]) (g := gName 18) (tt := tYes) rfl nd (pi_list (pv 14)) (blkOk_by (N := NL) (sc := defScope sLaw) (by decide +kernel)) (fun _ _ _ _ _ => pg_name (i := 18) nd rfl (Or.inl rfl)) (fun _ _ _ _ _ => pts_nil) (fun _ _ _ _ _ => pe_callB call_len2 (by rfl) T.zLen PySem.boot_len (pa_cons (pe_ix ixr_list (pv 18) pe_int (fun _ _ => rfl)) (pa_nil)))) (pa_nil))) (nomark _)) (pss_one (ps_ret pe_bl)) pss_nil))))))))))
        (pss_one (ps_if (pt_cmpR (op_neD hr.units) (pe_dk T.needyLots GN r9 (pa_cons (pv 6) (pa_nil)) (pk_cons (pe_make T.rules.made GI r7 rfl T.rules.g T.rules.init.b .nil pass0 (pa_cons (pv 3) (pa_cons (pe_op op_cat (pe_orT (pv 8) (pe_one (pe_lst pa_nil))) (pv 9)) (pa_nil)))) pk_nil)) (pe_lst pa_nil) (nomark _)) (pss_one (ps_ret pe_bl)) pss_nil)))))))))
      (pss_one (ps_ret pe_bl))), ?_⟩
    refine ⟨_, rfl, sa, ns, rfl, hsa, hns, fun H1 b a s1 hb0 bag1 => ?_⟩
    let PvO : Nat → L2.St → Hp → Prop := fun _ σ H' => ∃ x2 x3 x4 x5 x6 x7 x8 x9 x10 x11 x12 x13 x14 : Option V, σ = [some (V.ref sa), some (V.ref b), x2, x3, x4, x5, x6, x7, x8, x9, x10, x11, x12, x13, x14, none, none, none, none] ∧ Bag H' b a
    refine ⟨_, rfl, by decide, by decide, for_range (lo := 0) (n := 2) PvO ⟨none, none, none, none, none, none, none, none, none, none, none, none, none, rfl, bag1⟩ ?_ ?_⟩
    · rintro i σ H0 hi ⟨x2, x3, x4, x5, x6, x7, x8, x9, x10, x11, x12, x13, x14, rfl, bag0⟩
      -- the marks
      refine ⟨_, rfl, by show 6 ≤ sizeLine; decide, fun lp hlp => ?_⟩
      have oL : On b a H0 _ := On.of bag0 (same_new (o := .lst [.int 5, .int 4, .int 4, .int 3, .int 1, .int 0]) hlp)
      have nlb : lp ≠ b := by
        obtain ⟨ys, e⟩ := bag0.lst
        exact (ne_of_none e hlp).symm
      refine ⟨_, rfl, b, a, 6, rfl, oL.bag, by decide, by decide, fun H2 v o2 g0 g1 => ?_⟩
      obtain ⟨k, rfl, hk⟩ := nat_of g0 g1
      have hk : k < 6 := hk
      have e1 : [V.int 5, .int 4, .int 4, .int 3, .int 1, .int 0][k]? = some (V.int ((([5, 4, 4, 3, 1, 0] : List Nat).getD k 0 : Nat) : Int)) ∧ ([5, 4, 4, 3, 1, 0] : List Nat).getD k 0 ≤ 5 := by
        have : k = 0 ∨ k = 1 ∨ k = 2 ∨ k = 3 ∨ k = 4 ∨ k = 5 := by omega
        rcases this with e | e | e | e | e | e <;> subst e <;> exact ⟨rfl, by decide⟩
      refine ⟨lp, _, k, _, rfl, rfl, o2.lst nlb upd_same, e1.1, b, a, _, rfl, e1.2, o2.bag, fun H3 mv marks o3 hm gd => ?_⟩
      -- the theory
      refine ⟨_, rfl, _, rfl, b, a, mv, marks, 5, rfl, by decide, o3.bag, gd, hm, fun H4 p kv sv tp Tc o4 hp hkind hth => ?_⟩
      refine ⟨p, _, rfl, SqT.of hp, rfl, _, _, rfl, _, _, rfl, _, [], rfl, rfl, ?_⟩
      have hth : ThE T.rules.C T.table.C H4 tp marks Tc := hth
      have ty := hth.thy.2
      have hm4 := hm.tk (o4.tk o3.bag)
      -- the ends
      refine ⟨_, rfl, _, rfl, _, rfl, mv, kv, sv, marks, Tc, rfl, gd, hm4, hkind, fun H5 ev s5 he => ?_⟩
      have bag5 := o4.bag.same s5
      -- what is known
      refine ⟨_, rfl, _, rfl, b, a, ev, marks, Tc, rfl, bag5, gd, ty, he, fun H6 gv given o6 hg => ?_⟩
      have hm6 := (hm4.tk (TK.of s5)).tk (o6.tk bag5)
      have th6 := (hth.same s5).on bag5 o6
      -- the list
      refine ⟨_, rfl, _, rfl, _, rfl, mv, gv, marks, given, rfl, gd, hm6, hg, fun H7 kv7 s7 kn => ?_⟩
      refine ⟨tp, kv7, marks, Tc, given, rfl, th6.same s7, kn, fun H8 wb s8 isw => ?_⟩
      obtain ⟨wdx, wm, wl, wxs, hw1, hw2⟩ := id isw
      refine ⟨wb, wdx, _, rfl, hw1, rf_no _ _ (by decide +kernel) (by decide +kernel), wb, marks, _, rfl, isw, fun H9 wv s9 hwv => ?_⟩
      have s79 := (s7.trans s8).trans s9
      have o69 : On b a H6 H9 := On.of o6.bag s79
      have C9 : Ctx5 T.rules.C T.table.C H9 b a mv tp ev gv wv marks Tc given := ⟨o69.bag, gd, ty, hm6.tk (TK.of s79), th6.same s79, (he.on bag5 o6).on o6.bag o69, hg.on o6.bag o69, hwv⟩
      obtain ⟨wa, wxs, rfl, hwa, hwx⟩ := hwv
      have wlen : ((needyK marks Tc given).map (rowOfT Tc)).length ≤ 32 := by rw [List.length_map]; exact needyK_len gd
      have wxl : wxs.length ≤ 32 := by rw [hwx.length]; exact wlen
      have rowsW : ∀ r ∈ (needyK marks Tc given).map (rowOfT Tc), RowOf marks r ∧ r = rowOfT Tc r.1 := fun r hr2 => by
        obtain ⟨l, hl, rfl⟩ := List.mem_map.mp hr2
        exact ⟨rowOf_row ty (needyK_of gd hl).1, rfl⟩
      let PvI : Nat → L2.St → Hp → Prop := fun _ σ H' => ∃ x10 x11 x12 x13 x14 : Option V, σ = [some (V.ref sa), some (V.ref b), some (.int (0 + (i : Int))), some mv, some kv, some sv, some (V.ref tp), some ev, some gv, some (V.ref wa), x10, x11, x12, x13, x14, none, none, none, none] ∧ On b a H9 H'
      refine ⟨_, rfl, by decide, by decide, for_range (lo := 0) (n := 2) PvI ⟨x10, x11, x12, x13, x14, rfl, On.of C9.bag (Same.refl _)⟩ ?_ ?_⟩
      · rintro j σ H' hj ⟨y10, y11, y12, y13, y14, rfl, oI⟩
        have C := C9.on oI
        have nwb : wa ≠ b := ne_bag noint_row hwa hwx C9.bag
        have hwa' := oI.lst nwb hwa
        have hwx' := stays_row.each (oI.tk C9.bag) hwx
        -- a part
        refine ⟨_, rfl, wa, rfl, ⟨_, SqL.of hwa'⟩, fun D hD => lcg_list (xs := wxs) (On b a H') RowAt (fun n cs => cs.Sublist (((needyK marks Tc given).map (rowOfT Tc)).take n)) stays_row (small_line (by omega)) (on_g0 C.bag hD) (on_gD C.bag hD) (fun H2 k => SqL.of (k.lst nwb hwa')) (List.nil_sublist _) ?_ ?_⟩
        · intro n x hx H2 cs KY KN go hac pc ky kn
          obtain ⟨r, hr2, hrow⟩ := each_get hwx' hx
          have nDb : D ≠ b := by
            obtain ⟨ys, e⟩ := C.bag.lst
            exact (ne_of_none e hD).symm
          refine ⟨rfl, _, rfl, b, a, 2, rfl, go.bag, by decide, by decide, fun H3 v3 o3 h0 h1 => ⟨_, _, rfl, rfl, _, rfl, ?_⟩⟩
          have kp : H3 D = H2 D := by
            obtain ⟨ac, e⟩ := hac
            rw [e]
            exact o3.lst nDb e
          refine ite2 (fun c => ?_) (fun c => ?_)
          · refine ⟨_, rfl, ky r _ _ ?_ (go.trans o3) (o3.tk go.bag) kp (hrow.tk ((go.trans o3).tk C.bag))⟩
            show (cs ++ [r]).Sublist _
            rw [take_snoc hr2]
            exact pc.append (List.Sublist.refl _)
          · refine kn _ ?_ (go.trans o3) (o3.tk go.bag) kp
            show cs.Sublist _
            rw [take_snoc hr2]
            exact pc.trans (List.sublist_append_left _ _)
        intro HA pxs part oA hpart hpx subl
        rw [hwx.length, List.take_length] at subl
        have CA := C.on oA
        have hwaA := oA.lst nwb hwa'
        have hwxA := stays_row.each (oA.tk C.bag) hwx'
        have partW : ∀ r ∈ part, r ∈ (needyK marks Tc given).map (rowOfT Tc) := fun r hr2 => subl.subset hr2
        have partL : part.length ≤ 32 := Nat.le_trans subl.length_le wlen
        have gRow : ∀ r ∈ (needyK marks Tc given).map (rowOfT Tc), GoodRow r := fun r hr2 => gd.row (rowsW r hr2).1
        -- the rest
        refine ⟨_, rfl, wa, rfl, ⟨_, SqL.of hwaA⟩, fun D2 hD2 => lcg_list (xs := wxs) (Same HA) RowAt (fun n cs => cs = (((needyK marks Tc given).map (rowOfT Tc)).take n).filter fun r => decide (r ∉ part)) stays_row (small_line (by omega)) (same_new hD2) (same_gD hD2) (fun H2 k => SqL.of (k _ _ hwaA)) rfl ?_ ?_⟩
        · intro n x hx H2 cs KY KN go hac pc ky kn
          obtain ⟨r, hr2, hrow⟩ := each_get hwxA hx
          have hrow := hrow.tk (TK.of go)
          have rm := List.mem_of_getElem? hr2
          have st : (((needyK marks Tc given).map (rowOfT Tc)).take (n + 1)).filter (fun r => decide (r ∉ part)) = if decide (r ∉ part) = true then (((needyK marks Tc given).map (rowOfT Tc)).take n).filter (fun r => decide (r ∉ part)) ++ [r] else (((needyK marks Tc given).map (rowOfT Tc)).take n).filter (fun r => decide (r ∉ part)) := by
            rw [take_snoc hr2, List.filter_append]
            by_cases h : r ∈ part <;> simp [h]
          have hp2 : ListAt RowAt H2 (.ref D) part := ListAt.same stays_row ⟨D, pxs, rfl, hpart, hpx⟩ go
          refine ⟨rfl, _, rfl, _, rfl, rowD r, part.map rowD, hrow.dp, dp_rows hp2, shaped_row (gRow r rm), shaped_rows fun z hz => gRow z (partW z hz), _, rfl, ?_⟩
          have e : (!(part.map rowD).any fun z => PyData.eqv z (rowD r)) = decide (r ∉ part) := by
            rw [rows_any]
            by_cases h : r ∈ part <;> simp [h]
          rw [e]
          refine ite2 (fun c => ?_) (fun c => ?_)
          · rw [if_pos c] at st
            exact ⟨_, rfl, ky r _ _ (by show cs ++ [r] = _; rw [pc]; exact st.symm) go (TK.refl _) rfl hrow⟩
          · rw [if_neg c] at st
            exact kn _ (by show cs = _; rw [pc]; exact st.symm) go (TK.refl _) rfl
        intro HB rxs rest sB hrest hrx pc
        rw [hwx.length, List.take_length] at pc
        have CB := CA.on (On.of CA.bag sB)
        have hp2 : ListAt RowAt HB (.ref D) part := ListAt.same stays_row ⟨D, pxs, rfl, hpart, hpx⟩ sB
        have sub2 : rest.Sublist ((needyK marks Tc given).map (rowOfT Tc)) := by rw [pc]; exact List.filter_sublist
        have restL : rest.length ≤ 32 := Nat.le_trans sub2.length_le wlen
        have restO : RowsOf marks rest := fun r hr2 => (rowsW r (sub2.subset hr2)).1
        have nrb : D2 ≠ b := ne_bag noint_row hrest hrx CB.bag
        -- what is told
        refine ⟨_, rfl, given_or (i := 8) rfl CB.gv fun HC gp gxs sC hgp hgx => ?_⟩
        have CC := CB.on (On.of CB.bag sC)
        have ngb : gp ≠ b := ne_bag noint_row hgp hgx CC.bag
        refine ⟨_, rfl, _, rfl, _, rfl, b, a, ev, _, marks, Tc, part, rfl, CC.bag, gd, ty, CC.en, hp2.same stays_row sC, partL, fun r hr2 => ⟨(rowsW r (partW r hr2)).1.1, (rowsW r (partW r hr2)).2⟩, fun HD tv told oD htv ro tl sh => ?_⟩
        obtain ⟨tp2, txs, rfl, htp, htx⟩ := htv
        have CD := CC.on oD
        have hgp2 := oD.lst ngb hgp
        have hgx2 := stays_row.each (oD.tk CC.bag) hgx
        have gl : gxs.length ≤ 100 := by rw [hgx.length]; exact C9.gv.2.1
        have txl : txs.length ≤ 160 := by rw [htx.length]; exact tl
        refine ⟨gp, tp2, gxs, txs, rfl, rfl, hgp2, htp, Nat.le_of_lt (small_line (by omega)), fun np hnp => ?_⟩
        have sE : Same HD (upd HD np (.lst (gxs ++ txs))) := same_new hnp
        have roM : RowsOf marks (given ++ told) := fun r hr2 => (List.mem_append.mp hr2).elim (C9.gv.1 r) (ro r)
        have lM : (given ++ told).length ≤ 1000 := by
          have := C9.gv.2.1
          rw [List.length_append]
          omega
        intro mp dx q1 q2 q3
        refine mk_rulesR q1 q2 q3 (CD.mm.tk (TK.of sE)) ⟨np, _, rfl, upd_same, stays_row.each (TK.of sE) (each_append hgx2 htx)⟩ gd roM lM fun HM sM isM => ⟨rfl, ?_⟩
        have sDM : Same HD HM := sE.trans sM
        have CM := CD.on (On.of CD.bag sDM)
        have oM : On b a HB HM := ((On.of CB.bag sC).trans oD).same sDM
        have hrM : ListAt RowAt HM (.ref D2) rest := ListAt.on stays_row noint_row ⟨D2, rxs, rfl, hrest, hrx⟩ CB.bag oM
        have knM : KnownAt T.rules.C HM (.ref mp) marks (given ++ told) := ⟨roM, lM, .inr ⟨mp, rfl, isM⟩⟩
        have eN := law_rest gd ty (given := given) partW sh
        have eR : (needyK marks Tc (given ++ told)).map (rowOfT Tc) = rest := by rw [eN, rest_rows, pc]
        have eH : rest.map (·.1) = needyK marks Tc (given ++ told) := by rw [← eR, heads]
        have nlen := needyK_len (Tc := Tc) (rows := given ++ told) gd
        have g5 := fun (l : Lot) (h : l ∈ needyK marks Tc (given ++ told)) => (needyK_of gd h).1
        have sbr : ∀ (l : Lot), l ∈ needyK marks Tc (given ++ told) → l ∈ needyK marks Tc given := fun l h => by rw [eN] at h; exact (List.mem_filter.mp h).1
        have mem_rest : ∀ {n : Nat} {r : Row}, rest[n]? = some r → r.1 ∈ needyK marks Tc (given ++ told) := fun {n r} h => by
          rw [← eH]
          exact List.mem_map.mpr ⟨r, List.mem_of_getElem? h, rfl⟩
        have hrestM : HM D2 = some (.lst rxs) := oM.lst nrb hrest
        have hrxM : Each RowAt HM rxs rest := stays_row.each (oM.tk CB.bag) hrx
        have rxl : rxs.length ≤ 32 := by rw [hrx.length]; exact restL
        -- the list of the rest
        refine ⟨_, rfl, _, rfl, tp, .ref mp, marks, Tc, given ++ told, rfl, CM.th, knM, fun HN b2 sN is2 => ?_⟩
        obtain ⟨dx2, m2, l2, xs2, hb2, _⟩ := id is2
        refine ⟨b2, dx2, _, rfl, hb2, rf_no _ _ (by decide +kernel) (by decide +kernel), b2, marks, _, rfl, is2, fun HO v sO hv => ?_⟩
        rw [eR] at hv
        have sMO := sN.trans sO
        obtain ⟨ap, ar, rfl, e2r, a1, a2, a3, a4, a5, a6, a7, a8⟩ := alike_rows (K := K) gd hv (hrM.same stays_row sMO) restO (by omega)
        obtain rfl := V.ref.inj e2r
        refine ⟨_, rfl, ap, D2, _, rfl, a1, a2, a3, a4, a5, a6, a7, a8, true, rfl, iteF ?_⟩
        -- the needy lots of the rest
        have knO := knM.same sMO
        refine ⟨_, rfl, _, rfl, tp, .ref mp, marks, Tc, given ++ told, rfl, CM.th.same sMO, knO, fun HP nv sP hnv => ?_⟩
        have sMP := sMO.trans sP
        have hrestP := sMP _ _ hrestM
        refine ⟨_, rfl, D2, rfl, ⟨_, SqL.of hrestP⟩, fun D3 hD3 => lcg_list (xs := rxs) (Same HP) LotAt (fun n cs => cs = (rest.take n).map (·.1)) stays_lot (small_line (by omega)) (same_new hD3) (same_gD hD3) (fun H2 k => SqL.of (k _ _ hrestP)) rfl ?_ ?_⟩
        · intro n x hx H2 cs KY KN go hac pc2 ky kn
          obtain ⟨r, hr2, hrow⟩ := each_get hrxM hx
          obtain ⟨t, xa, xb, rfl, ht, hxa, hxb⟩ := hrow.tk (TK.of (sMP.trans go))
          refine ⟨t, _, rfl, SqT.of ht, rfl, xa, [xb], rfl, xb, [], rfl, rfl, rfl, yes ⟨_, rfl, ky r.1 _ _ ?_ go (TK.refl _) rfl hxa⟩⟩
          show cs ++ _ = _
          rw [pc2, take_snoc hr2, List.map_append]
          rfl
        intro HR acc3 cs3 sR hA3 he3 pc3
        rw [hrx.length, List.take_length, eH] at pc3
        rw [pc3] at he3
        obtain ⟨bp, br, rfl, e2s, b1, b2', b3, b4, b5, b6, b7, b8⟩ := alike_lotsA (K := K) gd (hnv.same stays_lot sR) ⟨D3, acc3, rfl, hA3, he3⟩ g5 (by omega)
        obtain rfl := V.ref.inj e2s
        refine ⟨bp, D3, _, rfl, b1, b2', b3, b4, b5, b6, b7, b8, true, rfl, iteF ?_⟩
        -- the left sides
        have sMR := sMP.trans sR
        have hrestR := sMR _ _ hrestM
        refine ⟨_, rfl, D2, rfl, ⟨_, SqL.of hrestR⟩, fun D4 hD4 => lcs_list (xs := rxs) (Same HR) (SideAt D4) (fun n cs => cs = (rest.take n).map fun r => sidesOf Tc r.1) stays_side (small_line (by omega)) (same_new hD4) (same_gD hD4) (fun H2 k => SqL.of (k _ _ hrestR)) rfl ?_ ?_⟩
        · intro n x hx H2 cs KY KN go hac hside pc2 ky kn
          obtain ⟨r, hr2, hrow⟩ := each_get hrxM hx
          have sM2 := sMR.trans go
          obtain ⟨t, xa, xb, rfl, ht, hxa, hxb⟩ := hrow.tk (TK.of sM2)
          have hmem := mem_rest hr2
          obtain ⟨s1', s2', es, _⟩ := needy_sides gd ty hmem
          refine ⟨t, _, rfl, SqT.of ht, rfl, xa, [xb], rfl, xb, [], rfl, rfl, rfl, yes ⟨_, rfl, _, rfl, _, rfl, tp, xa, .ref mp, marks, Tc, r.1, given ++ told, rfl, CM.th.same sM2, hxa, knM.same sM2, hmem, fun H3 v3 s3 hv3 => ?_⟩⟩
          have kp : H3 D4 = H2 D4 := by
            obtain ⟨ac, e⟩ := hac
            rw [e]
            exact s3 _ _ e
          refine ky (sidesOf Tc r.1) _ _ ?_ (go.trans s3) (SB.of s3) kp ⟨side_ne hac hside s3 hv3 (by rw [es]; simp), hv3⟩
          show cs ++ _ = _
          rw [pc2, take_snoc hr2, List.map_append]
          rfl
        intro HT acc4 cs4 sT hA4 he4 pc4
        rw [hrx.length, List.take_length] at pc4
        have hs4 : ListAt (ListAt LotAt) HT (.ref D4) cs4 := ⟨D4, acc4, rfl, hA4, L2.Paired.mapP he4 fun v c h => h.2⟩
        have sMT := sMR.trans sT
        have hrestT := sMT _ _ hrestM
        -- the left sides before
        refine ⟨_, rfl, _, rfl, D2, rfl, ⟨_, SqL.of hrestT⟩, fun D5 hD5 => lcs_list (xs := rxs) (Same HT) (SideAt D5) (fun n cs => cs = (rest.take n).map fun r => sidesOf Tc r.1) stays_side (small_line (by omega)) (same_new hD5) (same_gD hD5) (fun H2 k => SqL.of (k _ _ hrestT)) rfl ?_ ?_⟩
        · intro n x hx H2 cs KY KN go hac hside pc2 ky kn
          obtain ⟨r, hr2, hrow⟩ := each_get hrxM hx
          have sM2 := sMT.trans go
          obtain ⟨t, xa, xb, rfl, ht, hxa, hxb⟩ := hrow.tk (TK.of sM2)
          have hmem := mem_rest hr2
          obtain ⟨s1', s2', es, _⟩ := needy_sides gd ty hmem
          have C2 := CM.on (On.of CM.bag sM2)
          refine ⟨t, _, rfl, SqT.of ht, rfl, xa, [xb], rfl, xb, [], rfl, rfl, rfl, yes ⟨_, rfl, _, rfl, _, rfl, _, rfl, mv, gv, marks, given, rfl, gd, C2.mm, C2.gv, fun H3 kv3 s3 kn3 => ?_⟩⟩
          have C3 := C2.on (On.of C2.bag s3)
          refine ⟨tp, xa, kv3, marks, Tc, r.1, given, rfl, C3.th, hxa.tk (TK.of s3), kn3, sbr _ hmem, fun H4 v4 s4 hv4 => ?_⟩
          have s34 := s3.trans s4
          have kp : H4 D5 = H2 D5 := by
            obtain ⟨ac, e⟩ := hac
            rw [e]
            exact s34 _ _ e
          refine ky (sidesOf Tc r.1) _ _ ?_ (go.trans s34) (SB.of s34) kp ⟨side_ne hac hside s34 hv4 (by rw [es]; simp), hv4⟩
          show cs ++ _ = _
          rw [pc2, take_snoc hr2, List.map_append]
          rfl
        intro HU acc5 cs5 sU hA5 he5 pc5
        rw [hrx.length, List.take_length] at pc5
        have hs5 : ListAt (ListAt LotAt) HU (.ref D5) cs5 := ⟨D5, acc5, rfl, hA5, L2.Paired.mapP he5 fun v c h => h.2⟩
        have hs4' : ListAt (ListAt LotAt) HU (.ref D4) cs4 := sides_same hs4 sU
        have e45 : cs4 = cs5 := by rw [pc4, pc5]
        have gs : ∀ ls ∈ cs4, ∀ l ∈ ls, ∀ m ∈ l, GoodM m := fun ls hls l hl => by
          rw [pc4] at hls
          obtain ⟨r, hr2, rfl⟩ := List.mem_map.mp hls
          have o1 := (restO r hr2).1
          have o2 := (sides_of (T := Tc) o1.1).1 l hl
          exact gd.of ⟨o2.1, fun m hm => o1.2 m (o2.2 m hm)⟩
        refine ⟨sidesD cs4, sidesD cs5, dp_sides hs4', dp_sides hs5, shaped_sides gs, shaped_sides (by rw [← e45]; exact gs), false, ?_, iteF ?_⟩
        · rw [show PyData.eqv (sidesD cs4) (sidesD cs5) = decide (cs4 = cs5) from eqv_sides _ _, decide_eq_true e45]
          rfl
        -- the marks ahead
        have sMU := sMT.trans sU
        refine ⟨_, rfl, _, rfl, tp, .ref mp, marks, Tc, given ++ told, rfl, CM.th.same sMU, knM.same sMU, fun HV sV => ?_⟩
        obtain ⟨d4, ss4, e4, hd4, hss4⟩ := sides_same hs4' sV
        obtain rfl := V.ref.inj e4
        have ss4l : ss4.length ≤ 32 := by
          rw [hss4.length, pc4, List.length_map]
          exact restL
        refine ⟨_, rfl, D4, rfl, ⟨_, SqL.of hd4⟩, fun D6 hD6 => lcg_list (xs := ss4) (Same HV) IntAt (fun n cs => cs = (cs4.take n).map fun ss => ((ss.headD []).length : Int)) stays_int (small_line (by omega)) (same_new hD6) (same_gD hD6) (fun H2 k => SqL.of (k _ _ hd4)) rfl ?_ ?_⟩
        · intro n x hx H2 cs KY KN go hac pc2 ky kn
          obtain ⟨ss, hs2, sp, sxs, rfl, hsp, hse⟩ := each_get hss4 hx
          have hne : ∃ s0 r0, ss = s0 :: r0 := by
            have hm := List.mem_of_getElem? hs2
            rw [pc4] at hm
            obtain ⟨r, hr2, rfl⟩ := List.mem_map.mp hm
            obtain ⟨s0, r0, es, _⟩ := needy_sides gd ty (show r.1 ∈ needyK marks Tc (given ++ told) by rw [← eH]; exact List.mem_map.mpr ⟨r, hr2, rfl⟩)
            exact ⟨s0, r0, es⟩
          obtain ⟨s0, r0, rfl⟩ := hne
          cases hse with
          | cons h0 ht0 =>
            obtain ⟨t, rfl, ht⟩ := h0
            refine ⟨rfl, yes ⟨_, rfl, sp, _, 0, _, rfl, rfl, go _ _ hsp, rfl, t, _, rfl, .inr (go _ _ ht), ky ((s0.length : Nat) : Int) _ _ ?_ go (TK.refl _) rfl (by rw [List.length_map]; rfl)⟩⟩
            show cs ++ _ = _
            rw [pc2, take_snoc hs2, List.map_append]
            rfl
        intro HW acc6 cs6 sW hA6 he6 pc6
        rw [hss4.length, List.take_length] at pc6
        rw [ints_of he6] at hA6
        have ef : fewest Tc (needyK marks Tc (given ++ told)) = cs6.sum := by
          unfold fewest
          rw [pc6, pc4, ← eH, List.map_map, List.map_map]
          rfl
        refine ⟨D6, cs6, rfl, SqL.of hA6, rfl, false, ?_, iteF ?_⟩
        · rw [ef]
          simp
        · exact ⟨_, _, _, _, _, rfl, ((oI.trans oA).same sB).trans (oM.same ((sMU.trans sV).trans sW))⟩
      · rintro σ H' ⟨y10, y11, y12, y13, y14, rfl, oI⟩
        have C := C9.on oI
        have nwb : wa ≠ b := ne_bag noint_row hwa hwx C9.bag
        have hwa' := oI.lst nwb hwa
        have hwx' := stays_row.each (oI.tk C9.bag) hwx
        refine ⟨_, rfl, _, rfl, given_or (i := 8) rfl C.gv fun HC gp gxs sC hgp hgx => ?_⟩
        have gl : gxs.length ≤ 100 := by rw [hgx.length]; exact C9.gv.2.1
        refine ⟨_, rfl, gp, wa, gxs, wxs, rfl, rfl, hgp, sC _ _ hwa', Nat.le_of_lt (small_line (by omega)), fun np hnp => ?_⟩
        have sE : Same HC (upd HC np (.lst (gxs ++ wxs))) := same_new hnp
        have s1 := sC.trans sE
        have roM : RowsOf marks (given ++ (needyK marks Tc given).map (rowOfT Tc)) := fun r hr2 => (List.mem_append.mp hr2).elim (C9.gv.1 r) (fun h => (rowsW r h).1)
        have lM : (given ++ (needyK marks Tc given).map (rowOfT Tc)).length ≤ 1000 := by
          have := C9.gv.2.1
          rw [List.length_append]
          omega
        intro mp dx q1 q2 q3
        refine mk_rulesR q1 q2 q3 (C.mm.tk (TK.of s1)) ⟨np, _, rfl, upd_same, stays_row.each (TK.of sE) (each_append hgx (stays_row.each (TK.of sC) hwx'))⟩ gd roM lM fun HM sM isM => ⟨rfl, ?_⟩
        have s2 := s1.trans sM
        refine ⟨tp, .ref mp, marks, Tc, _, rfl, C.th.same s2, ⟨roM, lM, .inr ⟨mp, rfl, isM⟩⟩, fun HN v sN hv => ?_⟩
        have eN := law_rest gd ty (given := given) (part := (needyK marks Tc given).map (rowOfT Tc)) (told := (needyK marks Tc given).map (rowOfT Tc)) (fun r h => h) (fun l => rfl)
        have e0 : needyK marks Tc (given ++ (needyK marks Tc given).map (rowOfT Tc)) = [] := by
          rw [eN, List.filter_eq_nil_iff]
          intro l hl
          have : rowOfT Tc l ∈ (needyK marks Tc given).map (rowOfT Tc) := List.mem_map.mpr ⟨l, hl, rfl⟩
          simp [this]
        rw [e0] at hv
        refine ⟨Nat.zero_le _, fun n hn => ⟨lotsD [], lotsD [], dp_lots (hv.same stays_lot (same_new hn)), dp_lots ⟨n, [], rfl, upd_same, .nil⟩, shaped_lots (fun l hl => by cases hl), shaped_lots (fun l hl => by cases hl), false, ?_, iteF ?_⟩⟩
        · rw [show PyData.eqv (lotsD []) (lotsD []) = decide (([] : List Lot) = []) from eqv_lots _ _]
          rfl
        · exact ⟨_, _, _, _, _, _, _, _, _, _, _, _, _, rfl, C.bag.same ((s2.trans sN).trans (same_new hn))⟩
    · rintro σ H' ⟨x2, x3, x4, x5, x6, x7, x8, x9, x10, x11, x12, x13, x14, rfl, bag0⟩
      exact q _
end
end K5
/-! K5y: what stands behind the top, put together. -/
namespace K5
open PySem PySem.Spec PyProof.Rows L2

theorem gK_len {α : Type} {n m : Nat} {us ws : List α} {j : Nat} (h : (gK n m us ws).length = j) (hj : j ≠ 0) : us.length = n ∧ ws.length = m := by
  unfold gK at h
  by_cases c : (us.length == n && ws.length == m) = true
  · rw [Bool.and_eq_true, beq_iff_eq, beq_iff_eq] at c
    exact c
  · rw [if_neg c] at h
    exact absurd h.symm hj
theorem gK_rel {n m : Nat} {vs : List V} {us : List Value} {zs : List V} {ws : List Value} (r : Vals vs us) (q : Vals zs ws) : Vals (gK n m vs zs) (gK n m us ws) := by
  unfold gK
  rw [r.length, q.length]
  split
  · exact r.append q
  · exact .nil
theorem kb1 {K : PySem.W.Frag} {fd : FuncData} {x k : Str} (h : ∀ (s : Shared) (u v : Value), BindsTo s fd ⟨[u], [(k, v)]⟩ [(x, u), (k, v)]) : KBinds K fd ([x] ++ [k]) [k] (gK ([x] : List Str).length ([k] : List Str).length) (gK ([x] : List Str).length ([k] : List Str).length) :=
  ⟨fun s us ws _ hl => by
    obtain ⟨h1, h2⟩ := gK_len hl (by simp)
    match us, ws, h1, h2 with
    | [u], [v], _, _ => exact h s u v, fun r q => gK_rel r q⟩
theorem kb2 {K : PySem.W.Frag} {fd : FuncData} {x y k : Str} (h : ∀ (s : Shared) (u z v : Value), BindsTo s fd ⟨[u, z], [(k, v)]⟩ [(x, u), (y, z), (k, v)]) : KBinds K fd ([x, y] ++ [k]) [k] (gK ([x, y] : List Str).length ([k] : List Str).length) (gK ([x, y] : List Str).length ([k] : List Str).length) :=
  ⟨fun s us ws _ hl => by
    obtain ⟨h1, h2⟩ := gK_len hl (by simp)
    match us, ws, h1, h2 with
    | [u, z], [v], _, _ => exact h s u z v, fun r q => gK_rel r q⟩
theorem all_mk {P : Program} {w : World} {K : PySem.W.Frag} {mg : Str → Option Value} {fa : Addr} {h : Heap} (X : K.In h) (G : h.Ns mainGlobals mg) (hfa : mg "law" = some (.ref fa))
    {CR CT pR pT fLotOf fInOrder fAllLots fWithin fJoined fCommon fWithout fIsMark fIsLot fIsRule fBreaks fIsRuleOf fAreRulesOf fKnownRules fRowOf fSidesOf fIsLotOf fLBag fLTake fLAlike fLMixed fLOne fLMarks fLLot fLFew fLRule fLSomeRows fLWithin fLInOrder fLAllLots fLClosing fLTable fLShared fLEnds fLTheory fLKnownRows fLMadeKnown fLToldPart fRank fNeedyLots fLeastList fLeftSides fFewestAhead fRI fRM fRR fRC fRA fRB fRN fTI fTM fTC fTA fLaw : Addr} {restR restT : List Value} {tok : Tok}
    {odLotOf anLotOf odInOrder anInOrder odAllLots anAllLots odWithin anWithin odJoined anJoined odCommon anCommon odWithout anWithout odIsMark anIsMark odIsLot anIsLot odIsRule anIsRule odBreaks anBreaks odIsRuleOf anIsRuleOf odAreRulesOf anAreRulesOf odKnownRules anKnownRules odRowOf anRowOf odSidesOf anSidesOf odIsLotOf anIsLotOf odLBag anLBag odLTake anLTake odLAlike anLAlike odLMixed anLMixed odLOne anLOne odLMarks anLMarks odLLot anLLot odLFew anLFew odLRule anLRule odLSomeRows anLSomeRows odLWithin anLWithin odLInOrder anLInOrder odLAllLots anLAllLots odLClosing anLClosing odLTable anLTable odLShared anLShared odLEnds anLEnds odLTheory anLTheory odLKnownRows anLKnownRows odLMadeKnown anLMadeKnown odLToldPart anLToldPart odRank anRank odNeedyLots anNeedyLots odLeastList anLeastList odLeftSides anLeftSides odFewestAhead anFewestAhead odRI anRI odRM anRM odRR anRR odRC anRC odRA anRA odRB anRB odRN anRN odTI anTI odTM anTM odTC anTC odTA anTA odLaw anLaw : Option Addr} {slLotOf slInOrder slAllLots slWithin slJoined slCommon slWithout slIsMark slIsLot slIsRule slBreaks slIsRuleOf slAreRulesOf slKnownRules slRowOf slSidesOf slIsLotOf slLBag slLTake slLAlike slLMixed slLOne slLMarks slLLot slLFew slLRule slLSomeRows slLWithin slLInOrder slLAllLots slLClosing slLTable slLShared slLEnds slLTheory slLKnownRows slLMadeKnown slLToldPart slRank slNeedyLots slLeastList slLeftSides slFewestAhead slRI slRM slRR slRC slRA slRB slRN slTI slTM slTC slTA slLaw : Array (Option Value)}
    {ocLotOf kVLotOf dcLotOf pmLotOf cdLotOf ctLotOf ocInOrder kVInOrder dcInOrder pmInOrder cdInOrder ctInOrder ocAllLots kVAllLots dcAllLots pmAllLots cdAllLots ctAllLots ocWithin kVWithin dcWithin pmWithin cdWithin ctWithin ocJoined kVJoined dcJoined pmJoined cdJoined ctJoined ocCommon kVCommon dcCommon pmCommon cdCommon ctCommon ocWithout kVWithout dcWithout pmWithout cdWithout ctWithout ocIsMark kVIsMark dcIsMark pmIsMark cdIsMark ctIsMark ocIsLot kVIsLot dcIsLot pmIsLot cdIsLot ctIsLot ocIsRule kVIsRule dcIsRule pmIsRule cdIsRule ctIsRule ocBreaks kVBreaks dcBreaks pmBreaks cdBreaks ctBreaks ocIsRuleOf kVIsRuleOf dcIsRuleOf pmIsRuleOf cdIsRuleOf ctIsRuleOf ocAreRulesOf kVAreRulesOf dcAreRulesOf pmAreRulesOf cdAreRulesOf ctAreRulesOf ocKnownRules kVKnownRules dcKnownRules pmKnownRules cdKnownRules ctKnownRules ocRowOf kVRowOf dcRowOf pmRowOf cdRowOf ctRowOf ocSidesOf kVSidesOf dcSidesOf pmSidesOf cdSidesOf ctSidesOf ocIsLotOf kVIsLotOf dcIsLotOf pmIsLotOf cdIsLotOf ctIsLotOf ocLBag kVLBag dcLBag pmLBag cdLBag ctLBag ocLTake kVLTake dcLTake pmLTake cdLTake ctLTake ocLAlike kVLAlike dcLAlike pmLAlike cdLAlike ctLAlike ocLMixed kVLMixed dcLMixed pmLMixed cdLMixed ctLMixed ocLOne kVLOne dcLOne pmLOne cdLOne ctLOne ocLMarks kVLMarks dcLMarks pmLMarks cdLMarks ctLMarks ocLLot kVLLot dcLLot pmLLot cdLLot ctLLot ocLFew kVLFew dcLFew pmLFew cdLFew ctLFew ocLRule kVLRule dcLRule pmLRule cdLRule ctLRule ocLSomeRows kVLSomeRows dcLSomeRows pmLSomeRows cdLSomeRows ctLSomeRows ocLWithin kVLWithin dcLWithin pmLWithin cdLWithin ctLWithin ocLInOrder kVLInOrder dcLInOrder pmLInOrder cdLInOrder ctLInOrder ocLAllLots kVLAllLots dcLAllLots pmLAllLots cdLAllLots ctLAllLots ocLClosing kVLClosing dcLClosing pmLClosing cdLClosing ctLClosing ocLTable kVLTable dcLTable pmLTable cdLTable ctLTable ocLShared kVLShared dcLShared pmLShared cdLShared ctLShared ocLEnds kVLEnds dcLEnds pmLEnds cdLEnds ctLEnds ocLTheory kVLTheory dcLTheory pmLTheory cdLTheory ctLTheory ocLKnownRows kVLKnownRows dcLKnownRows pmLKnownRows cdLKnownRows ctLKnownRows ocLMadeKnown kVLMadeKnown dcLMadeKnown pmLMadeKnown cdLMadeKnown ctLMadeKnown ocLToldPart kVLToldPart dcLToldPart pmLToldPart cdLToldPart ctLToldPart ocRank kVRank dcRank pmRank cdRank ctRank ocNeedyLots kVNeedyLots dcNeedyLots pmNeedyLots cdNeedyLots ctNeedyLots ocLeastList kVLeastList dcLeastList pmLeastList cdLeastList ctLeastList ocLeftSides kVLeftSides dcLeftSides pmLeftSides cdLeftSides ctLeftSides ocFewestAhead kVFewestAhead dcFewestAhead pmFewestAhead cdFewestAhead ctFewestAhead ocRI kVRI dcRI pmRI cdRI ctRI ocRM kVRM dcRM pmRM cdRM ctRM ocRR kVRR dcRR pmRR cdRR ctRR ocRC kVRC dcRC pmRC cdRC ctRC ocRA kVRA dcRA pmRA cdRA ctRA ocRB kVRB dcRB pmRB cdRB ctRB ocRN kVRN dcRN pmRN cdRN ctRN ocTI kVTI dcTI pmTI cdTI ctTI ocTM kVTM dcTM pmTM cdTM ctTM ocTC kVTC dcTC pmTC cdTC ctTC ocTA kVTA dcTA pmTA cdTA ctTA ocLaw kVLaw dcLaw pmLaw cdLaw ctLaw : Value}
    (aLotOf : PySem.W.nsIn K mainGlobals "lot_of" = some (some (.ref fLotOf)))
    (lLotOf : K.lookup fLotOf = some ⟨ocLotOf, odLotOf, .func (PySem.W.fnOf "lot_of" "lot_of" (defArgs sLotOf) (defBody sLotOf) (defScope sLotOf) .none kVLotOf dcLotOf pmLotOf anLotOf cdLotOf ctLotOf), slLotOf⟩)
    (cLotOf : PySem.W.codeIn K cdLotOf "lot_of" = true)
    (kLotOf : PySem.W.keepIn K (.ref fLotOf) = true)
    (aInOrder : PySem.W.nsIn K mainGlobals "in_order" = some (some (.ref fInOrder)))
    (lInOrder : K.lookup fInOrder = some ⟨ocInOrder, odInOrder, .func (PySem.W.fnOf "in_order" "in_order" (defArgs sInOrder) (defBody sInOrder) (defScope sInOrder) .none kVInOrder dcInOrder pmInOrder anInOrder cdInOrder ctInOrder), slInOrder⟩)
    (cInOrder : PySem.W.codeIn K cdInOrder "in_order" = true)
    (kInOrder : PySem.W.keepIn K (.ref fInOrder) = true)
    (aAllLots : PySem.W.nsIn K mainGlobals "all_lots" = some (some (.ref fAllLots)))
    (lAllLots : K.lookup fAllLots = some ⟨ocAllLots, odAllLots, .func (PySem.W.fnOf "all_lots" "all_lots" (defArgs sAllLots) (defBody sAllLots) (defScope sAllLots) .none kVAllLots dcAllLots pmAllLots anAllLots cdAllLots ctAllLots), slAllLots⟩)
    (cAllLots : PySem.W.codeIn K cdAllLots "all_lots" = true)
    (kAllLots : PySem.W.keepIn K (.ref fAllLots) = true)
    (aWithin : PySem.W.nsIn K mainGlobals "within" = some (some (.ref fWithin)))
    (lWithin : K.lookup fWithin = some ⟨ocWithin, odWithin, .func (PySem.W.fnOf "within" "within" (defArgs sWithin) (defBody sWithin) (defScope sWithin) .none kVWithin dcWithin pmWithin anWithin cdWithin ctWithin), slWithin⟩)
    (cWithin : PySem.W.codeIn K cdWithin "within" = true)
    (kWithin : PySem.W.keepIn K (.ref fWithin) = true)
    (aJoined : PySem.W.nsIn K mainGlobals "joined" = some (some (.ref fJoined)))
    (lJoined : K.lookup fJoined = some ⟨ocJoined, odJoined, .func (PySem.W.fnOf "joined" "joined" (defArgs sJoined) (defBody sJoined) (defScope sJoined) .none kVJoined dcJoined pmJoined anJoined cdJoined ctJoined), slJoined⟩)
    (cJoined : PySem.W.codeIn K cdJoined "joined" = true)
    (kJoined : PySem.W.keepIn K (.ref fJoined) = true)
    (aCommon : PySem.W.nsIn K mainGlobals "common" = some (some (.ref fCommon)))
    (lCommon : K.lookup fCommon = some ⟨ocCommon, odCommon, .func (PySem.W.fnOf "common" "common" (defArgs sCommon) (defBody sCommon) (defScope sCommon) .none kVCommon dcCommon pmCommon anCommon cdCommon ctCommon), slCommon⟩)
    (cCommon : PySem.W.codeIn K cdCommon "common" = true)
    (kCommon : PySem.W.keepIn K (.ref fCommon) = true)
    (aWithout : PySem.W.nsIn K mainGlobals "without" = some (some (.ref fWithout)))
    (lWithout : K.lookup fWithout = some ⟨ocWithout, odWithout, .func (PySem.W.fnOf "without" "without" (defArgs sWithout) (defBody sWithout) (defScope sWithout) .none kVWithout dcWithout pmWithout anWithout cdWithout ctWithout), slWithout⟩)
    (cWithout : PySem.W.codeIn K cdWithout "without" = true)
    (kWithout : PySem.W.keepIn K (.ref fWithout) = true)
    (aIsMark : PySem.W.nsIn K mainGlobals "is_mark" = some (some (.ref fIsMark)))
    (lIsMark : K.lookup fIsMark = some ⟨ocIsMark, odIsMark, .func (PySem.W.fnOf "is_mark" "is_mark" (defArgs sIsMark) (defBody sIsMark) (defScope sIsMark) .none kVIsMark dcIsMark pmIsMark anIsMark cdIsMark ctIsMark), slIsMark⟩)
    (cIsMark : PySem.W.codeIn K cdIsMark "is_mark" = true)
    (kIsMark : PySem.W.keepIn K (.ref fIsMark) = true)
    (aIsLot : PySem.W.nsIn K mainGlobals "is_lot" = some (some (.ref fIsLot)))
    (lIsLot : K.lookup fIsLot = some ⟨ocIsLot, odIsLot, .func (PySem.W.fnOf "is_lot" "is_lot" (defArgs sIsLot) (defBody sIsLot) (defScope sIsLot) .none kVIsLot dcIsLot pmIsLot anIsLot cdIsLot ctIsLot), slIsLot⟩)
    (cIsLot : PySem.W.codeIn K cdIsLot "is_lot" = true)
    (kIsLot : PySem.W.keepIn K (.ref fIsLot) = true)
    (aIsRule : PySem.W.nsIn K mainGlobals "is_rule" = some (some (.ref fIsRule)))
    (lIsRule : K.lookup fIsRule = some ⟨ocIsRule, odIsRule, .func (PySem.W.fnOf "is_rule" "is_rule" (defArgs sIsRule) (defBody sIsRule) (defScope sIsRule) .none kVIsRule dcIsRule pmIsRule anIsRule cdIsRule ctIsRule), slIsRule⟩)
    (cIsRule : PySem.W.codeIn K cdIsRule "is_rule" = true)
    (kIsRule : PySem.W.keepIn K (.ref fIsRule) = true)
    (aBreaks : PySem.W.nsIn K mainGlobals "breaks" = some (some (.ref fBreaks)))
    (lBreaks : K.lookup fBreaks = some ⟨ocBreaks, odBreaks, .func (PySem.W.fnOf "breaks" "breaks" (defArgs sBreaks) (defBody sBreaks) (defScope sBreaks) .none kVBreaks dcBreaks pmBreaks anBreaks cdBreaks ctBreaks), slBreaks⟩)
    (cBreaks : PySem.W.codeIn K cdBreaks "breaks" = true)
    (kBreaks : PySem.W.keepIn K (.ref fBreaks) = true)
    (aIsRuleOf : PySem.W.nsIn K mainGlobals "is_rule_of" = some (some (.ref fIsRuleOf)))
    (lIsRuleOf : K.lookup fIsRuleOf = some ⟨ocIsRuleOf, odIsRuleOf, .func (PySem.W.fnOf "is_rule_of" "is_rule_of" (defArgs sIsRuleOf) (defBody sIsRuleOf) (defScope sIsRuleOf) .none kVIsRuleOf dcIsRuleOf pmIsRuleOf anIsRuleOf cdIsRuleOf ctIsRuleOf), slIsRuleOf⟩)
    (cIsRuleOf : PySem.W.codeIn K cdIsRuleOf "is_rule_of" = true)
    (kIsRuleOf : PySem.W.keepIn K (.ref fIsRuleOf) = true)
    (aAreRulesOf : PySem.W.nsIn K mainGlobals "are_rules_of" = some (some (.ref fAreRulesOf)))
    (lAreRulesOf : K.lookup fAreRulesOf = some ⟨ocAreRulesOf, odAreRulesOf, .func (PySem.W.fnOf "are_rules_of" "are_rules_of" (defArgs sAreRulesOf) (defBody sAreRulesOf) (defScope sAreRulesOf) .none kVAreRulesOf dcAreRulesOf pmAreRulesOf anAreRulesOf cdAreRulesOf ctAreRulesOf), slAreRulesOf⟩)
    (cAreRulesOf : PySem.W.codeIn K cdAreRulesOf "are_rules_of" = true)
    (kAreRulesOf : PySem.W.keepIn K (.ref fAreRulesOf) = true)
    (aKnownRules : PySem.W.nsIn K mainGlobals "known_rules" = some (some (.ref fKnownRules)))
    (lKnownRules : K.lookup fKnownRules = some ⟨ocKnownRules, odKnownRules, .func (PySem.W.fnOf "known_rules" "known_rules" (defArgs sKnownRules) (defBody sKnownRules) (defScope sKnownRules) .none kVKnownRules dcKnownRules pmKnownRules anKnownRules cdKnownRules ctKnownRules), slKnownRules⟩)
    (cKnownRules : PySem.W.codeIn K cdKnownRules "known_rules" = true)
    (kKnownRules : PySem.W.keepIn K (.ref fKnownRules) = true)
    (aRowOf : PySem.W.nsIn K mainGlobals "row_of" = some (some (.ref fRowOf)))
    (lRowOf : K.lookup fRowOf = some ⟨ocRowOf, odRowOf, .func (PySem.W.fnOf "row_of" "row_of" (defArgs sRowOf) (defBody sRowOf) (defScope sRowOf) .none kVRowOf dcRowOf pmRowOf anRowOf cdRowOf ctRowOf), slRowOf⟩)
    (cRowOf : PySem.W.codeIn K cdRowOf "row_of" = true)
    (kRowOf : PySem.W.keepIn K (.ref fRowOf) = true)
    (aSidesOf : PySem.W.nsIn K mainGlobals "sides_of" = some (some (.ref fSidesOf)))
    (lSidesOf : K.lookup fSidesOf = some ⟨ocSidesOf, odSidesOf, .func (PySem.W.fnOf "sides_of" "sides_of" (defArgs sSidesOf) (defBody sSidesOf) (defScope sSidesOf) .none kVSidesOf dcSidesOf pmSidesOf anSidesOf cdSidesOf ctSidesOf), slSidesOf⟩)
    (cSidesOf : PySem.W.codeIn K cdSidesOf "sides_of" = true)
    (kSidesOf : PySem.W.keepIn K (.ref fSidesOf) = true)
    (aIsLotOf : PySem.W.nsIn K mainGlobals "is_lot_of" = some (some (.ref fIsLotOf)))
    (lIsLotOf : K.lookup fIsLotOf = some ⟨ocIsLotOf, odIsLotOf, .func (PySem.W.fnOf "is_lot_of" "is_lot_of" (defArgs sIsLotOf) (defBody sIsLotOf) (defScope sIsLotOf) .none kVIsLotOf dcIsLotOf pmIsLotOf anIsLotOf cdIsLotOf ctIsLotOf), slIsLotOf⟩)
    (cIsLotOf : PySem.W.codeIn K cdIsLotOf "is_lot_of" = true)
    (kIsLotOf : PySem.W.keepIn K (.ref fIsLotOf) = true)
    (aLBag : PySem.W.nsIn K mainGlobals "_law_bag" = some (some (.ref fLBag)))
    (lLBag : K.lookup fLBag = some ⟨ocLBag, odLBag, .func (PySem.W.fnOf "_law_bag" "_law_bag" (defArgs sLBag) (defBody sLBag) (defScope sLBag) .none kVLBag dcLBag pmLBag anLBag cdLBag ctLBag), slLBag⟩)
    (cLBag : PySem.W.codeIn K cdLBag "_law_bag" = true)
    (kLBag : PySem.W.keepIn K (.ref fLBag) = true)
    (aLTake : PySem.W.nsIn K mainGlobals "_law_take" = some (some (.ref fLTake)))
    (lLTake : K.lookup fLTake = some ⟨ocLTake, odLTake, .func (PySem.W.fnOf "_law_take" "_law_take" (defArgs sLTake) (defBody sLTake) (defScope sLTake) .none kVLTake dcLTake pmLTake anLTake cdLTake ctLTake), slLTake⟩)
    (cLTake : PySem.W.codeIn K cdLTake "_law_take" = true)
    (kLTake : PySem.W.keepIn K (.ref fLTake) = true)
    (aLAlike : PySem.W.nsIn K mainGlobals "_law_alike" = some (some (.ref fLAlike)))
    (lLAlike : K.lookup fLAlike = some ⟨ocLAlike, odLAlike, .func (PySem.W.fnOf "_law_alike" "_law_alike" (defArgs sLAlike) (defBody sLAlike) (defScope sLAlike) .none kVLAlike dcLAlike pmLAlike anLAlike cdLAlike ctLAlike), slLAlike⟩)
    (cLAlike : PySem.W.codeIn K cdLAlike "_law_alike" = true)
    (kLAlike : PySem.W.keepIn K (.ref fLAlike) = true)
    (aLMixed : PySem.W.nsIn K mainGlobals "_law_mixed" = some (some (.ref fLMixed)))
    (lLMixed : K.lookup fLMixed = some ⟨ocLMixed, odLMixed, .func (PySem.W.fnOf "_law_mixed" "_law_mixed" (defArgs sLMixed) (defBody sLMixed) (defScope sLMixed) .none kVLMixed dcLMixed pmLMixed anLMixed cdLMixed ctLMixed), slLMixed⟩)
    (cLMixed : PySem.W.codeIn K cdLMixed "_law_mixed" = true)
    (kLMixed : PySem.W.keepIn K (.ref fLMixed) = true)
    (aLOne : PySem.W.nsIn K mainGlobals "_law_one" = some (some (.ref fLOne)))
    (lLOne : K.lookup fLOne = some ⟨ocLOne, odLOne, .func (PySem.W.fnOf "_law_one" "_law_one" (defArgs sLOne) (defBody sLOne) (defScope sLOne) .none kVLOne dcLOne pmLOne anLOne cdLOne ctLOne), slLOne⟩)
    (cLOne : PySem.W.codeIn K cdLOne "_law_one" = true)
    (kLOne : PySem.W.keepIn K (.ref fLOne) = true)
    (aLMarks : PySem.W.nsIn K mainGlobals "_law_marks" = some (some (.ref fLMarks)))
    (lLMarks : K.lookup fLMarks = some ⟨ocLMarks, odLMarks, .func (PySem.W.fnOf "_law_marks" "_law_marks" (defArgs sLMarks) (defBody sLMarks) (defScope sLMarks) .none kVLMarks dcLMarks pmLMarks anLMarks cdLMarks ctLMarks), slLMarks⟩)
    (cLMarks : PySem.W.codeIn K cdLMarks "_law_marks" = true)
    (kLMarks : PySem.W.keepIn K (.ref fLMarks) = true)
    (aLLot : PySem.W.nsIn K mainGlobals "_law_lot" = some (some (.ref fLLot)))
    (lLLot : K.lookup fLLot = some ⟨ocLLot, odLLot, .func (PySem.W.fnOf "_law_lot" "_law_lot" (defArgs sLLot) (defBody sLLot) (defScope sLLot) .none kVLLot dcLLot pmLLot anLLot cdLLot ctLLot), slLLot⟩)
    (cLLot : PySem.W.codeIn K cdLLot "_law_lot" = true)
    (kLLot : PySem.W.keepIn K (.ref fLLot) = true)
    (aLFew : PySem.W.nsIn K mainGlobals "_law_few" = some (some (.ref fLFew)))
    (lLFew : K.lookup fLFew = some ⟨ocLFew, odLFew, .func (PySem.W.fnOf "_law_few" "_law_few" (defArgs sLFew) (defBody sLFew) (defScope sLFew) .none kVLFew dcLFew pmLFew anLFew cdLFew ctLFew), slLFew⟩)
    (cLFew : PySem.W.codeIn K cdLFew "_law_few" = true)
    (kLFew : PySem.W.keepIn K (.ref fLFew) = true)
    (aLRule : PySem.W.nsIn K mainGlobals "_law_rule" = some (some (.ref fLRule)))
    (lLRule : K.lookup fLRule = some ⟨ocLRule, odLRule, .func (PySem.W.fnOf "_law_rule" "_law_rule" (defArgs sLRule) (defBody sLRule) (defScope sLRule) .none kVLRule dcLRule pmLRule anLRule cdLRule ctLRule), slLRule⟩)
    (cLRule : PySem.W.codeIn K cdLRule "_law_rule" = true)
    (kLRule : PySem.W.keepIn K (.ref fLRule) = true)
    (aLSomeRows : PySem.W.nsIn K mainGlobals "_law_some_rows" = some (some (.ref fLSomeRows)))
    (lLSomeRows : K.lookup fLSomeRows = some ⟨ocLSomeRows, odLSomeRows, .func (PySem.W.fnOf "_law_some_rows" "_law_some_rows" (defArgs sLSomeRows) (defBody sLSomeRows) (defScope sLSomeRows) .none kVLSomeRows dcLSomeRows pmLSomeRows anLSomeRows cdLSomeRows ctLSomeRows), slLSomeRows⟩)
    (cLSomeRows : PySem.W.codeIn K cdLSomeRows "_law_some_rows" = true)
    (kLSomeRows : PySem.W.keepIn K (.ref fLSomeRows) = true)
    (aLWithin : PySem.W.nsIn K mainGlobals "_law_within" = some (some (.ref fLWithin)))
    (lLWithin : K.lookup fLWithin = some ⟨ocLWithin, odLWithin, .func (PySem.W.fnOf "_law_within" "_law_within" (defArgs sLWithin) (defBody sLWithin) (defScope sLWithin) .none kVLWithin dcLWithin pmLWithin anLWithin cdLWithin ctLWithin), slLWithin⟩)
    (cLWithin : PySem.W.codeIn K cdLWithin "_law_within" = true)
    (kLWithin : PySem.W.keepIn K (.ref fLWithin) = true)
    (aLInOrder : PySem.W.nsIn K mainGlobals "_law_in_order" = some (some (.ref fLInOrder)))
    (lLInOrder : K.lookup fLInOrder = some ⟨ocLInOrder, odLInOrder, .func (PySem.W.fnOf "_law_in_order" "_law_in_order" (defArgs sLInOrder) (defBody sLInOrder) (defScope sLInOrder) .none kVLInOrder dcLInOrder pmLInOrder anLInOrder cdLInOrder ctLInOrder), slLInOrder⟩)
    (cLInOrder : PySem.W.codeIn K cdLInOrder "_law_in_order" = true)
    (kLInOrder : PySem.W.keepIn K (.ref fLInOrder) = true)
    (aLAllLots : PySem.W.nsIn K mainGlobals "_law_all_lots" = some (some (.ref fLAllLots)))
    (lLAllLots : K.lookup fLAllLots = some ⟨ocLAllLots, odLAllLots, .func (PySem.W.fnOf "_law_all_lots" "_law_all_lots" (defArgs sLAllLots) (defBody sLAllLots) (defScope sLAllLots) .none kVLAllLots dcLAllLots pmLAllLots anLAllLots cdLAllLots ctLAllLots), slLAllLots⟩)
    (cLAllLots : PySem.W.codeIn K cdLAllLots "_law_all_lots" = true)
    (kLAllLots : PySem.W.keepIn K (.ref fLAllLots) = true)
    (aLClosing : PySem.W.nsIn K mainGlobals "_law_closing" = some (some (.ref fLClosing)))
    (lLClosing : K.lookup fLClosing = some ⟨ocLClosing, odLClosing, .func (PySem.W.fnOf "_law_closing" "_law_closing" (defArgs sLClosing) (defBody sLClosing) (defScope sLClosing) .none kVLClosing dcLClosing pmLClosing anLClosing cdLClosing ctLClosing), slLClosing⟩)
    (cLClosing : PySem.W.codeIn K cdLClosing "_law_closing" = true)
    (kLClosing : PySem.W.keepIn K (.ref fLClosing) = true)
    (aLTable : PySem.W.nsIn K mainGlobals "_law_table" = some (some (.ref fLTable)))
    (lLTable : K.lookup fLTable = some ⟨ocLTable, odLTable, .func (PySem.W.fnOf "_law_table" "_law_table" (defArgs sLTable) (defBody sLTable) (defScope sLTable) .none kVLTable dcLTable pmLTable anLTable cdLTable ctLTable), slLTable⟩)
    (cLTable : PySem.W.codeIn K cdLTable "_law_table" = true)
    (kLTable : PySem.W.keepIn K (.ref fLTable) = true)
    (aLShared : PySem.W.nsIn K mainGlobals "_law_shared" = some (some (.ref fLShared)))
    (lLShared : K.lookup fLShared = some ⟨ocLShared, odLShared, .func (PySem.W.fnOf "_law_shared" "_law_shared" (defArgs sLShared) (defBody sLShared) (defScope sLShared) .none kVLShared dcLShared pmLShared anLShared cdLShared ctLShared), slLShared⟩)
    (cLShared : PySem.W.codeIn K cdLShared "_law_shared" = true)
    (kLShared : PySem.W.keepIn K (.ref fLShared) = true)
    (aLEnds : PySem.W.nsIn K mainGlobals "_law_ends" = some (some (.ref fLEnds)))
    (lLEnds : K.lookup fLEnds = some ⟨ocLEnds, odLEnds, .func (PySem.W.fnOf "_law_ends" "_law_ends" (defArgs sLEnds) (defBody sLEnds) (defScope sLEnds) .none kVLEnds dcLEnds pmLEnds anLEnds cdLEnds ctLEnds), slLEnds⟩)
    (cLEnds : PySem.W.codeIn K cdLEnds "_law_ends" = true)
    (kLEnds : PySem.W.keepIn K (.ref fLEnds) = true)
    (aLTheory : PySem.W.nsIn K mainGlobals "_law_theory" = some (some (.ref fLTheory)))
    (lLTheory : K.lookup fLTheory = some ⟨ocLTheory, odLTheory, .func (PySem.W.fnOf "_law_theory" "_law_theory" (defArgs sLTheory) (defBody sLTheory) (defScope sLTheory) .none kVLTheory dcLTheory pmLTheory anLTheory cdLTheory ctLTheory), slLTheory⟩)
    (cLTheory : PySem.W.codeIn K cdLTheory "_law_theory" = true)
    (kLTheory : PySem.W.keepIn K (.ref fLTheory) = true)
    (aLKnownRows : PySem.W.nsIn K mainGlobals "_law_known_rows" = some (some (.ref fLKnownRows)))
    (lLKnownRows : K.lookup fLKnownRows = some ⟨ocLKnownRows, odLKnownRows, .func (PySem.W.fnOf "_law_known_rows" "_law_known_rows" (defArgs sLKnownRows) (defBody sLKnownRows) (defScope sLKnownRows) .none kVLKnownRows dcLKnownRows pmLKnownRows anLKnownRows cdLKnownRows ctLKnownRows), slLKnownRows⟩)
    (cLKnownRows : PySem.W.codeIn K cdLKnownRows "_law_known_rows" = true)
    (kLKnownRows : PySem.W.keepIn K (.ref fLKnownRows) = true)
    (aLMadeKnown : PySem.W.nsIn K mainGlobals "_law_made_known" = some (some (.ref fLMadeKnown)))
    (lLMadeKnown : K.lookup fLMadeKnown = some ⟨ocLMadeKnown, odLMadeKnown, .func (PySem.W.fnOf "_law_made_known" "_law_made_known" (defArgs sLMadeKnown) (defBody sLMadeKnown) (defScope sLMadeKnown) .none kVLMadeKnown dcLMadeKnown pmLMadeKnown anLMadeKnown cdLMadeKnown ctLMadeKnown), slLMadeKnown⟩)
    (cLMadeKnown : PySem.W.codeIn K cdLMadeKnown "_law_made_known" = true)
    (kLMadeKnown : PySem.W.keepIn K (.ref fLMadeKnown) = true)
    (aLToldPart : PySem.W.nsIn K mainGlobals "_law_told_part" = some (some (.ref fLToldPart)))
    (lLToldPart : K.lookup fLToldPart = some ⟨ocLToldPart, odLToldPart, .func (PySem.W.fnOf "_law_told_part" "_law_told_part" (defArgs sLToldPart) (defBody sLToldPart) (defScope sLToldPart) .none kVLToldPart dcLToldPart pmLToldPart anLToldPart cdLToldPart ctLToldPart), slLToldPart⟩)
    (cLToldPart : PySem.W.codeIn K cdLToldPart "_law_told_part" = true)
    (kLToldPart : PySem.W.keepIn K (.ref fLToldPart) = true)
    (aRank : PySem.W.nsIn K mainGlobals "rank" = some (some (.ref fRank)))
    (lRank : K.lookup fRank = some ⟨ocRank, odRank, .func (PySem.W.fnOf "rank" "rank" (defArgs sRank) (defBody sRank) (defScope sRank) .none kVRank dcRank pmRank anRank cdRank ctRank), slRank⟩)
    (cRank : PySem.W.codeIn K cdRank "rank" = true)
    (kRank : PySem.W.keepIn K (.ref fRank) = true)
    (aNeedyLots : PySem.W.nsIn K mainGlobals "needy_lots" = some (some (.ref fNeedyLots)))
    (lNeedyLots : K.lookup fNeedyLots = some ⟨ocNeedyLots, odNeedyLots, .func (PySem.W.fnOf "needy_lots" "needy_lots" (defArgs sNeedyLots) (defBody sNeedyLots) (defScope sNeedyLots) .none kVNeedyLots dcNeedyLots pmNeedyLots anNeedyLots cdNeedyLots ctNeedyLots), slNeedyLots⟩)
    (cNeedyLots : PySem.W.codeIn K cdNeedyLots "needy_lots" = true)
    (kNeedyLots : PySem.W.keepIn K (.ref fNeedyLots) = true)
    (aLeastList : PySem.W.nsIn K mainGlobals "least_list" = some (some (.ref fLeastList)))
    (lLeastList : K.lookup fLeastList = some ⟨ocLeastList, odLeastList, .func (PySem.W.fnOf "least_list" "least_list" (defArgs sLeastList) (defBody sLeastList) (defScope sLeastList) .none kVLeastList dcLeastList pmLeastList anLeastList cdLeastList ctLeastList), slLeastList⟩)
    (cLeastList : PySem.W.codeIn K cdLeastList "least_list" = true)
    (kLeastList : PySem.W.keepIn K (.ref fLeastList) = true)
    (aLeftSides : PySem.W.nsIn K mainGlobals "left_sides" = some (some (.ref fLeftSides)))
    (lLeftSides : K.lookup fLeftSides = some ⟨ocLeftSides, odLeftSides, .func (PySem.W.fnOf "left_sides" "left_sides" (defArgs sLeftSides) (defBody sLeftSides) (defScope sLeftSides) .none kVLeftSides dcLeftSides pmLeftSides anLeftSides cdLeftSides ctLeftSides), slLeftSides⟩)
    (cLeftSides : PySem.W.codeIn K cdLeftSides "left_sides" = true)
    (kLeftSides : PySem.W.keepIn K (.ref fLeftSides) = true)
    (aFewestAhead : PySem.W.nsIn K mainGlobals "fewest_ahead" = some (some (.ref fFewestAhead)))
    (lFewestAhead : K.lookup fFewestAhead = some ⟨ocFewestAhead, odFewestAhead, .func (PySem.W.fnOf "fewest_ahead" "fewest_ahead" (defArgs sFewestAhead) (defBody sFewestAhead) (defScope sFewestAhead) .none kVFewestAhead dcFewestAhead pmFewestAhead anFewestAhead cdFewestAhead ctFewestAhead), slFewestAhead⟩)
    (cFewestAhead : PySem.W.codeIn K cdFewestAhead "fewest_ahead" = true)
    (kFewestAhead : PySem.W.keepIn K (.ref fFewestAhead) = true)
    (aCR : PySem.W.nsIn K mainGlobals "Rules" = some (some (.ref CR)))
    (pgR : PySem.W.plainGet K CR Str.empty = true)
    (hdR : PySem.W.hasDictIn K CR = true)
    (poR : PySem.W.plainOver K CR = true)
    (saR : PySem.W.findIn K (.ref CR) "__setattr__" = some (some (.builtin "object.__setattr__")))
    (mkR : PySem.W.makesIn K CR = true)
    (kcR : PySem.W.keepIn K (.ref CR) = true)
    (nMR : PySem.W.findIn K (.ref CR) "its_marks" = some none)
    (nLR : PySem.W.findIn K (.ref CR) "its_rows" = some none)
    (aRI : PySem.W.findIn K (.ref CR) "__init__" = some (some (.ref fRI)))
    (iRI : PySem.W.isFn K (.ref fRI) = true)
    (lRI : K.lookup fRI = some ⟨ocRI, odRI, .func (PySem.W.fnOf "__init__" "Rules.__init__" (defArgs sRInit) (defBody sRInit) (defScope sRInit) .none kVRI dcRI pmRI anRI cdRI ctRI), slRI⟩)
    (cRI : PySem.W.codeIn K cdRI "Rules.__init__" = true)
    (kRI : PySem.W.keepIn K (.ref fRI) = true)
    (aRM : PySem.W.findIn K (.ref CR) "marks" = some (some (.ref pR)))
    (gRM : PySem.W.specialIn K (.ref pR) "__get__" = some (some (.builtin "property.__get__")))
    (tRM : PySem.W.takesIn K (.ref pR) = some true)
    (rRM : PySem.W.recIn K pR "property" = some (.ref fRM :: restR))
    (lRM : K.lookup fRM = some ⟨ocRM, odRM, .func (PySem.W.fnOf "marks" "Rules.marks" (defArgs sRMarks) (defBody sRMarks) (defScope sRMarks) .none kVRM dcRM pmRM anRM cdRM ctRM), slRM⟩)
    (cRM : PySem.W.codeIn K cdRM "Rules.marks" = true)
    (kRM : PySem.W.keepIn K (.ref fRM) = true)
    (aRR : PySem.W.findIn K (.ref CR) "rows" = some (some (.ref fRR)))
    (iRR : PySem.W.isFn K (.ref fRR) = true)
    (lRR : K.lookup fRR = some ⟨ocRR, odRR, .func (PySem.W.fnOf "rows" "Rules.rows" (defArgs sRRows) (defBody sRRows) (defScope sRRows) .none kVRR dcRR pmRR anRR cdRR ctRR), slRR⟩)
    (cRR : PySem.W.codeIn K cdRR "Rules.rows" = true)
    (kRR : PySem.W.keepIn K (.ref fRR) = true)
    (aRC : PySem.W.findIn K (.ref CR) "closing" = some (some (.ref fRC)))
    (iRC : PySem.W.isFn K (.ref fRC) = true)
    (lRC : K.lookup fRC = some ⟨ocRC, odRC, .func (PySem.W.fnOf "closing" "Rules.closing" (defArgs sRClosing) (defBody sRClosing) (defScope sRClosing) .none kVRC dcRC pmRC anRC cdRC ctRC), slRC⟩)
    (cRC : PySem.W.codeIn K cdRC "Rules.closing" = true)
    (kRC : PySem.W.keepIn K (.ref fRC) = true)
    (aRA : PySem.W.findIn K (.ref CR) "__call__" = some (some (.ref fRA)))
    (iRA : PySem.W.isFn K (.ref fRA) = true)
    (lRA : K.lookup fRA = some ⟨ocRA, odRA, .func (PySem.W.fnOf "__call__" "Rules.__call__" (defArgs sRCall) (defBody sRCall) (defScope sRCall) .none kVRA dcRA pmRA anRA cdRA ctRA), slRA⟩)
    (cRA : PySem.W.codeIn K cdRA "Rules.__call__" = true)
    (kRA : PySem.W.keepIn K (.ref fRA) = true)
    (fiRA : PySem.W.fnIn K fRA = true)
    (aRB : PySem.W.findIn K (.ref CR) "broken_by" = some (some (.ref fRB)))
    (iRB : PySem.W.isFn K (.ref fRB) = true)
    (lRB : K.lookup fRB = some ⟨ocRB, odRB, .func (PySem.W.fnOf "broken_by" "Rules.broken_by" (defArgs sRBrokenBy) (defBody sRBrokenBy) (defScope sRBrokenBy) .none kVRB dcRB pmRB anRB cdRB ctRB), slRB⟩)
    (cRB : PySem.W.codeIn K cdRB "Rules.broken_by" = true)
    (kRB : PySem.W.keepIn K (.ref fRB) = true)
    (aRN : PySem.W.findIn K (.ref CR) "__contains__" = some (some (.ref fRN)))
    (iRN : PySem.W.isFn K (.ref fRN) = true)
    (lRN : K.lookup fRN = some ⟨ocRN, odRN, .func (PySem.W.fnOf "__contains__" "Rules.__contains__" (defArgs sRContains) (defBody sRContains) (defScope sRContains) .none kVRN dcRN pmRN anRN cdRN ctRN), slRN⟩)
    (cRN : PySem.W.codeIn K cdRN "Rules.__contains__" = true)
    (kRN : PySem.W.keepIn K (.ref fRN) = true)
    (aCT : PySem.W.nsIn K mainGlobals "Table" = some (some (.ref CT)))
    (pgT : PySem.W.plainGet K CT Str.empty = true)
    (hdT : PySem.W.hasDictIn K CT = true)
    (poT : PySem.W.plainOver K CT = true)
    (saT : PySem.W.findIn K (.ref CT) "__setattr__" = some (some (.builtin "object.__setattr__")))
    (mkT : PySem.W.makesIn K CT = true)
    (kcT : PySem.W.keepIn K (.ref CT) = true)
    (nMT : PySem.W.findIn K (.ref CT) "its_marks" = some none)
    (nLT : PySem.W.findIn K (.ref CT) "its_lots" = some none)
    (aTI : PySem.W.findIn K (.ref CT) "__init__" = some (some (.ref fTI)))
    (iTI : PySem.W.isFn K (.ref fTI) = true)
    (lTI : K.lookup fTI = some ⟨ocTI, odTI, .func (PySem.W.fnOf "__init__" "Table.__init__" (defArgs sTInit) (defBody sTInit) (defScope sTInit) .none kVTI dcTI pmTI anTI cdTI ctTI), slTI⟩)
    (cTI : PySem.W.codeIn K cdTI "Table.__init__" = true)
    (kTI : PySem.W.keepIn K (.ref fTI) = true)
    (aTM : PySem.W.findIn K (.ref CT) "marks" = some (some (.ref pT)))
    (gTM : PySem.W.specialIn K (.ref pT) "__get__" = some (some (.builtin "property.__get__")))
    (tTM : PySem.W.takesIn K (.ref pT) = some true)
    (rTM : PySem.W.recIn K pT "property" = some (.ref fTM :: restT))
    (lTM : K.lookup fTM = some ⟨ocTM, odTM, .func (PySem.W.fnOf "marks" "Table.marks" (defArgs sTMarks) (defBody sTMarks) (defScope sTMarks) .none kVTM dcTM pmTM anTM cdTM ctTM), slTM⟩)
    (cTM : PySem.W.codeIn K cdTM "Table.marks" = true)
    (kTM : PySem.W.keepIn K (.ref fTM) = true)
    (aTC : PySem.W.findIn K (.ref CT) "closing" = some (some (.ref fTC)))
    (iTC : PySem.W.isFn K (.ref fTC) = true)
    (lTC : K.lookup fTC = some ⟨ocTC, odTC, .func (PySem.W.fnOf "closing" "Table.closing" (defArgs sTClosing) (defBody sTClosing) (defScope sTClosing) .none kVTC dcTC pmTC anTC cdTC ctTC), slTC⟩)
    (cTC : PySem.W.codeIn K cdTC "Table.closing" = true)
    (kTC : PySem.W.keepIn K (.ref fTC) = true)
    (aTA : PySem.W.findIn K (.ref CT) "__call__" = some (some (.ref fTA)))
    (iTA : PySem.W.isFn K (.ref fTA) = true)
    (lTA : K.lookup fTA = some ⟨ocTA, odTA, .func (PySem.W.fnOf "__call__" "Table.__call__" (defArgs sTCall) (defBody sTCall) (defScope sTCall) .none kVTA dcTA pmTA anTA cdTA ctTA), slTA⟩)
    (cTA : PySem.W.codeIn K cdTA "Table.__call__" = true)
    (kTA : PySem.W.keepIn K (.ref fTA) = true)
    (fiTA : PySem.W.fnIn K fTA = true)
    (aLaw : PySem.W.nsIn K mainGlobals "law" = some (some (.ref fLaw)))
    (lLaw : K.lookup fLaw = some ⟨ocLaw, odLaw, .func (PySem.W.fnOf "law" "law" (defArgs sLaw) (defBody sLaw) (defScope sLaw) .none kVLaw dcLaw pmLaw anLaw cdLaw ctLaw), slLaw⟩)
    (cLaw : PySem.W.codeIn K cdLaw "law" = true)
    (kLaw : PySem.W.keepIn K (.ref fLaw) = true)
    (z_tuple : PySem.W.nsIn K mainGlobals "tuple" = some none)
    (z_sorted : PySem.W.nsIn K mainGlobals "sorted" = some none)
    (z_set : PySem.W.nsIn K mainGlobals "set" = some none)
    (z_len : PySem.W.nsIn K mainGlobals "len" = some none)
    (z_all : PySem.W.nsIn K mainGlobals "all" = some none)
    (z_any : PySem.W.nsIn K mainGlobals "any" = some none)
    (z_sum : PySem.W.nsIn K mainGlobals "sum" = some none)
    (z_isinstance : PySem.W.nsIn K mainGlobals "isinstance" = some none)
    (z_str : PySem.W.nsIn K mainGlobals "str" = some none)
    (z_list : PySem.W.nsIn K mainGlobals "list" = some none)
    (z_range : PySem.W.nsIn K mainGlobals "range" = some none)
    (z_abs : PySem.W.nsIn K mainGlobals "abs" = some none)
    (z_int : PySem.W.nsIn K mainGlobals "int" = some none)
    (z_repr : PySem.W.nsIn K mainGlobals "repr" = some none)
    (letters : PySem.W.nsIn K mainGlobals "LETTERS" = some (some (.str "abcdefghijklmnopqrstuvwxyz" tok)))
    : ∃ fd : FuncData, (∀ (s : Shared) (v : Value), BindsTo s fd ⟨[v], []⟩ [("_law_script", v)]) ∧ ∀ base : Heap, K.In base → base.Ns mainGlobals mg → FnG P w K mg base 12 fa fd ["_law_script"] (spLaw K) := by
  have e := hfa.symm.trans (PySem.W.mg_of X G aLaw)
  cases e
  have FLotOf := fun_mk (st := sLotOf) lLotOf cLotOf kLotOf
  have FInOrder := fun_mk (st := sInOrder) lInOrder cInOrder kInOrder
  have FAllLots := fun_mk (st := sAllLots) lAllLots cAllLots kAllLots
  have FWithin := fun_mk (st := sWithin) lWithin cWithin kWithin
  have FJoined := fun_mk (st := sJoined) lJoined cJoined kJoined
  have FCommon := fun_mk (st := sCommon) lCommon cCommon kCommon
  have FWithout := fun_mk (st := sWithout) lWithout cWithout kWithout
  have FIsMark := fun_mk (st := sIsMark) lIsMark cIsMark kIsMark
  have FIsLot := fun_mk (st := sIsLot) lIsLot cIsLot kIsLot
  have FIsRule := fun_mk (st := sIsRule) lIsRule cIsRule kIsRule
  have FBreaks := fun_mk (st := sBreaks) lBreaks cBreaks kBreaks
  have FIsRuleOf := fun_mk (st := sIsRuleOf) lIsRuleOf cIsRuleOf kIsRuleOf
  have FAreRulesOf := fun_mk (st := sAreRulesOf) lAreRulesOf cAreRulesOf kAreRulesOf
  have FKnownRules := fun_mk (st := sKnownRules) lKnownRules cKnownRules kKnownRules
  have FRowOf := fun_mk (st := sRowOf) lRowOf cRowOf kRowOf
  have FSidesOf := fun_mk (st := sSidesOf) lSidesOf cSidesOf kSidesOf
  have FIsLotOf := fun_mk (st := sIsLotOf) lIsLotOf cIsLotOf kIsLotOf
  have FLBag := fun_mk (st := sLBag) lLBag cLBag kLBag
  have FLTake := fun_mk (st := sLTake) lLTake cLTake kLTake
  have FLAlike := fun_mk (st := sLAlike) lLAlike cLAlike kLAlike
  have FLMixed := fun_mk (st := sLMixed) lLMixed cLMixed kLMixed
  have FLOne := fun_mk (st := sLOne) lLOne cLOne kLOne
  have FLMarks := fun_mk (st := sLMarks) lLMarks cLMarks kLMarks
  have FLLot := fun_mk (st := sLLot) lLLot cLLot kLLot
  have FLFew := fun_mk (st := sLFew) lLFew cLFew kLFew
  have FLRule := fun_mk (st := sLRule) lLRule cLRule kLRule
  have FLSomeRows := fun_mk (st := sLSomeRows) lLSomeRows cLSomeRows kLSomeRows
  have FLWithin := fun_mk (st := sLWithin) lLWithin cLWithin kLWithin
  have FLInOrder := fun_mk (st := sLInOrder) lLInOrder cLInOrder kLInOrder
  have FLAllLots := fun_mk (st := sLAllLots) lLAllLots cLAllLots kLAllLots
  have FLClosing := fun_mk (st := sLClosing) lLClosing cLClosing kLClosing
  have FLTable := fun_mk (st := sLTable) lLTable cLTable kLTable
  have FLShared := fun_mk (st := sLShared) lLShared cLShared kLShared
  have FLEnds := fun_mk (st := sLEnds) lLEnds cLEnds kLEnds
  have FLTheory := fun_mk (st := sLTheory) lLTheory cLTheory kLTheory
  have FLKnownRows := fun_mk (st := sLKnownRows) lLKnownRows cLKnownRows kLKnownRows
  have FLMadeKnown := fun_mk (st := sLMadeKnown) lLMadeKnown cLMadeKnown kLMadeKnown
  have FLToldPart := fun_mk (st := sLToldPart) lLToldPart cLToldPart kLToldPart
  have FRank := fun_mk (st := sRank) lRank cRank kRank
  have FNeedyLots := fun_mk (st := sNeedyLots) lNeedyLots cNeedyLots kNeedyLots
  have FLeastList := fun_mk (st := sLeastList) lLeastList cLeastList kLeastList
  have FLeftSides := fun_mk (st := sLeftSides) lLeftSides cLeftSides kLeftSides
  have FFewestAhead := fun_mk (st := sFewestAhead) lFewestAhead cFewestAhead kFewestAhead
  have FRI := fun_mk (st := sRInit) lRI cRI kRI
  have FRM := fun_mk (st := sRMarks) lRM cRM kRM
  have FRR := fun_mk (st := sRRows) lRR cRR kRR
  have FRC := fun_mk (st := sRClosing) lRC cRC kRC
  have FRA := fun_mk (st := sRCall) lRA cRA kRA
  have FRB := fun_mk (st := sRBrokenBy) lRB cRB kRB
  have FRN := fun_mk (st := sRContains) lRN cRN kRN
  have FTI := fun_mk (st := sTInit) lTI cTI kTI
  have FTM := fun_mk (st := sTMarks) lTM cTM kTM
  have FTC := fun_mk (st := sTClosing) lTC cTC kTC
  have FTA := fun_mk (st := sTCall) lTA cTA kTA
  have T : Txt K mg := {
    lotOf := ⟨fLotOf, _, FLotOf, PySem.W.mg_of X G aLotOf, FLotOf.binds (ps := ["marks"]) fun _ _ _ _ _ _ us hl => match us, hl with | [_], _ => rfl⟩,
    inOrder := ⟨fInOrder, _, FInOrder, PySem.W.mg_of X G aInOrder, FInOrder.binds (ps := ["lots"]) fun _ _ _ _ _ _ us hl => match us, hl with | [_], _ => rfl⟩,
    allLots := ⟨fAllLots, _, FAllLots, PySem.W.mg_of X G aAllLots, FAllLots.binds (ps := ["marks"]) fun _ _ _ _ _ _ us hl => match us, hl with | [_], _ => rfl⟩,
    within := ⟨fWithin, _, FWithin, PySem.W.mg_of X G aWithin, FWithin.binds (ps := ["one", "other"]) fun _ _ _ _ _ _ us hl => match us, hl with | [_, _], _ => rfl⟩,
    joined := ⟨fJoined, _, FJoined, PySem.W.mg_of X G aJoined, FJoined.binds (ps := ["one", "other"]) fun _ _ _ _ _ _ us hl => match us, hl with | [_, _], _ => rfl⟩,
    common := ⟨fCommon, _, FCommon, PySem.W.mg_of X G aCommon, FCommon.binds (ps := ["one", "other"]) fun _ _ _ _ _ _ us hl => match us, hl with | [_, _], _ => rfl⟩,
    without := ⟨fWithout, _, FWithout, PySem.W.mg_of X G aWithout, FWithout.binds (ps := ["one", "other"]) fun _ _ _ _ _ _ us hl => match us, hl with | [_, _], _ => rfl⟩,
    isMark := ⟨fIsMark, _, FIsMark, PySem.W.mg_of X G aIsMark, FIsMark.binds (ps := ["thing"]) fun _ _ _ _ _ _ us hl => match us, hl with | [_], _ => rfl⟩,
    isLot := ⟨fIsLot, _, FIsLot, PySem.W.mg_of X G aIsLot, FIsLot.binds (ps := ["thing"]) fun _ _ _ _ _ _ us hl => match us, hl with | [_], _ => rfl⟩,
    isRule := ⟨fIsRule, _, FIsRule, PySem.W.mg_of X G aIsRule, FIsRule.binds (ps := ["thing"]) fun _ _ _ _ _ _ us hl => match us, hl with | [_], _ => rfl⟩,
    breaks := ⟨fBreaks, _, FBreaks, PySem.W.mg_of X G aBreaks, FBreaks.binds (ps := ["lot", "rule"]) fun _ _ _ _ _ _ us hl => match us, hl with | [_, _], _ => rfl⟩,
    isRuleOf := ⟨fIsRuleOf, _, FIsRuleOf, PySem.W.mg_of X G aIsRuleOf, FIsRuleOf.binds (ps := ["marks", "thing"]) fun _ _ _ _ _ _ us hl => match us, hl with | [_, _], _ => rfl⟩,
    areRulesOf := ⟨fAreRulesOf, _, FAreRulesOf, PySem.W.mg_of X G aAreRulesOf, FAreRulesOf.binds (ps := ["marks", "thing"]) fun _ _ _ _ _ _ us hl => match us, hl with | [_, _], _ => rfl⟩,
    knownRules := ⟨fKnownRules, _, FKnownRules, PySem.W.mg_of X G aKnownRules, FKnownRules.binds (ps := ["theory", "known"]) fun _ _ _ _ _ _ us hl => match us, hl with | [_, _], _ => rfl⟩,
    rowOf := ⟨fRowOf, _, FRowOf, PySem.W.mg_of X G aRowOf, FRowOf.binds (ps := ["theory", "lot"]) fun _ _ _ _ _ _ us hl => match us, hl with | [_, _], _ => rfl⟩,
    sidesOf := ⟨fSidesOf, _, FSidesOf, PySem.W.mg_of X G aSidesOf, FSidesOf.binds (ps := ["theory", "lot"]) fun _ _ _ _ _ _ us hl => match us, hl with | [_, _], _ => rfl⟩,
    isLotOf := ⟨fIsLotOf, _, FIsLotOf, PySem.W.mg_of X G aIsLotOf, FIsLotOf.binds (ps := ["marks", "thing"]) fun _ _ _ _ _ _ us hl => match us, hl with | [_, _], _ => rfl⟩,
    lBag := ⟨fLBag, _, FLBag, PySem.W.mg_of X G aLBag, FLBag.binds (ps := ["_law_script"]) fun _ _ _ _ _ _ us hl => match us, hl with | [_], _ => rfl⟩,
    lTake := ⟨fLTake, _, FLTake, PySem.W.mg_of X G aLTake, FLTake.binds (ps := ["_law_bag_here", "_law_many"]) fun _ _ _ _ _ _ us hl => match us, hl with | [_, _], _ => rfl⟩,
    lAlike := ⟨fLAlike, _, FLAlike, PySem.W.mg_of X G aLAlike, FLAlike.binds (ps := ["_law_found", "_law_due"]) fun _ _ _ _ _ _ us hl => match us, hl with | [_, _], _ => rfl⟩,
    lMixed := ⟨fLMixed, _, FLMixed, PySem.W.mg_of X G aLMixed, FLMixed.binds (ps := ["_law_bag_here", "_law_things"]) fun _ _ _ _ _ _ us hl => match us, hl with | [_, _], _ => rfl⟩,
    lOne := ⟨fLOne, _, FLOne, PySem.W.mg_of X G aLOne, FLOne.binds (ps := ["_law_bag_here", "_law_things"]) fun _ _ _ _ _ _ us hl => match us, hl with | [_, _], _ => rfl⟩,
    lMarks := ⟨fLMarks, _, FLMarks, PySem.W.mg_of X G aLMarks, FLMarks.binds (ps := ["_law_bag_here", "_law_many"]) fun _ _ _ _ _ _ us hl => match us, hl with | [_, _], _ => rfl⟩,
    lLot := ⟨fLLot, _, FLLot, PySem.W.mg_of X G aLLot, FLLot.binds (ps := ["_law_bag_here", "_law_marks_here"]) fun _ _ _ _ _ _ us hl => match us, hl with | [_, _], _ => rfl⟩,
    lFew := ⟨fLFew, _, FLFew, PySem.W.mg_of X G aLFew, FLFew.binds (ps := ["_law_bag_here", "_law_marks_here", "_law_many"]) fun _ _ _ _ _ _ us hl => match us, hl with | [_, _, _], _ => rfl⟩,
    lRule := ⟨fLRule, _, FLRule, PySem.W.mg_of X G aLRule, FLRule.binds (ps := ["_law_bag_here", "_law_marks_here"]) fun _ _ _ _ _ _ us hl => match us, hl with | [_, _], _ => rfl⟩,
    lSomeRows := ⟨fLSomeRows, _, FLSomeRows, PySem.W.mg_of X G aLSomeRows, FLSomeRows.binds (ps := ["_law_bag_here", "_law_marks_here", "_law_many"]) fun _ _ _ _ _ _ us hl => match us, hl with | [_, _, _], _ => rfl⟩,
    lWithin := ⟨fLWithin, _, FLWithin, PySem.W.mg_of X G aLWithin, FLWithin.binds (ps := ["_law_one_here", "_law_other"]) fun _ _ _ _ _ _ us hl => match us, hl with | [_, _], _ => rfl⟩,
    lInOrder := ⟨fLInOrder, _, FLInOrder, PySem.W.mg_of X G aLInOrder, FLInOrder.binds (ps := ["_law_lots"]) fun _ _ _ _ _ _ us hl => match us, hl with | [_], _ => rfl⟩,
    lAllLots := ⟨fLAllLots, _, FLAllLots, PySem.W.mg_of X G aLAllLots, FLAllLots.binds (ps := ["_law_marks_here"]) fun _ _ _ _ _ _ us hl => match us, hl with | [_], _ => rfl⟩,
    lClosing := ⟨fLClosing, _, FLClosing, PySem.W.mg_of X G aLClosing, FLClosing.binds (ps := ["_law_rows", "_law_lot_here"]) fun _ _ _ _ _ _ us hl => match us, hl with | [_, _], _ => rfl⟩,
    lTable := ⟨fLTable, _, FLTable, PySem.W.mg_of X G aLTable, FLTable.binds (ps := ["_law_bag_here", "_law_marks_here", "_law_many"]) fun _ _ _ _ _ _ us hl => match us, hl with | [_, _, _], _ => rfl⟩,
    lShared := ⟨fLShared, _, FLShared, PySem.W.mg_of X G aLShared, FLShared.binds (ps := ["_law_marks_here", "_law_lots", "_law_lot_here"]) fun _ _ _ _ _ _ us hl => match us, hl with | [_, _, _], _ => rfl⟩,
    lEnds := ⟨fLEnds, _, FLEnds, PySem.W.mg_of X G aLEnds, FLEnds.binds (ps := ["_law_marks_here", "_law_kind", "_law_some"]) fun _ _ _ _ _ _ us hl => match us, hl with | [_, _, _], _ => rfl⟩,
    lTheory := ⟨fLTheory, _, FLTheory, PySem.W.mg_of X G aLTheory, FLTheory.binds (ps := ["_law_bag_here", "_law_marks_here", "_law_upto"]) fun _ _ _ _ _ _ us hl => match us, hl with | [_, _, _], _ => rfl⟩,
    lKnownRows := ⟨fLKnownRows, _, FLKnownRows, PySem.W.mg_of X G aLKnownRows, FLKnownRows.binds (ps := ["_law_bag_here", "_law_ends_here"]) fun _ _ _ _ _ _ us hl => match us, hl with | [_, _], _ => rfl⟩,
    lMadeKnown := ⟨fLMadeKnown, _, FLMadeKnown, PySem.W.mg_of X G aLMadeKnown, FLMadeKnown.binds (ps := ["_law_marks_here", "_law_given"]) fun _ _ _ _ _ _ us hl => match us, hl with | [_, _], _ => rfl⟩,
    lToldPart := ⟨fLToldPart, _, FLToldPart, PySem.W.mg_of X G aLToldPart, FLToldPart.binds (ps := ["_law_bag_here", "_law_ends_here", "_law_rows"]) fun _ _ _ _ _ _ us hl => match us, hl with | [_, _, _], _ => rfl⟩,
    rank := ⟨fRank, _, FRank, PySem.W.mg_of X G aRank, FRank.binds (ps := ["lot"]) fun _ _ _ _ _ _ us hl => match us, hl with | [_], _ => rfl⟩,
    needyLots := ⟨fNeedyLots, _, FNeedyLots, PySem.W.mg_of X G aNeedyLots, kb1 (by intros; exact .of_eq rfl)⟩,
    leastList := ⟨fLeastList, _, FLeastList, PySem.W.mg_of X G aLeastList, kb1 (by intros; exact .of_eq rfl)⟩,
    leftSides := ⟨fLeftSides, _, FLeftSides, PySem.W.mg_of X G aLeftSides, kb2 (by intros; exact .of_eq rfl)⟩,
    fewestAhead := ⟨fFewestAhead, _, FFewestAhead, PySem.W.mg_of X G aFewestAhead, kb1 (by intros; exact .of_eq rfl)⟩,
    rules := ⟨CR, ⟨pgR, hdR, poR, saR⟩, PySem.W.mg_of X G aCR, ⟨fRI, _, FRI, FRI.binds (ps := ["self", "marks", "rows"]) fun _ _ _ _ _ _ us hl => match us, hl with | [_, _, _], _ => rfl⟩, ⟨mkR, aRI, iRI, kcR⟩, nMR⟩,
    rMarks := ⟨fRM, _, FRM, FRM.binds (ps := ["self"]) fun _ _ _ _ _ _ us hl => match us, hl with | [_], _ => rfl⟩,
    rMarksP := pR,
    rProp := ⟨aRM, gRM, tRM, restR, rRM⟩,
    rRows := ⟨fRR, _, FRR, FRR.binds (ps := ["self"]) fun _ _ _ _ _ _ us hl => match us, hl with | [_], _ => rfl⟩,
    mRows := ⟨aRR, iRR, kRR⟩,
    rClosing := ⟨fRC, _, FRC, FRC.binds (ps := ["self", "lot"]) fun _ _ _ _ _ _ us hl => match us, hl with | [_, _], _ => rfl⟩,
    mRClosing := ⟨aRC, iRC, kRC⟩,
    rCall := ⟨fRA, _, FRA, FRA.binds (ps := ["self", "lot"]) fun _ _ _ _ _ _ us hl => match us, hl with | [_, _], _ => rfl⟩,
    mRCall := ⟨aRA, iRA, fiRA⟩,
    rBroken := ⟨fRB, _, FRB, FRB.binds (ps := ["self", "lot"]) fun _ _ _ _ _ _ us hl => match us, hl with | [_, _], _ => rfl⟩,
    mRBroken := ⟨aRB, iRB, kRB⟩,
    rContains := ⟨fRN, _, FRN, FRN.binds (ps := ["self", "thing"]) fun _ _ _ _ _ _ us hl => match us, hl with | [_, _], _ => rfl⟩,
    mRContains := ⟨aRN, iRN⟩,
    nR := nLR,
    table := ⟨CT, ⟨pgT, hdT, poT, saT⟩, PySem.W.mg_of X G aCT, ⟨fTI, _, FTI, FTI.binds (ps := ["self", "marks", "lots"]) fun _ _ _ _ _ _ us hl => match us, hl with | [_, _, _], _ => rfl⟩, ⟨mkT, aTI, iTI, kcT⟩, nMT⟩,
    tMarks := ⟨fTM, _, FTM, FTM.binds (ps := ["self"]) fun _ _ _ _ _ _ us hl => match us, hl with | [_], _ => rfl⟩,
    tMarksP := pT,
    tProp := ⟨aTM, gTM, tTM, restT, rTM⟩,
    tCall := ⟨fTA, _, FTA, FTA.binds (ps := ["self", "lot"]) fun _ _ _ _ _ _ us hl => match us, hl with | [_, _], _ => rfl⟩,
    mTCall := ⟨aTA, iTA, fiTA⟩,
    tClosing := ⟨fTC, _, FTC, FTC.binds (ps := ["self", "lot"]) fun _ _ _ _ _ _ us hl => match us, hl with | [_, _], _ => rfl⟩,
    mTClosing := ⟨aTC, iTC, kTC⟩,
    nL := nLT,
    zTuple := PySem.W.mg_none_of X G z_tuple,
    zSorted := PySem.W.mg_none_of X G z_sorted,
    zSet := PySem.W.mg_none_of X G z_set,
    zLen := PySem.W.mg_none_of X G z_len,
    zAll := PySem.W.mg_none_of X G z_all,
    zAny := PySem.W.mg_none_of X G z_any,
    zSum := PySem.W.mg_none_of X G z_sum,
    zIsinstance := PySem.W.mg_none_of X G z_isinstance,
    zStr := PySem.W.mg_none_of X G z_str,
    zList := PySem.W.mg_none_of X G z_list,
    zRange := PySem.W.mg_none_of X G z_range,
    zAbs := PySem.W.mg_none_of X G z_abs,
    zInt := PySem.W.mg_none_of X G z_int,
    zRepr := PySem.W.mg_none_of X G z_repr,
    letters := ⟨tok, PySem.W.mg_of X G letters⟩ }
  exact ⟨_, fun s v => .of_eq rfl, fun base _ _ => ok_law T (fun_mk (st := sLaw) lLaw cLaw kLaw)⟩
theorem walk {l : PySem.W.OpenLaw} {q : Program} {loose : List Str} {XP : (Str → Option Value) → Heap → Prop} {YP : World → Heap → Prop} {d : DefRec} {K : Params → PySem.W.Frag} (hn : l.most = some 63) (hdf : d.params.defaults = [])
    (hY : ∀ (w : World) (h : Heap), YP w h → (K w.params).In h)
    (F : ∀ (w : World) (mg : Str → Option Value) (fa : Addr) (h : Heap), (K w.params).In h → h.Ns mainGlobals mg → mg d.name = some (.ref fa) →
      ∃ fd : FuncData, (∀ (s : Shared) (u : Value), BindsTo s fd ⟨[u], []⟩ [("_law_script", u)]) ∧ ∀ base : Heap, (K w.params).In base → base.Ns mainGlobals mg → FnG l.prog w (K w.params) mg base 12 fa fd ["_law_script"] (spLaw (K w.params))) :
    PySem.W.WalkO q loose XP YP l.row.toRowW d [] (fun f vs => PySem.call f vs) :=
  walk_go (n := 63) (k := 12) (x := "_law_script") (sp := fun w => spLaw (K w.params)) hn (by decide) hdf ⟨rfl, by decide, by decide⟩ hY F fun _ _ a ns hl _ hS => ⟨a, ns, rfl, hS, Nat.le_trans hl (by decide), fun _ => rfl⟩
end K5
open PySem PySem.W PyProof.Rows in
set_option maxRecDepth 100000 in
set_option maxHeartbeats 0 in
theorem PySem.Challenge.cw_thesesothose_k05_whole_the_list_above_a_holds : PySem.Challenge.rw_thesesothose_k05_whole_the_list_above_a.Holds := by
  w_on; o_law; k_head; (case hw => w_witness2)
  k_fill
  refine K5.walk (l := PySem.Challenge.rw_thesesothose_k05_whole_the_list_above_a) rfl rfl (fun w h Y => PySem.W.kIn_of Y) ?F
  case F =>
    intro w mg fa h KX G hmg
    refine' K5.all_mk KX G hmg ?aLotOf ?lLotOf ?cLotOf ?kLotOf ?aInOrder ?lInOrder ?cInOrder ?kInOrder ?aAllLots ?lAllLots ?cAllLots ?kAllLots ?aWithin ?lWithin ?cWithin ?kWithin ?aJoined ?lJoined ?cJoined ?kJoined ?aCommon ?lCommon ?cCommon ?kCommon ?aWithout ?lWithout ?cWithout ?kWithout ?aIsMark ?lIsMark ?cIsMark ?kIsMark ?aIsLot ?lIsLot ?cIsLot ?kIsLot ?aIsRule ?lIsRule ?cIsRule ?kIsRule ?aBreaks ?lBreaks ?cBreaks ?kBreaks ?aIsRuleOf ?lIsRuleOf ?cIsRuleOf ?kIsRuleOf ?aAreRulesOf ?lAreRulesOf ?cAreRulesOf ?kAreRulesOf ?aKnownRules ?lKnownRules ?cKnownRules ?kKnownRules ?aRowOf ?lRowOf ?cRowOf ?kRowOf ?aSidesOf ?lSidesOf ?cSidesOf ?kSidesOf ?aIsLotOf ?lIsLotOf ?cIsLotOf ?kIsLotOf ?aLBag ?lLBag ?cLBag ?kLBag ?aLTake ?lLTake ?cLTake ?kLTake ?aLAlike ?lLAlike ?cLAlike ?kLAlike ?aLMixed ?lLMixed ?cLMixed ?kLMixed ?aLOne ?lLOne ?cLOne ?kLOne ?aLMarks ?lLMarks ?cLMarks ?kLMarks ?aLLot ?lLLot ?cLLot ?kLLot ?aLFew ?lLFew ?cLFew ?kLFew ?aLRule ?lLRule ?cLRule ?kLRule ?aLSomeRows ?lLSomeRows ?cLSomeRows ?kLSomeRows ?aLWithin ?lLWithin ?cLWithin ?kLWithin ?aLInOrder ?lLInOrder ?cLInOrder ?kLInOrder ?aLAllLots ?lLAllLots ?cLAllLots ?kLAllLots ?aLClosing ?lLClosing ?cLClosing ?kLClosing ?aLTable ?lLTable ?cLTable ?kLTable ?aLShared ?lLShared ?cLShared ?kLShared ?aLEnds ?lLEnds ?cLEnds ?kLEnds ?aLTheory ?lLTheory ?cLTheory ?kLTheory ?aLKnownRows ?lLKnownRows ?cLKnownRows ?kLKnownRows ?aLMadeKnown ?lLMadeKnown ?cLMadeKnown ?kLMadeKnown ?aLToldPart ?lLToldPart ?cLToldPart ?kLToldPart ?aRank ?lRank ?cRank ?kRank ?aNeedyLots ?lNeedyLots ?cNeedyLots ?kNeedyLots ?aLeastList ?lLeastList ?cLeastList ?kLeastList ?aLeftSides ?lLeftSides ?cLeftSides ?kLeftSides ?aFewestAhead ?lFewestAhead ?cFewestAhead ?kFewestAhead ?aCR ?pgR ?hdR ?poR ?saR ?mkR ?kcR ?nMR ?nLR ?aRI ?iRI ?lRI ?cRI ?kRI ?aRM ?gRM ?tRM ?rRM ?lRM ?cRM ?kRM ?aRR ?iRR ?lRR ?cRR ?kRR ?aRC ?iRC ?lRC ?cRC ?kRC ?aRA ?iRA ?lRA ?cRA ?kRA ?fiRA ?aRB ?iRB ?lRB ?cRB ?kRB ?aRN ?iRN ?lRN ?cRN ?kRN ?aCT ?pgT ?hdT ?poT ?saT ?mkT ?kcT ?nMT ?nLT ?aTI ?iTI ?lTI ?cTI ?kTI ?aTM ?gTM ?tTM ?rTM ?lTM ?cTM ?kTM ?aTC ?iTC ?lTC ?cTC ?kTC ?aTA ?iTA ?lTA ?cTA ?kTA ?fiTA ?aLaw ?lLaw ?cLaw ?kLaw ?z_tuple ?z_sorted ?z_set ?z_len ?z_all ?z_any ?z_sum ?z_isinstance ?z_str ?z_list ?z_range ?z_abs ?z_int ?z_repr ?letters
    (case aLotOf => k_is)
    (case lLotOf => k_is)
    (case cLotOf => k_is)
    (case kLotOf => k_is)
    (case aInOrder => k_is)
    (case lInOrder => k_is)
    (case cInOrder => k_is)
    (case kInOrder => k_is)
    (case aAllLots => k_is)
    (case lAllLots => k_is)
    (case cAllLots => k_is)
    (case kAllLots => k_is)
    (case aWithin => k_is)
    (case lWithin => k_is)
    (case cWithin => k_is)
    (case kWithin => k_is)
    (case aJoined => k_is)
    (case lJoined => k_is)
    (case cJoined => k_is)
    (case kJoined => k_is)
    (case aCommon => k_is)
    (case lCommon => k_is)
    (case cCommon => k_is)
    (case kCommon => k_is)
    (case aWithout => k_is)
    (case lWithout => k_is)
    (case cWithout => k_is)
    (case kWithout => k_is)
    (case aIsMark => k_is)
    (case lIsMark => k_is)
    (case cIsMark => k_is)
    (case kIsMark => k_is)
    (case aIsLot => k_is)
    (case lIsLot => k_is)
    (case cIsLot => k_is)
    (case kIsLot => k_is)
    (case aIsRule => k_is)
    (case lIsRule => k_is)
    (case cIsRule => k_is)
    (case kIsRule => k_is)
    (case aBreaks => k_is)
    (case lBreaks => k_is)
    (case cBreaks => k_is)
    (case kBreaks => k_is)
    (case aIsRuleOf => k_is)
    (case lIsRuleOf => k_is)
    (case cIsRuleOf => k_is)
    (case kIsRuleOf => k_is)
    (case aAreRulesOf => k_is)
    (case lAreRulesOf => k_is)
    (case cAreRulesOf => k_is)
    (case kAreRulesOf => k_is)
    (case aKnownRules => k_is)
    (case lKnownRules => k_is)
    (case cKnownRules => k_is)
    (case kKnownRules => k_is)
    (case aRowOf => k_is)
    (case lRowOf => k_is)
    (case cRowOf => k_is)
    (case kRowOf => k_is)
    (case aSidesOf => k_is)
    (case lSidesOf => k_is)
    (case cSidesOf => k_is)
    (case kSidesOf => k_is)
    (case aIsLotOf => k_is)
    (case lIsLotOf => k_is)
    (case cIsLotOf => k_is)
    (case kIsLotOf => k_is)
    (case aLBag => k_is)
    (case lLBag => k_is)
    (case cLBag => k_is)
    (case kLBag => k_is)
    (case aLTake => k_is)
    (case lLTake => k_is)
    (case cLTake => k_is)
    (case kLTake => k_is)
    (case aLAlike => k_is)
    (case lLAlike => k_is)
    (case cLAlike => k_is)
    (case kLAlike => k_is)
    (case aLMixed => k_is)
    (case lLMixed => k_is)
    (case cLMixed => k_is)
    (case kLMixed => k_is)
    (case aLOne => k_is)
    (case lLOne => k_is)
    (case cLOne => k_is)
    (case kLOne => k_is)
    (case aLMarks => k_is)
    (case lLMarks => k_is)
    (case cLMarks => k_is)
    (case kLMarks => k_is)
    (case aLLot => k_is)
    (case lLLot => k_is)
    (case cLLot => k_is)
    (case kLLot => k_is)
    (case aLFew => k_is)
    (case lLFew => k_is)
    (case cLFew => k_is)
    (case kLFew => k_is)
    (case aLRule => k_is)
    (case lLRule => k_is)
    (case cLRule => k_is)
    (case kLRule => k_is)
    (case aLSomeRows => k_is)
    (case lLSomeRows => k_is)
    (case cLSomeRows => k_is)
    (case kLSomeRows => k_is)
    (case aLWithin => k_is)
    (case lLWithin => k_is)
    (case cLWithin => k_is)
    (case kLWithin => k_is)
    (case aLInOrder => k_is)
    (case lLInOrder => k_is)
    (case cLInOrder => k_is)
    (case kLInOrder => k_is)
    (case aLAllLots => k_is)
    (case lLAllLots => k_is)
    (case cLAllLots => k_is)
    (case kLAllLots => k_is)
    (case aLClosing => k_is)
    (case lLClosing => k_is)
    (case cLClosing => k_is)
    (case kLClosing => k_is)
    (case aLTable => k_is)
    (case lLTable => k_is)
    (case cLTable => k_is)
    (case kLTable => k_is)
    (case aLShared => k_is)
    (case lLShared => k_is)
    (case cLShared => k_is)
    (case kLShared => k_is)
    (case aLEnds => k_is)
    (case lLEnds => k_is)
    (case cLEnds => k_is)
    (case kLEnds => k_is)
    (case aLTheory => k_is)
    (case lLTheory => k_is)
    (case cLTheory => k_is)
    (case kLTheory => k_is)
    (case aLKnownRows => k_is)
    (case lLKnownRows => k_is)
    (case cLKnownRows => k_is)
    (case kLKnownRows => k_is)
    (case aLMadeKnown => k_is)
    (case lLMadeKnown => k_is)
    (case cLMadeKnown => k_is)
    (case kLMadeKnown => k_is)
    (case aLToldPart => k_is)
    (case lLToldPart => k_is)
    (case cLToldPart => k_is)
    (case kLToldPart => k_is)
    (case aRank => k_is)
    (case lRank => k_is)
    (case cRank => k_is)
    (case kRank => k_is)
    (case aNeedyLots => k_is)
    (case lNeedyLots => k_is)
    (case cNeedyLots => k_is)
    (case kNeedyLots => k_is)
    (case aLeastList => k_is)
    (case lLeastList => k_is)
    (case cLeastList => k_is)
    (case kLeastList => k_is)
    (case aLeftSides => k_is)
    (case lLeftSides => k_is)
    (case cLeftSides => k_is)
    (case kLeftSides => k_is)
    (case aFewestAhead => k_is)
    (case lFewestAhead => k_is)
    (case cFewestAhead => k_is)
    (case kFewestAhead => k_is)
    (case aCR => k_is)
    (case pgR => k_is)
    (case hdR => k_is)
    (case poR => k_is)
    (case saR => k_is)
    (case mkR => k_is)
    (case kcR => k_is)
    (case nMR => k_is)
    (case nLR => k_is)
    (case aRI => k_is)
    (case iRI => k_is)
    (case lRI => k_is)
    (case cRI => k_is)
    (case kRI => k_is)
    (case aRM => k_is)
    (case gRM => k_is)
    (case tRM => k_is)
    (case rRM => k_is)
    (case lRM => k_is)
    (case cRM => k_is)
    (case kRM => k_is)
    (case aRR => k_is)
    (case iRR => k_is)
    (case lRR => k_is)
    (case cRR => k_is)
    (case kRR => k_is)
    (case aRC => k_is)
    (case iRC => k_is)
    (case lRC => k_is)
    (case cRC => k_is)
    (case kRC => k_is)
    (case aRA => k_is)
    (case iRA => k_is)
    (case lRA => k_is)
    (case cRA => k_is)
    (case kRA => k_is)
    (case fiRA => k_is)
    (case aRB => k_is)
    (case iRB => k_is)
    (case lRB => k_is)
    (case cRB => k_is)
    (case kRB => k_is)
    (case aRN => k_is)
    (case iRN => k_is)
    (case lRN => k_is)
    (case cRN => k_is)
    (case kRN => k_is)
    (case aCT => k_is)
    (case pgT => k_is)
    (case hdT => k_is)
    (case poT => k_is)
    (case saT => k_is)
    (case mkT => k_is)
    (case kcT => k_is)
    (case nMT => k_is)
    (case nLT => k_is)
    (case aTI => k_is)
    (case iTI => k_is)
    (case lTI => k_is)
    (case cTI => k_is)
    (case kTI => k_is)
    (case aTM => k_is)
    (case gTM => k_is)
    (case tTM => k_is)
    (case rTM => k_is)
    (case lTM => k_is)
    (case cTM => k_is)
    (case kTM => k_is)
    (case aTC => k_is)
    (case iTC => k_is)
    (case lTC => k_is)
    (case cTC => k_is)
    (case kTC => k_is)
    (case aTA => k_is)
    (case iTA => k_is)
    (case lTA => k_is)
    (case cTA => k_is)
    (case kTA => k_is)
    (case fiTA => k_is)
    (case aLaw => k_is)
    (case lLaw => k_is)
    (case cLaw => k_is)
    (case kLaw => k_is)
    (case z_tuple => k_is)
    (case z_sorted => k_is)
    (case z_set => k_is)
    (case z_len => k_is)
    (case z_all => k_is)
    (case z_any => k_is)
    (case z_sum => k_is)
    (case z_isinstance => k_is)
    (case z_str => k_is)
    (case z_list => k_is)
    (case z_range => k_is)
    (case z_abs => k_is)
    (case z_int => k_is)
    (case z_repr => k_is)
    (case letters => k_is)
