import PyProof.Rows.All
import Wide.All
import OpenK.AllK
import Wide.FinOn
import PyProof.EqAt
import PyProof.EqKinds
import PyProof.TupleCall
import HandS.Base
import HandS.Call
import HandS.List
import HandS.Ends
import HandS.Words
import PyProof.NeKinds
import PyProof.DictTable
import OpenK.KEqL
import HandS.Comp
import HandS.Iter
import HandS.Text
import HandS.WordsList
import HandS.Exc
import HandS.ExcOwn
import HandS.WordsExc
import HandS.Style
import HandS.Codes
import HandS.CallLocal
import HandS.Defaults
import HandS.More
import HandS.Spec
import HandS.HeadHook1
import HandS.HeadHook2
import KE.KStateDown
import KE.OsHead
import Lean
import HandS.Head0
import HandS.Head1
import HandS.Head2
import HandS.Head3
import HandS.Head4
import HandS.HeadEnd
import HandS.Evl
import HandS.Walk
import KE.OsGo
import MlMark
import PyWqagaf
import PySem.Challenge.RW_marklite_s01_answers
set_option autoImplicit false
namespace MA
open Ml
def spanF {α : Type} (p : α → Bool) (l : List α) (b : Nat) : Nat := b + ((l.drop b).takeWhile p).length
theorem drop_at {α : Type} {l : List α} {b : Nat} {x : α} (h : l[b]? = some x) : l.drop b = x :: l.drop (b + 1) := by
  obtain ⟨hb, rfl⟩ := List.getElem?_eq_some_iff.mp h
  exact List.drop_eq_getElem_cons hb
theorem spanF_step {α : Type} {p : α → Bool} {l : List α} {b : Nat} {x : α} (h : l[b]? = some x) (hp : p x = true) : spanF p l b = spanF p l (b + 1) := by
  unfold spanF
  rw [drop_at h, List.takeWhile_cons, if_pos hp, List.length_cons]
  omega
theorem spanF_stop {α : Type} {p : α → Bool} {l : List α} {b : Nat} {x : α} (h : l[b]? = some x) (hp : p x = false) : spanF p l b = b := by
  unfold spanF
  rw [drop_at h, List.takeWhile_cons, if_neg (by rw [hp]; exact Bool.false_ne_true)]
  rfl
theorem spanF_end {α : Type} {p : α → Bool} {l : List α} {b : Nat} (h : l.length ≤ b) : spanF p l b = b := by
  unfold spanF
  rw [List.drop_eq_nil_of_le h]
  rfl
theorem spanF_le {α : Type} {p : α → Bool} {l : List α} {b : Nat} (h : b ≤ l.length) : spanF p l b ≤ l.length := by
  unfold spanF
  have h1 : ((l.drop b).takeWhile p).length ≤ (l.drop b).length := (List.takeWhile_sublist p).length_le
  rw [List.length_drop] at h1
  omega
theorem spanF_ge {α : Type} {p : α → Bool} {l : List α} {b : Nat} : b ≤ spanF p l b := by
  unfold spanF
  omega
theorem spanF_take {α : Type} {p : α → Bool} {l : List α} {b : Nat} : (l.drop b).takeWhile p = (l.drop b).take (spanF p l b - b) := by
  unfold spanF
  rw [Nat.add_sub_cancel_left]
  exact (List.prefix_iff_eq_take.mp (List.takeWhile_prefix p))
theorem spanF_drop {α : Type} {p : α → Bool} {l : List α} {b : Nat} : (l.drop b).drop ((l.drop b).takeWhile p).length = l.drop (spanF p l b) := by
  rw [List.drop_drop]
  rfl
theorem spanF_here {α : Type} {p : α → Bool} {l : List α} {b : Nat} {x : α} (h : l[spanF p l b]? = some x) : p x = false := by
  generalize hn : l.length - b = n
  induction n generalizing b with
  | zero =>
    rw [spanF_end (by omega)] at h
    have := (List.getElem?_eq_some_iff.mp h).1
    omega
  | succ n ih =>
    have hb : b < l.length := by omega
    have hx : l[b]? = some l[b] := List.getElem?_eq_getElem hb
    cases e : p l[b] with
    | true =>
      rw [spanF_step hx e] at h
      exact ih h (by omega)
    | false =>
      rw [spanF_stop hx e, hx] at h
      cases h
      exact e
def rtrim (l : Bytes) : Bytes := (l.reverse.dropWhile blank).reverse
theorem rtrim_nil : rtrim [] = [] := rfl
theorem rtrim_snoc (l : Bytes) (x : UInt8) : rtrim (l ++ [x]) = if blank x = true then rtrim l else l ++ [x] := by
  unfold rtrim
  rw [List.reverse_append, List.reverse_singleton, List.singleton_append, List.dropWhile_cons]
  by_cases h : blank x = true
  · rw [if_pos h, if_pos h]
  · rw [if_neg h, if_neg h, List.reverse_cons, List.reverse_reverse]
def cut {α : Type} (l : List α) (b e : Nat) : List α := (l.take e).drop b
theorem cut_len {α : Type} {l : List α} {b e : Nat} (h : e ≤ l.length) : (cut l b e).length = e - b := by
  unfold cut
  rw [List.length_drop, List.length_take]
  omega
theorem cut_snoc {α : Type} {l : List α} {b e : Nat} {x : α} (hb : b ≤ e) (h : l[e]? = some x) : cut l b (e + 1) = cut l b e ++ [x] := by
  unfold cut
  rw [List.take_add_one, h]
  show (l.take e ++ [x]).drop b = (l.take e).drop b ++ [x]
  rw [List.drop_append]
  have hl := (List.getElem?_eq_some_iff.mp h).1
  have e0 : b - (l.take e).length = 0 := by rw [List.length_take]; omega
  rw [e0]
  rfl
theorem cut_nil {α : Type} {l : List α} {b : Nat} : cut l b b = [] := by
  unfold cut
  rw [List.drop_take, Nat.sub_self, List.take_zero]
theorem cut_all {α : Type} {l : List α} {b : Nat} : cut l b l.length = l.drop b := by
  unfold cut
  rw [List.take_length]
theorem cut_eq {α : Type} {l : List α} {b e : Nat} : cut l b e = (l.drop b).take (e - b) := by
  unfold cut
  exact List.drop_take ..
theorem dropWhile_drop {α : Type} (p : α → Bool) : ∀ l : List α, l.dropWhile p = l.drop (l.takeWhile p).length
  | [] => rfl
  | x :: l => by
    rw [List.dropWhile_cons, List.takeWhile_cons]
    by_cases h : p x = true
    · rw [if_pos h, if_pos h, List.length_cons, List.drop_succ_cons]
      exact dropWhile_drop p l
    · rw [if_neg h, if_neg h]
      rfl
theorem trim_start (l : Bytes) : trim l = rtrim (cut l (spanF blank l 0) l.length) := by
  rw [cut_all]
  have e : l.dropWhile blank = l.drop (spanF blank l 0) := by
    rw [dropWhile_drop]
    unfold spanF
    rw [List.drop_zero, Nat.zero_add]
  unfold trim rtrim
  rw [e]
theorem rtrim_back {l : Bytes} {b e : Nat} {x : UInt8} (hb : b ≤ e) (h : l[e]? = some x) (hx : blank x = true) : rtrim (cut l b (e + 1)) = rtrim (cut l b e) := by
  rw [cut_snoc hb h, rtrim_snoc, if_pos hx]
theorem rtrim_stop {l : Bytes} {b e : Nat} {x : UInt8} (hb : b ≤ e) (h : l[e]? = some x) (hx : blank x = false) : rtrim (cut l b (e + 1)) = cut l b (e + 1) := by
  rw [cut_snoc hb h, rtrim_snoc, if_neg (by rw [hx]; exact Bool.false_ne_true)]
theorem trim_le (l : Bytes) : (trim l).length ≤ l.length := by
  unfold trim
  rw [List.length_reverse]
  refine Nat.le_trans (List.dropWhile_sublist _).length_le ?_
  rw [List.length_reverse]
  exact (List.dropWhile_sublist _).length_le
theorem lines_none : ∀ {a : Bytes}, (∀ x ∈ a, x ≠ 10) → lines a = [a]
  | [], _ => rfl
  | c :: r, h => by
    have hc : ¬ c = 10 := h c (List.mem_cons_self ..)
    show (if c = 10 then [] :: lines r else match lines r with
      | l :: ls => (c :: l) :: ls
      | [] => [[c]]) = _
    rw [if_neg hc, lines_none fun x hx => h x (List.mem_cons_of_mem _ hx)]
theorem lines_some : ∀ {a b : Bytes}, (∀ x ∈ a, x ≠ 10) → lines (a ++ 10 :: b) = a :: lines b
  | [], b, _ => rfl
  | c :: r, b, h => by
    have hc : ¬ c = 10 := h c (List.mem_cons_self ..)
    show (if c = 10 then [] :: lines (r ++ 10 :: b) else match lines (r ++ 10 :: b) with
      | l :: ls => (c :: l) :: ls
      | [] => [[c]]) = _
    rw [if_neg hc, lines_some fun x hx => h x (List.mem_cons_of_mem _ hx)]
theorem lines_ne : ∀ t : Bytes, lines t ≠ []
  | [] => by simp [lines]
  | c :: r => by
    show (if c = 10 then [] :: lines r else match lines r with
      | l :: ls => (c :: l) :: ls
      | [] => [[c]]) ≠ []
    split
    · simp
    · split <;> simp
def lsum : List Bytes → Nat
  | [] => 0
  | l :: ls => l.length + 1 + lsum ls
theorem lines_sum : ∀ t : Bytes, lsum (lines t) = t.length + 1
  | [] => rfl
  | c :: r => by
    have ih := lines_sum r
    show lsum (if c = 10 then [] :: lines r else match lines r with
      | l :: ls => (c :: l) :: ls
      | [] => [[c]]) = _
    split
    · show 0 + 1 + lsum (lines r) = _
      rw [ih, List.length_cons]
      omega
    · cases e : lines r with
      | nil => exact absurd e (lines_ne r)
      | cons l ls =>
        rw [e] at ih
        show (l.length + 1) + 1 + lsum ls = _
        have : l.length + 1 + lsum ls = r.length + 1 := ih
        rw [List.length_cons]
        omega
theorem lsum_len : ∀ ls : List Bytes, ls.length ≤ lsum ls
  | [] => Nat.le_refl _
  | l :: ls => by
    have := lsum_len ls
    show ls.length + 1 ≤ l.length + 1 + lsum ls
    omega
theorem lsum_mem : ∀ {ls : List Bytes} {l : Bytes}, l ∈ ls → l.length + 1 ≤ lsum ls
  | [], l, h => by cases h
  | k :: ls, l, h => by
    show l.length + 1 ≤ k.length + 1 + lsum ls
    cases h with
    | head => omega
    | tail _ h =>
      have := lsum_mem h
      omega
structure LinesInv (t : Bytes) (found : List Bytes) (b i : Nat) : Prop where
  le : b ≤ i
  eq : lines t = found ++ lines (t.drop b)
  no : ∀ x ∈ cut t b i, x ≠ 10
theorem LinesInv.init (t : Bytes) : LinesInv t [] 0 0 := ⟨Nat.le_refl _, by simp, fun x h => by rw [cut_nil] at h; cases h⟩
theorem split_at {t : Bytes} {b i : Nat} (hb : b ≤ i) (hi : i ≤ t.length) : t.drop b = cut t b i ++ t.drop i := by
  unfold cut
  have h1 : t.drop b = (t.take i ++ t.drop i).drop b := by rw [List.take_append_drop]
  rw [h1, List.drop_append]
  have e0 : b - (t.take i).length = 0 := by rw [List.length_take]; omega
  rw [e0]
  rfl
theorem LinesInv.last {t : Bytes} {found : List Bytes} {b : Nat} (h : LinesInv t found b t.length) : lines t = found ++ [cut t b t.length] := by
  have e := h.eq
  have n := h.no
  rw [cut_all] at n ⊢
  rw [e, lines_none n]
theorem LinesInv.new {t : Bytes} {found : List Bytes} {b i : Nat} (h : LinesInv t found b i) (hx : t[i]? = some 10) : LinesInv t (found ++ [cut t b i]) (i + 1) (i + 1) := by
  have hi := (List.getElem?_eq_some_iff.mp hx).1
  refine ⟨Nat.le_refl _, ?_, fun x h => by rw [cut_nil] at h; cases h⟩
  rw [h.eq, split_at h.le (Nat.le_of_lt hi), drop_at hx, lines_some h.no, List.append_assoc]
  rfl
theorem LinesInv.go {t : Bytes} {found : List Bytes} {b i : Nat} {c : UInt8} (h : LinesInv t found b i) (hx : t[i]? = some c) (hc : c ≠ 10) : LinesInv t found b (i + 1) := by
  refine ⟨Nat.le_succ_of_le h.le, h.eq, fun x hm => ?_⟩
  rw [cut_snoc h.le hx] at hm
  rcases List.mem_append.mp hm with hm | hm
  · exact h.no x hm
  · rw [List.mem_singleton.mp hm]
    exact hc
def kindL : Line → Int
  | .blank => 0
  | .fence _ => 1
  | .heading _ _ => 2
  | .item _ _ => 3
  | .plain _ => 4
def numL : Line → Nat
  | .heading n _ => n
  | .item d _ => d
  | _ => 0
def textL : Line → Bytes
  | .blank => []
  | .fence t => t
  | .heading _ t => t
  | .item _ t => t
  | .plain t => t
def manyF (c : UInt8) (l : Bytes) : Nat := spanF (fun x => x == c) l 0
theorem manyF_eq (c : UInt8) (l : Bytes) : (l.takeWhile fun x => x == c).length = manyF c l := by
  unfold manyF spanF
  simp
theorem manyF_le (c : UInt8) (l : Bytes) : manyF c l ≤ l.length := spanF_le (Nat.zero_le _)
theorem fence_iff (l : Bytes) : (l.take 3 = FENCE) ↔ 3 ≤ manyF 96 l := by
  rw [← manyF_eq]
  match l with
  | [] => simp [FENCE]
  | [a] =>
    rw [List.takeWhile_cons]
    constructor
    · intro h; simp [FENCE] at h
    · intro h; split at h <;> simp at h
  | [a, b] =>
    rw [List.takeWhile_cons, List.takeWhile_cons]
    constructor
    · intro h; simp [FENCE] at h
    · intro h; split at h
      · split at h <;> simp at h
      · simp at h
  | a :: b :: c :: r =>
    rw [List.takeWhile_cons, List.takeWhile_cons, List.takeWhile_cons]
    constructor
    · intro h
      simp [FENCE] at h
      obtain ⟨rfl, rfl, rfl⟩ := h
      simp
    · intro h
      by_cases ha : (a == 96) = true
      · by_cases hb : (b == 96) = true
        · by_cases hc : (c == 96) = true
          · simp at ha hb hc
            subst ha hb hc
            rfl
          · rw [if_pos ha, if_pos hb, if_neg hc] at h
            simp at h
        · rw [if_pos ha, if_neg hb] at h
          simp at h
      · rw [if_neg ha] at h
        simp at h
def ebF (l : Bytes) (i : Nat) : Bool := breaks (l.drop i)
theorem eb_end {l : Bytes} : ebF l l.length = true := by
  unfold ebF
  rw [List.drop_length]
  rfl
theorem eb_at {l : Bytes} {i : Nat} {x : UInt8} (h : l[i]? = some x) : ebF l i = blank x := by
  unfold ebF
  rw [drop_at h]
  rfl
theorem head_at {l : Bytes} {i : Nat} : (l.drop i).head? = l[i]? := by
  rw [List.head?_drop]
theorem line_blank {l : Bytes} (h : trim l = []) : lineOf l = .blank := by
  unfold lineOf
  rw [if_pos h]
theorem line_fence {l : Bytes} (h : trim l ≠ []) (h1 : 3 ≤ manyF 96 l) : lineOf l = .fence (trim (l.drop 3)) := by
  unfold lineOf
  rw [if_neg h, if_pos ((fence_iff l).mpr h1)]
theorem line_heading {l : Bytes} (h : trim l ≠ []) (h1 : ¬ 3 ≤ manyF 96 l) (h2 : 1 ≤ manyF 35 l) (h3 : manyF 35 l ≤ 6) (h4 : ebF l (manyF 35 l) = true) : lineOf l = .heading (manyF 35 l) (trim (l.drop (manyF 35 l))) := by
  unfold lineOf
  simp only [manyF_eq]
  rw [if_neg h, if_neg (fun z => h1 ((fence_iff l).mp z)), if_pos ⟨h2, h3, h4⟩]
theorem line_item {l : Bytes} (h : trim l ≠ []) (h1 : ¬ 3 ≤ manyF 96 l) (h2 : ¬ (1 ≤ manyF 35 l ∧ manyF 35 l ≤ 6 ∧ ebF l (manyF 35 l) = true)) (h3 : l[manyF 32 l]? = some 45) (h4 : ebF l (manyF 32 l + 1) = true) :
    lineOf l = .item (manyF 32 l / 2) (trim (l.drop (manyF 32 l + 1))) := by
  unfold lineOf
  simp only [manyF_eq]
  rw [if_neg h, if_neg (fun z => h1 ((fence_iff l).mp z)), if_neg (show ¬ (1 ≤ manyF 35 l ∧ manyF 35 l ≤ 6 ∧ breaks (l.drop (manyF 35 l)) = true) from h2), if_pos ⟨by rw [head_at]; exact h3, h4⟩]
theorem line_plain {l : Bytes} (h : trim l ≠ []) (h1 : ¬ 3 ≤ manyF 96 l) (h2 : ¬ (1 ≤ manyF 35 l ∧ manyF 35 l ≤ 6 ∧ ebF l (manyF 35 l) = true)) (h3 : ¬ (l[manyF 32 l]? = some 45 ∧ ebF l (manyF 32 l + 1) = true)) :
    lineOf l = .plain (trim l) := by
  unfold lineOf
  simp only [manyF_eq]
  rw [if_neg h, if_neg (fun z => h1 ((fence_iff l).mp z)), if_neg (show ¬ (1 ≤ manyF 35 l ∧ manyF 35 l ≤ 6 ∧ breaks (l.drop (manyF 35 l)) = true) from h2), if_neg (fun z => h3 ⟨by rw [← head_at]; exact z.1, z.2⟩)]
theorem line_cases (l : Bytes) : (lineOf l = .blank ∧ trim l = []) ∨ (∃ t, lineOf l = .fence t ∧ t.length ≤ l.length) ∨ (∃ n t, lineOf l = .heading n t ∧ t.length ≤ l.length ∧ 1 ≤ n ∧ n ≤ 6) ∨
    (∃ d t, lineOf l = .item d t ∧ t.length ≤ l.length ∧ d ≤ l.length) ∨ (∃ t, lineOf l = .plain t ∧ t.length ≤ l.length) := by
  have hd : ∀ n, (trim (l.drop n)).length ≤ l.length := fun n => Nat.le_trans (trim_le _) (by rw [List.length_drop]; omega)
  by_cases h : trim l = []
  · exact .inl ⟨line_blank h, h⟩
  by_cases h1 : 3 ≤ manyF 96 l
  · exact .inr (.inl ⟨_, line_fence h h1, hd _⟩)
  by_cases h2 : 1 ≤ manyF 35 l ∧ manyF 35 l ≤ 6 ∧ ebF l (manyF 35 l) = true
  · exact .inr (.inr (.inl ⟨_, _, line_heading h h1 h2.1 h2.2.1 h2.2.2, hd _, h2.1, h2.2.1⟩))
  by_cases h3 : l[manyF 32 l]? = some 45 ∧ ebF l (manyF 32 l + 1) = true
  · have := manyF_le 32 l
    exact .inr (.inr (.inr (.inl ⟨_, _, line_item h h1 h2 h3.1 h3.2, hd _, by omega⟩)))
  · exact .inr (.inr (.inr (.inr ⟨_, line_plain h h1 h2 h3, trim_le l⟩)))
theorem textL_le (l : Bytes) : (textL (lineOf l)).length ≤ l.length := by
  rcases line_cases l with ⟨e, _⟩ | ⟨t, e, h⟩ | ⟨n, t, e, h, _⟩ | ⟨d, t, e, h, _⟩ | ⟨t, e, h⟩ <;> rw [e]
  · exact Nat.zero_le _
  all_goals exact h
end MA
set_option autoImplicit false
namespace MA
open Ml
theorem plains_len : ∀ ls : List Bytes, (plains ls).length ≤ ls.length
  | [] => Nat.le_refl _
  | l :: ls => by
    have ih := plains_len ls
    unfold plains
    split
    · simpa using ih
    · simp
theorem blocks_fuel : ∀ (n m : Nat) (ls : List Bytes), ls.length ≤ n → ls.length ≤ m → blocks n ls = blocks m ls
  | 0, 0, _, _, _ => rfl
  | 0, m + 1, ls, h, _ => by
    obtain rfl : ls = [] := List.eq_nil_of_length_eq_zero (by omega)
    rfl
  | n + 1, 0, ls, _, h => by
    obtain rfl : ls = [] := List.eq_nil_of_length_eq_zero (by omega)
    rfl
  | n + 1, m + 1, [], _, _ => rfl
  | n + 1, m + 1, l :: ls, h1, h2 => by
    have h1' : ls.length ≤ n := Nat.le_of_succ_le_succ h1
    have h2' : ls.length ≤ m := Nat.le_of_succ_le_succ h2
    have hd : ∀ k, blocks n (ls.drop k) = blocks m (ls.drop k) := fun k => blocks_fuel n m _ (by rw [List.length_drop]; omega) (by rw [List.length_drop]; omega)
    have h0 := hd 0
    rw [List.drop_zero] at h0
    unfold blocks
    cases lineOf l with
    | blank => exact h0
    | fence t => simp only [hd]
    | heading k t => simp only [h0]
    | item d t => simp only [hd]
    | plain t => simp only [hd]
def shl (o : Nat) (ls : List Bytes) : List Event := shown o (blocks ls.length ls)
def fbody (ls : List Bytes) : List Bytes := ls.takeWhile fun x => decide (trim x ≠ FENCE)
theorem blocks_drop (k n : Nat) (ls : List Bytes) (h : ls.length ≤ n) : blocks n (ls.drop k) = blocks (ls.drop k).length (ls.drop k) := blocks_fuel _ _ _ (by rw [List.length_drop]; omega) (Nat.le_refl _)
theorem shl_nil (o : Nat) : shl o [] = leave o := by
  unfold shl blocks
  simp [shown]
theorem shl_blank {o : Nat} {l : Bytes} {ls : List Bytes} (h : lineOf l = .blank) : shl o (l :: ls) = shl o ls := by
  unfold shl
  rw [List.length_cons]
  conv => lhs; unfold blocks
  rw [h]
theorem shl_fence {o : Nat} {l t : Bytes} {ls : List Bytes} (h : lineOf l = .fence t) : shl o (l :: ls) = leave o ++ [⟨10, 0, t⟩] ++ (fbody ls).map (fun l => ⟨11, 0, l⟩) ++ [ev 12] ++ shl 0 (ls.drop ((fbody ls).length + 1)) := by
  unfold shl
  rw [List.length_cons]
  conv => lhs; unfold blocks
  rw [h]
  show shown o (.code t (fbody ls) :: blocks ls.length (ls.drop ((fbody ls).length + 1))) = _
  rw [blocks_drop _ _ _ (Nat.le_refl _)]
  rfl
theorem shl_heading {o k : Nat} {l t : Bytes} {ls : List Bytes} (h : lineOf l = .heading k t) : shl o (l :: ls) = leave o ++ [⟨4, k, []⟩] ++ running t ++ [⟨5, k, []⟩] ++ shl 0 ls := by
  unfold shl
  rw [List.length_cons]
  conv => lhs; unfold blocks
  rw [h]
  rfl
theorem shl_item {o d : Nat} {l t : Bytes} {ls : List Bytes} (h : lineOf l = .item d t) : shl o (l :: ls) = (if o ≤ d then [ev 6, ev 8] else leave (o - 1 - d) ++ [ev 9, ev 8]) ++ running (join (t :: plains ls)) ++ shl (min d o + 1) (ls.drop (plains ls).length) := by
  unfold shl
  rw [List.length_cons]
  conv => lhs; unfold blocks
  rw [h]
  show shown o (.item d (join (t :: plains ls)) :: blocks ls.length (ls.drop (plains ls).length)) = _
  rw [blocks_drop _ _ _ (Nat.le_refl _)]
  rfl
theorem shl_plain {o : Nat} {l t : Bytes} {ls : List Bytes} (h : lineOf l = .plain t) : shl o (l :: ls) = leave o ++ [ev 2] ++ running (join (t :: plains ls)) ++ [ev 3] ++ shl 0 (ls.drop (plains ls).length) := by
  unfold shl
  rw [List.length_cons]
  conv => lhs; unfold blocks
  rw [h]
  show shown o (.para (join (t :: plains ls)) :: blocks ls.length (ls.drop (plains ls).length)) = _
  rw [blocks_drop _ _ _ (Nat.le_refl _)]
  rfl
theorem leave_snoc : ∀ o : Nat, leave (o + 1) = [ev 9, ev 7] ++ leave o := fun _ => rfl
def isPlain (l : Bytes) : Bool := decide (kindL (lineOf l) = 4)
theorem plains_eq : ∀ ls : List Bytes, plains ls = (ls.takeWhile isPlain).map fun l => textL (lineOf l)
  | [] => rfl
  | l :: ls => by
    have ih := plains_eq ls
    have hp : isPlain l = decide (kindL (lineOf l) = 4) := rfl
    unfold plains
    rw [List.takeWhile_cons, hp]
    cases e : lineOf l with
    | plain t =>
      rw [if_pos (by simp [kindL]), List.map_cons, e, ← ih]
      rfl
    | blank => rw [if_neg (by simp [kindL])]; rfl
    | fence t => rw [if_neg (by simp [kindL])]; rfl
    | heading k t => rw [if_neg (by simp [kindL])]; rfl
    | item k t => rw [if_neg (by simp [kindL])]; rfl
theorem plains_at (ls : List Bytes) (b : Nat) : plains (ls.drop b) = (cut ls b (spanF isPlain ls b)).map (fun l => textL (lineOf l)) ∧ (plains (ls.drop b)).length = spanF isPlain ls b - b := by
  constructor
  · rw [plains_eq, spanF_take, cut_eq]
  · rw [plains_eq, List.length_map]
    unfold spanF
    omega
def joinStep (acc l : Bytes) : Bytes := if l = [] then acc else if acc = [] then l else acc ++ 10 :: l
theorem join_left : ∀ (ls : List Bytes) (acc : Bytes), ls.foldl joinStep acc = if acc = [] then join ls else if join ls = [] then acc else acc ++ 10 :: join ls
  | [], acc => by
    show acc = _
    by_cases h : acc = []
    · rw [if_pos h, h]; rfl
    · rw [if_neg h]; rfl
  | l :: ls, acc => by
    rw [List.foldl_cons, join_left ls]
    show _ = if acc = [] then (if l = [] then join ls else if join ls = [] then l else l ++ 10 :: join ls) else if (if l = [] then join ls else if join ls = [] then l else l ++ 10 :: join ls) = [] then acc else acc ++ 10 :: (if l = [] then join ls else if join ls = [] then l else l ++ 10 :: join ls)
    unfold joinStep
    by_cases h1 : l = []
    · simp only [h1, if_true]
    · by_cases h2 : acc = []
      · simp only [h1, h2, if_true, if_false]
      · by_cases h3 : join ls = []
        · simp only [h1, h2, h3, if_true, if_false]
          simp
        · simp only [h1, h2, h3, if_false]
          simp
theorem join_fold (ls : List Bytes) : ls.foldl joinStep [] = join ls := by
  rw [join_left, if_pos rfl]
theorem join_len : ∀ ls : List Bytes, (join ls).length ≤ lsum ls
  | [] => Nat.le_refl _
  | l :: ls => by
    have ih := join_len ls
    show (if l = [] then join ls else if join ls = [] then l else l ++ 10 :: join ls).length ≤ l.length + 1 + lsum ls
    split
    · omega
    · split
      · omega
      · rw [List.length_append, List.length_cons]
        omega
theorem lex_fuel : ∀ (n m : Nat) (t : Bytes), t.length ≤ n → t.length ≤ m → lex n t = lex m t
  | 0, 0, _, _, _ => rfl
  | 0, m + 1, t, h, _ => by
    obtain rfl : t = [] := List.eq_nil_of_length_eq_zero (by omega)
    rfl
  | n + 1, 0, t, _, h => by
    obtain rfl : t = [] := List.eq_nil_of_length_eq_zero (by omega)
    rfl
  | n + 1, m + 1, [], _, _ => rfl
  | n + 1, m + 1, c :: r, h1, h2 => by
    have h1' : r.length ≤ n := Nat.le_of_succ_le_succ h1
    have h2' : r.length ≤ m := Nat.le_of_succ_le_succ h2
    have h0 := lex_fuel n m r h1' h2'
    have hd : ∀ k, lex n (r.drop k) = lex m (r.drop k) := fun k => lex_fuel n m _ (by rw [List.length_drop]; omega) (by rw [List.length_drop]; omega)
    unfold lex
    simp only [h0, hd]
    split
    · cases r with
      | nil => rfl
      | cons x q =>
        have hq : lex n q = lex m q := hd 1
        simp only [hq]
    · rfl
def lexF (t : Bytes) : List Tok := lex t.length t
theorem lex_drop (k n : Nat) (t : Bytes) (h : t.length ≤ n) : lex n (t.drop k) = lexF (t.drop k) := lex_fuel _ _ _ (by rw [List.length_drop]; omega) (Nat.le_refl _)
theorem lexF_nil : lexF [] = [] := rfl
theorem lexF_lit {x : UInt8} {q : Bytes} (h : sign x = true) : lexF (92 :: x :: q) = .lit x :: lexF q := by
  have e := lex_drop 1 (x :: q).length (x :: q) (Nat.le_refl _)
  show lex ((x :: q).length + 1) (92 :: x :: q) = _
  unfold lex
  rw [if_pos rfl]
  show (if sign x = true then Tok.lit x :: lex (x :: q).length q else _) = _
  rw [if_pos h]
  exact congrArg _ e
theorem lexF_code {r : Bytes} (h1 : (r.takeWhile fun x => x != 96) ≠ []) (h2 : (r.takeWhile fun x => x != 96).length < r.length) : lexF (96 :: r) = .code (r.takeWhile fun x => x != 96) :: lexF (r.drop ((r.takeWhile fun x => x != 96).length + 1)) := by
  show lex (r.length + 1) (96 :: r) = _
  unfold lex
  rw [if_neg (by decide), if_pos rfl]
  show (if (r.takeWhile fun x => x != 96) ≠ [] ∧ (r.takeWhile fun x => x != 96).length < r.length then Tok.code (r.takeWhile fun x => x != 96) :: lex r.length (r.drop ((r.takeWhile fun x => x != 96).length + 1)) else _) = _
  rw [if_pos ⟨h1, h2⟩, lex_drop _ _ _ (Nat.le_refl _)]
def tok1 (c : UInt8) : Tok := if c = 42 then .star else if c = 91 then .lbr else if c = 93 then .rbr else .ch c
theorem lexF_one {c : UInt8} {r : Bytes} (h1 : ¬ (c = 92 ∧ ∃ x q, r = x :: q ∧ sign x = true)) (h2 : ¬ (c = 96 ∧ (r.takeWhile fun x => x != 96) ≠ [] ∧ (r.takeWhile fun x => x != 96).length < r.length)) : lexF (c :: r) = tok1 c :: lexF r := by
  show lex (r.length + 1) (c :: r) = _
  unfold lex tok1
  by_cases c1 : c = 92
  · subst c1
    rw [if_pos rfl, if_neg (by decide), if_neg (by decide), if_neg (by decide)]
    cases r with
    | nil => rfl
    | cons x q =>
      show (if sign x = true then _ else Tok.ch 92 :: lex (x :: q).length (x :: q)) = _
      rw [if_neg fun hs => h1 ⟨rfl, x, q, rfl, hs⟩]
      rfl
  rw [if_neg c1]
  by_cases c2 : c = 96
  · subst c2
    have e1 : tok1 96 = Tok.ch 96 := rfl
    rw [if_pos rfl]
    show (if (r.takeWhile fun x => x != 96) ≠ [] ∧ (r.takeWhile fun x => x != 96).length < r.length then _ else Tok.ch 96 :: lex r.length r) = tok1 96 :: lexF r
    rw [if_neg fun z => h2 ⟨rfl, z⟩, e1]
    rfl
  rw [if_neg c2]
  by_cases c3 : c = 42
  · rw [if_pos c3, if_pos c3]
    rfl
  rw [if_neg c3, if_neg c3]
  by_cases c4 : c = 91
  · rw [if_pos c4, if_pos c4]
    rfl
  rw [if_neg c4, if_neg c4]
  by_cases c5 : c = 93
  · rw [if_pos c5, if_pos c5]
    rfl
  rw [if_neg c5, if_neg c5]
  rfl
theorem lexF_len : ∀ (n : Nat) (t : Bytes), (lex n t).length ≤ t.length
  | 0, _ => Nat.zero_le _
  | _ + 1, [] => Nat.le_refl _
  | n + 1, c :: r => by
    have h0 := lexF_len n r
    have hd : ∀ k, (lex n (r.drop k)).length ≤ r.length := fun k => Nat.le_trans (lexF_len n _) (by rw [List.length_drop]; omega)
    unfold lex
    split
    · cases r with
      | nil => simp
      | cons x q =>
        dsimp only
        have := hd 1
        rw [List.drop_succ_cons, List.drop_zero] at this
        split
        · simp at this ⊢; omega
        · simp at h0 ⊢; omega
    · split
      · dsimp only
        split
        · have := hd ((r.takeWhile fun x => x != 96).length + 1)
          rw [List.length_cons, List.length_cons]
          omega
        · rw [List.length_cons, List.length_cons]; omega
      · split
        · rw [List.length_cons, List.length_cons]; omega
        · split
          · rw [List.length_cons, List.length_cons]; omega
          · split
            all_goals (rw [List.length_cons, List.length_cons]; omega)
structure LastQ (t : Bytes) (last : Nat) : Prop where
  le : last ≤ t.length
  no : ∀ j, last ≤ j → t[j]? ≠ some 96
theorem LastQ.init (t : Bytes) : LastQ t t.length := ⟨Nat.le_refl _, fun j hj h => by rw [List.getElem?_eq_none hj] at h; cases h⟩
theorem LastQ.down {t : Bytes} {n : Nat} (h : LastQ t (n + 1)) (hx : t[n]? ≠ some 96) : LastQ t n := ⟨Nat.le_of_succ_le h.le, fun j hj => by
  by_cases e : j = n
  · rw [e]; exact hx
  · exact h.no j (by omega)⟩
theorem tw_ne {r : Bytes} : (r.takeWhile fun x => x != 96) ≠ [] ↔ ∃ x q, r = x :: q ∧ x ≠ 96 := by
  cases r with
  | nil => simp
  | cons x q =>
    rw [List.takeWhile_cons]
    by_cases h : x = 96
    · subst h; simp
    · have : (x != 96) = true := by simp [h]
      rw [if_pos this]
      simp [h]
theorem tw_lt {r : Bytes} : (r.takeWhile fun x => x != 96).length < r.length ↔ ∃ j : Nat, r[j]? = some 96 := by
  induction r with
  | nil => simp
  | cons x q ih =>
    rw [List.takeWhile_cons]
    by_cases h : x = 96
    · subst h
      simp
      exact ⟨0, rfl⟩
    · have : (x != 96) = true := by simp [h]
      rw [if_pos this, List.length_cons, List.length_cons, Nat.succ_lt_succ_iff, ih]
      constructor
      · rintro ⟨j, hj⟩
        exact ⟨j + 1, hj⟩
      · rintro ⟨j, hj⟩
        cases j with
        | zero => exact absurd (Option.some.inj hj) h
        | succ j => exact ⟨j, hj⟩
theorem quote_test {t : Bytes} {last i : Nat} (h : LastQ t last) (hl : 0 < last → t[last - 1]? = some 96) : (i + 1 < last ∧ ∃ x, t[i + 1]? = some x ∧ x ≠ 96) ↔ ((t.drop (i + 1)).takeWhile fun x => x != 96) ≠ [] ∧ ((t.drop (i + 1)).takeWhile fun x => x != 96).length < (t.drop (i + 1)).length := by
  rw [tw_ne, tw_lt]
  constructor
  · rintro ⟨h1, x, hx, hne⟩
    refine ⟨⟨x, t.drop (i + 2), drop_at hx, hne⟩, last - 1 - (i + 1), ?_⟩
    rw [List.getElem?_drop, show i + 1 + (last - 1 - (i + 1)) = last - 1 by omega]
    exact hl (by omega)
  · rintro ⟨⟨x, q, e, hne⟩, j, hj⟩
    rw [List.getElem?_drop] at hj
    have hx : t[i + 1]? = some x := by
      have := congrArg (fun l => l[0]?) e
      simpa using this
    refine ⟨?_, x, hx, hne⟩
    have h1 : ¬ last ≤ i + 1 + j := fun z => h.no _ z hj
    by_cases hj0 : j = 0
    · subst hj0
      rw [Nat.add_zero, hx] at hj
      exact absurd (Option.some.inj hj) hne
    · omega
end MA
set_option autoImplicit false
namespace MA
open Ml
theorem linkAt_len {r : List Tok} {a : List Tok} {u : Bytes} {z : List Tok} (h : linkAt r = some (a, u, z)) : z.length < r.length := by
  unfold linkAt at h
  dsimp only at h
  have hd : ∀ k, (r.drop k).length ≤ r.length := fun k => by rw [List.length_drop]; omega
  generalize hc : (r.takeWhile fun t => !bracket t) = a' at h
  have e := hd a'.length
  split at h
  · rename_i q hq
    rw [hq] at e
    have hd2 : ∀ k, (q.drop k).length ≤ q.length := fun k => by rw [List.length_drop]; omega
    have e2 := hd2 (q.takeWhile fun t => (urlByte t).isSome).length
    split at h
    · rename_i z' hz
      rw [hz] at e2
      split at h
      · cases h
      · cases h
        simp only [List.length_cons] at e e2
        omega
    · cases h
  · cases h
theorem links_fuel : ∀ (n m : Nat) (t : List Tok), t.length ≤ n → t.length ≤ m → links n t = links m t
  | 0, 0, _, _, _ => rfl
  | 0, m + 1, t, h, _ => by
    obtain rfl : t = [] := List.eq_nil_of_length_eq_zero (by omega)
    rfl
  | n + 1, 0, t, _, h => by
    obtain rfl : t = [] := List.eq_nil_of_length_eq_zero (by omega)
    rfl
  | n + 1, m + 1, [], _, _ => rfl
  | n + 1, m + 1, c :: r, h1, h2 => by
    have h1' : r.length ≤ n := Nat.le_of_succ_le_succ h1
    have h2' : r.length ≤ m := Nat.le_of_succ_le_succ h2
    have h0 := links_fuel n m r h1' h2'
    unfold links
    cases c with
    | lbr =>
      dsimp only
      cases e : linkAt r with
      | none => dsimp only; rw [h0]
      | some x =>
        obtain ⟨a, u, z⟩ := x
        have hz := linkAt_len e
        dsimp only
        rw [links_fuel n m z (by omega) (by omega)]
    | _ => dsimp only; rw [h0]
def linksF (t : List Tok) : List Piece := links t.length t
theorem linksF_nil : linksF [] = [] := rfl
theorem linksF_some {r a : List Tok} {u : Bytes} {z : List Tok} (h : linkAt r = some (a, u, z)) : linksF (.lbr :: r) = .link a u :: linksF z := by
  show links (r.length + 1) (.lbr :: r) = _
  unfold links
  dsimp only
  rw [h]
  dsimp only
  rw [links_fuel r.length z.length z (Nat.le_of_lt (linkAt_len h)) (Nat.le_refl _)]
  rfl
theorem linksF_none {r : List Tok} (h : linkAt r = none) : linksF (.lbr :: r) = .tok .lbr :: linksF r := by
  show links (r.length + 1) (.lbr :: r) = _
  unfold links
  dsimp only
  rw [h]
  rfl
theorem linksF_tok {t : Tok} {r : List Tok} (h : t ≠ .lbr) : linksF (t :: r) = .tok t :: linksF r := by
  show links (r.length + 1) (t :: r) = _
  unfold links
  cases t with
  | lbr => exact absurd rfl h
  | _ => rfl
def nbr (t : Tok) : Bool := !bracket t
def urlOk (t : Tok) : Bool := (urlByte t).isSome
def lkC (ts : List Tok) (i : Nat) : Nat := spanF nbr ts (i + 1)
def lkE (ts : List Tok) (i : Nat) : Nat := spanF urlOk ts (lkC ts i + 2)
theorem link_some_at {ts : List Tok} {i : Nat} (h1 : lkC ts i ≠ i + 1) (h2 : ts[lkC ts i]? = some .rbr) (h3 : ts[lkC ts i + 1]? = some (.ch 40)) (h4 : ts[lkE ts i]? = some (.ch 41)) :
    linkAt (ts.drop (i + 1)) = some (cut ts (i + 1) (lkC ts i), (cut ts (lkC ts i + 2) (lkE ts i)).filterMap urlByte, ts.drop (lkE ts i + 1)) := by
  have e1 : (ts.drop (i + 1)).takeWhile (fun t => !bracket t) = cut ts (i + 1) (lkC ts i) := by
    rw [cut_eq]
    exact spanF_take
  have e2 : (ts.drop (i + 1)).drop ((ts.drop (i + 1)).takeWhile (fun t => !bracket t)).length = .rbr :: .ch 40 :: ts.drop (lkC ts i + 2) := by
    rw [← drop_at h3, ← drop_at h2]
    exact spanF_drop
  have e3 : (ts.drop (lkC ts i + 2)).takeWhile (fun t => (urlByte t).isSome) = cut ts (lkC ts i + 2) (lkE ts i) := by
    rw [cut_eq]
    exact spanF_take
  have e4 : (ts.drop (lkC ts i + 2)).drop ((ts.drop (lkC ts i + 2)).takeWhile (fun t => (urlByte t).isSome)).length = .ch 41 :: ts.drop (lkE ts i + 1) := by
    rw [← drop_at h4]
    exact spanF_drop
  have hne : cut ts (i + 1) (lkC ts i) ≠ [] := by
    intro z
    have hl := cut_len (l := ts) (b := i + 1) (e := lkC ts i) (Nat.le_of_lt (List.getElem?_eq_some_iff.mp h2).1)
    rw [z] at hl
    have h5 : i + 1 ≤ lkC ts i := spanF_ge
    simp at hl
    omega
  unfold linkAt
  dsimp only
  rw [e2]
  show (match (ts.drop (lkC ts i + 2)).drop ((ts.drop (lkC ts i + 2)).takeWhile (fun t => (urlByte t).isSome)).length with
    | .ch 41 :: z => if (ts.drop (i + 1)).takeWhile (fun t => !bracket t) = [] then none else some ((ts.drop (i + 1)).takeWhile (fun t => !bracket t), ((ts.drop (lkC ts i + 2)).takeWhile (fun t => (urlByte t).isSome)).filterMap urlByte, z)
    | _ => none) = _
  rw [e4]
  show (if (ts.drop (i + 1)).takeWhile (fun t => !bracket t) = [] then none else some ((ts.drop (i + 1)).takeWhile (fun t => !bracket t), ((ts.drop (lkC ts i + 2)).takeWhile (fun t => (urlByte t).isSome)).filterMap urlByte, ts.drop (lkE ts i + 1))) = _
  rw [e1, e3, if_neg hne]
theorem link_none_at {ts : List Tok} {i : Nat} (h : ¬ (lkC ts i ≠ i + 1 ∧ ts[lkC ts i]? = some .rbr ∧ ts[lkC ts i + 1]? = some (.ch 40) ∧ ts[lkE ts i]? = some (.ch 41))) : linkAt (ts.drop (i + 1)) = none := by
  have e2 : (ts.drop (i + 1)).drop ((ts.drop (i + 1)).takeWhile (fun t => !bracket t)).length = ts.drop (lkC ts i) := spanF_drop
  have e1 : (ts.drop (i + 1)).takeWhile (fun t => !bracket t) = cut ts (i + 1) (lkC ts i) := by
    rw [cut_eq]
    exact spanF_take
  unfold linkAt
  dsimp only
  rw [e2, e1]
  have hg : ∀ (b : Nat) (q : List Tok) (x : Tok), ts.drop b = x :: q → ts[b]? = some x ∧ q = ts.drop (b + 1) := fun b q x e => by
    have h1 : ts[b]? = some x := by
      have := congrArg (fun l => l[0]?) e
      simpa using this
    rw [drop_at h1] at e
    exact ⟨h1, (List.cons.inj e).2.symm⟩
  split
  · rename_i q hq
    obtain ⟨g1, g2⟩ := hg _ _ _ hq
    obtain ⟨g3, g4⟩ := hg _ _ _ g2.symm
    subst g4
    have e4 : (ts.drop (lkC ts i + 1 + 1)).drop ((ts.drop (lkC ts i + 1 + 1)).takeWhile (fun t => (urlByte t).isSome)).length = ts.drop (lkE ts i) := spanF_drop
    rw [e4]
    split
    · rename_i z hz
      obtain ⟨g5, _⟩ := hg _ _ _ hz
      split
      · rfl
      · rename_i hne
        exact absurd ⟨fun e => hne (by rw [e]; exact cut_nil), g1, g3, g5⟩ h
    · rfl
  · rfl
def byteT : Tok → UInt8
  | .ch c => c
  | .lit c => c
  | .code _ => 0
  | .star => 42
  | .lbr => 91
  | .rbr => 93
theorem url_bytes : ∀ l : List Tok, (∀ t ∈ l, urlOk t = true) → l.filterMap urlByte = l.map byteT
  | [], _ => rfl
  | t :: l, h => by
    have h1 := h t (List.mem_cons_self ..)
    have ih := url_bytes l fun x hx => h x (List.mem_cons_of_mem _ hx)
    have e : urlByte t = some (byteT t) := by
      unfold urlOk at h1
      cases t with
      | ch c =>
        unfold urlByte at h1 ⊢
        dsimp only at h1 ⊢
        split at h1
        · cases h1
        · rename_i hc
          rw [if_neg hc]
          rfl
      | lit c => rfl
      | star => rfl
      | code b => cases h1
      | lbr => cases h1
      | rbr => cases h1
    rw [List.filterMap_cons, e, List.map_cons, ih]
theorem span_all {α : Type} {p : α → Bool} {l : List α} {b : Nat} : ∀ x ∈ cut l b (spanF p l b), p x = true := fun x hx => by
  rw [cut_eq, ← spanF_take] at hx
  have : ∀ (m : List α), x ∈ m.takeWhile p → p x = true := fun m => by
    induction m with
    | nil => intro h; cases h
    | cons y m ih =>
      rw [List.takeWhile_cons]
      split
      · rename_i hy
        intro h
        cases h with
        | head => exact hy
        | tail _ h => exact ih h
      · intro h; cases h
  exact this _ hx
theorem link_url {ts : List Tok} {i : Nat} : (cut ts (lkC ts i + 2) (lkE ts i)).filterMap urlByte = (cut ts (lkC ts i + 2) (lkE ts i)).map byteT := url_bytes _ span_all
theorem lkC_ge {ts : List Tok} {i : Nat} : i + 1 ≤ lkC ts i := spanF_ge
theorem lkE_ge {ts : List Tok} {i : Nat} : lkC ts i + 2 ≤ lkE ts i := spanF_ge
section
variable {α : Type} (star blank : α → Bool) (shown : α → List Event)
theorem emph_fuel : ∀ (n m : Nat) (l : List α), l.length ≤ n → l.length ≤ m → emph star blank shown n l = emph star blank shown m l
  | 0, 0, _, _, _ => rfl
  | 0, m + 1, t, h, _ => by
    obtain rfl : t = [] := List.eq_nil_of_length_eq_zero (by omega)
    rfl
  | n + 1, 0, t, _, h => by
    obtain rfl : t = [] := List.eq_nil_of_length_eq_zero (by omega)
    rfl
  | n + 1, m + 1, [], _, _ => rfl
  | n + 1, m + 1, c :: r, h1, h2 => by
    have h1' : r.length ≤ n := Nat.le_of_succ_le_succ h1
    have h2' : r.length ≤ m := Nat.le_of_succ_le_succ h2
    have h0 := emph_fuel n m r h1' h2'
    unfold emph
    rw [h0]
    split
    · cases r with
      | nil => rfl
      | cons y q =>
        dsimp only
        have hd : ∀ k, emph star blank shown n (q.drop k) = emph star blank shown m (q.drop k) := fun k => emph_fuel n m _ (by rw [List.length_drop]; simp at h1'; omega) (by rw [List.length_drop]; simp at h2'; omega)
        simp only [hd]
    · rfl
def emphF (l : List α) : List Event := emph star blank shown l.length l
theorem emphF_nil : emphF star blank shown [] = [] := rfl
theorem emphF_plain {x : α} {r : List α} (h : star x = false) : emphF star blank shown (x :: r) = shown x ++ emphF star blank shown r := by
  show emph star blank shown (r.length + 1) (x :: r) = _
  unfold emph
  rw [if_neg (by rw [h]; exact Bool.false_ne_true)]
  rfl
theorem emphF_last {x : α} (h : star x = true) : emphF star blank shown [x] = shown x ++ emphF star blank shown [] := by
  show emph star blank shown 1 [x] = _
  unfold emph
  rw [if_pos h, emphF_nil, List.append_nil]
theorem emphF_none {x y : α} {q : List α} (h : star x = true) (hc : (if blank y = true then none else closing star blank y q) = none) : emphF star blank shown (x :: y :: q) = shown x ++ emphF star blank shown (y :: q) := by
  show emph star blank shown ((y :: q).length + 1) (x :: y :: q) = _
  unfold emph
  rw [if_pos h]
  dsimp only
  rw [hc]
  rfl
theorem emphF_some {x y : α} {q : List α} {j : Nat} (h : star x = true) (hb : blank y = false) (hc : closing star blank y q = some j) : emphF star blank shown (x :: y :: q) = [ev 13] ++ (y :: q.take j).flatMap shown ++ [ev 14] ++ emphF star blank shown (q.drop (j + 1)) := by
  show emph star blank shown ((y :: q).length + 1) (x :: y :: q) = _
  unfold emph
  rw [if_pos h]
  dsimp only
  rw [if_neg (by rw [hb]; exact Bool.false_ne_true), hc]
  dsimp only
  rw [emph_fuel star blank shown _ (q.drop (j + 1)).length (q.drop (j + 1)) (by rw [List.length_drop]; simp; omega) (Nat.le_refl _)]
  rfl
def endOk (l : List α) (j : Nat) : Bool := decide (0 < j) && (l[j]?.any star && l[j - 1]?.any fun p => !blank p)
def endF (l : List α) (i : Nat) : Nat := spanF (fun j => !endOk star blank l j) (List.range l.length) i
theorem endF_end {l : List α} {i : Nat} (h : l.length ≤ i) : endF star blank l i = i := spanF_end (by rw [List.length_range]; exact h)
theorem endF_here {l : List α} {i : Nat} (h : i < l.length) (e : endOk star blank l i = true) : endF star blank l i = i := spanF_stop (x := i) (by rw [List.getElem?_range h]) (by rw [e]; rfl)
theorem endF_next {l : List α} {i : Nat} (h : i < l.length) (e : endOk star blank l i = false) : endF star blank l i = endF star blank l (i + 1) := spanF_step (x := i) (by rw [List.getElem?_range h]) (by rw [e]; rfl)
theorem endF_le {l : List α} {i : Nat} (h : i ≤ l.length) : endF star blank l i ≤ l.length := by
  have := spanF_le (p := fun j => !endOk star blank l j) (l := List.range l.length) (b := i) (by rw [List.length_range]; exact h)
  rw [List.length_range] at this
  exact this
theorem endF_ge {l : List α} {i : Nat} : i ≤ endF star blank l i := spanF_ge
theorem closing_at : ∀ (n : Nat) {l : List α} {i : Nat} {p : α}, l.length - i = n → 0 < i → l[i - 1]? = some p → closing star blank p (l.drop i) = if endF star blank l i < l.length then some (endF star blank l i - i) else none
  | 0, l, i, p, hn, hi, hp => by
    have hl : l.length ≤ i := by omega
    rw [List.drop_eq_nil_of_le hl, endF_end star blank hl, if_neg (by omega)]
    rfl
  | n + 1, l, i, p, hn, hi, hp => by
    have hl : i < l.length := by omega
    have hx : l[i]? = some l[i] := List.getElem?_eq_getElem hl
    rw [drop_at hx]
    show (if star l[i] = true ∧ blank p = false then some 0 else (closing star blank l[i] (l.drop (i + 1))).map (· + 1)) = _
    have he : endOk star blank l i = (star l[i] && !blank p) := by
      unfold endOk
      rw [hx, hp, decide_eq_true hi]
      simp
    by_cases c : star l[i] = true ∧ blank p = false
    · rw [if_pos c, endF_here star blank hl (by rw [he, c.1, c.2]; rfl), if_pos hl, Nat.sub_self]
    · have he2 : endOk star blank l i = false := by
        rw [he]
        cases h1 : star l[i] with
        | false => rfl
        | true =>
          cases h2 : blank p with
          | true => rfl
          | false => exact absurd ⟨h1, h2⟩ c
      rw [if_neg c, endF_next star blank hl he2, closing_at n (by omega) (Nat.succ_pos _) hx]
      have hg : i + 1 ≤ endF star blank l (i + 1) := endF_ge star blank
      split
      · show some (endF star blank l (i + 1) - (i + 1) + 1) = some (endF star blank l (i + 1) - i)
        congr 1
        omega
      · rfl
def emA (l : List α) (i : Nat) : Option Nat := if l[i]?.any star = true ∧ i + 2 < l.length ∧ l[i + 1]?.any blank = false ∧ endF star blank l (i + 2) < l.length then some (endF star blank l (i + 2)) else none
theorem emph_at_none {l : List α} {i : Nat} {x : α} (hx : l[i]? = some x) (h : emA star blank l i = none) : emphF star blank shown (l.drop i) = shown x ++ emphF star blank shown (l.drop (i + 1)) := by
  rw [drop_at hx]
  cases hs : star x with
  | false => exact emphF_plain star blank shown hs
  | true =>
    unfold emA at h
    rw [hx] at h
    cases hy : l[i + 1]? with
    | none =>
      rw [List.drop_eq_nil_of_le (List.getElem?_eq_none_iff.mp hy)]
      exact emphF_last star blank shown hs
    | some y =>
      rw [drop_at hy]
      refine emphF_none star blank shown hs ?_
      rw [hy] at h
      cases hb : blank y with
      | true => exact if_pos rfl
      | false =>
        rw [if_neg Bool.false_ne_true, closing_at star blank _ rfl (Nat.succ_pos _) hy]
        split at h
        · cases h
        · rename_i hc
          refine if_neg fun z => hc ⟨by simpa using hs, ?_, by simpa using hb, z⟩
          have := endF_ge star blank (l := l) (i := i + 2)
          exact Nat.lt_of_le_of_lt this z
theorem emph_at_some {l : List α} {i e : Nat} (h : emA star blank l i = some e) : emphF star blank shown (l.drop i) = [ev 13] ++ (cut l (i + 1) e).flatMap shown ++ [ev 14] ++ emphF star blank shown (l.drop (e + 1)) ∧ i + 2 ≤ e ∧ e < l.length := by
  unfold emA at h
  split at h
  · rename_i hc
    obtain ⟨h1, h2, h3, h4⟩ := hc
    cases h
    have hi : i < l.length := by omega
    have hi1 : i + 1 < l.length := by omega
    have hx : l[i]? = some l[i] := List.getElem?_eq_getElem hi
    have hy : l[i + 1]? = some l[i + 1] := List.getElem?_eq_getElem hi1
    have hs : star l[i] = true := by rw [hx] at h1; simpa using h1
    have hb : blank l[i + 1] = false := by rw [hy] at h3; simpa using h3
    have hg := endF_ge star blank (l := l) (i := i + 2)
    have hc := closing_at star blank _ (l := l) (i := i + 2) (p := l[i + 1]) rfl (Nat.succ_pos _) (by rw [show i + 2 - 1 = i + 1 by omega]; exact hy)
    rw [if_pos h4] at hc
    refine ⟨?_, hg, h4⟩
    rw [drop_at hx, drop_at hy, emphF_some star blank shown hs hb hc]
    have e1 : l[i + 1] :: (l.drop (i + 2)).take (endF star blank l (i + 2) - (i + 2)) = cut l (i + 1) (endF star blank l (i + 2)) := by
      rw [cut_eq, drop_at hy, show endF star blank l (i + 2) - (i + 1) = (endF star blank l (i + 2) - (i + 2)) + 1 by omega, List.take_succ_cons]
    have e2 : (l.drop (i + 2)).drop (endF star blank l (i + 2) - (i + 2) + 1) = l.drop (endF star blank l (i + 2) + 1) := by
      rw [List.drop_drop]
      congr 1
      omega
    rw [e1, e2]
  · cases h
end
theorem emph_tok (n : Nat) : ∀ l : List Tok, emph Tok.isStar Tok.isBlank Tok.events n l = emph Piece.isStar Piece.isBlank Piece.events n (l.map .tok) := by
  have hcl : ∀ (q : List Tok) (p : Tok), closing Tok.isStar Tok.isBlank p q = closing Piece.isStar Piece.isBlank (.tok p) (q.map .tok) := fun q => by
    induction q with
    | nil => intro p; rfl
    | cons x q ih =>
      intro p
      show (if x.isStar = true ∧ p.isBlank = false then some 0 else (closing Tok.isStar Tok.isBlank x q).map (· + 1)) = if x.isStar = true ∧ p.isBlank = false then some 0 else (closing Piece.isStar Piece.isBlank (.tok x) (q.map .tok)).map (· + 1)
      rw [ih]
  have hfl : ∀ q : List Tok, q.flatMap Tok.events = (q.map Piece.tok).flatMap Piece.events := fun q => by
    rw [List.flatMap_map]
    rfl
  induction n with
  | zero => intro l; rfl
  | succ n ih =>
    intro l
    cases l with
    | nil => rfl
    | cons x r =>
      show (if x.isStar = true then _ else x.events ++ emph Tok.isStar Tok.isBlank Tok.events n r) = if x.isStar = true then _ else x.events ++ emph Piece.isStar Piece.isBlank Piece.events n (r.map .tok)
      rw [ih r]
      cases r with
      | nil => rfl
      | cons y q =>
        show (if x.isStar = true then (match (if y.isBlank = true then none else closing Tok.isStar Tok.isBlank y q) with
          | some j => [ev 13] ++ (y :: q.take j).flatMap Tok.events ++ [ev 14] ++ emph Tok.isStar Tok.isBlank Tok.events n (q.drop (j + 1))
          | none => x.events ++ emph Piece.isStar Piece.isBlank Piece.events n ((y :: q).map .tok)) else _) = (if x.isStar = true then (match (if y.isBlank = true then none else closing Piece.isStar Piece.isBlank (.tok y) (q.map .tok)) with
          | some j => [ev 13] ++ (Piece.tok y :: (q.map Piece.tok).take j).flatMap Piece.events ++ [ev 14] ++ emph Piece.isStar Piece.isBlank Piece.events n ((q.map .tok).drop (j + 1))
          | none => x.events ++ emph Piece.isStar Piece.isBlank Piece.events n ((y :: q).map .tok)) else _)
        rw [← hcl]
        have h1 : ∀ j, (y :: q.take j).flatMap Tok.events = (Piece.tok y :: (q.map Piece.tok).take j).flatMap Piece.events := fun j => by
          rw [hfl, List.map_cons, List.map_take]
        have h2 : ∀ j, emph Tok.isStar Tok.isBlank Tok.events n (q.drop (j + 1)) = emph Piece.isStar Piece.isBlank Piece.events n ((q.map .tok).drop (j + 1)) := fun j => by
          rw [ih, List.map_drop]
        simp only [h1, h2]
def tellF (ps : List Piece) : List Event := emphF Piece.isStar Piece.isBlank Piece.events ps
theorem link_events (l : List Tok) (u : Bytes) : (Piece.link l u).events = [⟨15, 0, u⟩] ++ tellF (l.map .tok) ++ [ev 16] := by
  show [⟨15, 0, u⟩] ++ emph Tok.isStar Tok.isBlank Tok.events l.length l ++ [ev 16] = _
  rw [emph_tok]
  unfold tellF emphF
  rw [List.length_map]
theorem running_eq (t : Bytes) : running t = tellF (linksF (lexF t)) := rfl
end MA
set_option autoImplicit false
namespace MA
open Ml
def push (es : List Event) (e : Event) : List Event := match es.getLast? with
  | some f => if f.kind = 0 ∧ e.kind = 0 then es.dropLast ++ [{ f with bytes := f.bytes ++ e.bytes }] else es ++ [e]
  | none => [e]
theorem push_ne {es : List Event} {e : Event} (h : e.kind ≠ 0) : push es e = es ++ [e] := by
  unfold push
  split
  · rw [if_neg fun z => h z.2]
  · rename_i hn
    rw [List.getLast?_eq_none_iff.mp hn]
    rfl
theorem push_text {es : List Event} {f e : Event} (h : f.kind = 0) (he : e.kind = 0) : push (es ++ [f]) e = es ++ [{ f with bytes := f.bytes ++ e.bytes }] := by
  unfold push
  rw [List.getLast?_concat]
  dsimp only
  rw [if_pos ⟨h, he⟩, List.dropLast_concat]
theorem push_new {es : List Event} {e : Event} (h : ∀ f, es.getLast? = some f → f.kind ≠ 0) : push es e = es ++ [e] := by
  unfold push
  split
  · rename_i f hf
    rw [if_neg fun z => h f hf z.1]
  · rename_i hn
    rw [List.getLast?_eq_none_iff.mp hn]
    rfl
def pushAll (es l : List Event) : List Event := l.foldl push es
theorem pushAll_nil (es : List Event) : pushAll es [] = es := rfl
theorem pushAll_cons (es : List Event) (e : Event) (l : List Event) : pushAll es (e :: l) = pushAll (push es e) l := rfl
theorem pushAll_app (es l m : List Event) : pushAll es (l ++ m) = pushAll (pushAll es l) m := List.foldl_append ..
theorem pushAll_one (es : List Event) (e : Event) : pushAll es [e] = push es e := rfl
theorem pushAll_ev {es : List Event} {e : Event} (h : e.kind ≠ 0) : pushAll es [e] = es ++ [e] := push_ne h
def Zs (l : List Event) : Prop := ∀ e ∈ l, e.kind = 0 → e.num = 0
theorem Zs.app {l m : List Event} (h1 : Zs l) (h2 : Zs m) : Zs (l ++ m) := fun e h => (List.mem_append.mp h).elim (h1 e) (h2 e)
theorem Zs.cons {e : Event} {m : List Event} (h1 : e.kind = 0 → e.num = 0) (h2 : Zs m) : Zs (e :: m) := fun f h => by
  cases h with
  | head => exact h1
  | tail _ h => exact h2 f h
theorem Zs.nil : Zs [] := fun _ h => by cases h
def mcons (e : Event) (m : List Event) : List Event := match m with
  | f :: q => if e.kind = 0 ∧ f.kind = 0 then ⟨0, 0, e.bytes ++ f.bytes⟩ :: q else e :: f :: q
  | [] => [e]
theorem merge_cons (e : Event) (r : List Event) : merge (e :: r) = mcons e (merge r) := rfl
theorem mcons_push {e f : Event} {m : List Event} (he : e.kind = 0 → e.num = 0) (hm : Zs m) (hf : f.kind = 0 → f.num = 0) : mcons e (push m f) = push (mcons e m) f := by
  cases m with
  | nil =>
    show mcons e [f] = push [e] f
    unfold mcons push
    show (if e.kind = 0 ∧ f.kind = 0 then [(⟨0, 0, e.bytes ++ f.bytes⟩ : Event)] else [e, f]) = if e.kind = 0 ∧ f.kind = 0 then [({ e with bytes := e.bytes ++ f.bytes } : Event)] else [e, f]
    by_cases c : e.kind = 0 ∧ f.kind = 0
    · rw [if_pos c, if_pos c]
      obtain ⟨k, n, b⟩ := e
      have := he c.1
      obtain ⟨c1, c2⟩ := c
      simp at c1 this
      subst c1 this
      rfl
    · rw [if_neg c, if_neg c]
  | cons g q =>
    by_cases hq : q = []
    · subst hq
      have hg := hm g (List.mem_cons_self ..)
      by_cases c1 : e.kind = 0 <;> by_cases c2 : g.kind = 0 <;> by_cases c3 : f.kind = 0 <;> simp_all [mcons, push]
    · obtain ⟨q', x, rfl⟩ : ∃ q' x, q = q' ++ [x] := ⟨q.dropLast, q.getLast hq, (List.dropLast_concat_getLast hq).symm⟩
      by_cases c2 : x.kind = 0 ∧ f.kind = 0
      · have e1 : push (g :: (q' ++ [x])) f = g :: (q' ++ [{ x with bytes := x.bytes ++ f.bytes }]) := push_text (es := g :: q') c2.1 c2.2
        rw [e1]
        unfold mcons
        dsimp only
        split
        · exact (push_text (es := ⟨0, 0, e.bytes ++ g.bytes⟩ :: q') c2.1 c2.2).symm
        · exact (push_text (es := e :: g :: q') c2.1 c2.2).symm
      · have hl : ∀ a : List Event, push (a ++ [x]) f = a ++ [x] ++ [f] := fun a => by
          unfold push
          rw [List.getLast?_concat]
          dsimp only
          rw [if_neg c2]
        have e1 : push (g :: (q' ++ [x])) f = g :: (q' ++ [x]) ++ [f] := hl (g :: q')
        rw [e1]
        unfold mcons
        dsimp only [List.cons_append]
        split
        · exact (hl (⟨0, 0, e.bytes ++ g.bytes⟩ :: q')).symm
        · exact (hl (e :: g :: q')).symm
theorem merge_Zs : ∀ {l : List Event}, Zs l → Zs (merge l)
  | [], _ => Zs.nil
  | e :: r, h => by
    have ih := merge_Zs (l := r) fun f hf => h f (List.mem_cons_of_mem _ hf)
    have he := h e (List.mem_cons_self ..)
    rw [merge_cons]
    unfold mcons
    split
    · rename_i f q hq
      rw [hq] at ih
      split
      · exact Zs.cons (fun _ => rfl) fun f hf => ih f (List.mem_cons_of_mem _ hf)
      · exact Zs.cons he ih
    · exact Zs.cons he Zs.nil
theorem merge_snoc : ∀ {l : List Event} {f : Event}, Zs l → (f.kind = 0 → f.num = 0) → merge (l ++ [f]) = push (merge l) f
  | [], f, _, _ => rfl
  | e :: r, f, h, hf => by
    have hr : Zs r := fun g hg => h g (List.mem_cons_of_mem _ hg)
    have he := h e (List.mem_cons_self ..)
    rw [List.cons_append, merge_cons, merge_snoc hr hf, merge_cons, mcons_push he (merge_Zs hr) hf]
theorem merge_push_rev : ∀ (r : List Event), Zs r.reverse → pushAll [] r.reverse = merge r.reverse
  | [], _ => rfl
  | e :: r, h => by
    rw [List.reverse_cons] at h ⊢
    have h1 : Zs r.reverse := fun g hg => h g (List.mem_append_left _ hg)
    have h2 : e.kind = 0 → e.num = 0 := h e (List.mem_append_right _ (List.mem_singleton.mpr rfl))
    rw [pushAll_app, merge_push_rev r h1, merge_snoc h1 h2]
    rfl
theorem merge_push {l : List Event} (h : Zs l) : pushAll [] l = merge l := by
  have := merge_push_rev l.reverse (by rw [List.reverse_reverse]; exact h)
  rw [List.reverse_reverse] at this
  exact this
def Ok1 (e : Event) : Prop := e.kind ≤ 16 ∧ ((e.kind = 4 ∨ e.kind = 5) → 1 ≤ e.num ∧ e.num ≤ 6) ∧ (e.kind = 0 → e.num = 0)
def Oks (l : List Event) : Prop := ∀ e ∈ l, Ok1 e
theorem Oks.app {l m : List Event} (h1 : Oks l) (h2 : Oks m) : Oks (l ++ m) := fun e h => (List.mem_append.mp h).elim (h1 e) (h2 e)
theorem Oks.cons {e : Event} {m : List Event} (h1 : Ok1 e) (h2 : Oks m) : Oks (e :: m) := fun f h => by
  cases h with
  | head => exact h1
  | tail _ h => exact h2 f h
theorem Oks.nil : Oks [] := fun _ h => by cases h
theorem Oks.one {e : Event} (h1 : Ok1 e) : Oks [e] := Oks.cons h1 Oks.nil
theorem Oks.zs {l : List Event} (h : Oks l) : Zs l := fun e he => (h e he).2.2
theorem ok_ev {k : Nat} {b : Bytes} (h : k ≤ 16) (h4 : k ≠ 4) (h5 : k ≠ 5) : Ok1 ⟨k, 0, b⟩ := ⟨h, fun z => (z.elim h4 h5).elim, fun _ => rfl⟩
theorem push_oks {es : List Event} {e : Event} (h1 : Oks es) (h2 : Ok1 e) : Oks (push es e) := by
  by_cases hq : es = []
  · subst hq
    exact Oks.one h2
  · obtain ⟨q', x, rfl⟩ : ∃ q' x, es = q' ++ [x] := ⟨es.dropLast, es.getLast hq, (List.dropLast_concat_getLast hq).symm⟩
    unfold push
    rw [List.getLast?_concat]
    dsimp only
    split
    · rw [List.dropLast_concat]
      refine Oks.app (fun e he => h1 e (List.mem_append_left _ he)) (Oks.one ?_)
      exact h1 x (List.mem_append_right _ (List.mem_singleton.mpr rfl))
    · exact Oks.app h1 (Oks.one h2)
theorem pushAll_oks : ∀ {l es : List Event}, Oks es → Oks l → Oks (pushAll es l)
  | [], _, h, _ => h
  | e :: l, es, h1, h2 => by
    rw [pushAll_cons]
    exact pushAll_oks (push_oks h1 (h2 e (List.mem_cons_self ..))) fun f hf => h2 f (List.mem_cons_of_mem _ hf)
theorem tok_oks (t : Tok) : Oks t.events := by
  cases t <;> exact Oks.one (ok_ev (by decide) (by decide) (by decide))
theorem flat_oks {α : Type} {f : α → List Event} (h : ∀ x, Oks (f x)) : ∀ l : List α, Oks (l.flatMap f)
  | [] => Oks.nil
  | x :: l => by
    rw [List.flatMap_cons]
    exact Oks.app (h x) (flat_oks h l)
theorem emph_oks {α : Type} {star blank : α → Bool} {sh : α → List Event} (h : ∀ x, Oks (sh x)) : ∀ (n : Nat) (l : List α), Oks (emph star blank sh n l)
  | 0, _ => Oks.nil
  | _ + 1, [] => Oks.nil
  | n + 1, x :: r => by
    unfold emph
    split
    · cases r with
      | nil => exact h x
      | cons y q =>
        dsimp only
        split
        · exact Oks.app (Oks.app (Oks.app (Oks.one (ok_ev (by decide) (by decide) (by decide))) (flat_oks h _)) (Oks.one (ok_ev (by decide) (by decide) (by decide)))) (emph_oks h n _)
        · exact Oks.app (h x) (emph_oks h n _)
    · exact Oks.app (h x) (emph_oks h n _)
theorem piece_oks (p : Piece) : Oks p.events := by
  cases p with
  | tok t => exact tok_oks t
  | link l u => exact Oks.app (Oks.app (Oks.one (ok_ev (by decide) (by decide) (by decide))) (emph_oks tok_oks _ _)) (Oks.one (ok_ev (by decide) (by decide) (by decide)))
theorem tell_oks (ps : List Piece) : Oks (tellF ps) := emph_oks piece_oks _ _
theorem running_oks (t : Bytes) : Oks (running t) := tell_oks _
theorem leave_oks : ∀ o : Nat, Oks (leave o)
  | 0 => Oks.nil
  | o + 1 => Oks.app (Oks.cons (ok_ev (by decide) (by decide) (by decide)) (Oks.one (ok_ev (by decide) (by decide) (by decide)))) (leave_oks o)
def wt : List Event → Nat
  | [] => 0
  | e :: l => 1 + e.bytes.length + wt l
theorem wt_app : ∀ l m : List Event, wt (l ++ m) = wt l + wt m
  | [], m => by
    show wt m = 0 + wt m
    omega
  | e :: l, m => by
    show 1 + e.bytes.length + wt (l ++ m) = 1 + e.bytes.length + wt l + wt m
    rw [wt_app l m]
    omega
theorem wt_len : ∀ l : List Event, l.length ≤ wt l
  | [] => Nat.le_refl _
  | e :: l => by
    have := wt_len l
    show l.length + 1 ≤ 1 + e.bytes.length + wt l
    omega
theorem wt_mem : ∀ {l : List Event} {e : Event}, e ∈ l → 1 + e.bytes.length ≤ wt l
  | f :: l, e, h => by
    show 1 + e.bytes.length ≤ 1 + f.bytes.length + wt l
    cases h with
    | head => omega
    | tail _ h =>
      have := wt_mem h
      omega
theorem wt_push (es : List Event) (e : Event) : wt (push es e) ≤ wt es + wt [e] := by
  have h1 : wt [e] = 1 + e.bytes.length := rfl
  by_cases hq : es = []
  · subst hq
    show 1 + e.bytes.length + 0 ≤ 0 + wt [e]
    omega
  · obtain ⟨q', x, rfl⟩ : ∃ q' x, es = q' ++ [x] := ⟨es.dropLast, es.getLast hq, (List.dropLast_concat_getLast hq).symm⟩
    unfold push
    rw [List.getLast?_concat]
    dsimp only
    split
    · rw [List.dropLast_concat, wt_app, wt_app]
      have h2 : wt [({ x with bytes := x.bytes ++ e.bytes } : Event)] = 1 + (x.bytes ++ e.bytes).length := rfl
      have h3 : wt [x] = 1 + x.bytes.length := rfl
      rw [h2, h3, h1, List.length_append]
      omega
    · rw [wt_app]
      exact Nat.le_refl _
theorem wt_pushAll : ∀ (l es : List Event), wt (pushAll es l) ≤ wt es + wt l
  | [], es => Nat.le_refl _
  | e :: l, es => by
    rw [pushAll_cons]
    have h1 := wt_pushAll l (push es e)
    have h2 := wt_push es e
    have h3 : wt (e :: l) = wt [e] + wt l := by
      show 1 + e.bytes.length + wt l = 1 + e.bytes.length + 0 + wt l
      omega
    omega
def wtS {α : Type} (f : α → List Event) (l : List α) : Nat := wt (l.flatMap f)
theorem wtS_cons {α : Type} (f : α → List Event) (x : α) (l : List α) : wtS f (x :: l) = wt (f x) + wtS f l := by
  unfold wtS
  rw [List.flatMap_cons, wt_app]
theorem wtS_app {α : Type} (f : α → List Event) (l m : List α) : wtS f (l ++ m) = wtS f l + wtS f m := by
  unfold wtS
  rw [List.flatMap_append, wt_app]
theorem closing_lt {α : Type} {star blank : α → Bool} : ∀ {q : List α} {p : α} {j : Nat}, closing star blank p q = some j → ∃ x, q[j]? = some x ∧ star x = true
  | x :: q, p, j, h => by
    have h1 : (if star x = true ∧ blank p = false then some 0 else (closing star blank x q).map (· + 1)) = some j := h
    split at h1
    · rename_i c
      cases h1
      exact ⟨x, rfl, c.1⟩
    · cases e : closing star blank x q with
      | none => rw [e] at h1; cases h1
      | some i =>
        rw [e] at h1
        cases h1
        obtain ⟨y, h2, h3⟩ := closing_lt e
        exact ⟨y, h2, h3⟩
theorem emph_wt {α : Type} {star blank : α → Bool} {sh : α → List Event} (hs : ∀ x, star x = true → 1 ≤ wt (sh x)) : ∀ (n : Nat) (l : List α), wt (emph star blank sh n l) ≤ wtS sh l
  | 0, _ => Nat.zero_le _
  | _ + 1, [] => Nat.zero_le _
  | n + 1, x :: r => by
    have ih := emph_wt (blank := blank) hs n
    unfold emph
    split
    · rename_i hx
      cases r with
      | nil =>
        show wt (sh x) ≤ wtS sh [x]
        rw [wtS_cons]
        omega
      | cons y q =>
        dsimp only
        split
        · rename_i j hj
          split at hj
          · cases hj
          · obtain ⟨z, h2, h3⟩ := closing_lt hj
            have hd : q = q.take j ++ z :: q.drop (j + 1) := by
              rw [← drop_at h2, List.take_append_drop]
            have e1 : wtS sh (x :: y :: q) = wt (sh x) + (wt (sh y) + (wtS sh (q.take j) + (wt (sh z) + wtS sh (q.drop (j + 1))))) := by
              rw [wtS_cons, wtS_cons]
              conv => lhs; rw [hd]
              rw [wtS_app, wtS_cons]
            have e2 : wt ((y :: q.take j).flatMap sh) = wt (sh y) + wtS sh (q.take j) := wtS_cons sh y (q.take j)
            have a1 := hs x hx
            have a2 := hs z h3
            have a3 := ih (q.drop (j + 1))
            rw [wt_app, wt_app, wt_app, e1, e2]
            have a4 : wt [ev 13] = 1 := rfl
            have a5 : wt [ev 14] = 1 := rfl
            omega
        · rw [wt_app, wtS_cons]
          have := ih (y :: q)
          omega
    · rw [wt_app, wtS_cons]
      have := ih r
      omega
theorem star_tok (t : Tok) (h : t.isStar = true) : 1 ≤ wt t.events := by
  cases t <;> first | exact Bool.noConfusion h | decide
theorem star_piece (p : Piece) (h : p.isStar = true) : 1 ≤ wt p.events := by
  cases p with
  | tok t => exact star_tok t h
  | link l u => cases h
theorem tell_wt (ps : List Piece) : wt (tellF ps) ≤ wtS Piece.events ps := emph_wt star_piece _ _
theorem wtS_toks : ∀ l : List Tok, wtS Piece.events (l.map .tok) = wtS Tok.events l
  | [] => rfl
  | t :: l => by
    rw [List.map_cons, wtS_cons, wtS_cons, wtS_toks l]
    rfl
theorem url_wt : ∀ l : List Tok, (l.filterMap urlByte).length ≤ wtS Tok.events l
  | [] => Nat.le_refl _
  | t :: l => by
    have ih := url_wt l
    rw [wtS_cons, List.filterMap_cons]
    cases e : urlByte t with
    | none => dsimp only; omega
    | some c =>
      dsimp only
      rw [List.length_cons]
      have : 1 ≤ wt t.events := by
        cases t with
        | code b => cases e
        | _ => exact Nat.le_add_left 1 _
      omega
theorem links_wt : ∀ (n : Nat) (ts : List Tok), wtS Piece.events (links n ts) ≤ wtS Tok.events ts
  | 0, _ => Nat.zero_le _
  | _ + 1, [] => Nat.le_refl _
  | n + 1, t :: r => by
    have ih := links_wt n
    have go : ∀ x : Tok, wtS Piece.events (.tok x :: links n r) ≤ wtS Tok.events (x :: r) := fun x => by
      rw [wtS_cons, wtS_cons]
      have := ih r
      show wt x.events + _ ≤ _
      omega
    unfold links
    cases t with
    | lbr =>
      dsimp only
      cases e : linkAt r with
      | none => exact go _
      | some x =>
        obtain ⟨a, u, z⟩ := x
        dsimp only
        rw [wtS_cons, wtS_cons]
        have a1 := ih z
        have key : wtS Tok.events a + u.length + wtS Tok.events z + 3 ≤ wtS Tok.events r := by
          unfold linkAt at e
          dsimp only at e
          have e1 : r = (r.takeWhile fun t => !bracket t) ++ r.drop (r.takeWhile fun t => !bracket t).length := by
            conv => lhs; rw [← List.takeWhile_append_dropWhile (p := fun t => !bracket t) (l := r)]
            rw [dropWhile_drop]
          split at e
          · rename_i q hq
            have e2 : q = (q.takeWhile fun t => (urlByte t).isSome) ++ q.drop (q.takeWhile fun t => (urlByte t).isSome).length := by
              conv => lhs; rw [← List.takeWhile_append_dropWhile (p := fun t => (urlByte t).isSome) (l := q)]
              rw [dropWhile_drop]
            split at e
            · rename_i z' hz
              split at e
              · cases e
              · cases e
                rw [hq] at e1
                rw [hz] at e2
                have w1 := congrArg (wtS Tok.events) e1
                have w2 := congrArg (wtS Tok.events) e2
                rw [wtS_app, wtS_cons, wtS_cons] at w1
                rw [wtS_app, wtS_cons] at w2
                have w3 := url_wt (q.takeWhile fun t => (urlByte t).isSome)
                have w4 : wt (Tok.events .rbr) = 2 := rfl
                have w5 : wt (Tok.events (.ch 40)) = 2 := rfl
                have w6 : wt (Tok.events (.ch 41)) = 2 := rfl
                omega
            · cases e
          · cases e
        have a2 : wt (Piece.events (.link a u)) ≤ 1 + u.length + 0 + wtS Tok.events a + 1 := by
          rw [link_events, wt_app, wt_app]
          have b1 := tell_wt (a.map .tok)
          rw [wtS_toks] at b1
          have b2 : wt [(⟨15, 0, u⟩ : Event)] = 1 + u.length + 0 := rfl
          have b3 : wt [ev 16] = 1 := rfl
          omega
        have a3 : wt (Tok.events .lbr) = 2 := rfl
        omega
    | _ => exact go _
theorem lex_wt : ∀ (n : Nat) (t : Bytes), wtS Tok.events (lex n t) ≤ 2 * t.length
  | 0, _ => Nat.zero_le _
  | _ + 1, [] => Nat.le_refl _
  | n + 1, c :: r => by
    have ih := lex_wt n
    have h0 := ih r
    have go : ∀ x : Tok, wt x.events = 2 → wtS Tok.events (x :: lex n r) ≤ 2 * (c :: r).length := fun x hx => by
      rw [wtS_cons, hx, List.length_cons]
      omega
    unfold lex
    split
    · cases r with
      | nil => exact Nat.le_refl 2
      | cons x q =>
        dsimp only
        split
        · rw [wtS_cons, List.length_cons, List.length_cons]
          have := ih q
          have : wt (Tok.events (.lit x)) = 2 := rfl
          omega
        · exact go _ rfl
    · split
      · dsimp only
        split
        · rename_i hc
          rw [wtS_cons]
          have h1 := ih (r.drop ((r.takeWhile fun x => x != 96).length + 1))
          rw [List.length_drop] at h1
          have h2 : wt (Tok.events (.code (r.takeWhile fun x => x != 96))) = 1 + (r.takeWhile fun x => x != 96).length := rfl
          rw [h2, List.length_cons]
          have := hc.2
          omega
        · exact go _ rfl
      · split
        · exact go _ rfl
        · split
          · exact go _ rfl
          · split <;> exact go _ rfl
theorem running_wt (t : Bytes) : wt (running t) ≤ 2 * t.length := by
  rw [running_eq]
  refine Nat.le_trans (tell_wt _) (Nat.le_trans (links_wt _ _) (lex_wt _ _))
theorem leave_wt : ∀ o : Nat, wt (leave o) = 2 * o
  | 0 => rfl
  | o + 1 => by
    rw [leave_snoc, wt_app, leave_wt o]
    have : wt [ev 9, ev 7] = 2 := rfl
    omega
theorem lsum_drop : ∀ (k : Nat) (ls : List Bytes), lsum (ls.take k) + lsum (ls.drop k) = lsum ls
  | 0, ls => by
    show 0 + lsum ls = lsum ls
    omega
  | k + 1, [] => rfl
  | k + 1, l :: ls => by
    have := lsum_drop k ls
    show l.length + 1 + lsum (ls.take k) + lsum (ls.drop k) = l.length + 1 + lsum ls
    omega
theorem plains_sum : ∀ ls : List Bytes, lsum (plains ls) ≤ lsum (ls.take (plains ls).length)
  | [] => Nat.le_refl _
  | l :: ls => by
    have ih := plains_sum ls
    unfold plains
    have hl := textL_le l
    split
    · rename_i t e
      rw [e] at hl
      show t.length + 1 + lsum (plains ls) ≤ lsum ((l :: ls).take ((plains ls).length + 1))
      rw [List.take_succ_cons]
      show _ ≤ l.length + 1 + lsum (ls.take (plains ls).length)
      have : t.length ≤ l.length := hl
      omega
    · exact Nat.zero_le _
theorem shl_oks_wt : ∀ (n o : Nat) (ls : List Bytes), ls.length ≤ n → Oks (shl o ls) ∧ wt (shl o ls) ≤ 2 * o + 6 * lsum ls
  | 0, o, ls, h => by
    obtain rfl : ls = [] := List.eq_nil_of_length_eq_zero (by omega)
    rw [shl_nil, leave_wt]
    exact ⟨leave_oks o, Nat.le_add_right _ _⟩
  | n + 1, o, [], h => by
    rw [shl_nil, leave_wt]
    exact ⟨leave_oks o, Nat.le_add_right _ _⟩
  | n + 1, o, l :: ls, h => by
    have h' : ls.length ≤ n := Nat.le_of_succ_le_succ h
    have hs : lsum (l :: ls) = l.length + 1 + lsum ls := rfl
    have hd : ∀ o k, Oks (shl o (ls.drop k)) ∧ wt (shl o (ls.drop k)) ≤ 2 * o + 6 * lsum (ls.drop k) := fun o k => shl_oks_wt n o _ (by rw [List.length_drop]; omega)
    have h0 := fun o => shl_oks_wt n o ls h'
    have hp := plains_sum ls
    have hpd := lsum_drop (plains ls).length ls
    have hj : ∀ t, (join (t :: plains ls)).length ≤ t.length + 1 + lsum (plains ls) := fun t => join_len (t :: plains ls)
    rcases line_cases l with ⟨e, _⟩ | ⟨t, e, ht⟩ | ⟨k, t, e, ht, hk⟩ | ⟨d, t, e, ht, _⟩ | ⟨t, e, ht⟩
    · rw [shl_blank e]
      refine ⟨(h0 o).1, ?_⟩
      have := (h0 o).2
      omega
    · rw [shl_fence e]
      obtain ⟨b1, b2⟩ := hd 0 ((fbody ls).length + 1)
      have hb : Oks ((fbody ls).map fun l => (⟨11, 0, l⟩ : Event)) := fun x hx => by
        obtain ⟨y, _, rfl⟩ := List.mem_map.mp hx
        exact ok_ev (by decide) (by decide) (by decide)
      refine ⟨Oks.app (Oks.app (Oks.app (Oks.app (leave_oks o) (Oks.one (ok_ev (by decide) (by decide) (by decide)))) hb) (Oks.one (ok_ev (by decide) (by decide) (by decide)))) b1, ?_⟩
      rw [wt_app, wt_app, wt_app, wt_app, leave_wt]
      have w1 : ∀ m : List Bytes, wt (m.map fun l => (⟨11, 0, l⟩ : Event)) = lsum m := fun m => by
        induction m with
        | nil => rfl
        | cons x m ih =>
          show 1 + x.length + wt (m.map fun l => (⟨11, 0, l⟩ : Event)) = x.length + 1 + lsum m
          rw [ih]
          omega
      have w2 : wt [(⟨10, 0, t⟩ : Event)] = 1 + t.length + 0 := rfl
      have w3 : wt [ev 12] = 1 := rfl
      have w4 := lsum_drop ((fbody ls).length + 1) ls
      have w5 : lsum (fbody ls) ≤ lsum (ls.take ((fbody ls).length + 1)) := by
        have e1 : fbody ls = ls.take (fbody ls).length := List.prefix_iff_eq_take.mp (List.takeWhile_prefix _)
        have e2 := lsum_drop (fbody ls).length (ls.take ((fbody ls).length + 1))
        rw [List.take_take, Nat.min_eq_left (Nat.le_succ _), ← e1] at e2
        omega
      rw [w1]
      omega
    · rw [shl_heading e]
      obtain ⟨b1, b2⟩ := h0 0
      have hh : ∀ x, x = 4 ∨ x = 5 → Ok1 ⟨x, k, []⟩ := fun x hx => ⟨by show x ≤ 16; omega, fun _ => hk, fun z => by have : x = 0 := z; omega⟩
      refine ⟨Oks.app (Oks.app (Oks.app (Oks.app (leave_oks o) (Oks.one (hh 4 (.inl rfl)))) (running_oks t)) (Oks.one (hh 5 (.inr rfl)))) b1, ?_⟩
      rw [wt_app, wt_app, wt_app, wt_app, leave_wt]
      have w1 := running_wt t
      have w2 : wt [(⟨4, k, []⟩ : Event)] = 1 := rfl
      have w3 : wt [(⟨5, k, []⟩ : Event)] = 1 := rfl
      omega
    · rw [shl_item e]
      obtain ⟨b1, b2⟩ := hd (min d o + 1) (plains ls).length
      have w1 := running_wt (join (t :: plains ls))
      have w2 := hj t
      refine ⟨Oks.app (Oks.app ?_ (running_oks _)) b1, ?_⟩
      · split
        · exact Oks.cons (ok_ev (by decide) (by decide) (by decide)) (Oks.one (ok_ev (by decide) (by decide) (by decide)))
        · exact Oks.app (leave_oks _) (Oks.cons (ok_ev (by decide) (by decide) (by decide)) (Oks.one (ok_ev (by decide) (by decide) (by decide))))
      · rw [wt_app, wt_app]
        have w3 : wt [ev 6, ev 8] = 2 := rfl
        have w4 : wt [ev 9, ev 8] = 2 := rfl
        split
        · rename_i c
          rw [Nat.min_eq_right c] at b2 ⊢
          omega
        · rename_i c
          rw [Nat.min_eq_left (by omega)] at b2 ⊢
          rw [wt_app, leave_wt]
          omega
    · rw [shl_plain e]
      obtain ⟨b1, b2⟩ := hd 0 (plains ls).length
      have w1 := running_wt (join (t :: plains ls))
      have w2 := hj t
      refine ⟨Oks.app (Oks.app (Oks.app (Oks.app (leave_oks o) (Oks.one (ok_ev (by decide) (by decide) (by decide)))) (running_oks _)) (Oks.one (ok_ev (by decide) (by decide) (by decide)))) b1, ?_⟩
      rw [wt_app, wt_app, wt_app, wt_app, leave_wt]
      have w3 : wt [ev 2] = 1 := rfl
      have w4 : wt [ev 3] = 1 := rfl
      omega
theorem events_eq (t : Bytes) : events t = pushAll [] (shl 0 (lines t)) := by
  rw [merge_push (shl_oks_wt _ 0 (lines t) (Nat.le_refl _)).1.zs]
  rfl
theorem events_oks (t : Bytes) : Oks (events t) := by
  rw [events_eq]
  exact pushAll_oks Oks.nil (shl_oks_wt _ 0 (lines t) (Nat.le_refl _)).1
theorem shl_wt (t : Bytes) : wt (shl 0 (lines t)) ≤ 6 * (t.length + 1) := by
  have := (shl_oks_wt _ 0 (lines t) (Nat.le_refl _)).2
  rw [lines_sum] at this
  omega
theorem events_wt (t : Bytes) : wt (events t) ≤ 6 * (t.length + 1) := by
  rw [events_eq]
  have h1 := wt_pushAll (shl 0 (lines t)) []
  have h2 := shl_wt t
  have h3 : wt [] = 0 := rfl
  omega
end MA
set_option autoImplicit false
namespace MA
open Ml
theorem linkAt_text {r : List Tok} {a : List Tok} {u : Bytes} {z : List Tok} (h : linkAt r = some (a, u, z)) : a.length ≤ r.length := by
  unfold linkAt at h
  dsimp only at h
  split at h
  · split at h
    · split at h
      · cases h
      · cases h
        exact (List.takeWhile_sublist _).length_le
    · cases h
  · cases h
theorem links_len : ∀ (n : Nat) (ts : List Tok), (links n ts).length ≤ ts.length ∧ ∀ l u, Piece.link l u ∈ links n ts → l.length ≤ ts.length
  | 0, _ => ⟨Nat.zero_le _, fun l u h => by cases h⟩
  | _ + 1, [] => ⟨Nat.le_refl _, fun l u h => by cases h⟩
  | n + 1, t :: r => by
    have ih := links_len n
    have go : ∀ x : Tok, (Piece.tok x :: links n r).length ≤ (x :: r).length ∧ ∀ l u, Piece.link l u ∈ Piece.tok x :: links n r → l.length ≤ (x :: r).length := fun x => by
      refine ⟨Nat.succ_le_succ (ih r).1, fun l u h => ?_⟩
      cases h with
      | tail _ h =>
        have := (ih r).2 l u h
        rw [List.length_cons]
        omega
    unfold links
    cases t with
    | lbr =>
      dsimp only
      cases e : linkAt r with
      | none => exact go _
      | some x =>
        obtain ⟨a, u, z⟩ := x
        dsimp only
        have h1 := linkAt_len e
        have h2 := linkAt_text e
        refine ⟨?_, fun l u' h => ?_⟩
        · rw [List.length_cons, List.length_cons]
          have := (ih z).1
          omega
        · rw [List.length_cons]
          cases h with
          | head => omega
          | tail _ h =>
            have := (ih z).2 l u' h
            omega
    | _ => exact go _
end MA
set_option autoImplicit false
namespace MA
open Ml
def iz (b : Bytes) : List Int := b.map fun (c : UInt8) => (c.toNat : Int)
theorem iz_text : ∀ {r : List Int}, (∀ z ∈ r, 0 ≤ z ∧ z ≤ 255) → iz (MarkNeutral.text r) = r
  | [], _ => rfl
  | z :: r, h => by
    have h1 := h z (List.mem_cons_self ..)
    have h2 := iz_text (r := r) fun y hy => h y (List.mem_cons_of_mem _ hy)
    show ((UInt8.ofNat z.toNat).toNat : Int) :: iz (MarkNeutral.text r) = z :: r
    rw [h2, UInt8.toNat_ofNat']
    congr 1
    omega
def RowOf (b : Bytes) (r t : List Int) : Prop := r = (b.length : Int) :: (iz b ++ t) ∧ b.length ≤ 17000
def Dec (p : Int) (r t : List Int) : Mark.Call → Prop
  | .begin_ => p = 1 ∧ r = t
  | .feed b => p = 2 ∧ RowOf b r t
  | .end_ => p = 3 ∧ r = t
  | .event i => p = 4 ∧ r = (i : Int) :: t
  | .html => p = 5 ∧ r = t
  | .all b => p = 6 ∧ RowOf b r t
  | .lines b => p = 7 ∧ RowOf b r t
theorem row_dec {r x t : List Int} {m : Nat} (h : PyFlat.row r = some (x, t)) (hm : m ≤ 17000) (hb : PyInside.lists [(0, 255, 0, m)] [x] = true) : RowOf (MarkNeutral.text x) r t := by
  cases r with
  | nil => cases h
  | cons n r =>
    have h1 : (if 0 ≤ n ∧ n.toNat ≤ r.length then some (r.take n.toNat, r.drop n.toNat) else none) = some (x, t) := h
    split at h1
    · rename_i hc
      have h2 := Option.some.inj h1
      have e1 : r.take n.toNat = x := congrArg Prod.fst h2
      have e2 : r.drop n.toNat = t := congrArg Prod.snd h2
      have hb' : (decide (0 ≤ x.length) && decide (x.length ≤ m) && x.all (PyInside.within 0 255) && true) = true := hb
      rw [Bool.and_true, Bool.and_eq_true, Bool.and_eq_true] at hb'
      obtain ⟨⟨_, b1⟩, b2⟩ := hb'
      have b1 := of_decide_eq_true b1
      have hx : ∀ z ∈ x, 0 ≤ z ∧ z ≤ 255 := fun z hz => by
        have h3 := List.all_eq_true.mp b2 z hz
        have h4 : (decide (0 ≤ z) && decide (z ≤ 255)) = true := h3
        rw [Bool.and_eq_true] at h4
        exact ⟨of_decide_eq_true h4.1, of_decide_eq_true h4.2⟩
      have hlen : (MarkNeutral.text x).length = x.length := by
        unfold MarkNeutral.text MarkNeutral.nats
        rw [List.length_map, List.length_map]
      have hxl : x.length = n.toNat := by
        rw [← e1, List.length_take]
        omega
      refine ⟨?_, by omega⟩
      rw [iz_text hx, hlen, hxl, ← e1, ← e2, List.take_append_drop]
      congr 1
      omega
    · cases h1
theorem dec {p : Int} {r t : List Int} {c : List (List Int)} (h : PyFlat.call PyWqagaf.shape (p :: r) = some (c, t)) (hb : PyInside.call PyWqagaf.bound c = true) : ∃ mc, Dec p r t mc ∧ ∀ s, MarkNeutral.step s (PyWqagaf.whole c) = Mark.step s mc := by
  have h0 : (match PyWqagaf.shape p with
    | none => none
    | some (n, k) => if r.length < n then none else match PyFlat.rows k (r.drop n) with
      | none => none
      | some (xs, t) => some ((p :: r.take n) :: xs, t)) = some (c, t) := h
  clear h
  have one : ∀ {x y : List Int}, (match PyFlat.rows 1 r with
      | none => none
      | some (xs, t) => some ([p] :: xs, t)) = some (c, t) → ∃ x, PyFlat.row r = some (x, t) ∧ c = [[p], x] := fun {_ _} h => by
    have h2 : PyFlat.rows 1 r = match PyFlat.row r with
      | none => none
      | some (x, s) => some ([x], s) := rfl
    rw [h2] at h
    cases e : PyFlat.row r with
    | none => rw [e] at h; cases h
    | some x =>
      rw [e] at h
      have h3 := Option.some.inj h
      have e1 : [[p], x.1] = c := congrArg Prod.fst h3
      have e2 : x.2 = t := congrArg Prod.snd h3
      exact ⟨x.1, by rw [← e2], e1.symm⟩
  by_cases p1 : p = 1
  · subst p1
    have h1 : some ([[(1 : Int)]], r) = some (c, t) := h0
    have h2 := Option.some.inj h1
    have e1 : [[(1 : Int)]] = c := congrArg Prod.fst h2
    have e2 : r = t := congrArg Prod.snd h2
    subst e1
    exact ⟨.begin_, ⟨rfl, e2⟩, fun s => rfl⟩
  by_cases p2 : p = 2
  · subst p2
    obtain ⟨x, hx, rfl⟩ := one (x := []) (y := []) h0
    exact ⟨.feed (MarkNeutral.text x), ⟨rfl, row_dec (m := 17000) hx (by omega) hb⟩, fun s => rfl⟩
  by_cases p3 : p = 3
  · subst p3
    have h1 : some ([[(3 : Int)]], r) = some (c, t) := h0
    have h2 := Option.some.inj h1
    have e1 : [[(3 : Int)]] = c := congrArg Prod.fst h2
    have e2 : r = t := congrArg Prod.snd h2
    subst e1
    exact ⟨.end_, ⟨rfl, e2⟩, fun s => rfl⟩
  by_cases p4 : p = 4
  · subst p4
    cases r with
    | nil => cases h0
    | cons i r =>
      have h1 : some ([[(4 : Int), i]], r) = some (c, t) := h0
      have h2 := Option.some.inj h1
      have e1 : [[(4 : Int), i]] = c := congrArg Prod.fst h2
      have e2 : r = t := congrArg Prod.snd h2
      subst e1
      have hb' : (PyInside.within 0 4294967295 i && true && true) = true := hb
      rw [Bool.and_true, Bool.and_true] at hb'
      have h4 : (decide (0 ≤ i) && decide (i ≤ 4294967295)) = true := hb'
      rw [Bool.and_eq_true] at h4
      have hi := of_decide_eq_true h4.1
      refine ⟨.event i.toNat, ⟨rfl, ?_⟩, fun s => rfl⟩
      rw [e2]
      congr 1
      omega
  by_cases p5 : p = 5
  · subst p5
    have h1 : some ([[(5 : Int)]], r) = some (c, t) := h0
    have h2 := Option.some.inj h1
    have e1 : [[(5 : Int)]] = c := congrArg Prod.fst h2
    have e2 : r = t := congrArg Prod.snd h2
    subst e1
    exact ⟨.html, ⟨rfl, e2⟩, fun s => rfl⟩
  by_cases p6 : p = 6
  · subst p6
    obtain ⟨x, hx, rfl⟩ := one (x := []) (y := []) h0
    exact ⟨.all (MarkNeutral.text x), ⟨rfl, row_dec (m := 2200) hx (by omega) hb⟩, fun s => rfl⟩
  by_cases p7 : p = 7
  · subst p7
    obtain ⟨x, hx, rfl⟩ := one (x := []) (y := []) h0
    exact ⟨.lines (MarkNeutral.text x), ⟨rfl, row_dec (m := 2200) hx (by omega) hb⟩, fun s => rfl⟩
  have hs : PyWqagaf.shape p = none := by
    unfold PyWqagaf.shape
    rw [if_neg p1, if_neg p2, if_neg p3, if_neg p4, if_neg p5, if_neg p6, if_neg p7]
  rw [hs] at h0
  cases h0
def Rest (l rest out : List Int) (s : Mark.State) : Prop := ∃ f raw, PyFlat.calls PyWqagaf.shape f rest = some raw ∧ (∀ c ∈ raw, PyInside.call PyWqagaf.bound c = true) ∧ PyWqagaf.answers l = out ++ PyFlat.told (PyFlat.played MarkNeutral.step s (raw.map PyWqagaf.whole))
theorem Rest.init {l : List Int} (h : PyWqagaf.answers_asked l = true) : Rest l l [] Mark.start ∧ (PyWqagaf.answers l).length ≤ 10000000 := by
  unfold PyWqagaf.answers_asked at h
  cases e : PyFlat.calls PyWqagaf.shape l.length l with
  | none => rw [e] at h; cases h
  | some raw =>
    rw [e] at h
    dsimp only at h
    rw [Bool.and_eq_true, Bool.and_eq_true, Bool.and_eq_true, Bool.and_eq_true] at h
    obtain ⟨⟨⟨⟨_, _⟩, h3⟩, _⟩, h5⟩ := h
    refine ⟨⟨_, raw, e, fun c hc => List.all_eq_true.mp h3 c hc, ?_⟩, of_decide_eq_true h5⟩
    unfold PyWqagaf.answers PyWqagaf.calls
    rw [e]
    rfl
theorem Rest.done {l out : List Int} {s : Mark.State} (h : Rest l [] out s) : PyWqagaf.answers l = out := by
  obtain ⟨f, raw, h1, h2, h3⟩ := h
  have : raw = [] := by
    cases f <;> exact (Option.some.inj h1).symm
  subst this
  rw [h3]
  show out ++ [] = out
  rw [List.append_nil]
theorem Rest.step {l r out : List Int} {p : Int} {s : Mark.State} (h : Rest l (p :: r) out s) : ∃ t mc, Dec p r t mc ∧ Rest l t (out ++ (((Mark.step s mc).2.length : Int) :: (Mark.step s mc).2)) (Mark.step s mc).1 ∧ (out ++ (((Mark.step s mc).2.length : Int) :: (Mark.step s mc).2)).length ≤ (PyWqagaf.answers l).length := by
  obtain ⟨f, raw, h1, h2, h3⟩ := h
  cases f with
  | zero => cases h1
  | succ f =>
    have h1' : (match PyFlat.call PyWqagaf.shape (p :: r) with
      | none => none
      | some (c, t) => match PyFlat.calls PyWqagaf.shape f t with
        | none => none
        | some cs => some (c :: cs)) = some raw := h1
    cases e : PyFlat.call PyWqagaf.shape (p :: r) with
    | none => rw [e] at h1'; cases h1'
    | some ct =>
      obtain ⟨c, t⟩ := ct
      rw [e] at h1'
      dsimp only at h1'
      cases e2 : PyFlat.calls PyWqagaf.shape f t with
      | none => rw [e2] at h1'; cases h1'
      | some cs =>
        rw [e2] at h1'
        have e3 := Option.some.inj h1'
        subst e3
        obtain ⟨mc, hd, hst⟩ := dec e (h2 c (List.mem_cons_self ..))
        have h4 : PyWqagaf.answers l = out ++ (((Mark.step s mc).2.length : Int) :: (Mark.step s mc).2) ++ PyFlat.told (PyFlat.played MarkNeutral.step (Mark.step s mc).1 (cs.map PyWqagaf.whole)) := by
          rw [h3, List.append_assoc]
          congr 1
          rw [List.map_cons]
          show PyFlat.told ((MarkNeutral.step s (PyWqagaf.whole c)).2 :: PyFlat.played MarkNeutral.step (MarkNeutral.step s (PyWqagaf.whole c)).1 (cs.map PyWqagaf.whole)) = _
          rw [hst s]
          unfold PyFlat.told
          rw [List.flatMap_cons]
        refine ⟨t, mc, hd, ⟨f, cs, e2, fun c hc => h2 c (List.mem_cons_of_mem _ hc), h4⟩, ?_⟩
        rw [h4]
        generalize out ++ (((Mark.step s mc).2.length : Int) :: (Mark.step s mc).2) = a
        rw [List.length_append]
        omega
end MA
set_option Elab.async false
set_option linter.all false
set_option maxRecDepth 100000
set_option maxHeartbeats 4000000
namespace Mk
open PySem PySem.Spec PyProof.Rows L2
def top (i : Nat) : Stmt := PySem.Challenge.pw_marklite_s01_answers.main.body.getD i (.Pass ⟨0, 0, 0, 0⟩)
abbrev s_Line_init : Stmt := inClass (top 14) 0
abbrev s_is_blank : Stmt := top 15
abbrev s_is_space : Stmt := top 16
abbrev s_trimmed : Stmt := top 17
abbrev s_many_ahead : Stmt := top 18
abbrev s_ends_or_blank : Stmt := top 19
abbrev s_is_fence : Stmt := top 20
abbrev s_ends_code : Stmt := top 21
abbrev s_line_of : Stmt := top 22
abbrev s_lines_of : Stmt := top 23
abbrev s_Thing_init : Stmt := inClass (top 36) 0
abbrev s_is_sign : Stmt := top 37
abbrev s_byte_thing : Stmt := top 38
abbrev s_next_backquote : Stmt := top 39
abbrev s_first_things : Stmt := top 40
abbrev s_is_mark : Stmt := top 41
abbrev s_is_plain : Stmt := top 42
abbrev s_is_bracket : Stmt := top 43
abbrev s_brackets_ahead : Stmt := top 44
abbrev s_may_be_in_address : Stmt := top 45
abbrev s_address_end : Stmt := top 46
abbrev s_link_at : Stmt := top 47
abbrev s_linked : Stmt := top 48
abbrev s_is_space_thing : Stmt := top 49
abbrev s_ends_ahead : Stmt := top 50
abbrev s_emphasis_at : Stmt := top 51
abbrev s_running_things : Stmt := top 52
abbrev s_Teller_init : Stmt := inClass (top 71) 0
abbrev s_Teller_tell : Stmt := inClass (top 71) 1
abbrev s_Teller_tell_bytes : Stmt := inClass (top 71) 2
abbrev s_tell_plain : Stmt := top 72
abbrev s_tell_things : Stmt := top 73
abbrev s_tell_running : Stmt := top 74
abbrev s_close_items : Stmt := top 75
abbrev s_tell_item : Stmt := top 76
abbrev s_code_end : Stmt := top 77
abbrev s_tell_code : Stmt := top 78
abbrev s_plain_end : Stmt := top 79
abbrev s_joined_texts : Stmt := top 80
abbrev s_tell_heading : Stmt := top 81
abbrev s_tell_block : Stmt := top 82
abbrev s_events_of : Stmt := top 83
abbrev s_bytes_of : Stmt := top 87
abbrev s_safe : Stmt := top 88
abbrev s_event_page : Stmt := top 89
abbrev s_page_of : Stmt := top 90
abbrev s_Text_init : Stmt := inClass (top 99) 0
abbrev s_listed : Stmt := top 100
abbrev s_begin : Stmt := top 101
abbrev s_feed : Stmt := top 102
abbrev s_end : Stmt := top 103
abbrev s_event_told : Stmt := top 104
abbrev s_event : Stmt := top 105
abbrev s_html : Stmt := top 106
abbrev s_every : Stmt := top 107
abbrev s_line_told : Stmt := top 108
abbrev s_told_lines : Stmt := top 109
abbrev s_answers : Stmt := top 111
end Mk
set_option Elab.async false
set_option linter.all false
set_option maxRecDepth 100000
set_option maxHeartbeats 4000000
namespace Mk
open PySem PySem.Spec PyProof.Rows L2 C8
def rEqE (K : PySem.W.Frag) : R2 := fun x y H Q => ∃ a b xs, x = .ref a ∧ y = .ref b ∧ SqL K H a xs ∧ SqL K H b [] ∧ Q (.bl xs.isEmpty) H
def rNeE (K : PySem.W.Frag) : R2 := fun x y H Q => ∃ a b xs, x = .ref a ∧ y = .ref b ∧ SqL K H a xs ∧ SqL K H b [] ∧ Q (.bl (!xs.isEmpty)) H
section
variable {X : Cx}
theorem op_eqE (hu : X.A.units < cLine) : OpR X (compareOp .Eq) (rEqE X.K) := by
  intro pins s σ H x y v u Q I rx ry h
  obtain ⟨a, b, xs, rfl, rfl, hx, hy, q⟩ := h
  cases rx
  cases ry
  obtain ⟨its, r1, p1, _⟩ := I.list hx
  obtain ⟨its2, r2, p2, _⟩ := I.list hy
  cases r2
  cases r1 with
  | nil => exact SeqAt.RcAt.lists p1.isList p2.isList rfl hu (e := fun _ => true) (fun j h1 _ => absurd h1 (Nat.not_lt_zero _)) _ _ _ _ ⟨.bl true, H, I, rfl, q⟩
  | cons h1 h2 => exact SeqAt.RcAt.lists_lengths p1.isList p2.isList (by simp) hu _ _ _ _ ⟨.bl false, H, I, rfl, q⟩
theorem op_neE (hu : X.A.units < cLine) : OpR X (compareOp .NotEq) (rNeE X.K) := by
  intro pins s σ H x y v u Q I rx ry h
  obtain ⟨a, b, xs, rfl, rfl, hx, hy, q⟩ := h
  cases rx
  cases ry
  obtain ⟨its, r1, p1, _⟩ := I.list hx
  obtain ⟨its2, r2, p2, _⟩ := I.list hy
  cases r2
  cases r1 with
  | nil => exact SeqAt.RcNeAt.lists p1.isList p2.isList rfl hu (e := fun _ => true) (fun j h1 _ => absurd h1 (Nat.not_lt_zero _)) _ _ _ _ ⟨.bl false, H, I, rfl, q⟩
  | cons h1 h2 => exact SeqAt.RcNeAt.lists_lengths p1.isList p2.isList (by simp) hu _ _ _ _ ⟨.bl true, H, I, rfl, q⟩
def rEqL (K : PySem.W.Frag) : R2 := fun x y H Q => ∃ (a b : Addr) (ns ms : List Int), x = .ref a ∧ y = .ref b ∧ SqL K H a (ns.map V.int) ∧ SqL K H b (ms.map V.int) ∧ Q (.bl (decide (ns = ms))) H
theorem op_eqL (hu : X.A.units + 64 < cLine) : OpR X (compareOp .Eq) (rEqL X.K) := by
  intro pins s σ H x y v u Q I rx ry h
  obtain ⟨a, b, ns, ms, rfl, rfl, hx, hy, q⟩ := h
  cases rx
  cases ry
  obtain ⟨its, r1, p1, _⟩ := I.list hx
  obtain ⟨its2, r2, p2, _⟩ := I.list hy
  exact PySem.W.eq_intsK p1.isList (ints_vals r1) p2.isList (ints_vals r2) hu ⟨.bl _, H, I, rfl, q⟩
end
def entB (e : DictEntry) (q : Int × Str) : Bool := decide (e.hash = hashInt q.1) && ((match e.key with
  | .int i _ => decide (i = q.1)
  | _ => false) && (match e.val with
  | .str x _ => decide (x = q.2)
  | _ => false))
def entsB : List DictEntry → List (Int × Str) → Bool
  | [], [] => true
  | e :: es, q :: qs => entB e q && entsB es qs
  | _, _ => false
def dictB (K : PySem.W.Frag) (x : Str) (kvs : List (Int × Str)) : Bool := match K.lookup (He.ga K x) with
  | some ⟨.type c, none, .dict es _, sl⟩ => decide (c = "dict") && (sl.isEmpty && (!(He.ga K x == sysModules) && entsB es.toList kvs))
  | _ => false
theorem ent_ok {e : DictEntry} {q : Int × Str} (h : entB e q = true) : e.hash = hashInt q.1 ∧ (∃ t, e.key = .int q.1 t) ∧ ∃ t, e.val = .str q.2 t := by
  unfold entB at h
  rw [Bool.and_eq_true, Bool.and_eq_true] at h
  obtain ⟨h1, h2, h3⟩ := h
  refine ⟨of_decide_eq_true h1, ?_, ?_⟩
  · split at h2
    · rename_i i t e1
      rw [e1, of_decide_eq_true h2]
      exact ⟨_, rfl⟩
    · cases h2
  · split at h3
    · rename_i i t e1
      rw [e1, of_decide_eq_true h3]
      exact ⟨_, rfl⟩
    · cases h3
theorem ents_all : ∀ {es : List DictEntry} {qs : List (Int × Str)}, entsB es qs = true → ∀ e ∈ es, ∃ k t, e.key = .int k t ∧ e.hash = hashInt k
  | [], _, _, e, he => by cases he
  | d :: es, [], h, _, _ => by cases h
  | d :: es, q :: qs, h, e, he => by
    have h1 : (entB d q && entsB es qs) = true := h
    rw [Bool.and_eq_true] at h1
    cases he with
    | head =>
      obtain ⟨a, ⟨t, b⟩, _⟩ := ent_ok h1.1
      exact ⟨q.1, t, b, a⟩
    | tail _ he => exact ents_all h1.2 e he
theorem ents_find : ∀ {es : List DictEntry} {qs : List (Int × Str)}, entsB es qs = true → ∀ k : Int, match qs.lookup k with
    | some z => ∃ t, (es.find? fun e => Value.isInt k e.key).map (·.val) = some (.str z t)
    | none => (es.find? fun e => Value.isInt k e.key).map (·.val) = none
  | [], [], _, k => rfl
  | d :: es, [], h, _ => by cases h
  | [], q :: qs, h, _ => by cases h
  | d :: es, q :: qs, h, k => by
    have h1 : (entB d q && entsB es qs) = true := h
    rw [Bool.and_eq_true] at h1
    obtain ⟨_, ⟨t, b⟩, ⟨t', c⟩⟩ := ent_ok h1.1
    obtain ⟨k1, z⟩ := q
    rw [List.find?_cons, b]
    have e1 : Value.isInt k (.int k1 t) = (k == k1) := by
      have : Value.isInt k (.int k1 t) = (k1 == k) := rfl
      rw [this]
      exact BEq.comm
    rw [e1]
    by_cases hk : k = k1
    · subst hk
      simp only [List.lookup, beq_self_eq_true]
      exact ⟨t', congrArg some c⟩
    · have e2 : (k == k1) = false := beq_eq_false_iff_ne.mpr hk
      simp only [List.lookup, e2]
      exact ents_find h1.2 k
structure IDict (K : PySem.W.Frag) (a : Addr) (kvs : List (Int × Str)) : Prop where
  ex : ∃ es n, K.lookup a = some ⟨.type "dict", none, .dict es n, #[]⟩ ∧ entsB es.toList kvs = true
  low : (a == sysModules) = false
theorem dictB_ok {K : PySem.W.Frag} {x : Str} {kvs : List (Int × Str)} (h : dictB K x kvs = true) : IDict K (He.ga K x) kvs := by
  unfold dictB at h
  split at h
  · rename_i c es n sl e
    rw [Bool.and_eq_true, Bool.and_eq_true, Bool.and_eq_true] at h
    obtain ⟨h1, h2, h3, h4⟩ := h
    have e1 := of_decide_eq_true h1
    subst e1
    have e2 : sl = #[] := by simpa using h2
    subst e2
    refine ⟨⟨es, n, e, h4⟩, ?_⟩
    cases q : (He.ga K x == sysModules) with
    | false => rfl
    | true => rw [q] at h3; cases h3
  · cases h
section
variable {X : Cx} {a : Addr} {kvs : List (Int × Str)}
theorem IDict.map {h : Heap} (D : IDict X.K a kvs) (KX : X.K.In h) : ∃ f, h.MapOf (intKind X.prog X.w) a f ∧ ∀ k, match kvs.lookup k with
    | some z => ∃ t, f k = some (.str z t)
    | none => f k = none := by
  obtain ⟨es, n, hl, he⟩ := D.ex
  refine ⟨fun k => findBy Value.isInt es k, ⟨_, es, n, KX _ _ hl, ⟨rfl, rfl, rfl⟩, rfl, fun e hm => ?_, fun _ => rfl⟩, fun k => ?_⟩
  · obtain ⟨k, t, e1, e2⟩ := ents_all he e (Array.mem_toList_iff.mpr hm)
    exact ⟨k, by rw [e1]; exact intKind_is X.prog X.w k t, e2⟩
  · obtain ⟨l⟩ := es
    have := ents_find he k
    have e : findBy Value.isInt ⟨l⟩ k = (l.find? fun e => Value.isInt k e.key).map (·.val) := by
      unfold findBy
      rw [← List.find?_toArray]
    dsimp only
    rw [e]
    exact this
def rInI (K : PySem.W.Frag) : R2 := fun x y H Q => ∃ i a kvs, x = .int i ∧ y = .ref a ∧ IDict K a kvs ∧ Q (.bl (kvs.lookup i).isSome) H
theorem op_inI : OpR X (compareOp .In) (rInI X.K) := by
  intro pins s σ H x y v u Q I rx ry h
  obtain ⟨i, a, kvs, rfl, rfl, D, q⟩ := h
  obtain ⟨t, rfl⟩ := rx
  cases ry
  obtain ⟨f, hm, hf⟩ := D.map I.kIn
  refine wpAny_in_of (intKind_is X.prog X.w i t) D.low hm ?_
  have e : (f i).isSome = (kvs.lookup i).isSome := by
    have := hf i
    split at this
    · rename_i z e1
      obtain ⟨t, e2⟩ := this
      rw [e2, e1] <;> rfl
    · rename_i e1
      rw [this, e1] <;> rfl
  rw [e]
  exact ⟨.bl _, H, I.tok _, rfl, q⟩
def rIxI (K : PySem.W.Frag) : R2 := fun x y H Q => ∃ i a kvs z, x = .ref a ∧ y = .int i ∧ IDict K a kvs ∧ kvs.lookup i = some z ∧ Q (.str z) H
theorem ix_idict : IxR X (rIxI X.K) := by
  intro value slice pins s σ H x y v u Q I rx ry h hs
  obtain ⟨i, a, kvs, z, rfl, rfl, D, hz, q⟩ := h
  obtain rfl : v = Value.ref a := rx
  obtain ⟨t, rfl⟩ := ry
  obtain ⟨f, hm, hf⟩ := D.map I.kIn
  have e := hf i
  rw [hz] at e
  obtain ⟨t', e⟩ := e
  exact tail_any hm.typeIs slot_dict_getitem.lookup (wpAny_getItem_of (intKind_is X.prog X.w i t) hm e ⟨.str z, H, I.tok _, ⟨t', rfl⟩, q⟩) hs
end
structure HeldAt (P : Program) (w : World) (K : PySem.W.Frag) (mg : Str → Option Value) (base : Heap) (k : Nat) (f : Addr) (sp : Sp) : Prop where
  ex : ∃ (fd : FuncData) (ps : List Str), FnOk P w K mg base C8.CX0 k f fd ps sp ∧ PySem.W.keepIn K (.ref f) = true ∧ Binds K fd ps []
def tCallH (P : Program) (w : World) (K : PySem.W.Frag) (mg : Str → Option Value) (base : Heap) (k i : Nat) (t : TA) : TE := fun σ H Q => ∃ f sp, σ[i]? = some (some (.ref f)) ∧ HeldAt P w K mg base k f sp ∧ t σ H fun vs H1 => sp vs H1 Q C8.E0
theorem pe_callH {X : Cx} {k i : Nat} {x : Str} {p pos : Pos} {e : Expr} {es : List Expr} {t : TA} (hr : Room k X.A) (hN : X.N[i]? = some x) (hv : Vis X.env.scope x) (ha : PA X (e :: es) t)
    (hdb : (x == ("__debug__" : Str)) = false := by decide) (hcd : (x == ("__classdict__" : Str)) = false := by decide)
    (he : starEach (e :: es) X.env = (false, eval e X.env) :: starEach es X.env := by rfl) (hpl : (backTo pos (starEach es X.env)).any (·.1) = false := by rfl) : PE X (.Call (.Name x p) (e :: es) [] pos) (tCallH X.prog X.w X.K X.mg X.base k i t) := by
  refine ⟨fun pins s σ H Q I h => ?_⟩
  obtain ⟨f, sp, hs, ⟨fd, ps, F, hk, hb⟩, ht⟩ := h
  refine (pe_callL (i := i) (f := f) (sp := sp) (dvs := []) (E := C8.E0) F hr hN hv hk hb .nil C8.pass0 ha hdb hcd he hpl).run pins s σ H Q I ⟨hs, ?_⟩
  have e0 : (fun (vs : List V) (H1 : Hp) => sp (vs ++ []) H1 Q C8.E0) = fun vs H1 => sp vs H1 Q C8.E0 := by
    funext vs H1
    rw [List.append_nil]
  show t σ H (fun vs H1 => sp (vs ++ []) H1 Q C8.E0)
  rw [e0]
  exact ht
end Mk
set_option Elab.async false
set_option linter.all false
set_option maxRecDepth 100000
set_option maxHeartbeats 0
namespace Mk
open PySem PySem.Spec PyProof.Rows L2
def nextM (g : Addr → Option Obj) (as : List Addr) : List Addr := as.flatMap fun a => match g a with
  | some o => He.refsD o
  | none => []
def asM (g : Addr → Option Obj) : Nat → List Addr → List Addr
  | 0, as => as
  | n + 1, as => as ++ asM g n (nextM g as)
abbrev AlM : Type := He.AlD × Bool
def obsM (fa : List He.Fa) (fn : List He.DefD) (ex : PySem.W.Frag → Bool) (K : PySem.W.Frag) : AlM := (He.obsD fa fn K, ex K)
def obsMG (n : Nat) (fa : List He.Fa) (fn : List He.DefD) (ex : PySem.W.Frag → Bool) (g : Addr → Option Obj) : AlM := obsM fa fn ex (He.frG g (asM g n [mainGlobals]))
def SaysM (fa : List He.Fa) (fn : List He.DefD) (ex : PySem.W.Frag → Bool) (K : PySem.W.Frag) : Prop := obsM fa fn ex K = (He.valD fn, true)
def hookM (n : Nat) (fa : List He.Fa) (fn : List He.DefD) (ex : PySem.W.Frag → Bool) : PySem.W.Hook where
  α := AlM
  obs := fun s => obsMG n fa fn ex s.heap.get?
  val := fun _ => (He.valD fn, true)
  says := fun _ h => ∃ K : PySem.W.Frag, K.In h ∧ SaysM fa fn ex K
  of := fun _ _ e => ⟨_, He.frG_in, e⟩
  keeps := fun _ _ _ ⟨K, hK, c⟩ k => ⟨K, PySem.W.Frag.In.keeps hK k, c⟩
theorem obsMG_eq {n : Nat} {fa : List He.Fa} {fn : List He.DefD} {ex : PySem.W.Frag → Bool} {g : Addr → Option Obj} {s : Shared} (h : ∀ a, g a = s.heap.get? a) : obsMG n fa fn ex g = (hookM n fa fn ex).obs s := by
  have e : g = s.heap.get? := funext h
  rw [e] <;> rfl
def d_Line_init : He.DefD := ⟨("Line", some "__init__"), "__init__", "Line.__init__", defArgs s_Line_init, defBody s_Line_init, defScope s_Line_init, [], []⟩
def d_is_blank : He.DefD := ⟨("is_blank", none), "is_blank", "is_blank", defArgs s_is_blank, defBody s_is_blank, defScope s_is_blank, [], []⟩
def d_is_space : He.DefD := ⟨("is_space", none), "is_space", "is_space", defArgs s_is_space, defBody s_is_space, defScope s_is_space, [], []⟩
def d_trimmed : He.DefD := ⟨("trimmed", none), "trimmed", "trimmed", defArgs s_trimmed, defBody s_trimmed, defScope s_trimmed, [], []⟩
def d_many_ahead : He.DefD := ⟨("many_ahead", none), "many_ahead", "many_ahead", defArgs s_many_ahead, defBody s_many_ahead, defScope s_many_ahead, [], []⟩
def d_ends_or_blank : He.DefD := ⟨("ends_or_blank", none), "ends_or_blank", "ends_or_blank", defArgs s_ends_or_blank, defBody s_ends_or_blank, defScope s_ends_or_blank, [], []⟩
def d_is_fence : He.DefD := ⟨("is_fence", none), "is_fence", "is_fence", defArgs s_is_fence, defBody s_is_fence, defScope s_is_fence, [], []⟩
def d_ends_code : He.DefD := ⟨("ends_code", none), "ends_code", "ends_code", defArgs s_ends_code, defBody s_ends_code, defScope s_ends_code, [], []⟩
def d_line_of : He.DefD := ⟨("line_of", none), "line_of", "line_of", defArgs s_line_of, defBody s_line_of, defScope s_line_of, [], []⟩
def d_lines_of : He.DefD := ⟨("lines_of", none), "lines_of", "lines_of", defArgs s_lines_of, defBody s_lines_of, defScope s_lines_of, [], []⟩
def d_Thing_init : He.DefD := ⟨("Thing", some "__init__"), "__init__", "Thing.__init__", defArgs s_Thing_init, defBody s_Thing_init, defScope s_Thing_init, [], []⟩
def d_is_sign : He.DefD := ⟨("is_sign", none), "is_sign", "is_sign", defArgs s_is_sign, defBody s_is_sign, defScope s_is_sign, [], []⟩
def d_byte_thing : He.DefD := ⟨("byte_thing", none), "byte_thing", "byte_thing", defArgs s_byte_thing, defBody s_byte_thing, defScope s_byte_thing, [], []⟩
def d_next_backquote : He.DefD := ⟨("next_backquote", none), "next_backquote", "next_backquote", defArgs s_next_backquote, defBody s_next_backquote, defScope s_next_backquote, [], []⟩
def d_first_things : He.DefD := ⟨("first_things", none), "first_things", "first_things", defArgs s_first_things, defBody s_first_things, defScope s_first_things, [], []⟩
def d_is_mark : He.DefD := ⟨("is_mark", none), "is_mark", "is_mark", defArgs s_is_mark, defBody s_is_mark, defScope s_is_mark, [], []⟩
def d_is_plain : He.DefD := ⟨("is_plain", none), "is_plain", "is_plain", defArgs s_is_plain, defBody s_is_plain, defScope s_is_plain, [], []⟩
def d_is_bracket : He.DefD := ⟨("is_bracket", none), "is_bracket", "is_bracket", defArgs s_is_bracket, defBody s_is_bracket, defScope s_is_bracket, [], []⟩
def d_brackets_ahead : He.DefD := ⟨("brackets_ahead", none), "brackets_ahead", "brackets_ahead", defArgs s_brackets_ahead, defBody s_brackets_ahead, defScope s_brackets_ahead, [], []⟩
def d_may_be_in_address : He.DefD := ⟨("may_be_in_address", none), "may_be_in_address", "may_be_in_address", defArgs s_may_be_in_address, defBody s_may_be_in_address, defScope s_may_be_in_address, [], []⟩
def d_address_end : He.DefD := ⟨("address_end", none), "address_end", "address_end", defArgs s_address_end, defBody s_address_end, defScope s_address_end, [], []⟩
def d_link_at : He.DefD := ⟨("link_at", none), "link_at", "link_at", defArgs s_link_at, defBody s_link_at, defScope s_link_at, [], []⟩
def d_linked : He.DefD := ⟨("linked", none), "linked", "linked", defArgs s_linked, defBody s_linked, defScope s_linked, [], []⟩
def d_is_space_thing : He.DefD := ⟨("is_space_thing", none), "is_space_thing", "is_space_thing", defArgs s_is_space_thing, defBody s_is_space_thing, defScope s_is_space_thing, [], []⟩
def d_ends_ahead : He.DefD := ⟨("ends_ahead", none), "ends_ahead", "ends_ahead", defArgs s_ends_ahead, defBody s_ends_ahead, defScope s_ends_ahead, [], []⟩
def d_emphasis_at : He.DefD := ⟨("emphasis_at", none), "emphasis_at", "emphasis_at", defArgs s_emphasis_at, defBody s_emphasis_at, defScope s_emphasis_at, [], []⟩
def d_running_things : He.DefD := ⟨("running_things", none), "running_things", "running_things", defArgs s_running_things, defBody s_running_things, defScope s_running_things, [], []⟩
def d_Teller_init : He.DefD := ⟨("Teller", some "__init__"), "__init__", "Teller.__init__", defArgs s_Teller_init, defBody s_Teller_init, defScope s_Teller_init, [], []⟩
def d_Teller_tell : He.DefD := ⟨("Teller", some "tell"), "tell", "Teller.tell", defArgs s_Teller_tell, defBody s_Teller_tell, defScope s_Teller_tell, [], []⟩
def d_Teller_tell_bytes : He.DefD := ⟨("Teller", some "tell_bytes"), "tell_bytes", "Teller.tell_bytes", defArgs s_Teller_tell_bytes, defBody s_Teller_tell_bytes, defScope s_Teller_tell_bytes, [], []⟩
def d_tell_plain : He.DefD := ⟨("tell_plain", none), "tell_plain", "tell_plain", defArgs s_tell_plain, defBody s_tell_plain, defScope s_tell_plain, [], []⟩
def d_tell_things : He.DefD := ⟨("tell_things", none), "tell_things", "tell_things", defArgs s_tell_things, defBody s_tell_things, defScope s_tell_things, [], []⟩
def d_tell_running : He.DefD := ⟨("tell_running", none), "tell_running", "tell_running", defArgs s_tell_running, defBody s_tell_running, defScope s_tell_running, [], []⟩
def d_close_items : He.DefD := ⟨("close_items", none), "close_items", "close_items", defArgs s_close_items, defBody s_close_items, defScope s_close_items, [], []⟩
def d_tell_item : He.DefD := ⟨("tell_item", none), "tell_item", "tell_item", defArgs s_tell_item, defBody s_tell_item, defScope s_tell_item, [], []⟩
def d_code_end : He.DefD := ⟨("code_end", none), "code_end", "code_end", defArgs s_code_end, defBody s_code_end, defScope s_code_end, [], []⟩
def d_tell_code : He.DefD := ⟨("tell_code", none), "tell_code", "tell_code", defArgs s_tell_code, defBody s_tell_code, defScope s_tell_code, [], []⟩
def d_plain_end : He.DefD := ⟨("plain_end", none), "plain_end", "plain_end", defArgs s_plain_end, defBody s_plain_end, defScope s_plain_end, [], []⟩
def d_joined_texts : He.DefD := ⟨("joined_texts", none), "joined_texts", "joined_texts", defArgs s_joined_texts, defBody s_joined_texts, defScope s_joined_texts, [], []⟩
def d_tell_heading : He.DefD := ⟨("tell_heading", none), "tell_heading", "tell_heading", defArgs s_tell_heading, defBody s_tell_heading, defScope s_tell_heading, [], []⟩
def d_tell_block : He.DefD := ⟨("tell_block", none), "tell_block", "tell_block", defArgs s_tell_block, defBody s_tell_block, defScope s_tell_block, [], []⟩
def d_events_of : He.DefD := ⟨("events_of", none), "events_of", "events_of", defArgs s_events_of, defBody s_events_of, defScope s_events_of, [], []⟩
def d_bytes_of : He.DefD := ⟨("bytes_of", none), "bytes_of", "bytes_of", defArgs s_bytes_of, defBody s_bytes_of, defScope s_bytes_of, [], []⟩
def d_safe : He.DefD := ⟨("safe", none), "safe", "safe", defArgs s_safe, defBody s_safe, defScope s_safe, [], []⟩
def d_event_page : He.DefD := ⟨("event_page", none), "event_page", "event_page", defArgs s_event_page, defBody s_event_page, defScope s_event_page, [], []⟩
def d_page_of : He.DefD := ⟨("page_of", none), "page_of", "page_of", defArgs s_page_of, defBody s_page_of, defScope s_page_of, [], []⟩
def d_Text_init : He.DefD := ⟨("Text", some "__init__"), "__init__", "Text.__init__", defArgs s_Text_init, defBody s_Text_init, defScope s_Text_init, [], []⟩
def d_listed : He.DefD := ⟨("listed", none), "listed", "listed", defArgs s_listed, defBody s_listed, defScope s_listed, [], []⟩
def d_begin : He.DefD := ⟨("begin", none), "begin", "begin", defArgs s_begin, defBody s_begin, defScope s_begin, [], []⟩
def d_feed : He.DefD := ⟨("feed", none), "feed", "feed", defArgs s_feed, defBody s_feed, defScope s_feed, [], []⟩
def d_end : He.DefD := ⟨("end", none), "end", "end", defArgs s_end, defBody s_end, defScope s_end, [], []⟩
def d_event_told : He.DefD := ⟨("event_told", none), "event_told", "event_told", defArgs s_event_told, defBody s_event_told, defScope s_event_told, [], []⟩
def d_event : He.DefD := ⟨("event", none), "event", "event", defArgs s_event, defBody s_event, defScope s_event, [], []⟩
def d_html : He.DefD := ⟨("html", none), "html", "html", defArgs s_html, defBody s_html, defScope s_html, [], []⟩
def d_every : He.DefD := ⟨("every", none), "every", "every", defArgs s_every, defBody s_every, defScope s_every, [], []⟩
def d_line_told : He.DefD := ⟨("line_told", none), "line_told", "line_told", defArgs s_line_told, defBody s_line_told, defScope s_line_told, [], []⟩
def d_told_lines : He.DefD := ⟨("told_lines", none), "told_lines", "told_lines", defArgs s_told_lines, defBody s_told_lines, defScope s_told_lines, [], []⟩
def d_answers : He.DefD := ⟨("answers", none), "answers", "answers", defArgs s_answers, defBody s_answers, defScope s_answers, [], []⟩
def fn0 : List He.DefD := [d_Line_init, d_is_blank, d_is_space, d_trimmed, d_many_ahead, d_ends_or_blank, d_is_fence, d_ends_code, d_line_of, d_lines_of, d_Thing_init, d_is_sign, d_byte_thing, d_next_backquote, d_first_things, d_is_mark, d_is_plain, d_is_bracket, d_brackets_ahead, d_may_be_in_address, d_address_end, d_link_at, d_linked, d_is_space_thing, d_ends_ahead, d_emphasis_at, d_running_things, d_Teller_init, d_Teller_tell, d_Teller_tell_bytes]
def fn1 : List He.DefD := [d_tell_plain, d_tell_things, d_tell_running, d_close_items, d_tell_item, d_code_end, d_tell_code, d_plain_end, d_joined_texts, d_tell_heading, d_tell_block, d_events_of, d_bytes_of, d_safe, d_event_page, d_page_of, d_Text_init, d_listed, d_begin, d_feed, d_end, d_event_told, d_event, d_html, d_every, d_line_told, d_told_lines, d_answers]
def fn : List He.DefD := fn0 ++ fn1
def fa0 : List He.Fa := [.glo "is_blank", .glo "is_space", .glo "trimmed", .glo "many_ahead", .glo "ends_or_blank", .glo "is_fence", .glo "ends_code", .glo "line_of", .glo "lines_of", .glo "is_sign", .glo "byte_thing", .glo "next_backquote", .glo "first_things", .glo "is_mark", .glo "is_plain", .glo "is_bracket", .glo "brackets_ahead", .glo "may_be_in_address", .glo "address_end", .glo "link_at", .glo "linked", .glo "is_space_thing", .glo "ends_ahead", .glo "emphasis_at", .glo "running_things", .glo "tell_plain", .glo "tell_things", .glo "tell_running", .glo "close_items", .glo "tell_item"]
def fa1 : List He.Fa := [.glo "code_end", .glo "tell_code", .glo "plain_end", .glo "joined_texts", .glo "tell_heading", .glo "tell_block", .glo "events_of", .glo "bytes_of", .glo "safe", .glo "event_page", .glo "page_of", .glo "listed", .glo "begin", .glo "feed", .glo "end", .glo "event_told", .glo "event", .glo "html", .glo "every", .glo "line_told", .glo "told_lines", .glo "answers", .int "TAB" (9), .int "LINE_END" (10), .int "RETURN" (13), .int "SPACE" (32), .int "HASH" (35), .int "HYPHEN" (45), .int "BACKQUOTE" (96), .int "MOST_LEVEL" (6)]
def fa2 : List He.Fa := [.int "BLANK" (0), .int "FENCE" (1), .int "HEADING" (2), .int "ITEM" (3), .int "PLAIN_lines" (4), .int "STAR" (42), .int "OPEN" (40), .int "SHUT" (41), .int "OPENING" (91), .int "BACKSLASH" (92), .int "CLOSING" (93), .int "PLAIN_things" (0), .int "SIGN" (1), .int "CODE" (2), .int "MARK" (3), .int "LINK" (4), .int "TEXT" (0), .int "SPAN" (1), .int "PARAGRAPH" (2), .int "PARAGRAPH_END" (3), .int "HEAD" (4), .int "HEAD_END" (5), .int "ROW" (6), .int "ROW_END" (7), .int "POINT" (8), .int "POINT_END" (9), .int "BLOCK" (10), .int "BLOCK_LINE" (11), .int "BLOCK_END" (12), .int "STRESS" (13)]
def fa3 : List He.Fa := [.int "STRESS_END" (14), .int "ANCHOR" (15), .int "ANCHOR_END" (16), .int "TOO_LONG" (-1), .int "HAS_ENDED" (-2), .int "NOT_THERE" (-3), .int "MOST_TEXT" (16384), .int "MOST_ALONE" (2048), .free "len", .free "list", .free "range", .free "ord", .free "str", .glo "NUMBERS", .glo "ROWS", .glo "DEEDS", .glo "TAGS", .glo "WRITTEN", .glo "Line", .cls "Line", .mkr "Line", .noat "Line" "row", .noat "Line" "kind", .noat "Line" "number", .noat "Line" "text", .glo "Thing", .cls "Thing", .mkr "Thing", .noat "Thing" "form", .noat "Thing" "byte"]
def fa4 : List He.Fa := [.noat "Thing" "inner", .noat "Thing" "address", .glo "Teller", .cls "Teller", .mkr "Teller", .noat "Teller" "events", .noat "Teller" "depth", .glo "Text", .cls "Text", .mkr "Text", .noat "Text" "row", .noat "Text" "has_ended", .noat "Text" "events", .meth "Teller" "tell", .meth "Teller" "tell_bytes"]
def fa : List He.Fa := fa0 ++ fa1 ++ fa2 ++ fa3 ++ fa4
def tv_NUMBERS : List He.Dv := [.int 0, .int 0, .int 0, .int 0, .int 1, .int 0, .int 0, .int 0]
def tv_ROWS : List He.Dv := [.int 0, .int 0, .int 1, .int 0, .int 0, .int 0, .int 1, .int 1]
def tv_DEEDS : List He.Dv := [.glo "begin", .glo "begin", .glo "feed", .glo "end", .glo "event", .glo "html", .glo "every", .glo "told_lines"]
def kv_TAGS : List (Int × Str) := [(2, "<p>"), (3, "</p>\n"), (6, "<ul>\n"), (7, "</ul>\n"), (8, "<li>"), (9, "</li>\n"), (12, "</pre>\n"), (13, "<em>"), (14, "</em>"), (16, "</a>")]
def kv_WRITTEN : List (Int × Str) := [(38, "&amp;"), (60, "&lt;"), (62, "&gt;"), (34, "&quot;")]
def exB (K : PySem.W.Frag) : Bool := He.tupB K "NUMBERS" tv_NUMBERS && (He.tupB K "ROWS" tv_ROWS && (He.tupB K "DEEDS" tv_DEEDS && (dictB K "TAGS" kv_TAGS && (dictB K "WRITTEN" kv_WRITTEN))))
abbrev R : PySem.W.OpenSpec := PySem.Challenge.rw_marklite_s01_answers
abbrev hk : PySem.W.Hook := hookM 4 fa fn exB
def ob (s : PySem.W.SharedT) : AlM := obsMG 4 fa fn exB (HandSHeadRun.getT s)
theorem ob_eq (s : PySem.W.SharedT) : ob s = hk.obs s.abs := obsMG_eq (HandSHeadRun.getT_eq s)
def names0 : List PySem.Str := ["TAB", "LINE_END", "RETURN", "SPACE", "HASH", "HYPHEN", "BACKQUOTE", "MOST_LEVEL", "BLANK", "FENCE", "HEADING", "ITEM", "PLAIN_lines", "Line", "is_blank", "is_space", "trimmed", "many_ahead", "ends_or_blank", "is_fence", "ends_code", "line_of", "lines_of", "STAR", "OPEN", "SHUT", "OPENING", "BACKSLASH", "CLOSING", "PLAIN_things"]
def names1 : List PySem.Str := ["SIGN", "CODE", "MARK", "LINK", "Thing", "is_sign", "byte_thing", "next_backquote", "first_things", "is_mark", "is_plain", "is_bracket", "brackets_ahead", "may_be_in_address", "address_end", "link_at", "linked", "is_space_thing", "ends_ahead", "emphasis_at", "running_things", "TEXT", "SPAN", "PARAGRAPH", "PARAGRAPH_END", "HEAD", "HEAD_END", "ROW", "ROW_END", "POINT"]
def names2 : List PySem.Str := ["POINT_END", "BLOCK", "BLOCK_LINE", "BLOCK_END", "STRESS", "STRESS_END", "ANCHOR", "ANCHOR_END", "Teller", "tell_plain", "tell_things", "tell_running", "close_items", "tell_item", "code_end", "tell_code", "plain_end", "joined_texts", "tell_heading", "tell_block", "events_of", "TAGS", "WRITTEN", "bytes_of", "safe", "event_page", "page_of", "TOO_LONG", "HAS_ENDED", "NOT_THERE"]
def names3 : List PySem.Str := ["MOST_TEXT", "MOST_ALONE", "NUMBERS", "ROWS", "Text", "listed", "begin", "feed", "end", "event_told", "event", "html", "every", "line_told", "told_lines", "DEEDS"]
def names : List PySem.Str := names0 ++ names1 ++ names2 ++ names3
abbrev qv : PySem.Program := PySem.W.view R.prog [111]
theorem run_false (w : World) : HandSHeadRun.RunEqS R qv hk ob 4000 names (w.withFollow "special-get-raises" false) := by
  intro os
  kernel_rfl
theorem run_true (w : World) : HandSHeadRun.RunEqS R qv hk ob 4000 names (w.withFollow "special-get-raises" true) := by
  intro os
  kernel_rfl
theorem run (w : World) : HandSHeadRun.RunEqS R qv hk ob 4000 names w := PySem.W.byRow2 "special-get-raises" (P := fun w => HandSHeadRun.RunEqS R qv hk ob 4000 names w) run_false run_true w
end Mk
set_option Elab.async false
set_option linter.all false
set_option maxRecDepth 100000
set_option maxHeartbeats 4000000
namespace Mk
open PySem PySem.Spec PyProof.Rows L2 C8
def Bi (x qual : Str) (st : Stmt) (ps : List Str) : Prop := ∀ (kV doc pm : Value) (an : Option Addr) (cdv ct : Value) (us : List Value), us.length = ps.length → bindArgs (PySem.W.fnOf x qual (defArgs st) (defBody st) (defScope st) .none kV doc pm an cdv ct) ⟨us, []⟩ = pure (ps.zip us)
theorem sc_Line_init : FnScope ["self", "row", "kind", "number", "text"] ["self", "row", "kind", "number", "text"] (defScope s_Line_init) := ⟨rfl, rfl, rfl, by decide +kernel, rfl, by decide +kernel, by decide +kernel⟩
theorem bi_Line_init : Bi "__init__" "Line.__init__" s_Line_init ["self", "row", "kind", "number", "text"] := fun _ _ _ _ _ _ us hl => match us, hl with | [_, _, _, _, _], _ => rfl
theorem sc_is_blank : FnScope ["byte"] ["byte"] (defScope s_is_blank) := ⟨rfl, rfl, rfl, by decide +kernel, rfl, by decide +kernel, by decide +kernel⟩
theorem bi_is_blank : Bi "is_blank" "is_blank" s_is_blank ["byte"] := fun _ _ _ _ _ _ us hl => match us, hl with | [_], _ => rfl
theorem sc_is_space : FnScope ["byte"] ["byte"] (defScope s_is_space) := ⟨rfl, rfl, rfl, by decide +kernel, rfl, by decide +kernel, by decide +kernel⟩
theorem bi_is_space : Bi "is_space" "is_space" s_is_space ["byte"] := fun _ _ _ _ _ _ us hl => match us, hl with | [_], _ => rfl
theorem sc_trimmed : FnScope ["row", "begin", "end"] ["row"] (defScope s_trimmed) := ⟨rfl, rfl, rfl, by decide +kernel, rfl, by decide +kernel, by decide +kernel⟩
theorem bi_trimmed : Bi "trimmed" "trimmed" s_trimmed ["row"] := fun _ _ _ _ _ _ us hl => match us, hl with | [_], _ => rfl
theorem sc_many_ahead : FnScope ["row", "byte", "found"] ["row", "byte"] (defScope s_many_ahead) := ⟨rfl, rfl, rfl, by decide +kernel, rfl, by decide +kernel, by decide +kernel⟩
theorem bi_many_ahead : Bi "many_ahead" "many_ahead" s_many_ahead ["row", "byte"] := fun _ _ _ _ _ _ us hl => match us, hl with | [_, _], _ => rfl
theorem sc_ends_or_blank : FnScope ["row", "at"] ["row", "at"] (defScope s_ends_or_blank) := ⟨rfl, rfl, rfl, by decide +kernel, rfl, by decide +kernel, by decide +kernel⟩
theorem bi_ends_or_blank : Bi "ends_or_blank" "ends_or_blank" s_ends_or_blank ["row", "at"] := fun _ _ _ _ _ _ us hl => match us, hl with | [_, _], _ => rfl
theorem sc_is_fence : FnScope ["row"] ["row"] (defScope s_is_fence) := ⟨rfl, rfl, rfl, by decide +kernel, rfl, by decide +kernel, by decide +kernel⟩
theorem bi_is_fence : Bi "is_fence" "is_fence" s_is_fence ["row"] := fun _ _ _ _ _ _ us hl => match us, hl with | [_], _ => rfl
theorem sc_ends_code : FnScope ["row"] ["row"] (defScope s_ends_code) := ⟨rfl, rfl, rfl, by decide +kernel, rfl, by decide +kernel, by decide +kernel⟩
theorem bi_ends_code : Bi "ends_code" "ends_code" s_ends_code ["row"] := fun _ _ _ _ _ _ us hl => match us, hl with | [_], _ => rfl
theorem sc_line_of : FnScope ["row", "level", "spaces"] ["row"] (defScope s_line_of) := ⟨rfl, rfl, rfl, by decide +kernel, rfl, by decide +kernel, by decide +kernel⟩
theorem bi_line_of : Bi "line_of" "line_of" s_line_of ["row"] := fun _ _ _ _ _ _ us hl => match us, hl with | [_], _ => rfl
theorem sc_lines_of : FnScope ["text", "found", "begin", "at"] ["text"] (defScope s_lines_of) := ⟨rfl, rfl, rfl, by decide +kernel, rfl, by decide +kernel, by decide +kernel⟩
theorem bi_lines_of : Bi "lines_of" "lines_of" s_lines_of ["text"] := fun _ _ _ _ _ _ us hl => match us, hl with | [_], _ => rfl
theorem sc_Thing_init : FnScope ["self", "sort", "byte", "inner", "address"] ["self", "sort", "byte", "inner", "address"] (defScope s_Thing_init) := ⟨rfl, rfl, rfl, by decide +kernel, rfl, by decide +kernel, by decide +kernel⟩
theorem bi_Thing_init : Bi "__init__" "Thing.__init__" s_Thing_init ["self", "sort", "byte", "inner", "address"] := fun _ _ _ _ _ _ us hl => match us, hl with | [_, _, _, _, _], _ => rfl
theorem sc_is_sign : FnScope ["byte"] ["byte"] (defScope s_is_sign) := ⟨rfl, rfl, rfl, by decide +kernel, rfl, by decide +kernel, by decide +kernel⟩
theorem bi_is_sign : Bi "is_sign" "is_sign" s_is_sign ["byte"] := fun _ _ _ _ _ _ us hl => match us, hl with | [_], _ => rfl
theorem sc_byte_thing : FnScope ["sort", "byte"] ["sort", "byte"] (defScope s_byte_thing) := ⟨rfl, rfl, rfl, by decide +kernel, rfl, by decide +kernel, by decide +kernel⟩
theorem bi_byte_thing : Bi "byte_thing" "byte_thing" s_byte_thing ["sort", "byte"] := fun _ _ _ _ _ _ us hl => match us, hl with | [_, _], _ => rfl
theorem sc_next_backquote : FnScope ["text", "begin", "at"] ["text", "begin"] (defScope s_next_backquote) := ⟨rfl, rfl, rfl, by decide +kernel, rfl, by decide +kernel, by decide +kernel⟩
theorem bi_next_backquote : Bi "next_backquote" "next_backquote" s_next_backquote ["text", "begin"] := fun _ _ _ _ _ _ us hl => match us, hl with | [_, _], _ => rfl
theorem sc_first_things : FnScope ["text", "found", "at", "last", "byte", "end"] ["text"] (defScope s_first_things) := ⟨rfl, rfl, rfl, by decide +kernel, rfl, by decide +kernel, by decide +kernel⟩
theorem bi_first_things : Bi "first_things" "first_things" s_first_things ["text"] := fun _ _ _ _ _ _ us hl => match us, hl with | [_], _ => rfl
theorem sc_is_mark : FnScope ["thing", "byte"] ["thing", "byte"] (defScope s_is_mark) := ⟨rfl, rfl, rfl, by decide +kernel, rfl, by decide +kernel, by decide +kernel⟩
theorem bi_is_mark : Bi "is_mark" "is_mark" s_is_mark ["thing", "byte"] := fun _ _ _ _ _ _ us hl => match us, hl with | [_, _], _ => rfl
theorem sc_is_plain : FnScope ["thing", "byte"] ["thing", "byte"] (defScope s_is_plain) := ⟨rfl, rfl, rfl, by decide +kernel, rfl, by decide +kernel, by decide +kernel⟩
theorem bi_is_plain : Bi "is_plain" "is_plain" s_is_plain ["thing", "byte"] := fun _ _ _ _ _ _ us hl => match us, hl with | [_, _], _ => rfl
theorem sc_is_bracket : FnScope ["thing"] ["thing"] (defScope s_is_bracket) := ⟨rfl, rfl, rfl, by decide +kernel, rfl, by decide +kernel, by decide +kernel⟩
theorem bi_is_bracket : Bi "is_bracket" "is_bracket" s_is_bracket ["thing"] := fun _ _ _ _ _ _ us hl => match us, hl with | [_], _ => rfl
theorem sc_brackets_ahead : FnScope ["things", "found", "at"] ["things"] (defScope s_brackets_ahead) := ⟨rfl, rfl, rfl, by decide +kernel, rfl, by decide +kernel, by decide +kernel⟩
theorem bi_brackets_ahead : Bi "brackets_ahead" "brackets_ahead" s_brackets_ahead ["things"] := fun _ _ _ _ _ _ us hl => match us, hl with | [_], _ => rfl
theorem sc_may_be_in_address : FnScope ["thing"] ["thing"] (defScope s_may_be_in_address) := ⟨rfl, rfl, rfl, by decide +kernel, rfl, by decide +kernel, by decide +kernel⟩
theorem bi_may_be_in_address : Bi "may_be_in_address" "may_be_in_address" s_may_be_in_address ["thing"] := fun _ _ _ _ _ _ us hl => match us, hl with | [_], _ => rfl
theorem sc_address_end : FnScope ["things", "begin", "at"] ["things", "begin"] (defScope s_address_end) := ⟨rfl, rfl, rfl, by decide +kernel, rfl, by decide +kernel, by decide +kernel⟩
theorem bi_address_end : Bi "address_end" "address_end" s_address_end ["things", "begin"] := fun _ _ _ _ _ _ us hl => match us, hl with | [_, _], _ => rfl
theorem sc_link_at : FnScope ["things", "brackets", "begin", "closing", "end", "address", "thing"] ["things", "brackets", "begin"] (defScope s_link_at) := ⟨rfl, rfl, rfl, by decide +kernel, rfl, by decide +kernel, by decide +kernel⟩
theorem bi_link_at : Bi "link_at" "link_at" s_link_at ["things", "brackets", "begin"] := fun _ _ _ _ _ _ us hl => match us, hl with | [_, _, _], _ => rfl
theorem sc_linked : FnScope ["things", "brackets", "found", "at", "links", "thing"] ["things"] (defScope s_linked) := ⟨rfl, rfl, rfl, by decide +kernel, rfl, by decide +kernel, by decide +kernel⟩
theorem bi_linked : Bi "linked" "linked" s_linked ["things"] := fun _ _ _ _ _ _ us hl => match us, hl with | [_], _ => rfl
theorem sc_is_space_thing : FnScope ["thing"] ["thing"] (defScope s_is_space_thing) := ⟨rfl, rfl, rfl, by decide +kernel, rfl, by decide +kernel, by decide +kernel⟩
theorem bi_is_space_thing : Bi "is_space_thing" "is_space_thing" s_is_space_thing ["thing"] := fun _ _ _ _ _ _ us hl => match us, hl with | [_], _ => rfl
theorem sc_ends_ahead : FnScope ["things", "found", "at", "is_end"] ["things"] (defScope s_ends_ahead) := ⟨rfl, rfl, rfl, by decide +kernel, rfl, by decide +kernel, by decide +kernel⟩
theorem bi_ends_ahead : Bi "ends_ahead" "ends_ahead" s_ends_ahead ["things"] := fun _ _ _ _ _ _ us hl => match us, hl with | [_], _ => rfl
theorem sc_emphasis_at : FnScope ["things", "ends", "at"] ["things", "ends", "at"] (defScope s_emphasis_at) := ⟨rfl, rfl, rfl, by decide +kernel, rfl, by decide +kernel, by decide +kernel⟩
theorem bi_emphasis_at : Bi "emphasis_at" "emphasis_at" s_emphasis_at ["things", "ends", "at"] := fun _ _ _ _ _ _ us hl => match us, hl with | [_, _, _], _ => rfl
theorem sc_running_things : FnScope ["text"] ["text"] (defScope s_running_things) := ⟨rfl, rfl, rfl, by decide +kernel, rfl, by decide +kernel, by decide +kernel⟩
theorem bi_running_things : Bi "running_things" "running_things" s_running_things ["text"] := fun _ _ _ _ _ _ us hl => match us, hl with | [_], _ => rfl
theorem sc_Teller_init : FnScope ["self"] ["self"] (defScope s_Teller_init) := ⟨rfl, rfl, rfl, by decide +kernel, rfl, by decide +kernel, by decide +kernel⟩
theorem bi_Teller_init : Bi "__init__" "Teller.__init__" s_Teller_init ["self"] := fun _ _ _ _ _ _ us hl => match us, hl with | [_], _ => rfl
theorem sc_Teller_tell : FnScope ["self", "kind", "number", "row"] ["self", "kind", "number", "row"] (defScope s_Teller_tell) := ⟨rfl, rfl, rfl, by decide +kernel, rfl, by decide +kernel, by decide +kernel⟩
theorem bi_Teller_tell : Bi "tell" "Teller.tell" s_Teller_tell ["self", "kind", "number", "row"] := fun _ _ _ _ _ _ us hl => match us, hl with | [_, _, _, _], _ => rfl
theorem sc_Teller_tell_bytes : FnScope ["self", "row"] ["self", "row"] (defScope s_Teller_tell_bytes) := ⟨rfl, rfl, rfl, by decide +kernel, rfl, by decide +kernel, by decide +kernel⟩
theorem bi_Teller_tell_bytes : Bi "tell_bytes" "Teller.tell_bytes" s_Teller_tell_bytes ["self", "row"] := fun _ _ _ _ _ _ us hl => match us, hl with | [_, _], _ => rfl
theorem sc_tell_plain : FnScope ["teller", "things", "begin", "end", "at", "thing"] ["teller", "things", "begin", "end"] (defScope s_tell_plain) := ⟨rfl, rfl, rfl, by decide +kernel, rfl, by decide +kernel, by decide +kernel⟩
theorem bi_tell_plain : Bi "tell_plain" "tell_plain" s_tell_plain ["teller", "things", "begin", "end"] := fun _ _ _ _ _ _ us hl => match us, hl with | [_, _, _, _], _ => rfl
theorem sc_tell_things : FnScope ["teller", "things", "ends", "at", "end"] ["teller", "things"] (defScope s_tell_things) := ⟨rfl, rfl, rfl, by decide +kernel, rfl, by decide +kernel, by decide +kernel⟩
theorem bi_tell_things : Bi "tell_things" "tell_things" s_tell_things ["teller", "things"] := fun _ _ _ _ _ _ us hl => match us, hl with | [_, _], _ => rfl
theorem sc_tell_running : FnScope ["teller", "text"] ["teller", "text"] (defScope s_tell_running) := ⟨rfl, rfl, rfl, by decide +kernel, rfl, by decide +kernel, by decide +kernel⟩
theorem bi_tell_running : Bi "tell_running" "tell_running" s_tell_running ["teller", "text"] := fun _ _ _ _ _ _ us hl => match us, hl with | [_, _], _ => rfl
theorem sc_close_items : FnScope ["teller", "depth"] ["teller", "depth"] (defScope s_close_items) := ⟨rfl, rfl, rfl, by decide +kernel, rfl, by decide +kernel, by decide +kernel⟩
theorem bi_close_items : Bi "close_items" "close_items" s_close_items ["teller", "depth"] := fun _ _ _ _ _ _ us hl => match us, hl with | [_, _], _ => rfl
theorem sc_tell_item : FnScope ["teller", "depth", "text", "wanted"] ["teller", "depth", "text"] (defScope s_tell_item) := ⟨rfl, rfl, rfl, by decide +kernel, rfl, by decide +kernel, by decide +kernel⟩
theorem bi_tell_item : Bi "tell_item" "tell_item" s_tell_item ["teller", "depth", "text"] := fun _ _ _ _ _ _ us hl => match us, hl with | [_, _, _], _ => rfl
theorem sc_code_end : FnScope ["lines", "begin", "at"] ["lines", "begin"] (defScope s_code_end) := ⟨rfl, rfl, rfl, by decide +kernel, rfl, by decide +kernel, by decide +kernel⟩
theorem bi_code_end : Bi "code_end" "code_end" s_code_end ["lines", "begin"] := fun _ _ _ _ _ _ us hl => match us, hl with | [_, _], _ => rfl
theorem sc_tell_code : FnScope ["teller", "lines", "at", "end", "line"] ["teller", "lines", "at"] (defScope s_tell_code) := ⟨rfl, rfl, rfl, by decide +kernel, rfl, by decide +kernel, by decide +kernel⟩
theorem bi_tell_code : Bi "tell_code" "tell_code" s_tell_code ["teller", "lines", "at"] := fun _ _ _ _ _ _ us hl => match us, hl with | [_, _, _], _ => rfl
theorem sc_plain_end : FnScope ["lines", "begin", "at"] ["lines", "begin"] (defScope s_plain_end) := ⟨rfl, rfl, rfl, by decide +kernel, rfl, by decide +kernel, by decide +kernel⟩
theorem bi_plain_end : Bi "plain_end" "plain_end" s_plain_end ["lines", "begin"] := fun _ _ _ _ _ _ us hl => match us, hl with | [_, _], _ => rfl
theorem sc_joined_texts : FnScope ["lines", "found", "line"] ["lines"] (defScope s_joined_texts) := ⟨rfl, rfl, rfl, by decide +kernel, rfl, by decide +kernel, by decide +kernel⟩
theorem bi_joined_texts : Bi "joined_texts" "joined_texts" s_joined_texts ["lines"] := fun _ _ _ _ _ _ us hl => match us, hl with | [_], _ => rfl
theorem sc_tell_heading : FnScope ["teller", "line"] ["teller", "line"] (defScope s_tell_heading) := ⟨rfl, rfl, rfl, by decide +kernel, rfl, by decide +kernel, by decide +kernel⟩
theorem bi_tell_heading : Bi "tell_heading" "tell_heading" s_tell_heading ["teller", "line"] := fun _ _ _ _ _ _ us hl => match us, hl with | [_, _], _ => rfl
theorem sc_tell_block : FnScope ["teller", "lines", "at", "line", "end", "text"] ["teller", "lines", "at"] (defScope s_tell_block) := ⟨rfl, rfl, rfl, by decide +kernel, rfl, by decide +kernel, by decide +kernel⟩
theorem bi_tell_block : Bi "tell_block" "tell_block" s_tell_block ["teller", "lines", "at"] := fun _ _ _ _ _ _ us hl => match us, hl with | [_, _, _], _ => rfl
theorem sc_events_of : FnScope ["text", "teller", "lines", "at"] ["text"] (defScope s_events_of) := ⟨rfl, rfl, rfl, by decide +kernel, rfl, by decide +kernel, by decide +kernel⟩
theorem bi_events_of : Bi "events_of" "events_of" s_events_of ["text"] := fun _ _ _ _ _ _ us hl => match us, hl with | [_], _ => rfl
theorem sc_bytes_of : FnScope ["text", "sign"] ["text"] (defScope s_bytes_of) := ⟨rfl, rfl, rfl, by decide +kernel, rfl, by decide +kernel, by decide +kernel⟩
theorem bi_bytes_of : Bi "bytes_of" "bytes_of" s_bytes_of ["text"] := fun _ _ _ _ _ _ us hl => match us, hl with | [_], _ => rfl
theorem sc_safe : FnScope ["row", "found", "byte"] ["row"] (defScope s_safe) := ⟨rfl, rfl, rfl, by decide +kernel, rfl, by decide +kernel, by decide +kernel⟩
theorem bi_safe : Bi "safe" "safe" s_safe ["row"] := fun _ _ _ _ _ _ us hl => match us, hl with | [_], _ => rfl
theorem sc_event_page : FnScope ["kind", "number", "row"] ["kind", "number", "row"] (defScope s_event_page) := ⟨rfl, rfl, rfl, by decide +kernel, rfl, by decide +kernel, by decide +kernel⟩
theorem bi_event_page : Bi "event_page" "event_page" s_event_page ["kind", "number", "row"] := fun _ _ _ _ _ _ us hl => match us, hl with | [_, _, _], _ => rfl
theorem sc_page_of : FnScope ["events", "found", "kind", "number", "row"] ["events"] (defScope s_page_of) := ⟨rfl, rfl, rfl, by decide +kernel, rfl, by decide +kernel, by decide +kernel⟩
theorem bi_page_of : Bi "page_of" "page_of" s_page_of ["events"] := fun _ _ _ _ _ _ us hl => match us, hl with | [_], _ => rfl
theorem sc_Text_init : FnScope ["self"] ["self"] (defScope s_Text_init) := ⟨rfl, rfl, rfl, by decide +kernel, rfl, by decide +kernel, by decide +kernel⟩
theorem bi_Text_init : Bi "__init__" "Text.__init__" s_Text_init ["self"] := fun _ _ _ _ _ _ us hl => match us, hl with | [_], _ => rfl
theorem sc_listed : FnScope ["row"] ["row"] (defScope s_listed) := ⟨rfl, rfl, rfl, by decide +kernel, rfl, by decide +kernel, by decide +kernel⟩
theorem bi_listed : Bi "listed" "listed" s_listed ["row"] := fun _ _ _ _ _ _ us hl => match us, hl with | [_], _ => rfl
theorem sc_begin : FnScope ["text", "numbers", "rows"] ["text", "numbers", "rows"] (defScope s_begin) := ⟨rfl, rfl, rfl, by decide +kernel, rfl, by decide +kernel, by decide +kernel⟩
theorem bi_begin : Bi "begin" "begin" s_begin ["text", "numbers", "rows"] := fun _ _ _ _ _ _ us hl => match us, hl with | [_, _, _], _ => rfl
theorem sc_feed : FnScope ["text", "numbers", "rows"] ["text", "numbers", "rows"] (defScope s_feed) := ⟨rfl, rfl, rfl, by decide +kernel, rfl, by decide +kernel, by decide +kernel⟩
theorem bi_feed : Bi "feed" "feed" s_feed ["text", "numbers", "rows"] := fun _ _ _ _ _ _ us hl => match us, hl with | [_, _, _], _ => rfl
theorem sc_end : FnScope ["text", "numbers", "rows"] ["text", "numbers", "rows"] (defScope s_end) := ⟨rfl, rfl, rfl, by decide +kernel, rfl, by decide +kernel, by decide +kernel⟩
theorem bi_end : Bi "end" "end" s_end ["text", "numbers", "rows"] := fun _ _ _ _ _ _ us hl => match us, hl with | [_, _, _], _ => rfl
theorem sc_event_told : FnScope ["event", "kind", "number", "row"] ["event"] (defScope s_event_told) := ⟨rfl, rfl, rfl, by decide +kernel, rfl, by decide +kernel, by decide +kernel⟩
theorem bi_event_told : Bi "event_told" "event_told" s_event_told ["event"] := fun _ _ _ _ _ _ us hl => match us, hl with | [_], _ => rfl
theorem sc_event : FnScope ["text", "numbers", "rows"] ["text", "numbers", "rows"] (defScope s_event) := ⟨rfl, rfl, rfl, by decide +kernel, rfl, by decide +kernel, by decide +kernel⟩
theorem bi_event : Bi "event" "event" s_event ["text", "numbers", "rows"] := fun _ _ _ _ _ _ us hl => match us, hl with | [_, _, _], _ => rfl
theorem sc_html : FnScope ["text", "numbers", "rows"] ["text", "numbers", "rows"] (defScope s_html) := ⟨rfl, rfl, rfl, by decide +kernel, rfl, by decide +kernel, by decide +kernel⟩
theorem bi_html : Bi "html" "html" s_html ["text", "numbers", "rows"] := fun _ _ _ _ _ _ us hl => match us, hl with | [_, _, _], _ => rfl
theorem sc_every : FnScope ["text", "numbers", "rows", "events", "found", "one"] ["text", "numbers", "rows"] (defScope s_every) := ⟨rfl, rfl, rfl, by decide +kernel, rfl, by decide +kernel, by decide +kernel⟩
theorem bi_every : Bi "every" "every" s_every ["text", "numbers", "rows"] := fun _ _ _ _ _ _ us hl => match us, hl with | [_, _, _], _ => rfl
theorem sc_line_told : FnScope ["line"] ["line"] (defScope s_line_told) := ⟨rfl, rfl, rfl, by decide +kernel, rfl, by decide +kernel, by decide +kernel⟩
theorem bi_line_told : Bi "line_told" "line_told" s_line_told ["line"] := fun _ _ _ _ _ _ us hl => match us, hl with | [_], _ => rfl
theorem sc_told_lines : FnScope ["text", "numbers", "rows", "lines", "found", "line"] ["text", "numbers", "rows"] (defScope s_told_lines) := ⟨rfl, rfl, rfl, by decide +kernel, rfl, by decide +kernel, by decide +kernel⟩
theorem bi_told_lines : Bi "told_lines" "told_lines" s_told_lines ["text", "numbers", "rows"] := fun _ _ _ _ _ _ us hl => match us, hl with | [_, _, _], _ => rfl
theorem sc_answers : FnScope ["calls", "text", "found", "at", "number", "stop", "numbers", "rows", "last", "deed", "told"] ["calls"] (defScope s_answers) := ⟨rfl, rfl, rfl, by decide +kernel, rfl, by decide +kernel, by decide +kernel⟩
theorem bi_answers : Bi "answers" "answers" s_answers ["calls"] := fun _ _ _ _ _ _ us hl => match us, hl with | [_], _ => rfl
def cLine (K : PySem.W.Frag) : Addr := He.ga K "Line"
def cThing (K : PySem.W.Frag) : Addr := He.ga K "Thing"
def cTeller (K : PySem.W.Frag) : Addr := He.ga K "Teller"
def cText (K : PySem.W.Frag) : Addr := He.ga K "Text"
abbrev DefP (K : PySem.W.Frag) (mg : Str → Option Value) (x : Str) (st : Stmt) : Prop := ∃ f fd, FunD K x x (defArgs st) (defBody st) (defScope st) [] [] f fd ∧ mg x = some (.ref f)
structure Txt (K : PySem.W.Frag) (mg : Str → Option Value) : Prop where
  k_TAB : ∃ u, mg "TAB" = some u ∧ RelV (.int (9)) u
  k_LINE_END : ∃ u, mg "LINE_END" = some u ∧ RelV (.int (10)) u
  k_RETURN : ∃ u, mg "RETURN" = some u ∧ RelV (.int (13)) u
  k_SPACE : ∃ u, mg "SPACE" = some u ∧ RelV (.int (32)) u
  k_HASH : ∃ u, mg "HASH" = some u ∧ RelV (.int (35)) u
  k_HYPHEN : ∃ u, mg "HYPHEN" = some u ∧ RelV (.int (45)) u
  k_BACKQUOTE : ∃ u, mg "BACKQUOTE" = some u ∧ RelV (.int (96)) u
  k_MOST_LEVEL : ∃ u, mg "MOST_LEVEL" = some u ∧ RelV (.int (6)) u
  k_BLANK : ∃ u, mg "BLANK" = some u ∧ RelV (.int (0)) u
  k_FENCE : ∃ u, mg "FENCE" = some u ∧ RelV (.int (1)) u
  k_HEADING : ∃ u, mg "HEADING" = some u ∧ RelV (.int (2)) u
  k_ITEM : ∃ u, mg "ITEM" = some u ∧ RelV (.int (3)) u
  k_PLAIN_lines : ∃ u, mg "PLAIN_lines" = some u ∧ RelV (.int (4)) u
  k_STAR : ∃ u, mg "STAR" = some u ∧ RelV (.int (42)) u
  k_OPEN : ∃ u, mg "OPEN" = some u ∧ RelV (.int (40)) u
  k_SHUT : ∃ u, mg "SHUT" = some u ∧ RelV (.int (41)) u
  k_OPENING : ∃ u, mg "OPENING" = some u ∧ RelV (.int (91)) u
  k_BACKSLASH : ∃ u, mg "BACKSLASH" = some u ∧ RelV (.int (92)) u
  k_CLOSING : ∃ u, mg "CLOSING" = some u ∧ RelV (.int (93)) u
  k_PLAIN_things : ∃ u, mg "PLAIN_things" = some u ∧ RelV (.int (0)) u
  k_SIGN : ∃ u, mg "SIGN" = some u ∧ RelV (.int (1)) u
  k_CODE : ∃ u, mg "CODE" = some u ∧ RelV (.int (2)) u
  k_MARK : ∃ u, mg "MARK" = some u ∧ RelV (.int (3)) u
  k_LINK : ∃ u, mg "LINK" = some u ∧ RelV (.int (4)) u
  k_TEXT : ∃ u, mg "TEXT" = some u ∧ RelV (.int (0)) u
  k_SPAN : ∃ u, mg "SPAN" = some u ∧ RelV (.int (1)) u
  k_PARAGRAPH : ∃ u, mg "PARAGRAPH" = some u ∧ RelV (.int (2)) u
  k_PARAGRAPH_END : ∃ u, mg "PARAGRAPH_END" = some u ∧ RelV (.int (3)) u
  k_HEAD : ∃ u, mg "HEAD" = some u ∧ RelV (.int (4)) u
  k_HEAD_END : ∃ u, mg "HEAD_END" = some u ∧ RelV (.int (5)) u
  k_ROW : ∃ u, mg "ROW" = some u ∧ RelV (.int (6)) u
  k_ROW_END : ∃ u, mg "ROW_END" = some u ∧ RelV (.int (7)) u
  k_POINT : ∃ u, mg "POINT" = some u ∧ RelV (.int (8)) u
  k_POINT_END : ∃ u, mg "POINT_END" = some u ∧ RelV (.int (9)) u
  k_BLOCK : ∃ u, mg "BLOCK" = some u ∧ RelV (.int (10)) u
  k_BLOCK_LINE : ∃ u, mg "BLOCK_LINE" = some u ∧ RelV (.int (11)) u
  k_BLOCK_END : ∃ u, mg "BLOCK_END" = some u ∧ RelV (.int (12)) u
  k_STRESS : ∃ u, mg "STRESS" = some u ∧ RelV (.int (13)) u
  k_STRESS_END : ∃ u, mg "STRESS_END" = some u ∧ RelV (.int (14)) u
  k_ANCHOR : ∃ u, mg "ANCHOR" = some u ∧ RelV (.int (15)) u
  k_ANCHOR_END : ∃ u, mg "ANCHOR_END" = some u ∧ RelV (.int (16)) u
  k_TOO_LONG : ∃ u, mg "TOO_LONG" = some u ∧ RelV (.int (-1)) u
  k_HAS_ENDED : ∃ u, mg "HAS_ENDED" = some u ∧ RelV (.int (-2)) u
  k_NOT_THERE : ∃ u, mg "NOT_THERE" = some u ∧ RelV (.int (-3)) u
  k_MOST_TEXT : ∃ u, mg "MOST_TEXT" = some u ∧ RelV (.int (16384)) u
  k_MOST_ALONE : ∃ u, mg "MOST_ALONE" = some u ∧ RelV (.int (2048)) u
  b_len : mg "len" = none
  b_list : mg "list" = none
  b_range : mg "range" = none
  b_ord : mg "ord" = none
  b_str : mg "str" = none
  g_NUMBERS : mg "NUMBERS" = some (.ref (He.ga K "NUMBERS"))
  g_ROWS : mg "ROWS" = some (.ref (He.ga K "ROWS"))
  g_DEEDS : mg "DEEDS" = some (.ref (He.ga K "DEEDS"))
  g_TAGS : mg "TAGS" = some (.ref (He.ga K "TAGS"))
  g_WRITTEN : mg "WRITTEN" = some (.ref (He.ga K "WRITTEN"))
  t_NUMBERS : ∀ H, SqT K H (He.ga K "NUMBERS") [.int 0, .int 0, .int 0, .int 0, .int 1, .int 0, .int 0, .int 0]
  t_ROWS : ∀ H, SqT K H (He.ga K "ROWS") [.int 0, .int 0, .int 1, .int 0, .int 0, .int 0, .int 1, .int 1]
  t_DEEDS : ∀ H, SqT K H (He.ga K "DEEDS") [.ref (He.ga K "begin"), .ref (He.ga K "begin"), .ref (He.ga K "feed"), .ref (He.ga K "end"), .ref (He.ga K "event"), .ref (He.ga K "html"), .ref (He.ga K "every"), .ref (He.ga K "told_lines")]
  g_begin : mg "begin" = some (.ref (He.ga K "begin"))
  g_feed : mg "feed" = some (.ref (He.ga K "feed"))
  g_end : mg "end" = some (.ref (He.ga K "end"))
  g_event : mg "event" = some (.ref (He.ga K "event"))
  g_html : mg "html" = some (.ref (He.ga K "html"))
  g_every : mg "every" = some (.ref (He.ga K "every"))
  g_told_lines : mg "told_lines" = some (.ref (He.ga K "told_lines"))
  i_TAGS : IDict K (He.ga K "TAGS") [(2, "<p>"), (3, "</p>\n"), (6, "<ul>\n"), (7, "</ul>\n"), (8, "<li>"), (9, "</li>\n"), (12, "</pre>\n"), (13, "<em>"), (14, "</em>"), (16, "</a>")]
  i_WRITTEN : IDict K (He.ga K "WRITTEN") [(38, "&amp;"), (60, "&lt;"), (62, "&gt;"), (34, "&quot;")]
  g_Line : mg "Line" = some (.ref (cLine K))
  cl_Line : Cls K (cLine K)
  mk_Line : Mk K (cLine K) (He.ma K (cLine K) "__init__")
  n_Line_row : NoAttr K (cLine K) "row"
  n_Line_kind : NoAttr K (cLine K) "kind"
  n_Line_number : NoAttr K (cLine K) "number"
  n_Line_text : NoAttr K (cLine K) "text"
  g_Thing : mg "Thing" = some (.ref (cThing K))
  cl_Thing : Cls K (cThing K)
  mk_Thing : Mk K (cThing K) (He.ma K (cThing K) "__init__")
  n_Thing_form : NoAttr K (cThing K) "form"
  n_Thing_byte : NoAttr K (cThing K) "byte"
  n_Thing_inner : NoAttr K (cThing K) "inner"
  n_Thing_address : NoAttr K (cThing K) "address"
  g_Teller : mg "Teller" = some (.ref (cTeller K))
  cl_Teller : Cls K (cTeller K)
  mk_Teller : Mk K (cTeller K) (He.ma K (cTeller K) "__init__")
  n_Teller_events : NoAttr K (cTeller K) "events"
  n_Teller_depth : NoAttr K (cTeller K) "depth"
  g_Text : mg "Text" = some (.ref (cText K))
  cl_Text : Cls K (cText K)
  mk_Text : Mk K (cText K) (He.ma K (cText K) "__init__")
  n_Text_row : NoAttr K (cText K) "row"
  n_Text_has_ended : NoAttr K (cText K) "has_ended"
  n_Text_events : NoAttr K (cText K) "events"
  d_Line_init : ∃ fd, FunD K "__init__" "Line.__init__" (defArgs s_Line_init) (defBody s_Line_init) (defScope s_Line_init) [] [] (He.ma K (cLine K) "__init__") fd
  d_is_blank : DefP K mg "is_blank" s_is_blank
  d_is_space : DefP K mg "is_space" s_is_space
  d_trimmed : DefP K mg "trimmed" s_trimmed
  d_many_ahead : DefP K mg "many_ahead" s_many_ahead
  d_ends_or_blank : DefP K mg "ends_or_blank" s_ends_or_blank
  d_is_fence : DefP K mg "is_fence" s_is_fence
  d_ends_code : DefP K mg "ends_code" s_ends_code
  d_line_of : DefP K mg "line_of" s_line_of
  d_lines_of : DefP K mg "lines_of" s_lines_of
  d_Thing_init : ∃ fd, FunD K "__init__" "Thing.__init__" (defArgs s_Thing_init) (defBody s_Thing_init) (defScope s_Thing_init) [] [] (He.ma K (cThing K) "__init__") fd
  d_is_sign : DefP K mg "is_sign" s_is_sign
  d_byte_thing : DefP K mg "byte_thing" s_byte_thing
  d_next_backquote : DefP K mg "next_backquote" s_next_backquote
  d_first_things : DefP K mg "first_things" s_first_things
  d_is_mark : DefP K mg "is_mark" s_is_mark
  d_is_plain : DefP K mg "is_plain" s_is_plain
  d_is_bracket : DefP K mg "is_bracket" s_is_bracket
  d_brackets_ahead : DefP K mg "brackets_ahead" s_brackets_ahead
  d_may_be_in_address : DefP K mg "may_be_in_address" s_may_be_in_address
  d_address_end : DefP K mg "address_end" s_address_end
  d_link_at : DefP K mg "link_at" s_link_at
  d_linked : DefP K mg "linked" s_linked
  d_is_space_thing : DefP K mg "is_space_thing" s_is_space_thing
  d_ends_ahead : DefP K mg "ends_ahead" s_ends_ahead
  d_emphasis_at : DefP K mg "emphasis_at" s_emphasis_at
  d_running_things : DefP K mg "running_things" s_running_things
  d_Teller_init : ∃ fd, FunD K "__init__" "Teller.__init__" (defArgs s_Teller_init) (defBody s_Teller_init) (defScope s_Teller_init) [] [] (He.ma K (cTeller K) "__init__") fd
  d_Teller_tell : ∃ fd, FunD K "tell" "Teller.tell" (defArgs s_Teller_tell) (defBody s_Teller_tell) (defScope s_Teller_tell) [] [] (He.ma K (cTeller K) "tell") fd
  m_tell : Meth K (cTeller K) "tell" (He.ma K (cTeller K) "tell")
  d_Teller_tell_bytes : ∃ fd, FunD K "tell_bytes" "Teller.tell_bytes" (defArgs s_Teller_tell_bytes) (defBody s_Teller_tell_bytes) (defScope s_Teller_tell_bytes) [] [] (He.ma K (cTeller K) "tell_bytes") fd
  m_tell_bytes : Meth K (cTeller K) "tell_bytes" (He.ma K (cTeller K) "tell_bytes")
  d_tell_plain : DefP K mg "tell_plain" s_tell_plain
  d_tell_things : DefP K mg "tell_things" s_tell_things
  d_tell_running : DefP K mg "tell_running" s_tell_running
  d_close_items : DefP K mg "close_items" s_close_items
  d_tell_item : DefP K mg "tell_item" s_tell_item
  d_code_end : DefP K mg "code_end" s_code_end
  d_tell_code : DefP K mg "tell_code" s_tell_code
  d_plain_end : DefP K mg "plain_end" s_plain_end
  d_joined_texts : DefP K mg "joined_texts" s_joined_texts
  d_tell_heading : DefP K mg "tell_heading" s_tell_heading
  d_tell_block : DefP K mg "tell_block" s_tell_block
  d_events_of : DefP K mg "events_of" s_events_of
  d_bytes_of : DefP K mg "bytes_of" s_bytes_of
  d_safe : DefP K mg "safe" s_safe
  d_event_page : DefP K mg "event_page" s_event_page
  d_page_of : DefP K mg "page_of" s_page_of
  d_Text_init : ∃ fd, FunD K "__init__" "Text.__init__" (defArgs s_Text_init) (defBody s_Text_init) (defScope s_Text_init) [] [] (He.ma K (cText K) "__init__") fd
  d_listed : DefP K mg "listed" s_listed
  d_begin : DefP K mg "begin" s_begin
  d_feed : DefP K mg "feed" s_feed
  d_end : DefP K mg "end" s_end
  d_event_told : DefP K mg "event_told" s_event_told
  d_event : DefP K mg "event" s_event
  d_html : DefP K mg "html" s_html
  d_every : DefP K mg "every" s_every
  d_line_told : DefP K mg "line_told" s_line_told
  d_told_lines : DefP K mg "told_lines" s_told_lines
  d_answers : DefP K mg "answers" s_answers
section
variable {P : Program} {w : World} {K : PySem.W.Frag} {mg : Str → Option Value} {base : Heap}
abbrev BodyP (P : Program) (w : World) (K : PySem.W.Frag) (mg : Str → Option Value) (base : Heap) (k : Nat) (qual : Str) (st : Stmt) (N ps : List Str) (f : Addr) (sp : Sp) : Prop :=
  ∀ (cdv : Value) (A : Around) (outer : List Env) (s : Shared) (H : Hp) (vs : List V) (Q : VK) (E : XK), Room k (A.deeper (envOfC qual (defScope st) s.heap.objs.size f cdv)) → sp vs H Q E →
      ∃ t, PSs (cxOf C8.CX0 P w K mg base N qual (defScope st) f cdv A outer s H E).nox (defBody st) t ∧ t { nx := fun _ H' => Q .non H', rt := Q } (start N vs) H
theorem fn_d {x qual : Str} {st : Stmt} {f : Addr} {fd : FuncData} {N ps : List Str} {k : Nat} {sp : Sp} (F : FunD K x qual (defArgs st) (defBody st) (defScope st) [] [] f fd) (S : FnScope N ps (defScope st)) (len : ∀ vs H Q E, sp vs H Q E → vs.length = ps.length)
    (hbody : BodyP P w K mg base k qual st N ps f sp) : FnOk P w K mg base C8.CX0 (k + 1) f fd ps sp := by
  refine F.ok S len fun cdv A outer s H vs Q E hr hsp => ?_
  obtain ⟨t, h, q⟩ := hbody cdv A outer s H vs Q E hr hsp
  exact ⟨t, h.nox, q⟩
theorem cal_d {x : Str} {st : Stmt} {N ps : List Str} {k : Nat} {sp : Sp} (D : DefP K mg x st) (S : FnScope N ps (defScope st)) (b : Bi x x st ps) (len : ∀ vs H Q E, sp vs H Q E → vs.length = ps.length)
    (hbody : ∀ f, BodyP P w K mg base k x st N ps f sp) : Cal P w K mg base (k + 1) x sp [] := by
  obtain ⟨f, fd, F, g⟩ := D
  exact ⟨f, fd, ps, [], fn_d F S len (hbody f), g, F.kp, F.bindsN b, .nil⟩
theorem mak_d {x qual : Str} {C f : Addr} {st : Stmt} {N ps : List Str} {k : Nat} {sp : Sp} (M : Mk K C f) (hm : mg x = some (.ref C)) (D : ∃ fd, FunD K "__init__" qual (defArgs st) (defBody st) (defScope st) [] [] f fd) (S : FnScope N ps (defScope st)) (b : Bi "__init__" qual st ps)
    (len : ∀ vs H Q E, sp vs H Q E → vs.length = ps.length) (hbody : BodyP P w K mg base k qual st N ps f sp) : Mak P w K mg base (k + 1) x C sp [] := by
  obtain ⟨fd, F⟩ := D
  exact ⟨f, fd, ps, [], M, fn_d F S len hbody, hm, F.bindsN b, .nil⟩
theorem met_d {m qual : Str} {C f : Addr} {st : Stmt} {N ps : List Str} {k : Nat} {sp : Sp} (c : Cls K C) (me : Meth K C m f) (D : ∃ fd, FunD K m qual (defArgs st) (defBody st) (defScope st) [] [] f fd) (S : FnScope N ps (defScope st)) (b : Bi m qual st ps)
    (len : ∀ vs H Q E, sp vs H Q E → vs.length = ps.length) (hbody : BodyP P w K mg base k qual st N ps f sp) : Met P w K mg base (k + 1) C m sp [] := by
  obtain ⟨fd, F⟩ := D
  exact ⟨f, fd, ps, [], c, me, fn_d F S len hbody, F.bindsN b, .nil⟩
end
section
variable {X : Cx} {k j : Nat} {C : Addr} {x : Str} {sp : Sp} {dvs : List V} {p pos : Pos}
theorem pe_mk0 (c : Mak X.prog X.w X.K X.mg X.base k x C sp dvs) (hr : Room j X.A) (hk : k + 1 ≤ j) (hg : Gl X x) (hdb : (x == ("__debug__" : Str)) = false := by decide) :
    PE X (.Call (.Name x p) [] [] pos) (tMake C sp dvs C8.E0 tNil) := by
  obtain ⟨f, fd, ps, ds, M, F, hm, b, d⟩ := c.ex
  exact pe_make0 M F (hr.mono hk) hg hm b d C8.pass0 hdb
end
end Mk
set_option Elab.async false
set_option linter.all false
set_option maxRecDepth 100000
set_option maxHeartbeats 4000000
namespace Mk
open PySem PySem.Spec PyProof.Rows L2 C8 Evl
theorem call_lenS {X : Cx} : CallR X (.builtin "len") (rLenS X.K) := by
  intro pins s σ H xs us Q I r h
  obtain ⟨p, ys, rfl, hq, q⟩ := h
  refine call_len pins s σ H _ us Q I r ⟨.ref p, ys.length, rfl, ?_, q⟩
  rcases hq with hq | hq
  · exact .inl ⟨ys, hq, rfl⟩
  · exact .inr ⟨ys, hq, rfl⟩
theorem call_listS {X : Cx} : CallR X (.type "list") (rListS X.K) := call_list_of
def bV (c : UInt8) : V := .int (c.toNat : Int)
def bs (l : List UInt8) : List V := l.map bV
theorem bs_len (l : List UInt8) : (bs l).length = l.length := List.length_map ..
theorem bs_nil : bs [] = [] := rfl
theorem bs_cons (c : UInt8) (l : List UInt8) : bs (c :: l) = bV c :: bs l := rfl
theorem bs_app (a b : List UInt8) : bs (a ++ b) = bs a ++ bs b := List.map_append ..
theorem bs_get {l : List UInt8} {i : Nat} {c : UInt8} (h : l[i]? = some c) : (bs l)[i]? = some (bV c) := by
  unfold bs
  rw [List.getElem?_map, h]
  rfl
theorem bs_empty (l : List UInt8) : (bs l).isEmpty = l.isEmpty := by
  cases l <;> rfl
theorem bs_at {l : List UInt8} {i : Nat} {c : UInt8} (h : l[i]? = some c) : atI (bs l) (i : Int) = some (bV c) := atI_nat (bs_get h)
theorem bV_inj {c d : UInt8} : (bV c = bV d) ↔ c = d := by
  constructor
  · intro h
    have h1 : (c.toNat : Int) = (d.toNat : Int) := V.int.inj h
    exact UInt8.toNat_inj.mp (by omega)
  · intro h
    rw [h]
theorem bV_dec (c d : UInt8) : decide (bV c = bV d) = (c == d) := by
  by_cases h : c = d
  · subst h
    simp
  · have : ¬ bV c = bV d := fun z => h (bV_inj.mp z)
    simp [h, this]
theorem bV_dec' (c : UInt8) {n : Nat} (d : UInt8) (h : d.toNat = n) : decide (bV c = V.int (n : Int)) = (c == d) := by
  subst h
  exact bV_dec c d
theorem bV_eqV (c : UInt8) {n : Nat} (d : UInt8) (h : d.toNat = n) : eqV (V.int (n : Int)) (bV c) = (c == d) := by
  subst h
  show ((d.toNat : Int) == (c.toNat : Int)) = (c == d)
  by_cases e : c = d
  · subst e
    simp
  · have h1 : ¬ c.toNat = d.toNat := fun z => e (UInt8.toNat_inj.mp z)
    have h2 : ((d.toNat : Int) == (c.toNat : Int)) = false := by
      rw [beq_eq_false_iff_ne]
      intro z
      exact h1 (by omega)
    rw [h2]
    simp [e]
theorem bV_flat (c : UInt8) : flatV (bV c) = true := rfl
theorem cutV_nat (xs : List V) (b e : Nat) : cutV xs (some (b : Int)) (some (e : Int)) = MA.cut xs b e := by
  unfold cutV MA.cut
  rw [HT.sIx_nat, HT.sIx_nat, List.drop_take]
  by_cases hb : b ≤ xs.length
  · rw [Nat.min_eq_left hb]
    by_cases he : e ≤ xs.length
    · rw [Nat.min_eq_left he]
    · rw [Nat.min_eq_right (by omega)]
      rw [List.take_of_length_le (by rw [List.length_drop]; omega), List.take_of_length_le (by rw [List.length_drop]; omega)]
  · rw [List.drop_eq_nil_of_le (as := xs) (i := b) (by omega), List.drop_eq_nil_of_le (as := xs) (i := min b xs.length) (by omega), List.take_nil, List.take_nil]
theorem cutV_from (xs : List V) (b : Nat) : cutV xs (some (b : Int)) none = xs.drop b := by
  unfold cutV
  rw [HT.sIx_nat, HT.sIx_none]
  by_cases hb : b ≤ xs.length
  · rw [Nat.min_eq_left hb]
    exact List.take_of_length_le (by rw [List.length_drop]; exact Nat.le_refl _)
  · rw [List.drop_eq_nil_of_le (as := xs) (i := b) (by omega), List.drop_eq_nil_of_le (as := xs) (i := min b xs.length) (by omega), List.take_nil]
theorem cut_bs (l : List UInt8) (b e : Nat) : MA.cut (bs l) b e = bs (MA.cut l b e) := by
  unfold MA.cut bs
  rw [List.map_drop, List.map_take]
theorem cut_map {α β : Type} (f : α → β) (l : List α) (b e : Nat) : MA.cut (l.map f) b e = (MA.cut l b e).map f := by
  unfold MA.cut
  rw [List.map_drop, List.map_take]
theorem drop_bs (l : List UInt8) (b : Nat) : (bs l).drop b = bs (l.drop b) := by
  unfold bs
  rw [List.map_drop]
open Classical in
noncomputable def out (F : Addr → Prop) (H : Hp) : Hp := fun b => if F b then none else H b
theorem out_at {F : Addr → Prop} {H : Hp} {b : Addr} (h : ¬ F b) : out F H b = H b := by
  unfold out
  rw [if_neg h]
theorem out_of {F : Addr → Prop} {H : Hp} {b : Addr} {o : HO} (h : out F H b = some o) : ¬ F b ∧ H b = some o := by
  unfold out at h
  split at h
  · cases h
  · rename_i hn
    exact ⟨hn, h⟩
theorem out_ex (F : Addr → Prop) (H : Hp) : Ex (out F H) H := fun b o h => (out_of h).2
theorem out_mono {F : Addr → Prop} {H H' : Hp} (h : Ex H H') : Ex (out F H) (out F H') := fun b o hb => by
  obtain ⟨h1, h2⟩ := out_of hb
  rw [out_at h1]
  exact h b o h2
def Win (F : Addr → Prop) (H : Hp) : Prop := ∀ b, H b = none → ¬ F b
theorem Win.ex {F : Addr → Prop} {H H' : Hp} (w : Win F H) (h : Ex H H') : Win F H' := fun b hb => w b (fresh_back h hb)
theorem Win.new {F : Addr → Prop} {H H' : Hp} (w : Win F H) {p : Addr} {o : HO} (hp : H p = none) (h : H' p = some o) : out F H' p = some o := by
  rw [out_at (w p hp)]
  exact h
theorem win_none (H : Hp) : Win (fun _ => False) H := fun _ _ h => h
theorem out_none (H : Hp) : out (fun _ => False) H = H := by
  funext b
  exact out_at fun h => h
theorem Ex.upd_mut {H H' : Hp} {p : Addr} {o : HO} (e : Ex H H') (h : H p = none) : Ex H (upd H' p o) := Evl.Ex.mut e h
def EvG (te : TE) (σ : L2.St) (H : Hp) (P : V → Hp → Hp → Prop) : Prop := ∀ H1, Ex H H1 → ∀ Q : VK, (∀ v H2, Ex H1 H2 → P v H1 H2 → Q v H2) → te σ H1 Q
section
variable {K : PySem.W.Frag} {σ : L2.St} {H H' : Hp} {ta tb tc te : TE} {x y z v : V}
theorem ev_ixB {p : Addr} {l : List UInt8} {i : Nat} {j : Int} {c : UInt8} (ha : Ev ta σ H (.ref p)) (hb : Ev tb σ H (.int j)) (h : SqL K H p (bs l)) (hj : j = (i : Int)) (hc : l[i]? = some c) : Ev (tOp (rIxL K) ta tb) σ H (bV c) := by
  subst hj
  exact ev_op ha hb (rv_ixL h (bs_at hc))
theorem ev_ixL {p : Addr} {xs : List V} {i : Nat} {j : Int} (ha : Ev ta σ H (.ref p)) (hb : Ev tb σ H (.int j)) (h : SqL K H p xs) (hj : j = (i : Int)) (hc : xs[i]? = some v) : Ev (tOp (rIxL K) ta tb) σ H v := by
  subst hj
  exact ev_op ha hb (rv_ixL h (atI_nat hc))
theorem ev_ixT {p : Addr} {xs : List V} {i : Nat} {j : Int} (ha : Ev ta σ H (.ref p)) (hb : Ev tb σ H (.int j)) (h : SqT K H p xs) (hj : j = (i : Int)) (hc : xs[i]? = some v) : Ev (tOp (rIxT K) ta tb) σ H v := by
  subst hj
  exact ev_op ha hb (rv_ixT h (atI_nat hc))
theorem ev_add {i j k : Int} (ha : Ev ta σ H (.int i)) (hb : Ev tb σ H (.int j)) (e : i + j = k) : Ev (tOp (rI0 fun i j => .int (i + j)) ta tb) σ H (.int k) := by
  subst e
  exact ev_op ha hb rv_I0
theorem ev_sub {i j k : Int} (ha : Ev ta σ H (.int i)) (hb : Ev tb σ H (.int j)) (e : i - j = k) : Ev (tOp (rI0 fun i j => .int (i - j)) ta tb) σ H (.int k) := by
  subst e
  exact ev_op ha hb rv_I0
theorem ev_neg {i k : Int} (ha : Ev ta σ H (.int i)) (e : -i = k) : Ev (tUn (rU fun i => .int (-i)) ta) σ H (.int k) := by
  subst e
  exact ev_un ha ru_neg
theorem ev_lt {i j : Int} {b : Bool} (ha : Ev ta σ H (.int i)) (hb : Ev tb σ H (.int j)) (e : decide (i < j) = b) : Ev (tOp (rI0 fun i j => .bl (decide (i < j))) ta tb) σ H (.bl b) := by
  subst e
  exact ev_op ha hb rv_I0
theorem ev_le {i j : Int} {b : Bool} (ha : Ev ta σ H (.int i)) (hb : Ev tb σ H (.int j)) (e : decide (i ≤ j) = b) : Ev (tOp (rI0 fun i j => .bl (decide (i ≤ j))) ta tb) σ H (.bl b) := by
  subst e
  exact ev_op ha hb rv_I0
theorem ev_gt {i j : Int} {b : Bool} (ha : Ev ta σ H (.int i)) (hb : Ev tb σ H (.int j)) (e : decide (j < i) = b) : Ev (tOp (rI0 fun i j => .bl (decide (j < i))) ta tb) σ H (.bl b) := by
  subst e
  exact ev_op ha hb rv_I0
theorem ev_ge {i j : Int} {b : Bool} (ha : Ev ta σ H (.int i)) (hb : Ev tb σ H (.int j)) (e : decide (j ≤ i) = b) : Ev (tOp (rI0 fun i j => .bl (decide (j ≤ i))) ta tb) σ H (.bl b) := by
  subst e
  exact ev_op ha hb rv_I0
theorem ev_eqI {i j : Int} {b : Bool} (ha : Ev ta σ H (.int i)) (hb : Ev tb σ H (.int j)) (e : decide (i = j) = b) : Ev (tOp rEq ta tb) σ H (.bl b) := by
  refine ev_is (ev_op ha hb (rv_eq rfl)) ?_
  rw [dec_int, ← e]
  by_cases h : i = j <;> simp [h]
theorem ev_neI {i j : Int} {b : Bool} (ha : Ev ta σ H (.int i)) (hb : Ev tb σ H (.int j)) (e : (!decide (i = j)) = b) : Ev (tOp rNe ta tb) σ H (.bl b) := by
  refine ev_is (ev_op ha hb (rv_ne rfl)) ?_
  rw [dec_int, ← e]
  by_cases h : i = j <;> simp [h]
theorem ev_eqB {c : UInt8} {n : Nat} {b : Bool} (d : UInt8) (ha : Ev ta σ H (bV c)) (hb : Ev tb σ H (.int (n : Int))) (hd : d.toNat = n) (e : (c == d) = b) : Ev (tOp rEq ta tb) σ H (.bl b) := by
  subst e
  refine ev_is (ev_op ha hb (rv_eq rfl)) ?_
  rw [bV_dec' c d hd]
theorem ev_neB {c : UInt8} {n : Nat} {b : Bool} (d : UInt8) (ha : Ev ta σ H (bV c)) (hb : Ev tb σ H (.int (n : Int))) (hd : d.toNat = n) (e : (!(c == d)) = b) : Ev (tOp rNe ta tb) σ H (.bl b) := by
  subst e
  refine ev_is (ev_op ha hb (rv_ne rfl)) ?_
  rw [bV_dec' c d hd]
theorem ev_eqE {a : Addr} {xs : List V} {b : Bool} (ha : Ev ta σ H (.ref a)) (h : SqL K H a xs) (e : xs.isEmpty = b) : Ev (tOp (rEqE K) ta (tLst tNil)) σ H (.bl b) := by
  subst e
  exact ev_opL ha (el_lst ea_nil (by decide)) fun p H1 hp e1 => rv_val fun H2 e2 Q q => ⟨a, p, xs, rfl, rfl, ex_l (e1.trans e2) h, ex_l e2 (sq_of hp), q⟩
theorem ev_neE {a : Addr} {xs : List V} {b : Bool} (ha : Ev ta σ H (.ref a)) (h : SqL K H a xs) (e : (!xs.isEmpty) = b) : Ev (tOp (rNeE K) ta (tLst tNil)) σ H (.bl b) := by
  subst e
  exact ev_opL ha (el_lst ea_nil (by decide)) fun p H1 hp e1 => rv_val fun H2 e2 Q q => ⟨a, p, xs, rfl, rfl, ex_l (e1.trans e2) h, ex_l e2 (sq_of hp), q⟩
def zs (l : List UInt8) : List Int := l.map fun c => (c.toNat : Int)
theorem bs_zs (l : List UInt8) : bs l = (zs l).map V.int := by
  unfold bs zs
  rw [List.map_map]
  rfl
theorem zs_inj : ∀ {l m : List UInt8}, zs l = zs m → l = m
  | [], [], _ => rfl
  | [], _ :: _, h => by cases h
  | _ :: _, [], h => by cases h
  | c :: l, d :: m, h => by
    have h1 := List.cons.inj (show (c.toNat : Int) :: zs l = (d.toNat : Int) :: zs m from h)
    have h2 : c = d := UInt8.toNat_inj.mp (by have := h1.1; omega)
    rw [h2, zs_inj h1.2]
theorem ev_eqLL {l m : List UInt8} {b : Bool} (ha : EvL ta σ H (bs l)) (hb : EvL tb σ H (bs m)) (e : decide (l = m) = b) : Ev (tOp (rEqL K) ta tb) σ H (.bl b) := by
  subst e
  refine ev_opLL ha hb fun p q H1 hp hq e1 => rv_val fun H2 e2 Q k => ⟨p, q, zs l, zs m, rfl, rfl, by rw [← bs_zs]; exact ex_l e2 (sq_of hp), by rw [← bs_zs]; exact ex_l e2 (sq_of hq), ?_⟩
  have e3 : decide (zs l = zs m) = decide (l = m) := decide_eq_decide.mpr ⟨zs_inj, fun h => by rw [h]⟩
  rw [e3]
  exact k
theorem ev_eqEL {xs : List V} {b : Bool} (ha : EvL ta σ H xs) (e : xs.isEmpty = b) : Ev (tOp (rEqE K) ta (tLst tNil)) σ H (.bl b) := by
  subst e
  exact ev_opLL ha (el_lst ea_nil (by decide)) fun p q H1 hp hq e1 => rv_val fun H2 e2 Q k => ⟨p, q, xs, rfl, rfl, ex_l e2 (sq_of hp), ex_l e2 (sq_of hq), k⟩
theorem ev_chain {f g : Int → Int → Bool} {i j k : Int} {b : Bool} (ha : Ev ta σ H (.int i)) (hb : Ev tb σ H (.int j)) (hc : Ev tc σ H (.int k)) (e : (f i j && g j k) = b) : Ev (tChain (rI0 fun i j => .bl (f i j)) (rI0 fun i j => .bl (g i j)) ta tb tc) σ H (.bl b) := fun H1 e1 Q q =>
  ha H1 e1 _ fun H2 e2 => hb H2 (e1.trans e2) _ fun H3 e3 => ⟨i, j, rfl, rfl, f i j, rfl, by
    cases hf : f i j with
    | true =>
      rw [hf] at e
      refine iteT (hc H3 ((e1.trans e2).trans e3) _ fun H4 e4 => ⟨j, k, rfl, rfl, ?_⟩)
      show Q (V.bl (g j k)) H4
      rw [show g j k = b from e]
      exact q H4 ((e2.trans e3).trans e4)
    | false =>
      rw [hf] at e
      refine iteF ?_
      rw [show false = b from e]
      exact q H3 (e2.trans e3)⟩
theorem ev_fld {a C dx : Addr} {fs : List (Str × V)} {f : Str} (ha : Ev ta σ H (.ref a)) (h : H a = some (.ins C dx fs)) (c : Cls K C) (n : NoAttr K C f) (l : fs.lookup f = some v) : Ev (tFld K ta f) σ H v := fun H1 e1 Q q =>
  ha H1 e1 _ fun H2 e2 => ⟨a, C, dx, fs, v, rfl, (e1.trans e2) a _ h, c, n, l, q H2 e2⟩
end
section
variable {K : PySem.W.Frag} {σ : L2.St} {H H' : Hp} {ta : TA} {u v z : V} {tz : TS} {D : Ends}
theorem q_par {i j : Nat} (h : EvA ta σ H [u, v]) (k : ∀ H1, Ex H H1 → tz D ((σ.set i (some u)).set j (some v)) H1) : tSeq (tPar i j ta) tz D σ H := h H (Ex.refl H) _ fun H1 e => ⟨u, v, rfl, k H1 e⟩
theorem q_parN {i j : Nat} {tb : TE} (h : Ev tb σ H v) (k : ∀ p H1, H p = none → Ex H H1 → H1 p = some (.lst []) → tz D ((σ.set i (some (.ref p))).set j (some v)) H1) : tSeq (tPar i j (tCons (tLst tNil) (tCons tb tNil))) tz D σ H := by
  show tLst tNil σ H fun x H1 => tb σ H1 fun y H2 => ∃ u w, [x, y] = [u, w] ∧ tz D ((σ.set i (some u)).set j (some w)) H2
  exact (el_lst ea_nil (by decide)) H (Ex.refl H) _ fun p H1 hp e1 h1 => h H1 e1 _ fun H2 e2 => ⟨.ref p, v, rfl, k p H2 hp (e1.trans e2) (e2 p _ h1)⟩
end
section
variable {σ : L2.St} {H : Hp} {t u : TT} {ta tb : TE} {b : Bool}
theorem et_andF (h : EvT t σ H false) : EvT (tAnd t u) σ H false := et_and (b := true) h fun z => Bool.noConfusion z
theorem et_andT (h : EvT t σ H true) (h2 : EvT u σ H b) : EvT (tAnd t u) σ H b := et_and h fun _ => h2
theorem et_orT (h : EvT t σ H true) : EvT (tOr t u) σ H true := et_or (b := true) h fun z => Bool.noConfusion z
theorem et_orF (h : EvT t σ H false) (h2 : EvT u σ H b) : EvT (tOr t u) σ H b := et_or h fun _ => h2
theorem ev_andF (h : Ev ta σ H (.bl false)) : Ev (tAndV ta tb) σ H (.bl false) := ev_andV (b := true) h fun z => Bool.noConfusion z
theorem ev_andT (h : Ev ta σ H (.bl true)) (h2 : Ev tb σ H (.bl b)) : Ev (tAndV ta tb) σ H (.bl b) := ev_andV h fun _ => h2
theorem ev_orT (h : Ev ta σ H (.bl true)) : Ev (tOrV ta tb) σ H (.bl true) := ev_orV (b := true) h fun z => Bool.noConfusion z
theorem ev_orF (h : Ev ta σ H (.bl false)) (h2 : Ev tb σ H (.bl b)) : Ev (tOrV ta tb) σ H (.bl b) := ev_orV h fun _ => h2
end
theorem lk_here {k : Str} {v : V} {r : List (Str × V)} : List.lookup k ((k, v) :: r) = some v := by
  have e : (k == k) = true := beq_self_eq_true k
  simp only [List.lookup, e]
theorem lk_past {k g : Str} {v : V} {r : List (Str × V)} (h : (k == g) = false) : List.lookup k ((g, v) :: r) = List.lookup k r := by
  simp only [List.lookup, h]
theorem put_here {f : Str} {v x : V} {r : List (Str × V)} : putF f v ((f, x) :: r) = (f, v) :: r := if_pos rfl
theorem put_past {f g : Str} {v x : V} {r : List (Str × V)} (h : ¬ g = f) : putF f v ((g, x) :: r) = (g, x) :: putF f v r := if_neg h
end Mk
set_option Elab.async false
set_option linter.all false
set_option maxRecDepth 100000
set_option maxHeartbeats 4000000
namespace Mk
open PySem PySem.Spec PyProof.Rows L2 C8 Evl
section
variable {σ : L2.St} {H : Hp} {te : TE} {t u : TT} {tz : TS} {D : Ends}
theorem et_scan {α : Type} {l : List α} {p : α → Bool} {i : Nat} (h1 : EvT t σ H (decide (i < l.length))) (h2 : ∀ x, l[i]? = some x → EvT u σ H (p x)) : EvT (tAnd t u) σ H (l[i]?.any p) := by
  cases e : l[i]? with
  | none =>
    refine et_is (et_and (b := false) h1 fun z => ?_) ?_
    · have h3 := List.getElem?_eq_none_iff.mp e
      have h4 := of_decide_eq_true z
      omega
    · rw [Bool.and_false]
      rfl
  | some x =>
    have h3 := (List.getElem?_eq_some_iff.mp e).1
    refine et_is (et_and h1 fun _ => h2 x e) ?_
    rw [decide_eq_true h3]
    rfl
theorem q_scan {α : Type} {p : α → Bool} {l : List α} {j b : Nat} (hj : σ[j]? = some (some (.int (b : Int))))
    (hT : ∀ (i : Nat) H1, Ex H H1 → b ≤ i → EvT t (σ.set j (some (.int (i : Int)))) H1 (l[i]?.any p))
    (hS : ∀ (i : Nat) H1, Ex H H1 → Ev te (σ.set j (some (.int (i : Int)))) H1 (.int (((i + 1 : Nat)) : Int)))
    (k : ∀ H1, Ex H H1 → tz D (σ.set j (some (.int ((MA.spanF p l b : Nat) : Int)))) H1) : tSeq (tWhile t (tAsg te (gName j))) tz D σ H := by
  have hσ : σ.set j (some (.int (b : Int))) = σ := by
    refine List.ext_getElem? fun n => ?_
    rw [List.getElem?_set]
    split
    · rename_i e
      subst e
      split
      · exact hj.symm
      · rename_i h
        rw [List.getElem?_eq_none (by omega)] at hj
        cases hj
    · rfl
  refine q_while (fun m σ' H' => ∃ i : Nat, m = l.length - i ∧ b ≤ i ∧ σ' = σ.set j (some (.int (i : Int))) ∧ Ex H H' ∧ MA.spanF p l i = MA.spanF p l b) (l.length - b) ⟨b, rfl, Nat.le_refl _, hσ.symm, Ex.refl H, rfl⟩ ?_
  rintro m σ' H' ⟨i, rfl, hi, rfl, e, hs⟩
  refine ⟨_, hT i H' e hi, fun hb H1 e1 => ?_, fun hb H1 e1 => ?_⟩
  · cases hx : l[i]? with
    | none => rw [hx] at hb; cases hb
    | some x =>
      rw [hx] at hb
      have hp : p x = true := by simpa using hb
      have hl := (List.getElem?_eq_some_iff.mp hx).1
      refine ⟨fun σ2 H2 => σ2 = σ.set j (some (.int ((i + 1 : Nat) : Int))) ∧ Ex H H2, fun σ2 H2 ⟨h1, h2⟩ => ⟨l.length - (i + 1), by omega, i + 1, rfl, by omega, h1, h2, ?_⟩, ?_⟩
      · rw [← hs]
        exact (MA.spanF_step hx hp).symm
      · refine s_asg (hS i H1 (e.trans e1)) fun H2 e2 => ⟨?_, (e.trans e1).trans e2⟩
        rw [List.set_set]
  · have he : MA.spanF p l i = i := by
      cases hx : l[i]? with
      | none => exact MA.spanF_end (List.getElem?_eq_none_iff.mp hx)
      | some x =>
        rw [hx] at hb
        exact MA.spanF_stop hx (by simpa using hb)
    have g := k H1 (e.trans e1)
    rw [← hs, he] at g
    exact g
end
def spBlank : Sp := fun vs H Q _ => ∃ c, vs = [bV c] ∧ RetV (.bl (Ml.blank c)) H Q
def spSpace : Sp := fun vs H Q _ => ∃ c, vs = [bV c] ∧ RetV (.bl (Ml.space c)) H Q
def spTrimmed (K : PySem.W.Frag) : Sp := fun vs H Q _ => ∃ a l, vs = [.ref a] ∧ SqL K H a (bs l) ∧ l.length ≤ 40000 ∧ RetL (bs (Ml.trim l)) H Q
def spMany (K : PySem.W.Frag) : Sp := fun vs H Q _ => ∃ a l c, vs = [.ref a, bV c] ∧ SqL K H a (bs l) ∧ l.length ≤ 40000 ∧ RetV (.int ((MA.manyF c l : Nat) : Int)) H Q
def spEob (K : PySem.W.Frag) : Sp := fun vs H Q _ => ∃ a l i, vs = [.ref a, .int ((i : Nat) : Int)] ∧ SqL K H a (bs l) ∧ i ≤ l.length ∧ l.length ≤ 40000 ∧ RetV (.bl (MA.ebF l i)) H Q
def spFence (K : PySem.W.Frag) : Sp := fun vs H Q _ => ∃ a l, vs = [.ref a] ∧ SqL K H a (bs l) ∧ l.length ≤ 40000 ∧ RetV (.bl (decide (3 ≤ MA.manyF 96 l))) H Q
def spEndsCode (K : PySem.W.Frag) : Sp := fun vs H Q _ => ∃ a l, vs = [.ref a] ∧ SqL K H a (bs l) ∧ l.length ≤ 40000 ∧ RetV (.bl (decide (Ml.trim l = Ml.FENCE))) H Q
section
variable {K : PySem.W.Frag} {H : Hp}
theorem v_blank (c : UInt8) : SpV spBlank [bV c] H (.bl (Ml.blank c)) := fun H1 _ Q q _ => ⟨c, rfl, q⟩
theorem v_space (c : UInt8) : SpV spSpace [bV c] H (.bl (Ml.space c)) := fun H1 _ Q q _ => ⟨c, rfl, q⟩
theorem v_trimmed {a : Addr} {l : Ml.Bytes} (h : SqL K H a (bs l)) (hl : l.length ≤ 40000) : SpL (spTrimmed K) [.ref a] H (bs (Ml.trim l)) := fun H1 e Q q _ => ⟨a, l, rfl, ex_l e h, hl, q⟩
theorem v_many {a : Addr} {l : Ml.Bytes} (c : UInt8) (h : SqL K H a (bs l)) (hl : l.length ≤ 40000) : SpV (spMany K) [.ref a, bV c] H (.int ((MA.manyF c l : Nat) : Int)) := fun H1 e Q q _ => ⟨a, l, c, rfl, ex_l e h, hl, q⟩
theorem v_eob {a : Addr} {l : Ml.Bytes} {i : Nat} (h : SqL K H a (bs l)) (hi : i ≤ l.length) (hl : l.length ≤ 40000) : SpV (spEob K) [.ref a, .int (i : Int)] H (.bl (MA.ebF l i)) := fun H1 e Q q _ => ⟨a, l, i, rfl, ex_l e h, hi, hl, q⟩
theorem v_fence {a : Addr} {l : Ml.Bytes} (h : SqL K H a (bs l)) (hl : l.length ≤ 40000) : SpV (spFence K) [.ref a] H (.bl (decide (3 ≤ MA.manyF 96 l))) := fun H1 e Q q _ => ⟨a, l, rfl, ex_l e h, hl, q⟩
theorem v_endsCode {a : Addr} {l : Ml.Bytes} (h : SqL K H a (bs l)) (hl : l.length ≤ 40000) : SpV (spEndsCode K) [.ref a] H (.bl (decide (Ml.trim l = Ml.FENCE))) := fun H1 e Q q _ => ⟨a, l, rfl, ex_l e h, hl, q⟩
end
section
variable {P : Program} {w : World} {K : PySem.W.Frag} {mg : Str → Option Value} {base : Heap}
theorem in3 (c : UInt8) : inV (bV c) [.int 32, .int 9, .int 13] = Ml.blank c := by
  unfold inV Ml.blank
  simp only [List.any_cons, List.any_nil]
  rw [show eqV (V.int 32) (bV c) = (c == 32) from bV_eqV c (n := 32) 32 rfl, show eqV (V.int 9) (bV c) = (c == 9) from bV_eqV c (n := 9) 9 rfl, show eqV (V.int 13) (bV c) = (c == 13) from bV_eqV c (n := 13) 13 rfl, Bool.or_false, Bool.or_assoc]
theorem ok_is_blank (T : Txt K mg) : Cal P w K mg base 1 "is_blank" spBlank [] := by
  refine cal_d T.d_is_blank sc_is_blank bi_is_blank (fun vs H Q E h => ?_) fun f cdv A outer s H vs Q E hr h => ?_
  · obtain ⟨c, rfl, _⟩ := h
    rfl
  obtain ⟨c, rfl, k⟩ := h
  refine ⟨_, (pss_one (ps_ret (pe_cmpR op_in_seq (pv 0) (pe_tup (pa_cons (pe_gc rfl T.k_SPACE) (pa_cons (pe_gc rfl T.k_TAB) (pa_cons (pe_gc rfl T.k_RETURN) pa_nil)))) (by rfl)))), ?_⟩
  exact s_ret (ev_is (ev_inU (ev_var rfl) (eu_tup (ea_cons ev_c (ea_cons ev_c (ea_cons ev_c ea_nil))) (by decide)) rfl rfl) (congrArg V.bl (in3 c))) k
theorem ok_is_space (T : Txt K mg) (c_is_blank : Cal P w K mg base 1 "is_blank" spBlank []) : Cal P w K mg base 2 "is_space" spSpace [] := by
  refine cal_d T.d_is_space sc_is_space bi_is_space (fun vs H Q E h => ?_) fun f cdv A outer s H vs Q E hr h => ?_
  · obtain ⟨c, rfl, _⟩ := h
    rfl
  obtain ⟨c, rfl, k⟩ := h
  refine ⟨_, (pss_one (ps_ret (pe_or (pe_c c_is_blank hr (by decide) rfl (pa_cons (pv 0) pa_nil)) (pe_one (pe_cmpR op_eq (pv 0) (pe_gc rfl T.k_LINE_END) (nomark _)))))), ?_⟩
  exact s_ret (ev_orV (ev_call (ea_cons (ev_var rfl) ea_nil) (v_blank c)) fun _ => ev_eqB (n := 10) 10 (ev_var rfl) ev_c rfl rfl) k
theorem ok_many_ahead (T : Txt K mg) : Cal P w K mg base 1 "many_ahead" (spMany K) [] := by
  refine cal_d T.d_many_ahead sc_many_ahead bi_many_ahead (fun vs H Q E h => ?_) fun f cdv A outer s H vs Q E hr h => ?_
  · obtain ⟨a, l, c, rfl, _⟩ := h
    rfl
  obtain ⟨a, l, c, rfl, hS, hl, k⟩ := h
  refine ⟨_, (pss_cons (ps_set (i := 2) sc_many_ahead.nd rfl (Or.inl rfl) pe_int)
  (pss_cons (ps_while PassesOwn.never (PW.pt (pw_and (pt_cmpR op_lt (pv 2) (pe_callB call_lenS rfl T.b_len boot_len (pa_cons (pv 0) pa_nil)) (nomark _)) (pw_and1 (pt_cmpR op_eq (pe_ix ix_list (pv 0) (pv 2) (fun _ _ => rfl)) (pv 1) (nomark _)))))
  (pss_one (ps_set (i := 2) sc_many_ahead.nd rfl (Or.inl rfl) (pe_op op_add (pv 2) pe_int))))
  (pss_one (ps_ret (pv 2))))), ?_⟩
  refine q_asg ev_c fun H1 e1 => ?_
  refine q_scan (p := fun x => x == c) (l := l) (j := 2) (b := 0) rfl (fun i H2 e2 hi => ?_) (fun i H2 e2 => ?_) fun H2 e2 => ?_
  · have hS2 := ex_l (e1.trans e2) hS
    refine et_scan (et_test (ev_lt (ev_var rfl) (ev_len (ev_var rfl) hS2) ?_)) fun x hx => et_test ?_
    · rw [bs_len]
      exact decide_eq_decide.mpr (by omega)
    · exact ev_is (ev_op (ev_ixB (ev_var rfl) (ev_var rfl) hS2 rfl hx) (ev_var rfl) (rv_eq rfl)) (congrArg V.bl (bV_dec x c))
  · exact ev_add (ev_var rfl) ev_c (by omega)
  · exact s_ret (ev_var rfl) fun H3 e3 => k H3 ((e1.trans e2).trans e3)
theorem ok_ends_or_blank (T : Txt K mg) (c_is_blank : Cal P w K mg base 1 "is_blank" spBlank []) : Cal P w K mg base 2 "ends_or_blank" (spEob K) [] := by
  refine cal_d T.d_ends_or_blank sc_ends_or_blank bi_ends_or_blank (fun vs H Q E h => ?_) fun f cdv A outer s H vs Q E hr h => ?_
  · obtain ⟨a, l, i, rfl, _⟩ := h
    rfl
  obtain ⟨a, l, i, rfl, hS, hi, hl, k⟩ := h
  refine ⟨_, (pss_one (ps_ret (pe_or (pe_cmpR op_eq (pv 1) (pe_callB call_lenS rfl T.b_len boot_len (pa_cons (pv 0) pa_nil)) (nomark _)) (pe_one (pe_c c_is_blank hr (by decide) rfl (pa_cons (pe_ix ix_list (pv 0) (pv 1) (fun _ _ => rfl)) pa_nil)))))), ?_⟩
  by_cases hz : i = l.length
  · subst hz
    refine s_ret (ev_is (ev_orV (b := true) (ev_eqI (b := true) (ev_var rfl) (ev_len (ev_var rfl) hS) (decide_eq_true (by rw [bs_len]))) fun z => by cases z) ?_) k
    rw [MA.eb_end]
    rfl
  · have hx : l[i]? = some l[i] := List.getElem?_eq_getElem (by omega)
    refine s_ret (ev_is (ev_orV (b := Ml.blank l[i]) (ev_eqI (b := false) (ev_var rfl) (ev_len (ev_var rfl) hS) (decide_eq_false (by rw [bs_len]; omega))) fun _ => ev_call (ea_cons (ev_ixB (ev_var rfl) (ev_var rfl) hS rfl hx) ea_nil) (v_blank _)) ?_) k
    rw [MA.eb_at hx]
    rfl
theorem ok_is_fence (T : Txt K mg) (c_many_ahead : Cal P w K mg base 1 "many_ahead" (spMany K) []) : Cal P w K mg base 2 "is_fence" (spFence K) [] := by
  refine cal_d T.d_is_fence sc_is_fence bi_is_fence (fun vs H Q E h => ?_) fun f cdv A outer s H vs Q E hr h => ?_
  · obtain ⟨a, l, rfl, _⟩ := h
    rfl
  obtain ⟨a, l, rfl, hS, hl, k⟩ := h
  refine ⟨_, (pss_one (ps_ret (pe_cmpR op_ge (pe_c c_many_ahead hr (by decide) rfl (pa_cons (pv 0) (pa_cons (pe_gc rfl T.k_BACKQUOTE) pa_nil))) pe_int (nomark _)))), ?_⟩
  exact s_ret (ev_ge (ev_call (ea_cons (ev_var rfl) (ea_cons ev_c ea_nil)) (v_many 96 hS hl)) ev_c (decide_eq_decide.mpr (by omega))) k
theorem ok_trimmed (T : Txt K mg) (c_is_blank : Cal P w K mg base 1 "is_blank" spBlank []) : Cal P w K mg base 2 "trimmed" (spTrimmed K) [] := by
  refine cal_d T.d_trimmed sc_trimmed bi_trimmed (fun vs H Q E h => ?_) fun f cdv A outer s H vs Q E hr h => ?_
  · obtain ⟨a, l, rfl, _⟩ := h
    rfl
  obtain ⟨a, l, rfl, hS, hl, k⟩ := h
  refine ⟨_, (pss_cons (ps_par (i := 1) (j := 2) (by rfl) sc_trimmed.nd rfl rfl (by decide) rfl rfl (pa_cons pe_int (pa_cons (pe_callB call_lenS rfl T.b_len boot_len (pa_cons (pv 0) pa_nil)) pa_nil)) (by rfl))
  (pss_cons (ps_while PassesOwn.never (PW.pt (pw_and (pt_cmpR op_lt (pv 1) (pv 2) (nomark _)) (pw_and1 (pt_val (pe_c c_is_blank hr (by decide) rfl (pa_cons (pe_ix ix_list (pv 0) (pv 1) (fun _ _ => rfl)) pa_nil))))))
  (pss_one (ps_set (i := 1) sc_trimmed.nd rfl (Or.inl rfl) (pe_op op_add (pv 1) pe_int))))
  (pss_cons (ps_while PassesOwn.never (PW.pt (pw_and (pt_cmpR op_gt (pv 2) (pv 1) (nomark _)) (pw_and1 (pt_val (pe_c c_is_blank hr (by decide) rfl (pa_cons (pe_ix ix_list (pv 0) (pe_op op_sub (pv 2) pe_int) (fun _ _ => rfl)) pa_nil))))))
  (pss_one (ps_set (i := 2) sc_trimmed.nd rfl (Or.inl rfl) (pe_op op_sub (pv 2) pe_int))))
  (pss_one (ps_ret (pe_slice sl_list (pv 0) (po_some (pv 1)) (po_some (pv 2)))))))), ?_⟩
  refine q_par (ea_cons ev_c (ea_cons (ev_len (ev_var rfl) hS) ea_nil)) fun H1 e1 => ?_
  rw [bs_len]
  refine q_scan (p := Ml.blank) (l := l) (j := 1) (b := 0) rfl (fun i H2 e2 hi => ?_) (fun i H2 e2 => ?_) fun H2 e2 => ?_
  · have hS2 := ex_l (e1.trans e2) hS
    refine et_scan (et_test (ev_lt (ev_var rfl) (ev_var rfl) ?_)) fun x hx => et_B ?_
    · exact decide_eq_decide.mpr (by omega)
    · exact ev_call (ea_cons (ev_ixB (ev_var rfl) (ev_var rfl) hS2 rfl hx) ea_nil) (v_blank x)
  · exact ev_add (ev_var rfl) ev_c (by omega)
  have hb := MA.spanF_le (p := Ml.blank) (l := l) (b := 0) (Nat.zero_le _)
  have ht := MA.trim_start l
  generalize MA.spanF Ml.blank l 0 = b at hb ht
  refine q_while (fun m σ' H' => ∃ i : Nat, m = i - b ∧ b ≤ i ∧ i ≤ l.length ∧ σ' = [some (.ref a), some (.int (b : Int)), some (.int (i : Int))] ∧ Ex H H' ∧ MA.rtrim (MA.cut l b i) = Ml.trim l) (l.length - b) ⟨l.length, rfl, hb, Nat.le_refl _, rfl, e1.trans e2, ht.symm⟩ ?_
  rintro m σ' H' ⟨i, rfl, hi, hi2, rfl, e, hs⟩
  have hSi := ex_l e hS
  by_cases hz : b < i
  · obtain ⟨n, rfl⟩ : ∃ n, i = n + 1 := ⟨i - 1, by omega⟩
    have hx : l[n]? = some l[n] := List.getElem?_eq_getElem (by omega)
    refine ⟨Ml.blank l[n], et_is (et_and (et_test (ev_gt (b := true) (ev_var rfl) (ev_var rfl) (decide_eq_true (by omega)))) fun _ => et_B (ev_call (ea_cons (ev_ixB (ev_var rfl) (ev_sub (ev_var rfl) ev_c rfl) hSi (by omega) hx) ea_nil) (v_blank _))) rfl, fun hb2 H3 e3 => ?_, fun hb2 H3 e3 => ?_⟩
    · refine ⟨fun σ2 H2 => σ2 = [some (.ref a), some (.int (b : Int)), some (.int (n : Int))] ∧ Ex H H2, fun σ2 H2 ⟨h1, h2⟩ => ⟨n - b, by omega, n, rfl, by omega, by omega, h1, h2, ?_⟩, ?_⟩
      · rw [← hs]
        exact (MA.rtrim_back (by omega) hx hb2).symm
      · refine s_asg (ev_sub (ev_var rfl) ev_c (k := (n : Int)) (by omega)) fun H2 e2 => ⟨rfl, (e.trans e3).trans e2⟩
    · refine s_retL (el_sl (ev_var rfl) (eo_some (ev_var rfl)) (eo_some (ev_var rfl)) (ex_l e3 hSi)) fun p H2 hp e2 hx2 => k p H2 (fresh_back (e.trans e3) hp) ((e.trans e3).trans e2) ?_
      rw [hx2, cutV_nat, cut_bs, ← hs, MA.rtrim_stop (by omega) hx hb2]
  · have hie : i = b := by omega
    subst hie
    refine ⟨false, et_andF (et_test (ev_gt (ev_var rfl) (ev_var rfl) (decide_eq_false (by omega)))), fun z => Bool.noConfusion z, fun hb2 H3 e3 => ?_⟩
    refine s_retL (el_sl (ev_var rfl) (eo_some (ev_var rfl)) (eo_some (ev_var rfl)) (ex_l e3 hSi)) fun p H2 hp e2 hx2 => k p H2 (fresh_back (e.trans e3) hp) ((e.trans e3).trans e2) ?_
    rw [hx2, cutV_nat, cut_bs, ← hs, MA.cut_nil]
    rfl
theorem ok_ends_code (T : Txt K mg) (c_trimmed : Cal P w K mg base 2 "trimmed" (spTrimmed K) []) : Cal P w K mg base 3 "ends_code" (spEndsCode K) [] := by
  refine cal_d T.d_ends_code sc_ends_code bi_ends_code (fun vs H Q E h => ?_) fun f cdv A outer s H vs Q E hr h => ?_
  · obtain ⟨a, l, rfl, _⟩ := h
    rfl
  obtain ⟨a, l, rfl, hS, hl, k⟩ := h
  refine ⟨_, (pss_one (ps_ret (pe_cmpR (op_eqL hr.units) (pe_c c_trimmed hr (by decide) rfl (pa_cons (pv 0) pa_nil)) (pe_lst (pa_cons (pe_gc rfl T.k_BACKQUOTE) (pa_cons (pe_gc rfl T.k_BACKQUOTE) (pa_cons (pe_gc rfl T.k_BACKQUOTE) pa_nil)))) (nomark _)))), ?_⟩
  exact s_ret (ev_eqLL (m := Ml.FENCE) (el_call (ea_cons (ev_var rfl) ea_nil) (v_trimmed hS hl)) (el_lst (ea_cons ev_c (ea_cons ev_c (ea_cons ev_c ea_nil))) (by decide)) rfl) k
end
end Mk
set_option Elab.async false
set_option linter.all false
set_option maxRecDepth 100000
set_option maxHeartbeats 4000000
namespace Mk
open PySem PySem.Spec PyProof.Rows L2 C8 Evl
section
variable {K : PySem.W.Frag} {σ : L2.St} {H : Hp} {ta te : TE} {t : TA} {tz : TS} {D : Ends}
theorem EvG.mono {H' : Hp} {P : V → Hp → Hp → Prop} (e : Ex H H') (h : EvG te σ H P) : EvG te σ H' P := fun H1 a Q q => h H1 (e.trans a) Q q
theorem s_appG {l : Addr} {xs : List V} {P : V → Hp → Hp → Prop} (hl : H l = some (.lst xs)) (ha : Ev ta σ H (.ref l)) (h : EvG te σ H P) (hz : xs.length < 100000) (k : ∀ v H1 H2, Ex H H1 → Ex H1 H2 → P v H1 H2 → D.nx σ (upd H2 l (.lst (xs ++ [v])))) :
    tDrop (tBM K "list" rAppend ta (tCons te tNil)) D σ H := ha H (Ex.refl H) _ fun H1 e1 =>
  ⟨Or.inl ⟨rfl, xs, sq_of (e1 l _ hl)⟩, h H1 e1 _ fun v H2 e2 hp => ⟨l, xs, v, rfl, rfl, e2 l _ (e1 l _ hl), sz_lt hz, k v H1 H2 e1 e2 hp⟩⟩
theorem q_appG {l : Addr} {xs : List V} {P : V → Hp → Hp → Prop} (hl : H l = some (.lst xs)) (ha : Ev ta σ H (.ref l)) (h : EvG te σ H P) (hz : xs.length < 100000) (k : ∀ v H1 H2, Ex H H1 → Ex H1 H2 → P v H1 H2 → tz D σ (upd H2 l (.lst (xs ++ [v])))) :
    tSeq (tDrop (tBM K "list" rAppend ta (tCons te tNil))) tz D σ H := s_appG (D := { D with nx := tz D }) hl ha h hz k
theorem s_retG {P : V → Hp → Hp → Prop} (h : EvG te σ H P) (k : ∀ v H1, Ex H H1 → P v H H1 → D.rt v H1) : tRet te D σ H := h H (Ex.refl H) _ fun v H1 e p => k v H1 e p
theorem q_asgG {i : Nat} {P : V → Hp → Hp → Prop} (h : EvG te σ H P) (k : ∀ v H1, Ex H H1 → P v H H1 → tz D (σ.set i (some v)) H1) : tSeq (tAsg te (gName i)) tz D σ H := h H (Ex.refl H) _ fun v H1 e p => k v H1 e p
def Inits (C : Addr) (sp : Sp) (vs : List V) (fs : List (Str × V)) : Prop := ∀ (p dx : Addr) (H : Hp) (Q : VK) (E : XK), H p = some (.ins C dx []) →
  (∀ H' : Hp, H' p = some (.ins C dx fs) → (∀ b o, H b = some o → b ≠ p → H' b = some o) → Q .non H') → sp (.ref p :: (vs ++ [])) H Q E
theorem mk_at {C : Addr} {sp : Sp} {vs : List V} {fs : List (Str × V)} {E : XK} (hsp : Inits C sp vs fs) (H1 : Hp) (Q : VK) (q : ∀ x dx H2, H1 x = none → Ex H1 H2 → H2 x = some (.ins C dx fs) → Q (.ref x) H2) :
    ∀ x dx, H1 x = none → H1 dx = none → dx ≠ x → sp (.ref x :: (vs ++ [])) (upd (upd H1 dx (.own x)) x (.ins C dx [])) (fun v H2 => v = .non ∧ Q (.ref x) H2) E := fun x dx nx nd ne =>
  hsp x dx _ _ _ upd_same fun H' h1 h2 => ⟨rfl, q x dx H' nx (fun b o hb => h2 b o (by rw [upd_ne (ne_of_none hb nx), upd_ne (ne_of_none hb nd)]; exact hb) (ne_of_none hb nx)) h1⟩
theorem eg_make {C : Addr} {sp : Sp} {vs : List V} {fs : List (Str × V)} {E : XK} (hsp : Inits C sp vs fs) (ha : EvA t σ H vs) : EvG (tMake C sp [] E t) σ H (fun v H1 H2 => ∃ x dx, v = .ref x ∧ H1 x = none ∧ H2 x = some (.ins C dx fs)) := fun H1 e Q q =>
  ha H1 e _ fun H2 e2 => mk_at hsp H2 Q fun x dx H3 nx e3 h => q (.ref x) H3 (e2.trans e3) ⟨x, dx, rfl, fresh_back e2 nx, h⟩
end
theorem out_upd {F : Addr → Prop} {H : Hp} {p : Addr} {o : HO} (h : F p) : out F (upd H p o) = out F H := by
  funext b
  unfold out
  split
  · rfl
  · rename_i hb
    exact upd_ne fun e => hb (e ▸ h)
theorem out_or {F : Addr → Prop} {H : Hp} {p : Addr} : Ex (out (fun b => F b ∨ b = p) H) (out F H) := fun b o h => by
  obtain ⟨h1, h2⟩ := out_of h
  rw [out_at fun z => h1 (.inl z)]
  exact h2
theorem win_or {F : Addr → Prop} {H : Hp} {p : Addr} {o : HO} (w : Win F H) (h : H p = some o) : Win (fun b => F b ∨ b = p) H := fun b hb z => z.elim (w b hb) fun e => by
  rw [e, h] at hb
  cases hb
def lineF (r k n t : V) : List (Str × V) := [("row", r), ("kind", k), ("number", n), ("text", t)]
section
variable {r k n t : V}
theorem lineF_row : (lineF r k n t).lookup ("row" : Str) = some r := lk_here
theorem lineF_kind : (lineF r k n t).lookup ("kind" : Str) = some k := (lk_past (by decide +kernel)).trans lk_here
theorem lineF_number : (lineF r k n t).lookup ("number" : Str) = some n := (lk_past (by decide +kernel)).trans ((lk_past (by decide +kernel)).trans lk_here)
theorem lineF_text : (lineF r k n t).lookup ("text" : Str) = some t := (lk_past (by decide +kernel)).trans ((lk_past (by decide +kernel)).trans ((lk_past (by decide +kernel)).trans lk_here))
theorem lineF_put : putF "text" t (putF "number" n (putF "kind" k (putF "row" r []))) = lineF r k n t := by
  have h1 : ¬ ("row" : Str) = "kind" := by decide +kernel
  have h2 : ¬ ("row" : Str) = "number" := by decide +kernel
  have h3 : ¬ ("row" : Str) = "text" := by decide +kernel
  have h4 : ¬ ("kind" : Str) = "number" := by decide +kernel
  have h5 : ¬ ("kind" : Str) = "text" := by decide +kernel
  have h6 : ¬ ("number" : Str) = "text" := by decide +kernel
  simp only [putF, h1, h2, h3, h4, h5, h6, if_false]
  rfl
end
def spLineInit (K : PySem.W.Frag) : Sp := fun vs H Q _ => ∃ p dx v1 v2 v3 v4, vs = [.ref p, v1, v2, v3, v4] ∧ H p = some (.ins (cLine K) dx []) ∧
  ∀ H' : Hp, H' p = some (.ins (cLine K) dx (lineF v1 v2 v3 v4)) → (∀ b o, H b = some o → b ≠ p → H' b = some o) → Q .non H'
theorem line_inits {K : PySem.W.Frag} {v1 v2 v3 v4 : V} : Inits (cLine K) (spLineInit K) [v1, v2, v3, v4] (lineF v1 v2 v3 v4) := fun p dx H Q E hp k => ⟨p, dx, v1, v2, v3, v4, rfl, hp, k⟩
def LineAt (K : PySem.W.Frag) (G : Hp) (x : Addr) (l : Ml.Bytes) : Prop := ∃ dx r t, G x = some (.ins (cLine K) dx (lineF (.ref r) (.int (MA.kindL (Ml.lineOf l))) (.int ((MA.numL (Ml.lineOf l) : Nat) : Int)) (.ref t))) ∧
  G r = some (.lst (bs l)) ∧ G t = some (.lst (bs (MA.textL (Ml.lineOf l))))
theorem LineAt.ex {K : PySem.W.Frag} {G G' : Hp} {x : Addr} {l : Ml.Bytes} (e : Ex G G') (h : LineAt K G x l) : LineAt K G' x l := by
  obtain ⟨dx, r, t, h1, h2, h3⟩ := h
  exact ⟨dx, r, t, e _ _ h1, e _ _ h2, e _ _ h3⟩
def LinesAt (K : PySem.W.Frag) (G : Hp) (p : Addr) (ls : List Ml.Bytes) : Prop := ∃ xs : List Addr, G p = some (.lst (xs.map V.ref)) ∧ xs.length = ls.length ∧ ∀ (i : Nat) x l, xs[i]? = some x → ls[i]? = some l → LineAt K G x l
theorem LinesAt.ex {K : PySem.W.Frag} {G G' : Hp} {p : Addr} {ls : List Ml.Bytes} (e : Ex G G') (h : LinesAt K G p ls) : LinesAt K G' p ls := by
  obtain ⟨xs, h1, h2, h3⟩ := h
  exact ⟨xs, e _ _ h1, h2, fun i x l a b => (h3 i x l a b).ex e⟩
def spLineOf (K : PySem.W.Frag) : Sp := fun vs H Q _ => ∃ F a l, vs = [.ref a] ∧ Win F H ∧ out F H a = some (.lst (bs l)) ∧ l.length ≤ 40000 ∧ ∀ x H', H x = none → Ex H H' → LineAt K (out F H') x l → Q (.ref x) H'
def spLinesOf (K : PySem.W.Frag) : Sp := fun vs H Q _ => ∃ F a t, vs = [.ref a] ∧ Win F H ∧ SqL K H a (bs t) ∧ t.length ≤ 30000 ∧ ∀ p H', H p = none → Ex H H' → LinesAt K (out F H') p (Ml.lines t) → Q (.ref p) H'
section
variable {K : PySem.W.Frag} {σ : L2.St} {H : Hp} {tk tn tt te : TE} {D : Ends}
theorem eg_lineOf {F : Addr → Prop} {l : Ml.Bytes} {E : XK} (w : Win F H) (he : EvL te σ H (bs l)) (hl : l.length ≤ 40000) : EvG (tCall (spLineOf K) [] E (tCons te tNil)) σ H (fun v H1 H2 => ∃ x, v = .ref x ∧ H1 x = none ∧ LineAt K (out F H2) x l) := fun H1 e Q q =>
  he H1 e _ fun p H2 hp e2 hx => ⟨F, p, l, rfl, w.ex (e.trans e2), (w.ex e).new hp hx, hl, fun x H' nx e3 hL => q (.ref x) H' (e2.trans e3) ⟨x, rfl, fresh_back e2 nx, hL⟩⟩
theorem s_line {F : Addr → Prop} {E : XK} {r : Addr} {l t : Ml.Bytes} {k : Int} {n : Nat} (w : Win F H) (h0 : σ[0]? = some (some (.ref r))) (hr : out F H r = some (.lst (bs l))) (hk : Ev tk σ H (.int k)) (hn : Ev tn σ H (.int (n : Int))) (ht : EvL tt σ H (bs t))
    (e1 : MA.kindL (Ml.lineOf l) = k) (e2 : MA.numL (Ml.lineOf l) = n) (e3 : MA.textL (Ml.lineOf l) = t) (q : ∀ x H', H x = none → Ex H H' → LineAt K (out F H') x l → D.rt (.ref x) H') :
    tRet (tMake (cLine K) (spLineInit K) [] E (tCons (tVar 0) (tCons tk (tCons tn (tCons tt tNil))))) D σ H := by
  refine ⟨_, h0, hk H (Ex.refl H) _ fun H1 e1' => hn H1 e1' _ fun H2 e2' => ht H2 (e1'.trans e2') _ fun p H3 hp e3' hx => mk_at line_inits H3 _ fun x dx H4 nx e4 h4 => ?_⟩
  have eA : Ex H H3 := (e1'.trans e2').trans e3'
  have eB := eA.trans e4
  refine q x H4 (fresh_back eA nx) eB ⟨dx, r, p, ?_, ?_, ?_⟩
  · rw [e1, e2]
    exact w.new (fresh_back eA nx) h4
  · exact out_mono eB _ _ hr
  · rw [e3]
    exact w.new (fresh_back (e1'.trans e2') hp) (e4 _ _ hx)
end
section
variable {P : Program} {w : World} {K : PySem.W.Frag} {mg : Str → Option Value} {base : Heap}
theorem ok_Line_init (T : Txt K mg) : Mak P w K mg base 1 "Line" (cLine K) (spLineInit K) [] := by
  refine mak_d T.mk_Line T.g_Line T.d_Line_init sc_Line_init bi_Line_init (fun vs H Q E h => ?_) fun cdv A outer s H vs Q E hr h => ?_
  · obtain ⟨p, dx, v1, v2, v3, v4, rfl, _⟩ := h
    rfl
  obtain ⟨p, dx, v1, v2, v3, v4, rfl, hp, k⟩ := h
  refine ⟨_, (pss_cons (ps_fld (pv 0) (pv 1) rfl)
  (pss_cons (ps_fld (pv 0) (pv 2) rfl)
  (pss_cons (ps_fld (pv 0) (pv 3) rfl)
  (pss_one (ps_fld (pv 0) (pv 4) rfl))))), ?_⟩
  refine ⟨_, rfl, _, rfl, p, cLine K, dx, [], rfl, hp, T.cl_Line, T.n_Line_row, (by decide), ?_⟩
  refine ⟨_, rfl, _, rfl, p, cLine K, dx, _, rfl, upd_same, T.cl_Line, T.n_Line_kind, (by show 1 < 1000; decide), ?_⟩
  refine ⟨_, rfl, _, rfl, p, cLine K, dx, _, rfl, upd_same, T.cl_Line, T.n_Line_number, ?_, ?_⟩
  · have h1 : ¬ ("row" : Str) = "kind" := by decide +kernel
    simp only [putF, h1, if_false]
    show 2 < 1000
    decide
  refine ⟨_, rfl, _, rfl, p, cLine K, dx, _, rfl, upd_same, T.cl_Line, T.n_Line_text, ?_, ?_⟩
  · have h1 : ¬ ("row" : Str) = "kind" := by decide +kernel
    have h2 : ¬ ("row" : Str) = "number" := by decide +kernel
    have h4 : ¬ ("kind" : Str) = "number" := by decide +kernel
    simp only [putF, h1, h2, h4, if_false]
    show 3 < 1000
    decide
  refine k _ (Eq.trans upd_same (congrArg (fun q => some (HO.ins (cLine K) dx q)) lineF_put)) fun b o e hb => ?_
  rw [upd_ne hb, upd_ne hb, upd_ne hb, upd_ne hb]
  exact e
theorem ok_line_of (T : Txt K mg) (c_trimmed : Cal P w K mg base 2 "trimmed" (spTrimmed K) []) (c_is_fence : Cal P w K mg base 2 "is_fence" (spFence K) []) (c_many_ahead : Cal P w K mg base 1 "many_ahead" (spMany K) [])
    (c_ends_or_blank : Cal P w K mg base 2 "ends_or_blank" (spEob K) []) (k_Line : Mak P w K mg base 1 "Line" (cLine K) (spLineInit K) []) : Cal P w K mg base 3 "line_of" (spLineOf K) [] := by
  refine cal_d T.d_line_of sc_line_of bi_line_of (fun vs H Q E h => ?_) fun f cdv A outer s H vs Q E hr h => ?_
  · obtain ⟨F, a, l, rfl, _⟩ := h
    rfl
  obtain ⟨F, a, l, rfl, wn, hO, hl, k⟩ := h
  refine ⟨_, (pss_cons (ps_if (pt_cmpR (op_eqE hr.units0) (pe_c c_trimmed hr (by decide) rfl (pa_cons (pv 0) pa_nil)) (pe_lst pa_nil) (nomark _))
  (pss_one (ps_ret (pe_mk k_Line hr (by decide) rfl (pa_cons (pv 0) (pa_cons (pe_gc rfl T.k_BLANK) (pa_cons pe_int (pa_cons (pe_lst pa_nil) pa_nil)))))))
  pss_nil)
  (pss_cons (ps_if (pt_val (pe_c c_is_fence hr (by decide) rfl (pa_cons (pv 0) pa_nil)))
  (pss_one (ps_ret (pe_mk k_Line hr (by decide) rfl (pa_cons (pv 0) (pa_cons (pe_gc rfl T.k_FENCE) (pa_cons pe_int (pa_cons (pe_c c_trimmed hr (by decide) rfl (pa_cons (pe_slice sl_list (pv 0) (po_some pe_int) po_none) pa_nil)) pa_nil)))))))
  pss_nil)
  (pss_cons (ps_set (i := 1) sc_line_of.nd rfl (Or.inl rfl) (pe_c c_many_ahead hr (by decide) rfl (pa_cons (pv 0) (pa_cons (pe_gc rfl T.k_HASH) pa_nil))))
  (pss_cons (ps_if (PW.pt (pw_and (pt_chain op_le op_le pe_int (pv 1) (pe_gc rfl T.k_MOST_LEVEL)) (pw_and1 (pt_val (pe_c c_ends_or_blank hr (by decide) rfl (pa_cons (pv 0) (pa_cons (pv 1) pa_nil)))))))
  (pss_one (ps_ret (pe_mk k_Line hr (by decide) rfl (pa_cons (pv 0) (pa_cons (pe_gc rfl T.k_HEADING) (pa_cons (pv 1) (pa_cons (pe_c c_trimmed hr (by decide) rfl (pa_cons (pe_slice sl_list (pv 0) (po_some (pv 1)) po_none) pa_nil)) pa_nil)))))))
  pss_nil)
  (pss_cons (ps_set (i := 2) sc_line_of.nd rfl (Or.inl rfl) (pe_c c_many_ahead hr (by decide) rfl (pa_cons (pv 0) (pa_cons (pe_gc rfl T.k_SPACE) pa_nil))))
  (pss_cons (ps_if (PW.pt (pw_and (pt_cmpR op_lt (pv 2) (pe_callB call_lenS rfl T.b_len boot_len (pa_cons (pv 0) pa_nil)) (nomark _)) (pw_and (pt_cmpR op_eq (pe_ix ix_list (pv 0) (pv 2) (fun _ _ => rfl)) (pe_gc rfl T.k_HYPHEN) (nomark _)) (pw_and1 (pt_val (pe_c c_ends_or_blank hr (by decide) rfl (pa_cons (pv 0) (pa_cons (pe_op op_add (pv 2) pe_int) pa_nil))))))))
  (pss_one (ps_ret (pe_mk k_Line hr (by decide) rfl (pa_cons (pv 0) (pa_cons (pe_gc rfl T.k_ITEM) (pa_cons (pe_op op_fdiv (pv 2) pe_int) (pa_cons (pe_c c_trimmed hr (by decide) rfl (pa_cons (pe_slice sl_list (pv 0) (po_some (pe_op op_add (pv 2) pe_int)) po_none) pa_nil)) pa_nil)))))))
  pss_nil)
  (pss_one (ps_ret (pe_mk k_Line hr (by decide) rfl (pa_cons (pv 0) (pa_cons (pe_gc rfl T.k_PLAIN_lines) (pa_cons pe_int (pa_cons (pe_c c_trimmed hr (by decide) rfl (pa_cons (pv 0) pa_nil)) pa_nil))))))))))))), ?_⟩
  have hS : SqL K H a (bs l) := sq_of (out_of hO).2
  have hd : ∀ n, (l.drop n).length ≤ 40000 := fun n => by rw [List.length_drop]; omega
  have tx : ∀ {σ : L2.St} {H1 : Hp} {ti : TE} {E' : XK} {n : Nat}, Ex H H1 → σ[0]? = some (some (.ref a)) → Ev ti σ H1 (.int (n : Int)) → EvL (tCall (spTrimmed K) [] E' (tCons (tSl (rSlL K) (tVar 0) (tPart ti) tNoPart) tNil)) σ H1 (bs (Ml.trim (l.drop n))) := fun {σ H1 ti E' n} e h0 hi H2 e2 Q2 q2 =>
    (el_sl (ev_var h0) (eo_some hi) eo_none (ex_l e hS)) H2 e2 _ fun p H3 hp e3 hx => v_trimmed (l := l.drop n) (sq_of (by rw [hx, cutV_from, drop_bs])) (hd n) H3 (Ex.refl H3) Q2 (fun p2 H4 hp2 e4 hx2 => q2 p2 H4 (fresh_back e3 hp2) (e3.trans e4) hx2) E'
  refine q_when (et_test (ev_eqEL (el_call (ea_cons (ev_var rfl) ea_nil) (v_trimmed hS hl)) rfl)) (fun hb H1 e1 => ?_) fun hb H1 e1 => ?_
  · have hz : Ml.trim l = [] := by
      rw [bs_empty] at hb
      simpa using hb
    have e := MA.line_blank hz
    refine s_line (F := F) (l := l) (n := 0) (t := []) (wn.ex e1) rfl (out_mono e1 _ _ hO) ev_c ev_c (el_lst ea_nil (by decide)) (by rw [e]; rfl) (by rw [e]; rfl) (by rw [e]; rfl) fun x H' nx e2 hL => k x H' (fresh_back e1 nx) (e1.trans e2) hL
  have hz : Ml.trim l ≠ [] := by
    rw [bs_empty] at hb
    simpa using hb
  refine q_when (et_B (ev_call (ea_cons (ev_var rfl) ea_nil) (v_fence (ex_l e1 hS) hl))) (fun hb H2 e2 => ?_) fun hb H2 e2 => ?_
  · have e := MA.line_fence hz (of_decide_eq_true hb)
    have eA := e1.trans e2
    refine s_line (F := F) (l := l) (n := 0) (wn.ex eA) rfl (out_mono eA _ _ hO) ev_c ev_c (tx (n := 3) eA rfl ev_c) (by rw [e]; rfl) (by rw [e]; rfl) (by rw [e]; rfl) fun x H' nx e3 hL => k x H' (fresh_back eA nx) (eA.trans e3) hL
  have hf : ¬ 3 ≤ MA.manyF 96 l := of_decide_eq_false hb
  have eA := e1.trans e2
  refine q_asg (ev_call (ea_cons (ev_var rfl) (ea_cons ev_c ea_nil)) (v_many 35 (ex_l eA hS) hl)) fun H3 e3 => ?_
  have eB := eA.trans e3
  have hS3 := ex_l eB hS
  have hm := MA.manyF_le 35 l
  refine q_when (b := decide (1 ≤ MA.manyF 35 l ∧ MA.manyF 35 l ≤ 6 ∧ MA.ebF l (MA.manyF 35 l) = true)) ?_ (fun hb H4 e4 => ?_) fun hb H4 e4 => ?_
  · by_cases c : 1 ≤ MA.manyF 35 l ∧ MA.manyF 35 l ≤ 6
    · refine et_is (et_andT (b := MA.ebF l (MA.manyF 35 l)) (et_test (ev_chain ev_c (ev_var rfl) ev_c ?_)) (et_B (ev_call (ea_cons (ev_var rfl) (ea_cons (ev_var rfl) ea_nil)) (v_eob hS3 hm hl)))) ?_
      · rw [Bool.and_eq_true]
        exact ⟨decide_eq_true (by omega), decide_eq_true (by omega)⟩
      · cases MA.ebF l (MA.manyF 35 l) <;> simp [c]
    · refine et_is (et_andF (et_test (ev_chain ev_c (ev_var rfl) ev_c ?_))) ?_
      · rw [Bool.and_eq_false_iff]
        by_cases c1 : 1 ≤ MA.manyF 35 l
        · exact .inr (decide_eq_false (by omega))
        · exact .inl (decide_eq_false (by omega))
      · exact (decide_eq_false fun z => c ⟨z.1, z.2.1⟩).symm
  · have hc := of_decide_eq_true hb
    have e := MA.line_heading hz hf hc.1 hc.2.1 hc.2.2
    have eC := eB.trans e4
    refine s_line (F := F) (l := l) (wn.ex eC) rfl (out_mono eC _ _ hO) ev_c (ev_var rfl) (tx eC rfl (ev_var rfl)) (by rw [e]; rfl) (by rw [e]; rfl) (by rw [e]; rfl) fun x H' nx e5 hL => k x H' (fresh_back eC nx) (eC.trans e5) hL
  have hh : ¬ (1 ≤ MA.manyF 35 l ∧ MA.manyF 35 l ≤ 6 ∧ MA.ebF l (MA.manyF 35 l) = true) := of_decide_eq_false hb
  have eC := eB.trans e4
  refine q_asg (ev_call (ea_cons (ev_var rfl) (ea_cons ev_c ea_nil)) (v_many 32 (ex_l eC hS) hl)) fun H5 e5 => ?_
  have eD := eC.trans e5
  have hS5 := ex_l eD hS
  have hm2 := MA.manyF_le 32 l
  refine q_when (b := decide (l[MA.manyF 32 l]? = some 45 ∧ MA.ebF l (MA.manyF 32 l + 1) = true)) ?_ (fun hb H6 e6 => ?_) fun hb H6 e6 => ?_
  · by_cases c : MA.manyF 32 l < l.length
    · have hx : l[MA.manyF 32 l]? = some l[MA.manyF 32 l] := List.getElem?_eq_getElem c
      refine et_is (et_andT (et_test (ev_lt (ev_var rfl) (ev_len (ev_var rfl) hS5) (decide_eq_true (by rw [bs_len]; omega)))) (et_and (et_test (ev_eqB (n := 45) 45 (ev_ixB (ev_var rfl) (ev_var rfl) hS5 rfl hx) ev_c rfl rfl)) fun _ => et_B (ev_call (ea_cons (ev_var rfl) (ea_cons (ev_add (k := ((MA.manyF 32 l + 1 : Nat) : Int)) (ev_var rfl) ev_c (by omega)) ea_nil)) (v_eob hS5 (by omega) hl)))) ?_
      rw [hx]
      cases MA.ebF l (MA.manyF 32 l + 1) <;> by_cases c2 : l[MA.manyF 32 l] = 45 <;> simp [c2]
    · refine et_is (et_andF (et_test (ev_lt (ev_var rfl) (ev_len (ev_var rfl) hS5) (decide_eq_false (by rw [bs_len]; omega))))) ?_
      refine (decide_eq_false fun z => ?_).symm
      have := (List.getElem?_eq_some_iff.mp z.1).1
      omega
  · have hc := of_decide_eq_true hb
    have e := MA.line_item hz hf hh hc.1 hc.2
    have eE := eD.trans e6
    refine s_line (F := F) (l := l) (n := MA.manyF 32 l / 2) (wn.ex eE) rfl (out_mono eE _ _ hO) ev_c (ev_is (ev_op (ev_var rfl) ev_c (rv_I ⟨by decide, by decide⟩)) ?_) (tx eE rfl (ev_add (k := ((MA.manyF 32 l + 1 : Nat) : Int)) (ev_var rfl) ev_c (by omega))) (by rw [e]; rfl) (by rw [e]; rfl) (by rw [e]; rfl) fun x H' nx e7 hL => k x H' (fresh_back eE nx) (eE.trans e7) hL
    show V.int (((MA.manyF 32 l : Nat) : Int) / 2) = V.int ((MA.manyF 32 l / 2 : Nat) : Int)
    congr 1
  have hi : ¬ (l[MA.manyF 32 l]? = some 45 ∧ MA.ebF l (MA.manyF 32 l + 1) = true) := of_decide_eq_false hb
  have e := MA.line_plain hz hf hh hi
  have eE := eD.trans e6
  exact s_line (F := F) (l := l) (n := 0) (wn.ex eE) rfl (out_mono eE _ _ hO) ev_c ev_c (el_call (ea_cons (ev_var rfl) ea_nil) (v_trimmed (ex_l eE hS) hl)) (by rw [e]; rfl) (by rw [e]; rfl) (by rw [e]; rfl) fun x H' nx e7 hL => k x H' (fresh_back eE nx) (eE.trans e7) hL
end
end Mk
set_option Elab.async false
set_option linter.all false
set_option maxRecDepth 100000
set_option maxHeartbeats 4000000
namespace Mk
open PySem PySem.Spec PyProof.Rows L2 C8 Evl
def Each {β α : Type} (R : β → α → Prop) (xs : List β) (ls : List α) : Prop := xs.length = ls.length ∧ ∀ (i : Nat) x l, xs[i]? = some x → ls[i]? = some l → R x l
theorem Each.nil {β α : Type} {R : β → α → Prop} : Each R [] [] := ⟨rfl, fun i x l h => by simp at h⟩
theorem Each.mono {β α : Type} {R R' : β → α → Prop} {xs : List β} {ls : List α} (h : Each R xs ls) (f : ∀ x l, R x l → R' x l) : Each R' xs ls := ⟨h.1, fun i x l a b => f x l (h.2 i x l a b)⟩
theorem Each.snoc {β α : Type} {R : β → α → Prop} {xs : List β} {ls : List α} {x : β} {l : α} (h : Each R xs ls) (hx : R x l) : Each R (xs ++ [x]) (ls ++ [l]) := by
  refine ⟨by rw [List.length_append, List.length_append, h.1]; rfl, fun i y m a b => ?_⟩
  rw [List.getElem?_append] at a b
  rw [← h.1] at b
  by_cases c : i < xs.length
  · rw [if_pos c] at a b
    exact h.2 i y m a b
  · rw [if_neg c] at a b
    cases e : i - xs.length with
    | zero =>
      rw [e] at a b
      cases a
      cases b
      exact hx
    | succ n =>
      rw [e] at a
      simp at a
theorem Each.cut {β α : Type} {R : β → α → Prop} {xs : List β} {ls : List α} (h : Each R xs ls) (b e : Nat) : Each R (MA.cut xs b e) (MA.cut ls b e) := by
  unfold MA.cut
  refine ⟨by rw [List.length_drop, List.length_drop, List.length_take, List.length_take, h.1], fun i x l a c => ?_⟩
  rw [List.getElem?_drop, List.getElem?_take] at a c
  split at a
  · rename_i hlt
    rw [if_pos hlt] at c
    exact h.2 _ x l a c
  · cases a
theorem Each.at {α : Type} {R : Addr → α → Prop} {xs : List Addr} {ls : List α} {i : Nat} {l : α} (h : Each R xs ls) (hl : ls[i]? = some l) : ∃ x, xs[i]? = some x ∧ (xs.map V.ref)[i]? = some (V.ref x) ∧ R x l := by
  have h1 := (List.getElem?_eq_some_iff.mp hl).1
  have h2 : xs[i]? = some (xs[i]'(by rw [h.1]; exact h1)) := List.getElem?_eq_getElem _
  exact ⟨_, h2, by rw [List.getElem?_map, h2]; rfl, h.2 i _ l h2 hl⟩
theorem LinesAt.mk' {K : PySem.W.Frag} {G : Hp} {p : Addr} {ls : List Ml.Bytes} {xs : List Addr} (h : G p = some (.lst (xs.map V.ref))) (e : Each (LineAt K G) xs ls) : LinesAt K G p ls := ⟨xs, h, e.1, e.2⟩
theorem LinesAt.each {K : PySem.W.Frag} {G : Hp} {p : Addr} {ls : List Ml.Bytes} (h : LinesAt K G p ls) : ∃ xs, G p = some (.lst (xs.map V.ref)) ∧ Each (LineAt K G) xs ls := by
  obtain ⟨xs, h1, h2, h3⟩ := h
  exact ⟨xs, h1, h2, h3⟩
section
variable {P : Program} {w : World} {K : PySem.W.Frag} {mg : Str → Option Value} {base : Heap}
theorem lines_len (t : Ml.Bytes) : (Ml.lines t).length ≤ t.length + 1 := by
  have h1 := MA.lsum_len (Ml.lines t)
  rw [MA.lines_sum] at h1
  exact h1
theorem ok_lines_of (T : Txt K mg) (c_line_of : Cal P w K mg base 3 "line_of" (spLineOf K) []) : Cal P w K mg base 4 "lines_of" (spLinesOf K) [] := by
  refine cal_d T.d_lines_of sc_lines_of bi_lines_of (fun vs H Q E h => ?_) fun f cdv A outer s H vs Q E hr h => ?_
  · obtain ⟨F, a, l, rfl, _⟩ := h
    rfl
  obtain ⟨F, a, t, rfl, wn, hS, hl, k⟩ := h
  refine ⟨_, (pss_cons (ps_par (i := 1) (j := 2) (by rfl) sc_lines_of.nd rfl rfl (by decide) rfl rfl (pa_cons (pe_lst pa_nil) (pa_cons pe_int pa_nil)) (by rfl))
  (pss_cons (ps_for PassesOwn.never rfl (pi_range1 rfl T.b_range (pa_cons (pe_op op_add (pe_callB call_lenS rfl T.b_len boot_len (pa_cons (pv 0) pa_nil)) pe_int) pa_nil)) (pg_name (i := 3) sc_lines_of.nd rfl (Or.inl rfl))
  (pss_one (ps_if (PW.pt (pw_or (pt_cmpR op_eq (pv 3) (pe_callB call_lenS rfl T.b_len boot_len (pa_cons (pv 0) pa_nil)) (nomark _)) (pw_or1 (pt_cmpR op_eq (pe_ix ix_list (pv 0) (pv 3) (fun _ _ => rfl)) (pe_gc rfl T.k_LINE_END) (nomark _)))))
  (pss_cons (ps_expr (pe_bm PySem.F.plainAttrs_list PySem.F.slot_list_append PySem.F.type_list_append mt_append (pv 1) (pa_cons (pe_c c_line_of hr (by decide) rfl (pa_cons (pe_callTy call_listS rfl T.b_list (by decide +kernel) (pa_cons (pe_slice sl_list (pv 0) (po_some (pv 2)) (po_some (pv 3))) pa_nil)) pa_nil)) pa_nil)))
  (pss_one (ps_set (i := 2) sc_lines_of.nd rfl (Or.inl rfl) (pe_op op_add (pv 3) pe_int))))
  pss_nil)))
  (pss_one (ps_ret (pv 1))))), ?_⟩
  refine q_parN ev_c fun p H1 hp e1 h1 => ?_
  have hS1 := ex_l e1 hS
  refine q_forR1 (n := ((t.length + 1 : Nat) : Int)) (ea_cons (ev_add (ev_len (ev_var rfl) hS1) ev_c (by rw [bs_len]; omega)) ea_nil) (by omega)
    (fun i σ' H' => ∃ (ls : List Ml.Bytes) (xs : List Addr) (b : Nat) (v : Option V), σ' = [some (.ref a), some (.ref p), some (.int (b : Int)), v] ∧ Ex H H' ∧ H' p = some (.lst (xs.map V.ref)) ∧ Each (LineAt K (out (fun b => F b ∨ b = p) H')) xs ls ∧
      (if i ≤ t.length then MA.LinesInv t ls b i else Ml.lines t = ls) ∧ ls.length ≤ i)
    (fun H2 e2 => ⟨[], [], 0, none, rfl, e1.trans e2, e2 p _ h1, Each.nil, ?_, Nat.zero_le _⟩) ?_ ?_
  · rw [if_pos (Nat.zero_le _)]
    exact MA.LinesInv.init t
  · rintro i σ' H' hi ⟨ls, xs, b, v, rfl, e, hx, hE, hI, hn⟩
    have hi' : i ≤ t.length := by omega
    rw [if_pos hi'] at hI
    have hS2 := ex_l e hS
    have wn2 := win_or (wn.ex e) hx
    have app : ∀ (σ'' : L2.St) (H2 : Hp) (tz : TS) (D : Ends) (E' : XK), σ''[0]? = some (some (.ref a)) → σ''[1]? = some (some (.ref p)) → σ''[2]? = some (some (.int (b : Int))) → σ''[3]? = some (some (.int (i : Int))) → Ex H' H2 →
        (∀ x H3, Ex H H3 → H3 p = some (.lst ((xs ++ [x]).map V.ref)) → Each (LineAt K (out (fun b => F b ∨ b = p) H3)) (xs ++ [x]) (ls ++ [MA.cut t b i]) → tz D σ'' H3) →
        tSeq (tDrop (tBM K "list" rAppend (tVar 1) (tCons (tCall (spLineOf K) [] E' (tCons (tCB (rListS K) (tCons (tSl (rSlL K) (tVar 0) (tPart (tVar 2)) (tPart (tVar 3))) tNil)) tNil)) tNil))) tz D σ'' H2 := by
      intro σ'' H2 tz D E' s0 s1 s2 s3 e2 kz
      have hx2 := e2 p _ hx
      have e3 := e.trans e2
      have wn3 := wn2.ex e2
      have hcut : EvL (tCB (rListS K) (tCons (tSl (rSlL K) (tVar 0) (tPart (tVar 2)) (tPart (tVar 3))) tNil)) σ'' H2 (bs (MA.cut t b i)) := fun H3 e4 Q2 q2 =>
        (el_sl (ev_var s0) (eo_some (ev_var s2)) (eo_some (ev_var s3)) (ex_l e3 hS)) H3 e4 _ fun p2 H4 hp2 e5 h5 => ⟨p2, bs (MA.cut t b i), rfl, Or.inl (sq_of (by rw [h5, cutV_nat, cut_bs])), fun l2 hl2 => q2 l2 _ (fresh_back e5 hl2) (e5.trans (Evl.Ex.new hl2)) upd_same⟩
      refine q_appG hx2 (ev_var s1) (eg_lineOf (F := fun b => F b ∨ b = p) wn3 hcut (by rw [MA.cut_len hi']; omega)) (by rw [List.length_map, hE.1]; omega) fun v2 H3 H4 e4 e5 ⟨x, hv, nx, hL⟩ => ?_
      subst hv
      have e6 := (e3.trans e4).trans e5
      refine kz x _ (Evl.Ex.mut e6 hp) ?_ ?_
      · rw [List.map_append]
        exact upd_same
      · rw [out_upd (.inr rfl)]
        exact (hE.mono fun y m hy => hy.ex (out_mono ((e2.trans e4).trans e5))).snoc hL
    by_cases c : i = t.length
    · subst c
      refine s_if (b := true) (et_orT (et_test (ev_eqI (ev_var rfl) (ev_len (ev_var rfl) hS2) (decide_eq_true (by rw [bs_len]))))) (fun _ H2 e2 => ?_) (fun z => Bool.noConfusion z)
      refine app _ H2 _ _ _ rfl rfl rfl rfl e2 fun x H3 e3 hx3 hE3 => ?_
      refine s_asg (ev_add (k := ((t.length + 1 : Nat) : Int)) (ev_var rfl) ev_c (by omega)) fun H4 e4 => ⟨ls ++ [MA.cut t b t.length], xs ++ [x], t.length + 1, _, rfl, e3.trans e4, e4 p _ hx3, hE3.mono fun y m hy => hy.ex (out_mono e4), ?_, ?_⟩
      · rw [if_neg (by omega)]
        exact hI.last
      · rw [List.length_append]
        exact Nat.succ_le_succ hn
    · have hlt : i < t.length := by omega
      have hc : t[i]? = some t[i] := List.getElem?_eq_getElem hlt
      refine s_if (b := t[i] == 10) (et_orF (et_test (ev_eqI (ev_var rfl) (ev_len (ev_var rfl) hS2) (decide_eq_false (by rw [bs_len]; omega)))) (et_test (ev_eqB (n := 10) 10 (ev_ixB (ev_var rfl) (ev_var rfl) hS2 rfl hc) ev_c rfl rfl))) (fun hb H2 e2 => ?_) (fun hb H2 e2 => ?_)
      · have h10 : t[i]? = some 10 := by
          rw [hc]
          congr 1
          exact eq_of_beq hb
        refine app _ H2 _ _ _ rfl rfl rfl rfl e2 fun x H3 e3 hx3 hE3 => ?_
        refine s_asg (ev_add (k := ((i + 1 : Nat) : Int)) (ev_var rfl) ev_c (by omega)) fun H4 e4 => ⟨ls ++ [MA.cut t b i], xs ++ [x], i + 1, _, rfl, e3.trans e4, e4 p _ hx3, hE3.mono fun y m hy => hy.ex (out_mono e4), ?_, ?_⟩
        · rw [if_pos (by omega)]
          exact hI.new h10
        · rw [List.length_append]
          exact Nat.succ_le_succ hn
      · refine ⟨ls, xs, b, _, rfl, e.trans e2, e2 p _ hx, hE.mono fun y m hy => hy.ex (out_mono e2), ?_, by omega⟩
        rw [if_pos (by omega)]
        exact hI.go hc (by simpa using hb)
  · rintro σ' H' ⟨ls, xs, b, v, rfl, e, hx, hE, hI, hn⟩
    have e0 : (((t.length + 1 : Nat) : Int)).toNat = t.length + 1 := by omega
    rw [e0, if_neg (by omega)] at hI
    rw [hI] at k
    exact s_ret (ev_var rfl) fun H2 e2 => k p H2 hp (e.trans e2) (LinesAt.mk' (xs := xs) (wn.new hp (e2 p _ hx)) (hE.mono fun y m hy => hy.ex ((out_mono e2).trans out_or)))
end
end Mk
set_option Elab.async false
set_option linter.all false
set_option maxRecDepth 100000
set_option maxHeartbeats 4000000
namespace Mk
open PySem PySem.Spec PyProof.Rows L2 C8 Evl
structure Fnd {α : Type} (F : Addr → Prop) (R : Hp → Addr → α → Prop) (H H' : Hp) (p : Addr) (xs : List Addr) (ls : List α) : Prop where
  ex : Ex H H'
  fr : H p = none
  at_ : H' p = some (.lst (xs.map V.ref))
  each : Each (R (out (fun b => F b ∨ b = p) H')) xs ls
def Mono {α : Type} (R : Hp → Addr → α → Prop) : Prop := ∀ G G' x l, Ex G G' → R G x l → R G' x l
section
variable {α : Type} {F : Addr → Prop} {R : Hp → Addr → α → Prop} {H H' H2 : Hp} {p : Addr} {xs : List Addr} {ls : List α} {l : α}
theorem Fnd.init (hp : H p = none) (e : Ex H H') (h : H' p = some (.lst [])) : Fnd F R H H' p [] [] := ⟨e, hp, h, Each.nil⟩
theorem Fnd.mono (m : Mono R) (f : Fnd F R H H' p xs ls) (e : Ex H' H2) : Fnd F R H H2 p xs ls := ⟨f.ex.trans e, f.fr, e _ _ f.at_, f.each.mono fun x l h => m _ _ x l (out_mono e) h⟩
theorem Fnd.win (f : Fnd F R H H' p xs ls) (w : Win F H) : Win (fun b => F b ∨ b = p) H' := win_or (w.ex f.ex) f.at_
theorem Fnd.len (f : Fnd F R H H' p xs ls) : xs.length = ls.length := f.each.1
theorem Fnd.done (m : Mono R) (f : Fnd F R H H' p xs ls) (w : Win F H) : ∃ xs : List Addr, out F H' p = some (.lst (xs.map V.ref)) ∧ Each (R (out F H')) xs ls := ⟨xs, w.new f.fr f.at_, f.each.mono fun x l h => m _ _ x l out_or h⟩
section
variable {K : PySem.W.Frag} {σ : L2.St} {ta te : TE} {tz : TS} {D : Ends}
theorem s_foundK (m : Mono R) (f : Fnd F R H H2 p xs ls) (hn : ls.length < 100000) (ha : Ev ta σ H2 (.ref p)) (h : EvG te σ H2 (fun v _ H4 => ∃ x, v = .ref x ∧ R (out (fun b => F b ∨ b = p) H4) x l))
    (k : ∀ x H3, Fnd F R H H3 p (xs ++ [x]) (ls ++ [l]) → (∀ b o, b ≠ p → H2 b = some o → H3 b = some o) → D.nx σ H3) : tDrop (tBM K "list" rAppend ta (tCons te tNil)) D σ H2 :=
  s_appG f.at_ ha h (by rw [List.length_map, f.len]; exact hn) fun v H3 H4 e3 e4 ⟨x, hv, hx⟩ => by
    subst hv
    refine k x _ ⟨Evl.Ex.mut ((f.ex.trans e3).trans e4) f.fr, f.fr, ?_, ?_⟩ fun b o hb hbo => ?_
    · rw [List.map_append]
      exact upd_same
    · rw [out_upd (.inr rfl)]
      exact (f.each.mono fun y z h => m _ _ y z (out_mono (e3.trans e4)) h).snoc hx
    · rw [upd_ne hb]
      exact (e3.trans e4) _ _ hbo
theorem q_foundK (m : Mono R) (f : Fnd F R H H2 p xs ls) (hn : ls.length < 100000) (ha : Ev ta σ H2 (.ref p)) (h : EvG te σ H2 (fun v _ H4 => ∃ x, v = .ref x ∧ R (out (fun b => F b ∨ b = p) H4) x l))
    (k : ∀ x H3, Fnd F R H H3 p (xs ++ [x]) (ls ++ [l]) → (∀ b o, b ≠ p → H2 b = some o → H3 b = some o) → tz D σ H3) : tSeq (tDrop (tBM K "list" rAppend ta (tCons te tNil))) tz D σ H2 := s_foundK (D := { D with nx := tz D }) m f hn ha h k
theorem s_found (m : Mono R) (f : Fnd F R H H2 p xs ls) (hn : ls.length < 100000) (ha : Ev ta σ H2 (.ref p)) (h : EvG te σ H2 (fun v _ H4 => ∃ x, v = .ref x ∧ R (out (fun b => F b ∨ b = p) H4) x l))
    (k : ∀ x H3, Fnd F R H H3 p (xs ++ [x]) (ls ++ [l]) → D.nx σ H3) : tDrop (tBM K "list" rAppend ta (tCons te tNil)) D σ H2 :=
  s_appG f.at_ ha h (by rw [List.length_map, f.len]; exact hn) fun v H3 H4 e3 e4 ⟨x, hv, hx⟩ => by
    subst hv
    refine k x _ ⟨Evl.Ex.mut ((f.ex.trans e3).trans e4) f.fr, f.fr, ?_, ?_⟩
    · rw [List.map_append]
      exact upd_same
    · rw [out_upd (.inr rfl)]
      exact (f.each.mono fun y z h => m _ _ y z (out_mono (e3.trans e4)) h).snoc hx
theorem q_found (m : Mono R) (f : Fnd F R H H2 p xs ls) (hn : ls.length < 100000) (ha : Ev ta σ H2 (.ref p)) (h : EvG te σ H2 (fun v _ H4 => ∃ x, v = .ref x ∧ R (out (fun b => F b ∨ b = p) H4) x l))
    (k : ∀ x H3, Fnd F R H H3 p (xs ++ [x]) (ls ++ [l]) → tz D σ H3) : tSeq (tDrop (tBM K "list" rAppend ta (tCons te tNil))) tz D σ H2 := s_found (D := { D with nx := tz D }) m f hn ha h k
end
end
theorem EvG.of {te : TE} {σ : L2.St} {H : Hp} {v : V} (h : Ev te σ H v) : EvG te σ H (fun w _ _ => w = v) := fun H1 e Q q => h H1 e Q fun H2 e2 => q v H2 e2 rfl
theorem EvG.imp {te : TE} {σ : L2.St} {H : Hp} {P P' : V → Hp → Hp → Prop} (h : EvG te σ H P) (f : ∀ v H1 H2, Ex H H1 → Ex H1 H2 → P v H1 H2 → P' v H1 H2) : EvG te σ H P' := fun H1 e Q q => h H1 e Q fun v H2 e2 hp => q v H2 e2 (f v H1 H2 e e2 hp)
def thF (s b i a : V) : List (Str × V) := [("form", s), ("byte", b), ("inner", i), ("address", a)]
section
variable {s b i a : V}
theorem thF_form : (thF s b i a).lookup ("form" : Str) = some s := lk_here
theorem thF_byte : (thF s b i a).lookup ("byte" : Str) = some b := (lk_past (by decide +kernel)).trans lk_here
theorem thF_inner : (thF s b i a).lookup ("inner" : Str) = some i := (lk_past (by decide +kernel)).trans ((lk_past (by decide +kernel)).trans lk_here)
theorem thF_address : (thF s b i a).lookup ("address" : Str) = some a := (lk_past (by decide +kernel)).trans ((lk_past (by decide +kernel)).trans ((lk_past (by decide +kernel)).trans lk_here))
theorem thF_put : putF "address" a (putF "inner" i (putF "byte" b (putF "form" s []))) = thF s b i a := by
  have h1 : ¬ ("form" : Str) = "byte" := by decide +kernel
  have h2 : ¬ ("form" : Str) = "inner" := by decide +kernel
  have h3 : ¬ ("form" : Str) = "address" := by decide +kernel
  have h4 : ¬ ("byte" : Str) = "inner" := by decide +kernel
  have h5 : ¬ ("byte" : Str) = "address" := by decide +kernel
  have h6 : ¬ ("inner" : Str) = "address" := by decide +kernel
  simp only [putF, h1, h2, h3, h4, h5, h6, if_false]
  rfl
end
def spThingInit (K : PySem.W.Frag) : Sp := fun vs H Q _ => ∃ p dx v1 v2 v3 v4, vs = [.ref p, v1, v2, v3, v4] ∧ H p = some (.ins (cThing K) dx []) ∧
  ∀ H' : Hp, H' p = some (.ins (cThing K) dx (thF v1 v2 v3 v4)) → (∀ b o, H b = some o → b ≠ p → H' b = some o) → Q .non H'
theorem thing_inits {K : PySem.W.Frag} {v1 v2 v3 v4 : V} : Inits (cThing K) (spThingInit K) [v1, v2, v3, v4] (thF v1 v2 v3 v4) := fun p dx H Q E hp k => ⟨p, dx, v1, v2, v3, v4, rfl, hp, k⟩
def ThI (K : PySem.W.Frag) (G : Hp) (x : Addr) (s : Int) (b : UInt8) : Prop := ∃ dx i a, G x = some (.ins (cThing K) dx (thF (.int s) (bV b) i a))
theorem ThI.ex {K : PySem.W.Frag} {G G' : Hp} {x : Addr} {s : Int} {b : UInt8} (e : Ex G G') (h : ThI K G x s b) : ThI K G' x s b := by
  obtain ⟨dx, i, a, h⟩ := h
  exact ⟨dx, i, a, e _ _ h⟩
def frmT : Ml.Tok → Int
  | .ch _ => 0
  | .lit _ => 1
  | .code _ => 2
  | .star => 3
  | .lbr => 3
  | .rbr => 3
def TokAt (K : PySem.W.Frag) (G : Hp) (x : Addr) (t : Ml.Tok) : Prop := ∃ dx i a, G x = some (.ins (cThing K) dx (thF (.int (frmT t)) (bV (MA.byteT t)) (.ref i) a)) ∧ ∀ b, t = .code b → G i = some (.lst (bs b))
theorem TokAt.mono (K : PySem.W.Frag) : Mono (TokAt K) := fun G G' x l e h => by
  obtain ⟨dx, i, a, h1, h2⟩ := h
  exact ⟨dx, i, a, e _ _ h1, fun b hb => e _ _ (h2 b hb)⟩
theorem TokAt.th {K : PySem.W.Frag} {G : Hp} {x : Addr} {t : Ml.Tok} (h : TokAt K G x t) : ThI K G x (frmT t) (MA.byteT t) := by
  obtain ⟨dx, i, a, h1, _⟩ := h
  exact ⟨dx, _, a, h1⟩
def ToksAt (K : PySem.W.Frag) (G : Hp) (p : Addr) (ts : List Ml.Tok) : Prop := ∃ xs : List Addr, G p = some (.lst (xs.map V.ref)) ∧ Each (TokAt K G) xs ts
theorem ToksAt.ex {K : PySem.W.Frag} {G G' : Hp} {p : Addr} {ts : List Ml.Tok} (e : Ex G G') (h : ToksAt K G p ts) : ToksAt K G' p ts := by
  obtain ⟨xs, h1, h2⟩ := h
  exact ⟨xs, e _ _ h1, h2.mono fun x l hx => TokAt.mono K _ _ x l e hx⟩
def spSign : Sp := fun vs H Q _ => ∃ c, vs = [bV c] ∧ RetV (.bl (Ml.sign c)) H Q
def spByteThing (K : PySem.W.Frag) : Sp := fun vs H Q _ => ∃ s b, vs = [.int s, bV b] ∧ ∀ x H', H x = none → Ex H H' → (∃ dx i a, H' x = some (.ins (cThing K) dx (thF (.int s) (bV b) (.ref i) (.ref a)))) → Q (.ref x) H'
def nbqV (l : Ml.Bytes) (b : Nat) : Int := if MA.spanF (fun x => x != 96) l b < l.length then ((MA.spanF (fun x => x != 96) l b : Nat) : Int) else -1
def spNextBq (K : PySem.W.Frag) : Sp := fun vs H Q _ => ∃ a l b, vs = [.ref a, .int ((b : Nat) : Int)] ∧ SqL K H a (bs l) ∧ b ≤ l.length ∧ l.length ≤ 40000 ∧ RetV (.int (nbqV l b)) H Q
def spIsMark (K : PySem.W.Frag) : Sp := fun vs H Q _ => ∃ x s b c, vs = [.ref x, bV c] ∧ ThI K H x s b ∧ RetV (.bl (decide (s = 3) && b == c)) H Q
def spIsPlain (K : PySem.W.Frag) : Sp := fun vs H Q _ => ∃ x s b c, vs = [.ref x, bV c] ∧ ThI K H x s b ∧ RetV (.bl (decide (s = 0) && b == c)) H Q
def brkF (s : Int) (b : UInt8) : Bool := decide (s = 3) && (b == 91 || b == 93)
def spIsBracket (K : PySem.W.Frag) : Sp := fun vs H Q _ => ∃ x s b, vs = [.ref x] ∧ ThI K H x s b ∧ RetV (.bl (brkF s b)) H Q
def mayF (s : Int) (b : UInt8) : Bool := if s = 0 then !Ml.space b && !(b == 41) else decide (s = 1) || (decide (s = 3) && b == 42)
def spMay (K : PySem.W.Frag) : Sp := fun vs H Q _ => ∃ x s b, vs = [.ref x] ∧ ThI K H x s b ∧ RetV (.bl (mayF s b)) H Q
def spSpaceTh (K : PySem.W.Frag) : Sp := fun vs H Q _ => ∃ x s b, vs = [.ref x] ∧ ThI K H x s b ∧ RetV (.bl (decide (s = 0) && Ml.space b)) H Q
section
variable {K : PySem.W.Frag} {H : Hp} {x : Addr} {s : Int} {b : UInt8}
theorem v_sign (c : UInt8) : SpV spSign [bV c] H (.bl (Ml.sign c)) := fun H1 _ Q q _ => ⟨c, rfl, q⟩
theorem v_nextBq {a : Addr} {l : Ml.Bytes} {b : Nat} (h : SqL K H a (bs l)) (hb : b ≤ l.length) (hl : l.length ≤ 40000) : SpV (spNextBq K) [.ref a, .int (b : Int)] H (.int (nbqV l b)) := fun H1 e Q q _ => ⟨a, l, b, rfl, ex_l e h, hb, hl, q⟩
theorem v_isMark (c : UInt8) (h : ThI K H x s b) : SpV (spIsMark K) [.ref x, bV c] H (.bl (decide (s = 3) && b == c)) := fun H1 e Q q _ => ⟨x, s, b, c, rfl, h.ex e, q⟩
theorem v_isPlain (c : UInt8) (h : ThI K H x s b) : SpV (spIsPlain K) [.ref x, bV c] H (.bl (decide (s = 0) && b == c)) := fun H1 e Q q _ => ⟨x, s, b, c, rfl, h.ex e, q⟩
theorem v_isBracket (h : ThI K H x s b) : SpV (spIsBracket K) [.ref x] H (.bl (brkF s b)) := fun H1 e Q q _ => ⟨x, s, b, rfl, h.ex e, q⟩
theorem v_may (h : ThI K H x s b) : SpV (spMay K) [.ref x] H (.bl (mayF s b)) := fun H1 e Q q _ => ⟨x, s, b, rfl, h.ex e, q⟩
theorem v_spaceTh (h : ThI K H x s b) : SpV (spSpaceTh K) [.ref x] H (.bl (decide (s = 0) && Ml.space b)) := fun H1 e Q q _ => ⟨x, s, b, rfl, h.ex e, q⟩
end
section
variable {P : Program} {w : World} {K : PySem.W.Frag} {mg : Str → Option Value} {base : Heap}
theorem ok_Thing_init (T : Txt K mg) : Mak P w K mg base 1 "Thing" (cThing K) (spThingInit K) [] := by
  refine mak_d T.mk_Thing T.g_Thing T.d_Thing_init sc_Thing_init bi_Thing_init (fun vs H Q E h => ?_) fun cdv A outer s H vs Q E hr h => ?_
  · obtain ⟨p, dx, v1, v2, v3, v4, rfl, _⟩ := h
    rfl
  obtain ⟨p, dx, v1, v2, v3, v4, rfl, hp, k⟩ := h
  refine ⟨_, (pss_cons (ps_fld (pv 0) (pv 1) rfl)
  (pss_cons (ps_fld (pv 0) (pv 2) rfl)
  (pss_cons (ps_fld (pv 0) (pv 3) rfl)
  (pss_one (ps_fld (pv 0) (pv 4) rfl))))), ?_⟩
  refine ⟨_, rfl, _, rfl, p, cThing K, dx, [], rfl, hp, T.cl_Thing, T.n_Thing_form, (by decide), ?_⟩
  refine ⟨_, rfl, _, rfl, p, cThing K, dx, _, rfl, upd_same, T.cl_Thing, T.n_Thing_byte, (by show 1 < 1000; decide), ?_⟩
  refine ⟨_, rfl, _, rfl, p, cThing K, dx, _, rfl, upd_same, T.cl_Thing, T.n_Thing_inner, ?_, ?_⟩
  · have h1 : ¬ ("form" : Str) = "byte" := by decide +kernel
    simp only [putF, h1, if_false]
    show 2 < 1000
    decide
  refine ⟨_, rfl, _, rfl, p, cThing K, dx, _, rfl, upd_same, T.cl_Thing, T.n_Thing_address, ?_, ?_⟩
  · have h1 : ¬ ("form" : Str) = "byte" := by decide +kernel
    have h2 : ¬ ("form" : Str) = "inner" := by decide +kernel
    have h4 : ¬ ("byte" : Str) = "inner" := by decide +kernel
    simp only [putF, h1, h2, h4, if_false]
    show 3 < 1000
    decide
  refine k _ (Eq.trans upd_same (congrArg (fun q => some (HO.ins (cThing K) dx q)) thF_put)) fun b o e hb => ?_
  rw [upd_ne hb, upd_ne hb, upd_ne hb, upd_ne hb]
  exact e
theorem ok_is_sign (T : Txt K mg) : Cal P w K mg base 1 "is_sign" spSign [] := by
  refine cal_d T.d_is_sign sc_is_sign bi_is_sign (fun vs H Q E h => ?_) fun f cdv A outer s H vs Q E hr h => ?_
  · obtain ⟨c, rfl, _⟩ := h
    rfl
  obtain ⟨c, rfl, k⟩ := h
  refine ⟨_, (pss_one (ps_ret (pe_or (pe_chain op_le op_le pe_int (pv 0) pe_int) (pe_or (pe_chain op_le op_le pe_int (pv 0) pe_int) (pe_or (pe_chain op_le op_le pe_int (pv 0) pe_int) (pe_one (pe_chain op_le op_le pe_int (pv 0) pe_int))))))), ?_⟩
  have g : ∀ a b : UInt8, (decide ((a.toNat : Int) ≤ (c.toNat : Int)) && decide ((c.toNat : Int) ≤ (b.toNat : Int))) = (decide (a ≤ c) && decide (c ≤ b)) := fun a b => by
    congr 1 <;> (refine decide_eq_decide.mpr ?_; rw [UInt8.le_iff_toNat_le]; omega)
  refine s_ret (ev_is (ev_orV (ev_chain ev_c (ev_var rfl) ev_c (g 33 47)) fun _ => ev_orV (ev_chain ev_c (ev_var rfl) ev_c (g 58 64)) fun _ => ev_orV (ev_chain ev_c (ev_var rfl) ev_c (g 91 96)) fun _ => ev_chain ev_c (ev_var rfl) ev_c (g 123 126)) ?_) k
  congr 1
  unfold Ml.sign
  simp only [Bool.or_assoc]
theorem ok_byte_thing (T : Txt K mg) (k_Thing : Mak P w K mg base 1 "Thing" (cThing K) (spThingInit K) []) : Cal P w K mg base 3 "byte_thing" (spByteThing K) [] := by
  refine cal_d T.d_byte_thing sc_byte_thing bi_byte_thing (fun vs H Q E h => ?_) fun f cdv A outer s H vs Q E hr h => ?_
  · obtain ⟨s, b, rfl, _⟩ := h
    rfl
  obtain ⟨s, b, rfl, k⟩ := h
  refine ⟨_, (pss_one (ps_ret (pe_mk k_Thing hr (by decide) rfl (pa_cons (pv 0) (pa_cons (pv 1) (pa_cons (pe_lst pa_nil) (pa_cons (pe_lst pa_nil) pa_nil))))))), ?_⟩
  refine ⟨_, rfl, _, rfl, (by decide), fun p1 hp1 => ⟨(by decide), fun p2 hp2 => mk_at thing_inits _ _ fun x dx H4 nx e4 h4 => ?_⟩⟩
  have eA := (Evl.Ex.new hp1 (o := .lst [])).trans (Evl.Ex.new hp2 (o := .lst []))
  exact k x H4 (fresh_back eA nx) (eA.trans e4) ⟨dx, p1, p2, h4⟩
theorem ok_next_backquote (T : Txt K mg) : Cal P w K mg base 1 "next_backquote" (spNextBq K) [] := by
  refine cal_d T.d_next_backquote sc_next_backquote bi_next_backquote (fun vs H Q E h => ?_) fun f cdv A outer s H vs Q E hr h => ?_
  · obtain ⟨a, l, b, rfl, _⟩ := h
    rfl
  obtain ⟨a, l, b, rfl, hS, hb, hl, k⟩ := h
  refine ⟨_, (pss_cons (ps_for PassesOwn.never rfl (pi_range2 rfl T.b_range (pa_cons (pv 1) (pa_cons (pe_callB call_lenS rfl T.b_len boot_len (pa_cons (pv 0) pa_nil)) pa_nil))) (pg_name (i := 2) sc_next_backquote.nd rfl (Or.inl rfl))
  (pss_one (ps_if (pt_cmpR op_eq (pe_ix ix_list (pv 0) (pv 2) (fun _ _ => rfl)) (pe_gc rfl T.k_BACKQUOTE) (nomark _))
  (pss_one (ps_ret (pv 2)))
  pss_nil)))
  (pss_one (ps_ret (pe_un un_neg pe_int)))), ?_⟩
  refine q_forR2 (lo := (b : Int)) (n := (l.length : Int)) (ea_cons (ev_var rfl) (ea_cons (ev_is (ev_len (ev_var rfl) hS) (by rw [bs_len])) ea_nil)) (by omega)
    (fun i σ' H' => ∃ v : Option V, σ' = [some (.ref a), some (.int (b : Int)), v] ∧ Ex H H' ∧ MA.spanF (fun x => x != 96) l (b + i) = MA.spanF (fun x => x != 96) l b) (fun H1 e1 => ⟨none, rfl, e1, rfl⟩) ?_ ?_
  · rintro i σ' H' hi ⟨v, rfl, e, hs⟩
    have hx : l[b + i]? = some (l[b + i]'(by omega)) := List.getElem?_eq_getElem (by omega)
    refine s_when (et_test (ev_eqB (n := 96) 96 (ev_ixB (i := b + i) (ev_var rfl) (ev_var rfl) (ex_l e hS) (by omega) hx) ev_c rfl rfl)) (fun hb2 H1 e1 => ?_) fun hb2 H1 e1 => ?_
    · refine s_ret (ev_var rfl) fun H2 e2 => ?_
      have hst : MA.spanF (fun x => x != 96) l (b + i) = b + i := MA.spanF_stop hx (by simpa using hb2)
      have hv : nbqV l b = (b : Int) + (i : Int) := by
        unfold nbqV
        rw [← hs, hst, if_pos (by omega)]
        omega
      have g := k H2 ((e.trans e1).trans e2)
      rw [hv] at g
      exact g
    · refine ⟨_, rfl, e.trans e1, ?_⟩
      rw [← hs]
      exact (MA.spanF_step hx (by simpa using hb2)).symm
  · rintro σ' H' ⟨v, rfl, e, hs⟩
    have h1 : MA.spanF (fun x => x != 96) l b = l.length := by
      rw [← hs, MA.spanF_end (by omega)]
      omega
    have hv : nbqV l b = -1 := by
      unfold nbqV
      rw [h1, if_neg (Nat.lt_irrefl _)]
    rw [hv] at k
    exact s_ret (ev_neg ev_c rfl) fun H2 e2 => k H2 (e.trans e2)
theorem ok_is_mark (T : Txt K mg) : Cal P w K mg base 1 "is_mark" (spIsMark K) [] := by
  refine cal_d T.d_is_mark sc_is_mark bi_is_mark (fun vs H Q E h => ?_) fun f cdv A outer s H vs Q E hr h => ?_
  · obtain ⟨x, s, b, c, rfl, _⟩ := h
    rfl
  obtain ⟨x, s, b, c, rfl, ⟨dx, i, a, hx⟩, k⟩ := h
  refine ⟨_, (pss_one (ps_ret (pe_and (pe_cmpR op_eq (pe_fld (pv 0) rfl) (pe_gc rfl T.k_MARK) (nomark _)) (pe_one (pe_cmpR op_eq (pe_fld (pv 0) rfl) (pv 1) (nomark _)))))), ?_⟩
  exact s_ret (ev_andV (ev_eqI (ev_fld (ev_var rfl) hx T.cl_Thing T.n_Thing_form thF_form) ev_c rfl) fun _ => ev_is (ev_op (ev_fld (ev_var rfl) hx T.cl_Thing T.n_Thing_byte thF_byte) (ev_var rfl) (rv_eq rfl)) (congrArg V.bl (bV_dec b c))) k
theorem ok_is_plain (T : Txt K mg) : Cal P w K mg base 1 "is_plain" (spIsPlain K) [] := by
  refine cal_d T.d_is_plain sc_is_plain bi_is_plain (fun vs H Q E h => ?_) fun f cdv A outer s H vs Q E hr h => ?_
  · obtain ⟨x, s, b, c, rfl, _⟩ := h
    rfl
  obtain ⟨x, s, b, c, rfl, ⟨dx, i, a, hx⟩, k⟩ := h
  refine ⟨_, (pss_one (ps_ret (pe_and (pe_cmpR op_eq (pe_fld (pv 0) rfl) (pe_gc rfl T.k_PLAIN_things) (nomark _)) (pe_one (pe_cmpR op_eq (pe_fld (pv 0) rfl) (pv 1) (nomark _)))))), ?_⟩
  exact s_ret (ev_andV (ev_eqI (ev_fld (ev_var rfl) hx T.cl_Thing T.n_Thing_form thF_form) ev_c rfl) fun _ => ev_is (ev_op (ev_fld (ev_var rfl) hx T.cl_Thing T.n_Thing_byte thF_byte) (ev_var rfl) (rv_eq rfl)) (congrArg V.bl (bV_dec b c))) k
theorem ok_is_bracket (T : Txt K mg) (c_is_mark : Cal P w K mg base 1 "is_mark" (spIsMark K) []) : Cal P w K mg base 2 "is_bracket" (spIsBracket K) [] := by
  refine cal_d T.d_is_bracket sc_is_bracket bi_is_bracket (fun vs H Q E h => ?_) fun f cdv A outer s H vs Q E hr h => ?_
  · obtain ⟨x, s, b, rfl, _⟩ := h
    rfl
  obtain ⟨x, s, b, rfl, hx, k⟩ := h
  refine ⟨_, (pss_one (ps_ret (pe_or (pe_c c_is_mark hr (by decide) rfl (pa_cons (pv 0) (pa_cons (pe_gc rfl T.k_OPENING) pa_nil))) (pe_one (pe_c c_is_mark hr (by decide) rfl (pa_cons (pv 0) (pa_cons (pe_gc rfl T.k_CLOSING) pa_nil))))))), ?_⟩
  refine s_ret (ev_is (ev_orV (ev_call (ea_cons (ev_var rfl) (ea_cons ev_c ea_nil)) (v_isMark 91 hx)) fun _ => ev_call (ea_cons (ev_var rfl) (ea_cons ev_c ea_nil)) (v_isMark 93 hx)) ?_) k
  unfold brkF
  rw [Bool.and_or_distrib_left]
theorem ok_may_be_in_address (T : Txt K mg) (c_is_space : Cal P w K mg base 2 "is_space" spSpace []) (c_is_mark : Cal P w K mg base 1 "is_mark" (spIsMark K) []) : Cal P w K mg base 3 "may_be_in_address" (spMay K) [] := by
  refine cal_d T.d_may_be_in_address sc_may_be_in_address bi_may_be_in_address (fun vs H Q E h => ?_) fun f cdv A outer s H vs Q E hr h => ?_
  · obtain ⟨x, s, b, rfl, _⟩ := h
    rfl
  obtain ⟨x, s, b, rfl, hT, k⟩ := h
  obtain ⟨dx, i, a, hx⟩ := id hT
  refine ⟨_, (pss_cons (ps_if (pt_cmpR op_eq (pe_fld (pv 0) rfl) (pe_gc rfl T.k_PLAIN_things) (nomark _))
  (pss_one (ps_ret (pe_and (pe_not (pe_c c_is_space hr (by decide) rfl (pa_cons (pe_fld (pv 0) rfl) pa_nil))) (pe_one (pe_cmpR op_ne (pe_fld (pv 0) rfl) (pe_gc rfl T.k_SHUT) (nomark _))))))
  pss_nil)
  (pss_one (ps_ret (pe_or (pe_cmpR op_eq (pe_fld (pv 0) rfl) (pe_gc rfl T.k_SIGN) (nomark _)) (pe_one (pe_c c_is_mark hr (by decide) rfl (pa_cons (pv 0) (pa_cons (pe_gc rfl T.k_STAR) pa_nil)))))))), ?_⟩
  refine q_when (et_test (ev_eqI (ev_fld (ev_var rfl) hx T.cl_Thing T.n_Thing_form thF_form) ev_c rfl)) (fun hb H1 e1 => ?_) fun hb H1 e1 => ?_
  · have hx1 := e1 _ _ hx
    refine s_ret (ev_is (ev_andV (ev_notV (ev_call (ea_cons (ev_fld (ev_var rfl) hx1 T.cl_Thing T.n_Thing_byte thF_byte) ea_nil) (v_space b))) fun _ => ev_neB (n := 41) 41 (ev_fld (ev_var rfl) hx1 T.cl_Thing T.n_Thing_byte thF_byte) ev_c rfl rfl) ?_) fun H2 e2 => k H2 (e1.trans e2)
    unfold mayF
    rw [if_pos (of_decide_eq_true hb)]
  · have hx1 := e1 _ _ hx
    refine s_ret (ev_is (ev_orV (ev_eqI (ev_fld (ev_var rfl) hx1 T.cl_Thing T.n_Thing_form thF_form) ev_c rfl) fun _ => ev_call (ea_cons (ev_var rfl) (ea_cons ev_c ea_nil)) (v_isMark 42 (hT.ex e1))) ?_) fun H2 e2 => k H2 (e1.trans e2)
    unfold mayF
    rw [if_neg (of_decide_eq_false hb)]
theorem ok_is_space_thing (T : Txt K mg) (c_is_space : Cal P w K mg base 2 "is_space" spSpace []) : Cal P w K mg base 3 "is_space_thing" (spSpaceTh K) [] := by
  refine cal_d T.d_is_space_thing sc_is_space_thing bi_is_space_thing (fun vs H Q E h => ?_) fun f cdv A outer s H vs Q E hr h => ?_
  · obtain ⟨x, s, b, rfl, _⟩ := h
    rfl
  obtain ⟨x, s, b, rfl, ⟨dx, i, a, hx⟩, k⟩ := h
  refine ⟨_, (pss_one (ps_ret (pe_and (pe_cmpR op_eq (pe_fld (pv 0) rfl) (pe_gc rfl T.k_PLAIN_things) (nomark _)) (pe_one (pe_c c_is_space hr (by decide) rfl (pa_cons (pe_fld (pv 0) rfl) pa_nil)))))), ?_⟩
  exact s_ret (ev_andV (ev_eqI (ev_fld (ev_var rfl) hx T.cl_Thing T.n_Thing_form thF_form) ev_c rfl) fun _ => ev_call (ea_cons (ev_fld (ev_var rfl) hx T.cl_Thing T.n_Thing_byte thF_byte) ea_nil) (v_space b)) k
end
end Mk
set_option Elab.async false
set_option linter.all false
set_option maxRecDepth 100000
set_option maxHeartbeats 4000000
namespace Mk
open PySem PySem.Spec PyProof.Rows L2 C8 Evl
def spFirst (K : PySem.W.Frag) : Sp := fun vs H Q _ => ∃ F a t, vs = [.ref a] ∧ Win F H ∧ SqL K H a (bs t) ∧ t.length ≤ 30000 ∧ ∀ p H', H p = none → Ex H H' → ToksAt K (out F H') p (MA.lexF t) → Q (.ref p) H'
section
variable {K : PySem.W.Frag} {σ : L2.St} {H : Hp} {ta tb te : TE}
theorem eg_byteThing {s : Int} {b : UInt8} {E : XK} (ha : Ev ta σ H (.int s)) (hb : Ev tb σ H (bV b)) : EvG (tCall (spByteThing K) [] E (tCons ta (tCons tb tNil))) σ H (fun v H1 H2 => ∃ x, v = .ref x ∧ H1 x = none ∧ ∃ dx i a, H2 x = some (.ins (cThing K) dx (thF (.int s) (bV b) (.ref i) (.ref a)))) := fun H1 e Q q =>
  ha H1 e _ fun H2 e2 => hb H2 (e.trans e2) _ fun H3 e3 => ⟨s, b, rfl, fun x H' nx e4 hx => q (.ref x) H' ((e2.trans e3).trans e4) ⟨x, rfl, fresh_back (e2.trans e3) nx, hx⟩⟩
theorem eg_tok {F : Addr → Prop} {s : Int} {t : Ml.Tok} {E : XK} (w : Win F H) (ha : Ev ta σ H (.int s)) (hb : Ev tb σ H (bV (MA.byteT t))) (hs : frmT t = s) (hc : ∀ b, t ≠ .code b) :
    EvG (tCall (spByteThing K) [] E (tCons ta (tCons tb tNil))) σ H (fun v _ H2 => ∃ x, v = .ref x ∧ TokAt K (out F H2) x t) :=
  (eg_byteThing ha hb).imp fun v H1 H2 e1 e2 ⟨x, hv, nx, dx, i, a, h⟩ => ⟨x, hv, dx, i, .ref a, by rw [hs]; exact (w.ex e1).new nx h, fun b hb => absurd hb (hc b)⟩
theorem eg_code {F : Addr → Prop} {b : Ml.Bytes} {E : XK} {t2 : TE} (w : Win F H) (ht : EvL t2 σ H (bs b)) :
    EvG (tMake (cThing K) (spThingInit K) [] E (tCons (tC (.int 2)) (tCons (tC (.int 0)) (tCons t2 (tCons (tLst tNil) tNil))))) σ H (fun v _ H2 => ∃ x, v = .ref x ∧ TokAt K (out F H2) x (.code b)) := fun H1 e Q q =>
  ht H1 e _ fun p1 H2 hp1 e2 h2 => ⟨(by decide), fun p2 hp2 => mk_at thing_inits _ _ fun x dx H4 nx e4 h4 => by
    have eB := Evl.Ex.new hp2 (o := .lst [])
    have eA := e2.trans eB
    refine q (.ref x) H4 (eA.trans e4) ⟨x, rfl, dx, p1, .ref p2, (w.ex e).new (fresh_back eA nx) h4, fun b' hb' => ?_⟩
    cases hb'
    exact (w.ex e).new hp1 (e4 _ _ (eB _ _ h2))⟩
end
section
variable {P : Program} {w : World} {K : PySem.W.Frag} {mg : Str → Option Value} {base : Heap}
theorem in_marks (c : UInt8) : inV (bV c) [.int 42, .int 91, .int 93] = (c == 42 || c == 91 || c == 93) := by
  unfold inV
  simp only [List.any_cons, List.any_nil]
  rw [show eqV (V.int 42) (bV c) = (c == 42) from bV_eqV c (n := 42) 42 rfl, show eqV (V.int 91) (bV c) = (c == 91) from bV_eqV c (n := 91) 91 rfl, show eqV (V.int 93) (bV c) = (c == 93) from bV_eqV c (n := 93) 93 rfl, Bool.or_false, Bool.or_assoc]
theorem tok1_frm (c : UInt8) : frmT (MA.tok1 c) = if (c == 42 || c == 91 || c == 93) = true then 3 else 0 := by
  unfold MA.tok1
  by_cases h1 : c = 42
  · simp [h1, frmT]
  · by_cases h2 : c = 91
    · simp [h2, frmT]
    · by_cases h3 : c = 93
      · simp [h3, frmT]
      · simp [h1, h2, h3, frmT]
theorem tok1_byte (c : UInt8) : MA.byteT (MA.tok1 c) = c := by
  unfold MA.tok1
  by_cases h1 : c = 42
  · simp [h1, MA.byteT]
  · by_cases h2 : c = 91
    · simp [h2, MA.byteT]
    · by_cases h3 : c = 93
      · simp [h3, MA.byteT]
      · simp [h1, h2, h3, MA.byteT]
theorem tok1_code (c : UInt8) (b : Ml.Bytes) : MA.tok1 c ≠ .code b := by
  unfold MA.tok1
  by_cases h1 : c = 42
  · simp [h1]
  · by_cases h2 : c = 91
    · simp [h2]
    · by_cases h3 : c = 93
      · simp [h3]
      · simp [h1, h2, h3]
set_option maxHeartbeats 8000000 in
theorem ok_first_things (T : Txt K mg) (c_is_sign : Cal P w K mg base 1 "is_sign" spSign []) (c_byte_thing : Cal P w K mg base 3 "byte_thing" (spByteThing K) []) (c_next_backquote : Cal P w K mg base 1 "next_backquote" (spNextBq K) [])
    (k_Thing : Mak P w K mg base 1 "Thing" (cThing K) (spThingInit K) []) : Cal P w K mg base 4 "first_things" (spFirst K) [] := by
  refine cal_d T.d_first_things sc_first_things bi_first_things (fun vs H Q E h => ?_) fun f cdv A outer s H vs Q E hr h => ?_
  · obtain ⟨F, a, t, rfl, _⟩ := h
    rfl
  obtain ⟨F, a, t, rfl, wn, hS, hl, k⟩ := h
  refine ⟨_, (pss_cons (ps_par (i := 1) (j := 2) (by rfl) sc_first_things.nd rfl rfl (by decide) rfl rfl (pa_cons (pe_lst pa_nil) (pa_cons pe_int pa_nil)) (by rfl))
  (pss_cons (ps_set (i := 3) sc_first_things.nd rfl (Or.inl rfl) (pe_callB call_lenS rfl T.b_len boot_len (pa_cons (pv 0) pa_nil)))
  (pss_cons (ps_while PassesOwn.never (PW.pt (pw_and (pt_cmpR op_gt (pv 3) pe_int (nomark _)) (pw_and1 (pt_cmpR op_ne (pe_ix ix_list (pv 0) (pe_op op_sub (pv 3) pe_int) (fun _ _ => rfl)) (pe_gc rfl T.k_BACKQUOTE) (nomark _)))))
  (pss_one (ps_set (i := 3) sc_first_things.nd rfl (Or.inl rfl) (pe_op op_sub (pv 3) pe_int))))
  (pss_cons (ps_while PassesOwn.never (pt_cmpR op_lt (pv 2) (pe_callB call_lenS rfl T.b_len boot_len (pa_cons (pv 0) pa_nil)) (nomark _))
  (pss_cons (ps_set (i := 4) sc_first_things.nd rfl (Or.inl rfl) (pe_ix ix_list (pv 0) (pv 2) (fun _ _ => rfl)))
  (pss_one (ps_if (PW.pt (pw_and (pt_cmpR op_eq (pv 4) (pe_gc rfl T.k_BACKSLASH) (nomark _)) (pw_and (pt_cmpR op_lt (pe_op op_add (pv 2) pe_int) (pe_callB call_lenS rfl T.b_len boot_len (pa_cons (pv 0) pa_nil)) (nomark _)) (pw_and1 (pt_val (pe_c c_is_sign hr (by decide) rfl (pa_cons (pe_ix ix_list (pv 0) (pe_op op_add (pv 2) pe_int) (fun _ _ => rfl)) pa_nil)))))))
  (pss_cons (ps_expr (pe_bm PySem.F.plainAttrs_list PySem.F.slot_list_append PySem.F.type_list_append mt_append (pv 1) (pa_cons (pe_c c_byte_thing hr (by decide) rfl (pa_cons (pe_gc rfl T.k_SIGN) (pa_cons (pe_ix ix_list (pv 0) (pe_op op_add (pv 2) pe_int) (fun _ _ => rfl)) pa_nil))) pa_nil)))
  (pss_one (ps_set (i := 2) sc_first_things.nd rfl (Or.inl rfl) (pe_op op_add (pv 2) pe_int))))
  (pss_one (ps_if (PW.pt (pw_and (pt_cmpR op_eq (pv 4) (pe_gc rfl T.k_BACKQUOTE) (nomark _)) (pw_and (pt_cmpR op_lt (pe_op op_add (pv 2) pe_int) (pv 3) (nomark _)) (pw_and1 (pt_cmpR op_ne (pe_ix ix_list (pv 0) (pe_op op_add (pv 2) pe_int) (fun _ _ => rfl)) (pe_gc rfl T.k_BACKQUOTE) (nomark _))))))
  (pss_cons (ps_set (i := 5) sc_first_things.nd rfl (Or.inl rfl) (pe_c c_next_backquote hr (by decide) rfl (pa_cons (pv 0) (pa_cons (pe_op op_add (pv 2) pe_int) pa_nil))))
  (pss_cons (ps_expr (pe_bm PySem.F.plainAttrs_list PySem.F.slot_list_append PySem.F.type_list_append mt_append (pv 1) (pa_cons (pe_mk k_Thing hr (by decide) rfl (pa_cons (pe_gc rfl T.k_CODE) (pa_cons pe_int (pa_cons (pe_callTy call_listS rfl T.b_list (by decide +kernel) (pa_cons (pe_slice sl_list (pv 0) (po_some (pe_op op_add (pv 2) pe_int)) (po_some (pv 5))) pa_nil)) (pa_cons (pe_lst pa_nil) pa_nil))))) pa_nil)))
  (pss_one (ps_set (i := 2) sc_first_things.nd rfl (Or.inl rfl) (pe_op op_add (pv 5) pe_int)))))
  (pss_cons (ps_expr (pe_bm PySem.F.plainAttrs_list PySem.F.slot_list_append PySem.F.type_list_append mt_append (pv 1) (pa_cons (pe_c c_byte_thing hr (by decide) rfl (pa_cons (pe_ifExp (pt_cmpR op_in_seq (pv 4) (pe_tup (pa_cons (pe_gc rfl T.k_STAR) (pa_cons (pe_gc rfl T.k_OPENING) (pa_cons (pe_gc rfl T.k_CLOSING) pa_nil)))) (by rfl)) (pe_gc rfl T.k_MARK) (pe_gc rfl T.k_PLAIN_things)) (pa_cons (pv 4) pa_nil))) pa_nil)))
  (pss_one (ps_set (i := 2) sc_first_things.nd rfl (Or.inl rfl) (pe_op op_add (pv 2) pe_int))))))))))
  (pss_one (ps_ret (pv 1))))))), ?_⟩
  refine q_parN ev_c fun p H1 hp e1 h1 => ?_
  refine q_asg (ev_is (ev_len (ev_var rfl) (ex_l e1 hS)) (by rw [bs_len])) fun H2 e2 => ?_
  refine q_while (fun m σ' H' => ∃ n : Nat, n = m ∧ σ' = [some (.ref a), some (.ref p), some (.int 0), some (.int (n : Int)), none, none] ∧ Ex H1 H' ∧ MA.LastQ t n) t.length ⟨t.length, rfl, rfl, e2, MA.LastQ.init t⟩ ?_
  rintro m σ' H' ⟨n, rfl, rfl, eA, hQ⟩
  have hS2 := ex_l (e1.trans eA) hS
  refine ⟨decide (0 < n) && !(t[n - 1]?.any fun x => x == 96), et_and (et_test (ev_gt (ev_var rfl) ev_c (decide_eq_decide.mpr (by omega)))) fun hb => ?_, fun hb H3 e3 => ?_, fun hb H3 e3 => ?_⟩
  · have hn := of_decide_eq_true hb
    have hq := hQ.le
    have hx : t[n - 1]? = some (t[n - 1]'(by omega)) := List.getElem?_eq_getElem (by omega)
    refine et_test (ev_neB (n := 96) 96 (ev_ixB (i := n - 1) (ev_var rfl) (ev_sub (ev_var rfl) ev_c rfl) hS2 (by omega) hx) ev_c rfl ?_)
    rw [hx]
    rfl
  · rw [Bool.and_eq_true] at hb
    have hn := of_decide_eq_true hb.1
    obtain ⟨m, rfl⟩ : ∃ m, n = m + 1 := ⟨n - 1, by omega⟩
    refine ⟨fun σ2 H2 => σ2 = [some (.ref a), some (.ref p), some (.int 0), some (.int (m : Int)), none, none] ∧ Ex H1 H2, fun σ2 H2 ⟨h1, h2⟩ => ⟨m, by omega, m, rfl, h1, h2, hQ.down ?_⟩, ?_⟩
    · intro z
      have hb2 := hb.2
      rw [Nat.add_sub_cancel, z] at hb2
      simp at hb2
    · exact s_asg (ev_sub (ev_var rfl) ev_c (k := (m : Int)) (by omega)) fun H4 e4 => ⟨rfl, (eA.trans e3).trans e4⟩
  have hlast : 0 < n → t[n - 1]? = some 96 := fun hn => by
    have hq := hQ.le
    have hx : t[n - 1]? = some (t[n - 1]'(by omega)) := List.getElem?_eq_getElem (by omega)
    rw [hx] at hb ⊢
    rw [decide_eq_true hn] at hb
    simp at hb
    rw [hb]
  clear hb
  refine q_while (fun m σ' H' => ∃ (i : Nat) (ts : List Ml.Tok) (xs : List Addr) (v w : Option V), m = t.length - i ∧ σ' = [some (.ref a), some (.ref p), some (.int (i : Int)), some (.int (n : Int)), v, w] ∧ Fnd F (TokAt K) H H' p xs ts ∧
    MA.lexF t = ts ++ MA.lexF (t.drop i) ∧ ts.length ≤ i ∧ i ≤ t.length) t.length ⟨0, [], [], none, none, rfl, rfl, Fnd.init hp ((e1.trans eA).trans e3) (e3 _ _ (eA _ _ h1)), by simp, Nat.zero_le _, Nat.zero_le _⟩ ?_
  rintro m σ' H4 ⟨i, ts, xs, v, v2, rfl, rfl, fd, hlex, hts, hi⟩
  have hS4 := ex_l fd.ex hS
  refine ⟨_, et_test (ev_lt (b := decide (i < t.length)) (ev_var rfl) (ev_len (ev_var rfl) hS4) (decide_eq_decide.mpr (by rw [bs_len]; omega))), fun hb H5 e5 => ?_, fun hb H5 e5 => ?_⟩
  · have hlt := of_decide_eq_true hb
    have hx : t[i]? = some t[i] := List.getElem?_eq_getElem hlt
    generalize t[i] = c at hx
    have hd := MA.drop_at hx
    refine ⟨fun σ2 H2 => ∃ (i2 : Nat) (ts : List Ml.Tok) (xs : List Addr) (v w : Option V), i < i2 ∧ σ2 = [some (.ref a), some (.ref p), some (.int (i2 : Int)), some (.int (n : Int)), v, w] ∧ Fnd F (TokAt K) H H2 p xs ts ∧
      MA.lexF t = ts ++ MA.lexF (t.drop i2) ∧ ts.length ≤ i2 ∧ i2 ≤ t.length, fun σ2 H2 ⟨i2, ts, xs, v, w, h1, h2, h3, h4, h5, h6⟩ => ⟨t.length - i2, by omega, i2, ts, xs, v, w, rfl, h2, h3, h4, h5, h6⟩, ?_⟩
    have hS5 := ex_l e5 hS4
    refine q_asg (ev_ixB (ev_var rfl) (ev_var rfl) hS5 rfl hx) fun H6 e6 => ?_
    have fd6 := fd.mono (TokAt.mono K) (e5.trans e6)
    have hS6 := ex_l e6 hS5
    by_cases g1 : c = 92 ∧ ∃ x, t[i + 1]? = some x ∧ Ml.sign x = true
    · obtain ⟨rfl, x, hx1, hsg⟩ := g1
      have h1lt := (List.getElem?_eq_some_iff.mp hx1).1
      have hd1 := MA.drop_at hx1
      refine s_if (b := true) (et_andT (et_test (ev_eqB (n := 92) 92 (ev_var rfl) ev_c rfl rfl)) (et_andT (et_test (ev_lt (ev_add (ev_var rfl) ev_c rfl) (ev_len (ev_var rfl) hS6) (decide_eq_true (by rw [bs_len]; omega))))
        (et_B (ev_is (ev_call (ea_cons (ev_ixB (i := i + 1) (ev_var rfl) (ev_add (ev_var rfl) ev_c rfl) hS6 (by omega) hx1) ea_nil) (v_sign x)) (by rw [hsg]))))) (fun _ H7 e7 => ?_) (fun z => Bool.noConfusion z)
      have fd7 := fd6.mono (TokAt.mono K) e7
      have hS7 := ex_l e7 hS6
      refine q_found (TokAt.mono K) fd7 (l := .lit x) (by omega) (ev_var rfl) (eg_tok (t := .lit x) (fd7.win wn) ev_c (ev_ixB (i := i + 1) (ev_var rfl) (ev_add (ev_var rfl) ev_c rfl) hS7 (by omega) hx1) rfl (fun b hb => by cases hb)) fun x2 H8 fd8 => ?_
      refine s_asg (ev_add (k := ((i + 2 : Nat) : Int)) (ev_var rfl) ev_c (by omega)) fun H9 e9 => ⟨i + 2, _, _, _, _, by omega, rfl, fd8.mono (TokAt.mono K) e9, ?_, ?_, by omega⟩
      · rw [hlex, hd, hd1, MA.lexF_lit hsg, List.append_assoc]
        rfl
      · rw [List.length_append]
        show ts.length + 1 ≤ i + 2
        omega
    have hc1 : EvT (tAnd (tTest (tOp rEq (tVar 4) (tC (.int 92)))) (tAnd (tTest (tOp (rI0 fun i j => .bl (decide (i < j))) (tOp (rI0 fun i j => .int (i + j)) (tVar 2) (tC (.int 1))) (tCB (rLenS K) (tCons (tVar 0) tNil))))
        (tB (tCall spSign [] C8.E0 (tCons (tOp (rIxL K) (tVar 0) (tOp (rI0 fun i j => .int (i + j)) (tVar 2) (tC (.int 1)))) tNil))))) [some (.ref a), some (.ref p), some (.int (i : Int)), some (.int (n : Int)), some (bV c), v2] H6 false := by
      by_cases h92 : c = 92
      · refine et_andT (et_test (ev_eqB (n := 92) 92 (ev_var rfl) ev_c rfl (by rw [h92]; rfl))) ?_
        cases hx1 : t[i + 1]? with
        | none =>
          have := List.getElem?_eq_none_iff.mp hx1
          exact et_andF (et_test (ev_lt (ev_add (ev_var rfl) ev_c rfl) (ev_len (ev_var rfl) hS6) (decide_eq_false (by rw [bs_len]; omega))))
        | some x =>
          have := (List.getElem?_eq_some_iff.mp hx1).1
          refine et_andT (et_test (ev_lt (ev_add (ev_var rfl) ev_c rfl) (ev_len (ev_var rfl) hS6) (decide_eq_true (by rw [bs_len]; omega)))) (et_B (ev_is (ev_call (ea_cons (ev_ixB (i := i + 1) (ev_var rfl) (ev_add (ev_var rfl) ev_c rfl) hS6 (by omega) hx1) ea_nil) (v_sign x)) ?_))
          congr 1
          cases hsg : Ml.sign x with
          | false => rfl
          | true => exact absurd ⟨h92, x, hx1, hsg⟩ g1
      · exact et_andF (et_test (ev_eqB (n := 92) 92 (ev_var rfl) ev_c rfl (by simp [h92])))
    refine s_if hc1 (fun z => Bool.noConfusion z) (fun _ H7 e7 => ?_)
    have fd7 := fd6.mono (TokAt.mono K) e7
    have hS7 := ex_l e7 hS6
    have hq := MA.quote_test (i := i) hQ hlast
    by_cases g2 : c = 96 ∧ (i + 1 < n ∧ ∃ x, t[i + 1]? = some x ∧ x ≠ 96)
    · obtain ⟨rfl, g2⟩ := g2
      have hw := hq.mp g2
      obtain ⟨hn, x, hx1, hx96⟩ := g2
      have h1lt := (List.getElem?_eq_some_iff.mp hx1).1
      refine s_if (b := true) (et_andT (et_test (ev_eqB (n := 96) 96 (ev_var rfl) ev_c rfl rfl)) (et_andT (et_test (ev_lt (ev_add (ev_var rfl) ev_c rfl) (ev_var rfl) (decide_eq_true (by omega))))
        (et_test (ev_neB (n := 96) 96 (ev_ixB (i := i + 1) (ev_var rfl) (ev_add (ev_var rfl) ev_c rfl) hS7 (by omega) hx1) ev_c rfl (by simp [hx96]))))) (fun _ H8 e8 => ?_) (fun z => Bool.noConfusion z)
      have hS8 := ex_l e8 hS7
      have hsp : MA.spanF (fun x => x != 96) t (i + 1) = i + 1 + ((t.drop (i + 1)).takeWhile fun x => x != 96).length := rfl
      have hlen : (t.drop (i + 1)).length = t.length - (i + 1) := List.length_drop ..
      have hnb : nbqV t (i + 1) = ((MA.spanF (fun x => x != 96) t (i + 1) : Nat) : Int) := by
        unfold nbqV
        rw [if_pos]
        have := hw.2
        omega
      refine q_asg (ev_call (ea_cons (ev_var rfl) (ea_cons (ev_add (k := ((i + 1 : Nat) : Int)) (ev_var rfl) ev_c (by omega)) ea_nil)) (v_nextBq hS8 (by omega) (by omega))) fun H9 e9 => ?_
      have fd9 := fd7.mono (TokAt.mono K) (e8.trans e9)
      have hS9 := ex_l e9 hS8
      rw [hnb]
      have hb0 : MA.cut t (i + 1) (MA.spanF (fun x => x != 96) t (i + 1)) = (t.drop (i + 1)).takeWhile fun x => x != 96 := by
        rw [MA.cut_eq]
        exact MA.spanF_take.symm
      have hev : EvL (tCB (rListS K) (tCons (tSl (rSlL K) (tVar 0) (tPart (tOp (rI0 fun i j => .int (i + j)) (tVar 2) (tC (.int 1)))) (tPart (tVar 5))) tNil)) [some (.ref a), some (.ref p), some (.int (i : Int)), some (.int (n : Int)), some (bV 96), some (.int ((MA.spanF (fun x => x != 96) t (i + 1) : Nat) : Int))] H9 (bs ((t.drop (i + 1)).takeWhile fun x => x != 96)) := fun H3 e4 Q2 q2 =>
        (el_sl (ev_var rfl) (eo_some (ev_add (k := ((i + 1 : Nat) : Int)) (ev_var rfl) ev_c (by omega))) (eo_some (ev_var rfl)) hS9) H3 e4 _ fun p2 H4 hp2 e5 h5 => ⟨p2, bs ((t.drop (i + 1)).takeWhile fun x => x != 96), rfl, Or.inl (sq_of (by rw [h5, cutV_nat, cut_bs, hb0])), fun l2 hl2 => q2 l2 _ (fresh_back e5 hl2) (e5.trans (Evl.Ex.new hl2)) upd_same⟩
      refine q_found (TokAt.mono K) fd9 (l := .code ((t.drop (i + 1)).takeWhile fun x => x != 96)) (by omega) (ev_var rfl) (eg_code (fd9.win wn) hev) fun x2 H10 fd10 => ?_
      refine s_asg (ev_add (k := ((MA.spanF (fun x => x != 96) t (i + 1) + 1 : Nat) : Int)) (ev_var rfl) ev_c (by omega)) fun H11 e11 => ⟨MA.spanF (fun x => x != 96) t (i + 1) + 1, _, _, _, _, by omega, rfl, fd10.mono (TokAt.mono K) e11, ?_, ?_, ?_⟩
      · rw [hlex, hd, MA.lexF_code hw.1 hw.2, List.append_assoc, List.drop_drop]
        rfl
      · rw [List.length_append]
        show ts.length + 1 ≤ _
        omega
      · have := hw.2
        omega
    have hc2 : EvT (tAnd (tTest (tOp rEq (tVar 4) (tC (.int 96)))) (tAnd (tTest (tOp (rI0 fun i j => .bl (decide (i < j))) (tOp (rI0 fun i j => .int (i + j)) (tVar 2) (tC (.int 1))) (tVar 3)))
        (tTest (tOp rNe (tOp (rIxL K) (tVar 0) (tOp (rI0 fun i j => .int (i + j)) (tVar 2) (tC (.int 1)))) (tC (.int 96)))))) [some (.ref a), some (.ref p), some (.int (i : Int)), some (.int (n : Int)), some (bV c), v2] H7 false := by
      by_cases h96 : c = 96
      · refine et_andT (et_test (ev_eqB (n := 96) 96 (ev_var rfl) ev_c rfl (by rw [h96]; rfl))) ?_
        by_cases hn : i + 1 < n
        · have hq2 := hQ.le
          have hx1 : t[i + 1]? = some (t[i + 1]'(by omega)) := List.getElem?_eq_getElem (by omega)
          refine et_andT (et_test (ev_lt (ev_add (ev_var rfl) ev_c rfl) (ev_var rfl) (decide_eq_true (by omega)))) (et_test (ev_neB (n := 96) 96 (ev_ixB (i := i + 1) (ev_var rfl) (ev_add (ev_var rfl) ev_c rfl) hS7 (by omega) hx1) ev_c rfl ?_))
          by_cases z : t[i + 1]'(by omega) = 96
          · rw [z]
            rfl
          · exact absurd ⟨h96, hn, _, hx1, z⟩ g2
        · exact et_andF (et_test (ev_lt (ev_add (ev_var rfl) ev_c rfl) (ev_var rfl) (decide_eq_false (by omega))))
      · exact et_andF (et_test (ev_eqB (n := 96) 96 (ev_var rfl) ev_c rfl (by simp [h96])))
    refine s_if hc2 (fun z => Bool.noConfusion z) (fun _ H8 e8 => ?_)
    have fd8 := fd7.mono (TokAt.mono K) e8
    have hif : Ev (tIf (tTest (tOp (rIn K false) (tVar 4) (tTup (tCons (tC (.int 42)) (tCons (tC (.int 91)) (tCons (tC (.int 93)) tNil)))))) (tC (.int 3)) (tC (.int 0))) [some (.ref a), some (.ref p), some (.int (i : Int)), some (.int (n : Int)), some (bV c), v2] H8 (.int (if (c == 42 || c == 91 || c == 93) = true then 3 else 0)) := by
      refine ev_if (b := (c == 42 || c == 91 || c == 93)) (et_test (ev_is (ev_inU (ev_var rfl) (eu_tup (ea_cons ev_c (ea_cons ev_c (ea_cons ev_c ea_nil))) (by decide)) rfl rfl) (congrArg V.bl (in_marks c)))) (fun hb => ?_) fun hb => ?_
      · rw [if_pos hb]
        exact ev_c
      · rw [if_neg (by rw [hb]; exact Bool.false_ne_true)]
        exact ev_c
    refine q_found (TokAt.mono K) fd8 (l := MA.tok1 c) (by omega) (ev_var rfl) (eg_tok (t := MA.tok1 c) (fd8.win wn) hif (by rw [tok1_byte]; exact ev_var rfl) (tok1_frm c) (tok1_code c)) fun x2 H9 fd9 => ?_
    refine s_asg (ev_add (k := ((i + 1 : Nat) : Int)) (ev_var rfl) ev_c (by omega)) fun H10 e10 => ⟨i + 1, _, _, _, _, by omega, rfl, fd9.mono (TokAt.mono K) e10, ?_, ?_, by omega⟩
    · rw [hlex, hd, MA.lexF_one (c := c) (r := t.drop (i + 1)) ?_ ?_, List.append_assoc]
      · rfl
      · rintro ⟨h92, x, q, hxq, hsg⟩
        refine g1 ⟨h92, x, ?_, hsg⟩
        have := congrArg (fun l => l[0]?) hxq
        simpa using this
      · rintro ⟨h96, hw⟩
        exact g2 ⟨h96, hq.mpr hw⟩
    · rw [List.length_append]
      show ts.length + 1 ≤ i + 1
      omega
  · have hge : i = t.length := by
      have := of_decide_eq_false hb
      omega
    subst hge
    rw [List.drop_length, MA.lexF_nil, List.append_nil] at hlex
    refine s_ret (ev_var rfl) fun H6 e6 => k p H6 hp (fd.ex.trans (e5.trans e6)) ?_
    rw [hlex]
    exact (fd.mono (TokAt.mono K) (e5.trans e6)).done (TokAt.mono K) wn
end
end Mk
set_option Elab.async false
set_option linter.all false
set_option maxRecDepth 100000
set_option maxHeartbeats 4000000
namespace Mk
open PySem PySem.Spec PyProof.Rows L2 C8 Evl
section
variable {K : PySem.W.Frag} {σ : L2.St} {H : Hp} {ta : TA} {tu tz : TS} {D : Ends}
theorem q_back {n j : Nat} {l : Addr} {g : Nat → Int} {xs0 : List V} (S : L2.St → Prop) (h : EvA ta σ H [.int ((n : Int) - 1), .int (-1), .int (-1)]) (hn : n ≤ 100000) (h0 : ∀ H1, Ex H H1 → S σ) (hx0 : H l = some (.lst xs0)) (hl0 : xs0.length = n + 1) (hg0 : xs0[n]? = some (.int (g n)))
    {H0 : Hp} (fr : H0 l = none) (eH : Ex H0 H)
    (hs : ∀ (i : Nat) σ' H' xs, i < n → S σ' → Ex H0 H' → H' l = some (.lst xs) → xs.length = n + 1 → xs[i + 1]? = some (.int (g (i + 1))) →
      ∀ N : L2.St → Hp → Prop, (∀ σ2 H2, S σ2 → Ex H0 H2 → H2 l = some (.lst (xs.set i (.int (g i)))) → N σ2 H2) → tu { D with nx := N, ct := N, bk := tz D } (σ'.set j (some (.int (i : Int)))) H')
    (hd : ∀ σ' H', S σ' → Ex H0 H' → H' l = some (.lst ((List.range (n + 1)).map fun i => .int (g i))) → tz D σ' H') :
    tSeq (tFor (iRng3 ta) (gName j) tu) tz D σ H := by
  refine h H (Ex.refl H) _ fun H1 e => ⟨_, _, _, _, rfl, RgC.neg (by omega) (by omega) (by omega) (by omega), ?_⟩
  have en : ((n : Int) - 1 - -1).toNat = n := by omega
  rw [en]
  refine for_rangeC (D := { D with nx := tz D }) (fun i σ' H' => S σ' ∧ Ex H0 H' ∧ ∃ xs, H' l = some (.lst xs) ∧ xs.length = n + 1 ∧ ∀ m, n - i ≤ m → m ≤ n → xs[m]? = some (.int (g m))) ⟨h0 H1 e, eH.trans e, xs0, e _ _ hx0, hl0, fun m h1 h2 => by rw [show m = n by omega]; exact hg0⟩ ?_ ?_
  · rintro i σ' H' hi ⟨hS, e2, xs, hx, hl, hm⟩
    have e0 : ((n : Int) - 1 + (i : Nat) * -1) = ((n - 1 - i : Nat) : Int) := by omega
    rw [e0]
    refine hs (n - 1 - i) σ' H' xs (by omega) hS e2 hx hl (by rw [show n - 1 - i + 1 = n - i by omega]; exact hm _ (Nat.le_refl _) (by omega)) _ fun σ2 H2 a1 a2 a3 => ?_
    refine ⟨a1, a2, _, a3, by rw [List.length_set]; exact hl, fun m h1 h2 => ?_⟩
    rw [List.getElem?_set]
    split
    · rename_i em
      rw [if_pos (by omega), em]
    · exact hm m (by omega) h2
  · rintro σ' H' ⟨hS, e2, xs, hx, hl, hm⟩
    refine hd σ' H' hS e2 ?_
    rw [hx]
    congr 2
    refine List.ext_getElem? fun m => ?_
    by_cases c : m ≤ n
    · rw [hm m (by omega) c, List.getElem?_map, List.getElem?_range (by omega)]
      rfl
    · rw [List.getElem?_eq_none (by omega), List.getElem?_eq_none (by rw [List.length_map, List.length_range]; omega)]
end
theorem brk_nbr (t : Ml.Tok) : brkF (frmT t) (MA.byteT t) = !MA.nbr t := by
  cases t <;> simp [brkF, frmT, MA.byteT, MA.nbr, Ml.bracket]
theorem may_url (t : Ml.Tok) : mayF (frmT t) (MA.byteT t) = MA.urlOk t := by
  cases t with
  | ch c =>
    unfold mayF MA.urlOk Ml.urlByte
    simp only [frmT, MA.byteT, if_true]
    by_cases h1 : c = 41
    · subst h1
      rfl
    · cases h2 : Ml.space c <;> simp [h1, h2]
  | _ => simp [mayF, frmT, MA.byteT, MA.urlOk, Ml.urlByte]
def brkL (ts : List Ml.Tok) : List V := (List.range (ts.length + 1)).map fun i => .int ((MA.spanF MA.nbr ts i : Nat) : Int)
theorem brkL_at {ts : List Ml.Tok} {i : Nat} (h : i ≤ ts.length) : (brkL ts)[i]? = some (.int ((MA.spanF MA.nbr ts i : Nat) : Int)) := by
  unfold brkL
  rw [List.getElem?_map, List.getElem?_range (by omega)]
  rfl
def spBrackets (K : PySem.W.Frag) : Sp := fun vs H Q _ => ∃ a ts, vs = [.ref a] ∧ ToksAt K H a ts ∧ ts.length ≤ 30000 ∧ RetL (brkL ts) H Q
def spAddrEnd (K : PySem.W.Frag) : Sp := fun vs H Q _ => ∃ a ts b, vs = [.ref a, .int ((b : Nat) : Int)] ∧ ToksAt K H a ts ∧ ts.length ≤ 30000 ∧ RetV (.int ((MA.spanF MA.urlOk ts b : Nat) : Int)) H Q
section
variable {K : PySem.W.Frag} {H : Hp} {a : Addr} {ts : List Ml.Tok}
theorem v_brackets (h : ToksAt K H a ts) (hl : ts.length ≤ 30000) : SpL (spBrackets K) [.ref a] H (brkL ts) := fun H1 e Q q _ => ⟨a, ts, rfl, h.ex e, hl, q⟩
theorem v_addrEnd {b : Nat} (h : ToksAt K H a ts) (hl : ts.length ≤ 30000) : SpV (spAddrEnd K) [.ref a, .int (b : Int)] H (.int ((MA.spanF MA.urlOk ts b : Nat) : Int)) := fun H1 e Q q _ => ⟨a, ts, b, rfl, h.ex e, hl, q⟩
theorem ToksAt.sq (h : ToksAt K H a ts) : ∃ xs : List Addr, SqL K H a (xs.map V.ref) ∧ xs.length = ts.length ∧ ∀ (i : Nat) t, ts[i]? = some t → ∃ x, (xs.map V.ref)[i]? = some (V.ref x) ∧ TokAt K H x t := by
  obtain ⟨xs, h1, h2⟩ := h
  exact ⟨xs, sq_of h1, h2.1, fun i t ht => let ⟨x, _, b, c⟩ := h2.at ht; ⟨x, b, c⟩⟩
end
section
variable {P : Program} {w : World} {K : PySem.W.Frag} {mg : Str → Option Value} {base : Heap}
theorem given_all (n : Nat) (v : V) : given n (fun _ => true) (fun _ => v) = List.replicate n v := by
  unfold given
  have e : (List.range n).filter (fun _ => true) = List.range n := by simp
  rw [e]
  refine List.ext_getElem? fun i => ?_
  rw [List.getElem?_map]
  by_cases h : i < n
  · rw [List.getElem?_range h, List.getElem?_replicate, if_pos h]
    rfl
  · rw [List.getElem?_eq_none (by rw [List.length_range]; omega), List.getElem?_eq_none (by rw [List.length_replicate]; omega)]
    rfl
theorem et_yes {σ : L2.St} {H : Hp} : EvT tYes σ H true := fun H1 _ Q q => q H1 (Ex.refl H1)
theorem ok_brackets_ahead (T : Txt K mg) (c_is_bracket : Cal P w K mg base 2 "is_bracket" (spIsBracket K) []) : Cal P w K mg base 3 "brackets_ahead" (spBrackets K) [] := by
  refine cal_d T.d_brackets_ahead sc_brackets_ahead bi_brackets_ahead (fun vs H Q E h => ?_) fun f cdv A outer s H vs Q E hr h => ?_
  · obtain ⟨a, ts, rfl, _⟩ := h
    rfl
  obtain ⟨a, ts, rfl, hT, hl, k⟩ := h
  obtain ⟨xs, hS, hlen, hat⟩ := hT.sq
  have hml : (xs.map V.ref).length = ts.length := by rw [List.length_map, hlen]
  refine ⟨_, (pss_cons (ps_setLc (i := 1) (own := [("at", 2)]) (g := gName 2) (tt := tYes) rfl sc_brackets_ahead.nd rfl rfl (sw_true rfl rfl rfl (by decide +kernel)) (pi_range1 rfl T.b_range (pa_cons (pe_op op_add (pe_callB call_lenS rfl T.b_len boot_len (pa_cons (pv 0) pa_nil)) pe_int) pa_nil)) (blkOk_by (own := [("at", 2)]) (N := ["things", "found", "at"]) (sc := defScope s_brackets_ahead) (by decide +kernel)) (fun _ _ _ _ _ => pg_name (i := 2) sc_brackets_ahead.nd rfl (Or.inl rfl)) (fun _ _ _ _ _ => pts_nil) (fun _ _ _ _ _ => (pe_callB (r := rLenS K) call_lenS rfl T.b_len boot_len (pa_cons (pv 0) pa_nil))))
  (pss_cons (ps_for PassesOwn.never rfl (pi_range3 rfl T.b_range (pa_cons (pe_op op_sub (pe_callB call_lenS rfl T.b_len boot_len (pa_cons (pv 0) pa_nil)) pe_int) (pa_cons (pe_un un_neg pe_int) (pa_cons (pe_un un_neg pe_int) pa_nil)))) (pg_name (i := 2) sc_brackets_ahead.nd rfl (Or.inl rfl))
  (pss_one (ps_asg (pe_ifExp (pt_val (pe_c c_is_bracket hr (by decide) rfl (pa_cons (pe_ix ix_list (pv 0) (pv 2) (fun _ _ => rfl)) pa_nil))) (pv 2) (pe_ix ix_list (pv 1) (pe_op op_add (pv 2) pe_int) (fun _ _ => rfl))) (pg_sub (pv 1) (pv 2) set_list))))
  (pss_one (ps_ret (pv 1))))), ?_⟩
  refine q_asgL (el_lcR1 (n := ((ts.length + 1 : Nat) : Int)) (fun _ => true) (fun _ => .int (ts.length : Int)) (ea_cons (ev_add (ev_len (ev_var rfl) hS) ev_c (by rw [hml]; omega)) ea_nil) (by omega) (fun _ => rfl) (fun _ _ _ _ => et_yes) (fun i H1 e1 _ _ => ev_is (ev_len (ev_var rfl) (ex_l e1 hS)) (by rw [hml]))) fun p H1 hp e1 h1 => ?_
  rw [given_all, Int.toNat_natCast] at h1
  refine q_back (n := ts.length) (l := p) (g := fun i => ((MA.spanF MA.nbr ts i : Nat) : Int)) (H0 := H) (fun σ' => ∃ v : Option V, σ' = [some (.ref a), some (.ref p), v]) (ea_cons (ev_sub (ev_len (ev_var rfl) (ex_l e1 hS)) ev_c (by rw [hml])) (ea_cons (ev_neg ev_c rfl) (ea_cons (ev_neg ev_c rfl) ea_nil))) (by omega)
    (fun H2 e2 => ⟨none, rfl⟩) h1 (List.length_replicate ..) ?_ hp e1 ?_ ?_
  · rw [List.getElem?_replicate, if_pos (by omega), MA.spanF_end (Nat.le_refl _)]
  · rintro i σ' H' ys hi ⟨v, rfl⟩ e hx hy hg N hN
    have hti : ts[i]? = some ts[i] := List.getElem?_eq_getElem hi
    obtain ⟨x, hxi, hxt⟩ := hat i _ hti
    have hS' := ex_l e hS
    have hxt' := TokAt.mono K _ _ _ _ e hxt
    refine s_setL (v := .int ((MA.spanF MA.nbr ts i : Nat) : Int)) hx (ev_if (b := brkF (frmT ts[i]) (MA.byteT ts[i])) (et_B (ev_call (ea_cons (ev_ixL (i := i) (ev_var rfl) (ev_var rfl) hS' rfl hxi) ea_nil) (v_isBracket hxt'.th))) (fun hb => ?_) fun hb => ?_) (ev_var rfl) (ev_var rfl) (by omega) fun H2 e2 => ?_
    · have hb2 : MA.nbr ts[i] = false := by
        rw [brk_nbr] at hb
        simpa using hb
      rw [MA.spanF_stop hti hb2]
      exact ev_var rfl
    · have hb2 : MA.nbr ts[i] = true := by
        rw [brk_nbr] at hb
        simpa using hb
      rw [MA.spanF_step hti hb2]
      exact ev_ixL (i := i + 1) (ev_var rfl) (ev_add (ev_var rfl) ev_c rfl) (sq_of hx) (by omega) hg
    · exact hN _ _ ⟨_, rfl⟩ (Evl.Ex.mut (e.trans e2) hp) upd_same
  · rintro σ' H' ⟨v, rfl⟩ e hx
    exact s_ret (ev_var rfl) fun H2 e2 => k p H2 hp (e.trans e2) (e2 _ _ hx)
theorem ok_address_end (T : Txt K mg) (c_may_be_in_address : Cal P w K mg base 3 "may_be_in_address" (spMay K) []) : Cal P w K mg base 4 "address_end" (spAddrEnd K) [] := by
  refine cal_d T.d_address_end sc_address_end bi_address_end (fun vs H Q E h => ?_) fun f cdv A outer s H vs Q E hr h => ?_
  · obtain ⟨a, ts, b, rfl, _⟩ := h
    rfl
  obtain ⟨a, ts, b, rfl, hT, hl, k⟩ := h
  obtain ⟨xs, hS, hlen, hat⟩ := hT.sq
  have hml : (xs.map V.ref).length = ts.length := by rw [List.length_map, hlen]
  refine ⟨_, (pss_cons (ps_set (i := 2) sc_address_end.nd rfl (Or.inl rfl) (pv 1))
  (pss_cons (ps_while PassesOwn.never (PW.pt (pw_and (pt_cmpR op_lt (pv 2) (pe_callB call_lenS rfl T.b_len boot_len (pa_cons (pv 0) pa_nil)) (nomark _)) (pw_and1 (pt_val (pe_c c_may_be_in_address hr (by decide) rfl (pa_cons (pe_ix ix_list (pv 0) (pv 2) (fun _ _ => rfl)) pa_nil))))))
  (pss_one (ps_set (i := 2) sc_address_end.nd rfl (Or.inl rfl) (pe_op op_add (pv 2) pe_int))))
  (pss_one (ps_ret (pv 2))))), ?_⟩
  refine q_asg (ev_var rfl) fun H1 e1 => ?_
  refine q_scan (p := MA.urlOk) (l := ts) (j := 2) (b := b) rfl (fun i H2 e2 hi => ?_) (fun i H2 e2 => ?_) fun H2 e2 => ?_
  · have e := e1.trans e2
    refine et_scan (et_test (ev_lt (ev_var rfl) (ev_len (ev_var rfl) (ex_l e hS)) ?_)) fun t ht => et_B ?_
    · rw [hml]
      exact decide_eq_decide.mpr (by omega)
    · obtain ⟨x, hxi, hxt⟩ := hat i t ht
      exact ev_is (ev_call (ea_cons (ev_ixL (i := i) (ev_var rfl) (ev_var rfl) (ex_l e hS) rfl hxi) ea_nil) (v_may (TokAt.mono K _ _ _ _ e hxt).th)) (congrArg V.bl (may_url t))
  · exact ev_add (ev_var rfl) ev_c (by omega)
  · exact s_ret (ev_var rfl) fun H3 e3 => k H3 ((e1.trans e2).trans e3)
end
end Mk
set_option Elab.async false
set_option linter.all false
set_option maxRecDepth 100000
set_option maxHeartbeats 4000000
namespace Mk
open PySem PySem.Spec PyProof.Rows L2 C8 Evl
def PieceAt (K : PySem.W.Frag) (G : Hp) (x : Addr) : Ml.Piece → Prop
  | .tok t => ∃ s dx i a, (s = frmT t ∨ (Ml.bracket t = true ∧ s = 0)) ∧ G x = some (.ins (cThing K) dx (thF (.int s) (bV (MA.byteT t)) (.ref i) a)) ∧ ∀ b, t = .code b → G i = some (.lst (bs b))
  | .link l u => ∃ dx i a, G x = some (.ins (cThing K) dx (thF (.int 4) (bV 0) (.ref i) (.ref a))) ∧ ToksAt K G i l ∧ G a = some (.lst (bs u))
theorem PieceAt.mono (K : PySem.W.Frag) : Mono (PieceAt K) := fun G G' x p e h => by
  cases p with
  | tok t =>
    obtain ⟨s, dx, i, a, h1, h2, h3⟩ := h
    exact ⟨s, dx, i, a, h1, e _ _ h2, fun b hb => e _ _ (h3 b hb)⟩
  | link l u =>
    obtain ⟨dx, i, a, h1, h2, h3⟩ := h
    exact ⟨dx, i, a, e _ _ h1, h2.ex e, e _ _ h3⟩
theorem PieceAt.tok {K : PySem.W.Frag} {G : Hp} {x : Addr} {t : Ml.Tok} (h : TokAt K G x t) : PieceAt K G x (.tok t) := by
  obtain ⟨dx, i, a, h1, h2⟩ := h
  exact ⟨_, dx, i, a, .inl rfl, h1, h2⟩
def PcsAt (K : PySem.W.Frag) (G : Hp) (p : Addr) (ps : List Ml.Piece) : Prop := ∃ xs : List Addr, G p = some (.lst (xs.map V.ref)) ∧ Each (PieceAt K G) xs ps
theorem PcsAt.ex {K : PySem.W.Frag} {G G' : Hp} {p : Addr} {ps : List Ml.Piece} (e : Ex G G') (h : PcsAt K G p ps) : PcsAt K G' p ps := by
  obtain ⟨xs, h1, h2⟩ := h
  exact ⟨xs, e _ _ h1, h2.mono fun x l hx => PieceAt.mono K _ _ x l e hx⟩
theorem PcsAt.toks {K : PySem.W.Frag} {G : Hp} {p : Addr} {ts : List Ml.Tok} (h : ToksAt K G p ts) : PcsAt K G p (ts.map .tok) := by
  obtain ⟨xs, h1, h2⟩ := h
  refine ⟨xs, h1, by rw [List.length_map]; exact h2.1, fun i x l a b => ?_⟩
  rw [List.getElem?_map] at b
  cases e : ts[i]? with
  | none => rw [e] at b; cases b
  | some t =>
    rw [e] at b
    cases b
    exact PieceAt.tok (h2.2 i x t a e)
def isRbr (t : Ml.Tok) : Bool := decide (frmT t = 3) && MA.byteT t == 93
def isCh (c : UInt8) (t : Ml.Tok) : Bool := decide (frmT t = 0) && MA.byteT t == c
def isLbr (t : Ml.Tok) : Bool := decide (frmT t = 3) && MA.byteT t == 91
theorem isRbr_iff (t : Ml.Tok) : isRbr t = true ↔ t = .rbr := by
  cases t <;> simp [isRbr, frmT, MA.byteT]
theorem isLbr_iff (t : Ml.Tok) : isLbr t = true ↔ t = .lbr := by
  cases t <;> simp [isLbr, frmT, MA.byteT]
theorem isCh_iff (c : UInt8) (t : Ml.Tok) : isCh c t = true ↔ t = .ch c := by
  cases t <;> simp [isCh, frmT, MA.byteT]
def LinkRes (K : PySem.W.Frag) (F : Addr → Prop) (ts : List Ml.Tok) (i : Nat) (p : Addr) (H' : Hp) : Prop := match Ml.linkAt (ts.drop (i + 1)) with
  | none => H' p = some (.lst [])
  | some r => ∃ tu x e, H' p = some (.lst [.ref tu]) ∧ H' tu = some (.tup [.ref x, .int ((e : Nat) : Int)]) ∧ PieceAt K (out F H') x (.link r.1 r.2.1) ∧ i < e ∧ e ≤ ts.length ∧ r.2.2 = ts.drop e
def spLinkAt (K : PySem.W.Frag) : Sp := fun vs H Q _ => ∃ F a b ts i, vs = [.ref a, .ref b, .int ((i : Nat) : Int)] ∧ Win F H ∧ ToksAt K (out F H) a ts ∧ SqL K H b (brkL ts) ∧ i < ts.length ∧ ts.length ≤ 30000 ∧
  ∀ p H', H p = none → Ex H H' → LinkRes K F ts i p H' → Q (.ref p) H'
section
variable {P : Program} {w : World} {K : PySem.W.Frag} {mg : Str → Option Value} {base : Heap}
theorem ok_link_at (T : Txt K mg) (c_is_mark : Cal P w K mg base 1 "is_mark" (spIsMark K) []) (c_is_plain : Cal P w K mg base 1 "is_plain" (spIsPlain K) []) (c_address_end : Cal P w K mg base 4 "address_end" (spAddrEnd K) [])
    (k_Thing : Mak P w K mg base 1 "Thing" (cThing K) (spThingInit K) []) : Cal P w K mg base 5 "link_at" (spLinkAt K) [] := by
  refine cal_d T.d_link_at sc_link_at bi_link_at (fun vs H Q E h => ?_) fun f cdv A outer s H vs Q E hr h => ?_
  · obtain ⟨F, a, b, ts, i, rfl, _⟩ := h
    rfl
  obtain ⟨F, a, b, ts, i, rfl, wn, hT, hB, hi, hl, k⟩ := h
  have hTH := hT.ex (out_ex F H)
  obtain ⟨xs, hx0, hlen, hat⟩ : ∃ xs : List Addr, H a = some (.lst (xs.map V.ref)) ∧ xs.length = ts.length ∧ ∀ (i : Nat) t, ts[i]? = some t → ∃ x, (xs.map V.ref)[i]? = some (V.ref x) ∧ TokAt K H x t := by
    obtain ⟨xs, h1, h2⟩ := hTH
    exact ⟨xs, h1, h2.1, fun i t ht => let ⟨x, _, b, c⟩ := h2.at ht; ⟨x, b, c⟩⟩
  have hS : SqL K H a (xs.map V.ref) := sq_of hx0
  have hml : (xs.map V.ref).length = ts.length := by rw [List.length_map, hlen]
  refine ⟨_, (pss_cons (ps_set (i := 3) sc_link_at.nd rfl (Or.inl rfl) (pe_ix ix_list (pv 1) (pe_op op_add (pv 2) pe_int) (fun _ _ => rfl)))
  (pss_cons (ps_if (PW.pt (pw_or (pt_cmpR op_eq (pv 3) (pe_callB call_lenS rfl T.b_len boot_len (pa_cons (pv 0) pa_nil)) (nomark _)) (pw_or (pt_cmpR op_eq (pv 3) (pe_op op_add (pv 2) pe_int) (nomark _)) (pw_or1 (pt_not (pt_val (pe_c c_is_mark hr (by decide) rfl (pa_cons (pe_ix ix_list (pv 0) (pv 3) (fun _ _ => rfl)) (pa_cons (pe_gc rfl T.k_CLOSING) pa_nil)))))))))
  (pss_one (ps_ret (pe_lst pa_nil)))
  pss_nil)
  (pss_cons (ps_if (PW.pt (pw_or (pt_cmpR op_eq (pe_op op_add (pv 3) pe_int) (pe_callB call_lenS rfl T.b_len boot_len (pa_cons (pv 0) pa_nil)) (nomark _)) (pw_or1 (pt_not (pt_val (pe_c c_is_plain hr (by decide) rfl (pa_cons (pe_ix ix_list (pv 0) (pe_op op_add (pv 3) pe_int) (fun _ _ => rfl)) (pa_cons (pe_gc rfl T.k_OPEN) pa_nil))))))))
  (pss_one (ps_ret (pe_lst pa_nil)))
  pss_nil)
  (pss_cons (ps_set (i := 4) sc_link_at.nd rfl (Or.inl rfl) (pe_c c_address_end hr (by decide) rfl (pa_cons (pv 0) (pa_cons (pe_op op_add (pv 3) pe_int) pa_nil))))
  (pss_cons (ps_if (PW.pt (pw_or (pt_cmpR op_eq (pv 4) (pe_callB call_lenS rfl T.b_len boot_len (pa_cons (pv 0) pa_nil)) (nomark _)) (pw_or1 (pt_not (pt_val (pe_c c_is_plain hr (by decide) rfl (pa_cons (pe_ix ix_list (pv 0) (pv 4) (fun _ _ => rfl)) (pa_cons (pe_gc rfl T.k_SHUT) pa_nil))))))))
  (pss_one (ps_ret (pe_lst pa_nil)))
  pss_nil)
  (pss_cons (ps_setLc (i := 5) (own := [("thing", 6)]) (g := gName 6) (tt := tYes) rfl sc_link_at.nd rfl rfl (sw_true rfl rfl rfl (by decide +kernel)) (pi_list (pe_slice sl_list (pv 0) (po_some (pe_op op_add (pv 3) pe_int)) (po_some (pv 4)))) (blkOk_by (own := [("thing", 6)]) (N := ["things", "brackets", "begin", "closing", "end", "address", "thing"]) (sc := defScope s_link_at) (by decide +kernel)) (fun _ _ _ _ _ => pg_name (i := 6) sc_link_at.nd rfl (Or.inl rfl)) (fun _ _ _ _ _ => pts_nil) (fun _ _ _ _ _ => (show PE _ _ (tFld K (tVar 6) "byte") from pe_fld (pv 6) rfl)))
  (pss_one (ps_ret (pe_lst (pa_cons (pe_tup (pa_cons (pe_mk k_Thing hr (by decide) rfl (pa_cons (pe_gc rfl T.k_LINK) (pa_cons pe_int (pa_cons (pe_slice sl_list (pv 0) (po_some (pe_op op_add (pv 2) pe_int)) (po_some (pv 3))) (pa_cons (pv 5) pa_nil))))) (pa_cons (pe_op op_add (pv 4) pe_int) pa_nil))) pa_nil)))))))))), ?_⟩
  have knone : MA.lkC ts i = i + 1 ∨ ts[MA.lkC ts i]? ≠ some .rbr ∨ ts[MA.lkC ts i + 1]? ≠ some (.ch 40) ∨ ts[MA.lkE ts i]? ≠ some (.ch 41) → ∀ (σ : L2.St) (D : Ends) H1, D.rt = Q → Ex H H1 → tRet (tLst tNil) D σ H1 := fun hn σ D H1 hD e1 =>
    s_retL (el_lst ea_nil (by decide)) fun p H2 hp e2 h2 => by
      have g := k p H2 (fresh_back e1 hp) (e1.trans e2) ?_
      · rw [hD]
        exact g
      · unfold LinkRes
        rw [MA.link_none_at]
        · exact h2
        · rintro ⟨h1, h2, h3, h4⟩
          rcases hn with z | z | z | z
          · exact h1 z
          · exact z h2
          · exact z h3
          · exact z h4
  have hce : MA.lkC ts i = MA.spanF MA.nbr ts (i + 1) := rfl
  have hcl : MA.lkC ts i ≤ ts.length := MA.spanF_le (by omega)
  refine q_asg (ev_ixL (i := i + 1) (ev_var rfl) (ev_add (ev_var rfl) ev_c rfl) hB (by omega) (brkL_at (by omega))) fun H1 e1 => ?_
  rw [← hce]
  have hS1 := ex_l e1 hS
  by_cases g1 : MA.lkC ts i ≠ i + 1 ∧ ts[MA.lkC ts i]? = some .rbr
  case neg =>
    have ht : EvT (tOr (tTest (tOp rEq (tVar 3) (tCB (rLenS K) (tCons (tVar 0) tNil)))) (tOr (tTest (tOp rEq (tVar 3) (tOp (rI0 fun i j => .int (i + j)) (tVar 2) (tC (.int 1)))))
        (tNot (tB (tCall (spIsMark K) [] C8.E0 (tCons (tOp (rIxL K) (tVar 0) (tVar 3)) (tCons (tC (.int 93)) tNil))))))) [some (.ref a), some (.ref b), some (.int (i : Int)), some (.int ((MA.lkC ts i : Nat) : Int)), none, none, none] H1 true := by
      by_cases c1 : MA.lkC ts i = ts.length
      · exact et_orT (et_test (ev_eqI (ev_var rfl) (ev_len (ev_var rfl) hS1) (decide_eq_true (by rw [hml]; omega))))
      refine et_orF (et_test (ev_eqI (ev_var rfl) (ev_len (ev_var rfl) hS1) (decide_eq_false (by rw [hml]; omega)))) ?_
      by_cases c2 : MA.lkC ts i = i + 1
      · exact et_orT (et_test (ev_eqI (ev_var rfl) (ev_add (ev_var rfl) ev_c rfl) (decide_eq_true (by omega))))
      refine et_orF (et_test (ev_eqI (ev_var rfl) (ev_add (ev_var rfl) ev_c rfl) (decide_eq_false (by omega)))) ?_
      have htc : ts[MA.lkC ts i]? = some (ts[MA.lkC ts i]'(by omega)) := List.getElem?_eq_getElem (by omega)
      obtain ⟨x, hx, hxt⟩ := hat _ _ htc
      refine et_is (et_not (et_B (ev_call (ea_cons (ev_ixL (ev_var rfl) (ev_var rfl) hS1 rfl hx) (ea_cons ev_c ea_nil)) (v_isMark 93 (TokAt.mono K _ _ _ _ e1 hxt).th)))) ?_
      cases hr2 : isRbr (ts[MA.lkC ts i]'(by omega)) with
      | false =>
        unfold isRbr at hr2
        rw [hr2]
        rfl
      | true => exact absurd ⟨c2, by rw [htc, (isRbr_iff _).mp hr2]⟩ g1
    refine q_when ht (fun _ H2 e2 => knone ?_ _ _ H2 rfl (e1.trans e2)) (fun z => Bool.noConfusion z)
    by_cases c2 : MA.lkC ts i = i + 1
    · exact .inl c2
    · exact .inr (.inl fun z => g1 ⟨c2, z⟩)
  obtain ⟨c2, hrb⟩ := g1
  have c1 := (List.getElem?_eq_some_iff.mp hrb).1
  obtain ⟨xc, hxc, hxct⟩ := hat _ _ hrb
  refine q_when (b := false) (et_orF (et_test (ev_eqI (ev_var rfl) (ev_len (ev_var rfl) hS1) (decide_eq_false (by rw [hml]; omega)))) (et_orF (et_test (ev_eqI (ev_var rfl) (ev_add (ev_var rfl) ev_c rfl) (decide_eq_false (by omega))))
    (et_is (et_not (et_B (ev_call (ea_cons (ev_ixL (ev_var rfl) (ev_var rfl) hS1 rfl hxc) (ea_cons ev_c ea_nil)) (v_isMark 93 (TokAt.mono K _ _ _ _ e1 hxct).th)))) rfl))) (fun z => Bool.noConfusion z) (fun _ H2 e2 => ?_)
  have e12 := e1.trans e2
  have hS2 := ex_l e12 hS
  by_cases g2 : ts[MA.lkC ts i + 1]? = some (.ch 40)
  case neg =>
    have ht : EvT (tOr (tTest (tOp rEq (tOp (rI0 fun i j => .int (i + j)) (tVar 3) (tC (.int 1))) (tCB (rLenS K) (tCons (tVar 0) tNil))))
        (tNot (tB (tCall (spIsPlain K) [] C8.E0 (tCons (tOp (rIxL K) (tVar 0) (tOp (rI0 fun i j => .int (i + j)) (tVar 3) (tC (.int 1)))) (tCons (tC (.int 40)) tNil)))))) [some (.ref a), some (.ref b), some (.int (i : Int)), some (.int ((MA.lkC ts i : Nat) : Int)), none, none, none] H2 true := by
      by_cases c3 : MA.lkC ts i + 1 = ts.length
      · exact et_orT (et_test (ev_eqI (ev_add (ev_var rfl) ev_c rfl) (ev_len (ev_var rfl) hS2) (decide_eq_true (by rw [hml]; omega))))
      refine et_orF (et_test (ev_eqI (ev_add (ev_var rfl) ev_c rfl) (ev_len (ev_var rfl) hS2) (decide_eq_false (by rw [hml]; omega)))) ?_
      have htc : ts[MA.lkC ts i + 1]? = some (ts[MA.lkC ts i + 1]'(by omega)) := List.getElem?_eq_getElem (by omega)
      obtain ⟨x, hx, hxt⟩ := hat _ _ htc
      refine et_is (et_not (et_B (ev_call (ea_cons (ev_ixL (i := MA.lkC ts i + 1) (ev_var rfl) (ev_add (ev_var rfl) ev_c rfl) hS2 (by omega) hx) (ea_cons ev_c ea_nil)) (v_isPlain 40 (TokAt.mono K _ _ _ _ e12 hxt).th)))) ?_
      cases hr2 : isCh 40 (ts[MA.lkC ts i + 1]'(by omega)) with
      | false =>
        unfold isCh at hr2
        rw [hr2]
        rfl
      | true => exact absurd (by rw [htc, (isCh_iff _ _).mp hr2]) g2
    exact q_when ht (fun _ H3 e3 => knone (.inr (.inr (.inl g2))) _ _ H3 rfl (e12.trans e3)) (fun z => Bool.noConfusion z)
  have c3 := (List.getElem?_eq_some_iff.mp g2).1
  obtain ⟨xo, hxo, hxot⟩ := hat _ _ g2
  refine q_when (b := false) (et_orF (et_test (ev_eqI (ev_add (ev_var rfl) ev_c rfl) (ev_len (ev_var rfl) hS2) (decide_eq_false (by rw [hml]; omega))))
    (et_is (et_not (et_B (ev_call (ea_cons (ev_ixL (i := MA.lkC ts i + 1) (ev_var rfl) (ev_add (ev_var rfl) ev_c rfl) hS2 (by omega) hxo) (ea_cons ev_c ea_nil)) (v_isPlain 40 (TokAt.mono K _ _ _ _ e12 hxot).th)))) rfl)) (fun z => Bool.noConfusion z) (fun _ H3 e3 => ?_)
  have e13 := e12.trans e3
  refine q_asg (ev_call (ea_cons (ev_var rfl) (ea_cons (ev_add (k := ((MA.lkC ts i + 2 : Nat) : Int)) (ev_var rfl) ev_c (by omega)) ea_nil)) (v_addrEnd (hTH.ex e13) hl)) fun H4 e4 => ?_
  have e14 := e13.trans e4
  have hS4 := ex_l e14 hS
  have hee : MA.spanF MA.urlOk ts (MA.lkC ts i + 2) = MA.lkE ts i := rfl
  rw [hee]
  have hel : MA.lkE ts i ≤ ts.length := MA.spanF_le (by omega)
  have heg : MA.lkC ts i + 2 ≤ MA.lkE ts i := MA.lkE_ge
  by_cases g3 : ts[MA.lkE ts i]? = some (.ch 41)
  case neg =>
    have ht : EvT (tOr (tTest (tOp rEq (tVar 4) (tCB (rLenS K) (tCons (tVar 0) tNil))))
        (tNot (tB (tCall (spIsPlain K) [] C8.E0 (tCons (tOp (rIxL K) (tVar 0) (tVar 4)) (tCons (tC (.int 41)) tNil)))))) [some (.ref a), some (.ref b), some (.int (i : Int)), some (.int ((MA.lkC ts i : Nat) : Int)), some (.int ((MA.lkE ts i : Nat) : Int)), none, none] H4 true := by
      by_cases c4 : MA.lkE ts i = ts.length
      · exact et_orT (et_test (ev_eqI (ev_var rfl) (ev_len (ev_var rfl) hS4) (decide_eq_true (by rw [hml]; omega))))
      refine et_orF (et_test (ev_eqI (ev_var rfl) (ev_len (ev_var rfl) hS4) (decide_eq_false (by rw [hml]; omega)))) ?_
      have htc : ts[MA.lkE ts i]? = some (ts[MA.lkE ts i]'(by omega)) := List.getElem?_eq_getElem (by omega)
      obtain ⟨x, hx, hxt⟩ := hat _ _ htc
      refine et_is (et_not (et_B (ev_call (ea_cons (ev_ixL (ev_var rfl) (ev_var rfl) hS4 rfl hx) (ea_cons ev_c ea_nil)) (v_isPlain 41 (TokAt.mono K _ _ _ _ e14 hxt).th)))) ?_
      cases hr2 : isCh 41 (ts[MA.lkE ts i]'(by omega)) with
      | false =>
        unfold isCh at hr2
        rw [hr2]
        rfl
      | true => exact absurd (by rw [htc, (isCh_iff _ _).mp hr2]) g3
    exact q_when ht (fun _ H5 e5 => knone (.inr (.inr (.inr g3))) _ _ H5 rfl (e14.trans e5)) (fun z => Bool.noConfusion z)
  have c4 := (List.getElem?_eq_some_iff.mp g3).1
  obtain ⟨xs', hxs', hxst⟩ := hat _ _ g3
  refine q_when (b := false) (et_orF (et_test (ev_eqI (ev_var rfl) (ev_len (ev_var rfl) hS4) (decide_eq_false (by rw [hml]; omega))))
    (et_is (et_not (et_B (ev_call (ea_cons (ev_ixL (ev_var rfl) (ev_var rfl) hS4 rfl hxs') (ea_cons ev_c ea_nil)) (v_isPlain 41 (TokAt.mono K _ _ _ _ e14 hxst).th)))) rfl)) (fun z => Bool.noConfusion z) (fun _ H5 e5 => ?_)
  have e15 := e14.trans e5
  have hS5 := ex_l e15 hS
  have hsl : EvL (tSl (rSlL K) (tVar 0) (tPart (tOp (rI0 fun i j => .int (i + j)) (tVar 3) (tC (.int 2)))) (tPart (tVar 4))) [some (.ref a), some (.ref b), some (.int (i : Int)), some (.int ((MA.lkC ts i : Nat) : Int)), some (.int ((MA.lkE ts i : Nat) : Int)), none, none] H5 (MA.cut (xs.map V.ref) (MA.lkC ts i + 2) (MA.lkE ts i)) := fun H6 e6 Q2 q2 =>
    (el_sl (ev_var rfl) (eo_some (ev_add (k := ((MA.lkC ts i + 2 : Nat) : Int)) (ev_var rfl) ev_c (by omega))) (eo_some (ev_var rfl)) hS5) H6 e6 Q2 fun p H7 hp e7 h7 => q2 p H7 hp e7 (by rw [h7, cutV_nat])
  have hcl2 : (MA.cut (xs.map V.ref) (MA.lkC ts i + 2) (MA.lkE ts i)).length = MA.lkE ts i - (MA.lkC ts i + 2) := MA.cut_len (by rw [hml]; omega)
  have hbytes : given (MA.cut (xs.map V.ref) (MA.lkC ts i + 2) (MA.lkE ts i)).length (fun _ => true) (fun j => bV (MA.byteT (ts.getD (MA.lkC ts i + 2 + j) .star))) = bs ((MA.cut ts (MA.lkC ts i + 2) (MA.lkE ts i)).map MA.byteT) := by
    rw [hcl2]
    unfold given bs
    have e : ∀ n, (List.range n).filter (fun _ => true) = List.range n := fun n => by simp
    rw [e]
    refine List.ext_getElem? fun j => ?_
    rw [List.getElem?_map, List.getElem?_map, List.getElem?_map]
    unfold MA.cut
    rw [List.getElem?_drop, List.getElem?_take]
    by_cases hj : j < MA.lkE ts i - (MA.lkC ts i + 2)
    · rw [List.getElem?_range hj, if_pos (by omega)]
      have htj : ts[MA.lkC ts i + 2 + j]? = some (ts[MA.lkC ts i + 2 + j]'(by omega)) := List.getElem?_eq_getElem (by omega)
      rw [htj]
      show some (bV (MA.byteT (ts.getD (MA.lkC ts i + 2 + j) .star))) = _
      rw [List.getD_eq_getElem?_getD, htj]
      rfl
    · rw [List.getElem?_eq_none (by rw [List.length_range]; omega), if_neg (by omega)]
      rfl
  refine q_asgL (el_lcNL (xs := MA.cut (xs.map V.ref) (MA.lkC ts i + 2) (MA.lkE ts i)) (fun _ => true) (fun j => bV (MA.byteT (ts.getD (MA.lkC ts i + 2 + j) .star))) hsl (by rw [hcl2]; omega) (fun _ => rfl) (fun _ _ _ _ _ => et_yes) (fun j x H6 e6 hj _ => ?_)) fun pa H6 hpa e6 h6 => ?_
  · have hlt := (List.getElem?_eq_some_iff.mp hj).1
    rw [hcl2] at hlt
    unfold MA.cut at hj
    rw [List.getElem?_drop, List.getElem?_take, if_pos (by omega)] at hj
    have htj : ts[MA.lkC ts i + 2 + j]? = some (ts[MA.lkC ts i + 2 + j]'(by omega)) := List.getElem?_eq_getElem (by omega)
    obtain ⟨y, hy, hyt⟩ := hat _ _ htj
    rw [hy] at hj
    cases hj
    have hyt2 := TokAt.mono K _ _ _ _ (e15.trans e6) hyt
    obtain ⟨dx, i2, a2, hI, _⟩ := hyt2
    have hgd : ts.getD (MA.lkC ts i + 2 + j) .star = ts[MA.lkC ts i + 2 + j]'(by omega) := by
      rw [List.getD_eq_getElem?_getD, htj]
      rfl
    rw [hgd]
    exact ev_fld (ev_var rfl) hI T.cl_Thing T.n_Thing_byte thF_byte
  rw [hbytes] at h6
  have e16 := e15.trans e6
  have hS6 := ex_l e16 hS
  refine (el_sl (K := K) (ev_var rfl) (eo_some (ev_add (k := ((i + 1 : Nat) : Int)) (ev_var rfl) ev_c (by omega))) (eo_some (ev_var rfl)) hS6) H6 (Ex.refl H6) _ fun pi H7 hpi e7 h7 => ⟨_, rfl, fun x dx nx nd ne => thing_inits x dx _ _ _ upd_same fun H8 h8 hk => ⟨rfl, ?_⟩⟩
  have e8 : Ex H7 H8 := fun b o hb => hk b o (by rw [upd_ne (ne_of_none hb nx), upd_ne (ne_of_none hb nd)]; exact hb) (ne_of_none hb nx)
  refine (ev_add (k := ((MA.lkE ts i + 1 : Nat) : Int)) (ev_var rfl) ev_c (by omega)) H8 (Ex.refl H8) _ fun H9 e9 => ⟨(by show 2 ≤ sizeLine; decide), fun tu htu => ⟨(by show 1 ≤ sizeLine; decide), fun p hp => ?_⟩⟩
  have eT := Evl.Ex.new (H := H9) htu (o := .tup [.ref x, .int ((MA.lkE ts i + 1 : Nat) : Int)])
  have eP := Evl.Ex.new hp (o := .lst [.ref tu])
  have e9p := ((e9.trans eT).trans eP)
  have eAll := ((e16.trans e7).trans e8).trans e9p
  refine k p _ (fresh_back (((e16.trans e7).trans e8).trans (e9.trans eT)) hp) eAll ?_
  unfold LinkRes
  rw [MA.link_some_at c2 hrb g2 g3]
  have hcg : i + 1 ≤ MA.lkC ts i := MA.lkC_ge
  refine ⟨tu, x, MA.lkE ts i + 1, upd_same, eP _ _ upd_same, ⟨dx, pi, pa, ?_, ?_, ?_⟩, by omega, by omega, rfl⟩
  · exact wn.new (fresh_back (e16.trans e7) nx) (e9p _ _ h8)
  · obtain ⟨ys, hy1, hy2⟩ := hT
    refine ⟨MA.cut ys (i + 1) (MA.lkC ts i), ?_, (hy2.cut _ _).mono fun y t hyt => TokAt.mono K _ _ _ _ (out_mono eAll) hyt⟩
    have hSy : xs.map V.ref = ys.map V.ref := by
      exact HO.lst.inj (Option.some.inj (hx0.symm.trans (out_of hy1).2))
    rw [← cut_map, ← hSy]
    refine wn.new (fresh_back e16 hpi) ?_
    rw [(e8.trans e9p) _ _ h7, cutV_nat]
  · show out F _ pa = some (.lst (bs ((MA.cut ts (MA.lkC ts i + 2) (MA.lkE ts i)).filterMap Ml.urlByte)))
    rw [MA.link_url]
    exact wn.new (fresh_back e15 hpa) (((e7.trans e8).trans e9p) _ _ h6)
end
end Mk
set_option Elab.async false
set_option linter.all false
set_option maxRecDepth 100000
set_option maxHeartbeats 4000000
namespace Mk
open PySem PySem.Spec PyProof.Rows L2 C8 Evl
section
variable {σ : L2.St} {H : Hp} {t : TT} {ta tb : TE}
theorem eg_if {b : Bool} {P : V → Hp → Hp → Prop} (h : EvT t σ H b) (h1 : b = true → EvG ta σ H P) (h2 : b = false → EvG tb σ H P) (m : ∀ v H1 H2 H3, Ex H1 H2 → P v H2 H3 → P v H1 H3) : EvG (tIf t ta tb) σ H P := fun H1 e Q q => h H1 e _ fun H2 e2 => by
  cases b with
  | true =>
    show ta σ H2 Q
    exact h1 rfl H2 (e.trans e2) Q fun v H3 e3 hp => q v H3 (e2.trans e3) (m v H1 H2 H3 e2 hp)
  | false =>
    show tb σ H2 Q
    exact h2 rfl H2 (e.trans e2) Q fun v H3 e3 hp => q v H3 (e2.trans e3) (m v H1 H2 H3 e2 hp)
theorem EvG.ofL {xs : List V} (h : EvL ta σ H xs) : EvG ta σ H (fun v H1 H2 => ∃ p, v = .ref p ∧ H1 p = none ∧ H2 p = some (.lst xs)) := fun H1 e Q q => h H1 e Q fun p H2 hp e2 hx => q (.ref p) H2 e2 ⟨p, rfl, hp, hx⟩
end
theorem out_or_ex {F : Addr → Prop} {H H' : Hp} {p : Addr} (hp : H p = none) (e : Ex H H') : Ex (out F H) (out (fun b => F b ∨ b = p) H') := fun b o h => by
  obtain ⟨h1, h2⟩ := out_of h
  rw [out_at fun z => z.elim h1 fun e2 => ne_of_none h2 hp e2]
  exact e _ _ h2
def spLinked (K : PySem.W.Frag) : Sp := fun vs H Q _ => ∃ F a ts, vs = [.ref a] ∧ Win F H ∧ ToksAt K (out F H) a ts ∧ ts.length ≤ 30000 ∧ ∀ p H', H p = none → Ex H H' → PcsAt K (out F H') p (MA.linksF ts) → Q (.ref p) H'
section
variable {P : Program} {w : World} {K : PySem.W.Frag} {mg : Str → Option Value} {base : Heap}
theorem ok_linked (T : Txt K mg) (c_brackets_ahead : Cal P w K mg base 3 "brackets_ahead" (spBrackets K) []) (c_is_mark : Cal P w K mg base 1 "is_mark" (spIsMark K) []) (c_link_at : Cal P w K mg base 5 "link_at" (spLinkAt K) [])
    (c_is_bracket : Cal P w K mg base 2 "is_bracket" (spIsBracket K) []) (c_byte_thing : Cal P w K mg base 3 "byte_thing" (spByteThing K) []) : Cal P w K mg base 6 "linked" (spLinked K) [] := by
  refine cal_d T.d_linked sc_linked bi_linked (fun vs H Q E h => ?_) fun f cdv A outer s H vs Q E hr h => ?_
  · obtain ⟨F, a, ts, rfl, _⟩ := h
    rfl
  obtain ⟨F, a, ts, rfl, wn, hT, hl, k⟩ := h
  have hTH := hT.ex (out_ex F H)
  refine ⟨_, (pss_cons (ps_set (i := 1) sc_linked.nd rfl (Or.inl rfl) (pe_c c_brackets_ahead hr (by decide) rfl (pa_cons (pv 0) pa_nil)))
  (pss_cons (ps_par (i := 2) (j := 3) (by rfl) sc_linked.nd rfl rfl (by decide) rfl rfl (pa_cons (pe_lst pa_nil) (pa_cons pe_int pa_nil)) (by rfl))
  (pss_cons (ps_while PassesOwn.never (pt_cmpR op_lt (pv 3) (pe_callB call_lenS rfl T.b_len boot_len (pa_cons (pv 0) pa_nil)) (nomark _))
  (pss_cons (ps_set (i := 4) sc_linked.nd rfl (Or.inl rfl) (pe_ifExp (pt_val (pe_c c_is_mark hr (by decide) rfl (pa_cons (pe_ix ix_list (pv 0) (pv 3) (fun _ _ => rfl)) (pa_cons (pe_gc rfl T.k_OPENING) pa_nil)))) (pe_c c_link_at hr (by decide) rfl (pa_cons (pv 0) (pa_cons (pv 1) (pa_cons (pv 3) pa_nil)))) (pe_lst pa_nil)))
  (pss_one (ps_if (pt_cmpR (op_neE hr.units0) (pv 4) (pe_lst pa_nil) (nomark _))
  (pss_cons (ps_expr (pe_bm PySem.F.plainAttrs_list PySem.F.slot_list_append PySem.F.type_list_append mt_append (pv 2) (pa_cons (pe_ix ix_tup (pe_ix ix_list (pv 4) pe_int (fun _ _ => rfl)) pe_int (fun _ _ => rfl)) pa_nil)))
  (pss_one (ps_set (i := 3) sc_linked.nd rfl (Or.inl rfl) (pe_ix ix_tup (pe_ix ix_list (pv 4) pe_int (fun _ _ => rfl)) pe_int (fun _ _ => rfl)))))
  (pss_cons (ps_set (i := 5) sc_linked.nd rfl (Or.inl rfl) (pe_ix ix_list (pv 0) (pv 3) (fun _ _ => rfl)))
  (pss_cons (ps_expr (pe_bm PySem.F.plainAttrs_list PySem.F.slot_list_append PySem.F.type_list_append mt_append (pv 2) (pa_cons (pe_ifExp (pt_val (pe_c c_is_bracket hr (by decide) rfl (pa_cons (pv 5) pa_nil))) (pe_c c_byte_thing hr (by decide) rfl (pa_cons (pe_gc rfl T.k_PLAIN_things) (pa_cons (pe_fld (pv 5) rfl) pa_nil))) (pv 5)) pa_nil)))
  (pss_one (ps_set (i := 3) sc_linked.nd rfl (Or.inl rfl) (pe_op op_add (pv 3) pe_int)))))))))
  (pss_one (ps_ret (pv 2)))))), ?_⟩
  refine q_asgL (el_call (ea_cons (ev_var rfl) ea_nil) (v_brackets hTH hl)) fun b H1 hb e1 h1 => ?_
  refine q_parN ev_c fun p H2 hp e2 h2 => ?_
  have hp0 := fresh_back e1 hp
  refine q_while (fun m σ' H' => ∃ (i : Nat) (ps : List Ml.Piece) (xs : List Addr) (v w : Option V), m = ts.length - i ∧ σ' = [some (.ref a), some (.ref b), some (.ref p), some (.int (i : Int)), v, w] ∧ Fnd F (PieceAt K) H H' p xs ps ∧ H' b = some (.lst (brkL ts)) ∧
    MA.linksF ts = ps ++ MA.linksF (ts.drop i) ∧ ps.length ≤ i ∧ i ≤ ts.length) ts.length ⟨0, [], [], none, none, rfl, rfl, Fnd.init hp0 (e1.trans e2) h2, e2 _ _ h1, by simp, Nat.zero_le _, Nat.zero_le _⟩ ?_
  rintro m σ' H3 ⟨i, ps, xs, v, v2, rfl, rfl, fd, hbr, hlk, hps, hi⟩
  obtain ⟨ys, hS, hlen, hatO⟩ : ∃ ys : List Addr, SqL K H a (ys.map V.ref) ∧ ys.length = ts.length ∧ ∀ (i : Nat) t, ts[i]? = some t → ∃ x, (ys.map V.ref)[i]? = some (V.ref x) ∧ TokAt K (out F H) x t := by
    obtain ⟨ys, h1, h2⟩ := hT
    exact ⟨ys, sq_of (out_of h1).2, h2.1, fun i t ht => let ⟨x, _, b, c⟩ := h2.at ht; ⟨x, b, c⟩⟩
  have hml : (ys.map V.ref).length = ts.length := by rw [List.length_map, hlen]
  have hS3 := ex_l fd.ex hS
  refine ⟨_, et_test (ev_lt (b := decide (i < ts.length)) (ev_var rfl) (ev_len (ev_var rfl) hS3) (decide_eq_decide.mpr (by rw [hml]; omega))), fun hb H4 e4 => ?_, fun hb H4 e4 => ?_⟩
  · have hlt := of_decide_eq_true hb
    have hx : ts[i]? = some ts[i] := List.getElem?_eq_getElem hlt
    generalize ts[i] = t at hx
    have hd := MA.drop_at hx
    obtain ⟨x, hxi, hxtO⟩ := hatO i t hx
    have hxt := TokAt.mono K _ _ _ _ (out_ex F H) hxtO
    have fd4 := fd.mono (PieceAt.mono K) e4
    have hS4 := ex_l e4 hS3
    have hxt4 := TokAt.mono K _ _ _ _ fd4.ex hxt
    have hbr4 := e4 _ _ hbr
    refine ⟨fun σ2 H2 => ∃ (i2 : Nat) (ps : List Ml.Piece) (xs : List Addr) (v w : Option V), i < i2 ∧ σ2 = [some (.ref a), some (.ref b), some (.ref p), some (.int (i2 : Int)), v, w] ∧ Fnd F (PieceAt K) H H2 p xs ps ∧ H2 b = some (.lst (brkL ts)) ∧
      MA.linksF ts = ps ++ MA.linksF (ts.drop i2) ∧ ps.length ≤ i2 ∧ i2 ≤ ts.length, fun σ2 H2 ⟨i2, ps, xs, v, w, h1, h2, h3, h4, h5, h6, h7⟩ => ⟨ts.length - i2, by omega, i2, ps, xs, v, w, rfl, h2, h3, h4, h5, h6, h7⟩, ?_⟩
    refine q_asgG (P := fun v H1 H2 => ∃ q, v = .ref q ∧ H1 q = none ∧ ((∃ r tu y e, t = .lbr ∧ Ml.linkAt (ts.drop (i + 1)) = some r ∧ H2 q = some (.lst [.ref tu]) ∧ H2 tu = some (.tup [.ref y, .int ((e : Nat) : Int)]) ∧ PieceAt K (out (fun b => F b ∨ b = p) H2) y (.link r.1 r.2.1) ∧ i < e ∧ e ≤ ts.length ∧ r.2.2 = ts.drop e) ∨
        (H2 q = some (.lst []) ∧ (t = .lbr → Ml.linkAt (ts.drop (i + 1)) = none))))
      (eg_if (b := isLbr t) (et_B (ev_is (ev_call (ea_cons (ev_ixL (ev_var rfl) (ev_var rfl) hS4 rfl hxi) (ea_cons ev_c ea_nil)) (v_isMark 91 hxt4.th)) rfl)) (fun hb2 => ?_) (fun hb2 => ?_) (fun _ H1 H2 _ e12 ⟨q, h1, h2, h3⟩ => ⟨q, h1, fresh_back e12 h2, h3⟩)) fun v3 H5 e5 ⟨q, hv, hqn, hq⟩ => ?_
    · have htl := (isLbr_iff t).mp hb2
      intro H5 e5 Q5 q5
      refine ⟨_, rfl, _, rfl, _, rfl, fun b => F b ∨ b = p, a, b, ts, i, rfl, (fd4.win wn).ex e5, ToksAt.ex (out_or_ex hp0 (fd4.ex.trans e5)) hT, sq_of (e5 _ _ hbr4), hlt, hl, fun q H6 hq e6 hres => q5 (.ref q) H6 e6 ⟨q, rfl, hq, ?_⟩⟩
      unfold LinkRes at hres
      cases hlk2 : Ml.linkAt (ts.drop (i + 1)) with
      | none =>
        rw [hlk2] at hres
        exact .inr ⟨hres, fun _ => rfl⟩
      | some r =>
        rw [hlk2] at hres
        obtain ⟨tu, y, e, r1, r2, r3, r4, r5, r6⟩ := hres
        exact .inl ⟨r, tu, y, e, htl, rfl, r1, r2, r3, r4, r5, r6⟩
    · refine (EvG.ofL (el_lst ea_nil (by decide))).imp fun v H5 H6 _ _ ⟨q, hv, hqn, hq⟩ => ⟨q, hv, hqn, .inr ⟨hq, fun z => ?_⟩⟩
      rw [z] at hb2
      cases hb2
    subst hv
    have fd5 := fd4.mono (PieceAt.mono K) e5
    rcases hq with ⟨r, tu, y, e, rfl, hr1, hq1, hq2, hq3, hie, hel, hre⟩ | ⟨hq1, hno⟩
    ·
      refine s_if (b := true) (et_test (ev_neE (ev_var rfl) (sq_of hq1) rfl)) (fun _ H6 e6 => ?_) (fun z => Bool.noConfusion z)
      have fd6 := fd5.mono (PieceAt.mono K) e6
      have hqp : q ≠ p := fun z => by
        rw [z, fd4.at_] at hqn
        cases hqn
      have htp : tu ≠ p := ne_of hq2 fd5.at_ (by intro z; cases z)
      have hbp : b ≠ p := ne_of_none h1 hp
      refine q_foundK (PieceAt.mono K) fd6 (l := .link r.1 r.2.1) (by omega) (ev_var rfl) ((EvG.of (ev_ixT (i := 0) (ev_ixL (i := 0) (ev_var rfl) ev_c (sq_of (e6 _ _ hq1)) rfl rfl) ev_c (st_of (e6 _ _ hq2)) rfl rfl)).imp fun v H7 H8 e7 e8 hv => ⟨y, hv, PieceAt.mono K _ _ _ _ (out_mono ((e6.trans e7).trans e8)) hq3⟩) fun x2 H7 fd7 kp => ?_
      have hb7 := kp b _ hbp (e6 _ _ (e5 _ _ hbr4))
      refine s_asg (ev_ixT (i := 1) (ev_ixL (i := 0) (ev_var rfl) ev_c (sq_of (kp q _ hqp (e6 _ _ hq1))) rfl rfl) ev_c (st_of (kp tu _ htp (e6 _ _ hq2))) rfl rfl) fun H8 e8 => ⟨e, _, _, _, _, hie, rfl, fd7.mono (PieceAt.mono K) e8, e8 _ _ hb7, ?_, ?_, hel⟩
      · rw [hlk, hd, MA.linksF_some (r := ts.drop (i + 1)) (a := r.1) (u := r.2.1) (z := r.2.2) hr1, hre, List.append_assoc]
        rfl
      · rw [List.length_append]
        show ps.length + 1 ≤ e
        omega
    · refine s_if (b := false) (et_test (ev_neE (ev_var rfl) (sq_of hq1) rfl)) (fun z => Bool.noConfusion z) (fun _ H6 e6 => ?_)
      have e56 := e5.trans e6
      have fd6 := fd5.mono (PieceAt.mono K) e6
      have hbp : b ≠ p := ne_of_none h1 hp
      refine q_asg (ev_ixL (ev_var rfl) (ev_var rfl) (ex_l e56 hS4) rfl hxi) fun H7 e7 => ?_
      have fd7 := fd6.mono (PieceAt.mono K) e7
      have hxt7 := TokAt.mono K _ _ _ _ (e56.trans e7) hxt4
      refine q_foundK (PieceAt.mono K) fd7 (l := .tok t) (by omega) (ev_var rfl) (eg_if (b := brkF (frmT t) (MA.byteT t)) (et_B (ev_call (ea_cons (ev_var rfl) ea_nil) (v_isBracket hxt7.th))) (fun hb2 => ?_) (fun hb2 => ?_) (fun _ _ _ _ _ h => h)) fun x2 H8 fd8 kp => ?_
      · obtain ⟨dx, i2, a2, hI, _⟩ := id hxt7
        refine (eg_byteThing ev_c (ev_fld (ev_var rfl) hI T.cl_Thing T.n_Thing_byte thF_byte)).imp fun v H8 H9 e8 e9 ⟨y, hv, ny, dx2, i3, a3, hy⟩ => ⟨y, hv, 0, dx2, i3, .ref a3, .inr ⟨?_, rfl⟩, ?_, fun b hb => ?_⟩
        · rw [brk_nbr] at hb2
          unfold MA.nbr at hb2
          simpa using hb2
        · exact ((fd7.win wn).ex e8).new ny hy
        · rw [hb] at hb2
          cases hb2
      · refine (EvG.of (ev_var rfl)).imp fun v H8 H9 e8 e9 hv => ⟨x, hv, PieceAt.tok ?_⟩
        exact TokAt.mono K _ _ _ _ (out_or_ex hp0 ((fd7.ex.trans e8).trans e9)) hxtO
      refine s_asg (ev_add (k := ((i + 1 : Nat) : Int)) (ev_var rfl) ev_c (by omega)) fun H9 e9 => ⟨i + 1, _, _, _, _, by omega, rfl, fd8.mono (PieceAt.mono K) e9, e9 _ _ (kp b _ hbp (e7 _ _ (e56 _ _ hbr4))), ?_, ?_, by omega⟩
      · rw [hlk, hd, List.append_assoc]
        congr 1
        by_cases htl : t = .lbr
        · rw [htl, MA.linksF_none (hno htl)]
          rfl
        · rw [MA.linksF_tok htl]
          rfl
      · rw [List.length_append]
        show ps.length + 1 ≤ i + 1
        omega
  · have hge : i = ts.length := by
      have := of_decide_eq_false hb
      omega
    subst hge
    rw [List.drop_length, MA.linksF_nil, List.append_nil] at hlk
    refine s_ret (ev_var rfl) fun H6 e6 => k p H6 hp0 (fd.ex.trans (e4.trans e6)) ?_
    rw [hlk]
    exact (fd.mono (PieceAt.mono K) (e4.trans e6)).done (PieceAt.mono K) wn
end
end Mk
set_option Elab.async false
set_option linter.all false
set_option maxRecDepth 100000
set_option maxHeartbeats 4000000
namespace Mk
open PySem PySem.Spec PyProof.Rows L2 C8 Evl
abbrev pStar : Ml.Piece → Bool := Ml.Piece.isStar
abbrev pBlank : Ml.Piece → Bool := Ml.Piece.isBlank
theorem PieceAt.th {K : PySem.W.Frag} {G : Hp} {x : Addr} {p : Ml.Piece} (h : PieceAt K G x p) : ∃ s b, ThI K G x s b ∧ (decide (s = 3) && b == 42) = pStar p ∧ (decide (s = 0) && Ml.space b) = pBlank p := by
  cases p with
  | tok t =>
    obtain ⟨s, dx, i, a, h1, h2, _⟩ := h
    refine ⟨s, _, ⟨dx, _, a, h2⟩, ?_⟩
    have h91 : Ml.space 91 = false := by decide
    have h93 : Ml.space 93 = false := by decide
    rcases h1 with rfl | ⟨h1, rfl⟩
    · cases t <;> simp [frmT, MA.byteT, pStar, pBlank, Ml.Piece.isStar, Ml.Piece.isBlank, Ml.Tok.isStar, Ml.Tok.isBlank]
    · cases t with
      | lbr => simp [MA.byteT, pStar, pBlank, Ml.Piece.isStar, Ml.Piece.isBlank, Ml.Tok.isStar, Ml.Tok.isBlank, h91]
      | rbr => simp [MA.byteT, pStar, pBlank, Ml.Piece.isStar, Ml.Piece.isBlank, Ml.Tok.isStar, Ml.Tok.isBlank, h93]
      | _ => cases h1
  | link l u =>
    obtain ⟨dx, i, a, h1, _⟩ := h
    exact ⟨4, 0, ⟨dx, _, _, h1⟩, rfl, rfl⟩
def endL (ps : List Ml.Piece) : List V := (List.range (ps.length + 1)).map fun i => .int ((MA.endF pStar pBlank ps i : Nat) : Int)
theorem endL_at {ps : List Ml.Piece} {i : Nat} (h : i ≤ ps.length) : (endL ps)[i]? = some (.int ((MA.endF pStar pBlank ps i : Nat) : Int)) := by
  unfold endL
  rw [List.getElem?_map, List.getElem?_range (by omega)]
  rfl
def emV (ps : List Ml.Piece) (i : Nat) : Int := match MA.emA pStar pBlank ps i with
  | some e => (e : Int)
  | none => -1
def spEnds (K : PySem.W.Frag) : Sp := fun vs H Q _ => ∃ a ps, vs = [.ref a] ∧ PcsAt K H a ps ∧ ps.length ≤ 30000 ∧ RetL (endL ps) H Q
def spEmph (K : PySem.W.Frag) : Sp := fun vs H Q _ => ∃ a b ps i, vs = [.ref a, .ref b, .int ((i : Nat) : Int)] ∧ PcsAt K H a ps ∧ SqL K H b (endL ps) ∧ i < ps.length ∧ ps.length ≤ 30000 ∧ RetV (.int (emV ps i)) H Q
def spRunning (K : PySem.W.Frag) : Sp := fun vs H Q _ => ∃ F a t, vs = [.ref a] ∧ Win F H ∧ SqL K H a (bs t) ∧ t.length ≤ 30000 ∧ ∀ p H', H p = none → Ex H H' → PcsAt K (out F H') p (MA.linksF (MA.lexF t)) → Q (.ref p) H'
section
variable {K : PySem.W.Frag} {H : Hp} {a b : Addr} {ps : List Ml.Piece}
theorem v_ends (h : PcsAt K H a ps) (hl : ps.length ≤ 30000) : SpL (spEnds K) [.ref a] H (endL ps) := fun H1 e Q q _ => ⟨a, ps, rfl, h.ex e, hl, q⟩
theorem v_emph {i : Nat} (h : PcsAt K H a ps) (hb : SqL K H b (endL ps)) (hi : i < ps.length) (hl : ps.length ≤ 30000) : SpV (spEmph K) [.ref a, .ref b, .int (i : Int)] H (.int (emV ps i)) := fun H1 e Q q _ => ⟨a, b, ps, i, rfl, h.ex e, ex_l e hb, hi, hl, q⟩
theorem PcsAt.sq (h : PcsAt K H a ps) : ∃ xs : List Addr, H a = some (.lst (xs.map V.ref)) ∧ xs.length = ps.length ∧ ∀ (i : Nat) p, ps[i]? = some p → ∃ x, (xs.map V.ref)[i]? = some (V.ref x) ∧ PieceAt K H x p := by
  obtain ⟨xs, h1, h2⟩ := h
  exact ⟨xs, h1, h2.1, fun i t ht => let ⟨x, _, b, c⟩ := h2.at ht; ⟨x, b, c⟩⟩
end
section
variable {P : Program} {w : World} {K : PySem.W.Frag} {mg : Str → Option Value} {base : Heap}
theorem ok_ends_ahead (T : Txt K mg) (c_is_mark : Cal P w K mg base 1 "is_mark" (spIsMark K) []) (c_is_space_thing : Cal P w K mg base 3 "is_space_thing" (spSpaceTh K) []) : Cal P w K mg base 4 "ends_ahead" (spEnds K) [] := by
  refine cal_d T.d_ends_ahead sc_ends_ahead bi_ends_ahead (fun vs H Q E h => ?_) fun f cdv A outer s H vs Q E hr h => ?_
  · obtain ⟨a, ps, rfl, _⟩ := h
    rfl
  obtain ⟨a, ps, rfl, hT, hl, k⟩ := h
  obtain ⟨xs, hx0, hlen, hat⟩ := hT.sq
  have hS : SqL K H a (xs.map V.ref) := sq_of hx0
  have hml : (xs.map V.ref).length = ps.length := by rw [List.length_map, hlen]
  refine ⟨_, (pss_cons (ps_setLc (i := 1) (own := [("at", 2)]) (g := gName 2) (tt := tYes) rfl sc_ends_ahead.nd rfl rfl (sw_true rfl rfl rfl (by decide +kernel)) (pi_range1 rfl T.b_range (pa_cons (pe_op op_add (pe_callB call_lenS rfl T.b_len boot_len (pa_cons (pv 0) pa_nil)) pe_int) pa_nil)) (blkOk_by (own := [("at", 2)]) (N := ["things", "found", "at", "is_end"]) (sc := defScope s_ends_ahead) (by decide +kernel)) (fun _ _ _ _ _ => pg_name (i := 2) sc_ends_ahead.nd rfl (Or.inl rfl)) (fun _ _ _ _ _ => pts_nil) (fun _ _ _ _ _ => (pe_callB (r := rLenS K) call_lenS rfl T.b_len boot_len (pa_cons (pv 0) pa_nil))))
  (pss_cons (ps_for PassesOwn.never rfl (pi_range3 rfl T.b_range (pa_cons (pe_op op_sub (pe_callB call_lenS rfl T.b_len boot_len (pa_cons (pv 0) pa_nil)) pe_int) (pa_cons (pe_un un_neg pe_int) (pa_cons (pe_un un_neg pe_int) pa_nil)))) (pg_name (i := 2) sc_ends_ahead.nd rfl (Or.inl rfl))
  (pss_cons (ps_set (i := 3) sc_ends_ahead.nd rfl (Or.inl rfl) (pe_and (pe_cmpR op_gt (pv 2) pe_int (nomark _)) (pe_and (pe_c c_is_mark hr (by decide) rfl (pa_cons (pe_ix ix_list (pv 0) (pv 2) (fun _ _ => rfl)) (pa_cons (pe_gc rfl T.k_STAR) pa_nil))) (pe_one (pe_not (pe_c c_is_space_thing hr (by decide) rfl (pa_cons (pe_ix ix_list (pv 0) (pe_op op_sub (pv 2) pe_int) (fun _ _ => rfl)) pa_nil)))))))
  (pss_one (ps_asg (pe_ifExp (pt_val (pv 3)) (pv 2) (pe_ix ix_list (pv 1) (pe_op op_add (pv 2) pe_int) (fun _ _ => rfl))) (pg_sub (pv 1) (pv 2) set_list)))))
  (pss_one (ps_ret (pv 1))))), ?_⟩
  refine q_asgL (el_lcR1 (n := ((ps.length + 1 : Nat) : Int)) (fun _ => true) (fun _ => .int (ps.length : Int)) (ea_cons (ev_add (ev_len (ev_var rfl) hS) ev_c (by rw [hml]; omega)) ea_nil) (by omega) (fun _ => rfl) (fun _ _ _ _ => et_yes) (fun i H1 e1 _ _ => ev_is (ev_len (ev_var rfl) (ex_l e1 hS)) (by rw [hml]))) fun p H1 hp e1 h1 => ?_
  rw [given_all, Int.toNat_natCast] at h1
  refine q_back (n := ps.length) (l := p) (g := fun i => ((MA.endF pStar pBlank ps i : Nat) : Int)) (H0 := H) (fun σ' => ∃ v w : Option V, σ' = [some (.ref a), some (.ref p), v, w]) (ea_cons (ev_sub (ev_len (ev_var rfl) (ex_l e1 hS)) ev_c (by rw [hml])) (ea_cons (ev_neg ev_c rfl) (ea_cons (ev_neg ev_c rfl) ea_nil))) (by omega)
    (fun H2 e2 => ⟨none, none, rfl⟩) h1 (List.length_replicate ..) ?_ hp e1 ?_ ?_
  · rw [List.getElem?_replicate, if_pos (by omega), MA.endF_end _ _ (Nat.le_refl _)]
  · rintro i σ' H' ys hi ⟨v, v2, rfl⟩ e hx hy hg N hN
    have hti : ps[i]? = some ps[i] := List.getElem?_eq_getElem hi
    obtain ⟨x, hxi, hxt⟩ := hat i _ hti
    have hS' := ex_l e hS
    obtain ⟨sx, bx, hth, hst, _⟩ := (PieceAt.mono K _ _ _ _ e hxt).th
    have hend : Ev (tAndV (tOp (rI0 fun i j => .bl (decide (j < i))) (tVar 2) (tC (.int 0))) (tAndV (tCall (spIsMark K) [] C8.E0 (tCons (tOp (rIxL K) (tVar 0) (tVar 2)) (tCons (tC (.int 42)) tNil)))
        (tNotV (tCall (spSpaceTh K) [] C8.E0 (tCons (tOp (rIxL K) (tVar 0) (tOp (rI0 fun i j => .int (i - j)) (tVar 2) (tC (.int 1)))) tNil))))) [some (.ref a), some (.ref p), some (.int (i : Int)), v2] H' (.bl (MA.endOk pStar pBlank ps i)) := by
      unfold MA.endOk
      rw [hti]
      by_cases h0 : 0 < i
      · have htj : ps[i - 1]? = some (ps[i - 1]'(by omega)) := List.getElem?_eq_getElem (by omega)
        obtain ⟨y, hyi, hyt⟩ := hat _ _ htj
        obtain ⟨sy, b2, hth2, _, hbl⟩ := (PieceAt.mono K _ _ _ _ e hyt).th
        refine ev_is (ev_andV (b := pStar ps[i] && !pBlank (ps[i - 1]'(by omega))) (ev_gt (b := true) (ev_var rfl) ev_c (decide_eq_true (by omega))) fun _ => ev_is (ev_andV (ev_call (ea_cons (ev_ixL (ev_var rfl) (ev_var rfl) hS' rfl hxi) (ea_cons ev_c ea_nil)) (v_isMark 42 hth)) fun _ => ev_notV (ev_call (ea_cons (ev_ixL (i := i - 1) (ev_var rfl) (ev_sub (ev_var rfl) ev_c rfl) hS' (by omega) hyi) ea_nil) (v_spaceTh hth2))) (by rw [hst, hbl])) ?_
        rw [htj, decide_eq_true h0]
        rfl
      · refine ev_is (ev_andF (ev_gt (ev_var rfl) ev_c (decide_eq_false (by omega)))) ?_
        rw [decide_eq_false h0]
        rfl
    refine q_asg hend fun H2 e2 => ?_
    refine s_setL (v := .int ((MA.endF pStar pBlank ps i : Nat) : Int)) (e2 _ _ hx) (ev_if (b := MA.endOk pStar pBlank ps i) (et_B (ev_var rfl)) (fun hb => ?_) fun hb => ?_) (ev_var rfl) (ev_var rfl) (by omega) fun H3 e3 => ?_
    · rw [MA.endF_here pStar pBlank hi hb]
      exact ev_var rfl
    · rw [MA.endF_next pStar pBlank hi hb]
      exact ev_ixL (i := i + 1) (ev_var rfl) (ev_add (ev_var rfl) ev_c rfl) (sq_of (e2 _ _ hx)) (by omega) hg
    · exact hN _ _ ⟨_, _, rfl⟩ (Evl.Ex.mut ((e.trans e2).trans e3) hp) upd_same
  · rintro σ' H' ⟨v, v2, rfl⟩ e hx
    exact s_ret (ev_var rfl) fun H2 e2 => k p H2 hp (e.trans e2) (e2 _ _ hx)
theorem ok_emphasis_at (T : Txt K mg) (c_is_mark : Cal P w K mg base 1 "is_mark" (spIsMark K) []) (c_is_space_thing : Cal P w K mg base 3 "is_space_thing" (spSpaceTh K) []) : Cal P w K mg base 4 "emphasis_at" (spEmph K) [] := by
  refine cal_d T.d_emphasis_at sc_emphasis_at bi_emphasis_at (fun vs H Q E h => ?_) fun f cdv A outer s H vs Q E hr h => ?_
  · obtain ⟨a, b, ps, i, rfl, _⟩ := h
    rfl
  obtain ⟨a, b, ps, i, rfl, hT, hB, hi, hl, k⟩ := h
  obtain ⟨xs, hx0, hlen, hat⟩ := hT.sq
  have hS : SqL K H a (xs.map V.ref) := sq_of hx0
  have hml : (xs.map V.ref).length = ps.length := by rw [List.length_map, hlen]
  refine ⟨_, (pss_cons (ps_if (PW.pt (pw_or (pt_not (pt_val (pe_c c_is_mark hr (by decide) rfl (pa_cons (pe_ix ix_list (pv 0) (pv 2) (fun _ _ => rfl)) (pa_cons (pe_gc rfl T.k_STAR) pa_nil))))) (pw_or (pt_cmpR op_ge (pe_op op_add (pv 2) pe_int) (pe_callB call_lenS rfl T.b_len boot_len (pa_cons (pv 0) pa_nil)) (nomark _)) (pw_or1 (pt_val (pe_c c_is_space_thing hr (by decide) rfl (pa_cons (pe_ix ix_list (pv 0) (pe_op op_add (pv 2) pe_int) (fun _ _ => rfl)) pa_nil)))))))
  (pss_one (ps_ret (pe_un un_neg pe_int)))
  pss_nil)
  (pss_one (ps_ret (pe_ifExp (pt_cmpR op_lt (pe_ix ix_list (pv 1) (pe_op op_add (pv 2) pe_int) (fun _ _ => rfl)) (pe_callB call_lenS rfl T.b_len boot_len (pa_cons (pv 0) pa_nil)) (nomark _)) (pe_ix ix_list (pv 1) (pe_op op_add (pv 2) pe_int) (fun _ _ => rfl)) (pe_un un_neg pe_int))))), ?_⟩
  have hti : ps[i]? = some ps[i] := List.getElem?_eq_getElem hi
  obtain ⟨x, hxi, hxt⟩ := hat i _ hti
  obtain ⟨sx, bx, hth, hst, _⟩ := hxt.th
  have hmark : EvT (tNot (tB (tCall (spIsMark K) [] C8.E0 (tCons (tOp (rIxL K) (tVar 0) (tVar 2)) (tCons (tC (.int 42)) tNil))))) [some (.ref a), some (.ref b), some (.int (i : Int))] H (!pStar ps[i]) :=
    et_not (et_B (ev_is (ev_call (ea_cons (ev_ixL (ev_var rfl) (ev_var rfl) hS rfl hxi) (ea_cons ev_c ea_nil)) (v_isMark 42 hth)) (by rw [hst])))
  by_cases g : ps[i]?.any pStar = true ∧ i + 2 < ps.length ∧ ps[i + 1]?.any pBlank = false
  · obtain ⟨g1, g2, g3⟩ := g
    have htj : ps[i + 1]? = some (ps[i + 1]'(by omega)) := List.getElem?_eq_getElem (by omega)
    obtain ⟨y, hyi, hyt⟩ := hat _ _ htj
    obtain ⟨sy, b2, hth2, _, hbl⟩ := hyt.th
    rw [hti] at g1
    rw [htj] at g3
    have hs1 : pStar ps[i] = true := by simpa using g1
    have hb1 : pBlank (ps[i + 1]'(by omega)) = false := by simpa using g3
    refine q_when (b := false) (et_orF (et_is hmark (by rw [hs1]; rfl)) (et_orF (et_test (ev_ge (ev_add (ev_var rfl) ev_c rfl) (ev_len (ev_var rfl) hS) (decide_eq_false (by rw [hml]; omega)))) (et_B (ev_is (ev_call (ea_cons (ev_ixL (i := i + 1) (ev_var rfl) (ev_add (ev_var rfl) ev_c rfl) hS (by omega) hyi) ea_nil) (v_spaceTh hth2)) (by rw [hbl, hb1]))))) (fun z => Bool.noConfusion z) (fun _ H1 e1 => ?_)
    have hix : Ev (tOp (rIxL K) (tVar 1) (tOp (rI0 fun i j => .int (i + j)) (tVar 2) (tC (.int 2)))) [some (.ref a), some (.ref b), some (.int (i : Int))] H1 (.int ((MA.endF pStar pBlank ps (i + 2) : Nat) : Int)) := ev_ixL (i := i + 2) (ev_var rfl) (ev_add (ev_var rfl) ev_c rfl) (ex_l e1 hB) (by omega) (endL_at (by omega))
    refine s_ret (ev_if (b := decide (MA.endF pStar pBlank ps (i + 2) < ps.length)) (et_test (ev_lt hix (ev_len (ev_var rfl) (ex_l e1 hS)) (decide_eq_decide.mpr (by rw [hml]; omega)))) (fun hb => ?_) fun hb => ?_) fun H2 e2 => k H2 (e1.trans e2)
    · have hc := of_decide_eq_true hb
      have hv : emV ps i = ((MA.endF pStar pBlank ps (i + 2) : Nat) : Int) := by
        unfold emV MA.emA
        rw [hti, htj, if_pos ⟨by simpa using hs1, g2, by simpa using hb1, hc⟩]
      rw [hv]
      exact hix
    · have hc := of_decide_eq_false hb
      have hv : emV ps i = -1 := by
        unfold emV MA.emA
        rw [if_neg fun z => hc z.2.2.2]
      rw [hv]
      exact ev_neg ev_c rfl
  · have hv : emV ps i = -1 := by
      unfold emV MA.emA
      rw [if_neg fun z => g ⟨z.1, z.2.1, z.2.2.1⟩]
    rw [hv] at k
    refine q_when (b := true) ?_ (fun _ H1 e1 => s_ret (ev_neg ev_c rfl) fun H2 e2 => k H2 (e1.trans e2)) (fun z => Bool.noConfusion z)
    cases hs1 : pStar ps[i] with
    | false => exact et_orT (et_is hmark (by rw [hs1]; rfl))
    | true =>
      refine et_orF (et_is hmark (by rw [hs1]; rfl)) ?_
      by_cases g2 : i + 2 < ps.length
      · have htj : ps[i + 1]? = some (ps[i + 1]'(by omega)) := List.getElem?_eq_getElem (by omega)
        obtain ⟨y, hyi, hyt⟩ := hat _ _ htj
        obtain ⟨sy, b2, hth2, _, hbl⟩ := hyt.th
        refine et_orF (et_test (ev_ge (ev_add (ev_var rfl) ev_c rfl) (ev_len (ev_var rfl) hS) (decide_eq_false (by rw [hml]; omega)))) (et_B (ev_is (ev_call (ea_cons (ev_ixL (i := i + 1) (ev_var rfl) (ev_add (ev_var rfl) ev_c rfl) hS (by omega) hyi) ea_nil) (v_spaceTh hth2)) ?_))
        rw [hbl]
        congr 1
        cases hb1 : pBlank (ps[i + 1]'(by omega)) with
        | true => rfl
        | false =>
          refine absurd ⟨?_, g2, ?_⟩ g
          · rw [hti]
            simpa using hs1
          · rw [htj]
            simpa using hb1
      · exact et_orT (et_test (ev_ge (ev_add (ev_var rfl) ev_c rfl) (ev_len (ev_var rfl) hS) (decide_eq_true (by rw [hml]; omega))))
theorem ok_running_things (T : Txt K mg) (c_linked : Cal P w K mg base 6 "linked" (spLinked K) []) (c_first_things : Cal P w K mg base 4 "first_things" (spFirst K) []) : Cal P w K mg base 7 "running_things" (spRunning K) [] := by
  refine cal_d T.d_running_things sc_running_things bi_running_things (fun vs H Q E h => ?_) fun f cdv A outer s H vs Q E hr h => ?_
  · obtain ⟨F, a, t, rfl, _⟩ := h
    rfl
  obtain ⟨F, a, t, rfl, wn, hS, hl, k⟩ := h
  refine ⟨_, (pss_one (ps_ret (pe_c c_linked hr (by decide) rfl (pa_cons (pe_c c_first_things hr (by decide) rfl (pa_cons (pv 0) pa_nil)) pa_nil)))), ?_⟩
  refine ⟨_, rfl, F, a, t, rfl, wn, hS, hl, fun p H1 hp e1 hT => ⟨F, p, MA.lexF t, rfl, wn.ex e1, hT, Nat.le_trans (MA.lexF_len _ _) hl, fun q H2 hq e2 hP => k q H2 (fresh_back e1 hq) (e1.trans e2) hP⟩⟩
end
end Mk
set_option Elab.async false
set_option linter.all false
set_option maxRecDepth 100000
set_option maxHeartbeats 4000000
namespace Mk
open PySem PySem.Spec PyProof.Rows L2 C8 Evl
def EvAt (G : Hp) (q : Addr × Addr) (e : Ml.Event) : Prop := G q.1 = some (.tup [.int ((e.kind : Nat) : Int), .int ((e.num : Nat) : Int), .ref q.2]) ∧ G q.2 = some (.lst (bs e.bytes))
theorem EvAt.ex {G G' : Hp} {q : Addr × Addr} {e : Ml.Event} (x : Ex G G') (h : EvAt G q e) : EvAt G' q e := ⟨x _ _ h.1, x _ _ h.2⟩
def tlF (l d : V) : List (Str × V) := [("events", l), ("depth", d)]
section
variable {l d x : V}
theorem tlF_events : (tlF l d).lookup ("events" : Str) = some l := lk_here
theorem tlF_depth : (tlF l d).lookup ("depth" : Str) = some d := (lk_past (by decide +kernel)).trans lk_here
theorem tlF_tell : (tlF l d).lookup ("tell" : Str) = none := (lk_past (by decide +kernel)).trans ((lk_past (by decide +kernel)).trans rfl)
theorem tlF_tellb : (tlF l d).lookup ("tell_bytes" : Str) = none := (lk_past (by decide +kernel)).trans ((lk_past (by decide +kernel)).trans rfl)
theorem tlF_put : putF "depth" x (tlF l d) = tlF l x := (put_past (by decide +kernel)).trans (congrArg _ put_here)
theorem tlF_new : putF "depth" d (putF "events" l []) = tlF l d := (put_past (by decide +kernel)).trans rfl
end
def TellAt (K : PySem.W.Frag) (F : Addr → Prop) (H : Hp) (t : Addr) (es : List Ml.Event) (d : Int) : Prop := ∃ (dx l : Addr) (ps : List (Addr × Addr)), H t = some (.ins (cTeller K) dx (tlF (.ref l) (.int d))) ∧ H l = some (.lst (ps.map fun q => V.ref q.1)) ∧
  Each (EvAt H) ps es ∧ (ps.map (·.2)).Nodup ∧ l ∉ ps.map (·.2) ∧ ∀ b, F b ↔ b = t ∨ b = l ∨ ∃ q ∈ ps, b = q.1 ∨ b = q.2
theorem Each.mem {β α : Type} {R : β → α → Prop} {xs : List β} {ls : List α} (h : Each R xs ls) {x : β} (hx : x ∈ xs) : ∃ l, l ∈ ls ∧ R x l := by
  obtain ⟨i, hi, e⟩ := List.getElem_of_mem hx
  have h1 : xs[i]? = some x := by rw [List.getElem?_eq_getElem hi, e]
  have h2 : ls[i]? = some (ls[i]'(by rw [← h.1]; exact hi)) := List.getElem?_eq_getElem _
  exact ⟨_, List.mem_of_getElem? h2, h.2 i x _ h1 h2⟩
theorem TellAt.ex {K : PySem.W.Frag} {F : Addr → Prop} {H H' : Hp} {t : Addr} {es : List Ml.Event} {d : Int} (e : Ex H H') (h : TellAt K F H t es d) : TellAt K F H' t es d := by
  obtain ⟨dx, l, ps, h1, h2, h3, h4, h5, h6⟩ := h
  exact ⟨dx, l, ps, e _ _ h1, e _ _ h2, h3.mono fun q v hq => hq.ex e, h4, h5, h6⟩
theorem TellAt.win {K : PySem.W.Frag} {F : Addr → Prop} {H : Hp} {t : Addr} {es : List Ml.Event} {d : Int} (h : TellAt K F H t es d) : Win F H := by
  obtain ⟨dx, l, ps, h1, h2, h3, h4, h5, h6⟩ := h
  intro b hb hF
  rcases (h6 b).mp hF with rfl | rfl | ⟨q, hq, z⟩
  · rw [h1] at hb
    cases hb
  · rw [h2] at hb
    cases hb
  · obtain ⟨v, _, hv⟩ := h3.mem hq
    rcases z with rfl | rfl
    · rw [hv.1] at hb
      cases hb
    · rw [hv.2] at hb
      cases hb
theorem EvAt.upd {H : Hp} {q : Addr × Addr} {e : Ml.Event} {p : Addr} {o : HO} (h : EvAt H q e) (h1 : q.1 ≠ p) (h2 : q.2 ≠ p) : EvAt (upd H p o) q e := ⟨by rw [upd_ne h1]; exact h.1, by rw [upd_ne h2]; exact h.2⟩
def spTellerInit (K : PySem.W.Frag) : Sp := fun vs H Q _ => ∃ t dx, vs = [.ref t] ∧ H t = some (.ins (cTeller K) dx []) ∧ ∀ F H', TellAt K F H' t [] (-1) → (∀ b, F b → H b = none ∨ b = t) → (∀ b o, H b = some o → b ≠ t → H' b = some o) → Q .non H'
def spTell (K : PySem.W.Frag) : Sp := fun vs H Q _ => ∃ F t es d k n r l, vs = [.ref t, .int ((k : Nat) : Int), .int ((n : Nat) : Int), .ref r] ∧ TellAt K F H t es d ∧ SqL K H r (bs l) ∧ es.length < 1000000 ∧
  ∀ F' H', TellAt K F' H' t (es ++ [⟨k, n, l⟩]) d → Ex (out F H) (out F' H') → Q .non H'
def spTellB (K : PySem.W.Frag) : Sp := fun vs H Q _ => ∃ F t es d r c, vs = [.ref t, .ref r] ∧ TellAt K F H t es d ∧ out F H r = some (.lst (bs [c])) ∧ MA.wt es < 1000000 ∧
  ∀ F' H', TellAt K F' H' t (MA.push es ⟨0, 0, [c]⟩) d → Ex (out F H) (out F' H') → Q .non H'
section
variable {P : Program} {w : World} {K : PySem.W.Frag} {mg : Str → Option Value} {base : Heap}
theorem ok_Teller_init (T : Txt K mg) : Mak P w K mg base 1 "Teller" (cTeller K) (spTellerInit K) [] := by
  refine mak_d T.mk_Teller T.g_Teller T.d_Teller_init sc_Teller_init bi_Teller_init (fun vs H Q E h => ?_) fun cdv A outer s H vs Q E hr h => ?_
  · obtain ⟨p, dx, rfl, _⟩ := h
    rfl
  obtain ⟨t, dx, rfl, hp, k⟩ := h
  refine ⟨_, (pss_cons (ps_fld (pv 0) (pe_lst pa_nil) rfl)
  (pss_one (ps_fld (pv 0) (pe_un un_neg pe_int) rfl))), ?_⟩
  refine ⟨(by decide), fun l hl => ?_⟩
  have htl : t ≠ l := ne_of_none hp hl
  refine ⟨_, rfl, t, cTeller K, dx, [], rfl, by rw [upd_ne htl]; exact hp, T.cl_Teller, T.n_Teller_events, (by decide), ?_⟩
  refine ⟨1, rfl, _, rfl, t, cTeller K, dx, _, rfl, upd_same, T.cl_Teller, T.n_Teller_depth, (by show 1 < 1000; decide), ?_⟩
  refine k (fun b => b = t ∨ b = l) _ ⟨dx, l, [], Eq.trans upd_same (congrArg (fun q => some (HO.ins (cTeller K) dx q)) tlF_new), ?_, Each.nil, List.nodup_nil, by simp, fun b => by simp⟩ ?_ ?_
  · rw [upd_ne (Ne.symm htl), upd_ne (Ne.symm htl)]
    exact upd_same
  · rintro b (rfl | rfl)
    · exact .inr rfl
    · exact .inl hl
  · intro b o hb hbt
    rw [upd_ne hbt, upd_ne hbt, upd_ne (ne_of_none hb hl)]
    exact hb
theorem tell_leaves {F : Addr → Prop} {H H1 : Hp} {t l dx tu r2 : Addr} {ps : List (Addr × Addr)} {es : List Ml.Event} {d : Int} {e : Ml.Event} (h1 : H t = some (.ins (cTeller K) dx (tlF (.ref l) (.int d)))) (h2 : H l = some (.lst (ps.map fun q => V.ref q.1)))
    (h3 : Each (EvAt H) ps es) (h4 : (ps.map (·.2)).Nodup) (h5 : l ∉ ps.map (·.2)) (h6 : ∀ b, F b ↔ b = t ∨ b = l ∨ ∃ q ∈ ps, b = q.1 ∨ b = q.2) (x : Ex H H1) (n1 : H tu = none) (n2 : H r2 = none) (e1 : H1 tu = some (.tup [.int ((e.kind : Nat) : Int), .int ((e.num : Nat) : Int), .ref r2]))
    (e2 : H1 r2 = some (.lst (bs e.bytes))) : TellAt K (fun b => F b ∨ b = tu ∨ b = r2) (upd H1 l (.lst ((ps.map fun q => V.ref q.1) ++ [.ref tu]))) t (es ++ [e]) d ∧ Ex (out F H) (out (fun b => F b ∨ b = tu ∨ b = r2) (upd H1 l (.lst ((ps.map fun q => V.ref q.1) ++ [.ref tu])))) := by
  have htl : t ≠ l := ne_of h1 h2 (by intro z; cases z)
  have hul : tu ≠ l := fun z => by rw [z, h2] at n1; cases n1
  have hrl : r2 ≠ l := fun z => by rw [z, h2] at n2; cases n2
  have hrow : ∀ q ∈ ps, H q.2 ≠ none := fun q hq => by
    obtain ⟨v, _, hv⟩ := h3.mem hq
    rw [hv.2]
    exact fun z => by cases z
  refine ⟨⟨dx, l, ps ++ [(tu, r2)], ?_, ?_, ?_, ?_, ?_, fun b => ?_⟩, fun b o hb => ?_⟩
  · rw [upd_ne htl]
    exact x _ _ h1
  · rw [List.map_append]
    exact upd_same
  · refine Each.snoc ⟨h3.1, fun i q v a b => ?_⟩ ?_
    · have hv := h3.2 i q v a b
      refine (hv.ex x).upd (ne_of hv.1 h2 (by intro z; cases z)) fun z => h5 ?_
      rw [← z]
      exact List.mem_map_of_mem (List.mem_of_getElem? a)
    · exact ⟨by rw [upd_ne hul]; exact e1, by rw [upd_ne hrl]; exact e2⟩
  · rw [List.map_append, List.nodup_append]
    refine ⟨h4, by simp, fun a ha b hb z => ?_⟩
    obtain ⟨q, hq, rfl⟩ := List.mem_map.mp ha
    rw [List.mem_singleton.mp hb] at z
    exact hrow q hq (by rw [z]; exact n2)
  · rw [List.map_append, List.mem_append]
    rintro (z | z)
    · exact h5 z
    · exact hrl (List.mem_singleton.mp z).symm
  · constructor
    · rintro (z | z | z)
      · rcases (h6 b).mp z with z | z | ⟨q, hq, z⟩
        · exact .inl z
        · exact .inr (.inl z)
        · exact .inr (.inr ⟨q, List.mem_append_left _ hq, z⟩)
      · exact .inr (.inr ⟨(tu, r2), by simp, .inl z⟩)
      · exact .inr (.inr ⟨(tu, r2), by simp, .inr z⟩)
    · rintro (z | z | ⟨q, hq, z⟩)
      · exact .inl ((h6 b).mpr (.inl z))
      · exact .inl ((h6 b).mpr (.inr (.inl z)))
      · rcases List.mem_append.mp hq with hq | hq
        · exact .inl ((h6 b).mpr (.inr (.inr ⟨q, hq, z⟩)))
        · rw [List.mem_singleton.mp hq] at z
          exact .inr z
  · obtain ⟨b1, b2⟩ := out_of hb
    have hbl : b ≠ l := fun z => b1 ((h6 b).mpr (.inr (.inl z)))
    rw [out_at, upd_ne hbl]
    · exact x _ _ b2
    · rintro (z | z | z)
      · exact b1 z
      · exact ne_of_none b2 n1 z
      · exact ne_of_none b2 n2 z
theorem ok_tell (T : Txt K mg) : Met P w K mg base 1 (cTeller K) "tell" (spTell K) [] := by
  refine met_d T.cl_Teller T.m_tell T.d_Teller_tell sc_Teller_tell bi_Teller_tell (fun vs H Q E h => ?_) fun cdv A outer s H vs Q E hr h => ?_
  · obtain ⟨F, t, es, d, k, n, r, l, rfl, _⟩ := h
    rfl
  obtain ⟨F, t, es, d, kk, n, r, lb, rfl, hT, hS, hn, k⟩ := h
  obtain ⟨dx, l, ps, h1, h2, h3, h4, h5, h6⟩ := hT
  refine ⟨_, (pss_one (ps_expr (pe_bm PySem.F.plainAttrs_list PySem.F.slot_list_append PySem.F.type_list_append mt_append (pe_fld (pv 0) rfl) (pa_cons (pe_tup (pa_cons (pv 1) (pa_cons (pv 2) (pa_cons (pe_callTy call_listS rfl T.b_list (by decide +kernel) (pa_cons (pv 3) pa_nil)) pa_nil)))) pa_nil)))), ?_⟩
  refine ⟨_, rfl, t, cTeller K, dx, _, _, rfl, h1, T.cl_Teller, T.n_Teller_events, tlF_events, .inl ⟨rfl, _, sq_of h2⟩, ?_⟩
  refine ⟨_, rfl, _, rfl, _, rfl, r, bs lb, rfl, .inl hS, fun r2 hr2 => ⟨(by show 3 ≤ sizeLine; decide), fun tu htu => ?_⟩⟩
  have x1 := Evl.Ex.new hr2 (o := .lst (bs lb))
  have x2 := Evl.Ex.new htu (o := .tup [.int ((kk : Nat) : Int), .int ((n : Nat) : Int), .ref r2])
  refine ⟨l, _, _, rfl, rfl, (x1.trans x2) _ _ h2, ?_, ?_⟩
  · rw [List.length_map, h3.1]
    exact Nat.lt_of_lt_of_le hn (by decide)
  · obtain ⟨g1, g2⟩ := tell_leaves (K := K) (e := ⟨kk, n, lb⟩) h1 h2 h3 h4 h5 h6 (x1.trans x2) (fresh_back x1 htu) hr2 upd_same (x2 _ _ upd_same)
    exact k _ _ g1 g2
theorem ok_tell_bytes (T : Txt K mg) (m_tell : Met P w K mg base 1 (cTeller K) "tell" (spTell K) []) : Met P w K mg base 2 (cTeller K) "tell_bytes" (spTellB K) [] := by
  refine met_d T.cl_Teller T.m_tell_bytes T.d_Teller_tell_bytes sc_Teller_tell_bytes bi_Teller_tell_bytes (fun vs H Q E h => ?_) fun cdv A outer s H vs Q E hr h => ?_
  · obtain ⟨F, t, es, d, r, c, rfl, _⟩ := h
    rfl
  obtain ⟨F, t, es, d, r, c, rfl, hT, hO, hn, k⟩ := h
  obtain ⟨hrF, hR⟩ := out_of hO
  have hl := MA.wt_len es
  refine ⟨_, (pss_one (ps_if (pt_cmpR (op_neE hr.units0) (pv 1) (pe_lst pa_nil) (nomark _))
  (pss_one (ps_if (PW.pt (pw_and (pt_cmpR (op_neE hr.units0) (pe_fld (pv 0) rfl) (pe_lst pa_nil) (nomark _)) (pw_and1 (pt_cmpR op_eq (pe_ix ix_tup (pe_ix ix_list (pe_fld (pv 0) rfl) (pe_un un_neg pe_int) (fun _ _ => rfl)) pe_int (fun _ _ => rfl)) (pe_gc rfl T.k_TEXT) (nomark _)))))
  (pss_one (ps_expr (pe_bm PySem.F.plainAttrs_list PySem.F.slot_list_extend PySem.F.type_list_extend mt_extend (pe_ix ix_tup (pe_ix ix_list (pe_fld (pv 0) rfl) (pe_un un_neg pe_int) (fun _ _ => rfl)) pe_int (fun _ _ => rfl)) (pa_cons (pv 1) pa_nil))))
  (pss_one (ps_expr (pe_mt m_tell hr (by decide) (pv 0) (pa_cons (pe_gc rfl T.k_TEXT) (pa_cons pe_int (pa_cons (pv 1) pa_nil))))))))
  pss_nil)), ?_⟩
  refine s_when (b := true) (et_test (ev_neE (ev_var rfl) (sq_of hR) rfl)) (fun _ H1 e1 => ?_) (fun z => Bool.noConfusion z)
  obtain ⟨dx, l, ps, h1, h2, h3, h4, h5, h6⟩ := hT.ex e1
  have hev : ∀ {H2}, Ex H1 H2 → Ev (tFld K (tVar 0) "events") [some (.ref t), some (.ref r)] H2 (.ref l) := fun {H2} e2 => ev_fld (ev_var rfl) (e2 _ _ h1) T.cl_Teller T.n_Teller_events tlF_events
  have fresh : MA.push es ⟨0, 0, [c]⟩ = es ++ [⟨0, 0, [c]⟩] → ∀ (D : Ends) H2, D.nx = (fun _ H' => Q .non H') → Ex H1 H2 → tDrop (tMeth (cTeller K) "tell" (spTell K) [] C8.E0 (tVar 0) (tCons (tC (.int 0)) (tCons (tC (.int 0)) (tCons (tVar 1) tNil)))) D [some (.ref t), some (.ref r)] H2 := fun hp D H2 hD e2 => by
    have hT2 := hT.ex (e1.trans e2)
    refine ⟨_, rfl, t, dx, _, rfl, e2 _ _ h1, tlF_tell, _, rfl, F, t, es, d, 0, 0, r, [c], rfl, hT2, sq_of ((e1.trans e2) _ _ hR), by omega, fun F' H' g1 g2 => ?_⟩
    show D.nx _ H'
    rw [hD]
    refine k F' H' ?_ ((out_mono (e1.trans e2)).trans g2)
    rw [hp]
    exact g1
  by_cases he : es = []
  · subst he
    have hps : ps = [] := List.eq_nil_of_length_eq_zero h3.1
    subst hps
    exact s_if (b := false) (et_andF (et_test (ev_neE (hev (Ex.refl _)) (sq_of h2) rfl))) (fun z => Bool.noConfusion z) (fun _ H2 e2 => fresh rfl _ H2 rfl e2)
  · obtain ⟨es0, f, rfl⟩ : ∃ es0 f, es = es0 ++ [f] := ⟨es.dropLast, es.getLast he, (List.dropLast_concat_getLast he).symm⟩
    have hpne : ps ≠ [] := fun z => by
      have := h3.1
      rw [z, List.length_append] at this
      simp at this
    obtain ⟨ps0, q, rfl⟩ : ∃ ps0 q, ps = ps0 ++ [q] := ⟨ps.dropLast, ps.getLast hpne, (List.dropLast_concat_getLast hpne).symm⟩
    have hlen : ps0.length = es0.length := by
      have := h3.1
      rw [List.length_append, List.length_append] at this
      simpa using this
    have hq : EvAt H1 q f := h3.2 ps0.length q f (by simp) (by rw [hlen]; simp)
    have hix : ∀ {H2}, Ex H1 H2 → Ev (tOp (rIxL K) (tFld K (tVar 0) "events") (tUn (rU fun i => .int (-i)) (tC (.int 1)))) [some (.ref t), some (.ref r)] H2 (.ref q.1) := fun {H2} e2 =>
      ev_op (hev e2) (ev_neg ev_c rfl) (rv_ixL (sq_of (e2 _ _ h2)) (by rw [List.map_append]; exact atI_last _ _))
    have hne : EvT (tTest (tOp (rNeE K) (tFld K (tVar 0) "events") (tLst tNil))) [some (.ref t), some (.ref r)] H1 true := et_test (ev_neE (hev (Ex.refl _)) (sq_of h2) (by simp))
    by_cases hk : f.kind = 0
    · refine s_if (b := true) (et_andT hne (et_test (ev_eqI (ev_ixT (i := 0) (hix (Ex.refl _)) ev_c (st_of hq.1) rfl rfl) ev_c (decide_eq_true (by rw [hk]; rfl))))) (fun _ H2 e2 => ?_) (fun z => Bool.noConfusion z)
      refine (ev_ixT (i := 2) (hix e2) ev_c (st_of (e2 _ _ hq.1)) rfl rfl) H2 (Ex.refl H2) _ fun H3 e3 => ⟨.inl ⟨rfl, _, sq_of (e3 _ _ (e2 _ _ hq.2))⟩, _, rfl, q.2, r, _, _, rfl, rfl, e3 _ _ (e2 _ _ hq.2), e3 _ _ (e2 _ _ (e1 _ _ hR)), ?_, ?_⟩
      · have h7 := MA.wt_mem (l := es0 ++ [f]) (e := f) (by simp)
        rw [bs_len, bs_len]
        have : (1000001 : Nat) ≤ sizeLine := by decide
        simp
        omega
      · have e23 := e2.trans e3
        have hrq : r ≠ q.2 := fun z => hrF ((h6 r).mpr (.inr (.inr ⟨q, by simp, .inr z⟩)))
        have hnd := h4
        rw [List.map_append, List.nodup_append] at hnd
        have hlq : l ≠ q.2 := fun z => h5 (by rw [z]; exact List.mem_map_of_mem (by simp))
        have hq1 : q.1 ≠ q.2 := ne_of hq.1 hq.2 (by intro z; cases z)
        refine k F _ ⟨dx, l, ps0 ++ [q], ?_, ?_, ?_, h4, h5, h6⟩ ?_
        · rw [upd_ne (ne_of h1 hq.2 (by intro z; cases z))]
          exact e23 _ _ h1
        · rw [upd_ne hlq]
          exact e23 _ _ h2
        · rw [MA.push_text hk rfl]
          refine Each.snoc ⟨hlen, fun i p v a b => ?_⟩ ⟨?_, ?_⟩
          · have hv : EvAt H1 p v := h3.2 i p v (by rw [List.getElem?_append_left (List.getElem?_eq_some_iff.mp a).1]; exact a) (by rw [List.getElem?_append_left (List.getElem?_eq_some_iff.mp b).1]; exact b)
            refine (hv.ex e23).upd (ne_of hv.1 hq.2 (by intro z; cases z)) fun z => ?_
            exact hnd.2.2 p.2 (List.mem_map_of_mem (List.mem_of_getElem? a)) q.2 (by simp) z
          · rw [upd_ne hq1]
            exact e23 _ _ hq.1
          · rw [← bs_app]
            exact upd_same
        · intro b o hb
          obtain ⟨b1, b2⟩ := out_of hb
          rw [out_at b1, upd_ne fun z => b1 ((h6 b).mpr (.inr (.inr ⟨q, by simp, .inr z⟩)))]
          exact e23 _ _ (e1 _ _ b2)
    · refine s_if (b := false) (et_andT hne (et_test (ev_eqI (ev_ixT (i := 0) (hix (Ex.refl _)) ev_c (st_of hq.1) rfl rfl) ev_c (decide_eq_false (by omega))))) (fun z => Bool.noConfusion z) (fun _ H2 e2 => fresh (MA.push_new fun g hg => ?_) _ H2 rfl e2)
      rw [List.getLast?_concat] at hg
      cases hg
      exact hk
end
end Mk
set_option Elab.async false
set_option linter.all false
set_option maxRecDepth 100000
set_option maxHeartbeats 4000000
namespace Mk
open PySem PySem.Spec PyProof.Rows L2 C8 Evl
def EvB (K : PySem.W.Frag) (te : TE) (σ : L2.St) (H : Hp) (l : Ml.Bytes) : Prop := ∀ H1, Ex H H1 → ∀ Q : VK, (∀ p H2, Ex H1 H2 → SqL K H2 p (bs l) → Q (.ref p) H2) → te σ H1 Q
section
variable {K : PySem.W.Frag} {σ : L2.St} {H : Hp} {te tk tn tr ta tb : TE} {tz : TS} {D : Ends}
theorem EvB.of {p : Addr} {l : Ml.Bytes} (h : Ev te σ H (.ref p)) (hS : SqL K H p (bs l)) : EvB K te σ H l := fun H1 e Q q => h H1 e Q fun H2 e2 => q p H2 e2 (ex_l (e.trans e2) hS)
theorem EvB.ofL {l : Ml.Bytes} (h : EvL te σ H (bs l)) : EvB K te σ H l := fun H1 e Q q => h H1 e Q fun p H2 _ e2 hx => q p H2 e2 (sq_of hx)
theorem EvB.nil : EvB K (tLst tNil) σ H [] := EvB.ofL (el_lst ea_nil (by decide))
theorem s_tell {F : Addr → Prop} {t : Addr} {es : List Ml.Event} {d : Int} {j k n : Nat} {l : Ml.Bytes} {E : XK} (hj : σ[j]? = some (some (.ref t))) (hT : TellAt K F H t es d) (hk : Ev tk σ H (.int (k : Int))) (hn : Ev tn σ H (.int (n : Int))) (hr : EvB K tr σ H l)
    (hl : MA.wt es < 1000000) (hk0 : k ≠ 0) (q : ∀ F' H', TellAt K F' H' t (MA.pushAll es [⟨k, n, l⟩]) d → Ex (out F H) (out F' H') → D.nx σ H') :
    tDrop (tMeth (cTeller K) "tell" (spTell K) [] E (tVar j) (tCons tk (tCons tn (tCons tr tNil)))) D σ H := by
  have hT' := hT
  obtain ⟨dx, lv, ps, h1, _⟩ := hT'
  have hlen := MA.wt_len es
  refine ⟨_, hj, t, dx, _, rfl, h1, tlF_tell, hk H (Ex.refl H) _ fun H1 e1 => hn H1 e1 _ fun H2 e2 => hr H2 (e1.trans e2) _ fun p H3 e3 hp => ?_⟩
  have e := (e1.trans e2).trans e3
  refine ⟨F, t, es, d, k, n, p, l, rfl, hT.ex e, hp, by omega, fun F' H' g1 g2 => q F' H' ?_ ((out_mono e).trans g2)⟩
  rw [MA.pushAll_ev hk0]
  exact g1
theorem q_tell {F : Addr → Prop} {t : Addr} {es : List Ml.Event} {d : Int} {j k n : Nat} {l : Ml.Bytes} {E : XK} (hj : σ[j]? = some (some (.ref t))) (hT : TellAt K F H t es d) (hk : Ev tk σ H (.int (k : Int))) (hn : Ev tn σ H (.int (n : Int))) (hr : EvB K tr σ H l)
    (hl : MA.wt es < 1000000) (hk0 : k ≠ 0) (q : ∀ F' H', TellAt K F' H' t (MA.pushAll es [⟨k, n, l⟩]) d → Ex (out F H) (out F' H') → tz D σ H') :
    tSeq (tDrop (tMeth (cTeller K) "tell" (spTell K) [] E (tVar j) (tCons tk (tCons tn (tCons tr tNil))))) tz D σ H := s_tell (D := { D with nx := tz D }) hj hT hk hn hr hl hk0 q
theorem q_parL {i j : Nat} {v : V} {xs : List V} (ha : EvL ta σ H xs) (h : Ev tb σ H v) (k : ∀ p H1, H p = none → Ex H H1 → H1 p = some (.lst xs) → tz D ((σ.set i (some (.ref p))).set j (some v)) H1) : tSeq (tPar i j (tCons ta (tCons tb tNil))) tz D σ H := by
  show ta σ H fun x H1 => tb σ H1 fun y H2 => ∃ u w, [x, y] = [u, w] ∧ tz D ((σ.set i (some u)).set j (some w)) H2
  exact ha H (Ex.refl H) _ fun p H1 hp e1 h1 => h H1 e1 _ fun H2 e2 => ⟨.ref p, v, rfl, k p H2 hp (e1.trans e2) (e2 p _ h1)⟩
end
theorem cut_split {α : Type} {l : List α} {b n e : Nat} (h1 : b ≤ n) (h2 : n ≤ e) (h3 : e ≤ l.length) : MA.cut l b e = MA.cut l b n ++ MA.cut l n e := by
  have g := MA.split_at (t := []) (b := 0) (i := 0) (Nat.le_refl _) (Nat.le_refl _)
  unfold MA.cut
  have e1 : l.take e = l.take n ++ (l.take e).drop n := by
    have : l.take n = (l.take e).take n := by rw [List.take_take, Nat.min_eq_left h2]
    rw [this, List.take_append_drop]
  conv => lhs; rw [e1]
  rw [List.drop_append]
  have e0 : b - (l.take n).length = 0 := by rw [List.length_take]; omega
  rw [e0]
  rfl
theorem cut_one {α : Type} {l : List α} {n : Nat} {x : α} (h : l[n]? = some x) : MA.cut l n (n + 1) = [x] := by
  rw [MA.cut_snoc (Nat.le_refl _) h, MA.cut_nil]
  rfl
def pEv (ps : List Ml.Piece) (b e : Nat) : List Ml.Event := (MA.cut ps b e).flatMap Ml.Piece.events
def spPlain (K : PySem.W.Frag) (lv : Bool) : Sp := fun vs H Q _ => ∃ F t es d a ps b e, vs = [.ref t, .ref a, .int ((b : Nat) : Int), .int ((e : Nat) : Int)] ∧ TellAt K F H t es d ∧ PcsAt K (out F H) a ps ∧ (lv = false → ∀ p ∈ ps, ∃ tk, p = .tok tk) ∧ (∀ l u, Ml.Piece.link l u ∈ ps → l.length ≤ 30000) ∧ b ≤ e ∧ e ≤ ps.length ∧ ps.length ≤ 30000 ∧
  MA.wt es + MA.wt (pEv ps b e) ≤ 900000 ∧ ∀ F' H', TellAt K F' H' t (MA.pushAll es (pEv ps b e)) d → Ex (out F H) (out F' H') → Q .non H'
def spThings (K : PySem.W.Frag) (lv : Bool) : Sp := fun vs H Q _ => ∃ F t es d a ps, vs = [.ref t, .ref a] ∧ TellAt K F H t es d ∧ PcsAt K (out F H) a ps ∧ (lv = false → ∀ p ∈ ps, ∃ tk, p = .tok tk) ∧ (∀ l u, Ml.Piece.link l u ∈ ps → l.length ≤ 30000) ∧ ps.length ≤ 30000 ∧
  MA.wt es + MA.wt (MA.tellF ps) ≤ 900000 ∧ ∀ F' H', TellAt K F' H' t (MA.pushAll es (MA.tellF ps)) d → Ex (out F H) (out F' H') → Q .non H'
section
variable {P : Program} {w : World} {K : PySem.W.Frag} {mg : Str → Option Value} {base : Heap}
theorem tok_ev {t : Ml.Tok} (h : ∀ b, t ≠ .code b) : t.events = [⟨0, 0, [MA.byteT t]⟩] := by
  cases t with
  | code b => exact absurd rfl (h b)
  | _ => rfl
theorem plain_reading (T : Txt K mg) (lv : Bool) (tc : TS) (hc : lv = true → tc = tDrop (tCall (spThings K false) [] C8.E0 (tCons (tVar 0) (tCons (tFld K (tVar 5) "inner") tNil)))) (vs : List V) (H : Hp) (Q : VK) (E : XK) (h : spPlain K lv vs H Q E) :
    tFor (iRng2 (tCons (tVar 2) (tCons (tVar 3) tNil))) (gName 4) (tSeq (tAsg (tOp (rIxL K) (tVar 1) (tVar 4)) (gName 5)) (tIfS (tTest (tOp rEq (tFld K (tVar 5) "form") (tC (.int 2))))
      (tDrop (tMeth (cTeller K) "tell" (spTell K) [] C8.E0 (tVar 0) (tCons (tC (.int 1)) (tCons (tC (.int 0)) (tCons (tFld K (tVar 5) "inner") tNil)))))
      (tIfS (tTest (tOp rEq (tFld K (tVar 5) "form") (tC (.int 4))))
        (tSeq (tDrop (tMeth (cTeller K) "tell" (spTell K) [] C8.E0 (tVar 0) (tCons (tC (.int 15)) (tCons (tC (.int 0)) (tCons (tFld K (tVar 5) "address") tNil)))))
          (tSeq tc (tDrop (tMeth (cTeller K) "tell" (spTell K) [] C8.E0 (tVar 0) (tCons (tC (.int 16)) (tCons (tC (.int 0)) (tCons (tLst tNil) tNil)))))))
        (tDrop (tMeth (cTeller K) "tell_bytes" (spTellB K) [] C8.E0 (tVar 0) (tCons (tLst (tCons (tFld K (tVar 5) "byte") tNil)) tNil))))))
      { nx := fun _ H' => Q .non H', rt := Q } (start ["teller", "things", "begin", "end", "at", "thing"] vs) H := by
  obtain ⟨F, t, es, d, a, ps, b, e, rfl, hT, hP, hlv, hll, hbe, hel, hpl, hw, k⟩ := h
  refine s_forR2 (lo := (b : Int)) (n := (e : Int)) (ea_cons (ev_var rfl) (ea_cons (ev_var rfl) ea_nil)) (by omega)
    (fun i σ' H' => ∃ (F' : Addr → Prop) (v w : Option V), σ' = [some (.ref t), some (.ref a), some (.int (b : Int)), some (.int (e : Int)), v, w] ∧ TellAt K F' H' t (MA.pushAll es (pEv ps b (b + i))) d ∧ Ex (out F H) (out F' H'))
    (fun H1 e1 => ⟨F, none, none, rfl, ?_, out_mono e1⟩) ?_ ?_
  · have e0 : pEv ps b (b + 0) = [] := by
      unfold pEv
      rw [Nat.add_zero, MA.cut_nil]
      rfl
    rw [e0]
    exact hT.ex e1
  · rintro i σ' H1 hi ⟨F1, v, v2, rfl, hT1, x1⟩
    have hn : b + i < ps.length := by omega
    have hpi : ps[b + i]? = some ps[b + i] := List.getElem?_eq_getElem hn
    have hmem : ps[b + i] ∈ ps := List.getElem_mem hn
    generalize ps[b + i] = p at hpi hmem
    have hsp : pEv ps b (b + (i + 1)) = pEv ps b (b + i) ++ p.events := by
      unfold pEv
      rw [show b + (i + 1) = (b + i) + 1 by omega, MA.cut_snoc (Nat.le_add_right _ _) hpi, List.flatMap_append]
      simp
    have hrest : MA.wt (pEv ps b e) = MA.wt (pEv ps b (b + (i + 1))) + MA.wt (pEv ps (b + (i + 1)) e) := by
      unfold pEv
      rw [cut_split (n := b + (i + 1)) (by omega) (by omega) hel, List.flatMap_append, MA.wt_app]
    have hw1 : MA.wt (MA.pushAll es (pEv ps b (b + i))) + MA.wt p.events ≤ 900000 := by
      have g1 := MA.wt_pushAll (pEv ps b (b + i)) es
      rw [hsp, MA.wt_app] at hrest
      omega
    rw [show b + (i + 1) = b + i + 1 by omega] at hsp
    generalize hes : MA.pushAll es (pEv ps b (b + i)) = es1 at hT1 hw1
    have fin : ∀ (F2 : Addr → Prop) H2 (u w : Option V), TellAt K F2 H2 t (MA.pushAll es1 p.events) d → Ex (out F1 H1) (out F2 H2) →
        ∃ (F' : Addr → Prop) (v' w' : Option V), [some (.ref t), some (.ref a), some (.int (b : Int)), some (.int (e : Int)), u, w] = [some (.ref t), some (.ref a), some (.int (b : Int)), some (.int (e : Int)), v', w'] ∧ TellAt K F' H2 t (MA.pushAll es (pEv ps b (b + (i + 1)))) d ∧ Ex (out F H) (out F' H2) := fun F2 H2 u w g1 g2 => by
      refine ⟨F2, u, w, rfl, ?_, x1.trans g2⟩
      rw [show b + (i + 1) = b + i + 1 by omega, hsp, MA.pushAll_app, hes]
      exact g1
    obtain ⟨xs, hx0, hlen, hat⟩ := (hP.ex x1).sq
    obtain ⟨x, hxi, hxp⟩ := hat _ _ hpi
    have hS := (out_of hx0).2
    refine q_asg (ev_ixL (i := b + i) (ev_var rfl) (ev_var rfl) (sq_of hS) (by omega) hxi) fun H2 e2 => ?_
    have hT2 := hT1.ex e2
    have hx2 := PieceAt.mono K _ _ _ _ (out_mono (F := F1) e2) hxp
    cases p with
    | tok tk =>
      obtain ⟨s, dx, i2, a2, hs, hI, hcode⟩ := hx2
      have hI2 := (out_of hI).2
      by_cases htk : ∃ bts, tk = .code bts
      · obtain ⟨bts, rfl⟩ := htk
        have hs2 : s = 2 := by
          rcases hs with hs | ⟨hs, _⟩
          · exact hs
          · cases hs
        subst hs2
        refine s_if (b := true) (et_test (ev_eqI (ev_fld (ev_var rfl) hI2 T.cl_Thing T.n_Thing_form thF_form) ev_c rfl)) (fun _ H3 e3 => ?_) (fun z => Bool.noConfusion z)
        refine s_tell (k := 1) (n := 0) rfl (hT2.ex e3) ev_c ev_c (EvB.of (ev_fld (ev_var rfl) (e3 _ _ hI2) T.cl_Thing T.n_Thing_inner thF_inner) (sq_of (e3 _ _ (out_of (hcode bts rfl)).2))) (by omega) (by decide) fun F3 H4 g1 g2 => ?_
        exact fin F3 H4 _ _ g1 ((out_mono (e2.trans e3)).trans g2)
      · have hnc : ∀ bts, tk ≠ .code bts := fun bts z => htk ⟨bts, z⟩
        have hs2 : s ≠ 2 ∧ s ≠ 4 := by
          rcases hs with rfl | ⟨_, rfl⟩
          · cases tk with
            | code bts => exact absurd rfl (hnc bts)
            | _ => exact ⟨by simp [frmT], by simp [frmT]⟩
          · exact ⟨by decide, by decide⟩
        refine s_if (b := false) (et_test (ev_eqI (ev_fld (ev_var rfl) hI2 T.cl_Thing T.n_Thing_form thF_form) ev_c (decide_eq_false hs2.1))) (fun z => Bool.noConfusion z) (fun _ H3 e3 => ?_)
        refine s_if (b := false) (et_test (ev_eqI (ev_fld (ev_var rfl) (e3 _ _ hI2) T.cl_Thing T.n_Thing_form thF_form) ev_c (decide_eq_false hs2.2))) (fun z => Bool.noConfusion z) (fun _ H4 e4 => ?_)
        have hT4 := (hT2.ex e3).ex e4
        have hT4' := hT4
        obtain ⟨dx2, l2, ps2, h1, _⟩ := hT4'
        refine ⟨_, rfl, t, dx2, _, rfl, h1, tlF_tellb, (ev_fld (ev_var rfl) (e4 _ _ (e3 _ _ hI2)) T.cl_Thing T.n_Thing_byte thF_byte) H4 (Ex.refl H4) _ fun H5 e5 => ⟨(by show 1 ≤ sizeLine; decide), fun r hr => ?_⟩⟩
        have e6 := Evl.Ex.new hr (o := .lst [bV (MA.byteT tk)])
        refine ⟨F1, t, es1, d, r, MA.byteT tk, rfl, (hT4.ex e5).ex e6, ((hT4.ex e5).win).new hr upd_same, by omega, fun F3 H6 g1 g2 => ?_⟩
        refine fin F3 H6 _ _ ?_ ((out_mono ((((e2.trans e3).trans e4).trans e5).trans e6)).trans g2)
        show TellAt K F3 H6 t (MA.pushAll es1 tk.events) d
        rw [tok_ev hnc, MA.pushAll_one]
        exact g1
    | link l u =>
      have hlt : lv = true := by
        cases lv with
        | true => rfl
        | false =>
          obtain ⟨tk, z⟩ := hlv rfl _ hmem
          cases z
      rw [hc hlt]
      obtain ⟨dx, i2, a2, hI, hin, had⟩ := hx2
      have hI2 := (out_of hI).2
      refine s_if (b := false) (et_test (ev_eqI (ev_fld (ev_var rfl) hI2 T.cl_Thing T.n_Thing_form thF_form) ev_c rfl)) (fun z => Bool.noConfusion z) (fun _ H3 e3 => ?_)
      refine s_if (b := true) (et_test (ev_eqI (ev_fld (ev_var rfl) (e3 _ _ hI2) T.cl_Thing T.n_Thing_form thF_form) ev_c rfl)) (fun _ H4 e4 => ?_) (fun z => Bool.noConfusion z)
      have e24 := (e2.trans e3).trans e4
      have e34 := e3.trans e4
      have hle := MA.link_events l u
      have hwl : MA.wt (Ml.Piece.link l u).events = MA.wt [(⟨15, 0, u⟩ : Ml.Event)] + MA.wt (MA.tellF (l.map .tok)) + MA.wt [Ml.ev 16] := by rw [hle, MA.wt_app, MA.wt_app]
      have hl16 : MA.wt [Ml.ev 16] = 1 := rfl
      refine q_tell (k := 15) (n := 0) rfl ((hT2.ex e3).ex e4) ev_c ev_c (EvB.of (ev_fld (ev_var rfl) (e34 _ _ hI2) T.cl_Thing T.n_Thing_address thF_address) (sq_of (e34 _ _ (out_of had).2))) (by omega) (by decide) fun F3 H5 g1 g2 => ?_
      have x3 : Ex (out F1 H1) (out F3 H5) := (out_mono e24).trans g2
      have x23 : Ex (out F1 H2) (out F3 H5) := (out_mono e34).trans g2
      have hI5 := (out_of (x23 _ _ hI)).2
      have w1 := MA.wt_pushAll [(⟨15, 0, u⟩ : Ml.Event)] es1
      have hln : l.length ≤ 30000 := hll l u hmem
      refine ⟨_, rfl, _, rfl, x, cThing K, dx, _, _, rfl, hI5, T.cl_Thing, T.n_Thing_inner, thF_inner, F3, t, _, d, i2, l.map .tok, rfl, g1, PcsAt.toks (hin.ex x23), (fun _ p hp => ?_), (fun l2 u2 hm => ?_), by rw [List.length_map]; exact hln, by omega, fun F4 H8 g3 x48 => ?_⟩
      · obtain ⟨tk, _, rfl⟩ := List.mem_map.mp hp
        exact ⟨tk, rfl⟩
      · obtain ⟨tk, _, z⟩ := List.mem_map.mp hm
        cases z
      have w2 := MA.wt_pushAll (MA.tellF (l.map .tok)) (MA.pushAll es1 [(⟨15, 0, u⟩ : Ml.Event)])
      refine s_tell (k := 16) (n := 0) rfl g3 ev_c ev_c EvB.nil (by omega) (by decide) fun F5 H9 g5 g6 => ?_
      refine fin F5 H9 _ _ ?_ ((x3.trans x48).trans g6)
      rw [hle, MA.pushAll_app, MA.pushAll_app]
      exact g5
  · rintro σ' H1 ⟨F1, v, v2, rfl, hT1, x1⟩
    have e0 : b + ((e : Int) - (b : Int)).toNat = e := by omega
    rw [e0] at hT1
    exact k F1 H1 hT1 x1
theorem len_plain {lv : Bool} : ∀ vs H Q E, spPlain K lv vs H Q E → vs.length = (["teller", "things", "begin", "end"] : List Str).length := fun vs H Q E h => by
  obtain ⟨F, t, es, d, a, ps, b, e, rfl, _⟩ := h
  rfl
theorem ok_tell_plain0 (T : Txt K mg) (m_tell : Met P w K mg base 1 (cTeller K) "tell" (spTell K) []) (m_tell_bytes : Met P w K mg base 2 (cTeller K) "tell_bytes" (spTellB K) []) : Cal P w K mg base 3 "tell_plain" (spPlain K false) [] := by
  refine cal_d T.d_tell_plain sc_tell_plain bi_tell_plain len_plain fun f cdv A outer s H vs Q E hr h => ?_
  refine ⟨_, (pss_one (ps_for PassesOwn.never rfl (pi_range2 rfl T.b_range (pa_cons (pv 2) (pa_cons (pv 3) pa_nil))) (pg_name (i := 4) sc_tell_plain.nd rfl (Or.inl rfl))
  (pss_cons (ps_set (i := 5) sc_tell_plain.nd rfl (Or.inl rfl) (pe_ix ix_list (pv 1) (pv 4) (fun _ _ => rfl)))
  (pss_one (ps_if (pt_cmpR op_eq (pe_fld (pv 5) rfl) (pe_gc rfl T.k_CODE) (nomark _))
  (pss_one (ps_expr (pe_mt m_tell hr (by decide) (pv 0) (pa_cons (pe_gc rfl T.k_SPAN) (pa_cons pe_int (pa_cons (pe_fld (pv 5) rfl) pa_nil))))))
  (pss_one (ps_if (pt_cmpR op_eq (pe_fld (pv 5) rfl) (pe_gc rfl T.k_LINK) (nomark _))
  (pss_cons (ps_expr (pe_mt m_tell hr (by decide) (pv 0) (pa_cons (pe_gc rfl T.k_ANCHOR) (pa_cons pe_int (pa_cons (pe_fld (pv 5) rfl) pa_nil)))))
  (pss_cons ps_never
  (pss_one (ps_expr (pe_mt m_tell hr (by decide) (pv 0) (pa_cons (pe_gc rfl T.k_ANCHOR_END) (pa_cons pe_int (pa_cons (pe_lst pa_nil) pa_nil))))))))
  (pss_one (ps_expr (pe_mt m_tell_bytes hr (by decide) (pv 0) (pa_cons (pe_lst (pa_cons (pe_fld (pv 5) rfl) pa_nil)) pa_nil))))))))))), ?_⟩
  exact plain_reading T false tNever (fun z => Bool.noConfusion z) vs H Q E h
theorem ok_tell_plain1 (T : Txt K mg) (m_tell : Met P w K mg base 1 (cTeller K) "tell" (spTell K) []) (m_tell_bytes : Met P w K mg base 2 (cTeller K) "tell_bytes" (spTellB K) []) (c_tell_things : Cal P w K mg base 5 "tell_things" (spThings K false) []) : Cal P w K mg base 6 "tell_plain" (spPlain K true) [] := by
  refine cal_d T.d_tell_plain sc_tell_plain bi_tell_plain len_plain fun f cdv A outer s H vs Q E hr h => ?_
  refine ⟨_, (pss_one (ps_for PassesOwn.never rfl (pi_range2 rfl T.b_range (pa_cons (pv 2) (pa_cons (pv 3) pa_nil))) (pg_name (i := 4) sc_tell_plain.nd rfl (Or.inl rfl))
  (pss_cons (ps_set (i := 5) sc_tell_plain.nd rfl (Or.inl rfl) (pe_ix ix_list (pv 1) (pv 4) (fun _ _ => rfl)))
  (pss_one (ps_if (pt_cmpR op_eq (pe_fld (pv 5) rfl) (pe_gc rfl T.k_CODE) (nomark _))
  (pss_one (ps_expr (pe_mt m_tell hr (by decide) (pv 0) (pa_cons (pe_gc rfl T.k_SPAN) (pa_cons pe_int (pa_cons (pe_fld (pv 5) rfl) pa_nil))))))
  (pss_one (ps_if (pt_cmpR op_eq (pe_fld (pv 5) rfl) (pe_gc rfl T.k_LINK) (nomark _))
  (pss_cons (ps_expr (pe_mt m_tell hr (by decide) (pv 0) (pa_cons (pe_gc rfl T.k_ANCHOR) (pa_cons pe_int (pa_cons (pe_fld (pv 5) rfl) pa_nil)))))
  (pss_cons (ps_expr (pe_c c_tell_things hr (by decide) rfl (pa_cons (pv 0) (pa_cons (pe_fld (pv 5) rfl) pa_nil))))
  (pss_one (ps_expr (pe_mt m_tell hr (by decide) (pv 0) (pa_cons (pe_gc rfl T.k_ANCHOR_END) (pa_cons pe_int (pa_cons (pe_lst pa_nil) pa_nil))))))))
  (pss_one (ps_expr (pe_mt m_tell_bytes hr (by decide) (pv 0) (pa_cons (pe_lst (pa_cons (pe_fld (pv 5) rfl) pa_nil)) pa_nil))))))))))), ?_⟩
  exact plain_reading T true _ (fun _ => rfl) vs H Q E h
end
end Mk
set_option Elab.async false
set_option linter.all false
set_option maxRecDepth 100000
set_option maxHeartbeats 4000000
namespace Mk
open PySem PySem.Spec PyProof.Rows L2 C8 Evl
section
variable {P : Program} {w : World} {K : PySem.W.Frag} {mg : Str → Option Value} {base : Heap}
theorem q_plain {σ : L2.St} {H : Hp} {t1 t2 : TE} {tz : TS} {D : Ends} {lv : Bool} {F : Addr → Prop} {t a : Addr} {es : List Ml.Event} {d : Int} {ps : List Ml.Piece} {b e : Nat} {E : XK} (h0 : σ[0]? = some (some (.ref t))) (h1 : σ[1]? = some (some (.ref a))) (hb : Ev t1 σ H (.int (b : Int))) (he : Ev t2 σ H (.int (e : Int)))
    (hT : TellAt K F H t es d) (hP : PcsAt K (out F H) a ps) (hlv : lv = false → ∀ p ∈ ps, ∃ tk, p = .tok tk) (hll : ∀ l u, Ml.Piece.link l u ∈ ps → l.length ≤ 30000) (hbe : b ≤ e) (hel : e ≤ ps.length) (hpl : ps.length ≤ 30000) (hw : MA.wt es + MA.wt (pEv ps b e) ≤ 900000)
    (k : ∀ F' H', TellAt K F' H' t (MA.pushAll es (pEv ps b e)) d → Ex (out F H) (out F' H') → tz D σ H') :
    tSeq (tDrop (tCall (spPlain K lv) [] E (tCons (tVar 0) (tCons (tVar 1) (tCons t1 (tCons t2 tNil)))))) tz D σ H := by
  refine ⟨_, h0, _, h1, hb H (Ex.refl H) _ fun H1 e1 => he H1 e1 _ fun H2 e2 => ?_⟩
  have x := e1.trans e2
  exact ⟨F, t, es, d, a, ps, b, e, rfl, hT.ex x, hP.ex (out_mono x), hlv, hll, hbe, hel, hpl, hw, fun F' H' g1 g2 => k F' H' g1 ((out_mono x).trans g2)⟩
theorem things_reading (T : Txt K mg) (lv : Bool) (vs : List V) (H : Hp) (Q : VK) (E : XK) (h : spThings K lv vs H Q E) :
    tSeq (tPar 2 3 (tCons (tCall (spEnds K) [] C8.E0 (tCons (tVar 1) tNil)) (tCons (tC (.int 0)) tNil)))
      (tWhile (tTest (tOp (rI0 fun i j => .bl (decide (i < j))) (tVar 3) (tCB (rLenS K) (tCons (tVar 1) tNil))))
        (tSeq (tAsg (tCall (spEmph K) [] C8.E0 (tCons (tVar 1) (tCons (tVar 2) (tCons (tVar 3) tNil)))) (gName 4))
        (tIfS (tTest (tOp (rI0 fun i j => .bl (decide (i < j))) (tVar 4) (tC (.int 0))))
          (tSeq (tDrop (tCall (spPlain K lv) [] C8.E0 (tCons (tVar 0) (tCons (tVar 1) (tCons (tVar 3) (tCons (tOp (rI0 fun i j => .int (i + j)) (tVar 3) (tC (.int 1))) tNil))))))
            (tAsg (tOp (rI0 fun i j => .int (i + j)) (tVar 3) (tC (.int 1))) (gName 3)))
          (tSeq (tDrop (tMeth (cTeller K) "tell" (spTell K) [] C8.E0 (tVar 0) (tCons (tC (.int 13)) (tCons (tC (.int 0)) (tCons (tLst tNil) tNil)))))
          (tSeq (tDrop (tCall (spPlain K lv) [] C8.E0 (tCons (tVar 0) (tCons (tVar 1) (tCons (tOp (rI0 fun i j => .int (i + j)) (tVar 3) (tC (.int 1))) (tCons (tVar 4) tNil))))))
          (tSeq (tDrop (tMeth (cTeller K) "tell" (spTell K) [] C8.E0 (tVar 0) (tCons (tC (.int 14)) (tCons (tC (.int 0)) (tCons (tLst tNil) tNil)))))
            (tAsg (tOp (rI0 fun i j => .int (i + j)) (tVar 4) (tC (.int 1))) (gName 3))))))))
      { nx := fun _ H' => Q .non H', rt := Q } (start ["teller", "things", "ends", "at", "end"] vs) H := by
  obtain ⟨F, t, es, d, a, ps, rfl, hT, hP, hlv, hll, hpl, hw, k⟩ := h
  refine q_parL (el_call (ea_cons (ev_var rfl) ea_nil) (v_ends (hP.ex (out_ex F H)) hpl)) ev_c fun b H1 hb e1 h1 => ?_
  refine s_while (fun m σ' H' => ∃ (F' : Addr → Prop) (es1 : List Ml.Event) (i : Nat) (v : Option V), m = ps.length - i ∧ i ≤ ps.length ∧ σ' = [some (.ref t), some (.ref a), some (.ref b), some (.int (i : Int)), v] ∧ TellAt K F' H' t es1 d ∧ Ex (out F H) (out F' H') ∧ out F' H' b = some (.lst (endL ps)) ∧
    MA.pushAll es (MA.tellF ps) = MA.pushAll es1 (MA.tellF (ps.drop i)) ∧ MA.wt es1 + MA.wt (MA.tellF (ps.drop i)) ≤ 900000) ps.length ⟨F, es, 0, none, rfl, Nat.zero_le _, rfl, hT.ex e1, out_mono e1, hT.win.new hb h1, rfl, hw⟩ ?_
  rintro m σ' H2 ⟨F2, es1, i, v, rfl, hi, rfl, hT2, x2, hb2, heq, hw2⟩
  have hP2 := hP.ex x2
  obtain ⟨xs, hx0, hlen, hat⟩ := hP2.sq
  have hS := (out_of hx0).2
  have hml : (xs.map V.ref).length = ps.length := by rw [List.length_map, hlen]
  refine ⟨_, et_test (ev_lt (b := decide (i < ps.length)) (ev_var rfl) (ev_len (ev_var rfl) (sq_of hS)) (decide_eq_decide.mpr (by rw [hml]; omega))), fun hb => ?_, fun hb H3 e3 => ?_⟩
  · have hlt := of_decide_eq_true hb
    intro H3 e3
    have hpi : ps[i]? = some ps[i] := List.getElem?_eq_getElem hlt
    refine ⟨fun σ2 H' => ∃ (F' : Addr → Prop) (es1 : List Ml.Event) (i2 : Nat) (v : Option V), i < i2 ∧ i2 ≤ ps.length ∧ σ2 = [some (.ref t), some (.ref a), some (.ref b), some (.int (i2 : Int)), v] ∧ TellAt K F' H' t es1 d ∧ Ex (out F H) (out F' H') ∧ out F' H' b = some (.lst (endL ps)) ∧
      MA.pushAll es (MA.tellF ps) = MA.pushAll es1 (MA.tellF (ps.drop i2)) ∧ MA.wt es1 + MA.wt (MA.tellF (ps.drop i2)) ≤ 900000, fun σ2 H' ⟨F', es2, i2, v, h1, h2, h3, h4, h5, h6, h7, h8⟩ => ⟨ps.length - i2, by omega, F', es2, i2, v, rfl, h2, h3, h4, h5, h6, h7, h8⟩, ?_⟩
    refine q_asg (ev_call (ea_cons (ev_var rfl) (ea_cons (ev_var rfl) (ea_cons (ev_var rfl) ea_nil))) (v_emph (hP2.ex ((out_mono e3).trans (out_ex F2 H3))) (sq_of (e3 _ _ (out_of hb2).2)) hlt hpl)) fun H4 e4 => ?_
    have e24 := e3.trans e4
    have hT4 := hT2.ex e24
    cases hem : MA.emA pStar pBlank ps i with
    | none =>
      have hv : emV ps i = -1 := by
        unfold emV
        rw [hem]
      have hst := MA.emph_at_none pStar pBlank Ml.Piece.events hpi hem
      have hone : pEv ps i (i + 1) = ps[i].events := by
        unfold pEv
        rw [cut_one hpi]
        simp
      have htf : MA.tellF (ps.drop i) = pEv ps i (i + 1) ++ MA.tellF (ps.drop (i + 1)) := by
        rw [hone]
        exact hst
      rw [hv]
      rw [htf, MA.wt_app] at hw2
      refine s_if (b := true) (et_test (ev_lt (ev_var rfl) ev_c rfl)) (fun _ H5 e5 => ?_) (fun z => Bool.noConfusion z)
      have e25 := e24.trans e5
      refine q_plain (b := i) (e := i + 1) rfl rfl (ev_var rfl) (ev_add (ev_var rfl) ev_c (by omega)) (hT4.ex e5) (hP2.ex (out_mono e25)) hlv hll (by omega) (by omega) hpl (by omega) fun F6 H6 g1 g2 => ?_
      have x26 : Ex (out F2 H2) (out F6 H6) := (out_mono e25).trans g2
      refine s_asg (ev_add (k := ((i + 1 : Nat) : Int)) (ev_var rfl) ev_c (by omega)) fun H7 e7 => ⟨F6, _, i + 1, _, by omega, by omega, rfl, g1.ex e7, (x2.trans x26).trans (out_mono e7), out_mono e7 _ _ (x26 _ _ hb2), ?_, ?_⟩
      · rw [heq, htf, MA.pushAll_app]
      · have := MA.wt_pushAll (pEv ps i (i + 1)) es1
        omega
    | some e =>
      have hv : emV ps i = (e : Int) := by
        unfold emV
        rw [hem]
      obtain ⟨hst, hie, hel⟩ := MA.emph_at_some pStar pBlank Ml.Piece.events hem
      have htf : MA.tellF (ps.drop i) = [Ml.ev 13] ++ pEv ps (i + 1) e ++ [Ml.ev 14] ++ MA.tellF (ps.drop (e + 1)) := hst
      rw [hv]
      rw [htf, MA.wt_app, MA.wt_app, MA.wt_app] at hw2
      have w13 : MA.wt [Ml.ev 13] = 1 := rfl
      have w14 : MA.wt [Ml.ev 14] = 1 := rfl
      refine s_if (b := false) (et_test (ev_lt (ev_var rfl) ev_c (decide_eq_false (by omega)))) (fun z => Bool.noConfusion z) (fun _ H5 e5 => ?_)
      have e25 := e24.trans e5
      refine q_tell (k := 13) (n := 0) rfl (hT4.ex e5) ev_c ev_c EvB.nil (by omega) (by decide) fun F6 H6 g1 g2 => ?_
      have x26 : Ex (out F2 H2) (out F6 H6) := (out_mono e25).trans g2
      have w1 := MA.wt_pushAll [Ml.ev 13] es1
      refine q_plain (b := i + 1) (e := e) rfl rfl (ev_add (ev_var rfl) ev_c (by omega)) (ev_var rfl) g1 (hP2.ex x26) hlv hll (by omega) (by omega) hpl (Nat.le_trans (Nat.add_le_add_right w1 _) (by omega)) fun F7 H7 g3 g4 => ?_
      have x27 := x26.trans g4
      have w2 := MA.wt_pushAll (pEv ps (i + 1) e) (MA.pushAll es1 [Ml.ev 13])
      refine q_tell (k := 14) (n := 0) rfl g3 ev_c ev_c EvB.nil (Nat.lt_of_le_of_lt w2 (by omega)) (by decide) fun F8 H8 g5 g6 => ?_
      have x28 := x27.trans g6
      refine s_asg (ev_add (k := ((e + 1 : Nat) : Int)) (ev_var rfl) ev_c (by omega)) fun H9 e9 => ⟨F8, _, e + 1, _, by omega, by omega, rfl, g5.ex e9, (x2.trans x28).trans (out_mono e9), out_mono e9 _ _ (x28 _ _ hb2), ?_, ?_⟩
      · rw [heq, htf, MA.pushAll_app, MA.pushAll_app, MA.pushAll_app]
        rfl
      · have w3 := MA.wt_pushAll [(⟨14, 0, []⟩ : Ml.Event)] (MA.pushAll (MA.pushAll es1 [(⟨13, 0, []⟩ : Ml.Event)]) (pEv ps (i + 1) e))
        have w14' : MA.wt [(⟨14, 0, []⟩ : Ml.Event)] = 1 := rfl
        have w2' : MA.wt (MA.pushAll (MA.pushAll es1 [(⟨13, 0, []⟩ : Ml.Event)]) (pEv ps (i + 1) e)) ≤ MA.wt (MA.pushAll es1 [Ml.ev 13]) + MA.wt (pEv ps (i + 1) e) := w2
        omega
  · have hge : i = ps.length := by
      have := of_decide_eq_false hb
      omega
    subst hge
    rw [List.drop_length] at heq
    refine k F2 H3 ?_ (x2.trans (out_mono e3))
    rw [heq]
    exact hT2.ex e3
theorem len_things {lv : Bool} : ∀ vs H Q E, spThings K lv vs H Q E → vs.length = (["teller", "things"] : List Str).length := fun vs H Q E h => by
  obtain ⟨F, t, es, d, a, ps, rfl, _⟩ := h
  rfl
theorem ok_tell_things0 (T : Txt K mg) (m_tell : Met P w K mg base 1 (cTeller K) "tell" (spTell K) []) (c_ends_ahead : Cal P w K mg base 4 "ends_ahead" (spEnds K) []) (c_emphasis_at : Cal P w K mg base 4 "emphasis_at" (spEmph K) [])
    (c_tell_plain : Cal P w K mg base 3 "tell_plain" (spPlain K false) []) : Cal P w K mg base 5 "tell_things" (spThings K false) [] := by
  refine cal_d T.d_tell_things sc_tell_things bi_tell_things len_things fun f cdv A outer s H vs Q E hr h => ?_
  refine ⟨_, (pss_cons (ps_par (i := 2) (j := 3) (by rfl) sc_tell_things.nd rfl rfl (by decide) rfl rfl (pa_cons (pe_c c_ends_ahead hr (by decide) rfl (pa_cons (pv 1) pa_nil)) (pa_cons pe_int pa_nil)) (by rfl))
  (pss_one (ps_while PassesOwn.never (pt_cmpR op_lt (pv 3) (pe_callB call_lenS rfl T.b_len boot_len (pa_cons (pv 1) pa_nil)) (nomark _))
  (pss_cons (ps_set (i := 4) sc_tell_things.nd rfl (Or.inl rfl) (pe_c c_emphasis_at hr (by decide) rfl (pa_cons (pv 1) (pa_cons (pv 2) (pa_cons (pv 3) pa_nil)))))
  (pss_one (ps_if (pt_cmpR op_lt (pv 4) pe_int (nomark _))
  (pss_cons (ps_expr (pe_c c_tell_plain hr (by decide) rfl (pa_cons (pv 0) (pa_cons (pv 1) (pa_cons (pv 3) (pa_cons (pe_op op_add (pv 3) pe_int) pa_nil))))))
  (pss_one (ps_set (i := 3) sc_tell_things.nd rfl (Or.inl rfl) (pe_op op_add (pv 3) pe_int))))
  (pss_cons (ps_expr (pe_mt m_tell hr (by decide) (pv 0) (pa_cons (pe_gc rfl T.k_STRESS) (pa_cons pe_int (pa_cons (pe_lst pa_nil) pa_nil)))))
  (pss_cons (ps_expr (pe_c c_tell_plain hr (by decide) rfl (pa_cons (pv 0) (pa_cons (pv 1) (pa_cons (pe_op op_add (pv 3) pe_int) (pa_cons (pv 4) pa_nil))))))
  (pss_cons (ps_expr (pe_mt m_tell hr (by decide) (pv 0) (pa_cons (pe_gc rfl T.k_STRESS_END) (pa_cons pe_int (pa_cons (pe_lst pa_nil) pa_nil)))))
  (pss_one (ps_set (i := 3) sc_tell_things.nd rfl (Or.inl rfl) (pe_op op_add (pv 4) pe_int)))))))))))), ?_⟩
  exact things_reading T false vs H Q E h
theorem ok_tell_things1 (T : Txt K mg) (m_tell : Met P w K mg base 1 (cTeller K) "tell" (spTell K) []) (c_ends_ahead : Cal P w K mg base 4 "ends_ahead" (spEnds K) []) (c_emphasis_at : Cal P w K mg base 4 "emphasis_at" (spEmph K) [])
    (c_tell_plain : Cal P w K mg base 6 "tell_plain" (spPlain K true) []) : Cal P w K mg base 7 "tell_things" (spThings K true) [] := by
  refine cal_d T.d_tell_things sc_tell_things bi_tell_things len_things fun f cdv A outer s H vs Q E hr h => ?_
  refine ⟨_, (pss_cons (ps_par (i := 2) (j := 3) (by rfl) sc_tell_things.nd rfl rfl (by decide) rfl rfl (pa_cons (pe_c c_ends_ahead hr (by decide) rfl (pa_cons (pv 1) pa_nil)) (pa_cons pe_int pa_nil)) (by rfl))
  (pss_one (ps_while PassesOwn.never (pt_cmpR op_lt (pv 3) (pe_callB call_lenS rfl T.b_len boot_len (pa_cons (pv 1) pa_nil)) (nomark _))
  (pss_cons (ps_set (i := 4) sc_tell_things.nd rfl (Or.inl rfl) (pe_c c_emphasis_at hr (by decide) rfl (pa_cons (pv 1) (pa_cons (pv 2) (pa_cons (pv 3) pa_nil)))))
  (pss_one (ps_if (pt_cmpR op_lt (pv 4) pe_int (nomark _))
  (pss_cons (ps_expr (pe_c c_tell_plain hr (by decide) rfl (pa_cons (pv 0) (pa_cons (pv 1) (pa_cons (pv 3) (pa_cons (pe_op op_add (pv 3) pe_int) pa_nil))))))
  (pss_one (ps_set (i := 3) sc_tell_things.nd rfl (Or.inl rfl) (pe_op op_add (pv 3) pe_int))))
  (pss_cons (ps_expr (pe_mt m_tell hr (by decide) (pv 0) (pa_cons (pe_gc rfl T.k_STRESS) (pa_cons pe_int (pa_cons (pe_lst pa_nil) pa_nil)))))
  (pss_cons (ps_expr (pe_c c_tell_plain hr (by decide) rfl (pa_cons (pv 0) (pa_cons (pv 1) (pa_cons (pe_op op_add (pv 3) pe_int) (pa_cons (pv 4) pa_nil))))))
  (pss_cons (ps_expr (pe_mt m_tell hr (by decide) (pv 0) (pa_cons (pe_gc rfl T.k_STRESS_END) (pa_cons pe_int (pa_cons (pe_lst pa_nil) pa_nil)))))
  (pss_one (ps_set (i := 3) sc_tell_things.nd rfl (Or.inl rfl) (pe_op op_add (pv 4) pe_int)))))))))))), ?_⟩
  exact things_reading T true vs H Q E h
end
end Mk
set_option Elab.async false
set_option linter.all false
set_option maxRecDepth 100000
set_option maxHeartbeats 4000000
namespace Mk
open PySem PySem.Spec PyProof.Rows L2 C8 Evl
def spRun (K : PySem.W.Frag) : Sp := fun vs H Q _ => ∃ F t es d r x, vs = [.ref t, .ref r] ∧ TellAt K F H t es d ∧ SqL K H r (bs x) ∧ x.length ≤ 30000 ∧ MA.wt es + MA.wt (Ml.running x) ≤ 900000 ∧
  ∀ F' H', TellAt K F' H' t (MA.pushAll es (Ml.running x)) d → Ex (out F H) (out F' H') → Q .non H'
def spClose (K : PySem.W.Frag) : Sp := fun vs H Q _ => ∃ F t es d dd, vs = [.ref t, .int dd] ∧ TellAt K F H t es d ∧ dd ≤ d ∧ MA.wt es + MA.wt (Ml.leave (d - dd).toNat) ≤ 900000 ∧
  ∀ F' H', TellAt K F' H' t (MA.pushAll es (Ml.leave (d - dd).toNat)) dd → Ex (out F H) (out F' H') → Q .non H'
def itemEv (o d : Nat) (x : Ml.Bytes) : List Ml.Event := (if o ≤ d then [Ml.ev 6, Ml.ev 8] else Ml.leave (o - 1 - d) ++ [Ml.ev 9, Ml.ev 8]) ++ Ml.running x
def spItem (K : PySem.W.Frag) : Sp := fun vs H Q _ => ∃ F t es o d r x, vs = [.ref t, .int ((d : Nat) : Int), .ref r] ∧ TellAt K F H t es (((o : Nat) : Int) - 1) ∧ out F H r = some (.lst (bs x)) ∧ x.length ≤ 30000 ∧ MA.wt es + MA.wt (itemEv o d x) ≤ 900000 ∧
  ∀ F' H', TellAt K F' H' t (MA.pushAll es (itemEv o d x)) (((min d o + 1 : Nat) : Int) - 1) → Ex (out F H) (out F' H') → Q .non H'
def ncode (l : Ml.Bytes) : Bool := decide (Ml.trim l ≠ Ml.FENCE)
def Small (ls : List Ml.Bytes) : Prop := MA.lsum ls ≤ 20001
theorem Small.len {ls : List Ml.Bytes} (h : Small ls) : ls.length ≤ 20001 := Nat.le_trans (MA.lsum_len ls) h
theorem Small.mem {ls : List Ml.Bytes} {l : Ml.Bytes} (h : Small ls) (hl : l ∈ ls) : l.length ≤ 20000 := by
  have h1 := MA.lsum_mem hl
  have h2 : MA.lsum ls ≤ 20001 := h
  omega
def spCodeEnd (K : PySem.W.Frag) : Sp := fun vs H Q _ => ∃ a ls b, vs = [.ref a, .int ((b : Nat) : Int)] ∧ LinesAt K H a ls ∧ Small ls ∧ RetV (.int ((MA.spanF ncode ls b : Nat) : Int)) H Q
def spPlainEnd (K : PySem.W.Frag) : Sp := fun vs H Q _ => ∃ a ls b, vs = [.ref a, .int ((b : Nat) : Int)] ∧ LinesAt K H a ls ∧ Small ls ∧ RetV (.int ((MA.spanF MA.isPlain ls b : Nat) : Int)) H Q
def textsL (ls : List Ml.Bytes) : List Ml.Bytes := ls.map fun l => MA.textL (Ml.lineOf l)
def spJoined (K : PySem.W.Frag) : Sp := fun vs H Q _ => ∃ a ls, vs = [.ref a] ∧ LinesAt K H a ls ∧ Small ls ∧ RetL (bs (Ml.join (textsL ls))) H Q
def headEv (l : Ml.Bytes) : List Ml.Event := [⟨4, MA.numL (Ml.lineOf l), []⟩] ++ Ml.running (MA.textL (Ml.lineOf l)) ++ [⟨5, MA.numL (Ml.lineOf l), []⟩]
def spHeading (K : PySem.W.Frag) : Sp := fun vs H Q _ => ∃ F t es d x l, vs = [.ref t, .ref x] ∧ TellAt K F H t es d ∧ LineAt K (out F H) x l ∧ l.length ≤ 30000 ∧ MA.wt es + MA.wt (headEv l) ≤ 900000 ∧
  ∀ F' H', TellAt K F' H' t (MA.pushAll es (headEv l)) d → Ex (out F H) (out F' H') → Q .non H'
def codeEv (ls : List Ml.Bytes) (i : Nat) : List Ml.Event := [⟨10, 0, MA.textL (Ml.lineOf (ls.getD i []))⟩] ++ (MA.cut ls (i + 1) (MA.spanF ncode ls (i + 1))).map (fun l => ⟨11, 0, l⟩) ++ [Ml.ev 12]
def spCode (K : PySem.W.Frag) : Sp := fun vs H Q _ => ∃ F t es d a ls i, vs = [.ref t, .ref a, .int ((i : Nat) : Int)] ∧ TellAt K F H t es d ∧ LinesAt K (out F H) a ls ∧ i < ls.length ∧ Small ls ∧ MA.wt es + MA.wt (codeEv ls i) ≤ 900000 ∧
  ∀ F' H', TellAt K F' H' t (MA.pushAll es (codeEv ls i)) d → Ex (out F H) (out F' H') → Q (.int ((MA.spanF ncode ls (i + 1) + 1 : Nat) : Int)) H'
section
variable {K : PySem.W.Frag} {σ : L2.St} {H : Hp} {te t1 : TE} {tz : TS} {D : Ends} {a : Addr} {ls : List Ml.Bytes} {F : Addr → Prop} {t : Addr} {es : List Ml.Event} {d : Int}
theorem v_codeEnd {b : Nat} (h : LinesAt K H a ls) (hs : Small ls) : SpV (spCodeEnd K) [.ref a, .int (b : Int)] H (.int ((MA.spanF ncode ls b : Nat) : Int)) := fun H1 e Q q _ => ⟨a, ls, b, rfl, h.ex e, hs, q⟩
theorem v_plainEnd {b : Nat} (h : LinesAt K H a ls) (hs : Small ls) : SpV (spPlainEnd K) [.ref a, .int (b : Int)] H (.int ((MA.spanF MA.isPlain ls b : Nat) : Int)) := fun H1 e Q q _ => ⟨a, ls, b, rfl, h.ex e, hs, q⟩
theorem v_joined (h : LinesAt K H a ls) (hs : Small ls) : SpL (spJoined K) [.ref a] H (bs (Ml.join (textsL ls))) := fun H1 e Q q _ => ⟨a, ls, rfl, h.ex e, hs, q⟩
theorem LinesAt.sq (h : LinesAt K H a ls) : ∃ xs : List Addr, H a = some (.lst (xs.map V.ref)) ∧ xs.length = ls.length ∧ (xs.map V.ref).length = ls.length ∧ ∀ (i : Nat) l, ls[i]? = some l → ∃ x, (xs.map V.ref)[i]? = some (V.ref x) ∧ LineAt K H x l := by
  obtain ⟨xs, h1, h2⟩ := h.each
  exact ⟨xs, h1, h2.1, by rw [List.length_map]; exact h2.1, fun i l hl => let ⟨x, _, b, c⟩ := h2.at hl; ⟨x, b, c⟩⟩
theorem s_depth {C : Addr} {v : Int} {j : Nat} (T : Cls K (cTeller K)) (n : NoAttr K (cTeller K) "depth") (hj : σ[j]? = some (some (.ref t))) (hT : TellAt K F H t es d) (he : Ev te σ H (.int v)) (k : ∀ H', TellAt K F H' t es v → Ex (out F H) (out F H') → D.nx σ H') : sFld K (tVar j) te "depth" D σ H := by
  refine he H (Ex.refl H) _ fun H1 e1 => ?_
  obtain ⟨dx, l, ps, h1, h2, h3, h4, h5, h6⟩ := hT.ex e1
  refine ⟨_, hj, t, cTeller K, dx, _, rfl, h1, T, n, (by show 2 < 1000; decide), k _ ⟨dx, l, ps, ?_, ?_, ⟨h3.1, fun i q v' a b => ?_⟩, h4, h5, h6⟩ fun b o hb => ?_⟩
  · rw [tlF_put]
    exact upd_same
  · rw [upd_ne (ne_of h2 h1 (by intro z; cases z))]
    exact h2
  · have hv := h3.2 i q v' a b
    exact hv.upd (ne_of hv.1 h1 (by intro z; cases z)) (ne_of hv.2 h1 (by intro z; cases z))
  · obtain ⟨b1, b2⟩ := out_of hb
    rw [out_at b1, upd_ne fun z => b1 ((h6 b).mpr (.inl z))]
    exact e1 _ _ b2
theorem ev_depth {j : Nat} (T : Cls K (cTeller K)) (n : NoAttr K (cTeller K) "depth") (hj : σ[j]? = some (some (.ref t))) (hT : TellAt K F H t es d) : Ev (tFld K (tVar j) "depth") σ H (.int d) := by
  obtain ⟨dx, l, ps, h1, _⟩ := hT
  exact ev_fld (ev_var hj) h1 T n tlF_depth
theorem q_run {r : Addr} {x : Ml.Bytes} {E : XK} (h0 : σ[0]? = some (some (.ref t))) (hT : TellAt K F H t es d) (h1 : EvB K t1 σ H x) (hx : x.length ≤ 30000) (hw : MA.wt es + MA.wt (Ml.running x) ≤ 900000)
    (k : ∀ F' H', TellAt K F' H' t (MA.pushAll es (Ml.running x)) d → Ex (out F H) (out F' H') → tz D σ H') : tSeq (tDrop (tCall (spRun K) [] E (tCons (tVar 0) (tCons t1 tNil)))) tz D σ H :=
  ⟨_, h0, h1 H (Ex.refl H) _ fun p H1 e1 hp => ⟨F, t, es, d, p, x, rfl, hT.ex e1, hp, hx, hw, fun F' H' g1 g2 => k F' H' g1 ((out_mono e1).trans g2)⟩⟩
theorem q_close {dd : Int} {E : XK} (h0 : σ[0]? = some (some (.ref t))) (hT : TellAt K F H t es d) (h1 : Ev t1 σ H (.int dd)) (hd : dd ≤ d) (hw : MA.wt es + MA.wt (Ml.leave (d - dd).toNat) ≤ 900000)
    (k : ∀ F' H', TellAt K F' H' t (MA.pushAll es (Ml.leave (d - dd).toNat)) dd → Ex (out F H) (out F' H') → tz D σ H') : tSeq (tDrop (tCall (spClose K) [] E (tCons (tVar 0) (tCons t1 tNil)))) tz D σ H :=
  ⟨_, h0, h1 H (Ex.refl H) _ fun H1 e1 => ⟨F, t, es, d, dd, rfl, hT.ex e1, hd, hw, fun F' H' g1 g2 => k F' H' g1 ((out_mono e1).trans g2)⟩⟩
theorem el_cat {ta tb : TE} {b : Addr} {xs zs : List V} (ha : EvL ta σ H xs) (hb : Ev tb σ H (.ref b)) (h : H b = some (.lst zs)) (hl : xs.length + zs.length ≤ 100000) : EvL (tOp rCat ta tb) σ H (xs ++ zs) := fun H1 e Q q =>
  ha H1 e _ fun p H2 hp e2 hx => hb H2 (e.trans e2) _ fun H3 e3 => ⟨p, b, xs, zs, rfl, rfl, e3 _ _ hx, ((e.trans e2).trans e3) _ _ h, sz_of hl, fun r hr => q r _ (fresh_back (e2.trans e3) hr) ((e2.trans e3).trans (Evl.Ex.new hr)) upd_same⟩
theorem el_if {tt : TT} {ta tb : TE} {b : Bool} {xs : List V} (h : EvT tt σ H b) (h1 : b = true → EvL ta σ H xs) (h2 : b = false → EvL tb σ H xs) : EvL (tIf tt ta tb) σ H xs := fun H1 e Q q => h H1 e _ fun H2 e2 => by
  cases b with
  | true =>
    show ta σ H2 Q
    exact h1 rfl H2 (e.trans e2) Q fun p H3 hp e3 hx => q p H3 (fresh_back e2 hp) (e2.trans e3) hx
  | false =>
    show tb σ H2 Q
    exact h2 rfl H2 (e.trans e2) Q fun p H3 hp e3 hx => q p H3 (fresh_back e2 hp) (e2.trans e3) hx
end
section
variable {P : Program} {w : World} {K : PySem.W.Frag} {mg : Str → Option Value} {base : Heap}
theorem ok_tell_running (T : Txt K mg) (c_running_things : Cal P w K mg base 7 "running_things" (spRunning K) []) (c_tell_things : Cal P w K mg base 7 "tell_things" (spThings K true) []) : Cal P w K mg base 8 "tell_running" (spRun K) [] := by
  refine cal_d T.d_tell_running sc_tell_running bi_tell_running (fun vs H Q E h => ?_) fun f cdv A outer s H vs Q E hr h => ?_
  · obtain ⟨F, t, es, d, r, x, rfl, _⟩ := h
    rfl
  obtain ⟨F, t, es, d, r, x, rfl, hT, hS, hx, hw, k⟩ := h
  refine ⟨_, (pss_one (ps_expr (pe_c c_tell_things hr (by decide) rfl (pa_cons (pv 0) (pa_cons (pe_c c_running_things hr (by decide) rfl (pa_cons (pv 1) pa_nil)) pa_nil))))), ?_⟩
  have h1 := MA.lexF_len x.length x
  have h2 := MA.links_len (MA.lexF x).length (MA.lexF x)
  have h3 : (MA.lexF x).length ≤ x.length := h1
  exact ⟨_, rfl, _, rfl, F, r, x, rfl, hT.win, hS, hx, fun p H1 hp e1 hP => ⟨F, t, es, d, p, _, rfl, hT.ex e1, hP, (fun z => Bool.noConfusion z), (fun l u hm => Nat.le_trans (h2.2 l u hm) (Nat.le_trans h3 hx)), Nat.le_trans h2.1 (Nat.le_trans h3 hx), hw, fun F' H' g1 g2 => k F' H' g1 ((out_mono e1).trans g2)⟩⟩
theorem ok_close_items (T : Txt K mg) (m_tell : Met P w K mg base 1 (cTeller K) "tell" (spTell K) []) : Cal P w K mg base 2 "close_items" (spClose K) [] := by
  refine cal_d T.d_close_items sc_close_items bi_close_items (fun vs H Q E h => ?_) fun f cdv A outer s H vs Q E hr h => ?_
  · obtain ⟨F, t, es, d, dd, rfl, _⟩ := h
    rfl
  obtain ⟨F, t, es, d, dd, rfl, hT, hd, hw, k⟩ := h
  refine ⟨_, (pss_one (ps_while PassesOwn.never (pt_cmpR op_gt (pe_fld (pv 0) rfl) (pv 1) (nomark _))
  (pss_cons (ps_expr (pe_mt m_tell hr (by decide) (pv 0) (pa_cons (pe_gc rfl T.k_POINT_END) (pa_cons pe_int (pa_cons (pe_lst pa_nil) pa_nil)))))
  (pss_cons (ps_expr (pe_mt m_tell hr (by decide) (pv 0) (pa_cons (pe_gc rfl T.k_ROW_END) (pa_cons pe_int (pa_cons (pe_lst pa_nil) pa_nil)))))
  (pss_one (ps_fld (pv 0) (pe_op op_sub (pe_fld (pv 0) rfl) pe_int) rfl)))))), ?_⟩
  refine s_while (fun m σ' H' => ∃ (F' : Addr → Prop) (es1 : List Ml.Event) (o : Nat), m = o ∧ σ' = [some (.ref t), some (.int dd)] ∧ TellAt K F' H' t es1 (dd + (o : Int)) ∧ Ex (out F H) (out F' H') ∧ MA.pushAll es (Ml.leave (d - dd).toNat) = MA.pushAll es1 (Ml.leave o) ∧ MA.wt es1 + MA.wt (Ml.leave o) ≤ 900000) (d - dd).toNat
    ⟨F, es, (d - dd).toNat, rfl, rfl, by rw [show dd + ((d - dd).toNat : Int) = d by omega]; exact hT, Ex.refl _, rfl, hw⟩ ?_
  rintro m σ' H1 ⟨F1, es1, o, rfl, rfl, hT1, x1, heq, hw1⟩
  refine ⟨_, et_test (ev_gt (b := decide (0 < m)) (ev_depth T.cl_Teller T.n_Teller_depth rfl hT1) (ev_var rfl) (decide_eq_decide.mpr (by omega))), fun hb H2 e2 => ?_, fun hb H2 e2 => ?_⟩
  · have hm := of_decide_eq_true hb
    obtain ⟨n, rfl⟩ : ∃ n, m = n + 1 := ⟨m - 1, by omega⟩
    refine ⟨fun σ2 H' => ∃ (F' : Addr → Prop) (es1 : List Ml.Event), σ2 = [some (.ref t), some (.int dd)] ∧ TellAt K F' H' t es1 (dd + (n : Int)) ∧ Ex (out F H) (out F' H') ∧ MA.pushAll es (Ml.leave (d - dd).toNat) = MA.pushAll es1 (Ml.leave n) ∧ MA.wt es1 + MA.wt (Ml.leave n) ≤ 900000,
      fun σ2 H' ⟨F', es2, h1, h2, h3, h4, h5⟩ => ⟨n, by omega, F', es2, n, rfl, h1, h2, h3, h4, h5⟩, ?_⟩
    have hl : MA.wt (Ml.leave (n + 1)) = 2 * (n + 1) := MA.leave_wt _
    have hl2 : MA.wt (Ml.leave n) = 2 * n := MA.leave_wt _
    have w9 : MA.wt [(⟨9, 0, []⟩ : Ml.Event)] = 1 := rfl
    have w7 : MA.wt [(⟨7, 0, []⟩ : Ml.Event)] = 1 := rfl
    refine q_tell (k := 9) (n := 0) rfl (hT1.ex e2) ev_c ev_c EvB.nil (by omega) (by decide) fun F3 H3 g1 g2 => ?_
    have w1 := MA.wt_pushAll [(⟨9, 0, []⟩ : Ml.Event)] es1
    refine q_tell (k := 7) (n := 0) rfl g1 ev_c ev_c EvB.nil (by omega) (by decide) fun F4 H4 g3 g4 => ?_
    have w2 := MA.wt_pushAll [(⟨7, 0, []⟩ : Ml.Event)] (MA.pushAll es1 [(⟨9, 0, []⟩ : Ml.Event)])
    refine s_depth (C := 0) T.cl_Teller T.n_Teller_depth rfl g3 (ev_sub (k := dd + (n : Int)) (ev_depth T.cl_Teller T.n_Teller_depth rfl g3) ev_c (by omega)) fun H5 g5 g6 => ⟨F4, _, rfl, g5, (((x1.trans (out_mono e2)).trans g2).trans g4).trans g6, ?_, by omega⟩
    rw [heq, MA.leave_snoc, MA.pushAll_app]
    rfl
  · have hm : m = 0 := by
      have := of_decide_eq_false hb
      omega
    subst hm
    refine k F1 H2 ?_ (x1.trans (out_mono e2))
    rw [heq]
    have := hT1.ex e2
    rw [show dd + ((0 : Nat) : Int) = dd by omega] at this
    exact this
theorem ok_tell_item (T : Txt K mg) (m_tell : Met P w K mg base 1 (cTeller K) "tell" (spTell K) []) (c_close_items : Cal P w K mg base 2 "close_items" (spClose K) []) (c_tell_running : Cal P w K mg base 8 "tell_running" (spRun K) []) : Cal P w K mg base 9 "tell_item" (spItem K) [] := by
  refine cal_d T.d_tell_item sc_tell_item bi_tell_item (fun vs H Q E h => ?_) fun f cdv A outer s H vs Q E hr h => ?_
  · obtain ⟨F, t, es, o, d, r, x, rfl, _⟩ := h
    rfl
  obtain ⟨F, t, es, o, d, r, x, rfl, hT, hR, hx, hw, k⟩ := h
  refine ⟨_, (pss_cons (ps_set (i := 3) sc_tell_item.nd rfl (Or.inl rfl) (pe_ifExp (pt_cmpR op_le (pv 1) (pe_op op_add (pe_fld (pv 0) rfl) pe_int) (nomark _)) (pv 1) (pe_op op_add (pe_fld (pv 0) rfl) pe_int)))
  (pss_cons (ps_if (pt_cmpR op_gt (pv 3) (pe_fld (pv 0) rfl) (nomark _))
  (pss_cons (ps_expr (pe_mt m_tell hr (by decide) (pv 0) (pa_cons (pe_gc rfl T.k_ROW) (pa_cons pe_int (pa_cons (pe_lst pa_nil) pa_nil)))))
  (pss_one (ps_fld (pv 0) (pv 3) rfl)))
  (pss_cons (ps_expr (pe_c c_close_items hr (by decide) rfl (pa_cons (pv 0) (pa_cons (pv 3) pa_nil))))
  (pss_one (ps_expr (pe_mt m_tell hr (by decide) (pv 0) (pa_cons (pe_gc rfl T.k_POINT_END) (pa_cons pe_int (pa_cons (pe_lst pa_nil) pa_nil))))))))
  (pss_cons (ps_expr (pe_mt m_tell hr (by decide) (pv 0) (pa_cons (pe_gc rfl T.k_POINT) (pa_cons pe_int (pa_cons (pe_lst pa_nil) pa_nil)))))
  (pss_one (ps_expr (pe_c c_tell_running hr (by decide) rfl (pa_cons (pv 0) (pa_cons (pv 2) pa_nil)))))))), ?_⟩
  have hdp : ∀ {H'} {σ'' : L2.St}, Ex H H' → σ''[0]? = some (some (.ref t)) → Ev (tFld K (tVar 0) "depth") σ'' H' (.int ((o : Int) - 1)) := fun {H' σ''} e h0 => ev_depth T.cl_Teller T.n_Teller_depth h0 (hT.ex e)
  refine q_asg (ev_if (v := .int ((min d o : Nat) : Int)) (b := decide (d ≤ o)) (et_test (ev_le (ev_var rfl) (ev_add (k := (o : Int)) (hdp (Ex.refl _) rfl) ev_c (by omega)) (decide_eq_decide.mpr (by omega)))) (fun hb => ?_) fun hb => ?_) fun H1 e1 => ?_
  · rw [Nat.min_eq_left (of_decide_eq_true hb)]
    exact ev_var rfl
  · have := of_decide_eq_false hb
    rw [Nat.min_eq_right (by omega)]
    exact ev_add (hdp (Ex.refl _) rfl) ev_c (by omega)
  have hT1 := hT.ex e1
  have rest : ∀ (F2 : Addr → Prop) H2 (es2 : List Ml.Event) (d2 : Int) (tz2 : TS) (hz : tz2 = tSeq (tDrop (tMeth (cTeller K) "tell" (spTell K) [] C8.E0 (tVar 0) (tCons (tC (.int 8)) (tCons (tC (.int 0)) (tCons (tLst tNil) tNil))))) (tDrop (tCall (spRun K) [] C8.E0 (tCons (tVar 0) (tCons (tVar 2) tNil))))),
      TellAt K F2 H2 t es2 d2 → Ex (out F H1) (out F2 H2) → d2 = ((min d o + 1 : Nat) : Int) - 1 → MA.pushAll es (itemEv o d x) = MA.pushAll es2 ([Ml.ev 8] ++ Ml.running x) → MA.wt es2 + 1 + MA.wt (Ml.running x) ≤ 900000 →
      tz2 { nx := fun _ H' => Q .non H', rt := Q } [some (.ref t), some (.int (d : Int)), some (.ref r), some (.int ((min d o : Nat) : Int))] H2 := by
    intro F2 H2 es2 d2 tz2 hz hT2 x2 hd2 heq hw2
    subst hz
    subst hd2
    refine q_tell (k := 8) (n := 0) rfl hT2 ev_c ev_c EvB.nil (by omega) (by decide) fun F3 H3 g1 g2 => ?_
    have w1 := MA.wt_pushAll [(⟨8, 0, []⟩ : Ml.Event)] es2
    have w8 : MA.wt [(⟨8, 0, []⟩ : Ml.Event)] = 1 := rfl
    have x3 := ((out_mono (F := F) e1).trans x2).trans g2
    refine ⟨_, rfl, _, rfl, F3, t, _, _, r, x, rfl, g1, sq_of (out_of (x3 _ _ hR)).2, hx, by omega, fun F4 H4 g3 g4 => k F4 H4 ?_ (x3.trans g4)⟩
    rw [heq, MA.pushAll_app]
    exact g3
  have w6 : MA.wt [(⟨6, 0, []⟩ : Ml.Event)] = 1 := rfl
  have w9 : MA.wt [(⟨9, 0, []⟩ : Ml.Event)] = 1 := rfl
  by_cases hc : o ≤ d
  · have hi : itemEv o d x = [Ml.ev 6] ++ ([Ml.ev 8] ++ Ml.running x) := by
      unfold itemEv
      rw [if_pos hc]
      rfl
    have hwi : MA.wt (itemEv o d x) = 2 + MA.wt (Ml.running x) := by
      rw [hi, MA.wt_app, MA.wt_app]
      have : MA.wt [Ml.ev 6] = 1 := rfl
      have : MA.wt [Ml.ev 8] = 1 := rfl
      omega
    have hmin : min d o = o := Nat.min_eq_right hc
    refine q_if (b := true) (et_test (ev_gt (ev_var rfl) (hdp e1 rfl) (decide_eq_true (by omega)))) (fun _ H2 e2 => ?_) (fun z => Bool.noConfusion z)
    refine q_tell (k := 6) (n := 0) rfl (hT1.ex e2) ev_c ev_c EvB.nil (by omega) (by decide) fun F3 H3 g1 g2 => ?_
    have w1 := MA.wt_pushAll [(⟨6, 0, []⟩ : Ml.Event)] es
    refine s_depth (C := 0) T.cl_Teller T.n_Teller_depth rfl g1 (ev_var rfl) fun H4 g3 g4 => rest F3 H4 _ _ _ rfl g3 (((out_mono e2).trans g2).trans g4) (by omega) ?_ (by omega)
    rw [hi, MA.pushAll_app]
    rfl
  · have hi : itemEv o d x = Ml.leave (o - 1 - d) ++ ([Ml.ev 9] ++ ([Ml.ev 8] ++ Ml.running x)) := by
      unfold itemEv
      rw [if_neg hc, List.append_assoc]
      rfl
    have hwi : MA.wt (itemEv o d x) = MA.wt (Ml.leave (o - 1 - d)) + 2 + MA.wt (Ml.running x) := by
      rw [hi, MA.wt_app, MA.wt_app, MA.wt_app]
      have : MA.wt [Ml.ev 9] = 1 := rfl
      have : MA.wt [Ml.ev 8] = 1 := rfl
      omega
    have hmin : min d o = d := Nat.min_eq_left (by omega)
    rw [hmin] at rest
    refine q_if (b := false) (et_test (ev_gt (ev_var rfl) (hdp e1 rfl) (decide_eq_false (by omega)))) (fun z => Bool.noConfusion z) (fun _ H2 e2 => ?_)
    have hn : (((o : Int) - 1) - (d : Int)).toNat = o - 1 - d := by omega
    refine q_close (dd := (d : Int)) rfl (hT1.ex e2) (by rw [hmin]; exact ev_var rfl) (by omega) (by rw [hn]; omega) fun F3 H3 g1 g2 => ?_
    rw [hn] at g1
    have w1 := MA.wt_pushAll (Ml.leave (o - 1 - d)) es
    refine s_tell (k := 9) (n := 0) rfl g1 ev_c ev_c EvB.nil (by omega) (by decide) fun F4 H4 g3 g4 => ?_
    have w2 := MA.wt_pushAll [(⟨9, 0, []⟩ : Ml.Event)] (MA.pushAll es (Ml.leave (o - 1 - d)))
    have := rest F4 H4 _ _ _ rfl g3 (((out_mono e2).trans g2).trans g4) (by omega) (by rw [hi, MA.pushAll_app, MA.pushAll_app]; rfl) (by omega)
    rw [hmin]
    exact this
theorem ok_code_end (T : Txt K mg) (c_ends_code : Cal P w K mg base 3 "ends_code" (spEndsCode K) []) : Cal P w K mg base 4 "code_end" (spCodeEnd K) [] := by
  refine cal_d T.d_code_end sc_code_end bi_code_end (fun vs H Q E h => ?_) fun f cdv A outer s H vs Q E hr h => ?_
  · obtain ⟨a, ls, b, rfl, _⟩ := h
    rfl
  obtain ⟨a, ls, b, rfl, hL, hs, k⟩ := h
  obtain ⟨xs, hx0, hlen, hml, hat⟩ := hL.sq
  refine ⟨_, (pss_cons (ps_set (i := 2) sc_code_end.nd rfl (Or.inl rfl) (pv 1))
  (pss_cons (ps_while PassesOwn.never (PW.pt (pw_and (pt_cmpR op_lt (pv 2) (pe_callB call_lenS rfl T.b_len boot_len (pa_cons (pv 0) pa_nil)) (nomark _)) (pw_and1 (pt_not (pt_val (pe_c c_ends_code hr (by decide) rfl (pa_cons (pe_fld (pe_ix ix_list (pv 0) (pv 2) (fun _ _ => rfl)) rfl) pa_nil)))))))
  (pss_one (ps_set (i := 2) sc_code_end.nd rfl (Or.inl rfl) (pe_op op_add (pv 2) pe_int))))
  (pss_one (ps_ret (pv 2))))), ?_⟩
  refine q_asg (ev_var rfl) fun H1 e1 => ?_
  refine q_scan (p := ncode) (l := ls) (j := 2) (b := b) rfl (fun i H2 e2 hi => ?_) (fun i H2 e2 => ?_) fun H2 e2 => ?_
  · have e := e1.trans e2
    refine et_scan (et_test (ev_lt (ev_var rfl) (ev_len (ev_var rfl) (sq_of (e _ _ hx0))) ?_)) fun l hl => ?_
    · rw [hml]
      exact decide_eq_decide.mpr (by omega)
    · obtain ⟨x, hxi, hxl⟩ := hat i l hl
      obtain ⟨dx, r, tx, h1, h2, h3⟩ := hxl.ex e
      have hlm := hs.mem (List.mem_of_getElem? hl)
      refine et_is (et_not (et_B (ev_call (ea_cons (ev_fld (ev_ixL (i := i) (ev_var rfl) (ev_var rfl) (sq_of (e _ _ hx0)) rfl hxi) h1 T.cl_Line T.n_Line_row lineF_row) ea_nil) (v_endsCode (sq_of h2) (by omega))))) ?_
      unfold ncode
      by_cases z : Ml.trim l = Ml.FENCE <;> simp [z]
  · exact ev_add (ev_var rfl) ev_c (by omega)
  · exact s_ret (ev_var rfl) fun H3 e3 => k H3 ((e1.trans e2).trans e3)
theorem ok_plain_end (T : Txt K mg) : Cal P w K mg base 1 "plain_end" (spPlainEnd K) [] := by
  refine cal_d T.d_plain_end sc_plain_end bi_plain_end (fun vs H Q E h => ?_) fun f cdv A outer s H vs Q E hr h => ?_
  · obtain ⟨a, ls, b, rfl, _⟩ := h
    rfl
  obtain ⟨a, ls, b, rfl, hL, hs, k⟩ := h
  obtain ⟨xs, hx0, hlen, hml, hat⟩ := hL.sq
  refine ⟨_, (pss_cons (ps_set (i := 2) sc_plain_end.nd rfl (Or.inl rfl) (pv 1))
  (pss_cons (ps_while PassesOwn.never (PW.pt (pw_and (pt_cmpR op_lt (pv 2) (pe_callB call_lenS rfl T.b_len boot_len (pa_cons (pv 0) pa_nil)) (nomark _)) (pw_and1 (pt_cmpR op_eq (pe_fld (pe_ix ix_list (pv 0) (pv 2) (fun _ _ => rfl)) rfl) (pe_gc rfl T.k_PLAIN_lines) (nomark _)))))
  (pss_one (ps_set (i := 2) sc_plain_end.nd rfl (Or.inl rfl) (pe_op op_add (pv 2) pe_int))))
  (pss_one (ps_ret (pv 2))))), ?_⟩
  refine q_asg (ev_var rfl) fun H1 e1 => ?_
  refine q_scan (p := MA.isPlain) (l := ls) (j := 2) (b := b) rfl (fun i H2 e2 hi => ?_) (fun i H2 e2 => ?_) fun H2 e2 => ?_
  · have e := e1.trans e2
    refine et_scan (et_test (ev_lt (ev_var rfl) (ev_len (ev_var rfl) (sq_of (e _ _ hx0))) ?_)) fun l hl => ?_
    · rw [hml]
      exact decide_eq_decide.mpr (by omega)
    · obtain ⟨x, hxi, hxl⟩ := hat i l hl
      obtain ⟨dx, r, tx, h1, h2, h3⟩ := hxl.ex e
      exact et_test (ev_eqI (ev_fld (ev_ixL (i := i) (ev_var rfl) (ev_var rfl) (sq_of (e _ _ hx0)) rfl hxi) h1 T.cl_Line T.n_Line_kind lineF_kind) ev_c rfl)
  · exact ev_add (ev_var rfl) ev_c (by omega)
  · exact s_ret (ev_var rfl) fun H3 e3 => k H3 ((e1.trans e2).trans e3)
theorem join_part (ls : List Ml.Bytes) (i : Nat) : (((textsL ls).take i).foldl MA.joinStep []).length ≤ MA.lsum ls := by
  rw [MA.join_fold]
  have h1 := MA.join_len ((textsL ls).take i)
  have h2 := MA.lsum_drop i (textsL ls)
  have h3 : MA.lsum (textsL ls) ≤ MA.lsum ls := by
    unfold textsL
    clear h1 h2
    induction ls with
    | nil => exact Nat.le_refl _
    | cons l ls ih =>
      have h4 := MA.textL_le l
      show (MA.textL (Ml.lineOf l)).length + 1 + MA.lsum (ls.map _) ≤ l.length + 1 + MA.lsum ls
      omega
  omega
theorem ok_joined_texts (T : Txt K mg) : Cal P w K mg base 1 "joined_texts" (spJoined K) [] := by
  refine cal_d T.d_joined_texts sc_joined_texts bi_joined_texts (fun vs H Q E h => ?_) fun f cdv A outer s H vs Q E hr h => ?_
  · obtain ⟨a, ls, rfl, _⟩ := h
    rfl
  obtain ⟨a, ls, rfl, hL, hs, k⟩ := h
  obtain ⟨xs, hx0, hlen, hml, hat⟩ := hL.sq
  have hs' : MA.lsum ls ≤ 20001 := hs
  refine ⟨_, (pss_cons (ps_set (i := 1) sc_joined_texts.nd rfl (Or.inl rfl) (pe_lst pa_nil))
  (pss_cons (ps_for PassesOwn.never rfl (pi_list (pv 0)) (pg_name (i := 2) sc_joined_texts.nd rfl (Or.inl rfl))
  (pss_one (ps_if (pt_cmpR (op_neE hr.units0) (pe_fld (pv 2) rfl) (pe_lst pa_nil) (nomark _))
  (pss_one (ps_expr (pe_bm PySem.F.plainAttrs_list PySem.F.slot_list_extend PySem.F.type_list_extend mt_extend (pv 1) (pa_cons (pe_op op_cat (pe_ifExp (pt_cmpR (op_neE hr.units0) (pv 1) (pe_lst pa_nil) (nomark _)) (pe_lst (pa_cons (pe_gc rfl T.k_LINE_END) pa_nil)) (pe_lst pa_nil)) (pe_fld (pv 2) rfl)) pa_nil))))
  pss_nil)))
  (pss_one (ps_ret (pv 1))))), ?_⟩
  refine q_asgL (el_lst ea_nil (by decide)) fun p H1 hp e1 h1 => ?_
  refine q_forLn (xs := xs.map V.ref) (ev_var rfl) (sq_of (e1 _ _ hx0)) (fun i σ' H' => ∃ v : Option V, σ' = [some (.ref a), some (.ref p), v] ∧ Ex H H' ∧ H' p = some (.lst (bs (((textsL ls).take i).foldl MA.joinStep []))))
    (fun H2 e2 => ⟨none, rfl, e1.trans e2, e2 _ _ h1⟩) (fun i σ' H' _ ⟨v, _, e, _⟩ => sq_of (e _ _ hx0)) ?_ ?_
  · rintro i y σ' H2 hi ⟨v, rfl, e, hx⟩
    have hil := (List.getElem?_eq_some_iff.mp hi).1
    rw [hml] at hil
    have hli : ls[i]? = some ls[i] := List.getElem?_eq_getElem hil
    generalize ls[i] = l at hli
    obtain ⟨x, hxi, hxl⟩ := hat i l hli
    rw [hxi] at hi
    cases hi
    obtain ⟨dx, r, tx, g1, g2, g3⟩ := hxl.ex e
    have htk : (textsL ls).take (i + 1) = (textsL ls).take i ++ [MA.textL (Ml.lineOf l)] := by
      rw [List.take_add_one]
      unfold textsL
      rw [List.getElem?_map, hli]
      rfl
    have hfold : ((textsL ls).take (i + 1)).foldl MA.joinStep [] = MA.joinStep (((textsL ls).take i).foldl MA.joinStep []) (MA.textL (Ml.lineOf l)) := by
      rw [htk, List.foldl_append]
      rfl
    have hle := join_part ls i
    have hle2 := join_part ls (i + 1)
    rw [hfold] at hle2
    have tl := MA.textL_le l
    have hlm := hs.mem (List.mem_of_getElem? hli)
    generalize ((textsL ls).take i).foldl MA.joinStep [] = acc at hx hfold hle hle2
    refine s_when (et_test (ev_neE (b := !(MA.textL (Ml.lineOf l)).isEmpty) (ev_fld (ev_var rfl) g1 T.cl_Line T.n_Line_text lineF_text) (sq_of g3) (by rw [bs_empty]))) (fun hb H3 e3 => ?_) fun hb H3 e3 => ?_
    · have hne : MA.textL (Ml.lineOf l) ≠ [] := by
        intro z
        rw [z] at hb
        cases hb
      have hcat : EvL (tOp rCat (tIf (tTest (tOp (rNeE K) (tVar 1) (tLst tNil))) (tLst (tCons (tC (.int 10)) tNil)) (tLst tNil)) (tFld K (tVar 2) "text")) [some (.ref a), some (.ref p), some (.ref x)] H3 ((if acc = [] then [] else bs [10]) ++ bs (MA.textL (Ml.lineOf l))) := by
        refine el_cat (el_if (b := !acc.isEmpty) (et_test (ev_neE (ev_var rfl) (sq_of (e3 _ _ hx)) (by rw [bs_empty]))) (fun hb2 => ?_) fun hb2 => ?_) (ev_fld (ev_var rfl) (e3 _ _ g1) T.cl_Line T.n_Line_text lineF_text) (e3 _ _ g3) ?_
        · have : acc ≠ [] := by
            intro z
            rw [z] at hb2
            cases hb2
          rw [if_neg this]
          exact el_lst (ea_cons ev_c ea_nil) (by show 1 ≤ 100000; decide)
        · have : acc = [] := by
            cases acc with
            | nil => rfl
            | cons c r => cases hb2
          rw [if_pos this]
          exact el_lst ea_nil (by decide)
        · rw [bs_len]
          split
          · show 0 + _ ≤ _
            omega
          · show 1 + _ ≤ _
            omega
      refine ⟨_, rfl, .inl ⟨rfl, _, sq_of (e3 _ _ hx)⟩, hcat H3 (Ex.refl H3) _ fun q H4 hq e4 h4 => ⟨p, q, _, _, rfl, rfl, e4 _ _ (e3 _ _ hx), h4, ?_, _, rfl, Evl.Ex.mut ((e.trans e3).trans e4) hp, ?_⟩⟩
      · rw [List.length_append, bs_len, bs_len]
        refine sz_of ?_
        split
        · show _ + (0 + _) ≤ _
          omega
        · show _ + (1 + _) ≤ _
          omega
      · rw [hfold, upd_same]
        unfold MA.joinStep
        rw [if_neg hne]
        by_cases hz : acc = []
        · rw [if_pos hz, if_pos hz, hz]
          rfl
        · rw [if_neg hz, if_neg hz, ← bs_app, ← bs_app]
          rfl
    · have hz : MA.textL (Ml.lineOf l) = [] := by
        cases hzt : MA.textL (Ml.lineOf l) with
        | nil => rfl
        | cons c r => rw [hzt] at hb; cases hb
      refine ⟨_, rfl, e.trans e3, ?_⟩
      rw [hfold]
      unfold MA.joinStep
      rw [if_pos hz]
      exact e3 _ _ hx
  · rintro σ' H2 ⟨v, rfl, e, hx⟩
    rw [hml, List.take_of_length_le (by unfold textsL; rw [List.length_map]; exact Nat.le_refl _), MA.join_fold] at hx
    exact s_ret (ev_var rfl) fun H3 e3 => k p H3 hp (e.trans e3) (e3 _ _ hx)
theorem ok_tell_heading (T : Txt K mg) (m_tell : Met P w K mg base 1 (cTeller K) "tell" (spTell K) []) (c_tell_running : Cal P w K mg base 8 "tell_running" (spRun K) []) : Cal P w K mg base 9 "tell_heading" (spHeading K) [] := by
  refine cal_d T.d_tell_heading sc_tell_heading bi_tell_heading (fun vs H Q E h => ?_) fun f cdv A outer s H vs Q E hr h => ?_
  · obtain ⟨F, t, es, d, x, l, rfl, _⟩ := h
    rfl
  obtain ⟨F, t, es, d, x, l, rfl, hT, hL, hl, hw, k⟩ := h
  refine ⟨_, (pss_cons (ps_expr (pe_mt m_tell hr (by decide) (pv 0) (pa_cons (pe_gc rfl T.k_HEAD) (pa_cons (pe_fld (pv 1) rfl) (pa_cons (pe_lst pa_nil) pa_nil)))))
  (pss_cons (ps_expr (pe_c c_tell_running hr (by decide) rfl (pa_cons (pv 0) (pa_cons (pe_fld (pv 1) rfl) pa_nil))))
  (pss_one (ps_expr (pe_mt m_tell hr (by decide) (pv 0) (pa_cons (pe_gc rfl T.k_HEAD_END) (pa_cons (pe_fld (pv 1) rfl) (pa_cons (pe_lst pa_nil) pa_nil)))))))), ?_⟩
  have hfl : ∀ {F' H'}, Ex (out F H) (out F' H') → ∃ dx r tx, H' x = some (.ins (cLine K) dx (lineF (.ref r) (.int (MA.kindL (Ml.lineOf l))) (.int ((MA.numL (Ml.lineOf l) : Nat) : Int)) (.ref tx))) ∧ H' tx = some (.lst (bs (MA.textL (Ml.lineOf l)))) := fun {F' H'} x' => by
    obtain ⟨dx, r, tx, h1, h2, h3⟩ := hL.ex (x'.trans (out_ex F' H'))
    exact ⟨dx, r, tx, h1, h3⟩
  obtain ⟨dx, r, tx, h1, h3⟩ := hfl (Ex.refl _)
  have hwh : MA.wt (headEv l) = 1 + MA.wt (Ml.running (MA.textL (Ml.lineOf l))) + 1 := by
    unfold headEv
    rw [MA.wt_app, MA.wt_app]
    rfl
  have tl := MA.textL_le l
  refine q_tell (k := 4) rfl hT ev_c (ev_fld (ev_var rfl) h1 T.cl_Line T.n_Line_number lineF_number) EvB.nil (by omega) (by decide) fun F2 H2 g1 x2 => ?_
  have w1 := MA.wt_pushAll [(⟨4, MA.numL (Ml.lineOf l), []⟩ : Ml.Event)] es
  have w4 : MA.wt [(⟨4, MA.numL (Ml.lineOf l), []⟩ : Ml.Event)] = 1 := rfl
  obtain ⟨dx2, r2, tx2, h12, h32⟩ := hfl x2
  refine q_run (r := tx2) rfl g1 (EvB.of (ev_fld (ev_var rfl) h12 T.cl_Line T.n_Line_text lineF_text) (sq_of h32)) (by omega) (by omega) fun F3 H3 g2 x3 => ?_
  have x23 := x2.trans x3
  obtain ⟨dx3, r3, tx3, h13, h33⟩ := hfl x23
  have w2 := MA.wt_pushAll (Ml.running (MA.textL (Ml.lineOf l))) (MA.pushAll es [(⟨4, MA.numL (Ml.lineOf l), []⟩ : Ml.Event)])
  refine s_tell (k := 5) rfl g2 ev_c (ev_fld (ev_var rfl) h13 T.cl_Line T.n_Line_number lineF_number) EvB.nil (by omega) (by decide) fun F4 H4 g4 x4 => k F4 H4 ?_ (x23.trans x4)
  unfold headEv
  rw [MA.pushAll_app, MA.pushAll_app]
  exact g4
theorem ok_tell_code (T : Txt K mg) (m_tell : Met P w K mg base 1 (cTeller K) "tell" (spTell K) []) (c_code_end : Cal P w K mg base 4 "code_end" (spCodeEnd K) []) : Cal P w K mg base 5 "tell_code" (spCode K) [] := by
  refine cal_d T.d_tell_code sc_tell_code bi_tell_code (fun vs H Q E h => ?_) fun f cdv A outer s H vs Q E hr h => ?_
  · obtain ⟨F, t, es, d, a, ls, i, rfl, _⟩ := h
    rfl
  obtain ⟨F, t, es, d, a, ls, i, rfl, hT, hL, hi, hs, hw, k⟩ := h
  have hwn := hT.win
  have hLH := hL.ex (out_ex F H)
  have hli : ls[i]? = some ls[i] := List.getElem?_eq_getElem hi
  have hgd : ls.getD i [] = ls[i] := by
    rw [List.getD_eq_getElem?_getD, hli]
    rfl
  refine ⟨_, (pss_cons (ps_set (i := 3) sc_tell_code.nd rfl (Or.inl rfl) (pe_c c_code_end hr (by decide) rfl (pa_cons (pv 1) (pa_cons (pe_op op_add (pv 2) pe_int) pa_nil))))
  (pss_cons (ps_expr (pe_mt m_tell hr (by decide) (pv 0) (pa_cons (pe_gc rfl T.k_BLOCK) (pa_cons pe_int (pa_cons (pe_fld (pe_ix ix_list (pv 1) (pv 2) (fun _ _ => rfl)) rfl) pa_nil)))))
  (pss_cons (ps_for PassesOwn.never rfl (pi_list (pe_slice sl_list (pv 1) (po_some (pe_op op_add (pv 2) pe_int)) (po_some (pv 3)))) (pg_name (i := 4) sc_tell_code.nd rfl (Or.inl rfl))
  (pss_one (ps_expr (pe_mt m_tell hr (by decide) (pv 0) (pa_cons (pe_gc rfl T.k_BLOCK_LINE) (pa_cons pe_int (pa_cons (pe_fld (pv 4) rfl) pa_nil)))))))
  (pss_cons (ps_expr (pe_mt m_tell hr (by decide) (pv 0) (pa_cons (pe_gc rfl T.k_BLOCK_END) (pa_cons pe_int (pa_cons (pe_lst pa_nil) pa_nil)))))
  (pss_one (ps_ret (pe_op op_add (pv 3) pe_int))))))), ?_⟩
  refine q_asg (ev_call (ea_cons (ev_var rfl) (ea_cons (ev_add (k := ((i + 1 : Nat) : Int)) (ev_var rfl) ev_c (by omega)) ea_nil)) (v_codeEnd hLH hs)) fun H1 e1 => ?_
  have hT1 := hT.ex e1
  have hL1 := hLH.ex e1
  obtain ⟨xs, hx0, hlen, hml, hat⟩ := hL1.sq
  obtain ⟨x, hxi, hxl⟩ := hat i _ hli
  obtain ⟨dx, r, tx, g1, g2, g3⟩ := hxl
  have hcl : (MA.spanF ncode ls (i + 1)) ≤ ls.length := MA.spanF_le (by omega)
  have hge : i + 1 ≤ MA.spanF ncode ls (i + 1) := MA.spanF_ge
  have hwc : MA.wt (codeEv ls i) = 1 + (MA.textL (Ml.lineOf ls[i])).length + MA.wt ((MA.cut ls (i + 1) (MA.spanF ncode ls (i + 1))).map fun l => (⟨11, 0, l⟩ : Ml.Event)) + 1 := by
    unfold codeEv
    rw [MA.wt_app, MA.wt_app, hgd]
    rfl
  generalize hce : MA.spanF ncode ls (i + 1) = ce at hcl hge hwc
  refine q_tell (k := 10) (n := 0) (l := MA.textL (Ml.lineOf ls[i])) rfl hT1 ev_c ev_c (EvB.of (ev_fld (ev_ixL (i := i) (ev_var rfl) (ev_var rfl) (sq_of hx0) rfl hxi) g1 T.cl_Line T.n_Line_text lineF_text) (sq_of g3)) (by omega) (by decide) fun F2 H2 hT2 x2 => ?_
  have x02 : Ex (out F H) (out F2 H2) := (out_mono e1).trans x2
  have w1 := MA.wt_pushAll [(⟨10, 0, MA.textL (Ml.lineOf ls[i])⟩ : Ml.Event)] es
  have w1' : MA.wt [(⟨10, 0, MA.textL (Ml.lineOf ls[i])⟩ : Ml.Event)] = 1 + (MA.textL (Ml.lineOf ls[i])).length := rfl
  generalize hes1 : MA.pushAll es [(⟨10, 0, MA.textL (Ml.lineOf ls[i])⟩ : Ml.Event)] = es1 at hT2 w1
  obtain ⟨ys, hy00, hylen, hyml, hyat⟩ := hL.sq
  have hy0 := x02 _ _ hy00
  have hcut : EvL (tSl (rSlL K) (tVar 1) (tPart (tOp (rI0 fun i j => .int (i + j)) (tVar 2) (tC (.int 1)))) (tPart (tVar 3))) [some (.ref t), some (.ref a), some (.int (i : Int)), some (.int (ce : Int)), none] H2 (MA.cut (ys.map V.ref) (i + 1) ce) := fun H6 e6 Q2 q2 =>
    (el_sl (ev_var rfl) (eo_some (ev_add (k := ((i + 1 : Nat) : Int)) (ev_var rfl) ev_c (by omega))) (eo_some (ev_var rfl)) (sq_of (out_of hy0).2)) H6 e6 Q2 fun p H7 hp e7 h7 => q2 p H7 hp e7 (by rw [h7, cutV_nat])
  have hclen : (MA.cut (ys.map V.ref) (i + 1) ce).length = ce - (i + 1) := MA.cut_len (by rw [hyml]; exact hcl)
  let lev : Nat → List Ml.Event := fun j => (MA.cut ls (i + 1) (i + 1 + j)).map fun l => (⟨11, 0, l⟩ : Ml.Event)
  have hlev0 : lev 0 = [] := by
    show (MA.cut ls (i + 1) (i + 1)).map _ = []
    rw [MA.cut_nil]
    rfl
  refine q_forNLn hcut (fun p j σ' H' => ∃ (F' : Addr → Prop) (v : Option V), σ' = [some (.ref t), some (.ref a), some (.int (i : Int)), some (.int (ce : Int)), v] ∧ TellAt K F' H' t (MA.pushAll es1 (lev j)) d ∧ Ex (out F H) (out F' H') ∧ out F' H' p = some (.lst (MA.cut (ys.map V.ref) (i + 1) ce)))
    (fun p H3 hp e3 h3 => ⟨F2, none, rfl, by rw [hlev0]; exact hT2.ex e3, x02.trans (out_mono e3), hT2.win.new hp h3⟩) (fun p j σ' H' _ ⟨F', v, _, _, _, h⟩ => sq_of (out_of h).2) ?_ ?_
  · rintro p j y σ' H3 hj ⟨F3, v, rfl, hT3, x3, hp3⟩
    have hjl := (List.getElem?_eq_some_iff.mp hj).1
    rw [hclen] at hjl
    have hlj : ls[i + 1 + j]? = some (ls[i + 1 + j]'(by omega)) := List.getElem?_eq_getElem (by omega)
    generalize ls[i + 1 + j]'(by omega) = l at hlj
    obtain ⟨z, hzi, hz0⟩ := hyat _ _ hlj
    have hj2 : y = V.ref z := by
      unfold MA.cut at hj
      rw [List.getElem?_drop, List.getElem?_take, if_pos (by omega), hzi] at hj
      exact (Option.some.inj hj).symm
    subst hj2
    have hzl : LineAt K (out F3 H3) z l := hz0.ex x3
    obtain ⟨dx3, r3, tx3, k1, k2, k3⟩ := hzl.ex (out_ex F3 H3)
    have hlev : lev (j + 1) = lev j ++ [(⟨11, 0, l⟩ : Ml.Event)] := by
      show (MA.cut ls (i + 1) (i + 1 + (j + 1))).map _ = (MA.cut ls (i + 1) (i + 1 + j)).map _ ++ _
      rw [show i + 1 + (j + 1) = (i + 1 + j) + 1 by omega, MA.cut_snoc (by omega) hlj, List.map_append]
      rfl
    have hwl : MA.wt (lev (j + 1)) ≤ MA.wt ((MA.cut ls (i + 1) ce).map fun l => (⟨11, 0, l⟩ : Ml.Event)) := by
      rw [cut_split (n := i + 1 + (j + 1)) (by omega) (by omega) hcl, List.map_append, MA.wt_app]
      exact Nat.le_add_right _ _
    rw [hlev, MA.wt_app] at hwl
    have w2 := MA.wt_pushAll (lev j) es1
    have w11 : MA.wt [(⟨11, 0, l⟩ : Ml.Event)] = 1 + l.length := rfl
    refine s_tell (k := 11) (n := 0) (l := l) rfl hT3 ev_c ev_c (EvB.of (ev_fld (ev_var rfl) k1 T.cl_Line T.n_Line_row lineF_row) (sq_of k2)) (by omega) (by decide) fun F4 H4 hT4 x4 => ⟨F4, _, rfl, ?_, x3.trans x4, x4 _ _ hp3⟩
    rw [hlev, MA.pushAll_app]
    exact hT4
  · rintro p σ' H3 ⟨F3, v, rfl, hT3, x3, hp3⟩
    rw [hclen] at hT3
    have hlev : lev (ce - (i + 1)) = (MA.cut ls (i + 1) ce).map fun l => (⟨11, 0, l⟩ : Ml.Event) := by
      show (MA.cut ls (i + 1) (i + 1 + (ce - (i + 1)))).map _ = _
      rw [show i + 1 + (ce - (i + 1)) = ce by omega]
    rw [hlev] at hT3
    have w2 := MA.wt_pushAll ((MA.cut ls (i + 1) ce).map fun l => (⟨11, 0, l⟩ : Ml.Event)) es1
    refine q_tell (k := 12) (n := 0) rfl hT3 ev_c ev_c EvB.nil (by omega) (by decide) fun F4 H4 hT4 x4 => ?_
    refine s_ret (ev_add (k := ((ce + 1 : Nat) : Int)) (ev_var rfl) ev_c (by omega)) fun H5 e5 => ?_
    have g := k F4 H5 ?_ ((x3.trans x4).trans (out_mono e5))
    · rw [hce] at g
      exact g
    · unfold codeEv
      rw [hgd, hce, MA.pushAll_app, MA.pushAll_app, hes1]
      exact hT4.ex e5
end
end Mk
set_option Elab.async false
set_option linter.all false
set_option maxRecDepth 100000
set_option maxHeartbeats 4000000
namespace Mk
open PySem PySem.Spec PyProof.Rows L2 C8 Evl
theorem lsum_cut (ls : List Ml.Bytes) (b e : Nat) : MA.lsum (MA.cut ls b e) ≤ MA.lsum ls := by
  unfold MA.cut
  have h1 := MA.lsum_drop b (ls.take e)
  have h2 := MA.lsum_drop e ls
  omega
theorem join_texts_len (ls : List Ml.Bytes) : (Ml.join (textsL ls)).length ≤ MA.lsum ls := by
  have h := join_part ls ls.length
  rw [List.take_of_length_le (by unfold textsL; rw [List.length_map]; exact Nat.le_refl _), MA.join_fold] at h
  exact h
theorem texts_block {ls : List Ml.Bytes} {i : Nat} {l : Ml.Bytes} (hl : ls[i]? = some l) : textsL (MA.cut ls i (MA.spanF MA.isPlain ls (i + 1))) = MA.textL (Ml.lineOf l) :: Ml.plains (ls.drop (i + 1)) ∧
    (ls.drop (i + 1)).drop (Ml.plains (ls.drop (i + 1))).length = ls.drop (MA.spanF MA.isPlain ls (i + 1)) := by
  have h1 := MA.plains_at ls (i + 1)
  have hge : i + 1 ≤ MA.spanF MA.isPlain ls (i + 1) := MA.spanF_ge
  have hlt := (List.getElem?_eq_some_iff.mp hl).1
  have hle : MA.spanF MA.isPlain ls (i + 1) ≤ ls.length := MA.spanF_le (by omega)
  constructor
  · rw [cut_split (n := i + 1) (by omega) hge hle, cut_one hl, h1.1]
    rfl
  · rw [h1.2, List.drop_drop]
    congr 1
    omega
theorem code_block {ls : List Ml.Bytes} {i : Nat} : MA.fbody (ls.drop (i + 1)) = MA.cut ls (i + 1) (MA.spanF ncode ls (i + 1)) ∧ (ls.drop (i + 1)).drop ((MA.fbody (ls.drop (i + 1))).length + 1) = ls.drop (MA.spanF ncode ls (i + 1) + 1) := by
  have h1 : MA.fbody (ls.drop (i + 1)) = (ls.drop (i + 1)).takeWhile ncode := rfl
  constructor
  · rw [h1, MA.cut_eq, MA.spanF_take]
  · rw [List.drop_drop]
    congr 1
def spBlock (K : PySem.W.Frag) : Sp := fun vs H Q _ => ∃ F t es o a ls i, vs = [.ref t, .ref a, .int ((i : Nat) : Int)] ∧ TellAt K F H t es (((o : Nat) : Int) - 1) ∧ LinesAt K (out F H) a ls ∧ i < ls.length ∧ Ml.lineOf (ls.getD i []) ≠ .blank ∧ Small ls ∧ MA.wt es + MA.wt (MA.shl o (ls.drop i)) ≤ 900000 ∧
  ∀ F' H' o' X n, TellAt K F' H' t (MA.pushAll es X) (((o' : Nat) : Int) - 1) → MA.shl o (ls.drop i) = X ++ MA.shl o' (ls.drop n) → i < n → Ex (out F H) (out F' H') → Q (.int ((n : Nat) : Int)) H'
def EvsAt (G : Hp) (p : Addr) (es : List Ml.Event) : Prop := ∃ ps : List (Addr × Addr), G p = some (.lst (ps.map fun q => V.ref q.1)) ∧ Each (EvAt G) ps es
theorem EvsAt.ex {G G' : Hp} {p : Addr} {es : List Ml.Event} (e : Ex G G') (h : EvsAt G p es) : EvsAt G' p es := by
  obtain ⟨ps, h1, h2⟩ := h
  exact ⟨ps, e _ _ h1, h2.mono fun q v hq => hq.ex e⟩
def spEvents (K : PySem.W.Frag) : Sp := fun vs H Q _ => ∃ a x, vs = [.ref a] ∧ SqL K H a (bs x) ∧ x.length ≤ 20000 ∧ ∀ p H', H p = none → Ex H H' → (∀ F, Win F H → EvsAt (out F H') p (Ml.events x)) → Q (.ref p) H'
section
variable {P : Program} {w : World} {K : PySem.W.Frag} {mg : Str → Option Value} {base : Heap}
theorem ok_tell_block (T : Txt K mg) (m_tell : Met P w K mg base 1 (cTeller K) "tell" (spTell K) []) (c_close_items : Cal P w K mg base 2 "close_items" (spClose K) []) (c_tell_code : Cal P w K mg base 5 "tell_code" (spCode K) []) (c_tell_heading : Cal P w K mg base 9 "tell_heading" (spHeading K) [])
    (c_plain_end : Cal P w K mg base 1 "plain_end" (spPlainEnd K) []) (c_joined_texts : Cal P w K mg base 1 "joined_texts" (spJoined K) []) (c_tell_item : Cal P w K mg base 9 "tell_item" (spItem K) []) (c_tell_running : Cal P w K mg base 8 "tell_running" (spRun K) []) : Cal P w K mg base 10 "tell_block" (spBlock K) [] := by
  refine cal_d T.d_tell_block sc_tell_block bi_tell_block (fun vs H Q E h => ?_) fun f cdv A outer s H vs Q E hr h => ?_
  · obtain ⟨F, t, es, o, a, ls, i, rfl, _⟩ := h
    rfl
  obtain ⟨F, t, es, o, a, ls, i, rfl, hT, hL, hi, hnb, hs, hw, k⟩ := h
  have hs' : MA.lsum ls ≤ 20001 := hs
  have hli : ls[i]? = some ls[i] := List.getElem?_eq_getElem hi
  have hgd : ls.getD i [] = ls[i] := by
    rw [List.getD_eq_getElem?_getD, hli]
    rfl
  rw [hgd] at hnb
  have hd := MA.drop_at hli
  rw [hd] at hw k
  obtain ⟨xs, hx0, hlen, hml, hat⟩ := hL.sq
  obtain ⟨x, hxi, hxl⟩ := hat i _ hli
  generalize hlg : ls[i] = l at hli hgd hnb hd hw k hxl
  refine ⟨_, (pss_cons (ps_set (i := 3) sc_tell_block.nd rfl (Or.inl rfl) (pe_ix ix_list (pv 1) (pv 2) (fun _ _ => rfl)))
  (pss_cons (ps_if (pt_cmpR op_ne (pe_fld (pv 3) rfl) (pe_gc rfl T.k_ITEM) (nomark _))
  (pss_one (ps_expr (pe_c c_close_items hr (by decide) rfl (pa_cons (pv 0) (pa_cons (pe_un un_neg pe_int) pa_nil)))))
  pss_nil)
  (pss_cons (ps_if (pt_cmpR op_eq (pe_fld (pv 3) rfl) (pe_gc rfl T.k_FENCE) (nomark _))
  (pss_one (ps_ret (pe_c c_tell_code hr (by decide) rfl (pa_cons (pv 0) (pa_cons (pv 1) (pa_cons (pv 2) pa_nil))))))
  pss_nil)
  (pss_cons (ps_if (pt_cmpR op_eq (pe_fld (pv 3) rfl) (pe_gc rfl T.k_HEADING) (nomark _))
  (pss_cons (ps_expr (pe_c c_tell_heading hr (by decide) rfl (pa_cons (pv 0) (pa_cons (pv 3) pa_nil))))
  (pss_one (ps_ret (pe_op op_add (pv 2) pe_int))))
  pss_nil)
  (pss_cons (ps_set (i := 4) sc_tell_block.nd rfl (Or.inl rfl) (pe_c c_plain_end hr (by decide) rfl (pa_cons (pv 1) (pa_cons (pe_op op_add (pv 2) pe_int) pa_nil))))
  (pss_cons (ps_set (i := 5) sc_tell_block.nd rfl (Or.inl rfl) (pe_c c_joined_texts hr (by decide) rfl (pa_cons (pe_slice sl_list (pv 1) (po_some (pv 2)) (po_some (pv 4))) pa_nil)))
  (pss_cons (ps_if (pt_cmpR op_eq (pe_fld (pv 3) rfl) (pe_gc rfl T.k_ITEM) (nomark _))
  (pss_cons (ps_expr (pe_c c_tell_item hr (by decide) rfl (pa_cons (pv 0) (pa_cons (pe_fld (pv 3) rfl) (pa_cons (pv 5) pa_nil)))))
  (pss_one (ps_ret (pv 4))))
  pss_nil)
  (pss_cons (ps_expr (pe_mt m_tell hr (by decide) (pv 0) (pa_cons (pe_gc rfl T.k_PARAGRAPH) (pa_cons pe_int (pa_cons (pe_lst pa_nil) pa_nil)))))
  (pss_cons (ps_expr (pe_c c_tell_running hr (by decide) rfl (pa_cons (pv 0) (pa_cons (pv 5) pa_nil))))
  (pss_cons (ps_expr (pe_mt m_tell hr (by decide) (pv 0) (pa_cons (pe_gc rfl T.k_PARAGRAPH_END) (pa_cons pe_int (pa_cons (pe_lst pa_nil) pa_nil)))))
  (pss_one (ps_ret (pv 4))))))))))))), ?_⟩
  refine q_asg (ev_ixL (i := i) (ev_var rfl) (ev_var rfl) (sq_of (out_of hx0).2) rfl hxi) fun H1 e1 => ?_
  have hT1 := hT.ex e1
  have x1 : Ex (out F H) (out F H1) := out_mono e1
  have hkd : ∀ {F' H'} {σ : L2.St}, Ex (out F H) (out F' H') → σ[3]? = some (some (.ref x)) → Ev (tFld K (tVar 3) "kind") σ H' (.int (MA.kindL (Ml.lineOf l))) := fun {F' H' σ} x' h3 => by
    obtain ⟨dx, r, tx, h1, h2, h4⟩ := hxl.ex (x'.trans (out_ex F' H'))
    exact ev_fld (ev_var h3) h1 T.cl_Line T.n_Line_kind lineF_kind
  have hlw : MA.wt (Ml.leave o) = 2 * o := MA.leave_wt o
  have hlm := hs.mem (List.mem_of_getElem? hli)
  have hclose : ∀ (D : Ends) (tz : TS), MA.wt (Ml.leave o) + MA.wt es ≤ 900000 → MA.kindL (Ml.lineOf l) ≠ 3 → (∀ F2 H2, TellAt K F2 H2 t (MA.pushAll es (Ml.leave o)) (((0 : Nat) : Int) - 1) → Ex (out F H) (out F2 H2) → tz D [some (.ref t), some (.ref a), some (.int (i : Int)), some (.ref x), none, none] H2) →
      tSeq (tIfS (tTest (tOp rNe (tFld K (tVar 3) "kind") (tC (.int 3)))) (tDrop (tCall (spClose K) [] C8.E0 (tCons (tVar 0) (tCons (tUn (rU fun i => .int (-i)) (tC (.int 1))) tNil)))) tNext) tz D [some (.ref t), some (.ref a), some (.int (i : Int)), some (.ref x), none, none] H1 := fun D tz hw1 hk kz => by
    refine q_when (b := true) (et_test (ev_neI (hkd x1 rfl) ev_c (by rw [decide_eq_false hk]; rfl))) (fun _ H2 e2 => ?_) (fun z => Bool.noConfusion z)
    have hn : (((o : Int) - 1) - (-1)).toNat = o := by omega
    refine ⟨_, rfl, (ev_neg ev_c rfl) H2 (Ex.refl H2) _ fun H3 e3 => ⟨F, t, es, _, -1, rfl, (hT1.ex e2).ex e3, by omega, by rw [hn]; omega, fun F2 H4 g1 g2 => ?_⟩⟩
    rw [hn] at g1
    exact kz F2 H4 g1 ((x1.trans (out_mono (e2.trans e3))).trans g2)
  have hpe1 : i + 1 ≤ MA.spanF MA.isPlain ls (i + 1) := MA.spanF_ge
  have hpe2 : MA.spanF MA.isPlain ls (i + 1) ≤ ls.length := MA.spanF_le (by omega)
  obtain ⟨tb1, tb2⟩ := texts_block hli
  have hjl : (Ml.join (textsL (MA.cut ls i (MA.spanF MA.isPlain ls (i + 1))))).length ≤ 20001 := Nat.le_trans (join_texts_len _) (Nat.le_trans (lsum_cut _ _ _) hs')
  have htext : ∀ {F2 H2} {tz : TS} {D : Ends}, Ex (out F H) (out F2 H2) → (∀ q H3, H2 q = none → Ex H2 H3 → H3 q = some (.lst (bs (Ml.join (textsL (MA.cut ls i (MA.spanF MA.isPlain ls (i + 1))))))) → tz D [some (.ref t), some (.ref a), some (.int (i : Int)), some (.ref x), some (.int ((MA.spanF MA.isPlain ls (i + 1) : Nat) : Int)), some (.ref q)] H3) →
      tSeq (tAsg (tCall (spPlainEnd K) [] C8.E0 (tCons (tVar 1) (tCons (tOp (rI0 fun i j => .int (i + j)) (tVar 2) (tC (.int 1))) tNil))) (gName 4)) (tSeq (tAsg (tCall (spJoined K) [] C8.E0 (tCons (tSl (rSlL K) (tVar 1) (tPart (tVar 2)) (tPart (tVar 4))) tNil)) (gName 5)) tz) D
        [some (.ref t), some (.ref a), some (.int (i : Int)), some (.ref x), none, none] H2 := fun {F2 H2 tz D} x2 kz => by
    have hL2 := (hL.ex x2).ex (out_ex F2 H2)
    refine q_asg (ev_call (ea_cons (ev_var rfl) (ea_cons (ev_add (k := ((i + 1 : Nat) : Int)) (ev_var rfl) ev_c (by omega)) ea_nil)) (v_plainEnd hL2 hs)) fun H3 e3 => ?_
    obtain ⟨ys, hy1, hy2⟩ := (hL2.ex e3).each
    have hev : EvL (tCall (spJoined K) [] C8.E0 (tCons (tSl (rSlL K) (tVar 1) (tPart (tVar 2)) (tPart (tVar 4))) tNil)) [some (.ref t), some (.ref a), some (.int (i : Int)), some (.ref x), some (.int ((MA.spanF MA.isPlain ls (i + 1) : Nat) : Int)), none] H3 (bs (Ml.join (textsL (MA.cut ls i (MA.spanF MA.isPlain ls (i + 1)))))) := fun H4 e4 Q4 q4 =>
      (el_sl (ev_var rfl) (eo_some (ev_var rfl)) (eo_some (ev_var rfl)) (sq_of hy1)) H4 e4 _ fun p H5 hp e5 h5 => by
        rw [cutV_nat, cut_map] at h5
        exact v_joined (ls := MA.cut ls i (MA.spanF MA.isPlain ls (i + 1))) (LinesAt.mk' h5 ((hy2.cut _ _).mono fun y m hy => hy.ex (e4.trans e5))) (Nat.le_trans (lsum_cut _ _ _) hs') H5 (Ex.refl H5) Q4 (fun q H6 hq e6 hx => q4 q H6 (fresh_back e5 hq) (e5.trans e6) hx) C8.E0
    exact q_asgL hev fun q H4 hq e4 h4 => kz q H4 (fresh_back e3 hq) (e3.trans e4) h4
  rcases MA.line_cases l with ⟨e, _⟩ | ⟨tl, e, hlt⟩ | ⟨n, tl, e, hlt, _⟩ | ⟨d, tl, e, hlt, hdl⟩ | ⟨tl, e, hlt⟩
  · exact absurd e hnb
  ·
    have hk : MA.kindL (Ml.lineOf l) = 1 := by rw [e]; rfl
    have hsh := MA.shl_fence (o := o) (ls := ls.drop (i + 1)) e
    obtain ⟨cb1, cb2⟩ := code_block (ls := ls) (i := i)
    have hce : codeEv ls i = [⟨10, 0, tl⟩] ++ (MA.fbody (ls.drop (i + 1))).map (fun l => ⟨11, 0, l⟩) ++ [Ml.ev 12] := by
      unfold codeEv
      rw [hgd, e, cb1]
      rfl
    have hsh2 : MA.shl o (l :: ls.drop (i + 1)) = (Ml.leave o ++ codeEv ls i) ++ MA.shl 0 (ls.drop (MA.spanF ncode ls (i + 1) + 1)) := by
      rw [hsh, hce, cb2]
      simp only [List.append_assoc]
    rw [hsh2, MA.wt_app, MA.wt_app] at hw
    refine hclose _ _ (by omega) (by rw [hk]; decide) fun F2 H2 hT2 x2 => ?_
    have w1 := MA.wt_pushAll (Ml.leave o) es
    refine q_when (b := true) (et_test (ev_eqI (hkd x2 rfl) ev_c (by rw [hk]; rfl))) (fun _ H3 e3 => ?_) (fun z => Bool.noConfusion z)
    have hge : i + 1 ≤ MA.spanF ncode ls (i + 1) := MA.spanF_ge
    refine ⟨_, rfl, _, rfl, _, rfl, F2, t, _, _, a, ls, i, rfl, hT2.ex e3, (hL.ex x2).ex (out_mono e3), hi, hs, by omega, fun F4 H4 g1 g2 => k F4 H4 0 (Ml.leave o ++ codeEv ls i) _ ?_ hsh2 (by omega) ((x2.trans (out_mono e3)).trans g2)⟩
    rw [MA.pushAll_app]
    exact g1
  ·
    have hk : MA.kindL (Ml.lineOf l) = 2 := by rw [e]; rfl
    have hsh := MA.shl_heading (o := o) (ls := ls.drop (i + 1)) e
    have hhe : headEv l = [⟨4, n, []⟩] ++ Ml.running tl ++ [⟨5, n, []⟩] := by
      unfold headEv
      rw [e]
      rfl
    have hsh2 : MA.shl o (l :: ls.drop (i + 1)) = (Ml.leave o ++ headEv l) ++ MA.shl 0 (ls.drop (i + 1)) := by
      rw [hsh, hhe]
      simp only [List.append_assoc]
    rw [hsh2, MA.wt_app, MA.wt_app] at hw
    refine hclose _ _ (by omega) (by rw [hk]; decide) fun F2 H2 hT2 x2 => ?_
    have w1 := MA.wt_pushAll (Ml.leave o) es
    refine q_when (b := false) (et_test (ev_eqI (hkd x2 rfl) ev_c (by rw [hk]; rfl))) (fun z => Bool.noConfusion z) (fun _ H3 e3 => ?_)
    have x3 := x2.trans (out_mono (F := F2) e3)
    refine q_when (b := true) (et_test (ev_eqI (hkd x3 rfl) ev_c (by rw [hk]; rfl))) (fun _ H4 e4 => ?_) (fun z => Bool.noConfusion z)
    have x4 := x3.trans (out_mono (F := F2) e4)
    refine ⟨_, rfl, _, rfl, F2, t, _, _, x, l, rfl, (hT2.ex e3).ex e4, hxl.ex x4, by omega, by omega, fun F5 H5 g1 g2 => ?_⟩
    refine s_ret (ev_add (k := ((i + 1 : Nat) : Int)) (ev_var rfl) ev_c (by omega)) fun H6 e6 => k F5 H6 0 (Ml.leave o ++ headEv l) (i + 1) ?_ hsh2 (by omega) ((x4.trans g2).trans (out_mono e6))
    rw [MA.pushAll_app]
    exact g1.ex e6
  ·
    have hk : MA.kindL (Ml.lineOf l) = 3 := by rw [e]; rfl
    have hsh := MA.shl_item (o := o) (ls := ls.drop (i + 1)) e
    have htb : textsL (MA.cut ls i (MA.spanF MA.isPlain ls (i + 1))) = tl :: Ml.plains (ls.drop (i + 1)) := by
      rw [tb1, e]
      rfl
    have hsh2 : MA.shl o (l :: ls.drop (i + 1)) = itemEv o d (Ml.join (textsL (MA.cut ls i (MA.spanF MA.isPlain ls (i + 1))))) ++ MA.shl (min d o + 1) (ls.drop (MA.spanF MA.isPlain ls (i + 1))) := by
      rw [hsh, htb, tb2]
      rfl
    rw [hsh2, MA.wt_app] at hw
    refine q_when (b := false) (et_test (ev_neI (hkd x1 rfl) ev_c (by rw [hk]; rfl))) (fun z => Bool.noConfusion z) (fun _ H2 e2 => ?_)
    have x2 := x1.trans (out_mono (F := F) e2)
    refine q_when (b := false) (et_test (ev_eqI (hkd x2 rfl) ev_c (by rw [hk]; rfl))) (fun z => Bool.noConfusion z) (fun _ H3 e3 => ?_)
    have x3 := x2.trans (out_mono (F := F) e3)
    refine q_when (b := false) (et_test (ev_eqI (hkd x3 rfl) ev_c (by rw [hk]; rfl))) (fun z => Bool.noConfusion z) (fun _ H4 e4 => ?_)
    have x4 := x3.trans (out_mono (F := F) e4)
    refine htext x4 fun q H5 hq e5 h5 => ?_
    have x5 := x4.trans (out_mono (F := F) e5)
    have hT5 := (((hT1.ex e2).ex e3).ex e4).ex e5
    refine q_when (b := true) (et_test (ev_eqI (hkd x5 rfl) ev_c (by rw [hk]; rfl))) (fun _ H6 e6 => ?_) (fun z => Bool.noConfusion z)
    have x6 := x5.trans (out_mono (F := F) e6)
    obtain ⟨dx, r, tx, h1, h2, h3⟩ := hxl.ex (x6.trans (out_ex F H6))
    have hnum : MA.numL (Ml.lineOf l) = d := by rw [e]; rfl
    rw [hnum] at h1
    have hT4 := ((hT1.ex e2).ex e3).ex e4
    refine ⟨_, rfl, _, rfl, x, cLine K, dx, _, _, rfl, h1, T.cl_Line, T.n_Line_number, lineF_number, _, rfl, F, t, es, o, d, q, _, rfl, hT5.ex e6, hT4.win.new hq (e6 _ _ h5), by omega, by omega, fun F7 H7 g1 g2 => ?_⟩
    exact s_ret (ev_var rfl) fun H8 e8 => k F7 H8 (min d o + 1) _ _ (g1.ex e8) hsh2 (by omega) ((x6.trans g2).trans (out_mono e8))
  ·
    have hk : MA.kindL (Ml.lineOf l) = 4 := by rw [e]; rfl
    have hsh := MA.shl_plain (o := o) (ls := ls.drop (i + 1)) e
    have htb : textsL (MA.cut ls i (MA.spanF MA.isPlain ls (i + 1))) = tl :: Ml.plains (ls.drop (i + 1)) := by
      rw [tb1, e]
      rfl
    have hsh2 : MA.shl o (l :: ls.drop (i + 1)) = (Ml.leave o ++ ([Ml.ev 2] ++ (Ml.running (Ml.join (textsL (MA.cut ls i (MA.spanF MA.isPlain ls (i + 1))))) ++ [Ml.ev 3]))) ++ MA.shl 0 (ls.drop (MA.spanF MA.isPlain ls (i + 1))) := by
      rw [hsh, htb, tb2]
      simp only [List.append_assoc]
    rw [hsh2, MA.wt_app, MA.wt_app, MA.wt_app, MA.wt_app] at hw
    have w2' : MA.wt [Ml.ev 2] = 1 := rfl
    have w3' : MA.wt [Ml.ev 3] = 1 := rfl
    refine hclose _ _ (by omega) (by rw [hk]; decide) fun F2 H2 hT2 x2 => ?_
    have w1 := MA.wt_pushAll (Ml.leave o) es
    refine q_when (b := false) (et_test (ev_eqI (hkd x2 rfl) ev_c (by rw [hk]; rfl))) (fun z => Bool.noConfusion z) (fun _ H3 e3 => ?_)
    have x3 := x2.trans (out_mono (F := F2) e3)
    refine q_when (b := false) (et_test (ev_eqI (hkd x3 rfl) ev_c (by rw [hk]; rfl))) (fun z => Bool.noConfusion z) (fun _ H4 e4 => ?_)
    have x4 := x3.trans (out_mono (F := F2) e4)
    have hT4 := (hT2.ex e3).ex e4
    refine htext x4 fun q H5 hq e5 h5 => ?_
    have x5 := x4.trans (out_mono (F := F2) e5)
    have hT5 := hT4.ex e5
    have hq5 : out F2 H5 q = some (.lst (bs (Ml.join (textsL (MA.cut ls i (MA.spanF MA.isPlain ls (i + 1))))))) := hT4.win.new hq h5
    refine q_when (b := false) (et_test (ev_eqI (hkd x5 rfl) ev_c (by rw [hk]; rfl))) (fun z => Bool.noConfusion z) (fun _ H6 e6 => ?_)
    have x56 := out_mono (F := F2) e6
    refine q_tell (k := 2) (n := 0) rfl (hT5.ex e6) ev_c ev_c EvB.nil (by omega) (by decide) fun F7 H7 hT7 x7 => ?_
    have x57 := x56.trans x7
    have w2 := MA.wt_pushAll [(⟨2, 0, []⟩ : Ml.Event)] (MA.pushAll es (Ml.leave o))
    have w2'' : MA.wt [(⟨2, 0, []⟩ : Ml.Event)] = 1 := rfl
    refine q_run (r := q) rfl hT7 (EvB.of (ev_var rfl) (sq_of (out_of (x57 _ _ hq5)).2)) (by omega) (by omega) fun F8 H8 hT8 x8 => ?_
    have w3 := MA.wt_pushAll (Ml.running (Ml.join (textsL (MA.cut ls i (MA.spanF MA.isPlain ls (i + 1)))))) (MA.pushAll (MA.pushAll es (Ml.leave o)) [(⟨2, 0, []⟩ : Ml.Event)])
    refine q_tell (k := 3) (n := 0) rfl hT8 ev_c ev_c EvB.nil (by omega) (by decide) fun F9 H9 hT9 x9 => ?_
    refine s_ret (ev_var rfl) fun H10 e10 => k F9 H10 0 _ _ ?_ hsh2 (by omega) ((((x5.trans x57).trans x8).trans x9).trans (out_mono e10))
    rw [MA.pushAll_app, MA.pushAll_app, MA.pushAll_app]
    exact hT9.ex e10
theorem ok_events_of (T : Txt K mg) (k_Teller : Mak P w K mg base 1 "Teller" (cTeller K) (spTellerInit K) []) (c_lines_of : Cal P w K mg base 4 "lines_of" (spLinesOf K) []) (c_tell_block : Cal P w K mg base 10 "tell_block" (spBlock K) []) (c_close_items : Cal P w K mg base 2 "close_items" (spClose K) []) : Cal P w K mg base 11 "events_of" (spEvents K) [] := by
  refine cal_d T.d_events_of sc_events_of bi_events_of (fun vs H Q E h => ?_) fun f cdv A outer s H vs Q E hr h => ?_
  · obtain ⟨a, x, rfl, _⟩ := h
    rfl
  obtain ⟨a, x, rfl, hS, hx, k⟩ := h
  refine ⟨_, (pss_cons (ps_par3 (i := 1) (j := 2) (l := 3) (by rfl) sc_events_of.nd rfl rfl rfl (by decide) (by decide) (by decide) rfl rfl rfl (pa_cons (pe_mk0 k_Teller hr (by decide) rfl) (pa_cons (pe_c c_lines_of hr (by decide) rfl (pa_cons (pv 0) pa_nil)) (pa_cons pe_int pa_nil))) (by rfl))
  (pss_cons (ps_while PassesOwn.never (pt_cmpR op_lt (pv 3) (pe_callB call_lenS rfl T.b_len boot_len (pa_cons (pv 2) pa_nil)) (nomark _))
  (pss_one (ps_if (pt_cmpR op_eq (pe_fld (pe_ix ix_list (pv 2) (pv 3) (fun _ _ => rfl)) rfl) (pe_gc rfl T.k_BLANK) (nomark _))
  (pss_one (ps_set (i := 3) sc_events_of.nd rfl (Or.inl rfl) (pe_op op_add (pv 3) pe_int)))
  (pss_one (ps_set (i := 3) sc_events_of.nd rfl (Or.inl rfl) (pe_c c_tell_block hr (by decide) rfl (pa_cons (pv 1) (pa_cons (pv 2) (pa_cons (pv 3) pa_nil)))))))))
  (pss_cons (ps_expr (pe_c c_close_items hr (by decide) rfl (pa_cons (pv 1) (pa_cons (pe_un un_neg pe_int) pa_nil))))
  (pss_one (ps_ret (pe_fld (pv 1) rfl)))))), ?_⟩
  have hsm : Small (Ml.lines x) := by
    unfold Small
    rw [MA.lines_sum]
    omega
  intro t dx nt nd ne
  refine ⟨t, dx, rfl, upd_same, fun F0 H1 hT1 hF0 kp => ⟨rfl, ?_⟩⟩
  have e1 : Ex H H1 := fun b o hb => kp b o (by rw [upd_ne (ne_of_none hb nt), upd_ne (ne_of_none hb nd)]; exact hb) (ne_of_none hb nt)
  have hF : ∀ b, F0 b → H b = none := fun b hb => by
    rcases hF0 b hb with z | z
    · by_cases h1 : b = t
      · rw [h1]
        exact nt
      · by_cases h2 : b = dx
        · rw [h2]
          exact nd
        · rw [upd_ne h1, upd_ne h2] at z
          exact z
    · rw [z]
      exact nt
  refine ⟨_, rfl, F0, a, x, rfl, hT1.win, ex_l e1 hS, by omega, fun p H2 hp e2 hL => ⟨_, _, _, rfl, ?_⟩⟩
  have hT2 := hT1.ex e2
  have eHo : Ex H (out F0 H2) := fun b o hb => by
    rw [out_at fun z => by rw [hF b z] at hb; cases hb]
    exact e2 _ _ (e1 _ _ hb)
  have hwt := MA.shl_wt x
  refine q_while (fun m σ' H' => ∃ (F' : Addr → Prop) (es : List Ml.Event) (o i : Nat), m = (Ml.lines x).length - i ∧ σ' = [some (.ref a), some (.ref t), some (.ref p), some (.int (i : Int))] ∧ TellAt K F' H' t es ((o : Int) - 1) ∧ Ex (out F0 H2) (out F' H') ∧
    MA.pushAll [] (MA.shl 0 (Ml.lines x)) = MA.pushAll es (MA.shl o ((Ml.lines x).drop i)) ∧ MA.wt es + MA.wt (MA.shl o ((Ml.lines x).drop i)) ≤ 900000) (Ml.lines x).length ⟨F0, [], 0, 0, rfl, rfl, by rw [show (((0 : Nat) : Int) - 1) = -1 from rfl]; exact hT2, Ex.refl _, rfl, by show 0 + _ ≤ _; rw [List.drop_zero]; omega⟩ ?_
  rintro m σ' H3 ⟨F3, es, o, i, rfl, rfl, hT3, x3, heq, hw⟩
  have hL3 := hL.ex x3
  obtain ⟨ys, hy0, hylen, hyml, hyat⟩ := hL3.sq
  refine ⟨_, et_test (ev_lt (b := decide (i < (Ml.lines x).length)) (ev_var rfl) (ev_len (ev_var rfl) (sq_of (out_of hy0).2)) (decide_eq_decide.mpr (by rw [hyml]; omega))), fun hb H4 e4 => ?_, fun hb H4 e4 => ?_⟩
  · have hlt := of_decide_eq_true hb
    have hli : (Ml.lines x)[i]? = some (Ml.lines x)[i] := List.getElem?_eq_getElem hlt
    generalize hlg : (Ml.lines x)[i] = l at hli
    have hgd : (Ml.lines x).getD i [] = l := by
      rw [List.getD_eq_getElem?_getD, hli]
      rfl
    have hd := MA.drop_at hli
    refine ⟨fun σ2 H' => ∃ (F' : Addr → Prop) (es : List Ml.Event) (o i2 : Nat), i < i2 ∧ σ2 = [some (.ref a), some (.ref t), some (.ref p), some (.int (i2 : Int))] ∧ TellAt K F' H' t es ((o : Int) - 1) ∧ Ex (out F0 H2) (out F' H') ∧
      MA.pushAll [] (MA.shl 0 (Ml.lines x)) = MA.pushAll es (MA.shl o ((Ml.lines x).drop i2)) ∧ MA.wt es + MA.wt (MA.shl o ((Ml.lines x).drop i2)) ≤ 900000, fun σ2 H' ⟨F', es, o, i2, h1, h2, h3, h4, h5, h6⟩ => ⟨(Ml.lines x).length - i2, by omega, F', es, o, i2, rfl, h2, h3, h4, h5, h6⟩, ?_⟩
    obtain ⟨y, hyi, hyl⟩ := hyat i l hli
    obtain ⟨dx2, r, tx, g1, g2, g3⟩ := hyl.ex ((out_mono e4).trans (out_ex F3 H4))
    have hy4 := e4 _ _ (out_of hy0).2
    by_cases hbl : Ml.lineOf l = .blank
    · refine s_if (b := true) (et_test (ev_eqI (ev_fld (ev_ixL (i := i) (ev_var rfl) (ev_var rfl) (sq_of hy4) rfl hyi) g1 T.cl_Line T.n_Line_kind lineF_kind) ev_c (by rw [hbl]; rfl))) (fun _ H5 e5 => ?_) (fun z => Bool.noConfusion z)
      rw [hd, MA.shl_blank hbl] at heq hw
      exact s_asg (ev_add (k := ((i + 1 : Nat) : Int)) (ev_var rfl) ev_c (by omega)) fun H6 e6 => ⟨F3, es, o, i + 1, by omega, rfl, ((hT3.ex e4).ex e5).ex e6, x3.trans (out_mono ((e4.trans e5).trans e6)), heq, hw⟩
    · have hk0 : MA.kindL (Ml.lineOf l) ≠ 0 := by
        intro z
        cases hz : Ml.lineOf l with
        | blank => exact hbl hz
        | _ => rw [hz] at z; cases z
      refine s_if (b := false) (et_test (ev_eqI (ev_fld (ev_ixL (i := i) (ev_var rfl) (ev_var rfl) (sq_of hy4) rfl hyi) g1 T.cl_Line T.n_Line_kind lineF_kind) ev_c (decide_eq_false hk0))) (fun z => Bool.noConfusion z) (fun _ H5 e5 => ?_)
      have e45 := e4.trans e5
      refine ⟨_, rfl, _, rfl, _, rfl, F3, t, es, o, p, Ml.lines x, i, rfl, hT3.ex e45, hL3.ex (out_mono e45), hlt, by rw [hgd]; exact hbl, hsm, hw, fun F6 H6 o' X n g4 g5 g6 g7 => ?_⟩
      rw [g5, MA.wt_app] at hw
      have w1 := MA.wt_pushAll X es
      refine ⟨F6, MA.pushAll es X, o', n, g6, rfl, g4, (x3.trans (out_mono e45)).trans g7, ?_, by omega⟩
      rw [heq, g5, MA.pushAll_app]
  · have hge : (Ml.lines x).length ≤ i := by
      have := of_decide_eq_false hb
      omega
    rw [List.drop_eq_nil_of_le hge, MA.shl_nil] at heq hw
    have hn : (((o : Int) - 1) - (-1)).toNat = o := by omega
    refine ⟨_, rfl, (ev_neg ev_c rfl) H4 (Ex.refl H4) _ fun H5 e5 => ⟨F3, t, es, _, -1, rfl, (hT3.ex e4).ex e5, by omega, by rw [hn]; exact hw, fun F6 H6 g1 g2 => ?_⟩⟩
    rw [hn, ← heq, ← MA.events_eq] at g1
    have x6 : Ex (out F0 H2) (out F6 H6) := (x3.trans (out_mono (e4.trans e5))).trans g2
    have eH6 : Ex H (out F6 H6) := eHo.trans x6
    have hdis : ∀ b, F6 b → H b = none := fun b hb => by
      cases hq : H b with
      | none => rfl
      | some o' => exact absurd hb (out_of (eH6 _ _ hq)).1
    obtain ⟨dx6, l6, ps6, h1, h2, h3, h4, h5, h6⟩ := g1
    refine ⟨_, rfl, t, cTeller K, dx6, _, _, rfl, h1, T.cl_Teller, T.n_Teller_events, tlF_events, ?_⟩
    refine k l6 H6 (hdis l6 ((h6 l6).mpr (.inr (.inl rfl)))) (eH6.trans (out_ex F6 H6)) fun F wF => ⟨ps6, ?_, ⟨h3.1, fun j q v ha hb => ?_⟩⟩
    · rw [out_at (wF _ (hdis l6 ((h6 l6).mpr (.inr (.inl rfl)))))]
      exact h2
    · have hv := h3.2 j q v ha hb
      have hq1 : F6 q.1 := (h6 _).mpr (.inr (.inr ⟨q, List.mem_of_getElem? ha, .inl rfl⟩))
      have hq2 : F6 q.2 := (h6 _).mpr (.inr (.inr ⟨q, List.mem_of_getElem? ha, .inr rfl⟩))
      exact ⟨by rw [out_at (wF _ (hdis _ hq1))]; exact hv.1, by rw [out_at (wF _ (hdis _ hq2))]; exact hv.2⟩
end
end Mk
set_option Elab.async false
set_option linter.all false
set_option maxRecDepth 100000
set_option maxHeartbeats 4000000
namespace Mk
open PySem PySem.Spec PyProof.Rows L2 C8 Evl
section
variable {K : PySem.W.Frag} {σ : L2.St} {H : Hp} {ta tb te : TE} {D : Ends}
theorem el_catZ {b : Addr} {xs zs : List V} (ha : EvL ta σ H xs) (hb : Ev tb σ H (.ref b)) (h : H b = some (.lst zs)) (hl : xs.length + zs.length ≤ sizeLine) : EvL (tOp rCat ta tb) σ H (xs ++ zs) := fun H1 e Q q =>
  ha H1 e _ fun p H2 hp e2 hx => hb H2 (e.trans e2) _ fun H3 e3 => ⟨p, b, xs, zs, rfl, rfl, e3 _ _ hx, ((e.trans e2).trans e3) _ _ h, hl, fun r hr => q r _ (fresh_back (e2.trans e3) hr) ((e2.trans e3).trans (Evl.Ex.new hr)) upd_same⟩
theorem el_cat2 {xs zs : List V} (ha : EvL ta σ H xs) (hb : EvL tb σ H zs) (hl : xs.length + zs.length ≤ sizeLine) : EvL (tOp rCat ta tb) σ H (xs ++ zs) := fun H1 e Q q =>
  ha H1 e _ fun p H2 hp e2 hx => hb H2 (e.trans e2) _ fun r H3 hr e3 hz => ⟨p, r, xs, zs, rfl, rfl, e3 _ _ hx, hz, hl, fun s hs => q s _ (fresh_back (e2.trans e3) hs) ((e2.trans e3).trans (Evl.Ex.new hs)) upd_same⟩
theorem s_extL {l : Addr} {xs ys : List V} (hl : H l = some (.lst xs)) (ha : Ev ta σ H (.ref l)) (h : EvL te σ H ys) (hz : xs.length + ys.length ≤ sizeLine) (k : ∀ H1, Ex H H1 → D.nx σ (upd H1 l (.lst (xs ++ ys)))) : tDrop (tBM K "list" rExtend ta (tCons te tNil)) D σ H := ha H (Ex.refl H) _ fun H1 e1 =>
  ⟨Or.inl ⟨rfl, xs, sq_of (e1 l _ hl)⟩, h H1 e1 _ fun p H2 hp e2 h2 => ⟨l, p, xs, ys, rfl, rfl, e2 _ _ (e1 _ _ hl), h2, hz, k H2 (e1.trans e2)⟩⟩
theorem s_appZ {l : Addr} {xs : List V} {v : V} (hl : H l = some (.lst xs)) (ha : Ev ta σ H (.ref l)) (h : Ev te σ H v) (hz : xs.length < sizeLine) (k : ∀ H1, Ex H H1 → D.nx σ (upd H1 l (.lst (xs ++ [v])))) : tDrop (tBM K "list" rAppend ta (tCons te tNil)) D σ H := ha H (Ex.refl H) _ fun H1 e1 =>
  ⟨Or.inl ⟨rfl, xs, sq_of (e1 l _ hl)⟩, h H1 e1 _ fun H2 e2 => ⟨l, xs, v, rfl, rfl, e2 l _ (e1 l _ hl), hz, k H2 (e1.trans e2)⟩⟩
end
theorem codes_bs {z : Str} {l : Ml.Bytes} (h : z.cps.toList = l.map (·.toNat)) : z.cps.toList.map (fun n : Nat => V.int (n : Int)) = bs l := by
  rw [h, List.map_map]
  rfl
theorem codes_get {z : Str} {l : Ml.Bytes} (h : z.cps.toList = l.map (·.toNat)) {i c : Nat} (hc : z.cps[i]? = some c) : (bs l)[i]? = some (.int (c : Int)) := by
  rw [← codes_bs h, List.getElem?_map, Array.getElem?_toList, hc]
  rfl
theorem given_bs (l : Ml.Bytes) : given l.length (fun _ => true) (fun i => (bs l).getD i .non) = bs l := by
  unfold given
  rw [List.filter_eq_self.mpr (fun _ _ => rfl)]
  refine List.ext_getElem? fun j => ?_
  rw [List.getElem?_map]
  by_cases h : j < l.length
  · rw [List.getElem?_range h]
    show some ((bs l).getD j .non) = _
    rw [List.getD_eq_getElem?_getD, List.getElem?_eq_getElem (by rw [bs_len]; exact h)]
    rfl
  · rw [List.getElem?_eq_none (by rw [List.length_range]; omega), List.getElem?_eq_none (by rw [bs_len]; omega)]
    rfl
theorem g_ref {mg : Str → Option Value} {x : Str} {a : Addr} (h : mg x = some (.ref a)) : ∃ u, mg x = some u ∧ RelV (.ref a) u := ⟨_, h, rfl⟩
theorem ev_inI {K : PySem.W.Frag} {σ : L2.St} {H : Hp} {ta tb : TE} {i : Int} {a : Addr} {kvs : List (Int × Str)} {b : Bool} (ha : Ev ta σ H (.int i)) (hb : Ev tb σ H (.ref a)) (D : IDict K a kvs) (h : (kvs.lookup i).isSome = b) : Ev (tOp (rInI K) ta tb) σ H (.bl b) :=
  ev_op ha hb fun H1 _ Q q => ⟨i, a, kvs, rfl, rfl, D, by rw [h]; exact q H1 (Evl.Ex.refl _)⟩
theorem ev_ixI {K : PySem.W.Frag} {σ : L2.St} {H : Hp} {ta tb : TE} {i : Int} {a : Addr} {kvs : List (Int × Str)} {z : Str} (ha : Ev ta σ H (.ref a)) (hb : Ev tb σ H (.int i)) (D : IDict K a kvs) (h : kvs.lookup i = some z) : Ev (tOp (rIxI K) ta tb) σ H (.str z) :=
  ev_op ha hb fun H1 _ Q q => ⟨i, a, kvs, z, rfl, rfl, D, h, q H1 (Evl.Ex.refl _)⟩
def spBytesOf : Sp := fun vs H Q _ => ∃ z l, vs = [.str z] ∧ z.cps.toList = l.map (·.toNat) ∧ l.length ≤ 1000 ∧ RetL (bs l) H Q
theorem l_bytesOf {z : Str} {l : Ml.Bytes} {H : Hp} (h : z.cps.toList = l.map (·.toNat)) (hl : l.length ≤ 1000) : SpL spBytesOf [.str z] H (bs l) := fun H1 e Q q _ => ⟨z, l, rfl, h, hl, q⟩
def esc1 (c : UInt8) : Ml.Bytes := if c = 38 then Ml.ascii "&amp;" else if c = 60 then Ml.ascii "&lt;" else if c = 62 then Ml.ascii "&gt;" else if c = 34 then Ml.ascii "&quot;" else [c]
theorem esc_eq (l : Ml.Bytes) : Ml.esc l = l.flatMap esc1 := rfl
theorem esc1_len (c : UInt8) : (esc1 c).length ≤ 6 := by
  unfold esc1
  split
  · decide
  · split
    · decide
    · split
      · decide
      · split
        · decide
        · show 1 ≤ 6
          decide
theorem flat_len {α : Type} {f : α → Ml.Bytes} {n : Nat} (h : ∀ c, (f c).length ≤ n) : ∀ l : List α, (l.flatMap f).length ≤ n * l.length
  | [] => Nat.zero_le _
  | c :: l => by
    rw [List.flatMap_cons, List.length_append, List.length_cons, Nat.mul_succ]
    have h1 := h c
    have h2 := flat_len h l
    omega
theorem esc_len (l : Ml.Bytes) : (Ml.esc l).length ≤ 6 * l.length := flat_len esc1_len l
def spSafe (K : PySem.W.Frag) : Sp := fun vs H Q _ => ∃ a l, vs = [.ref a] ∧ SqL K H a (bs l) ∧ l.length ≤ 200000 ∧ RetL (bs (Ml.esc l)) H Q
theorem l_safe {K : PySem.W.Frag} {a : Addr} {l : Ml.Bytes} {H : Hp} (h : SqL K H a (bs l)) (hl : l.length ≤ 200000) : SpL (spSafe K) [.ref a] H (bs (Ml.esc l)) := fun H1 e Q q _ => ⟨a, l, rfl, ex_l e h, hl, q⟩
def spEvPage (K : PySem.W.Frag) : Sp := fun vs H Q _ => ∃ a e, vs = [.int ((e : Ml.Event).kind : Int), .int (e.num : Int), .ref a] ∧ SqL K H a (bs e.bytes) ∧ e.bytes.length ≤ 200000 ∧ MA.Ok1 e ∧ RetL (bs e.html) H Q
theorem l_evPage {K : PySem.W.Frag} {a : Addr} {e : Ml.Event} {H : Hp} (h : SqL K H a (bs e.bytes)) (hl : e.bytes.length ≤ 200000) (ho : MA.Ok1 e) : SpL (spEvPage K) [.int (e.kind : Int), .int (e.num : Int), .ref a] H (bs e.html) := fun H1 x Q q _ => ⟨a, e, rfl, ex_l x h, hl, ho, q⟩
def spPageOf (K : PySem.W.Frag) : Sp := fun vs H Q _ => ∃ a es, vs = [.ref a] ∧ EvsAt H a es ∧ MA.Oks es ∧ MA.wt es ≤ 200000 ∧ RetL (bs (Ml.html es)) H Q
section
variable {P : Program} {w : World} {K : PySem.W.Frag} {mg : Str → Option Value} {base : Heap}
theorem ok_bytes_of (T : Txt K mg) : Cal P w K mg base 1 "bytes_of" spBytesOf [] := by
  refine cal_d T.d_bytes_of sc_bytes_of bi_bytes_of (fun vs H Q E h => ?_) fun f cdv A outer s H vs Q E hr h => ?_
  · obtain ⟨z, l, rfl, _⟩ := h
    rfl
  obtain ⟨z, l, rfl, hz, hl, k⟩ := h
  refine ⟨_, (pss_one (ps_ret (pe_lc (own := [("sign", 1)]) (g := gName 1) (tt := tYes) rfl sc_bytes_of.nd (pi_str (pv 0)) (blkOk_by (own := [("sign", 1)]) (N := ["text", "sign"]) (sc := defScope s_bytes_of) (by decide +kernel)) (fun _ _ _ _ _ => pg_name (i := 1) sc_bytes_of.nd rfl (Or.inl rfl)) (fun _ _ _ _ _ => pts_nil) (fun _ _ _ _ _ => (pe_callB call_ord rfl T.b_ord (by decide +kernel) (pa_cons (pv 1) pa_nil)))))), ?_⟩
  have hsz : z.cps.size = l.length := by
    have := congrArg List.length hz
    rw [List.length_map] at this
    simpa using this
  refine ⟨_, rfl, z, rfl, fun Dl hD => lc_it walk_str (Cw H (fun _ => true) (fun i => (bs l).getD i .non) Dl) ⟨hD, Evl.Ex.new hD, upd_same⟩ (fun i H' _ p => trivial) ?_ ?_⟩
  · rintro i x H1 H2 hi p ⟨rfl, c, hc, rfl⟩
    have hv : (bs l).getD i .non = .int (c : Int) := by
      rw [List.getD_eq_getElem?_getD, codes_get hz hc]
      rfl
    refine ⟨rfl, cw_turn p (by omega) (fun H1 _ _ q => q H1 (Evl.Ex.refl _)) fun _ H3 e3 Q q => ⟨_, rfl, _, rfl, rfl, ?_⟩⟩
    have := q H3 (Evl.Ex.refl _)
    rw [hv] at this
    exact this
  · intro H1 p
    have := p.2.2
    rw [hsz, given_bs] at this
    exact k Dl H1 hD p.2.1 this
theorem esc_step {l : Ml.Bytes} {i : Nat} {c : UInt8} (h : l[i]? = some c) : bs (Ml.esc (l.take (i + 1))) = bs (Ml.esc (l.take i)) ++ bs (esc1 c) := by
  rw [esc_eq, esc_eq, List.take_add_one, h, List.flatMap_append, bs_app]
  congr 1
  show bs (List.flatMap esc1 [c]) = _
  rw [List.flatMap_cons, List.flatMap_nil, List.append_nil]
theorem lookup_written (c : UInt8) : ([(38, "&amp;"), (60, "&lt;"), (62, "&gt;"), (34, "&quot;")] : List (Int × Str)).lookup (c.toNat : Int) = none ∧ esc1 c = [c] ∨
    ∃ z : Str, ([(38, "&amp;"), (60, "&lt;"), (62, "&gt;"), (34, "&quot;")] : List (Int × Str)).lookup (c.toNat : Int) = some z ∧ z.cps.toList = (esc1 c).map (·.toNat) := by
  revert c
  have h : ∀ n : Fin 256, (([(38, "&amp;"), (60, "&lt;"), (62, "&gt;"), (34, "&quot;")] : List (Int × Str)).lookup ((UInt8.ofNat n.val).toNat : Int) = none ∧ esc1 (UInt8.ofNat n.val) = [UInt8.ofNat n.val]) ∨
    ((([(38, "&amp;"), (60, "&lt;"), (62, "&gt;"), (34, "&quot;")] : List (Int × Str)).lookup ((UInt8.ofNat n.val).toNat : Int)).isSome = true ∧ ((([(38, "&amp;"), (60, "&lt;"), (62, "&gt;"), (34, "&quot;")] : List (Int × Str)).lookup ((UInt8.ofNat n.val).toNat : Int)).getD "").cps.toList = (esc1 (UInt8.ofNat n.val)).map (·.toNat)) := by decide +kernel
  intro c
  have hc := h ⟨c.toNat, c.toNat_lt⟩
  rw [UInt8.ofNat_toNat] at hc
  rcases hc with h1 | ⟨h1, h2⟩
  · exact .inl h1
  · obtain ⟨z, hz⟩ := Option.isSome_iff_exists.mp h1
    rw [hz] at h2
    exact .inr ⟨z, hz, h2⟩
theorem ok_safe (T : Txt K mg) (c_bytes_of : Cal P w K mg base 1 "bytes_of" spBytesOf []) : Cal P w K mg base 2 "safe" (spSafe K) [] := by
  refine cal_d T.d_safe sc_safe bi_safe (fun vs H Q E h => ?_) fun f cdv A outer s H vs Q E hr h => ?_
  · obtain ⟨a, l, rfl, _⟩ := h
    rfl
  obtain ⟨a, l, rfl, hS, hl, k⟩ := h
  refine ⟨_, (pss_cons (ps_set (i := 1) sc_safe.nd rfl (Or.inl rfl) (pe_lst pa_nil))
  (pss_cons (ps_for PassesOwn.never rfl (pi_list (pv 0)) (pg_name (i := 2) sc_safe.nd rfl (Or.inl rfl))
  (pss_one (ps_if (pt_cmpR op_inI (pv 2) (pe_gc rfl (g_ref T.g_WRITTEN)) (by rfl))
  (pss_one (ps_expr (pe_bm PySem.F.plainAttrs_list PySem.F.slot_list_extend PySem.F.type_list_extend mt_extend (pv 1) (pa_cons (pe_c c_bytes_of hr (by decide) rfl (pa_cons (pe_ix ix_idict (pe_gc rfl (g_ref T.g_WRITTEN)) (pv 2) (fun _ _ => rfl)) pa_nil)) pa_nil))))
  (pss_one (ps_expr (pe_bm PySem.F.plainAttrs_list PySem.F.slot_list_append PySem.F.type_list_append mt_append (pv 1) (pa_cons (pv 2) pa_nil)))))))
  (pss_one (ps_ret (pv 1))))), ?_⟩
  refine q_asgL (el_lst ea_nil (Nat.zero_le _)) fun d H1 hd1 e1 h1 => ?_
  refine q_forLn (a := a) (xs := bs l) (ev_var rfl) (ex_l e1 hS) (fun i σ' H' => σ'[0]? = some (some (.ref a)) ∧ σ'[1]? = some (some (.ref d)) ∧ σ'.length = 3 ∧ Ex H H' ∧ H' d = some (.lst (bs (Ml.esc (l.take i))))) (fun H2 e2 => ⟨rfl, rfl, rfl, e1.trans e2, e2 _ _ h1⟩) (fun i σ' H' _ p => ex_l p.2.2.2.1 hS) ?_ ?_
  · rintro i x σ' H2 hi ⟨s0, s1, s2, x2, hd2⟩
    have hi' : i < l.length := by
      have := (List.getElem?_eq_some_iff.mp hi).1
      rwa [bs_len] at this
    have hc : l[i]? = some l[i] := List.getElem?_eq_getElem hi'
    generalize l[i] = c at hc
    have hx : x = bV c := by
      rw [bs_get hc] at hi
      exact (Option.some.inj hi).symm
    subst hx
    obtain ⟨v0, v1, v2, rfl⟩ : ∃ v0 v1 v2, σ' = [v0, v1, v2] := by
      match σ', s2 with
      | [v0, v1, v2], _ => exact ⟨_, _, _, rfl⟩
    have s0' : v0 = some (.ref a) := Option.some.inj s0
    have s1' : v1 = some (.ref d) := Option.some.inj s1
    subst s0' s1'
    have hlen : (bs (Ml.esc (l.take i))).length ≤ 6 * l.length := by
      rw [bs_len]
      have := esc_len (l.take i)
      rw [List.length_take] at this
      omega
    have hsl : (16777216 : Nat) ≤ sizeLine := by decide
    have hst : ∀ {H3 : Hp} {ys : List V}, H d = none → Ex H H3 → Ex H (upd H3 d (.lst ys)) := fun hn e => Evl.Ex.mut e hn
    rcases lookup_written c with ⟨hz, he⟩ | ⟨z, hz, he⟩
    · refine s_if (b := false) (et_test (ev_inI (ev_var rfl) ev_c T.i_WRITTEN (by rw [hz]; rfl))) (fun z => Bool.noConfusion z) fun _ H3 e3 => ?_
      refine s_appZ (e3 _ _ hd2) (ev_var rfl) (ev_var rfl) (by omega) fun H4 e4 => ⟨rfl, rfl, rfl, hst hd1 (x2.trans (e3.trans e4)), ?_⟩
      rw [esc_step hc, he]
      exact upd_same
    · refine s_if (b := true) (et_test (ev_inI (ev_var rfl) ev_c T.i_WRITTEN (by rw [hz]; rfl))) (fun _ H3 e3 => ?_) (fun z => Bool.noConfusion z)
      have h6 := esc1_len c
      refine s_extL (e3 _ _ hd2) (ev_var rfl) (el_call (ea_cons (ev_ixI ev_c (ev_var rfl) T.i_WRITTEN hz) ea_nil) (l_bytesOf he (by omega))) (by rw [bs_len (esc1 c)]; omega) fun H4 e4 => ⟨rfl, rfl, rfl, hst hd1 (x2.trans (e3.trans e4)), ?_⟩
      rw [esc_step hc]
      exact upd_same
  · rintro σ' H2 ⟨s0, s1, s2, x2, hd2⟩
    rw [bs_len, List.take_length] at hd2
    exact s_ret (ev_var s1) fun H3 e3 => k d H3 hd1 (x2.trans e3) (e3 _ _ hd2)
theorem tags (k : Nat) (h : k ≤ 16) : (([(2, "<p>"), (3, "</p>\n"), (6, "<ul>\n"), (7, "</ul>\n"), (8, "<li>"), (9, "</li>\n"), (12, "</pre>\n"), (13, "<em>"), (14, "</em>"), (16, "</a>")] : List (Int × Str)).lookup (k : Int) = none ∧ (k = 0 ∨ k = 1 ∨ k = 4 ∨ k = 5 ∨ k = 10 ∨ k = 11 ∨ k = 15)) ∨
    ∃ z : Str, ([(2, "<p>"), (3, "</p>\n"), (6, "<ul>\n"), (7, "</ul>\n"), (8, "<li>"), (9, "</li>\n"), (12, "</pre>\n"), (13, "<em>"), (14, "</em>"), (16, "</a>")] : List (Int × Str)).lookup (k : Int) = some z ∧ ∀ n b, z.cps.toList = (Ml.Event.html ⟨k, n, b⟩).map (·.toNat) ∧ (Ml.Event.html ⟨k, n, b⟩).length ≤ 1000 := by
  match k, h with
  | 0, _ => exact .inl ⟨rfl, by decide⟩
  | 1, _ => exact .inl ⟨rfl, by decide⟩
  | 2, _ => exact .inr ⟨"<p>", rfl, fun n b => ⟨by show _ = (Ml.ascii "<p>").map _; decide +kernel, by show (Ml.ascii "<p>").length ≤ 1000; decide +kernel⟩⟩
  | 3, _ => exact .inr ⟨"</p>\n", rfl, fun n b => ⟨by show _ = (Ml.ascii "</p>\n").map _; decide +kernel, by show (Ml.ascii "</p>\n").length ≤ 1000; decide +kernel⟩⟩
  | 4, _ => exact .inl ⟨rfl, by decide⟩
  | 5, _ => exact .inl ⟨rfl, by decide⟩
  | 6, _ => exact .inr ⟨"<ul>\n", rfl, fun n b => ⟨by show _ = (Ml.ascii "<ul>\n").map _; decide +kernel, by show (Ml.ascii "<ul>\n").length ≤ 1000; decide +kernel⟩⟩
  | 7, _ => exact .inr ⟨"</ul>\n", rfl, fun n b => ⟨by show _ = (Ml.ascii "</ul>\n").map _; decide +kernel, by show (Ml.ascii "</ul>\n").length ≤ 1000; decide +kernel⟩⟩
  | 8, _ => exact .inr ⟨"<li>", rfl, fun n b => ⟨by show _ = (Ml.ascii "<li>").map _; decide +kernel, by show (Ml.ascii "<li>").length ≤ 1000; decide +kernel⟩⟩
  | 9, _ => exact .inr ⟨"</li>\n", rfl, fun n b => ⟨by show _ = (Ml.ascii "</li>\n").map _; decide +kernel, by show (Ml.ascii "</li>\n").length ≤ 1000; decide +kernel⟩⟩
  | 10, _ => exact .inl ⟨rfl, by decide⟩
  | 11, _ => exact .inl ⟨rfl, by decide⟩
  | 12, _ => exact .inr ⟨"</pre>\n", rfl, fun n b => ⟨by show _ = (Ml.ascii "</pre>\n").map _; decide +kernel, by show (Ml.ascii "</pre>\n").length ≤ 1000; decide +kernel⟩⟩
  | 13, _ => exact .inr ⟨"<em>", rfl, fun n b => ⟨by show _ = (Ml.ascii "<em>").map _; decide +kernel, by show (Ml.ascii "<em>").length ≤ 1000; decide +kernel⟩⟩
  | 14, _ => exact .inr ⟨"</em>", rfl, fun n b => ⟨by show _ = (Ml.ascii "</em>").map _; decide +kernel, by show (Ml.ascii "</em>").length ≤ 1000; decide +kernel⟩⟩
  | 15, _ => exact .inl ⟨rfl, by decide⟩
  | k + 17, h => omega
  | 16, _ => exact .inr ⟨"</a>", rfl, fun n b => ⟨by show _ = (Ml.ascii "</a>").map _; decide +kernel, by show (Ml.ascii "</a>").length ≤ 1000; decide +kernel⟩⟩
theorem head_text {a b : Str} {x y : Ml.Bytes} {n : Nat} (h1 : 1 ≤ n) (h2 : n ≤ 6) (ha : a.cps.toList = x.map (·.toNat)) (hb : b.cps.toList = y.map (·.toNat)) : (a ++ (toString (n : Int) : Str) ++ b).cps.toList = (x ++ Ml.level n ++ y).map (·.toNat) := by
  have hm : (Str.ofString (toString (n : Int))).cps.toList = (Ml.level n).map (·.toNat) := by
    match n, h1, h2 with
    | 1, _, _ => decide +kernel
    | 2, _, _ => decide +kernel
    | 3, _, _ => decide +kernel
    | 4, _, _ => decide +kernel
    | 5, _, _ => decide +kernel
    | 6, _, _ => decide +kernel
  show ((a.cps ++ (Str.ofString (toString (n : Int))).cps) ++ b.cps).toList = _
  rw [Array.toList_append, Array.toList_append, hm, ha, hb, List.map_append, List.map_append]
theorem ev_addS {σ : L2.St} {H : Hp} {ta tb : TE} {x y : Str} (ha : Ev ta σ H (.str x)) (hb : Ev tb σ H (.str y)) (h : x.length + y.length ≤ 100000) : Ev (tOp (fun x y H Q => ∃ i j, x = .str i ∧ y = .str j ∧ i.length + j.length ≤ sizeLine ∧ Q (.str (i ++ j)) H) ta tb) σ H (.str (x ++ y)) :=
  ev_op ha hb fun H1 _ Q q => ⟨x, y, rfl, rfl, sz_of h, q H1 (Evl.Ex.refl _)⟩
theorem ev_strI {σ : L2.St} {H : Hp} {ta : TE} {i : Int} (ha : Ev ta σ H (.int i)) (h : i.natAbs.log2 < 1920) : Ev (tCB (fun xs H Q => ∃ i, xs = [.int i] ∧ i.natAbs.log2 < 1920 ∧ Q (.str (toString i)) H) (tCons ta tNil)) σ H (.str (toString i)) :=
  ev_cb (ea_cons ha ea_nil) fun H1 _ Q q => ⟨i, rfl, h, q H1 (Evl.Ex.refl _)⟩
theorem num_len (n : Nat) (h : n ≤ 6) : (Str.ofString (toString (n : Int))).length ≤ 10 ∧ ((n : Int)).natAbs.log2 < 1920 := by
  match n, h with
  | 0, _ => decide +kernel
  | 1, _ => decide +kernel
  | 2, _ => decide +kernel
  | 3, _ => decide +kernel
  | 4, _ => decide +kernel
  | 5, _ => decide +kernel
  | 6, _ => decide +kernel
theorem ok_event_page (T : Txt K mg) (c_bytes_of : Cal P w K mg base 1 "bytes_of" spBytesOf []) (c_safe : Cal P w K mg base 2 "safe" (spSafe K) []) : Cal P w K mg base 3 "event_page" (spEvPage K) [] := by
  refine cal_d T.d_event_page sc_event_page bi_event_page (fun vs H Q E h => ?_) fun f cdv A outer s H vs Q E hr h => ?_
  · obtain ⟨a, e, rfl, _⟩ := h
    rfl
  obtain ⟨a, ⟨kd, n, b⟩, rfl, hS, hl, ho, k⟩ := h
  refine ⟨_, (pss_cons (ps_if (pt_cmpR op_inI (pv 0) (pe_gc rfl (g_ref T.g_TAGS)) (by rfl))
  (pss_one (ps_ret (pe_c c_bytes_of hr (by decide) rfl (pa_cons (pe_ix ix_idict (pe_gc rfl (g_ref T.g_TAGS)) (pv 0) (fun _ _ => rfl)) pa_nil))))
  pss_nil)
  (pss_cons (ps_if (pt_cmpR op_eq (pv 0) (pe_gc rfl T.k_TEXT) (nomark _))
  (pss_one (ps_ret (pe_c c_safe hr (by decide) rfl (pa_cons (pv 2) pa_nil))))
  pss_nil)
  (pss_cons (ps_if (pt_cmpR op_eq (pv 0) (pe_gc rfl T.k_SPAN) (nomark _))
  (pss_one (ps_ret (pe_op op_cat (pe_op op_cat (pe_c c_bytes_of hr (by decide) rfl (pa_cons pe_str pa_nil)) (pe_c c_safe hr (by decide) rfl (pa_cons (pv 2) pa_nil))) (pe_c c_bytes_of hr (by decide) rfl (pa_cons pe_str pa_nil)))))
  pss_nil)
  (pss_cons (ps_if (pt_cmpR op_eq (pv 0) (pe_gc rfl T.k_HEAD) (nomark _))
  (pss_one (ps_ret (pe_c c_bytes_of hr (by decide) rfl (pa_cons (pe_op op_add_str (pe_op op_add_str pe_str (pe_callTy call_str_int rfl T.b_str (by decide +kernel) (pa_cons (pv 1) pa_nil))) pe_str) pa_nil))))
  pss_nil)
  (pss_cons (ps_if (pt_cmpR op_eq (pv 0) (pe_gc rfl T.k_HEAD_END) (nomark _))
  (pss_one (ps_ret (pe_c c_bytes_of hr (by decide) rfl (pa_cons (pe_op op_add_str (pe_op op_add_str pe_str (pe_callTy call_str_int rfl T.b_str (by decide +kernel) (pa_cons (pv 1) pa_nil))) pe_str) pa_nil))))
  pss_nil)
  (pss_cons (ps_if (pt_cmpR op_eq (pv 0) (pe_gc rfl T.k_BLOCK) (nomark _))
  (pss_one (ps_ret (pe_op op_cat (pe_op op_cat (pe_c c_bytes_of hr (by decide) rfl (pa_cons pe_str pa_nil)) (pe_c c_safe hr (by decide) rfl (pa_cons (pv 2) pa_nil))) (pe_c c_bytes_of hr (by decide) rfl (pa_cons pe_str pa_nil)))))
  pss_nil)
  (pss_cons (ps_if (pt_cmpR op_eq (pv 0) (pe_gc rfl T.k_BLOCK_LINE) (nomark _))
  (pss_one (ps_ret (pe_op op_cat (pe_c c_safe hr (by decide) rfl (pa_cons (pv 2) pa_nil)) (pe_c c_bytes_of hr (by decide) rfl (pa_cons pe_str pa_nil)))))
  pss_nil)
  (pss_one (ps_ret (pe_op op_cat (pe_op op_cat (pe_c c_bytes_of hr (by decide) rfl (pa_cons pe_str pa_nil)) (pe_c c_safe hr (by decide) rfl (pa_cons (pv 2) pa_nil))) (pe_c c_bytes_of hr (by decide) rfl (pa_cons pe_str pa_nil)))))))))))), ?_⟩
  have hl' : b.length ≤ 200000 := hl
  have hS' : SqL K H a (bs b) := hS
  have hsl : (16777216 : Nat) ≤ sizeLine := by decide
  have hel : (bs (Ml.esc b)).length ≤ 1200000 := by
    rw [bs_len]
    have := esc_len b
    omega
  have hby : ∀ {H1 : Hp} {σ : L2.St} (z : Str) (l : Ml.Bytes), z.cps.toList = l.map (·.toNat) → l.length ≤ 1000 → EvL (tCall spBytesOf [] C8.E0 (tCons (tC (.str z)) tNil)) σ H1 (bs l) := fun z l h1 h2 => el_call (ea_cons ev_c ea_nil) (l_bytesOf h1 h2)
  have hsf : ∀ {H1 : Hp}, Ex H H1 → EvL (tCall (spSafe K) [] C8.E0 (tCons (tVar 2) tNil)) [some (.int (kd : Int)), some (.int (n : Int)), some (.ref a)] H1 (bs (Ml.esc b)) := fun x => el_call (ea_cons (ev_var rfl) ea_nil) (l_safe (ex_l x hS') hl')
  rcases tags kd ho.1 with ⟨hz, hk⟩ | ⟨z, hz, hzl⟩
  · refine q_when (b := false) (et_test (ev_inI (ev_var rfl) ev_c T.i_TAGS (by rw [hz]; rfl))) (fun z => Bool.noConfusion z) fun _ H1 e1 => ?_
    rcases hk with rfl | rfl | rfl | rfl | rfl | rfl | rfl
    · refine q_when (b := true) (et_test (ev_eqI (ev_var rfl) ev_c (by rfl))) (fun _ H2 e2 => ?_) (fun z => Bool.noConfusion z)
      exact s_retL (hsf (e1.trans e2)) fun p H3 hp e3 h3 => k p H3 (fresh_back (e1.trans e2) hp) ((e1.trans e2).trans e3) h3
    · refine q_when (b := false) (et_test (ev_eqI (ev_var rfl) ev_c (by rfl))) (fun z => Bool.noConfusion z) fun _ H2 e2 => ?_
      refine q_when (b := true) (et_test (ev_eqI (ev_var rfl) ev_c (by rfl))) (fun _ H3 e3 => ?_) (fun z => Bool.noConfusion z)
      have x3 := (e1.trans e2).trans e3
      refine s_retL (el_cat2 (el_cat2 (hby "<code>" (Ml.ascii "<code>") (by decide +kernel) (by decide +kernel)) (hsf x3) ?_) (hby "</code>" (Ml.ascii "</code>") (by decide +kernel) (by decide +kernel)) ?_) fun p H4 hp e4 h4 => k p H4 (fresh_back x3 hp) (x3.trans e4) ?_
      · rw [bs_len (Ml.ascii _)]
        have : (Ml.ascii "<code>").length = 6 := by decide +kernel
        omega
      · rw [List.length_append, bs_len (Ml.ascii _), bs_len (Ml.ascii _)]
        have : (Ml.ascii "<code>").length = 6 := by decide +kernel
        have : (Ml.ascii "</code>").length = 7 := by decide +kernel
        omega
      · rw [h4, ← bs_app, ← bs_app]
        rfl
    · refine q_when (b := false) (et_test (ev_eqI (ev_var rfl) ev_c (by rfl))) (fun z => Bool.noConfusion z) fun _ H2 e2 => ?_
      refine q_when (b := false) (et_test (ev_eqI (ev_var rfl) ev_c (by rfl))) (fun z => Bool.noConfusion z) fun _ H3 e3 => ?_
      refine q_when (b := true) (et_test (ev_eqI (ev_var rfl) ev_c (by rfl))) (fun _ H4 e4 => ?_) (fun z => Bool.noConfusion z)
      have x4 := ((e1.trans e2).trans e3).trans e4
      have hn := ho.2.1 (.inl rfl)
      have hn2 : n ≤ 6 := hn.2
      have hn1 : 1 ≤ n := hn.1
      obtain ⟨n1, n2⟩ := num_len n hn2
      refine s_retL (el_call (ea_cons (ev_addS (ev_addS ev_c (ev_strI (ev_var rfl) n2) ?_) ev_c ?_) ea_nil) (l_bytesOf (head_text (n := n) hn1 hn2 (x := Ml.ascii "<h") (y := Ml.ascii ">") (by decide +kernel) (by decide +kernel)) ?_)) fun p H5 hp e5 h5 => k p H5 (fresh_back x4 hp) (x4.trans e5) h5
      · have : (Str.ofString "<h").length = 2 := by decide +kernel
        show (Str.ofString "<h").length + (Str.ofString (toString (n : Int))).length ≤ 100000
        omega
      · have h1 := Array.size_append (xs := (Str.ofString "<h").cps) (ys := (Str.ofString (toString (n : Int))).cps)
        have : (Str.ofString "<h").cps.size = 2 := by decide +kernel
        have : (Str.ofString ">").length = 1 := by decide +kernel
        have h2 : (Str.ofString (toString (n : Int))).cps.size ≤ 10 := n1
        show ((Str.ofString "<h").cps ++ (Str.ofString (toString (n : Int))).cps).size + (Str.ofString ">").length ≤ 100000
        omega
      · rw [List.length_append, List.length_append]
        have : (Ml.ascii "<h").length = 2 := by decide +kernel
        have : (Ml.ascii ">").length = 1 := by decide +kernel
        have : (Ml.level n).length = 1 := rfl
        show _ + (Ml.level n).length + _ ≤ 1000
        omega
    · refine q_when (b := false) (et_test (ev_eqI (ev_var rfl) ev_c (by rfl))) (fun z => Bool.noConfusion z) fun _ H2 e2 => ?_
      refine q_when (b := false) (et_test (ev_eqI (ev_var rfl) ev_c (by rfl))) (fun z => Bool.noConfusion z) fun _ H3 e3 => ?_
      refine q_when (b := false) (et_test (ev_eqI (ev_var rfl) ev_c (by rfl))) (fun z => Bool.noConfusion z) fun _ H3' e3' => ?_
      refine q_when (b := true) (et_test (ev_eqI (ev_var rfl) ev_c (by rfl))) (fun _ H4 e4 => ?_) (fun z => Bool.noConfusion z)
      have x4 := (((e1.trans e2).trans e3).trans e3').trans e4
      have hn := ho.2.1 (.inr rfl)
      have hn2 : n ≤ 6 := hn.2
      have hn1 : 1 ≤ n := hn.1
      obtain ⟨n1, n2⟩ := num_len n hn2
      refine s_retL (el_call (ea_cons (ev_addS (ev_addS ev_c (ev_strI (ev_var rfl) n2) ?_) ev_c ?_) ea_nil) (l_bytesOf (head_text (n := n) hn1 hn2 (x := Ml.ascii "</h") (y := Ml.ascii ">\n") (by decide +kernel) (by decide +kernel)) ?_)) fun p H5 hp e5 h5 => k p H5 (fresh_back x4 hp) (x4.trans e5) h5
      · have : (Str.ofString "</h").length = 3 := by decide +kernel
        show (Str.ofString "</h").length + (Str.ofString (toString (n : Int))).length ≤ 100000
        omega
      · have h1 := Array.size_append (xs := (Str.ofString "</h").cps) (ys := (Str.ofString (toString (n : Int))).cps)
        have : (Str.ofString "</h").cps.size = 3 := by decide +kernel
        have : (Str.ofString ">\n").length = 2 := by decide +kernel
        have h2 : (Str.ofString (toString (n : Int))).cps.size ≤ 10 := n1
        show ((Str.ofString "</h").cps ++ (Str.ofString (toString (n : Int))).cps).size + (Str.ofString ">\n").length ≤ 100000
        omega
      · rw [List.length_append, List.length_append]
        have : (Ml.ascii "</h").length = 3 := by decide +kernel
        have : (Ml.ascii ">\n").length = 2 := by decide +kernel
        have : (Ml.level n).length = 1 := rfl
        show _ + (Ml.level n).length + _ ≤ 1000
        omega
    · refine q_when (b := false) (et_test (ev_eqI (ev_var rfl) ev_c (by rfl))) (fun z => Bool.noConfusion z) fun _ H2 e2 => ?_
      refine q_when (b := false) (et_test (ev_eqI (ev_var rfl) ev_c (by rfl))) (fun z => Bool.noConfusion z) fun _ H3 e3 => ?_
      refine q_when (b := false) (et_test (ev_eqI (ev_var rfl) ev_c (by rfl))) (fun z => Bool.noConfusion z) fun _ H4 e4 => ?_
      refine q_when (b := false) (et_test (ev_eqI (ev_var rfl) ev_c (by rfl))) (fun z => Bool.noConfusion z) fun _ H5 e5 => ?_
      refine q_when (b := true) (et_test (ev_eqI (ev_var rfl) ev_c (by rfl))) (fun _ H6 e6 => ?_) (fun z => Bool.noConfusion z)
      have x3 := ((((e1.trans e2).trans e3).trans e4).trans e5).trans e6
      refine s_retL (el_cat2 (el_cat2 (hby "<pre title=\"" (Ml.ascii "<pre title=\"") (by decide +kernel) (by decide +kernel)) (hsf x3) ?_) (hby "\">\n" (Ml.ascii "\">\n") (by decide +kernel) (by decide +kernel)) ?_) fun p H4 hp e4 h4 => k p H4 (fresh_back x3 hp) (x3.trans e4) ?_
      · rw [bs_len (Ml.ascii _)]
        have : (Ml.ascii "<pre title=\"").length = 12 := by decide +kernel
        omega
      · rw [List.length_append, bs_len (Ml.ascii _), bs_len (Ml.ascii _)]
        have : (Ml.ascii "<pre title=\"").length = 12 := by decide +kernel
        have : (Ml.ascii "\">\n").length = 3 := by decide +kernel
        omega
      · rw [h4, ← bs_app, ← bs_app]
        rfl
    · refine q_when (b := false) (et_test (ev_eqI (ev_var rfl) ev_c (by rfl))) (fun z => Bool.noConfusion z) fun _ H2 e2 => ?_
      refine q_when (b := false) (et_test (ev_eqI (ev_var rfl) ev_c (by rfl))) (fun z => Bool.noConfusion z) fun _ H3 e3 => ?_
      refine q_when (b := false) (et_test (ev_eqI (ev_var rfl) ev_c (by rfl))) (fun z => Bool.noConfusion z) fun _ H4 e4 => ?_
      refine q_when (b := false) (et_test (ev_eqI (ev_var rfl) ev_c (by rfl))) (fun z => Bool.noConfusion z) fun _ H5 e5 => ?_
      refine q_when (b := false) (et_test (ev_eqI (ev_var rfl) ev_c (by rfl))) (fun z => Bool.noConfusion z) fun _ H5' e5' => ?_
      refine q_when (b := true) (et_test (ev_eqI (ev_var rfl) ev_c (by rfl))) (fun _ H6 e6 => ?_) (fun z => Bool.noConfusion z)
      have x3 := (((((e1.trans e2).trans e3).trans e4).trans e5).trans e5').trans e6
      refine s_retL (el_cat2 (hsf x3) (hby "\n" (Ml.ascii "\n") (by decide +kernel) (by decide +kernel)) ?_) fun p H4 hp e4 h4 => k p H4 (fresh_back x3 hp) (x3.trans e4) ?_
      · rw [bs_len (Ml.ascii _)]
        have : (Ml.ascii "\n").length = 1 := by decide +kernel
        omega
      · rw [h4, ← bs_app]
        rfl
    · refine q_when (b := false) (et_test (ev_eqI (ev_var rfl) ev_c (by rfl))) (fun z => Bool.noConfusion z) fun _ H2 e2 => ?_
      refine q_when (b := false) (et_test (ev_eqI (ev_var rfl) ev_c (by rfl))) (fun z => Bool.noConfusion z) fun _ H3 e3 => ?_
      refine q_when (b := false) (et_test (ev_eqI (ev_var rfl) ev_c (by rfl))) (fun z => Bool.noConfusion z) fun _ H4 e4 => ?_
      refine q_when (b := false) (et_test (ev_eqI (ev_var rfl) ev_c (by rfl))) (fun z => Bool.noConfusion z) fun _ H5 e5 => ?_
      refine q_when (b := false) (et_test (ev_eqI (ev_var rfl) ev_c (by rfl))) (fun z => Bool.noConfusion z) fun _ H5' e5' => ?_
      refine q_when (b := false) (et_test (ev_eqI (ev_var rfl) ev_c (by rfl))) (fun z => Bool.noConfusion z) fun _ H6 e6 => ?_
      have x3 := (((((e1.trans e2).trans e3).trans e4).trans e5).trans e5').trans e6
      refine s_retL (el_cat2 (el_cat2 (hby "<a href=\"" (Ml.ascii "<a href=\"") (by decide +kernel) (by decide +kernel)) (hsf x3) ?_) (hby "\">" (Ml.ascii "\">") (by decide +kernel) (by decide +kernel)) ?_) fun p H4 hp e4 h4 => k p H4 (fresh_back x3 hp) (x3.trans e4) ?_
      · rw [bs_len (Ml.ascii _)]
        have : (Ml.ascii "<a href=\"").length = 9 := by decide +kernel
        omega
      · rw [List.length_append, bs_len (Ml.ascii _), bs_len (Ml.ascii _)]
        have : (Ml.ascii "<a href=\"").length = 9 := by decide +kernel
        have : (Ml.ascii "\">").length = 2 := by decide +kernel
        omega
      · rw [h4, ← bs_app, ← bs_app]
        rfl
  · refine q_when (b := true) (et_test (ev_inI (ev_var rfl) ev_c T.i_TAGS (by rw [hz]; rfl))) (fun _ H1 e1 => ?_) (fun z => Bool.noConfusion z)
    exact s_retL (el_call (ea_cons (ev_ixI ev_c (ev_var rfl) T.i_TAGS hz) ea_nil) (l_bytesOf (hzl n b).1 (hzl n b).2)) fun p H2 hp e2 h2 => k p H2 (fresh_back e1 hp) (e1.trans e2) h2
theorem html_len (e : Ml.Event) : e.html.length ≤ 6 * e.bytes.length + 30 := by
  obtain ⟨k, n, b⟩ := e
  have h := esc_len b
  have a1 : (Ml.ascii "<code>").length = 6 := by decide +kernel
  have a2 : (Ml.ascii "</code>").length = 7 := by decide +kernel
  have a3 : (Ml.ascii "<h").length = 2 := by decide +kernel
  have a4 : (Ml.ascii ">").length = 1 := by decide +kernel
  have a5 : (Ml.ascii "</h").length = 3 := by decide +kernel
  have a6 : (Ml.ascii ">\n").length = 2 := by decide +kernel
  have a7 : (Ml.ascii "<pre title=\"").length = 12 := by decide +kernel
  have a8 : (Ml.ascii "\">\n").length = 3 := by decide +kernel
  have a9 : (Ml.ascii "\n").length = 1 := by decide +kernel
  have b1 : (Ml.ascii "<a href=\"").length = 9 := by decide +kernel
  have b2 : (Ml.ascii "\">").length = 2 := by decide +kernel
  have b3 : (Ml.level n).length = 1 := rfl
  have c1 : (Ml.ascii "<p>").length ≤ 10 := by decide +kernel
  have c2 : (Ml.ascii "</p>\n").length ≤ 10 := by decide +kernel
  have c3 : (Ml.ascii "<ul>\n").length ≤ 10 := by decide +kernel
  have c4 : (Ml.ascii "</ul>\n").length ≤ 10 := by decide +kernel
  have c5 : (Ml.ascii "<li>").length ≤ 10 := by decide +kernel
  have c6 : (Ml.ascii "</li>\n").length ≤ 10 := by decide +kernel
  have c7 : (Ml.ascii "</pre>\n").length ≤ 10 := by decide +kernel
  have c8 : (Ml.ascii "<em>").length ≤ 10 := by decide +kernel
  have c9 : (Ml.ascii "</em>").length ≤ 10 := by decide +kernel
  have d1 : (Ml.ascii "</a>").length ≤ 10 := by decide +kernel
  show (Ml.Event.html ⟨k, n, b⟩).length ≤ 6 * b.length + 30
  unfold Ml.Event.html
  dsimp only
  split <;> (try rw [List.length_append]) <;> (try rw [List.length_append]) <;> omega
theorem htmls_len : ∀ es : List Ml.Event, (Ml.html es).length ≤ 36 * MA.wt es
  | [] => Nat.zero_le _
  | e :: es => by
    have h1 := html_len e
    have h2 := htmls_len es
    show (e.html ++ Ml.html es).length ≤ 36 * (1 + e.bytes.length + MA.wt es)
    rw [List.length_append]
    omega
theorem wt_take (es : List Ml.Event) (i : Nat) : MA.wt (es.take i) ≤ MA.wt es := by
  have := congrArg MA.wt (List.take_append_drop i es)
  rw [MA.wt_app] at this
  omega
theorem html_step {es : List Ml.Event} {i : Nat} {e : Ml.Event} (h : es[i]? = some e) : bs (Ml.html (es.take (i + 1))) = bs (Ml.html (es.take i)) ++ bs e.html := by
  unfold Ml.html
  rw [List.take_add_one, h, List.flatMap_append, bs_app]
  congr 1
  show bs (List.flatMap Ml.Event.html [e]) = _
  rw [List.flatMap_cons, List.flatMap_nil, List.append_nil]
theorem ok_page_of (T : Txt K mg) (c_event_page : Cal P w K mg base 3 "event_page" (spEvPage K) []) : Cal P w K mg base 4 "page_of" (spPageOf K) [] := by
  refine cal_d T.d_page_of sc_page_of bi_page_of (fun vs H Q E h => ?_) fun f cdv A outer s H vs Q E hr h => ?_
  · obtain ⟨a, es, rfl, _⟩ := h
    rfl
  obtain ⟨a, es, rfl, hA, ho, hw, k⟩ := h
  refine ⟨_, (pss_cons (ps_set (i := 1) sc_page_of.nd rfl (Or.inl rfl) (pe_lst pa_nil))
  (pss_cons (ps_for PassesOwn.never rfl (pi_list (pv 0)) (pg_tup rfl (pgs_cons (pg_name (i := 2) sc_page_of.nd rfl (Or.inl rfl)) (pgs_cons (pg_name (i := 3) sc_page_of.nd rfl (Or.inl rfl)) (pgs_cons (pg_name (i := 4) sc_page_of.nd rfl (Or.inl rfl)) pgs_nil))))
  (pss_one (ps_expr (pe_bm PySem.F.plainAttrs_list PySem.F.slot_list_extend PySem.F.type_list_extend mt_extend (pv 1) (pa_cons (pe_c c_event_page hr (by decide) rfl (pa_cons (pv 2) (pa_cons (pv 3) (pa_cons (pv 4) pa_nil)))) pa_nil)))))
  (pss_one (ps_ret (pv 1))))), ?_⟩
  obtain ⟨ps, hps, hml, hat⟩ := hA
  refine q_asgL (el_lst ea_nil (Nat.zero_le _)) fun d H1 hd1 e1 h1 => ?_
  refine q_forL (a := a) (ev_var rfl) (sq_of (e1 _ _ hps)) (fun i σ' H' => σ'[0]? = some (some (.ref a)) ∧ σ'[1]? = some (some (.ref d)) ∧ σ'.length = 5 ∧ Ex H H' ∧ H' d = some (.lst (bs (Ml.html (es.take i))))) (fun H2 e2 => ⟨rfl, rfl, rfl, e1.trans e2, e2 _ _ h1⟩) (fun i σ' H' _ p => sq_of (p.2.2.2.1 _ _ hps)) ?_ ?_
  · rintro i x σ' H2 hi ⟨s0, s1, s2, x2, hd2⟩
    rw [List.getElem?_map] at hi
    obtain ⟨q, hq, rfl⟩ := Option.map_eq_some_iff.mp hi
    have hi' : i < es.length := by
      have := (List.getElem?_eq_some_iff.mp hq).1
      omega
    have hc : es[i]? = some es[i] := List.getElem?_eq_getElem hi'
    generalize es[i] = e at hc
    have hqe := hat i q e hq hc
    obtain ⟨v0, v1, v2, v3, v4, rfl⟩ : ∃ v0 v1 v2 v3 v4, σ' = [v0, v1, v2, v3, v4] := by
      match σ', s2 with
      | [v0, v1, v2, v3, v4], _ => exact ⟨_, _, _, _, _, rfl⟩
    have s0' : v0 = some (.ref a) := Option.some.inj s0
    have s1' : v1 = some (.ref d) := Option.some.inj s1
    subst s0' s1'
    have hm := List.mem_of_getElem? hc
    have hwe := MA.wt_mem hm
    have h3 := htmls_len (es.take i)
    have h4 := wt_take es i
    have h5 := html_len e
    have hsl : (16777216 : Nat) ≤ sizeLine := by decide
    refine ⟨q.1, _, rfl, st_of (x2 _ _ hqe.1), rfl, _, _, rfl, _, _, rfl, _, _, rfl, rfl, ?_⟩
    refine s_extL hd2 (ev_var rfl) (el_call (ea_cons (ev_var rfl) (ea_cons (ev_var rfl) (ea_cons (ev_var rfl) ea_nil))) (l_evPage (e := e) (sq_of (x2 _ _ hqe.2)) (by omega) (ho e hm))) (by rw [bs_len, bs_len]; omega) fun H4 e4 => ⟨rfl, rfl, rfl, Evl.Ex.mut (x2.trans e4) hd1, ?_⟩
    rw [html_step hc]
    exact upd_same
  · rintro σ' H2 ⟨s0, s1, s2, x2, hd2⟩
    rw [List.length_map, hml, List.take_length] at hd2
    exact s_ret (ev_var s1) fun H3 e3 => k d H3 hd1 (x2.trans e3) (e3 _ _ hd2)
end
end Mk
set_option Elab.async false
set_option linter.all false
set_option maxRecDepth 100000
set_option maxHeartbeats 4000000
namespace Mk
open PySem PySem.Spec PyProof.Rows L2 C8 Evl
def txF (r h e : V) : List (Str × V) := [("row", r), ("has_ended", h), ("events", e)]
section
variable {r h e x : V}
theorem txF_row : (txF r h e).lookup ("row" : Str) = some r := lk_here
theorem txF_ended : (txF r h e).lookup ("has_ended" : Str) = some h := (lk_past (by decide +kernel)).trans lk_here
theorem txF_events : (txF r h e).lookup ("events" : Str) = some e := (lk_past (by decide +kernel)).trans ((lk_past (by decide +kernel)).trans lk_here)
theorem txF_putR : putF "row" x (txF r h e) = txF x h e := put_here
theorem txF_putH : putF "has_ended" x (txF r h e) = txF r x e := (put_past (by decide +kernel)).trans (congrArg _ put_here)
theorem txF_putE : putF "events" x (txF r h e) = txF r h x := (put_past (by decide +kernel)).trans (congrArg _ ((put_past (by decide +kernel)).trans (congrArg _ put_here)))
theorem txF_new : putF "events" e (putF "has_ended" h (putF "row" r [])) = txF r h e := by
  have h1 : ¬ ("row" : Str) = "has_ended" := by decide +kernel
  have h2 : ¬ ("row" : Str) = "events" := by decide +kernel
  have h3 : ¬ ("has_ended" : Str) = "events" := by decide +kernel
  simp only [putF, h1, h2, h3, if_false]
  rfl
end
def But (tx : Addr) (H H' : Hp) : Prop := ∀ b o, H b = some o → b ≠ tx → H' b = some o
theorem But.of {tx : Addr} {H H' : Hp} (h : Ex H H') : But tx H H' := fun b o hb _ => h b o hb
theorem But.trans {tx : Addr} {H H1 H2 : Hp} (h : But tx H H1) (g : But tx H1 H2) : But tx H H2 := fun b o hb hn => g b o (h b o hb hn) hn
theorem But.set {tx : Addr} {H : Hp} (o : HO) : But tx H (upd H tx o) := fun b u hb hn => by
  rw [upd_ne hn]
  exact hb
theorem But.none {tx e : Addr} {H H' : Hp} (h : But tx H H') (he : H' e = none) (hn : e ≠ tx) : H e = none := by
  cases q : H e with
  | none => rfl
  | some o =>
    rw [h e o q hn] at he
    cases he
theorem But.out {F : Addr → Prop} {tx : Addr} {H H' : Hp} (hF : F tx) (h : But tx H H') : Ex (out F H) (out F H') := fun b o hb => by
  obtain ⟨b1, b2⟩ := out_of hb
  rw [out_at b1]
  exact h b o b2 fun z => b1 (by rw [z]; exact hF)
theorem But.l {K : PySem.W.Frag} {tx : Addr} {H H' : Hp} {a C dx : Addr} {fs : List (Str × V)} {xs : List V} (h : But tx H H') (ht : H tx = some (.ins C dx fs)) (hs : SqL K H a xs) : SqL K H' a xs := by
  rcases hs with (hs | ⟨o, hs⟩) | hs
  · exact .inl (.inl (h _ _ hs fun z => by rw [z, ht] at hs; cases hs))
  · exact .inl (.inr ⟨o, h _ _ hs fun z => by rw [z, ht] at hs; cases hs⟩)
  · exact .inr hs
def TextAt (K : PySem.W.Frag) (F : Addr → Prop) (H : Hp) (tx : Addr) (s : Mark.State) : Prop := ∃ (dx r e : Addr) (es : List Ml.Event), H tx = some (.ins (cText K) dx (txF (.ref r) (.bl s.ended) (.ref e))) ∧ out F H r = some (.lst (bs s.text)) ∧ EvsAt (out F H) e es ∧ (s.ended = true → es = Ml.events s.text) ∧ s.text.length ≤ 16384
theorem TextAt.ex {K : PySem.W.Frag} {F : Addr → Prop} {H H' : Hp} {tx : Addr} {s : Mark.State} (x : Ex H H') (h : TextAt K F H tx s) : TextAt K F H' tx s := by
  obtain ⟨dx, r, e, es, h1, h2, h3, h4, h5⟩ := h
  exact ⟨dx, r, e, es, x _ _ h1, out_mono x _ _ h2, h3.ex (out_mono x), h4, h5⟩
theorem TextAt.not {K : PySem.W.Frag} {F : Addr → Prop} {H : Hp} {tx p : Addr} {s : Mark.State} (h : TextAt K F H tx s) (hp : H p = none) : p ≠ tx := by
  obtain ⟨dx, r, e, es, h1, _⟩ := h
  intro z
  rw [z, h1] at hp
  cases hp
theorem Win.but {F : Addr → Prop} {H H' : Hp} {tx : Addr} {o : HO} (w : Win F H) (h : But tx H H') (ht : H' tx = some o) : Win F H' := fun b hb hF => by
  cases hq : H b with
  | none => exact w b hq hF
  | some u =>
    by_cases hn : b = tx
    · rw [hn, ht] at hb
      cases hb
    · rw [h b u hq hn] at hb
      cases hb
theorem EvsAt.nil {G : Hp} {p : Addr} (h : G p = some (.lst [])) : EvsAt G p [] := ⟨[], h, Each.nil⟩
theorem EvsAt.sq {G : Hp} {p : Addr} {es : List Ml.Event} (h : EvsAt G p es) : ∃ xs : List V, G p = some (.lst xs) ∧ xs.length = es.length := by
  obtain ⟨ps, h1, h2⟩ := h
  exact ⟨_, h1, by rw [List.length_map]; exact h2.1⟩
def ArgsAt (K : PySem.W.Frag) (H : Hp) (n rs : Addr) : Mark.Call → Prop
  | .feed t => ∃ a, SqL K H rs [.ref a] ∧ SqL K H a (bs t) ∧ t.length ≤ 17000
  | .all t => ∃ a, SqL K H rs [.ref a] ∧ SqL K H a (bs t) ∧ t.length ≤ 17000
  | .lines t => ∃ a, SqL K H rs [.ref a] ∧ SqL K H a (bs t) ∧ t.length ≤ 17000
  | .event i => SqL K H n [.int (i : Int)]
  | _ => True
def vi (l : List Int) : List V := l.map V.int
def Told (K : PySem.W.Frag) (F : Addr → Prop) (H : Hp) (tx : Addr) (x : Mark.State × List Int) (Q : VK) : Prop := ∀ p H', H p = none → But tx H H' → H' p = some (.lst (vi x.2)) → TextAt K F H' tx x.1 → Q (.ref p) H'
def spDeed (K : PySem.W.Frag) (C : Mark.Call → Prop) : Sp := fun vs H Q _ => ∃ F tx n rs s c, C c ∧ vs = [.ref tx, .ref n, .ref rs] ∧ F tx ∧ Win F H ∧ TextAt K F H tx s ∧ ArgsAt K H n rs c ∧ Told K F H tx (Mark.step s c) Q
def spTextInit (K : PySem.W.Frag) : Sp := fun vs H Q _ => ∃ t dx, vs = [.ref t] ∧ H t = some (.ins (cText K) dx []) ∧ ∀ r e H', H r = none → H e = none → H' t = some (.ins (cText K) dx (txF (.ref r) (.bl false) (.ref e))) → H' r = some (.lst []) → H' e = some (.lst []) → But t H H' → Q .non H'
def spListed (K : PySem.W.Frag) : Sp := fun vs H Q _ => ∃ a xs, vs = [.ref a] ∧ SqL K H a xs ∧ xs.length ≤ 8000000 ∧ RetL (.int (xs.length : Int) :: xs) H Q
def spEvTold (K : PySem.W.Frag) : Sp := fun vs H Q _ => ∃ q e, vs = [.ref (q : Addr × Addr).1] ∧ EvAt H q e ∧ e.bytes.length ≤ 1000000 ∧ RetL (vi (Mark.eventNums e)) H Q
def spLineTold (K : PySem.W.Frag) : Sp := fun vs H Q _ => ∃ x l, vs = [.ref x] ∧ LineAt K H x l ∧ l.length ≤ 1000000 ∧ RetL (vi (Mark.lineNums (Ml.lineOf l))) H Q
section
variable {K : PySem.W.Frag} {H : Hp}
theorem l_listed {a : Addr} {xs : List V} (h : SqL K H a xs) (hl : xs.length ≤ 8000000) : SpL (spListed K) [.ref a] H (.int (xs.length : Int) :: xs) := fun H1 x Q q _ => ⟨a, xs, rfl, ex_l x h, hl, q⟩
theorem l_evTold {q : Addr × Addr} {e : Ml.Event} (h : EvAt H q e) (hl : e.bytes.length ≤ 1000000) : SpL (spEvTold K) [.ref q.1] H (vi (Mark.eventNums e)) := fun H1 x Q k _ => ⟨q, e, rfl, h.ex x, hl, k⟩
theorem l_lineTold {x : Addr} {l : Ml.Bytes} (h : LineAt K H x l) (hl : l.length ≤ 1000000) : SpL (spLineTold K) [.ref x] H (vi (Mark.lineNums (Ml.lineOf l))) := fun H1 e Q k _ => ⟨x, l, rfl, h.ex e, hl, k⟩
theorem vi_bytes (b : Ml.Bytes) : vi (Mark.bytes b) = .int (b.length : Int) :: bs b := by
  unfold vi Mark.bytes bs
  rw [List.map_cons, List.map_map]
  rfl
theorem vi_event (e : Ml.Event) : vi (Mark.eventNums e) = .int (e.kind : Int) :: .int (e.num : Int) :: .int (e.bytes.length : Int) :: bs e.bytes := by
  show V.int _ :: V.int _ :: vi (Mark.bytes e.bytes) = _
  rw [vi_bytes]
theorem vi_app (a b : List Int) : vi (a ++ b) = vi a ++ vi b := List.map_append ..
end
section
variable {K : PySem.W.Frag} {σ : L2.St} {H : Hp} {te : TE} {tz : TS} {D : Ends} {v : V}
theorem eg_ev (h : Ev te σ H v) : EvG te σ H (fun u _ _ => u = v) := fun H1 e Q q => h H1 e _ fun H2 e2 => q v H2 e2 rfl
theorem eg_l {xs : List V} (h : EvL te σ H xs) : EvG te σ H (fun u H1 H2 => ∃ p, u = .ref p ∧ H1 p = none ∧ H2 p = some (.lst xs)) := fun H1 e Q q => h H1 e _ fun p H2 hp e2 h2 => q _ H2 e2 ⟨p, rfl, hp, h2⟩
theorem q_setF {f : Str} {tx C dx : Addr} {fs : List (Str × V)} {P : V → Hp → Hp → Prop} (h : EvG te σ H P) (h0 : σ[0]? = some (some (.ref tx))) (ht : H tx = some (.ins C dx fs)) (c : Cls K C) (n : NoAttr K C f) (hl : fs.length < 1000)
    (k : ∀ v H1, Ex H H1 → P v H H1 → tz D σ (upd H1 tx (.ins C dx (putF f v fs)))) : tSeq (sFld K (tVar 0) te f) tz D σ H := h H (Ex.refl H) _ fun v H1 e p => ⟨_, h0, tx, C, dx, fs, rfl, e _ _ ht, c, n, hl, k v H1 e p⟩
theorem el_catF {ta tb : TE} {a : Addr} {xs zs : List V} (ha : Ev ta σ H (.ref a)) (h : H a = some (.lst xs)) (hb : EvL tb σ H zs) (hl : xs.length + zs.length ≤ sizeLine) : EvL (tOp rCat ta tb) σ H (xs ++ zs) := fun H1 e Q q =>
  ha H1 e _ fun H2 e2 => hb H2 (e.trans e2) _ fun p H3 hp e3 hx => ⟨a, p, xs, zs, rfl, rfl, ((e.trans e2).trans e3) _ _ h, hx, hl, fun r hr => q r _ (fresh_back (e2.trans e3) hr) ((e2.trans e3).trans (Evl.Ex.new hr)) upd_same⟩
theorem el_callN {sp : Sp} {xs ys : List V} {E : XK} (h : EvL te σ H xs) (hs : ∀ p H1, H1 p = some (.lst xs) → SpL sp [.ref p] H1 ys) : EvL (tCall sp [] E (tCons te tNil)) σ H ys := fun H1 e Q q =>
  h H1 e _ fun p H2 hp e2 hx => hs p H2 hx H2 (Evl.Ex.refl _) Q (fun p2 H3 hp2 e3 h3 => q p2 H3 (fresh_back e2 hp2) (e2.trans e3) h3) E
theorem eg_events {ta : TA} {a : Addr} {x : Ml.Bytes} {E : XK} (ha : EvA ta σ H [.ref a]) (h : SqL K H a (bs x)) (hx : x.length ≤ 20000) : EvG (tCall (spEvents K) [] E ta) σ H (fun u H1 H2 => ∃ p, u = .ref p ∧ H1 p = none ∧ ∀ F, Win F H1 → EvsAt (out F H2) p (Ml.events x)) := fun H1 e Q q =>
  ha H1 e _ fun H2 e2 => ⟨a, x, rfl, ex_l (e.trans e2) h, hx, fun p H3 hp e3 hE => q _ H3 (e2.trans e3) ⟨p, rfl, fresh_back e2 hp, fun F w => hE F (w.ex e2)⟩⟩
theorem eg_lines {ta : TA} {a : Addr} {x : Ml.Bytes} {E : XK} (ha : EvA ta σ H [.ref a]) (h : SqL K H a (bs x)) (hx : x.length ≤ 30000) : EvG (tCall (spLinesOf K) [] E ta) σ H (fun u H1 H2 => ∃ p, u = .ref p ∧ H1 p = none ∧ LinesAt K H2 p (Ml.lines x)) := fun H1 e Q q =>
  ha H1 e _ fun H2 e2 => ⟨fun _ => False, a, x, rfl, win_none _, ex_l (e.trans e2) h, hx, fun p H3 hp e3 hE => q _ H3 (e2.trans e3) ⟨p, rfl, fresh_back e2 hp, by rw [out_none] at hE; exact hE⟩⟩
theorem ev_ixA {p a : Addr} {j : Int} {ta tb : TE} (ha : Ev ta σ H (.ref p)) (hb : Ev tb σ H (.int j)) (h : SqL K H p [.ref a]) (hj : j = 0) : Ev (tOp (rIxL K) ta tb) σ H (.ref a) := ev_ixL (i := 0) ha hb h hj rfl
theorem q_told {α : Type} {f : α → List Int} {ls : List α} {xs : List V} {sp : Sp} {E : XK} {H0 : Hp} {d p : Addr} {head : V} {v0 v1 v2 v5 : Option V} (hp : SqL K H0 p xs) (hlen : xs.length = ls.length) (hd0 : H0 d = none) (e0 : Ex H0 H) (hd : H d = some (.lst [head]))
    (hs : ∀ (i : Nat) x a H1, xs[i]? = some x → ls[i]? = some a → Ex H0 H1 → SpL sp [x] H1 (vi (f a))) (hb : (ls.flatMap f).length ≤ 1000000)
    (k : ∀ v H', Ex H0 H' → H' d = some (.lst (head :: vi (ls.flatMap f))) → tz D [v0, v1, v2, some (.ref p), some (.ref d), v] H') :
    tSeq (tFor (iList K (tVar 3)) (gName 5) (tDrop (tBM K "list" rExtend (tVar 4) (tCons (tCall sp [] E (tCons (tVar 5) tNil)) tNil)))) tz D [v0, v1, v2, some (.ref p), some (.ref d), v5] H := by
  refine q_forLn (a := p) (xs := xs) (ev_var rfl) (ex_l e0 hp) (fun i σ' H' => (∃ v, σ' = [v0, v1, v2, some (.ref p), some (.ref d), v]) ∧ Ex H0 H' ∧ H' d = some (.lst (head :: vi ((ls.take i).flatMap f)))) (fun H2 e2 => ⟨⟨_, rfl⟩, e0.trans e2, e2 _ _ hd⟩) (fun i σ' H' _ q => ex_l q.2.1 hp) ?_ ?_
  · rintro i x σ' H2 hi ⟨⟨v, rfl⟩, x2, hd2⟩
    have hi' : i < ls.length := by
      have := (List.getElem?_eq_some_iff.mp hi).1
      omega
    have hc : ls[i]? = some ls[i] := List.getElem?_eq_getElem hi'
    generalize ls[i] = a at hc
    have hst : (ls.take (i + 1)).flatMap f = (ls.take i).flatMap f ++ f a := by
      rw [List.take_add_one, hc, List.flatMap_append]
      congr 1
      show List.flatMap f [a] = _
      rw [List.flatMap_cons, List.flatMap_nil, List.append_nil]
    have hle : ((ls.take (i + 1)).flatMap f).length ≤ (ls.flatMap f).length := by
      have := congrArg (fun l => (List.flatMap f l).length) (List.take_append_drop (i + 1) ls)
      simp only [List.flatMap_append, List.length_append] at this
      omega
    rw [hst, List.length_append] at hle
    have hsl : (16777216 : Nat) ≤ sizeLine := by decide
    refine s_extL hd2 (ev_var rfl) (el_call (ea_cons (ev_var rfl) ea_nil) (hs i x a H2 hi hc x2)) ?_ fun H4 e4 => ⟨⟨_, rfl⟩, Evl.Ex.mut (x2.trans e4) hd0, ?_⟩
    · unfold vi
      rw [List.length_cons, List.length_map, List.length_map]
      omega
    · rw [hst, vi_app]
      exact upd_same
  · rintro σ' H2 ⟨⟨v, rfl⟩, x2, hd2⟩
    rw [hlen, List.take_length] at hd2
    exact k v H2 x2 hd2
theorem s_setF {f : Str} {tx C dx : Addr} {fs : List (Str × V)} {P : V → Hp → Hp → Prop} (h : EvG te σ H P) (h0 : σ[0]? = some (some (.ref tx))) (ht : H tx = some (.ins C dx fs)) (c : Cls K C) (n : NoAttr K C f) (hl : fs.length < 1000)
    (k : ∀ v H1, Ex H H1 → P v H H1 → D.nx σ (upd H1 tx (.ins C dx (putF f v fs)))) : sFld K (tVar 0) te f D σ H := h H (Ex.refl H) _ fun v H1 e p => ⟨_, h0, tx, C, dx, fs, rfl, e _ _ ht, c, n, hl, k v H1 e p⟩
end
section
variable {P : Program} {w : World} {K : PySem.W.Frag} {mg : Str → Option Value} {base : Heap}
theorem ok_Text_init (T : Txt K mg) : Mak P w K mg base 1 "Text" (cText K) (spTextInit K) [] := by
  refine mak_d T.mk_Text T.g_Text T.d_Text_init sc_Text_init bi_Text_init (fun vs H Q E h => ?_) fun cdv A outer s H vs Q E hr h => ?_
  · obtain ⟨t, dx, rfl, _⟩ := h
    rfl
  obtain ⟨t, dx, rfl, ht, k⟩ := h
  refine ⟨_, (pss_cons (ps_fld (pv 0) (pe_lst pa_nil) rfl)
  (pss_cons (ps_fld (pv 0) pe_bl rfl)
  (pss_one (ps_fld (pv 0) (pe_lst pa_nil) rfl)))), ?_⟩
  have n1 : ¬ ("row" : Str) = "has_ended" := by decide +kernel
  refine q_setF (eg_l (el_lst ea_nil (Nat.zero_le _))) rfl ht T.cl_Text T.n_Text_row (by decide) fun v H1 e1 ⟨r, hv, hr, h1⟩ => ?_
  subst hv
  have hrt : r ≠ t := Ne.symm (ne_of_none ht hr)
  refine q_setF (eg_ev ev_c) rfl upd_same T.cl_Text T.n_Text_has_ended (by show 1 < 1000; decide) fun v H2 e2 hv => ?_
  subst hv
  refine s_setF (eg_l (el_lst ea_nil (Nat.zero_le _))) rfl upd_same T.cl_Text T.n_Text_events ?_ fun v H3 e3 ⟨e, hv, he, h3⟩ => ?_
  · simp only [putF, n1, if_false]
    show 2 < 1000
    decide
  subst hv
  have het : e ≠ t := fun z => by
    rw [z, upd_same] at he
    cases he
  have b1 := ((But.of (tx := t) e1).trans (But.set _)).trans (But.of e2)
  have b2 := b1.trans (But.set (tx := t) (.ins (cText K) dx (putF "has_ended" (.bl false) (putF "row" (.ref r) []))))
  refine k r e _ hr (b2.none he het) (Eq.trans upd_same (congrArg (fun q => some (HO.ins (cText K) dx q)) txF_new)) ?_ ?_ ((b2.trans (But.of e3)).trans (But.set _))
  · rw [upd_ne hrt]
    refine e3 _ _ ?_
    rw [upd_ne hrt]
    refine e2 _ _ ?_
    rw [upd_ne hrt]
    exact h1
  · rw [upd_ne het]
    exact h3
theorem ok_listed (T : Txt K mg) : Cal P w K mg base 1 "listed" (spListed K) [] := by
  refine cal_d T.d_listed sc_listed bi_listed (fun vs H Q E h => ?_) fun f cdv A outer s0 H vs Q E hr h => ?_
  · obtain ⟨a, xs, rfl, _⟩ := h
    rfl
  obtain ⟨a, xs, rfl, hS, hl, k⟩ := h
  refine ⟨_, (pss_one (ps_ret (pe_op op_cat (pe_lst (pa_cons (pe_callB call_lenS rfl T.b_len boot_len (pa_cons (pv 0) pa_nil)) pa_nil)) (pe_callTy call_listS rfl T.b_list (by decide +kernel) (pa_cons (pv 0) pa_nil))))), ?_⟩
  have hsl : (16777216 : Nat) ≤ sizeLine := by decide
  exact s_retL (el_cat2 (el_lst (ea_cons (ev_len (ev_var rfl) hS) ea_nil) (by show 1 ≤ 100000; decide)) (el_list (ev_var rfl) hS) (by show 1 + xs.length ≤ sizeLine; omega)) k
theorem ok_event_told (T : Txt K mg) (c_listed : Cal P w K mg base 1 "listed" (spListed K) []) : Cal P w K mg base 2 "event_told" (spEvTold K) [] := by
  refine cal_d T.d_event_told sc_event_told bi_event_told (fun vs H Q E h => ?_) fun f cdv A outer s0 H vs Q E hr h => ?_
  · obtain ⟨q, e, rfl, _⟩ := h
    rfl
  obtain ⟨q, e, rfl, hE, hl, k⟩ := h
  refine ⟨_, (pss_cons (ps_asg (pv 0) (pg_tup rfl (pgs_cons (pg_name (i := 1) sc_event_told.nd rfl (Or.inl rfl)) (pgs_cons (pg_name (i := 2) sc_event_told.nd rfl (Or.inl rfl)) (pgs_cons (pg_name (i := 3) sc_event_told.nd rfl (Or.inl rfl)) pgs_nil)))))
  (pss_one (ps_ret (pe_op op_cat (pe_lst (pa_cons (pv 1) (pa_cons (pv 2) pa_nil))) (pe_c c_listed hr (by decide) rfl (pa_cons (pv 3) pa_nil)))))), ?_⟩
  have hsl : (16777216 : Nat) ≤ sizeLine := by decide
  refine ⟨_, rfl, q.1, _, rfl, st_of hE.1, rfl, _, _, rfl, _, _, rfl, _, _, rfl, rfl, ?_⟩
  have hS : SqL K H q.2 (bs e.bytes) := sq_of hE.2
  rw [vi_event, ← bs_len e.bytes] at k
  exact s_retL (el_cat2 (el_lst (ea_cons (ev_var rfl) (ea_cons (ev_var rfl) ea_nil)) (by show 2 ≤ 100000; decide)) (el_call (ea_cons (ev_var rfl) ea_nil) (l_listed hS (by rw [bs_len]; omega))) (by show 2 + ((bs e.bytes).length + 1) ≤ sizeLine; rw [bs_len]; omega)) k
theorem ok_begin (T : Txt K mg) : Cal P w K mg base 1 "begin" (spDeed K fun c => c = .begin_) [] := by
  refine cal_d T.d_begin sc_begin bi_begin (fun vs H Q E h => ?_) fun f cdv A outer s0 H vs Q E hr h => ?_
  · obtain ⟨F, tx, n, rs, s, c, _, rfl, _⟩ := h
    rfl
  obtain ⟨F, tx, n, rs, s, c, rfl, rfl, hF, wn, hT, hA, k⟩ := h
  refine ⟨_, (pss_cons (ps_fld (pv 0) (pe_lst pa_nil) rfl)
  (pss_cons (ps_fld (pv 0) pe_bl rfl)
  (pss_cons (ps_fld (pv 0) (pe_lst pa_nil) rfl)
  (pss_one (ps_ret (pe_lst (pa_cons pe_int pa_nil))))))), ?_⟩
  obtain ⟨dx, r0, e0, es, h1, h2, h3, h4, h5⟩ := hT
  refine q_setF (eg_l (el_lst ea_nil (Nat.zero_le _))) rfl h1 T.cl_Text T.n_Text_row (by show 3 < 1000; decide) fun v H1 x1 ⟨r, hv, hr, g1⟩ => ?_
  subst hv
  rw [txF_putR]
  refine q_setF (eg_ev ev_c) rfl upd_same T.cl_Text T.n_Text_has_ended (by show 3 < 1000; decide) fun v H2 x2 hv => ?_
  subst hv
  rw [txF_putH]
  refine q_setF (eg_l (el_lst ea_nil (Nat.zero_le _))) rfl upd_same T.cl_Text T.n_Text_events (by show 3 < 1000; decide) fun v H3 x3 ⟨e, hv, he, g3⟩ => ?_
  subst hv
  rw [txF_putE]
  have hrt : r ≠ tx := Ne.symm (ne_of_none h1 hr)
  have het : e ≠ tx := fun z => by
    rw [z, upd_same] at he
    cases he
  have b1 := ((But.of (tx := tx) x1).trans (But.set _)).trans (But.of x2)
  have b2 := b1.trans (But.set (tx := tx) (.ins (cText K) dx (txF (.ref r) (.bl false) (.ref e0))))
  have b3 := (b2.trans (But.of x3)).trans (But.set (tx := tx) (.ins (cText K) dx (txF (.ref r) (.bl false) (.ref e))))
  refine s_retL (el_lst (ea_cons ev_c ea_nil) (by show 1 ≤ 100000; decide)) fun p H4 hp x4 hx => k p H4 ?_ (b3.trans (But.of x4)) hx ⟨dx, r, e, [], x4 _ _ upd_same, ?_, EvsAt.nil ?_, fun z => Bool.noConfusion z, Nat.zero_le _⟩
  · refine b3.none hp fun z => ?_
    rw [z, upd_same] at hp
    cases hp
  · rw [out_at (wn _ hr)]
    refine x4 _ _ ?_
    rw [upd_ne hrt]
    refine x3 _ _ ?_
    rw [upd_ne hrt]
    refine x2 _ _ ?_
    rw [upd_ne hrt]
    exact g1
  · rw [out_at (wn _ (b2.none he het))]
    refine x4 _ _ ?_
    rw [upd_ne het]
    exact g3
theorem ok_feed (T : Txt K mg) : Cal P w K mg base 1 "feed" (spDeed K fun c => ∃ t, c = .feed t) [] := by
  refine cal_d T.d_feed sc_feed bi_feed (fun vs H Q E h => ?_) fun f cdv A outer s0 H vs Q E hr h => ?_
  · obtain ⟨F, tx, n, rs, s, c, _, rfl, _⟩ := h
    rfl
  obtain ⟨F, tx, n, rs, s, c, ⟨t, rfl⟩, rfl, hF, wn, hT, hA, k⟩ := h
  refine ⟨_, (pss_cons (ps_if (pt_val (pe_fld (pv 0) rfl))
  (pss_one (ps_ret (pe_lst (pa_cons (pe_gc rfl T.k_HAS_ENDED) pa_nil))))
  pss_nil)
  (pss_cons (ps_if (pt_cmpR op_gt (pe_op op_add (pe_callB call_lenS rfl T.b_len boot_len (pa_cons (pe_fld (pv 0) rfl) pa_nil)) (pe_callB call_lenS rfl T.b_len boot_len (pa_cons (pe_ix ix_list (pv 2) pe_int (fun _ _ => rfl)) pa_nil))) (pe_gc rfl T.k_MOST_TEXT) (nomark _))
  (pss_one (ps_ret (pe_lst (pa_cons (pe_gc rfl T.k_TOO_LONG) pa_nil))))
  pss_nil)
  (pss_cons (ps_fld (pv 0) (pe_op op_cat (pe_fld (pv 0) rfl) (pe_callTy call_listS rfl T.b_list (by decide +kernel) (pa_cons (pe_ix ix_list (pv 2) pe_int (fun _ _ => rfl)) pa_nil))) rfl)
  (pss_one (ps_ret (pe_lst (pa_cons pe_int pa_nil))))))), ?_⟩
  have hT0 := hT
  obtain ⟨dx, r, e, es, h1, h2, h3, h4, h5⟩ := hT
  obtain ⟨a, hrs, ha, hl⟩ := hA
  have h2' := (out_of h2).2
  have hsl : (16777216 : Nat) ≤ sizeLine := by decide
  refine q_when (b := s.ended) (et_B (ev_fld (ev_var rfl) h1 T.cl_Text T.n_Text_has_ended txF_ended)) (fun hb H1 e1 => ?_) fun hb H1 e1 => ?_
  · have hst : Mark.step s (.feed t) = (s, Mark.no 2) := if_pos hb
    rw [hst] at k
    exact s_retL (el_lst (ea_cons ev_c ea_nil) (by show 1 ≤ 100000; decide)) fun p H2 hp e2 hx => k p H2 (fresh_back e1 hp) (But.of (e1.trans e2)) hx (hT0.ex (e1.trans e2))
  have hb' : ¬ s.ended = true := by rw [hb]; exact Bool.false_ne_true
  have hrow : ∀ {H2 : Hp} {σ : L2.St}, Ex H H2 → σ[0]? = some (some (.ref tx)) → Ev (tFld K (tVar 0) "row") σ H2 (.ref r) := fun x h0 => ev_fld (ev_var h0) (x _ _ h1) T.cl_Text T.n_Text_row txF_row
  refine q_when (b := decide (16384 < s.text.length + t.length)) (et_test (ev_gt (ev_add (ev_len (hrow e1 rfl) (sq_of (e1 _ _ h2'))) (ev_len (ev_ixA (ev_var rfl) ev_c (ex_l e1 hrs) rfl) (ex_l e1 ha)) rfl) ev_c ?_)) (fun hc H2 e2 => ?_) fun hc H2 e2 => ?_
  · rw [bs_len, bs_len]
    exact decide_eq_decide.mpr (by omega)
  · have hst : Mark.step s (.feed t) = (s, Mark.no 1) := (if_neg hb').trans (if_pos (of_decide_eq_true hc))
    rw [hst] at k
    have x2 := e1.trans e2
    exact s_retL (el_lst (ea_cons ev_c ea_nil) (by show 1 ≤ 100000; decide)) fun p H3 hp e3 hx => k p H3 (fresh_back x2 hp) (But.of (x2.trans e3)) hx (hT0.ex (x2.trans e3))
  have hc' := of_decide_eq_false hc
  have hst : Mark.step s (.feed t) = ({ s with text := s.text ++ t }, Mark.says 0) := (if_neg hb').trans (if_neg hc')
  rw [hst] at k
  have x2 := e1.trans e2
  refine q_setF (eg_l (el_catF (hrow x2 rfl) (x2 _ _ h2') (el_list (ev_ixA (ev_var rfl) ev_c (ex_l x2 hrs) rfl) (ex_l x2 ha)) (by rw [bs_len, bs_len]; omega))) rfl (x2 _ _ h1) T.cl_Text T.n_Text_row (by show 3 < 1000; decide) fun v H3 x3 ⟨q, hv, hq, g3⟩ => ?_
  subst hv
  rw [txF_putR]
  have x3' := x2.trans x3
  have hqn := fresh_back x2 hq
  have hqt : q ≠ tx := Ne.symm (ne_of_none h1 hqn)
  have b3 := (But.of (tx := tx) x3').trans (But.set (tx := tx) (.ins (cText K) dx (txF (.ref q) (.bl s.ended) (.ref e))))
  refine s_retL (el_lst (ea_cons ev_c ea_nil) (by show 1 ≤ 100000; decide)) fun p H4 hp x4 hx => k p H4 ?_ (b3.trans (But.of x4)) hx ⟨dx, q, e, es, x4 _ _ upd_same, ?_, h3.ex ((b3.trans (But.of x4)).out hF), fun z => absurd z hb', ?_⟩
  · refine b3.none hp fun z => ?_
    rw [z, upd_same] at hp
    cases hp
  · rw [out_at (wn _ hqn), bs_app]
    refine x4 _ _ ?_
    rw [upd_ne hqt]
    exact g3
  · show (s.text ++ t).length ≤ 16384
    rw [List.length_append]
    omega
end
end Mk
set_option Elab.async false
set_option linter.all false
set_option maxRecDepth 100000
set_option maxHeartbeats 4000000
namespace Mk
open PySem PySem.Spec PyProof.Rows L2 C8 Evl
theorem evnums_len : ∀ es : List Ml.Event, (es.flatMap Mark.eventNums).length ≤ 3 * MA.wt es
  | [] => Nat.zero_le _
  | e :: es => by
    have h := evnums_len es
    have h1 : (Mark.eventNums e).length = e.bytes.length + 3 := by
      show ((e.kind : Int) :: (e.num : Int) :: (e.bytes.length : Int) :: e.bytes.map fun (c : UInt8) => (c.toNat : Int)).length = _
      simp
    rw [List.flatMap_cons, List.length_append, h1]
    show _ ≤ 3 * (1 + e.bytes.length + MA.wt es)
    omega
theorem textL_len (l : Ml.Bytes) : (MA.textL (Ml.lineOf l)).length ≤ l.length := MA.textL_le l
theorem lnums_len (l : Ml.Bytes) : (Mark.lineNums (Ml.lineOf l)).length ≤ 3 + l.length := by
  have h := textL_len l
  have hb : ∀ b : Ml.Bytes, (Mark.bytes b).length = b.length + 1 := fun b => by
    show ((b.length : Int) :: b.map fun (c : UInt8) => (c.toNat : Int)).length = _
    simp
  cases hl : Ml.lineOf l with
  | blank => show 1 ≤ 3 + l.length; omega
  | fence t =>
    rw [hl] at h
    have h' : t.length ≤ l.length := h
    show (Mark.bytes t).length + 1 ≤ _
    rw [hb]
    omega
  | heading n t =>
    rw [hl] at h
    have h' : t.length ≤ l.length := h
    show (Mark.bytes t).length + 1 + 1 ≤ _
    rw [hb]
    omega
  | item n t =>
    rw [hl] at h
    have h' : t.length ≤ l.length := h
    show (Mark.bytes t).length + 1 + 1 ≤ _
    rw [hb]
    omega
  | plain t =>
    rw [hl] at h
    have h' : t.length ≤ l.length := h
    show (Mark.bytes t).length + 1 ≤ _
    rw [hb]
    omega
theorem lnumss_len : ∀ ls : List Ml.Bytes, (ls.flatMap fun l => Mark.lineNums (Ml.lineOf l)).length ≤ 3 * MA.lsum ls
  | [] => Nat.zero_le _
  | l :: ls => by
    have h := lnumss_len ls
    have h1 := lnums_len l
    rw [List.flatMap_cons, List.length_append]
    show _ ≤ 3 * (l.length + 1 + MA.lsum ls)
    omega
section
variable {P : Program} {w : World} {K : PySem.W.Frag} {mg : Str → Option Value} {base : Heap}
theorem ok_end (T : Txt K mg) (c_events_of : Cal P w K mg base 11 "events_of" (spEvents K) []) : Cal P w K mg base 12 "end" (spDeed K fun c => c = .end_) [] := by
  refine cal_d T.d_end sc_end bi_end (fun vs H Q E h => ?_) fun f cdv A outer s0 H vs Q E hr h => ?_
  · obtain ⟨F, tx, n, rs, s, c, _, rfl, _⟩ := h
    rfl
  obtain ⟨F, tx, n, rs, s, c, rfl, rfl, hF, wn, hT, hA, k⟩ := h
  refine ⟨_, (pss_cons (ps_if (pt_not (pt_val (pe_fld (pv 0) rfl)))
  (pss_cons (ps_fld (pv 0) (pe_c c_events_of hr (by decide) rfl (pa_cons (pe_fld (pv 0) rfl) pa_nil)) rfl)
  (pss_one (ps_fld (pv 0) pe_bl rfl)))
  pss_nil)
  (pss_one (ps_ret (pe_lst (pa_cons (pe_callB call_lenS rfl T.b_len boot_len (pa_cons (pe_fld (pv 0) rfl) pa_nil)) pa_nil))))), ?_⟩
  have hT0 := hT
  obtain ⟨dx, r, e, es, h1, h2, h3, h4, h5⟩ := hT
  have hst : Mark.step s .end_ = ({ s with ended := true }, Mark.says (Ml.events s.text).length) := rfl
  rw [hst] at k
  have fin : ∀ (D : Ends) H1, D.rt = Q → But tx H H1 → TextAt K F H1 tx { s with ended := true } → tRet (tLst (tCons (tCB (rLenS K) (tCons (tFld K (tVar 0) "events") tNil)) tNil)) D [some (.ref tx), some (.ref n), some (.ref rs)] H1 := fun D H1 hD b hT1 => by
    have hT1' := hT1
    obtain ⟨dx1, r1, e1, es1, g1, g2, g3, g4, g5⟩ := hT1
    obtain ⟨xs, hxs, hxl⟩ := g3.sq
    refine s_retL (el_lst (ea_cons (ev_len (ev_fld (ev_var rfl) g1 T.cl_Text T.n_Text_events txF_events) (sq_of (out_of hxs).2)) ea_nil) (by show 1 ≤ 100000; decide)) fun p H2 hp x2 hx => ?_
    rw [hD]
    refine k p H2 (b.none hp (hT1'.not hp)) (b.trans (But.of x2)) ?_ (hT1'.ex x2)
    rw [hx, hxl, g4 rfl]
    rfl
  refine q_when (b := !s.ended) (et_not (et_B (ev_fld (ev_var rfl) h1 T.cl_Text T.n_Text_has_ended txF_ended))) (fun hb H1 e1 => ?_) fun hb H1 e1 => ?_
  · refine q_setF (eg_events (x := s.text) (ea_cons (ev_fld (ev_var rfl) (e1 _ _ h1) T.cl_Text T.n_Text_row txF_row) ea_nil) (sq_of (e1 _ _ (out_of h2).2)) (by omega)) rfl (e1 _ _ h1) T.cl_Text T.n_Text_events (by show 3 < 1000; decide) fun v H2 e2 ⟨p, hv, hp, hE⟩ => ?_
    subst hv
    rw [txF_putE]
    have hpn := fresh_back e1 hp
    have hEF := hE F (wn.ex e1)
    have b1 := But.of (tx := tx) (e1.trans e2)
    have b2 := b1.trans (But.set (.ins (cText K) dx (txF (.ref r) (.bl s.ended) (.ref p))))
    refine s_setF (eg_ev ev_c) rfl upd_same T.cl_Text T.n_Text_has_ended (by show 3 < 1000; decide) fun v H3 e3 hv => ?_
    subst hv
    rw [txF_putH]
    have b23 := (But.set (tx := tx) (H := H2) (.ins (cText K) dx (txF (.ref r) (.bl s.ended) (.ref p)))).trans ((But.of e3).trans (But.set (.ins (cText K) dx (txF (.ref r) (.bl true) (.ref p)))))
    refine fin _ _ rfl (b1.trans b23) ⟨dx, r, p, _, upd_same, ?_, hEF.ex (b23.out hF), fun _ => rfl, h5⟩
    exact ((b1.trans b23).out hF) _ _ h2
  · have hb' : s.ended = true := by
      cases hs : s.ended with
      | true => rfl
      | false => rw [hs] at hb; cases hb
    have hs' : ({ s with ended := true } : Mark.State) = s := by
      obtain ⟨tt, ee⟩ := s
      cases hb'
      rfl
    refine fin _ _ rfl (But.of e1) ?_
    rw [hs']
    exact hT0.ex e1
theorem ok_event (T : Txt K mg) (c_event_told : Cal P w K mg base 2 "event_told" (spEvTold K) []) : Cal P w K mg base 3 "event" (spDeed K fun c => ∃ i, c = .event i) [] := by
  refine cal_d T.d_event sc_event bi_event (fun vs H Q E h => ?_) fun f cdv A outer s0 H vs Q E hr h => ?_
  · obtain ⟨F, tx, n, rs, s, c, _, rfl, _⟩ := h
    rfl
  obtain ⟨F, tx, n, rs, s, c, ⟨i, rfl⟩, rfl, hF, wn, hT, hA, k⟩ := h
  refine ⟨_, (pss_cons (ps_if (PW.pt (pw_or (pt_not (pt_val (pe_fld (pv 0) rfl))) (pw_or1 (pt_not (pt_chain op_le op_lt pe_int (pe_ix ix_list (pv 1) pe_int (fun _ _ => rfl)) (pe_callB call_lenS rfl T.b_len boot_len (pa_cons (pe_fld (pv 0) rfl) pa_nil)))))))
  (pss_one (ps_ret (pe_lst (pa_cons (pe_gc rfl T.k_NOT_THERE) pa_nil))))
  pss_nil)
  (pss_one (ps_ret (pe_c c_event_told hr (by decide) rfl (pa_cons (pe_ix ix_list (pe_fld (pv 0) rfl) (pe_ix ix_list (pv 1) pe_int (fun _ _ => rfl)) (fun _ _ => rfl)) pa_nil))))), ?_⟩
  have hT0 := hT
  obtain ⟨dx, r, e, es, h1, h2, h3, h4, h5⟩ := hT
  have hA' : SqL K H n [.int (i : Int)] := hA
  have hen : Ev (tFld K (tVar 0) "has_ended") [some (.ref tx), some (.ref n), some (.ref rs)] H (.bl s.ended) := ev_fld (ev_var rfl) h1 T.cl_Text T.n_Text_has_ended txF_ended
  have ref : ∀ (D : Ends) H1, D.rt = Q → Ex H H1 → Mark.step s (.event i) = (s, Mark.no 3) → tRet (tLst (tCons (tC (.int (-3))) tNil)) D [some (.ref tx), some (.ref n), some (.ref rs)] H1 := fun D H1 hD x hst => by
    rw [hst] at k
    refine s_retL (el_lst (ea_cons ev_c ea_nil) (by show 1 ≤ 100000; decide)) fun p H2 hp x2 hx => ?_
    rw [hD]
    exact k p H2 (fresh_back x hp) (But.of (x.trans x2)) hx (hT0.ex (x.trans x2))
  cases hs : s.ended with
  | false =>
    rw [hs] at hen
    refine q_when (b := true) (et_orT (et_not (et_B hen))) (fun _ H1 e1 => ?_) (fun z => Bool.noConfusion z)
    refine ref _ H1 rfl e1 ?_
    show (s, if s.ended = false then _ else _) = _
    rw [if_pos hs]
  | true =>
    rw [hs] at hen
    have hes := h4 hs
    obtain ⟨ps, hps, hml, hat⟩ := h3
    have hps' := (out_of hps).2
    have hix : ∀ {H1}, Ex H H1 → Ev (tOp (rIxL K) (tVar 1) (tC (.int 0))) [some (.ref tx), some (.ref n), some (.ref rs)] H1 (.int (i : Int)) := fun x => ev_ixL (i := 0) (ev_var rfl) ev_c (ex_l x hA') rfl rfl
    have hev : ∀ {H1}, Ex H H1 → Ev (tFld K (tVar 0) "events") [some (.ref tx), some (.ref n), some (.ref rs)] H1 (.ref e) := fun x => ev_fld (ev_var rfl) (x _ _ h1) T.cl_Text T.n_Text_events txF_events
    have hst : Mark.step s (.event i) = (s, match (Ml.events s.text)[i]? with
      | none => Mark.no 3
      | some e => Mark.eventNums e) := by
      show (s, if s.ended = false then _ else _) = _
      rw [if_neg (by rw [hs]; exact fun z => Bool.noConfusion z)]
      rfl
    refine q_when (b := !decide (i < es.length)) (et_orF (et_not (et_B hen)) (et_not (et_test (ev_chain ev_c (hix (Evl.Ex.refl _)) (ev_len (hev (Evl.Ex.refl _)) (sq_of hps')) ?_)))) (fun hb H1 e1 => ?_) fun hb H1 e1 => ?_
    · rw [List.length_map, hml]
      have g1 : decide ((0 : Int) ≤ (i : Int)) = true := decide_eq_true (by omega)
      rw [g1, Bool.true_and]
      exact decide_eq_decide.mpr (by omega)
    · have hge : ¬ i < es.length := by
        intro z
        rw [decide_eq_true z] at hb
        cases hb
      refine ref _ H1 rfl e1 ?_
      rw [hst, ← hes, List.getElem?_eq_none (by omega)]
    · have hlt : i < es.length := by
        by_cases z : i < es.length
        · exact z
        · rw [decide_eq_false z] at hb
          cases hb
      have hc : es[i]? = some es[i] := List.getElem?_eq_getElem hlt
      generalize es[i] = ev at hc
      rw [hst, ← hes, hc] at k
      have hql : i < ps.length := by omega
      have hq : ps[i]? = some ps[i] := List.getElem?_eq_getElem hql
      generalize ps[i] = q at hq
      have hqe := (hat i q ev hq hc).ex (out_ex F H)
      have hwt := MA.events_wt s.text
      rw [← hes] at hwt
      have hw := MA.wt_mem (List.mem_of_getElem? hc)
      exact s_retL (el_call (ea_cons (ev_ixL (i := i) (hev e1) (hix e1) (sq_of (e1 _ _ hps')) rfl (by rw [List.getElem?_map, hq]; rfl)) ea_nil) (l_evTold (hqe.ex e1) (by omega))) fun p H2 hp e2 hx => k p H2 (fresh_back e1 hp) (But.of (e1.trans e2)) hx (hT0.ex (e1.trans e2))
theorem l_pageOf {H : Hp} {a : Addr} {es : List Ml.Event} (h : EvsAt H a es) (ho : MA.Oks es) (hw : MA.wt es ≤ 200000) : SpL (spPageOf K) [.ref a] H (bs (Ml.html es)) := fun H1 e Q q _ => ⟨a, es, rfl, h.ex e, ho, hw, q⟩
theorem ok_html (T : Txt K mg) (c_page_of : Cal P w K mg base 4 "page_of" (spPageOf K) []) (c_listed : Cal P w K mg base 1 "listed" (spListed K) []) : Cal P w K mg base 5 "html" (spDeed K fun c => c = .html) [] := by
  refine cal_d T.d_html sc_html bi_html (fun vs H Q E h => ?_) fun f cdv A outer s0 H vs Q E hr h => ?_
  · obtain ⟨F, tx, n, rs, s, c, _, rfl, _⟩ := h
    rfl
  obtain ⟨F, tx, n, rs, s, c, rfl, rfl, hF, wn, hT, hA, k⟩ := h
  refine ⟨_, (pss_cons (ps_if (pt_not (pt_val (pe_fld (pv 0) rfl)))
  (pss_one (ps_ret (pe_lst (pa_cons (pe_gc rfl T.k_NOT_THERE) pa_nil))))
  pss_nil)
  (pss_one (ps_ret (pe_c c_listed hr (by decide) rfl (pa_cons (pe_c c_page_of hr (by decide) rfl (pa_cons (pe_fld (pv 0) rfl) pa_nil)) pa_nil))))), ?_⟩
  have hT0 := hT
  obtain ⟨dx, r, e, es, h1, h2, h3, h4, h5⟩ := hT
  refine q_when (b := !s.ended) (et_not (et_B (ev_fld (ev_var rfl) h1 T.cl_Text T.n_Text_has_ended txF_ended))) (fun hb H1 e1 => ?_) fun hb H1 e1 => ?_
  · have hs : s.ended = false := by
      cases hs : s.ended with
      | false => rfl
      | true => rw [hs] at hb; cases hb
    have hst : Mark.step s .html = (s, Mark.no 3) := by
      show (s, if s.ended = false then _ else _) = _
      rw [if_pos hs]
    rw [hst] at k
    exact s_retL (el_lst (ea_cons ev_c ea_nil) (by show 1 ≤ 100000; decide)) fun p H2 hp x2 hx => k p H2 (fresh_back e1 hp) (But.of (e1.trans x2)) hx (hT0.ex (e1.trans x2))
  · have hs : s.ended = true := by
      cases hs : s.ended with
      | true => rfl
      | false => rw [hs] at hb; cases hb
    have hes := h4 hs
    have hst : Mark.step s .html = (s, Mark.bytes (Ml.html (Ml.events s.text))) := by
      show (s, if s.ended = false then _ else _) = _
      rw [if_neg (by rw [hs]; exact fun z => Bool.noConfusion z)]
    rw [hst, ← hes] at k
    have hwt := MA.events_wt s.text
    rw [← hes] at hwt
    have hok := MA.events_oks s.text
    rw [← hes] at hok
    have hhl := htmls_len es
    have hEv := h3.ex (out_ex F H)
    refine s_retL (el_callN (xs := bs (Ml.html es)) (el_call (ea_cons (ev_fld (ev_var rfl) (e1 _ _ h1) T.cl_Text T.n_Text_events txF_events) ea_nil) (l_pageOf (hEv.ex e1) hok (by omega))) fun p H2 hx => l_listed (sq_of hx) (by rw [bs_len]; omega)) fun p H2 hp x2 hx => k p H2 (fresh_back e1 hp) (But.of (e1.trans x2)) ?_ (hT0.ex (e1.trans x2))
    rw [hx, bs_len, ← vi_bytes]
theorem ok_every (T : Txt K mg) (c_events_of : Cal P w K mg base 11 "events_of" (spEvents K) []) (c_event_told : Cal P w K mg base 2 "event_told" (spEvTold K) []) : Cal P w K mg base 12 "every" (spDeed K fun c => ∃ t, c = .all t) [] := by
  refine cal_d T.d_every sc_every bi_every (fun vs H Q E h => ?_) fun f cdv A outer s0 H vs Q E hr h => ?_
  · obtain ⟨F, tx, n, rs, s, c, _, rfl, _⟩ := h
    rfl
  obtain ⟨F, tx, n, rs, s, c, ⟨t, rfl⟩, rfl, hF, wn, hT, hA, k⟩ := h
  refine ⟨_, (pss_cons (ps_if (pt_cmpR op_gt (pe_callB call_lenS rfl T.b_len boot_len (pa_cons (pe_ix ix_list (pv 2) pe_int (fun _ _ => rfl)) pa_nil)) (pe_gc rfl T.k_MOST_ALONE) (nomark _))
  (pss_one (ps_ret (pe_lst (pa_cons (pe_gc rfl T.k_TOO_LONG) pa_nil))))
  pss_nil)
  (pss_cons (ps_set (i := 3) sc_every.nd rfl (Or.inl rfl) (pe_c c_events_of hr (by decide) rfl (pa_cons (pe_ix ix_list (pv 2) pe_int (fun _ _ => rfl)) pa_nil)))
  (pss_cons (ps_set (i := 4) sc_every.nd rfl (Or.inl rfl) (pe_lst (pa_cons (pe_callB call_lenS rfl T.b_len boot_len (pa_cons (pv 3) pa_nil)) pa_nil)))
  (pss_cons (ps_for PassesOwn.never rfl (pi_list (pv 3)) (pg_name (i := 5) sc_every.nd rfl (Or.inl rfl))
  (pss_one (ps_expr (pe_bm PySem.F.plainAttrs_list PySem.F.slot_list_extend PySem.F.type_list_extend mt_extend (pv 4) (pa_cons (pe_c c_event_told hr (by decide) rfl (pa_cons (pv 5) pa_nil)) pa_nil)))))
  (pss_one (ps_ret (pv 4))))))), ?_⟩
  obtain ⟨a, hrs, ha, hl⟩ := hA
  refine q_when (b := decide (2048 < t.length)) (et_test (ev_gt (ev_len (ev_ixA (ev_var rfl) ev_c hrs rfl) ha) ev_c ?_)) (fun hc H1 e1 => ?_) fun hc H1 e1 => ?_
  · rw [bs_len]
    exact decide_eq_decide.mpr (by omega)
  · have hst : Mark.step s (.all t) = (s, Mark.no 1) := by
      show (s, if Mark.ALONE < t.length then _ else _) = _
      rw [if_pos (show Mark.ALONE < t.length from of_decide_eq_true hc)]
    rw [hst] at k
    exact s_retL (el_lst (ea_cons ev_c ea_nil) (by show 1 ≤ 100000; decide)) fun p H3 hp e3 hx => k p H3 (fresh_back e1 hp) (But.of (e1.trans e3)) hx (hT.ex (e1.trans e3))
  have hc' := of_decide_eq_false hc
  have hst : Mark.step s (.all t) = (s, ((Ml.events t).length : Int) :: (Ml.events t).flatMap Mark.eventNums) := by
    show (s, if Mark.ALONE < t.length then _ else _) = _
    rw [if_neg (show ¬ Mark.ALONE < t.length from hc')]
  rw [hst] at k
  refine q_asgG (eg_events (x := t) (ea_cons (ev_ixA (ev_var rfl) ev_c (ex_l e1 hrs) rfl) ea_nil) (ex_l e1 ha) (by omega)) fun v H2 e2 ⟨p, hv, hp, hE⟩ => ?_
  subst hv
  have hE2 := hE _ (win_none _)
  rw [out_none] at hE2
  generalize hes : Ml.events t = es at hE2 k
  have hwt := MA.events_wt t
  rw [hes] at hwt
  obtain ⟨ps, hps, hml, hat⟩ := hE2
  refine q_asgL (el_lst (ea_cons (ev_len (ev_var rfl) (sq_of hps)) ea_nil) (by show 1 ≤ 100000; decide)) fun d H3 hd e3 h3 => ?_
  have x2 := e1.trans e2
  have hnl := evnums_len es
  refine q_told (f := Mark.eventNums) (ls := es) (H0 := H2) (sq_of hps) (by rw [List.length_map]; exact hml) hd e3 h3 (fun i x e H4 hx he e4 => ?_) (by omega) fun v H4 e4 h4 => ?_
  · rw [List.getElem?_map] at hx
    obtain ⟨q, hq, rfl⟩ := Option.map_eq_some_iff.mp hx
    have hw := MA.wt_mem (List.mem_of_getElem? he)
    exact l_evTold ((hat i q e hq he).ex e4) (by omega)
  · refine s_ret (ev_var rfl) fun H5 e5 => k d H5 (fresh_back x2 hd) (But.of ((x2.trans e4).trans e5)) ?_ (hT.ex ((x2.trans e4).trans e5))
    rw [e5 _ _ h4, List.length_map, hml]
    rfl
theorem ok_line_told (T : Txt K mg) (c_listed : Cal P w K mg base 1 "listed" (spListed K) []) : Cal P w K mg base 2 "line_told" (spLineTold K) [] := by
  refine cal_d T.d_line_told sc_line_told bi_line_told (fun vs H Q E h => ?_) fun f cdv A outer s0 H vs Q E hr h => ?_
  · obtain ⟨x, l, rfl, _⟩ := h
    rfl
  obtain ⟨x, l, rfl, hL, hl, k⟩ := h
  refine ⟨_, (pss_cons (ps_if (pt_cmpR op_in_seq (pe_fld (pv 0) rfl) (pe_tup (pa_cons (pe_gc rfl T.k_HEADING) (pa_cons (pe_gc rfl T.k_ITEM) pa_nil))) (by rfl))
  (pss_one (ps_ret (pe_op op_cat (pe_lst (pa_cons (pe_fld (pv 0) rfl) (pa_cons (pe_fld (pv 0) rfl) pa_nil))) (pe_c c_listed hr (by decide) rfl (pa_cons (pe_fld (pv 0) rfl) pa_nil)))))
  pss_nil)
  (pss_cons (ps_if (pt_cmpR op_in_seq (pe_fld (pv 0) rfl) (pe_tup (pa_cons (pe_gc rfl T.k_FENCE) (pa_cons (pe_gc rfl T.k_PLAIN_lines) pa_nil))) (by rfl))
  (pss_one (ps_ret (pe_op op_cat (pe_lst (pa_cons (pe_fld (pv 0) rfl) pa_nil)) (pe_c c_listed hr (by decide) rfl (pa_cons (pe_fld (pv 0) rfl) pa_nil)))))
  pss_nil)
  (pss_one (ps_ret (pe_lst (pa_cons (pe_fld (pv 0) rfl) pa_nil)))))), ?_⟩
  obtain ⟨dx, r, t, h1, h2, h3⟩ := hL
  have htl := textL_len l
  have hsl : (16777216 : Nat) ≤ sizeLine := by decide
  have hkd : ∀ {H1}, Ex H H1 → Ev (tFld K (tVar 0) "kind") [some (.ref x)] H1 (.int (MA.kindL (Ml.lineOf l))) := fun e => ev_fld (ev_var rfl) (e _ _ h1) T.cl_Line T.n_Line_kind lineF_kind
  have hnm : ∀ {H1}, Ex H H1 → Ev (tFld K (tVar 0) "number") [some (.ref x)] H1 (.int ((MA.numL (Ml.lineOf l) : Nat) : Int)) := fun e => ev_fld (ev_var rfl) (e _ _ h1) T.cl_Line T.n_Line_number lineF_number
  have hls : ∀ {H1}, Ex H H1 → EvL (tCall (spListed K) [] C8.E0 (tCons (tFld K (tVar 0) "text") tNil)) [some (.ref x)] H1 (.int ((bs (MA.textL (Ml.lineOf l))).length : Int) :: bs (MA.textL (Ml.lineOf l))) := fun e => el_call (ea_cons (ev_fld (ev_var rfl) (e _ _ h1) T.cl_Line T.n_Line_text lineF_text) ea_nil) (l_listed (sq_of (e _ _ h3)) (by rw [bs_len]; omega))
  have hin1 : ∀ {H1 b}, Ex H H1 → inV (.int (MA.kindL (Ml.lineOf l))) [.int 2, .int 3] = b → EvT (tTest (tOp (rIn K false) (tFld K (tVar 0) "kind") (tTup (tCons (tC (.int 2)) (tCons (tC (.int 3)) tNil))))) [some (.ref x)] H1 b := fun e hb => et_test (ev_is (ev_inU (hkd e) (eu_tup (ea_cons ev_c (ea_cons ev_c ea_nil)) (by show 2 ≤ 100000; decide)) rfl rfl) (congrArg V.bl hb))
  have hin2 : ∀ {H1 b}, Ex H H1 → inV (.int (MA.kindL (Ml.lineOf l))) [.int 1, .int 4] = b → EvT (tTest (tOp (rIn K false) (tFld K (tVar 0) "kind") (tTup (tCons (tC (.int 1)) (tCons (tC (.int 4)) tNil))))) [some (.ref x)] H1 b := fun e hb => et_test (ev_is (ev_inU (hkd e) (eu_tup (ea_cons ev_c (ea_cons ev_c ea_nil)) (by show 2 ≤ 100000; decide)) rfl rfl) (congrArg V.bl hb))
  have two : ∀ kd nm tx, MA.kindL (Ml.lineOf l) = kd → MA.numL (Ml.lineOf l) = nm → MA.textL (Ml.lineOf l) = tx → Mark.lineNums (Ml.lineOf l) = kd :: (nm : Int) :: Mark.bytes tx → ∀ (D : Ends) H1, D.rt = Q → Ex H H1 →
      tRet (tOp rCat (tLst (tCons (tFld K (tVar 0) "kind") (tCons (tFld K (tVar 0) "number") tNil))) (tCall (spListed K) [] C8.E0 (tCons (tFld K (tVar 0) "text") tNil))) D [some (.ref x)] H1 := fun kd nm tx g1 g2 g3 g4 D H1 hD e => by
    refine s_retL (el_cat2 (el_lst (ea_cons (hkd e) (ea_cons (hnm e) ea_nil)) (by show 2 ≤ 100000; decide)) (hls e) (by show 2 + ((bs (MA.textL (Ml.lineOf l))).length + 1) ≤ sizeLine; rw [bs_len]; omega)) fun p H2 hp e2 hx => ?_
    rw [hD]
    refine k p H2 (fresh_back e hp) (e.trans e2) ?_
    rw [hx, g4, g1, g2, g3, bs_len]
    show _ = some (HO.lst (V.int kd :: V.int (nm : Int) :: vi (Mark.bytes tx)))
    rw [vi_bytes]
    rfl
  have one : ∀ kd tx, MA.kindL (Ml.lineOf l) = kd → MA.textL (Ml.lineOf l) = tx → Mark.lineNums (Ml.lineOf l) = kd :: Mark.bytes tx → ∀ (D : Ends) H1, D.rt = Q → Ex H H1 →
      tRet (tOp rCat (tLst (tCons (tFld K (tVar 0) "kind") tNil)) (tCall (spListed K) [] C8.E0 (tCons (tFld K (tVar 0) "text") tNil))) D [some (.ref x)] H1 := fun kd tx g1 g3 g4 D H1 hD e => by
    refine s_retL (el_cat2 (el_lst (ea_cons (hkd e) ea_nil) (by show 1 ≤ 100000; decide)) (hls e) (by show 1 + ((bs (MA.textL (Ml.lineOf l))).length + 1) ≤ sizeLine; rw [bs_len]; omega)) fun p H2 hp e2 hx => ?_
    rw [hD]
    refine k p H2 (fresh_back e hp) (e.trans e2) ?_
    rw [hx, g4, g1, g3, bs_len]
    show _ = some (HO.lst (V.int kd :: vi (Mark.bytes tx)))
    rw [vi_bytes]
    rfl
  rcases MA.line_cases l with ⟨e, _⟩ | ⟨tl, e, _⟩ | ⟨n, tl, e, _, _⟩ | ⟨d, tl, e, _, _⟩ | ⟨tl, e, _⟩
  · refine q_when (b := false) (hin1 (Evl.Ex.refl _) (by rw [e]; rfl)) (fun z => Bool.noConfusion z) fun _ H1 e1 => ?_
    refine q_when (b := false) (hin2 e1 (by rw [e]; rfl)) (fun z => Bool.noConfusion z) fun _ H2 e2 => ?_
    have x2 := e1.trans e2
    refine s_retL (el_lst (ea_cons (hkd x2) ea_nil) (by show 1 ≤ 100000; decide)) fun p H3 hp e3 hx => k p H3 (fresh_back x2 hp) (x2.trans e3) ?_
    rw [hx, e]
    rfl
  · refine q_when (b := false) (hin1 (Evl.Ex.refl _) (by rw [e]; rfl)) (fun z => Bool.noConfusion z) fun _ H1 e1 => ?_
    refine q_when (b := true) (hin2 e1 (by rw [e]; rfl)) (fun _ H2 e2 => ?_) (fun z => Bool.noConfusion z)
    exact one 1 tl (by rw [e]; rfl) (by rw [e]; rfl) (by rw [e]; rfl) _ H2 rfl (e1.trans e2)
  · refine q_when (b := true) (hin1 (Evl.Ex.refl _) (by rw [e]; rfl)) (fun _ H1 e1 => ?_) (fun z => Bool.noConfusion z)
    exact two 2 n tl (by rw [e]; rfl) (by rw [e]; rfl) (by rw [e]; rfl) (by rw [e]; rfl) _ H1 rfl e1
  · refine q_when (b := true) (hin1 (Evl.Ex.refl _) (by rw [e]; rfl)) (fun _ H1 e1 => ?_) (fun z => Bool.noConfusion z)
    exact two 3 d tl (by rw [e]; rfl) (by rw [e]; rfl) (by rw [e]; rfl) (by rw [e]; rfl) _ H1 rfl e1
  · refine q_when (b := false) (hin1 (Evl.Ex.refl _) (by rw [e]; rfl)) (fun z => Bool.noConfusion z) fun _ H1 e1 => ?_
    refine q_when (b := true) (hin2 e1 (by rw [e]; rfl)) (fun _ H2 e2 => ?_) (fun z => Bool.noConfusion z)
    exact one 4 tl (by rw [e]; rfl) (by rw [e]; rfl) (by rw [e]; rfl) _ H2 rfl (e1.trans e2)
theorem ok_told_lines (T : Txt K mg) (c_lines_of : Cal P w K mg base 4 "lines_of" (spLinesOf K) []) (c_line_told : Cal P w K mg base 2 "line_told" (spLineTold K) []) : Cal P w K mg base 5 "told_lines" (spDeed K fun c => ∃ t, c = .lines t) [] := by
  refine cal_d T.d_told_lines sc_told_lines bi_told_lines (fun vs H Q E h => ?_) fun f cdv A outer s0 H vs Q E hr h => ?_
  · obtain ⟨F, tx, n, rs, s, c, _, rfl, _⟩ := h
    rfl
  obtain ⟨F, tx, n, rs, s, c, ⟨t, rfl⟩, rfl, hF, wn, hT, hA, k⟩ := h
  refine ⟨_, (pss_cons (ps_if (pt_cmpR op_gt (pe_callB call_lenS rfl T.b_len boot_len (pa_cons (pe_ix ix_list (pv 2) pe_int (fun _ _ => rfl)) pa_nil)) (pe_gc rfl T.k_MOST_ALONE) (nomark _))
  (pss_one (ps_ret (pe_lst (pa_cons (pe_gc rfl T.k_TOO_LONG) pa_nil))))
  pss_nil)
  (pss_cons (ps_set (i := 3) sc_told_lines.nd rfl (Or.inl rfl) (pe_c c_lines_of hr (by decide) rfl (pa_cons (pe_ix ix_list (pv 2) pe_int (fun _ _ => rfl)) pa_nil)))
  (pss_cons (ps_set (i := 4) sc_told_lines.nd rfl (Or.inl rfl) (pe_lst (pa_cons (pe_callB call_lenS rfl T.b_len boot_len (pa_cons (pv 3) pa_nil)) pa_nil)))
  (pss_cons (ps_for PassesOwn.never rfl (pi_list (pv 3)) (pg_name (i := 5) sc_told_lines.nd rfl (Or.inl rfl))
  (pss_one (ps_expr (pe_bm PySem.F.plainAttrs_list PySem.F.slot_list_extend PySem.F.type_list_extend mt_extend (pv 4) (pa_cons (pe_c c_line_told hr (by decide) rfl (pa_cons (pv 5) pa_nil)) pa_nil)))))
  (pss_one (ps_ret (pv 4))))))), ?_⟩
  obtain ⟨a, hrs, ha, hl⟩ := hA
  refine q_when (b := decide (2048 < t.length)) (et_test (ev_gt (ev_len (ev_ixA (ev_var rfl) ev_c hrs rfl) ha) ev_c ?_)) (fun hc H1 e1 => ?_) fun hc H1 e1 => ?_
  · rw [bs_len]
    exact decide_eq_decide.mpr (by omega)
  · have hst : Mark.step s (.lines t) = (s, Mark.no 1) := by
      show (s, if Mark.ALONE < t.length then _ else _) = _
      rw [if_pos (show Mark.ALONE < t.length from of_decide_eq_true hc)]
    rw [hst] at k
    exact s_retL (el_lst (ea_cons ev_c ea_nil) (by show 1 ≤ 100000; decide)) fun p H3 hp e3 hx => k p H3 (fresh_back e1 hp) (But.of (e1.trans e3)) hx (hT.ex (e1.trans e3))
  have hc' := of_decide_eq_false hc
  have hst : Mark.step s (.lines t) = (s, ((Ml.lines t).length : Int) :: (Ml.lines t).flatMap fun (l : Ml.Bytes) => Mark.lineNums (Ml.lineOf l)) := by
    show (s, if Mark.ALONE < t.length then _ else _) = _
    rw [if_neg (show ¬ Mark.ALONE < t.length from hc')]
  rw [hst] at k
  refine q_asgG (eg_lines (x := t) (ea_cons (ev_ixA (ev_var rfl) ev_c (ex_l e1 hrs) rfl) ea_nil) (ex_l e1 ha) (by omega)) fun v H2 e2 ⟨p, hv, hp, hE⟩ => ?_
  subst hv
  have hls := MA.lines_sum t
  generalize hes : Ml.lines t = ls at hE k hls
  obtain ⟨ps, hps, hml, hat⟩ := hE
  refine q_asgL (el_lst (ea_cons (ev_len (ev_var rfl) (sq_of hps)) ea_nil) (by show 1 ≤ 100000; decide)) fun d H3 hd e3 h3 => ?_
  have x2 := e1.trans e2
  have hnl := lnumss_len ls
  refine q_told (f := fun (l : Ml.Bytes) => Mark.lineNums (Ml.lineOf l)) (ls := ls) (H0 := H2) (sq_of hps) (by rw [List.length_map]; exact hml) hd e3 h3 (fun i x l H4 hx he e4 => ?_) (by omega) fun v H4 e4 h4 => ?_
  · rw [List.getElem?_map] at hx
    obtain ⟨q, hq, rfl⟩ := Option.map_eq_some_iff.mp hx
    have hw := MA.lsum_mem (List.mem_of_getElem? he)
    exact l_lineTold ((hat i q l hq he).ex e4) (by omega)
  · refine s_ret (ev_var rfl) fun H5 e5 => k d H5 (fresh_back x2 hd) (But.of ((x2.trans e4).trans e5)) ?_ (hT.ex ((x2.trans e4).trans e5))
    rw [e5 _ _ h4, List.length_map, hml]
    rfl
end
end Mk
set_option Elab.async false
set_option linter.all false
set_option maxRecDepth 100000
set_option maxHeartbeats 4000000
namespace Mk
open PySem PySem.Spec PyProof.Rows L2 C8 Evl
theorem vi_zs (b : Ml.Bytes) : vi (MA.iz b) = bs b := (bs_zs b).symm
theorem vi_get {l : List Int} {i : Nat} {z : Int} (h : l[i]? = some z) : (vi l)[i]? = some (.int z) := by
  unfold vi
  rw [List.getElem?_map, h]
  rfl
theorem vi_cut (l : List Int) (b e : Nat) : MA.cut (vi l) b e = vi (MA.cut l b e) := cut_map V.int l b e
theorem vi_len (l : List Int) : (vi l).length = l.length := List.length_map ..
section
variable {K : PySem.W.Frag} {σ : L2.St} {H : Hp} {ta tb te : TE} {tz : TS} {D : Ends}
theorem q_parLL {i j : Nat} {xs ys : List V} (h : EvL ta σ H xs) (h2 : EvL tb σ H ys) (k : ∀ p q H1, H p = none → H q = none → Ex H H1 → H1 p = some (.lst xs) → H1 q = some (.lst ys) → tz D ((σ.set i (some (.ref p))).set j (some (.ref q))) H1) : tSeq (tPar i j (tCons ta (tCons tb tNil))) tz D σ H :=
  h H (Evl.Ex.refl H) _ fun p H1 hp e1 h1 => h2 H1 e1 _ fun q H2 hq e2 hy => ⟨_, _, rfl, k p q H2 hp (fresh_back e1 hq) (e1.trans e2) (e2 _ _ h1) hy⟩
theorem s_parR {i j : Nat} {xs : List V} {v : V} (h : EvL ta σ H xs) (h2 : Ev tb σ H v) (k : ∀ p q H1, H p = none → H q = none → Ex H H1 → H1 p = some (.lst [.ref q]) → H1 q = some (.lst xs) → D.nx ((σ.set i (some (.ref p))).set j (some v)) H1) : tPar i j (tCons (tLst (tCons ta tNil)) (tCons tb tNil)) D σ H :=
  h H (Evl.Ex.refl H) _ fun q H1 hq e1 h1 => ⟨(by show 1 ≤ sizeLine; decide), fun p hp => h2 _ (e1.trans (Evl.Ex.new hp)) _ fun H2 e2 => ⟨_, _, rfl, k p q H2 (fresh_back e1 hp) hq ((e1.trans (Evl.Ex.new hp)).trans e2) (e2 _ _ upd_same) (e2 _ _ (Evl.Ex.new hp _ _ h1))⟩⟩
theorem q_appZ {l : Addr} {xs : List V} {v : V} (hl : H l = some (.lst xs)) (ha : Ev ta σ H (.ref l)) (h : Ev te σ H v) (hz : xs.length < sizeLine) (k : ∀ H1, Ex H H1 → tz D σ (upd H1 l (.lst (xs ++ [v])))) : tSeq (tDrop (tBM K "list" rAppend ta (tCons te tNil))) tz D σ H := s_appZ (D := { D with nx := tz D }) hl ha h hz k
theorem q_extV {l p : Addr} {xs ys : List V} (hl : H l = some (.lst xs)) (hp : H p = some (.lst ys)) (ha : Ev ta σ H (.ref l)) (h : Ev te σ H (.ref p)) (hz : xs.length + ys.length ≤ sizeLine) (k : ∀ H1, Ex H H1 → tz D σ (upd H1 l (.lst (xs ++ ys)))) : tSeq (tDrop (tBM K "list" rExtend ta (tCons te tNil))) tz D σ H := ha H (Evl.Ex.refl H) _ fun H1 e1 =>
  ⟨Or.inl ⟨rfl, xs, sq_of (e1 l _ hl)⟩, h H1 e1 _ fun H2 e2 => ⟨l, p, xs, ys, rfl, rfl, e2 _ _ (e1 _ _ hl), e2 _ _ (e1 _ _ hp), hz, k H2 (e1.trans e2)⟩⟩
end
theorem TextAt.updF {K : PySem.W.Frag} {F : Addr → Prop} {H : Hp} {tx d : Addr} {o : HO} {s : Mark.State} (h : TextAt K F H tx s) (hF : F d) (hn : tx ≠ d) : TextAt K F (upd H d o) tx s := by
  obtain ⟨dx, r, e, es, h1, h2, h3, h4, h5⟩ := h
  refine ⟨dx, r, e, es, by rw [upd_ne hn]; exact h1, ?_, ?_, h4, h5⟩
  · rw [out_upd hF]
    exact h2
  · rw [out_upd hF]
    exact h3
def NUMS : List V := [.int 0, .int 0, .int 0, .int 0, .int 1, .int 0, .int 0, .int 0]
def ROWSL : List V := [.int 0, .int 0, .int 1, .int 0, .int 0, .int 0, .int 1, .int 1]
def DEEDSL (K : PySem.W.Frag) : List V := [.ref (He.ga K "begin"), .ref (He.ga K "begin"), .ref (He.ga K "feed"), .ref (He.ga K "end"), .ref (He.ga K "event"), .ref (He.ga K "html"), .ref (He.ga K "every"), .ref (He.ga K "told_lines")]
def spAnswers (K : PySem.W.Frag) : Sp := fun vs H Q _ => ∃ a l, vs = [.ref a] ∧ SqL K H a (vi l) ∧ l.length ≤ 40000 ∧ PyWqagaf.answers_asked l = true ∧ ∀ p H', H' p = some (.lst (vi (PyWqagaf.answers l))) → Q (.ref p) H'
section
variable {P : Program} {w : World} {K : PySem.W.Frag} {mg : Str → Option Value} {base : Heap}
theorem held_of {x : Str} {f : Addr} {k j : Nat} {sp : Sp} (c : Cal P w K mg base k x sp []) (hm : mg x = some (.ref f)) (hj : k ≤ j) : HeldAt P w K mg base j f sp := by
  obtain ⟨g, fd, ps, ds, F, h1, h2, h3, h4⟩ := c.ex
  rw [hm] at h1
  cases h1
  cases h4
  exact ⟨fd, ps, F.mono hj, h2, h3⟩
theorem call_parts (T : Txt K mg) (c_begin : Cal P w K mg base 1 "begin" (spDeed K fun c => c = .begin_) []) (c_feed : Cal P w K mg base 1 "feed" (spDeed K fun c => ∃ t, c = .feed t) []) (c_end : Cal P w K mg base 12 "end" (spDeed K fun c => c = .end_) [])
    (c_event : Cal P w K mg base 3 "event" (spDeed K fun c => ∃ i, c = .event i) []) (c_html : Cal P w K mg base 5 "html" (spDeed K fun c => c = .html) []) (c_every : Cal P w K mg base 12 "every" (spDeed K fun c => ∃ t, c = .all t) [])
    (c_told_lines : Cal P w K mg base 5 "told_lines" (spDeed K fun c => ∃ t, c = .lines t) []) {p : Int} {r t : List Int} {mc : Mark.Call} (h : MA.Dec p r t mc) :
    ∃ (pn nn rr : Nat) (f : Addr) (C : Mark.Call → Prop), p = (pn : Int) ∧ NUMS[pn]? = some (.int (nn : Int)) ∧ ROWSL[pn]? = some (.int (rr : Int)) ∧ (DEEDSL K)[pn]? = some (.ref f) ∧ HeldAt P w K mg base 12 f (spDeed K C) ∧ C mc ∧
      ((rr = 0 ∧ r = r.take nn ++ t ∧ nn ≤ r.length ∧ ∀ H n rs, SqL K H n (vi (r.take nn)) → ArgsAt K H n rs mc) ∨ (rr = 1 ∧ nn = 0 ∧ ∃ b, MA.RowOf b r t ∧ ∀ H n rs a, SqL K H rs [.ref a] → SqL K H a (bs b) → ArgsAt K H n rs mc)) := by
  cases mc with
  | begin_ =>
    obtain ⟨rfl, rfl⟩ := h
    exact ⟨1, 0, 0, _, _, rfl, rfl, rfl, rfl, held_of c_begin T.g_begin (by decide), rfl, .inl ⟨rfl, rfl, Nat.zero_le _, fun _ _ _ _ => trivial⟩⟩
  | feed b =>
    obtain ⟨rfl, hr⟩ := h
    exact ⟨2, 0, 1, _, _, rfl, rfl, rfl, rfl, held_of c_feed T.g_feed (by decide), ⟨b, rfl⟩, .inr ⟨rfl, rfl, b, hr, fun _ _ _ a h1 h2 => ⟨a, h1, h2, hr.2⟩⟩⟩
  | end_ =>
    obtain ⟨rfl, rfl⟩ := h
    exact ⟨3, 0, 0, _, _, rfl, rfl, rfl, rfl, held_of c_end T.g_end (by decide), rfl, .inl ⟨rfl, rfl, Nat.zero_le _, fun _ _ _ _ => trivial⟩⟩
  | event i =>
    obtain ⟨rfl, rfl⟩ := h
    exact ⟨4, 1, 0, _, _, rfl, rfl, rfl, rfl, held_of c_event T.g_event (by decide), ⟨i, rfl⟩, .inl ⟨rfl, rfl, by show 1 ≤ t.length + 1; omega, fun _ _ _ h => h⟩⟩
  | html =>
    obtain ⟨rfl, rfl⟩ := h
    exact ⟨5, 0, 0, _, _, rfl, rfl, rfl, rfl, held_of c_html T.g_html (by decide), rfl, .inl ⟨rfl, rfl, Nat.zero_le _, fun _ _ _ _ => trivial⟩⟩
  | all b =>
    obtain ⟨rfl, hr⟩ := h
    exact ⟨6, 0, 1, _, _, rfl, rfl, rfl, rfl, held_of c_every T.g_every (by decide), ⟨b, rfl⟩, .inr ⟨rfl, rfl, b, hr, fun _ _ _ a h1 h2 => ⟨a, h1, h2, hr.2⟩⟩⟩
  | lines b =>
    obtain ⟨rfl, hr⟩ := h
    exact ⟨7, 0, 1, _, _, rfl, rfl, rfl, rfl, held_of c_told_lines T.g_told_lines (by decide), ⟨b, rfl⟩, .inr ⟨rfl, rfl, b, hr, fun _ _ _ a h1 h2 => ⟨a, h1, h2, hr.2⟩⟩⟩
theorem ok_answers (T : Txt K mg) (k_Text : Mak P w K mg base 1 "Text" (cText K) (spTextInit K) []) (c_begin : Cal P w K mg base 1 "begin" (spDeed K fun c => c = .begin_) []) (c_feed : Cal P w K mg base 1 "feed" (spDeed K fun c => ∃ t, c = .feed t) []) (c_end : Cal P w K mg base 12 "end" (spDeed K fun c => c = .end_) [])
    (c_event : Cal P w K mg base 3 "event" (spDeed K fun c => ∃ i, c = .event i) []) (c_html : Cal P w K mg base 5 "html" (spDeed K fun c => c = .html) []) (c_every : Cal P w K mg base 12 "every" (spDeed K fun c => ∃ t, c = .all t) [])
    (c_told_lines : Cal P w K mg base 5 "told_lines" (spDeed K fun c => ∃ t, c = .lines t) []) {f : Addr} {fd : FuncData} (FD : FunD K "answers" "answers" (defArgs s_answers) (defBody s_answers) (defScope s_answers) [] [] f fd) : FnOk P w K mg base C8.CX0 13 f fd ["calls"] (spAnswers K) := by
  refine fn_d FD sc_answers (fun vs H Q E h => ?_) fun cdv A outer s0 H vs Q E hr h => ?_
  · obtain ⟨a, l, rfl, _⟩ := h
    rfl
  obtain ⟨a, l, rfl, hS, hl, hask, k⟩ := h
  refine ⟨_, (pss_cons (ps_set (i := 1) sc_answers.nd rfl (Or.inl rfl) (pe_mk0 k_Text hr (by decide) rfl))
  (pss_cons (ps_set (i := 2) sc_answers.nd rfl (Or.inl rfl) (pe_lst pa_nil))
  (pss_cons (ps_set (i := 3) sc_answers.nd rfl (Or.inl rfl) pe_int)
  (pss_cons (ps_while PassesOwn.never (pt_cmpR op_lt (pv 3) (pe_callB call_lenS rfl T.b_len boot_len (pa_cons (pv 0) pa_nil)) (nomark _))
  (pss_cons (ps_set (i := 4) sc_answers.nd rfl (Or.inl rfl) (pe_ix ix_list (pv 0) (pv 3) (fun _ _ => rfl)))
  (pss_cons (ps_set (i := 5) sc_answers.nd rfl (Or.inl rfl) (pe_op op_add (pe_op op_add (pv 3) pe_int) (pe_ix ix_tup (pe_gc rfl (g_ref T.g_NUMBERS)) (pv 4) (fun _ _ => rfl))))
  (pss_cons (ps_par (i := 6) (j := 7) (by rfl) sc_answers.nd rfl rfl (by decide) rfl rfl (pa_cons (pe_slice sl_list (pv 0) (po_some (pe_op op_add (pv 3) pe_int)) (po_some (pv 5))) (pa_cons (pe_lst pa_nil) pa_nil)) (by rfl))
  (pss_cons (ps_if (pt_cmpR op_eq (pe_ix ix_tup (pe_gc rfl (g_ref T.g_ROWS)) (pv 4) (fun _ _ => rfl)) pe_int (nomark _))
  (pss_cons (ps_set (i := 8) sc_answers.nd rfl (Or.inl rfl) (pe_op op_add (pe_op op_add (pv 5) pe_int) (pe_ix ix_list (pv 0) (pv 5) (fun _ _ => rfl))))
  (pss_one (ps_par (i := 7) (j := 5) (by rfl) sc_answers.nd rfl rfl (by decide) rfl rfl (pa_cons (pe_lst (pa_cons (pe_slice sl_list (pv 0) (po_some (pe_op op_add (pv 5) pe_int)) (po_some (pv 8))) pa_nil)) (pa_cons (pv 8) pa_nil)) (by rfl))))
  pss_nil)
  (pss_cons (ps_set (i := 9) sc_answers.nd rfl (Or.inl rfl) (pe_ix ix_tup (pe_gc rfl (g_ref T.g_DEEDS)) (pv 4) (fun _ _ => rfl)))
  (pss_cons (ps_set (i := 10) sc_answers.nd rfl (Or.inl rfl) (pe_callH (i := 9) hr rfl (Or.inl rfl) (pa_cons (pv 1) (pa_cons (pv 6) (pa_cons (pv 7) pa_nil)))))
  (pss_cons (ps_expr (pe_bm PySem.F.plainAttrs_list PySem.F.slot_list_append PySem.F.type_list_append mt_append (pv 2) (pa_cons (pe_callB call_lenS rfl T.b_len boot_len (pa_cons (pv 10) pa_nil)) pa_nil)))
  (pss_cons (ps_expr (pe_bm PySem.F.plainAttrs_list PySem.F.slot_list_extend PySem.F.type_list_extend mt_extend (pv 2) (pa_cons (pv 10) pa_nil)))
  (pss_one (ps_set (i := 3) sc_answers.nd rfl (Or.inl rfl) (pv 5))))))))))))
  (pss_one (ps_ret (pv 2))))))), ?_⟩
  obtain ⟨hR0, hbig⟩ := MA.Rest.init hask
  have hsl : (16777216 : Nat) ≤ sizeLine := by decide
  intro tx dx0 nt nd ne
  refine ⟨tx, dx0, rfl, upd_same, fun r0 e0 H1 hr0 he0 g1 g2 g3 b1 => ⟨rfl, ?_⟩⟩
  have x1 : Ex H H1 := fun b o hb => b1 b o (by rw [upd_ne (ne_of_none hb nt), upd_ne (ne_of_none hb nd)]; exact hb) (ne_of_none hb nt)
  refine q_asgL (el_lst ea_nil (Nat.zero_le _)) fun d H2 hd1 x2 hd2 => ?_
  have htd : tx ≠ d := ne_of_none g1 hd1
  have hdn : H d = none := fresh_back x1 hd1
  refine q_asg ev_c fun H3 x3 => ?_
  have hT3 : TextAt K (fun b => b = tx ∨ b = d) H3 tx Mark.start := by
    have q1 : ∀ b o, H1 b = some o → b ≠ tx → out (fun b => b = tx ∨ b = d) H3 b = some o := fun b o hb hn => by
      rw [out_at fun z => z.elim hn (ne_of_none hb hd1)]
      exact x3 _ _ (x2 _ _ hb)
    exact ⟨dx0, r0, e0, [], x3 _ _ (x2 _ _ g1), q1 _ _ g2 (ne_of g2 g1 (by intro z; cases z)), EvsAt.nil (q1 _ _ g3 (ne_of g3 g1 (by intro z; cases z))), fun z => Bool.noConfusion z, Nat.zero_le _⟩
  refine q_while (fun m σ' H' => ∃ (i : Nat) (s : Mark.State) (o : List Int) (v4 v5 v6 v7 v8 v9 v10 : Option V), m = l.length - i ∧ i ≤ l.length ∧ σ' = [some (.ref a), some (.ref tx), some (.ref d), some (.int (i : Int)), v4, v5, v6, v7, v8, v9, v10] ∧ Ex H H' ∧ H' d = some (.lst (vi o)) ∧
    TextAt K (fun b => b = tx ∨ b = d) H' tx s ∧ MA.Rest l (l.drop i) o s) l.length ⟨0, Mark.start, [], none, none, none, none, none, none, none, rfl, Nat.zero_le _, rfl, (x1.trans x2).trans x3, x3 _ _ hd2, hT3, hR0⟩ ?_
  rintro m σ' H4 ⟨i, s, o, v4, v5, v6, v7, v8, v9, v10, rfl, hi, rfl, x4, hd4, hT4, hR⟩
  have hS4 := ex_l x4 hS
  refine ⟨decide (i < l.length), et_test (ev_lt (ev_var rfl) (ev_len (ev_var rfl) hS4) (decide_eq_decide.mpr (by rw [vi_len]; omega))), fun hb H5 x5 => ?_, fun hb H5 x5 => ?_⟩
  · have hlt := of_decide_eq_true hb
    have hg : l[i]? = some l[i] := List.getElem?_eq_getElem hlt
    generalize l[i] = p at hg
    have hdr : l.drop i = p :: l.drop (i + 1) := by
      obtain ⟨h1, h2⟩ := List.getElem?_eq_some_iff.mp hg
      rw [List.drop_eq_getElem_cons h1, h2]
    rw [hdr] at hR
    obtain ⟨t, mc, hdec, hR', hle⟩ := hR.step
    obtain ⟨pn, nn, rr, fa, C, rfl, hN, hRw, hD, hheld, hC, harg⟩ := call_parts (P := P) (w := w) (base := base) T c_begin c_feed c_end c_event c_html c_every c_told_lines hdec
    have x45 := x4.trans x5
    have hS5 := ex_l x45 hS
    refine ⟨fun σ2 H' => ∃ (j : Nat) (s : Mark.State) (o : List Int) (v4 v5 v6 v7 v8 v9 v10 : Option V), i < j ∧ j ≤ l.length ∧ σ2 = [some (.ref a), some (.ref tx), some (.ref d), some (.int (j : Int)), v4, v5, v6, v7, v8, v9, v10] ∧ Ex H H' ∧ H' d = some (.lst (vi o)) ∧
      TextAt K (fun b => b = tx ∨ b = d) H' tx s ∧ MA.Rest l (l.drop j) o s, fun σ2 H' ⟨j, s, o, u4, u5, u6, u7, u8, u9, u10, h1, h2, h3, h4, h5, h6, h7⟩ => ⟨l.length - j, by omega, j, s, o, u4, u5, u6, u7, u8, u9, u10, rfl, h2, h3, h4, h5, h6, h7⟩, ?_⟩
    refine q_asg (ev_ixL (i := i) (ev_var rfl) (ev_var rfl) hS5 rfl (vi_get hg)) fun H6 x6 => ?_
    refine q_asg (ev_add (ev_add (k := ((i + 1 : Nat) : Int)) (ev_var rfl) ev_c (by omega)) (ev_ixT (i := pn) ev_c (ev_var rfl) (T.t_NUMBERS _) rfl hN) (k := ((i + 1 + nn : Nat) : Int)) (by omega)) fun H7 x7 => ?_
    have x57 := x5.trans (x6.trans x7)
    have hS7 := ex_l (x4.trans x57) hS
    refine q_parLL (el_sl (ev_var rfl) (eo_some (ev_add (k := ((i + 1 : Nat) : Int)) (ev_var rfl) ev_c (by omega))) (eo_some (ev_var rfl)) hS7) (el_lst ea_nil (Nat.zero_le _)) fun nA rA H8 hnA hrA x8 hn8 hr8 => ?_
    rw [cutV_nat, vi_cut] at hn8
    have x58 := x57.trans x8
    have go : ∀ rt bk ct (j : Nat) (rB : Addr) (u5 u8 : Option V) (H9 : Hp), Ex H8 H9 → i < j → j ≤ l.length → l.drop j = t → ArgsAt K H9 nA rB mc → u5 = some (.int (j : Int)) →
        tSeq (tAsg (tOp (rIxT K) (tC (.ref (He.ga K "DEEDS"))) (tVar 4)) (gName 9)) (tSeq (tAsg (tCallH P w K mg base 12 9 (tCons (tVar 1) (tCons (tVar 6) (tCons (tVar 7) tNil)))) (gName 10)) (tSeq (tDrop (tBM K "list" rAppend (tVar 2) (tCons (tCB (rLenS K) (tCons (tVar 10) tNil)) tNil))) (tSeq (tDrop (tBM K "list" rExtend (tVar 2) (tCons (tVar 10) tNil))) (tAsg (tVar 5) (gName 3)))))
          { rt := rt, bk := bk, ct := ct, nx := fun σ2 H' => ∃ (j : Nat) (s : Mark.State) (o : List Int) (v4 v5 v6 v7 v8 v9 v10 : Option V), i < j ∧ j ≤ l.length ∧ σ2 = [some (.ref a), some (.ref tx), some (.ref d), some (.int (j : Int)), v4, v5, v6, v7, v8, v9, v10] ∧ Ex H H' ∧ H' d = some (.lst (vi o)) ∧ TextAt K (fun b => b = tx ∨ b = d) H' tx s ∧ MA.Rest l (l.drop j) o s } [some (.ref a), some (.ref tx), some (.ref d), some (.int (i : Int)), some (.int (pn : Int)), u5, some (.ref nA), some (.ref rB), u8, v9, v10] H9 := fun rt bk ct j rB u5 u8 H9 x9 hij hjl hdj hA hu5 => by
      subst hu5
      have x49 := x58.trans x9
      refine q_asg (ev_ixT (i := pn) ev_c (ev_var rfl) (T.t_DEEDS _) rfl hD) fun H10 x10 => ?_
      have xA := x49.trans x10
      have hTA := hT4.ex xA
      have hwin : Win (fun b => b = tx ∨ b = d) H10 := fun b hb z => by
        rcases z with rfl | rfl
        · exact hTA.not hb rfl
        · rw [xA _ _ hd4] at hb
          cases hb
      have hA10 : ArgsAt K H10 nA rB mc := by
        cases mc with
        | feed b => obtain ⟨a1, c1, c2, c3⟩ := hA; exact ⟨a1, ex_l x10 c1, ex_l x10 c2, c3⟩
        | all b => obtain ⟨a1, c1, c2, c3⟩ := hA; exact ⟨a1, ex_l x10 c1, ex_l x10 c2, c3⟩
        | lines b => obtain ⟨a1, c1, c2, c3⟩ := hA; exact ⟨a1, ex_l x10 c1, ex_l x10 c2, c3⟩
        | event q => exact ex_l x10 hA
        | begin_ => trivial
        | end_ => trivial
        | html => trivial
      refine ⟨fa, spDeed K C, rfl, hheld, _, rfl, _, rfl, _, rfl, fun b => b = tx ∨ b = d, tx, nA, rB, s, mc, hC, rfl, .inl rfl, hwin, hTA, hA10, fun q H11 hq b11 hq11 hT11 => ?_⟩
      generalize Mark.step s mc = st at hq11 hT11 hR' hle
      have hd11 : H11 d = some (.lst (vi o)) := b11 _ _ (xA _ _ hd4) (Ne.symm htd)
      have hex11 : Ex H H11 := fun b u hb => b11 b u ((x4.trans xA) _ _ hb) (ne_of_none hb nt)
      rw [List.length_append, List.length_cons] at hle
      have hqd : q ≠ d := Ne.symm (ne_of_none (xA _ _ hd4) hq)
      refine q_appZ hd11 (ev_var rfl) (ev_len (ev_var rfl) (sq_of hq11)) (by rw [vi_len]; omega) fun H12 x12 => ?_
      refine q_extV (ys := vi st.2) upd_same (by rw [upd_ne hqd]; exact x12 _ _ hq11) (ev_var rfl) (ev_var rfl) (by rw [List.length_append, vi_len, vi_len]; show o.length + 1 + st.2.length ≤ sizeLine; omega) fun H13 x13 => ?_
      refine s_asg (ev_var rfl) fun H14 x14 => ⟨j, st.1, _, _, _, _, _, _, _, _, hij, hjl, rfl, ?_, ?_, ?_, by rw [hdj]; exact hR'⟩
      · exact (Evl.Ex.mut ((Evl.Ex.mut (hex11.trans x12) hdn).trans x13) hdn).trans x14
      · rw [x14 _ _ upd_same, vi_app]
        rw [vi_len, List.append_assoc]
        rfl
      · exact (((((hT11.ex x12).updF (.inr rfl) htd).ex x13).updF (.inr rfl) htd).ex x14)
    rcases harg with ⟨rfl, hrt, hnl, harg⟩ | ⟨rfl, rfl, b, ⟨hrow, hbl⟩, harg⟩
    ·
      refine q_when (b := false) (et_test (ev_eqI (ev_ixT (i := pn) ev_c (ev_var rfl) (T.t_ROWS _) rfl hRw) ev_c rfl)) (fun z => Bool.noConfusion z) fun _ H9 x9 => ?_
      rw [List.length_drop] at hnl
      refine go _ _ _ (i + 1 + nn) rA _ _ H9 x9 (by omega) (by omega) ?_ (harg H9 nA rA (sq_of ?_)) rfl
      · have := congrArg (List.drop nn) hrt
        rw [List.drop_drop, List.drop_left' (by rw [List.length_take, List.length_drop]; omega)] at this
        exact this
      · have e1 : MA.cut l (i + 1) (i + 1 + nn) = (l.drop (i + 1)).take nn := by
          rw [MA.cut_eq]
          congr 1
          omega
        rw [← e1]
        exact x9 _ _ hn8
    ·
      have hlen := congrArg List.length hrow
      rw [List.length_drop, List.length_cons, List.length_append] at hlen
      have hil : (MA.iz b).length = b.length := List.length_map ..
      have hg1 : l[i + 1]? = some (b.length : Int) := by
        have := congrArg (fun x : List Int => x[0]?) hrow
        simpa [List.getElem?_drop] using this
      have hS8 := ex_l x8 hS7
      refine q_when (b := true) (et_test (ev_eqI (ev_ixT (i := pn) ev_c (ev_var rfl) (T.t_ROWS _) rfl hRw) ev_c rfl)) (fun _ H9 x9 => ?_) (fun z => Bool.noConfusion z)
      have hS9 := ex_l x9 hS8
      refine q_asg (ev_add (ev_add (k := ((i + 2 : Nat) : Int)) (ev_var rfl) ev_c (by omega)) (ev_ixL (i := i + 1) (ev_var rfl) (ev_var rfl) hS9 (by omega) (vi_get hg1)) (k := ((i + 2 + b.length : Nat) : Int)) (by omega)) fun H10 x10 => ?_
      have hS10 := ex_l x10 hS9
      refine s_parR (el_sl (ev_var rfl) (eo_some (ev_add (k := ((i + 2 : Nat) : Int)) (ev_var rfl) ev_c (by omega))) (eo_some (ev_var rfl)) hS10) (ev_var rfl) fun rB q H11 hrB hq x11 hr11 hq11 => ?_
      rw [cutV_nat, vi_cut] at hq11
      have hcut : MA.cut l (i + 2) (i + 2 + b.length) = MA.iz b := by
        have h2 := congrArg (List.drop 1) hrow
        rw [List.drop_drop] at h2
        have h3 : l.drop (i + 2) = MA.iz b ++ t := h2
        rw [MA.cut_eq, h3, show i + 2 + b.length - (i + 2) = b.length by omega, ← hil, List.take_left' rfl]
      rw [hcut, vi_zs] at hq11
      refine go _ _ _ (i + 2 + b.length) rB _ _ H11 ((x9.trans x10).trans x11) (by omega) (by omega) ?_ (harg H11 nA rB q (sq_of hr11) (sq_of hq11)) rfl
      have h2 := congrArg (List.drop (1 + b.length)) hrow
      rw [List.drop_drop] at h2
      have h3 : l.drop (i + 2 + b.length) = ((b.length : Int) :: (MA.iz b ++ t)).drop (1 + b.length) := by
        rw [← h2]
        congr 1
        omega
      rw [h3, Nat.add_comm 1, List.drop_succ_cons, ← hil, List.drop_left' rfl]
  · have hge : l.length ≤ i := by
      have := of_decide_eq_false hb
      omega
    rw [List.drop_eq_nil_of_le hge] at hR
    have he := hR.done
    exact s_ret (ev_var rfl) fun H6 x6 => k d H6 (by rw [he]; exact x6 _ _ (x5 _ _ hd4))
end
end Mk
set_option Elab.async false
set_option linter.all false
set_option maxRecDepth 100000
set_option maxHeartbeats 4000000
namespace Mk
open PySem PySem.Spec PyProof.Rows L2 C8 Evl
theorem fn_answers {P : Program} {w : World} {K : PySem.W.Frag} {mg : Str → Option Value} {base : Heap} (T : Txt K mg) {f : Addr} {fd : FuncData} (FD : FunD K "answers" "answers" (defArgs s_answers) (defBody s_answers) (defScope s_answers) [] [] f fd) :
    FnOk P w K mg base C8.CX0 13 f fd ["calls"] (spAnswers K) := by
  have is_blank := ok_is_blank (P := P) (w := w) (base := base) T
  have is_space := ok_is_space T is_blank
  have trimmed := ok_trimmed T is_blank
  have many := ok_many_ahead (P := P) (w := w) (base := base) T
  have eob := ok_ends_or_blank T is_blank
  have fence := ok_is_fence T many
  have ends_code := ok_ends_code T trimmed
  have line := ok_Line_init (P := P) (w := w) (base := base) T
  have line_of := ok_line_of T trimmed fence many eob line
  have lines_of := ok_lines_of T line_of
  have thing := ok_Thing_init (P := P) (w := w) (base := base) T
  have sign := ok_is_sign (P := P) (w := w) (base := base) T
  have byte_thing := ok_byte_thing T thing
  have nextb := ok_next_backquote (P := P) (w := w) (base := base) T
  have mark := ok_is_mark (P := P) (w := w) (base := base) T
  have plain := ok_is_plain (P := P) (w := w) (base := base) T
  have bracket := ok_is_bracket T mark
  have may := ok_may_be_in_address T is_space mark
  have space_thing := ok_is_space_thing T is_space
  have first := ok_first_things T sign byte_thing nextb thing
  have brackets := ok_brackets_ahead T bracket
  have addr := ok_address_end T may
  have link_at := ok_link_at T mark plain addr thing
  have linked := ok_linked T brackets mark link_at bracket byte_thing
  have ends := ok_ends_ahead T mark space_thing
  have emph := ok_emphasis_at T mark space_thing
  have running := ok_running_things T linked first
  have teller := ok_Teller_init (P := P) (w := w) (base := base) T
  have tell := ok_tell (P := P) (w := w) (base := base) T
  have tellb := ok_tell_bytes T tell
  have tp0 := ok_tell_plain0 T tell tellb
  have tt0 := ok_tell_things0 T tell ends emph tp0
  have tp1 := ok_tell_plain1 T tell tellb tt0
  have tt1 := ok_tell_things1 T tell ends emph tp1
  have run := ok_tell_running T running tt1
  have close := ok_close_items T tell
  have item := ok_tell_item T tell close run
  have code_end := ok_code_end T ends_code
  have plain_end := ok_plain_end (P := P) (w := w) (base := base) T
  have joined := ok_joined_texts (P := P) (w := w) (base := base) T
  have heading := ok_tell_heading T tell run
  have code := ok_tell_code T tell code_end
  have block := ok_tell_block T tell close code heading plain_end joined item run
  have events := ok_events_of T teller lines_of block close
  have bytes := ok_bytes_of (P := P) (w := w) (base := base) T
  have safe := ok_safe T bytes
  have page1 := ok_event_page T bytes safe
  have page := ok_page_of T page1
  have text := ok_Text_init (P := P) (w := w) (base := base) T
  have listed := ok_listed (P := P) (w := w) (base := base) T
  have told := ok_event_told T listed
  have line_told := ok_line_told T listed
  exact ok_answers T text (ok_begin T) (ok_feed T) (ok_end T events) (ok_event T told) (ok_html T page listed) (ok_every T events told) (ok_told_lines T lines_of line_told) FD
end Mk
set_option Elab.async false
set_option linter.all false
set_option maxRecDepth 100000
set_option maxHeartbeats 4000000
namespace Mk
open PySem PySem.Spec PyProof.Rows L2
section
variable {K : PySem.W.Frag} {h : Heap} {mg : Str → Option Value}
theorem int_fact {x : Str} {i : Int} (X : K.In h) (G : h.Ns mainGlobals mg) (c : (He.Fa.int x i).ok K = true) : ∃ u, mg x = some u ∧ RelV (.int i) u := by
  obtain ⟨t, e⟩ := He.int_ok X G c
  exact ⟨_, e, t, rfl⟩
theorem def_fact {x : Str} {st : Stmt} (X : K.In h) (G : h.Ns mainGlobals mg) (c : (He.Fa.glo x).ok K = true) (d : ∃ fd, FunD K x x (defArgs st) (defBody st) (defScope st) [] [] (He.ga K x) fd) : DefP K mg x st := by
  obtain ⟨fd, F⟩ := d
  exact ⟨_, fd, F, He.glo_ok X G c⟩
theorem txt_of (X : K.In h) (G : h.Ns mainGlobals mg) (S : SaysM fa fn exB K) : Txt K mg := by
  have c : He.SaysD fa fn K := congrArg Prod.fst S
  have ex : exB K = true := congrArg Prod.snd S
  have x0 : He.tupB K "NUMBERS" tv_NUMBERS = true := (Bool.and_eq_true_iff.mp ex).1
  have ex_1 : (He.tupB K "ROWS" tv_ROWS && (He.tupB K "DEEDS" tv_DEEDS && (dictB K "TAGS" kv_TAGS && (dictB K "WRITTEN" kv_WRITTEN)))) = true := (Bool.and_eq_true_iff.mp ex).2
  have x1 : He.tupB K "ROWS" tv_ROWS = true := (Bool.and_eq_true_iff.mp ex_1).1
  have ex_2 : (He.tupB K "DEEDS" tv_DEEDS && (dictB K "TAGS" kv_TAGS && (dictB K "WRITTEN" kv_WRITTEN))) = true := (Bool.and_eq_true_iff.mp ex_1).2
  have x2 : He.tupB K "DEEDS" tv_DEEDS = true := (Bool.and_eq_true_iff.mp ex_2).1
  have ex_3 : (dictB K "TAGS" kv_TAGS && (dictB K "WRITTEN" kv_WRITTEN)) = true := (Bool.and_eq_true_iff.mp ex_2).2
  have x3 : dictB K "TAGS" kv_TAGS = true := (Bool.and_eq_true_iff.mp ex_3).1
  have ex_4 : (dictB K "WRITTEN" kv_WRITTEN) = true := (Bool.and_eq_true_iff.mp ex_3).2
  have x4 : dictB K "WRITTEN" kv_WRITTEN = true := ex_4
  exact {
    k_TAB := int_fact X G (c.fact 52)
    k_LINE_END := int_fact X G (c.fact 53)
    k_RETURN := int_fact X G (c.fact 54)
    k_SPACE := int_fact X G (c.fact 55)
    k_HASH := int_fact X G (c.fact 56)
    k_HYPHEN := int_fact X G (c.fact 57)
    k_BACKQUOTE := int_fact X G (c.fact 58)
    k_MOST_LEVEL := int_fact X G (c.fact 59)
    k_BLANK := int_fact X G (c.fact 60)
    k_FENCE := int_fact X G (c.fact 61)
    k_HEADING := int_fact X G (c.fact 62)
    k_ITEM := int_fact X G (c.fact 63)
    k_PLAIN_lines := int_fact X G (c.fact 64)
    k_STAR := int_fact X G (c.fact 65)
    k_OPEN := int_fact X G (c.fact 66)
    k_SHUT := int_fact X G (c.fact 67)
    k_OPENING := int_fact X G (c.fact 68)
    k_BACKSLASH := int_fact X G (c.fact 69)
    k_CLOSING := int_fact X G (c.fact 70)
    k_PLAIN_things := int_fact X G (c.fact 71)
    k_SIGN := int_fact X G (c.fact 72)
    k_CODE := int_fact X G (c.fact 73)
    k_MARK := int_fact X G (c.fact 74)
    k_LINK := int_fact X G (c.fact 75)
    k_TEXT := int_fact X G (c.fact 76)
    k_SPAN := int_fact X G (c.fact 77)
    k_PARAGRAPH := int_fact X G (c.fact 78)
    k_PARAGRAPH_END := int_fact X G (c.fact 79)
    k_HEAD := int_fact X G (c.fact 80)
    k_HEAD_END := int_fact X G (c.fact 81)
    k_ROW := int_fact X G (c.fact 82)
    k_ROW_END := int_fact X G (c.fact 83)
    k_POINT := int_fact X G (c.fact 84)
    k_POINT_END := int_fact X G (c.fact 85)
    k_BLOCK := int_fact X G (c.fact 86)
    k_BLOCK_LINE := int_fact X G (c.fact 87)
    k_BLOCK_END := int_fact X G (c.fact 88)
    k_STRESS := int_fact X G (c.fact 89)
    k_STRESS_END := int_fact X G (c.fact 90)
    k_ANCHOR := int_fact X G (c.fact 91)
    k_ANCHOR_END := int_fact X G (c.fact 92)
    k_TOO_LONG := int_fact X G (c.fact 93)
    k_HAS_ENDED := int_fact X G (c.fact 94)
    k_NOT_THERE := int_fact X G (c.fact 95)
    k_MOST_TEXT := int_fact X G (c.fact 96)
    k_MOST_ALONE := int_fact X G (c.fact 97)
    b_len := He.free_ok X G (c.fact 98)
    b_list := He.free_ok X G (c.fact 99)
    b_range := He.free_ok X G (c.fact 100)
    b_ord := He.free_ok X G (c.fact 101)
    b_str := He.free_ok X G (c.fact 102)
    g_NUMBERS := He.glo_ok X G (c.fact 103)
    g_ROWS := He.glo_ok X G (c.fact 104)
    g_DEEDS := He.glo_ok X G (c.fact 105)
    g_TAGS := He.glo_ok X G (c.fact 106)
    g_WRITTEN := He.glo_ok X G (c.fact 107)
    t_NUMBERS := fun H => He.tupB_ok x0 H
    t_ROWS := fun H => He.tupB_ok x1 H
    t_DEEDS := fun H => He.tupB_ok x2 H
    g_begin := He.glo_ok X G (c.fact 42)
    g_feed := He.glo_ok X G (c.fact 43)
    g_end := He.glo_ok X G (c.fact 44)
    g_event := He.glo_ok X G (c.fact 46)
    g_html := He.glo_ok X G (c.fact 47)
    g_every := He.glo_ok X G (c.fact 48)
    g_told_lines := He.glo_ok X G (c.fact 50)
    i_TAGS := dictB_ok x3
    i_WRITTEN := dictB_ok x4
    g_Line := He.glo_ok X G (c.fact 108)
    cl_Line := He.cls_ok (c.fact 109)
    mk_Line := He.mkr_ok (c.fact 110)
    n_Line_row := He.noat_ok (c.fact 111)
    n_Line_kind := He.noat_ok (c.fact 112)
    n_Line_number := He.noat_ok (c.fact 113)
    n_Line_text := He.noat_ok (c.fact 114)
    g_Thing := He.glo_ok X G (c.fact 115)
    cl_Thing := He.cls_ok (c.fact 116)
    mk_Thing := He.mkr_ok (c.fact 117)
    n_Thing_form := He.noat_ok (c.fact 118)
    n_Thing_byte := He.noat_ok (c.fact 119)
    n_Thing_inner := He.noat_ok (c.fact 120)
    n_Thing_address := He.noat_ok (c.fact 121)
    g_Teller := He.glo_ok X G (c.fact 122)
    cl_Teller := He.cls_ok (c.fact 123)
    mk_Teller := He.mkr_ok (c.fact 124)
    n_Teller_events := He.noat_ok (c.fact 125)
    n_Teller_depth := He.noat_ok (c.fact 126)
    g_Text := He.glo_ok X G (c.fact 127)
    cl_Text := He.cls_ok (c.fact 128)
    mk_Text := He.mkr_ok (c.fact 129)
    n_Text_row := He.noat_ok (c.fact 130)
    n_Text_has_ended := He.noat_ok (c.fact 131)
    n_Text_events := He.noat_ok (c.fact 132)
    d_Line_init := c.def_ 0
    d_is_blank := def_fact X G (c.fact 0) (c.def_ 1)
    d_is_space := def_fact X G (c.fact 1) (c.def_ 2)
    d_trimmed := def_fact X G (c.fact 2) (c.def_ 3)
    d_many_ahead := def_fact X G (c.fact 3) (c.def_ 4)
    d_ends_or_blank := def_fact X G (c.fact 4) (c.def_ 5)
    d_is_fence := def_fact X G (c.fact 5) (c.def_ 6)
    d_ends_code := def_fact X G (c.fact 6) (c.def_ 7)
    d_line_of := def_fact X G (c.fact 7) (c.def_ 8)
    d_lines_of := def_fact X G (c.fact 8) (c.def_ 9)
    d_Thing_init := c.def_ 10
    d_is_sign := def_fact X G (c.fact 9) (c.def_ 11)
    d_byte_thing := def_fact X G (c.fact 10) (c.def_ 12)
    d_next_backquote := def_fact X G (c.fact 11) (c.def_ 13)
    d_first_things := def_fact X G (c.fact 12) (c.def_ 14)
    d_is_mark := def_fact X G (c.fact 13) (c.def_ 15)
    d_is_plain := def_fact X G (c.fact 14) (c.def_ 16)
    d_is_bracket := def_fact X G (c.fact 15) (c.def_ 17)
    d_brackets_ahead := def_fact X G (c.fact 16) (c.def_ 18)
    d_may_be_in_address := def_fact X G (c.fact 17) (c.def_ 19)
    d_address_end := def_fact X G (c.fact 18) (c.def_ 20)
    d_link_at := def_fact X G (c.fact 19) (c.def_ 21)
    d_linked := def_fact X G (c.fact 20) (c.def_ 22)
    d_is_space_thing := def_fact X G (c.fact 21) (c.def_ 23)
    d_ends_ahead := def_fact X G (c.fact 22) (c.def_ 24)
    d_emphasis_at := def_fact X G (c.fact 23) (c.def_ 25)
    d_running_things := def_fact X G (c.fact 24) (c.def_ 26)
    d_Teller_init := c.def_ 27
    d_Teller_tell := c.def_ 28
    m_tell := He.meth_ok (c.fact 133)
    d_Teller_tell_bytes := c.def_ 29
    m_tell_bytes := He.meth_ok (c.fact 134)
    d_tell_plain := def_fact X G (c.fact 25) (c.def_ 30)
    d_tell_things := def_fact X G (c.fact 26) (c.def_ 31)
    d_tell_running := def_fact X G (c.fact 27) (c.def_ 32)
    d_close_items := def_fact X G (c.fact 28) (c.def_ 33)
    d_tell_item := def_fact X G (c.fact 29) (c.def_ 34)
    d_code_end := def_fact X G (c.fact 30) (c.def_ 35)
    d_tell_code := def_fact X G (c.fact 31) (c.def_ 36)
    d_plain_end := def_fact X G (c.fact 32) (c.def_ 37)
    d_joined_texts := def_fact X G (c.fact 33) (c.def_ 38)
    d_tell_heading := def_fact X G (c.fact 34) (c.def_ 39)
    d_tell_block := def_fact X G (c.fact 35) (c.def_ 40)
    d_events_of := def_fact X G (c.fact 36) (c.def_ 41)
    d_bytes_of := def_fact X G (c.fact 37) (c.def_ 42)
    d_safe := def_fact X G (c.fact 38) (c.def_ 43)
    d_event_page := def_fact X G (c.fact 39) (c.def_ 44)
    d_page_of := def_fact X G (c.fact 40) (c.def_ 45)
    d_Text_init := c.def_ 46
    d_listed := def_fact X G (c.fact 41) (c.def_ 47)
    d_begin := def_fact X G (c.fact 42) (c.def_ 48)
    d_feed := def_fact X G (c.fact 43) (c.def_ 49)
    d_end := def_fact X G (c.fact 44) (c.def_ 50)
    d_event_told := def_fact X G (c.fact 45) (c.def_ 51)
    d_event := def_fact X G (c.fact 46) (c.def_ 52)
    d_html := def_fact X G (c.fact 47) (c.def_ 53)
    d_every := def_fact X G (c.fact 48) (c.def_ 54)
    d_line_told := def_fact X G (c.fact 49) (c.def_ 55)
    d_told_lines := def_fact X G (c.fact 50) (c.def_ 56)
    d_answers := def_fact X G (c.fact 51) (c.def_ 57)
  }
end
end Mk
set_option Elab.async false
set_option linter.all false
set_option maxRecDepth 100000
set_option maxHeartbeats 0
namespace Mk
open PySem PySem.Spec PyProof.Rows L2
open PySem.W (Codec)
theorem said : R.wellSaid = true := by decide +kernel
def dA : DefRec := HandSHeadRun.topDef R.prog 111
theorem asks {K : PySem.W.Frag} {H : Hp} {xs : List V} (a : Codec.denoteAll R.args) (hwi : Codec.withinAll R.args a = true) (hask : Codec.app R.args R.asked a = true) (hx : L2.DwAll K H xs (Codec.encAll R.args a)) :
    spAnswers K xs H (fun v H' => L2.Dw K H' v (R.ret.enc (Codec.app R.args R.f a))) (fun _ _ _ => False) := by
  cases hx with
  | cons h1 h2 =>
    cases h2
    cases h1 with
    | lst hs ha =>
      have e := L2.ints_dw a.1 _ ha
      subst e
      have q : ((Codec.inLen 0 31000 a.1 && a.1.all (Codec.inInt 0 4294967295)) && true) = true := hwi
      rw [Bool.and_eq_true, Bool.and_eq_true] at q
      exact ⟨_, a.1, rfl, hs, Nat.le_trans (Codec.inNat_iff.mp q.1.1).2 (by decide), hask, fun p H' hp => .lst (L2.SqL.of hp) (L2.dw_ints _)⟩
theorem walk_all : PySem.W.WalkOS qv names (PySem.W.XL qv []) hk.says R dA [] (fun f vs => PySem.call f vs) := by
  intro w s0 s1 mg mb G Y
  obtain ⟨K, hK, hS⟩ := Y
  refine L2.walk_specK (r := R) (k := 13) (K := fun _ => K) (CX := C8.CX0) (ps := ["calls"]) (sp := spAnswers) (XP := PySem.W.XL qv []) (YP := fun _ h => K.In h ∧ SaysM fa fn exB K)
    said rfl rfl ⟨rfl, by decide, by decide⟩ (fun _ _ z => z.1) (fun w mg fa h z KX G hmg => ?_) (fun K H xs a _ h1 h2 h3 => asks a h1 h2 h3) (fun _ _ _ _ z => z) w s0 s1 mg mb G ⟨hK, hS⟩
  have T := txt_of KX G z.2
  obtain ⟨f, fd, F, g⟩ := T.d_answers
  have e : f = fa := by
    have := g.symm.trans hmg
    cases this
    rfl
  subst e
  exact ⟨fd, fun s us hu => F.bindsA bi_answers s us hu, fun base _ _ => fn_answers T F⟩
end Mk
open PySem PySem.W PySem.Calls PyProof.Rows
theorem PySem.Challenge.cw_marklite_s01_answers_holds : PySem.Challenge.rw_marklite_s01_answers.Holds := by
  refine HandSHeadRun.head_spec (r := PySem.Challenge.rw_marklite_s01_answers) (q := Mk.qv) (H := Mk.hk) (ob := Mk.ob) (M := 4000) (loose := Mk.names) (d := Mk.dA) (kwd := []) Mk.ob_eq ?he ?hf Mk.run ?hdef ?hp ?hk os_shapes Mk.said ?hok ?hb ?hw Mk.walk_all
  case he => kernel_rfl
  case hf => exact fun s => by kernel_rfl
  case hdef => rfl
  case hp => rfl
  case hk => rfl
  case hok => decide +kernel
  case hb => exact ⟨rfl, rfl, rfl, rfl, rfl, by decide +kernel⟩
  case hw => exact ⟨[.list [.int 1]], by decide +kernel, by decide +kernel⟩
#print axioms PySem.Challenge.cw_marklite_s01_answers_holds
